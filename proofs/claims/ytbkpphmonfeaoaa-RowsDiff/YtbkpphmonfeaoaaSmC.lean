/- A machine on typed values, whose runs are trees, and the proof that what they tell the abstract machine computes: part 3. -/
import Derived.Test.YtbkpphmonfeaoaaAmB
import Derived.Below
namespace Go.Am
open Go.RowKit
theorem closed_walk {P : Program} {f : FuncId} {b : Bool} (h : PureOk P f [] (.bl b)) (W : World) :
    Calls P f #[] W fun e W' => e = .returned (.bool b) ∧ Below W.heap.size W W' := by
  refine (h (fun _ => False) W #[] (fun _ h => h.elim) .nil).mono fun e W' he => ?_
  cases e with
  | returned v =>
    obtain ⟨I', h1, h2, h3, h4, h5, h6, h7, h8, _⟩ := he
    obtain ⟨Mn, _, _, _, hr⟩ := h8 0
    have hr' : Rp I' Mn W' (.bl b) v := hr
    cases hr'
    exact ⟨rfl, h1, h2, h3, h4, h5⟩
  | panicked c => exact he.elim
  | outgrown => exact he.elim
def find : List (Nat × CF) → Nat → Option CF
  | [], _ => none
  | (k, c) :: l, n => if k = n then some c else find l n
def Tied (P : Program) : List (Nat × CF) → Prop
  | [] => True
  | (k, c) :: l => (∃ fn live, P.funcs[k]? = some fn ∧ compF P live fn = some c) ∧ Tied P l
theorem tied_find {P : Program} : ∀ {l : List (Nat × CF)} {n : Nat} {c : CF}, Tied P l → find l n = some c → ∃ fn live, P.funcs[n]? = some fn ∧ compF P live fn = some c
  | [], _, _, _, h => by simp [find] at h
  | (k, c0) :: l, n, c, ht, h => by
    simp only [find] at h
    split at h
    · rename_i hk; subst hk; injection h with h; subst h; exact ht.1
    · exact tied_find ht.2 h
theorem cfgOk_of {P : Program} {g : Cfg} {l : List (Nat × CF)} (ht : Tied P l) (hc : g.code = find l) (he : g.ext = fun _ _ => none) (hw : g.wr = fun _ _ _ _ => none := by rfl) : CfgOk P g :=
  ⟨fun f c h => tied_find ht (by rw [← hc]; exact h), fun f as r h => by rw [he] at h; simp at h, fun f as h nx e h1 => by rw [hw] at h1; simp at h1⟩
theorem evalP_both {P : Program} {g : Cfg} (hm : P.follows .mixedOrders = true) (hg : CfgOk P g) {k : Nat} {f : FuncId} {as : List AV} {r : AV} (h : evalP g k f as = some r) : Ent P f ∧ PureOk P f as r :=
  callP_ok hg (evalC_ok hm hg k) h
def told (l : List Nat) : FuncId → List AV → Option AV := fun f as => match as with
  | [] => if l.contains f then some (.bl true) else none
  | _ => none
theorem cfgOk_told {P : Program} {g : Cfg} {l : List (Nat × CF)} {fs : List Nat} (ht : Tied P l) (hc : g.code = find l) (he : g.ext = told fs) (hf : ∀ f ∈ fs, Ent P f ∧ PureOk P f [] (.bl true)) (hw : g.wr = fun _ _ _ _ => none := by rfl) : CfgOk P g :=
  ⟨fun f c h => tied_find ht (by rw [← hc]; exact h), fun f as r h => by
    rw [he] at h
    cases as with
    | cons a as => simp [told] at h
    | nil =>
      simp only [told, Option.ite_none_right_eq_some, Option.some.injEq] at h
      obtain ⟨hm, rfl⟩ := h
      exact hf f (by simpa using hm), fun f as h nx e h1 => by rw [hw] at h1; simp at h1⟩
def atN (l : List (List Nat)) (n : Nat) : List Nat := l.getD n []
end Go.Am
set_option linter.constructorNameAsVariable false
set_option linter.unusedVariables false
namespace Go.Am


inductive Sh where
  | i (k : IntKind)
  | b
  | s
  | row (e : Sh)
  | nil
  | cons (a b : Sh)
  deriving DecidableEq, Inhabited

@[reducible] def Den : Sh → Type
  | .i _ => Int
  | .b => Bool
  | .s => ByteArray
  | .row e => List (Den e)
  | .nil => Unit
  | .cons a b => Den a × Den b
def Sh.sz : Sh → Nat
  | .nil => 0
  | .cons x y => x.sz + y.sz
  | _ => 1
def dft : (s : Sh) → Den s
  | .i _ => (0 : Int)
  | .b => false
  | .s => ByteArray.empty
  | .row _ => []
  | .nil => ()
  | .cons a b => (dft a, dft b)

inductive SV where
  | a (v : AV)
  | ls (s : Sh) (ts : List (Den s))
  | ri (s : Sh) (ts : List (Den s)) (i off : Nat)
  | ow (s : Sh) (ts : List (Den s))
  | ag (cs : List SV)
  | tp (vs : List SV)
  | nz
  | uk

def encS : (s : Sh) → Den s → List SV
  | .i k, n => [.a (.int k n)]
  | .b, b => [.a (.bl b)]
  | .s, s => [.a (.st s)]
  | .row e, ts => [.ls e ts]
  | .nil, _ => []
  | .cons a b, x => encS a x.1 ++ encS b x.2

def decS : (s : Sh) → List SV → Option (Den s × List SV)
  | .i k, cs => match cs with
    | .a (.int k' n) :: cs => if k' = k then some (n, cs) else none
    | _ => none
  | .b, cs => match cs with
    | .a (.bl b) :: cs => some (b, cs)
    | _ => none
  | .s, cs => match cs with
    | .a (.st s) :: cs => some (s, cs)
    | _ => none
  | .row e, cs => match cs with
    | .ls e' ts :: cs => if h : e' = e then some (h ▸ ts, cs) else none
    | .a .ns :: cs => some ([], cs)
    | .a .ez :: cs => some ([], cs)
    | .nz :: cs => some ([], cs)
    | _ => none
  | .nil, cs => some ((), cs)
  | .cons a b, cs => (decS a cs).bind fun p => (decS b p.2).bind fun q => some ((p.1, q.1), q.2)
def decAll (s : Sh) (cs : List SV) : Option (Den s) := (decS s cs).bind fun p => match p.2 with
  | [] => some p.1
  | _ => none

inductive SB where
  | vr (sz : Nat) (cs : List SV) (t : TypeId)
  | row (s : Sh) (ts : List (Den s)) (t : TypeId)
  | ar (s : Sh) (ts : List (Den s)) (t : TypeId)
  | mi (k : IntKind) (g : Bool) (s : Sh) (es : List (Int × Den s))
  | ms (g : Bool) (s : Sh) (es : List (ByteArray × Den s))
  | ml (es : List (AV × AV))
  | dd

abbrev SM := List (Nat × SV)
abbrev SHp := List (Nat × SB)

structure SS where
  tm : SM
  h : SHp
  nx : Nat
  bs : Nat

structure Nodes (ρ : Type) where
  br : Bool → Option ρ → Option ρ → Option ρ
  cl : {Y : Type} → Option Y → (Y → Option ρ) → Option ρ
  uk : List Nat → CC → SS → Option ρ
  sm : {A B : Type} → A ⊕ B → (A → Option ρ) → (B → Option ρ) → Option ρ
  sp : Int → Option ρ → (Nat → Option ρ) → Option ρ

def sp2 {ρ : Type} (n : Int) (a : Option ρ) (b : Nat → Option ρ) : Option ρ := match n with
  | .ofNat 0 => a
  | .ofNat (j + 1) => b j
  | .negSucc _ => none
def realN (ρ : Type) : Nodes ρ := { br := fun b x y => bif b then x else y, cl := fun o k => o.bind k, uk := fun _ _ _ => none, sm := fun x f g => match x with | .inl a => f a | .inr b => g b, sp := sp2 }

def mark0 : Nat := 1000000
def skey : Nat := 999999
def lookS : SM → Nat → SV
  | [], _ => .a .ud
  | (k, v) :: l, n => if k = n then v else if k = skey then .uk else lookS l n
def isUk : SV → Bool
  | .uk => true
  | _ => false
def blkS : SHp → Nat → SB
  | [], _ => .dd
  | (k, v) :: l, n => if k = n then v else blkS l n
def isCell : AV → Bool
  | .ag _ | .tp _ | .ow .. => false
  | _ => true
def zS (z : List AV) : Option (List SV) := if z.all isCell then some (z.map .a) else none
def ofAV : AV → SV
  | .ag cs => match zS cs with
    | some l => .ag l
    | none => .uk
  | .tp _ | .ow .. => .uk
  | v => .a v
def rdS (tm : SM) : Opd → SV
  | .t n => lookS tm n
  | .c v => ofAV v

def refsC : SV → List Nat
  | .a v => refs v
  | _ => []
def refsW : SV → List Nat
  | .ag cs => cs.flatMap refsC
  | v => refsC v
def refsS : SV → List Nat
  | .tp vs => vs.flatMap refsW
  | v => refsW v

def boneC : SV → AV
  | .a v => v
  | _ => .ns
def boneB : SB → BK
  | .vr sz cs t => .rw true sz [cs.map boneC] t
  | .row _ _ t => .rw false 0 [] t
  | .ar _ _ t => .rw true 0 [] t
  | .mi .. | .ms .. | .ml .. => .mp []
  | .dd => .dd
def bone (h : SHp) : List (Nat × BK) := h.map fun p => (p.1, boneB p.2)

def putS : SHp → Nat → SB → SHp
  | [], n, v => [(n, v)]
  | (k, w) :: l, n, v => if k = n then (n, v) :: l else (k, w) :: putS l n v
def killS : SHp → List Nat → SHp
  | h, [] => h
  | h, b :: bs => putS (killS h bs) b .dd
def aliveS (h : SHp) (b : Nat) : Bool := match blkS h b with
  | .dd => false
  | _ => true

def cellsOfS : SV → Option (List SV)
  | .ag cs => some cs
  | .tp _ | .uk => none
  | .a v => match v with
    | .ag _ | .tp _ | .ud | .ow .. => none
    | _ => some [.a v]
  | .ow .. => none
  | v => some [v]
def isUdS : SV → Bool
  | .a .ud => true
  | _ => false
def spliceS (cs new : List SV) (off : Nat) : List SV := cs.take off ++ new ++ cs.drop (off + new.length)
def putPartsS (z : List SV) (tm : SM) : List (Nat × Nat × Opd) → Option (List SV)
  | [] => some z
  | (off, n, x) :: ps => match cellsOfS (rdS tm x) with
    | some cs => if cs.length = n ∧ off + n ≤ z.length then putPartsS (spliceS z cs off) tm ps else none
    | none => none
def valOfS (cs : List SV) (n : Option Nat) : Option SV :=
  match n with
  | some _ => some (.ag cs)
  | none => match cs with
    | [v] => some v
    | _ => none
def lrCS (p : Nat → Bool) (r : Nat → Nat) : SV → SV
  | .a v => .a (lrC p r v)
  | .ow .. => .a .ud
  | v => v
def lrWS (p : Nat → Bool) (r : Nat → Nat) : SV → SV
  | .ag cs => .ag (cs.map (lrCS p r))
  | v => lrCS p r v
def lrVS (p : Nat → Bool) (r : Nat → Nat) : SV → SV
  | .tp vs => .tp (vs.map (lrWS p r))
  | v => lrWS p r v
def lrBS (p : Nat → Bool) (r : Nat → Nat) : SB → SB
  | .vr sz cs t => .vr sz (cs.map (lrCS p r)) t
  | b => b
def numS (f : Nat → SB) : Nat → List Nat → SHp
  | _, [] => []
  | n, b :: l => (n, f b) :: numS f (n + 1) l
def canonS (live : List Nat) (S : SS) : SS :=
  let old := S.h.filter fun p => p.1 < S.bs
  let m := reach (bone S.h) S.bs 4096 (live.flatMap (fun t => refsS (lookS S.tm t)) ++ (bone old).flatMap fun p => refsB p.2) []
  let p : Nat → Bool := fun b => decide (b < S.bs) || m.contains b
  let r : Nat → Nat := fun b => if b < S.bs then b else idxOf m b S.bs
  { tm := live.map fun t => (t, if mark0 ≤ t then .a .ud else lrVS p r (lookS S.tm t)), h := old.map (fun q => (q.1, lrBS p r q.2)) ++ numS (fun b => lrBS p r (blkS S.h b)) S.bs m, nx := S.bs + m.length, bs := S.bs }
def lotHS (h : SHp) (U A : List Nat) : SHp := A.map fun b => (b, lrBS (U.contains ·) id (blkS h b))
def lotTS (tm : SM) (U : List Nat) (ts : List Nat) : SM := ts.map fun t => (t, lrVS (U.contains ·) id (lookS tm t))
def overS (h : SHp) (f : Nat → SB) : List Nat → SHp
  | [] => h
  | b :: l => putS (overS h f l) b (f b)

structure Hint where
  sh : TypeId → Option Sh
  arr : TypeId → Option Sh
  mp : TypeId → Option (Option IntKind × Bool × Sh)
  sp : List (FuncId × List Nat)
  kl : List FuncId
  pr : List (FuncId × Nat × Bool)
  pf : List FuncId

def decs (s : Sh) : List (List SV) → Option (List (Den s))
  | [] => some []
  | c :: l => (decAll s c).bind fun x => (decs s l).map (x :: ·)
def natL : Nat → List Nat
  | 0 => []
  | n + 1 => natL n ++ [n]

section
variable {ρ : Type} (N : Nodes ρ) (H : Hint)

abbrev KV (ρ : Type) := SM → SV → SHp → Nat → Option ρ

def snapCS (h : SHp) (v : SV) (k : SV → Option ρ) : Option ρ :=
  match v with
  | .a w => match w with
    | .sl sz b lo len => match blkS h b with
      | .row s ts _ => if sz = s.sz then N.br (decide (lo + len ≤ ts.length)) (k (.ls s ((ts.drop lo).take len))) none else none
      | _ => none
    | .re .. | .mp _ | .ag _ | .tp _ | .ud | .ow .. | .fn .. => none
    | w => k (.a w)
  | .ls s ts => k (.ls s ts)
  | .ri s ts i off => k (.ri s ts i off)
  | .nz => k .nz
  | _ => none
def snapLS (f : SV → (SV → Option ρ) → Option ρ) : List SV → (List SV → Option ρ) → Option ρ
  | [], k => k []
  | c :: cs, k => f c fun a => snapLS f cs fun l => k (a :: l)
def snapVS (h : SHp) (v : SV) (k : SV → Option ρ) : Option ρ :=
  match v with
  | .ag cs => snapLS (snapCS N h) cs fun l => k (.ag l)
  | v => snapCS N h v k

def cellsAtS (h : SHp) (n : Nat) (a : SV) (k : List SV → Option ρ) : Option ρ :=
  match a with
  | .a (.re sz b i off) => match blkS h b with
    | .vr sz' cs _ => if sz = sz' ∧ i = 0 ∧ off + n ≤ cs.length then k ((cs.drop off).take n) else none
    | .row s ts _ => if sz = s.sz ∧ off + n ≤ s.sz then N.br (decide (i < ts.length)) (k (((encS s (ts.getD i (dft s))).drop off).take n)) none else none
    | .ar s ts _ => if n = 1 ∧ s.sz = 1 ∧ i = 0 then N.br (decide (off < ts.length) && decide (sz = ts.length)) (k (encS s (ts.getD off (dft s)))) none else none
    | _ => none
  | .ri s ts i off => if off + n ≤ s.sz then N.br (decide (i < ts.length)) (k (((encS s (ts.getD i (dft s))).drop off).take n)) none else none
  | _ => none

def intOf : SV → Option Int
  | .a (.int _ n) => some n
  | _ => none

def within (lo n hi : Int) : Bool := decide (lo ≤ n) && decide (n ≤ hi)
def withBound (lo hi : Int) (x : SV) (k : Nat → Option ρ) : Option ρ :=
  match intOf x with
  | some n => N.br (within lo n hi) (k n.toNat) none
  | none => none
def pickN (n : Int) (k : Nat → Option ρ) : Nat → Nat → Option ρ
  | _, 0 => none
  | j, m + 1 => N.br (decide (n = j)) (k j) (pickN n k (j + 1) m)
def withPick (len : Nat) (x : SV) (k : Nat → Option ρ) : Option ρ :=
  match intOf x with
  | some n => pickN N n k 0 len
  | none => none
def hasFn : SB → Bool
  | .vr _ cs _ => cs.any fun c => match c with
    | .a (.fn ..) => true
    | _ => false
  | _ => false
def optB (d : Nat) (tm : SM) (lo hi : Nat) (o : Option Opd) (k : Nat → Option ρ) : Option ρ :=
  match o with
  | none => k d
  | some x => withBound N lo hi (rdS tm x) k

def eqB : Nat → SV → SV → Option Bool
  | 1, .a (.int k a), .a (.int k' b) => if k = k' then some (a == b) else none
  | 0, .a (.bl a), .a (.bl b) => some (a == b)
  | 2, .a (.st a), .a (.st b) => some (a.toList == b.toList)
  | _, _, _ => none
def eqBs : List Nat → List SV → List SV → Option Bool
  | [], [], [] => some true
  | k :: ks, x :: xs, y :: ys => (eqB k x y).bind fun p => (eqBs ks xs ys).map fun q => p && q
  | _, _, _ => none

def elemsS (h : SHp) (s : Sh) (v : SV) (k : List (Den s) → Option ρ) : Option ρ :=
  match v with
  | .a .ns | .a .ez | .nz => k []
  | .ls s' ts => if e : s' = s then k (e ▸ ts) else none
  | .a (.sl sz b lo len) => match blkS h b with
    | .row s' ts _ => if e : s' = s then (if sz = s.sz then N.br (decide (lo + len ≤ ts.length)) (k (((e ▸ ts : List (Den s)).drop lo).take len)) none else none) else none
    | _ => none
  | .a (.st x) => if e : s = .i .u8 then k (e ▸ ((x.data.toList.map fun c => (c.toNat : Int)) : List (Den (.i .u8)))) else none
  | _ => none

def lenS (h : SHp) : Nat → SV → Option Int
  | 0, .a (.st s) => some s.size
  | 1, .a .ns | 1, .a .ez | 1, .nz => some 0
  | 1, .ls _ ts => some ts.length
  | 1, .a (.sl _ b _ len) => if aliveS h b then some len else none
  | 2, .a .nm => some 0
  | 2, .a (.mp b) => match blkS h b with
    | .mi _ _ _ es => some es.length
    | .ms _ _ es => some es.length
    | .ml es => some es.length
    | _ => none
  | _, _ => none

def nilS (h : SHp) (k : Nat) (v : SV) (c : Bool → Option ρ) : Option ρ :=
  match v with
  | .a w => match k, w with
    | 0, .np | 1, .ns | 2, .ni | 3, .nf | 4, .nm => c true
    | 0, .re _ b _ _ | 4, .mp b => if aliveS h b then c false else none
    | 1, .sl _ b _ _ => if aliveS h b then c false else none
    | 3, .fn .. => c false
    | _, _ => none
  | .ri .. => if k = 0 then c false else none
  | .ls _ ts => if k = 1 then N.br ts.isEmpty none (c false) else none
  | _ => none

def avs : List SV → Option (List AV)
  | [] => some []
  | .a v :: l => (avs l).map (v :: ·)
  | _ :: _ => none
def bytesOf (ts : List Int) : ByteArray := ⟨(ts.map fun n => UInt8.ofNat n.toNat).toArray⟩

def keyI (x : SV) : Option (IntKind × Int) := match x with
  | .a (.int k n) => some (k, n)
  | _ => none
def keyT (x : SV) : Option ByteArray := match x with
  | .a (.st s) => some s
  | _ => none
def mapGet {K V : Type} [BEq K] (d : V) : List (K × V) → K → V
  | [], _ => d
  | (a, v) :: l, x => if x == a then v else mapGet d l x
def mapHas {K V : Type} [BEq K] : List (K × V) → K → Bool
  | [], _ => false
  | (a, _) :: l, x => x == a || mapHas l x
def mapSet {K V : Type} [BEq K] : List (K × V) → K → V → List (K × V)
  | [], x, v => [(x, v)]
  | (a, w) :: l, x, v => if x == a then (x, v) :: l else (a, w) :: mapSet l x v
def mapDel {K V : Type} [BEq K] : List (K × V) → K → List (K × V)
  | [], _ => []
  | (a, w) :: l, x => if x == a then l else (a, w) :: mapDel l x
def mlFind (x : AV) : List (AV × AV) → (AV → Option ρ) → Option ρ → Option ρ
  | [], _, d => d
  | (a, v) :: l, k, d => match x, a with
    | .int k1 n, .int k2 m => if k1 = k2 then N.br (n == m) (k v) (mlFind x l k d) else none
    | .st n, .st m => N.br (n == m) (k v) (mlFind x l k d)
    | _, _ => none
def cellsV (v : SV) : List SV := match v with
  | .ag cs => cs
  | v => [v]
def valueS (ag : Bool) (cs : List SV) : Option SV := if ag then some (.ag cs) else match cs with
  | [v] => some v
  | _ => none
def isAgS : SV → Bool
  | .ag _ => true
  | _ => false
def isAgV : AV → Bool
  | .ag _ => true
  | _ => false

def one' (h : SHp) (nx : Nat) (k : KV ρ) (v : SV) : Option ρ := k [] v h nx

def opS (tm : SM) (h : SHp) (nx : Nat) (op : COp) (k : KV ρ) : Option ρ :=
  match op with
  | .mv x => k [] (rdS tm x) h nx
  | .pk c a b => match c with
    | .t t => match lookS tm t with
      | .a (.bl p) => N.br p (k [(t, .a (.bl true))] (rdS tm a) h nx) (k [(t, .a (.bl false))] (rdS tm b) h nx)
      | _ => none
    | .c (.bl p) => if p then k [] (rdS tm a) h nx else k [] (rdS tm b) h nx
    | _ => none
  | .al z t => match H.arr t with
    | some s => if s.sz = 1 then match (zS z).bind fun l => decs s (l.map fun c => [c]) with
      | some ts => k [] (.a (.re z.length nx 0 0)) ((nx, .ar s ts t) :: h) (nx + 1)
      | none => none else none
    | none => match zS z with
      | some l => k [] (.a (.re z.length nx 0 0)) ((nx, .vr z.length l t) :: h) (nx + 1)
      | none => none
  | .bx t x => match cellsOfS (rdS tm x) with
    | some cs => k [] (.a (.re cs.length nx 0 0)) ((nx, .vr cs.length cs t) :: h) (nx + 1)
    | none => none
  | .bd z ps => match (zS z).bind fun l => putPartsS l tm ps with
    | some cs => k [] (.ag cs) h nx
    | none => none
  | .bs sz len z t ps => match H.sh t with
    | some s => if s.sz = sz then match (zS z).bind (decAll s) with
      | some d =>
        let rec go (l : List (Nat × Opd)) (ts : List (Den s)) : Option ρ := match l with
          | [] => k [] (.a (.sl sz nx 0 ts.length)) ((nx, .row s ts t) :: killS h (ps.flatMap fun p => refsS (rdS tm p.2))) (nx + 1)
          | (i, x) :: l => match cellsOfS (rdS tm x) with
            | some cs => snapLS (snapCS N h) cs fun cs => match decAll s cs with
              | some y => go l (ts.set i y)
              | none => none
            | none => none
        go ps (List.replicate len d)
      | none => none else none
    | none => none
  | .ld n a => cellsAtS N h (n.getD 1) (rdS tm a) fun cs => match valOfS cs n with
    | some v => k [] v h nx
    | none => none
  | .sr n a x => match cellsOfS (rdS tm x) with
    | some new => if new.length ≠ n ∨ new.any isUdS = true then none else match rdS tm a with
      | .a (.re sz b i off) => match blkS h b with
        | .vr sz' cs t => if sz = sz' ∧ i = 0 ∧ off + n ≤ cs.length then k [] (.a .ud) (putS h b (.vr sz (spliceS cs new off) t)) nx else none
        | .ar s ts t => match decAll s new with
          | some y => if s.sz = 1 ∧ i = 0 then N.br (decide (off < ts.length) && decide (sz = ts.length)) (k [] (.a .ud) (putS h b (.ar s (ts.set off y) t)) nx) none else none
          | none => none
        | .row s ts t => if sz = s.sz ∧ off + n ≤ s.sz ∧ (new.flatMap refsC).contains b = false then
            snapLS (snapCS N h) new fun new' => N.br (decide (i < ts.length)) (match decAll s (spliceS (encS s (ts.getD i (dft s))) new' off) with
              | some y => k [] (.a .ud) (putS (killS h (new.flatMap refsC)) b (.row s (ts.set i y) t)) nx
              | none => none) none
          else none
        | _ => none
      | _ => none
    | none => none
  | .nc x => match rdS tm x with
    | .a (.re sz b i off) => if aliveS h b then k [] (.a (.re sz b i off)) h nx else none
    | .ri s ts i off => k [] (.ri s ts i off) h nx
    | .a (.fn f caps) => k [] (.a (.fn f caps)) h nx
    | _ => none
  | .bn op x y => match rdS tm x, rdS tm y with
    | .a v, .a w => match op, v, w with
      | .shl, .int kd a, .int _ b => N.br (decide (b < 0)) none (k [] (.a (.int kd (kd.wrap (a * 2 ^ (min b.toNat kd.bits))))) h nx)
      | .shr, .int kd a, .int _ b => N.br (decide (b < 0)) none (k [] (.a (.int kd (a.fdiv (2 ^ (min b.toNat kd.bits))))) h nx)
      | .quo, .int kd a, .int kd' b => if kd = kd' then N.br (decide (b = 0)) none (k [] (.a (.int kd (kd.wrap (a.tdiv b)))) h nx) else none
      | .rem, .int kd a, .int kd' b => if kd = kd' then N.br (decide (b = 0)) none (k [] (.a (.int kd (a.tmod b))) h nx) else none
      | .add, .st a, .st b => N.br (decide (((a.size + b.size : Nat) : Int) > IntKind.i64.max)) none (k [] (.a (.st (a ++ b))) h nx)
      | op, v, w => match binA op v w with
        | some r => if isCell r then k [] (.a r) h nx else none
        | none => none
    | _, _ => none
  | .ea neg ks x y => match rdS tm x, rdS tm y with
    | .ag a, .ag b => match eqBs ks a b with
      | some r => k [] (.a (.bl (if neg then !r else r))) h nx
      | none => none
    | _, _ => none
  | .eb neg x y => match rdS tm x, rdS tm y with
    | .a (.bl a), .a (.bl b) => k [] (.a (.bl (if neg then !(a == b) else a == b))) h nx
    | _, _ => none
  | .nq neg kd x => nilS N h kd (rdS tm x) fun r => k [] (.a (.bl (if neg then !r else r))) h nx
  | .un op x => match op, rdS tm x with
    | .neg, .a (.int kd n) => k [] (.a (.int kd (kd.wrap (0 - n)))) h nx
    | .not, .a (.bl b) => k [] (.a (.bl !b)) h nx
    | _, _ => none
  | .ci kd x => match rdS tm x with
    | .a (.int _ n) => k [] (.a (.int kd (kd.wrap n))) h nx
    | _ => none
  | .cv1 x => match rdS tm x with
    | .a (.st s) => k [] (.a (.st s)) h nx
    | _ => none
  | .cs t x => match rdS tm x with
    | .a (.st s) => k [] (.a (.sl 1 nx 0 s.size)) ((nx, .row (.i .u8) (s.data.toList.map fun c => (c.toNat : Int)) t) :: h) (nx + 1)
    | _ => none
  | .cb x => match rdS tm x with
    | .a (.st _) => none
    | v => elemsS N h (.i .u8) v fun ts => k [] (.a (.st (bytesOf ts))) h nx
  | .fa off x => match rdS tm x with
    | .a (.re sz b i o) => if aliveS h b then k [] (.a (.re sz b i (o + off))) h nx else none
    | .ri s ts i o => k [] (.ri s ts i (o + off)) h nx
    | _ => none
  | .fd off n x => match rdS tm x with
    | .ag cs => match valOfS ((cs.drop off).take (n.getD 1)) n with
      | some v => k [] v h nx
      | none => none
    | _ => none
  | .ia arr sz x i => match arr with
    | some len => match rdS tm x with
      | .a (.re z b j o) => if aliveS h b then if hasFn (blkS h b) then withPick N len (rdS tm i) fun q => k [] (.a (.re z b j (o + q * sz))) h nx else withBound N 0 (len - 1) (rdS tm i) fun q => k [] (.a (.re z b j (o + q * sz))) h nx else none
      | _ => none
    | none => match rdS tm x with
      | .ls s ts => if s.sz = sz then withBound N 0 (ts.length - 1 : Int) (rdS tm i) fun q => k [] (.ri s ts q 0) h nx else none
      | .a (.sl sz' b lo len) => if sz' ≠ sz || !aliveS h b then none else withBound N 0 (len - 1 : Int) (rdS tm i) fun q => k [] (.a (.re sz b (lo + q) 0)) h nx
      | _ => none
  | .ix len sz n x i => match rdS tm x with
    | .ag cs => match intOf (rdS tm i) with
      | some m =>
        let rec goIx (q : Nat) (fuel : Nat) : Option ρ := match fuel with
          | 0 => none
          | fuel + 1 => N.br (decide (m = q)) (match valOfS ((cs.drop (q * sz)).take sz) n with
            | some v => k [] v h nx
            | none => none) (goIx (q + 1) fuel)
        goIx 0 len
      | none => none
    | _ => none
  | .si x i => match rdS tm x, rdS tm i with
    | .a (.st s), .a (.int _ n) => N.br (decide (0 ≤ n) && decide (n < s.size)) (k [] (.a (.int .u8 ((s.data.toList.getD n.toNat 0).toNat))) h nx) none
    | _, _ => none
  | .ss x lo hi => match rdS tm x with
    | .a (.st s) => optB N s.size tm 0 s.size hi fun b => optB N 0 tm 0 b lo fun a => k [] (.a (.st (s.extract a b))) h nx
    | _ => none
  | .sc sz x lo hi mx => match rdS tm x with
    | .a .ns => optB N 0 tm 0 0 mx fun _ => optB N 0 tm 0 0 hi fun _ => optB N 0 tm 0 0 lo fun _ => k [] (.a .ns) h nx
    | .a .ez => optB N 0 tm 0 0 mx fun _ => optB N 0 tm 0 0 hi fun _ => optB N 0 tm 0 0 lo fun _ => k [] (.a .ez) h nx
    | .nz => optB N 0 tm 0 0 mx fun _ => optB N 0 tm 0 0 hi fun _ => optB N 0 tm 0 0 lo fun _ => k [] .nz h nx
    | .ls s ts => if s.sz ≠ sz then none else if mx.isSome then
        optB N 0 tm 0 ts.length mx fun m => optB N 0 tm 0 m hi fun b => optB N 0 tm 0 b lo fun a => N.br (decide (a = m)) (k [] .nz h nx) none
      else optB N ts.length tm 0 ts.length hi fun b => optB N 0 tm 0 b lo fun a => k [] (.ls s ((ts.drop a).take (b - a))) h nx
    | .a (.sl sz' r lo0 len) => if sz' ≠ sz || !aliveS h r then none else if mx.isSome then
        optB N 0 tm 0 len mx fun m => optB N 0 tm 0 m hi fun b => optB N 0 tm 0 b lo fun a => N.br (decide (a = m)) (k [] (.a .ez) h nx) none
      else optB N len tm 0 len hi fun b => optB N 0 tm 0 b lo fun a => k [] (.a (.sl sz r (lo0 + a) (b - a))) h nx
    | _ => none
  | .mk sz bytes z t l c => match rdS tm l, rdS tm c, H.sh t with
    | .a (.int _ a), .a (.int _ b), some s => if s.sz = sz then match (zS z).bind (decAll s) with
      | some d => N.br (decide (0 ≤ a) && decide (a ≤ b) && decide (b ≤ maxRoom) && decide (bytes * b ≤ maxRoom)) (k [] (.a (.sl sz nx 0 a.toNat)) ((nx, .row s (List.replicate a.toNat d) t) :: h) (nx + 1)) none
      | none => none else none
    | _, _, _ => none
  | .mf f caps => match avs (caps.map (rdS tm)) with
    | some l => if l.all sclr then k [] (.a (.fn f l)) h nx else none
    | none => none
  | .ex x i => match rdS tm x with
    | .tp vs => match vs[i]? with
      | some v => k [] v h nx
      | none => none
    | _ => none
  | .le kd x => match lenS h kd (rdS tm x) with
    | some n => k [] (.a (.int .i64 n)) h nx
    | none => none
  | .ap sz bytes t x y => match H.sh t with
    | some s => if s.sz ≠ sz then none else elemsS N h s (rdS tm x) fun a => elemsS N h s (rdS tm y) fun b =>
      N.br (decide ((a.length + b.length) * bytes ≤ maxRoom) && decide (a.length + b.length ≤ maxRoom)) (match rdS tm x with
        | .a .ns => N.br b.isEmpty (k [] (.a .ns) h nx) (k [] (.a (.sl sz nx 0 b.length)) ((nx, .row s b t) :: h) (nx + 1))
        | .nz => N.br b.isEmpty (k [] .nz h nx) (k [] (.a (.sl sz nx 0 b.length)) ((nx, .row s b t) :: h) (nx + 1))
        | .a .ez => N.br b.isEmpty (k [] (.a .ez) h nx) (k [] (.a (.sl sz nx 0 b.length)) ((nx, .row s b t) :: h) (nx + 1))
        | .a (.sl _ r lo len) => match blkS h r with
          | .row s' ts _ => N.br (decide (lo + len = ts.length)) (k [] (.a (.sl sz nx 0 (a ++ b).length)) ((nx, .row s (a ++ b) t) :: putS h r .dd) (nx + 1)) none
          | _ => none
        | _ => none) none
    | none => none
  | .mx xs => match avs (xs.map (rdS tm)) with
    | some (.int kd a :: l) => match l.foldlM maxI a with
      | some m => k [] (.a (.int kd m)) h nx
      | none => none
    | _ => none
  | .mn xs => match avs (xs.map (rdS tm)) with
    | some (.int kd a :: l) => match l.foldlM minI a with
      | some m => k [] (.a (.int kd m)) h nx
      | none => none
    | _ => none
  | .mm t => k [] (.a (.mp nx)) ((nx, match H.mp t with
      | some (some kd, g, s) => .mi kd g s []
      | some (none, g, s) => .ms g s []
      | none => .ml []) :: h) (nx + 1)
  | .lk st z ok x i => match rdS tm x with
    | .a (.mp b) => match blkS h b with
      | .mi kd g s es => match rdS tm i, (cellsOfS (ofAV z)).bind (decAll s) with
        | .a (.int kd' n), some d => if kd' = kd ∧ isAgV z = g ∧ st = false then match valueS g (encS s (mapGet d es n)) with
            | some v => k [] (if ok then .tp [v, .a (.bl (mapHas es n))] else v) h nx
            | none => none else none
        | _, _ => none
      | .ms g s es => match rdS tm i, (cellsOfS (ofAV z)).bind (decAll s) with
        | .a (.st n), some d => if isAgV z = g ∧ st = true then match valueS g (encS s (mapGet d es n)) with
            | some v => k [] (if ok then .tp [v, .a (.bl (mapHas es n))] else v) h nx
            | none => none else none
        | _, _ => none
      | .ml es => match rdS tm i with
        | .a v => if isKey st v = true ∧ isCell z = true then mlFind N v es (fun w => if isCell w then k [] (if ok then .tp [.a w, .a (.bl true)] else .a w) h nx else none) (k [] (if ok then .tp [.a z, .a (.bl false)] else .a z) h nx) else none
        | _ => none
      | _ => none
    | _ => none
  | .mu st x y v => match rdS tm x with
    | .a (.mp b) => match blkS h b with
      | .mi kd g s es => match rdS tm y, (cellsOfS (rdS tm v)).bind (decAll s) with
        | .a (.int kd' n), some d => if kd' = kd ∧ isAgS (rdS tm v) = g ∧ st = false then k [] (.a .ud) (putS h b (.mi kd g s (mapSet es n d))) nx else none
        | _, _ => none
      | .ms g s es => match rdS tm y, (cellsOfS (rdS tm v)).bind (decAll s) with
        | .a (.st n), some d => if isAgS (rdS tm v) = g ∧ st = true then k [] (.a .ud) (putS h b (.ms g s (mapSet es n d))) nx else none
        | _, _ => none
      | .ml es => match rdS tm y, rdS tm v with
        | .a y, .a v => if ok0V v = true ∧ isKey st y = true then match findK y es 0 with
            | some (some (i, _)) => k [] (.a .ud) (putS h b (.ml (es.set i (y, v)))) nx
            | some none => k [] (.a .ud) (putS h b (.ml (es ++ [(y, v)]))) nx
            | none => none else none
        | _, _ => none
      | _ => none
    | _ => none
  | .de st x y => match rdS tm x with
    | .a (.mp b) => match blkS h b with
      | .mi kd g s es => match rdS tm y with
        | .a (.int kd' n) => if kd' = kd ∧ st = false then k [] (.tp []) (putS h b (.mi kd g s (mapDel es n))) nx else none
        | _ => none
      | .ms g s es => match rdS tm y with
        | .a (.st n) => if st = true then k [] (.tp []) (putS h b (.ms g s (mapDel es n))) nx else none
        | _ => none
      | _ => none
    | _ => none
  | _ => none
end
end Go.Am
set_option linter.constructorNameAsVariable false
set_option linter.unusedVariables false
namespace Go.Am

inductive PC where
  | c (v : AV)
  | hi (k : IntKind)
  | hb
  | hs
  | hl (s : Sh)
  | hr (s : Sh) (off : Nat)
  | s0 (sz b : Nat)
  | sn (sz b : Nat)
  | hp (sz b off : Nat)
  | nz
inductive PV where
  | c (p : PC)
  | ag (ps : List PC)
  | t0
  | uk
inductive PB where
  | vr (sz : Nat) (ps : List PC) (t : TypeId)
  | row (s : Sh) (t : TypeId)
  | ar (s : Sh) (t : TypeId)
  | mi (k : IntKind) (g : Bool) (s : Sh)
  | ms (g : Bool) (s : Sh)
  | ml (es : List (AV × AV))
  | dd
structure PS where
  tm : List (Nat × PV)
  h : List (Nat × PB)
  nx : Nat
  bs : Nat

@[reducible] def TyC : PC → Type → Type
  | .c _, R => R
  | .hi _, R => Int × R
  | .hb, R => Bool × R
  | .hs, R => ByteArray × R
  | .hl s, R => List (Den s) × R
  | .hr s _, R => List (Den s) × Nat × R
  | .s0 _ _, R => Nat × R
  | .sn _ _, R => Nat × Nat × R
  | .hp _ _ _, R => Nat × R
  | .nz, R => R
@[reducible] def TyCs : List PC → Type → Type
  | [], R => R
  | p :: ps, R => TyC p (TyCs ps R)
@[reducible] def TyV : PV → Type → Type
  | .c p, R => TyC p R
  | .ag ps, R => TyCs ps R
  | .t0, R => R
  | .uk, R => R
@[reducible] def TyT : List (Nat × PV) → Type → Type
  | [], R => R
  | p :: ps, R => TyV p.2 (TyT ps R)
@[reducible] def TyB : PB → Type → Type
  | .vr _ ps _, R => TyCs ps R
  | .row s _, R => List (Den s) × R
  | .ar s _, R => List (Den s) × R
  | .mi _ _ s, R => List (Int × Den s) × R
  | .ms _ s, R => List (ByteArray × Den s) × R
  | .ml _, R => R
  | .dd, R => R
@[reducible] def TyH : List (Nat × PB) → Type → Type
  | [], R => R
  | p :: ps, R => TyB p.2 (TyH ps R)
@[reducible] def TyS (p : PS) : Type := TyT p.tm (TyH p.h Unit)

def fillC : (p : PC) → {R : Type} → TyC p R → SV × R
  | .c v, _, r => (.a v, r)
  | .hi k, _, x => (.a (.int k x.1), x.2)
  | .hb, _, x => (.a (.bl x.1), x.2)
  | .hs, _, x => (.a (.st x.1), x.2)
  | .hl s, _, x => (.ls s x.1, x.2)
  | .hr s off, _, x => (.ri s x.1 x.2.1 off, x.2.2)
  | .s0 sz b, _, x => (.a (.sl sz b 0 x.1), x.2)
  | .sn sz b, _, x => (.a (.sl sz b x.1 x.2.1), x.2.2)
  | .hp sz b off, _, x => (.a (.re sz b x.1 off), x.2)
  | .nz, _, r => (.nz, r)
def fillCs : (ps : List PC) → {R : Type} → TyCs ps R → List SV × R
  | [], _, r => ([], r)
  | p :: ps, _, x => let y := fillC p x
    let z := fillCs ps y.2
    (y.1 :: z.1, z.2)
def fillV : (p : PV) → {R : Type} → TyV p R → SV × R
  | .c p, _, x => fillC p x
  | .ag ps, _, x => let y := fillCs ps x
    (.ag y.1, y.2)
  | .t0, _, x => (.tp [], x)
  | .uk, _, x => (.uk, x)
def fillT : (ps : List (Nat × PV)) → {R : Type} → TyT ps R → SM × R
  | [], _, r => ([], r)
  | p :: ps, _, x => let y := fillV p.2 x
    let z := fillT ps y.2
    ((p.1, y.1) :: z.1, z.2)
def fillB : (p : PB) → {R : Type} → TyB p R → SB × R
  | .vr sz ps t, _, x => let y := fillCs ps x
    (.vr sz y.1 t, y.2)
  | .row s t, _, x => (.row s x.1 t, x.2)
  | .ar s t, _, x => (.ar s x.1 t, x.2)
  | .mi k g s, _, x => (.mi k g s x.1, x.2)
  | .ms g s, _, x => (.ms g s x.1, x.2)
  | .ml es, _, x => (.ml es, x)
  | .dd, _, x => (.dd, x)
def fillH : (ps : List (Nat × PB)) → {R : Type} → TyH ps R → SHp × R
  | [], _, r => ([], r)
  | p :: ps, _, x => let y := fillB p.2 x
    let z := fillH ps y.2
    ((p.1, y.1) :: z.1, z.2)
def fillS (p : PS) (x : TyS p) : SS :=
  let y := fillT p.tm x
  { tm := y.1, h := (fillH p.h y.2).1, nx := p.nx, bs := p.bs }

def avEq : AV → AV → Bool
  | .int k n, .int k' m => decide (k = k') && decide (n = m)
  | .bl a, .bl b => a == b
  | .np, .np | .nm, .nm | .nf, .nf | .ni, .ni | .ns, .ns | .ez, .ez | .ud, .ud => true
  | .re a b c d, .re a' b' c' d' => decide (a = a') && decide (b = b') && decide (c = c') && decide (d = d')
  | .mp b, .mp b' => decide (b = b')
  | .st s, .st s' => decide (s.data.toList = s'.data.toList)
  | .fn f cs, .fn f' cs' => decide (f = f') && go cs cs'
  | _, _ => false
where go : List AV → List AV → Bool
  | [], [] => true
  | .re a b c d :: l, .re a' b' c' d' :: l' => decide (a = a') && decide (b = b') && decide (c = c') && decide (d = d') && go l l'
  | _, _ => false

def matC : (p : PC) → SV → {R : Type} → R → Option (TyC p R)
  | .c v, .a w, _, r => if avEq v w then some r else none
  | .hi k, .a (.int k' n), _, r => if k' = k then some (n, r) else none
  | .hb, .a (.bl b), _, r => some (b, r)
  | .hs, .a (.st s), _, r => some (s, r)
  | .hl s, .ls s' ts, _, r => if h : s' = s then some (h ▸ ts, r) else none
  | .hr s off, .ri s' ts i off', _, r => if off' = off then (if h : s' = s then some (h ▸ ts, i, r) else none) else none
  | .s0 sz b, .a (.sl sz' b' lo len), _, r => if sz' = sz ∧ b' = b ∧ lo = 0 then some (len, r) else none
  | .sn sz b, .a (.sl sz' b' lo len), _, r => if sz' = sz ∧ b' = b then some (lo, len, r) else none
  | .hp sz b off, .a (.re sz' b' i off'), _, r => if sz' = sz ∧ b' = b ∧ off' = off then some (i, r) else none
  | .nz, .nz, _, r => some r
  | _, _, _, _ => none
def matCs : (ps : List PC) → List SV → {R : Type} → R → Option (TyCs ps R)
  | [], [], _, r => some r
  | p :: ps, v :: vs, _, r => (matCs ps vs r).bind fun z => matC p v z
  | _, _, _, _ => none
def matV : (p : PV) → SV → {R : Type} → R → Option (TyV p R)
  | .c p, v, _, r => matC p v r
  | .ag ps, .ag vs, _, r => matCs ps vs r
  | .t0, .tp [], _, r => some r
  | .uk, .uk, _, r => some r
  | _, _, _, _ => none
def matT : (ps : List (Nat × PV)) → SM → {R : Type} → R → Option (TyT ps R)
  | [], [], _, r => some r
  | p :: ps, v :: vs, _, r => if p.1 = v.1 then (matT ps vs r).bind fun z => matV p.2 v.2 z else none
  | _, _, _, _ => none
def mlEq : List (AV × AV) → List (AV × AV) → Bool
  | [], [] => true
  | (a, b) :: l, (a', b') :: l' => avEq a a' && avEq b b' && mlEq l l'
  | _, _ => false
def matB : (p : PB) → SB → {R : Type} → R → Option (TyB p R)
  | .vr sz ps t, .vr sz' cs t', _, r => if sz' = sz ∧ t' = t then matCs ps cs r else none
  | .row s t, .row s' ts t', _, r => if t' = t then (if h : s' = s then some (h ▸ ts, r) else none) else none
  | .ar s t, .ar s' ts t', _, r => if t' = t then (if h : s' = s then some (h ▸ ts, r) else none) else none
  | .mi k g s, .mi k' g' s' es, _, r => if k' = k ∧ g' = g then (if h : s' = s then some (h ▸ es, r) else none) else none
  | .ms g s, .ms g' s' es, _, r => if g' = g then (if h : s' = s then some (h ▸ es, r) else none) else none
  | .ml es, .ml es', _, r => if mlEq es es' then some r else none
  | .dd, .dd, _, r => some r
  | _, _, _, _ => none
def matH : (ps : List (Nat × PB)) → SHp → {R : Type} → R → Option (TyH ps R)
  | [], [], _, r => some r
  | p :: ps, v :: vs, _, r => if p.1 = v.1 then (matH ps vs r).bind fun z => matB p.2 v.2 z else none
  | _, _, _, _ => none
def matS (p : PS) (S : SS) : Option (TyS p) := if p.nx = S.nx ∧ p.bs = S.bs then (matH p.h S.h ()).bind fun z => matT p.tm S.tm z else none

def restr (p : PS) (S : SS) : SS := { S with tm := p.tm.map fun q => (q.1, if q.1 = skey then .uk else lookS S.tm q.1) }
def liveOk (live : List Nat) (S : SS) : Bool := match live with
  | [] => true
  | [_] => true
  | t :: l => !isUk (lookS S.tm t) && liveOk l S
@[reducible] def SumP : List PS → Type
  | [] => Empty
  | [p] => TyS p
  | p :: q :: l => TyS p ⊕ SumP (q :: l)
def matP : (l : List PS) → SS → Option (SumP l)
  | [], _ => none
  | [p], S => matS p S
  | p :: q :: l, S => match matS p S with
    | some x => some (.inl x)
    | none => (matP (q :: l) S).map .inr
def fillP : (l : List PS) → SumP l → SS
  | [], x => nomatch x
  | [p], x => fillS p x
  | p :: _ :: _, .inl x => fillS p x
  | _ :: q :: l, .inr y => fillP (q :: l) y
@[reducible] def SumE : List (EX × PS) → Type
  | [] => Empty
  | [p] => TyS p.2
  | p :: q :: l => TyS p.2 ⊕ SumE (q :: l)

structure Lps where
  ps : List PS
  os : List (EX × PS)
  L : SumP ps → Option (SumE os)

structure Ctr where
  s : Sh
  t : Sh
  as : List (Bool × Nat)
  rs : List (Bool × Nat)
  own : List (Nat × Bool)
  F : Den s → Option (Den t)

structure Wrt where
  s : Sh
  c : FuncId
  F : List (Den s) → Option (List (Den s))
  g : Option FuncId := none
def sortK (ks : List ByteArray) : List ByteArray := ((ks.map fun k => k.data.toList).mergeSort fun x y => decide (x ≤ y)).map fun l => ⟨l.toArray⟩
def fewK (ks : List ByteArray) : Bool := decide (ks.length ≤ 1099511627776) && ks.all fun k => decide (k.size ≤ 1099511627776)

structure Tbl where
  code : FuncId → Option CF
  hint : Hint
  ct : FuncId → Option Ctr
  lp : Nat → Option Lps
  st : FuncId → Option Wrt

def markOf : List Nat → Nat
  | [] => 0
  | [n] => n
  | _ :: l => markOf l
def entryS (args : List SV) (i : Nat := 0) : SM :=
  match args with
  | [] => []
  | a :: as => (i, a) :: entryS as (i + 1)
def packS : List SV → SV
  | [v] => v
  | vs => .tp vs
def regroup : List (Bool × Nat) → List SV → Option (List SV)
  | [], [] => some []
  | (true, n) :: rs, cs => (regroup rs (cs.drop n)).map (.ag (cs.take n) :: ·)
  | (false, _) :: rs, c :: cs => (regroup rs cs).map (c :: ·)
  | _, _ => none
def inCS (nx : Nat) : SV → SV × SHp × Nat
  | .ow s ts => (.a (.sl s.sz nx 0 ts.length), [(nx, .row s ts 0)], nx + 1)
  | v => (v, [], nx)
def inCsS (nx : Nat) : List SV → List SV × SHp × Nat
  | [] => ([], [], nx)
  | v :: vs => let x := inCS nx v
    let y := inCsS x.2.2 vs
    (x.1 :: y.1, x.2.1 ++ y.2.1, y.2.2)
def inVS (nx : Nat) : SV → SV × SHp × Nat
  | .ag cs => let x := inCsS nx cs
    (.ag x.1, x.2)
  | v => inCS nx v
def inVsS (nx : Nat) : List SV → List SV × SHp × Nat
  | [] => ([], [], nx)
  | v :: vs => let x := inVS nx v
    let y := inVsS x.2.2 vs
    (x.1 :: y.1, x.2.1 ++ y.2.1, y.2.2)
def inRS (nx : Nat) : SV → SV × SHp × Nat
  | .tp vs => let x := inVsS nx vs
    (.tp x.1, x.2)
  | v => inVS nx v
def scalSh : Sh → Bool
  | .i _ | .b | .s | .nil => true
  | .row _ => false
  | .cons a b => scalSh a && scalSh b
def flatCS : SV → Bool
  | .a v => flatC v
  | .ow s _ => scalSh s
  | .nz => true
  | _ => false
def flatWS : SV → Bool
  | .ag cs => cs.all flatCS
  | v => flatCS v
def flatVS : SV → Bool
  | .tp vs => vs.all flatWS
  | v => flatWS v
def okCS : SV → Bool
  | .a v => okC (fun _ => false) v
  | .ow .. | .ag _ | .tp _ | .uk => false
  | _ => true
def okVS : SV → Bool
  | .ag cs => cs.all okCS
  | v => okCS v

def shapeR : List SV → List (Bool × Nat)
  | [] => []
  | .ag cs :: l => (true, cs.length) :: shapeR l
  | _ :: l => (false, 1) :: shapeR l
structure FootS where
  ix : Nat
  us : List Nat
  ac : List Nat
  fr : List Nat
  wr : List Nat

section
variable {ρ : Type} (N : Nodes ρ) (T : Tbl)
abbrev KS (ρ : Type) := EX → SS → Option ρ

def markCs (pr : List (Nat × Bool)) (own : List (Nat × Bool)) (cs : List SV) (i : Nat) (k : List SV → Option ρ) : Option ρ :=
  match cs with
  | [] => k []
  | c :: cs => match own.lookup i with
    | none => markCs pr own cs (i + 1) fun l => k (c :: l)
    | some nl => match c with
      | .ls s ts => if nl then N.br ts.isEmpty (if pr.lookup i = some false then none else markCs pr own cs (i + 1) fun l => k (.nz :: l)) (if pr.lookup i = some true then none else markCs pr own cs (i + 1) fun l => k (.ow s ts :: l)) else markCs pr own cs (i + 1) fun l => k (.ow s ts :: l)
      | _ => none
def putR (pr : List (Nat × Bool)) (c : Ctr) (y : Den c.t) (k : SV → Option ρ) : Option ρ :=
  markCs N pr c.own (encS c.t y) 0 fun cs => match regroup c.rs cs with
    | some vs => k (packS vs)
    | none => none
def prOf (f : FuncId) : List (FuncId × Nat × Bool) → List (Nat × Bool)
  | [] => []
  | (g, i, b) :: l => if g = f then (i, b) :: prOf f l else prOf f l

def resultsS (S : SS) (rs : List CR) (k : List SV → Option ρ) : Option ρ :=
  match rs with
  | [] => k []
  | .tm t :: rs => match lookS S.tm t with
    | .tp _ | .uk => none
    | v => resultsS S rs fun l => k (v :: l)
  | .cl t n :: rs => cellsAtS N S.h (n.getD 1) (lookS S.tm t) fun cs => match valOfS cs n with
    | some v => resultsS S rs fun l => k (v :: l)
    | none => none

def writeS (w : Wrt) (args : List SV) (h : SHp) (nx : Nat) (k : KV ρ) : Option ρ :=
  match args with
  | [.a (.sl sz b lo len), .a (.fn c caps)] => match blkS h b with
    | .row s ts t => if e : s = w.s then
        if sz = s.sz ∧ lo = 0 ∧ c = w.c ∧ caps.isEmpty then N.br (decide (len = ts.length)) (N.cl (w.F (e ▸ ts)) fun ts' => k [] (.tp []) (putS h b (.row w.s ts' t)) nx) none else none
      else none
    | _ => none
  | [.a .ns, .a (.fn c caps)] => if w.g = none ∧ c = w.c ∧ caps.isEmpty then k [] (.tp []) h nx else none
  | [.a (.fn f [.re sz nb i off])] => if w.g = some f ∧ sz = 1 ∧ i = 0 ∧ off = 0 then match blkS h nb with
    | .vr sz' [.a (.mp b)] _ => if sz' = 1 then match blkS h b with
      | .ms _ _ es => N.br (fewK (es.map (·.1))) (k [] (.ls .s (sortK (es.map (·.1)))) h nx) none
      | _ => none else none
    | _ => none else none
  | _ => none

def spC (v : SV) (k : SV → Option ρ) : Option ρ := match v with
  | .a (.int kd n) => N.sp n (k (.a (.int kd (.ofNat 0)))) (fun j => k (.a (.int kd (.ofNat (j + 1)))))
  | v => k v
def spL (is : List Nat) (vs : List SV) (i : Nat) (k : List SV → Option ρ) : Option ρ := match vs with
  | [] => k []
  | v :: vs => if is.contains i then spC N v fun v => spL is vs (i + 1) fun l => k (v :: l) else spL is vs (i + 1) fun l => k (v :: l)
def spR (is : Option (List Nat)) (v : SV) (k : SV → Option ρ) : Option ρ := match is with
  | none => k v
  | some is => match v with
    | .tp vs => spL N is vs 0 fun l => k (.tp l)
    | v => spC N v k
def isRowS (h : SHp) (b : Nat) : Bool := match blkS h b with
  | .row .. => true
  | _ => false

def inlS (run : CC → SS → KS ρ → Option ρ) (c : CF) (args : List SV) (h : SHp) (nx : Nat) (us : List Nat) (k : KV ρ) : Option ρ :=
  if us.all (· < nx) && args.all fun v => !isUk v then
    run c.code { tm := entryS (args.map (lrVS (us.contains ·) id)), h := lotHS h us us, nx := nx, bs := nx } fun ex S => match ex with
      | .xt _ => none
      | _ => resultsS N S c.res fun vs => k [] (lrVS (domD us nx S.nx) id (packS vs)) (overS h (fun b => lrBS (domD us nx S.nx) id (blkS S.h b)) (upto nx (S.nx - nx) ++ us)) S.nx
  else none
def snapPS (h : SHp) (v : SV) (k : SV → Option ρ) : Option ρ :=
  match v with
  | .a (.re sz b i off) => match blkS h b with
    | .vr sz' cs t => match T.hint.sh t with
      | some s => if sz = sz' ∧ s.sz = sz then snapLS (snapCS N h) cs fun cs => match decAll s cs with
        | some d => k (.ri s [d] i off)
        | none => none else none
      | none => none
    | _ => none
  | v => snapVS N h v k
def scalS : SV → Bool
  | .a (.int ..) | .a (.bl _) | .a (.st _) => true
  | _ => false
def pfS (run : CC → SS → KS ρ → Option ρ) (f : FuncId) (c : CF) (args : List SV) (h : SHp) (nx : Nat) (k : KV ρ) : Option ρ :=
  if c.np < args.length ∨ mark0 < args.length ∨ T.hint.kl.contains f = true then none else snapLS (snapPS N T h) args fun as =>
    run c.code { tm := entryS as, h := [], nx := 0, bs := 0 } fun ex S => match ex with
      | .xt _ => none
      | _ => resultsS N S c.res fun vs => if vs.all scalS then k [] (packS vs) h nx else none
def callS (run : CC → SS → KS ρ → Option ρ) (f : FuncId) (args : List SV) (h : SHp) (nx : Nat) (k : KV ρ) : Option ρ :=
  match T.ct f with
  | some c => snapLS (snapVS N h) args fun as => if shapeR as ≠ c.as then none else match decAll c.s (as.flatMap cellsV) with
    | some x => N.cl (c.F x) fun y => putR N (prOf f T.hint.pr) c y fun r =>
      let z := inRS nx r
      if T.hint.kl.contains f then
        if (args.flatMap refsS).all (isRowS h) && args.all fun v => !isUk v then spR N (T.hint.sp.lookup f) z.1 fun v => k [] v (z.2.1 ++ killS h (args.flatMap refsS)) z.2.2 else none
      else if args.all okVS || flatVS r then spR N (T.hint.sp.lookup f) z.1 fun v => k [] v (z.2.1 ++ h) z.2.2
      else none
    | none => none
  | none => if T.hint.pf.contains f then match T.code f with
      | none => none
      | some c => pfS N T run f c args h nx k
    else match T.code f with
    | none => match T.st f with
      | none => none
      | some w => writeS N w args h nx k
    | some c => if c.np < args.length ∨ mark0 < args.length then none else inlS N run c args h nx (clo (bone h) 64 (args.flatMap refsS) []) k

def opSS (run : CC → SS → KS ρ → Option ρ) (tm : SM) (h : SHp) (nx : Nat) (op : COp) (k : KV ρ) : Option ρ :=
  match op with
  | .cf f args => callS N T run f (args.map (rdS tm)) h nx k
  | .cv x args => match rdS tm x with
    | .a (.fn f caps) => match zS caps with
      | some cs => if fnU f args then callS N T run (fnN f) (args.map (rdS tm) ++ cs) h nx k else none
      | none => none
    | _ => none
  | op => opS N T.hint tm h nx op k

def oneS (run : CC → SS → KS ρ → Option ρ) (tm : SM) (h : SHp) (nx : Nat) (o : CI) (k : KV ρ) : Option ρ :=
  match o.guard with
  | none => opSS N T run tm h nx o.op k
  | some (t, want) => match lookS tm t with
    | .a (.bl b) =>
      let yes (v : Bool) := opSS N T run ((t, .a (.bl v)) :: tm) h nx o.op fun rf w h' nx' => k (rf ++ [(t, .a (.bl v))]) w h' nx'
      let no (v : Bool) := k [(t, .a (.bl v))] (.tp []) h nx
      if want then N.br b (yes true) (no false) else N.br b (no true) (yes false)
    | .tp [] => k [] (.tp []) h nx
    | _ => none

def putDS (d : Option Nat) (v : SV) (tm : SM) : SM :=
  match d with
  | some d => (d, v) :: tm
  | none => tm
def dOk : Option Nat → Bool
  | some d => decide (d < mark0)
  | none => true
def refine (tm : SM) : SM → SM
  | [] => tm
  | (t, v) :: rf => (refine tm rf).map fun p => if p.1 = t then (t, v) else p

def opsS (run : CC → SS → KS ρ → Option ρ) (ops : List CI) (S : SS) (k : SS → Option ρ) : Option ρ :=
  match ops with
  | [] => k S
  | o :: l => oneS N T run S.tm S.h S.nx o fun rf v h nx => if S.bs ≤ nx && dOk o.dst then opsS run l { tm := putDS o.dst v (refine S.tm rf), h := h, nx := nx, bs := S.bs } k else none

def constOk : Opd → Bool
  | .c v => !isUk (ofAV v)
  | _ => true
def bsOk : COp → Bool
  | .bs _ _ _ _ ps => ps.all fun p => constOk p.2
  | _ => true
def qIS (tm : SM) (o : CI) : Bool :=
  match o.op with
  | .cf f _ => ((T.ct f).isSome || T.hint.pf.contains f) && !T.hint.kl.contains f
  | .cv x _ => match rdS tm x with
    | .a (.fn f _) => ((T.ct (fnN f)).isSome || T.hint.pf.contains (fnN f)) && !T.hint.kl.contains (fnN f)
    | _ => false
  | .sr .. | .ap .. | .cp .. | .mu .. | .de .. => false
  | .bs _ _ _ _ l => (l.flatMap fun p => refsS (rdS tm p.2)).isEmpty
  | _ => true
def wIS (tm : SM) (h : SHp) (o : CI) (us : List Nat) : List Nat :=
  if qIS T tm o then [] else match o.op with
  | .sr _ a _ => match rdS tm a with
    | .a (.re _ b _ _) => match blkS h b with
      | .vr .. | .ar .. => if us.contains b then [b] else us
      | _ => us
    | _ => us
  | _ => us

def parS (run : CC → SS → KS ρ → Option ρ) (ops : List (CI × List Nat)) (ix : Nat) (fs : List FootS) (S : SS) (k : SS → Option ρ) : Option ρ :=
  match ops with
  | [] => k S
  | (o, dp) :: l =>
    let us := clo (bone S.h) 64 ((readsI o).flatMap fun t => refsS (lookS S.tm t)) []
    let ac := if agn o.op then [] else us
    let tm := lotTS S.tm us (readsI o)
    if us.all (· < S.nx) && (readsI o).all (fun t => decide (t < skey) && !isUk (lookS S.tm t)) && bsOk o.op then
      oneS N T run tm (lotHS S.h us ac) S.nx o fun rf v h nx =>
        let fr := upto S.nx (nx - S.nx)
        let wr := fr ++ wIS T tm (lotHS S.h us ac) o us
        if S.nx ≤ nx && dOk o.dst && fs.all (fun f => dp.contains f.ix || (away f.wr ac && away wr f.ac && away f.fr us && away fr f.us && away f.wr wr)) then
          parS run l (ix + 1) (⟨ix, us, ac, fr, wr⟩ :: fs) { tm := putDS o.dst (lrVS (domD us S.nx nx) id v) (refine S.tm rf), h := overS S.h (fun b => lrBS (domD us S.nx nx) id (blkS h b)) wr, nx := nx, bs := S.bs } k
        else none
    else none

def runOut : (l : List (EX × PS)) → SumE l → (sm : {A B : Type} → A ⊕ B → (A → Option ρ) → (B → Option ρ) → Option ρ) → KS ρ → Option ρ
  | [], x, _, _ => nomatch x
  | [p], x, _, k => k p.1 (fillS p.2 x)
  | p :: q :: l, x, sm, k => sm x (fun y => k p.1 (fillS p.2 y)) (fun y => runOut (q :: l) y sm k)

def varK : Nat := 1000000000
def pickL (lp : Nat → Option Lps) (C : SS) (m : Nat) : Nat → Nat → Option ((L : Lps) × SumP L.ps)
  | _, 0 => none
  | j, n + 1 => match lp (m + j * varK) with
    | none => none
    | some L => match matP L.ps C with
      | some x => some ⟨L, x⟩
      | none => pickL lp C m (j + 1) n
def stepS (run : CC → SS → KS ρ → Option ρ) : CC → SS → KS ρ → Option ρ
  | .sk, S, k => k .nm S
  | .rg ops, S, k => opsS N T run ops S fun S => k .nm S
  | .rd ops, S, k => parS N T run ops 0 [] S fun S => k .nm S
  | .sq a b, S, k => stepS run a S fun ex S => match ex with
    | .nm => stepS run b S k
    | ex => k ex S
  | .cd c a b, S, k => match c with
    | .t t => match lookS S.tm t with
      | .a (.bl p) => N.br p (stepS run a { S with tm := refine S.tm [(t, .a (.bl true))] } k) (stepS run b { S with tm := refine S.tm [(t, .a (.bl false))] } k)
      | _ => none
    | .c (.bl p) => if p then stepS run a S k else stepS run b S k
    | _ => none
  | .bk id b, S, k => stepS run b S fun ex S => match ex with
    | .xt j => if j = id then k .nm S else k (.xt j) S
    | ex => k ex S
  | .lp live b, S, k => match T.lp (markOf live) with
    | some _ => if liveOk live S then match pickL T.lp (canonS live S) (markOf live) 0 8 with
      | some ⟨L, x⟩ => N.cl (L.L x) fun y => runOut L.os y N.sm k
      | none => N.uk live b (canonS live S) else none
    | none => N.uk live b (canonS live S)
  | .xt id, S, k => k (.xt id) S
  | .rt, S, k => k .rt S
  | .no, _, _ => none
def evalS : Nat → CC → SS → KS ρ → Option ρ
  | 0, _, _, _ => none
  | n + 1, c, S, k => stepS N T (evalS n) c S k

def outCS (h hk : SHp) (own : Option Bool) (v : SV) (k : SV → Option ρ) : Option ρ :=
  match own with
  | some nl => match v with
    | .a (.sl sz b lo len) => snapCS N h (.a (.sl sz b lo len)) fun w => match w with
      | .ls s ts => if nl then N.br ts.isEmpty none (k (.ls s ts)) else k (.ls s ts)
      | _ => none
    | .a .ns => if nl then k (.a .ns) else none
    | .a .ez => if nl then k (.a .ez) else none
    | .nz => if nl then k .nz else none
    | _ => none
  | none => snapCS N hk v k
def outCsS (h hk : SHp) (own : List (Nat × Bool)) (cs : List SV) (i : Nat) (k : List SV → Option ρ) : Option ρ :=
  match cs with
  | [] => k []
  | c :: cs => outCS N h hk (own.lookup i) c fun a => outCsS h hk own cs (i + 1) fun l => k (a :: l)
def handS (own : List (Nat × Bool)) (cs : List SV) (i : Nat) : List Nat :=
  match cs with
  | [] => []
  | c :: cs => (match own.lookup i, c with
    | some _, .a (.sl _ b _ _) => [b]
    | _, _ => []) ++ handS own cs (i + 1)
end
def exEq : EX → EX → Bool
  | .nm, .nm | .rt, .rt => true
  | .xt i, .xt j => decide (i = j)
  | _, _ => false
def hasS (p : PS) : Bool := p.tm.any fun q => decide (q.1 = skey)
def matE : (l : List (EX × PS)) → EX → SS → Option (SumE l)
  | [], _, _ => none
  | [p], ex, S => if exEq p.1 ex && hasS p.2 then matS p.2 (restr p.2 S) else none
  | p :: q :: l, ex, S => match (if exEq p.1 ex && hasS p.2 then matS p.2 (restr p.2 S) else none) with
    | some x => some (.inl x)
    | none => (matE (q :: l) ex S).map .inr
def funS (N : (ρ : Type) → Nodes ρ) (T : Tbl) (n : Nat) (c : CF) (s t : Sh) (as : List (Bool × Nat)) (x : Den s) (own : List (Nat × Bool)) (rs : List (Bool × Nat)) : Option (Den t) :=
  if c.np < as.length ∨ mark0 < as.length then none else evalS (N (Den t)) T n c.code { tm := entryS ((regroup as (encS s x)).getD []), h := [], nx := 0, bs := 0 } fun ex S => match ex with
    | .xt _ => none
    | _ => resultsS (N (Den t)) S c.res fun vs =>
      let cs := vs.flatMap cellsV
      if shapeR vs = rs ∧ nodupB (handS own cs 0) then
        outCsS (N (Den t)) S.h (killS S.h (handS own cs 0)) own cs 0 fun l => decAll t l
      else none
def rndS {ρ : Type} (N : Nodes ρ) (T : Tbl) (n : Nat) (live : List Nat) (b : CC) (S : SS) (k : KS ρ) : Option ρ :=
  stepS N T (evalS N T n) b S fun ex S => match ex with
    | .nm => if liveOk live S then k .nm (canonS live S) else none
    | ex => k ex S
end Go.Am
namespace Go.Am
universe u
def look? {α : Type u} : List (Nat × α) → Nat → Option α
  | [], _ => none
  | (k, v) :: l, n => if k = n then some v else look? l n
end Go.Am
set_option linter.constructorNameAsVariable false
set_option linter.unusedVariables false
set_option linter.unusedSimpArgs false
namespace Go.Am

def RE : (s : Sh) → Den s → List AV → Prop
  | .i k, n, cs => cs = [.int k n]
  | .b, b, cs => cs = [.bl b]
  | .s, s, cs => cs = [.st s]
  | .row e, ts, cs => ∃ w, cs = [w] ∧ ((∃ es, w = .ls e.sz es ∧ All2 (RE e) ts es) ∨ (ts = [] ∧ (w = .ns ∨ w = .ez)))
  | .nil, _, cs => cs = []
  | .cons a b, x, cs => ∃ c1 c2, cs = c1 ++ c2 ∧ RE a x.1 c1 ∧ RE b x.2 c2

def RL (s : Sh) (ts : List (Den s)) (w : AV) : Prop := (∃ es, w = .ls s.sz es ∧ All2 (RE s) ts es) ∨ (ts = [] ∧ (w = .ns ∨ w = .ez))
def RC : SV → AV → Prop
  | .a v, w => v = w ∧ isCell v = true
  | .ls s ts, w => RL s ts w
  | .ri s ts i off, w => ∃ es, w = .ri s.sz es i off ∧ All2 (RE s) ts es
  | .ow s ts, w => ∃ es, w = .ow s.sz es ∧ All2 (RE s) ts es
  | .nz, w => w = .ns ∨ w = .ez
  | _, _ => False
def RW : SV → AV → Prop
  | .ag cs, w => ∃ ws, w = .ag ws ∧ All2 RC cs ws
  | v, w => RC v w
def RV : SV → AV → Prop
  | .tp vs, w => ∃ ws, w = .tp ws ∧ All2 RW vs ws
  | .uk, _ => True
  | v, w => RW v w
def RG (g : Bool) (s : Sh) (d : Den s) (w : AV) : Prop := if g then ∃ cs, w = .ag cs ∧ RE s d cs else RE s d [w]
def RB : SB → BK → Prop
  | .vr sz cs t, x => ∃ ws, x = .rw true sz [ws] t ∧ All2 RC cs ws
  | .row s ts t, x => ∃ es, x = .rw false s.sz es t ∧ All2 (RE s) ts es
  | .ar s ts t, x => s.sz = 1 ∧ ∃ ws, x = .rw true ws.length [ws] t ∧ All2 (fun d c => RE s d [c]) ts ws
  | .mi k g s es, x => ∃ l, x = .mp l ∧ All2 (fun (p : Int × Den s) (q : AV × AV) => q.1 = .int k p.1 ∧ RG g s p.2 q.2) es l
  | .ms g s es, x => ∃ l, x = .mp l ∧ All2 (fun (p : ByteArray × Den s) (q : AV × AV) => q.1 = .st p.1 ∧ RG g s p.2 q.2) es l
  | .ml es, x => x = .mp es
  | .dd, x => x = .dd
def RH (h : SHp) (h' : List (Nat × BK)) : Prop := All2 (fun p q => p.1 = q.1 ∧ RB p.2 q.2) h h'
def RT (tm : SM) (tm' : List (Nat × AV)) : Prop := ∀ t, RV (lookS tm t) (look .ud tm' t)
def RM (tm' : List (Nat × AV)) : Prop := ∀ t, mark0 ≤ t → look .ud tm' t = .ud
structure RS (S : SS) (S' : St) : Prop where
  tm : RT S.tm S'.tm
  mm : RM S'.tm
  h : RH S.h S'.h
  nx : S.nx = S'.nx
  bs : S.bs = S'.bs

section all2
variable {α β γ δ : Type} {R : α → β → Prop}
theorem All2.map2 {f : α → γ} {g : β → δ} {Q : γ → δ → Prop} (hf : ∀ a b, R a b → Q (f a) (g b)) {as : List α} {bs : List β} (h : All2 R as bs) : All2 Q (as.map f) (bs.map g) := by
  induction h with
  | nil => exact .nil
  | cons h1 _ ih => exact .cons (hf _ _ h1) ih
theorem All2.set {as : List α} {bs : List β} (h : All2 R as bs) {a : α} {b : β} (hab : R a b) : ∀ i, All2 R (as.set i a) (bs.set i b) := by
  induction h with
  | nil => intro i; exact .nil
  | cons h1 h2 ih => intro i; cases i with
    | zero => exact .cons hab h2
    | succ i => exact .cons h1 (ih i)
theorem All2.rep {a : α} {b : β} (hab : R a b) : ∀ n, All2 R (List.replicate n a) (List.replicate n b)
  | 0 => .nil
  | n + 1 => .cons hab (All2.rep hab n)
theorem All2.app_inv {as1 as2 : List α} : ∀ {bs : List β}, All2 R (as1 ++ as2) bs → ∃ b1 b2, bs = b1 ++ b2 ∧ All2 R as1 b1 ∧ All2 R as2 b2 := by
  induction as1 with
  | nil => intro bs h; exact ⟨[], bs, rfl, .nil, h⟩
  | cons a as1 ih =>
    intro bs h
    cases h with
    | cons h1 h2 =>
      obtain ⟨b1, b2, rfl, h3, h4⟩ := ih h2
      exact ⟨_ :: b1, b2, rfl, .cons h1 h3, h4⟩
theorem All2.one {a : α} {bs : List β} (h : All2 R [a] bs) : ∃ b, bs = [b] ∧ R a b := by
  cases h with
  | cons h1 h2 => cases h2; exact ⟨_, rfl, h1⟩
theorem All2.getD {as : List α} {bs : List β} (h : All2 R as bs) {i : Nat} (hi : i < as.length) (d : α) : ∃ b, bs[i]? = some b ∧ R (as.getD i d) b := by
  have h1 : as[i]? = some as[i] := List.getElem?_eq_getElem hi
  obtain ⟨b, hb, hr⟩ := h.get i _ h1
  exact ⟨b, hb, by rw [List.getD_eq_getElem?_getD, h1]; exact hr⟩
theorem All2.flat {f : α → List γ} {g : β → List δ} {Q : γ → δ → Prop} (hf : ∀ a b, R a b → All2 Q (f a) (g b)) {as : List α} {bs : List β} (h : All2 R as bs) : All2 Q (as.flatMap f) (bs.flatMap g) := by
  induction h with
  | nil => exact .nil
  | cons h1 _ ih => simp only [List.flatMap_cons]; exact (hf _ _ h1).append ih
theorem All2.flatEq {f : α → List γ} {g : β → List γ} (hf : ∀ a b, R a b → f a = g b) {as : List α} {bs : List β} (h : All2 R as bs) : as.flatMap f = bs.flatMap g := by
  induction h with
  | nil => rfl
  | cons h1 _ ih => simp only [List.flatMap_cons, hf _ _ h1, ih]
end all2

theorem RE_len : ∀ {s : Sh} {x : Den s} {cs : List AV}, RE s x cs → cs.length = s.sz
  | .i _, _, _, h => by cases h; rfl
  | .b, _, _, h => by cases h; rfl
  | .s, _, _, h => by cases h; rfl
  | .row _, _, _, h => by obtain ⟨w, rfl, _⟩ := h; rfl
  | .nil, _, _, h => by cases h; rfl
  | .cons a b, _, _, h => by obtain ⟨c1, c2, rfl, h1, h2⟩ := h; simp [Sh.sz, RE_len h1, RE_len h2]
theorem RE_inj : ∀ {s : Sh} {x y : Den s} {cs : List AV}, RE s x cs → RE s y cs → x = y
  | .i _, _, _, _, h, h' => by cases h; simp [RE] at h'; exact h'
  | .b, _, _, _, h, h' => by cases h; simp [RE] at h'; exact h'
  | .s, _, _, _, h, h' => by cases h; simp [RE] at h'; exact h'
  | .row e, x, y, _, h, h' => by
    obtain ⟨w, rfl, h⟩ := h
    obtain ⟨w', hw, h'⟩ := h'
    simp only [List.cons.injEq, and_true] at hw
    subst hw
    rcases h with ⟨es, rfl, h1⟩ | ⟨hx, rfl | rfl⟩
    · rcases h' with ⟨es', he, h2⟩ | ⟨_, h3 | h3⟩
      · injection he with _ he; subst he
        have aux : ∀ {xs ys : List (Den e)} {es : List (List AV)}, All2 (RE e) xs es → All2 (RE e) ys es → xs = ys := by
          intro xs ys es h1
          induction h1 generalizing ys with
          | nil => intro h2; cases h2; rfl
          | cons h3 _ ih => intro h2; cases h2 with
            | cons h4 h5 => rw [RE_inj h3 h4, ih h5]
        exact aux h1 h2
      · cases h3
      · cases h3
    · rcases h' with ⟨es', he, h2⟩ | ⟨h3, _⟩
      · cases he
      · subst hx h3; rfl
    · rcases h' with ⟨es', he, h2⟩ | ⟨h3, _⟩
      · cases he
      · subst hx h3; rfl
  | .nil, _, _, _, _, _ => rfl
  | .cons a b, x, y, _, h, h' => by
    obtain ⟨c1, c2, rfl, h1, h2⟩ := h
    obtain ⟨d1, d2, he, h3, h4⟩ := h'
    have hl : c1.length = d1.length := by rw [RE_len h1, RE_len h3]
    obtain ⟨rfl, rfl⟩ := List.append_inj he hl
    exact Prod.ext (RE_inj h1 h3) (RE_inj h2 h4)
theorem encS_ok : ∀ {s : Sh} {x : Den s} {cs : List AV}, RE s x cs → All2 RC (encS s x) cs
  | .i _, _, _, h => by cases h; exact .cons ⟨rfl, rfl⟩ .nil
  | .b, _, _, h => by cases h; exact .cons ⟨rfl, rfl⟩ .nil
  | .s, _, _, h => by cases h; exact .cons ⟨rfl, rfl⟩ .nil
  | .row e, _, _, h => by obtain ⟨w, rfl, h⟩ := h; exact .cons h .nil
  | .nil, _, _, h => by cases h; exact .nil
  | .cons a b, _, _, h => by obtain ⟨c1, c2, rfl, h1, h2⟩ := h; exact (encS_ok h1).append (encS_ok h2)
theorem encS_inv : ∀ {s : Sh} {x : Den s} {cs : List AV}, All2 RC (encS s x) cs → RE s x cs
  | .i _, _, _, h => by obtain ⟨b, hb, h1, _⟩ := All2.one h; subst h1; exact hb
  | .b, _, _, h => by obtain ⟨b, hb, h1, _⟩ := All2.one h; subst h1; exact hb
  | .s, _, _, h => by obtain ⟨b, hb, h1, _⟩ := All2.one h; subst h1; exact hb
  | .row e, _, _, h => by obtain ⟨b, hb, h1⟩ := All2.one h; exact ⟨b, hb, h1⟩
  | .nil, _, _, h => by cases h; rfl
  | .cons a b, _, _, h => by obtain ⟨c1, c2, rfl, h1, h2⟩ := All2.app_inv h; exact ⟨c1, c2, rfl, encS_inv h1, encS_inv h2⟩

theorem decS_ok : ∀ {s : Sh} {l : List SV} {x : Den s} {r : List SV} {ws : List AV}, decS s l = some (x, r) → All2 RC l ws → ∃ c1 c2, ws = c1 ++ c2 ∧ RE s x c1 ∧ All2 RC r c2
  | .i k, l, x, r, ws, h, hl => by
    simp only [decS] at h
    split at h
    · simp only [Option.ite_none_right_eq_some, Option.some.injEq, Prod.mk.injEq] at h
      obtain ⟨rfl, rfl, rfl⟩ := h
      cases hl with
      | cons h1 h2 => obtain ⟨rfl, _⟩ := h1; exact ⟨[_], _, rfl, rfl, h2⟩
    · cases h
  | .b, l, x, r, ws, h, hl => by
    simp only [decS] at h
    split at h
    · simp only [Option.some.injEq, Prod.mk.injEq] at h
      obtain ⟨rfl, rfl⟩ := h
      cases hl with
      | cons h1 h2 => obtain ⟨rfl, _⟩ := h1; exact ⟨[_], _, rfl, rfl, h2⟩
    · cases h
  | .s, l, x, r, ws, h, hl => by
    simp only [decS] at h
    split at h
    · simp only [Option.some.injEq, Prod.mk.injEq] at h
      obtain ⟨rfl, rfl⟩ := h
      cases hl with
      | cons h1 h2 => obtain ⟨rfl, _⟩ := h1; exact ⟨[_], _, rfl, rfl, h2⟩
    · cases h
  | .row e, l, x, r, ws, h, hl => by
    simp only [decS] at h
    split at h
    · split at h
      · rename_i he
        subst he
        simp only [Option.some.injEq, Prod.mk.injEq] at h
        obtain ⟨rfl, rfl⟩ := h
        cases hl with
        | cons h1 h2 => exact ⟨[_], _, rfl, ⟨_, rfl, h1⟩, h2⟩
      · cases h
    · simp only [Option.some.injEq, Prod.mk.injEq] at h
      obtain ⟨rfl, rfl⟩ := h
      cases hl with
      | cons h1 h2 => obtain ⟨rfl, _⟩ := h1; exact ⟨[_], _, rfl, ⟨_, rfl, .inr ⟨rfl, .inl rfl⟩⟩, h2⟩
    · simp only [Option.some.injEq, Prod.mk.injEq] at h
      obtain ⟨rfl, rfl⟩ := h
      cases hl with
      | cons h1 h2 => obtain ⟨rfl, _⟩ := h1; exact ⟨[_], _, rfl, ⟨_, rfl, .inr ⟨rfl, .inr rfl⟩⟩, h2⟩
    · simp only [Option.some.injEq, Prod.mk.injEq] at h
      obtain ⟨rfl, rfl⟩ := h
      cases hl with
      | cons h1 h2 => exact ⟨[_], _, rfl, ⟨_, rfl, .inr ⟨rfl, h1⟩⟩, h2⟩
    · cases h
  | .nil, l, x, r, ws, h, hl => by
    simp only [decS, Option.some.injEq, Prod.mk.injEq] at h
    obtain ⟨_, rfl⟩ := h
    exact ⟨[], ws, rfl, rfl, hl⟩
  | .cons a b, l, x, r, ws, h, hl => by
    simp only [decS, Option.bind_eq_some_iff, Option.some.injEq, Prod.mk.injEq] at h
    obtain ⟨⟨p1, p2⟩, hp, ⟨q1, q2⟩, hq, rfl, rfl⟩ := h
    obtain ⟨c1, c2, rfl, h1, h2⟩ := decS_ok hp hl
    obtain ⟨c3, c4, rfl, h3, h4⟩ := decS_ok hq h2
    exact ⟨c1 ++ c3, c4, by simp, ⟨c1, c3, rfl, h1, h3⟩, h4⟩
theorem decAll_ok {s : Sh} {l : List SV} {x : Den s} {ws : List AV} (h : decAll s l = some x) (hl : All2 RC l ws) : RE s x ws := by
  unfold decAll at h
  simp only [Option.bind_eq_some_iff] at h
  obtain ⟨⟨p1, p2⟩, hp, h⟩ := h
  obtain ⟨c1, c2, rfl, h1, h2⟩ := decS_ok hp hl
  cases p2 with
  | cons _ _ => simp at h
  | nil => simp only [Option.some.injEq] at h; subst h; cases h2; simpa using h1

theorem RL_refs {s : Sh} {ts : List (Den s)} {w : AV} (h : RL s ts w) : refs w = [] ∧ (∀ p q, lrC p q w = w) ∧ (∀ cs, w ≠ .ag cs) ∧ (∀ cs, w ≠ .tp cs) ∧ w ≠ .ud := by
  rcases h with ⟨es, rfl, _⟩ | ⟨_, rfl | rfl⟩ <;> refine ⟨rfl, fun _ _ => rfl, ?_, ?_, ?_⟩ <;> intros <;> intro hh <;> cases hh
theorem RC_refs : ∀ {v : SV} {w : AV}, RC v w → refsC v = refs w
  | .a v, w, h => by obtain ⟨rfl, _⟩ := h; rfl
  | .ls s ts, w, h => (RL_refs h).1.symm
  | .ri s ts i off, w, h => by obtain ⟨es, rfl, _⟩ := h; rfl
  | .ow s ts, w, h => by obtain ⟨es, rfl, _⟩ := h; rfl
  | .nz, w, h => by rcases h with rfl | rfl <;> rfl
  | .ag _, _, h => h.elim
  | .tp _, _, h => h.elim
  | .uk, _, h => h.elim
theorem RC_lr (p : Nat → Bool) (q : Nat → Nat) : ∀ {v : SV} {w : AV}, RC v w → RC (lrCS p q v) (lrC p q w)
  | .a v, w, h => by
    obtain ⟨rfl, hc⟩ := h
    refine ⟨rfl, ?_⟩
    unfold lrC
    split
    · cases v <;> first | rfl | exact hc
    · rfl
  | .ls s ts, w, h => by rw [(RL_refs h).2.1]; exact h
  | .ri s ts i off, w, h => by obtain ⟨es, rfl, h⟩ := h; exact ⟨es, rfl, h⟩
  | .ow s ts, w, h => by obtain ⟨es, rfl, h⟩ := h; exact ⟨rfl, rfl⟩
  | .nz, w, h => by rcases h with rfl | rfl; exact .inl rfl; exact .inr rfl
  | .ag _, _, h => h.elim
  | .tp _, _, h => h.elim
  | .uk, _, h => h.elim
theorem RC_shape : ∀ {v : SV} {w : AV}, RC v w → (∀ cs, w ≠ .ag cs) ∧ (∀ cs, w ≠ .tp cs)
  | .a v, w, h => by
    obtain ⟨rfl, hc⟩ := h
    constructor <;> (intro cs hh; subst hh; simp [isCell] at hc)
  | .ls s ts, w, h => ⟨(RL_refs h).2.2.1, (RL_refs h).2.2.2.1⟩
  | .ri s ts i off, w, h => by obtain ⟨es, rfl, _⟩ := h; constructor <;> (intro cs hh; cases hh)
  | .ow s ts, w, h => by obtain ⟨es, rfl, _⟩ := h; constructor <;> (intro cs hh; cases hh)
  | .nz, w, h => by rcases h with rfl | rfl <;> (constructor <;> (intro cs hh; cases hh))
  | .ag _, _, h => h.elim
  | .tp _, _, h => h.elim
  | .uk, _, h => h.elim
theorem refsV_cell {w : AV} (h : (∀ cs, w ≠ .ag cs) ∧ (∀ cs, w ≠ .tp cs)) : refsV w = refs w := by
  cases w <;> first | rfl | exact absurd rfl (h.1 _) | exact absurd rfl (h.2 _)
theorem lrV_cell {p : Nat → Bool} {q : Nat → Nat} {w : AV} (h : (∀ cs, w ≠ .ag cs) ∧ (∀ cs, w ≠ .tp cs)) : lrV p q w = lrC p q w := by
  cases w <;> first | rfl | exact absurd rfl (h.1 _) | exact absurd rfl (h.2 _)
theorem lrW_cell {p : Nat → Bool} {q : Nat → Nat} {w : AV} (h : (∀ cs, w ≠ .ag cs) ∧ (∀ cs, w ≠ .tp cs)) : lrW p q w = lrC p q w := by
  cases w <;> first | rfl | exact absurd rfl (h.1 _) | exact absurd rfl (h.2 _)
theorem RC.toW : ∀ {v : SV} {w : AV}, RC v w → RW v w
  | .a _, _, h => h
  | .ls _ _, _, h => h
  | .ri _ _ _ _, _, h => h
  | .ow _ _, _, h => h
  | .nz, _, h => h
  | .ag _, _, h => h.elim
  | .tp _, _, h => h.elim
  | .uk, _, h => h.elim
theorem RW.toV : ∀ {v : SV} {w : AV}, RW v w → RV v w
  | .a _, _, h => h
  | .ls _ _, _, h => h
  | .ri _ _ _ _, _, h => h
  | .ow _ _, _, h => h
  | .nz, _, h => h
  | .ag _, _, h => h
  | .tp _, _, h => h.elim
  | .uk, _, h => trivial
theorem RC.toV {v : SV} {w : AV} (h : RC v w) : RV v w := h.toW.toV
theorem RW_cases {v : SV} {w : AV} (h : RW v w) : (∃ cs ws, v = .ag cs ∧ w = .ag ws ∧ All2 RC cs ws) ∨ RC v w := by
  cases v with
  | ag cs => obtain ⟨ws, rfl, h⟩ := h; exact .inl ⟨cs, ws, rfl, rfl, h⟩
  | _ => exact .inr h
theorem RV_cases {v : SV} {w : AV} (h : RV v w) : (v = .uk) ∨ (∃ cs ws, v = .tp cs ∧ w = .tp ws ∧ All2 RW cs ws) ∨ RW v w := by
  cases v with
  | tp cs => obtain ⟨ws, rfl, h⟩ := h; exact .inr (.inl ⟨cs, ws, rfl, rfl, h⟩)
  | uk => exact .inl rfl
  | _ => exact .inr (.inr h)
theorem RW_refs {v : SV} {w : AV} (h : RW v w) : refsW v = refsV w := by
  rcases RW_cases h with ⟨cs, ws, rfl, rfl, h1⟩ | h
  · exact h1.flatEq fun _ _ h => RC_refs h
  · have h2 := RC_refs h
    have h3 := RC_shape h
    rw [refsV_cell h3, ← h2]
    cases v <;> first | rfl | exact h.elim
theorem refsVW {w : AV} : (∀ cs, w ≠ .tp cs) → (match w with | .ag cs => cs.flatMap refs | v => refs v) = refsV w := fun h => by
  cases w <;> first | rfl | exact absurd rfl (h _)
theorem RV_refs {v : SV} {w : AV} (h : RV v w) (hu : isUk v = false) : refsS v = refsV w := by
  rcases RV_cases h with rfl | ⟨cs, ws, rfl, rfl, h1⟩ | h
  · simp [isUk] at hu
  · have : ∀ a b, RW a b → refsW a = (match b with | .ag cs => cs.flatMap refs | v => refs v) := fun a b hab => by
      rcases RW_cases hab with ⟨cs, ws, rfl, rfl, h1⟩ | h
      · exact h1.flatEq fun _ _ h => RC_refs h
      · have h3 := RC_shape h
        rw [refsVW h3.2]
        exact RW_refs h.toW
    exact h1.flatEq this
  · have := RW_refs h
    rw [← this]
    cases v <;> first | rfl | exact h.elim
theorem RW_lr (p : Nat → Bool) (q : Nat → Nat) {v : SV} {w : AV} (h : RW v w) : RW (lrWS p q v) (lrW p q w) := by
  rcases RW_cases h with ⟨cs, ws, rfl, rfl, h1⟩ | h
  · exact ⟨_, rfl, h1.map2 fun _ _ h => RC_lr p q h⟩
  · rw [lrW_cell (RC_shape h)]
    have := (RC_lr p q h).toW
    cases v <;> first | exact this | exact h.elim
theorem RV_lr (p : Nat → Bool) (q : Nat → Nat) {v : SV} {w : AV} (h : RV v w) : RV (lrVS p q v) (lrV p q w) := by
  rcases RV_cases h with rfl | ⟨cs, ws, rfl, rfl, h1⟩ | h
  · trivial
  · exact ⟨_, rfl, h1.map2 fun _ _ h => RW_lr p q h⟩
  · have h2 := (RW_lr p q h).toV
    have h3 : lrV p q w = lrW p q w := by
      rcases RW_cases h with ⟨cs, ws, rfl, rfl, h⟩ | h
      · rfl
      · rw [lrV_cell (RC_shape h), lrW_cell (RC_shape h)]
    rw [h3]
    cases v <;> first | exact h2 | exact h.elim

theorem RH_blk {h : SHp} {h' : List (Nat × BK)} (hh : RH h h') (b : Nat) : RB (blkS h b) (blk h' b) := by
  induction hh with
  | nil => rfl
  | @cons p q _ _ h1 _ ih =>
    obtain ⟨k, x⟩ := p
    obtain ⟨k', y⟩ := q
    obtain ⟨h2, h3⟩ := h1
    simp only at h2 h3
    subst h2
    simp only [blkS, blk, look]
    split
    · exact h3
    · exact ih
theorem RH_put {h : SHp} {h' : List (Nat × BK)} (hh : RH h h') {x : SB} {y : BK} (hx : RB x y) (b : Nat) : RH (putS h b x) (put h' b y) := by
  induction hh with
  | nil => exact .cons ⟨rfl, hx⟩ .nil
  | @cons p q _ _ h1 h4 ih =>
    obtain ⟨k, x'⟩ := p
    obtain ⟨k', y'⟩ := q
    obtain ⟨h2, h3⟩ := h1
    simp only at h2 h3
    subst h2
    simp only [putS, put]
    split
    · exact .cons ⟨rfl, hx⟩ h4
    · exact .cons ⟨rfl, h3⟩ ih
theorem RH_kill {h : SHp} {h' : List (Nat × BK)} (hh : RH h h') : ∀ l, RH (killS h l) (kill h' l)
  | [] => hh
  | b :: l => by simp only [killS, kill]; exact RH_put (RH_kill hh l) (x := .dd) (y := .dd) rfl b
theorem RB_dd {x : SB} {y : BK} (h : RB x y) : (x = .dd ↔ y = .dd) := by
  cases x with
  | dd => cases h; simp
  | vr sz cs t => obtain ⟨ws, rfl, _⟩ := h; simp
  | row s ts t => obtain ⟨ws, rfl, _⟩ := h; simp
  | ar s ts t => obtain ⟨_, ws, rfl, _⟩ := h; simp
  | mi k g s es => obtain ⟨ws, rfl, _⟩ := h; simp
  | ms g s es => obtain ⟨ws, rfl, _⟩ := h; simp
  | ml es => cases h; simp
theorem RH_alive {h : SHp} {h' : List (Nat × BK)} (hh : RH h h') (b : Nat) : aliveS h b = alive h' b := by
  have := RB_dd (RH_blk hh b)
  unfold aliveS alive
  cases h1 : blkS h b <;> cases h2 : blk h' b <;> simp_all
theorem scal1 : ∀ {s : Sh} {d : Den s} {c : AV}, RE s d [c] → refs c = [] ∧ (∀ p q, lrC p q c = c)
  | .i _, _, _, h => by simp [RE] at h; subst h; exact ⟨rfl, fun _ _ => rfl⟩
  | .b, _, _, h => by simp [RE] at h; subst h; exact ⟨rfl, fun _ _ => rfl⟩
  | .s, _, _, h => by simp [RE] at h; subst h; exact ⟨rfl, fun _ _ => rfl⟩
  | .row _, _, _, h => by
    obtain ⟨w, hw, h⟩ := h
    simp only [List.cons.injEq, and_true] at hw
    subst hw
    exact ⟨(RL_refs h).1, (RL_refs h).2.1⟩
  | .nil, _, _, h => by simp [RE] at h
  | .cons a b, x, c, h => by
    obtain ⟨c1, c2, he, h1, h2⟩ := h
    cases c1 with
    | nil => simp only [List.nil_append] at he; subst he; exact scal1 h2
    | cons c0 c1 =>
      simp only [List.cons_append, List.cons.injEq] at he
      obtain ⟨rfl, he⟩ := he
      have : c1 = [] ∧ c2 = [] := by simpa [eq_comm] using he
      obtain ⟨rfl, rfl⟩ := this
      exact scal1 h1
theorem ar_refs {s : Sh} {ts : List (Den s)} {ws : List AV} (h : All2 (fun d c => RE s d [c]) ts ws) : ws.flatMap refs = [] := by
  induction h with
  | nil => rfl
  | cons h1 _ ih => simp only [List.flatMap_cons, (scal1 h1).1, List.nil_append, ih]
theorem ar_lr (p : Nat → Bool) (q : Nat → Nat) {s : Sh} {ts : List (Den s)} {ws : List AV} (h : All2 (fun d c => RE s d [c]) ts ws) : ws.map (lrC p q) = ws := by
  induction h with
  | nil => rfl
  | cons h1 _ ih => simp only [List.map_cons, (scal1 h1).2, ih]
theorem RB_refs {x : SB} {y : BK} (h : RB x y) : refsB (boneB x) = refsB y := by
  cases x with
  | dd => cases h; rfl
  | vr sz cs t =>
    obtain ⟨ws, rfl, h⟩ := h
    simp only [boneB, refsB, List.flatMap_cons, List.flatMap_nil, List.append_nil]
    have : (cs.map boneC).flatMap refs = cs.flatMap refsC := by
      rw [List.flatMap_map]
      congr 1
      funext v
      cases v <;> rfl
    rw [this]
    exact h.flatEq fun _ _ h => RC_refs h
  | row s ts t => obtain ⟨ws, rfl, _⟩ := h; rfl
  | ar s ts t =>
    obtain ⟨_, ws, rfl, h⟩ := h
    simp only [boneB, refsB, List.flatMap_cons, List.flatMap_nil, List.append_nil]
    exact (ar_refs h).symm
  | mi k g s es => obtain ⟨ws, rfl, _⟩ := h; rfl
  | ms g s es => obtain ⟨ws, rfl, _⟩ := h; rfl
  | ml es => cases h; rfl
theorem RB_lr (p : Nat → Bool) (q : Nat → Nat) {x : SB} {y : BK} (h : RB x y) : RB (lrBS p q x) (lrB p q y) := by
  cases x with
  | dd => cases h; rfl
  | vr sz cs t => obtain ⟨ws, rfl, h⟩ := h; exact ⟨_, rfl, h.map2 fun _ _ h => RC_lr p q h⟩
  | row s ts t => obtain ⟨ws, rfl, h⟩ := h; exact ⟨ws, rfl, h⟩
  | ar s ts t =>
    obtain ⟨h0, ws, rfl, h⟩ := h
    refine ⟨h0, ws, ?_, h⟩
    simp only [lrB, List.map_cons, List.map_nil, ar_lr p q h]
  | mi k g s es => obtain ⟨ws, rfl, h⟩ := h; exact ⟨ws, rfl, h⟩
  | ms g s es => obtain ⟨ws, rfl, h⟩ := h; exact ⟨ws, rfl, h⟩
  | ml es => cases h; rfl
theorem blk_bone (h : SHp) (b : Nat) : blk (bone h) b = boneB (blkS h b) := by
  induction h with
  | nil => rfl
  | cons p l ih =>
    obtain ⟨k, x⟩ := p
    simp only [bone, List.map_cons, blk, look, blkS]
    split
    · rfl
    · exact ih
theorem reach_congr {h1 h2 : List (Nat × BK)} (hr : ∀ b, refsB (blk h1 b) = refsB (blk h2 b)) (hd : ∀ b, blk h1 b = .dd ↔ blk h2 b = .dd) (bs : Nat) : ∀ (n : Nat) (todo seen : List Nat), reach h1 bs n todo seen = reach h2 bs n todo seen
  | 0, _, _ => rfl
  | n + 1, [], _ => rfl
  | n + 1, b :: todo, seen => by
    simp only [reach]
    split
    · exact reach_congr hr hd bs n todo seen
    · have h3 := hr b
      have h4 := hd b
      cases hb1 : blk h1 b <;> cases hb2 : blk h2 b <;> simp_all only [reach_congr hr hd bs n, reduceCtorEq, iff_true, iff_false, true_iff, false_iff, not_true_eq_false, not_false_eq_true]
theorem clo_congr {h1 h2 : List (Nat × BK)} (hr : ∀ b, refsB (blk h1 b) = refsB (blk h2 b)) : ∀ (n : Nat) (todo seen : List Nat), clo h1 n todo seen = clo h2 n todo seen
  | 0, _, _ => rfl
  | n + 1, [], _ => rfl
  | n + 1, b :: todo, seen => by
    simp only [clo, hr]
    split
    · exact clo_congr hr n todo seen
    · exact clo_congr hr n _ _
theorem bone_refs {h : SHp} {h' : List (Nat × BK)} (hh : RH h h') (b : Nat) : refsB (blk (bone h) b) = refsB (blk h' b) := by rw [blk_bone]; exact RB_refs (RH_blk hh b)
theorem bone_dd {h : SHp} {h' : List (Nat × BK)} (hh : RH h h') (b : Nat) : blk (bone h) b = .dd ↔ blk h' b = .dd := by
  rw [blk_bone]
  have := RB_dd (RH_blk hh b)
  rw [← this]
  cases blkS h b <;> simp [boneB]
theorem RH_filter {h : SHp} {h' : List (Nat × BK)} (hh : RH h h') (n : Nat) : RH (h.filter fun p => decide (p.1 < n)) (h'.filter fun p => decide (p.1 < n)) := by
  induction hh with
  | nil => exact .nil
  | cons h1 _ ih =>
    simp only [List.filter_cons, h1.1]
    split
    · exact .cons h1 ih
    · exact ih
theorem RH_mapLr (p : Nat → Bool) (q : Nat → Nat) {h : SHp} {h' : List (Nat × BK)} (hh : RH h h') : RH (h.map fun x => (x.1, lrBS p q x.2)) (h'.map fun x => (x.1, lrB p q x.2)) :=
  hh.map2 fun _ _ h => ⟨h.1, RB_lr p q h.2⟩
theorem RH_num {f : Nat → SB} {g : Nat → BK} (hf : ∀ b, RB (f b) (g b)) : ∀ (l : List Nat) (n : Nat), RH (numS f n l) (num g n l)
  | [], _ => .nil
  | b :: l, n => .cons ⟨rfl, hf b⟩ (RH_num hf l (n + 1))
theorem RH_app {h1 h2 : SHp} {h1' h2' : List (Nat × BK)} (a : RH h1 h1') (b : RH h2 h2') : RH (h1 ++ h2) (h1' ++ h2') := All2.append a b
theorem RH_over {f : Nat → SB} {g : Nat → BK} (hf : ∀ b, RB (f b) (g b)) {h : SHp} {h' : List (Nat × BK)} (hh : RH h h') : ∀ l, RH (overS h f l) (over h' g l)
  | [] => hh
  | b :: l => RH_put (RH_over hf hh l) (hf b) b
theorem RH_lot {h : SHp} {h' : List (Nat × BK)} (hh : RH h h') (U A : List Nat) : RH (lotHS h U A) (lotH h' U A) := by
  unfold lotHS lotH RH
  induction A with
  | nil => exact .nil
  | cons b A ih => exact .cons ⟨rfl, RB_lr _ _ (RH_blk hh b)⟩ ih
theorem RV_map {f : Nat → SV} {g : Nat → AV} (hf : ∀ t, RV (f t) (g t)) : ∀ (l : List Nat) (t : Nat), RV (lookS (l.map fun t => (t, f t)) t) (look .ud (l.map fun t => (t, g t)) t)
  | [], t => ⟨rfl, rfl⟩
  | a :: l, t => by
    simp only [List.map_cons, lookS, look]
    split
    · rename_i h; subst h; exact hf a
    · split
      · trivial
      · exact RV_map hf l t
theorem canon_ok' {live : List Nat} {S : SS} {S' : St} (hs : RS S S') (hl : liveOk live S = true) (hm : mark0 ≤ markOf live ∨ live = []) : RS (canonS live S) (canon live S') := by
  have hbs := hs.bs
  have hrefs : ∀ l : List Nat, liveOk l S = true → (mark0 ≤ markOf l ∨ l = []) → (l.flatMap fun t => refsS (lookS S.tm t)) = l.flatMap fun t => refsV (look .ud S'.tm t) := by
    intro l
    induction l with
    | nil => intro _ _; rfl
    | cons a l ih =>
      intro h1 h2
      cases l with
      | nil =>
        simp only [List.flatMap_cons, List.flatMap_nil, List.append_nil]
        rcases h2 with h2 | h2
        · have h3 := hs.mm a h2
          have h4 := hs.tm a
          rw [h3] at h4 ⊢
          cases hv : lookS S.tm a with
          | uk => rfl
          | _ => rw [hv] at h4; exact RV_refs h4 rfl
        · cases h2
      | cons b l =>
        simp only [liveOk, Bool.and_eq_true, Bool.not_eq_true'] at h1
        have h3 := ih h1.2 (.inl (by rcases h2 with h2 | h2; exact h2; cases h2))
        simp only [List.flatMap_cons] at h3 ⊢
        rw [h3, RV_refs (hs.tm a) h1.1]
  have hold := RH_filter hs.h S.bs
  have hreach : reach (bone S.h) S.bs 4096 (live.flatMap (fun t => refsS (lookS S.tm t)) ++ (bone (S.h.filter fun p => decide (p.1 < S.bs))).flatMap fun p => refsB p.2) [] =
      reach S'.h S.bs 4096 (live.flatMap (fun t => refsV (look .ud S'.tm t)) ++ (S'.h.filter fun p => decide (p.1 < S.bs)).flatMap fun p => refsB p.2) [] := by
    rw [hrefs live hl hm, reach_congr (bone_refs hs.h) (bone_dd hs.h)]
    congr 2
    unfold bone
    rw [List.flatMap_map]
    exact hold.flatEq fun _ _ h => RB_refs h.2
  refine ⟨?_, ?_, ?_, ?_, ?_⟩
  · unfold canonS canon
    simp only [← hbs, hreach]
    exact fun t => RV_map (fun t => by
      by_cases ht : mark0 ≤ t
      · simp only [ht, if_true, hs.mm t ht]; exact ⟨rfl, rfl⟩
      · simp only [ht, if_false]; exact RV_lr _ _ (hs.tm t)) live t
  · intro t ht
    unfold canon
    simp only
    rw [look_live]
    split
    · rw [hs.mm t ht]; rfl
    · rfl
  · unfold canonS canon
    simp only [← hbs, hreach]
    exact RH_app (RH_mapLr _ _ hold) (RH_num (fun b => RB_lr _ _ (RH_blk hs.h b)) _ _)
  · unfold canonS canon
    simp only [← hbs, hreach]
  · unfold canonS canon
    exact hbs
end Go.Am
set_option linter.constructorNameAsVariable false
set_option linter.unusedVariables false
set_option linter.unusedSimpArgs false
namespace Go.Am
section
variable {ρ : Type} {r : ρ} {h : SHp} {h' : List (Nat × BK)} {tm : SM} {tm' : List (Nat × AV)} {nx : Nat} {g : Cfg}

theorem br_some {b : Bool} {x y : Option ρ} (hb : (realN ρ).br b x y = some r) : (b = true ∧ x = some r) ∨ (b = false ∧ y = some r) := by
  cases b
  · exact .inr ⟨rfl, hb⟩
  · exact .inl ⟨rfl, hb⟩
theorem br_no {b : Bool} {x : Option ρ} (hb : (realN ρ).br b x none = some r) : b = true ∧ x = some r := by
  rcases br_some hb with h | ⟨_, h⟩
  · exact h
  · cases h
theorem br_on {b : Bool} {x : Option ρ} (hb : (realN ρ).br b none x = some r) : b = false ∧ x = some r := by
  rcases br_some hb with ⟨_, h⟩ | h
  · cases h
  · exact h

theorem zS_ok {z : List AV} {l : List SV} (h : zS z = some l) : All2 RC l z := by
  unfold zS at h
  split at h
  · rename_i hz
    simp at h; subst h
    induction z with
    | nil => exact .nil
    | cons c z ih => simp only [List.all_cons, Bool.and_eq_true] at hz; exact .cons ⟨rfl, hz.1⟩ (ih hz.2)
  · cases h
theorem ofAV_ok (v : AV) : RV (ofAV v) v := by
  cases v <;> first
    | exact ⟨rfl, rfl⟩
    | trivial
    | skip
  rename_i cs
  show RV (match zS cs with
    | some l => SV.ag l
    | none => SV.uk) (.ag cs)
  cases hz : zS cs with
  | some l => exact ⟨cs, rfl, zS_ok hz⟩
  | none => trivial
theorem RT_rd (ht : RT tm tm') : ∀ x : Opd, RV (rdS tm x) (rd tm' x)
  | .t n => ht n
  | .c v => ofAV_ok v

theorem cellsOfS_ok {v : SV} {w : AV} {cs : List SV} (hv : RV v w) (hc : cellsOfS v = some cs) : ∃ ws, cellsOf w = some ws ∧ All2 RC cs ws := by
  cases v with
  | a u =>
    obtain ⟨rfl, hcell⟩ := hv
    unfold cellsOfS at hc
    cases u <;> first | (simp at hc; done) | (simp at hc; subst hc; exact ⟨_, rfl, .cons ⟨rfl, rfl⟩ .nil⟩)
  | ls s ts =>
    simp [cellsOfS] at hc; subst hc
    rcases hv with ⟨es, rfl, h⟩ | ⟨rfl, rfl | rfl⟩
    · exact ⟨_, rfl, .cons (.inl ⟨es, rfl, h⟩) .nil⟩
    · exact ⟨_, rfl, .cons (.inr ⟨rfl, .inl rfl⟩) .nil⟩
    · exact ⟨_, rfl, .cons (.inr ⟨rfl, .inr rfl⟩) .nil⟩
  | ri s ts i off =>
    simp [cellsOfS] at hc; subst hc
    obtain ⟨es, rfl, h⟩ := hv
    exact ⟨_, rfl, .cons ⟨es, rfl, h⟩ .nil⟩
  | ow s ts => simp [cellsOfS] at hc
  | nz =>
    simp [cellsOfS] at hc; subst hc
    rcases hv with rfl | rfl
    · exact ⟨_, rfl, .cons (.inl rfl) .nil⟩
    · exact ⟨_, rfl, .cons (.inr rfl) .nil⟩
  | ag cs => simp [cellsOfS] at hc; subst hc; obtain ⟨ws, rfl, h⟩ := hv; exact ⟨ws, rfl, h⟩
  | tp vs => simp [cellsOfS] at hc
  | uk => simp [cellsOfS] at hc
theorem spliceS_ok {cs new : List SV} {ws new' : List AV} (h1 : All2 RC cs ws) (h2 : All2 RC new new') (off : Nat) : All2 RC (spliceS cs new off) (splice ws new' off) := by
  unfold spliceS splice
  rw [← h2.length]
  exact ((h1.take off).append h2).append (h1.drop _)
theorem putPartsS_ok (ht : RT tm tm') : ∀ {ps : List (Nat × Nat × Opd)} {z : List SV} {z' : List AV} {cs : List SV}, All2 RC z z' → putPartsS z tm ps = some cs → ∃ ws, putParts z' tm' ps = some ws ∧ All2 RC cs ws
  | [], z, z', cs, hz, h => by simp [putPartsS] at h; subst h; exact ⟨z', rfl, hz⟩
  | (off, n, x) :: ps, z, z', cs, hz, h => by
    simp only [putPartsS] at h
    split at h
    · rename_i cx hcx
      split at h
      · rename_i hlen
        obtain ⟨ws, hw, hr⟩ := cellsOfS_ok (RT_rd ht x) hcx
        obtain ⟨us, hu, hr2⟩ := putPartsS_ok ht (spliceS_ok hz hr off) h
        refine ⟨us, ?_, hr2⟩
        simp only [putParts, hw]
        rw [if_pos ⟨by rw [← hr.length]; exact hlen.1, by rw [← hz.length]; exact hlen.2⟩]
        exact hu
      · cases h
    · cases h
theorem valOfS_ok {cs : List SV} {ws : List AV} {n : Option Nat} {v : SV} (hc : All2 RC cs ws) (h : valOfS cs n = some v) : ∃ w, valOf ws n = some w ∧ RV v w := by
  cases n with
  | some n => simp [valOfS] at h; subst h; exact ⟨_, rfl, ⟨ws, rfl, hc⟩⟩
  | none =>
    unfold valOfS at h
    simp only at h
    split at h
    · simp at h; subst h
      obtain ⟨w, rfl, hw⟩ := hc.one
      exact ⟨w, rfl, hw.toV⟩
    · cases h

theorem snapCS_ok (hh : RH h h') {v : SV} {w : AV} {k : SV → Option ρ} (hv : RC v w) (hk : snapCS (realN ρ) h v k = some r) : ∃ v1 w1, snapC h' w = some w1 ∧ RC v1 w1 ∧ k v1 = some r := by
  cases v with
  | a u =>
    obtain ⟨rfl, hcell⟩ := hv
    unfold snapCS at hk
    cases u <;> simp only at hk <;> first | (cases hk; done) | (exact ⟨.a _, _, rfl, ⟨rfl, rfl⟩, hk⟩) | skip
    rename_i sz b lo len
    split at hk
    · rename_i s ts t hb
      split at hk
      · rename_i hsz
        obtain ⟨hle, hk⟩ := br_no hk
        have hrb := RH_blk hh b
        rw [hb] at hrb
        obtain ⟨es, he, hr⟩ := hrb
        refine ⟨.ls s ((ts.drop lo).take len), .ls sz ((es.drop lo).take len), ?_, Or.inl ⟨_, by rw [hsz], (hr.drop lo).take len⟩, hk⟩
        simp only [snapC, he]
        rw [if_pos ⟨hsz, by rw [← hr.length]; simpa using hle⟩]
      · cases hk
    · cases hk
  | ls s ts =>
    unfold snapCS at hk
    refine ⟨_, w, ?_, hv, hk⟩
    rcases hv with ⟨es, rfl, h⟩ | ⟨rfl, rfl | rfl⟩ <;> rfl
  | ri s ts i off =>
    unfold snapCS at hk
    refine ⟨_, w, ?_, hv, hk⟩
    obtain ⟨es, rfl, h⟩ := hv
    rfl
  | ow s ts => simp [snapCS] at hk
  | nz =>
    unfold snapCS at hk
    refine ⟨_, w, ?_, hv, hk⟩
    rcases hv with rfl | rfl <;> rfl
  | ag cs => simp [snapCS] at hk
  | tp vs => simp [snapCS] at hk
  | uk => simp [snapCS] at hk
theorem snapCS_snap (hh : RH h h') {v : SV} {w : AV} {k : SV → Option ρ} (hv : RC v w) (hk : snapCS (realN ρ) h v k = some r) : ∃ v1 w1, snap h' w = some w1 ∧ RC v1 w1 ∧ k v1 = some r := by
  obtain ⟨v1, w1, h1, h2, h3⟩ := snapCS_ok hh hv hk
  refine ⟨v1, w1, ?_, h2, h3⟩
  cases w <;> first | exact h1 | (simp [snapC] at h1; done) | skip
theorem snapLS_ok {f : SV → (SV → Option ρ) → Option ρ} {f' : AV → Option AV} {R R' : SV → AV → Prop} (hf : ∀ v w k, R v w → f v k = some r → ∃ v1 w1, f' w = some w1 ∧ R' v1 w1 ∧ k v1 = some r) :
    ∀ {cs : List SV} {ws : List AV} {k : List SV → Option ρ}, All2 R cs ws → snapLS f cs k = some r → ∃ l l', snapL f' ws = some l' ∧ All2 R' l l' ∧ k l = some r
  | [], _, k, h, hk => by cases h; exact ⟨[], [], rfl, .nil, hk⟩
  | c :: cs, _, k, h, hk => by
    cases h with
    | cons h1 h2 =>
      simp only [snapLS] at hk
      obtain ⟨v1, w1, h3, h4, h5⟩ := hf _ _ _ h1 hk
      obtain ⟨l, l', h6, h7, h8⟩ := snapLS_ok hf h2 h5
      exact ⟨v1 :: l, w1 :: l', by simp only [snapL, h3, h6], .cons h4 h7, h8⟩
theorem snapVS_ok (hh : RH h h') {v : SV} {w : AV} {k : SV → Option ρ} (hv : RV v w) (hk : snapVS (realN ρ) h v k = some r) : ∃ v1 w1, snapV h' w = some w1 ∧ RW v1 w1 ∧ k v1 = some r := by
  have cell : ∀ {v : SV} {w : AV}, RC v w → snapCS (realN ρ) h v k = some r → ∃ v1 w1, snapV h' w = some w1 ∧ RW v1 w1 ∧ k v1 = some r := fun {v w} hv hk => by
    obtain ⟨v1, w1, h1, h2, h3⟩ := snapCS_snap hh hv hk
    refine ⟨v1, w1, ?_, h2.toW, h3⟩
    have := RC_shape hv
    cases w <;> first | exact h1 | exact absurd rfl (this.1 _)
  cases v with
  | ag cs =>
    obtain ⟨ws, rfl, hv⟩ := hv
    simp only [snapVS] at hk
    obtain ⟨l, l', h1, h2, h3⟩ := snapLS_ok (R := RC) (R' := RC) (f' := snap h') (fun v w k h1 h2 => snapCS_snap hh h1 h2) hv hk
    exact ⟨.ag l, .ag l', by simp [snapV, h1], ⟨l', rfl, h2⟩, h3⟩
  | tp vs => simp [snapVS, snapCS] at hk
  | uk => simp [snapVS, snapCS] at hk
  | a u => exact cell (v := .a u) hv hk
  | ls s ts => exact cell (v := .ls s ts) hv hk
  | ri s ts i off => exact cell (v := .ri s ts i off) hv hk
  | ow s ts => exact cell (v := .ow s ts) hv hk
  | nz => exact cell (v := .nz) hv hk

theorem cellsOfEl_ok {es : List (List AV)} {i off n : Nat} {e : List AV} (he : es[i]? = some e) (hl : off + n ≤ e.length) : cellsOfEl es i off n = some ((e.drop off).take n) := by
  simp only [cellsOfEl, he]
  rw [if_pos hl]
theorem cellsAtS_ok (hh : RH h h') {n : Nat} {v : SV} {w : AV} {k : List SV → Option ρ} (hv : RV v w) (hk : cellsAtS (realN ρ) h n v k = some r) : ∃ cs ws, cellsAt h' n w = some ws ∧ All2 RC cs ws ∧ k cs = some r := by
  cases v with
  | a u =>
    obtain ⟨rfl, hcell⟩ := hv
    cases u with
    | re sz b i off =>
      simp only [cellsAtS] at hk
      have hrb := RH_blk hh b
      split at hk
      · rename_i sz' cs t hb
        rw [hb] at hrb
        obtain ⟨ws, he, hr⟩ := hrb
        split at hk
        · rename_i hc
          obtain ⟨rfl, rfl, hle⟩ := hc
          refine ⟨_, _, ?_, (hr.drop off).take n, hk⟩
          simp only [cellsAt, he, if_true]
          exact cellsOfEl_ok rfl (by rw [← hr.length]; exact hle)
        · cases hk
      · rename_i s ts t hb
        rw [hb] at hrb
        obtain ⟨es, he, hr⟩ := hrb
        split at hk
        · rename_i hc
          obtain ⟨rfl, hle⟩ := hc
          obtain ⟨hi, hk⟩ := br_no hk
          obtain ⟨e, h1, h2⟩ := hr.getD (by simpa using hi) (dft s)
          refine ⟨_, _, ?_, ((encS_ok h2).drop off).take n, hk⟩
          simp only [cellsAt, he, if_true]
          exact cellsOfEl_ok h1 (by rw [RE_len h2]; exact hle)
        · cases hk
      · rename_i s ts t hb
        rw [hb] at hrb
        obtain ⟨hsz, ws, he, hr⟩ := hrb
        split at hk
        · rename_i hc
          obtain ⟨rfl, _, rfl⟩ := hc
          obtain ⟨hi, hk⟩ := br_no hk
          simp only [Bool.and_eq_true, decide_eq_true_eq] at hi
          obtain ⟨e, h1, h2⟩ := hr.getD hi.1 (dft s)
          refine ⟨_, [e], ?_, encS_ok h2, hk⟩
          have hlen : sz = ws.length := by rw [hi.2, hr.length]
          have ho := (List.getElem?_eq_some_iff.1 h1).1
          simp only [cellsAt, he]
          rw [if_pos hlen, cellsOfEl_ok (e := ws) rfl (by omega)]
          rw [List.drop_eq_getElem_cons ho, ← (List.getElem?_eq_some_iff.1 h1).2]
          rfl
        · cases hk
      · cases hk
    | _ => simp [cellsAtS] at hk
  | ri s ts i off =>
    obtain ⟨es, rfl, hr⟩ := hv
    simp only [cellsAtS] at hk
    split at hk
    · rename_i hle
      obtain ⟨hi, hk⟩ := br_no hk
      obtain ⟨e, h1, h2⟩ := hr.getD (by simpa using hi) (dft s)
      refine ⟨_, _, ?_, ((encS_ok h2).drop off).take n, hk⟩
      simp only [cellsAt]
      exact cellsOfEl_ok h1 (by rw [RE_len h2]; exact hle)
    · cases hk
  | _ => simp [cellsAtS] at hk
theorem loadS_ok {n : Option Nat} {v : SV} {w : AV} {ws : List AV} {cs : List SV} (hc : All2 RC cs ws) (hw : cellsAt h' (n.getD 1) w = some ws) (hv : valOfS cs n = some v) : ∃ u, loadA h' n w = some u ∧ RV v u := by
  cases n with
  | some n =>
    simp [valOfS] at hv; subst hv
    exact ⟨.ag ws, by simp only [Option.getD_some] at hw; simp [loadA, hw], ⟨ws, rfl, hc⟩⟩
  | none =>
    unfold valOfS at hv
    simp only at hv
    split at hv
    · simp at hv; subst hv
      obtain ⟨u, rfl, hu⟩ := hc.one
      refine ⟨u, ?_, hu.toV⟩
      simp only [Option.getD_none] at hw
      simp [loadA, hw]
    · cases hv

theorem intOf_ok {v : SV} {w : AV} {n : Int} (hv : RV v w) (h : intOf v = some n) : ∃ k, v = .a (.int k n) ∧ w = .int k n := by
  unfold intOf at h
  split at h
  · simp at h; subst h; obtain ⟨rfl, _⟩ := hv; exact ⟨_, rfl, rfl⟩
  · cases h
theorem pickN_ok {n : Int} {k : Nat → Option ρ} : ∀ (m j : Nat), pickN (realN ρ) n k j m = some r → ∃ q : Nat, j ≤ q ∧ q < j + m ∧ n = q ∧ k q = some r
  | 0, _, h => by cases h
  | m + 1, j, h => by
    simp only [pickN, realN] at h
    by_cases c : n = j
    · rw [decide_eq_true c, cond_true] at h
      exact ⟨j, Nat.le_refl _, by omega, c, h⟩
    · rw [decide_eq_false c, cond_false] at h
      obtain ⟨q, h1, h2, h3⟩ := pickN_ok m (j + 1) h
      exact ⟨q, by omega, by omega, h3⟩
theorem withBound_ok {lo hi : Int} {v : SV} {w : AV} {k : Nat → Option ρ} (hv : RV v w) (hk : withBound (realN ρ) lo hi v k = some r) : ∃ n, bound lo hi w = some n ∧ k n = some r := by
  unfold withBound at hk
  split at hk
  · rename_i n hn
    obtain ⟨kd, rfl, rfl⟩ := intOf_ok hv hn
    obtain ⟨hb, hk⟩ := br_no hk
    simp only [within, Bool.and_eq_true, decide_eq_true_eq] at hb
    exact ⟨n.toNat, by simp only [bound]; rw [if_pos hb], hk⟩
  · cases hk
theorem withPick_ok {len : Nat} {v : SV} {w : AV} {k : Nat → Option ρ} (hv : RV v w) (hk : withPick (realN ρ) len v k = some r) : ∃ n, bound 0 (len - 1) w = some n ∧ k n = some r := by
  unfold withPick at hk
  split at hk
  · rename_i n hn
    obtain ⟨kd, rfl, rfl⟩ := intOf_ok hv hn
    obtain ⟨q, _, h2, rfl, h3⟩ := pickN_ok _ _ hk
    exact ⟨q, by simp only [bound]; rw [if_pos ⟨by omega, by omega⟩, Int.toNat_natCast], h3⟩
  · cases hk
theorem optB_ok {d lo hi : Nat} {o : Option Opd} {k : Nat → Option ρ} (ht : RT tm tm') (hk : optB (realN ρ) d tm lo hi o k = some r) : ∃ n, optInt d tm' lo hi o = some n ∧ k n = some r := by
  cases o with
  | none => exact ⟨d, rfl, hk⟩
  | some x =>
    obtain ⟨n, h1, h2⟩ := withBound_ok (RT_rd ht x) hk
    exact ⟨n, h1, h2⟩
theorem eqB_ok {k : Nat} {x y : SV} {x' y' : AV} {b : Bool} (hx : RC x x') (hy : RC y y') (h : eqB k x y = some b) : eqC k x' y' = some b := by
  unfold eqB at h
  split at h
  · split at h
    · rename_i hk
      simp at h; subst h
      obtain ⟨rfl, _⟩ := hx; obtain ⟨rfl, _⟩ := hy
      simp [eqC, hk]
    · cases h
  · simp at h; subst h; obtain ⟨rfl, _⟩ := hx; obtain ⟨rfl, _⟩ := hy; rfl
  · simp at h; subst h; obtain ⟨rfl, _⟩ := hx; obtain ⟨rfl, _⟩ := hy; rfl
  · cases h
theorem eqBs_ok : ∀ {ks : List Nat} {xs ys : List SV} {xs' ys' : List AV} {b : Bool}, All2 RC xs xs' → All2 RC ys ys' → eqBs ks xs ys = some b → eqCs ks xs' ys' = some b ∧ xs'.length = ks.length ∧ ys'.length = ks.length
  | [], [], [], _, _, b, h1, h2, h => by cases h1; cases h2; simp [eqBs] at h; subst h; exact ⟨rfl, rfl, rfl⟩
  | k :: ks, x :: xs, y :: ys, _, _, b, h1, h2, h => by
    cases h1 with
    | cons h1 h3 => cases h2 with
      | cons h2 h4 =>
        simp only [eqBs, Option.bind_eq_some_iff, Option.map_eq_some_iff] at h
        obtain ⟨p, hp, q, hq, rfl⟩ := h
        obtain ⟨h5, h6, h7⟩ := eqBs_ok h3 h4 hq
        simp only [eqCs, eqB_ok h1 h2 hp, List.length_cons, h6, h7]
        cases p <;> simp [h5]
  | [], [], _ :: _, _, _, _, _, _, h => by simp [eqBs] at h
  | [], _ :: _, _, _, _, _, _, _, h => by simp [eqBs] at h
  | _ :: _, [], _, _, _, _, _, _, h => by simp [eqBs] at h
  | _ :: _, _ :: _, [], _, _, _, _, _, h => by simp [eqBs] at h
end
end Go.Am
set_option linter.constructorNameAsVariable false
set_option linter.unusedVariables false
set_option linter.unusedSimpArgs false
namespace Go.Am
section
variable {ρ : Type} {r : ρ} {h : SHp} {h' : List (Nat × BK)} {tm : SM} {tm' : List (Nat × AV)} {nx : Nat} {g : Cfg}

theorem map_all2 {α β γ : Type} {R : β → γ → Prop} {f : α → β} {k : α → γ} (hf : ∀ a, R (f a) (k a)) : ∀ l : List α, All2 R (l.map f) (l.map k)
  | [] => .nil
  | a :: l => .cons (hf a) (map_all2 hf l)
theorem elemsS_ok (hh : RH h h') {s : Sh} {v : SV} {w : AV} {k : List (Den s) → Option ρ} (hv : RV v w) (hk : elemsS (realN ρ) h s v k = some r) : ∃ ts es, elems h' s.sz w = some es ∧ All2 (RE s) ts es ∧ k ts = some r := by
  cases v with
  | a u =>
    obtain ⟨rfl, hcell⟩ := hv
    unfold elemsS at hk
    cases u <;> simp only at hk <;> first | (cases hk; done) | (exact ⟨[], [], rfl, .nil, hk⟩) | skip
    · split at hk
      · rename_i x e
        subst e
        exact ⟨_, x.data.toList.map fun c => [.int .u8 c.toNat], rfl, map_all2 (R := RE (.i .u8)) (f := fun c : UInt8 => (c.toNat : Int)) (k := fun c : UInt8 => [AV.int .u8 c.toNat]) (fun c => rfl) _, hk⟩
      · cases hk
    · rename_i sz b lo len
      split at hk
      · rename_i s' ts t hb
        split at hk
        · rename_i e
          subst e
          split at hk
          · rename_i hsz
            obtain ⟨hle, hk⟩ := br_no hk
            have hrb := RH_blk hh b
            rw [hb] at hrb
            obtain ⟨es, he, hr⟩ := hrb
            refine ⟨_, _, ?_, (hr.drop lo).take len, hk⟩
            simp only [elems, he]
            rw [if_pos ⟨hsz.symm, trivial, by rw [← hr.length]; simpa using hle⟩]
          · cases hk
        · cases hk
      · cases hk
  | ls s' ts =>
    simp only [elemsS] at hk
    split at hk
    · rename_i e
      subst e
      rcases hv with ⟨es, rfl, h⟩ | ⟨rfl, rfl | rfl⟩
      · exact ⟨_, es, by simp [elems], h, hk⟩
      · exact ⟨_, [], rfl, .nil, hk⟩
      · exact ⟨_, [], rfl, .nil, hk⟩
    · cases hk
  | nz =>
    simp only [elemsS] at hk
    rcases hv with rfl | rfl
    · exact ⟨_, [], rfl, .nil, hk⟩
    · exact ⟨_, [], rfl, .nil, hk⟩
  | _ => simp [elemsS] at hk
theorem lenS_ok (hh : RH h h') {kd : Nat} {v : SV} {w : AV} {n : Int} (hv : RV v w) (hk : lenS h kd v = some n) : ∃ m : Nat, lenA h' kd w = some m ∧ (m : Int) = n := by
  unfold lenS at hk
  split at hk
  · simp at hk; subst hk; obtain ⟨rfl, _⟩ := hv; exact ⟨_, rfl, rfl⟩
  · simp at hk; subst hk; obtain ⟨rfl, _⟩ := hv; exact ⟨0, rfl, rfl⟩
  · simp at hk; subst hk; obtain ⟨rfl, _⟩ := hv; exact ⟨0, rfl, rfl⟩
  · simp at hk; subst hk; rcases hv with rfl | rfl <;> exact ⟨0, rfl, rfl⟩
  · simp at hk; subst hk
    rcases hv with ⟨es, rfl, h⟩ | ⟨rfl, rfl | rfl⟩
    · exact ⟨es.length, rfl, by rw [h.length]⟩
    · exact ⟨0, rfl, rfl⟩
    · exact ⟨0, rfl, rfl⟩
  · rename_i sz b lo len
    split at hk
    · rename_i ha
      simp at hk; subst hk
      obtain ⟨rfl, _⟩ := hv
      rw [RH_alive hh b] at ha
      exact ⟨len, by simp [lenA, ha], rfl⟩
    · cases hk
  · simp at hk; subst hk; obtain ⟨rfl, _⟩ := hv; exact ⟨0, rfl, rfl⟩
  · rename_i b
    obtain ⟨rfl, _⟩ := hv
    have hrb := RH_blk hh b
    split at hk
    · rename_i hb; rw [hb] at hrb; obtain ⟨l, he, hr⟩ := hrb; simp at hk; subst hk; exact ⟨l.length, by simp [lenA, he], by rw [hr.length]⟩
    · rename_i hb; rw [hb] at hrb; obtain ⟨l, he, hr⟩ := hrb; simp at hk; subst hk; exact ⟨l.length, by simp [lenA, he], by rw [hr.length]⟩
    · rename_i es hb; rw [hb] at hrb; have he : blk h' b = .mp es := hrb; simp at hk; subst hk; exact ⟨es.length, by simp [lenA, he], rfl⟩
    · cases hk
  · cases hk
theorem nilS_ok (hh : RH h h') {kd : Nat} {v : SV} {w : AV} {c : Bool → Option ρ} (hv : RV v w) (hk : nilS (realN ρ) h kd v c = some r) : ∃ b, nilA h' kd w = some b ∧ c b = some r := by
  cases v with
  | a u =>
    obtain ⟨rfl, hcell⟩ := hv
    simp only [nilS] at hk
    split at hk
    · exact ⟨true, rfl, hk⟩
    · exact ⟨true, rfl, hk⟩
    · exact ⟨true, rfl, hk⟩
    · exact ⟨true, rfl, hk⟩
    · exact ⟨true, rfl, hk⟩
    · rename_i b _ _
      split at hk
      · rename_i ha; rw [RH_alive hh b] at ha; exact ⟨false, by simp [nilA, ha], hk⟩
      · cases hk
    · rename_i b
      split at hk
      · rename_i ha; rw [RH_alive hh b] at ha; exact ⟨false, by simp [nilA, ha], hk⟩
      · cases hk
    · rename_i b _ _
      split at hk
      · rename_i ha; rw [RH_alive hh b] at ha; exact ⟨false, by simp [nilA, ha], hk⟩
      · cases hk
    · exact ⟨false, rfl, hk⟩
    · cases hk
  | ri s ts i off =>
    simp only [nilS] at hk
    split at hk
    · rename_i hk0; subst hk0; obtain ⟨es, rfl, _⟩ := hv; exact ⟨false, rfl, hk⟩
    · cases hk
  | ls s ts =>
    simp only [nilS] at hk
    split at hk
    · rename_i hk0; subst hk0
      obtain ⟨he, hk⟩ := br_on hk
      rcases hv with ⟨es, rfl, h⟩ | ⟨rfl, _⟩
      · exact ⟨false, rfl, hk⟩
      · simp at he
    · cases hk
  | _ => simp [nilS] at hk
theorem avs_ok : ∀ {vs : List SV} {ws : List AV} {l : List AV}, All2 RV vs ws → avs vs = some l → ws = l
  | [], _, l, h, hl => by cases h; simp [avs] at hl; exact hl.symm
  | v :: vs, _, l, h, hl => by
    cases h with
    | cons h1 h2 =>
      cases v with
      | a u =>
        simp only [avs, Option.map_eq_some_iff] at hl
        obtain ⟨l', hl, rfl⟩ := hl
        obtain ⟨rfl, _⟩ := h1
        rw [avs_ok h2 hl]
      | _ => simp [avs] at hl
theorem RT_rds (ht : RT tm tm') (xs : List Opd) : All2 RV (xs.map (rdS tm)) (xs.map (rd tm')) := map_all2 (fun x => RT_rd ht x) xs
theorem RC_ud {v : SV} {w : AV} (hv : RC v w) : isUdS v = isUd w := by
  cases v with
  | a u => obtain ⟨rfl, _⟩ := hv; cases u <;> rfl
  | ls s ts => rcases hv with ⟨es, rfl, h⟩ | ⟨rfl, rfl | rfl⟩ <;> rfl
  | ri s ts i off => obtain ⟨es, rfl, _⟩ := hv; rfl
  | ow s ts => obtain ⟨es, rfl, _⟩ := hv; rfl
  | nz => rcases hv with rfl | rfl <;> rfl
  | _ => exact hv.elim
theorem RCs_ud {vs : List SV} {ws : List AV} (hv : All2 RC vs ws) : vs.any isUdS = ws.any isUd := by
  induction hv with
  | nil => rfl
  | cons h1 _ ih => simp only [List.any_cons, RC_ud h1, ih]
theorem RE_ud : ∀ {s : Sh} {x : Den s} {cs : List AV}, RE s x cs → cs.any isUd = false
  | .i _, _, _, h => by cases h; rfl
  | .b, _, _, h => by cases h; rfl
  | .s, _, _, h => by cases h; rfl
  | .row _, _, _, h => by
    obtain ⟨w, rfl, h⟩ := h
    rcases h with ⟨es, rfl, h⟩ | ⟨rfl, rfl | rfl⟩ <;> rfl
  | .nil, _, _, h => by cases h; rfl
  | .cons a b, _, _, h => by obtain ⟨c1, c2, rfl, h1, h2⟩ := h; simp [List.any_append, RE_ud h1, RE_ud h2]
theorem REs_ud {s : Sh} {ts : List (Den s)} {es : List (List AV)} (h : All2 (RE s) ts es) : es.flatten.any isUd = false := by
  induction h with
  | nil => rfl
  | cons h1 _ ih => simp only [List.flatten_cons, List.any_append, RE_ud h1, ih, Bool.or_self]
theorem cellsOfS_uk {v : SV} {cs : List SV} (h : cellsOfS v = some cs) : isUk v = false := by
  cases v <;> first | rfl | (simp [cellsOfS] at h)
theorem decs_ok {s : Sh} : ∀ {l : List (List SV)} {es : List (List AV)} {ts : List (Den s)}, All2 (All2 RC) l es → decs s l = some ts → All2 (RE s) ts es
  | [], _, ts, h, hd => by cases h; simp [decs] at hd; subst hd; exact .nil
  | c :: l, _, ts, h, hd => by
    cases h with
    | cons h1 h2 =>
      simp only [decs, Option.bind_eq_some_iff, Option.map_eq_some_iff] at hd
      obtain ⟨x, hx, l', hl, rfl⟩ := hd
      exact .cons (decAll_ok hx h1) (decs_ok h2 hl)
theorem bytes_ok {ts : List Int} {es : List (List AV)} (h : All2 (RE (.i .u8)) ts es) : es.mapM byteA = some (ts.map fun n => UInt8.ofNat n.toNat) := by
  induction h with
  | nil => rfl
  | cons h1 _ ih => cases h1; simp only [List.mapM_cons, byteA, ih, List.map_cons]; rfl
theorem splice_one {ws : List AV} {c : AV} {off : Nat} (h : off < ws.length) : splice ws [c] off = ws.set off c := by
  unfold splice
  rw [List.set_eq_take_append_cons_drop, if_pos h]
  simp

def RF (tm' : List (Nat × AV)) (rf : SM) : Prop := ∀ p ∈ rf, ∃ b, p.2 = .a (.bl b) ∧ look .ud tm' p.1 = .bl b
theorem RF.nil : RF tm' [] := fun p hp => by cases hp
theorem RF.one {t : Nat} {b : Bool} (h : look .ud tm' t = .bl b) : RF tm' [(t, .a (.bl b))] := fun p hp => by
  simp only [List.mem_singleton] at hp
  subst hp
  exact ⟨b, rfl, h⟩

def OkO (tm' : List (Nat × AV)) (k : KV ρ) (r : ρ) (e : Option Ef) : Prop :=
  ∃ rf v h1 nx1 w h1', k rf v h1 nx1 = some r ∧ e = some ⟨w, h1', nx1⟩ ∧ RV v w ∧ RH h1 h1' ∧ RF tm' rf
theorem OkO.mk (hh : RH h h') {k : KV ρ} {v : SV} {w : AV} (hk : k [] v h nx = some r) (hv : RV v w) : OkO tm' k r (one h' nx w) := ⟨_, _, _, _, _, _, hk, rfl, hv, hh, RF.nil⟩
theorem OkO.mk' {k : KV ρ} {v : SV} {w : AV} {h1 : SHp} {h1' : List (Nat × BK)} {n : Nat} (hk : k [] v h1 n = some r) (hv : RV v w) (hh : RH h1 h1') : OkO tm' k r (some ⟨w, h1', n⟩) := ⟨_, _, _, _, _, _, hk, rfl, hv, hh, RF.nil⟩
theorem OkO.mv {k : KV ρ} {v : SV} {u u' : AV} {h1 : SHp} {h1' : List (Nat × BK)} {n : Nat} (hk : k [] v h1 n = some r) (hv : RV v u) (hh : RH h1 h1') (he : u = u') : OkO tm' k r (some ⟨u', h1', n⟩) := by subst he; exact OkO.mk' hk hv hh

variable {H : Hint} {k : KV ρ}
theorem o_mv (ht : RT tm tm') (hh : RH h h') {x : Opd} (hk : opS (realN ρ) H tm h nx (.mv x) k = some r) : OkO tm' k r (opA tm' h' nx (.mv x)) := by
  simp only [opS] at hk
  exact OkO.mk hh hk (RT_rd ht x)
theorem o_pk (ht : RT tm tm') (hh : RH h h') {c x y : Opd} (hk : opS (realN ρ) H tm h nx (.pk c x y) k = some r) : OkO tm' k r (opA tm' h' nx (.pk c x y)) := by
  simp only [opS] at hk
  cases c with
  | t t =>
    try simp only at hk
    split at hk
    · rename_i p hp
      have h1 : look .ud tm' t = .bl p := by have := ht t; rw [hp] at this; exact this.1.symm
      have h2 : rd tm' (.t t) = .bl p := h1
      rcases br_some hk with ⟨rfl, hk⟩ | ⟨rfl, hk⟩
      · exact ⟨_, _, _, _, _, _, hk, by simp only [opA, h2, one, if_true], RT_rd ht x, hh, RF.one h1⟩
      · exact ⟨_, _, _, _, _, _, hk, by simp only [opA, h2, one, Bool.false_eq_true, if_false], RT_rd ht y, hh, RF.one h1⟩
    · cases hk
  | c v =>
    split at hk
    · rename_i p hp; cases hp
    · rename_i p hp
      injection hp with hp
      subst hp
      have h2 : rd tm' (.c (.bl p)) = .bl p := rfl
      cases p
      · simp only [Bool.false_eq_true, if_false] at hk
        simp only [opA, h2, Bool.false_eq_true, if_false]
        exact OkO.mk hh hk (RT_rd ht y)
      · simp only [if_true] at hk
        simp only [opA, h2, if_true]
        exact OkO.mk hh hk (RT_rd ht x)
    · cases hk
theorem o_al (ht : RT tm tm') (hh : RH h h') {z : List AV} {t : TypeId} (hk : opS (realN ρ) H tm h nx (.al z t) k = some r) : OkO tm' k r (opA tm' h' nx (.al z t)) := by
  simp only [opS] at hk
  split at hk
  · rename_i s hs
    split at hk
    · rename_i hsz
      split at hk
      · rename_i ts hts
        simp only [Option.bind_eq_some_iff] at hts
        obtain ⟨l, hl, hts⟩ := hts
        have h1 := zS_ok hl
        have h2 : All2 (All2 RC) (l.map fun c => [c]) (z.map fun c => [c]) := h1.map2 fun a b h => .cons h .nil
        have h3 := decs_ok h2 hts
        have h4 : All2 (fun d c => RE s d [c]) ts z := by
          have aux : ∀ {ts : List (Den s)} {z : List AV}, All2 (RE s) ts (z.map fun c => [c]) → All2 (fun d c => RE s d [c]) ts z := by
            intro ts z
            induction z generalizing ts with
            | nil => intro h; cases h; exact .nil
            | cons c z ih => intro h; cases h with
              | cons h1 h2 => exact .cons h1 (ih h2)
          exact aux h3
        simp only [opA]
        exact OkO.mk' hk ⟨rfl, rfl⟩ (.cons ⟨rfl, hsz, z, rfl, h4⟩ hh)
      · cases hk
    · cases hk
  · split at hk
    · rename_i l hl
      have h1 := zS_ok hl
      simp only [opA]
      exact OkO.mk' hk ⟨rfl, rfl⟩ (.cons ⟨rfl, z, rfl, h1⟩ hh)
    · cases hk
theorem o_bx (ht : RT tm tm') (hh : RH h h') {x : Opd} {t : TypeId} (hk : opS (realN ρ) H tm h nx (.bx t x) k = some r) : OkO tm' k r (opA tm' h' nx (.bx t x)) := by
  simp only [opS] at hk
  split at hk
  · rename_i cs hcs
    obtain ⟨ws, hw, hr⟩ := cellsOfS_ok (RT_rd ht x) hcs
    simp only [opA, hw]
    exact OkO.mk' hk ⟨by rw [hr.length], rfl⟩ (.cons ⟨rfl, ws, by rw [hr.length], hr⟩ hh)
  · cases hk
theorem o_bd (ht : RT tm tm') (hh : RH h h') {z : List AV} {ps : List (Nat × Nat × Opd)} (hk : opS (realN ρ) H tm h nx (.bd z ps) k = some r) : OkO tm' k r (opA tm' h' nx (.bd z ps)) := by
  simp only [opS] at hk
  split at hk
  · rename_i cs hcs
    simp only [Option.bind_eq_some_iff] at hcs
    obtain ⟨l, hl, hcs⟩ := hcs
    obtain ⟨ws, hw, hr⟩ := putPartsS_ok ht (zS_ok hl) hcs
    simp only [opA, hw, Option.bind_some]
    exact OkO.mk hh hk ⟨ws, rfl, hr⟩
  · cases hk
theorem bs_go (ht : RT tm tm') (hh : RH h h') {s : Sh} {t : TypeId} {sz : Nat} {ps : List (Nat × Opd)} (hsz : s.sz = sz) : ∀ {l : List (Nat × Opd)} {ts : List (Den s)} {es : List (List AV)}, (∀ p ∈ l, ∀ cs, cellsOfS (rdS tm p.2) = some cs → True) → All2 (RE s) ts es →
    opS.go (realN ρ) tm h nx k sz t ps s l ts = some r → ∃ ts' es', putElems h' es sz tm' l = some es' ∧ All2 (RE s) ts' es' ∧ ts'.length = ts.length ∧ (∀ p ∈ l, isUk (rdS tm p.2) = false) ∧
      k [] (.a (.sl sz nx 0 ts'.length)) ((nx, .row s ts' t) :: killS h (ps.flatMap fun p => refsS (rdS tm p.2))) (nx + 1) = some r
  | [], ts, es, _, he, hk => by
    rw [opS.go] at hk
    exact ⟨ts, es, rfl, he, rfl, (fun p hp => by cases hp), hk⟩
  | (i, x) :: l, ts, es, h0, he, hk => by
    rw [opS.go] at hk
    split at hk
    · rename_i cs hcs
      obtain ⟨ws, hw, hr⟩ := cellsOfS_ok (RT_rd ht x) hcs
      obtain ⟨l1, l1', h1, h2, h3⟩ := snapLS_ok (R := RC) (R' := RC) (f' := snapC h') (fun v w k h1 h2 => snapCS_ok hh h1 h2) hr hk
      split at h3
      · rename_i y hy
        have h4 := decAll_ok hy h2
        obtain ⟨ts', es', h5, h6, h7, h8, h9⟩ := bs_go ht hh hsz (fun p hp => h0 p (List.mem_cons_of_mem _ hp)) (he.set h4 i) h3
        refine ⟨ts', es', ?_, h6, by rw [h7, List.length_set], ?_, h9⟩
        · simp only [putElems, hw, h1]
          rw [if_pos (by rw [RE_len h4, hsz])]
          exact h5
        · intro p hp
          rcases List.mem_cons.1 hp with rfl | hp
          · exact cellsOfS_uk hcs
          · exact h8 p hp
      · cases h3
    · cases hk
theorem flat_congr {α β : Type} {f g : α → List β} : ∀ {l : List α}, (∀ a ∈ l, f a = g a) → l.flatMap f = l.flatMap g
  | [], _ => rfl
  | a :: l, h => by simp only [List.flatMap_cons, h a (List.mem_cons_self ..), flat_congr fun b hb => h b (List.mem_cons_of_mem _ hb)]
theorem o_bs (ht : RT tm tm') (hh : RH h h') {sz len : Nat} {z : List AV} {t : TypeId} {ps : List (Nat × Opd)} (hk : opS (realN ρ) H tm h nx (.bs sz len z t ps) k = some r) : OkO tm' k r (opA tm' h' nx (.bs sz len z t ps)) := by
  simp only [opS] at hk
  split at hk
  · rename_i s hs
    split at hk
    · rename_i hsz
      split at hk
      · rename_i d hd
        simp only [Option.bind_eq_some_iff] at hd
        obtain ⟨l, hl, hd⟩ := hd
        have h1 := decAll_ok hd (zS_ok hl)
        obtain ⟨ts', es', h2, h3, h4, h5, h6⟩ := bs_go ht hh hsz (fun _ _ _ _ => trivial) (All2.rep h1 len) hk
        simp only [opA, h2, Option.bind_some]
        have hlen : ts'.length = len := by rw [h4, List.length_replicate]
        have hrf : (ps.flatMap fun p => refsS (rdS tm p.2)) = ps.flatMap fun p => refsV (rd tm' p.2) := flat_congr fun p hp => RV_refs (RT_rd ht p.2) (h5 p hp)
        rw [hrf] at h6
        exact OkO.mk' h6 ⟨by rw [hlen], rfl⟩ (.cons ⟨rfl, es', by rw [hsz], h3⟩ (RH_kill hh _))
      · cases hk
    · cases hk
  · cases hk
end
end Go.Am
set_option linter.constructorNameAsVariable false
set_option linter.unusedVariables false
set_option linter.unusedSimpArgs false
namespace Go.Am
section
variable {ρ : Type} {r : ρ} {h : SHp} {h' : List (Nat × BK)} {tm : SM} {tm' : List (Nat × AV)} {nx : Nat} {g : Cfg} {H : Hint} {k : KV ρ}

theorem o_ld (ht : RT tm tm') (hh : RH h h') {n : Option Nat} {x : Opd} (hk : opS (realN ρ) H tm h nx (.ld n x) k = some r) : OkO tm' k r (opA tm' h' nx (.ld n x)) := by
  simp only [opS] at hk
  obtain ⟨cs, ws, h1, h2, h3⟩ := cellsAtS_ok hh (RT_rd ht x) hk
  split at h3
  · rename_i v hv
    obtain ⟨u, hu, hr⟩ := loadS_ok h2 h1 hv
    simp only [opA, hu, Option.bind_some]
    exact OkO.mk hh h3 hr
  · cases h3
theorem o_sr (ht : RT tm tm') (hh : RH h h') {n : Nat} {a x : Opd} (hk : opS (realN ρ) H tm h nx (.sr n a x) k = some r) : OkO tm' k r (opA tm' h' nx (.sr n a x)) := by
  simp only [opS] at hk
  split at hk
  · rename_i new hnew
    obtain ⟨new', hw, hr⟩ := cellsOfS_ok (RT_rd ht x) hnew
    split at hk
    · cases hk
    · rename_i hc
      have hc' : ¬ (new'.length ≠ n ∨ new'.any isUd = true) := by rw [← hr.length, ← RCs_ud hr]; exact hc
      split at hk
      · rename_i sz b i off ha
        have hra : rd tm' a = .re sz b i off := by have := RT_rd ht a; rw [ha] at this; exact this.1.symm
        have hrb := RH_blk hh b
        split at hk
        · rename_i sz' cs t hb
          rw [hb] at hrb
          obtain ⟨ws, he, hr2⟩ := hrb
          split at hk
          · rename_i hcc
            obtain ⟨rfl, rfl, hle⟩ := hcc
            simp only [opA, hw, hra, he]
            rw [if_neg hc', if_neg (by simp)]
            simp only [List.getElem?_cons_zero]
            rw [if_pos (by rw [← hr2.length]; exact hle)]
            exact OkO.mk' hk ⟨rfl, rfl⟩ (RH_put hh (x := .vr sz (spliceS cs new off) t) ⟨_, rfl, spliceS_ok hr2 hr off⟩ b)
          · cases hk
        · rename_i s ts t hb
          rw [hb] at hrb
          obtain ⟨hsz, ws, he, hr2⟩ := hrb
          split at hk
          · rename_i y hy
            have h4 := decAll_ok hy hr
            split at hk
            · rename_i hcc
              obtain ⟨_, rfl⟩ := hcc
              obtain ⟨hi, hk⟩ := br_no hk
              simp only [Bool.and_eq_true, decide_eq_true_eq] at hi
              have hlen : sz = ws.length := by rw [hi.2, hr2.length]
              have hn : new'.length = 1 := by rw [RE_len h4, hsz]
              obtain ⟨c, rfl⟩ : ∃ c, new' = [c] := by
                cases new' with
                | nil => simp at hn
                | cons c l => cases l with
                  | nil => exact ⟨c, rfl⟩
                  | cons => simp at hn
              have hn1 : n = 1 := by
                have := fun hne => hc' (.inl hne)
                simpa [eq_comm] using this
              have hoff : off < ws.length := by rw [← hr2.length]; exact hi.1
              simp only [opA, hw, hra, he]
              rw [if_neg hc', if_neg (by simp [hlen])]
              simp only [List.getElem?_cons_zero]
              rw [if_pos (by omega)]
              simp only [if_true, splice_one hoff, List.set_cons_zero]
              refine OkO.mk' hk ⟨rfl, rfl⟩ (RH_put hh (x := .ar s (ts.set off y) t) ⟨hsz, ws.set off c, by rw [List.length_set, hlen], hr2.set h4 off⟩ b)
            · cases hk
          · cases hk
        · rename_i s ts t hb
          rw [hb] at hrb
          obtain ⟨es, he, hr2⟩ := hrb
          split at hk
          · rename_i hcc
            obtain ⟨rfl, hle, hcon⟩ := hcc
            obtain ⟨l1, l1', h1, h2, h3⟩ := snapLS_ok (R := RC) (R' := RC) (f' := snapC h') (fun v w k h1 h2 => snapCS_ok hh h1 h2) hr hk
            obtain ⟨hi, h3⟩ := br_no h3
            obtain ⟨e, h5, h6⟩ := hr2.getD (by simpa using hi) (dft s)
            split at h3
            · rename_i y hy
              have h4 := decAll_ok hy (spliceS_ok (encS_ok h6) h2 off)
              have hrf : new.flatMap refsC = new'.flatMap refs := hr.flatEq fun _ _ h => RC_refs h
              simp only [opA, hw, hra, he]
              rw [if_neg hc', if_neg (by simp)]
              simp only [h5]
              rw [if_pos (by rw [RE_len h6]; exact hle)]
              simp only [Bool.false_eq_true, if_false]
              rw [hrf] at hcon h3
              simp only [hcon, Bool.false_eq_true, if_false, h1]
              exact OkO.mk' h3 ⟨rfl, rfl⟩ (RH_put (RH_kill hh _) (x := .row s (ts.set i y) t) ⟨_, rfl, hr2.set h4 i⟩ b)
            · cases h3
          · cases hk
        · cases hk
      · cases hk
  · cases hk
theorem RV_re {v : SV} {w : AV} {sz b i off : Nat} (hv : RV v w) (h : v = .a (.re sz b i off)) : w = .re sz b i off := by subst h; exact hv.1.symm
theorem o_nc (ht : RT tm tm') (hh : RH h h') {x : Opd} (hk : opS (realN ρ) H tm h nx (.nc x) k = some r) : OkO tm' k r (opA tm' h' nx (.nc x)) := by
  simp only [opS] at hk
  have hx := RT_rd ht x
  split at hk
  · rename_i sz b i off ha
    rw [ha] at hx
    have hx' := hx.1.symm
    split at hk
    · rename_i hal
      rw [RH_alive hh b] at hal
      simp only [opA, hx', hal, if_true]
      exact OkO.mk hh hk ⟨rfl, rfl⟩
    · cases hk
  · rename_i s ts i off ha
    rw [ha] at hx
    obtain ⟨es, hx', hr⟩ := hx
    simp only [opA, hx']
    exact OkO.mk hh hk ⟨es, rfl, hr⟩
  · rename_i f caps ha
    rw [ha] at hx
    have hx' := hx.1.symm
    simp only [opA, hx']
    exact OkO.mk hh hk ⟨rfl, rfl⟩
  · cases hk
theorem o_bn (ht : RT tm tm') (hh : RH h h') {op : BinOp} {x y : Opd} (hk : opS (realN ρ) H tm h nx (.bn op x y) k = some r) : OkO tm' k r (opA tm' h' nx (.bn op x y)) := by
  simp only [opS] at hk
  have hx := RT_rd ht x
  have hy := RT_rd ht y
  split at hk
  · rename_i v w hv hw
    rw [hv] at hx; rw [hw] at hy
    have hx' := hx.1.symm
    have hy' := hy.1.symm
    simp only [opA, hx', hy']
    split at hk
    · obtain ⟨h0, hk⟩ := br_on hk
      simp only [decide_eq_false_iff_not] at h0
      simp only [binA, h0, if_false, Option.bind_some]
      exact OkO.mk hh hk ⟨rfl, rfl⟩
    · obtain ⟨h0, hk⟩ := br_on hk
      simp only [decide_eq_false_iff_not] at h0
      simp only [binA, h0, if_false, Option.bind_some]
      exact OkO.mk hh hk ⟨rfl, rfl⟩
    · split at hk
      · rename_i hkd
        subst hkd
        obtain ⟨h0, hk⟩ := br_on hk
        simp only [decide_eq_false_iff_not] at h0
        simp only [binA, h0, if_false, ne_eq, not_true_eq_false, Option.bind_some]
        exact OkO.mk hh hk ⟨rfl, rfl⟩
      · cases hk
    · split at hk
      · rename_i hkd
        subst hkd
        obtain ⟨h0, hk⟩ := br_on hk
        simp only [decide_eq_false_iff_not] at h0
        simp only [binA, h0, if_false, ne_eq, not_true_eq_false, Option.bind_some]
        exact OkO.mk hh hk ⟨rfl, rfl⟩
      · cases hk
    · obtain ⟨h0, hk⟩ := br_on hk
      simp only [decide_eq_false_iff_not] at h0
      simp only [binA, h0, if_false, Option.bind_some]
      exact OkO.mk hh hk ⟨rfl, rfl⟩
    · split at hk
      · rename_i u hu
        split at hk
        · rename_i hcell
          simp only [hu, Option.bind_some]
          exact OkO.mk hh hk ⟨rfl, hcell⟩
        · cases hk
      · cases hk
  · cases hk
theorem o_ea (ht : RT tm tm') (hh : RH h h') {neg : Bool} {ks : List Nat} {x y : Opd} (hk : opS (realN ρ) H tm h nx (.ea neg ks x y) k = some r) : OkO tm' k r (opA tm' h' nx (.ea neg ks x y)) := by
  simp only [opS] at hk
  have hx := RT_rd ht x
  have hy := RT_rd ht y
  split at hk
  · rename_i a b ha hb
    rw [ha] at hx; rw [hb] at hy
    obtain ⟨a', hx', hx⟩ := hx
    obtain ⟨b', hy', hy⟩ := hy
    split at hk
    · rename_i p hp
      obtain ⟨h1, h2, h3⟩ := eqBs_ok hx hy hp
      simp only [opA, hx', hy']
      rw [if_pos ⟨h2, h3⟩]
      simp only [h1, Option.bind_some]
      exact OkO.mk hh hk ⟨rfl, rfl⟩
    · cases hk
  · cases hk
theorem o_eb (ht : RT tm tm') (hh : RH h h') {neg : Bool} {x y : Opd} (hk : opS (realN ρ) H tm h nx (.eb neg x y) k = some r) : OkO tm' k r (opA tm' h' nx (.eb neg x y)) := by
  simp only [opS] at hk
  have hx := RT_rd ht x
  have hy := RT_rd ht y
  split at hk
  · rename_i a b ha hb
    rw [ha] at hx; rw [hb] at hy
    simp only [opA, hx.1.symm, hy.1.symm]
    exact OkO.mk hh hk ⟨rfl, rfl⟩
  · cases hk
theorem o_nq (ht : RT tm tm') (hh : RH h h') {neg : Bool} {kd : Nat} {x : Opd} (hk : opS (realN ρ) H tm h nx (.nq neg kd x) k = some r) : OkO tm' k r (opA tm' h' nx (.nq neg kd x)) := by
  simp only [opS] at hk
  obtain ⟨b, h1, h2⟩ := nilS_ok hh (RT_rd ht x) hk
  simp only [opA, h1, Option.bind_some]
  exact OkO.mk hh h2 ⟨rfl, rfl⟩
theorem o_un (ht : RT tm tm') (hh : RH h h') {op : UnOp} {x : Opd} (hk : opS (realN ρ) H tm h nx (.un op x) k = some r) : OkO tm' k r (opA tm' h' nx (.un op x)) := by
  simp only [opS] at hk
  have hx := RT_rd ht x
  split at hk
  · rename_i ha
    rw [ha] at hx
    simp only [opA, hx.1.symm]
    exact OkO.mk hh hk ⟨rfl, rfl⟩
  · rename_i ha
    rw [ha] at hx
    simp only [opA, hx.1.symm]
    exact OkO.mk hh hk ⟨rfl, rfl⟩
  · cases hk
theorem o_ci (ht : RT tm tm') (hh : RH h h') {kd : IntKind} {x : Opd} (hk : opS (realN ρ) H tm h nx (.ci kd x) k = some r) : OkO tm' k r (opA tm' h' nx (.ci kd x)) := by
  simp only [opS] at hk
  have hx := RT_rd ht x
  split at hk
  · rename_i ha
    rw [ha] at hx
    simp only [opA, hx.1.symm]
    exact OkO.mk hh hk ⟨rfl, rfl⟩
  · cases hk
theorem o_cv1 (ht : RT tm tm') (hh : RH h h') {x : Opd} (hk : opS (realN ρ) H tm h nx (.cv1 x) k = some r) : OkO tm' k r (opA tm' h' nx (.cv1 x)) := by
  simp only [opS] at hk
  have hx := RT_rd ht x
  split at hk
  · rename_i ha
    rw [ha] at hx
    simp only [opA, hx.1.symm]
    exact OkO.mk hh hk ⟨rfl, rfl⟩
  · cases hk
theorem o_cs (ht : RT tm tm') (hh : RH h h') {t : TypeId} {x : Opd} (hk : opS (realN ρ) H tm h nx (.cs t x) k = some r) : OkO tm' k r (opA tm' h' nx (.cs t x)) := by
  simp only [opS] at hk
  have hx := RT_rd ht x
  split at hk
  · rename_i s ha
    rw [ha] at hx
    simp only [opA, hx.1.symm]
    exact OkO.mk' hk ⟨rfl, rfl⟩ (.cons ⟨rfl, _, rfl, map_all2 (R := RE (.i .u8)) (f := fun c : UInt8 => (c.toNat : Int)) (k := fun c : UInt8 => [AV.int .u8 c.toNat]) (fun c => rfl) _⟩ hh)
  · cases hk
theorem o_cb (ht : RT tm tm') (hh : RH h h') {x : Opd} (hk : opS (realN ρ) H tm h nx (.cb x) k = some r) : OkO tm' k r (opA tm' h' nx (.cb x)) := by
  simp only [opS] at hk
  have hx := RT_rd ht x
  split at hk
  · cases hk
  · rename_i hns
    obtain ⟨ts, es, h1, h2, h3⟩ := elemsS_ok hh hx hk
    have h4 : ∀ s, rd tm' x ≠ .st s := fun s hs => by
      rw [hs] at hx
      generalize rdS tm x = v at hx hk hns
      cases v with
      | a u => obtain ⟨rfl, _⟩ := hx; exact hns _ rfl
      | ls s ts => rcases hx with ⟨es, h, _⟩ | ⟨_, h | h⟩ <;> cases h
      | ri s ts i off => obtain ⟨es, h, _⟩ := hx; cases h
      | ow s ts => obtain ⟨es, h, _⟩ := hx; cases h
      | nz => rcases hx with h | h <;> cases h
      | ag cs => obtain ⟨es, h, _⟩ := hx; cases h
      | tp cs => obtain ⟨es, h, _⟩ := hx; cases h
      | uk => simp [elemsS] at hk
    simp only [Sh.sz] at h1
    simp only [opA, h1, Option.bind_some, bytes_ok h2]
    exact OkO.mk hh h3 ⟨rfl, rfl⟩
theorem moveP_re {off : Nat} {sz b i o : Nat} (ha : alive h' b = true) : moveP h' off (.re sz b i o) = some (.re sz b i (o + off)) := by
  unfold alive at ha
  unfold moveP
  cases hb : blk h' b <;> simp_all
theorem o_fa (ht : RT tm tm') (hh : RH h h') {off : Nat} {x : Opd} (hk : opS (realN ρ) H tm h nx (.fa off x) k = some r) : OkO tm' k r (opA tm' h' nx (.fa off x)) := by
  simp only [opS] at hk
  have hx := RT_rd ht x
  split at hk
  · rename_i sz b i o ha
    rw [ha] at hx
    split at hk
    · rename_i hal
      rw [RH_alive hh b] at hal
      simp only [opA, hx.1.symm, moveP_re hal, Option.bind_some]
      exact OkO.mk hh hk ⟨rfl, rfl⟩
    · cases hk
  · rename_i s ts i o ha
    rw [ha] at hx
    obtain ⟨es, hx', hr⟩ := hx
    simp only [opA, hx', moveP, Option.bind_some]
    exact OkO.mk hh hk ⟨es, rfl, hr⟩
  · cases hk
theorem o_fd (ht : RT tm tm') (hh : RH h h') {off : Nat} {n : Option Nat} {x : Opd} (hk : opS (realN ρ) H tm h nx (.fd off n x) k = some r) : OkO tm' k r (opA tm' h' nx (.fd off n x)) := by
  simp only [opS] at hk
  have hx := RT_rd ht x
  split at hk
  · rename_i cs ha
    rw [ha] at hx
    obtain ⟨ws, hx', hr⟩ := hx
    split at hk
    · rename_i v hv
      obtain ⟨w, h1, h2⟩ := valOfS_ok ((hr.drop off).take (n.getD 1)) hv
      simp only [opA, hx', h1, Option.bind_some]
      exact OkO.mk hh hk h2
    · cases hk
  · cases hk
theorem o_ia (ht : RT tm tm') (hh : RH h h') {arr : Option Nat} {sz : Nat} {x i : Opd} (hk : opS (realN ρ) H tm h nx (.ia arr sz x i) k = some r) : OkO tm' k r (opA tm' h' nx (.ia arr sz x i)) := by
  simp only [opS] at hk
  have hx := RT_rd ht x
  have hi := RT_rd ht i
  split at hk
  · split at hk
    · rename_i z b j o ha
      rw [ha] at hx
      split at hk
      · rename_i hal
        rw [RH_alive hh b] at hal
        split at hk
        · obtain ⟨q, h1, h2⟩ := withPick_ok hi hk
          simp only [opA, hx.1.symm, h1, Option.bind_some, moveP_re hal]
          exact OkO.mk hh h2 ⟨rfl, rfl⟩
        · obtain ⟨q, h1, h2⟩ := withBound_ok hi hk
          simp only [opA, hx.1.symm, h1, Option.bind_some, moveP_re hal]
          exact OkO.mk hh h2 ⟨rfl, rfl⟩
      · cases hk
    · cases hk
  · split at hk
    · rename_i s ts ha
      rw [ha] at hx
      split at hk
      · rename_i hsz
        obtain ⟨q, h1, h2⟩ := withBound_ok hi hk
        rcases hx with ⟨es, hx', hr⟩ | ⟨rfl, _⟩
        · simp only [opA, hx']
          rw [if_neg (by simp [hsz])]
          rw [hr.length] at h1
          simp only [h1, Option.bind_some]
          exact OkO.mk hh h2 ⟨es, by rw [hsz], hr⟩
        · exfalso
          unfold bound at h1
          split at h1
          · simp only [Option.ite_none_right_eq_some] at h1
            have h3 := h1.1.1
            have h4 := h1.1.2
            have h5 : (([] : List (Den s)).length : Int) = 0 := rfl
            rw [h5] at h4
            omega
          · cases h1
      · cases hk
    · rename_i sz' b lo len ha
      rw [ha] at hx
      split at hk
      · cases hk
      · rename_i hc
        obtain ⟨q, h1, h2⟩ := withBound_ok hi hk
        rw [RH_alive hh b] at hc
        simp only [opA, hx.1.symm]
        rw [if_neg hc]
        simp only [h1, Option.bind_some]
        exact OkO.mk hh h2 ⟨rfl, rfl⟩
    · cases hk
theorem ix_go {cs : List SV} {n : Option Nat} {sz : Nat} {m : Int} : ∀ {fuel q : Nat}, opS.goIx (realN ρ) h nx k sz n cs m q fuel = some r → ∃ j : Nat, q ≤ j ∧ j < q + fuel ∧ m = j ∧ ∃ v, valOfS ((cs.drop (j * sz)).take sz) n = some v ∧ k [] v h nx = some r
  | 0, q, hk => by rw [opS.goIx] at hk; cases hk
  | fuel + 1, q, hk => by
    rw [opS.goIx] at hk
    rcases br_some hk with ⟨h1, h2⟩ | ⟨_, h2⟩
    · split at h2
      · rename_i v hv
        exact ⟨q, Nat.le_refl _, by omega, by simpa using h1, v, hv, h2⟩
      · cases h2
    · obtain ⟨j, h3, h4, h5, h6⟩ := ix_go h2
      exact ⟨j, by omega, by omega, h5, h6⟩
theorem o_ix (ht : RT tm tm') (hh : RH h h') {len sz : Nat} {n : Option Nat} {x i : Opd} (hk : opS (realN ρ) H tm h nx (.ix len sz n x i) k = some r) : OkO tm' k r (opA tm' h' nx (.ix len sz n x i)) := by
  simp only [opS] at hk
  have hx := RT_rd ht x
  have hi := RT_rd ht i
  split at hk
  · rename_i cs ha
    rw [ha] at hx
    obtain ⟨ws, hx', hr⟩ := hx
    split at hk
    · rename_i m hm
      obtain ⟨kd, _, hi'⟩ := intOf_ok hi hm
      obtain ⟨j, h1, h2, h3, v, hv, h4⟩ := ix_go hk
      obtain ⟨w, h5, h6⟩ := valOfS_ok ((hr.drop (j * sz)).take sz) hv
      simp only [opA, hx', hi', bound]
      rw [if_pos (by omega)]
      have : m.toNat = j := by omega
      simp only [this, Option.bind_some, h5]
      exact OkO.mk hh h4 h6
    · cases hk
  · cases hk
theorem o_si (ht : RT tm tm') (hh : RH h h') {x i : Opd} (hk : opS (realN ρ) H tm h nx (.si x i) k = some r) : OkO tm' k r (opA tm' h' nx (.si x i)) := by
  simp only [opS] at hk
  have hx := RT_rd ht x
  have hi := RT_rd ht i
  split at hk
  · rename_i s kd n ha hb
    rw [ha] at hx; rw [hb] at hi
    obtain ⟨h0, hk⟩ := br_no hk
    simp only [Bool.and_eq_true, decide_eq_true_eq] at h0
    have hl : n.toNat < s.data.toList.length := by
      have : s.data.toList.length = s.size := by rw [Array.length_toList]; rfl
      omega
    have hg : s.data.toList[n.toNat]? = some (s.data.toList.getD n.toNat 0) := by
      rw [List.getD_eq_getElem?_getD, List.getElem?_eq_getElem hl]; rfl
    simp only [opA, hx.1.symm, hi.1.symm, hg]
    rw [if_pos h0.1]
    exact OkO.mk hh hk ⟨rfl, rfl⟩
  · cases hk
theorem o_ss (ht : RT tm tm') (hh : RH h h') {x : Opd} {lo hi : Option Opd} (hk : opS (realN ρ) H tm h nx (.ss x lo hi) k = some r) : OkO tm' k r (opA tm' h' nx (.ss x lo hi)) := by
  simp only [opS] at hk
  have hx := RT_rd ht x
  split at hk
  · rename_i s ha
    rw [ha] at hx
    obtain ⟨b, h1, h2⟩ := optB_ok ht hk
    obtain ⟨a, h3, h4⟩ := optB_ok ht h2
    simp only [opA, hx.1.symm, h1, h3, Option.bind_some]
    exact OkO.mk hh h4 ⟨rfl, rfl⟩
  · cases hk
theorem optInt_le {d lo hi : Nat} {o : Option Opd} {n : Nat} (h : optInt d tm' lo hi o = some n) (hd : d ≤ hi) : n ≤ hi := by
  cases o with
  | none => simp [optInt] at h; omega
  | some x =>
    simp only [optInt, bound] at h
    split at h
    · simp only [Option.ite_none_right_eq_some, Option.some.injEq] at h
      omega
    · cases h
end
end Go.Am
set_option linter.constructorNameAsVariable false
set_option linter.unusedVariables false
set_option linter.unusedSimpArgs false
namespace Go.Am
section
variable {ρ : Type} {r : ρ} {h : SHp} {h' : List (Nat × BK)} {tm : SM} {tm' : List (Nat × AV)} {nx : Nat} {g : Cfg} {H : Hint} {k : KV ρ}

theorem optInt_0 {o : Option Opd} {d lo hi n : Nat} (h : optInt d tm' lo hi o = some n) (hd : d = 0) (hh : hi = 0) : n = 0 := by
  have := optInt_le h (by omega); omega
theorem o_sc (ht : RT tm tm') (hh : RH h h') {sz : Nat} {x : Opd} {lo hi mx : Option Opd} (hk : opS (realN ρ) H tm h nx (.sc sz x lo hi mx) k = some r) : OkO tm' k r (opA tm' h' nx (.sc sz x lo hi mx)) := by
  simp only [opS] at hk
  have hx := RT_rd ht x
  have nzc : ∀ {w : AV}, (w = .ns ∨ w = .ez) → rd tm' x = w → ∀ {v : SV}, RV v w → (∃ m b a, optInt 0 tm' 0 0 mx = some m ∧ optInt 0 tm' 0 0 hi = some b ∧ optInt 0 tm' 0 0 lo = some a) → k [] v h nx = some r → OkO tm' k r (opA tm' h' nx (.sc sz x lo hi mx)) := by
    intro w hw hx' v hv ⟨m, b, a, h1, h2, h3⟩ hk
    rcases hw with rfl | rfl
    · simp only [opA, hx', h1, h2, h3, Option.bind_some]; exact OkO.mk hh hk hv
    · simp only [opA, hx', h1, h2, h3, Option.bind_some]; exact OkO.mk hh hk hv
  split at hk
  · rename_i ha
    rw [ha] at hx
    obtain ⟨m, h1, hk⟩ := optB_ok ht hk
    obtain ⟨b, h2, hk⟩ := optB_ok ht hk
    obtain ⟨a, h3, hk⟩ := optB_ok ht hk
    exact nzc (.inl rfl) hx.1.symm (v := .a .ns) ⟨rfl, rfl⟩ ⟨m, b, a, h1, h2, h3⟩ hk
  · rename_i ha
    rw [ha] at hx
    obtain ⟨m, h1, hk⟩ := optB_ok ht hk
    obtain ⟨b, h2, hk⟩ := optB_ok ht hk
    obtain ⟨a, h3, hk⟩ := optB_ok ht hk
    exact nzc (.inr rfl) hx.1.symm (v := .a .ez) ⟨rfl, rfl⟩ ⟨m, b, a, h1, h2, h3⟩ hk
  · rename_i ha
    rw [ha] at hx
    obtain ⟨m, h1, hk⟩ := optB_ok ht hk
    obtain ⟨b, h2, hk⟩ := optB_ok ht hk
    obtain ⟨a, h3, hk⟩ := optB_ok ht hk
    exact nzc hx rfl hx ⟨m, b, a, h1, h2, h3⟩ hk
  · rename_i s ts ha
    rw [ha] at hx
    split at hk
    · cases hk
    · rename_i hsz
      have hsz : s.sz = sz := by simpa using hsz
      split at hk
      · rename_i hm
        obtain ⟨m, h1, hk⟩ := optB_ok ht hk
        obtain ⟨b, h2, hk⟩ := optB_ok ht hk
        obtain ⟨a, h3, hk⟩ := optB_ok ht hk
        obtain ⟨h4, hk9⟩ := br_no hk
        clear hk
        have h4 : a = m := by simpa using h4
        rcases hx with ⟨es, hx', hr⟩ | ⟨rfl, hx'⟩
        · rw [hr.length] at h1
          simp only [opA, hx']
          rw [if_neg (by simp [hsz]), if_pos hm]
          simp only [h1, h2, h3, Option.bind_some]
          rw [if_pos h4]
          exact OkO.mk hh hk9 (v := .nz) (.inr rfl)
        · have hm0 : m = 0 := optInt_0 h1 rfl rfl
          subst hm0
          have hb0 : b = 0 := optInt_0 h2 rfl rfl
          subst hb0
          exact nzc hx' rfl (v := .nz) hx' ⟨_, _, _, h1, h2, h3⟩ hk9
      · rename_i hm
        obtain ⟨b, h2, hk⟩ := optB_ok ht hk
        obtain ⟨a, h3, hk⟩ := optB_ok ht hk
        rcases hx with ⟨es, hx', hr⟩ | ⟨rfl, hx'⟩
        · rw [hr.length] at h2
          simp only [opA, hx']
          rw [if_neg (by simp [hsz]), if_neg hm]
          simp only [h2, h3, Option.bind_some]
          exact OkO.mk hh hk (.inl ⟨_, by rw [hsz], (hr.drop a).take (b - a)⟩)
        · have hb0 : b = 0 := optInt_0 h2 rfl rfl
          subst hb0
          have hmx : mx = none := by cases mx with
            | none => rfl
            | some _ => simp at hm
          refine nzc hx' rfl (v := .ls s (([].drop a).take (0 - a))) (.inr ⟨by simp, hx'⟩) ⟨0, _, _, by rw [hmx]; rfl, h2, h3⟩ hk
  · rename_i sz' q lo0 len ha
    rw [ha] at hx
    split at hk
    · cases hk
    · rename_i hc
      rw [RH_alive hh q] at hc
      split at hk
      · rename_i hm
        obtain ⟨m, h1, hk⟩ := optB_ok ht hk
        obtain ⟨b, h2, hk⟩ := optB_ok ht hk
        obtain ⟨a, h3, hk⟩ := optB_ok ht hk
        obtain ⟨h4, hk⟩ := br_no hk
        have h4 : a = m := by simpa using h4
        simp only [opA, hx.1.symm]
        rw [if_neg hc, if_pos hm]
        simp only [h1, h2, h3, Option.bind_some]
        rw [if_pos h4]
        exact OkO.mk hh hk ⟨rfl, rfl⟩
      · rename_i hm
        obtain ⟨b, h2, hk⟩ := optB_ok ht hk
        obtain ⟨a, h3, hk⟩ := optB_ok ht hk
        simp only [opA, hx.1.symm]
        rw [if_neg hc, if_neg hm]
        simp only [h2, h3, Option.bind_some]
        exact OkO.mk hh hk ⟨rfl, rfl⟩
  · cases hk
theorem o_mk (ht : RT tm tm') (hh : RH h h') {sz bytes : Nat} {z : List AV} {t : TypeId} {l c : Opd} (hk : opS (realN ρ) H tm h nx (.mk sz bytes z t l c) k = some r) : OkO tm' k r (opA tm' h' nx (.mk sz bytes z t l c)) := by
  simp only [opS] at hk
  have hl := RT_rd ht l
  have hc := RT_rd ht c
  split at hk
  · rename_i ka a kb b s ha hb hs
    rw [ha] at hl; rw [hb] at hc
    split at hk
    · rename_i hsz
      split at hk
      · rename_i d hd
        simp only [Option.bind_eq_some_iff] at hd
        obtain ⟨l0, hl0, hd⟩ := hd
        have h1 := decAll_ok hd (zS_ok hl0)
        obtain ⟨h0, hk⟩ := br_no hk
        simp only [Bool.and_eq_true, decide_eq_true_eq] at h0
        simp only [opA, hl.1.symm, hc.1.symm]
        rw [if_pos ⟨h0.1.1.1, h0.1.1.2, h0.1.2, h0.2⟩]
        exact OkO.mk' hk ⟨rfl, rfl⟩ (.cons ⟨rfl, _, by rw [hsz], All2.rep h1 _⟩ hh)
      · cases hk
    · cases hk
  · cases hk
theorem o_mf (ht : RT tm tm') (hh : RH h h') {f : FuncId} {caps : List Opd} (hk : opS (realN ρ) H tm h nx (.mf f caps) k = some r) : OkO tm' k r (opA tm' h' nx (.mf f caps)) := by
  simp only [opS] at hk
  split at hk
  · rename_i l hl
    have := avs_ok (RT_rds ht caps) hl
    split at hk
    · rename_i ha
      simp only [opA, this]
      rw [if_pos ha]
      exact OkO.mk hh hk ⟨rfl, rfl⟩
    · cases hk
  · cases hk
theorem o_ex (ht : RT tm tm') (hh : RH h h') {x : Opd} {i : Nat} (hk : opS (realN ρ) H tm h nx (.ex x i) k = some r) : OkO tm' k r (opA tm' h' nx (.ex x i)) := by
  simp only [opS] at hk
  have hx := RT_rd ht x
  split at hk
  · rename_i vs ha
    rw [ha] at hx
    obtain ⟨ws, hx', hr⟩ := hx
    split at hk
    · rename_i v hv
      obtain ⟨w, h1, h2⟩ := hr.get i v hv
      simp only [opA, hx', h1]
      exact OkO.mk hh hk h2.toV
    · cases hk
  · cases hk
theorem o_le (ht : RT tm tm') (hh : RH h h') {kd : Nat} {x : Opd} (hk : opS (realN ρ) H tm h nx (.le kd x) k = some r) : OkO tm' k r (opA tm' h' nx (.le kd x)) := by
  simp only [opS] at hk
  split at hk
  · rename_i n hn
    obtain ⟨m, h1, rfl⟩ := lenS_ok hh (RT_rd ht x) hn
    simp only [opA, h1, Option.bind_some]
    exact OkO.mk hh hk ⟨rfl, rfl⟩
  · cases hk
theorem o_ap (ht : RT tm tm') (hh : RH h h') {sz bytes : Nat} {t : TypeId} {x y : Opd} (hk : opS (realN ρ) H tm h nx (.ap sz bytes t x y) k = some r) : OkO tm' k r (opA tm' h' nx (.ap sz bytes t x y)) := by
  simp only [opS] at hk
  have hx := RT_rd ht x
  split at hk
  · rename_i s hs
    split at hk
    · cases hk
    · rename_i hsz
      have hsz : s.sz = sz := by simpa using hsz
      subst hsz
      have hk0 := hk
      obtain ⟨a, ea, ha, hra, hk⟩ := elemsS_ok hh hx hk
      obtain ⟨b, eb, hb, hrb, hk⟩ := elemsS_ok hh (RT_rd ht y) hk
      obtain ⟨h0, hk⟩ := br_no hk
      simp only [Bool.and_eq_true, decide_eq_true_eq] at h0
      rw [hra.length, hrb.length] at h0
      have hg : (ea.length + eb.length) * bytes ≤ maxRoom ∧ ea.length + eb.length ≤ maxRoom ∧ eb.flatten.any isUd = false := ⟨h0.1, h0.2, REs_ud hrb⟩
      have hemp : b.isEmpty = true ↔ eb.length = 0 := by rw [← hrb.length]; simp
      have mkrow : ∀ {w : AV}, (w = .ns ∨ w = .ez) → rd tm' x = w → ∀ {v : SV}, RV v w → (realN ρ).br b.isEmpty (k [] v h nx) (k [] (.a (.sl s.sz nx 0 b.length)) ((nx, .row s b t) :: h) (nx + 1)) = some r → OkO tm' k r (opA tm' h' nx (.ap s.sz bytes t x y)) := by
        intro w hw hx' v hv hk
        rcases br_some hk with ⟨h1, hk⟩ | ⟨h1, hk⟩
        · have h2 := hemp.1 h1
          rcases hw with rfl | rfl
          · simp only [opA, ha, hb, Option.bind_some]
            rw [if_pos hg]
            simp only [hx']
            rw [if_pos h2]
            exact OkO.mk hh hk hv
          · simp only [opA, ha, hb, Option.bind_some]
            rw [if_pos hg]
            simp only [hx']
            rw [if_pos h2]
            exact OkO.mk hh hk hv
        · have h2 : ¬ eb.length = 0 := fun h3 => by rw [hemp.2 h3] at h1; cases h1
          rcases hw with rfl | rfl
          · simp only [opA, ha, hb, Option.bind_some]
            rw [if_pos hg]
            simp only [hx']
            rw [if_neg h2]
            exact OkO.mk' hk ⟨by rw [hrb.length], rfl⟩ (.cons ⟨rfl, _, rfl, hrb⟩ hh)
          · simp only [opA, ha, hb, Option.bind_some]
            rw [if_pos hg]
            simp only [hx']
            rw [if_neg h2]
            exact OkO.mk' hk ⟨by rw [hrb.length], rfl⟩ (.cons ⟨rfl, _, rfl, hrb⟩ hh)
      split at hk
      · rename_i hv
        rw [hv] at hx
        exact mkrow (.inl rfl) hx.1.symm (v := .a .ns) ⟨rfl, rfl⟩ hk
      · rename_i hv
        rw [hv] at hx
        exact mkrow hx rfl (v := .nz) hx hk
      · rename_i hv
        rw [hv] at hx
        exact mkrow (.inr rfl) hx.1.symm (v := .a .ez) ⟨rfl, rfl⟩ hk
      · rename_i sz0 q lo len hv
        rw [hv] at hx hk0
        split at hk
        · rename_i s' ts t' hq
          simp only [elemsS, hq] at hk0
          split at hk0
          · rename_i e
            subst e
            obtain ⟨h1, hk⟩ := br_no hk
            have h1 : lo + len = ts.length := by simpa using h1
            have hrq := RH_blk hh q
            rw [hq] at hrq
            obtain ⟨es, he, hr⟩ := hrq
            simp only [opA, ha, hb, Option.bind_some]
            rw [if_pos hg]
            simp only [hx.1.symm, he]
            rw [if_pos ⟨trivial, by rw [← hr.length]; exact h1⟩]
            exact OkO.mk' hk ⟨by rw [List.length_append, hra.length, hrb.length], rfl⟩ (.cons ⟨rfl, _, rfl, hra.append hrb⟩ (RH_put hh (x := .dd) rfl q))
          · cases hk0
        · cases hk
      · cases hk
  · cases hk
theorem o_mx (ht : RT tm tm') (hh : RH h h') {xs : List Opd} (hk : opS (realN ρ) H tm h nx (.mx xs) k = some r) : OkO tm' k r (opA tm' h' nx (.mx xs)) := by
  simp only [opS] at hk
  split at hk
  · rename_i kd a l hl
    have := avs_ok (RT_rds ht xs) hl
    split at hk
    · rename_i m hm
      simp only [opA, this, hm, Option.bind_some]
      exact OkO.mk hh hk ⟨rfl, rfl⟩
    · cases hk
  · cases hk
theorem o_mn (ht : RT tm tm') (hh : RH h h') {xs : List Opd} (hk : opS (realN ρ) H tm h nx (.mn xs) k = some r) : OkO tm' k r (opA tm' h' nx (.mn xs)) := by
  simp only [opS] at hk
  split at hk
  · rename_i kd a l hl
    have := avs_ok (RT_rds ht xs) hl
    split at hk
    · rename_i m hm
      simp only [opA, this, hm, Option.bind_some]
      exact OkO.mk hh hk ⟨rfl, rfl⟩
    · cases hk
  · cases hk
theorem o_mm (ht : RT tm tm') (hh : RH h h') {t : TypeId} (hk : opS (realN ρ) H tm h nx (.mm t) k = some r) : OkO tm' k r (opA tm' h' nx (.mm t)) := by
  simp only [opS] at hk
  simp only [opA]
  refine OkO.mk' hk ⟨rfl, rfl⟩ (.cons ⟨rfl, ?_⟩ hh)
  split
  · exact ⟨[], rfl, .nil⟩
  · exact ⟨[], rfl, .nil⟩
  · rfl

theorem RG_value {gg : Bool} {s : Sh} {d : Den s} {w : AV} {v : SV} (hr : RG gg s d w) (hv : valueS gg (encS s d) = some v) : RW v w := by
  unfold RG at hr
  unfold valueS at hv
  cases gg
  · simp only [Bool.false_eq_true, if_false] at hr hv
    split at hv
    · rename_i u hu
      simp at hv; subst hv
      have := encS_ok hr
      rw [hu] at this
      cases this with
      | cons h1 _ => exact h1.toW
    · cases hv
  · simp only [if_true] at hr hv
    obtain ⟨cs, rfl, hr⟩ := hr
    simp at hv; subst hv
    exact ⟨cs, rfl, encS_ok hr⟩
theorem findI {kd : IntKind} {gg : Bool} {s : Sh} {n : Int} {d : Den s} : ∀ {es : List (Int × Den s)} {l : List (AV × AV)} (i : Nat), All2 (fun (p : Int × Den s) (q : AV × AV) => q.1 = .int kd p.1 ∧ RG gg s p.2 q.2) es l →
    (mapHas es n = true ∧ ∃ j v, findK (.int kd n) l i = some (some (i + j, v)) ∧ RG gg s (mapGet d es n) v ∧
      (∀ (d' : Den s) (w : AV), RG gg s d' w → All2 (fun (p : Int × Den s) (q : AV × AV) => q.1 = .int kd p.1 ∧ RG gg s p.2 q.2) (mapSet es n d') (l.set j (.int kd n, w))) ∧
      All2 (fun (p : Int × Den s) (q : AV × AV) => q.1 = .int kd p.1 ∧ RG gg s p.2 q.2) (mapDel es n) (l.eraseIdx j)) ∨
    (mapHas es n = false ∧ findK (.int kd n) l i = some none ∧ mapGet d es n = d ∧
      (∀ (d' : Den s) (w : AV), RG gg s d' w → All2 (fun (p : Int × Den s) (q : AV × AV) => q.1 = .int kd p.1 ∧ RG gg s p.2 q.2) (mapSet es n d') (l ++ [(.int kd n, w)])) ∧
      mapDel es n = es)
  | [], _, i, h => by
    cases h
    exact .inr ⟨rfl, rfl, rfl, fun d' w hw => .cons ⟨rfl, hw⟩ .nil, rfl⟩
  | (a, x) :: es, _, i, h => by
    cases h with
    | @cons _ q _ l h1 h2 =>
      obtain ⟨qa, qv⟩ := q
      obtain ⟨h3, h4⟩ := h1
      simp only at h3 h4
      subst h3
      by_cases hn : (n == a) = true
      · refine .inl ⟨by simp only [mapHas, hn, Bool.true_or], 0, qv, ?_, by simp only [mapGet, hn, if_true]; exact h4, fun d' w hw => ?_, ?_⟩
        · simp only [findK, keyEq, if_true, hn, Nat.add_zero]
        · simp only [mapSet, hn, if_true, List.set_cons_zero]
          exact .cons ⟨rfl, hw⟩ h2
        · simp only [mapDel, hn, if_true, List.eraseIdx_cons_zero]
          exact h2
      · have hn : (n == a) = false := by simpa using hn
        rcases findI (n := n) (d := d) (i + 1) h2 with ⟨h5, j, v, h6, h7, h8, h9⟩ | ⟨h5, h6, h7, h8, h9⟩
        · refine .inl ⟨by simp only [mapHas, hn, h5, Bool.false_or], j + 1, v, ?_, by simp only [mapGet, hn, Bool.false_eq_true, if_false]; exact h7, fun d' w hw => ?_, ?_⟩
          · simp only [findK, keyEq, if_true, hn]; rw [h6]; congr 3; omega
          · simp only [mapSet, hn, Bool.false_eq_true, if_false, List.set_cons_succ]
            exact .cons ⟨rfl, h4⟩ (h8 d' w hw)
          · simp only [mapDel, hn, Bool.false_eq_true, if_false, List.eraseIdx_cons_succ]
            exact .cons ⟨rfl, h4⟩ h9
        · refine .inr ⟨by simp only [mapHas, hn, h5, Bool.false_or], ?_, by simp only [mapGet, hn, Bool.false_eq_true, if_false]; exact h7, fun d' w hw => ?_, by simp only [mapDel, hn, Bool.false_eq_true, if_false, h9]⟩
          · simp only [findK, keyEq, if_true, hn]; exact h6
          · simp only [mapSet, hn, Bool.false_eq_true, if_false, List.cons_append]
            exact .cons ⟨rfl, h4⟩ (h8 d' w hw)
theorem findT {gg : Bool} {s : Sh} {n : ByteArray} {d : Den s} : ∀ {es : List (ByteArray × Den s)} {l : List (AV × AV)} (i : Nat), All2 (fun (p : ByteArray × Den s) (q : AV × AV) => q.1 = .st p.1 ∧ RG gg s p.2 q.2) es l →
    (mapHas es n = true ∧ ∃ j v, findK (.st n) l i = some (some (i + j, v)) ∧ RG gg s (mapGet d es n) v ∧
      (∀ (d' : Den s) (w : AV), RG gg s d' w → All2 (fun (p : ByteArray × Den s) (q : AV × AV) => q.1 = .st p.1 ∧ RG gg s p.2 q.2) (mapSet es n d') (l.set j (.st n, w))) ∧
      All2 (fun (p : ByteArray × Den s) (q : AV × AV) => q.1 = .st p.1 ∧ RG gg s p.2 q.2) (mapDel es n) (l.eraseIdx j)) ∨
    (mapHas es n = false ∧ findK (.st n) l i = some none ∧ mapGet d es n = d ∧
      (∀ (d' : Den s) (w : AV), RG gg s d' w → All2 (fun (p : ByteArray × Den s) (q : AV × AV) => q.1 = .st p.1 ∧ RG gg s p.2 q.2) (mapSet es n d') (l ++ [(.st n, w)])) ∧
      mapDel es n = es)
  | [], _, i, h => by
    cases h
    exact .inr ⟨rfl, rfl, rfl, fun d' w hw => .cons ⟨rfl, hw⟩ .nil, rfl⟩
  | (a, x) :: es, _, i, h => by
    cases h with
    | @cons _ q _ l h1 h2 =>
      obtain ⟨qa, qv⟩ := q
      obtain ⟨h3, h4⟩ := h1
      simp only at h3 h4
      subst h3
      by_cases hn : (n == a) = true
      · refine .inl ⟨by simp only [mapHas, hn, Bool.true_or], 0, qv, ?_, by simp only [mapGet, hn, if_true]; exact h4, fun d' w hw => ?_, ?_⟩
        · simp only [findK, keyEq, hn, Nat.add_zero]
        · simp only [mapSet, hn, if_true, List.set_cons_zero]
          exact .cons ⟨rfl, hw⟩ h2
        · simp only [mapDel, hn, if_true, List.eraseIdx_cons_zero]
          exact h2
      · have hn : (n == a) = false := by simpa using hn
        rcases findT (n := n) (d := d) (i + 1) h2 with ⟨h5, j, v, h6, h7, h8, h9⟩ | ⟨h5, h6, h7, h8, h9⟩
        · refine .inl ⟨by simp only [mapHas, hn, h5, Bool.false_or], j + 1, v, ?_, by simp only [mapGet, hn, Bool.false_eq_true, if_false]; exact h7, fun d' w hw => ?_, ?_⟩
          · simp only [findK, keyEq, hn]; rw [h6]; congr 3; omega
          · simp only [mapSet, hn, Bool.false_eq_true, if_false, List.set_cons_succ]
            exact .cons ⟨rfl, h4⟩ (h8 d' w hw)
          · simp only [mapDel, hn, Bool.false_eq_true, if_false, List.eraseIdx_cons_succ]
            exact .cons ⟨rfl, h4⟩ h9
        · refine .inr ⟨by simp only [mapHas, hn, h5, Bool.false_or], ?_, by simp only [mapGet, hn, Bool.false_eq_true, if_false]; exact h7, fun d' w hw => ?_, by simp only [mapDel, hn, Bool.false_eq_true, if_false, h9]⟩
          · simp only [findK, keyEq, hn]; exact h6
          · simp only [mapSet, hn, Bool.false_eq_true, if_false, List.cons_append]
            exact .cons ⟨rfl, h4⟩ (h8 d' w hw)
theorem RG_of {gg : Bool} {s : Sh} {d : Den s} {v : SV} {w : AV} {cs : List SV} (hv : RV v w) (hc : cellsOfS v = some cs) (hd : decAll s cs = some d) (hg : isAgS v = gg) : RG gg s d w ∧ ok0V w = true := by
  obtain ⟨ws, hw, hr⟩ := cellsOfS_ok hv hc
  have h1 := decAll_ok hd hr
  have hok : ∀ {s : Sh} {d : Den s} {ws : List AV}, RE s d ws → ws.all ok0 = true := by
    intro s
    induction s with
    | i _ => intro d ws h; cases h; rfl
    | b => intro d ws h; cases h; rfl
    | s => intro d ws h; cases h; rfl
    | row e _ => intro d ws h; obtain ⟨w, rfl, ⟨es, rfl, _⟩ | ⟨_, rfl | rfl⟩⟩ := h <;> rfl
    | nil => intro d ws h; cases h; rfl
    | cons a b iha ihb => intro d ws h; obtain ⟨c1, c2, rfl, h1, h2⟩ := h; rw [List.all_append, iha h1, ihb h2]; rfl
  have h2 := hok h1
  cases v with
  | ag us =>
    obtain ⟨us', rfl, _⟩ := hv
    simp [cellsOf] at hw; subst hw
    simp only [isAgS] at hg; subst hg
    exact ⟨⟨us', rfl, h1⟩, h2⟩
  | tp us => simp [cellsOfS] at hc
  | uk => simp [cellsOfS] at hc
  | ow _ _ => simp [cellsOfS] at hc
  | a u =>
    have hsh := RC_shape (v := .a u) hv
    simp only [isAgS] at hg; subst hg
    obtain ⟨rfl, hcell⟩ := hv
    have hw2 : ws = [u] := by cases u <;> first | (simp [cellsOf] at hw; done) | (simp [cellsOf] at hw; exact hw.symm) | (simp [isCell] at hcell)
    subst hw2
    refine ⟨h1, ?_⟩
    simp only [List.all_cons, List.all_nil, Bool.and_true] at h2
    cases u <;> first | exact h2 | exact absurd rfl (hsh.1 _)
  | ls s0 ts =>
    have hsh := RC_shape (v := .ls s0 ts) hv
    simp only [isAgS] at hg; subst hg
    rcases hv with ⟨es, rfl, _⟩ | ⟨_, rfl | rfl⟩ <;> (simp [cellsOf] at hw; subst hw; exact ⟨h1, rfl⟩)
  | ri s0 ts i off =>
    simp only [isAgS] at hg; subst hg
    obtain ⟨es, rfl, _⟩ := hv
    simp [cellsOf] at hw; subst hw; exact ⟨h1, rfl⟩
  | nz =>
    simp only [isAgS] at hg; subst hg
    rcases hv with rfl | rfl <;> (simp [cellsOf] at hw; subst hw; exact ⟨h1, rfl⟩)
theorem isAg_ofAV {z : AV} {cs : List SV} (h : cellsOfS (ofAV z) = some cs) : isAgS (ofAV z) = isAgV z := by
  cases z <;> first | rfl | skip
  rename_i l
  show isAgS (match zS l with
    | some l => SV.ag l
    | none => SV.uk) = true
  have h' : cellsOfS (match zS l with
    | some l => SV.ag l
    | none => SV.uk) = some cs := h
  cases hz : zS l with
  | some _ => rfl
  | none => rw [hz] at h'; simp [cellsOfS] at h'
theorem lk_fin (hh : RH h h') {ok has : Bool} {v : SV} {w : AV} (hv : RW v w) (hk : k [] (if ok = true then .tp [v, .a (.bl has)] else v) h nx = some r) : OkO tm' k r (one h' nx (if ok = true then .tp [w, .bl has] else w)) := by
  cases ok
  · simp only [Bool.false_eq_true, if_false] at hk ⊢
    exact OkO.mk hh hk hv.toV
  · simp only [if_true] at hk ⊢
    exact OkO.mk hh hk ⟨_, rfl, .cons hv (.cons ⟨rfl, rfl⟩ .nil)⟩
theorem ml_find {x : AV} {kk : AV → Option ρ} {d : Option ρ} : ∀ {es : List (AV × AV)} (i : Nat), mlFind (realN ρ) x es kk d = some r → (∃ j v, findK x es i = some (some (j, v)) ∧ kk v = some r) ∨ (findK x es i = some none ∧ d = some r)
  | [], i, h => .inr ⟨rfl, h⟩
  | (a, v) :: es, i, h => by
    simp only [mlFind] at h
    split at h
    · split at h
      · rename_i hkk
        subst hkk
        rcases br_some h with ⟨h1, h2⟩ | ⟨h1, h2⟩
        · exact .inl ⟨i, v, by simp only [findK, keyEq, if_true, h1], h2⟩
        · rcases ml_find (i + 1) h2 with ⟨j, v', h3, h4⟩ | ⟨h3, h4⟩
          · exact .inl ⟨j, v', by simp only [findK, keyEq, if_true, h1]; exact h3, h4⟩
          · exact .inr ⟨by simp only [findK, keyEq, if_true, h1]; exact h3, h4⟩
      · cases h
    · rcases br_some h with ⟨h1, h2⟩ | ⟨h1, h2⟩
      · exact .inl ⟨i, v, by simp only [findK, keyEq, h1], h2⟩
      · rcases ml_find (i + 1) h2 with ⟨j, v', h3, h4⟩ | ⟨h3, h4⟩
        · exact .inl ⟨j, v', by simp only [findK, keyEq, h1]; exact h3, h4⟩
        · exact .inr ⟨by simp only [findK, keyEq, h1]; exact h3, h4⟩
    · cases h
theorem o_lk (ht : RT tm tm') (hh : RH h h') {st : Bool} {z : AV} {ok : Bool} {x i : Opd} (hk : opS (realN ρ) H tm h nx (.lk st z ok x i) k = some r) : OkO tm' k r (opA tm' h' nx (.lk st z ok x i)) := by
  simp only [opS] at hk
  have hx := RT_rd ht x
  have hi := RT_rd ht i
  split at hk
  · rename_i b ha
    rw [ha] at hx
    have hrb := RH_blk hh b
    split at hk
    · rename_i kd gg s es hb
      rw [hb] at hrb
      obtain ⟨l, he, hr⟩ := hrb
      split at hk
      · rename_i kd' n d hn hd
        rw [hn] at hi
        simp only [Option.bind_eq_some_iff] at hd
        obtain ⟨cs, hcs, hd⟩ := hd
        split at hk
        · rename_i hc
          obtain ⟨rfl, hg, rfl⟩ := hc
          have hz := (RG_of (ofAV_ok z) hcs hd (by rw [isAg_ofAV hcs, hg])).1
          split at hk
          · rename_i v hv
            simp only [opA, hi.1.symm, hx.1.symm, he, isKey, if_true]
            rcases findI (n := n) (d := d) 0 hr with ⟨h5, j, w, h6, h7, _⟩ | ⟨h5, h6, h7, _⟩
            · simp only [h6]
              rw [h5] at hk
              exact lk_fin hh (RG_value h7 hv) hk
            · simp only [h6]
              rw [h5] at hk
              rw [h7] at hv
              exact lk_fin hh (RG_value hz hv) hk
          · cases hk
        · cases hk
      · cases hk
    · rename_i gg s es hb
      rw [hb] at hrb
      obtain ⟨l, he, hr⟩ := hrb
      split at hk
      · rename_i n d hn hd
        rw [hn] at hi
        simp only [Option.bind_eq_some_iff] at hd
        obtain ⟨cs, hcs, hd⟩ := hd
        split at hk
        · rename_i hc
          obtain ⟨hg, rfl⟩ := hc
          have hz := (RG_of (ofAV_ok z) hcs hd (by rw [isAg_ofAV hcs, hg])).1
          split at hk
          · rename_i v hv
            simp only [opA, hi.1.symm, hx.1.symm, he, isKey, if_true]
            rcases findT (n := n) (d := d) 0 hr with ⟨h5, j, w, h6, h7, _⟩ | ⟨h5, h6, h7, _⟩
            · simp only [h6]
              rw [h5] at hk
              exact lk_fin hh (RG_value h7 hv) hk
            · simp only [h6]
              rw [h5] at hk
              rw [h7] at hv
              exact lk_fin hh (RG_value hz hv) hk
          · cases hk
        · cases hk
      · cases hk
    · rename_i es hb
      rw [hb] at hrb
      have he : blk h' b = .mp es := hrb
      split at hk
      · rename_i v hv
        rw [hv] at hi
        split at hk
        · rename_i hc
          simp only [opA, hi.1.symm, hx.1.symm, he]
          rw [if_pos hc.1]
          rcases ml_find 0 hk with ⟨j, w, h3, h4⟩ | ⟨h3, h4⟩
          · split at h4
            · rename_i hcell
              simp only [h3]
              exact lk_fin hh (v := .a w) ⟨rfl, hcell⟩ h4
            · cases h4
          · simp only [h3]
            exact lk_fin hh (v := .a z) ⟨rfl, hc.2⟩ h4
        · cases hk
      · cases hk
    · cases hk
  · cases hk
theorem o_mu (ht : RT tm tm') (hh : RH h h') {st : Bool} {x y v : Opd} (hk : opS (realN ρ) H tm h nx (.mu st x y v) k = some r) : OkO tm' k r (opA tm' h' nx (.mu st x y v)) := by
  simp only [opS] at hk
  have hx := RT_rd ht x
  have hy := RT_rd ht y
  have hv := RT_rd ht v
  split at hk
  · rename_i b ha
    rw [ha] at hx
    have hrb := RH_blk hh b
    split at hk
    · rename_i kd gg s es hb
      rw [hb] at hrb
      obtain ⟨l, he, hr⟩ := hrb
      split at hk
      · rename_i kd' n d hn hd
        rw [hn] at hy
        simp only [Option.bind_eq_some_iff] at hd
        obtain ⟨cs, hcs, hd⟩ := hd
        split at hk
        · rename_i hc
          obtain ⟨rfl, hg, rfl⟩ := hc
          obtain ⟨hz, hok⟩ := RG_of hv hcs hd hg
          simp only [opA, hy.1.symm, hx.1.symm, he, isKey, hok, Bool.and_self, if_true]
          rcases findI (n := n) (d := d) 0 hr with ⟨h5, j, w, h6, h7, h8, _⟩ | ⟨h5, h6, h7, h8, _⟩
          · simp only [h6, Nat.zero_add]
            exact OkO.mk' hk ⟨rfl, rfl⟩ (RH_put hh (x := .mi kd' gg s (mapSet es n d)) ⟨_, rfl, h8 d _ hz⟩ b)
          · simp only [h6]
            exact OkO.mk' hk ⟨rfl, rfl⟩ (RH_put hh (x := .mi kd' gg s (mapSet es n d)) ⟨_, rfl, h8 d _ hz⟩ b)
        · cases hk
      · cases hk
    · rename_i gg s es hb
      rw [hb] at hrb
      obtain ⟨l, he, hr⟩ := hrb
      split at hk
      · rename_i n d hn hd
        rw [hn] at hy
        simp only [Option.bind_eq_some_iff] at hd
        obtain ⟨cs, hcs, hd⟩ := hd
        split at hk
        · rename_i hc
          obtain ⟨hg, rfl⟩ := hc
          obtain ⟨hz, hok⟩ := RG_of hv hcs hd hg
          simp only [opA, hy.1.symm, hx.1.symm, he, isKey, hok, Bool.and_self, if_true]
          rcases findT (n := n) (d := d) 0 hr with ⟨h5, j, w, h6, h7, h8, _⟩ | ⟨h5, h6, h7, h8, _⟩
          · simp only [h6, Nat.zero_add]
            exact OkO.mk' hk ⟨rfl, rfl⟩ (RH_put hh (x := .ms gg s (mapSet es n d)) ⟨_, rfl, h8 d _ hz⟩ b)
          · simp only [h6]
            exact OkO.mk' hk ⟨rfl, rfl⟩ (RH_put hh (x := .ms gg s (mapSet es n d)) ⟨_, rfl, h8 d _ hz⟩ b)
        · cases hk
      · cases hk
    · rename_i es hb
      rw [hb] at hrb
      have he : blk h' b = .mp es := hrb
      split at hk
      · rename_i y' v' hy' hv'
        rw [hy'] at hy; rw [hv'] at hv
        split at hk
        · rename_i hc
          simp only [opA, hy.1.symm, hv.1.symm, hx.1.symm, he, hc.1, hc.2, Bool.and_self, if_true]
          split at hk
          · rename_i i w hf
            simp only [hf]
            exact OkO.mk' hk ⟨rfl, rfl⟩ (RH_put hh (x := .ml _) rfl b)
          · rename_i hf
            simp only [hf]
            exact OkO.mk' hk ⟨rfl, rfl⟩ (RH_put hh (x := .ml _) rfl b)
          · cases hk
        · cases hk
      · cases hk
    · cases hk
  · cases hk
theorem RH_same {h : SHp} {h' : List (Nat × BK)} (hh : RH h h') {b : Nat} {x : SB} (hx : blkS h b = x) (hd : x ≠ .dd) : RH (putS h b x) h' := by
  induction hh with
  | nil => subst hx; exact absurd rfl hd
  | @cons p q _ _ h1 h4 ih =>
    obtain ⟨k, y⟩ := p
    simp only [putS]
    simp only [blkS] at hx
    split
    · rename_i hkb
      rw [if_pos hkb] at hx
      subst hx
      exact .cons ⟨by rw [← hkb]; exact h1.1, h1.2⟩ h4
    · rename_i hkb
      rw [if_neg hkb] at hx
      exact .cons h1 (ih hx)
theorem o_de (ht : RT tm tm') (hh : RH h h') {st : Bool} {x y : Opd} (hk : opS (realN ρ) H tm h nx (.de st x y) k = some r) : OkO tm' k r (opA tm' h' nx (.de st x y)) := by
  simp only [opS] at hk
  have hx := RT_rd ht x
  have hy := RT_rd ht y
  split at hk
  · rename_i b ha
    rw [ha] at hx
    have hrb := RH_blk hh b
    split at hk
    · rename_i kd gg s es hb
      rw [hb] at hrb
      obtain ⟨l, he, hr⟩ := hrb
      split at hk
      · rename_i kd' n hn
        rw [hn] at hy
        split at hk
        · rename_i hc
          obtain ⟨rfl, rfl⟩ := hc
          simp only [opA, hy.1.symm, hx.1.symm, he, isKey, if_true]
          rcases findI (n := n) (d := dft s) 0 hr with ⟨h5, j, w, h6, h7, _, h9⟩ | ⟨h5, h6, h7, _, h9⟩
          · simp only [h6, Nat.zero_add]
            exact OkO.mk' hk ⟨[], rfl, .nil⟩ (RH_put hh (x := .mi kd' gg s (mapDel es n)) ⟨_, rfl, h9⟩ b)
          · simp only [h6]
            rw [h9] at hk
            exact OkO.mk' hk ⟨[], rfl, .nil⟩ (RH_same hh hb (by simp))
        · cases hk
      · cases hk
    · rename_i gg s es hb
      rw [hb] at hrb
      obtain ⟨l, he, hr⟩ := hrb
      split at hk
      · rename_i n hn
        rw [hn] at hy
        split at hk
        · rename_i hc
          subst hc
          simp only [opA, hy.1.symm, hx.1.symm, he, isKey, if_true]
          rcases findT (n := n) (d := dft s) 0 hr with ⟨h5, j, w, h6, h7, _, h9⟩ | ⟨h5, h6, h7, _, h9⟩
          · simp only [h6, Nat.zero_add]
            exact OkO.mk' hk ⟨[], rfl, .nil⟩ (RH_put hh (x := .ms gg s (mapDel es n)) ⟨_, rfl, h9⟩ b)
          · simp only [h6]
            rw [h9] at hk
            exact OkO.mk' hk ⟨[], rfl, .nil⟩ (RH_same hh hb (by simp))
        · cases hk
      · cases hk
    · cases hk
  · cases hk
theorem opS_ok (ht : RT tm tm') (hh : RH h h') {op : COp} (hk : opS (realN ρ) H tm h nx op k = some r) : OkO tm' k r (opA tm' h' nx op) := by
  cases op with
  | mv _ => exact o_mv ht hh hk
  | pk _ _ _ => exact o_pk ht hh hk
  | al _ _ => exact o_al ht hh hk
  | bx _ _ => exact o_bx ht hh hk
  | bd _ _ => exact o_bd ht hh hk
  | bs _ _ _ _ _ => exact o_bs ht hh hk
  | ld _ _ => exact o_ld ht hh hk
  | sr _ _ _ => exact o_sr ht hh hk
  | nc _ => exact o_nc ht hh hk
  | bn _ _ _ => exact o_bn ht hh hk
  | ea _ _ _ _ => exact o_ea ht hh hk
  | eb _ _ _ => exact o_eb ht hh hk
  | nq _ _ _ => exact o_nq ht hh hk
  | un _ _ => exact o_un ht hh hk
  | ci _ _ => exact o_ci ht hh hk
  | cs _ _ => exact o_cs ht hh hk
  | cv1 _ => exact o_cv1 ht hh hk
  | cb _ => exact o_cb ht hh hk
  | fa _ _ => exact o_fa ht hh hk
  | fd _ _ _ => exact o_fd ht hh hk
  | ia _ _ _ _ => exact o_ia ht hh hk
  | ix _ _ _ _ _ => exact o_ix ht hh hk
  | si _ _ => exact o_si ht hh hk
  | ss _ _ _ => exact o_ss ht hh hk
  | sc _ _ _ _ _ => exact o_sc ht hh hk
  | mk _ _ _ _ _ _ => exact o_mk ht hh hk
  | mf _ _ => exact o_mf ht hh hk
  | ex _ _ => exact o_ex ht hh hk
  | le _ _ => exact o_le ht hh hk
  | ap _ _ _ _ _ => exact o_ap ht hh hk
  | mx _ => exact o_mx ht hh hk
  | mn _ => exact o_mn ht hh hk
  | mm _ => exact o_mm ht hh hk
  | lk _ _ _ _ _ => exact o_lk ht hh hk
  | mu _ _ _ _ => exact o_mu ht hh hk
  | de _ _ _ => exact o_de ht hh hk
  | cf _ _ => simp [opS] at hk
  | cv _ _ => simp [opS] at hk
  | cp _ _ _ => simp [opS] at hk
  | bad => simp [opS] at hk
end
end Go.Am
