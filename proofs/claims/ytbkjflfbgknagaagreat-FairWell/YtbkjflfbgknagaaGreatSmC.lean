import Derived.Test.YtbkjflfbgknagaaGreatAmB
import Derived.Below
namespace Go.Am
open Go.RowKit
theorem aaC {P:Program} {f:FuncId} {b:Bool} (h:fM P f [] (.bl b)) (W:World):
  Calls P f #[] W fun e W'=>e= .returned (.bool b)∧Below W.heap.size W W':=by
 refine(h (fun _=>False) W #[] (fun _ h=>h.elim) .nil).mono fun e W' he=> ?_
 cases e with
 |returned v=>
  obtain⟨I',h1,h2,h3,h4,h5,h6,h7,h8,_⟩:=he
  obtain⟨Mn,_,_,_,hr⟩:=h8 0
  have hr':Rp I' Mn W' (.bl b) v:=hr
  cases hr'
  exact⟨rfl,h1,h2,h3,h4,h5⟩
 |panicked c=>exact he.elim
 |outgrown=>exact he.elim
def find:List (Nat×CF)→Nat→Option CF
 | [],_=>none
 |(k,c)::l,n=>if k=n then some c else find l n
def aW (P:Program):List (Nat×CF)→Prop
 | []=>True
 |(k,c)::l=>(∃fn live,P.funcs[k]? =some fn∧jj P live fn=some c)∧aW P l
theorem pa {P:Program}:∀{l:List (Nat×CF)} {n:Nat} {c:CF},aW P l→find l n=some c→∃fn live,P.funcs[n]? =some fn∧jj P live fn=some c
 | [],_,_,_,h=>by simp [find]at h
 |(k,c0)::l,n,c,ht,h=>by
  simp only [find]at h
  split at h
  ·rename_i hk;subst hk;injection h with h;subst h;exact ht.1
  ·exact pa ht.2 h
theorem adV {P:Program} {g:Cfg} {l:List (Nat×CF)} (ht:aW P l) (hc:g.code=find l) (he:g.ext=fun _ _=>none) (hw:g.wr=fun _ _ _ _=>none:=by rfl):CfgOk P g:=
 ⟨fun f c h=>pa ht (by rw [←hc];exact h),fun f as r h=>by rw [he]at h;simp at h,fun f as h nx e h1=>by rw [hw]at h1;simp at h1⟩
theorem HW {P:Program} {g:Cfg} (hm:P.follows .mixedOrders=true) (hg:CfgOk P g) {k:Nat} {f:FuncId} {as:List AV} {r:AV} (h:Cv g k f as=some r):mO P f∧fM P f as r:=
 xf hg (Ea hm hg k) h
def told (l:List Nat):FuncId→List AV→Option AV:=fun f as=>match as with
 | []=>if l.contains f then some (.bl true)else none
 |_=>none
theorem aa8 {P:Program} {g:Cfg} {l:List (Nat×CF)} {fs:List Nat} (ht:aW P l) (hc:g.code=find l) (he:g.ext=told fs) (hf:∀f∈fs,mO P f∧fM P f [] (.bl true)) (hw:g.wr=fun _ _ _ _=>none:=by rfl):CfgOk P g:=
 ⟨fun f c h=>pa ht (by rw [←hc];exact h),fun f as r h=>by
  rw [he]at h
  cases as with
  |cons a as=>simp [told]at h
  |nil=>
   simp only [told,Option.ite_none_right_eq_some,Option.some.injEq]at h
   obtain⟨hm,rfl⟩:=h
   exact hf f (by simpa using hm),fun f as h nx e h1=>by rw [hw]at h1;simp at h1⟩
def OG (l:List (List Nat)) (n:Nat):List Nat:=l.getD n []
end Go.Am
set_option linter.constructorNameAsVariable false
set_option linter.unusedVariables false
namespace Go.Am
inductive Sh where
 |i (k:IntKind)
 |b
 |s
 |row (e:Sh)
 |nil
 |cons (a b:Sh)
 deriving DecidableEq,Inhabited
@[reducible] def aL:Sh→Type
  | .i _=>Int
  | .b=>Bool
  | .s=>ByteArray
  | .row e=>List (aL e)
  | .nil=>Unit
  | .cons a b=>aL a×aL b
def Sh.sz:Sh→Nat
 | .nil=>0
 | .cons x y=>x.sz+y.sz
 |_=>1
def aa:(s:Sh)→aL s
 | .i _=>(0:Int)
 | .b=>false
 | .s=>ByteArray.empty
 | .row _=>[]
 | .nil=>()
 | .cons a b=>(aa a,aa b)
inductive SV where
 |a (v:AV)
 |ls (s:Sh) (ts:List (aL s))
 |ri (s:Sh) (ts:List (aL s)) (i off:Nat)
 |ow (s:Sh) (ts:List (aL s))
 |ag (cs:List SV)
 |tp (vs:List SV)
 |nz
 |uk
def iU:(s:Sh)→aL s→List SV
 | .i k,n=>[.a (.int k n)]
 | .b,b=>[.a (.bl b)]
 | .s,s=>[.a (.st s)]
 | .row e,ts=>[.ls e ts]
 | .nil,_=>[]
 | .cons a b,x=>iU a x.1++iU b x.2
def gy:(s:Sh)→List SV→Option (aL s×List SV)
 | .i k,cs=>match cs with
  | .a (.int k' n)::cs=>if k'=k then some (n,cs)else none
  |_=>none
 | .b,cs=>match cs with
  | .a (.bl b)::cs=>some (b,cs)
  |_=>none
 | .s,cs=>match cs with
  | .a (.st s)::cs=>some (s,cs)
  |_=>none
 | .row e,cs=>match cs with
  | .ls e' ts::cs=>if h:e'=e then some (h▸ts,cs)else none
  | .a .ns::cs=>some ([],cs)
  | .a .ez::cs=>some ([],cs)
  | .nz::cs=>some ([],cs)
  |_=>none
 | .nil,cs=>some ((),cs)
 | .cons a b,cs=>(gy a cs).bind fun p=>(gy b p.2).bind fun q=>some ((p.1,q.1),q.2)
def dq (s:Sh) (cs:List SV):Option (aL s):=(gy s cs).bind fun p=>match p.2 with
 | []=>some p.1
 |_=>none
inductive SB where
 |vr (sz:Nat) (cs:List SV) (t:TypeId)
 |row (s:Sh) (ts:List (aL s)) (t:TypeId)
 |ar (s:Sh) (ts:List (aL s)) (t:TypeId)
 |mi (k:IntKind) (g:Bool) (s:Sh) (es:List (Int×aL s))
 |ms (g:Bool) (s:Sh) (es:List (ByteArray×aL s))
 |ml (es:List (AV×AV))
 |dd
abbrev SM:=List (Nat×SV)
abbrev bN:=List (Nat×SB)
structure SS where
 tm:SM
 h:bN
 nx:Nat
 bs:Nat
structure Nodes (ρ:Type) where
 br:Bool→Option ρ→Option ρ→Option ρ
 cl:{Y:Type}→Option Y→(Y→Option ρ)→Option ρ
 uk:List Nat→CC→SS→Option ρ
 sm:{A B:Type}→A⊕B→(A→Option ρ)→(B→Option ρ)→Option ρ
 sp:Int→Option ρ→(Nat→Option ρ)→Option ρ
def dz {ρ:Type} (n:Int) (a:Option ρ) (b:Nat→Option ρ):Option ρ:=match n with
 | .ofNat 0=>a
 | .ofNat (j+1)=>b j
 | .negSucc _=>none
def aG (ρ:Type):Nodes ρ:={br:=fun b x y=>bif b then x else y,cl:=fun o k=>o.bind k,uk:=fun _ _ _=>none,sm:=fun x f g=>match x with| .inl a=>f a| .inr b=>g b,sp:=dz}
def gp:Nat:=1000000
def mj:Nat:=999999
def bw:SM→Nat→SV
 | [],_=>.a .ud
 |(k,v)::l,n=>if k=n then v else if k=mj then .uk else bw l n
def cS:SV→Bool
 | .uk=>true
 |_=>false
def dh:bN→Nat→SB
 | [],_=>.dd
 |(k,v)::l,n=>if k=n then v else dh l n
def lX:AV→Bool
 | .ag _| .tp _| .ow .. =>false
 |_=>true
def zS (z:List AV):Option (List SV):=if z.all lX then some (z.map .a)else none
def nG:AV→SV
 | .ag cs=>match zS cs with
  |some l=>.ag l
  |none=>.uk
 | .tp _| .ow .. =>.uk
 |v=>.a v
def bv (tm:SM):Opd→SV
 | .t n=>bw tm n
 | .c v=>nG v
def qO:SV→List Nat
 | .a v=>cR v
 |_=>[]
def Cy:SV→List Nat
 | .ag cs=>cs.flatMap qO
 |v=>qO v
def dQ:SV→List Nat
 | .tp vs=>vs.flatMap Cy
 |v=>Cy v
def OH:SV→AV
 | .a v=>v
 |_=>.ns
def vR:SB→BK
 | .vr sz cs t=>.rw true sz [cs.map OH] t
 | .row _ _ t=>.rw false 0 [] t
 | .ar _ _ t=>.rw true 0 [] t
 | .mi .. | .ms .. | .ml .. =>.mp []
 | .dd=>.dd
def ku (h:bN):List (Nat×BK):=h.map fun p=>(p.1,vR p.2)
def fF:bN→Nat→SB→bN
 | [],n,v=>[(n,v)]
 |(k,w)::l,n,v=>if k=n then(n,v)::l else(k,w)::fF l n v
def mW:bN→List Nat→bN
 |h,[]=>h
 |h,b::bs=>fF (mW h bs) b .dd
def iw (h:bN) (b:Nat):Bool:=match dh h b with
 | .dd=>false
 |_=>true
def bI:SV→Option (List SV)
 | .ag cs=>some cs
 | .tp _| .uk=>none
 | .a v=>match v with
  | .ag _| .tp _| .ud| .ow .. =>none
  |_=>some [.a v]
 | .ow .. =>none
 |v=>some [v]
def HX:SV→Bool
 | .a .ud=>true
 |_=>false
def nb (cs new:List SV) (off:Nat):List SV:=cs.take off++new++cs.drop (off+new.length)
def lY (z:List SV) (tm:SM):List (Nat×Nat×Opd)→Option (List SV)
 | []=>some z
 |(off,n,x)::ps=>match bI (bv tm x)with
  |some cs=>if cs.length=n∧off+n≤z.length then lY (nb z cs off) tm ps else none
  |none=>none
def eA (cs:List SV) (n:Option Nat):Option SV:=
 match n with
 |some _=>some (.ag cs)
 |none=>match cs with
  | [v]=>some v
  |_=>none
def HY (p:Nat→Bool) (r:Nat→Nat):SV→SV
 | .a v=>.a (jg p r v)
 | .ow .. =>.a .ud
 |v=>v
def MI (p:Nat→Bool) (r:Nat→Nat):SV→SV
 | .ag cs=>.ag (cs.map (HY p r))
 |v=>HY p r v
def nH (p:Nat→Bool) (r:Nat→Nat):SV→SV
 | .tp vs=>.tp (vs.map (MI p r))
 |v=>MI p r v
def qP (p:Nat→Bool) (r:Nat→Nat):SB→SB
 | .vr sz cs t=>.vr sz (cs.map (HY p r)) t
 |b=>b
def MJ (f:Nat→SB):Nat→List Nat→bN
 |_,[]=>[]
 |n,b::l=>(n,f b)::MJ f (n+1) l
def jp (live:List Nat) (S:SS):SS:=
 let old:=S.h.filter fun p=>p.1<S.bs
 let m:=gm (ku S.h) S.bs 4096 (live.flatMap (fun t=>dQ (bw S.tm t))++(ku old).flatMap fun p=>eH p.2) []
 let p:Nat→Bool:=fun b=>decide (b<S.bs)||m.contains b
 let r:Nat→Nat:=fun b=>if b<S.bs then b else vL m b S.bs
 {tm:=live.map fun t=>(t,if gp≤t then .a .ud else nH p r (bw S.tm t)),h:=old.map (fun q=>(q.1,qP p r q.2))++MJ (fun b=>qP p r (dh S.h b)) S.bs m,nx:=S.bs+m.length,bs:=S.bs}
def vS (h:bN) (U A:List Nat):bN:=A.map fun b=>(b,qP (U.contains ·) id (dh h b))
def Cz (tm:SM) (U:List Nat) (ts:List Nat):SM:=ts.map fun t=>(t,nH (U.contains ·) id (bw tm t))
def vT (h:bN) (f:Nat→SB):List Nat→bN
 | []=>h
 |b::l=>fF (vT h f l) b (f b)
structure Hint where
 sh:TypeId→Option Sh
 arr:TypeId→Option Sh
 mp:TypeId→Option (Option IntKind×Bool×Sh)
 sp:List (FuncId×List Nat)
 kl:List FuncId
 pr:List (FuncId×Nat×Bool)
 pf:List FuncId
def Eb (s:Sh):List (List SV)→Option (List (aL s))
 | []=>some []
 |c::l=>(dq s c).bind fun x=>(Eb s l).map (x::·)
def adW:Nat→List Nat
 |0=>[]
 |n+1=>adW n++ [n]
section
variable {ρ:Type} (N:Nodes ρ) (H:Hint)
abbrev KV (ρ:Type):=SM→SV→bN→Nat→Option ρ
def du (h:bN) (v:SV) (k:SV→Option ρ):Option ρ:=
 match v with
 | .a w=>match w with
  | .sl sz b lo len=>match dh h b with
   | .row s ts _=>if sz=s.sz then N.br (decide (lo+len≤ts.length)) (k (.ls s ((ts.drop lo).take len))) none else none
   |_=>none
  | .re .. | .mp _| .ag _| .tp _| .ud| .ow .. | .fn .. =>none
  |w=>k (.a w)
 | .ls s ts=>k (.ls s ts)
 | .ri s ts i off=>k (.ri s ts i off)
 | .nz=>k .nz
 |_=>none
def jq (f:SV→(SV→Option ρ)→Option ρ):List SV→(List SV→Option ρ)→Option ρ
 | [],k=>k []
 |c::cs,k=>f c fun a=>jq f cs fun l=>k (a::l)
def pZ (h:bN) (v:SV) (k:SV→Option ρ):Option ρ:=
 match v with
 | .ag cs=>jq (du N h) cs fun l=>k (.ag l)
 |v=>du N h v k
def iV (h:bN) (n:Nat) (a:SV) (k:List SV→Option ρ):Option ρ:=
 match a with
 | .a (.re sz b i off)=>match dh h b with
  | .vr sz' cs _=>if sz=sz'∧i=0∧off+n≤cs.length then k ((cs.drop off).take n)else none
  | .row s ts _=>if sz=s.sz∧off+n≤s.sz then N.br (decide (i<ts.length)) (k (((iU s (ts.getD i (aa s))).drop off).take n)) none else none
  | .ar s ts _=>if n=1∧s.sz=1∧i=0 then N.br (decide (off<ts.length) && decide (sz=ts.length)) (k (iU s (ts.getD off (aa s)))) none else none
  |_=>none
 | .ri s ts i off=>if off+n≤s.sz then N.br (decide (i<ts.length)) (k (((iU s (ts.getD i (aa s))).drop off).take n)) none else none
 |_=>none
def yj:SV→Option Int
 | .a (.int _ n)=>some n
 |_=>none
def ah (lo n hi:Int):Bool:=decide (lo≤n) && decide (n≤hi)
def iY (lo hi:Int) (x:SV) (k:Nat→Option ρ):Option ρ:=
 match yj x with
 |some n=>N.br (ah lo n hi) (k n.toNat) none
 |none=>none
def CA (n:Int) (k:Nat→Option ρ):Nat→Nat→Option ρ
 |_,0=>none
 |j,m+1=>N.br (decide (n=j)) (k j) (CA n k (j+1) m)
def xh (len:Nat) (x:SV) (k:Nat→Option ρ):Option ρ:=
 match yj x with
 |some n=>CA N n k 0 len
 |none=>none
def aa9:SB→Bool
 | .vr _ cs _=>cs.any fun c=>match c with
  | .a (.fn ..)=>true
  |_=>false
 |_=>false
def eI (d:Nat) (tm:SM) (lo hi:Nat) (o:Option Opd) (k:Nat→Option ρ):Option ρ:=
 match o with
 |none=>k d
 |some x=>iY N lo hi (bv tm x) k
def TX:Nat→SV→SV→Option Bool
 |1,.a (.int k a),.a (.int k' b)=>if k=k' then some (a==b)else none
 |0,.a (.bl a),.a (.bl b)=>some (a==b)
 |2,.a (.st a),.a (.st b)=>some (a.toList==b.toList)
 |_,_,_=>none
def qQ:List Nat→List SV→List SV→Option Bool
 | [],[],[]=>some true
 |k::ks,x::xs,y::ys=>(TX k x y).bind fun p=>(qQ ks xs ys).map fun q=>p && q
 |_,_,_=>none
def iy (h:bN) (s:Sh) (v:SV) (k:List (aL s)→Option ρ):Option ρ:=
 match v with
 | .a .ns| .a .ez| .nz=>k []
 | .ls s' ts=>if e:s'=s then k (e▸ts)else none
 | .a (.sl sz b lo len)=>match dh h b with
  | .row s' ts _=>if e:s'=s then(if sz=s.sz then N.br (decide (lo+len≤ts.length)) (k (((e▸ts:List (aL s)).drop lo).take len)) none else none)else none
  |_=>none
 | .a (.st x)=>if e:s= .i .u8 then k (e▸((x.data.toList.map fun c=>(c.toNat:Int)):List (aL (.i .u8))))else none
 |_=>none
def MK (h:bN):Nat→SV→Option Int
 |0,.a (.st s)=>some s.size
 |1,.a .ns|1,.a .ez|1,.nz=>some 0
 |1,.ls _ ts=>some ts.length
 |1,.a (.sl _ b _ len)=>if iw h b then some len else none
 |2,.a .nm=>some 0
 |2,.a (.mp b)=>match dh h b with
  | .mi _ _ _ es=>some es.length
  | .ms _ _ es=>some es.length
  | .ml es=>some es.length
  |_=>none
 |_,_=>none
def zX (h:bN) (k:Nat) (v:SV) (c:Bool→Option ρ):Option ρ:=
 match v with
 | .a w=>match k,w with
  |0,.np|1,.ns|2,.ni|3,.nf|4,.nm=>c true
  |0,.re _ b _ _|4,.mp b=>if iw h b then c false else none
  |1,.sl _ b _ _=>if iw h b then c false else none
  |3,.fn .. =>c false
  |_,_=>none
 | .ri .. =>if k=0 then c false else none
 | .ls _ ts=>if k=1 then N.br ts.isEmpty none (c false)else none
 |_=>none
def BP:List SV→Option (List AV)
 | []=>some []
 | .a v::l=>(BP l).map (v::·)
 |_::_=>none
def bytesOf (ts:List Int):ByteArray:=⟨(ts.map fun n=>UInt8.ofNat n.toNat).toArray⟩
def ai1 (x:SV):Option (IntKind×Int):=match x with
 | .a (.int k n)=>some (k,n)
 |_=>none
def ai2 (x:SV):Option ByteArray:=match x with
 | .a (.st s)=>some s
 |_=>none
def fq {K V:Type} [BEq K] (d:V):List (K×V)→K→V
 | [],_=>d
 |(a,v)::l,x=>if x==a then v else fq d l x
def bT {K V:Type} [BEq K]:List (K×V)→K→Bool
 | [],_=>false
 |(a,_)::l,x=>x==a||bT l x
def bW {K V:Type} [BEq K]:List (K×V)→K→V→List (K×V)
 | [],x,v=>[(x,v)]
 |(a,w)::l,x,v=>if x==a then(x,v)::l else(a,w)::bW l x v
def eB {K V:Type} [BEq K]:List (K×V)→K→List (K×V)
 | [],_=>[]
 |(a,w)::l,x=>if x==a then l else(a,w)::eB l x
def uh (x:AV):List (AV×AV)→(AV→Option ρ)→Option ρ→Option ρ
 | [],_,d=>d
 |(a,v)::l,k,d=>match x,a with
  | .int k1 n,.int k2 m=>if k1=k2 then N.br (n==m) (k v) (uh x l k d)else none
  | .st n,.st m=>N.br (n==m) (k v) (uh x l k d)
  |_,_=>none
def lZ (v:SV):List SV:=match v with
 | .ag cs=>cs
 |v=>[v]
def yl (ag:Bool) (cs:List SV):Option SV:=if ag then some (.ag cs)else match cs with
 | [v]=>some v
 |_=>none
def lI:SV→Bool
 | .ag _=>true
 |_=>false
def HZ:AV→Bool
 | .ag _=>true
 |_=>false
def ai3 (h:bN) (nx:Nat) (k:KV ρ) (v:SV):Option ρ:=k [] v h nx
def opS (tm:SM) (h:bN) (nx:Nat) (op:COp) (k:KV ρ):Option ρ:=
 match op with
 | .mv x=>k [] (bv tm x) h nx
 | .pk c a b=>match c with
  | .t t=>match bw tm t with
   | .a (.bl p)=>N.br p (k [(t,.a (.bl true))] (bv tm a) h nx) (k [(t,.a (.bl false))] (bv tm b) h nx)
   |_=>none
  | .c (.bl p)=>if p then k [] (bv tm a) h nx else k [] (bv tm b) h nx
  |_=>none
 | .al z t=>match H.arr t with
  |some s=>if s.sz=1 then match (zS z).bind fun l=>Eb s (l.map fun c=>[c])with
   |some ts=>k [] (.a (.re z.length nx 0 0)) ((nx,.ar s ts t)::h) (nx+1)
   |none=>none else none
  |none=>match zS z with
   |some l=>k [] (.a (.re z.length nx 0 0)) ((nx,.vr z.length l t)::h) (nx+1)
   |none=>none
 | .bx t x=>match bI (bv tm x)with
  |some cs=>k [] (.a (.re cs.length nx 0 0)) ((nx,.vr cs.length cs t)::h) (nx+1)
  |none=>none
 | .bd z ps=>match (zS z).bind fun l=>lY l tm ps with
  |some cs=>k [] (.ag cs) h nx
  |none=>none
 | .bs sz len z t ps=>match H.sh t with
  |some s=>if s.sz=sz then match (zS z).bind (dq s)with
   |some d=>
    let rec go (l:List (Nat×Opd)) (ts:List (aL s)):Option ρ:=match l with
     | []=>k [] (.a (.sl sz nx 0 ts.length)) ((nx,.row s ts t)::mW h (ps.flatMap fun p=>dQ (bv tm p.2))) (nx+1)
     |(i,x)::l=>match bI (bv tm x)with
      |some cs=>jq (du N h) cs fun cs=>match dq s cs with
       |some y=>go l (ts.set i y)
       |none=>none
      |none=>none
    go ps (List.replicate len d)
   |none=>none else none
  |none=>none
 | .ld n a=>iV N h (n.getD 1) (bv tm a) fun cs=>match eA cs n with
  |some v=>k [] v h nx
  |none=>none
 | .sr n a x=>match bI (bv tm x)with
  |some new=>if new.length≠n∨new.any HX=true then none else match bv tm a with
   | .a (.re sz b i off)=>match dh h b with
    | .vr sz' cs t=>if sz=sz'∧i=0∧off+n≤cs.length then k [] (.a .ud) (fF h b (.vr sz (nb cs new off) t)) nx else none
    | .ar s ts t=>match dq s new with
     |some y=>if s.sz=1∧i=0 then N.br (decide (off<ts.length) && decide (sz=ts.length)) (k [] (.a .ud) (fF h b (.ar s (ts.set off y) t)) nx) none else none
     |none=>none
    | .row s ts t=>if sz=s.sz∧off+n≤s.sz∧(new.flatMap qO).contains b=false then
      jq (du N h) new fun new'=>N.br (decide (i<ts.length)) (match dq s (nb (iU s (ts.getD i (aa s))) new' off)with
       |some y=>k [] (.a .ud) (fF (mW h (new.flatMap qO)) b (.row s (ts.set i y) t)) nx
       |none=>none) none
     else none
    |_=>none
   |_=>none
  |none=>none
 | .nc x=>match bv tm x with
  | .a (.re sz b i off)=>if iw h b then k [] (.a (.re sz b i off)) h nx else none
  | .ri s ts i off=>k [] (.ri s ts i off) h nx
  | .a (.fn f caps)=>k [] (.a (.fn f caps)) h nx
  |_=>none
 | .bn op x y=>match bv tm x,bv tm y with
  | .a v,.a w=>match op,v,w with
   | .shl,.int kd a,.int _ b=>N.br (decide (b<0)) none (k [] (.a (.int kd (kd.wrap (a*2^(min b.toNat kd.bits))))) h nx)
   | .shr,.int kd a,.int _ b=>N.br (decide (b<0)) none (k [] (.a (.int kd (a.fdiv (2^(min b.toNat kd.bits))))) h nx)
   | .quo,.int kd a,.int kd' b=>if kd=kd' then N.br (decide (b=0)) none (k [] (.a (.int kd (kd.wrap (a.tdiv b)))) h nx)else none
   | .rem,.int kd a,.int kd' b=>if kd=kd' then N.br (decide (b=0)) none (k [] (.a (.int kd (a.tmod b))) h nx)else none
   | .add,.st a,.st b=>N.br (decide (((a.size+b.size:Nat):Int)>IntKind.i64.max)) none (k [] (.a (.st (a++b))) h nx)
   |op,v,w=>match qz op v w with
    |some r=>if lX r then k [] (.a r) h nx else none
    |none=>none
  |_,_=>none
 | .ea neg ks x y=>match bv tm x,bv tm y with
  | .ag a,.ag b=>match qQ ks a b with
   |some r=>k [] (.a (.bl (if neg then !r else r))) h nx
   |none=>none
  |_,_=>none
 | .eb neg x y=>match bv tm x,bv tm y with
  | .a (.bl a),.a (.bl b)=>k [] (.a (.bl (if neg then !(a==b)else a==b))) h nx
  |_,_=>none
 | .nq neg kd x=>zX N h kd (bv tm x) fun r=>k [] (.a (.bl (if neg then !r else r))) h nx
 | .un op x=>match op,bv tm x with
  | .neg,.a (.int kd n)=>k [] (.a (.int kd (kd.wrap (0-n)))) h nx
  | .not,.a (.bl b)=>k [] (.a (.bl !b)) h nx
  |_,_=>none
 | .ci kd x=>match bv tm x with
  | .a (.int _ n)=>k [] (.a (.int kd (kd.wrap n))) h nx
  |_=>none
 | .cv1 x=>match bv tm x with
  | .a (.st s)=>k [] (.a (.st s)) h nx
  |_=>none
 | .cs t x=>match bv tm x with
  | .a (.st s)=>k [] (.a (.sl 1 nx 0 s.size)) ((nx,.row (.i .u8) (s.data.toList.map fun c=>(c.toNat:Int)) t)::h) (nx+1)
  |_=>none
 | .cb x=>match bv tm x with
  | .a (.st _)=>none
  |v=>iy N h (.i .u8) v fun ts=>k [] (.a (.st (bytesOf ts))) h nx
 | .fa off x=>match bv tm x with
  | .a (.re sz b i o)=>if iw h b then k [] (.a (.re sz b i (o+off))) h nx else none
  | .ri s ts i o=>k [] (.ri s ts i (o+off)) h nx
  |_=>none
 | .fd off n x=>match bv tm x with
  | .ag cs=>match eA ((cs.drop off).take (n.getD 1)) n with
   |some v=>k [] v h nx
   |none=>none
  |_=>none
 | .ia arr sz x i=>match arr with
  |some len=>match bv tm x with
   | .a (.re z b j o)=>if iw h b then if aa9 (dh h b)then xh N len (bv tm i) fun q=>k [] (.a (.re z b j (o+q*sz))) h nx else iY N 0 (len-1) (bv tm i) fun q=>k [] (.a (.re z b j (o+q*sz))) h nx else none
   |_=>none
  |none=>match bv tm x with
   | .ls s ts=>if s.sz=sz then iY N 0 (ts.length-1:Int) (bv tm i) fun q=>k [] (.ri s ts q 0) h nx else none
   | .a (.sl sz' b lo len)=>if sz'≠sz|| !iw h b then none else iY N 0 (len-1:Int) (bv tm i) fun q=>k [] (.a (.re sz b (lo+q) 0)) h nx
   |_=>none
 | .ix len sz n x i=>match bv tm x with
  | .ag cs=>match yj (bv tm i)with
   |some m=>
    let rec goIx (q:Nat) (fuel:Nat):Option ρ:=match fuel with
     |0=>none
     |fuel+1=>N.br (decide (m=q)) (match eA ((cs.drop (q*sz)).take sz) n with
      |some v=>k [] v h nx
      |none=>none) (goIx (q+1) fuel)
    goIx 0 len
   |none=>none
  |_=>none
 | .si x i=>match bv tm x,bv tm i with
  | .a (.st s),.a (.int _ n)=>N.br (decide (0≤n) && decide (n<s.size)) (k [] (.a (.int .u8 ((s.data.toList.getD n.toNat 0).toNat))) h nx) none
  |_,_=>none
 | .ss x lo hi=>match bv tm x with
  | .a (.st s)=>eI N s.size tm 0 s.size hi fun b=>eI N 0 tm 0 b lo fun a=>k [] (.a (.st (s.extract a b))) h nx
  |_=>none
 | .sc sz x lo hi mx=>match bv tm x with
  | .a .ns=>eI N 0 tm 0 0 mx fun _=>eI N 0 tm 0 0 hi fun _=>eI N 0 tm 0 0 lo fun _=>k [] (.a .ns) h nx
  | .a .ez=>eI N 0 tm 0 0 mx fun _=>eI N 0 tm 0 0 hi fun _=>eI N 0 tm 0 0 lo fun _=>k [] (.a .ez) h nx
  | .nz=>eI N 0 tm 0 0 mx fun _=>eI N 0 tm 0 0 hi fun _=>eI N 0 tm 0 0 lo fun _=>k [] .nz h nx
  | .ls s ts=>if s.sz≠sz then none else if mx.isSome then
    eI N 0 tm 0 ts.length mx fun m=>eI N 0 tm 0 m hi fun b=>eI N 0 tm 0 b lo fun a=>N.br (decide (a=m)) (k [] .nz h nx) none
   else eI N ts.length tm 0 ts.length hi fun b=>eI N 0 tm 0 b lo fun a=>k [] (.ls s ((ts.drop a).take (b-a))) h nx
  | .a (.sl sz' r lo0 len)=>if sz'≠sz|| !iw h r then none else if mx.isSome then
    eI N 0 tm 0 len mx fun m=>eI N 0 tm 0 m hi fun b=>eI N 0 tm 0 b lo fun a=>N.br (decide (a=m)) (k [] (.a .ez) h nx) none
   else eI N len tm 0 len hi fun b=>eI N 0 tm 0 b lo fun a=>k [] (.a (.sl sz r (lo0+a) (b-a))) h nx
  |_=>none
 | .mk sz bytes z t l c=>match bv tm l,bv tm c,H.sh t with
  | .a (.int _ a),.a (.int _ b),some s=>if s.sz=sz then match (zS z).bind (dq s)with
   |some d=>N.br (decide (0≤a) && decide (a≤b) && decide (b≤bh) && decide (bytes*b≤bh)) (k [] (.a (.sl sz nx 0 a.toNat)) ((nx,.row s (List.replicate a.toNat d) t)::h) (nx+1)) none
   |none=>none else none
  |_,_,_=>none
 | .mf f caps=>match BP (caps.map (bv tm))with
  |some l=>if l.all Dp then k [] (.a (.fn f l)) h nx else none
  |none=>none
 | .ex x i=>match bv tm x with
  | .tp vs=>match vs[i]? with
   |some v=>k [] v h nx
   |none=>none
  |_=>none
 | .le kd x=>match MK h kd (bv tm x)with
  |some n=>k [] (.a (.int .i64 n)) h nx
  |none=>none
 | .ap sz bytes t x y=>match H.sh t with
  |some s=>if s.sz≠sz then none else iy N h s (bv tm x) fun a=>iy N h s (bv tm y) fun b=>
   N.br (decide ((a.length+b.length)*bytes≤bh) && decide (a.length+b.length≤bh)) (match bv tm x with
    | .a .ns=>N.br b.isEmpty (k [] (.a .ns) h nx) (k [] (.a (.sl sz nx 0 b.length)) ((nx,.row s b t)::h) (nx+1))
    | .nz=>N.br b.isEmpty (k [] .nz h nx) (k [] (.a (.sl sz nx 0 b.length)) ((nx,.row s b t)::h) (nx+1))
    | .a .ez=>N.br b.isEmpty (k [] (.a .ez) h nx) (k [] (.a (.sl sz nx 0 b.length)) ((nx,.row s b t)::h) (nx+1))
    | .a (.sl _ r lo len)=>match dh h r with
     | .row s' ts _=>N.br (decide (lo+len=ts.length)) (k [] (.a (.sl sz nx 0 (a++b).length)) ((nx,.row s (a++b) t)::fF h r .dd) (nx+1)) none
     |_=>none
    |_=>none) none
  |none=>none
 | .mx xs=>match BP (xs.map (bv tm))with
  |some (.int kd a::l)=>match l.foldlM HI a with
   |some m=>k [] (.a (.int kd m)) h nx
   |none=>none
  |_=>none
 | .mn xs=>match BP (xs.map (bv tm))with
  |some (.int kd a::l)=>match l.foldlM HJ a with
   |some m=>k [] (.a (.int kd m)) h nx
   |none=>none
  |_=>none
 | .mm t=>k [] (.a (.mp nx)) ((nx,match H.mp t with
   |some (some kd,g,s)=>.mi kd g s []
   |some (none,g,s)=>.ms g s []
   |none=>.ml [])::h) (nx+1)
 | .lk st z ok x i=>match bv tm x with
  | .a (.mp b)=>match dh h b with
   | .mi kd g s es=>match bv tm i,(bI (nG z)).bind (dq s)with
    | .a (.int kd' n),some d=>if kd'=kd∧HZ z=g∧st=false then match yl g (iU s (fq d es n))with
      |some v=>k [] (if ok then .tp [v,.a (.bl (bT es n))]else v) h nx
      |none=>none else none
    |_,_=>none
   | .ms g s es=>match bv tm i,(bI (nG z)).bind (dq s)with
    | .a (.st n),some d=>if HZ z=g∧st=true then match yl g (iU s (fq d es n))with
      |some v=>k [] (if ok then .tp [v,.a (.bl (bT es n))]else v) h nx
      |none=>none else none
    |_,_=>none
   | .ml es=>match bv tm i with
    | .a v=>if gl st v=true∧lX z=true then uh N v es (fun w=>if lX w then k [] (if ok then .tp [.a w,.a (.bl true)]else .a w) h nx else none) (k [] (if ok then .tp [.a z,.a (.bl false)]else .a z) h nx)else none
    |_=>none
   |_=>none
  |_=>none
 | .mu st x y v=>match bv tm x with
  | .a (.mp b)=>match dh h b with
   | .mi kd g s es=>match bv tm y,(bI (bv tm v)).bind (dq s)with
    | .a (.int kd' n),some d=>if kd'=kd∧lI (bv tm v)=g∧st=false then k [] (.a .ud) (fF h b (.mi kd g s (bW es n d))) nx else none
    |_,_=>none
   | .ms g s es=>match bv tm y,(bI (bv tm v)).bind (dq s)with
    | .a (.st n),some d=>if lI (bv tm v)=g∧st=true then k [] (.a .ud) (fF h b (.ms g s (bW es n d))) nx else none
    |_,_=>none
   | .ml es=>match bv tm y,bv tm v with
    | .a y,.a v=>if Dr v=true∧gl st y=true then match cZ y es 0 with
      |some (some (i,_))=>k [] (.a .ud) (fF h b (.ml (es.set i (y,v)))) nx
      |some none=>k [] (.a .ud) (fF h b (.ml (es++ [(y,v)]))) nx
      |none=>none else none
    |_,_=>none
   |_=>none
  |_=>none
 | .de st x y=>match bv tm x with
  | .a (.mp b)=>match dh h b with
   | .mi kd g s es=>match bv tm y with
    | .a (.int kd' n)=>if kd'=kd∧st=false then k [] (.tp []) (fF h b (.mi kd g s (eB es n))) nx else none
    |_=>none
   | .ms g s es=>match bv tm y with
    | .a (.st n)=>if st=true then k [] (.tp []) (fF h b (.ms g s (eB es n))) nx else none
    |_=>none
   |_=>none
  |_=>none
 |_=>none
end
inductive PC where
 |c (v:AV)
 |hi (k:IntKind)
 |hb
 |hs
 |hl (s:Sh)
 |hr (s:Sh) (off:Nat)
 |s0 (sz b:Nat)
 |sn (sz b:Nat)
 |hp (sz b off:Nat)
 |nz
inductive PV where
 |c (p:PC)
 |ag (ps:List PC)
 |t0
 |uk
inductive PB where
 |vr (sz:Nat) (ps:List PC) (t:TypeId)
 |row (s:Sh) (t:TypeId)
 |ar (s:Sh) (t:TypeId)
 |mi (k:IntKind) (g:Bool) (s:Sh)
 |ms (g:Bool) (s:Sh)
 |ml (es:List (AV×AV))
 |dd
structure PS where
 tm:List (Nat×PV)
 h:List (Nat×PB)
 nx:Nat
 bs:Nat
@[reducible] def KO:PC→Type→Type
  | .c _,R=>R
  | .hi _,R=>Int×R
  | .hb,R=>Bool×R
  | .hs,R=>ByteArray×R
  | .hl s,R=>List (aL s)×R
  | .hr s _,R=>List (aL s)×Nat×R
  | .s0 _ _,R=>Nat×R
  | .sn _ _,R=>Nat×Nat×R
  | .hp _ _ _,R=>Nat×R
  | .nz,R=>R
@[reducible] def zY:List PC→Type→Type
  | [],R=>R
  |p::ps,R=>KO p (zY ps R)
@[reducible] def OI:PV→Type→Type
  | .c p,R=>KO p R
  | .ag ps,R=>zY ps R
  | .t0,R=>R
  | .uk,R=>R
@[reducible] def KP:List (Nat×PV)→Type→Type
  | [],R=>R
  |p::ps,R=>OI p.2 (KP ps R)
@[reducible] def OJ:PB→Type→Type
  | .vr _ ps _,R=>zY ps R
  | .row s _,R=>List (aL s)×R
  | .ar s _,R=>List (aL s)×R
  | .mi _ _ s,R=>List (Int×aL s)×R
  | .ms _ s,R=>List (ByteArray×aL s)×R
  | .ml _,R=>R
  | .dd,R=>R
@[reducible] def KQ:List (Nat×PB)→Type→Type
  | [],R=>R
  |p::ps,R=>OJ p.2 (KQ ps R)
@[reducible] def Ec (p:PS):Type:=KP p.tm (KQ p.h Unit)
def Ia:(p:PC)→{R:Type}→KO p R→SV×R
 | .c v,_,r=>(.a v,r)
 | .hi k,_,x=>(.a (.int k x.1),x.2)
 | .hb,_,x=>(.a (.bl x.1),x.2)
 | .hs,_,x=>(.a (.st x.1),x.2)
 | .hl s,_,x=>(.ls s x.1,x.2)
 | .hr s off,_,x=>(.ri s x.1 x.2.1 off,x.2.2)
 | .s0 sz b,_,x=>(.a (.sl sz b 0 x.1),x.2)
 | .sn sz b,_,x=>(.a (.sl sz b x.1 x.2.1),x.2.2)
 | .hp sz b off,_,x=>(.a (.re sz b x.1 off),x.2)
 | .nz,_,r=>(.nz,r)
def ui:(ps:List PC)→{R:Type}→zY ps R→List SV×R
 | [],_,r=>([],r)
 |p::ps,_,x=>let y:=Ia p x
  let z:=ui ps y.2
  (y.1::z.1,z.2)
def Ib:(p:PV)→{R:Type}→OI p R→SV×R
 | .c p,_,x=>Ia p x
 | .ag ps,_,x=>let y:=ui ps x
  (.ag y.1,y.2)
 | .t0,_,x=>(.tp [],x)
 | .uk,_,x=>(.uk,x)
def CB:(ps:List (Nat×PV))→{R:Type}→KP ps R→SM×R
 | [],_,r=>([],r)
 |p::ps,_,x=>let y:=Ib p.2 x
  let z:=CB ps y.2
  ((p.1,y.1)::z.1,z.2)
def Ic:(p:PB)→{R:Type}→OJ p R→SB×R
 | .vr sz ps t,_,x=>let y:=ui ps x
  (.vr sz y.1 t,y.2)
 | .row s t,_,x=>(.row s x.1 t,x.2)
 | .ar s t,_,x=>(.ar s x.1 t,x.2)
 | .mi k g s,_,x=>(.mi k g s x.1,x.2)
 | .ms g s,_,x=>(.ms g s x.1,x.2)
 | .ml es,_,x=>(.ml es,x)
 | .dd,_,x=>(.dd,x)
def CD:(ps:List (Nat×PB))→{R:Type}→KQ ps R→bN×R
 | [],_,r=>([],r)
 |p::ps,_,x=>let y:=Ic p.2 x
  let z:=CD ps y.2
  ((p.1,y.1)::z.1,z.2)
def vU (p:PS) (x:Ec p):SS:=
 let y:=CB p.tm x
 {tm:=y.1,h:=(CD p.h y.2).1,nx:=p.nx,bs:=p.bs}
def avEq:AV→AV→Bool
 | .int k n,.int k' m=>decide (k=k') && decide (n=m)
 | .bl a,.bl b=>a==b
 | .np,.np| .nm,.nm| .nf,.nf| .ni,.ni| .ns,.ns| .ez,.ez| .ud,.ud=>true
 | .re a b c d,.re a' b' c' d'=>decide (a=a') && decide (b=b') && decide (c=c') && decide (d=d')
 | .mp b,.mp b'=>decide (b=b')
 | .st s,.st s'=>decide (s.data.toList=s'.data.toList)
 | .fn f cs,.fn f' cs'=>decide (f=f') && go cs cs'
 |_,_=>false
where go:List AV→List AV→Bool
 | [],[]=>true
 | .re a b c d::l,.re a' b' c' d'::l'=>decide (a=a') && decide (b=b') && decide (c=c') && decide (d=d') && go l l'
 |_,_=>false
def kv:(p:PC)→SV→{R:Type}→R→Option (KO p R)
 | .c v,.a w,_,r=>if avEq v w then some r else none
 | .hi k,.a (.int k' n),_,r=>if k'=k then some (n,r)else none
 | .hb,.a (.bl b),_,r=>some (b,r)
 | .hs,.a (.st s),_,r=>some (s,r)
 | .hl s,.ls s' ts,_,r=>if h:s'=s then some (h▸ts,r)else none
 | .hr s off,.ri s' ts i off',_,r=>if off'=off then(if h:s'=s then some (h▸ts,i,r)else none)else none
 | .s0 sz b,.a (.sl sz' b' lo len),_,r=>if sz'=sz∧b'=b∧lo=0 then some (len,r)else none
 | .sn sz b,.a (.sl sz' b' lo len),_,r=>if sz'=sz∧b'=b then some (lo,len,r)else none
 | .hp sz b off,.a (.re sz' b' i off'),_,r=>if sz'=sz∧b'=b∧off'=off then some (i,r)else none
 | .nz,.nz,_,r=>some r
 |_,_,_,_=>none
def pb:(ps:List PC)→List SV→{R:Type}→R→Option (zY ps R)
 | [],[],_,r=>some r
 |p::ps,v::vs,_,r=>(pb ps vs r).bind fun z=>kv p v z
 |_,_,_,_=>none
def Ed:(p:PV)→SV→{R:Type}→R→Option (OI p R)
 | .c p,v,_,r=>kv p v r
 | .ag ps,.ag vs,_,r=>pb ps vs r
 | .t0,.tp [],_,r=>some r
 | .uk,.uk,_,r=>some r
 |_,_,_,_=>none
def xi:(ps:List (Nat×PV))→SM→{R:Type}→R→Option (KP ps R)
 | [],[],_,r=>some r
 |p::ps,v::vs,_,r=>if p.1=v.1 then(xi ps vs r).bind fun z=>Ed p.2 v.2 z else none
 |_,_,_,_=>none
def zZ:List (AV×AV)→List (AV×AV)→Bool
 | [],[]=>true
 |(a,b)::l,(a',b')::l'=>avEq a a' && avEq b b' && zZ l l'
 |_,_=>false
def qR:(p:PB)→SB→{R:Type}→R→Option (OJ p R)
 | .vr sz ps t,.vr sz' cs t',_,r=>if sz'=sz∧t'=t then pb ps cs r else none
 | .row s t,.row s' ts t',_,r=>if t'=t then(if h:s'=s then some (h▸ts,r)else none)else none
 | .ar s t,.ar s' ts t',_,r=>if t'=t then(if h:s'=s then some (h▸ts,r)else none)else none
 | .mi k g s,.mi k' g' s' es,_,r=>if k'=k∧g'=g then(if h:s'=s then some (h▸es,r)else none)else none
 | .ms g s,.ms g' s' es,_,r=>if g'=g then(if h:s'=s then some (h▸es,r)else none)else none
 | .ml es,.ml es',_,r=>if zZ es es' then some r else none
 | .dd,.dd,_,r=>some r
 |_,_,_,_=>none
def xj:(ps:List (Nat×PB))→bN→{R:Type}→R→Option (KQ ps R)
 | [],[],_,r=>some r
 |p::ps,v::vs,_,r=>if p.1=v.1 then(xj ps vs r).bind fun z=>qR p.2 v.2 z else none
 |_,_,_,_=>none
def Aa (p:PS) (S:SS):Option (Ec p):=if p.nx=S.nx∧p.bs=S.bs then(xj p.h S.h ()).bind fun z=>xi p.tm S.tm z else none
def CE (p:PS) (S:SS):SS:={S with tm:=p.tm.map fun q=>(q.1,if q.1=mj then .uk else bw S.tm q.1)}
def qc (live:List Nat) (S:SS):Bool:=match live with
 | []=>true
 | [_]=>true
 |t::l=> !cS (bw S.tm t) && qc l S
@[reducible] def mo:List PS→Type
  | []=>Empty
  | [p]=>Ec p
  |p::q::l=>Ec p⊕mo (q::l)
def uj:(l:List PS)→SS→Option (mo l)
 | [],_=>none
 | [p],S=>Aa p S
 |p::q::l,S=>match Aa p S with
  |some x=>some (.inl x)
  |none=>(uj (q::l) S).map .inr
def vV:(l:List PS)→mo l→SS
 | [],x=>nomatch x
 | [p],x=>vU p x
 |p::_::_,.inl x=>vU p x
 |_::q::l,.inr y=>vV (q::l) y
@[reducible] def ul:List (EX×PS)→Type
  | []=>Empty
  | [p]=>Ec p.2
  |p::q::l=>Ec p.2⊕ul (q::l)
structure Lps where
 ps:List PS
 os:List (EX×PS)
 L:mo ps→Option (ul os)
structure Ctr where
 s:Sh
 t:Sh
 as:List (Bool×Nat)
 rs:List (Bool×Nat)
 own:List (Nat×Bool)
 F:aL s→Option (aL t)
structure Wrt where
 s:Sh
 c:FuncId
 F:List (aL s)→Option (List (aL s))
structure Tbl where
 code:FuncId→Option CF
 hint:Hint
 ct:FuncId→Option Ctr
 lp:Nat→Option Lps
 st:FuncId→Option Wrt
def ed:List Nat→Nat
 | []=>0
 | [n]=>n
 |_::l=>ed l
def jr (args:List SV) (i:Nat:=0):SM:=
 match args with
 | []=>[]
 |a::as=>(i,a)::jr as (i+1)
def vW:List SV→SV
 | [v]=>v
 |vs=>.tp vs
def kw:List (Bool×Nat)→List SV→Option (List SV)
 | [],[]=>some []
 |(true,n)::rs,cs=>(kw rs (cs.drop n)).map (.ag (cs.take n)::·)
 |(false,_)::rs,c::cs=>(kw rs cs).map (c::·)
 |_,_=>none
def Ab (nx:Nat):SV→SV×bN×Nat
 | .ow s ts=>(.a (.sl s.sz nx 0 ts.length),[(nx,.row s ts 0)],nx+1)
 |v=>(v,[],nx)
def vX (nx:Nat):List SV→List SV×bN×Nat
 | []=>([],[],nx)
 |v::vs=>let x:=Ab nx v
  let y:=vX x.2.2 vs
  (x.1::y.1,x.2.1++y.2.1,y.2.2)
def xk (nx:Nat):SV→SV×bN×Nat
 | .ag cs=>let x:=vX nx cs
  (.ag x.1,x.2)
 |v=>Ab nx v
def vY (nx:Nat):List SV→List SV×bN×Nat
 | []=>([],[],nx)
 |v::vs=>let x:=xk nx v
  let y:=vY x.2.2 vs
  (x.1::y.1,x.2.1++y.2.1,y.2.2)
def Ee (nx:Nat):SV→SV×bN×Nat
 | .tp vs=>let x:=vY nx vs
  (.tp x.1,x.2)
 |v=>xk nx v
def bX:Sh→Bool
 | .i _| .b| .s| .nil=>true
 | .row _=>false
 | .cons a b=>bX a && bX b
def nI:SV→Bool
 | .a v=>dT v
 | .ow s _=>bX s
 | .nz=>true
 |_=>false
def ym:SV→Bool
 | .ag cs=>cs.all nI
 |v=>nI v
def Eh:SV→Bool
 | .tp vs=>vs.all ym
 |v=>ym v
def um:SV→Bool
 | .a v=>rI (fun _=>false) v
 | .ow .. | .ag _| .tp _| .uk=>false
 |_=>true
def Ei:SV→Bool
 | .ag cs=>cs.all um
 |v=>um v
def js:List SV→List (Bool×Nat)
 | []=>[]
 | .ag cs::l=>(true,cs.length)::js l
 |_::l=>(false,1)::js l
structure FootS where
 ix:Nat
 us:List Nat
 ac:List Nat
 fr:List Nat
 wr:List Nat
section
variable {ρ:Type} (N:Nodes ρ) (T:Tbl)
abbrev KS (ρ:Type):=EX→SS→Option ρ
def nJ (pr:List (Nat×Bool)) (own:List (Nat×Bool)) (cs:List SV) (i:Nat) (k:List SV→Option ρ):Option ρ:=
 match cs with
 | []=>k []
 |c::cs=>match own.lookup i with
  |none=>nJ pr own cs (i+1) fun l=>k (c::l)
  |some nl=>match c with
   | .ls s ts=>if nl then N.br ts.isEmpty (if pr.lookup i=some false then none else nJ pr own cs (i+1) fun l=>k (.nz::l)) (if pr.lookup i=some true then none else nJ pr own cs (i+1) fun l=>k (.ow s ts::l))else nJ pr own cs (i+1) fun l=>k (.ow s ts::l)
   |_=>none
def ML (pr:List (Nat×Bool)) (c:Ctr) (y:aL c.t) (k:SV→Option ρ):Option ρ:=
 nJ N pr c.own (iU c.t y) 0 fun cs=>match kw c.rs cs with
  |some vs=>k (vW vs)
  |none=>none
def MM (f:FuncId):List (FuncId×Nat×Bool)→List (Nat×Bool)
 | []=>[]
 |(g,i,b)::l=>if g=f then(i,b)::MM f l else MM f l
def dY (S:SS) (rs:List CR) (k:List SV→Option ρ):Option ρ:=
 match rs with
 | []=>k []
 | .tm t::rs=>match bw S.tm t with
  | .tp _| .uk=>none
  |v=>dY S rs fun l=>k (v::l)
 | .cl t n::rs=>iV N S.h (n.getD 1) (bw S.tm t) fun cs=>match eA cs n with
  |some v=>dY S rs fun l=>k (v::l)
  |none=>none
def Ej (w:Wrt) (args:List SV) (h:bN) (nx:Nat) (k:KV ρ):Option ρ:=
 match args with
 | [.a (.sl sz b lo len),.a (.fn c caps)]=>match dh h b with
  | .row s ts t=>if e:s=w.s then
    if sz=s.sz∧lo=0∧c=w.c∧caps.isEmpty then N.br (decide (len=ts.length)) (N.cl (w.F (e▸ts)) fun ts'=>k [] (.tp []) (fF h b (.row w.s ts' t)) nx) none else none
   else none
  |_=>none
 | [.a .ns,.a (.fn c caps)]=>if c=w.c∧caps.isEmpty then k [] (.tp []) h nx else none
 |_=>none
def OK (v:SV) (k:SV→Option ρ):Option ρ:=match v with
 | .a (.int kd n)=>N.sp n (k (.a (.int kd (.ofNat 0)))) (fun j=>k (.a (.int kd (.ofNat (j+1)))))
 |v=>k v
def GD (is:List Nat) (vs:List SV) (i:Nat) (k:List SV→Option ρ):Option ρ:=match vs with
 | []=>k []
 |v::vs=>if is.contains i then OK N v fun v=>GD is vs (i+1) fun l=>k (v::l)else GD is vs (i+1) fun l=>k (v::l)
def OL (is:Option (List Nat)) (v:SV) (k:SV→Option ρ):Option ρ:=match is with
 |none=>k v
 |some is=>match v with
  | .tp vs=>GD N is vs 0 fun l=>k (.tp l)
  |v=>OK N v k
def Ek (h:bN) (b:Nat):Bool:=match dh h b with
 | .row .. =>true
 |_=>false
def TY (run:CC→SS→KS ρ→Option ρ) (c:CF) (args:List SV) (h:bN) (nx:Nat) (us:List Nat) (k:KV ρ):Option ρ:=
 if us.all (·<nx) && args.all fun v=> !cS v then
  run c.code {tm:=jr (args.map (nH (us.contains ·) id)),h:=vS h us us,nx:=nx,bs:=nx} fun ex S=>match ex with
   | .xt _=>none
   |_=>dY N S c.res fun vs=>k [] (nH (ce us nx S.nx) id (vW vs)) (vT h (fun b=>qP (ce us nx S.nx) id (dh S.h b)) (upto nx (S.nx-nx)++us)) S.nx
 else none
def El (h:bN) (v:SV) (k:SV→Option ρ):Option ρ:=
 match v with
 | .a (.re sz b i off)=>match dh h b with
  | .vr sz' cs t=>match T.hint.sh t with
   |some s=>if sz=sz'∧s.sz=sz then jq (du N h) cs fun cs=>match dq s cs with
    |some d=>k (.ri s [d] i off)
    |none=>none else none
   |none=>none
  |_=>none
 |v=>pZ N h v k
def yn:SV→Bool
 | .a (.int ..)| .a (.bl _)| .a (.st _)=>true
 |_=>false
def TZ (run:CC→SS→KS ρ→Option ρ) (f:FuncId) (c:CF) (args:List SV) (h:bN) (nx:Nat) (k:KV ρ):Option ρ:=
 if c.np<args.length∨gp<args.length∨T.hint.kl.contains f=true then none else jq (El N T h) args fun as=>
  run c.code {tm:=jr as,h:=[],nx:=0,bs:=0} fun ex S=>match ex with
   | .xt _=>none
   |_=>dY N S c.res fun vs=>if vs.all yn then k [] (vW vs) h nx else none
def CG (run:CC→SS→KS ρ→Option ρ) (f:FuncId) (args:List SV) (h:bN) (nx:Nat) (k:KV ρ):Option ρ:=
 match T.ct f with
 |some c=>jq (pZ N h) args fun as=>if js as≠c.as then none else match dq c.s (as.flatMap lZ)with
  |some x=>N.cl (c.F x) fun y=>ML N (MM f T.hint.pr) c y fun r=>
   let z:=Ee nx r
   if T.hint.kl.contains f then
    if(args.flatMap dQ).all (Ek h) && args.all fun v=> !cS v then OL N (T.hint.sp.lookup f) z.1 fun v=>k [] v (z.2.1++mW h (args.flatMap dQ)) z.2.2 else none
   else if args.all Ei||Eh r then OL N (T.hint.sp.lookup f) z.1 fun v=>k [] v (z.2.1++h) z.2.2
   else none
  |none=>none
 |none=>if T.hint.pf.contains f then match T.code f with
   |none=>none
   |some c=>TZ N T run f c args h nx k
  else match T.code f with
  |none=>match T.st f with
   |none=>none
   |some w=>Ej N w args h nx k
  |some c=>if c.np<args.length∨gp<args.length then none else TY N run c args h nx (lR (ku h) 64 (args.flatMap dQ) []) k
def Em (run:CC→SS→KS ρ→Option ρ) (tm:SM) (h:bN) (nx:Nat) (op:COp) (k:KV ρ):Option ρ:=
 match op with
 | .cf f args=>CG N T run f (args.map (bv tm)) h nx k
 | .cv x args=>match bv tm x with
  | .a (.fn f caps)=>match zS caps with
   |some cs=>if TN f args then CG N T run (tV f) (args.map (bv tm)++cs) h nx k else none
   |none=>none
  |_=>none
 |op=>opS N T.hint tm h nx op k
def Id (run:CC→SS→KS ρ→Option ρ) (tm:SM) (h:bN) (nx:Nat) (o:CI) (k:KV ρ):Option ρ:=
 match o.guard with
 |none=>Em N T run tm h nx o.op k
 |some (t,want)=>match bw tm t with
  | .a (.bl b)=>
   let yes (v:Bool):=Em N T run ((t,.a (.bl v))::tm) h nx o.op fun rf w h' nx'=>k (rf++ [(t,.a (.bl v))]) w h' nx'
   let no (v:Bool):=k [(t,.a (.bl v))] (.tp []) h nx
   if want then N.br b (yes true) (no false)else N.br b (no true) (yes false)
  | .tp []=>k [] (.tp []) h nx
  |_=>none
def vZ (d:Option Nat) (v:SV) (tm:SM):SM:=
 match d with
 |some d=>(d,v)::tm
 |none=>tm
def OM:Option Nat→Bool
 |some d=>decide (d<gp)
 |none=>true
def refine(tm:SM):SM→SM
 | []=>tm
 |(t,v)::rf=>(refine tm rf).map fun p=>if p.1=t then(t,v)else p
def Ie (run:CC→SS→KS ρ→Option ρ) (ops:List CI) (S:SS) (k:SS→Option ρ):Option ρ:=
 match ops with
 | []=>k S
 |o::l=>Id N T run S.tm S.h S.nx o fun rf v h nx=>if S.bs≤nx && OM o.dst then Ie run l {tm:=vZ o.dst v (refine S.tm rf),h:=h,nx:=nx,bs:=S.bs} k else none
def GE:Opd→Bool
 | .c v=> !cS (nG v)
 |_=>true
def MN:COp→Bool
 | .bs _ _ _ _ ps=>ps.all fun p=>GE p.2
 |_=>true
def Ua (tm:SM) (o:CI):Bool:=
 match o.op with
 | .cf f _=>((T.ct f).isSome||T.hint.pf.contains f) && !T.hint.kl.contains f
 | .cv x _=>match bv tm x with
  | .a (.fn f _)=>((T.ct (tV f)).isSome||T.hint.pf.contains (tV f)) && !T.hint.kl.contains (tV f)
  |_=>false
 | .sr .. | .ap .. | .cp .. | .mu .. | .de .. =>false
 | .bs _ _ _ _ l=>(l.flatMap fun p=>dQ (bv tm p.2)).isEmpty
 |_=>true
def Ub (tm:SM) (h:bN) (o:CI) (us:List Nat):List Nat:=
 if Ua T tm o then []else match o.op with
 | .sr _ a _=>match bv tm a with
  | .a (.re _ b _ _)=>match dh h b with
   | .vr .. | .ar .. =>if us.contains b then [b]else us
   |_=>us
  |_=>us
 |_=>us
def Ig (run:CC→SS→KS ρ→Option ρ) (ops:List (CI×List Nat)) (ix:Nat) (fs:List FootS) (S:SS) (k:SS→Option ρ):Option ρ:=
 match ops with
 | []=>k S
 |(o,dp)::l=>
  let us:=lR (ku S.h) 64 ((bS o).flatMap fun t=>dQ (bw S.tm t)) []
  let ac:=if Ow o.op then []else us
  let tm:=Cz S.tm us (bS o)
  if us.all (·<S.nx) && (bS o).all (fun t=>decide (t<mj) && !cS (bw S.tm t)) && MN o.op then
   Id N T run tm (vS S.h us ac) S.nx o fun rf v h nx=>
    let fr:=upto S.nx (nx-S.nx)
    let wr:=fr++Ub T tm (vS S.h us ac) o us
    if S.nx≤nx && OM o.dst && fs.all (fun f=>dp.contains f.ix||(nB f.wr ac && nB wr f.ac && nB f.fr us && nB fr f.us && nB f.wr wr))then
     Ig run l (ix+1) (⟨ix,us,ac,fr,wr⟩::fs) {tm:=vZ o.dst (nH (ce us S.nx nx) id v) (refine S.tm rf),h:=vT S.h (fun b=>qP (ce us S.nx nx) id (dh h b)) wr,nx:=nx,bs:=S.bs} k
    else none
  else none
def iz:(l:List (EX×PS))→ul l→(sm:{A B:Type}→A⊕B→(A→Option ρ)→(B→Option ρ)→Option ρ)→KS ρ→Option ρ
 | [],x,_,_=>nomatch x
 | [p],x,_,k=>k p.1 (vU p.2 x)
 |p::q::l,x,sm,k=>sm x (fun y=>k p.1 (vU p.2 y)) (fun y=>iz (q::l) y sm k)
def jt:Nat:=1000000000
def CH (lp:Nat→Option Lps) (C:SS) (m:Nat):Nat→Nat→Option ((L:Lps)×mo L.ps)
 |_,0=>none
 |j,n+1=>match lp (m+j*jt)with
  |none=>none
  |some L=>match uj L.ps C with
   |some x=>some ⟨L,x⟩
   |none=>CH lp C m (j+1) n
def eV (run:CC→SS→KS ρ→Option ρ):CC→SS→KS ρ→Option ρ
 | .sk,S,k=>k .nm S
 | .rg ops,S,k=>Ie N T run ops S fun S=>k .nm S
 | .rd ops,S,k=>Ig N T run ops 0 [] S fun S=>k .nm S
 | .sq a b,S,k=>eV run a S fun ex S=>match ex with
  | .nm=>eV run b S k
  |ex=>k ex S
 | .cd c a b,S,k=>match c with
  | .t t=>match bw S.tm t with
   | .a (.bl p)=>N.br p (eV run a {S with tm:=refine S.tm [(t,.a (.bl true))]} k) (eV run b {S with tm:=refine S.tm [(t,.a (.bl false))]} k)
   |_=>none
  | .c (.bl p)=>if p then eV run a S k else eV run b S k
  |_=>none
 | .bk id b,S,k=>eV run b S fun ex S=>match ex with
  | .xt j=>if j=id then k .nm S else k (.xt j) S
  |ex=>k ex S
 | .lp live b,S,k=>match T.lp (ed live)with
  |some _=>if qc live S then match CH T.lp (jp live S) (ed live) 0 8 with
   |some ⟨L,x⟩=>N.cl (L.L x) fun y=>iz L.os y N.sm k
   |none=>N.uk live b (jp live S)else none
  |none=>N.uk live b (jp live S)
 | .xt id,S,k=>k (.xt id) S
 | .rt,S,k=>k .rt S
 | .no,_,_=>none
def wa:Nat→CC→SS→KS ρ→Option ρ
 |0,_,_,_=>none
 |n+1,c,S,k=>eV N T (wa n) c S k
def CJ (h hk:bN) (own:Option Bool) (v:SV) (k:SV→Option ρ):Option ρ:=
 match own with
 |some nl=>match v with
  | .a (.sl sz b lo len)=>du N h (.a (.sl sz b lo len)) fun w=>match w with
   | .ls s ts=>if nl then N.br ts.isEmpty none (k (.ls s ts))else k (.ls s ts)
   |_=>none
  | .a .ns=>if nl then k (.a .ns)else none
  | .a .ez=>if nl then k (.a .ez)else none
  | .nz=>if nl then k .nz else none
  |_=>none
 |none=>du N hk v k
def uo (h hk:bN) (own:List (Nat×Bool)) (cs:List SV) (i:Nat) (k:List SV→Option ρ):Option ρ:=
 match cs with
 | []=>k []
 |c::cs=>CJ N h hk (own.lookup i) c fun a=>uo h hk own cs (i+1) fun l=>k (a::l)
def pc (own:List (Nat×Bool)) (cs:List SV) (i:Nat):List Nat:=
 match cs with
 | []=>[]
 |c::cs=>(match own.lookup i,c with
  |some _,.a (.sl _ b _ _)=>[b]
  |_,_=>[])++pc own cs (i+1)
end
def Ih:EX→EX→Bool
 | .nm,.nm| .rt,.rt=>true
 | .xt i,.xt j=>decide (i=j)
 |_,_=>false
def Ii (p:PS):Bool:=p.tm.any fun q=>decide (q.1=mj)
def Ac:(l:List (EX×PS))→EX→SS→Option (ul l)
 | [],_,_=>none
 | [p],ex,S=>if Ih p.1 ex && Ii p.2 then Aa p.2 (CE p.2 S)else none
 |p::q::l,ex,S=>match (if Ih p.1 ex && Ii p.2 then Aa p.2 (CE p.2 S)else none)with
  |some x=>some (.inl x)
  |none=>(Ac (q::l) ex S).map .inr
def MO (N:(ρ:Type)→Nodes ρ) (T:Tbl) (n:Nat) (c:CF) (s t:Sh) (as:List (Bool×Nat)) (x:aL s) (own:List (Nat×Bool)) (rs:List (Bool×Nat)):Option (aL t):=
 if c.np<as.length∨gp<as.length then none else wa (N (aL t)) T n c.code {tm:=jr ((kw as (iU s x)).getD []),h:=[],nx:=0,bs:=0} fun ex S=>match ex with
  | .xt _=>none
  |_=>dY (N (aL t)) S c.res fun vs=>
   let cs:=vs.flatMap lZ
   if js vs=rs∧fk (pc own cs 0)then
    uo (N (aL t)) S.h (mW S.h (pc own cs 0)) own cs 0 fun l=>dq t l
   else none
def Uc {ρ:Type} (N:Nodes ρ) (T:Tbl) (n:Nat) (live:List Nat) (b:CC) (S:SS) (k:KS ρ):Option ρ:=
 eV N T (wa N T n) b S fun ex S=>match ex with
  | .nm=>if qc live S then k .nm (jp live S)else none
  |ex=>k ex S
universe u
def look? {α:Type u}:List (Nat×α)→Nat→Option α
 | [],_=>none
 |(k,v)::l,n=>if k=n then some v else look? l n
end Go.Am
set_option linter.unusedSimpArgs false
namespace Go.Am
def RE:(s:Sh)→aL s→List AV→Prop
 | .i k,n,cs=>cs= [.int k n]
 | .b,b,cs=>cs= [.bl b]
 | .s,s,cs=>cs= [.st s]
 | .row e,ts,cs=>∃w,cs= [w]∧((∃es,w= .ls e.sz es∧All2 (RE e) ts es)∨(ts= []∧(w= .ns∨w= .ez)))
 | .nil,_,cs=>cs= []
 | .cons a b,x,cs=>∃c1 c2,cs=c1++c2∧RE a x.1 c1∧RE b x.2 c2
def RL (s:Sh) (ts:List (aL s)) (w:AV):Prop:=(∃es,w= .ls s.sz es∧All2 (RE s) ts es)∨(ts= []∧(w= .ns∨w= .ez))
def RC:SV→AV→Prop
 | .a v,w=>v=w∧lX v=true
 | .ls s ts,w=>RL s ts w
 | .ri s ts i off,w=>∃es,w= .ri s.sz es i off∧All2 (RE s) ts es
 | .ow s ts,w=>∃es,w= .ow s.sz es∧All2 (RE s) ts es
 | .nz,w=>w= .ns∨w= .ez
 |_,_=>False
def RW:SV→AV→Prop
 | .ag cs,w=>∃ws,w= .ag ws∧All2 RC cs ws
 |v,w=>RC v w
def RV:SV→AV→Prop
 | .tp vs,w=>∃ws,w= .tp ws∧All2 RW vs ws
 | .uk,_=>True
 |v,w=>RW v w
def RG (g:Bool) (s:Sh) (d:aL s) (w:AV):Prop:=if g then∃cs,w= .ag cs∧RE s d cs else RE s d [w]
def RB:SB→BK→Prop
 | .vr sz cs t,x=>∃ws,x= .rw true sz [ws] t∧All2 RC cs ws
 | .row s ts t,x=>∃es,x= .rw false s.sz es t∧All2 (RE s) ts es
 | .ar s ts t,x=>s.sz=1∧∃ws,x= .rw true ws.length [ws] t∧All2 (fun d c=>RE s d [c]) ts ws
 | .mi k g s es,x=>∃l,x= .mp l∧All2 (fun(p:Int×aL s) (q:AV×AV)=>q.1= .int k p.1∧RG g s p.2 q.2) es l
 | .ms g s es,x=>∃l,x= .mp l∧All2 (fun(p:ByteArray×aL s) (q:AV×AV)=>q.1= .st p.1∧RG g s p.2 q.2) es l
 | .ml es,x=>x= .mp es
 | .dd,x=>x= .dd
def RH (h:bN) (h':List (Nat×BK)):Prop:=All2 (fun p q=>p.1=q.1∧RB p.2 q.2) h h'
def RT (tm:SM) (tm':List (Nat×AV)):Prop:=∀t,RV (bw tm t) (look .ud tm' t)
def RM (tm':List (Nat×AV)):Prop:=∀t,gp≤t→look .ud tm' t= .ud
structure RS (S:SS) (S':St):Prop where
 tm:RT S.tm S'.tm
 mm:RM S'.tm
 h:RH S.h S'.h
 nx:S.nx=S'.nx
 bs:S.bs=S'.bs
section all2
variable {α β γ δ:Type} {R:α→β→Prop}
theorem All2.map2 {f:α→γ} {g:β→δ} {Q:γ→δ→Prop} (hf:∀a b,R a b→Q (f a) (g b)) {as:List α} {bs:List β} (h:All2 R as bs):All2 Q (as.map f) (bs.map g):=by
 induction h with
 |nil=>exact .nil
 |cons h1 _ ih=>exact .cons (hf _ _ h1) ih
theorem All2.set {as:List α} {bs:List β} (h:All2 R as bs) {a:α} {b:β} (hab:R a b):∀i,All2 R (as.set i a) (bs.set i b):=by
 induction h with
 |nil=>intro i;exact .nil
 |cons h1 h2 ih=>intro i;cases i with
  |zero=>exact .cons hab h2
  |succ i=>exact .cons h1 (ih i)
theorem All2.rep {a:α} {b:β} (hab:R a b):∀n,All2 R (List.replicate n a) (List.replicate n b)
 |0=>.nil
 |n+1=>.cons hab (All2.rep hab n)
theorem All2.app_inv {as1 as2:List α}:∀{bs:List β},All2 R (as1++as2) bs→∃b1 b2,bs=b1++b2∧All2 R as1 b1∧All2 R as2 b2:=by
 induction as1 with
 |nil=>intro bs h;exact⟨[],bs,rfl,.nil,h⟩
 |cons a as1 ih=>
  intro bs h
  cases h with
  |cons h1 h2=>
   obtain⟨b1,b2,rfl,h3,h4⟩:=ih h2
   exact⟨_::b1,b2,rfl,.cons h1 h3,h4⟩
theorem All2.one {a:α} {bs:List β} (h:All2 R [a] bs):∃b,bs= [b]∧R a b:=by
 cases h with
 |cons h1 h2=>cases h2;exact⟨_,rfl,h1⟩
theorem All2.getD {as:List α} {bs:List β} (h:All2 R as bs) {i:Nat} (hi:i<as.length) (d:α):∃b,bs[i]? =some b∧R (as.getD i d) b:=by
 have h1:as[i]? =some as[i]:=List.getElem?_eq_getElem hi
 obtain⟨b,hb,hr⟩:=h.get i _ h1
 exact⟨b,hb,by rw [List.getD_eq_getElem?_getD,h1];exact hr⟩
theorem All2.flat {f:α→List γ} {g:β→List δ} {Q:γ→δ→Prop} (hf:∀a b,R a b→All2 Q (f a) (g b)) {as:List α} {bs:List β} (h:All2 R as bs):All2 Q (as.flatMap f) (bs.flatMap g):=by
 induction h with
 |nil=>exact .nil
 |cons h1 _ ih=>simp only [List.flatMap_cons];exact(hf _ _ h1).append ih
theorem All2.flatEq {f:α→List γ} {g:β→List γ} (hf:∀a b,R a b→f a=g b) {as:List α} {bs:List β} (h:All2 R as bs):as.flatMap f=bs.flatMap g:=by
 induction h with
 |nil=>rfl
 |cons h1 _ ih=>simp only [List.flatMap_cons,hf _ _ h1,ih]
end all2
theorem iA:∀{s:Sh} {x:aL s} {cs:List AV},RE s x cs→cs.length=s.sz
 | .i _,_,_,h=>by cases h;rfl
 | .b,_,_,h=>by cases h;rfl
 | .s,_,_,h=>by cases h;rfl
 | .row _,_,_,h=>by obtain⟨w,rfl,_⟩:=h;rfl
 | .nil,_,_,h=>by cases h;rfl
 | .cons a b,_,_,h=>by obtain⟨c1,c2,rfl,h1,h2⟩:=h;simp [Sh.sz,iA h1,iA h2]
theorem uq:∀{s:Sh} {x y:aL s} {cs:List AV},RE s x cs→RE s y cs→x=y
 | .i _,_,_,_,h,h'=>by cases h;simp [RE]at h';exact h'
 | .b,_,_,_,h,h'=>by cases h;simp [RE]at h';exact h'
 | .s,_,_,_,h,h'=>by cases h;simp [RE]at h';exact h'
 | .row e,x,y,_,h,h'=>by
  obtain⟨w,rfl,h⟩:=h
  obtain⟨w',hw,h'⟩:=h'
  simp only [List.cons.injEq,and_true]at hw
  subst hw
  rcases h with⟨es,rfl,h1⟩|⟨hx,rfl|rfl⟩
  ·rcases h' with⟨es',he,h2⟩|⟨_,h3|h3⟩
   ·injection he with _ he;subst he
    have aux:∀{xs ys:List (aL e)} {es:List (List AV)},All2 (RE e) xs es→All2 (RE e) ys es→xs=ys:=by
     intro xs ys es h1
     induction h1 generalizing ys with
     |nil=>intro h2;cases h2;rfl
     |cons h3 _ ih=>intro h2;cases h2 with
      |cons h4 h5=>rw [uq h3 h4,ih h5]
    exact aux h1 h2
   ·cases h3
   ·cases h3
  ·rcases h' with⟨es',he,h2⟩|⟨h3,_⟩
   ·cases he
   ·subst hx h3;rfl
  ·rcases h' with⟨es',he,h2⟩|⟨h3,_⟩
   ·cases he
   ·subst hx h3;rfl
 | .nil,_,_,_,_,_=>rfl
 | .cons a b,x,y,_,h,h'=>by
  obtain⟨c1,c2,rfl,h1,h2⟩:=h
  obtain⟨d1,d2,he,h3,h4⟩:=h'
  have hl:c1.length=d1.length:=by rw [iA h1,iA h3]
  obtain⟨rfl,rfl⟩:=List.append_inj he hl
  exact Prod.ext (uq h1 h3) (uq h2 h4)
theorem hG:∀{s:Sh} {x:aL s} {cs:List AV},RE s x cs→All2 RC (iU s x) cs
 | .i _,_,_,h=>by cases h;exact .cons ⟨rfl,rfl⟩ .nil
 | .b,_,_,h=>by cases h;exact .cons ⟨rfl,rfl⟩ .nil
 | .s,_,_,h=>by cases h;exact .cons ⟨rfl,rfl⟩ .nil
 | .row e,_,_,h=>by obtain⟨w,rfl,h⟩:=h;exact .cons h .nil
 | .nil,_,_,h=>by cases h;exact .nil
 | .cons a b,_,_,h=>by obtain⟨c1,c2,rfl,h1,h2⟩:=h;exact(hG h1).append (hG h2)
theorem En:∀{s:Sh} {x:aL s} {cs:List AV},All2 RC (iU s x) cs→RE s x cs
 | .i _,_,_,h=>by obtain⟨b,hb,h1,_⟩:=All2.one h;subst h1;exact hb
 | .b,_,_,h=>by obtain⟨b,hb,h1,_⟩:=All2.one h;subst h1;exact hb
 | .s,_,_,h=>by obtain⟨b,hb,h1,_⟩:=All2.one h;subst h1;exact hb
 | .row e,_,_,h=>by obtain⟨b,hb,h1⟩:=All2.one h;exact⟨b,hb,h1⟩
 | .nil,_,_,h=>by cases h;rfl
 | .cons a b,_,_,h=>by obtain⟨c1,c2,rfl,h1,h2⟩:=All2.app_inv h;exact⟨c1,c2,rfl,En h1,En h2⟩
theorem Ad:∀{s:Sh} {l:List SV} {x:aL s} {r:List SV} {ws:List AV},gy s l=some (x,r)→All2 RC l ws→∃c1 c2,ws=c1++c2∧RE s x c1∧All2 RC r c2
 | .i k,l,x,r,ws,h,hl=>by
  simp only [gy]at h
  split at h
  ·simp only [Option.ite_none_right_eq_some,Option.some.injEq,Prod.mk.injEq]at h
   obtain⟨rfl,rfl,rfl⟩:=h
   cases hl with
   |cons h1 h2=>obtain⟨rfl,_⟩:=h1;exact⟨[_],_,rfl,rfl,h2⟩
  ·cases h
 | .b,l,x,r,ws,h,hl=>by
  simp only [gy]at h
  split at h
  ·simp only [Option.some.injEq,Prod.mk.injEq]at h
   obtain⟨rfl,rfl⟩:=h
   cases hl with
   |cons h1 h2=>obtain⟨rfl,_⟩:=h1;exact⟨[_],_,rfl,rfl,h2⟩
  ·cases h
 | .s,l,x,r,ws,h,hl=>by
  simp only [gy]at h
  split at h
  ·simp only [Option.some.injEq,Prod.mk.injEq]at h
   obtain⟨rfl,rfl⟩:=h
   cases hl with
   |cons h1 h2=>obtain⟨rfl,_⟩:=h1;exact⟨[_],_,rfl,rfl,h2⟩
  ·cases h
 | .row e,l,x,r,ws,h,hl=>by
  simp only [gy]at h
  split at h
  ·split at h
   ·rename_i he
    subst he
    simp only [Option.some.injEq,Prod.mk.injEq]at h
    obtain⟨rfl,rfl⟩:=h
    cases hl with
    |cons h1 h2=>exact⟨[_],_,rfl,⟨_,rfl,h1⟩,h2⟩
   ·cases h
  ·simp only [Option.some.injEq,Prod.mk.injEq]at h
   obtain⟨rfl,rfl⟩:=h
   cases hl with
   |cons h1 h2=>obtain⟨rfl,_⟩:=h1;exact⟨[_],_,rfl,⟨_,rfl,.inr ⟨rfl,.inl rfl⟩⟩,h2⟩
  ·simp only [Option.some.injEq,Prod.mk.injEq]at h
   obtain⟨rfl,rfl⟩:=h
   cases hl with
   |cons h1 h2=>obtain⟨rfl,_⟩:=h1;exact⟨[_],_,rfl,⟨_,rfl,.inr ⟨rfl,.inr rfl⟩⟩,h2⟩
  ·simp only [Option.some.injEq,Prod.mk.injEq]at h
   obtain⟨rfl,rfl⟩:=h
   cases hl with
   |cons h1 h2=>exact⟨[_],_,rfl,⟨_,rfl,.inr ⟨rfl,h1⟩⟩,h2⟩
  ·cases h
 | .nil,l,x,r,ws,h,hl=>by
  simp only [gy,Option.some.injEq,Prod.mk.injEq]at h
  obtain⟨_,rfl⟩:=h
  exact⟨[],ws,rfl,rfl,hl⟩
 | .cons a b,l,x,r,ws,h,hl=>by
  simp only [gy,Option.bind_eq_some_iff,Option.some.injEq,Prod.mk.injEq]at h
  obtain⟨⟨p1,p2⟩,hp,⟨q1,q2⟩,hq,rfl,rfl⟩:=h
  obtain⟨c1,c2,rfl,h1,h2⟩:=Ad hp hl
  obtain⟨c3,c4,rfl,h3,h4⟩:=Ad hq h2
  exact⟨c1++c3,c4,by simp,⟨c1,c3,rfl,h1,h3⟩,h4⟩
theorem eW {s:Sh} {l:List SV} {x:aL s} {ws:List AV} (h:dq s l=some x) (hl:All2 RC l ws):RE s x ws:=by
 unfold dq at h
 simp only [Option.bind_eq_some_iff]at h
 obtain⟨⟨p1,p2⟩,hp,h⟩:=h
 obtain⟨c1,c2,rfl,h1,h2⟩:=Ad hp hl
 cases p2 with
 |cons _ _=>simp at h
 |nil=>simp only [Option.some.injEq]at h;subst h;cases h2;simpa using h1
theorem ng {s:Sh} {ts:List (aL s)} {w:AV} (h:RL s ts w):cR w= []∧(∀p q,jg p q w=w)∧(∀cs,w≠ .ag cs)∧(∀cs,w≠ .tp cs)∧w≠ .ud:=by
 rcases h with⟨es,rfl,_⟩|⟨_,rfl|rfl⟩<;>refine⟨rfl,fun _ _=>rfl,?_,?_,?_⟩<;>intros<;>intro hh<;>cases hh
theorem qd:∀{v:SV} {w:AV},RC v w→qO v=cR w
 | .a v,w,h=>by obtain⟨rfl,_⟩:=h;rfl
 | .ls s ts,w,h=>(ng h).1.symm
 | .ri s ts i off,w,h=>by obtain⟨es,rfl,_⟩:=h;rfl
 | .ow s ts,w,h=>by obtain⟨es,rfl,_⟩:=h;rfl
 | .nz,w,h=>by rcases h with rfl|rfl<;>rfl
 | .ag _,_,h=>h.elim
 | .tp _,_,h=>h.elim
 | .uk,_,h=>h.elim
theorem Ij (p:Nat→Bool) (q:Nat→Nat):∀{v:SV} {w:AV},RC v w→RC (HY p q v) (jg p q w)
 | .a v,w,h=>by
  obtain⟨rfl,hc⟩:=h
  refine⟨rfl,?_⟩
  unfold jg
  split
  ·cases v<;>first|rfl|exact hc
  ·rfl
 | .ls s ts,w,h=>by rw [(ng h).2.1];exact h
 | .ri s ts i off,w,h=>by obtain⟨es,rfl,h⟩:=h;exact⟨es,rfl,h⟩
 | .ow s ts,w,h=>by obtain⟨es,rfl,h⟩:=h;exact⟨rfl,rfl⟩
 | .nz,w,h=>by rcases h with rfl|rfl;exact .inl rfl;exact .inr rfl
 | .ag _,_,h=>h.elim
 | .tp _,_,h=>h.elim
 | .uk,_,h=>h.elim
theorem dC:∀{v:SV} {w:AV},RC v w→(∀cs,w≠ .ag cs)∧(∀cs,w≠ .tp cs)
 | .a v,w,h=>by
  obtain⟨rfl,hc⟩:=h
  constructor<;>(intro cs hh;subst hh;simp [lX]at hc)
 | .ls s ts,w,h=>⟨(ng h).2.2.1,(ng h).2.2.2.1⟩
 | .ri s ts i off,w,h=>by obtain⟨es,rfl,_⟩:=h;constructor<;>(intro cs hh;cases hh)
 | .ow s ts,w,h=>by obtain⟨es,rfl,_⟩:=h;constructor<;>(intro cs hh;cases hh)
 | .nz,w,h=>by rcases h with rfl|rfl<;>(constructor<;>(intro cs hh;cases hh))
 | .ag _,_,h=>h.elim
 | .tp _,_,h=>h.elim
 | .uk,_,h=>h.elim
theorem Ik {w:AV} (h:(∀cs,w≠ .ag cs)∧(∀cs,w≠ .tp cs)):bP w=cR w:=by
 cases w<;>first|rfl|exact absurd rfl (h.1 _)|exact absurd rfl (h.2 _)
theorem MP {p:Nat→Bool} {q:Nat→Nat} {w:AV} (h:(∀cs,w≠ .ag cs)∧(∀cs,w≠ .tp cs)):gu p q w=jg p q w:=by
 cases w<;>first|rfl|exact absurd rfl (h.1 _)|exact absurd rfl (h.2 _)
theorem Eo {p:Nat→Bool} {q:Nat→Nat} {w:AV} (h:(∀cs,w≠ .ag cs)∧(∀cs,w≠ .tp cs)):rJ p q w=jg p q w:=by
 cases w<;>first|rfl|exact absurd rfl (h.1 _)|exact absurd rfl (h.2 _)
theorem RC.toW:∀{v:SV} {w:AV},RC v w→RW v w
 | .a _,_,h=>h
 | .ls _ _,_,h=>h
 | .ri _ _ _ _,_,h=>h
 | .ow _ _,_,h=>h
 | .nz,_,h=>h
 | .ag _,_,h=>h.elim
 | .tp _,_,h=>h.elim
 | .uk,_,h=>h.elim
theorem RW.toV:∀{v:SV} {w:AV},RW v w→RV v w
 | .a _,_,h=>h
 | .ls _ _,_,h=>h
 | .ri _ _ _ _,_,h=>h
 | .ow _ _,_,h=>h
 | .nz,_,h=>h
 | .ag _,_,h=>h
 | .tp _,_,h=>h.elim
 | .uk,_,h=>trivial
theorem RC.toV {v:SV} {w:AV} (h:RC v w):RV v w:=h.toW.toV
theorem fb {v:SV} {w:AV} (h:RW v w):(∃cs ws,v= .ag cs∧w= .ag ws∧All2 RC cs ws)∨RC v w:=by
 cases v with
 |ag cs=>obtain⟨ws,rfl,h⟩:=h;exact .inl ⟨cs,ws,rfl,rfl,h⟩
 |_=>exact .inr h
theorem kx {v:SV} {w:AV} (h:RV v w):(v= .uk)∨(∃cs ws,v= .tp cs∧w= .tp ws∧All2 RW cs ws)∨RW v w:=by
 cases v with
 |tp cs=>obtain⟨ws,rfl,h⟩:=h;exact .inr (.inl ⟨cs,ws,rfl,rfl,h⟩)
 |uk=>exact .inl rfl
 |_=>exact .inr (.inr h)
theorem GF {v:SV} {w:AV} (h:RW v w):Cy v=bP w:=by
 rcases fb h with⟨cs,ws,rfl,rfl,h1⟩|h
 ·exact h1.flatEq fun _ _ h=>qd h
 ·have h2:=qd h
  have h3:=dC h
  rw [Ik h3,←h2]
  cases v<;>first|rfl|exact h.elim
theorem Ud {w:AV}:(∀cs,w≠ .tp cs)→(match w with| .ag cs=>cs.flatMap cR|v=>cR v)=bP w:=fun h=>by
 cases w<;>first|rfl|exact absurd rfl (h _)
theorem kz {v:SV} {w:AV} (h:RV v w) (hu:cS v=false):dQ v=bP w:=by
 rcases kx h with rfl|⟨cs,ws,rfl,rfl,h1⟩|h
 ·simp [cS]at hu
 ·have:∀a b,RW a b→Cy a=(match b with| .ag cs=>cs.flatMap cR|v=>cR v):=fun a b hab=>by
   rcases fb hab with⟨cs,ws,rfl,rfl,h1⟩|h
   ·exact h1.flatEq fun _ _ h=>qd h
   ·have h3:=dC h
    rw [Ud h3.2]
    exact GF h.toW
  exact h1.flatEq this
 ·have:=GF h
  rw [←this]
  cases v<;>first|rfl|exact h.elim
theorem ON (p:Nat→Bool) (q:Nat→Nat) {v:SV} {w:AV} (h:RW v w):RW (MI p q v) (rJ p q w):=by
 rcases fb h with⟨cs,ws,rfl,rfl,h1⟩|h
 ·exact⟨_,rfl,h1.map2 fun _ _ h=>Ij p q h⟩
 ·rw [Eo (dC h)]
  have:=(Ij p q h).toW
  cases v<;>first|exact this|exact h.elim
theorem yo (p:Nat→Bool) (q:Nat→Nat) {v:SV} {w:AV} (h:RV v w):RV (nH p q v) (gu p q w):=by
 rcases kx h with rfl|⟨cs,ws,rfl,rfl,h1⟩|h
 ·trivial
 ·exact⟨_,rfl,h1.map2 fun _ _ h=>ON p q h⟩
 ·have h2:=(ON p q h).toV
  have h3:gu p q w=rJ p q w:=by
   rcases fb h with⟨cs,ws,rfl,rfl,h⟩|h
   ·rfl
   ·rw [MP (dC h),Eo (dC h)]
  rw [h3]
  cases v<;>first|exact h2|exact h.elim
theorem dv {h:bN} {h':List (Nat×BK)} (hh:RH h h') (b:Nat):RB (dh h b) (aU h' b):=by
 induction hh with
 |nil=>rfl
 | @cons p q _ _ h1 _ ih=>
  obtain⟨k,x⟩:=p
  obtain⟨k',y⟩:=q
  obtain⟨h2,h3⟩:=h1
  simp only at h2 h3
  subst h2
  simp only [dh,aU,look]
  split
  ·exact h3
  ·exact ih
theorem eC {h:bN} {h':List (Nat×BK)} (hh:RH h h') {x:SB} {y:BK} (hx:RB x y) (b:Nat):RH (fF h b x) (put h' b y):=by
 induction hh with
 |nil=>exact .cons ⟨rfl,hx⟩ .nil
 | @cons p q _ _ h1 h4 ih=>
  obtain⟨k,x'⟩:=p
  obtain⟨k',y'⟩:=q
  obtain⟨h2,h3⟩:=h1
  simp only at h2 h3
  subst h2
  simp only [fF,put]
  split
  ·exact .cons ⟨rfl,hx⟩ h4
  ·exact .cons ⟨rfl,h3⟩ ih
theorem qe {h:bN} {h':List (Nat×BK)} (hh:RH h h'):∀l,RH (mW h l) (kill h' l)
 | []=>hh
 |b::l=>by simp only [mW,kill];exact eC (qe hh l) (x:=.dd) (y:=.dd) rfl b
theorem OO {x:SB} {y:BK} (h:RB x y):(x= .dd↔y= .dd):=by
 cases x with
 |dd=>cases h;simp
 |vr sz cs t=>obtain⟨ws,rfl,_⟩:=h;simp
 |row s ts t=>obtain⟨ws,rfl,_⟩:=h;simp
 |ar s ts t=>obtain⟨_,ws,rfl,_⟩:=h;simp
 |mi k g s es=>obtain⟨ws,rfl,_⟩:=h;simp
 |ms g s es=>obtain⟨ws,rfl,_⟩:=h;simp
 |ml es=>cases h;simp
theorem fG {h:bN} {h':List (Nat×BK)} (hh:RH h h') (b:Nat):iw h b=alive h' b:=by
 have:=OO (dv hh b)
 unfold iw alive
 cases h1:dh h b<;>cases h2:aU h' b<;>simp_all
theorem CK:∀{s:Sh} {d:aL s} {c:AV},RE s d [c]→cR c= []∧(∀p q,jg p q c=c)
 | .i _,_,_,h=>by simp [RE]at h;subst h;exact⟨rfl,fun _ _=>rfl⟩
 | .b,_,_,h=>by simp [RE]at h;subst h;exact⟨rfl,fun _ _=>rfl⟩
 | .s,_,_,h=>by simp [RE]at h;subst h;exact⟨rfl,fun _ _=>rfl⟩
 | .row _,_,_,h=>by
  obtain⟨w,hw,h⟩:=h
  simp only [List.cons.injEq,and_true]at hw
  subst hw
  exact⟨(ng h).1,(ng h).2.1⟩
 | .nil,_,_,h=>by simp [RE]at h
 | .cons a b,x,c,h=>by
  obtain⟨c1,c2,he,h1,h2⟩:=h
  cases c1 with
  |nil=>simp only [List.nil_append]at he;subst he;exact CK h2
  |cons c0 c1=>
   simp only [List.cons_append,List.cons.injEq]at he
   obtain⟨rfl,he⟩:=he
   have:c1= []∧c2= []:=by simpa [eq_comm]using he
   obtain⟨rfl,rfl⟩:=this
   exact CK h1
theorem Su {s:Sh} {ts:List (aL s)} {ws:List AV} (h:All2 (fun d c=>RE s d [c]) ts ws):ws.flatMap cR= []:=by
 induction h with
 |nil=>rfl
 |cons h1 _ ih=>simp only [List.flatMap_cons,(CK h1).1,List.nil_append,ih]
theorem aba (p:Nat→Bool) (q:Nat→Nat) {s:Sh} {ts:List (aL s)} {ws:List AV} (h:All2 (fun d c=>RE s d [c]) ts ws):ws.map (jg p q)=ws:=by
 induction h with
 |nil=>rfl
 |cons h1 _ ih=>simp only [List.map_cons,(CK h1).2,ih]
theorem GG {x:SB} {y:BK} (h:RB x y):eH (vR x)=eH y:=by
 cases x with
 |dd=>cases h;rfl
 |vr sz cs t=>
  obtain⟨ws,rfl,h⟩:=h
  simp only [vR,eH,List.flatMap_cons,List.flatMap_nil,List.append_nil]
  have:(cs.map OH).flatMap cR=cs.flatMap qO:=by
   rw [List.flatMap_map]
   congr 1
   funext v
   cases v<;>rfl
  rw [this]
  exact h.flatEq fun _ _ h=>qd h
 |row s ts t=>obtain⟨ws,rfl,_⟩:=h;rfl
 |ar s ts t=>
  obtain⟨_,ws,rfl,h⟩:=h
  simp only [vR,eH,List.flatMap_cons,List.flatMap_nil,List.append_nil]
  exact(Su h).symm
 |mi k g s es=>obtain⟨ws,rfl,_⟩:=h;rfl
 |ms g s es=>obtain⟨ws,rfl,_⟩:=h;rfl
 |ml es=>cases h;rfl
theorem yp (p:Nat→Bool) (q:Nat→Nat) {x:SB} {y:BK} (h:RB x y):RB (qP p q x) (ip p q y):=by
 cases x with
 |dd=>cases h;rfl
 |vr sz cs t=>obtain⟨ws,rfl,h⟩:=h;exact⟨_,rfl,h.map2 fun _ _ h=>Ij p q h⟩
 |row s ts t=>obtain⟨ws,rfl,h⟩:=h;exact⟨ws,rfl,h⟩
 |ar s ts t=>
  obtain⟨h0,ws,rfl,h⟩:=h
  refine⟨h0,ws,?_,h⟩
  simp only [ip,List.map_cons,List.map_nil,aba p q h]
 |mi k g s es=>obtain⟨ws,rfl,h⟩:=h;exact⟨ws,rfl,h⟩
 |ms g s es=>obtain⟨ws,rfl,h⟩:=h;exact⟨ws,rfl,h⟩
 |ml es=>cases h;rfl
theorem Ep (h:bN) (b:Nat):aU (ku h) b=vR (dh h b):=by
 induction h with
 |nil=>rfl
 |cons p l ih=>
  obtain⟨k,x⟩:=p
  simp only [ku,List.map_cons,aU,look,dh]
  split
  ·rfl
  ·exact ih
theorem pC {h1 h2:List (Nat×BK)} (hr:∀b,eH (aU h1 b)=eH (aU h2 b)) (hd:∀b,aU h1 b= .dd↔aU h2 b= .dd) (bs:Nat):∀(n:Nat) (todo seen:List Nat),gm h1 bs n todo seen=gm h2 bs n todo seen
 |0,_,_=>rfl
 |n+1,[],_=>rfl
 |n+1,b::todo,seen=>by
  simp only [gm]
  split
  ·exact pC hr hd bs n todo seen
  ·have h3:=hr b
   have h4:=hd b
   cases hb1:aU h1 b<;>cases hb2:aU h2 b<;>simp_all only [pC hr hd bs n,reduceCtorEq,iff_true,iff_false,true_iff,false_iff,not_true_eq_false,not_false_eq_true]
theorem pd {h1 h2:List (Nat×BK)} (hr:∀b,eH (aU h1 b)=eH (aU h2 b)):∀(n:Nat) (todo seen:List Nat),lR h1 n todo seen=lR h2 n todo seen
 |0,_,_=>rfl
 |n+1,[],_=>rfl
 |n+1,b::todo,seen=>by
  simp only [lR,hr]
  split
  ·exact pd hr n todo seen
  ·exact pd hr n _ _
theorem ur {h:bN} {h':List (Nat×BK)} (hh:RH h h') (b:Nat):eH (aU (ku h) b)=eH (aU h' b):=by rw [Ep];exact GG (dv hh b)
theorem Sv {h:bN} {h':List (Nat×BK)} (hh:RH h h') (b:Nat):aU (ku h) b= .dd↔aU h' b= .dd:=by
 rw [Ep]
 have:=OO (dv hh b)
 rw [←this]
 cases dh h b<;>simp [vR]
theorem KR {h:bN} {h':List (Nat×BK)} (hh:RH h h') (n:Nat):RH (h.filter fun p=>decide (p.1<n)) (h'.filter fun p=>decide (p.1<n)):=by
 induction hh with
 |nil=>exact .nil
 |cons h1 _ ih=>
  simp only [List.filter_cons,h1.1]
  split
  ·exact .cons h1 ih
  ·exact ih
theorem MQ (p:Nat→Bool) (q:Nat→Nat) {h:bN} {h':List (Nat×BK)} (hh:RH h h'):RH (h.map fun x=>(x.1,qP p q x.2)) (h'.map fun x=>(x.1,ip p q x.2)):=
 hh.map2 fun _ _ h=>⟨h.1,yp p q h.2⟩
theorem KT {f:Nat→SB} {g:Nat→BK} (hf:∀b,RB (f b) (g b)):∀(l:List Nat) (n:Nat),RH (MJ f n l) (wy g n l)
 | [],_=>.nil
 |b::l,n=>.cons ⟨rfl,hf b⟩ (KT hf l (n+1))
theorem ut {h1 h2:bN} {h1' h2':List (Nat×BK)} (a:RH h1 h1') (b:RH h2 h2'):RH (h1++h2) (h1'++h2'):=All2.append a b
theorem Ae {f:Nat→SB} {g:Nat→BK} (hf:∀b,RB (f b) (g b)) {h:bN} {h':List (Nat×BK)} (hh:RH h h'):∀l,RH (vT h f l) (over h' g l)
 | []=>hh
 |b::l=>eC (Ae hf hh l) (hf b) b
theorem Er {h:bN} {h':List (Nat×BK)} (hh:RH h h') (U A:List Nat):RH (vS h U A) (il h' U A):=by
 unfold vS il RH
 induction A with
 |nil=>exact .nil
 |cons b A ih=>exact .cons ⟨rfl,yp _ _ (dv hh b)⟩ ih
theorem Es {f:Nat→SV} {g:Nat→AV} (hf:∀t,RV (f t) (g t)):∀(l:List Nat) (t:Nat),RV (bw (l.map fun t=>(t,f t)) t) (look .ud (l.map fun t=>(t,g t)) t)
 | [],t=>⟨rfl,rfl⟩
 |a::l,t=>by
  simp only [List.map_cons,bw,look]
  split
  ·rename_i h;subst h;exact hf a
  ·split
   ·trivial
   ·exact Es hf l t
theorem BQ {live:List Nat} {S:SS} {S':St} (hs:RS S S') (hl:qc live S=true) (hm:gp≤ed live∨live= []):RS (jp live S) (dV live S'):=by
 have hbs:=hs.bs
 have hrefs:∀l:List Nat,qc l S=true→(gp≤ed l∨l= [])→(l.flatMap fun t=>dQ (bw S.tm t))=l.flatMap fun t=>bP (look .ud S'.tm t):=by
  intro l
  induction l with
  |nil=>intro _ _;rfl
  |cons a l ih=>
   intro h1 h2
   cases l with
   |nil=>
    simp only [List.flatMap_cons,List.flatMap_nil,List.append_nil]
    rcases h2 with h2|h2
    ·have h3:=hs.mm a h2
     have h4:=hs.tm a
     rw [h3]at h4⊢
     cases hv:bw S.tm a with
     |uk=>rfl
     |_=>rw [hv]at h4;exact kz h4 rfl
    ·cases h2
   |cons b l=>
    simp only [qc,Bool.and_eq_true,Bool.not_eq_true']at h1
    have h3:=ih h1.2 (.inl (by rcases h2 with h2|h2;exact h2;cases h2))
    simp only [List.flatMap_cons]at h3⊢
    rw [h3,kz (hs.tm a) h1.1]
 have hold:=KR hs.h S.bs
 have hreach:gm (ku S.h) S.bs 4096 (live.flatMap (fun t=>dQ (bw S.tm t))++(ku (S.h.filter fun p=>decide (p.1<S.bs))).flatMap fun p=>eH p.2) []=
   gm S'.h S.bs 4096 (live.flatMap (fun t=>bP (look .ud S'.tm t))++(S'.h.filter fun p=>decide (p.1<S.bs)).flatMap fun p=>eH p.2) []:=by
  rw [hrefs live hl hm,pC (ur hs.h) (Sv hs.h)]
  congr 2
  unfold ku
  rw [List.flatMap_map]
  exact hold.flatEq fun _ _ h=>GG h.2
 refine⟨?_,?_,?_,?_,?_⟩
 ·unfold jp dV
  simp only [←hbs,hreach]
  exact fun t=>Es (fun t=>by
   by_cases ht:gp≤t
   ·simp only [ht,if_true,hs.mm t ht];exact⟨rfl,rfl⟩
   ·simp only [ht,if_false];exact yo _ _ (hs.tm t)) live t
 ·intro t ht
  unfold dV
  simp only
  rw [lW]
  split
  ·rw [hs.mm t ht];rfl
  ·rfl
 ·unfold jp dV
  simp only [←hbs,hreach]
  exact ut (MQ _ _ hold) (KT (fun b=>yp _ _ (dv hs.h b)) _ _)
 ·unfold jp dV
  simp only [←hbs,hreach]
 ·unfold jp dV
  exact hbs
section
variable {ρ:Type} {r:ρ} {h:bN} {h':List (Nat×BK)} {tm:SM} {tm':List (Nat×AV)} {nx:Nat} {g:Cfg}
theorem eJ {b:Bool} {x y:Option ρ} (hb:(aG ρ).br b x y=some r):(b=true∧x=some r)∨(b=false∧y=some r):=by
 cases b
 ·exact .inr ⟨rfl,hb⟩
 ·exact .inl ⟨rfl,hb⟩
theorem gq {b:Bool} {x:Option ρ} (hb:(aG ρ).br b x none=some r):b=true∧x=some r:=by
 rcases eJ hb with h|⟨_,h⟩
 ·exact h
 ·cases h
theorem qS {b:Bool} {x:Option ρ} (hb:(aG ρ).br b none x=some r):b=false∧x=some r:=by
 rcases eJ hb with⟨_,h⟩|h
 ·cases h
 ·exact h
theorem qT {z:List AV} {l:List SV} (h:zS z=some l):All2 RC l z:=by
 unfold zS at h
 split at h
 ·rename_i hz
  simp at h;subst h
  induction z with
  |nil=>exact .nil
  |cons c z ih=>simp only [List.all_cons,Bool.and_eq_true]at hz;exact .cons ⟨rfl,hz.1⟩ (ih hz.2)
 ·cases h
theorem wb (v:AV):RV (nG v) v:=by
 cases v<;>first
  |exact⟨rfl,rfl⟩
  |trivial
  |skip
 rename_i cs
 show RV (match zS cs with
  |some l=>SV.ag l
  |none=>SV.uk) (.ag cs)
 cases hz:zS cs with
 |some l=>exact⟨cs,rfl,qT hz⟩
 |none=>trivial
theorem bp (ht:RT tm tm'):∀x:Opd,RV (bv tm x) (rd tm' x)
 | .t n=>ht n
 | .c v=>wb v
theorem iB {v:SV} {w:AV} {cs:List SV} (hv:RV v w) (hc:bI v=some cs):∃ws,cellsOf w=some ws∧All2 RC cs ws:=by
  cases v with
  |a u=>
    obtain⟨rfl,hcell⟩:=hv
    unfold bI at hc
    cases u<;>first|(simp at hc;done)|(simp at hc;subst hc;exact⟨_,rfl,.cons ⟨rfl,rfl⟩ .nil⟩)
  | ls s ts=>
    simp [bI]at hc;subst hc
    rcases hv with⟨es,rfl,h⟩|⟨rfl,rfl|rfl⟩
    · exact⟨_,rfl,.cons (.inl ⟨es,rfl,h⟩) .nil⟩
    · exact⟨_,rfl,.cons (.inr ⟨rfl,.inl rfl⟩) .nil⟩
    · exact⟨_,rfl,.cons (.inr ⟨rfl,.inr rfl⟩) .nil⟩
  |ri s ts i off=>
    simp [bI]at hc;subst hc
    obtain⟨es,rfl,h⟩:=hv
    exact⟨_,rfl,.cons ⟨es,rfl,h⟩ .nil⟩
  |ow s ts=>simp [bI]at hc
  |nz=>
    simp [bI]at hc;subst hc
    rcases hv with rfl|rfl
    · exact⟨_,rfl,.cons (.inl rfl) .nil⟩
    · exact⟨_,rfl,.cons (.inr rfl) .nil⟩
  |ag cs=>simp [bI]at hc;subst hc;obtain⟨ws,rfl,h⟩:=hv;exact⟨ws,rfl,h⟩
  |tp vs=>simp [bI]at hc
  |uk=>simp [bI]at hc
theorem qU {cs new:List SV} {ws new':List AV} (h1:All2 RC cs ws) (h2:All2 RC new new') (off:Nat):All2 RC (nb cs new off) (dR ws new' off):=by
 unfold nb dR
 rw [←h2.length]
 exact((h1.take off).append h2).append (h1.drop _)
theorem uu (ht:RT tm tm'):∀{ps:List (Nat×Nat×Opd)} {z:List SV} {z':List AV} {cs:List SV},All2 RC z z'→lY z tm ps=some cs→∃ws,iS z' tm' ps=some ws∧All2 RC cs ws
 | [],z,z',cs,hz,h=>by simp [lY]at h;subst h;exact⟨z',rfl,hz⟩
 |(off,n,x)::ps,z,z',cs,hz,h=>by
  simp only [lY]at h
  split at h
  ·rename_i cx hcx
   split at h
   ·rename_i hlen
    obtain⟨ws,hw,hr⟩:=iB (bp ht x) hcx
    obtain⟨us,hu,hr2⟩:=uu ht (qU hz hr off) h
    refine⟨us,?_,hr2⟩
    simp only [iS,hw]
    rw [if_pos ⟨by rw [←hr.length];exact hlen.1,by rw [←hz.length];exact hlen.2⟩]
    exact hu
   ·cases h
  ·cases h
theorem BR {cs:List SV} {ws:List AV} {n:Option Nat} {v:SV} (hc:All2 RC cs ws) (h:eA cs n=some v):∃w,iI ws n=some w∧RV v w:=by
 cases n with
 |some n=>simp [eA]at h;subst h;exact⟨_,rfl,⟨ws,rfl,hc⟩⟩
 |none=>
  unfold eA at h
  simp only at h
  split at h
  ·simp at h;subst h
   obtain⟨w,rfl,hw⟩:=hc.one
   exact⟨w,rfl,hw.toV⟩
  ·cases h
theorem ma (hh:RH h h') {v:SV} {w:AV} {k:SV→Option ρ} (hv:RC v w) (hk:du (aG ρ) h v k=some r):∃v1 w1,bO h' w=some w1∧RC v1 w1∧k v1=some r:=by
 cases v with
 |a u=>
  obtain⟨rfl,hcell⟩:=hv
  unfold du at hk
  cases u<;>simp only at hk<;>first|(cases hk;done)|(exact⟨.a _,_,rfl,⟨rfl,rfl⟩,hk⟩)|skip
  rename_i sz b lo len
  split at hk
  ·rename_i s ts t hb
   split at hk
   ·rename_i hsz
    obtain⟨hle,hk⟩:=gq hk
    have hrb:=dv hh b
    rw [hb]at hrb
    obtain⟨es,he,hr⟩:=hrb
    refine⟨.ls s ((ts.drop lo).take len),.ls sz ((es.drop lo).take len),?_,Or.inl ⟨_,by rw [hsz],(hr.drop lo).take len⟩,hk⟩
    simp only [bO,he]
    rw [if_pos ⟨hsz,by rw [←hr.length];simpa using hle⟩]
   ·cases hk
  ·cases hk
 |ls s ts=>
  unfold du at hk
  refine⟨_,w,?_,hv,hk⟩
  rcases hv with⟨es,rfl,h⟩|⟨rfl,rfl|rfl⟩<;>rfl
 |ri s ts i off=>
  unfold du at hk
  refine⟨_,w,?_,hv,hk⟩
  obtain⟨es,rfl,h⟩:=hv
  rfl
 |ow s ts=>simp [du]at hk
 |nz=>
  unfold du at hk
  refine⟨_,w,?_,hv,hk⟩
  rcases hv with rfl|rfl<;>rfl
 |ag cs=>simp [du]at hk
 |tp vs=>simp [du]at hk
 |uk=>simp [du]at hk
theorem pD (hh:RH h h') {v:SV} {w:AV} {k:SV→Option ρ} (hv:RC v w) (hk:du (aG ρ) h v k=some r):∃v1 w1,je h' w=some w1∧RC v1 w1∧k v1=some r:=by
 obtain⟨v1,w1,h1,h2,h3⟩:=ma hh hv hk
 refine⟨v1,w1,?_,h2,h3⟩
 cases w<;>first|exact h1|(simp [bO]at h1;done)|skip
theorem gz {f:SV→(SV→Option ρ)→Option ρ} {f':AV→Option AV} {R R':SV→AV→Prop} (hf:∀v w k,R v w→f v k=some r→∃v1 w1,f' w=some w1∧R' v1 w1∧k v1=some r):
  ∀{cs:List SV} {ws:List AV} {k:List SV→Option ρ},All2 R cs ws→jq f cs k=some r→∃l l',fz f' ws=some l'∧All2 R' l l'∧k l=some r
 | [],_,k,h,hk=>by cases h;exact⟨[],[],rfl,.nil,hk⟩
 |c::cs,_,k,h,hk=>by
  cases h with
  |cons h1 h2=>
   simp only [jq]at hk
   obtain⟨v1,w1,h3,h4,h5⟩:=hf _ _ _ h1 hk
   obtain⟨l,l',h6,h7,h8⟩:=gz hf h2 h5
   exact⟨v1::l,w1::l',by simp only [fz,h3,h6],.cons h4 h7,h8⟩
theorem BS (hh:RH h h') {v:SV} {w:AV} {k:SV→Option ρ} (hv:RV v w) (hk:pZ (aG ρ) h v k=some r):∃v1 w1,mP h' w=some w1∧RW v1 w1∧k v1=some r:=by
  have cell:∀{v:SV} {w:AV},RC v w→du (aG ρ) h v k=some r→∃v1 w1,mP h' w=some w1∧RW v1 w1∧k v1=some r:=fun {v w} hv hk=>by
    obtain⟨v1,w1,h1,h2,h3⟩:=pD hh hv hk
    refine⟨v1,w1,?_,h2.toW,h3⟩
    have:=dC hv
    cases w<;>first|exact h1|exact absurd rfl (this.1 _)
  cases v with
  | ag cs=>
    obtain⟨ws,rfl,hv⟩:=hv
    simp only [pZ]at hk
    obtain⟨l,l',h1,h2,h3⟩:=gz (R:=RC) (R':=RC) (f':=je h') (fun v w k h1 h2=>pD hh h1 h2) hv hk
    exact⟨.ag l,.ag l',by simp [mP,h1],⟨l',rfl,h2⟩,h3⟩
  |tp vs=>simp [pZ,du]at hk
  |uk=>simp [pZ,du]at hk
  |a u=>exact cell (v:=.a u) hv hk
  |ls s ts=>exact cell (v:=.ls s ts) hv hk
  |ri s ts i off=>exact cell (v:=.ri s ts i off) hv hk
  |ow s ts=>exact cell (v:=.ow s ts) hv hk
  |nz=>exact cell (v:=.nz) hv hk
theorem ju {es:List (List AV)} {i off n:Nat} {e:List AV} (he:es[i]? =some e) (hl:off+n≤e.length):iX es i off n=some ((e.drop off).take n):=by
 simp only [iX,he]
 rw [if_pos hl]
theorem wD (hh:RH h h') {n:Nat} {v:SV} {w:AV} {k:List SV→Option ρ} (hv:RV v w) (hk:iV (aG ρ) h n v k=some r):∃cs ws,dJ h' n w=some ws∧All2 RC cs ws∧k cs=some r:=by
 cases v with
 |a u=>
  obtain⟨rfl,hcell⟩:=hv
  cases u with
  |re sz b i off=>
   simp only [iV]at hk
   have hrb:=dv hh b
   split at hk
   ·rename_i sz' cs t hb
    rw [hb]at hrb
    obtain⟨ws,he,hr⟩:=hrb
    split at hk
    ·rename_i hc
     obtain⟨rfl,rfl,hle⟩:=hc
     refine⟨_,_,?_,(hr.drop off).take n,hk⟩
     simp only [dJ,he,if_true]
     exact ju rfl (by rw [←hr.length];exact hle)
    ·cases hk
   ·rename_i s ts t hb
    rw [hb]at hrb
    obtain⟨es,he,hr⟩:=hrb
    split at hk
    ·rename_i hc
     obtain⟨rfl,hle⟩:=hc
     obtain⟨hi,hk⟩:=gq hk
     obtain⟨e,h1,h2⟩:=hr.getD (by simpa using hi) (aa s)
     refine⟨_,_,?_,((hG h2).drop off).take n,hk⟩
     simp only [dJ,he,if_true]
     exact ju h1 (by rw [iA h2];exact hle)
    ·cases hk
   ·rename_i s ts t hb
    rw [hb]at hrb
    obtain⟨hsz,ws,he,hr⟩:=hrb
    split at hk
    ·rename_i hc
     obtain⟨rfl,_,rfl⟩:=hc
     obtain⟨hi,hk⟩:=gq hk
     simp only [Bool.and_eq_true,decide_eq_true_eq]at hi
     obtain⟨e,h1,h2⟩:=hr.getD hi.1 (aa s)
     refine⟨_,[e],?_,hG h2,hk⟩
     have hlen:sz=ws.length:=by rw [hi.2,hr.length]
     have ho:=(List.getElem?_eq_some_iff.1 h1).1
     simp only [dJ,he]
     rw [if_pos hlen,ju (e:=ws) rfl (by omega)]
     rw [List.drop_eq_getElem_cons ho,←(List.getElem?_eq_some_iff.1 h1).2]
     rfl
    ·cases hk
   ·cases hk
  |_=>simp [iV]at hk
 |ri s ts i off=>
  obtain⟨es,rfl,hr⟩:=hv
  simp only [iV]at hk
  split at hk
  ·rename_i hle
   obtain⟨hi,hk⟩:=gq hk
   obtain⟨e,h1,h2⟩:=hr.getD (by simpa using hi) (aa s)
   refine⟨_,_,?_,((hG h2).drop off).take n,hk⟩
   simp only [dJ]
   exact ju h1 (by rw [iA h2];exact hle)
  ·cases hk
 |_=>simp [iV]at hk
theorem MR {n:Option Nat} {v:SV} {w:AV} {ws:List AV} {cs:List SV} (hc:All2 RC cs ws) (hw:dJ h' (n.getD 1) w=some ws) (hv:eA cs n=some v):∃u,eP h' n w=some u∧RV v u:=by
 cases n with
 |some n=>
  simp [eA]at hv;subst hv
  exact⟨.ag ws,by simp only [Option.getD_some]at hw;simp [eP,hw],⟨ws,rfl,hc⟩⟩
 |none=>
  unfold eA at hv
  simp only at hv
  split at hv
  ·simp at hv;subst hv
   obtain⟨u,rfl,hu⟩:=hc.one
   refine⟨u,?_,hu.toV⟩
   simp only [Option.getD_none]at hw
   simp [eP,hw]
  ·cases hv
theorem xl {v:SV} {w:AV} {n:Int} (hv:RV v w) (h:yj v=some n):∃k,v= .a (.int k n)∧w= .int k n:=by
 unfold yj at h
 split at h
 ·simp at h;subst h;obtain⟨rfl,_⟩:=hv;exact⟨_,rfl,rfl⟩
 ·cases h
theorem Et {n:Int} {k:Nat→Option ρ}:∀(m j:Nat),CA (aG ρ) n k j m=some r→∃q:Nat,j≤q∧q<j+m∧n=q∧k q=some r
 |0,_,h=>by cases h
 |m+1,j,h=>by
  simp only [CA,aG]at h
  by_cases c:n=j
  ·rw [decide_eq_true c,cond_true]at h
   exact⟨j,Nat.le_refl _,by omega,c,h⟩
  ·rw [decide_eq_false c,cond_false]at h
   obtain⟨q,h1,h2,h3⟩:=Et m (j+1) h
   exact⟨q,by omega,by omega,h3⟩
theorem jv {lo hi:Int} {v:SV} {w:AV} {k:Nat→Option ρ} (hv:RV v w) (hk:iY (aG ρ) lo hi v k=some r):∃n,ff lo hi w=some n∧k n=some r:=by
 unfold iY at hk
 split at hk
 ·rename_i n hn
  obtain⟨kd,rfl,rfl⟩:=xl hv hn
  obtain⟨hb,hk⟩:=gq hk
  simp only [ah,Bool.and_eq_true,decide_eq_true_eq]at hb
  exact⟨n.toNat,by simp only [ff];rw [if_pos hb],hk⟩
 ·cases hk
theorem Gn {len:Nat} {v:SV} {w:AV} {k:Nat→Option ρ} (hv:RV v w) (hk:xh (aG ρ) len v k=some r):∃n,ff 0 (len-1) w=some n∧k n=some r:=by
 unfold xh at hk
 split at hk
 ·rename_i n hn
  obtain⟨kd,rfl,rfl⟩:=xl hv hn
  obtain⟨q,_,h2,rfl,h3⟩:=Et _ _ hk
  exact⟨q,by simp only [ff];rw [if_pos ⟨by omega,by omega⟩,Int.toNat_natCast],h3⟩
 ·cases hk
theorem cI {d lo hi:Nat} {o:Option Opd} {k:Nat→Option ρ} (ht:RT tm tm') (hk:eI (aG ρ) d tm lo hi o k=some r):∃n,bt d tm' lo hi o=some n∧k n=some r:=by
 cases o with
 |none=>exact⟨d,rfl,hk⟩
 |some x=>
  obtain⟨n,h1,h2⟩:=jv (bp ht x) hk
  exact⟨n,h1,h2⟩
theorem Ue {k:Nat} {x y:SV} {x' y':AV} {b:Bool} (hx:RC x x') (hy:RC y y') (h:TX k x y=some b):Gs k x' y'=some b:=by
 unfold TX at h
 split at h
 ·split at h
  ·rename_i hk
   simp at h;subst h
   obtain⟨rfl,_⟩:=hx;obtain⟨rfl,_⟩:=hy
   simp [Gs,hk]
  ·cases h
 ·simp at h;subst h;obtain⟨rfl,_⟩:=hx;obtain⟨rfl,_⟩:=hy;rfl
 ·simp at h;subst h;obtain⟨rfl,_⟩:=hx;obtain⟨rfl,_⟩:=hy;rfl
 ·cases h
theorem GH:∀{ks:List Nat} {xs ys:List SV} {xs' ys':List AV} {b:Bool},All2 RC xs xs'→All2 RC ys ys'→qQ ks xs ys=some b→iR ks xs' ys'=some b∧xs'.length=ks.length∧ys'.length=ks.length
 | [],[],[],_,_,b,h1,h2,h=>by cases h1;cases h2;simp [qQ]at h;subst h;exact⟨rfl,rfl,rfl⟩
 |k::ks,x::xs,y::ys,_,_,b,h1,h2,h=>by
  cases h1 with
  |cons h1 h3=>cases h2 with
   |cons h2 h4=>
    simp only [qQ,Option.bind_eq_some_iff,Option.map_eq_some_iff]at h
    obtain⟨p,hp,q,hq,rfl⟩:=h
    obtain⟨h5,h6,h7⟩:=GH h3 h4 hq
    simp only [iR,Ue h1 h2 hp,List.length_cons,h6,h7]
    cases p<;>simp [h5]
 | [],[],_::_,_,_,_,_,_,h=>by simp [qQ]at h
 | [],_::_,_,_,_,_,_,_,h=>by simp [qQ]at h
 |_::_,[],_,_,_,_,_,_,h=>by simp [qQ]at h
 |_::_,_::_,[],_,_,_,_,_,h=>by simp [qQ]at h
end
section
variable {ρ:Type} {r:ρ} {h:bN} {h':List (Nat×BK)} {tm:SM} {tm':List (Nat×AV)} {nx:Nat} {g:Cfg}
theorem qV {α β γ:Type} {R:β→γ→Prop} {f:α→β} {k:α→γ} (hf:∀a,R (f a) (k a)):∀l:List α,All2 R (l.map f) (l.map k)
 | []=>.nil
 |a::l=>.cons (hf a) (qV hf l)
theorem uv (hh:RH h h') {s:Sh} {v:SV} {w:AV} {k:List (aL s)→Option ρ} (hv:RV v w) (hk:iy (aG ρ) h s v k=some r):∃ts es,elems h' s.sz w=some es∧All2 (RE s) ts es∧k ts=some r:=by
 cases v with
 |a u=>
  obtain⟨rfl,hcell⟩:=hv
  unfold iy at hk
  cases u<;>simp only at hk<;>first|(cases hk;done)|(exact⟨[],[],rfl,.nil,hk⟩)|skip
  ·split at hk
   ·rename_i x e
    subst e
    exact⟨_,x.data.toList.map fun c=>[.int .u8 c.toNat],rfl,qV (R:=RE (.i .u8)) (f:=fun c:UInt8=>(c.toNat:Int)) (k:=fun c:UInt8=>[AV.int .u8 c.toNat]) (fun c=>rfl) _,hk⟩
   ·cases hk
  ·rename_i sz b lo len
   split at hk
   ·rename_i s' ts t hb
    split at hk
    ·rename_i e
     subst e
     split at hk
     ·rename_i hsz
      obtain⟨hle,hk⟩:=gq hk
      have hrb:=dv hh b
      rw [hb]at hrb
      obtain⟨es,he,hr⟩:=hrb
      refine⟨_,_,?_,(hr.drop lo).take len,hk⟩
      simp only [elems,he]
      rw [if_pos ⟨hsz.symm,trivial,by rw [←hr.length];simpa using hle⟩]
     ·cases hk
    ·cases hk
   ·cases hk
 |ls s' ts=>
  simp only [iy]at hk
  split at hk
  ·rename_i e
   subst e
   rcases hv with⟨es,rfl,h⟩|⟨rfl,rfl|rfl⟩
   ·exact⟨_,es,by simp [elems],h,hk⟩
   ·exact⟨_,[],rfl,.nil,hk⟩
   ·exact⟨_,[],rfl,.nil,hk⟩
  ·cases hk
 |nz=>
  simp only [iy]at hk
  rcases hv with rfl|rfl
  ·exact⟨_,[],rfl,.nil,hk⟩
  ·exact⟨_,[],rfl,.nil,hk⟩
 |_=>simp [iy]at hk
theorem Sw (hh:RH h h') {kd:Nat} {v:SV} {w:AV} {n:Int} (hv:RV v w) (hk:MK h kd v=some n):∃m:Nat,tW h' kd w=some m∧(m:Int)=n:=by
 unfold MK at hk
 split at hk
 ·simp at hk;subst hk;obtain⟨rfl,_⟩:=hv;exact⟨_,rfl,rfl⟩
 ·simp at hk;subst hk;obtain⟨rfl,_⟩:=hv;exact⟨0,rfl,rfl⟩
 ·simp at hk;subst hk;obtain⟨rfl,_⟩:=hv;exact⟨0,rfl,rfl⟩
 ·simp at hk;subst hk;rcases hv with rfl|rfl<;>exact⟨0,rfl,rfl⟩
 ·simp at hk;subst hk
  rcases hv with⟨es,rfl,h⟩|⟨rfl,rfl|rfl⟩
  ·exact⟨es.length,rfl,by rw [h.length]⟩
  ·exact⟨0,rfl,rfl⟩
  ·exact⟨0,rfl,rfl⟩
 ·rename_i sz b lo len
  split at hk
  ·rename_i ha
   simp at hk;subst hk
   obtain⟨rfl,_⟩:=hv
   rw [fG hh b]at ha
   exact⟨len,by simp [tW,ha],rfl⟩
  ·cases hk
 ·simp at hk;subst hk;obtain⟨rfl,_⟩:=hv;exact⟨0,rfl,rfl⟩
 ·rename_i b
  obtain⟨rfl,_⟩:=hv
  have hrb:=dv hh b
  split at hk
  ·rename_i hb;rw [hb]at hrb;obtain⟨l,he,hr⟩:=hrb;simp at hk;subst hk;exact⟨l.length,by simp [tW,he],by rw [hr.length]⟩
  ·rename_i hb;rw [hb]at hrb;obtain⟨l,he,hr⟩:=hrb;simp at hk;subst hk;exact⟨l.length,by simp [tW,he],by rw [hr.length]⟩
  ·rename_i es hb;rw [hb]at hrb;have he:aU h' b= .mp es:=hrb;simp at hk;subst hk;exact⟨es.length,by simp [tW,he],rfl⟩
  ·cases hk
 ·cases hk
theorem Sx (hh:RH h h') {kd:Nat} {v:SV} {w:AV} {c:Bool→Option ρ} (hv:RV v w) (hk:zX (aG ρ) h kd v c=some r):∃b,wW h' kd w=some b∧c b=some r:=by
 cases v with
 |a u=>
  obtain⟨rfl,hcell⟩:=hv
  simp only [zX]at hk
  split at hk
  ·exact⟨true,rfl,hk⟩
  ·exact⟨true,rfl,hk⟩
  ·exact⟨true,rfl,hk⟩
  ·exact⟨true,rfl,hk⟩
  ·exact⟨true,rfl,hk⟩
  ·rename_i b _ _
   split at hk
   ·rename_i ha;rw [fG hh b]at ha;exact⟨false,by simp [wW,ha],hk⟩
   ·cases hk
  ·rename_i b
   split at hk
   ·rename_i ha;rw [fG hh b]at ha;exact⟨false,by simp [wW,ha],hk⟩
   ·cases hk
  ·rename_i b _ _
   split at hk
   ·rename_i ha;rw [fG hh b]at ha;exact⟨false,by simp [wW,ha],hk⟩
   ·cases hk
  ·exact⟨false,rfl,hk⟩
  ·cases hk
 |ri s ts i off=>
  simp only [zX]at hk
  split at hk
  ·rename_i hk0;subst hk0;obtain⟨es,rfl,_⟩:=hv;exact⟨false,rfl,hk⟩
  ·cases hk
 |ls s ts=>
  simp only [zX]at hk
  split at hk
  ·rename_i hk0;subst hk0
   obtain⟨he,hk⟩:=qS hk
   rcases hv with⟨es,rfl,h⟩|⟨rfl,_⟩
   ·exact⟨false,rfl,hk⟩
   ·simp at he
  ·cases hk
 |_=>simp [zX]at hk
theorem yq:∀{vs:List SV} {ws:List AV} {l:List AV},All2 RV vs ws→BP vs=some l→ws=l
 | [],_,l,h,hl=>by cases h;simp [BP]at hl;exact hl.symm
 |v::vs,_,l,h,hl=>by
  cases h with
  |cons h1 h2=>
   cases v with
   |a u=>
    simp only [BP,Option.map_eq_some_iff]at hl
    obtain⟨l',hl,rfl⟩:=hl
    obtain⟨rfl,_⟩:=h1
    rw [yq h2 hl]
   |_=>simp [BP]at hl
theorem uw (ht:RT tm tm') (xs:List Opd):All2 RV (xs.map (bv tm)) (xs.map (rd tm')):=qV (fun x=>bp ht x) xs
theorem abb {v:SV} {w:AV} (hv:RC v w):HX v=px w:=by
 cases v with
 |a u=>obtain⟨rfl,_⟩:=hv;cases u<;>rfl
 |ls s ts=>rcases hv with⟨es,rfl,h⟩|⟨rfl,rfl|rfl⟩<;>rfl
 |ri s ts i off=>obtain⟨es,rfl,_⟩:=hv;rfl
 |ow s ts=>obtain⟨es,rfl,_⟩:=hv;rfl
 |nz=>rcases hv with rfl|rfl<;>rfl
 |_=>exact hv.elim
theorem Uf {vs:List SV} {ws:List AV} (hv:All2 RC vs ws):vs.any HX=ws.any px:=by
 induction hv with
 |nil=>rfl
 |cons h1 _ ih=>simp only [List.any_cons,abb h1,ih]
theorem Il:∀{s:Sh} {x:aL s} {cs:List AV},RE s x cs→cs.any px=false
 | .i _,_,_,h=>by cases h;rfl
 | .b,_,_,h=>by cases h;rfl
 | .s,_,_,h=>by cases h;rfl
 | .row _,_,_,h=>by
  obtain⟨w,rfl,h⟩:=h
  rcases h with⟨es,rfl,h⟩|⟨rfl,rfl|rfl⟩<;>rfl
 | .nil,_,_,h=>by cases h;rfl
 | .cons a b,_,_,h=>by obtain⟨c1,c2,rfl,h1,h2⟩:=h;simp [List.any_append,Il h1,Il h2]
theorem Ug {s:Sh} {ts:List (aL s)} {es:List (List AV)} (h:All2 (RE s) ts es):es.flatten.any px=false:=by
 induction h with
 |nil=>rfl
 |cons h1 _ ih=>simp only [List.flatten_cons,List.any_append,Il h1,ih,Bool.or_self]
theorem Gp {v:SV} {cs:List SV} (h:bI v=some cs):cS v=false:=by
 cases v<;>first|rfl|(simp [bI]at h)
theorem GI {s:Sh}:∀{l:List (List SV)} {es:List (List AV)} {ts:List (aL s)},All2 (All2 RC) l es→Eb s l=some ts→All2 (RE s) ts es
 | [],_,ts,h,hd=>by cases h;simp [Eb]at hd;subst hd;exact .nil
 |c::l,_,ts,h,hd=>by
  cases h with
  |cons h1 h2=>
   simp only [Eb,Option.bind_eq_some_iff,Option.map_eq_some_iff]at hd
   obtain⟨x,hx,l',hl,rfl⟩:=hd
   exact .cons (eW hx h1) (GI h2 hl)
theorem MS {ts:List Int} {es:List (List AV)} (h:All2 (RE (.i .u8)) ts es):es.mapM vK=some (ts.map fun n=>UInt8.ofNat n.toNat):=by
 induction h with
 |nil=>rfl
 |cons h1 _ ih=>cases h1;simp only [List.mapM_cons,vK,ih,List.map_cons];rfl
theorem Im {ws:List AV} {c:AV} {off:Nat} (h:off<ws.length):dR ws [c] off=ws.set off c:=by
 unfold dR
 rw [List.set_eq_take_append_cons_drop,if_pos h]
 simp
def RF (tm':List (Nat×AV)) (rf:SM):Prop:=∀p∈rf,∃b,p.2= .a (.bl b)∧look .ud tm' p.1= .bl b
theorem RF.nil:RF tm' []:=fun p hp=>by cases hp
theorem RF.one {t:Nat} {b:Bool} (h:look .ud tm' t= .bl b):RF tm' [(t,.a (.bl b))]:=fun p hp=>by
 simp only [List.mem_singleton]at hp
 subst hp
 exact⟨b,rfl,h⟩
def OkO (tm':List (Nat×AV)) (k:KV ρ) (r:ρ) (e:Option Ef):Prop:=
 ∃rf v h1 nx1 w h1',k rf v h1 nx1=some r∧e=some ⟨w,h1',nx1⟩∧RV v w∧RH h1 h1'∧RF tm' rf
theorem OkO.mk (hh:RH h h') {k:KV ρ} {v:SV} {w:AV} (hk:k [] v h nx=some r) (hv:RV v w):OkO tm' k r (one h' nx w):=⟨_,_,_,_,_,_,hk,rfl,hv,hh,RF.nil⟩
theorem OkO.mk' {k:KV ρ} {v:SV} {w:AV} {h1:bN} {h1':List (Nat×BK)} {n:Nat} (hk:k [] v h1 n=some r) (hv:RV v w) (hh:RH h1 h1'):OkO tm' k r (some ⟨w,h1',n⟩):=⟨_,_,_,_,_,_,hk,rfl,hv,hh,RF.nil⟩
theorem OkO.mv {k:KV ρ} {v:SV} {u u':AV} {h1:bN} {h1':List (Nat×BK)} {n:Nat} (hk:k [] v h1 n=some r) (hv:RV v u) (hh:RH h1 h1') (he:u=u'):OkO tm' k r (some ⟨u',h1',n⟩):=by subst he;exact OkO.mk' hk hv hh
variable {H:Hint} {k:KV ρ}
theorem adX (ht:RT tm tm') (hh:RH h h') {x:Opd} (hk:opS (aG ρ) H tm h nx (.mv x) k=some r):OkO tm' k r (ay tm' h' nx (.mv x)):=by
 simp only [opS]at hk
 exact OkO.mk hh hk (bp ht x)
theorem adY (ht:RT tm tm') (hh:RH h h') {c x y:Opd} (hk:opS (aG ρ) H tm h nx (.pk c x y) k=some r):OkO tm' k r (ay tm' h' nx (.pk c x y)):=by
 simp only [opS]at hk
 cases c with
 |t t=>
  try simp only at hk
  split at hk
  ·rename_i p hp
   have h1:look .ud tm' t= .bl p:=by have:=ht t;rw [hp]at this;exact this.1.symm
   have h2:rd tm' (.t t)= .bl p:=h1
   rcases eJ hk with⟨rfl,hk⟩|⟨rfl,hk⟩
   ·exact⟨_,_,_,_,_,_,hk,by simp only [ay,h2,one,if_true],bp ht x,hh,RF.one h1⟩
   ·exact⟨_,_,_,_,_,_,hk,by simp only [ay,h2,one,Bool.false_eq_true,if_false],bp ht y,hh,RF.one h1⟩
  ·cases hk
 |c v=>
  split at hk
  ·rename_i p hp;cases hp
  ·rename_i p hp
   injection hp with hp
   subst hp
   have h2:rd tm' (.c (.bl p))= .bl p:=rfl
   cases p
   ·simp only [Bool.false_eq_true,if_false]at hk
    simp only [ay,h2,Bool.false_eq_true,if_false]
    exact OkO.mk hh hk (bp ht y)
   ·simp only [if_true]at hk
    simp only [ay,h2,if_true]
    exact OkO.mk hh hk (bp ht x)
  ·cases hk
theorem adZ (ht:RT tm tm') (hh:RH h h') {z:List AV} {t:TypeId} (hk:opS (aG ρ) H tm h nx (.al z t) k=some r):OkO tm' k r (ay tm' h' nx (.al z t)):=by
 simp only [opS]at hk
 split at hk
 ·rename_i s hs
  split at hk
  ·rename_i hsz
   split at hk
   ·rename_i ts hts
    simp only [Option.bind_eq_some_iff]at hts
    obtain⟨l,hl,hts⟩:=hts
    have h1:=qT hl
    have h2:All2 (All2 RC) (l.map fun c=>[c]) (z.map fun c=>[c]):=h1.map2 fun a b h=>.cons h .nil
    have h3:=GI h2 hts
    have h4:All2 (fun d c=>RE s d [c]) ts z:=by
     have aux:∀{ts:List (aL s)} {z:List AV},All2 (RE s) ts (z.map fun c=>[c])→All2 (fun d c=>RE s d [c]) ts z:=by
      intro ts z
      induction z generalizing ts with
      |nil=>intro h;cases h;exact .nil
      |cons c z ih=>intro h;cases h with
       |cons h1 h2=>exact .cons h1 (ih h2)
     exact aux h3
    simp only [ay]
    exact OkO.mk' hk ⟨rfl,rfl⟩ (.cons ⟨rfl,hsz,z,rfl,h4⟩ hh)
   ·cases hk
  ·cases hk
 ·split at hk
  ·rename_i l hl
   have h1:=qT hl
   simp only [ay]
   exact OkO.mk' hk ⟨rfl,rfl⟩ (.cons ⟨rfl,z,rfl,h1⟩ hh)
  ·cases hk
theorem ad0 (ht:RT tm tm') (hh:RH h h') {x:Opd} {t:TypeId} (hk:opS (aG ρ) H tm h nx (.bx t x) k=some r):OkO tm' k r (ay tm' h' nx (.bx t x)):=by
 simp only [opS]at hk
 split at hk
 ·rename_i cs hcs
  obtain⟨ws,hw,hr⟩:=iB (bp ht x) hcs
  simp only [ay,hw]
  exact OkO.mk' hk ⟨by rw [hr.length],rfl⟩ (.cons ⟨rfl,ws,by rw [hr.length],hr⟩ hh)
 ·cases hk
theorem ad1 (ht:RT tm tm') (hh:RH h h') {z:List AV} {ps:List (Nat×Nat×Opd)} (hk:opS (aG ρ) H tm h nx (.bd z ps) k=some r):OkO tm' k r (ay tm' h' nx (.bd z ps)):=by
 simp only [opS]at hk
 split at hk
 ·rename_i cs hcs
  simp only [Option.bind_eq_some_iff]at hcs
  obtain⟨l,hl,hcs⟩:=hcs
  obtain⟨ws,hw,hr⟩:=uu ht (qT hl) hcs
  simp only [ay,hw,Option.bind_some]
  exact OkO.mk hh hk ⟨ws,rfl,hr⟩
 ·cases hk
theorem OP (ht:RT tm tm') (hh:RH h h') {s:Sh} {t:TypeId} {sz:Nat} {ps:List (Nat×Opd)} (hsz:s.sz=sz):∀{l:List (Nat×Opd)} {ts:List (aL s)} {es:List (List AV)},(∀p∈l,∀cs,bI (bv tm p.2)=some cs→True)→All2 (RE s) ts es→
  opS.go (aG ρ) tm h nx k sz t ps s l ts=some r→∃ts' es',iT h' es sz tm' l=some es'∧All2 (RE s) ts' es'∧ts'.length=ts.length∧(∀p∈l,cS (bv tm p.2)=false)∧
   k [] (.a (.sl sz nx 0 ts'.length)) ((nx,.row s ts' t)::mW h (ps.flatMap fun p=>dQ (bv tm p.2))) (nx+1)=some r
 | [],ts,es,_,he,hk=>by
  rw [opS.go]at hk
  exact⟨ts,es,rfl,he,rfl,(fun p hp=>by cases hp),hk⟩
 |(i,x)::l,ts,es,h0,he,hk=>by
  rw [opS.go]at hk
  split at hk
  ·rename_i cs hcs
   obtain⟨ws,hw,hr⟩:=iB (bp ht x) hcs
   obtain⟨l1,l1',h1,h2,h3⟩:=gz (R:=RC) (R':=RC) (f':=bO h') (fun v w k h1 h2=>ma hh h1 h2) hr hk
   split at h3
   ·rename_i y hy
    have h4:=eW hy h2
    obtain⟨ts',es',h5,h6,h7,h8,h9⟩:=OP ht hh hsz (fun p hp=>h0 p (List.mem_cons_of_mem _ hp)) (he.set h4 i) h3
    refine⟨ts',es',?_,h6,by rw [h7,List.length_set],?_,h9⟩
    ·simp only [iT,hw,h1]
     rw [if_pos (by rw [iA h4,hsz])]
     exact h5
    ·intro p hp
     rcases List.mem_cons.1 hp with rfl|hp
     ·exact Gp hcs
     ·exact h8 p hp
   ·cases h3
  ·cases hk
theorem qW {α β:Type} {f g:α→List β}:∀{l:List α},(∀a∈l,f a=g a)→l.flatMap f=l.flatMap g
 | [],_=>rfl
 |a::l,h=>by simp only [List.flatMap_cons,h a (List.mem_cons_self ..),qW fun b hb=>h b (List.mem_cons_of_mem _ hb)]
theorem ad2 (ht:RT tm tm') (hh:RH h h') {sz len:Nat} {z:List AV} {t:TypeId} {ps:List (Nat×Opd)} (hk:opS (aG ρ) H tm h nx (.bs sz len z t ps) k=some r):OkO tm' k r (ay tm' h' nx (.bs sz len z t ps)):=by
 simp only [opS]at hk
 split at hk
 ·rename_i s hs
  split at hk
  ·rename_i hsz
   split at hk
   ·rename_i d hd
    simp only [Option.bind_eq_some_iff]at hd
    obtain⟨l,hl,hd⟩:=hd
    have h1:=eW hd (qT hl)
    obtain⟨ts',es',h2,h3,h4,h5,h6⟩:=OP ht hh hsz (fun _ _ _ _=>trivial) (All2.rep h1 len) hk
    simp only [ay,h2,Option.bind_some]
    have hlen:ts'.length=len:=by rw [h4,List.length_replicate]
    have hrf:(ps.flatMap fun p=>dQ (bv tm p.2))=ps.flatMap fun p=>bP (rd tm' p.2):=qW fun p hp=>kz (bp ht p.2) (h5 p hp)
    rw [hrf]at h6
    exact OkO.mk' h6 ⟨by rw [hlen],rfl⟩ (.cons ⟨rfl,es',by rw [hsz],h3⟩ (qe hh _))
   ·cases hk
  ·cases hk
 ·cases hk
end
section
variable {ρ:Type} {r:ρ} {h:bN} {h':List (Nat×BK)} {tm:SM} {tm':List (Nat×AV)} {nx:Nat} {g:Cfg} {H:Hint} {k:KV ρ}
theorem ad3 (ht:RT tm tm') (hh:RH h h') {n:Option Nat} {x:Opd} (hk:opS (aG ρ) H tm h nx (.ld n x) k=some r):OkO tm' k r (ay tm' h' nx (.ld n x)):=by
 simp only [opS]at hk
 obtain⟨cs,ws,h1,h2,h3⟩:=wD hh (bp ht x) hk
 split at h3
 ·rename_i v hv
  obtain⟨u,hu,hr⟩:=MR h2 h1 hv
  simp only [ay,hu,Option.bind_some]
  exact OkO.mk hh h3 hr
 ·cases h3
theorem ad4 (ht:RT tm tm') (hh:RH h h') {n:Nat} {a x:Opd} (hk:opS (aG ρ) H tm h nx (.sr n a x) k=some r):OkO tm' k r (ay tm' h' nx (.sr n a x)):=by
 simp only [opS]at hk
 split at hk
 ·rename_i new hnew
  obtain⟨new',hw,hr⟩:=iB (bp ht x) hnew
  split at hk
  ·cases hk
  ·rename_i hc
   have hc':¬(new'.length≠n∨new'.any px=true):=by rw [←hr.length,←Uf hr];exact hc
   split at hk
   ·rename_i sz b i off ha
    have hra:rd tm' a= .re sz b i off:=by have:=bp ht a;rw [ha]at this;exact this.1.symm
    have hrb:=dv hh b
    split at hk
    ·rename_i sz' cs t hb
     rw [hb]at hrb
     obtain⟨ws,he,hr2⟩:=hrb
     split at hk
     ·rename_i hcc
      obtain⟨rfl,rfl,hle⟩:=hcc
      simp only [ay,hw,hra,he]
      rw [if_neg hc',if_neg (by simp)]
      simp only [List.getElem?_cons_zero]
      rw [if_pos (by rw [←hr2.length];exact hle)]
      exact OkO.mk' hk ⟨rfl,rfl⟩ (eC hh (x:=.vr sz (nb cs new off) t) ⟨_,rfl,qU hr2 hr off⟩ b)
     ·cases hk
    ·rename_i s ts t hb
     rw [hb]at hrb
     obtain⟨hsz,ws,he,hr2⟩:=hrb
     split at hk
     ·rename_i y hy
      have h4:=eW hy hr
      split at hk
      ·rename_i hcc
       obtain⟨_,rfl⟩:=hcc
       obtain⟨hi,hk⟩:=gq hk
       simp only [Bool.and_eq_true,decide_eq_true_eq]at hi
       have hlen:sz=ws.length:=by rw [hi.2,hr2.length]
       have hn:new'.length=1:=by rw [iA h4,hsz]
       obtain⟨c,rfl⟩:∃c,new'= [c]:=by
        cases new' with
        |nil=>simp at hn
        |cons c l=>cases l with
         |nil=>exact⟨c,rfl⟩
         |cons=>simp at hn
       have hn1:n=1:=by
        have:=fun hne=>hc' (.inl hne)
        simpa [eq_comm]using this
       have hoff:off<ws.length:=by rw [←hr2.length];exact hi.1
       simp only [ay,hw,hra,he]
       rw [if_neg hc',if_neg (by simp [hlen])]
       simp only [List.getElem?_cons_zero]
       rw [if_pos (by omega)]
       simp only [if_true,Im hoff,List.set_cons_zero]
       refine OkO.mk' hk ⟨rfl,rfl⟩ (eC hh (x:=.ar s (ts.set off y) t) ⟨hsz,ws.set off c,by rw [List.length_set,hlen],hr2.set h4 off⟩ b)
      ·cases hk
     ·cases hk
    ·rename_i s ts t hb
     rw [hb]at hrb
     obtain⟨es,he,hr2⟩:=hrb
     split at hk
     ·rename_i hcc
      obtain⟨rfl,hle,hcon⟩:=hcc
      obtain⟨l1,l1',h1,h2,h3⟩:=gz (R:=RC) (R':=RC) (f':=bO h') (fun v w k h1 h2=>ma hh h1 h2) hr hk
      obtain⟨hi,h3⟩:=gq h3
      obtain⟨e,h5,h6⟩:=hr2.getD (by simpa using hi) (aa s)
      split at h3
      ·rename_i y hy
       have h4:=eW hy (qU (hG h6) h2 off)
       have hrf:new.flatMap qO=new'.flatMap cR:=hr.flatEq fun _ _ h=>qd h
       simp only [ay,hw,hra,he]
       rw [if_neg hc',if_neg (by simp)]
       simp only [h5]
       rw [if_pos (by rw [iA h6];exact hle)]
       simp only [Bool.false_eq_true,if_false]
       rw [hrf]at hcon h3
       simp only [hcon,Bool.false_eq_true,if_false,h1]
       exact OkO.mk' h3 ⟨rfl,rfl⟩ (eC (qe hh _) (x:=.row s (ts.set i y) t) ⟨_,rfl,hr2.set h4 i⟩ b)
      ·cases h3
     ·cases hk
    ·cases hk
   ·cases hk
 ·cases hk
theorem ai0 {v:SV} {w:AV} {sz b i off:Nat} (hv:RV v w) (h:v= .a (.re sz b i off)):w= .re sz b i off:=by subst h;exact hv.1.symm
theorem ad5 (ht:RT tm tm') (hh:RH h h') {x:Opd} (hk:opS (aG ρ) H tm h nx (.nc x) k=some r):OkO tm' k r (ay tm' h' nx (.nc x)):=by
 simp only [opS]at hk
 have hx:=bp ht x
 split at hk
 ·rename_i sz b i off ha
  rw [ha]at hx
  have hx':=hx.1.symm
  split at hk
  ·rename_i hal
   rw [fG hh b]at hal
   simp only [ay,hx',hal,if_true]
   exact OkO.mk hh hk ⟨rfl,rfl⟩
  ·cases hk
 ·rename_i s ts i off ha
  rw [ha]at hx
  obtain⟨es,hx',hr⟩:=hx
  simp only [ay,hx']
  exact OkO.mk hh hk ⟨es,rfl,hr⟩
 ·rename_i f caps ha
  rw [ha]at hx
  have hx':=hx.1.symm
  simp only [ay,hx']
  exact OkO.mk hh hk ⟨rfl,rfl⟩
 ·cases hk
theorem ad6 (ht:RT tm tm') (hh:RH h h') {op:BinOp} {x y:Opd} (hk:opS (aG ρ) H tm h nx (.bn op x y) k=some r):OkO tm' k r (ay tm' h' nx (.bn op x y)):=by
 simp only [opS]at hk
 have hx:=bp ht x
 have hy:=bp ht y
 split at hk
 ·rename_i v w hv hw
  rw [hv]at hx;rw [hw]at hy
  have hx':=hx.1.symm
  have hy':=hy.1.symm
  simp only [ay,hx',hy']
  split at hk
  ·obtain⟨h0,hk⟩:=qS hk
   simp only [decide_eq_false_iff_not]at h0
   simp only [qz,h0,if_false,Option.bind_some]
   exact OkO.mk hh hk ⟨rfl,rfl⟩
  ·obtain⟨h0,hk⟩:=qS hk
   simp only [decide_eq_false_iff_not]at h0
   simp only [qz,h0,if_false,Option.bind_some]
   exact OkO.mk hh hk ⟨rfl,rfl⟩
  ·split at hk
   ·rename_i hkd
    subst hkd
    obtain⟨h0,hk⟩:=qS hk
    simp only [decide_eq_false_iff_not]at h0
    simp only [qz,h0,if_false,ne_eq,not_true_eq_false,Option.bind_some]
    exact OkO.mk hh hk ⟨rfl,rfl⟩
   ·cases hk
  ·split at hk
   ·rename_i hkd
    subst hkd
    obtain⟨h0,hk⟩:=qS hk
    simp only [decide_eq_false_iff_not]at h0
    simp only [qz,h0,if_false,ne_eq,not_true_eq_false,Option.bind_some]
    exact OkO.mk hh hk ⟨rfl,rfl⟩
   ·cases hk
  ·obtain⟨h0,hk⟩:=qS hk
   simp only [decide_eq_false_iff_not]at h0
   simp only [qz,h0,if_false,Option.bind_some]
   exact OkO.mk hh hk ⟨rfl,rfl⟩
  ·split at hk
   ·rename_i u hu
    split at hk
    ·rename_i hcell
     simp only [hu,Option.bind_some]
     exact OkO.mk hh hk ⟨rfl,hcell⟩
    ·cases hk
   ·cases hk
 ·cases hk
theorem ad7 (ht:RT tm tm') (hh:RH h h') {neg:Bool} {ks:List Nat} {x y:Opd} (hk:opS (aG ρ) H tm h nx (.ea neg ks x y) k=some r):OkO tm' k r (ay tm' h' nx (.ea neg ks x y)):=by
 simp only [opS]at hk
 have hx:=bp ht x
 have hy:=bp ht y
 split at hk
 ·rename_i a b ha hb
  rw [ha]at hx;rw [hb]at hy
  obtain⟨a',hx',hx⟩:=hx
  obtain⟨b',hy',hy⟩:=hy
  split at hk
  ·rename_i p hp
   obtain⟨h1,h2,h3⟩:=GH hx hy hp
   simp only [ay,hx',hy']
   rw [if_pos ⟨h2,h3⟩]
   simp only [h1,Option.bind_some]
   exact OkO.mk hh hk ⟨rfl,rfl⟩
  ·cases hk
 ·cases hk
theorem ad8 (ht:RT tm tm') (hh:RH h h') {neg:Bool} {x y:Opd} (hk:opS (aG ρ) H tm h nx (.eb neg x y) k=some r):OkO tm' k r (ay tm' h' nx (.eb neg x y)):=by
 simp only [opS]at hk
 have hx:=bp ht x
 have hy:=bp ht y
 split at hk
 ·rename_i a b ha hb
  rw [ha]at hx;rw [hb]at hy
  simp only [ay,hx.1.symm,hy.1.symm]
  exact OkO.mk hh hk ⟨rfl,rfl⟩
 ·cases hk
theorem ad9 (ht:RT tm tm') (hh:RH h h') {neg:Bool} {kd:Nat} {x:Opd} (hk:opS (aG ρ) H tm h nx (.nq neg kd x) k=some r):OkO tm' k r (ay tm' h' nx (.nq neg kd x)):=by
 simp only [opS]at hk
 obtain⟨b,h1,h2⟩:=Sx hh (bp ht x) hk
 simp only [ay,h1,Option.bind_some]
 exact OkO.mk hh h2 ⟨rfl,rfl⟩
theorem aea (ht:RT tm tm') (hh:RH h h') {op:UnOp} {x:Opd} (hk:opS (aG ρ) H tm h nx (.un op x) k=some r):OkO tm' k r (ay tm' h' nx (.un op x)):=by
 simp only [opS]at hk
 have hx:=bp ht x
 split at hk
 ·rename_i ha
  rw [ha]at hx
  simp only [ay,hx.1.symm]
  exact OkO.mk hh hk ⟨rfl,rfl⟩
 ·rename_i ha
  rw [ha]at hx
  simp only [ay,hx.1.symm]
  exact OkO.mk hh hk ⟨rfl,rfl⟩
 ·cases hk
theorem aeb (ht:RT tm tm') (hh:RH h h') {kd:IntKind} {x:Opd} (hk:opS (aG ρ) H tm h nx (.ci kd x) k=some r):OkO tm' k r (ay tm' h' nx (.ci kd x)):=by
 simp only [opS]at hk
 have hx:=bp ht x
 split at hk
 ·rename_i ha
  rw [ha]at hx
  simp only [ay,hx.1.symm]
  exact OkO.mk hh hk ⟨rfl,rfl⟩
 ·cases hk
theorem abc (ht:RT tm tm') (hh:RH h h') {x:Opd} (hk:opS (aG ρ) H tm h nx (.cv1 x) k=some r):OkO tm' k r (ay tm' h' nx (.cv1 x)):=by
 simp only [opS]at hk
 have hx:=bp ht x
 split at hk
 ·rename_i ha
  rw [ha]at hx
  simp only [ay,hx.1.symm]
  exact OkO.mk hh hk ⟨rfl,rfl⟩
 ·cases hk
theorem aec (ht:RT tm tm') (hh:RH h h') {t:TypeId} {x:Opd} (hk:opS (aG ρ) H tm h nx (.cs t x) k=some r):OkO tm' k r (ay tm' h' nx (.cs t x)):=by
 simp only [opS]at hk
 have hx:=bp ht x
 split at hk
 ·rename_i s ha
  rw [ha]at hx
  simp only [ay,hx.1.symm]
  exact OkO.mk' hk ⟨rfl,rfl⟩ (.cons ⟨rfl,_,rfl,qV (R:=RE (.i .u8)) (f:=fun c:UInt8=>(c.toNat:Int)) (k:=fun c:UInt8=>[AV.int .u8 c.toNat]) (fun c=>rfl) _⟩ hh)
 ·cases hk
theorem aed (ht:RT tm tm') (hh:RH h h') {x:Opd} (hk:opS (aG ρ) H tm h nx (.cb x) k=some r):OkO tm' k r (ay tm' h' nx (.cb x)):=by
 simp only [opS]at hk
 have hx:=bp ht x
 split at hk
 ·cases hk
 ·rename_i hns
  obtain⟨ts,es,h1,h2,h3⟩:=uv hh hx hk
  have h4:∀s,rd tm' x≠ .st s:=fun s hs=>by
   rw [hs]at hx
   generalize bv tm x=v at hx hk hns
   cases v with
   |a u=>obtain⟨rfl,_⟩:=hx;exact hns _ rfl
   |ls s ts=>rcases hx with⟨es,h,_⟩|⟨_,h|h⟩<;>cases h
   |ri s ts i off=>obtain⟨es,h,_⟩:=hx;cases h
   |ow s ts=>obtain⟨es,h,_⟩:=hx;cases h
   |nz=>rcases hx with h|h<;>cases h
   |ag cs=>obtain⟨es,h,_⟩:=hx;cases h
   |tp cs=>obtain⟨es,h,_⟩:=hx;cases h
   |uk=>simp [iy]at hk
  simp only [Sh.sz]at h1
  simp only [ay,h1,Option.bind_some,MS h2]
  exact OkO.mk hh h3 ⟨rfl,rfl⟩
theorem xm {off:Nat} {sz b i o:Nat} (ha:alive h' b=true):qy h' off (.re sz b i o)=some (.re sz b i (o+off)):=by
 unfold alive at ha
 unfold qy
 cases hb:aU h' b<;>simp_all
theorem aee (ht:RT tm tm') (hh:RH h h') {off:Nat} {x:Opd} (hk:opS (aG ρ) H tm h nx (.fa off x) k=some r):OkO tm' k r (ay tm' h' nx (.fa off x)):=by
 simp only [opS]at hk
 have hx:=bp ht x
 split at hk
 ·rename_i sz b i o ha
  rw [ha]at hx
  split at hk
  ·rename_i hal
   rw [fG hh b]at hal
   simp only [ay,hx.1.symm,xm hal,Option.bind_some]
   exact OkO.mk hh hk ⟨rfl,rfl⟩
  ·cases hk
 ·rename_i s ts i o ha
  rw [ha]at hx
  obtain⟨es,hx',hr⟩:=hx
  simp only [ay,hx',qy,Option.bind_some]
  exact OkO.mk hh hk ⟨es,rfl,hr⟩
 ·cases hk
theorem aef (ht:RT tm tm') (hh:RH h h') {off:Nat} {n:Option Nat} {x:Opd} (hk:opS (aG ρ) H tm h nx (.fd off n x) k=some r):OkO tm' k r (ay tm' h' nx (.fd off n x)):=by
 simp only [opS]at hk
 have hx:=bp ht x
 split at hk
 ·rename_i cs ha
  rw [ha]at hx
  obtain⟨ws,hx',hr⟩:=hx
  split at hk
  ·rename_i v hv
   obtain⟨w,h1,h2⟩:=BR ((hr.drop off).take (n.getD 1)) hv
   simp only [ay,hx',h1,Option.bind_some]
   exact OkO.mk hh hk h2
  ·cases hk
 ·cases hk
theorem aeg (ht:RT tm tm') (hh:RH h h') {arr:Option Nat} {sz:Nat} {x i:Opd} (hk:opS (aG ρ) H tm h nx (.ia arr sz x i) k=some r):OkO tm' k r (ay tm' h' nx (.ia arr sz x i)):=by
 simp only [opS]at hk
 have hx:=bp ht x
 have hi:=bp ht i
 split at hk
 ·split at hk
  ·rename_i z b j o ha
   rw [ha]at hx
   split at hk
   ·rename_i hal
    rw [fG hh b]at hal
    split at hk
    ·obtain⟨q,h1,h2⟩:=Gn hi hk
     simp only [ay,hx.1.symm,h1,Option.bind_some,xm hal]
     exact OkO.mk hh h2 ⟨rfl,rfl⟩
    ·obtain⟨q,h1,h2⟩:=jv hi hk
     simp only [ay,hx.1.symm,h1,Option.bind_some,xm hal]
     exact OkO.mk hh h2 ⟨rfl,rfl⟩
   ·cases hk
  ·cases hk
 ·split at hk
  ·rename_i s ts ha
   rw [ha]at hx
   split at hk
   ·rename_i hsz
    obtain⟨q,h1,h2⟩:=jv hi hk
    rcases hx with⟨es,hx',hr⟩|⟨rfl,_⟩
    ·simp only [ay,hx']
     rw [if_neg (by simp [hsz])]
     rw [hr.length]at h1
     simp only [h1,Option.bind_some]
     exact OkO.mk hh h2 ⟨es,by rw [hsz],hr⟩
    ·exfalso
     unfold ff at h1
     split at h1
     ·simp only [Option.ite_none_right_eq_some]at h1
      have h3:=h1.1.1
      have h4:=h1.1.2
      have h5:(([]:List (aL s)).length:Int)=0:=rfl
      rw [h5]at h4
      omega
     ·cases h1
   ·cases hk
  ·rename_i sz' b lo len ha
   rw [ha]at hx
   split at hk
   ·cases hk
   ·rename_i hc
    obtain⟨q,h1,h2⟩:=jv hi hk
    rw [fG hh b]at hc
    simp only [ay,hx.1.symm]
    rw [if_neg hc]
    simp only [h1,Option.bind_some]
    exact OkO.mk hh h2 ⟨rfl,rfl⟩
  ·cases hk
theorem OQ {cs:List SV} {n:Option Nat} {sz:Nat} {m:Int}:∀{fuel q:Nat},opS.goIx (aG ρ) h nx k sz n cs m q fuel=some r→∃j:Nat,q≤j∧j<q+fuel∧m=j∧∃v,eA ((cs.drop (j*sz)).take sz) n=some v∧k [] v h nx=some r
 |0,q,hk=>by rw [opS.goIx]at hk;cases hk
 |fuel+1,q,hk=>by
  rw [opS.goIx]at hk
  rcases eJ hk with⟨h1,h2⟩|⟨_,h2⟩
  ·split at h2
   ·rename_i v hv
    exact⟨q,Nat.le_refl _,by omega,by simpa using h1,v,hv,h2⟩
   ·cases h2
  ·obtain⟨j,h3,h4,h5,h6⟩:=OQ h2
   exact⟨j,by omega,by omega,h5,h6⟩
theorem aeh (ht:RT tm tm') (hh:RH h h') {len sz:Nat} {n:Option Nat} {x i:Opd} (hk:opS (aG ρ) H tm h nx (.ix len sz n x i) k=some r):OkO tm' k r (ay tm' h' nx (.ix len sz n x i)):=by
 simp only [opS]at hk
 have hx:=bp ht x
 have hi:=bp ht i
 split at hk
 ·rename_i cs ha
  rw [ha]at hx
  obtain⟨ws,hx',hr⟩:=hx
  split at hk
  ·rename_i m hm
   obtain⟨kd,_,hi'⟩:=xl hi hm
   obtain⟨j,h1,h2,h3,v,hv,h4⟩:=OQ hk
   obtain⟨w,h5,h6⟩:=BR ((hr.drop (j*sz)).take sz) hv
   simp only [ay,hx',hi',ff]
   rw [if_pos (by omega)]
   have:m.toNat=j:=by omega
   simp only [this,Option.bind_some,h5]
   exact OkO.mk hh h4 h6
  ·cases hk
 ·cases hk
theorem aei (ht:RT tm tm') (hh:RH h h') {x i:Opd} (hk:opS (aG ρ) H tm h nx (.si x i) k=some r):OkO tm' k r (ay tm' h' nx (.si x i)):=by
 simp only [opS]at hk
 have hx:=bp ht x
 have hi:=bp ht i
 split at hk
 ·rename_i s kd n ha hb
  rw [ha]at hx;rw [hb]at hi
  obtain⟨h0,hk⟩:=gq hk
  simp only [Bool.and_eq_true,decide_eq_true_eq]at h0
  have hl:n.toNat<s.data.toList.length:=by
   have:s.data.toList.length=s.size:=by rw [Array.length_toList];rfl
   omega
  have hg:s.data.toList[n.toNat]? =some (s.data.toList.getD n.toNat 0):=by
   rw [List.getD_eq_getElem?_getD,List.getElem?_eq_getElem hl];rfl
  simp only [ay,hx.1.symm,hi.1.symm,hg]
  rw [if_pos h0.1]
  exact OkO.mk hh hk ⟨rfl,rfl⟩
 ·cases hk
theorem aej (ht:RT tm tm') (hh:RH h h') {x:Opd} {lo hi:Option Opd} (hk:opS (aG ρ) H tm h nx (.ss x lo hi) k=some r):OkO tm' k r (ay tm' h' nx (.ss x lo hi)):=by
 simp only [opS]at hk
 have hx:=bp ht x
 split at hk
 ·rename_i s ha
  rw [ha]at hx
  obtain⟨b,h1,h2⟩:=cI ht hk
  obtain⟨a,h3,h4⟩:=cI ht h2
  simp only [ay,hx.1.symm,h1,h3,Option.bind_some]
  exact OkO.mk hh h4 ⟨rfl,rfl⟩
 ·cases hk
theorem KU {d lo hi:Nat} {o:Option Opd} {n:Nat} (h:bt d tm' lo hi o=some n) (hd:d≤hi):n≤hi:=by
 cases o with
 |none=>simp [bt]at h;omega
 |some x=>
  simp only [bt,ff]at h
  split at h
  ·simp only [Option.ite_none_right_eq_some,Option.some.injEq]at h
   omega
  ·cases h
end
section
variable {ρ:Type} {r:ρ} {h:bN} {h':List (Nat×BK)} {tm:SM} {tm':List (Nat×AV)} {nx:Nat} {g:Cfg} {H:Hint} {k:KV ρ}
theorem xn {o:Option Opd} {d lo hi n:Nat} (h:bt d tm' lo hi o=some n) (hd:d=0) (hh:hi=0):n=0:=by
 have:=KU h (by omega);omega
theorem aek (ht:RT tm tm') (hh:RH h h') {sz:Nat} {x:Opd} {lo hi mx:Option Opd} (hk:opS (aG ρ) H tm h nx (.sc sz x lo hi mx) k=some r):OkO tm' k r (ay tm' h' nx (.sc sz x lo hi mx)):=by
 simp only [opS]at hk
 have hx:=bp ht x
 have nzc:∀{w:AV},(w= .ns∨w= .ez)→rd tm' x=w→∀{v:SV},RV v w→(∃m b a,bt 0 tm' 0 0 mx=some m∧bt 0 tm' 0 0 hi=some b∧bt 0 tm' 0 0 lo=some a)→k [] v h nx=some r→OkO tm' k r (ay tm' h' nx (.sc sz x lo hi mx)):=by
  intro w hw hx' v hv ⟨m,b,a,h1,h2,h3⟩ hk
  rcases hw with rfl|rfl
  ·simp only [ay,hx',h1,h2,h3,Option.bind_some];exact OkO.mk hh hk hv
  ·simp only [ay,hx',h1,h2,h3,Option.bind_some];exact OkO.mk hh hk hv
 split at hk
 ·rename_i ha
  rw [ha]at hx
  obtain⟨m,h1,hk⟩:=cI ht hk
  obtain⟨b,h2,hk⟩:=cI ht hk
  obtain⟨a,h3,hk⟩:=cI ht hk
  exact nzc (.inl rfl) hx.1.symm (v:=.a .ns) ⟨rfl,rfl⟩ ⟨m,b,a,h1,h2,h3⟩ hk
 ·rename_i ha
  rw [ha]at hx
  obtain⟨m,h1,hk⟩:=cI ht hk
  obtain⟨b,h2,hk⟩:=cI ht hk
  obtain⟨a,h3,hk⟩:=cI ht hk
  exact nzc (.inr rfl) hx.1.symm (v:=.a .ez) ⟨rfl,rfl⟩ ⟨m,b,a,h1,h2,h3⟩ hk
 ·rename_i ha
  rw [ha]at hx
  obtain⟨m,h1,hk⟩:=cI ht hk
  obtain⟨b,h2,hk⟩:=cI ht hk
  obtain⟨a,h3,hk⟩:=cI ht hk
  exact nzc hx rfl hx ⟨m,b,a,h1,h2,h3⟩ hk
 ·rename_i s ts ha
  rw [ha]at hx
  split at hk
  ·cases hk
  ·rename_i hsz
   have hsz:s.sz=sz:=by simpa using hsz
   split at hk
   ·rename_i hm
    obtain⟨m,h1,hk⟩:=cI ht hk
    obtain⟨b,h2,hk⟩:=cI ht hk
    obtain⟨a,h3,hk⟩:=cI ht hk
    obtain⟨h4,hk9⟩:=gq hk
    clear hk
    have h4:a=m:=by simpa using h4
    rcases hx with⟨es,hx',hr⟩|⟨rfl,hx'⟩
    ·rw [hr.length]at h1
     simp only [ay,hx']
     rw [if_neg (by simp [hsz]),if_pos hm]
     simp only [h1,h2,h3,Option.bind_some]
     rw [if_pos h4]
     exact OkO.mk hh hk9 (v:=.nz) (.inr rfl)
    ·have hm0:m=0:=xn h1 rfl rfl
     subst hm0
     have hb0:b=0:=xn h2 rfl rfl
     subst hb0
     exact nzc hx' rfl (v:=.nz) hx' ⟨_,_,_,h1,h2,h3⟩ hk9
   ·rename_i hm
    obtain⟨b,h2,hk⟩:=cI ht hk
    obtain⟨a,h3,hk⟩:=cI ht hk
    rcases hx with⟨es,hx',hr⟩|⟨rfl,hx'⟩
    ·rw [hr.length]at h2
     simp only [ay,hx']
     rw [if_neg (by simp [hsz]),if_neg hm]
     simp only [h2,h3,Option.bind_some]
     exact OkO.mk hh hk (.inl ⟨_,by rw [hsz],(hr.drop a).take (b-a)⟩)
    ·have hb0:b=0:=xn h2 rfl rfl
     subst hb0
     have hmx:mx=none:=by cases mx with
      |none=>rfl
      |some _=>simp at hm
     refine nzc hx' rfl (v:=.ls s (([].drop a).take (0-a))) (.inr ⟨by simp,hx'⟩) ⟨0,_,_,by rw [hmx];rfl,h2,h3⟩ hk
 ·rename_i sz' q lo0 len ha
  rw [ha]at hx
  split at hk
  ·cases hk
  ·rename_i hc
   rw [fG hh q]at hc
   split at hk
   ·rename_i hm
    obtain⟨m,h1,hk⟩:=cI ht hk
    obtain⟨b,h2,hk⟩:=cI ht hk
    obtain⟨a,h3,hk⟩:=cI ht hk
    obtain⟨h4,hk⟩:=gq hk
    have h4:a=m:=by simpa using h4
    simp only [ay,hx.1.symm]
    rw [if_neg hc,if_pos hm]
    simp only [h1,h2,h3,Option.bind_some]
    rw [if_pos h4]
    exact OkO.mk hh hk ⟨rfl,rfl⟩
   ·rename_i hm
    obtain⟨b,h2,hk⟩:=cI ht hk
    obtain⟨a,h3,hk⟩:=cI ht hk
    simp only [ay,hx.1.symm]
    rw [if_neg hc,if_neg hm]
    simp only [h2,h3,Option.bind_some]
    exact OkO.mk hh hk ⟨rfl,rfl⟩
 ·cases hk
theorem ael (ht:RT tm tm') (hh:RH h h') {sz bytes:Nat} {z:List AV} {t:TypeId} {l c:Opd} (hk:opS (aG ρ) H tm h nx (.mk sz bytes z t l c) k=some r):OkO tm' k r (ay tm' h' nx (.mk sz bytes z t l c)):=by
 simp only [opS]at hk
 have hl:=bp ht l
 have hc:=bp ht c
 split at hk
 ·rename_i ka a kb b s ha hb hs
  rw [ha]at hl;rw [hb]at hc
  split at hk
  ·rename_i hsz
   split at hk
   ·rename_i d hd
    simp only [Option.bind_eq_some_iff]at hd
    obtain⟨l0,hl0,hd⟩:=hd
    have h1:=eW hd (qT hl0)
    obtain⟨h0,hk⟩:=gq hk
    simp only [Bool.and_eq_true,decide_eq_true_eq]at h0
    simp only [ay,hl.1.symm,hc.1.symm]
    rw [if_pos ⟨h0.1.1.1,h0.1.1.2,h0.1.2,h0.2⟩]
    exact OkO.mk' hk ⟨rfl,rfl⟩ (.cons ⟨rfl,_,by rw [hsz],All2.rep h1 _⟩ hh)
   ·cases hk
  ·cases hk
 ·cases hk
theorem aem (ht:RT tm tm') (hh:RH h h') {f:FuncId} {caps:List Opd} (hk:opS (aG ρ) H tm h nx (.mf f caps) k=some r):OkO tm' k r (ay tm' h' nx (.mf f caps)):=by
 simp only [opS]at hk
 split at hk
 ·rename_i l hl
  have:=yq (uw ht caps) hl
  split at hk
  ·rename_i ha
   simp only [ay,this]
   rw [if_pos ha]
   exact OkO.mk hh hk ⟨rfl,rfl⟩
  ·cases hk
 ·cases hk
theorem aen (ht:RT tm tm') (hh:RH h h') {x:Opd} {i:Nat} (hk:opS (aG ρ) H tm h nx (.ex x i) k=some r):OkO tm' k r (ay tm' h' nx (.ex x i)):=by
 simp only [opS]at hk
 have hx:=bp ht x
 split at hk
 ·rename_i vs ha
  rw [ha]at hx
  obtain⟨ws,hx',hr⟩:=hx
  split at hk
  ·rename_i v hv
   obtain⟨w,h1,h2⟩:=hr.get i v hv
   simp only [ay,hx',h1]
   exact OkO.mk hh hk h2.toV
  ·cases hk
 ·cases hk
theorem aeo (ht:RT tm tm') (hh:RH h h') {kd:Nat} {x:Opd} (hk:opS (aG ρ) H tm h nx (.le kd x) k=some r):OkO tm' k r (ay tm' h' nx (.le kd x)):=by
 simp only [opS]at hk
 split at hk
 ·rename_i n hn
  obtain⟨m,h1,rfl⟩:=Sw hh (bp ht x) hn
  simp only [ay,h1,Option.bind_some]
  exact OkO.mk hh hk ⟨rfl,rfl⟩
 ·cases hk
theorem aep (ht:RT tm tm') (hh:RH h h') {sz bytes:Nat} {t:TypeId} {x y:Opd} (hk:opS (aG ρ) H tm h nx (.ap sz bytes t x y) k=some r):OkO tm' k r (ay tm' h' nx (.ap sz bytes t x y)):=by
 simp only [opS]at hk
 have hx:=bp ht x
 split at hk
 ·rename_i s hs
  split at hk
  ·cases hk
  ·rename_i hsz
   have hsz:s.sz=sz:=by simpa using hsz
   subst hsz
   have hk0:=hk
   obtain⟨a,ea,ha,hra,hk⟩:=uv hh hx hk
   obtain⟨b,eb,hb,hrb,hk⟩:=uv hh (bp ht y) hk
   obtain⟨h0,hk⟩:=gq hk
   simp only [Bool.and_eq_true,decide_eq_true_eq]at h0
   rw [hra.length,hrb.length]at h0
   have hg:(ea.length+eb.length)*bytes≤bh∧ea.length+eb.length≤bh∧eb.flatten.any px=false:=⟨h0.1,h0.2,Ug hrb⟩
   have hemp:b.isEmpty=true↔eb.length=0:=by rw [←hrb.length];simp
   have mkrow:∀{w:AV},(w= .ns∨w= .ez)→rd tm' x=w→∀{v:SV},RV v w→(aG ρ).br b.isEmpty (k [] v h nx) (k [] (.a (.sl s.sz nx 0 b.length)) ((nx,.row s b t)::h) (nx+1))=some r→OkO tm' k r (ay tm' h' nx (.ap s.sz bytes t x y)):=by
    intro w hw hx' v hv hk
    rcases eJ hk with⟨h1,hk⟩|⟨h1,hk⟩
    ·have h2:=hemp.1 h1
     rcases hw with rfl|rfl
     ·simp only [ay,ha,hb,Option.bind_some]
      rw [if_pos hg]
      simp only [hx']
      rw [if_pos h2]
      exact OkO.mk hh hk hv
     ·simp only [ay,ha,hb,Option.bind_some]
      rw [if_pos hg]
      simp only [hx']
      rw [if_pos h2]
      exact OkO.mk hh hk hv
    ·have h2:¬eb.length=0:=fun h3=>by rw [hemp.2 h3]at h1;cases h1
     rcases hw with rfl|rfl
     ·simp only [ay,ha,hb,Option.bind_some]
      rw [if_pos hg]
      simp only [hx']
      rw [if_neg h2]
      exact OkO.mk' hk ⟨by rw [hrb.length],rfl⟩ (.cons ⟨rfl,_,rfl,hrb⟩ hh)
     ·simp only [ay,ha,hb,Option.bind_some]
      rw [if_pos hg]
      simp only [hx']
      rw [if_neg h2]
      exact OkO.mk' hk ⟨by rw [hrb.length],rfl⟩ (.cons ⟨rfl,_,rfl,hrb⟩ hh)
   split at hk
   ·rename_i hv
    rw [hv]at hx
    exact mkrow (.inl rfl) hx.1.symm (v:=.a .ns) ⟨rfl,rfl⟩ hk
   ·rename_i hv
    rw [hv]at hx
    exact mkrow hx rfl (v:=.nz) hx hk
   ·rename_i hv
    rw [hv]at hx
    exact mkrow (.inr rfl) hx.1.symm (v:=.a .ez) ⟨rfl,rfl⟩ hk
   ·rename_i sz0 q lo len hv
    rw [hv]at hx hk0
    split at hk
    ·rename_i s' ts t' hq
     simp only [iy,hq]at hk0
     split at hk0
     ·rename_i e
      subst e
      obtain⟨h1,hk⟩:=gq hk
      have h1:lo+len=ts.length:=by simpa using h1
      have hrq:=dv hh q
      rw [hq]at hrq
      obtain⟨es,he,hr⟩:=hrq
      simp only [ay,ha,hb,Option.bind_some]
      rw [if_pos hg]
      simp only [hx.1.symm,he]
      rw [if_pos ⟨trivial,by rw [←hr.length];exact h1⟩]
      exact OkO.mk' hk ⟨by rw [List.length_append,hra.length,hrb.length],rfl⟩ (.cons ⟨rfl,_,rfl,hra.append hrb⟩ (eC hh (x:=.dd) rfl q))
     ·cases hk0
    ·cases hk
   ·cases hk
 ·cases hk
theorem aeq (ht:RT tm tm') (hh:RH h h') {xs:List Opd} (hk:opS (aG ρ) H tm h nx (.mx xs) k=some r):OkO tm' k r (ay tm' h' nx (.mx xs)):=by
 simp only [opS]at hk
 split at hk
 ·rename_i kd a l hl
  have:=yq (uw ht xs) hl
  split at hk
  ·rename_i m hm
   simp only [ay,this,hm,Option.bind_some]
   exact OkO.mk hh hk ⟨rfl,rfl⟩
  ·cases hk
 ·cases hk
theorem aer (ht:RT tm tm') (hh:RH h h') {xs:List Opd} (hk:opS (aG ρ) H tm h nx (.mn xs) k=some r):OkO tm' k r (ay tm' h' nx (.mn xs)):=by
 simp only [opS]at hk
 split at hk
 ·rename_i kd a l hl
  have:=yq (uw ht xs) hl
  split at hk
  ·rename_i m hm
   simp only [ay,this,hm,Option.bind_some]
   exact OkO.mk hh hk ⟨rfl,rfl⟩
  ·cases hk
 ·cases hk
theorem aes (ht:RT tm tm') (hh:RH h h') {t:TypeId} (hk:opS (aG ρ) H tm h nx (.mm t) k=some r):OkO tm' k r (ay tm' h' nx (.mm t)):=by
 simp only [opS]at hk
 simp only [ay]
 refine OkO.mk' hk ⟨rfl,rfl⟩ (.cons ⟨rfl,?_⟩ hh)
 split
 ·exact⟨[],rfl,.nil⟩
 ·exact⟨[],rfl,.nil⟩
 ·rfl
theorem qX {gg:Bool} {s:Sh} {d:aL s} {w:AV} {v:SV} (hr:RG gg s d w) (hv:yl gg (iU s d)=some v):RW v w:=by
 unfold RG at hr
 unfold yl at hv
 cases gg
 ·simp only [Bool.false_eq_true,if_false]at hr hv
  split at hv
  ·rename_i u hu
   simp at hv;subst hv
   have:=hG hr
   rw [hu]at this
   cases this with
   |cons h1 _=>exact h1.toW
  ·cases hv
 ·simp only [if_true]at hr hv
  obtain⟨cs,rfl,hr⟩:=hr
  simp at hv;subst hv
  exact⟨cs,rfl,hG hr⟩
theorem CL {kd:IntKind} {gg:Bool} {s:Sh} {n:Int} {d:aL s}:∀{es:List (Int×aL s)} {l:List (AV×AV)} (i:Nat),All2 (fun(p:Int×aL s) (q:AV×AV)=>q.1= .int kd p.1∧RG gg s p.2 q.2) es l→
  (bT es n=true∧∃j v,cZ (.int kd n) l i=some (some (i+j,v))∧RG gg s (fq d es n) v∧
   (∀(d':aL s) (w:AV),RG gg s d' w→All2 (fun(p:Int×aL s) (q:AV×AV)=>q.1= .int kd p.1∧RG gg s p.2 q.2) (bW es n d') (l.set j (.int kd n,w)))∧
   All2 (fun(p:Int×aL s) (q:AV×AV)=>q.1= .int kd p.1∧RG gg s p.2 q.2) (eB es n) (l.eraseIdx j))∨
  (bT es n=false∧cZ (.int kd n) l i=some none∧fq d es n=d∧
   (∀(d':aL s) (w:AV),RG gg s d' w→All2 (fun(p:Int×aL s) (q:AV×AV)=>q.1= .int kd p.1∧RG gg s p.2 q.2) (bW es n d') (l++ [(.int kd n,w)]))∧
   eB es n=es)
 | [],_,i,h=>by
  cases h
  exact .inr ⟨rfl,rfl,rfl,fun d' w hw=>.cons ⟨rfl,hw⟩ .nil,rfl⟩
 |(a,x)::es,_,i,h=>by
  cases h with
  | @cons _ q _ l h1 h2=>
   obtain⟨qa,qv⟩:=q
   obtain⟨h3,h4⟩:=h1
   simp only at h3 h4
   subst h3
   by_cases hn:(n==a)=true
   ·refine .inl ⟨by simp only [bT,hn,Bool.true_or],0,qv,?_,by simp only [fq,hn,if_true];exact h4,fun d' w hw=> ?_,?_⟩
    ·simp only [cZ,fg,if_true,hn,Nat.add_zero]
    ·simp only [bW,hn,if_true,List.set_cons_zero]
     exact .cons ⟨rfl,hw⟩ h2
    ·simp only [eB,hn,if_true,List.eraseIdx_cons_zero]
     exact h2
   ·have hn:(n==a)=false:=by simpa using hn
    rcases CL (n:=n) (d:=d) (i+1) h2 with⟨h5,j,v,h6,h7,h8,h9⟩|⟨h5,h6,h7,h8,h9⟩
    ·refine .inl ⟨by simp only [bT,hn,h5,Bool.false_or],j+1,v,?_,by simp only [fq,hn,Bool.false_eq_true,if_false];exact h7,fun d' w hw=> ?_,?_⟩
     ·simp only [cZ,fg,if_true,hn];rw [h6];congr 3;omega
     ·simp only [bW,hn,Bool.false_eq_true,if_false,List.set_cons_succ]
      exact .cons ⟨rfl,h4⟩ (h8 d' w hw)
     ·simp only [eB,hn,Bool.false_eq_true,if_false,List.eraseIdx_cons_succ]
      exact .cons ⟨rfl,h4⟩ h9
    ·refine .inr ⟨by simp only [bT,hn,h5,Bool.false_or],?_,by simp only [fq,hn,Bool.false_eq_true,if_false];exact h7,fun d' w hw=> ?_,by simp only [eB,hn,Bool.false_eq_true,if_false,h9]⟩
     ·simp only [cZ,fg,if_true,hn];exact h6
     ·simp only [bW,hn,Bool.false_eq_true,if_false,List.cons_append]
      exact .cons ⟨rfl,h4⟩ (h8 d' w hw)
theorem CM {gg:Bool} {s:Sh} {n:ByteArray} {d:aL s}:∀{es:List (ByteArray×aL s)} {l:List (AV×AV)} (i:Nat),All2 (fun(p:ByteArray×aL s) (q:AV×AV)=>q.1= .st p.1∧RG gg s p.2 q.2) es l→
  (bT es n=true∧∃j v,cZ (.st n) l i=some (some (i+j,v))∧RG gg s (fq d es n) v∧
   (∀(d':aL s) (w:AV),RG gg s d' w→All2 (fun(p:ByteArray×aL s) (q:AV×AV)=>q.1= .st p.1∧RG gg s p.2 q.2) (bW es n d') (l.set j (.st n,w)))∧
   All2 (fun(p:ByteArray×aL s) (q:AV×AV)=>q.1= .st p.1∧RG gg s p.2 q.2) (eB es n) (l.eraseIdx j))∨
  (bT es n=false∧cZ (.st n) l i=some none∧fq d es n=d∧
   (∀(d':aL s) (w:AV),RG gg s d' w→All2 (fun(p:ByteArray×aL s) (q:AV×AV)=>q.1= .st p.1∧RG gg s p.2 q.2) (bW es n d') (l++ [(.st n,w)]))∧
   eB es n=es)
 | [],_,i,h=>by
  cases h
  exact .inr ⟨rfl,rfl,rfl,fun d' w hw=>.cons ⟨rfl,hw⟩ .nil,rfl⟩
 |(a,x)::es,_,i,h=>by
  cases h with
  | @cons _ q _ l h1 h2=>
   obtain⟨qa,qv⟩:=q
   obtain⟨h3,h4⟩:=h1
   simp only at h3 h4
   subst h3
   by_cases hn:(n==a)=true
   ·refine .inl ⟨by simp only [bT,hn,Bool.true_or],0,qv,?_,by simp only [fq,hn,if_true];exact h4,fun d' w hw=> ?_,?_⟩
    ·simp only [cZ,fg,hn,Nat.add_zero]
    ·simp only [bW,hn,if_true,List.set_cons_zero]
     exact .cons ⟨rfl,hw⟩ h2
    ·simp only [eB,hn,if_true,List.eraseIdx_cons_zero]
     exact h2
   ·have hn:(n==a)=false:=by simpa using hn
    rcases CM (n:=n) (d:=d) (i+1) h2 with⟨h5,j,v,h6,h7,h8,h9⟩|⟨h5,h6,h7,h8,h9⟩
    ·refine .inl ⟨by simp only [bT,hn,h5,Bool.false_or],j+1,v,?_,by simp only [fq,hn,Bool.false_eq_true,if_false];exact h7,fun d' w hw=> ?_,?_⟩
     ·simp only [cZ,fg,hn];rw [h6];congr 3;omega
     ·simp only [bW,hn,Bool.false_eq_true,if_false,List.set_cons_succ]
      exact .cons ⟨rfl,h4⟩ (h8 d' w hw)
     ·simp only [eB,hn,Bool.false_eq_true,if_false,List.eraseIdx_cons_succ]
      exact .cons ⟨rfl,h4⟩ h9
    ·refine .inr ⟨by simp only [bT,hn,h5,Bool.false_or],?_,by simp only [fq,hn,Bool.false_eq_true,if_false];exact h7,fun d' w hw=> ?_,by simp only [eB,hn,Bool.false_eq_true,if_false,h9]⟩
     ·simp only [cZ,fg,hn];exact h6
     ·simp only [bW,hn,Bool.false_eq_true,if_false,List.cons_append]
      exact .cons ⟨rfl,h4⟩ (h8 d' w hw)
theorem CN {gg:Bool} {s:Sh} {d:aL s} {v:SV} {w:AV} {cs:List SV} (hv:RV v w) (hc:bI v=some cs) (hd:dq s cs=some d) (hg:lI v=gg):RG gg s d w∧Dr w=true:=by
  obtain⟨ws,hw,hr⟩:=iB hv hc
  have h1:=eW hd hr
  have hok:∀{s:Sh} {d:aL s} {ws:List AV},RE s d ws→ws.all Dq=true:=by
    intro s
    induction s with
    |i _=>intro d ws h;cases h;rfl
    |b=>intro d ws h;cases h;rfl
    |s=>intro d ws h;cases h;rfl
    |row e _=>intro d ws h;obtain⟨w,rfl,⟨es,rfl,_⟩|⟨_,rfl|rfl⟩⟩:=h<;>rfl
    |nil=>intro d ws h;cases h;rfl
    |cons a b iha ihb=>intro d ws h;obtain⟨c1,c2,rfl,h1,h2⟩:=h;rw [List.all_append,iha h1,ihb h2];rfl
  have h2:=hok h1
  cases v with
  |ag us=>
    obtain⟨us',rfl,_⟩:=hv
    simp [cellsOf]at hw;subst hw
    simp only [lI]at hg;subst hg
    exact⟨⟨us',rfl,h1⟩,h2⟩
  |tp us=>simp [bI]at hc
  |uk=>simp [bI]at hc
  |ow _ _=>simp [bI]at hc
  |a u=>
    have hsh:=dC (v:=.a u) hv
    simp only [lI]at hg;subst hg
    obtain⟨rfl,hcell⟩:=hv
    have hw2:ws= [u]:=by cases u<;>first|(simp [cellsOf]at hw;done)|(simp [cellsOf]at hw;exact hw.symm)|(simp [lX]at hcell)
    subst hw2
    refine⟨h1,?_⟩
    simp only [List.all_cons,List.all_nil,Bool.and_true]at h2
    cases u<;>first|exact h2|exact absurd rfl (hsh.1 _)
  | ls s0 ts=>
    have hsh:=dC (v:=.ls s0 ts) hv
    simp only [lI]at hg;subst hg
    rcases hv with⟨es,rfl,_⟩|⟨_,rfl|rfl⟩<;>(simp [cellsOf]at hw;subst hw;exact⟨h1,rfl⟩)
  |ri s0 ts i off=>
    simp only [lI]at hg;subst hg
    obtain⟨es,rfl,_⟩:=hv
    simp [cellsOf]at hw;subst hw;exact⟨h1,rfl⟩
  |nz=>
    simp only [lI]at hg;subst hg
    rcases hv with rfl|rfl<;>(simp [cellsOf]at hw;subst hw;exact⟨h1,rfl⟩)
theorem BT {z:AV} {cs:List SV} (h:bI (nG z)=some cs):lI (nG z)=HZ z:=by
 cases z<;>first|rfl|skip
 rename_i l
 show lI (match zS l with
  |some l=>SV.ag l
  |none=>SV.uk)=true
 have h':bI (match zS l with
  |some l=>SV.ag l
  |none=>SV.uk)=some cs:=h
 cases hz:zS l with
 |some _=>rfl
 |none=>rw [hz]at h';simp [bI]at h'
theorem qf (hh:RH h h') {ok has:Bool} {v:SV} {w:AV} (hv:RW v w) (hk:k [] (if ok=true then .tp [v,.a (.bl has)]else v) h nx=some r):OkO tm' k r (one h' nx (if ok=true then .tp [w,.bl has]else w)):=by
 cases ok
 ·simp only [Bool.false_eq_true,if_false]at hk⊢
  exact OkO.mk hh hk hv.toV
 ·simp only [if_true]at hk⊢
  exact OkO.mk hh hk ⟨_,rfl,.cons hv (.cons ⟨rfl,rfl⟩ .nil)⟩
theorem Af {x:AV} {kk:AV→Option ρ} {d:Option ρ}:∀{es:List (AV×AV)} (i:Nat),uh (aG ρ) x es kk d=some r→(∃j v,cZ x es i=some (some (j,v))∧kk v=some r)∨(cZ x es i=some none∧d=some r)
 | [],i,h=>.inr ⟨rfl,h⟩
 |(a,v)::es,i,h=>by
  simp only [uh]at h
  split at h
  ·split at h
   ·rename_i hkk
    subst hkk
    rcases eJ h with⟨h1,h2⟩|⟨h1,h2⟩
    ·exact .inl ⟨i,v,by simp only [cZ,fg,if_true,h1],h2⟩
    ·rcases Af (i+1) h2 with⟨j,v',h3,h4⟩|⟨h3,h4⟩
     ·exact .inl ⟨j,v',by simp only [cZ,fg,if_true,h1];exact h3,h4⟩
     ·exact .inr ⟨by simp only [cZ,fg,if_true,h1];exact h3,h4⟩
   ·cases h
  ·rcases eJ h with⟨h1,h2⟩|⟨h1,h2⟩
   ·exact .inl ⟨i,v,by simp only [cZ,fg,h1],h2⟩
   ·rcases Af (i+1) h2 with⟨j,v',h3,h4⟩|⟨h3,h4⟩
    ·exact .inl ⟨j,v',by simp only [cZ,fg,h1];exact h3,h4⟩
    ·exact .inr ⟨by simp only [cZ,fg,h1];exact h3,h4⟩
  ·cases h
theorem aet (ht:RT tm tm') (hh:RH h h') {st:Bool} {z:AV} {ok:Bool} {x i:Opd} (hk:opS (aG ρ) H tm h nx (.lk st z ok x i) k=some r):OkO tm' k r (ay tm' h' nx (.lk st z ok x i)):=by
 simp only [opS]at hk
 have hx:=bp ht x
 have hi:=bp ht i
 split at hk
 ·rename_i b ha
  rw [ha]at hx
  have hrb:=dv hh b
  split at hk
  ·rename_i kd gg s es hb
   rw [hb]at hrb
   obtain⟨l,he,hr⟩:=hrb
   split at hk
   ·rename_i kd' n d hn hd
    rw [hn]at hi
    simp only [Option.bind_eq_some_iff]at hd
    obtain⟨cs,hcs,hd⟩:=hd
    split at hk
    ·rename_i hc
     obtain⟨rfl,hg,rfl⟩:=hc
     have hz:=(CN (wb z) hcs hd (by rw [BT hcs,hg])).1
     split at hk
     ·rename_i v hv
      simp only [ay,hi.1.symm,hx.1.symm,he,gl,if_true]
      rcases CL (n:=n) (d:=d) 0 hr with⟨h5,j,w,h6,h7,_⟩|⟨h5,h6,h7,_⟩
      ·simp only [h6]
       rw [h5]at hk
       exact qf hh (qX h7 hv) hk
      ·simp only [h6]
       rw [h5]at hk
       rw [h7]at hv
       exact qf hh (qX hz hv) hk
     ·cases hk
    ·cases hk
   ·cases hk
  ·rename_i gg s es hb
   rw [hb]at hrb
   obtain⟨l,he,hr⟩:=hrb
   split at hk
   ·rename_i n d hn hd
    rw [hn]at hi
    simp only [Option.bind_eq_some_iff]at hd
    obtain⟨cs,hcs,hd⟩:=hd
    split at hk
    ·rename_i hc
     obtain⟨hg,rfl⟩:=hc
     have hz:=(CN (wb z) hcs hd (by rw [BT hcs,hg])).1
     split at hk
     ·rename_i v hv
      simp only [ay,hi.1.symm,hx.1.symm,he,gl,if_true]
      rcases CM (n:=n) (d:=d) 0 hr with⟨h5,j,w,h6,h7,_⟩|⟨h5,h6,h7,_⟩
      ·simp only [h6]
       rw [h5]at hk
       exact qf hh (qX h7 hv) hk
      ·simp only [h6]
       rw [h5]at hk
       rw [h7]at hv
       exact qf hh (qX hz hv) hk
     ·cases hk
    ·cases hk
   ·cases hk
  ·rename_i es hb
   rw [hb]at hrb
   have he:aU h' b= .mp es:=hrb
   split at hk
   ·rename_i v hv
    rw [hv]at hi
    split at hk
    ·rename_i hc
     simp only [ay,hi.1.symm,hx.1.symm,he]
     rw [if_pos hc.1]
     rcases Af 0 hk with⟨j,w,h3,h4⟩|⟨h3,h4⟩
     ·split at h4
      ·rename_i hcell
       simp only [h3]
       exact qf hh (v:=.a w) ⟨rfl,hcell⟩ h4
      ·cases h4
     ·simp only [h3]
      exact qf hh (v:=.a z) ⟨rfl,hc.2⟩ h4
    ·cases hk
   ·cases hk
  ·cases hk
 ·cases hk
theorem aeu (ht:RT tm tm') (hh:RH h h') {st:Bool} {x y v:Opd} (hk:opS (aG ρ) H tm h nx (.mu st x y v) k=some r):OkO tm' k r (ay tm' h' nx (.mu st x y v)):=by
 simp only [opS]at hk
 have hx:=bp ht x
 have hy:=bp ht y
 have hv:=bp ht v
 split at hk
 ·rename_i b ha
  rw [ha]at hx
  have hrb:=dv hh b
  split at hk
  ·rename_i kd gg s es hb
   rw [hb]at hrb
   obtain⟨l,he,hr⟩:=hrb
   split at hk
   ·rename_i kd' n d hn hd
    rw [hn]at hy
    simp only [Option.bind_eq_some_iff]at hd
    obtain⟨cs,hcs,hd⟩:=hd
    split at hk
    ·rename_i hc
     obtain⟨rfl,hg,rfl⟩:=hc
     obtain⟨hz,hok⟩:=CN hv hcs hd hg
     simp only [ay,hy.1.symm,hx.1.symm,he,gl,hok,Bool.and_self,if_true]
     rcases CL (n:=n) (d:=d) 0 hr with⟨h5,j,w,h6,h7,h8,_⟩|⟨h5,h6,h7,h8,_⟩
     ·simp only [h6,Nat.zero_add]
      exact OkO.mk' hk ⟨rfl,rfl⟩ (eC hh (x:=.mi kd' gg s (bW es n d)) ⟨_,rfl,h8 d _ hz⟩ b)
     ·simp only [h6]
      exact OkO.mk' hk ⟨rfl,rfl⟩ (eC hh (x:=.mi kd' gg s (bW es n d)) ⟨_,rfl,h8 d _ hz⟩ b)
    ·cases hk
   ·cases hk
  ·rename_i gg s es hb
   rw [hb]at hrb
   obtain⟨l,he,hr⟩:=hrb
   split at hk
   ·rename_i n d hn hd
    rw [hn]at hy
    simp only [Option.bind_eq_some_iff]at hd
    obtain⟨cs,hcs,hd⟩:=hd
    split at hk
    ·rename_i hc
     obtain⟨hg,rfl⟩:=hc
     obtain⟨hz,hok⟩:=CN hv hcs hd hg
     simp only [ay,hy.1.symm,hx.1.symm,he,gl,hok,Bool.and_self,if_true]
     rcases CM (n:=n) (d:=d) 0 hr with⟨h5,j,w,h6,h7,h8,_⟩|⟨h5,h6,h7,h8,_⟩
     ·simp only [h6,Nat.zero_add]
      exact OkO.mk' hk ⟨rfl,rfl⟩ (eC hh (x:=.ms gg s (bW es n d)) ⟨_,rfl,h8 d _ hz⟩ b)
     ·simp only [h6]
      exact OkO.mk' hk ⟨rfl,rfl⟩ (eC hh (x:=.ms gg s (bW es n d)) ⟨_,rfl,h8 d _ hz⟩ b)
    ·cases hk
   ·cases hk
  ·rename_i es hb
   rw [hb]at hrb
   have he:aU h' b= .mp es:=hrb
   split at hk
   ·rename_i y' v' hy' hv'
    rw [hy']at hy;rw [hv']at hv
    split at hk
    ·rename_i hc
     simp only [ay,hy.1.symm,hv.1.symm,hx.1.symm,he,hc.1,hc.2,Bool.and_self,if_true]
     split at hk
     ·rename_i i w hf
      simp only [hf]
      exact OkO.mk' hk ⟨rfl,rfl⟩ (eC hh (x:=.ml _) rfl b)
     ·rename_i hf
      simp only [hf]
      exact OkO.mk' hk ⟨rfl,rfl⟩ (eC hh (x:=.ml _) rfl b)
     ·cases hk
    ·cases hk
   ·cases hk
  ·cases hk
 ·cases hk
theorem GJ {h:bN} {h':List (Nat×BK)} (hh:RH h h') {b:Nat} {x:SB} (hx:dh h b=x) (hd:x≠ .dd):RH (fF h b x) h':=by
 induction hh with
 |nil=>subst hx;exact absurd rfl hd
 | @cons p q _ _ h1 h4 ih=>
  obtain⟨k,y⟩:=p
  simp only [fF]
  simp only [dh]at hx
  split
  ·rename_i hkb
   rw [if_pos hkb]at hx
   subst hx
   exact .cons ⟨by rw [←hkb];exact h1.1,h1.2⟩ h4
  ·rename_i hkb
   rw [if_neg hkb]at hx
   exact .cons h1 (ih hx)
theorem aev (ht:RT tm tm') (hh:RH h h') {st:Bool} {x y:Opd} (hk:opS (aG ρ) H tm h nx (.de st x y) k=some r):OkO tm' k r (ay tm' h' nx (.de st x y)):=by
 simp only [opS]at hk
 have hx:=bp ht x
 have hy:=bp ht y
 split at hk
 ·rename_i b ha
  rw [ha]at hx
  have hrb:=dv hh b
  split at hk
  ·rename_i kd gg s es hb
   rw [hb]at hrb
   obtain⟨l,he,hr⟩:=hrb
   split at hk
   ·rename_i kd' n hn
    rw [hn]at hy
    split at hk
    ·rename_i hc
     obtain⟨rfl,rfl⟩:=hc
     simp only [ay,hy.1.symm,hx.1.symm,he,gl,if_true]
     rcases CL (n:=n) (d:=aa s) 0 hr with⟨h5,j,w,h6,h7,_,h9⟩|⟨h5,h6,h7,_,h9⟩
     ·simp only [h6,Nat.zero_add]
      exact OkO.mk' hk ⟨[],rfl,.nil⟩ (eC hh (x:=.mi kd' gg s (eB es n)) ⟨_,rfl,h9⟩ b)
     ·simp only [h6]
      rw [h9]at hk
      exact OkO.mk' hk ⟨[],rfl,.nil⟩ (GJ hh hb (by simp))
    ·cases hk
   ·cases hk
  ·rename_i gg s es hb
   rw [hb]at hrb
   obtain⟨l,he,hr⟩:=hrb
   split at hk
   ·rename_i n hn
    rw [hn]at hy
    split at hk
    ·rename_i hc
     subst hc
     simp only [ay,hy.1.symm,hx.1.symm,he,gl,if_true]
     rcases CM (n:=n) (d:=aa s) 0 hr with⟨h5,j,w,h6,h7,_,h9⟩|⟨h5,h6,h7,_,h9⟩
     ·simp only [h6,Nat.zero_add]
      exact OkO.mk' hk ⟨[],rfl,.nil⟩ (eC hh (x:=.ms gg s (eB es n)) ⟨_,rfl,h9⟩ b)
     ·simp only [h6]
      rw [h9]at hk
      exact OkO.mk' hk ⟨[],rfl,.nil⟩ (GJ hh hb (by simp))
    ·cases hk
   ·cases hk
  ·cases hk
 ·cases hk
theorem Uh (ht:RT tm tm') (hh:RH h h') {op:COp} (hk:opS (aG ρ) H tm h nx op k=some r):OkO tm' k r (ay tm' h' nx op):=by
 cases op with
 |mv _=>exact adX ht hh hk
 |pk _ _ _=>exact adY ht hh hk
 |al _ _=>exact adZ ht hh hk
 |bx _ _=>exact ad0 ht hh hk
 |bd _ _=>exact ad1 ht hh hk
 |bs _ _ _ _ _=>exact ad2 ht hh hk
 |ld _ _=>exact ad3 ht hh hk
 |sr _ _ _=>exact ad4 ht hh hk
 |nc _=>exact ad5 ht hh hk
 |bn _ _ _=>exact ad6 ht hh hk
 |ea _ _ _ _=>exact ad7 ht hh hk
 |eb _ _ _=>exact ad8 ht hh hk
 |nq _ _ _=>exact ad9 ht hh hk
 |un _ _=>exact aea ht hh hk
 |ci _ _=>exact aeb ht hh hk
 |cs _ _=>exact aec ht hh hk
 |cv1 _=>exact abc ht hh hk
 |cb _=>exact aed ht hh hk
 |fa _ _=>exact aee ht hh hk
 |fd _ _ _=>exact aef ht hh hk
 |ia _ _ _ _=>exact aeg ht hh hk
 |ix _ _ _ _ _=>exact aeh ht hh hk
 |si _ _=>exact aei ht hh hk
 |ss _ _ _=>exact aej ht hh hk
 |sc _ _ _ _ _=>exact aek ht hh hk
 |mk _ _ _ _ _ _=>exact ael ht hh hk
 |mf _ _=>exact aem ht hh hk
 |ex _ _=>exact aen ht hh hk
 |le _ _=>exact aeo ht hh hk
 |ap _ _ _ _ _=>exact aep ht hh hk
 |mx _=>exact aeq ht hh hk
 |mn _=>exact aer ht hh hk
 |mm _=>exact aes ht hh hk
 |lk _ _ _ _ _=>exact aet ht hh hk
 |mu _ _ _ _=>exact aeu ht hh hk
 |de _ _ _=>exact aev ht hh hk
 |cf _ _=>simp [opS]at hk
 |cv _ _=>simp [opS]at hk
 |cp _ _ _=>simp [opS]at hk
 |bad=>simp [opS]at hk
end
end Go.Am
