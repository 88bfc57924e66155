import Derived.Test.YtbkjflfbgknagaaGreatAmB
import Derived.Below
namespace Go.Am
open Go.RowKit
theorem aax {P:Program} {f:FuncId} {b:Bool} (h:fE P f [] (.bl b)) (W:World):
  Calls P f #[] W fun e W'=>e= .returned (.bool b)∧Below W.heap.size W W':=by
 refine(h (fun _=>False) W #[] (fun _ h=>h.elim) .nil).mono fun e W' he=> ?_
 cases e with
 |returned v=>
  obtain⟨I',h1,h2,h3,h4,h5,h6,h7,h8,_⟩:=he
  obtain⟨Mn,_,_,_,hr⟩:=h8 0
  have hr':Rp I' Mn W' (.bl b) v:=hr
  cases hr'
  exact⟨rfl,h1,h2,h3,h4,h5⟩
 |panicked c=>exact he.elim
 |outgrown=>exact he.elim
def find:List (Nat×CF)→Nat→Option CF
 | [],_=>none
 |(k,c)::l,n=>if k=n then some c else find l n
def bi (P:Program):List (Nat×CF)→Prop
 | []=>True
 |(k,c)::l=>(∃fn live,P.funcs[k]? =some fn∧aA P live fn=some c)∧bi P l
theorem oS {P:Program}:∀{l:List (Nat×CF)} {n:Nat} {c:CF},bi P l→find l n=some c→∃fn live,P.funcs[n]? =some fn∧aA P live fn=some c
 | [],_,_,_,h=>by simp [find]at h
 |(k,c0)::l,n,c,ht,h=>by
  simp only [find]at h
  split at h
  ·rename_i hk;subst hk;injection h with h;subst h;exact ht.1
  ·exact oS ht.2 h
theorem adk {P:Program} {g:Cfg} {l:List (Nat×CF)} (ht:bi P l) (hc:g.code=find l) (he:g.ext=fun _ _=>none) (hw:g.wr=fun _ _ _ _=>none:=by rfl):CfgOk P g:=
 ⟨fun f c h=>oS ht (by rw [←hc];exact h),fun f as r h=>by rw [he]at h;simp at h,fun f as h nx e h1=>by rw [hw]at h1;simp at h1⟩
theorem HZ {P:Program} {g:Cfg} (hm:P.follows .mixedOrders=true) (hg:CfgOk P g) {k:Nat} {f:FuncId} {as:List AV} {r:AV} (h:Cw g k f as=some r):mA P f∧fE P f as r:=
 xm hg (Ec hm hg k) h
def told (l:List Nat):FuncId→List AV→Option AV:=fun f as=>match as with
 | []=>if l.contains f then some (.bl true)else none
 |_=>none
theorem aa3 {P:Program} {g:Cfg} {l:List (Nat×CF)} {fs:List Nat} (ht:bi P l) (hc:g.code=find l) (he:g.ext=told fs) (hf:∀f∈fs,mA P f∧fE P f [] (.bl true)) (hw:g.wr=fun _ _ _ _=>none:=by rfl):CfgOk P g:=
 ⟨fun f c h=>oS ht (by rw [←hc];exact h),fun f as r h=>by
  rw [he]at h
  cases as with
  |cons a as=>simp [told]at h
  |nil=>
   simp only [told,Option.ite_none_right_eq_some,Option.some.injEq]at h
   obtain⟨hm,rfl⟩:=h
   exact hf f (by simpa using hm),fun f as h nx e h1=>by rw [hw]at h1;simp at h1⟩
def bh (l:List (List Nat)) (n:Nat):List Nat:=l.getD n []
end Go.Am
set_option linter.constructorNameAsVariable false
set_option linter.unusedVariables false
namespace Go.Am
inductive Sh where
 |i (k:IntKind)
 |b
 |s
 |row (e:Sh)
 |nil
 |cons (a b:Sh)
 deriving DecidableEq,Inhabited
@[reducible] def aN:Sh→Type
  | .i _=>Int
  | .b=>Bool
  | .s=>ByteArray
  | .row e=>List (aN e)
  | .nil=>Unit
  | .cons a b=>aN a×aN b
def Sh.sz:Sh→Nat
 | .nil=>0
 | .cons x y=>x.sz+y.sz
 |_=>1
def aa:(s:Sh)→aN s
 | .i _=>(0:Int)
 | .b=>false
 | .s=>ByteArray.empty
 | .row _=>[]
 | .nil=>()
 | .cons a b=>(aa a,aa b)
inductive SV where
 |a (v:AV)
 |ls (s:Sh) (ts:List (aN s))
 |ri (s:Sh) (ts:List (aN s)) (i off:Nat)
 |ow (s:Sh) (ts:List (aN s))
 |ag (cs:List SV)
 |tp (vs:List SV)
 |nz
 |uk
def iA:(s:Sh)→aN s→List SV
 | .i k,n=>[.a (.int k n)]
 | .b,b=>[.a (.bl b)]
 | .s,s=>[.a (.st s)]
 | .row e,ts=>[.ls e ts]
 | .nil,_=>[]
 | .cons a b,x=>iA a x.1++iA b x.2
def gu:(s:Sh)→List SV→Option (aN s×List SV)
 | .i k,cs=>match cs with
  | .a (.int k' n)::cs=>if k'=k then some (n,cs)else none
  |_=>none
 | .b,cs=>match cs with
  | .a (.bl b)::cs=>some (b,cs)
  |_=>none
 | .s,cs=>match cs with
  | .a (.st s)::cs=>some (s,cs)
  |_=>none
 | .row e,cs=>match cs with
  | .ls e' ts::cs=>if h:e'=e then some (h▸ts,cs)else none
  | .a .ns::cs=>some ([],cs)
  | .a .ez::cs=>some ([],cs)
  | .nz::cs=>some ([],cs)
  |_=>none
 | .nil,cs=>some ((),cs)
 | .cons a b,cs=>(gu a cs).bind fun p=>(gu b p.2).bind fun q=>some ((p.1,q.1),q.2)
def cX (s:Sh) (cs:List SV):Option (aN s):=(gu s cs).bind fun p=>match p.2 with
 | []=>some p.1
 |_=>none
inductive SB where
 |vr (sz:Nat) (cs:List SV) (t:TypeId)
 |row (s:Sh) (ts:List (aN s)) (t:TypeId)
 |ar (s:Sh) (ts:List (aN s)) (t:TypeId)
 |mi (k:IntKind) (g:Bool) (s:Sh) (es:List (Int×aN s))
 |ms (g:Bool) (s:Sh) (es:List (ByteArray×aN s))
 |ml (es:List (AV×AV))
 |dd
abbrev SM:=List (Nat×SV)
abbrev bM:=List (Nat×SB)
structure SS where
 tm:SM
 h:bM
 nx:Nat
 bs:Nat
structure Nodes (ρ:Type) where
 br:Bool→Option ρ→Option ρ→Option ρ
 cl:{Y:Type}→Option Y→(Y→Option ρ)→Option ρ
 uk:List Nat→CC→SS→Option ρ
 sm:{A B:Type}→A⊕B→(A→Option ρ)→(B→Option ρ)→Option ρ
 sp:Int→Option ρ→(Nat→Option ρ)→Option ρ
def df {ρ:Type} (n:Int) (a:Option ρ) (b:Nat→Option ρ):Option ρ:=match n with
 | .ofNat 0=>a
 | .ofNat (j+1)=>b j
 | .negSucc _=>none
def aI (ρ:Type):Nodes ρ:={br:=fun b x y=>bif b then x else y,cl:=fun o k=>o.bind k,uk:=fun _ _ _=>none,sm:=fun x f g=>match x with| .inl a=>f a| .inr b=>g b,sp:=df}
def gj:Nat:=1000000
def lS:Nat:=999999
def bA:SM→Nat→SV
 | [],_=>.a .ud
 |(k,v)::l,n=>if k=n then v else if k=lS then .uk else bA l n
def cJ:SV→Bool
 | .uk=>true
 |_=>false
def cU:bM→Nat→SB
 | [],_=>.dd
 |(k,v)::l,n=>if k=n then v else cU l n
def lJ:AV→Bool
 | .ag _| .tp _| .ow .. =>false
 |_=>true
def zS (z:List AV):Option (List SV):=if z.all lJ then some (z.map .a)else none
def nA:AV→SV
 | .ag cs=>match zS cs with
  |some l=>.ag l
  |none=>.uk
 | .tp _| .ow .. =>.uk
 |v=>.a v
def bz (tm:SM):Opd→SV
 | .t n=>bA tm n
 | .c v=>nA v
def rm:SV→List Nat
 | .a v=>cI v
 |_=>[]
def Cz:SV→List Nat
 | .ag cs=>cs.flatMap rm
 |v=>rm v
def dE:SV→List Nat
 | .tp vs=>vs.flatMap Cz
 |v=>Cz v
def OO:SV→AV
 | .a v=>v
 |_=>.ns
def vW:SB→BK
 | .vr sz cs t=>.rw true sz [cs.map OO] t
 | .row _ _ t=>.rw false 0 [] t
 | .ar _ _ t=>.rw true 0 [] t
 | .mi .. | .ms .. | .ml .. =>.mp []
 | .dd=>.dd
def jX (h:bM):List (Nat×BK):=h.map fun p=>(p.1,vW p.2)
def fw:bM→Nat→SB→bM
 | [],n,v=>[(n,v)]
 |(k,w)::l,n,v=>if k=n then(n,v)::l else(k,w)::fw l n v
def mL:bM→List Nat→bM
 |h,[]=>h
 |h,b::bs=>fw (mL h bs) b .dd
def ic (h:bM) (b:Nat):Bool:=match cU h b with
 | .dd=>false
 |_=>true
def bH:SV→Option (List SV)
 | .ag cs=>some cs
 | .tp _| .uk=>none
 | .a v=>match v with
  | .ag _| .tp _| .ud| .ow .. =>none
  |_=>some [.a v]
 | .ow .. =>none
 |v=>some [v]
def Ia:SV→Bool
 | .a .ud=>true
 |_=>false
def mT (cs new:List SV) (off:Nat):List SV:=cs.take off++new++cs.drop (off+new.length)
def lK (z:List SV) (tm:SM):List (Nat×Nat×Opd)→Option (List SV)
 | []=>some z
 |(off,n,x)::ps=>match bH (bz tm x)with
  |some cs=>if cs.length=n∧off+n≤z.length then lK (mT z cs off) tm ps else none
  |none=>none
def dV (cs:List SV) (n:Option Nat):Option SV:=
 match n with
 |some _=>some (.ag cs)
 |none=>match cs with
  | [v]=>some v
  |_=>none
def Ib (p:Nat→Bool) (r:Nat→Nat):SV→SV
 | .a v=>.a (iP p r v)
 | .ow .. =>.a .ud
 |v=>v
def Nk (p:Nat→Bool) (r:Nat→Nat):SV→SV
 | .ag cs=>.ag (cs.map (Ib p r))
 |v=>Ib p r v
def nB (p:Nat→Bool) (r:Nat→Nat):SV→SV
 | .tp vs=>.tp (vs.map (Nk p r))
 |v=>Nk p r v
def ro (p:Nat→Bool) (r:Nat→Nat):SB→SB
 | .vr sz cs t=>.vr sz (cs.map (Ib p r)) t
 |b=>b
def Nl (f:Nat→SB):Nat→List Nat→bM
 |_,[]=>[]
 |n,b::l=>(n,f b)::Nl f (n+1) l
def iX (live:List Nat) (S:SS):SS:=
 let old:=S.h.filter fun p=>p.1<S.bs
 let m:=gh (jX S.h) S.bs 4096 (live.flatMap (fun t=>dE (bA S.tm t))++(jX old).flatMap fun p=>ef p.2) []
 let p:Nat→Bool:=fun b=>decide (b<S.bs)||m.contains b
 let r:Nat→Nat:=fun b=>if b<S.bs then b else vQ m b S.bs
 {tm:=live.map fun t=>(t,if gj≤t then .a .ud else nB p r (bA S.tm t)),h:=old.map (fun q=>(q.1,ro p r q.2))++Nl (fun b=>ro p r (cU S.h b)) S.bs m,nx:=S.bs+m.length,bs:=S.bs}
def vX (h:bM) (U A:List Nat):bM:=A.map fun b=>(b,ro (U.contains ·) id (cU h b))
def CA (tm:SM) (U:List Nat) (ts:List Nat):SM:=ts.map fun t=>(t,nB (U.contains ·) id (bA tm t))
def vY (h:bM) (f:Nat→SB):List Nat→bM
 | []=>h
 |b::l=>fw (vY h f l) b (f b)
structure Hint where
 sh:TypeId→Option Sh
 arr:TypeId→Option Sh
 mp:TypeId→Option (Option IntKind×Bool×Sh)
 sp:List (FuncId×List Nat)
 kl:List FuncId
 pr:List (FuncId×Nat×Bool)
 pf:List FuncId
def Ed (s:Sh):List (List SV)→Option (List (aN s))
 | []=>some []
 |c::l=>(cX s c).bind fun x=>(Ed s l).map (x::·)
def adl:Nat→List Nat
 |0=>[]
 |n+1=>adl n++ [n]
section
variable {ρ:Type} (N:Nodes ρ) (H:Hint)
abbrev KV (ρ:Type):=SM→SV→bM→Nat→Option ρ
def cY (h:bM) (v:SV) (k:SV→Option ρ):Option ρ:=
 match v with
 | .a w=>match w with
  | .sl sz b lo len=>match cU h b with
   | .row s ts _=>if sz=s.sz then N.br (decide (lo+len≤ts.length)) (k (.ls s ((ts.drop lo).take len))) none else none
   |_=>none
  | .re .. | .mp _| .ag _| .tp _| .ud| .ow .. | .fn .. =>none
  |w=>k (.a w)
 | .ls s ts=>k (.ls s ts)
 | .ri s ts i off=>k (.ri s ts i off)
 | .nz=>k .nz
 |_=>none
def iY (f:SV→(SV→Option ρ)→Option ρ):List SV→(List SV→Option ρ)→Option ρ
 | [],k=>k []
 |c::cs,k=>f c fun a=>iY f cs fun l=>k (a::l)
def pT (h:bM) (v:SV) (k:SV→Option ρ):Option ρ:=
 match v with
 | .ag cs=>iY (cY N h) cs fun l=>k (.ag l)
 |v=>cY N h v k
def iB (h:bM) (n:Nat) (a:SV) (k:List SV→Option ρ):Option ρ:=
 match a with
 | .a (.re sz b i off)=>match cU h b with
  | .vr sz' cs _=>if sz=sz'∧i=0∧off+n≤cs.length then k ((cs.drop off).take n)else none
  | .row s ts _=>if sz=s.sz∧off+n≤s.sz then N.br (decide (i<ts.length)) (k (((iA s (ts.getD i (aa s))).drop off).take n)) none else none
  | .ar s ts _=>if n=1∧s.sz=1∧i=0 then N.br (decide (off<ts.length) && decide (sz=ts.length)) (k (iA s (ts.getD off (aa s)))) none else none
  |_=>none
 | .ri s ts i off=>if off+n≤s.sz then N.br (decide (i<ts.length)) (k (((iA s (ts.getD i (aa s))).drop off).take n)) none else none
 |_=>none
def yu:SV→Option Int
 | .a (.int _ n)=>some n
 |_=>none
def aj (lo n hi:Int):Bool:=decide (lo≤n) && decide (n≤hi)
def iH (lo hi:Int) (x:SV) (k:Nat→Option ρ):Option ρ:=
 match yu x with
 |some n=>N.br (aj lo n hi) (k n.toNat) none
 |none=>none
def CB (n:Int) (k:Nat→Option ρ):Nat→Nat→Option ρ
 |_,0=>none
 |j,m+1=>N.br (decide (n=j)) (k j) (CB n k (j+1) m)
def xo (len:Nat) (x:SV) (k:Nat→Option ρ):Option ρ:=
 match yu x with
 |some n=>CB N n k 0 len
 |none=>none
def aa4:SB→Bool
 | .vr _ cs _=>cs.any fun c=>match c with
  | .a (.fn ..)=>true
  |_=>false
 |_=>false
def eo (d:Nat) (tm:SM) (lo hi:Nat) (o:Option Opd) (k:Nat→Option ρ):Option ρ:=
 match o with
 |none=>k d
 |some x=>iH N lo hi (bz tm x) k
def TP:Nat→SV→SV→Option Bool
 |1,.a (.int k a),.a (.int k' b)=>if k=k' then some (a==b)else none
 |0,.a (.bl a),.a (.bl b)=>some (a==b)
 |2,.a (.st a),.a (.st b)=>some (a.toList==b.toList)
 |_,_,_=>none
def rq:List Nat→List SV→List SV→Option Bool
 | [],[],[]=>some true
 |k::ks,x::xs,y::ys=>(TP k x y).bind fun p=>(rq ks xs ys).map fun q=>p && q
 |_,_,_=>none
def ig (h:bM) (s:Sh) (v:SV) (k:List (aN s)→Option ρ):Option ρ:=
 match v with
 | .a .ns| .a .ez| .nz=>k []
 | .ls s' ts=>if e:s'=s then k (e▸ts)else none
 | .a (.sl sz b lo len)=>match cU h b with
  | .row s' ts _=>if e:s'=s then(if sz=s.sz then N.br (decide (lo+len≤ts.length)) (k (((e▸ts:List (aN s)).drop lo).take len)) none else none)else none
  |_=>none
 | .a (.st x)=>if e:s= .i .u8 then k (e▸((x.data.toList.map fun c=>(c.toNat:Int)):List (aN (.i .u8))))else none
 |_=>none
def Nn (h:bM):Nat→SV→Option Int
 |0,.a (.st s)=>some s.size
 |1,.a .ns|1,.a .ez|1,.nz=>some 0
 |1,.ls _ ts=>some ts.length
 |1,.a (.sl _ b _ len)=>if ic h b then some len else none
 |2,.a .nm=>some 0
 |2,.a (.mp b)=>match cU h b with
  | .mi _ _ _ es=>some es.length
  | .ms _ _ es=>some es.length
  | .ml es=>some es.length
  |_=>none
 |_,_=>none
def Al (h:bM) (k:Nat) (v:SV) (c:Bool→Option ρ):Option ρ:=
 match v with
 | .a w=>match k,w with
  |0,.np|1,.ns|2,.ni|3,.nf|4,.nm=>c true
  |0,.re _ b _ _|4,.mp b=>if ic h b then c false else none
  |1,.sl _ b _ _=>if ic h b then c false else none
  |3,.fn .. =>c false
  |_,_=>none
 | .ri .. =>if k=0 then c false else none
 | .ls _ ts=>if k=1 then N.br ts.isEmpty none (c false)else none
 |_=>none
def BQ:List SV→Option (List AV)
 | []=>some []
 | .a v::l=>(BQ l).map (v::·)
 |_::_=>none
def bytesOf (ts:List Int):ByteArray:=⟨(ts.map fun n=>UInt8.ofNat n.toNat).toArray⟩
def ahc (x:SV):Option (IntKind×Int):=match x with
 | .a (.int k n)=>some (k,n)
 |_=>none
def ahd (x:SV):Option ByteArray:=match x with
 | .a (.st s)=>some s
 |_=>none
def fc {K V:Type} [BEq K] (d:V):List (K×V)→K→V
 | [],_=>d
 |(a,v)::l,x=>if x==a then v else fc d l x
def bT {K V:Type} [BEq K]:List (K×V)→K→Bool
 | [],_=>false
 |(a,_)::l,x=>x==a||bT l x
def bU {K V:Type} [BEq K]:List (K×V)→K→V→List (K×V)
 | [],x,v=>[(x,v)]
 |(a,w)::l,x,v=>if x==a then(x,v)::l else(a,w)::bU l x v
def dW {K V:Type} [BEq K]:List (K×V)→K→List (K×V)
 | [],_=>[]
 |(a,w)::l,x=>if x==a then l else(a,w)::dW l x
def uv (x:AV):List (AV×AV)→(AV→Option ρ)→Option ρ→Option ρ
 | [],_,d=>d
 |(a,v)::l,k,d=>match x,a with
  | .int k1 n,.int k2 m=>if k1=k2 then N.br (n==m) (k v) (uv x l k d)else none
  | .st n,.st m=>N.br (n==m) (k v) (uv x l k d)
  |_,_=>none
def lL (v:SV):List SV:=match v with
 | .ag cs=>cs
 |v=>[v]
def yv (ag:Bool) (cs:List SV):Option SV:=if ag then some (.ag cs)else match cs with
 | [v]=>some v
 |_=>none
def lr:SV→Bool
 | .ag _=>true
 |_=>false
def Ic:AV→Bool
 | .ag _=>true
 |_=>false
def ahe (h:bM) (nx:Nat) (k:KV ρ) (v:SV):Option ρ:=k [] v h nx
def opS (tm:SM) (h:bM) (nx:Nat) (op:COp) (k:KV ρ):Option ρ:=
 match op with
 | .mv x=>k [] (bz tm x) h nx
 | .pk c a b=>match c with
  | .t t=>match bA tm t with
   | .a (.bl p)=>N.br p (k [(t,.a (.bl true))] (bz tm a) h nx) (k [(t,.a (.bl false))] (bz tm b) h nx)
   |_=>none
  | .c (.bl p)=>if p then k [] (bz tm a) h nx else k [] (bz tm b) h nx
  |_=>none
 | .al z t=>match H.arr t with
  |some s=>if s.sz=1 then match (zS z).bind fun l=>Ed s (l.map fun c=>[c])with
   |some ts=>k [] (.a (.re z.length nx 0 0)) ((nx,.ar s ts t)::h) (nx+1)
   |none=>none else none
  |none=>match zS z with
   |some l=>k [] (.a (.re z.length nx 0 0)) ((nx,.vr z.length l t)::h) (nx+1)
   |none=>none
 | .bx t x=>match bH (bz tm x)with
  |some cs=>k [] (.a (.re cs.length nx 0 0)) ((nx,.vr cs.length cs t)::h) (nx+1)
  |none=>none
 | .bd z ps=>match (zS z).bind fun l=>lK l tm ps with
  |some cs=>k [] (.ag cs) h nx
  |none=>none
 | .bs sz len z t ps=>match H.sh t with
  |some s=>if s.sz=sz then match (zS z).bind (cX s)with
   |some d=>
    let rec go (l:List (Nat×Opd)) (ts:List (aN s)):Option ρ:=match l with
     | []=>k [] (.a (.sl sz nx 0 ts.length)) ((nx,.row s ts t)::mL h (ps.flatMap fun p=>dE (bz tm p.2))) (nx+1)
     |(i,x)::l=>match bH (bz tm x)with
      |some cs=>iY (cY N h) cs fun cs=>match cX s cs with
       |some y=>go l (ts.set i y)
       |none=>none
      |none=>none
    go ps (List.replicate len d)
   |none=>none else none
  |none=>none
 | .ld n a=>iB N h (n.getD 1) (bz tm a) fun cs=>match dV cs n with
  |some v=>k [] v h nx
  |none=>none
 | .sr n a x=>match bH (bz tm x)with
  |some new=>if new.length≠n∨new.any Ia=true then none else match bz tm a with
   | .a (.re sz b i off)=>match cU h b with
    | .vr sz' cs t=>if sz=sz'∧i=0∧off+n≤cs.length then k [] (.a .ud) (fw h b (.vr sz (mT cs new off) t)) nx else none
    | .ar s ts t=>match cX s new with
     |some y=>if s.sz=1∧i=0 then N.br (decide (off<ts.length) && decide (sz=ts.length)) (k [] (.a .ud) (fw h b (.ar s (ts.set off y) t)) nx) none else none
     |none=>none
    | .row s ts t=>if sz=s.sz∧off+n≤s.sz∧(new.flatMap rm).contains b=false then
      iY (cY N h) new fun new'=>N.br (decide (i<ts.length)) (match cX s (mT (iA s (ts.getD i (aa s))) new' off)with
       |some y=>k [] (.a .ud) (fw (mL h (new.flatMap rm)) b (.row s (ts.set i y) t)) nx
       |none=>none) none
     else none
    |_=>none
   |_=>none
  |none=>none
 | .nc x=>match bz tm x with
  | .a (.re sz b i off)=>if ic h b then k [] (.a (.re sz b i off)) h nx else none
  | .ri s ts i off=>k [] (.ri s ts i off) h nx
  | .a (.fn f caps)=>k [] (.a (.fn f caps)) h nx
  |_=>none
 | .bn op x y=>match bz tm x,bz tm y with
  | .a v,.a w=>match op,v,w with
   | .shl,.int kd a,.int _ b=>N.br (decide (b<0)) none (k [] (.a (.int kd (kd.wrap (a*2^(min b.toNat kd.bits))))) h nx)
   | .shr,.int kd a,.int _ b=>N.br (decide (b<0)) none (k [] (.a (.int kd (a.fdiv (2^(min b.toNat kd.bits))))) h nx)
   | .quo,.int kd a,.int kd' b=>if kd=kd' then N.br (decide (b=0)) none (k [] (.a (.int kd (kd.wrap (a.tdiv b)))) h nx)else none
   | .rem,.int kd a,.int kd' b=>if kd=kd' then N.br (decide (b=0)) none (k [] (.a (.int kd (a.tmod b))) h nx)else none
   | .add,.st a,.st b=>N.br (decide (((a.size+b.size:Nat):Int)>IntKind.i64.max)) none (k [] (.a (.st (a++b))) h nx)
   |op,v,w=>match qP op v w with
    |some r=>if lJ r then k [] (.a r) h nx else none
    |none=>none
  |_,_=>none
 | .ea neg ks x y=>match bz tm x,bz tm y with
  | .ag a,.ag b=>match rq ks a b with
   |some r=>k [] (.a (.bl (if neg then !r else r))) h nx
   |none=>none
  |_,_=>none
 | .eb neg x y=>match bz tm x,bz tm y with
  | .a (.bl a),.a (.bl b)=>k [] (.a (.bl (if neg then !(a==b)else a==b))) h nx
  |_,_=>none
 | .nq neg kd x=>Al N h kd (bz tm x) fun r=>k [] (.a (.bl (if neg then !r else r))) h nx
 | .un op x=>match op,bz tm x with
  | .neg,.a (.int kd n)=>k [] (.a (.int kd (kd.wrap (0-n)))) h nx
  | .not,.a (.bl b)=>k [] (.a (.bl !b)) h nx
  |_,_=>none
 | .ci kd x=>match bz tm x with
  | .a (.int _ n)=>k [] (.a (.int kd (kd.wrap n))) h nx
  |_=>none
 | .cv1 x=>match bz tm x with
  | .a (.st s)=>k [] (.a (.st s)) h nx
  |_=>none
 | .cs t x=>match bz tm x with
  | .a (.st s)=>k [] (.a (.sl 1 nx 0 s.size)) ((nx,.row (.i .u8) (s.data.toList.map fun c=>(c.toNat:Int)) t)::h) (nx+1)
  |_=>none
 | .cb x=>match bz tm x with
  | .a (.st _)=>none
  |v=>ig N h (.i .u8) v fun ts=>k [] (.a (.st (bytesOf ts))) h nx
 | .fa off x=>match bz tm x with
  | .a (.re sz b i o)=>if ic h b then k [] (.a (.re sz b i (o+off))) h nx else none
  | .ri s ts i o=>k [] (.ri s ts i (o+off)) h nx
  |_=>none
 | .fd off n x=>match bz tm x with
  | .ag cs=>match dV ((cs.drop off).take (n.getD 1)) n with
   |some v=>k [] v h nx
   |none=>none
  |_=>none
 | .ia arr sz x i=>match arr with
  |some len=>match bz tm x with
   | .a (.re z b j o)=>if ic h b then if aa4 (cU h b)then xo N len (bz tm i) fun q=>k [] (.a (.re z b j (o+q*sz))) h nx else iH N 0 (len-1) (bz tm i) fun q=>k [] (.a (.re z b j (o+q*sz))) h nx else none
   |_=>none
  |none=>match bz tm x with
   | .ls s ts=>if s.sz=sz then iH N 0 (ts.length-1:Int) (bz tm i) fun q=>k [] (.ri s ts q 0) h nx else none
   | .a (.sl sz' b lo len)=>if sz'≠sz|| !ic h b then none else iH N 0 (len-1:Int) (bz tm i) fun q=>k [] (.a (.re sz b (lo+q) 0)) h nx
   |_=>none
 | .ix len sz n x i=>match bz tm x with
  | .ag cs=>match yu (bz tm i)with
   |some m=>
    let rec goIx (q:Nat) (fuel:Nat):Option ρ:=match fuel with
     |0=>none
     |fuel+1=>N.br (decide (m=q)) (match dV ((cs.drop (q*sz)).take sz) n with
      |some v=>k [] v h nx
      |none=>none) (goIx (q+1) fuel)
    goIx 0 len
   |none=>none
  |_=>none
 | .si x i=>match bz tm x,bz tm i with
  | .a (.st s),.a (.int _ n)=>N.br (decide (0≤n) && decide (n<s.size)) (k [] (.a (.int .u8 ((s.data.toList.getD n.toNat 0).toNat))) h nx) none
  |_,_=>none
 | .ss x lo hi=>match bz tm x with
  | .a (.st s)=>eo N s.size tm 0 s.size hi fun b=>eo N 0 tm 0 b lo fun a=>k [] (.a (.st (s.extract a b))) h nx
  |_=>none
 | .sc sz x lo hi mx=>match bz tm x with
  | .a .ns=>eo N 0 tm 0 0 mx fun _=>eo N 0 tm 0 0 hi fun _=>eo N 0 tm 0 0 lo fun _=>k [] (.a .ns) h nx
  | .a .ez=>eo N 0 tm 0 0 mx fun _=>eo N 0 tm 0 0 hi fun _=>eo N 0 tm 0 0 lo fun _=>k [] (.a .ez) h nx
  | .nz=>eo N 0 tm 0 0 mx fun _=>eo N 0 tm 0 0 hi fun _=>eo N 0 tm 0 0 lo fun _=>k [] .nz h nx
  | .ls s ts=>if s.sz≠sz then none else if mx.isSome then
    eo N 0 tm 0 ts.length mx fun m=>eo N 0 tm 0 m hi fun b=>eo N 0 tm 0 b lo fun a=>N.br (decide (a=m)) (k [] .nz h nx) none
   else eo N ts.length tm 0 ts.length hi fun b=>eo N 0 tm 0 b lo fun a=>k [] (.ls s ((ts.drop a).take (b-a))) h nx
  | .a (.sl sz' r lo0 len)=>if sz'≠sz|| !ic h r then none else if mx.isSome then
    eo N 0 tm 0 len mx fun m=>eo N 0 tm 0 m hi fun b=>eo N 0 tm 0 b lo fun a=>N.br (decide (a=m)) (k [] (.a .ez) h nx) none
   else eo N len tm 0 len hi fun b=>eo N 0 tm 0 b lo fun a=>k [] (.a (.sl sz r (lo0+a) (b-a))) h nx
  |_=>none
 | .mk sz bytes z t l c=>match bz tm l,bz tm c,H.sh t with
  | .a (.int _ a),.a (.int _ b),some s=>if s.sz=sz then match (zS z).bind (cX s)with
   |some d=>N.br (decide (0≤a) && decide (a≤b) && decide (b≤aV) && decide (bytes*b≤aV)) (k [] (.a (.sl sz nx 0 a.toNat)) ((nx,.row s (List.replicate a.toNat d) t)::h) (nx+1)) none
   |none=>none else none
  |_,_,_=>none
 | .mf f caps=>match BQ (caps.map (bz tm))with
  |some l=>if l.all Dr then k [] (.a (.fn f l)) h nx else none
  |none=>none
 | .ex x i=>match bz tm x with
  | .tp vs=>match vs[i]? with
   |some v=>k [] v h nx
   |none=>none
  |_=>none
 | .le kd x=>match Nn h kd (bz tm x)with
  |some n=>k [] (.a (.int .i64 n)) h nx
  |none=>none
 | .ap sz bytes t x y=>match H.sh t with
  |some s=>if s.sz≠sz then none else ig N h s (bz tm x) fun a=>ig N h s (bz tm y) fun b=>
   N.br (decide ((a.length+b.length)*bytes≤aV) && decide (a.length+b.length≤aV)) (match bz tm x with
    | .a .ns=>N.br b.isEmpty (k [] (.a .ns) h nx) (k [] (.a (.sl sz nx 0 b.length)) ((nx,.row s b t)::h) (nx+1))
    | .nz=>N.br b.isEmpty (k [] .nz h nx) (k [] (.a (.sl sz nx 0 b.length)) ((nx,.row s b t)::h) (nx+1))
    | .a .ez=>N.br b.isEmpty (k [] (.a .ez) h nx) (k [] (.a (.sl sz nx 0 b.length)) ((nx,.row s b t)::h) (nx+1))
    | .a (.sl _ r lo len)=>match cU h r with
     | .row s' ts _=>N.br (decide (lo+len=ts.length)) (k [] (.a (.sl sz nx 0 (a++b).length)) ((nx,.row s (a++b) t)::fw h r .dd) (nx+1)) none
     |_=>none
    |_=>none) none
  |none=>none
 | .mx xs=>match BQ (xs.map (bz tm))with
  |some (.int kd a::l)=>match l.foldlM HL a with
   |some m=>k [] (.a (.int kd m)) h nx
   |none=>none
  |_=>none
 | .mn xs=>match BQ (xs.map (bz tm))with
  |some (.int kd a::l)=>match l.foldlM HM a with
   |some m=>k [] (.a (.int kd m)) h nx
   |none=>none
  |_=>none
 | .mm t=>k [] (.a (.mp nx)) ((nx,match H.mp t with
   |some (some kd,g,s)=>.mi kd g s []
   |some (none,g,s)=>.ms g s []
   |none=>.ml [])::h) (nx+1)
 | .lk st z ok x i=>match bz tm x with
  | .a (.mp b)=>match cU h b with
   | .mi kd g s es=>match bz tm i,(bH (nA z)).bind (cX s)with
    | .a (.int kd' n),some d=>if kd'=kd∧Ic z=g∧st=false then match yv g (iA s (fc d es n))with
      |some v=>k [] (if ok then .tp [v,.a (.bl (bT es n))]else v) h nx
      |none=>none else none
    |_,_=>none
   | .ms g s es=>match bz tm i,(bH (nA z)).bind (cX s)with
    | .a (.st n),some d=>if Ic z=g∧st=true then match yv g (iA s (fc d es n))with
      |some v=>k [] (if ok then .tp [v,.a (.bl (bT es n))]else v) h nx
      |none=>none else none
    |_,_=>none
   | .ml es=>match bz tm i with
    | .a v=>if gf st v=true∧lJ z=true then uv N v es (fun w=>if lJ w then k [] (if ok then .tp [.a w,.a (.bl true)]else .a w) h nx else none) (k [] (if ok then .tp [.a z,.a (.bl false)]else .a z) h nx)else none
    |_=>none
   |_=>none
  |_=>none
 | .mu st x y v=>match bz tm x with
  | .a (.mp b)=>match cU h b with
   | .mi kd g s es=>match bz tm y,(bH (bz tm v)).bind (cX s)with
    | .a (.int kd' n),some d=>if kd'=kd∧lr (bz tm v)=g∧st=false then k [] (.a .ud) (fw h b (.mi kd g s (bU es n d))) nx else none
    |_,_=>none
   | .ms g s es=>match bz tm y,(bH (bz tm v)).bind (cX s)with
    | .a (.st n),some d=>if lr (bz tm v)=g∧st=true then k [] (.a .ud) (fw h b (.ms g s (bU es n d))) nx else none
    |_,_=>none
   | .ml es=>match bz tm y,bz tm v with
    | .a y,.a v=>if Dt v=true∧gf st y=true then match cO y es 0 with
      |some (some (i,_))=>k [] (.a .ud) (fw h b (.ml (es.set i (y,v)))) nx
      |some none=>k [] (.a .ud) (fw h b (.ml (es++ [(y,v)]))) nx
      |none=>none else none
    |_,_=>none
   |_=>none
  |_=>none
 | .de st x y=>match bz tm x with
  | .a (.mp b)=>match cU h b with
   | .mi kd g s es=>match bz tm y with
    | .a (.int kd' n)=>if kd'=kd∧st=false then k [] (.tp []) (fw h b (.mi kd g s (dW es n))) nx else none
    |_=>none
   | .ms g s es=>match bz tm y with
    | .a (.st n)=>if st=true then k [] (.tp []) (fw h b (.ms g s (dW es n))) nx else none
    |_=>none
   |_=>none
  |_=>none
 |_=>none
end
inductive PC where
 |c (v:AV)
 |hi (k:IntKind)
 |hb
 |hs
 |hl (s:Sh)
 |hr (s:Sh) (off:Nat)
 |s0 (sz b:Nat)
 |sn (sz b:Nat)
 |hp (sz b off:Nat)
 |nz
inductive PV where
 |c (p:PC)
 |ag (ps:List PC)
 |t0
 |uk
inductive PB where
 |vr (sz:Nat) (ps:List PC) (t:TypeId)
 |row (s:Sh) (t:TypeId)
 |ar (s:Sh) (t:TypeId)
 |mi (k:IntKind) (g:Bool) (s:Sh)
 |ms (g:Bool) (s:Sh)
 |ml (es:List (AV×AV))
 |dd
structure PS where
 tm:List (Nat×PV)
 h:List (Nat×PB)
 nx:Nat
 bs:Nat
@[reducible] def KL:PC→Type→Type
  | .c _,R=>R
  | .hi _,R=>Int×R
  | .hb,R=>Bool×R
  | .hs,R=>ByteArray×R
  | .hl s,R=>List (aN s)×R
  | .hr s _,R=>List (aN s)×Nat×R
  | .s0 _ _,R=>Nat×R
  | .sn _ _,R=>Nat×Nat×R
  | .hp _ _ _,R=>Nat×R
  | .nz,R=>R
@[reducible] def An:List PC→Type→Type
  | [],R=>R
  |p::ps,R=>KL p (An ps R)
@[reducible] def OP:PV→Type→Type
  | .c p,R=>KL p R
  | .ag ps,R=>An ps R
  | .t0,R=>R
  | .uk,R=>R
@[reducible] def KM:List (Nat×PV)→Type→Type
  | [],R=>R
  |p::ps,R=>OP p.2 (KM ps R)
@[reducible] def OQ:PB→Type→Type
  | .vr _ ps _,R=>An ps R
  | .row s _,R=>List (aN s)×R
  | .ar s _,R=>List (aN s)×R
  | .mi _ _ s,R=>List (Int×aN s)×R
  | .ms _ s,R=>List (ByteArray×aN s)×R
  | .ml _,R=>R
  | .dd,R=>R
@[reducible] def KN:List (Nat×PB)→Type→Type
  | [],R=>R
  |p::ps,R=>OQ p.2 (KN ps R)
@[reducible] def Ee (p:PS):Type:=KM p.tm (KN p.h Unit)
def Id:(p:PC)→{R:Type}→KL p R→SV×R
 | .c v,_,r=>(.a v,r)
 | .hi k,_,x=>(.a (.int k x.1),x.2)
 | .hb,_,x=>(.a (.bl x.1),x.2)
 | .hs,_,x=>(.a (.st x.1),x.2)
 | .hl s,_,x=>(.ls s x.1,x.2)
 | .hr s off,_,x=>(.ri s x.1 x.2.1 off,x.2.2)
 | .s0 sz b,_,x=>(.a (.sl sz b 0 x.1),x.2)
 | .sn sz b,_,x=>(.a (.sl sz b x.1 x.2.1),x.2.2)
 | .hp sz b off,_,x=>(.a (.re sz b x.1 off),x.2)
 | .nz,_,r=>(.nz,r)
def uw:(ps:List PC)→{R:Type}→An ps R→List SV×R
 | [],_,r=>([],r)
 |p::ps,_,x=>let y:=Id p x
  let z:=uw ps y.2
  (y.1::z.1,z.2)
def Ie:(p:PV)→{R:Type}→OP p R→SV×R
 | .c p,_,x=>Id p x
 | .ag ps,_,x=>let y:=uw ps x
  (.ag y.1,y.2)
 | .t0,_,x=>(.tp [],x)
 | .uk,_,x=>(.uk,x)
def CD:(ps:List (Nat×PV))→{R:Type}→KM ps R→SM×R
 | [],_,r=>([],r)
 |p::ps,_,x=>let y:=Ie p.2 x
  let z:=CD ps y.2
  ((p.1,y.1)::z.1,z.2)
def Ig:(p:PB)→{R:Type}→OQ p R→SB×R
 | .vr sz ps t,_,x=>let y:=uw ps x
  (.vr sz y.1 t,y.2)
 | .row s t,_,x=>(.row s x.1 t,x.2)
 | .ar s t,_,x=>(.ar s x.1 t,x.2)
 | .mi k g s,_,x=>(.mi k g s x.1,x.2)
 | .ms g s,_,x=>(.ms g s x.1,x.2)
 | .ml es,_,x=>(.ml es,x)
 | .dd,_,x=>(.dd,x)
def CE:(ps:List (Nat×PB))→{R:Type}→KN ps R→bM×R
 | [],_,r=>([],r)
 |p::ps,_,x=>let y:=Ig p.2 x
  let z:=CE ps y.2
  ((p.1,y.1)::z.1,z.2)
def vZ (p:PS) (x:Ee p):SS:=
 let y:=CD p.tm x
 {tm:=y.1,h:=(CE p.h y.2).1,nx:=p.nx,bs:=p.bs}
def avEq:AV→AV→Bool
 | .int k n,.int k' m=>decide (k=k') && decide (n=m)
 | .bl a,.bl b=>a==b
 | .np,.np| .nm,.nm| .nf,.nf| .ni,.ni| .ns,.ns| .ez,.ez| .ud,.ud=>true
 | .re a b c d,.re a' b' c' d'=>decide (a=a') && decide (b=b') && decide (c=c') && decide (d=d')
 | .mp b,.mp b'=>decide (b=b')
 | .st s,.st s'=>decide (s.data.toList=s'.data.toList)
 | .fn f cs,.fn f' cs'=>decide (f=f') && go cs cs'
 |_,_=>false
where go:List AV→List AV→Bool
 | [],[]=>true
 | .re a b c d::l,.re a' b' c' d'::l'=>decide (a=a') && decide (b=b') && decide (c=c') && decide (d=d') && go l l'
 |_,_=>false
def jY:(p:PC)→SV→{R:Type}→R→Option (KL p R)
 | .c v,.a w,_,r=>if avEq v w then some r else none
 | .hi k,.a (.int k' n),_,r=>if k'=k then some (n,r)else none
 | .hb,.a (.bl b),_,r=>some (b,r)
 | .hs,.a (.st s),_,r=>some (s,r)
 | .hl s,.ls s' ts,_,r=>if h:s'=s then some (h▸ts,r)else none
 | .hr s off,.ri s' ts i off',_,r=>if off'=off then(if h:s'=s then some (h▸ts,i,r)else none)else none
 | .s0 sz b,.a (.sl sz' b' lo len),_,r=>if sz'=sz∧b'=b∧lo=0 then some (len,r)else none
 | .sn sz b,.a (.sl sz' b' lo len),_,r=>if sz'=sz∧b'=b then some (lo,len,r)else none
 | .hp sz b off,.a (.re sz' b' i off'),_,r=>if sz'=sz∧b'=b∧off'=off then some (i,r)else none
 | .nz,.nz,_,r=>some r
 |_,_,_,_=>none
def oT:(ps:List PC)→List SV→{R:Type}→R→Option (An ps R)
 | [],[],_,r=>some r
 |p::ps,v::vs,_,r=>(oT ps vs r).bind fun z=>jY p v z
 |_,_,_,_=>none
def Eh:(p:PV)→SV→{R:Type}→R→Option (OP p R)
 | .c p,v,_,r=>jY p v r
 | .ag ps,.ag vs,_,r=>oT ps vs r
 | .t0,.tp [],_,r=>some r
 | .uk,.uk,_,r=>some r
 |_,_,_,_=>none
def xp:(ps:List (Nat×PV))→SM→{R:Type}→R→Option (KM ps R)
 | [],[],_,r=>some r
 |p::ps,v::vs,_,r=>if p.1=v.1 then(xp ps vs r).bind fun z=>Eh p.2 v.2 z else none
 |_,_,_,_=>none
def Ao:List (AV×AV)→List (AV×AV)→Bool
 | [],[]=>true
 |(a,b)::l,(a',b')::l'=>avEq a a' && avEq b b' && Ao l l'
 |_,_=>false
def rv:(p:PB)→SB→{R:Type}→R→Option (OQ p R)
 | .vr sz ps t,.vr sz' cs t',_,r=>if sz'=sz∧t'=t then oT ps cs r else none
 | .row s t,.row s' ts t',_,r=>if t'=t then(if h:s'=s then some (h▸ts,r)else none)else none
 | .ar s t,.ar s' ts t',_,r=>if t'=t then(if h:s'=s then some (h▸ts,r)else none)else none
 | .mi k g s,.mi k' g' s' es,_,r=>if k'=k∧g'=g then(if h:s'=s then some (h▸es,r)else none)else none
 | .ms g s,.ms g' s' es,_,r=>if g'=g then(if h:s'=s then some (h▸es,r)else none)else none
 | .ml es,.ml es',_,r=>if Ao es es' then some r else none
 | .dd,.dd,_,r=>some r
 |_,_,_,_=>none
def xq:(ps:List (Nat×PB))→bM→{R:Type}→R→Option (KN ps R)
 | [],[],_,r=>some r
 |p::ps,v::vs,_,r=>if p.1=v.1 then(xq ps vs r).bind fun z=>rv p.2 v.2 z else none
 |_,_,_,_=>none
def Ap (p:PS) (S:SS):Option (Ee p):=if p.nx=S.nx∧p.bs=S.bs then(xq p.h S.h ()).bind fun z=>xp p.tm S.tm z else none
def CG (p:PS) (S:SS):SS:={S with tm:=p.tm.map fun q=>(q.1,if q.1=lS then .uk else bA S.tm q.1)}
def pU (live:List Nat) (S:SS):Bool:=match live with
 | []=>true
 | [_]=>true
 |t::l=> !cJ (bA S.tm t) && pU l S
@[reducible] def lT:List PS→Type
  | []=>Empty
  | [p]=>Ee p
  |p::q::l=>Ee p⊕lT (q::l)
def ux:(l:List PS)→SS→Option (lT l)
 | [],_=>none
 | [p],S=>Ap p S
 |p::q::l,S=>match Ap p S with
  |some x=>some (.inl x)
  |none=>(ux (q::l) S).map .inr
def wa:(l:List PS)→lT l→SS
 | [],x=>nomatch x
 | [p],x=>vZ p x
 |p::_::_,.inl x=>vZ p x
 |_::q::l,.inr y=>wa (q::l) y
@[reducible] def uy:List (EX×PS)→Type
  | []=>Empty
  | [p]=>Ee p.2
  |p::q::l=>Ee p.2⊕uy (q::l)
structure Lps where
 ps:List PS
 os:List (EX×PS)
 L:lT ps→Option (uy os)
structure Ctr where
 s:Sh
 t:Sh
 as:List (Bool×Nat)
 rs:List (Bool×Nat)
 own:List (Nat×Bool)
 F:aN s→Option (aN t)
structure Wrt where
 s:Sh
 c:FuncId
 F:List (aN s)→Option (List (aN s))
structure Tbl where
 code:FuncId→Option CF
 hint:Hint
 ct:FuncId→Option Ctr
 lp:Nat→Option Lps
 st:FuncId→Option Wrt
def dX:List Nat→Nat
 | []=>0
 | [n]=>n
 |_::l=>dX l
def iZ (args:List SV) (i:Nat:=0):SM:=
 match args with
 | []=>[]
 |a::as=>(i,a)::iZ as (i+1)
def wb:List SV→SV
 | [v]=>v
 |vs=>.tp vs
def jZ:List (Bool×Nat)→List SV→Option (List SV)
 | [],[]=>some []
 |(true,n)::rs,cs=>(jZ rs (cs.drop n)).map (.ag (cs.take n)::·)
 |(false,_)::rs,c::cs=>(jZ rs cs).map (c::·)
 |_,_=>none
def Aq (nx:Nat):SV→SV×bM×Nat
 | .ow s ts=>(.a (.sl s.sz nx 0 ts.length),[(nx,.row s ts 0)],nx+1)
 |v=>(v,[],nx)
def wd (nx:Nat):List SV→List SV×bM×Nat
 | []=>([],[],nx)
 |v::vs=>let x:=Aq nx v
  let y:=wd x.2.2 vs
  (x.1::y.1,x.2.1++y.2.1,y.2.2)
def xr (nx:Nat):SV→SV×bM×Nat
 | .ag cs=>let x:=wd nx cs
  (.ag x.1,x.2)
 |v=>Aq nx v
def we (nx:Nat):List SV→List SV×bM×Nat
 | []=>([],[],nx)
 |v::vs=>let x:=xr nx v
  let y:=we x.2.2 vs
  (x.1::y.1,x.2.1++y.2.1,y.2.2)
def Ei (nx:Nat):SV→SV×bM×Nat
 | .tp vs=>let x:=we nx vs
  (.tp x.1,x.2)
 |v=>xr nx v
def bV:Sh→Bool
 | .i _| .b| .s| .nil=>true
 | .row _=>false
 | .cons a b=>bV a && bV b
def nC:SV→Bool
 | .a v=>dH v
 | .ow s _=>bV s
 | .nz=>true
 |_=>false
def yw:SV→Bool
 | .ag cs=>cs.all nC
 |v=>nC v
def Ej:SV→Bool
 | .tp vs=>vs.all yw
 |v=>yw v
def uz:SV→Bool
 | .a v=>rT (fun _=>false) v
 | .ow .. | .ag _| .tp _| .uk=>false
 |_=>true
def Ek:SV→Bool
 | .ag cs=>cs.all uz
 |v=>uz v
def ja:List SV→List (Bool×Nat)
 | []=>[]
 | .ag cs::l=>(true,cs.length)::ja l
 |_::l=>(false,1)::ja l
structure FootS where
 ix:Nat
 us:List Nat
 ac:List Nat
 fr:List Nat
 wr:List Nat
section
variable {ρ:Type} (N:Nodes ρ) (T:Tbl)
abbrev KS (ρ:Type):=EX→SS→Option ρ
def nD (pr:List (Nat×Bool)) (own:List (Nat×Bool)) (cs:List SV) (i:Nat) (k:List SV→Option ρ):Option ρ:=
 match cs with
 | []=>k []
 |c::cs=>match own.lookup i with
  |none=>nD pr own cs (i+1) fun l=>k (c::l)
  |some nl=>match c with
   | .ls s ts=>if nl then N.br ts.isEmpty (if pr.lookup i=some false then none else nD pr own cs (i+1) fun l=>k (.nz::l)) (if pr.lookup i=some true then none else nD pr own cs (i+1) fun l=>k (.ow s ts::l))else nD pr own cs (i+1) fun l=>k (.ow s ts::l)
   |_=>none
def Np (pr:List (Nat×Bool)) (c:Ctr) (y:aN c.t) (k:SV→Option ρ):Option ρ:=
 nD N pr c.own (iA c.t y) 0 fun cs=>match jZ c.rs cs with
  |some vs=>k (wb vs)
  |none=>none
def Nq (f:FuncId):List (FuncId×Nat×Bool)→List (Nat×Bool)
 | []=>[]
 |(g,i,b)::l=>if g=f then(i,b)::Nq f l else Nq f l
def dL (S:SS) (rs:List CR) (k:List SV→Option ρ):Option ρ:=
 match rs with
 | []=>k []
 | .tm t::rs=>match bA S.tm t with
  | .tp _| .uk=>none
  |v=>dL S rs fun l=>k (v::l)
 | .cl t n::rs=>iB N S.h (n.getD 1) (bA S.tm t) fun cs=>match dV cs n with
  |some v=>dL S rs fun l=>k (v::l)
  |none=>none
def El (w:Wrt) (args:List SV) (h:bM) (nx:Nat) (k:KV ρ):Option ρ:=
 match args with
 | [.a (.sl sz b lo len),.a (.fn c caps)]=>match cU h b with
  | .row s ts t=>if e:s=w.s then
    if sz=s.sz∧lo=0∧c=w.c∧caps.isEmpty then N.br (decide (len=ts.length)) (N.cl (w.F (e▸ts)) fun ts'=>k [] (.tp []) (fw h b (.row w.s ts' t)) nx) none else none
   else none
  |_=>none
 | [.a .ns,.a (.fn c caps)]=>if c=w.c∧caps.isEmpty then k [] (.tp []) h nx else none
 |_=>none
def OR (v:SV) (k:SV→Option ρ):Option ρ:=match v with
 | .a (.int kd n)=>N.sp n (k (.a (.int kd (.ofNat 0)))) (fun j=>k (.a (.int kd (.ofNat (j+1)))))
 |v=>k v
def GH (is:List Nat) (vs:List SV) (i:Nat) (k:List SV→Option ρ):Option ρ:=match vs with
 | []=>k []
 |v::vs=>if is.contains i then OR N v fun v=>GH is vs (i+1) fun l=>k (v::l)else GH is vs (i+1) fun l=>k (v::l)
def OS (is:Option (List Nat)) (v:SV) (k:SV→Option ρ):Option ρ:=match is with
 |none=>k v
 |some is=>match v with
  | .tp vs=>GH N is vs 0 fun l=>k (.tp l)
  |v=>OR N v k
def Em (h:bM) (b:Nat):Bool:=match cU h b with
 | .row .. =>true
 |_=>false
def TQ (run:CC→SS→KS ρ→Option ρ) (c:CF) (args:List SV) (h:bM) (nx:Nat) (us:List Nat) (k:KV ρ):Option ρ:=
 if us.all (·<nx) && args.all fun v=> !cJ v then
  run c.code {tm:=iZ (args.map (nB (us.contains ·) id)),h:=vX h us us,nx:=nx,bs:=nx} fun ex S=>match ex with
   | .xt _=>none
   |_=>dL N S c.res fun vs=>k [] (nB (bZ us nx S.nx) id (wb vs)) (vY h (fun b=>ro (bZ us nx S.nx) id (cU S.h b)) (upto nx (S.nx-nx)++us)) S.nx
 else none
def En (h:bM) (v:SV) (k:SV→Option ρ):Option ρ:=
 match v with
 | .a (.re sz b i off)=>match cU h b with
  | .vr sz' cs t=>match T.hint.sh t with
   |some s=>if sz=sz'∧s.sz=sz then iY (cY N h) cs fun cs=>match cX s cs with
    |some d=>k (.ri s [d] i off)
    |none=>none else none
   |none=>none
  |_=>none
 |v=>pT N h v k
def yx:SV→Bool
 | .a (.int ..)| .a (.bl _)| .a (.st _)=>true
 |_=>false
def TR (run:CC→SS→KS ρ→Option ρ) (f:FuncId) (c:CF) (args:List SV) (h:bM) (nx:Nat) (k:KV ρ):Option ρ:=
 if c.np<args.length∨gj<args.length∨T.hint.kl.contains f=true then none else iY (En N T h) args fun as=>
  run c.code {tm:=iZ as,h:=[],nx:=0,bs:=0} fun ex S=>match ex with
   | .xt _=>none
   |_=>dL N S c.res fun vs=>if vs.all yx then k [] (wb vs) h nx else none
def CH (run:CC→SS→KS ρ→Option ρ) (f:FuncId) (args:List SV) (h:bM) (nx:Nat) (k:KV ρ):Option ρ:=
 match T.ct f with
 |some c=>iY (pT N h) args fun as=>if ja as≠c.as then none else match cX c.s (as.flatMap lL)with
  |some x=>N.cl (c.F x) fun y=>Np N (Nq f T.hint.pr) c y fun r=>
   let z:=Ei nx r
   if T.hint.kl.contains f then
    if(args.flatMap dE).all (Em h) && args.all fun v=> !cJ v then OS N (T.hint.sp.lookup f) z.1 fun v=>k [] v (z.2.1++mL h (args.flatMap dE)) z.2.2 else none
   else if args.all Ek||Ej r then OS N (T.hint.sp.lookup f) z.1 fun v=>k [] v (z.2.1++h) z.2.2
   else none
  |none=>none
 |none=>if T.hint.pf.contains f then match T.code f with
   |none=>none
   |some c=>TR N T run f c args h nx k
  else match T.code f with
  |none=>match T.st f with
   |none=>none
   |some w=>El N w args h nx k
  |some c=>if c.np<args.length∨gj<args.length then none else TQ N run c args h nx (lD (jX h) 64 (args.flatMap dE) []) k
def Eo (run:CC→SS→KS ρ→Option ρ) (tm:SM) (h:bM) (nx:Nat) (op:COp) (k:KV ρ):Option ρ:=
 match op with
 | .cf f args=>CH N T run f (args.map (bz tm)) h nx k
 | .cv x args=>match bz tm x with
  | .a (.fn f caps)=>match zS caps with
   |some cs=>if TE f args then CH N T run (uh f) (args.map (bz tm)++cs) h nx k else none
   |none=>none
  |_=>none
 |op=>opS N T.hint tm h nx op k
def Ih (run:CC→SS→KS ρ→Option ρ) (tm:SM) (h:bM) (nx:Nat) (o:CI) (k:KV ρ):Option ρ:=
 match o.guard with
 |none=>Eo N T run tm h nx o.op k
 |some (t,want)=>match bA tm t with
  | .a (.bl b)=>
   let yes (v:Bool):=Eo N T run ((t,.a (.bl v))::tm) h nx o.op fun rf w h' nx'=>k (rf++ [(t,.a (.bl v))]) w h' nx'
   let no (v:Bool):=k [(t,.a (.bl v))] (.tp []) h nx
   if want then N.br b (yes true) (no false)else N.br b (no true) (yes false)
  | .tp []=>k [] (.tp []) h nx
  |_=>none
def wg (d:Option Nat) (v:SV) (tm:SM):SM:=
 match d with
 |some d=>(d,v)::tm
 |none=>tm
def OT:Option Nat→Bool
 |some d=>decide (d<gj)
 |none=>true
def refine(tm:SM):SM→SM
 | []=>tm
 |(t,v)::rf=>(refine tm rf).map fun p=>if p.1=t then(t,v)else p
def Ii (run:CC→SS→KS ρ→Option ρ) (ops:List CI) (S:SS) (k:SS→Option ρ):Option ρ:=
 match ops with
 | []=>k S
 |o::l=>Ih N T run S.tm S.h S.nx o fun rf v h nx=>if S.bs≤nx && OT o.dst then Ii run l {tm:=wg o.dst v (refine S.tm rf),h:=h,nx:=nx,bs:=S.bs} k else none
def GI:Opd→Bool
 | .c v=> !cJ (nA v)
 |_=>true
def Nr:COp→Bool
 | .bs _ _ _ _ ps=>ps.all fun p=>GI p.2
 |_=>true
def TS (tm:SM) (o:CI):Bool:=
 match o.op with
 | .cf f _=>((T.ct f).isSome||T.hint.pf.contains f) && !T.hint.kl.contains f
 | .cv x _=>match bz tm x with
  | .a (.fn f _)=>((T.ct (uh f)).isSome||T.hint.pf.contains (uh f)) && !T.hint.kl.contains (uh f)
  |_=>false
 | .sr .. | .ap .. | .cp .. | .mu .. | .de .. =>false
 | .bs _ _ _ _ l=>(l.flatMap fun p=>dE (bz tm p.2)).isEmpty
 |_=>true
def TT (tm:SM) (h:bM) (o:CI) (us:List Nat):List Nat:=
 if TS T tm o then []else match o.op with
 | .sr _ a _=>match bz tm a with
  | .a (.re _ b _ _)=>match cU h b with
   | .vr .. | .ar .. =>if us.contains b then [b]else us
   |_=>us
  |_=>us
 |_=>us
def Ij (run:CC→SS→KS ρ→Option ρ) (ops:List (CI×List Nat)) (ix:Nat) (fs:List FootS) (S:SS) (k:SS→Option ρ):Option ρ:=
 match ops with
 | []=>k S
 |(o,dp)::l=>
  let us:=lD (jX S.h) 64 ((bS o).flatMap fun t=>dE (bA S.tm t)) []
  let ac:=if OE o.op then []else us
  let tm:=CA S.tm us (bS o)
  if us.all (·<S.nx) && (bS o).all (fun t=>decide (t<lS) && !cJ (bA S.tm t)) && Nr o.op then
   Ih N T run tm (vX S.h us ac) S.nx o fun rf v h nx=>
    let fr:=upto S.nx (nx-S.nx)
    let wr:=fr++TT T tm (vX S.h us ac) o us
    if S.nx≤nx && OT o.dst && fs.all (fun f=>dp.contains f.ix||(nj f.wr ac && nj wr f.ac && nj f.fr us && nj fr f.us && nj f.wr wr))then
     Ij run l (ix+1) (⟨ix,us,ac,fr,wr⟩::fs) {tm:=wg o.dst (nB (bZ us S.nx nx) id v) (refine S.tm rf),h:=vY S.h (fun b=>ro (bZ us S.nx nx) id (cU h b)) wr,nx:=nx,bs:=S.bs} k
    else none
  else none
def ii:(l:List (EX×PS))→uy l→(sm:{A B:Type}→A⊕B→(A→Option ρ)→(B→Option ρ)→Option ρ)→KS ρ→Option ρ
 | [],x,_,_=>nomatch x
 | [p],x,_,k=>k p.1 (vZ p.2 x)
 |p::q::l,x,sm,k=>sm x (fun y=>k p.1 (vZ p.2 y)) (fun y=>ii (q::l) y sm k)
def jb:Nat:=1000000000
def CJ (lp:Nat→Option Lps) (C:SS) (m:Nat):Nat→Nat→Option ((L:Lps)×lT L.ps)
 |_,0=>none
 |j,n+1=>match lp (m+j*jb)with
  |none=>none
  |some L=>match ux L.ps C with
   |some x=>some ⟨L,x⟩
   |none=>CJ lp C m (j+1) n
def eH (run:CC→SS→KS ρ→Option ρ):CC→SS→KS ρ→Option ρ
 | .sk,S,k=>k .nm S
 | .rg ops,S,k=>Ii N T run ops S fun S=>k .nm S
 | .rd ops,S,k=>Ij N T run ops 0 [] S fun S=>k .nm S
 | .sq a b,S,k=>eH run a S fun ex S=>match ex with
  | .nm=>eH run b S k
  |ex=>k ex S
 | .cd c a b,S,k=>match c with
  | .t t=>match bA S.tm t with
   | .a (.bl p)=>N.br p (eH run a {S with tm:=refine S.tm [(t,.a (.bl true))]} k) (eH run b {S with tm:=refine S.tm [(t,.a (.bl false))]} k)
   |_=>none
  | .c (.bl p)=>if p then eH run a S k else eH run b S k
  |_=>none
 | .bk id b,S,k=>eH run b S fun ex S=>match ex with
  | .xt j=>if j=id then k .nm S else k (.xt j) S
  |ex=>k ex S
 | .lp live b,S,k=>match T.lp (dX live)with
  |some _=>if pU live S then match CJ T.lp (iX live S) (dX live) 0 8 with
   |some ⟨L,x⟩=>N.cl (L.L x) fun y=>ii L.os y N.sm k
   |none=>N.uk live b (iX live S)else none
  |none=>N.uk live b (iX live S)
 | .xt id,S,k=>k (.xt id) S
 | .rt,S,k=>k .rt S
 | .no,_,_=>none
def wh:Nat→CC→SS→KS ρ→Option ρ
 |0,_,_,_=>none
 |n+1,c,S,k=>eH N T (wh n) c S k
def CK (h hk:bM) (own:Option Bool) (v:SV) (k:SV→Option ρ):Option ρ:=
 match own with
 |some nl=>match v with
  | .a (.sl sz b lo len)=>cY N h (.a (.sl sz b lo len)) fun w=>match w with
   | .ls s ts=>if nl then N.br ts.isEmpty none (k (.ls s ts))else k (.ls s ts)
   |_=>none
  | .a .ns=>if nl then k (.a .ns)else none
  | .a .ez=>if nl then k (.a .ez)else none
  | .nz=>if nl then k .nz else none
  |_=>none
 |none=>cY N hk v k
def uA (h hk:bM) (own:List (Nat×Bool)) (cs:List SV) (i:Nat) (k:List SV→Option ρ):Option ρ:=
 match cs with
 | []=>k []
 |c::cs=>CK N h hk (own.lookup i) c fun a=>uA h hk own cs (i+1) fun l=>k (a::l)
def oU (own:List (Nat×Bool)) (cs:List SV) (i:Nat):List Nat:=
 match cs with
 | []=>[]
 |c::cs=>(match own.lookup i,c with
  |some _,.a (.sl _ b _ _)=>[b]
  |_,_=>[])++oU own cs (i+1)
end
def Ik:EX→EX→Bool
 | .nm,.nm| .rt,.rt=>true
 | .xt i,.xt j=>decide (i=j)
 |_,_=>false
def Il (p:PS):Bool:=p.tm.any fun q=>decide (q.1=lS)
def Ar:(l:List (EX×PS))→EX→SS→Option (uy l)
 | [],_,_=>none
 | [p],ex,S=>if Ik p.1 ex && Il p.2 then Ap p.2 (CG p.2 S)else none
 |p::q::l,ex,S=>match (if Ik p.1 ex && Il p.2 then Ap p.2 (CG p.2 S)else none)with
  |some x=>some (.inl x)
  |none=>(Ar (q::l) ex S).map .inr
def Ns (N:(ρ:Type)→Nodes ρ) (T:Tbl) (n:Nat) (c:CF) (s t:Sh) (as:List (Bool×Nat)) (x:aN s) (own:List (Nat×Bool)) (rs:List (Bool×Nat)):Option (aN t):=
 if c.np<as.length∨gj<as.length then none else wh (N (aN t)) T n c.code {tm:=iZ ((jZ as (iA s x)).getD []),h:=[],nx:=0,bs:=0} fun ex S=>match ex with
  | .xt _=>none
  |_=>dL (N (aN t)) S c.res fun vs=>
   let cs:=vs.flatMap lL
   if ja vs=rs∧eX (oU own cs 0)then
    uA (N (aN t)) S.h (mL S.h (oU own cs 0)) own cs 0 fun l=>cX t l
   else none
def TU {ρ:Type} (N:Nodes ρ) (T:Tbl) (n:Nat) (live:List Nat) (b:CC) (S:SS) (k:KS ρ):Option ρ:=
 eH N T (wh N T n) b S fun ex S=>match ex with
  | .nm=>if pU live S then k .nm (iX live S)else none
  |ex=>k ex S
universe u
def look? {α:Type u}:List (Nat×α)→Nat→Option α
 | [],_=>none
 |(k,v)::l,n=>if k=n then some v else look? l n
end Go.Am
set_option linter.unusedSimpArgs false
namespace Go.Am
def RE:(s:Sh)→aN s→List AV→Prop
 | .i k,n,cs=>cs= [.int k n]
 | .b,b,cs=>cs= [.bl b]
 | .s,s,cs=>cs= [.st s]
 | .row e,ts,cs=>∃w,cs= [w]∧((∃es,w= .ls e.sz es∧All2 (RE e) ts es)∨(ts= []∧(w= .ns∨w= .ez)))
 | .nil,_,cs=>cs= []
 | .cons a b,x,cs=>∃c1 c2,cs=c1++c2∧RE a x.1 c1∧RE b x.2 c2
def RL (s:Sh) (ts:List (aN s)) (w:AV):Prop:=(∃es,w= .ls s.sz es∧All2 (RE s) ts es)∨(ts= []∧(w= .ns∨w= .ez))
def RC:SV→AV→Prop
 | .a v,w=>v=w∧lJ v=true
 | .ls s ts,w=>RL s ts w
 | .ri s ts i off,w=>∃es,w= .ri s.sz es i off∧All2 (RE s) ts es
 | .ow s ts,w=>∃es,w= .ow s.sz es∧All2 (RE s) ts es
 | .nz,w=>w= .ns∨w= .ez
 |_,_=>False
def RW:SV→AV→Prop
 | .ag cs,w=>∃ws,w= .ag ws∧All2 RC cs ws
 |v,w=>RC v w
def RV:SV→AV→Prop
 | .tp vs,w=>∃ws,w= .tp ws∧All2 RW vs ws
 | .uk,_=>True
 |v,w=>RW v w
def RG (g:Bool) (s:Sh) (d:aN s) (w:AV):Prop:=if g then∃cs,w= .ag cs∧RE s d cs else RE s d [w]
def RB:SB→BK→Prop
 | .vr sz cs t,x=>∃ws,x= .rw true sz [ws] t∧All2 RC cs ws
 | .row s ts t,x=>∃es,x= .rw false s.sz es t∧All2 (RE s) ts es
 | .ar s ts t,x=>s.sz=1∧∃ws,x= .rw true ws.length [ws] t∧All2 (fun d c=>RE s d [c]) ts ws
 | .mi k g s es,x=>∃l,x= .mp l∧All2 (fun(p:Int×aN s) (q:AV×AV)=>q.1= .int k p.1∧RG g s p.2 q.2) es l
 | .ms g s es,x=>∃l,x= .mp l∧All2 (fun(p:ByteArray×aN s) (q:AV×AV)=>q.1= .st p.1∧RG g s p.2 q.2) es l
 | .ml es,x=>x= .mp es
 | .dd,x=>x= .dd
def RH (h:bM) (h':List (Nat×BK)):Prop:=All2 (fun p q=>p.1=q.1∧RB p.2 q.2) h h'
def RT (tm:SM) (tm':List (Nat×AV)):Prop:=∀t,RV (bA tm t) (look .ud tm' t)
def RM (tm':List (Nat×AV)):Prop:=∀t,gj≤t→look .ud tm' t= .ud
structure RS (S:SS) (S':St):Prop where
 tm:RT S.tm S'.tm
 mm:RM S'.tm
 h:RH S.h S'.h
 nx:S.nx=S'.nx
 bs:S.bs=S'.bs
section all2
variable {α β γ δ:Type} {R:α→β→Prop}
theorem All2.map2 {f:α→γ} {g:β→δ} {Q:γ→δ→Prop} (hf:∀a b,R a b→Q (f a) (g b)) {as:List α} {bs:List β} (h:All2 R as bs):All2 Q (as.map f) (bs.map g):=by
 induction h with
 |nil=>exact .nil
 |cons h1 _ ih=>exact .cons (hf _ _ h1) ih
theorem All2.set {as:List α} {bs:List β} (h:All2 R as bs) {a:α} {b:β} (hab:R a b):∀i,All2 R (as.set i a) (bs.set i b):=by
 induction h with
 |nil=>intro i;exact .nil
 |cons h1 h2 ih=>intro i;cases i with
  |zero=>exact .cons hab h2
  |succ i=>exact .cons h1 (ih i)
theorem All2.rep {a:α} {b:β} (hab:R a b):∀n,All2 R (List.replicate n a) (List.replicate n b)
 |0=>.nil
 |n+1=>.cons hab (All2.rep hab n)
theorem All2.app_inv {as1 as2:List α}:∀{bs:List β},All2 R (as1++as2) bs→∃b1 b2,bs=b1++b2∧All2 R as1 b1∧All2 R as2 b2:=by
 induction as1 with
 |nil=>intro bs h;exact⟨[],bs,rfl,.nil,h⟩
 |cons a as1 ih=>
  intro bs h
  cases h with
  |cons h1 h2=>
   obtain⟨b1,b2,rfl,h3,h4⟩:=ih h2
   exact⟨_::b1,b2,rfl,.cons h1 h3,h4⟩
theorem All2.one {a:α} {bs:List β} (h:All2 R [a] bs):∃b,bs= [b]∧R a b:=by
 cases h with
 |cons h1 h2=>cases h2;exact⟨_,rfl,h1⟩
theorem All2.getD {as:List α} {bs:List β} (h:All2 R as bs) {i:Nat} (hi:i<as.length) (d:α):∃b,bs[i]? =some b∧R (as.getD i d) b:=by
 have h1:as[i]? =some as[i]:=List.getElem?_eq_getElem hi
 obtain⟨b,hb,hr⟩:=h.get i _ h1
 exact⟨b,hb,by rw [List.getD_eq_getElem?_getD,h1];exact hr⟩
theorem All2.flat {f:α→List γ} {g:β→List δ} {Q:γ→δ→Prop} (hf:∀a b,R a b→All2 Q (f a) (g b)) {as:List α} {bs:List β} (h:All2 R as bs):All2 Q (as.flatMap f) (bs.flatMap g):=by
 induction h with
 |nil=>exact .nil
 |cons h1 _ ih=>simp only [List.flatMap_cons];exact(hf _ _ h1).append ih
theorem All2.flatEq {f:α→List γ} {g:β→List γ} (hf:∀a b,R a b→f a=g b) {as:List α} {bs:List β} (h:All2 R as bs):as.flatMap f=bs.flatMap g:=by
 induction h with
 |nil=>rfl
 |cons h1 _ ih=>simp only [List.flatMap_cons,hf _ _ h1,ih]
end all2
theorem ij:∀{s:Sh} {x:aN s} {cs:List AV},RE s x cs→cs.length=s.sz
 | .i _,_,_,h=>by cases h;rfl
 | .b,_,_,h=>by cases h;rfl
 | .s,_,_,h=>by cases h;rfl
 | .row _,_,_,h=>by obtain⟨w,rfl,_⟩:=h;rfl
 | .nil,_,_,h=>by cases h;rfl
 | .cons a b,_,_,h=>by obtain⟨c1,c2,rfl,h1,h2⟩:=h;simp [Sh.sz,ij h1,ij h2]
theorem uB:∀{s:Sh} {x y:aN s} {cs:List AV},RE s x cs→RE s y cs→x=y
 | .i _,_,_,_,h,h'=>by cases h;simp [RE]at h';exact h'
 | .b,_,_,_,h,h'=>by cases h;simp [RE]at h';exact h'
 | .s,_,_,_,h,h'=>by cases h;simp [RE]at h';exact h'
 | .row e,x,y,_,h,h'=>by
  obtain⟨w,rfl,h⟩:=h
  obtain⟨w',hw,h'⟩:=h'
  simp only [List.cons.injEq,and_true]at hw
  subst hw
  rcases h with⟨es,rfl,h1⟩|⟨hx,rfl|rfl⟩
  ·rcases h' with⟨es',he,h2⟩|⟨_,h3|h3⟩
   ·injection he with _ he;subst he
    have aux:∀{xs ys:List (aN e)} {es:List (List AV)},All2 (RE e) xs es→All2 (RE e) ys es→xs=ys:=by
     intro xs ys es h1
     induction h1 generalizing ys with
     |nil=>intro h2;cases h2;rfl
     |cons h3 _ ih=>intro h2;cases h2 with
      |cons h4 h5=>rw [uB h3 h4,ih h5]
    exact aux h1 h2
   ·cases h3
   ·cases h3
  ·rcases h' with⟨es',he,h2⟩|⟨h3,_⟩
   ·cases he
   ·subst hx h3;rfl
  ·rcases h' with⟨es',he,h2⟩|⟨h3,_⟩
   ·cases he
   ·subst hx h3;rfl
 | .nil,_,_,_,_,_=>rfl
 | .cons a b,x,y,_,h,h'=>by
  obtain⟨c1,c2,rfl,h1,h2⟩:=h
  obtain⟨d1,d2,he,h3,h4⟩:=h'
  have hl:c1.length=d1.length:=by rw [ij h1,ij h3]
  obtain⟨rfl,rfl⟩:=List.append_inj he hl
  exact Prod.ext (uB h1 h3) (uB h2 h4)
theorem gR:∀{s:Sh} {x:aN s} {cs:List AV},RE s x cs→All2 RC (iA s x) cs
 | .i _,_,_,h=>by cases h;exact .cons ⟨rfl,rfl⟩ .nil
 | .b,_,_,h=>by cases h;exact .cons ⟨rfl,rfl⟩ .nil
 | .s,_,_,h=>by cases h;exact .cons ⟨rfl,rfl⟩ .nil
 | .row e,_,_,h=>by obtain⟨w,rfl,h⟩:=h;exact .cons h .nil
 | .nil,_,_,h=>by cases h;exact .nil
 | .cons a b,_,_,h=>by obtain⟨c1,c2,rfl,h1,h2⟩:=h;exact(gR h1).append (gR h2)
theorem Ep:∀{s:Sh} {x:aN s} {cs:List AV},All2 RC (iA s x) cs→RE s x cs
 | .i _,_,_,h=>by obtain⟨b,hb,h1,_⟩:=All2.one h;subst h1;exact hb
 | .b,_,_,h=>by obtain⟨b,hb,h1,_⟩:=All2.one h;subst h1;exact hb
 | .s,_,_,h=>by obtain⟨b,hb,h1,_⟩:=All2.one h;subst h1;exact hb
 | .row e,_,_,h=>by obtain⟨b,hb,h1⟩:=All2.one h;exact⟨b,hb,h1⟩
 | .nil,_,_,h=>by cases h;rfl
 | .cons a b,_,_,h=>by obtain⟨c1,c2,rfl,h1,h2⟩:=All2.app_inv h;exact⟨c1,c2,rfl,Ep h1,Ep h2⟩
theorem As:∀{s:Sh} {l:List SV} {x:aN s} {r:List SV} {ws:List AV},gu s l=some (x,r)→All2 RC l ws→∃c1 c2,ws=c1++c2∧RE s x c1∧All2 RC r c2
 | .i k,l,x,r,ws,h,hl=>by
  simp only [gu]at h
  split at h
  ·simp only [Option.ite_none_right_eq_some,Option.some.injEq,Prod.mk.injEq]at h
   obtain⟨rfl,rfl,rfl⟩:=h
   cases hl with
   |cons h1 h2=>obtain⟨rfl,_⟩:=h1;exact⟨[_],_,rfl,rfl,h2⟩
  ·cases h
 | .b,l,x,r,ws,h,hl=>by
  simp only [gu]at h
  split at h
  ·simp only [Option.some.injEq,Prod.mk.injEq]at h
   obtain⟨rfl,rfl⟩:=h
   cases hl with
   |cons h1 h2=>obtain⟨rfl,_⟩:=h1;exact⟨[_],_,rfl,rfl,h2⟩
  ·cases h
 | .s,l,x,r,ws,h,hl=>by
  simp only [gu]at h
  split at h
  ·simp only [Option.some.injEq,Prod.mk.injEq]at h
   obtain⟨rfl,rfl⟩:=h
   cases hl with
   |cons h1 h2=>obtain⟨rfl,_⟩:=h1;exact⟨[_],_,rfl,rfl,h2⟩
  ·cases h
 | .row e,l,x,r,ws,h,hl=>by
  simp only [gu]at h
  split at h
  ·split at h
   ·rename_i he
    subst he
    simp only [Option.some.injEq,Prod.mk.injEq]at h
    obtain⟨rfl,rfl⟩:=h
    cases hl with
    |cons h1 h2=>exact⟨[_],_,rfl,⟨_,rfl,h1⟩,h2⟩
   ·cases h
  ·simp only [Option.some.injEq,Prod.mk.injEq]at h
   obtain⟨rfl,rfl⟩:=h
   cases hl with
   |cons h1 h2=>obtain⟨rfl,_⟩:=h1;exact⟨[_],_,rfl,⟨_,rfl,.inr ⟨rfl,.inl rfl⟩⟩,h2⟩
  ·simp only [Option.some.injEq,Prod.mk.injEq]at h
   obtain⟨rfl,rfl⟩:=h
   cases hl with
   |cons h1 h2=>obtain⟨rfl,_⟩:=h1;exact⟨[_],_,rfl,⟨_,rfl,.inr ⟨rfl,.inr rfl⟩⟩,h2⟩
  ·simp only [Option.some.injEq,Prod.mk.injEq]at h
   obtain⟨rfl,rfl⟩:=h
   cases hl with
   |cons h1 h2=>exact⟨[_],_,rfl,⟨_,rfl,.inr ⟨rfl,h1⟩⟩,h2⟩
  ·cases h
 | .nil,l,x,r,ws,h,hl=>by
  simp only [gu,Option.some.injEq,Prod.mk.injEq]at h
  obtain⟨_,rfl⟩:=h
  exact⟨[],ws,rfl,rfl,hl⟩
 | .cons a b,l,x,r,ws,h,hl=>by
  simp only [gu,Option.bind_eq_some_iff,Option.some.injEq,Prod.mk.injEq]at h
  obtain⟨⟨p1,p2⟩,hp,⟨q1,q2⟩,hq,rfl,rfl⟩:=h
  obtain⟨c1,c2,rfl,h1,h2⟩:=As hp hl
  obtain⟨c3,c4,rfl,h3,h4⟩:=As hq h2
  exact⟨c1++c3,c4,by simp,⟨c1,c3,rfl,h1,h3⟩,h4⟩
theorem eI {s:Sh} {l:List SV} {x:aN s} {ws:List AV} (h:cX s l=some x) (hl:All2 RC l ws):RE s x ws:=by
 unfold cX at h
 simp only [Option.bind_eq_some_iff]at h
 obtain⟨⟨p1,p2⟩,hp,h⟩:=h
 obtain⟨c1,c2,rfl,h1,h2⟩:=As hp hl
 cases p2 with
 |cons _ _=>simp at h
 |nil=>simp only [Option.some.injEq]at h;subst h;cases h2;simpa using h1
theorem mU {s:Sh} {ts:List (aN s)} {w:AV} (h:RL s ts w):cI w= []∧(∀p q,iP p q w=w)∧(∀cs,w≠ .ag cs)∧(∀cs,w≠ .tp cs)∧w≠ .ud:=by
 rcases h with⟨es,rfl,_⟩|⟨_,rfl|rfl⟩<;>refine⟨rfl,fun _ _=>rfl,?_,?_,?_⟩<;>intros<;>intro hh<;>cases hh
theorem pV:∀{v:SV} {w:AV},RC v w→rm v=cI w
 | .a v,w,h=>by obtain⟨rfl,_⟩:=h;rfl
 | .ls s ts,w,h=>(mU h).1.symm
 | .ri s ts i off,w,h=>by obtain⟨es,rfl,_⟩:=h;rfl
 | .ow s ts,w,h=>by obtain⟨es,rfl,_⟩:=h;rfl
 | .nz,w,h=>by rcases h with rfl|rfl<;>rfl
 | .ag _,_,h=>h.elim
 | .tp _,_,h=>h.elim
 | .uk,_,h=>h.elim
theorem Im (p:Nat→Bool) (q:Nat→Nat):∀{v:SV} {w:AV},RC v w→RC (Ib p q v) (iP p q w)
 | .a v,w,h=>by
  obtain⟨rfl,hc⟩:=h
  refine⟨rfl,?_⟩
  unfold iP
  split
  ·cases v<;>first|rfl|exact hc
  ·rfl
 | .ls s ts,w,h=>by rw [(mU h).2.1];exact h
 | .ri s ts i off,w,h=>by obtain⟨es,rfl,h⟩:=h;exact⟨es,rfl,h⟩
 | .ow s ts,w,h=>by obtain⟨es,rfl,h⟩:=h;exact⟨rfl,rfl⟩
 | .nz,w,h=>by rcases h with rfl|rfl;exact .inl rfl;exact .inr rfl
 | .ag _,_,h=>h.elim
 | .tp _,_,h=>h.elim
 | .uk,_,h=>h.elim
theorem dh:∀{v:SV} {w:AV},RC v w→(∀cs,w≠ .ag cs)∧(∀cs,w≠ .tp cs)
 | .a v,w,h=>by
  obtain⟨rfl,hc⟩:=h
  constructor<;>(intro cs hh;subst hh;simp [lJ]at hc)
 | .ls s ts,w,h=>⟨(mU h).2.2.1,(mU h).2.2.2.1⟩
 | .ri s ts i off,w,h=>by obtain⟨es,rfl,_⟩:=h;constructor<;>(intro cs hh;cases hh)
 | .ow s ts,w,h=>by obtain⟨es,rfl,_⟩:=h;constructor<;>(intro cs hh;cases hh)
 | .nz,w,h=>by rcases h with rfl|rfl<;>(constructor<;>(intro cs hh;cases hh))
 | .ag _,_,h=>h.elim
 | .tp _,_,h=>h.elim
 | .uk,_,h=>h.elim
theorem In {w:AV} (h:(∀cs,w≠ .ag cs)∧(∀cs,w≠ .tp cs)):bP w=cI w:=by
 cases w<;>first|rfl|exact absurd rfl (h.1 _)|exact absurd rfl (h.2 _)
theorem Nt {p:Nat→Bool} {q:Nat→Nat} {w:AV} (h:(∀cs,w≠ .ag cs)∧(∀cs,w≠ .tp cs)):gn p q w=iP p q w:=by
 cases w<;>first|rfl|exact absurd rfl (h.1 _)|exact absurd rfl (h.2 _)
theorem Er {p:Nat→Bool} {q:Nat→Nat} {w:AV} (h:(∀cs,w≠ .ag cs)∧(∀cs,w≠ .tp cs)):rU p q w=iP p q w:=by
 cases w<;>first|rfl|exact absurd rfl (h.1 _)|exact absurd rfl (h.2 _)
theorem RC.toW:∀{v:SV} {w:AV},RC v w→RW v w
 | .a _,_,h=>h
 | .ls _ _,_,h=>h
 | .ri _ _ _ _,_,h=>h
 | .ow _ _,_,h=>h
 | .nz,_,h=>h
 | .ag _,_,h=>h.elim
 | .tp _,_,h=>h.elim
 | .uk,_,h=>h.elim
theorem RW.toV:∀{v:SV} {w:AV},RW v w→RV v w
 | .a _,_,h=>h
 | .ls _ _,_,h=>h
 | .ri _ _ _ _,_,h=>h
 | .ow _ _,_,h=>h
 | .nz,_,h=>h
 | .ag _,_,h=>h
 | .tp _,_,h=>h.elim
 | .uk,_,h=>trivial
theorem RC.toV {v:SV} {w:AV} (h:RC v w):RV v w:=h.toW.toV
theorem eM {v:SV} {w:AV} (h:RW v w):(∃cs ws,v= .ag cs∧w= .ag ws∧All2 RC cs ws)∨RC v w:=by
 cases v with
 |ag cs=>obtain⟨ws,rfl,h⟩:=h;exact .inl ⟨cs,ws,rfl,rfl,h⟩
 |_=>exact .inr h
theorem kc {v:SV} {w:AV} (h:RV v w):(v= .uk)∨(∃cs ws,v= .tp cs∧w= .tp ws∧All2 RW cs ws)∨RW v w:=by
 cases v with
 |tp cs=>obtain⟨ws,rfl,h⟩:=h;exact .inr (.inl ⟨cs,ws,rfl,rfl,h⟩)
 |uk=>exact .inl rfl
 |_=>exact .inr (.inr h)
theorem GJ {v:SV} {w:AV} (h:RW v w):Cz v=bP w:=by
 rcases eM h with⟨cs,ws,rfl,rfl,h1⟩|h
 ·exact h1.flatEq fun _ _ h=>pV h
 ·have h2:=pV h
  have h3:=dh h
  rw [In h3,←h2]
  cases v<;>first|rfl|exact h.elim
theorem TV {w:AV}:(∀cs,w≠ .tp cs)→(match w with| .ag cs=>cs.flatMap cI|v=>cI v)=bP w:=fun h=>by
 cases w<;>first|rfl|exact absurd rfl (h _)
theorem ke {v:SV} {w:AV} (h:RV v w) (hu:cJ v=false):dE v=bP w:=by
 rcases kc h with rfl|⟨cs,ws,rfl,rfl,h1⟩|h
 ·simp [cJ]at hu
 ·have:∀a b,RW a b→Cz a=(match b with| .ag cs=>cs.flatMap cI|v=>cI v):=fun a b hab=>by
   rcases eM hab with⟨cs,ws,rfl,rfl,h1⟩|h
   ·exact h1.flatEq fun _ _ h=>pV h
   ·have h3:=dh h
    rw [TV h3.2]
    exact GJ h.toW
  exact h1.flatEq this
 ·have:=GJ h
  rw [←this]
  cases v<;>first|rfl|exact h.elim
theorem OU (p:Nat→Bool) (q:Nat→Nat) {v:SV} {w:AV} (h:RW v w):RW (Nk p q v) (rU p q w):=by
 rcases eM h with⟨cs,ws,rfl,rfl,h1⟩|h
 ·exact⟨_,rfl,h1.map2 fun _ _ h=>Im p q h⟩
 ·rw [Er (dh h)]
  have:=(Im p q h).toW
  cases v<;>first|exact this|exact h.elim
theorem yy (p:Nat→Bool) (q:Nat→Nat) {v:SV} {w:AV} (h:RV v w):RV (nB p q v) (gn p q w):=by
 rcases kc h with rfl|⟨cs,ws,rfl,rfl,h1⟩|h
 ·trivial
 ·exact⟨_,rfl,h1.map2 fun _ _ h=>OU p q h⟩
 ·have h2:=(OU p q h).toV
  have h3:gn p q w=rU p q w:=by
   rcases eM h with⟨cs,ws,rfl,rfl,h⟩|h
   ·rfl
   ·rw [Nt (dh h),Er (dh h)]
  rw [h3]
  cases v<;>first|exact h2|exact h.elim
theorem cZ {h:bM} {h':List (Nat×BK)} (hh:RH h h') (b:Nat):RB (cU h b) (aW h' b):=by
 induction hh with
 |nil=>rfl
 | @cons p q _ _ h1 _ ih=>
  obtain⟨k,x⟩:=p
  obtain⟨k',y⟩:=q
  obtain⟨h2,h3⟩:=h1
  simp only at h2 h3
  subst h2
  simp only [cU,aW,look]
  split
  ·exact h3
  ·exact ih
theorem dY {h:bM} {h':List (Nat×BK)} (hh:RH h h') {x:SB} {y:BK} (hx:RB x y) (b:Nat):RH (fw h b x) (put h' b y):=by
 induction hh with
 |nil=>exact .cons ⟨rfl,hx⟩ .nil
 | @cons p q _ _ h1 h4 ih=>
  obtain⟨k,x'⟩:=p
  obtain⟨k',y'⟩:=q
  obtain⟨h2,h3⟩:=h1
  simp only at h2 h3
  subst h2
  simp only [fw,put]
  split
  ·exact .cons ⟨rfl,hx⟩ h4
  ·exact .cons ⟨rfl,h3⟩ ih
theorem pW {h:bM} {h':List (Nat×BK)} (hh:RH h h'):∀l,RH (mL h l) (kill h' l)
 | []=>hh
 |b::l=>by simp only [mL,kill];exact dY (pW hh l) (x:=.dd) (y:=.dd) rfl b
theorem OV {x:SB} {y:BK} (h:RB x y):(x= .dd↔y= .dd):=by
 cases x with
 |dd=>cases h;simp
 |vr sz cs t=>obtain⟨ws,rfl,_⟩:=h;simp
 |row s ts t=>obtain⟨ws,rfl,_⟩:=h;simp
 |ar s ts t=>obtain⟨_,ws,rfl,_⟩:=h;simp
 |mi k g s es=>obtain⟨ws,rfl,_⟩:=h;simp
 |ms g s es=>obtain⟨ws,rfl,_⟩:=h;simp
 |ml es=>cases h;simp
theorem fx {h:bM} {h':List (Nat×BK)} (hh:RH h h') (b:Nat):ic h b=alive h' b:=by
 have:=OV (cZ hh b)
 unfold ic alive
 cases h1:cU h b<;>cases h2:aW h' b<;>simp_all
theorem CL:∀{s:Sh} {d:aN s} {c:AV},RE s d [c]→cI c= []∧(∀p q,iP p q c=c)
 | .i _,_,_,h=>by simp [RE]at h;subst h;exact⟨rfl,fun _ _=>rfl⟩
 | .b,_,_,h=>by simp [RE]at h;subst h;exact⟨rfl,fun _ _=>rfl⟩
 | .s,_,_,h=>by simp [RE]at h;subst h;exact⟨rfl,fun _ _=>rfl⟩
 | .row _,_,_,h=>by
  obtain⟨w,hw,h⟩:=h
  simp only [List.cons.injEq,and_true]at hw
  subst hw
  exact⟨(mU h).1,(mU h).2.1⟩
 | .nil,_,_,h=>by simp [RE]at h
 | .cons a b,x,c,h=>by
  obtain⟨c1,c2,he,h1,h2⟩:=h
  cases c1 with
  |nil=>simp only [List.nil_append]at he;subst he;exact CL h2
  |cons c0 c1=>
   simp only [List.cons_append,List.cons.injEq]at he
   obtain⟨rfl,he⟩:=he
   have:c1= []∧c2= []:=by simpa [eq_comm]using he
   obtain⟨rfl,rfl⟩:=this
   exact CL h1
theorem Sl {s:Sh} {ts:List (aN s)} {ws:List AV} (h:All2 (fun d c=>RE s d [c]) ts ws):ws.flatMap cI= []:=by
 induction h with
 |nil=>rfl
 |cons h1 _ ih=>simp only [List.flatMap_cons,(CL h1).1,List.nil_append,ih]
theorem aa5 (p:Nat→Bool) (q:Nat→Nat) {s:Sh} {ts:List (aN s)} {ws:List AV} (h:All2 (fun d c=>RE s d [c]) ts ws):ws.map (iP p q)=ws:=by
 induction h with
 |nil=>rfl
 |cons h1 _ ih=>simp only [List.map_cons,(CL h1).2,ih]
theorem GK {x:SB} {y:BK} (h:RB x y):ef (vW x)=ef y:=by
 cases x with
 |dd=>cases h;rfl
 |vr sz cs t=>
  obtain⟨ws,rfl,h⟩:=h
  simp only [vW,ef,List.flatMap_cons,List.flatMap_nil,List.append_nil]
  have:(cs.map OO).flatMap cI=cs.flatMap rm:=by
   rw [List.flatMap_map]
   congr 1
   funext v
   cases v<;>rfl
  rw [this]
  exact h.flatEq fun _ _ h=>pV h
 |row s ts t=>obtain⟨ws,rfl,_⟩:=h;rfl
 |ar s ts t=>
  obtain⟨_,ws,rfl,h⟩:=h
  simp only [vW,ef,List.flatMap_cons,List.flatMap_nil,List.append_nil]
  exact(Sl h).symm
 |mi k g s es=>obtain⟨ws,rfl,_⟩:=h;rfl
 |ms g s es=>obtain⟨ws,rfl,_⟩:=h;rfl
 |ml es=>cases h;rfl
theorem yz (p:Nat→Bool) (q:Nat→Nat) {x:SB} {y:BK} (h:RB x y):RB (ro p q x) (gX p q y):=by
 cases x with
 |dd=>cases h;rfl
 |vr sz cs t=>obtain⟨ws,rfl,h⟩:=h;exact⟨_,rfl,h.map2 fun _ _ h=>Im p q h⟩
 |row s ts t=>obtain⟨ws,rfl,h⟩:=h;exact⟨ws,rfl,h⟩
 |ar s ts t=>
  obtain⟨h0,ws,rfl,h⟩:=h
  refine⟨h0,ws,?_,h⟩
  simp only [gX,List.map_cons,List.map_nil,aa5 p q h]
 |mi k g s es=>obtain⟨ws,rfl,h⟩:=h;exact⟨ws,rfl,h⟩
 |ms g s es=>obtain⟨ws,rfl,h⟩:=h;exact⟨ws,rfl,h⟩
 |ml es=>cases h;rfl
theorem Es (h:bM) (b:Nat):aW (jX h) b=vW (cU h b):=by
 induction h with
 |nil=>rfl
 |cons p l ih=>
  obtain⟨k,x⟩:=p
  simp only [jX,List.map_cons,aW,look,cU]
  split
  ·rfl
  ·exact ih
theorem pv {h1 h2:List (Nat×BK)} (hr:∀b,ef (aW h1 b)=ef (aW h2 b)) (hd:∀b,aW h1 b= .dd↔aW h2 b= .dd) (bs:Nat):∀(n:Nat) (todo seen:List Nat),gh h1 bs n todo seen=gh h2 bs n todo seen
 |0,_,_=>rfl
 |n+1,[],_=>rfl
 |n+1,b::todo,seen=>by
  simp only [gh]
  split
  ·exact pv hr hd bs n todo seen
  ·have h3:=hr b
   have h4:=hd b
   cases hb1:aW h1 b<;>cases hb2:aW h2 b<;>simp_all only [pv hr hd bs n,reduceCtorEq,iff_true,iff_false,true_iff,false_iff,not_true_eq_false,not_false_eq_true]
theorem oV {h1 h2:List (Nat×BK)} (hr:∀b,ef (aW h1 b)=ef (aW h2 b)):∀(n:Nat) (todo seen:List Nat),lD h1 n todo seen=lD h2 n todo seen
 |0,_,_=>rfl
 |n+1,[],_=>rfl
 |n+1,b::todo,seen=>by
  simp only [lD,hr]
  split
  ·exact oV hr n todo seen
  ·exact oV hr n _ _
theorem uC {h:bM} {h':List (Nat×BK)} (hh:RH h h') (b:Nat):ef (aW (jX h) b)=ef (aW h' b):=by rw [Es];exact GK (cZ hh b)
theorem Sm {h:bM} {h':List (Nat×BK)} (hh:RH h h') (b:Nat):aW (jX h) b= .dd↔aW h' b= .dd:=by
 rw [Es]
 have:=OV (cZ hh b)
 rw [←this]
 cases cU h b<;>simp [vW]
theorem KO {h:bM} {h':List (Nat×BK)} (hh:RH h h') (n:Nat):RH (h.filter fun p=>decide (p.1<n)) (h'.filter fun p=>decide (p.1<n)):=by
 induction hh with
 |nil=>exact .nil
 |cons h1 _ ih=>
  simp only [List.filter_cons,h1.1]
  split
  ·exact .cons h1 ih
  ·exact ih
theorem Nu (p:Nat→Bool) (q:Nat→Nat) {h:bM} {h':List (Nat×BK)} (hh:RH h h'):RH (h.map fun x=>(x.1,ro p q x.2)) (h'.map fun x=>(x.1,gX p q x.2)):=
 hh.map2 fun _ _ h=>⟨h.1,yz p q h.2⟩
theorem KP {f:Nat→SB} {g:Nat→BK} (hf:∀b,RB (f b) (g b)):∀(l:List Nat) (n:Nat),RH (Nl f n l) (wE g n l)
 | [],_=>.nil
 |b::l,n=>.cons ⟨rfl,hf b⟩ (KP hf l (n+1))
theorem uD {h1 h2:bM} {h1' h2':List (Nat×BK)} (a:RH h1 h1') (b:RH h2 h2'):RH (h1++h2) (h1'++h2'):=All2.append a b
theorem At {f:Nat→SB} {g:Nat→BK} (hf:∀b,RB (f b) (g b)) {h:bM} {h':List (Nat×BK)} (hh:RH h h'):∀l,RH (vY h f l) (over h' g l)
 | []=>hh
 |b::l=>dY (At hf hh l) (hf b) b
theorem Et {h:bM} {h':List (Nat×BK)} (hh:RH h h') (U A:List Nat):RH (vX h U A) (gV h' U A):=by
 unfold vX gV RH
 induction A with
 |nil=>exact .nil
 |cons b A ih=>exact .cons ⟨rfl,yz _ _ (cZ hh b)⟩ ih
theorem Eu {f:Nat→SV} {g:Nat→AV} (hf:∀t,RV (f t) (g t)):∀(l:List Nat) (t:Nat),RV (bA (l.map fun t=>(t,f t)) t) (look .ud (l.map fun t=>(t,g t)) t)
 | [],t=>⟨rfl,rfl⟩
 |a::l,t=>by
  simp only [List.map_cons,bA,look]
  split
  ·rename_i h;subst h;exact hf a
  ·split
   ·trivial
   ·exact Eu hf l t
theorem BR {live:List Nat} {S:SS} {S':St} (hs:RS S S') (hl:pU live S=true) (hm:gj≤dX live∨live= []):RS (iX live S) (dJ live S'):=by
 have hbs:=hs.bs
 have hrefs:∀l:List Nat,pU l S=true→(gj≤dX l∨l= [])→(l.flatMap fun t=>dE (bA S.tm t))=l.flatMap fun t=>bP (look .ud S'.tm t):=by
  intro l
  induction l with
  |nil=>intro _ _;rfl
  |cons a l ih=>
   intro h1 h2
   cases l with
   |nil=>
    simp only [List.flatMap_cons,List.flatMap_nil,List.append_nil]
    rcases h2 with h2|h2
    ·have h3:=hs.mm a h2
     have h4:=hs.tm a
     rw [h3]at h4⊢
     cases hv:bA S.tm a with
     |uk=>rfl
     |_=>rw [hv]at h4;exact ke h4 rfl
    ·cases h2
   |cons b l=>
    simp only [pU,Bool.and_eq_true,Bool.not_eq_true']at h1
    have h3:=ih h1.2 (.inl (by rcases h2 with h2|h2;exact h2;cases h2))
    simp only [List.flatMap_cons]at h3⊢
    rw [h3,ke (hs.tm a) h1.1]
 have hold:=KO hs.h S.bs
 have hreach:gh (jX S.h) S.bs 4096 (live.flatMap (fun t=>dE (bA S.tm t))++(jX (S.h.filter fun p=>decide (p.1<S.bs))).flatMap fun p=>ef p.2) []=
   gh S'.h S.bs 4096 (live.flatMap (fun t=>bP (look .ud S'.tm t))++(S'.h.filter fun p=>decide (p.1<S.bs)).flatMap fun p=>ef p.2) []:=by
  rw [hrefs live hl hm,pv (uC hs.h) (Sm hs.h)]
  congr 2
  unfold jX
  rw [List.flatMap_map]
  exact hold.flatEq fun _ _ h=>GK h.2
 refine⟨?_,?_,?_,?_,?_⟩
 ·unfold iX dJ
  simp only [←hbs,hreach]
  exact fun t=>Eu (fun t=>by
   by_cases ht:gj≤t
   ·simp only [ht,if_true,hs.mm t ht];exact⟨rfl,rfl⟩
   ·simp only [ht,if_false];exact yy _ _ (hs.tm t)) live t
 ·intro t ht
  unfold dJ
  simp only
  rw [lI]
  split
  ·rw [hs.mm t ht];rfl
  ·rfl
 ·unfold iX dJ
  simp only [←hbs,hreach]
  exact uD (Nu _ _ hold) (KP (fun b=>yz _ _ (cZ hs.h b)) _ _)
 ·unfold iX dJ
  simp only [←hbs,hreach]
 ·unfold iX dJ
  exact hbs
section
variable {ρ:Type} {r:ρ} {h:bM} {h':List (Nat×BK)} {tm:SM} {tm':List (Nat×AV)} {nx:Nat} {g:Cfg}
theorem er {b:Bool} {x y:Option ρ} (hb:(aI ρ).br b x y=some r):(b=true∧x=some r)∨(b=false∧y=some r):=by
 cases b
 ·exact .inr ⟨rfl,hb⟩
 ·exact .inl ⟨rfl,hb⟩
theorem gk {b:Bool} {x:Option ρ} (hb:(aI ρ).br b x none=some r):b=true∧x=some r:=by
 rcases er hb with h|⟨_,h⟩
 ·exact h
 ·cases h
theorem ry {b:Bool} {x:Option ρ} (hb:(aI ρ).br b none x=some r):b=false∧x=some r:=by
 rcases er hb with⟨_,h⟩|h
 ·cases h
 ·exact h
theorem rz {z:List AV} {l:List SV} (h:zS z=some l):All2 RC l z:=by
 unfold zS at h
 split at h
 ·rename_i hz
  simp at h;subst h
  induction z with
  |nil=>exact .nil
  |cons c z ih=>simp only [List.all_cons,Bool.and_eq_true]at hz;exact .cons ⟨rfl,hz.1⟩ (ih hz.2)
 ·cases h
theorem wi (v:AV):RV (nA v) v:=by
 cases v<;>first
  |exact⟨rfl,rfl⟩
  |trivial
  |skip
 rename_i cs
 show RV (match zS cs with
  |some l=>SV.ag l
  |none=>SV.uk) (.ag cs)
 cases hz:zS cs with
 |some l=>exact⟨cs,rfl,rz hz⟩
 |none=>trivial
theorem bt (ht:RT tm tm'):∀x:Opd,RV (bz tm x) (rd tm' x)
 | .t n=>ht n
 | .c v=>wi v
theorem ik {v:SV} {w:AV} {cs:List SV} (hv:RV v w) (hc:bH v=some cs):∃ws,cellsOf w=some ws∧All2 RC cs ws:=by
  cases v with
  |a u=>
    obtain⟨rfl,hcell⟩:=hv
    unfold bH at hc
    cases u<;>first|(simp at hc;done)|(simp at hc;subst hc;exact⟨_,rfl,.cons ⟨rfl,rfl⟩ .nil⟩)
  | ls s ts=>
    simp [bH]at hc;subst hc
    rcases hv with⟨es,rfl,h⟩|⟨rfl,rfl|rfl⟩
    · exact⟨_,rfl,.cons (.inl ⟨es,rfl,h⟩) .nil⟩
    · exact⟨_,rfl,.cons (.inr ⟨rfl,.inl rfl⟩) .nil⟩
    · exact⟨_,rfl,.cons (.inr ⟨rfl,.inr rfl⟩) .nil⟩
  |ri s ts i off=>
    simp [bH]at hc;subst hc
    obtain⟨es,rfl,h⟩:=hv
    exact⟨_,rfl,.cons ⟨es,rfl,h⟩ .nil⟩
  |ow s ts=>simp [bH]at hc
  |nz=>
    simp [bH]at hc;subst hc
    rcases hv with rfl|rfl
    · exact⟨_,rfl,.cons (.inl rfl) .nil⟩
    · exact⟨_,rfl,.cons (.inr rfl) .nil⟩
  |ag cs=>simp [bH]at hc;subst hc;obtain⟨ws,rfl,h⟩:=hv;exact⟨ws,rfl,h⟩
  |tp vs=>simp [bH]at hc
  |uk=>simp [bH]at hc
theorem rA {cs new:List SV} {ws new':List AV} (h1:All2 RC cs ws) (h2:All2 RC new new') (off:Nat):All2 RC (mT cs new off) (dF ws new' off):=by
 unfold mT dF
 rw [←h2.length]
 exact((h1.take off).append h2).append (h1.drop _)
theorem uE (ht:RT tm tm'):∀{ps:List (Nat×Nat×Opd)} {z:List SV} {z':List AV} {cs:List SV},All2 RC z z'→lK z tm ps=some cs→∃ws,iy z' tm' ps=some ws∧All2 RC cs ws
 | [],z,z',cs,hz,h=>by simp [lK]at h;subst h;exact⟨z',rfl,hz⟩
 |(off,n,x)::ps,z,z',cs,hz,h=>by
  simp only [lK]at h
  split at h
  ·rename_i cx hcx
   split at h
   ·rename_i hlen
    obtain⟨ws,hw,hr⟩:=ik (bt ht x) hcx
    obtain⟨us,hu,hr2⟩:=uE ht (rA hz hr off) h
    refine⟨us,?_,hr2⟩
    simp only [iy,hw]
    rw [if_pos ⟨by rw [←hr.length];exact hlen.1,by rw [←hz.length];exact hlen.2⟩]
    exact hu
   ·cases h
  ·cases h
theorem BS {cs:List SV} {ws:List AV} {n:Option Nat} {v:SV} (hc:All2 RC cs ws) (h:dV cs n=some v):∃w,ip ws n=some w∧RV v w:=by
 cases n with
 |some n=>simp [dV]at h;subst h;exact⟨_,rfl,⟨ws,rfl,hc⟩⟩
 |none=>
  unfold dV at h
  simp only at h
  split at h
  ·simp at h;subst h
   obtain⟨w,rfl,hw⟩:=hc.one
   exact⟨w,rfl,hw.toV⟩
  ·cases h
theorem lM (hh:RH h h') {v:SV} {w:AV} {k:SV→Option ρ} (hv:RC v w) (hk:cY (aI ρ) h v k=some r):∃v1 w1,bO h' w=some w1∧RC v1 w1∧k v1=some r:=by
 cases v with
 |a u=>
  obtain⟨rfl,hcell⟩:=hv
  unfold cY at hk
  cases u<;>simp only at hk<;>first|(cases hk;done)|(exact⟨.a _,_,rfl,⟨rfl,rfl⟩,hk⟩)|skip
  rename_i sz b lo len
  split at hk
  ·rename_i s ts t hb
   split at hk
   ·rename_i hsz
    obtain⟨hle,hk⟩:=gk hk
    have hrb:=cZ hh b
    rw [hb]at hrb
    obtain⟨es,he,hr⟩:=hrb
    refine⟨.ls s ((ts.drop lo).take len),.ls sz ((es.drop lo).take len),?_,Or.inl ⟨_,by rw [hsz],(hr.drop lo).take len⟩,hk⟩
    simp only [bO,he]
    rw [if_pos ⟨hsz,by rw [←hr.length];simpa using hle⟩]
   ·cases hk
  ·cases hk
 |ls s ts=>
  unfold cY at hk
  refine⟨_,w,?_,hv,hk⟩
  rcases hv with⟨es,rfl,h⟩|⟨rfl,rfl|rfl⟩<;>rfl
 |ri s ts i off=>
  unfold cY at hk
  refine⟨_,w,?_,hv,hk⟩
  obtain⟨es,rfl,h⟩:=hv
  rfl
 |ow s ts=>simp [cY]at hk
 |nz=>
  unfold cY at hk
  refine⟨_,w,?_,hv,hk⟩
  rcases hv with rfl|rfl<;>rfl
 |ag cs=>simp [cY]at hk
 |tp vs=>simp [cY]at hk
 |uk=>simp [cY]at hk
theorem pw (hh:RH h h') {v:SV} {w:AV} {k:SV→Option ρ} (hv:RC v w) (hk:cY (aI ρ) h v k=some r):∃v1 w1,iN h' w=some w1∧RC v1 w1∧k v1=some r:=by
 obtain⟨v1,w1,h1,h2,h3⟩:=lM hh hv hk
 refine⟨v1,w1,?_,h2,h3⟩
 cases w<;>first|exact h1|(simp [bO]at h1;done)|skip
theorem gv {f:SV→(SV→Option ρ)→Option ρ} {f':AV→Option AV} {R R':SV→AV→Prop} (hf:∀v w k,R v w→f v k=some r→∃v1 w1,f' w=some w1∧R' v1 w1∧k v1=some r):
  ∀{cs:List SV} {ws:List AV} {k:List SV→Option ρ},All2 R cs ws→iY f cs k=some r→∃l l',fo f' ws=some l'∧All2 R' l l'∧k l=some r
 | [],_,k,h,hk=>by cases h;exact⟨[],[],rfl,.nil,hk⟩
 |c::cs,_,k,h,hk=>by
  cases h with
  |cons h1 h2=>
   simp only [iY]at hk
   obtain⟨v1,w1,h3,h4,h5⟩:=hf _ _ _ h1 hk
   obtain⟨l,l',h6,h7,h8⟩:=gv hf h2 h5
   exact⟨v1::l,w1::l',by simp only [fo,h3,h6],.cons h4 h7,h8⟩
theorem BT (hh:RH h h') {v:SV} {w:AV} {k:SV→Option ρ} (hv:RV v w) (hk:pT (aI ρ) h v k=some r):∃v1 w1,mE h' w=some w1∧RW v1 w1∧k v1=some r:=by
  have cell:∀{v:SV} {w:AV},RC v w→cY (aI ρ) h v k=some r→∃v1 w1,mE h' w=some w1∧RW v1 w1∧k v1=some r:=fun {v w} hv hk=>by
    obtain⟨v1,w1,h1,h2,h3⟩:=pw hh hv hk
    refine⟨v1,w1,?_,h2.toW,h3⟩
    have:=dh hv
    cases w<;>first|exact h1|exact absurd rfl (this.1 _)
  cases v with
  | ag cs=>
    obtain⟨ws,rfl,hv⟩:=hv
    simp only [pT]at hk
    obtain⟨l,l',h1,h2,h3⟩:=gv (R:=RC) (R':=RC) (f':=iN h') (fun v w k h1 h2=>pw hh h1 h2) hv hk
    exact⟨.ag l,.ag l',by simp [mE,h1],⟨l',rfl,h2⟩,h3⟩
  |tp vs=>simp [pT,cY]at hk
  |uk=>simp [pT,cY]at hk
  |a u=>exact cell (v:=.a u) hv hk
  |ls s ts=>exact cell (v:=.ls s ts) hv hk
  |ri s ts i off=>exact cell (v:=.ri s ts i off) hv hk
  |ow s ts=>exact cell (v:=.ow s ts) hv hk
  |nz=>exact cell (v:=.nz) hv hk
theorem jc {es:List (List AV)} {i off n:Nat} {e:List AV} (he:es[i]? =some e) (hl:off+n≤e.length):iG es i off n=some ((e.drop off).take n):=by
 simp only [iG,he]
 rw [if_pos hl]
theorem wK (hh:RH h h') {n:Nat} {v:SV} {w:AV} {k:List SV→Option ρ} (hv:RV v w) (hk:iB (aI ρ) h n v k=some r):∃cs ws,dy h' n w=some ws∧All2 RC cs ws∧k cs=some r:=by
 cases v with
 |a u=>
  obtain⟨rfl,hcell⟩:=hv
  cases u with
  |re sz b i off=>
   simp only [iB]at hk
   have hrb:=cZ hh b
   split at hk
   ·rename_i sz' cs t hb
    rw [hb]at hrb
    obtain⟨ws,he,hr⟩:=hrb
    split at hk
    ·rename_i hc
     obtain⟨rfl,rfl,hle⟩:=hc
     refine⟨_,_,?_,(hr.drop off).take n,hk⟩
     simp only [dy,he,if_true]
     exact jc rfl (by rw [←hr.length];exact hle)
    ·cases hk
   ·rename_i s ts t hb
    rw [hb]at hrb
    obtain⟨es,he,hr⟩:=hrb
    split at hk
    ·rename_i hc
     obtain⟨rfl,hle⟩:=hc
     obtain⟨hi,hk⟩:=gk hk
     obtain⟨e,h1,h2⟩:=hr.getD (by simpa using hi) (aa s)
     refine⟨_,_,?_,((gR h2).drop off).take n,hk⟩
     simp only [dy,he,if_true]
     exact jc h1 (by rw [ij h2];exact hle)
    ·cases hk
   ·rename_i s ts t hb
    rw [hb]at hrb
    obtain⟨hsz,ws,he,hr⟩:=hrb
    split at hk
    ·rename_i hc
     obtain⟨rfl,_,rfl⟩:=hc
     obtain⟨hi,hk⟩:=gk hk
     simp only [Bool.and_eq_true,decide_eq_true_eq]at hi
     obtain⟨e,h1,h2⟩:=hr.getD hi.1 (aa s)
     refine⟨_,[e],?_,gR h2,hk⟩
     have hlen:sz=ws.length:=by rw [hi.2,hr.length]
     have ho:=(List.getElem?_eq_some_iff.1 h1).1
     simp only [dy,he]
     rw [if_pos hlen,jc (e:=ws) rfl (by omega)]
     rw [List.drop_eq_getElem_cons ho,←(List.getElem?_eq_some_iff.1 h1).2]
     rfl
    ·cases hk
   ·cases hk
  |_=>simp [iB]at hk
 |ri s ts i off=>
  obtain⟨es,rfl,hr⟩:=hv
  simp only [iB]at hk
  split at hk
  ·rename_i hle
   obtain⟨hi,hk⟩:=gk hk
   obtain⟨e,h1,h2⟩:=hr.getD (by simpa using hi) (aa s)
   refine⟨_,_,?_,((gR h2).drop off).take n,hk⟩
   simp only [dy]
   exact jc h1 (by rw [ij h2];exact hle)
  ·cases hk
 |_=>simp [iB]at hk
theorem Nv {n:Option Nat} {v:SV} {w:AV} {ws:List AV} {cs:List SV} (hc:All2 RC cs ws) (hw:dy h' (n.getD 1) w=some ws) (hv:dV cs n=some v):∃u,eD h' n w=some u∧RV v u:=by
 cases n with
 |some n=>
  simp [dV]at hv;subst hv
  exact⟨.ag ws,by simp only [Option.getD_some]at hw;simp [eD,hw],⟨ws,rfl,hc⟩⟩
 |none=>
  unfold dV at hv
  simp only at hv
  split at hv
  ·simp at hv;subst hv
   obtain⟨u,rfl,hu⟩:=hc.one
   refine⟨u,?_,hu.toV⟩
   simp only [Option.getD_none]at hw
   simp [eD,hw]
  ·cases hv
theorem xu {v:SV} {w:AV} {n:Int} (hv:RV v w) (h:yu v=some n):∃k,v= .a (.int k n)∧w= .int k n:=by
 unfold yu at h
 split at h
 ·simp at h;subst h;obtain⟨rfl,_⟩:=hv;exact⟨_,rfl,rfl⟩
 ·cases h
theorem Ew {n:Int} {k:Nat→Option ρ}:∀(m j:Nat),CB (aI ρ) n k j m=some r→∃q:Nat,j≤q∧q<j+m∧n=q∧k q=some r
 |0,_,h=>by cases h
 |m+1,j,h=>by
  simp only [CB,aI]at h
  by_cases c:n=j
  ·rw [decide_eq_true c,cond_true]at h
   exact⟨j,Nat.le_refl _,by omega,c,h⟩
  ·rw [decide_eq_false c,cond_false]at h
   obtain⟨q,h1,h2,h3⟩:=Ew m (j+1) h
   exact⟨q,by omega,by omega,h3⟩
theorem jd {lo hi:Int} {v:SV} {w:AV} {k:Nat→Option ρ} (hv:RV v w) (hk:iH (aI ρ) lo hi v k=some r):∃n,eU lo hi w=some n∧k n=some r:=by
 unfold iH at hk
 split at hk
 ·rename_i n hn
  obtain⟨kd,rfl,rfl⟩:=xu hv hn
  obtain⟨hb,hk⟩:=gk hk
  simp only [aj,Bool.and_eq_true,decide_eq_true_eq]at hb
  exact⟨n.toNat,by simp only [eU];rw [if_pos hb],hk⟩
 ·cases hk
theorem Gr {len:Nat} {v:SV} {w:AV} {k:Nat→Option ρ} (hv:RV v w) (hk:xo (aI ρ) len v k=some r):∃n,eU 0 (len-1) w=some n∧k n=some r:=by
 unfold xo at hk
 split at hk
 ·rename_i n hn
  obtain⟨kd,rfl,rfl⟩:=xu hv hn
  obtain⟨q,_,h2,rfl,h3⟩:=Ew _ _ hk
  exact⟨q,by simp only [eU];rw [if_pos ⟨by omega,by omega⟩,Int.toNat_natCast],h3⟩
 ·cases hk
theorem cB {d lo hi:Nat} {o:Option Opd} {k:Nat→Option ρ} (ht:RT tm tm') (hk:eo (aI ρ) d tm lo hi o k=some r):∃n,bu d tm' lo hi o=some n∧k n=some r:=by
 cases o with
 |none=>exact⟨d,rfl,hk⟩
 |some x=>
  obtain⟨n,h1,h2⟩:=jd (bt ht x) hk
  exact⟨n,h1,h2⟩
theorem TW {k:Nat} {x y:SV} {x' y':AV} {b:Bool} (hx:RC x x') (hy:RC y y') (h:TP k x y=some b):Gw k x' y'=some b:=by
 unfold TP at h
 split at h
 ·split at h
  ·rename_i hk
   simp at h;subst h
   obtain⟨rfl,_⟩:=hx;obtain⟨rfl,_⟩:=hy
   simp [Gw,hk]
  ·cases h
 ·simp at h;subst h;obtain⟨rfl,_⟩:=hx;obtain⟨rfl,_⟩:=hy;rfl
 ·simp at h;subst h;obtain⟨rfl,_⟩:=hx;obtain⟨rfl,_⟩:=hy;rfl
 ·cases h
theorem GL:∀{ks:List Nat} {xs ys:List SV} {xs' ys':List AV} {b:Bool},All2 RC xs xs'→All2 RC ys ys'→rq ks xs ys=some b→iw ks xs' ys'=some b∧xs'.length=ks.length∧ys'.length=ks.length
 | [],[],[],_,_,b,h1,h2,h=>by cases h1;cases h2;simp [rq]at h;subst h;exact⟨rfl,rfl,rfl⟩
 |k::ks,x::xs,y::ys,_,_,b,h1,h2,h=>by
  cases h1 with
  |cons h1 h3=>cases h2 with
   |cons h2 h4=>
    simp only [rq,Option.bind_eq_some_iff,Option.map_eq_some_iff]at h
    obtain⟨p,hp,q,hq,rfl⟩:=h
    obtain⟨h5,h6,h7⟩:=GL h3 h4 hq
    simp only [iw,TW h1 h2 hp,List.length_cons,h6,h7]
    cases p<;>simp [h5]
 | [],[],_::_,_,_,_,_,_,h=>by simp [rq]at h
 | [],_::_,_,_,_,_,_,_,h=>by simp [rq]at h
 |_::_,[],_,_,_,_,_,_,h=>by simp [rq]at h
 |_::_,_::_,[],_,_,_,_,_,h=>by simp [rq]at h
end
section
variable {ρ:Type} {r:ρ} {h:bM} {h':List (Nat×BK)} {tm:SM} {tm':List (Nat×AV)} {nx:Nat} {g:Cfg}
theorem rB {α β γ:Type} {R:β→γ→Prop} {f:α→β} {k:α→γ} (hf:∀a,R (f a) (k a)):∀l:List α,All2 R (l.map f) (l.map k)
 | []=>.nil
 |a::l=>.cons (hf a) (rB hf l)
theorem uF (hh:RH h h') {s:Sh} {v:SV} {w:AV} {k:List (aN s)→Option ρ} (hv:RV v w) (hk:ig (aI ρ) h s v k=some r):∃ts es,elems h' s.sz w=some es∧All2 (RE s) ts es∧k ts=some r:=by
 cases v with
 |a u=>
  obtain⟨rfl,hcell⟩:=hv
  unfold ig at hk
  cases u<;>simp only at hk<;>first|(cases hk;done)|(exact⟨[],[],rfl,.nil,hk⟩)|skip
  ·split at hk
   ·rename_i x e
    subst e
    exact⟨_,x.data.toList.map fun c=>[.int .u8 c.toNat],rfl,rB (R:=RE (.i .u8)) (f:=fun c:UInt8=>(c.toNat:Int)) (k:=fun c:UInt8=>[AV.int .u8 c.toNat]) (fun c=>rfl) _,hk⟩
   ·cases hk
  ·rename_i sz b lo len
   split at hk
   ·rename_i s' ts t hb
    split at hk
    ·rename_i e
     subst e
     split at hk
     ·rename_i hsz
      obtain⟨hle,hk⟩:=gk hk
      have hrb:=cZ hh b
      rw [hb]at hrb
      obtain⟨es,he,hr⟩:=hrb
      refine⟨_,_,?_,(hr.drop lo).take len,hk⟩
      simp only [elems,he]
      rw [if_pos ⟨hsz.symm,trivial,by rw [←hr.length];simpa using hle⟩]
     ·cases hk
    ·cases hk
   ·cases hk
 |ls s' ts=>
  simp only [ig]at hk
  split at hk
  ·rename_i e
   subst e
   rcases hv with⟨es,rfl,h⟩|⟨rfl,rfl|rfl⟩
   ·exact⟨_,es,by simp [elems],h,hk⟩
   ·exact⟨_,[],rfl,.nil,hk⟩
   ·exact⟨_,[],rfl,.nil,hk⟩
  ·cases hk
 |nz=>
  simp only [ig]at hk
  rcases hv with rfl|rfl
  ·exact⟨_,[],rfl,.nil,hk⟩
  ·exact⟨_,[],rfl,.nil,hk⟩
 |_=>simp [ig]at hk
theorem Sn (hh:RH h h') {kd:Nat} {v:SV} {w:AV} {n:Int} (hv:RV v w) (hk:Nn h kd v=some n):∃m:Nat,ui h' kd w=some m∧(m:Int)=n:=by
 unfold Nn at hk
 split at hk
 ·simp at hk;subst hk;obtain⟨rfl,_⟩:=hv;exact⟨_,rfl,rfl⟩
 ·simp at hk;subst hk;obtain⟨rfl,_⟩:=hv;exact⟨0,rfl,rfl⟩
 ·simp at hk;subst hk;obtain⟨rfl,_⟩:=hv;exact⟨0,rfl,rfl⟩
 ·simp at hk;subst hk;rcases hv with rfl|rfl<;>exact⟨0,rfl,rfl⟩
 ·simp at hk;subst hk
  rcases hv with⟨es,rfl,h⟩|⟨rfl,rfl|rfl⟩
  ·exact⟨es.length,rfl,by rw [h.length]⟩
  ·exact⟨0,rfl,rfl⟩
  ·exact⟨0,rfl,rfl⟩
 ·rename_i sz b lo len
  split at hk
  ·rename_i ha
   simp at hk;subst hk
   obtain⟨rfl,_⟩:=hv
   rw [fx hh b]at ha
   exact⟨len,by simp [ui,ha],rfl⟩
  ·cases hk
 ·simp at hk;subst hk;obtain⟨rfl,_⟩:=hv;exact⟨0,rfl,rfl⟩
 ·rename_i b
  obtain⟨rfl,_⟩:=hv
  have hrb:=cZ hh b
  split at hk
  ·rename_i hb;rw [hb]at hrb;obtain⟨l,he,hr⟩:=hrb;simp at hk;subst hk;exact⟨l.length,by simp [ui,he],by rw [hr.length]⟩
  ·rename_i hb;rw [hb]at hrb;obtain⟨l,he,hr⟩:=hrb;simp at hk;subst hk;exact⟨l.length,by simp [ui,he],by rw [hr.length]⟩
  ·rename_i es hb;rw [hb]at hrb;have he:aW h' b= .mp es:=hrb;simp at hk;subst hk;exact⟨es.length,by simp [ui,he],rfl⟩
  ·cases hk
 ·cases hk
theorem So (hh:RH h h') {kd:Nat} {v:SV} {w:AV} {c:Bool→Option ρ} (hv:RV v w) (hk:Al (aI ρ) h kd v c=some r):∃b,xd h' kd w=some b∧c b=some r:=by
 cases v with
 |a u=>
  obtain⟨rfl,hcell⟩:=hv
  simp only [Al]at hk
  split at hk
  ·exact⟨true,rfl,hk⟩
  ·exact⟨true,rfl,hk⟩
  ·exact⟨true,rfl,hk⟩
  ·exact⟨true,rfl,hk⟩
  ·exact⟨true,rfl,hk⟩
  ·rename_i b _ _
   split at hk
   ·rename_i ha;rw [fx hh b]at ha;exact⟨false,by simp [xd,ha],hk⟩
   ·cases hk
  ·rename_i b
   split at hk
   ·rename_i ha;rw [fx hh b]at ha;exact⟨false,by simp [xd,ha],hk⟩
   ·cases hk
  ·rename_i b _ _
   split at hk
   ·rename_i ha;rw [fx hh b]at ha;exact⟨false,by simp [xd,ha],hk⟩
   ·cases hk
  ·exact⟨false,rfl,hk⟩
  ·cases hk
 |ri s ts i off=>
  simp only [Al]at hk
  split at hk
  ·rename_i hk0;subst hk0;obtain⟨es,rfl,_⟩:=hv;exact⟨false,rfl,hk⟩
  ·cases hk
 |ls s ts=>
  simp only [Al]at hk
  split at hk
  ·rename_i hk0;subst hk0
   obtain⟨he,hk⟩:=ry hk
   rcases hv with⟨es,rfl,h⟩|⟨rfl,_⟩
   ·exact⟨false,rfl,hk⟩
   ·simp at he
  ·cases hk
 |_=>simp [Al]at hk
theorem yA:∀{vs:List SV} {ws:List AV} {l:List AV},All2 RV vs ws→BQ vs=some l→ws=l
 | [],_,l,h,hl=>by cases h;simp [BQ]at hl;exact hl.symm
 |v::vs,_,l,h,hl=>by
  cases h with
  |cons h1 h2=>
   cases v with
   |a u=>
    simp only [BQ,Option.map_eq_some_iff]at hl
    obtain⟨l',hl,rfl⟩:=hl
    obtain⟨rfl,_⟩:=h1
    rw [yA h2 hl]
   |_=>simp [BQ]at hl
theorem uG (ht:RT tm tm') (xs:List Opd):All2 RV (xs.map (bz tm)) (xs.map (rd tm')):=rB (fun x=>bt ht x) xs
theorem aa6 {v:SV} {w:AV} (hv:RC v w):Ia v=pp w:=by
 cases v with
 |a u=>obtain⟨rfl,_⟩:=hv;cases u<;>rfl
 |ls s ts=>rcases hv with⟨es,rfl,h⟩|⟨rfl,rfl|rfl⟩<;>rfl
 |ri s ts i off=>obtain⟨es,rfl,_⟩:=hv;rfl
 |ow s ts=>obtain⟨es,rfl,_⟩:=hv;rfl
 |nz=>rcases hv with rfl|rfl<;>rfl
 |_=>exact hv.elim
theorem TX {vs:List SV} {ws:List AV} (hv:All2 RC vs ws):vs.any Ia=ws.any pp:=by
 induction hv with
 |nil=>rfl
 |cons h1 _ ih=>simp only [List.any_cons,aa6 h1,ih]
theorem Io:∀{s:Sh} {x:aN s} {cs:List AV},RE s x cs→cs.any pp=false
 | .i _,_,_,h=>by cases h;rfl
 | .b,_,_,h=>by cases h;rfl
 | .s,_,_,h=>by cases h;rfl
 | .row _,_,_,h=>by
  obtain⟨w,rfl,h⟩:=h
  rcases h with⟨es,rfl,h⟩|⟨rfl,rfl|rfl⟩<;>rfl
 | .nil,_,_,h=>by cases h;rfl
 | .cons a b,_,_,h=>by obtain⟨c1,c2,rfl,h1,h2⟩:=h;simp [List.any_append,Io h1,Io h2]
theorem TY {s:Sh} {ts:List (aN s)} {es:List (List AV)} (h:All2 (RE s) ts es):es.flatten.any pp=false:=by
 induction h with
 |nil=>rfl
 |cons h1 _ ih=>simp only [List.flatten_cons,List.any_append,Io h1,ih,Bool.or_self]
theorem Gs {v:SV} {cs:List SV} (h:bH v=some cs):cJ v=false:=by
 cases v<;>first|rfl|(simp [bH]at h)
theorem GM {s:Sh}:∀{l:List (List SV)} {es:List (List AV)} {ts:List (aN s)},All2 (All2 RC) l es→Ed s l=some ts→All2 (RE s) ts es
 | [],_,ts,h,hd=>by cases h;simp [Ed]at hd;subst hd;exact .nil
 |c::l,_,ts,h,hd=>by
  cases h with
  |cons h1 h2=>
   simp only [Ed,Option.bind_eq_some_iff,Option.map_eq_some_iff]at hd
   obtain⟨x,hx,l',hl,rfl⟩:=hd
   exact .cons (eI hx h1) (GM h2 hl)
theorem Nw {ts:List Int} {es:List (List AV)} (h:All2 (RE (.i .u8)) ts es):es.mapM vP=some (ts.map fun n=>UInt8.ofNat n.toNat):=by
 induction h with
 |nil=>rfl
 |cons h1 _ ih=>cases h1;simp only [List.mapM_cons,vP,ih,List.map_cons];rfl
theorem Ip {ws:List AV} {c:AV} {off:Nat} (h:off<ws.length):dF ws [c] off=ws.set off c:=by
 unfold dF
 rw [List.set_eq_take_append_cons_drop,if_pos h]
 simp
def RF (tm':List (Nat×AV)) (rf:SM):Prop:=∀p∈rf,∃b,p.2= .a (.bl b)∧look .ud tm' p.1= .bl b
theorem RF.nil:RF tm' []:=fun p hp=>by cases hp
theorem RF.one {t:Nat} {b:Bool} (h:look .ud tm' t= .bl b):RF tm' [(t,.a (.bl b))]:=fun p hp=>by
 simp only [List.mem_singleton]at hp
 subst hp
 exact⟨b,rfl,h⟩
def OkO (tm':List (Nat×AV)) (k:KV ρ) (r:ρ) (e:Option Ef):Prop:=
 ∃rf v h1 nx1 w h1',k rf v h1 nx1=some r∧e=some ⟨w,h1',nx1⟩∧RV v w∧RH h1 h1'∧RF tm' rf
theorem OkO.mk (hh:RH h h') {k:KV ρ} {v:SV} {w:AV} (hk:k [] v h nx=some r) (hv:RV v w):OkO tm' k r (one h' nx w):=⟨_,_,_,_,_,_,hk,rfl,hv,hh,RF.nil⟩
theorem OkO.mk' {k:KV ρ} {v:SV} {w:AV} {h1:bM} {h1':List (Nat×BK)} {n:Nat} (hk:k [] v h1 n=some r) (hv:RV v w) (hh:RH h1 h1'):OkO tm' k r (some ⟨w,h1',n⟩):=⟨_,_,_,_,_,_,hk,rfl,hv,hh,RF.nil⟩
theorem OkO.mv {k:KV ρ} {v:SV} {u u':AV} {h1:bM} {h1':List (Nat×BK)} {n:Nat} (hk:k [] v h1 n=some r) (hv:RV v u) (hh:RH h1 h1') (he:u=u'):OkO tm' k r (some ⟨u',h1',n⟩):=by subst he;exact OkO.mk' hk hv hh
variable {H:Hint} {k:KV ρ}
theorem adm (ht:RT tm tm') (hh:RH h h') {x:Opd} (hk:opS (aI ρ) H tm h nx (.mv x) k=some r):OkO tm' k r (aC tm' h' nx (.mv x)):=by
 simp only [opS]at hk
 exact OkO.mk hh hk (bt ht x)
theorem adn (ht:RT tm tm') (hh:RH h h') {c x y:Opd} (hk:opS (aI ρ) H tm h nx (.pk c x y) k=some r):OkO tm' k r (aC tm' h' nx (.pk c x y)):=by
 simp only [opS]at hk
 cases c with
 |t t=>
  try simp only at hk
  split at hk
  ·rename_i p hp
   have h1:look .ud tm' t= .bl p:=by have:=ht t;rw [hp]at this;exact this.1.symm
   have h2:rd tm' (.t t)= .bl p:=h1
   rcases er hk with⟨rfl,hk⟩|⟨rfl,hk⟩
   ·exact⟨_,_,_,_,_,_,hk,by simp only [aC,h2,one,if_true],bt ht x,hh,RF.one h1⟩
   ·exact⟨_,_,_,_,_,_,hk,by simp only [aC,h2,one,Bool.false_eq_true,if_false],bt ht y,hh,RF.one h1⟩
  ·cases hk
 |c v=>
  split at hk
  ·rename_i p hp;cases hp
  ·rename_i p hp
   injection hp with hp
   subst hp
   have h2:rd tm' (.c (.bl p))= .bl p:=rfl
   cases p
   ·simp only [Bool.false_eq_true,if_false]at hk
    simp only [aC,h2,Bool.false_eq_true,if_false]
    exact OkO.mk hh hk (bt ht y)
   ·simp only [if_true]at hk
    simp only [aC,h2,if_true]
    exact OkO.mk hh hk (bt ht x)
  ·cases hk
theorem ado (ht:RT tm tm') (hh:RH h h') {z:List AV} {t:TypeId} (hk:opS (aI ρ) H tm h nx (.al z t) k=some r):OkO tm' k r (aC tm' h' nx (.al z t)):=by
 simp only [opS]at hk
 split at hk
 ·rename_i s hs
  split at hk
  ·rename_i hsz
   split at hk
   ·rename_i ts hts
    simp only [Option.bind_eq_some_iff]at hts
    obtain⟨l,hl,hts⟩:=hts
    have h1:=rz hl
    have h2:All2 (All2 RC) (l.map fun c=>[c]) (z.map fun c=>[c]):=h1.map2 fun a b h=>.cons h .nil
    have h3:=GM h2 hts
    have h4:All2 (fun d c=>RE s d [c]) ts z:=by
     have aux:∀{ts:List (aN s)} {z:List AV},All2 (RE s) ts (z.map fun c=>[c])→All2 (fun d c=>RE s d [c]) ts z:=by
      intro ts z
      induction z generalizing ts with
      |nil=>intro h;cases h;exact .nil
      |cons c z ih=>intro h;cases h with
       |cons h1 h2=>exact .cons h1 (ih h2)
     exact aux h3
    simp only [aC]
    exact OkO.mk' hk ⟨rfl,rfl⟩ (.cons ⟨rfl,hsz,z,rfl,h4⟩ hh)
   ·cases hk
  ·cases hk
 ·split at hk
  ·rename_i l hl
   have h1:=rz hl
   simp only [aC]
   exact OkO.mk' hk ⟨rfl,rfl⟩ (.cons ⟨rfl,z,rfl,h1⟩ hh)
  ·cases hk
theorem adp (ht:RT tm tm') (hh:RH h h') {x:Opd} {t:TypeId} (hk:opS (aI ρ) H tm h nx (.bx t x) k=some r):OkO tm' k r (aC tm' h' nx (.bx t x)):=by
 simp only [opS]at hk
 split at hk
 ·rename_i cs hcs
  obtain⟨ws,hw,hr⟩:=ik (bt ht x) hcs
  simp only [aC,hw]
  exact OkO.mk' hk ⟨by rw [hr.length],rfl⟩ (.cons ⟨rfl,ws,by rw [hr.length],hr⟩ hh)
 ·cases hk
theorem adq (ht:RT tm tm') (hh:RH h h') {z:List AV} {ps:List (Nat×Nat×Opd)} (hk:opS (aI ρ) H tm h nx (.bd z ps) k=some r):OkO tm' k r (aC tm' h' nx (.bd z ps)):=by
 simp only [opS]at hk
 split at hk
 ·rename_i cs hcs
  simp only [Option.bind_eq_some_iff]at hcs
  obtain⟨l,hl,hcs⟩:=hcs
  obtain⟨ws,hw,hr⟩:=uE ht (rz hl) hcs
  simp only [aC,hw,Option.bind_some]
  exact OkO.mk hh hk ⟨ws,rfl,hr⟩
 ·cases hk
theorem OW (ht:RT tm tm') (hh:RH h h') {s:Sh} {t:TypeId} {sz:Nat} {ps:List (Nat×Opd)} (hsz:s.sz=sz):∀{l:List (Nat×Opd)} {ts:List (aN s)} {es:List (List AV)},(∀p∈l,∀cs,bH (bz tm p.2)=some cs→True)→All2 (RE s) ts es→
  opS.go (aI ρ) tm h nx k sz t ps s l ts=some r→∃ts' es',iz h' es sz tm' l=some es'∧All2 (RE s) ts' es'∧ts'.length=ts.length∧(∀p∈l,cJ (bz tm p.2)=false)∧
   k [] (.a (.sl sz nx 0 ts'.length)) ((nx,.row s ts' t)::mL h (ps.flatMap fun p=>dE (bz tm p.2))) (nx+1)=some r
 | [],ts,es,_,he,hk=>by
  rw [opS.go]at hk
  exact⟨ts,es,rfl,he,rfl,(fun p hp=>by cases hp),hk⟩
 |(i,x)::l,ts,es,h0,he,hk=>by
  rw [opS.go]at hk
  split at hk
  ·rename_i cs hcs
   obtain⟨ws,hw,hr⟩:=ik (bt ht x) hcs
   obtain⟨l1,l1',h1,h2,h3⟩:=gv (R:=RC) (R':=RC) (f':=bO h') (fun v w k h1 h2=>lM hh h1 h2) hr hk
   split at h3
   ·rename_i y hy
    have h4:=eI hy h2
    obtain⟨ts',es',h5,h6,h7,h8,h9⟩:=OW ht hh hsz (fun p hp=>h0 p (List.mem_cons_of_mem _ hp)) (he.set h4 i) h3
    refine⟨ts',es',?_,h6,by rw [h7,List.length_set],?_,h9⟩
    ·simp only [iz,hw,h1]
     rw [if_pos (by rw [ij h4,hsz])]
     exact h5
    ·intro p hp
     rcases List.mem_cons.1 hp with rfl|hp
     ·exact Gs hcs
     ·exact h8 p hp
   ·cases h3
  ·cases hk
theorem rC {α β:Type} {f g:α→List β}:∀{l:List α},(∀a∈l,f a=g a)→l.flatMap f=l.flatMap g
 | [],_=>rfl
 |a::l,h=>by simp only [List.flatMap_cons,h a (List.mem_cons_self ..),rC fun b hb=>h b (List.mem_cons_of_mem _ hb)]
theorem adr (ht:RT tm tm') (hh:RH h h') {sz len:Nat} {z:List AV} {t:TypeId} {ps:List (Nat×Opd)} (hk:opS (aI ρ) H tm h nx (.bs sz len z t ps) k=some r):OkO tm' k r (aC tm' h' nx (.bs sz len z t ps)):=by
 simp only [opS]at hk
 split at hk
 ·rename_i s hs
  split at hk
  ·rename_i hsz
   split at hk
   ·rename_i d hd
    simp only [Option.bind_eq_some_iff]at hd
    obtain⟨l,hl,hd⟩:=hd
    have h1:=eI hd (rz hl)
    obtain⟨ts',es',h2,h3,h4,h5,h6⟩:=OW ht hh hsz (fun _ _ _ _=>trivial) (All2.rep h1 len) hk
    simp only [aC,h2,Option.bind_some]
    have hlen:ts'.length=len:=by rw [h4,List.length_replicate]
    have hrf:(ps.flatMap fun p=>dE (bz tm p.2))=ps.flatMap fun p=>bP (rd tm' p.2):=rC fun p hp=>ke (bt ht p.2) (h5 p hp)
    rw [hrf]at h6
    exact OkO.mk' h6 ⟨by rw [hlen],rfl⟩ (.cons ⟨rfl,es',by rw [hsz],h3⟩ (pW hh _))
   ·cases hk
  ·cases hk
 ·cases hk
end
section
variable {ρ:Type} {r:ρ} {h:bM} {h':List (Nat×BK)} {tm:SM} {tm':List (Nat×AV)} {nx:Nat} {g:Cfg} {H:Hint} {k:KV ρ}
theorem ads (ht:RT tm tm') (hh:RH h h') {n:Option Nat} {x:Opd} (hk:opS (aI ρ) H tm h nx (.ld n x) k=some r):OkO tm' k r (aC tm' h' nx (.ld n x)):=by
 simp only [opS]at hk
 obtain⟨cs,ws,h1,h2,h3⟩:=wK hh (bt ht x) hk
 split at h3
 ·rename_i v hv
  obtain⟨u,hu,hr⟩:=Nv h2 h1 hv
  simp only [aC,hu,Option.bind_some]
  exact OkO.mk hh h3 hr
 ·cases h3
theorem adt (ht:RT tm tm') (hh:RH h h') {n:Nat} {a x:Opd} (hk:opS (aI ρ) H tm h nx (.sr n a x) k=some r):OkO tm' k r (aC tm' h' nx (.sr n a x)):=by
 simp only [opS]at hk
 split at hk
 ·rename_i new hnew
  obtain⟨new',hw,hr⟩:=ik (bt ht x) hnew
  split at hk
  ·cases hk
  ·rename_i hc
   have hc':¬(new'.length≠n∨new'.any pp=true):=by rw [←hr.length,←TX hr];exact hc
   split at hk
   ·rename_i sz b i off ha
    have hra:rd tm' a= .re sz b i off:=by have:=bt ht a;rw [ha]at this;exact this.1.symm
    have hrb:=cZ hh b
    split at hk
    ·rename_i sz' cs t hb
     rw [hb]at hrb
     obtain⟨ws,he,hr2⟩:=hrb
     split at hk
     ·rename_i hcc
      obtain⟨rfl,rfl,hle⟩:=hcc
      simp only [aC,hw,hra,he]
      rw [if_neg hc',if_neg (by simp)]
      simp only [List.getElem?_cons_zero]
      rw [if_pos (by rw [←hr2.length];exact hle)]
      exact OkO.mk' hk ⟨rfl,rfl⟩ (dY hh (x:=.vr sz (mT cs new off) t) ⟨_,rfl,rA hr2 hr off⟩ b)
     ·cases hk
    ·rename_i s ts t hb
     rw [hb]at hrb
     obtain⟨hsz,ws,he,hr2⟩:=hrb
     split at hk
     ·rename_i y hy
      have h4:=eI hy hr
      split at hk
      ·rename_i hcc
       obtain⟨_,rfl⟩:=hcc
       obtain⟨hi,hk⟩:=gk hk
       simp only [Bool.and_eq_true,decide_eq_true_eq]at hi
       have hlen:sz=ws.length:=by rw [hi.2,hr2.length]
       have hn:new'.length=1:=by rw [ij h4,hsz]
       obtain⟨c,rfl⟩:∃c,new'= [c]:=by
        cases new' with
        |nil=>simp at hn
        |cons c l=>cases l with
         |nil=>exact⟨c,rfl⟩
         |cons=>simp at hn
       have hn1:n=1:=by
        have:=fun hne=>hc' (.inl hne)
        simpa [eq_comm]using this
       have hoff:off<ws.length:=by rw [←hr2.length];exact hi.1
       simp only [aC,hw,hra,he]
       rw [if_neg hc',if_neg (by simp [hlen])]
       simp only [List.getElem?_cons_zero]
       rw [if_pos (by omega)]
       simp only [if_true,Ip hoff,List.set_cons_zero]
       refine OkO.mk' hk ⟨rfl,rfl⟩ (dY hh (x:=.ar s (ts.set off y) t) ⟨hsz,ws.set off c,by rw [List.length_set,hlen],hr2.set h4 off⟩ b)
      ·cases hk
     ·cases hk
    ·rename_i s ts t hb
     rw [hb]at hrb
     obtain⟨es,he,hr2⟩:=hrb
     split at hk
     ·rename_i hcc
      obtain⟨rfl,hle,hcon⟩:=hcc
      obtain⟨l1,l1',h1,h2,h3⟩:=gv (R:=RC) (R':=RC) (f':=bO h') (fun v w k h1 h2=>lM hh h1 h2) hr hk
      obtain⟨hi,h3⟩:=gk h3
      obtain⟨e,h5,h6⟩:=hr2.getD (by simpa using hi) (aa s)
      split at h3
      ·rename_i y hy
       have h4:=eI hy (rA (gR h6) h2 off)
       have hrf:new.flatMap rm=new'.flatMap cI:=hr.flatEq fun _ _ h=>pV h
       simp only [aC,hw,hra,he]
       rw [if_neg hc',if_neg (by simp)]
       simp only [h5]
       rw [if_pos (by rw [ij h6];exact hle)]
       simp only [Bool.false_eq_true,if_false]
       rw [hrf]at hcon h3
       simp only [hcon,Bool.false_eq_true,if_false,h1]
       exact OkO.mk' h3 ⟨rfl,rfl⟩ (dY (pW hh _) (x:=.row s (ts.set i y) t) ⟨_,rfl,hr2.set h4 i⟩ b)
      ·cases h3
     ·cases hk
    ·cases hk
   ·cases hk
 ·cases hk
theorem ahb {v:SV} {w:AV} {sz b i off:Nat} (hv:RV v w) (h:v= .a (.re sz b i off)):w= .re sz b i off:=by subst h;exact hv.1.symm
theorem adu (ht:RT tm tm') (hh:RH h h') {x:Opd} (hk:opS (aI ρ) H tm h nx (.nc x) k=some r):OkO tm' k r (aC tm' h' nx (.nc x)):=by
 simp only [opS]at hk
 have hx:=bt ht x
 split at hk
 ·rename_i sz b i off ha
  rw [ha]at hx
  have hx':=hx.1.symm
  split at hk
  ·rename_i hal
   rw [fx hh b]at hal
   simp only [aC,hx',hal,if_true]
   exact OkO.mk hh hk ⟨rfl,rfl⟩
  ·cases hk
 ·rename_i s ts i off ha
  rw [ha]at hx
  obtain⟨es,hx',hr⟩:=hx
  simp only [aC,hx']
  exact OkO.mk hh hk ⟨es,rfl,hr⟩
 ·rename_i f caps ha
  rw [ha]at hx
  have hx':=hx.1.symm
  simp only [aC,hx']
  exact OkO.mk hh hk ⟨rfl,rfl⟩
 ·cases hk
theorem adv (ht:RT tm tm') (hh:RH h h') {op:BinOp} {x y:Opd} (hk:opS (aI ρ) H tm h nx (.bn op x y) k=some r):OkO tm' k r (aC tm' h' nx (.bn op x y)):=by
 simp only [opS]at hk
 have hx:=bt ht x
 have hy:=bt ht y
 split at hk
 ·rename_i v w hv hw
  rw [hv]at hx;rw [hw]at hy
  have hx':=hx.1.symm
  have hy':=hy.1.symm
  simp only [aC,hx',hy']
  split at hk
  ·obtain⟨h0,hk⟩:=ry hk
   simp only [decide_eq_false_iff_not]at h0
   simp only [qP,h0,if_false,Option.bind_some]
   exact OkO.mk hh hk ⟨rfl,rfl⟩
  ·obtain⟨h0,hk⟩:=ry hk
   simp only [decide_eq_false_iff_not]at h0
   simp only [qP,h0,if_false,Option.bind_some]
   exact OkO.mk hh hk ⟨rfl,rfl⟩
  ·split at hk
   ·rename_i hkd
    subst hkd
    obtain⟨h0,hk⟩:=ry hk
    simp only [decide_eq_false_iff_not]at h0
    simp only [qP,h0,if_false,ne_eq,not_true_eq_false,Option.bind_some]
    exact OkO.mk hh hk ⟨rfl,rfl⟩
   ·cases hk
  ·split at hk
   ·rename_i hkd
    subst hkd
    obtain⟨h0,hk⟩:=ry hk
    simp only [decide_eq_false_iff_not]at h0
    simp only [qP,h0,if_false,ne_eq,not_true_eq_false,Option.bind_some]
    exact OkO.mk hh hk ⟨rfl,rfl⟩
   ·cases hk
  ·obtain⟨h0,hk⟩:=ry hk
   simp only [decide_eq_false_iff_not]at h0
   simp only [qP,h0,if_false,Option.bind_some]
   exact OkO.mk hh hk ⟨rfl,rfl⟩
  ·split at hk
   ·rename_i u hu
    split at hk
    ·rename_i hcell
     simp only [hu,Option.bind_some]
     exact OkO.mk hh hk ⟨rfl,hcell⟩
    ·cases hk
   ·cases hk
 ·cases hk
theorem adw (ht:RT tm tm') (hh:RH h h') {neg:Bool} {ks:List Nat} {x y:Opd} (hk:opS (aI ρ) H tm h nx (.ea neg ks x y) k=some r):OkO tm' k r (aC tm' h' nx (.ea neg ks x y)):=by
 simp only [opS]at hk
 have hx:=bt ht x
 have hy:=bt ht y
 split at hk
 ·rename_i a b ha hb
  rw [ha]at hx;rw [hb]at hy
  obtain⟨a',hx',hx⟩:=hx
  obtain⟨b',hy',hy⟩:=hy
  split at hk
  ·rename_i p hp
   obtain⟨h1,h2,h3⟩:=GL hx hy hp
   simp only [aC,hx',hy']
   rw [if_pos ⟨h2,h3⟩]
   simp only [h1,Option.bind_some]
   exact OkO.mk hh hk ⟨rfl,rfl⟩
  ·cases hk
 ·cases hk
theorem adx (ht:RT tm tm') (hh:RH h h') {neg:Bool} {x y:Opd} (hk:opS (aI ρ) H tm h nx (.eb neg x y) k=some r):OkO tm' k r (aC tm' h' nx (.eb neg x y)):=by
 simp only [opS]at hk
 have hx:=bt ht x
 have hy:=bt ht y
 split at hk
 ·rename_i a b ha hb
  rw [ha]at hx;rw [hb]at hy
  simp only [aC,hx.1.symm,hy.1.symm]
  exact OkO.mk hh hk ⟨rfl,rfl⟩
 ·cases hk
theorem ady (ht:RT tm tm') (hh:RH h h') {neg:Bool} {kd:Nat} {x:Opd} (hk:opS (aI ρ) H tm h nx (.nq neg kd x) k=some r):OkO tm' k r (aC tm' h' nx (.nq neg kd x)):=by
 simp only [opS]at hk
 obtain⟨b,h1,h2⟩:=So hh (bt ht x) hk
 simp only [aC,h1,Option.bind_some]
 exact OkO.mk hh h2 ⟨rfl,rfl⟩
theorem adz (ht:RT tm tm') (hh:RH h h') {op:UnOp} {x:Opd} (hk:opS (aI ρ) H tm h nx (.un op x) k=some r):OkO tm' k r (aC tm' h' nx (.un op x)):=by
 simp only [opS]at hk
 have hx:=bt ht x
 split at hk
 ·rename_i ha
  rw [ha]at hx
  simp only [aC,hx.1.symm]
  exact OkO.mk hh hk ⟨rfl,rfl⟩
 ·rename_i ha
  rw [ha]at hx
  simp only [aC,hx.1.symm]
  exact OkO.mk hh hk ⟨rfl,rfl⟩
 ·cases hk
theorem adA (ht:RT tm tm') (hh:RH h h') {kd:IntKind} {x:Opd} (hk:opS (aI ρ) H tm h nx (.ci kd x) k=some r):OkO tm' k r (aC tm' h' nx (.ci kd x)):=by
 simp only [opS]at hk
 have hx:=bt ht x
 split at hk
 ·rename_i ha
  rw [ha]at hx
  simp only [aC,hx.1.symm]
  exact OkO.mk hh hk ⟨rfl,rfl⟩
 ·cases hk
theorem aa7 (ht:RT tm tm') (hh:RH h h') {x:Opd} (hk:opS (aI ρ) H tm h nx (.cv1 x) k=some r):OkO tm' k r (aC tm' h' nx (.cv1 x)):=by
 simp only [opS]at hk
 have hx:=bt ht x
 split at hk
 ·rename_i ha
  rw [ha]at hx
  simp only [aC,hx.1.symm]
  exact OkO.mk hh hk ⟨rfl,rfl⟩
 ·cases hk
theorem adB (ht:RT tm tm') (hh:RH h h') {t:TypeId} {x:Opd} (hk:opS (aI ρ) H tm h nx (.cs t x) k=some r):OkO tm' k r (aC tm' h' nx (.cs t x)):=by
 simp only [opS]at hk
 have hx:=bt ht x
 split at hk
 ·rename_i s ha
  rw [ha]at hx
  simp only [aC,hx.1.symm]
  exact OkO.mk' hk ⟨rfl,rfl⟩ (.cons ⟨rfl,_,rfl,rB (R:=RE (.i .u8)) (f:=fun c:UInt8=>(c.toNat:Int)) (k:=fun c:UInt8=>[AV.int .u8 c.toNat]) (fun c=>rfl) _⟩ hh)
 ·cases hk
theorem adC (ht:RT tm tm') (hh:RH h h') {x:Opd} (hk:opS (aI ρ) H tm h nx (.cb x) k=some r):OkO tm' k r (aC tm' h' nx (.cb x)):=by
 simp only [opS]at hk
 have hx:=bt ht x
 split at hk
 ·cases hk
 ·rename_i hns
  obtain⟨ts,es,h1,h2,h3⟩:=uF hh hx hk
  have h4:∀s,rd tm' x≠ .st s:=fun s hs=>by
   rw [hs]at hx
   generalize bz tm x=v at hx hk hns
   cases v with
   |a u=>obtain⟨rfl,_⟩:=hx;exact hns _ rfl
   |ls s ts=>rcases hx with⟨es,h,_⟩|⟨_,h|h⟩<;>cases h
   |ri s ts i off=>obtain⟨es,h,_⟩:=hx;cases h
   |ow s ts=>obtain⟨es,h,_⟩:=hx;cases h
   |nz=>rcases hx with h|h<;>cases h
   |ag cs=>obtain⟨es,h,_⟩:=hx;cases h
   |tp cs=>obtain⟨es,h,_⟩:=hx;cases h
   |uk=>simp [ig]at hk
  simp only [Sh.sz]at h1
  simp only [aC,h1,Option.bind_some,Nw h2]
  exact OkO.mk hh h3 ⟨rfl,rfl⟩
theorem xw {off:Nat} {sz b i o:Nat} (ha:alive h' b=true):qM h' off (.re sz b i o)=some (.re sz b i (o+off)):=by
 unfold alive at ha
 unfold qM
 cases hb:aW h' b<;>simp_all
theorem adD (ht:RT tm tm') (hh:RH h h') {off:Nat} {x:Opd} (hk:opS (aI ρ) H tm h nx (.fa off x) k=some r):OkO tm' k r (aC tm' h' nx (.fa off x)):=by
 simp only [opS]at hk
 have hx:=bt ht x
 split at hk
 ·rename_i sz b i o ha
  rw [ha]at hx
  split at hk
  ·rename_i hal
   rw [fx hh b]at hal
   simp only [aC,hx.1.symm,xw hal,Option.bind_some]
   exact OkO.mk hh hk ⟨rfl,rfl⟩
  ·cases hk
 ·rename_i s ts i o ha
  rw [ha]at hx
  obtain⟨es,hx',hr⟩:=hx
  simp only [aC,hx',qM,Option.bind_some]
  exact OkO.mk hh hk ⟨es,rfl,hr⟩
 ·cases hk
theorem adE (ht:RT tm tm') (hh:RH h h') {off:Nat} {n:Option Nat} {x:Opd} (hk:opS (aI ρ) H tm h nx (.fd off n x) k=some r):OkO tm' k r (aC tm' h' nx (.fd off n x)):=by
 simp only [opS]at hk
 have hx:=bt ht x
 split at hk
 ·rename_i cs ha
  rw [ha]at hx
  obtain⟨ws,hx',hr⟩:=hx
  split at hk
  ·rename_i v hv
   obtain⟨w,h1,h2⟩:=BS ((hr.drop off).take (n.getD 1)) hv
   simp only [aC,hx',h1,Option.bind_some]
   exact OkO.mk hh hk h2
  ·cases hk
 ·cases hk
theorem adF (ht:RT tm tm') (hh:RH h h') {arr:Option Nat} {sz:Nat} {x i:Opd} (hk:opS (aI ρ) H tm h nx (.ia arr sz x i) k=some r):OkO tm' k r (aC tm' h' nx (.ia arr sz x i)):=by
 simp only [opS]at hk
 have hx:=bt ht x
 have hi:=bt ht i
 split at hk
 ·split at hk
  ·rename_i z b j o ha
   rw [ha]at hx
   split at hk
   ·rename_i hal
    rw [fx hh b]at hal
    split at hk
    ·obtain⟨q,h1,h2⟩:=Gr hi hk
     simp only [aC,hx.1.symm,h1,Option.bind_some,xw hal]
     exact OkO.mk hh h2 ⟨rfl,rfl⟩
    ·obtain⟨q,h1,h2⟩:=jd hi hk
     simp only [aC,hx.1.symm,h1,Option.bind_some,xw hal]
     exact OkO.mk hh h2 ⟨rfl,rfl⟩
   ·cases hk
  ·cases hk
 ·split at hk
  ·rename_i s ts ha
   rw [ha]at hx
   split at hk
   ·rename_i hsz
    obtain⟨q,h1,h2⟩:=jd hi hk
    rcases hx with⟨es,hx',hr⟩|⟨rfl,_⟩
    ·simp only [aC,hx']
     rw [if_neg (by simp [hsz])]
     rw [hr.length]at h1
     simp only [h1,Option.bind_some]
     exact OkO.mk hh h2 ⟨es,by rw [hsz],hr⟩
    ·exfalso
     unfold eU at h1
     split at h1
     ·simp only [Option.ite_none_right_eq_some]at h1
      have h3:=h1.1.1
      have h4:=h1.1.2
      have h5:(([]:List (aN s)).length:Int)=0:=rfl
      rw [h5]at h4
      omega
     ·cases h1
   ·cases hk
  ·rename_i sz' b lo len ha
   rw [ha]at hx
   split at hk
   ·cases hk
   ·rename_i hc
    obtain⟨q,h1,h2⟩:=jd hi hk
    rw [fx hh b]at hc
    simp only [aC,hx.1.symm]
    rw [if_neg hc]
    simp only [h1,Option.bind_some]
    exact OkO.mk hh h2 ⟨rfl,rfl⟩
  ·cases hk
theorem OX {cs:List SV} {n:Option Nat} {sz:Nat} {m:Int}:∀{fuel q:Nat},opS.goIx (aI ρ) h nx k sz n cs m q fuel=some r→∃j:Nat,q≤j∧j<q+fuel∧m=j∧∃v,dV ((cs.drop (j*sz)).take sz) n=some v∧k [] v h nx=some r
 |0,q,hk=>by rw [opS.goIx]at hk;cases hk
 |fuel+1,q,hk=>by
  rw [opS.goIx]at hk
  rcases er hk with⟨h1,h2⟩|⟨_,h2⟩
  ·split at h2
   ·rename_i v hv
    exact⟨q,Nat.le_refl _,by omega,by simpa using h1,v,hv,h2⟩
   ·cases h2
  ·obtain⟨j,h3,h4,h5,h6⟩:=OX h2
   exact⟨j,by omega,by omega,h5,h6⟩
theorem adG (ht:RT tm tm') (hh:RH h h') {len sz:Nat} {n:Option Nat} {x i:Opd} (hk:opS (aI ρ) H tm h nx (.ix len sz n x i) k=some r):OkO tm' k r (aC tm' h' nx (.ix len sz n x i)):=by
 simp only [opS]at hk
 have hx:=bt ht x
 have hi:=bt ht i
 split at hk
 ·rename_i cs ha
  rw [ha]at hx
  obtain⟨ws,hx',hr⟩:=hx
  split at hk
  ·rename_i m hm
   obtain⟨kd,_,hi'⟩:=xu hi hm
   obtain⟨j,h1,h2,h3,v,hv,h4⟩:=OX hk
   obtain⟨w,h5,h6⟩:=BS ((hr.drop (j*sz)).take sz) hv
   simp only [aC,hx',hi',eU]
   rw [if_pos (by omega)]
   have:m.toNat=j:=by omega
   simp only [this,Option.bind_some,h5]
   exact OkO.mk hh h4 h6
  ·cases hk
 ·cases hk
theorem adH (ht:RT tm tm') (hh:RH h h') {x i:Opd} (hk:opS (aI ρ) H tm h nx (.si x i) k=some r):OkO tm' k r (aC tm' h' nx (.si x i)):=by
 simp only [opS]at hk
 have hx:=bt ht x
 have hi:=bt ht i
 split at hk
 ·rename_i s kd n ha hb
  rw [ha]at hx;rw [hb]at hi
  obtain⟨h0,hk⟩:=gk hk
  simp only [Bool.and_eq_true,decide_eq_true_eq]at h0
  have hl:n.toNat<s.data.toList.length:=by
   have:s.data.toList.length=s.size:=by rw [Array.length_toList];rfl
   omega
  have hg:s.data.toList[n.toNat]? =some (s.data.toList.getD n.toNat 0):=by
   rw [List.getD_eq_getElem?_getD,List.getElem?_eq_getElem hl];rfl
  simp only [aC,hx.1.symm,hi.1.symm,hg]
  rw [if_pos h0.1]
  exact OkO.mk hh hk ⟨rfl,rfl⟩
 ·cases hk
theorem adI (ht:RT tm tm') (hh:RH h h') {x:Opd} {lo hi:Option Opd} (hk:opS (aI ρ) H tm h nx (.ss x lo hi) k=some r):OkO tm' k r (aC tm' h' nx (.ss x lo hi)):=by
 simp only [opS]at hk
 have hx:=bt ht x
 split at hk
 ·rename_i s ha
  rw [ha]at hx
  obtain⟨b,h1,h2⟩:=cB ht hk
  obtain⟨a,h3,h4⟩:=cB ht h2
  simp only [aC,hx.1.symm,h1,h3,Option.bind_some]
  exact OkO.mk hh h4 ⟨rfl,rfl⟩
 ·cases hk
theorem KQ {d lo hi:Nat} {o:Option Opd} {n:Nat} (h:bu d tm' lo hi o=some n) (hd:d≤hi):n≤hi:=by
 cases o with
 |none=>simp [bu]at h;omega
 |some x=>
  simp only [bu,eU]at h
  split at h
  ·simp only [Option.ite_none_right_eq_some,Option.some.injEq]at h
   omega
  ·cases h
end
section
variable {ρ:Type} {r:ρ} {h:bM} {h':List (Nat×BK)} {tm:SM} {tm':List (Nat×AV)} {nx:Nat} {g:Cfg} {H:Hint} {k:KV ρ}
theorem xx {o:Option Opd} {d lo hi n:Nat} (h:bu d tm' lo hi o=some n) (hd:d=0) (hh:hi=0):n=0:=by
 have:=KQ h (by omega);omega
theorem adJ (ht:RT tm tm') (hh:RH h h') {sz:Nat} {x:Opd} {lo hi mx:Option Opd} (hk:opS (aI ρ) H tm h nx (.sc sz x lo hi mx) k=some r):OkO tm' k r (aC tm' h' nx (.sc sz x lo hi mx)):=by
 simp only [opS]at hk
 have hx:=bt ht x
 have nzc:∀{w:AV},(w= .ns∨w= .ez)→rd tm' x=w→∀{v:SV},RV v w→(∃m b a,bu 0 tm' 0 0 mx=some m∧bu 0 tm' 0 0 hi=some b∧bu 0 tm' 0 0 lo=some a)→k [] v h nx=some r→OkO tm' k r (aC tm' h' nx (.sc sz x lo hi mx)):=by
  intro w hw hx' v hv ⟨m,b,a,h1,h2,h3⟩ hk
  rcases hw with rfl|rfl
  ·simp only [aC,hx',h1,h2,h3,Option.bind_some];exact OkO.mk hh hk hv
  ·simp only [aC,hx',h1,h2,h3,Option.bind_some];exact OkO.mk hh hk hv
 split at hk
 ·rename_i ha
  rw [ha]at hx
  obtain⟨m,h1,hk⟩:=cB ht hk
  obtain⟨b,h2,hk⟩:=cB ht hk
  obtain⟨a,h3,hk⟩:=cB ht hk
  exact nzc (.inl rfl) hx.1.symm (v:=.a .ns) ⟨rfl,rfl⟩ ⟨m,b,a,h1,h2,h3⟩ hk
 ·rename_i ha
  rw [ha]at hx
  obtain⟨m,h1,hk⟩:=cB ht hk
  obtain⟨b,h2,hk⟩:=cB ht hk
  obtain⟨a,h3,hk⟩:=cB ht hk
  exact nzc (.inr rfl) hx.1.symm (v:=.a .ez) ⟨rfl,rfl⟩ ⟨m,b,a,h1,h2,h3⟩ hk
 ·rename_i ha
  rw [ha]at hx
  obtain⟨m,h1,hk⟩:=cB ht hk
  obtain⟨b,h2,hk⟩:=cB ht hk
  obtain⟨a,h3,hk⟩:=cB ht hk
  exact nzc hx rfl hx ⟨m,b,a,h1,h2,h3⟩ hk
 ·rename_i s ts ha
  rw [ha]at hx
  split at hk
  ·cases hk
  ·rename_i hsz
   have hsz:s.sz=sz:=by simpa using hsz
   split at hk
   ·rename_i hm
    obtain⟨m,h1,hk⟩:=cB ht hk
    obtain⟨b,h2,hk⟩:=cB ht hk
    obtain⟨a,h3,hk⟩:=cB ht hk
    obtain⟨h4,hk9⟩:=gk hk
    clear hk
    have h4:a=m:=by simpa using h4
    rcases hx with⟨es,hx',hr⟩|⟨rfl,hx'⟩
    ·rw [hr.length]at h1
     simp only [aC,hx']
     rw [if_neg (by simp [hsz]),if_pos hm]
     simp only [h1,h2,h3,Option.bind_some]
     rw [if_pos h4]
     exact OkO.mk hh hk9 (v:=.nz) (.inr rfl)
    ·have hm0:m=0:=xx h1 rfl rfl
     subst hm0
     have hb0:b=0:=xx h2 rfl rfl
     subst hb0
     exact nzc hx' rfl (v:=.nz) hx' ⟨_,_,_,h1,h2,h3⟩ hk9
   ·rename_i hm
    obtain⟨b,h2,hk⟩:=cB ht hk
    obtain⟨a,h3,hk⟩:=cB ht hk
    rcases hx with⟨es,hx',hr⟩|⟨rfl,hx'⟩
    ·rw [hr.length]at h2
     simp only [aC,hx']
     rw [if_neg (by simp [hsz]),if_neg hm]
     simp only [h2,h3,Option.bind_some]
     exact OkO.mk hh hk (.inl ⟨_,by rw [hsz],(hr.drop a).take (b-a)⟩)
    ·have hb0:b=0:=xx h2 rfl rfl
     subst hb0
     have hmx:mx=none:=by cases mx with
      |none=>rfl
      |some _=>simp at hm
     refine nzc hx' rfl (v:=.ls s (([].drop a).take (0-a))) (.inr ⟨by simp,hx'⟩) ⟨0,_,_,by rw [hmx];rfl,h2,h3⟩ hk
 ·rename_i sz' q lo0 len ha
  rw [ha]at hx
  split at hk
  ·cases hk
  ·rename_i hc
   rw [fx hh q]at hc
   split at hk
   ·rename_i hm
    obtain⟨m,h1,hk⟩:=cB ht hk
    obtain⟨b,h2,hk⟩:=cB ht hk
    obtain⟨a,h3,hk⟩:=cB ht hk
    obtain⟨h4,hk⟩:=gk hk
    have h4:a=m:=by simpa using h4
    simp only [aC,hx.1.symm]
    rw [if_neg hc,if_pos hm]
    simp only [h1,h2,h3,Option.bind_some]
    rw [if_pos h4]
    exact OkO.mk hh hk ⟨rfl,rfl⟩
   ·rename_i hm
    obtain⟨b,h2,hk⟩:=cB ht hk
    obtain⟨a,h3,hk⟩:=cB ht hk
    simp only [aC,hx.1.symm]
    rw [if_neg hc,if_neg hm]
    simp only [h2,h3,Option.bind_some]
    exact OkO.mk hh hk ⟨rfl,rfl⟩
 ·cases hk
theorem adK (ht:RT tm tm') (hh:RH h h') {sz bytes:Nat} {z:List AV} {t:TypeId} {l c:Opd} (hk:opS (aI ρ) H tm h nx (.mk sz bytes z t l c) k=some r):OkO tm' k r (aC tm' h' nx (.mk sz bytes z t l c)):=by
 simp only [opS]at hk
 have hl:=bt ht l
 have hc:=bt ht c
 split at hk
 ·rename_i ka a kb b s ha hb hs
  rw [ha]at hl;rw [hb]at hc
  split at hk
  ·rename_i hsz
   split at hk
   ·rename_i d hd
    simp only [Option.bind_eq_some_iff]at hd
    obtain⟨l0,hl0,hd⟩:=hd
    have h1:=eI hd (rz hl0)
    obtain⟨h0,hk⟩:=gk hk
    simp only [Bool.and_eq_true,decide_eq_true_eq]at h0
    simp only [aC,hl.1.symm,hc.1.symm]
    rw [if_pos ⟨h0.1.1.1,h0.1.1.2,h0.1.2,h0.2⟩]
    exact OkO.mk' hk ⟨rfl,rfl⟩ (.cons ⟨rfl,_,by rw [hsz],All2.rep h1 _⟩ hh)
   ·cases hk
  ·cases hk
 ·cases hk
theorem adL (ht:RT tm tm') (hh:RH h h') {f:FuncId} {caps:List Opd} (hk:opS (aI ρ) H tm h nx (.mf f caps) k=some r):OkO tm' k r (aC tm' h' nx (.mf f caps)):=by
 simp only [opS]at hk
 split at hk
 ·rename_i l hl
  have:=yA (uG ht caps) hl
  split at hk
  ·rename_i ha
   simp only [aC,this]
   rw [if_pos ha]
   exact OkO.mk hh hk ⟨rfl,rfl⟩
  ·cases hk
 ·cases hk
theorem adM (ht:RT tm tm') (hh:RH h h') {x:Opd} {i:Nat} (hk:opS (aI ρ) H tm h nx (.ex x i) k=some r):OkO tm' k r (aC tm' h' nx (.ex x i)):=by
 simp only [opS]at hk
 have hx:=bt ht x
 split at hk
 ·rename_i vs ha
  rw [ha]at hx
  obtain⟨ws,hx',hr⟩:=hx
  split at hk
  ·rename_i v hv
   obtain⟨w,h1,h2⟩:=hr.get i v hv
   simp only [aC,hx',h1]
   exact OkO.mk hh hk h2.toV
  ·cases hk
 ·cases hk
theorem adN (ht:RT tm tm') (hh:RH h h') {kd:Nat} {x:Opd} (hk:opS (aI ρ) H tm h nx (.le kd x) k=some r):OkO tm' k r (aC tm' h' nx (.le kd x)):=by
 simp only [opS]at hk
 split at hk
 ·rename_i n hn
  obtain⟨m,h1,rfl⟩:=Sn hh (bt ht x) hn
  simp only [aC,h1,Option.bind_some]
  exact OkO.mk hh hk ⟨rfl,rfl⟩
 ·cases hk
theorem adO (ht:RT tm tm') (hh:RH h h') {sz bytes:Nat} {t:TypeId} {x y:Opd} (hk:opS (aI ρ) H tm h nx (.ap sz bytes t x y) k=some r):OkO tm' k r (aC tm' h' nx (.ap sz bytes t x y)):=by
 simp only [opS]at hk
 have hx:=bt ht x
 split at hk
 ·rename_i s hs
  split at hk
  ·cases hk
  ·rename_i hsz
   have hsz:s.sz=sz:=by simpa using hsz
   subst hsz
   have hk0:=hk
   obtain⟨a,ea,ha,hra,hk⟩:=uF hh hx hk
   obtain⟨b,eb,hb,hrb,hk⟩:=uF hh (bt ht y) hk
   obtain⟨h0,hk⟩:=gk hk
   simp only [Bool.and_eq_true,decide_eq_true_eq]at h0
   rw [hra.length,hrb.length]at h0
   have hg:(ea.length+eb.length)*bytes≤aV∧ea.length+eb.length≤aV∧eb.flatten.any pp=false:=⟨h0.1,h0.2,TY hrb⟩
   have hemp:b.isEmpty=true↔eb.length=0:=by rw [←hrb.length];simp
   have mkrow:∀{w:AV},(w= .ns∨w= .ez)→rd tm' x=w→∀{v:SV},RV v w→(aI ρ).br b.isEmpty (k [] v h nx) (k [] (.a (.sl s.sz nx 0 b.length)) ((nx,.row s b t)::h) (nx+1))=some r→OkO tm' k r (aC tm' h' nx (.ap s.sz bytes t x y)):=by
    intro w hw hx' v hv hk
    rcases er hk with⟨h1,hk⟩|⟨h1,hk⟩
    ·have h2:=hemp.1 h1
     rcases hw with rfl|rfl
     ·simp only [aC,ha,hb,Option.bind_some]
      rw [if_pos hg]
      simp only [hx']
      rw [if_pos h2]
      exact OkO.mk hh hk hv
     ·simp only [aC,ha,hb,Option.bind_some]
      rw [if_pos hg]
      simp only [hx']
      rw [if_pos h2]
      exact OkO.mk hh hk hv
    ·have h2:¬eb.length=0:=fun h3=>by rw [hemp.2 h3]at h1;cases h1
     rcases hw with rfl|rfl
     ·simp only [aC,ha,hb,Option.bind_some]
      rw [if_pos hg]
      simp only [hx']
      rw [if_neg h2]
      exact OkO.mk' hk ⟨by rw [hrb.length],rfl⟩ (.cons ⟨rfl,_,rfl,hrb⟩ hh)
     ·simp only [aC,ha,hb,Option.bind_some]
      rw [if_pos hg]
      simp only [hx']
      rw [if_neg h2]
      exact OkO.mk' hk ⟨by rw [hrb.length],rfl⟩ (.cons ⟨rfl,_,rfl,hrb⟩ hh)
   split at hk
   ·rename_i hv
    rw [hv]at hx
    exact mkrow (.inl rfl) hx.1.symm (v:=.a .ns) ⟨rfl,rfl⟩ hk
   ·rename_i hv
    rw [hv]at hx
    exact mkrow hx rfl (v:=.nz) hx hk
   ·rename_i hv
    rw [hv]at hx
    exact mkrow (.inr rfl) hx.1.symm (v:=.a .ez) ⟨rfl,rfl⟩ hk
   ·rename_i sz0 q lo len hv
    rw [hv]at hx hk0
    split at hk
    ·rename_i s' ts t' hq
     simp only [ig,hq]at hk0
     split at hk0
     ·rename_i e
      subst e
      obtain⟨h1,hk⟩:=gk hk
      have h1:lo+len=ts.length:=by simpa using h1
      have hrq:=cZ hh q
      rw [hq]at hrq
      obtain⟨es,he,hr⟩:=hrq
      simp only [aC,ha,hb,Option.bind_some]
      rw [if_pos hg]
      simp only [hx.1.symm,he]
      rw [if_pos ⟨trivial,by rw [←hr.length];exact h1⟩]
      exact OkO.mk' hk ⟨by rw [List.length_append,hra.length,hrb.length],rfl⟩ (.cons ⟨rfl,_,rfl,hra.append hrb⟩ (dY hh (x:=.dd) rfl q))
     ·cases hk0
    ·cases hk
   ·cases hk
 ·cases hk
theorem adP (ht:RT tm tm') (hh:RH h h') {xs:List Opd} (hk:opS (aI ρ) H tm h nx (.mx xs) k=some r):OkO tm' k r (aC tm' h' nx (.mx xs)):=by
 simp only [opS]at hk
 split at hk
 ·rename_i kd a l hl
  have:=yA (uG ht xs) hl
  split at hk
  ·rename_i m hm
   simp only [aC,this,hm,Option.bind_some]
   exact OkO.mk hh hk ⟨rfl,rfl⟩
  ·cases hk
 ·cases hk
theorem adQ (ht:RT tm tm') (hh:RH h h') {xs:List Opd} (hk:opS (aI ρ) H tm h nx (.mn xs) k=some r):OkO tm' k r (aC tm' h' nx (.mn xs)):=by
 simp only [opS]at hk
 split at hk
 ·rename_i kd a l hl
  have:=yA (uG ht xs) hl
  split at hk
  ·rename_i m hm
   simp only [aC,this,hm,Option.bind_some]
   exact OkO.mk hh hk ⟨rfl,rfl⟩
  ·cases hk
 ·cases hk
theorem adR (ht:RT tm tm') (hh:RH h h') {t:TypeId} (hk:opS (aI ρ) H tm h nx (.mm t) k=some r):OkO tm' k r (aC tm' h' nx (.mm t)):=by
 simp only [opS]at hk
 simp only [aC]
 refine OkO.mk' hk ⟨rfl,rfl⟩ (.cons ⟨rfl,?_⟩ hh)
 split
 ·exact⟨[],rfl,.nil⟩
 ·exact⟨[],rfl,.nil⟩
 ·rfl
theorem rD {gg:Bool} {s:Sh} {d:aN s} {w:AV} {v:SV} (hr:RG gg s d w) (hv:yv gg (iA s d)=some v):RW v w:=by
 unfold RG at hr
 unfold yv at hv
 cases gg
 ·simp only [Bool.false_eq_true,if_false]at hr hv
  split at hv
  ·rename_i u hu
   simp at hv;subst hv
   have:=gR hr
   rw [hu]at this
   cases this with
   |cons h1 _=>exact h1.toW
  ·cases hv
 ·simp only [if_true]at hr hv
  obtain⟨cs,rfl,hr⟩:=hr
  simp at hv;subst hv
  exact⟨cs,rfl,gR hr⟩
theorem CM {kd:IntKind} {gg:Bool} {s:Sh} {n:Int} {d:aN s}:∀{es:List (Int×aN s)} {l:List (AV×AV)} (i:Nat),All2 (fun(p:Int×aN s) (q:AV×AV)=>q.1= .int kd p.1∧RG gg s p.2 q.2) es l→
  (bT es n=true∧∃j v,cO (.int kd n) l i=some (some (i+j,v))∧RG gg s (fc d es n) v∧
   (∀(d':aN s) (w:AV),RG gg s d' w→All2 (fun(p:Int×aN s) (q:AV×AV)=>q.1= .int kd p.1∧RG gg s p.2 q.2) (bU es n d') (l.set j (.int kd n,w)))∧
   All2 (fun(p:Int×aN s) (q:AV×AV)=>q.1= .int kd p.1∧RG gg s p.2 q.2) (dW es n) (l.eraseIdx j))∨
  (bT es n=false∧cO (.int kd n) l i=some none∧fc d es n=d∧
   (∀(d':aN s) (w:AV),RG gg s d' w→All2 (fun(p:Int×aN s) (q:AV×AV)=>q.1= .int kd p.1∧RG gg s p.2 q.2) (bU es n d') (l++ [(.int kd n,w)]))∧
   dW es n=es)
 | [],_,i,h=>by
  cases h
  exact .inr ⟨rfl,rfl,rfl,fun d' w hw=>.cons ⟨rfl,hw⟩ .nil,rfl⟩
 |(a,x)::es,_,i,h=>by
  cases h with
  | @cons _ q _ l h1 h2=>
   obtain⟨qa,qv⟩:=q
   obtain⟨h3,h4⟩:=h1
   simp only at h3 h4
   subst h3
   by_cases hn:(n==a)=true
   ·refine .inl ⟨by simp only [bT,hn,Bool.true_or],0,qv,?_,by simp only [fc,hn,if_true];exact h4,fun d' w hw=> ?_,?_⟩
    ·simp only [cO,eV,if_true,hn,Nat.add_zero]
    ·simp only [bU,hn,if_true,List.set_cons_zero]
     exact .cons ⟨rfl,hw⟩ h2
    ·simp only [dW,hn,if_true,List.eraseIdx_cons_zero]
     exact h2
   ·have hn:(n==a)=false:=by simpa using hn
    rcases CM (n:=n) (d:=d) (i+1) h2 with⟨h5,j,v,h6,h7,h8,h9⟩|⟨h5,h6,h7,h8,h9⟩
    ·refine .inl ⟨by simp only [bT,hn,h5,Bool.false_or],j+1,v,?_,by simp only [fc,hn,Bool.false_eq_true,if_false];exact h7,fun d' w hw=> ?_,?_⟩
     ·simp only [cO,eV,if_true,hn];rw [h6];congr 3;omega
     ·simp only [bU,hn,Bool.false_eq_true,if_false,List.set_cons_succ]
      exact .cons ⟨rfl,h4⟩ (h8 d' w hw)
     ·simp only [dW,hn,Bool.false_eq_true,if_false,List.eraseIdx_cons_succ]
      exact .cons ⟨rfl,h4⟩ h9
    ·refine .inr ⟨by simp only [bT,hn,h5,Bool.false_or],?_,by simp only [fc,hn,Bool.false_eq_true,if_false];exact h7,fun d' w hw=> ?_,by simp only [dW,hn,Bool.false_eq_true,if_false,h9]⟩
     ·simp only [cO,eV,if_true,hn];exact h6
     ·simp only [bU,hn,Bool.false_eq_true,if_false,List.cons_append]
      exact .cons ⟨rfl,h4⟩ (h8 d' w hw)
theorem CN {gg:Bool} {s:Sh} {n:ByteArray} {d:aN s}:∀{es:List (ByteArray×aN s)} {l:List (AV×AV)} (i:Nat),All2 (fun(p:ByteArray×aN s) (q:AV×AV)=>q.1= .st p.1∧RG gg s p.2 q.2) es l→
  (bT es n=true∧∃j v,cO (.st n) l i=some (some (i+j,v))∧RG gg s (fc d es n) v∧
   (∀(d':aN s) (w:AV),RG gg s d' w→All2 (fun(p:ByteArray×aN s) (q:AV×AV)=>q.1= .st p.1∧RG gg s p.2 q.2) (bU es n d') (l.set j (.st n,w)))∧
   All2 (fun(p:ByteArray×aN s) (q:AV×AV)=>q.1= .st p.1∧RG gg s p.2 q.2) (dW es n) (l.eraseIdx j))∨
  (bT es n=false∧cO (.st n) l i=some none∧fc d es n=d∧
   (∀(d':aN s) (w:AV),RG gg s d' w→All2 (fun(p:ByteArray×aN s) (q:AV×AV)=>q.1= .st p.1∧RG gg s p.2 q.2) (bU es n d') (l++ [(.st n,w)]))∧
   dW es n=es)
 | [],_,i,h=>by
  cases h
  exact .inr ⟨rfl,rfl,rfl,fun d' w hw=>.cons ⟨rfl,hw⟩ .nil,rfl⟩
 |(a,x)::es,_,i,h=>by
  cases h with
  | @cons _ q _ l h1 h2=>
   obtain⟨qa,qv⟩:=q
   obtain⟨h3,h4⟩:=h1
   simp only at h3 h4
   subst h3
   by_cases hn:(n==a)=true
   ·refine .inl ⟨by simp only [bT,hn,Bool.true_or],0,qv,?_,by simp only [fc,hn,if_true];exact h4,fun d' w hw=> ?_,?_⟩
    ·simp only [cO,eV,hn,Nat.add_zero]
    ·simp only [bU,hn,if_true,List.set_cons_zero]
     exact .cons ⟨rfl,hw⟩ h2
    ·simp only [dW,hn,if_true,List.eraseIdx_cons_zero]
     exact h2
   ·have hn:(n==a)=false:=by simpa using hn
    rcases CN (n:=n) (d:=d) (i+1) h2 with⟨h5,j,v,h6,h7,h8,h9⟩|⟨h5,h6,h7,h8,h9⟩
    ·refine .inl ⟨by simp only [bT,hn,h5,Bool.false_or],j+1,v,?_,by simp only [fc,hn,Bool.false_eq_true,if_false];exact h7,fun d' w hw=> ?_,?_⟩
     ·simp only [cO,eV,hn];rw [h6];congr 3;omega
     ·simp only [bU,hn,Bool.false_eq_true,if_false,List.set_cons_succ]
      exact .cons ⟨rfl,h4⟩ (h8 d' w hw)
     ·simp only [dW,hn,Bool.false_eq_true,if_false,List.eraseIdx_cons_succ]
      exact .cons ⟨rfl,h4⟩ h9
    ·refine .inr ⟨by simp only [bT,hn,h5,Bool.false_or],?_,by simp only [fc,hn,Bool.false_eq_true,if_false];exact h7,fun d' w hw=> ?_,by simp only [dW,hn,Bool.false_eq_true,if_false,h9]⟩
     ·simp only [cO,eV,hn];exact h6
     ·simp only [bU,hn,Bool.false_eq_true,if_false,List.cons_append]
      exact .cons ⟨rfl,h4⟩ (h8 d' w hw)
theorem CO {gg:Bool} {s:Sh} {d:aN s} {v:SV} {w:AV} {cs:List SV} (hv:RV v w) (hc:bH v=some cs) (hd:cX s cs=some d) (hg:lr v=gg):RG gg s d w∧Dt w=true:=by
  obtain⟨ws,hw,hr⟩:=ik hv hc
  have h1:=eI hd hr
  have hok:∀{s:Sh} {d:aN s} {ws:List AV},RE s d ws→ws.all Ds=true:=by
    intro s
    induction s with
    |i _=>intro d ws h;cases h;rfl
    |b=>intro d ws h;cases h;rfl
    |s=>intro d ws h;cases h;rfl
    |row e _=>intro d ws h;obtain⟨w,rfl,⟨es,rfl,_⟩|⟨_,rfl|rfl⟩⟩:=h<;>rfl
    |nil=>intro d ws h;cases h;rfl
    |cons a b iha ihb=>intro d ws h;obtain⟨c1,c2,rfl,h1,h2⟩:=h;rw [List.all_append,iha h1,ihb h2];rfl
  have h2:=hok h1
  cases v with
  |ag us=>
    obtain⟨us',rfl,_⟩:=hv
    simp [cellsOf]at hw;subst hw
    simp only [lr]at hg;subst hg
    exact⟨⟨us',rfl,h1⟩,h2⟩
  |tp us=>simp [bH]at hc
  |uk=>simp [bH]at hc
  |ow _ _=>simp [bH]at hc
  |a u=>
    have hsh:=dh (v:=.a u) hv
    simp only [lr]at hg;subst hg
    obtain⟨rfl,hcell⟩:=hv
    have hw2:ws= [u]:=by cases u<;>first|(simp [cellsOf]at hw;done)|(simp [cellsOf]at hw;exact hw.symm)|(simp [lJ]at hcell)
    subst hw2
    refine⟨h1,?_⟩
    simp only [List.all_cons,List.all_nil,Bool.and_true]at h2
    cases u<;>first|exact h2|exact absurd rfl (hsh.1 _)
  | ls s0 ts=>
    have hsh:=dh (v:=.ls s0 ts) hv
    simp only [lr]at hg;subst hg
    rcases hv with⟨es,rfl,_⟩|⟨_,rfl|rfl⟩<;>(simp [cellsOf]at hw;subst hw;exact⟨h1,rfl⟩)
  |ri s0 ts i off=>
    simp only [lr]at hg;subst hg
    obtain⟨es,rfl,_⟩:=hv
    simp [cellsOf]at hw;subst hw;exact⟨h1,rfl⟩
  |nz=>
    simp only [lr]at hg;subst hg
    rcases hv with rfl|rfl<;>(simp [cellsOf]at hw;subst hw;exact⟨h1,rfl⟩)
theorem BU {z:AV} {cs:List SV} (h:bH (nA z)=some cs):lr (nA z)=Ic z:=by
 cases z<;>first|rfl|skip
 rename_i l
 show lr (match zS l with
  |some l=>SV.ag l
  |none=>SV.uk)=true
 have h':bH (match zS l with
  |some l=>SV.ag l
  |none=>SV.uk)=some cs:=h
 cases hz:zS l with
 |some _=>rfl
 |none=>rw [hz]at h';simp [bH]at h'
theorem pX (hh:RH h h') {ok has:Bool} {v:SV} {w:AV} (hv:RW v w) (hk:k [] (if ok=true then .tp [v,.a (.bl has)]else v) h nx=some r):OkO tm' k r (one h' nx (if ok=true then .tp [w,.bl has]else w)):=by
 cases ok
 ·simp only [Bool.false_eq_true,if_false]at hk⊢
  exact OkO.mk hh hk hv.toV
 ·simp only [if_true]at hk⊢
  exact OkO.mk hh hk ⟨_,rfl,.cons hv (.cons ⟨rfl,rfl⟩ .nil)⟩
theorem Au {x:AV} {kk:AV→Option ρ} {d:Option ρ}:∀{es:List (AV×AV)} (i:Nat),uv (aI ρ) x es kk d=some r→(∃j v,cO x es i=some (some (j,v))∧kk v=some r)∨(cO x es i=some none∧d=some r)
 | [],i,h=>.inr ⟨rfl,h⟩
 |(a,v)::es,i,h=>by
  simp only [uv]at h
  split at h
  ·split at h
   ·rename_i hkk
    subst hkk
    rcases er h with⟨h1,h2⟩|⟨h1,h2⟩
    ·exact .inl ⟨i,v,by simp only [cO,eV,if_true,h1],h2⟩
    ·rcases Au (i+1) h2 with⟨j,v',h3,h4⟩|⟨h3,h4⟩
     ·exact .inl ⟨j,v',by simp only [cO,eV,if_true,h1];exact h3,h4⟩
     ·exact .inr ⟨by simp only [cO,eV,if_true,h1];exact h3,h4⟩
   ·cases h
  ·rcases er h with⟨h1,h2⟩|⟨h1,h2⟩
   ·exact .inl ⟨i,v,by simp only [cO,eV,h1],h2⟩
   ·rcases Au (i+1) h2 with⟨j,v',h3,h4⟩|⟨h3,h4⟩
    ·exact .inl ⟨j,v',by simp only [cO,eV,h1];exact h3,h4⟩
    ·exact .inr ⟨by simp only [cO,eV,h1];exact h3,h4⟩
  ·cases h
theorem adS (ht:RT tm tm') (hh:RH h h') {st:Bool} {z:AV} {ok:Bool} {x i:Opd} (hk:opS (aI ρ) H tm h nx (.lk st z ok x i) k=some r):OkO tm' k r (aC tm' h' nx (.lk st z ok x i)):=by
 simp only [opS]at hk
 have hx:=bt ht x
 have hi:=bt ht i
 split at hk
 ·rename_i b ha
  rw [ha]at hx
  have hrb:=cZ hh b
  split at hk
  ·rename_i kd gg s es hb
   rw [hb]at hrb
   obtain⟨l,he,hr⟩:=hrb
   split at hk
   ·rename_i kd' n d hn hd
    rw [hn]at hi
    simp only [Option.bind_eq_some_iff]at hd
    obtain⟨cs,hcs,hd⟩:=hd
    split at hk
    ·rename_i hc
     obtain⟨rfl,hg,rfl⟩:=hc
     have hz:=(CO (wi z) hcs hd (by rw [BU hcs,hg])).1
     split at hk
     ·rename_i v hv
      simp only [aC,hi.1.symm,hx.1.symm,he,gf,if_true]
      rcases CM (n:=n) (d:=d) 0 hr with⟨h5,j,w,h6,h7,_⟩|⟨h5,h6,h7,_⟩
      ·simp only [h6]
       rw [h5]at hk
       exact pX hh (rD h7 hv) hk
      ·simp only [h6]
       rw [h5]at hk
       rw [h7]at hv
       exact pX hh (rD hz hv) hk
     ·cases hk
    ·cases hk
   ·cases hk
  ·rename_i gg s es hb
   rw [hb]at hrb
   obtain⟨l,he,hr⟩:=hrb
   split at hk
   ·rename_i n d hn hd
    rw [hn]at hi
    simp only [Option.bind_eq_some_iff]at hd
    obtain⟨cs,hcs,hd⟩:=hd
    split at hk
    ·rename_i hc
     obtain⟨hg,rfl⟩:=hc
     have hz:=(CO (wi z) hcs hd (by rw [BU hcs,hg])).1
     split at hk
     ·rename_i v hv
      simp only [aC,hi.1.symm,hx.1.symm,he,gf,if_true]
      rcases CN (n:=n) (d:=d) 0 hr with⟨h5,j,w,h6,h7,_⟩|⟨h5,h6,h7,_⟩
      ·simp only [h6]
       rw [h5]at hk
       exact pX hh (rD h7 hv) hk
      ·simp only [h6]
       rw [h5]at hk
       rw [h7]at hv
       exact pX hh (rD hz hv) hk
     ·cases hk
    ·cases hk
   ·cases hk
  ·rename_i es hb
   rw [hb]at hrb
   have he:aW h' b= .mp es:=hrb
   split at hk
   ·rename_i v hv
    rw [hv]at hi
    split at hk
    ·rename_i hc
     simp only [aC,hi.1.symm,hx.1.symm,he]
     rw [if_pos hc.1]
     rcases Au 0 hk with⟨j,w,h3,h4⟩|⟨h3,h4⟩
     ·split at h4
      ·rename_i hcell
       simp only [h3]
       exact pX hh (v:=.a w) ⟨rfl,hcell⟩ h4
      ·cases h4
     ·simp only [h3]
      exact pX hh (v:=.a z) ⟨rfl,hc.2⟩ h4
    ·cases hk
   ·cases hk
  ·cases hk
 ·cases hk
theorem adT (ht:RT tm tm') (hh:RH h h') {st:Bool} {x y v:Opd} (hk:opS (aI ρ) H tm h nx (.mu st x y v) k=some r):OkO tm' k r (aC tm' h' nx (.mu st x y v)):=by
 simp only [opS]at hk
 have hx:=bt ht x
 have hy:=bt ht y
 have hv:=bt ht v
 split at hk
 ·rename_i b ha
  rw [ha]at hx
  have hrb:=cZ hh b
  split at hk
  ·rename_i kd gg s es hb
   rw [hb]at hrb
   obtain⟨l,he,hr⟩:=hrb
   split at hk
   ·rename_i kd' n d hn hd
    rw [hn]at hy
    simp only [Option.bind_eq_some_iff]at hd
    obtain⟨cs,hcs,hd⟩:=hd
    split at hk
    ·rename_i hc
     obtain⟨rfl,hg,rfl⟩:=hc
     obtain⟨hz,hok⟩:=CO hv hcs hd hg
     simp only [aC,hy.1.symm,hx.1.symm,he,gf,hok,Bool.and_self,if_true]
     rcases CM (n:=n) (d:=d) 0 hr with⟨h5,j,w,h6,h7,h8,_⟩|⟨h5,h6,h7,h8,_⟩
     ·simp only [h6,Nat.zero_add]
      exact OkO.mk' hk ⟨rfl,rfl⟩ (dY hh (x:=.mi kd' gg s (bU es n d)) ⟨_,rfl,h8 d _ hz⟩ b)
     ·simp only [h6]
      exact OkO.mk' hk ⟨rfl,rfl⟩ (dY hh (x:=.mi kd' gg s (bU es n d)) ⟨_,rfl,h8 d _ hz⟩ b)
    ·cases hk
   ·cases hk
  ·rename_i gg s es hb
   rw [hb]at hrb
   obtain⟨l,he,hr⟩:=hrb
   split at hk
   ·rename_i n d hn hd
    rw [hn]at hy
    simp only [Option.bind_eq_some_iff]at hd
    obtain⟨cs,hcs,hd⟩:=hd
    split at hk
    ·rename_i hc
     obtain⟨hg,rfl⟩:=hc
     obtain⟨hz,hok⟩:=CO hv hcs hd hg
     simp only [aC,hy.1.symm,hx.1.symm,he,gf,hok,Bool.and_self,if_true]
     rcases CN (n:=n) (d:=d) 0 hr with⟨h5,j,w,h6,h7,h8,_⟩|⟨h5,h6,h7,h8,_⟩
     ·simp only [h6,Nat.zero_add]
      exact OkO.mk' hk ⟨rfl,rfl⟩ (dY hh (x:=.ms gg s (bU es n d)) ⟨_,rfl,h8 d _ hz⟩ b)
     ·simp only [h6]
      exact OkO.mk' hk ⟨rfl,rfl⟩ (dY hh (x:=.ms gg s (bU es n d)) ⟨_,rfl,h8 d _ hz⟩ b)
    ·cases hk
   ·cases hk
  ·rename_i es hb
   rw [hb]at hrb
   have he:aW h' b= .mp es:=hrb
   split at hk
   ·rename_i y' v' hy' hv'
    rw [hy']at hy;rw [hv']at hv
    split at hk
    ·rename_i hc
     simp only [aC,hy.1.symm,hv.1.symm,hx.1.symm,he,hc.1,hc.2,Bool.and_self,if_true]
     split at hk
     ·rename_i i w hf
      simp only [hf]
      exact OkO.mk' hk ⟨rfl,rfl⟩ (dY hh (x:=.ml _) rfl b)
     ·rename_i hf
      simp only [hf]
      exact OkO.mk' hk ⟨rfl,rfl⟩ (dY hh (x:=.ml _) rfl b)
     ·cases hk
    ·cases hk
   ·cases hk
  ·cases hk
 ·cases hk
theorem GN {h:bM} {h':List (Nat×BK)} (hh:RH h h') {b:Nat} {x:SB} (hx:cU h b=x) (hd:x≠ .dd):RH (fw h b x) h':=by
 induction hh with
 |nil=>subst hx;exact absurd rfl hd
 | @cons p q _ _ h1 h4 ih=>
  obtain⟨k,y⟩:=p
  simp only [fw]
  simp only [cU]at hx
  split
  ·rename_i hkb
   rw [if_pos hkb]at hx
   subst hx
   exact .cons ⟨by rw [←hkb];exact h1.1,h1.2⟩ h4
  ·rename_i hkb
   rw [if_neg hkb]at hx
   exact .cons h1 (ih hx)
theorem adU (ht:RT tm tm') (hh:RH h h') {st:Bool} {x y:Opd} (hk:opS (aI ρ) H tm h nx (.de st x y) k=some r):OkO tm' k r (aC tm' h' nx (.de st x y)):=by
 simp only [opS]at hk
 have hx:=bt ht x
 have hy:=bt ht y
 split at hk
 ·rename_i b ha
  rw [ha]at hx
  have hrb:=cZ hh b
  split at hk
  ·rename_i kd gg s es hb
   rw [hb]at hrb
   obtain⟨l,he,hr⟩:=hrb
   split at hk
   ·rename_i kd' n hn
    rw [hn]at hy
    split at hk
    ·rename_i hc
     obtain⟨rfl,rfl⟩:=hc
     simp only [aC,hy.1.symm,hx.1.symm,he,gf,if_true]
     rcases CM (n:=n) (d:=aa s) 0 hr with⟨h5,j,w,h6,h7,_,h9⟩|⟨h5,h6,h7,_,h9⟩
     ·simp only [h6,Nat.zero_add]
      exact OkO.mk' hk ⟨[],rfl,.nil⟩ (dY hh (x:=.mi kd' gg s (dW es n)) ⟨_,rfl,h9⟩ b)
     ·simp only [h6]
      rw [h9]at hk
      exact OkO.mk' hk ⟨[],rfl,.nil⟩ (GN hh hb (by simp))
    ·cases hk
   ·cases hk
  ·rename_i gg s es hb
   rw [hb]at hrb
   obtain⟨l,he,hr⟩:=hrb
   split at hk
   ·rename_i n hn
    rw [hn]at hy
    split at hk
    ·rename_i hc
     subst hc
     simp only [aC,hy.1.symm,hx.1.symm,he,gf,if_true]
     rcases CN (n:=n) (d:=aa s) 0 hr with⟨h5,j,w,h6,h7,_,h9⟩|⟨h5,h6,h7,_,h9⟩
     ·simp only [h6,Nat.zero_add]
      exact OkO.mk' hk ⟨[],rfl,.nil⟩ (dY hh (x:=.ms gg s (dW es n)) ⟨_,rfl,h9⟩ b)
     ·simp only [h6]
      rw [h9]at hk
      exact OkO.mk' hk ⟨[],rfl,.nil⟩ (GN hh hb (by simp))
    ·cases hk
   ·cases hk
  ·cases hk
 ·cases hk
theorem TZ (ht:RT tm tm') (hh:RH h h') {op:COp} (hk:opS (aI ρ) H tm h nx op k=some r):OkO tm' k r (aC tm' h' nx op):=by
 cases op with
 |mv _=>exact adm ht hh hk
 |pk _ _ _=>exact adn ht hh hk
 |al _ _=>exact ado ht hh hk
 |bx _ _=>exact adp ht hh hk
 |bd _ _=>exact adq ht hh hk
 |bs _ _ _ _ _=>exact adr ht hh hk
 |ld _ _=>exact ads ht hh hk
 |sr _ _ _=>exact adt ht hh hk
 |nc _=>exact adu ht hh hk
 |bn _ _ _=>exact adv ht hh hk
 |ea _ _ _ _=>exact adw ht hh hk
 |eb _ _ _=>exact adx ht hh hk
 |nq _ _ _=>exact ady ht hh hk
 |un _ _=>exact adz ht hh hk
 |ci _ _=>exact adA ht hh hk
 |cs _ _=>exact adB ht hh hk
 |cv1 _=>exact aa7 ht hh hk
 |cb _=>exact adC ht hh hk
 |fa _ _=>exact adD ht hh hk
 |fd _ _ _=>exact adE ht hh hk
 |ia _ _ _ _=>exact adF ht hh hk
 |ix _ _ _ _ _=>exact adG ht hh hk
 |si _ _=>exact adH ht hh hk
 |ss _ _ _=>exact adI ht hh hk
 |sc _ _ _ _ _=>exact adJ ht hh hk
 |mk _ _ _ _ _ _=>exact adK ht hh hk
 |mf _ _=>exact adL ht hh hk
 |ex _ _=>exact adM ht hh hk
 |le _ _=>exact adN ht hh hk
 |ap _ _ _ _ _=>exact adO ht hh hk
 |mx _=>exact adP ht hh hk
 |mn _=>exact adQ ht hh hk
 |mm _=>exact adR ht hh hk
 |lk _ _ _ _ _=>exact adS ht hh hk
 |mu _ _ _ _=>exact adT ht hh hk
 |de _ _ _=>exact adU ht hh hk
 |cf _ _=>simp [opS]at hk
 |cv _ _=>simp [opS]at hk
 |cp _ _ _=>simp [opS]at hk
 |bad=>simp [opS]at hk
end
end Go.Am
