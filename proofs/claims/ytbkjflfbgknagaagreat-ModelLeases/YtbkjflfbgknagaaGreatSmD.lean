import Derived.Test.YtbkjflfbgknagaaGreatSmC
import GoSem.ClaimChange
import Derived.WalkKit
set_option linter.constructorNameAsVariable false
set_option linter.unusedVariables false
set_option linter.unusedSimpArgs false
namespace Go.Am
def Evt (p:Nat→Prop):Prop:=∃m,∀K,m≤K→p K
theorem Evt.of {p:Nat→Prop} (h:∀K,p K):Evt p:=⟨0,fun K _=>h K⟩
theorem Evt.and {p q:Nat→Prop} (h1:Evt p) (h2:Evt q):Evt fun K=>p K∧q K:=by
 obtain⟨m,h1⟩:=h1
 obtain⟨n,h2⟩:=h2
 exact⟨m+n,fun K hK=>⟨h1 K (by omega),h2 K (by omega)⟩⟩
theorem Evt.mono {p q:Nat→Prop} (h1:Evt p) (h:∀K,p K→q K):Evt q:=by
 obtain⟨m,h1⟩:=h1
 exact⟨m,fun K hK=>h K (h1 K hK)⟩
theorem Evt.and2 {p q s:Nat→Prop} (h1:Evt p) (h2:Evt q) (h:∀K,p K→q K→s K):Evt s:=(h1.and h2).mono fun K hK=>h K hK.1 hK.2
theorem Evt.succ {p:Nat→Prop} (h1:Evt p):Evt fun K=>∃j,K=j+1∧p j:=by
 obtain⟨m,h1⟩:=h1
 exact⟨m+1,fun K hK=>⟨K-1,by omega,h1 _ (by omega)⟩⟩
def ce:AV→List AV
 | .ag cs=>cs
 |v=>[v]
def bB:List AV→List (Bool×Nat)
 | []=>[]
 | .ag cs::l=>(true,cs.length)::bB l
 |_::l=>(false,1)::bB l
def OY (v:SV) (w:AV):Prop:=RV v w∧cJ v=false
def RR (c:Ctr) (y:aN c.t) (w:AV):Prop:=∀(ρ:Type) (pr:List (Nat×Bool)) (k:SV→Option ρ) (r:ρ),Np (aI ρ) pr c y k=some r→∃v,OY v w∧k v=some r
def ch:CC→List (List Nat×CC)
 | .sq a b=>ch a++ch b
 | .cd _ a b=>ch a++ch b
 | .bk _ b=>ch b
 | .lp live b=>(live,b)::ch b
 |_=>[]
def Iq (g:Cfg) (L:Lps) (live:List Nat) (b:CC):Prop:=
 gj≤dX live∧∀x y,L.L x=some y→∀S',RS (wa L.ps x) S'→∀(ρ:Type) (k:KS ρ) (r:ρ),ii L.os y (aI ρ).sm k=some r→
  ∃ex S1 S1',k ex S1=some r∧RS S1 S1'∧Evt fun K=>∀S'',dJ live S''=S'→bF g (dg g K) (.lp live b) S''=some (ex,S1')
def iI (T:Tbl) (g:Cfg) (c:CC):Prop:=∀p∈ch c,∀(j:Nat) L,T.lp (dX p.1+j*jb)=some L→Iq g L p.1 p.2
structure TG (T:Tbl) (g:Cfg):Prop where
 inl:∀f,g.inl f=((T.ct f).isNone && !T.hint.pf.contains f)
 noe:∀f as,T.ct f=none→g.ext f as=none
 code:∀f c,T.code f=some c→g.code f=some c
 kl:∀f,g.kl f=T.hint.kl.contains f
 ext:∀f c (as:List AV) x y,T.ct f=some c→bB as=c.as→RE c.s x (as.flatMap ce)→c.F x=some y→∃w,g.ext f as=some w∧RR c y w
 lps:∀f c,T.code f=some c→iI T g c.code
 noc:∀f,T.code f=none→g.code f=none
 row:∀f w,T.st f=some w→∀(h:List (Nat×BK)) nx b t ts es ts',aW h b= .rw false w.s.sz es t→All2 (RE w.s) ts es→w.F ts=some ts'→
  ∃es',All2 (RE w.s) ts' es'∧g.wr f [.sl w.s.sz b 0 es.length,.fn w.c []] h nx=some ⟨.tp [],put h b (.rw false w.s.sz es' t),nx⟩
 nor:∀f w,T.st f=some w→∀(h:List (Nat×BK)) nx,g.wr f [.ns,.fn w.c []] h nx=some ⟨.tp [],h,nx⟩
section
variable {ρ:Type} {r:ρ} {h:bM} {h':List (Nat×BK)} {tm:SM} {tm':List (Nat×AV)} {nx:Nat} {g:Cfg} {T:Tbl} {S:SS} {S':St}
theorem BV {v:SV} {w:AV} (hv:RW v w):All2 RC (lL v) (ce w):=by
 rcases eM hv with⟨cs,ws,rfl,rfl,h⟩|h
 ·exact h
 ·have h2:=dh h
  have:ce w= [w]:=by cases w<;>first|rfl|exact absurd rfl (h2.1 _)
  rw [this]
  cases v<;>first|exact .cons h .nil|exact h.elim
theorem wj {v:SV} {w:AV} (hv:RW v w):∀l,w≠ .tp l:=by
 rcases eM hv with⟨cs,ws,rfl,rfl,h⟩|h
 ·intro l hl;cases hl
 ·exact(dh h).2
theorem Ua {v:SV} {w:AV} (hv:RW v w):cJ v=false:=by
 cases v<;>first|rfl|exact hv.elim
theorem Ir {cs:List SV} {ws:List AV} {n:Option Nat} {v:SV} (hc:All2 RC cs ws) (h:dV cs n=some v):∃w,ip ws n=some w∧RW v w:=by
 cases n with
 |some n=>simp [dV]at h;subst h;exact⟨_,rfl,⟨ws,rfl,hc⟩⟩
 |none=>
  unfold dV at h
  simp only at h
  split at h
  ·simp at h;subst h
   obtain⟨w,rfl,hw⟩:=hc.one
   exact⟨w,rfl,hw.toW⟩
  ·cases h
theorem KR {n:Option Nat} {v:SV} {w:AV} {ws:List AV} {cs:List SV} (hc:All2 RC cs ws) (hw:dy h' (n.getD 1) w=some ws) (hv:dV cs n=some v):∃u,eD h' n w=some u∧RW v u:=by
 obtain⟨u,hu,hr⟩:=Ir hc hv
 refine⟨u,?_,hr⟩
 cases n with
 |some n=>simp only [Option.getD_some]at hw;simp [ip]at hu;subst hu;simp [eD,hw]
 |none=>
  simp only [Option.getD_none]at hw
  simp only [eD,hw]
  unfold ip at hu
  simp only at hu
  split at hu
  ·simp at hu;subst hu;rfl
  ·cases hu
theorem rE:∀{vs:List SV} {ws:List AV},All2 RW vs ws→ja vs=bB ws
 | [],_,h=>by cases h;rfl
 |v::vs,_,h=>by
  cases h with
  | @cons _ w _ ws h1 h2=>
   rcases eM h1 with⟨cs,us,rfl,rfl,h⟩|h
   ·simp only [ja,bB,h.length,rE h2]
   ·have h3:=(dh h).1
    have e1:ja (v::vs)=(false,1)::ja vs:=by cases v<;>first|rfl|exact h.elim
    have e2:bB (w::ws)=(false,1)::bB ws:=by cases w<;>first|rfl|exact absurd rfl (h3 _)
    rw [e1,e2,rE h2]
theorem il (hs:RS S S'):∀{rs:List CR} {k:List SV→Option ρ},dL (aI ρ) S rs k=some r→∃vs ws,results S' rs=some ws∧All2 RW vs ws∧k vs=some r
 | [],k,hk=>⟨[],[],rfl,.nil,hk⟩
 | .tm t::rs,k,hk=>by
  rw [dL]at hk
  have ht:=hs.tm t
  have main:RW (bA S.tm t) (look .ud S'.tm t)→dL (aI ρ) S rs (fun l=>k (bA S.tm t::l))=some r→∃vs ws,results S' (.tm t::rs)=some ws∧All2 RW vs ws∧k vs=some r:=fun hw hk=>by
   obtain⟨vs,ws,h1,h2,h3⟩:=il hs hk
   refine⟨_,_,?_,.cons hw h2,h3⟩
   have:=wj hw
   simp only [results]
   rw [h1];rfl
  split at hk
  ·cases hk
  ·cases hk
  ·rename_i hn1 hn2
   refine main ?_ hk
   rcases kc ht with h|⟨cs,ws,h,_⟩|h
   ·exact absurd h hn2
   ·exact absurd h (hn1 cs)
   ·exact h
 | .cl t n::rs,k,hk=>by
  rw [dL]at hk
  obtain⟨cs,ws,h1,h2,h3⟩:=wK hs.h (hs.tm t) hk
  split at h3
  ·rename_i v hv
   obtain⟨u,h4,h5⟩:=KR h2 h1 hv
   obtain⟨vs,ws',h6,h7,h8⟩:=il hs h3
   exact⟨_,_,by simp only [results,h4,h6],.cons h5 h7,h8⟩
  ·cases h3
theorem xy {vs:List SV} {ws:List AV} (h:All2 RW vs ws):OY (wb vs) (fp ws):=by
 cases h with
 |nil=>exact⟨⟨[],rfl,.nil⟩,rfl⟩
 |cons h1 h2=>cases h2 with
  |nil=>exact⟨h1.toV,Ua h1⟩
  |cons h2 h3=>exact⟨⟨_,rfl,.cons h1 (.cons h2 h3)⟩,rfl⟩
theorem GO {v:SV} {w:AV} (hv:RC v w) (n:Nat):RC (Aq n v).1 (qe n w).1∧RH (Aq n v).2.1 (qe n w).2.1∧(Aq n v).2.2=(qe n w).2.2:=by
  cases v with
  |a u=>
    obtain⟨rfl,hc⟩:=hv
    have:qe n u=(u,[],n):=by cases u<;>first|rfl|(simp [lJ]at hc)
    rw [this]
    exact⟨⟨rfl,hc⟩,.nil,rfl⟩
  | ls s ts=>
    have:qe n w=(w,[],n):=by rcases hv with⟨es,rfl,_⟩|⟨_,rfl|rfl⟩<;>rfl
    rw [this]
    exact⟨hv,.nil,rfl⟩
  |ri s ts i off=>obtain⟨es,rfl,h⟩:=hv;exact⟨⟨es,rfl,h⟩,.nil,rfl⟩
  |ow s ts=>
    obtain⟨es,rfl,h⟩:=hv
    exact⟨⟨by show AV.sl _ _ _ _=AV.sl s.sz n 0 es.length;rw [h.length],rfl⟩,.cons ⟨rfl,es,rfl,h⟩ .nil,rfl⟩
  |nz=>
    have:qe n w=(w,[],n):=by rcases hv with rfl|rfl<;>rfl
    rw [this]
    exact⟨hv,.nil,rfl⟩
  |_=>exact hv.elim
theorem Ex:∀{vs:List SV} {ws:List AV},All2 RC vs ws→∀n,All2 RC (wd n vs).1 (iO n ws).1∧RH (wd n vs).2.1 (iO n ws).2.1∧(wd n vs).2.2=(iO n ws).2.2
 | [],_,h,n=>by cases h;exact⟨.nil,.nil,rfl⟩
 |v::vs,_,h,n=>by
  cases h with
  |cons h1 h2=>
   obtain⟨a1,a2,a3⟩:=GO h1 n
   simp only [wd,iO]
   rw [a3]
   obtain⟨b1,b2,b3⟩:=Ex h2 (qe n _).2.2
   exact⟨.cons a1 b1,uD a2 b2,b3⟩
theorem GP {v:SV} {w:AV} (hv:RW v w) (n:Nat):RW (xr n v).1 (dQ n w).1∧RH (xr n v).2.1 (dQ n w).2.1∧(xr n v).2.2=(dQ n w).2.2:=by
 rcases eM hv with⟨cs,ws,rfl,rfl,h⟩|h
 ·obtain⟨a1,a2,a3⟩:=Ex h n
  exact⟨⟨_,rfl,a1⟩,a2,a3⟩
 ·have hw:dQ n w=qe n w:=by
   have:=(dh h).1
   cases w<;>first|rfl|exact absurd rfl (this _)
  have hv':xr n v=Aq n v:=by cases v<;>first|rfl|exact h.elim
  rw [hw,hv']
  obtain⟨a1,a2,a3⟩:=GO h n
  exact⟨a1.toW,a2,a3⟩
theorem Ey:∀{vs:List SV} {ws:List AV},All2 RW vs ws→∀n,All2 RW (we n vs).1 (dK n ws).1∧RH (we n vs).2.1 (dK n ws).2.1∧(we n vs).2.2=(dK n ws).2.2
 | [],_,h,n=>by cases h;exact⟨.nil,.nil,rfl⟩
 |v::vs,_,h,n=>by
  cases h with
  |cons h1 h2=>
   obtain⟨a1,a2,a3⟩:=GP h1 n
   simp only [we,dK]
   rw [a3]
   obtain⟨b1,b2,b3⟩:=Ey h2 (dQ n _).2.2
   exact⟨.cons a1 b1,uD a2 b2,b3⟩
theorem Sq {v:SV} {w:AV} (hv:OY v w) (n:Nat):RV (Ei n v).1 (dI n w).1∧RH (Ei n v).2.1 (dI n w).2.1∧(Ei n v).2.2=(dI n w).2.2:=by
 obtain⟨hv,hu⟩:=hv
 rcases kc hv with rfl|⟨cs,ws,rfl,rfl,h⟩|h
 ·simp [cJ]at hu
 ·obtain⟨a1,a2,a3⟩:=Ey h n
  exact⟨⟨_,rfl,a1⟩,a2,a3⟩
 ·have hw:dI n w=dQ n w:=by
   have:=wj h
   cases w<;>first|rfl|exact absurd rfl (this _)
  have hv':Ei n v=xr n v:=by cases v<;>first|rfl|exact h.elim
  rw [hw,hv']
  obtain⟨a1,a2,a3⟩:=GP h n
  exact⟨a1.toV,a2,a3⟩
theorem GQ {v:SV} {w:AV} (hv:RC v w) (h:uz v=true):rT (fun _=>false) w=true:=by
 cases v with
 |a u=>obtain⟨rfl,_⟩:=hv;exact h
 |ls s ts=>rcases hv with⟨es,rfl,_⟩|⟨_,rfl|rfl⟩<;>rfl
 |ri s ts i off=>obtain⟨es,rfl,_⟩:=hv;rfl
 |nz=>rcases hv with rfl|rfl<;>rfl
 |_=>simp [uz]at h
theorem Sr {vs:List SV} {ws:List AV} (hv:All2 RC vs ws) (h:vs.all uz=true):ws.all (rT fun _=>false)=true:=by
 induction hv with
 |nil=>rfl
 |cons h1 _ ih=>
  simp only [List.all_cons,Bool.and_eq_true]at h⊢
  exact⟨GQ h1 h.1,ih h.2⟩
theorem Ss {v:SV} {w:AV} (hv:RV v w) (h:Ek v=true):Du (fun _=>false) w=true:=by
 rcases kc hv with rfl|⟨cs,ws,rfl,rfl,h1⟩|h1
 ·simp [Ek,uz]at h
 ·simp [Ek,uz]at h
 ·rcases eM h1 with⟨cs,ws,rfl,rfl,h2⟩|h2
  ·exact Sr h2 h
  ·have h3:uz v=true:=by cases v<;>first|exact h|exact h2.elim
   have h4:=GQ h2 h3
   have:=(dh h2).1
   cases w<;>first|exact h4|exact absurd rfl (this _)
theorem Su {vs:List SV} {ws:List AV} (hv:All2 RV vs ws) (h:vs.all Ek=true):ws.all (Du fun _=>false)=true:=by
 induction hv with
 |nil=>rfl
 |cons h1 _ ih=>
  simp only [List.all_cons,Bool.and_eq_true]at h⊢
  exact⟨Ss h1 h.1,ih h.2⟩
def gl:AV→Bool
 | .int .. | .bl _| .st _=>true
 |_=>false
theorem Av:∀{s:Sh} {x:aN s} {cs:List AV},bV s=true→RE s x cs→cs.all (fun| .int .. | .bl _| .st _=>true|_=>false)=true
 | .i _,_,_,_,h=>by cases h;rfl
 | .b,_,_,_,h=>by cases h;rfl
 | .s,_,_,_,h=>by cases h;rfl
 | .row _,_,_,hs,_=>by simp [bV]at hs
 | .nil,_,_,_,h=>by cases h;rfl
 | .cons a b,_,_,hs,h=>by
  simp only [bV,Bool.and_eq_true]at hs
  obtain⟨c1,c2,rfl,h1,h2⟩:=h
  rw [List.all_append,Av hs.1 h1,Av hs.2 h2]
  rfl
theorem BW {v:SV} {w:AV} (hv:RC v w) (h:nC v=true):dH w=true:=by
 cases v with
 |a u=>obtain⟨rfl,_⟩:=hv;exact h
 |ow s ts=>
  obtain⟨es,rfl,h1⟩:=hv
  simp only [nC]at h
  simp only [dH]
  induction h1 with
  |nil=>rfl
  |cons h2 _ ih=>simp only [List.all_cons,Bool.and_eq_true];exact⟨Av h h2,ih⟩
 |nz=>rcases hv with rfl|rfl<;>rfl
 |_=>simp [nC]at h
theorem KT {vs:List SV} {ws:List AV} (hv:All2 RC vs ws) (h:vs.all nC=true):ws.all dH=true:=by
 induction hv with
 |nil=>rfl
 |cons h1 _ ih=>
  simp only [List.all_cons,Bool.and_eq_true]at h⊢
  exact⟨BW h1 h.1,ih h.2⟩
def qE:AV→Bool
 | .ag cs=>cs.all dH
 |v=>dH v
theorem BX {v:SV} {w:AV} (hv:RW v w) (h:yw v=true):qE w=true:=by
 rcases eM hv with⟨cs,ws,rfl,rfl,h2⟩|h2
 ·exact KT h2 h
 ·have h3:nC v=true:=by cases v<;>first|exact h|exact h2.elim
  have h4:=BW h2 h3
  have:=(dh h2).1
  cases w<;>first|exact h4|exact absurd rfl (this _)
theorem KU {v:SV} {w:AV} (hv:OY v w) (h:Ej v=true):xW w=true:=by
 obtain⟨hv,hu⟩:=hv
 rcases kc hv with rfl|⟨cs,ws,rfl,rfl,h1⟩|h1
 ·simp [cJ]at hu
 ·simp only [Ej]at h
  show ws.all qE=true
  clear hv hu
  induction h1 with
  |nil=>rfl
  |cons h3 _ ih=>
   simp only [List.all_cons,Bool.and_eq_true]at h⊢
   exact⟨BX h3 h.1,ih h.2⟩
 ·have h3:yw v=true:=by cases v<;>first|exact h|exact h1.elim
  have h4:=BX h1 h3
  have:=wj h1
  cases w<;>first|exact h4|exact absurd rfl (this _)
end
section
variable {ρ:Type} {r:ρ} {h:bM} {h':List (Nat×BK)} {tm:SM} {tm':List (Nat×AV)} {nx:Nat} {g:Cfg} {T:Tbl} {S:SS} {S':St}
def bK (g:Cfg) (c:CC) (S':St) (k:KS ρ) (r:ρ):Prop:=∃ex S1 S1',k ex S1=some r∧RS S1 S1'∧Evt fun K=>dg g K c S'=some (ex,S1')
def uH (T:Tbl) (g:Cfg) (ρ:Type) (run:CC→SS→KS ρ→Option ρ):Prop:=∀c S k r S',run c S k=some r→RS S S'→iI T g c→bK g c S' k r
def OkE (g:Cfg) (tm':List (Nat×AV)) (h':List (Nat×BK)) (nx:Nat) (op:COp) (k:KV ρ) (r:ρ):Prop:=
 ∃rf v h1 nx1 w h1',k rf v h1 nx1=some r∧(Evt fun K=>Dx g (dg g K) tm' h' nx op=some ⟨w,h1',nx1⟩)∧RV v w∧RH h1 h1'∧RF tm' rf
variable {run:CC→SS→KS ρ→Option ρ}
theorem oW:∀{as:List SV} {ws:List AV},All2 RV as ws→∀(i t:Nat),RV (bA (iZ as i) t) (look .ud (fq ws i) t)
 | [],_,h,i,t=>by cases h;exact⟨rfl,rfl⟩
 |a::as,_,h,i,t=>by
  cases h with
  |cons h1 h2=>
   simp only [iZ,fq,bA,look]
   split
   ·exact h1
   ·split
    ·trivial
    ·exact oW h2 (i+1) t
theorem oX:∀(ws:List AV) (i t:Nat),i+ws.length≤t→look .ud (fq ws i) t= .ud
 | [],_,_,_=>rfl
 |w::ws,i,t,h=>by
  simp only [List.length_cons]at h
  simp only [fq,look]
  rw [if_neg (by omega)]
  exact oX ws (i+1) t (by omega)
theorem KW (hg:TG T g) (hh:RH h h') {f:FuncId} {wt:Wrt} (hst:T.st f=some wt) {args:List SV} {as:List AV} {k:KV ρ} (ha:All2 RV args as) (hk:El (aI ρ) wt args h nx k=some r):
  ∃v h1 nx1 w h1',k [] v h1 nx1=some r∧g.wr f as h' nx=some ⟨w,h1',nx1⟩∧RV v w∧RH h1 h1':=by
 unfold El at hk
 split at hk
 ·rename_i sz b lo len c caps
  cases ha with
  |cons a1 a2=>
  cases a2 with
  |cons a2 a3=>
  cases a3
  have e1:=a1.1
  have e2:=a2.1
  split at hk
  ·rename_i s ts t hb
   split at hk
   ·rename_i e
    subst e
    split at hk
    ·rename_i hc
     obtain⟨rfl,rfl,rfl,hcaps⟩:=hc
     have hc2:caps= []:=by simpa using hcaps
     subst hc2
     have hk:(bif decide (len=ts.length)then((wt.F ts).bind fun ts'=>k [] (.tp []) (fw h b (.row wt.s ts' t)) nx)else none)=some r:=hk
     by_cases hl:len=ts.length
     ·rw [decide_eq_true hl]at hk
      simp only [cond_true]at hk
      cases hF:wt.F ts with
      |none=>rw [hF]at hk;cases hk
      |some ts'=>
       rw [hF]at hk
       simp only [Option.bind_some]at hk
       have hbb:=cZ hh b
       rw [hb]at hbb
       obtain⟨es,hes,hts⟩:=hbb
       obtain⟨es',h1,h2⟩:=hg.row f wt hst h' nx b t ts es ts' hes hts hF
       have hrb:RB (.row wt.s ts' t) (.rw false wt.s.sz es' t):=⟨es',rfl,h1⟩
       refine⟨_,_,_,.tp [],put h' b (.rw false wt.s.sz es' t),hk,?_,⟨[],rfl,All2.nil⟩,dY hh hrb b⟩
       rw [←h2,←e1,←e2,hl,hts.length]
     ·rw [decide_eq_false hl]at hk;cases hk
    ·cases hk
   ·cases hk
  ·cases hk
 ·rename_i c caps
  cases ha with
  |cons a1 a2=>
  cases a2 with
  |cons a2 a3=>
  cases a3
  have e1:=a1.1
  have e2:=a2.1
  split at hk
  ·rename_i hc
   obtain⟨rfl,hcaps⟩:=hc
   have hc2:caps= []:=by simpa using hcaps
   subst hc2
   refine⟨_,_,_,.tp [],h',hk,?_,⟨[],rfl,All2.nil⟩,hh⟩
   rw [←hg.nor f wt hst h' nx,←e1,←e2]
  ·cases hk
 ·cases hk
theorem Ub {ρ:Type} {r:ρ} {kd:IntKind} {n:Int} {k:SV→Option ρ} (h:df n (k (.a (.int kd (.ofNat 0)))) (fun j=>k (.a (.int kd (.ofNat (j+1)))))=some r):k (.a (.int kd n))=some r:=by
 cases n with
 |ofNat m=>cases m with
  |zero=>exact h
  |succ m=>exact h
 |negSucc m=>cases h
theorem KX {ρ:Type} {r:ρ} {v:SV} {k:SV→Option ρ} (h:OR (aI ρ) v k=some r):k v=some r:=by
 unfold OR at h
 split at h
 ·exact Ub h
 ·exact h
theorem Ez {ρ:Type} {r:ρ} {is:List Nat}:∀{vs:List SV} {i:Nat} {k:List SV→Option ρ},GH (aI ρ) is vs i k=some r→k vs=some r
 | [],_,_,h=>h
 |v::vs,i,k,h=>by
  unfold GH at h
  split at h
  ·exact Ez (k:=fun l=>k (v::l)) (KX (k:=fun v=>GH (aI ρ) is vs (i+1) fun l=>k (v::l)) h)
  ·exact Ez (k:=fun l=>k (v::l)) h
theorem KY {ρ:Type} {r:ρ} {is:Option (List Nat)} {v:SV} {k:SV→Option ρ} (h:OS (aI ρ) is v k=some r):k v=some r:=by
 unfold OS at h
 split at h
 ·exact h
 ·split at h
  ·exact Ez (k:=fun l=>k (.tp l)) h
  ·exact KX h
theorem yB {args:List SV} {as:List AV} (ha:All2 RV args as) (hu:(args.all fun v=> !cJ v)=true):args.flatMap dE=as.flatMap bP:=by
 induction ha with
 |nil=>rfl
 |cons h1 _ ih=>
  simp only [List.all_cons,Bool.and_eq_true,Bool.not_eq_true']at hu
  simp only [List.flatMap_cons]
  rw [ke h1 hu.1,ih hu.2]
theorem KZ {h:bM} {h':List (Nat×BK)} (hh:RH h h') {l:List Nat} (hr:l.all (Em h)=true):l.all (xV h')=true:=by
 rw [List.all_eq_true]at hr⊢
 intro b hb
 have h1:=hr b hb
 have h2:=cZ hh b
 unfold Em at h1
 unfold xV
 split at h1
 ·rename_i s ts t hk
  rw [hk]at h2
  obtain⟨es,h3,_⟩:=h2
  rw [h3]
 ·cases h1
theorem Nx {v:SV} {w:AV} (hv:RV v w) (h:yx v=true):v= .a w∧gl w=true:=by
 unfold yx at h
 split at h
 ·exact⟨congrArg SV.a hv.1,by rw [←hv.1];rfl⟩
 ·exact⟨congrArg SV.a hv.1,by rw [←hv.1];rfl⟩
 ·exact⟨congrArg SV.a hv.1,by rw [←hv.1];rfl⟩
 ·cases h
theorem Ny {vs:List SV} {ws:List AV} (hv:All2 RV vs ws) (h:vs.all yx=true):ws.all gl=true:=by
 induction hv with
 |nil=>rfl
 |cons h1 _ ih=>
  simp only [List.all_cons,Bool.and_eq_true]at h⊢
  exact⟨(Nx h1 h.1).2,ih h.2⟩
theorem uI {own:List Nat}:∀{ws:List AV} (i:Nat),ws.all gl=true→dM own i ws= []
 | [],_,_=>rfl
 |w::ws,i,h=>by
  simp only [List.all_cons,Bool.and_eq_true]at h
  have h1:qR own i w= []:=by cases w<;>first|rfl|(simp [gl]at h)
  rw [dM,h1,uI _ h.2];rfl
theorem xz {h hk:List (Nat×BK)} {own:List Nat}:∀{ws:List AV} (i:Nat),ws.all gl=true→eE h hk own i ws=some ws
 | [],_,_=>rfl
 |w::ws,i,hw=>by
  simp only [List.all_cons,Bool.and_eq_true]at hw
  have h1:ng h hk own i w=some w:=by cases w<;>first|rfl|(simp [gl]at hw)
  rw [eE,h1,xz _ hw.2]
theorem La {ws:List AV} (h:ws.all gl=true):xW (fp ws)=true:=by
  have one:∀w:AV,gl w=true→(match w with| .ag cs=>cs.all dH|v=>dH v)=true:=fun w hw=>by cases w<;>first|rfl|(simp [gl]at hw)
  match ws,h with
  | [],_=>rfl
  | [w],h=>
    simp only [List.all_cons,List.all_nil,Bool.and_true]at h
    cases w<;>first|rfl|(simp [gl]at h)
  | a::b::l,h=>
    show(a::b::l).all (fun| .ag cs=>cs.all dH|v=>dH v)=true
    rw [List.all_eq_true]at h⊢
    exact fun w hw=>one w (h w hw)
theorem BZ:∀{ws:List AV} (n:Nat),ws.all gl=true→dK n ws=(ws,[],n)
 | [],_,_=>rfl
 |w::ws,n,h=>by
  simp only [List.all_cons,Bool.and_eq_true]at h
  have h1:dQ n w=(w,[],n):=by cases w<;>first|rfl|(simp [gl]at h)
  rw [dK,h1]
  simp only [BZ n h.2,List.append_nil]
theorem Nz {ws:List AV} (n:Nat) (h:ws.all gl=true):dI n (fp ws)=(fp ws,[],n):=by
  match ws,h with
  | [],_=>rfl
  | [w],h=>
    simp only [List.all_cons,List.all_nil,Bool.and_true]at h
    cases w<;>first|rfl|(simp [gl]at h)
  | a::b::l,h=>
    show(AV.tp (dK n (a::b::l)).1,(dK n (a::b::l)).2)=_
    rw [BZ n h];rfl
theorem Lb {ρ:Type} {r:ρ} {h:bM} {h':List (Nat×BK)} {T:Tbl} (hh:RH h h') {v:SV} {w:AV} {k:SV→Option ρ} (hv:RV v w) (hk:En (aI ρ) T h v k=some r):∃v1 w1,mE h' w=some w1∧RW v1 w1∧k v1=some r:=by
 unfold En at hk
 split at hk
 ·rename_i sz b i off
  have hw:w= .re sz b i off:=hv.1.symm
  subst hw
  split at hk
  ·rename_i sz' cs t hb
   split at hk
   ·rename_i s hs
    split at hk
    ·rename_i hsz
     obtain⟨ws,hbb,hcs⟩:=by have:=cZ hh b;rw [hb]at this;exact this
     obtain⟨l,l',h1,h2,h3⟩:=gv (R:=RC) (R':=RC) (f':=bO h') (fun v w k h1 h2=>by
      obtain⟨v1,w1,g1,g2,g3⟩:=lM hh h1 h2
      exact⟨v1,w1,g1,g2,g3⟩) hcs hk
     split at h3
     ·rename_i d hd
      refine⟨_,.ri sz [l'] i off,?_,?_,h3⟩
      ·show iM h' (.re sz b i off)=_
       rw [iM,hbb]
       simp only
       rw [if_pos hsz.1,h1];rfl
      ·refine⟨[l'],by rw [hsz.2],.cons (eI hd h2) .nil⟩
     ·cases h3
    ·cases hk
   ·cases hk
  ·cases hk
 ·exact BT hh hv hk
theorem Uc {ρ:Type} {r:ρ} {h:bM} {h':List (Nat×BK)} {nx:Nat} {g:Cfg} {T:Tbl} {run:CC→SS→KS ρ→Option ρ} (hg:TG T g) (hr:uH T g ρ run) (hh:RH h h') {f:FuncId} {c:CF} (hc:T.ct f=none) (hpf:T.hint.pf.contains f=true) (hcode:T.code f=some c) {args:List SV} {as:List AV} {k:KV ρ} (ha:All2 RV args as) (hk:TR (aI ρ) T run f c args h nx k=some r):
  ∃v h1 nx1 w h1',k [] v h1 nx1=some r∧(Evt fun K=>iR g (dg g K) f as h' nx=some ⟨w,h1',nx1⟩)∧RV v w∧RH h1 h1':=by
 unfold TR at hk
 split at hk
 ·cases hk
 rename_i hn
 have hkl:g.kl f=false:=by rw [hg.kl];simpa using fun h=>hn (.inr (.inr h))
 have hinl:g.inl f=false:=by rw [hg.inl,hpf];simp
 obtain⟨l,l',h1,h2,h3⟩:=gv (R:=RV) (R':=RW) (f':=mE h') (fun v w k h1 h2=>Lb hh h1 h2) ha hk
 have hlen:l'.length=args.length:=((dD h1).length.symm).trans ha.length.symm
 have h2':All2 RV l l':=h2.mono fun _ _ h=>h.toV
 have hs:RS {tm:=iZ l,h:=[],nx:=0,bs:=0} {tm:=fq l',h:=[],nx:=0,bs:=0}:=
  ⟨fun t=>oW h2' 0 t,fun t ht=>oX _ 0 t (by have:=hn;omega),.nil,rfl,rfl⟩
 obtain⟨ex,S1,S1',g1,g2,g3⟩:=hr _ _ _ _ _ h3 hs (hg.lps f c hcode)
 have hfin:dL (aI ρ) S1 c.res (fun vs=>if vs.all yx then k [] (wb vs) h nx else none)=some r∧(ex= .nm∨ex= .rt):=by
  cases ex with
  |nm=>exact⟨g1,.inl rfl⟩
  |rt=>exact⟨g1,.inr rfl⟩
  |xt i=>cases g1
 obtain⟨vs,ws,h4,h5,h6⟩:=il g2 hfin.1
 split at h6
 ·rename_i hsc
  have hsa:=Ny (h5.mono fun _ _ h=>h.toV) hsc
  refine⟨_,_,_,fp ws,h',h6,g3.mono fun K hK=> ?_,(xy h5).1,hh⟩
  unfold iR
  rw [if_neg (by rw [hinl];simp)]
  simp only [h1]
  have hcp:mF g (dg g K) f l'=some (fp ws):=by
   unfold mF
   rw [hg.noe f l' hc]
   simp only [hg.code f c hcode]
   rw [if_neg (by omega),hK]
   rcases hfin.2 with rfl|rfl
   ·simp only [h4,uI 0 hsa,xz 0 hsa];rfl
   ·simp only [h4,uI 0 hsa,xz 0 hsa];rfl
  simp only [hcp]
  rw [if_neg (by rw [hkl];simp),if_pos (by rw [La hsa,Bool.or_true]),Nz nx hsa]
  rfl
 ·cases h6
theorem EA (hg:TG T g) (hr:uH T g ρ run) (hh:RH h h') {f:FuncId} {args:List SV} {as:List AV} {k:KV ρ} (ha:All2 RV args as) (hk:CH (aI ρ) T run f args h nx k=some r):
  ∃v h1 nx1 w h1',k [] v h1 nx1=some r∧(Evt fun K=>iR g (dg g K) f as h' nx=some ⟨w,h1',nx1⟩)∧RV v w∧RH h1 h1':=by
 unfold CH at hk
 split at hk
 ·rename_i c hc
  have hinl:g.inl f=false:=by rw [hg.inl,hc];rfl
  obtain⟨l,l',h1,h2,h3⟩:=gv (R:=RV) (R':=RW) (f':=mE h') (fun v w k h1 h2=>BT hh h1 h2) ha hk
  split at h3
  ·cases h3
  rename_i hshape
  have hshape:bB l'=c.as:=by rw [←rE h2];simpa using hshape
  split at h3
  ·rename_i x hx
   have h4:RE c.s x (l'.flatMap ce):=eI hx (h2.flat fun a b hab=>BV hab)
   cases hF:c.F x with
   |none=>simp [aI,hF]at h3
   |some y=>
    have h6:=h3
    rw [hF]at h6
    simp only [show∀(o:Option (aN c.t)) (kk:aN c.t→Option ρ),(aI ρ).cl o kk=o.bind kk from fun _ _=>rfl,Option.bind_some]at h6
    obtain⟨w,hw,hrr⟩:=hg.ext f c l' x y hc hshape h4 hF
    obtain⟨v,hv,h7⟩:=hrr _ _ _ _ h6
    obtain⟨a1,a2,a3⟩:=Sq hv nx
    split at h7
    ·rename_i hkl
     split at h7
     ·rename_i hcond
      obtain⟨hrow,huk⟩:=Bool.and_eq_true_iff.1 hcond
      have hrf:args.flatMap dE=as.flatMap bP:=yB ha huk
      refine⟨_,_,_,(dI nx w).1,(dI nx w).2.1++kill h' (as.flatMap bP),KY h7,?_,a1,by rw [←hrf];exact uD a2 (pW hh _)⟩
      refine .of fun K=> ?_
      unfold iR
      rw [if_neg (by rw [hinl];simp)]
      simp only [h1,mF,hw]
      rw [if_pos (by rw [hg.kl,hkl]),if_pos (by rw [←hrf];exact KZ hh hrow),a3]
     ·cases h7
    ·rename_i hkl
     split at h7
     ·rename_i hcond
      refine⟨_,_,_,(dI nx w).1,(dI nx w).2.1++h',KY h7,?_,a1,uD a2 hh⟩
      refine .of fun K=> ?_
      unfold iR
      rw [if_neg (by rw [hinl];simp)]
      simp only [h1,mF,hw]
      rw [if_neg (by rw [hg.kl];exact hkl),if_pos,a3]
      rcases Bool.or_eq_true_iff.1 hcond with h8|h8
      ·rw [Su ha h8];rfl
      ·rw [KU hv h8,Bool.or_true]
     ·cases h7
  ·cases h3
 ·rename_i hc
  split at hk
  ·rename_i hpf
   split at hk
   ·cases hk
   ·rename_i c hcode
    exact Uc hg hr hh hc hpf hcode ha hk
  rename_i hpf
  have hinl:g.inl f=true:=by rw [hg.inl,hc];simpa using hpf
  split at hk
  ·rename_i hcode
   split at hk
   ·cases hk
   ·rename_i wt hst
    obtain⟨v,h1,nx1,w,h1',h2,h3,h4,h5⟩:=KW hg hh hst ha hk
    refine⟨v,h1,nx1,w,h1',h2,.of fun K=> ?_,h4,h5⟩
    unfold iR
    rw [if_pos hinl,hg.noc f hcode]
    exact h3
  ·rename_i c hcode
   split at hk
   ·cases hk
   ·rename_i hn
    have hn1:¬c.np<as.length:=by rw [←ha.length];exact fun h=>hn (.inl h)
    have hn2:as.length≤gj:=by rw [←ha.length];exact Nat.not_lt.1 fun h=>hn (.inr h)
    unfold TQ at hk
    split at hk
    ·rename_i hu
     obtain⟨hall,huk⟩:=Bool.and_eq_true_iff.1 hu
     have hrf:args.flatMap dE=as.flatMap bP:=yB ha huk
     have hcl:lD (jX h) 64 (args.flatMap dE) []=lD h' 64 (as.flatMap bP) []:=by rw [hrf];exact oV (uC hh) _ _ _
     revert hk hall
     rw [hcl]
     generalize hU:lD h' 64 (as.flatMap bP) []=U
     intro hk hall
     have ha':All2 RV (args.map (nB (U.contains ·) id)) (as.map (gn (U.contains ·) id)):=All2.map2 (fun a b h=>yy _ _ h) ha
     have hs:RS {tm:=iZ (args.map (nB (U.contains ·) id)),h:=vX h U U,nx:=nx,bs:=nx} {tm:=fq (as.map (gn (U.contains ·) id)),h:=gV h' U U,nx:=nx,bs:=nx}:=
      ⟨fun t=>oW ha' 0 t,fun t ht=>oX _ 0 t (by rw [List.length_map];omega),Et hh U U,rfl,rfl⟩
     obtain⟨ex,S1,S1',h1,h2,h3⟩:=hr _ _ _ _ _ hk hs (hg.lps f c hcode)
     have hfin:dL (aI ρ) S1 c.res (fun vs=>k [] (nB (bZ U nx S1.nx) id (wb vs)) (vY h (fun b=>ro (bZ U nx S1.nx) id (cU S1.h b)) (upto nx (S1.nx-nx)++U)) S1.nx)=some r∧(ex= .nm∨ex= .rt):=by
      cases ex with
      |nm=>exact⟨h1,.inl rfl⟩
      |rt=>exact⟨h1,.inr rfl⟩
      |xt i=>cases h1
     obtain⟨vs,ws,h4,h5,h6⟩:=il h2 hfin.1
     refine⟨_,_,_,gn (bZ U nx S1'.nx) id (fp ws),over h' (fun b=>gX (bZ U nx S1'.nx) id (aW S1'.h b)) (upto nx (S1'.nx-nx)++U),h6,h3.mono fun K hK=> ?_,?_,?_⟩
     ·unfold iR
      rw [if_pos hinl,hg.code f c hcode]
      simp only
      unfold ML
      rw [hU,if_neg hn1,if_pos hall,hK]
      rcases hfin.2 with rfl|rfl
      ·simp only [h4];rw [h2.nx]
      ·simp only [h4];rw [h2.nx]
     ·rw [h2.nx];exact yy _ _ (xy h5).1
     ·rw [h2.nx];exact At (fun b=>yz _ _ (cZ h2.h b)) hh _
    ·cases hk
theorem GR (hg:TG T g) (hr:uH T g ρ run) (ht:RT tm tm') (hh:RH h h') {op:COp} {k:KV ρ} (hk:Eo (aI ρ) T run tm h nx op k=some r):OkE g tm' h' nx op k r:=by
 unfold Eo at hk
 split at hk
 ·rename_i f args
  obtain⟨v,h1,nx1,w,h1',h2,h3,h4,h5⟩:=EA hg hr hh (uG ht args) hk
  exact⟨[],v,h1,nx1,w,h1',h2,h3,h4,h5,RF.nil⟩
 ·rename_i x args
  split at hk
  ·rename_i f caps hx
   have hx':rd tm' x= .fn f caps:=by have:=bt ht x;rw [hx]at this;exact this.1.symm
   split at hk
   ·rename_i cs hcs
    split at hk
    ·rename_i hfu
     have hcaps:All2 RV cs caps:=(rz hcs).mono fun _ _ h=>h.toV
     obtain⟨v,h1,nx1,w,h1',h2,h3,h4,h5⟩:=EA hg hr hh ((uG ht args).append hcaps) hk
     refine⟨[],v,h1,nx1,w,h1',h2,h3.mono fun K hK=> ?_,h4,h5,RF.nil⟩
     simp only [Dx,hx']
     rw [if_pos hfu]
     exact hK
    ·cases hk
   ·cases hk
  ·cases hk
 ·rename_i op hn1 hn2
  obtain⟨rf,v,h1,nx1,w,h1',h2,h3,h4,h5,h6⟩:=TZ ht hh hk
  refine⟨rf,v,h1,nx1,w,h1',h2,.of fun K=> ?_,h4,h5,h6⟩
  rw [←h3]
  unfold Dx
  split
  ·simp [aC]at h3
  ·simp [aC]at h3
  ·rfl
theorem Gt (l:SM) (t:Nat) (v:SV):∀n,bA (l.map fun p=>if p.1=t then(t,v)else p) n=bA l n∨(n=t∧bA (l.map fun p=>if p.1=t then(t,v)else p) n=v):=by
 induction l with
 |nil=>intro n;exact .inl rfl
 |cons p l ih=>
  intro n
  obtain⟨a,b⟩:=p
  simp only [List.map_cons]
  by_cases hat:a=t
  ·subst hat
   simp only [if_true,bA]
   by_cases han:a=n
   ·subst han;exact .inr ⟨rfl,by simp⟩
   ·simp only [han,if_false]
    split
    ·exact .inl rfl
    ·exact ih n
  ·simp only [hat,if_false,bA]
   by_cases han:a=n
   ·simp only [han,if_true];exact .inl trivial
   ·simp only [han,if_false]
    split
    ·exact .inl rfl
    ·exact ih n
theorem lN (ht:RT tm tm'):∀{rf:SM},RF tm' rf→RT (refine tm rf) tm'
 | [],_=>ht
 |(t,v)::rf,h=>fun n=>by
  have h1:=lN ht (rf:=rf) fun p hp=>h p (List.mem_cons_of_mem _ hp)
  obtain⟨b,hb,hl⟩:=h (t,v) (List.mem_cons_self ..)
  simp only at hb hl
  subst hb
  simp only [refine]
  rcases Gt (refine tm rf) t (.a (.bl b)) n with h2|⟨rfl,h2⟩
  ·rw [h2];exact h1 n
  ·rw [h2,hl];exact⟨rfl,rfl⟩
theorem RF.app {a b:SM} (h1:RF tm' a) (h2:RF tm' b):RF tm' (a++b):=fun p hp=>by
 rcases List.mem_append.1 hp with h|h
 ·exact h1 p h
 ·exact h2 p h
def Ud (g:Cfg) (tm':List (Nat×AV)) (h':List (Nat×BK)) (nx:Nat) (o:CI) (k:KV ρ) (r:ρ):Prop:=
 ∃rf v h1 nx1 w h1',k rf v h1 nx1=some r∧(Evt fun K=>nh g (dg g K) tm' h' nx o=some ⟨w,h1',nx1⟩)∧RV v w∧RH h1 h1'∧RF tm' rf
theorem GS (hg:TG T g) (hr:uH T g ρ run) (ht:RT tm tm') (hh:RH h h') {o:CI} {k:KV ρ} (hk:Ih (aI ρ) T run tm h nx o k=some r):Ud g tm' h' nx o k r:=by
 unfold Ih at hk
 split at hk
 ·rename_i hgd
  obtain⟨rf,v,h1,nx1,w,h1',h2,h3,h4,h5,h6⟩:=GR hg hr ht hh hk
  refine⟨rf,v,h1,nx1,w,h1',h2,h3.mono fun K hK=> ?_,h4,h5,h6⟩
  simp only [nh,hgd,oN]
  exact hK
 ·rename_i t want hgd
  split at hk
  ·rename_i b hb
   have hl:look .ud tm' t= .bl b:=by have:=ht t;rw [hb]at this;exact this.1.symm
   have yes:b=want→Eo (aI ρ) T run ((t,.a (.bl b))::tm) h nx o.op (fun rf w h' nx'=>k (rf++ [(t,.a (.bl b))]) w h' nx')=some r→Ud g tm' h' nx o k r:=fun hw hk=>by
    have ht2:RT ((t,.a (.bl b))::tm) tm':=fun n=>by
     simp only [bA]
     split
     ·rename_i h;subst h;rw [hl];exact⟨rfl,rfl⟩
     ·split
      ·trivial
      ·exact ht n
    obtain⟨rf,v,h1,nx1,w,h1',h2,h3,h4,h5,h6⟩:=GR hg hr ht2 hh hk
    refine⟨_,v,h1,nx1,w,h1',h2,h3.mono fun K hK=> ?_,h4,h5,RF.app h6 (RF.one hl)⟩
    simp only [nh,hgd,oN,hl,hw,beq_self_eq_true]
    exact hK
   have no:b≠want→k [(t,.a (.bl b))] (.tp []) h nx=some r→Ud g tm' h' nx o k r:=fun hw hk=>by
    refine⟨_,_,_,_,_,_,hk,.of fun K=> ?_,⟨[],rfl,.nil⟩,hh,RF.one hl⟩
    simp only [nh,hgd,oN,hl]
    have:(b==want)=false:=by cases b<;>cases want<;>first|rfl|exact absurd rfl hw
    rw [this]
   cases want
   ·simp only [Bool.false_eq_true,if_false]at hk
    rcases er hk with⟨rfl,hk⟩|⟨rfl,hk⟩
    ·exact no (by simp) hk
    ·exact yes rfl hk
   ·simp only [if_true]at hk
    rcases er hk with⟨rfl,hk⟩|⟨rfl,hk⟩
    ·exact yes rfl hk
    ·exact no (by simp) hk
  ·rename_i hb
   have hl:look .ud tm' t= .tp []:=by
    have:=ht t
    rw [hb]at this
    obtain⟨ws,h1,h2⟩:=this
    cases h2
    exact h1
   refine⟨[],_,_,_,_,_,hk,.of fun K=> ?_,⟨[],rfl,.nil⟩,hh,RF.nil⟩
   simp only [nh,hgd,oN,hl]
  ·cases hk
theorem EB (hs:RT tm tm') (hm:RM tm') {d:Option Nat} (hd:OT d=true) {v:SV} {w:AV} (hv:RV v w):RT (wg d v tm) (jT d w tm')∧RM (jT d w tm'):=by
 cases d with
 |none=>exact⟨hs,hm⟩
 |some d=>
  simp only [OT,decide_eq_true_eq]at hd
  refine⟨fun t=> ?_,fun t ht=> ?_⟩
  ·simp only [wg,jT,bA,look]
   split
   ·exact hv
   ·split
    ·trivial
    ·exact hs t
  ·simp only [jT,look]
   rw [if_neg (by omega)]
   exact hm t ht
theorem GT (hg:TG T g) (hr:uH T g ρ run):∀{ops:List CI} {S:SS} {S':St} {k:SS→Option ρ},RS S S'→Ii (aI ρ) T run ops S k=some r→
  ∃S1 S1',k S1=some r∧RS S1 S1'∧Evt fun K=>xe g (dg g K) ops S'=some S1'
 | [],S,S',k,hs,hk=>⟨S,S',hk,hs,.of fun K=>rfl⟩
 |o::l,S,S',k,hs,hk=>by
  simp only [Ii]at hk
  obtain⟨rf,v,h1,nx1,w,h1',h2,h3,h4,h5,h6⟩:=GS hg hr hs.tm hs.h hk
  dsimp only at h2
  split at h2
  ·rename_i hc
   simp only [Bool.and_eq_true,decide_eq_true_eq]at hc
   obtain⟨a1,a2⟩:=EB (lN hs.tm h6) hs.mm hc.2 h4
   have hs2:RS {tm:=wg o.dst v (refine S.tm rf),h:=h1,nx:=nx1,bs:=S.bs} {tm:=jT o.dst w S'.tm,h:=h1',nx:=nx1,bs:=S'.bs}:=⟨a1,a2,h5,rfl,hs.bs⟩
   obtain⟨S1,S1',b1,b2,b3⟩:=GT hg hr hs2 h2
   refine⟨S1,S1',b1,b2,h3.and2 b3 fun K hK hK2=> ?_⟩
   rw [hs.nx]at hK
   simp only [xe,hK]
   rw [if_pos (by rw [←hs.bs];exact hc.1)]
   exact hK2
  ·cases h2
end
section
variable {ρ:Type} {r:ρ} {h:bM} {h':List (Nat×BK)} {tm:SM} {tm':List (Nat×AV)} {nx:Nat} {g:Cfg} {T:Tbl} {S:SS} {S':St} {run:CC→SS→KS ρ→Option ρ}
theorem EC (ht:RT tm tm'):∀{l:List Nat},l.all (fun t=>decide (t<lS) && !cJ (bA tm t))=true→(l.flatMap fun t=>dE (bA tm t))=l.flatMap fun t=>bP (look .ud tm' t)
 | [],_=>rfl
 |t::l,h=>by
  simp only [List.all_cons,Bool.and_eq_true,Bool.not_eq_true']at h
  simp only [List.flatMap_cons]
  rw [ke (ht t) h.1.2,EC ht h.2]
theorem ED (ht:RT tm tm') (U ts:List Nat):RT (CA tm U ts) (iQ tm' U ts):=fun t=>Eu (fun t=>yy _ _ (ht t)) ts t
theorem ag7 (hm:RM tm') (U ts:List Nat):RM (iQ tm' U ts):=fun t ht=>by
 unfold iQ
 rw [lI]
 split
 ·rw [hm t ht];rfl
 ·rfl
theorem Ue {p:Nat→Bool} {q:Nat→Nat} {w:AV} {b:Bool} (h:gn p q w= .bl b):w= .bl b:=by
 cases w<;>simp only [gn,rU,iP]at h<;>first
  |(split at h<;>first|(simp [ren]at h;done)|(simp only [ren]at h;exact h)|cases h)
  |cases h
theorem Uf {U ts:List Nat} {rf:SM} (h:RF (iQ tm' U ts) rf):RF tm' rf:=fun p hp=>by
 obtain⟨b,hb,hl⟩:=h p hp
 refine⟨b,hb,?_⟩
 unfold iQ at hl
 rw [lI]at hl
 split at hl
 ·exact Ue hl
 ·cases hl
def ag9 (tm:SM) (x:Opd):Prop:=cJ (bz tm x)=false∨∃v,x= .c v
theorem Sv {v:SV} {f:FuncId} {caps:List AV} (hv:RV v (.fn f caps)) (hu:cJ v=false):v= .a (.fn f caps):=by
 cases v with
 |a u=>obtain⟨rfl,_⟩:=hv;rfl
 |ls s ts=>rcases hv with⟨es,h,_⟩|⟨_,h|h⟩<;>cases h
 |ri s ts i off=>obtain⟨es,h,_⟩:=hv;cases h
 |ow s ts=>obtain⟨es,h,_⟩:=hv;cases h
 |nz=>rcases hv with h|h<;>cases h
 |ag cs=>obtain⟨es,h,_⟩:=hv;cases h
 |tp cs=>obtain⟨es,h,_⟩:=hv;cases h
 |uk=>simp [cJ]at hu
theorem Sw {v:SV} {sz b i off:Nat} (hv:RV v (.re sz b i off)) (hu:cJ v=false):v= .a (.re sz b i off):=by
 cases v with
 |a u=>obtain⟨rfl,_⟩:=hv;rfl
 |ls s ts=>rcases hv with⟨es,h,_⟩|⟨_,h|h⟩<;>cases h
 |ri s ts i off=>obtain⟨es,h,_⟩:=hv;cases h
 |ow s ts=>obtain⟨es,h,_⟩:=hv;cases h
 |nz=>rcases hv with h|h<;>cases h
 |ag cs=>obtain⟨es,h,_⟩:=hv;cases h
 |tp cs=>obtain⟨es,h,_⟩:=hv;cases h
 |uk=>simp [cJ]at hu
theorem Sx {v:AV} {f:FuncId} {caps:List AV} (h:v= .fn f caps):nA v= .a (.fn f caps):=by subst h;rfl
theorem uJ {x:Opd} (hk:∀t∈dR x,cJ (bA tm t)=false):cJ (bz tm x)=false∨∃v,x= .c v:=by
 cases x with
 |t n=>exact .inl (hk n (List.mem_singleton.2 rfl))
 |c v=>exact .inr ⟨v,rfl⟩
theorem aa8 (ht:RT tm tm') {x:Opd} (hk:∀t∈dR x,cJ (bA tm t)=false) {f:FuncId} {caps:List AV} (h:rd tm' x= .fn f caps):bz tm x= .a (.fn f caps):=by
 rcases uJ hk with h1|⟨v,rfl⟩
 ·have:=bt ht x
  rw [h]at this
  exact Sv this h1
 ·exact Sx h
theorem aa9 (ht:RT tm tm') {x:Opd} (hk:∀t∈dR x,cJ (bA tm t)=false) {sz b i off:Nat} (h:rd tm' x= .re sz b i off):bz tm x= .a (.re sz b i off):=by
 rcases uJ hk with h1|⟨v,rfl⟩
 ·have:=bt ht x
  rw [h]at this
  exact Sw this h1
 ·have h:v= .re sz b i off:=h
  subst h;rfl
theorem NA (ht:RT tm tm') {x:Opd} (hk:∀t∈dR x,cJ (bA tm t)=false) (hc:∀v,x= .c v→dE (nA v)=bP v):dE (bz tm x)=bP (rd tm' x):=by
 rcases uJ hk with h1|⟨v,rfl⟩
 ·exact ke (bt ht x) h1
 ·exact hc v rfl
theorem EE {α β:Type} {f g:α→List β} {l:List α} (h:∀a∈l,f a=g a):(l.flatMap f).isEmpty=(l.flatMap g).isEmpty:=by rw [rC h]
theorem Is {v:AV} (h:cJ (nA v)=false):dE (nA v)=bP v:=ke (wi v) h
theorem Ug (hg:TG T g) (ht:RT tm tm') {o:CI} (hr:∀t∈lC o.op,cJ (bA tm t)=false) (hb:Nr o.op=true):TS T tm o=qI g tm' o:=by
 obtain⟨d,op,gd⟩:=o
 simp only at hr hb
 unfold TS qI
 cases op with
 |cf f args=>simp [hg.inl,hg.kl]
 |cv x args=>
  simp only
  have hx:∀t∈dR x,cJ (bA tm t)=false:=fun t h=>hr t (by simp [lC,h])
  cases h1:rd tm' x with
  |fn f caps=>rw [aa8 ht hx h1];simp [hg.inl,hg.kl]
  |_=>
   have:∀f caps,bz tm x≠ .a (.fn f caps):=fun f caps h=>by
    have h2:=bt ht x
    rw [h,h1]at h2
    have:=h2.1
    cases this
   split
   ·rename_i f caps h;exact absurd h (this f caps)
   ·rfl
 |bs sz len z t ps=>
  simp only [Dw]
  refine EE fun p hp=>NA ht (fun t h=>hr t (by simp only [lC,List.mem_flatMap];exact⟨p,hp,h⟩)) fun v hv=> ?_
  have:=List.all_eq_true.1 hb p hp
  rw [hv]at this
  exact Is (by simpa [GI]using this)
 |_=>rfl
theorem Uh (hg:TG T g) (ht:RT tm tm') (hh:RH h h') {o:CI} (hr:∀t∈lC o.op,cJ (bA tm t)=false) (hb:Nr o.op=true) (us:List Nat):TT T tm h o us=wI g tm' h' o us:=by
 unfold TT wI
 rw [Ug hg ht hr hb]
 obtain⟨d,op,gd⟩:=o
 simp only at hr hb⊢
 split
 ·rfl
 ·cases op with
  |sr n a x=>
   have ha:∀t∈dR a,cJ (bA tm t)=false:=fun t h=>hr t (by simp [lC,h])
   simp only
   cases h1:rd tm' a with
   |re sz b i off=>
    rw [aa9 ht ha h1]
    simp only
    have:=cZ hh b
    cases h2:cU h b with
    |vr sz cs t=>rw [h2]at this;obtain⟨ws,he,_⟩:=this;rw [he]
    |ar s ts t=>rw [h2]at this;obtain⟨_,ws,he,_⟩:=this;rw [he]
    |row s ts t=>rw [h2]at this;obtain⟨ws,he,_⟩:=this;rw [he]
    |mi k g s es=>rw [h2]at this;obtain⟨ws,he,_⟩:=this;rw [he]
    |ms g s es=>rw [h2]at this;obtain⟨ws,he,_⟩:=this;rw [he]
    |ml es=>rw [h2]at this;have he:aW h' b= .mp es:=this;rw [he]
    |dd=>rw [h2]at this;have he:aW h' b= .dd:=this;rw [he]
   |_=>
    have:∀sz b i off,bz tm a≠ .a (.re sz b i off):=fun sz b i off h=>by
     have h2:=bt ht a
     rw [h,h1]at h2
     have:=h2.1
     cases this
    split
    ·rename_i sz b i off h;exact absurd h (this sz b i off)
    ·rfl
  |_=>rfl
end
def toF (f:FootS):Foot:=⟨f.ix,f.us,f.ac,f.fr,f.wr⟩
theorem Aw:∀{v w:AV},avEq v w=true→v=w:=by
 have go:∀{l m:List AV},avEq.go l m=true→l=m:=by
  intro l
  induction l with
  |nil=>intro m h;cases m with
   |nil=>rfl
   |cons _ _=>simp [avEq.go]at h
  |cons a l ih=>
   intro m h
   cases m with
   |nil=>cases a<;>simp [avEq.go]at h
   |cons b m=>
    cases a<;>cases b<;>simp [avEq.go]at h
    obtain⟨⟨⟨⟨rfl,rfl⟩,rfl⟩,rfl⟩,h⟩:=h
    rw [ih h]
 intro v w h
 cases v<;>cases w<;>simp [avEq]at h<;>first
  |rfl
  |(obtain⟨rfl,rfl⟩:=h;rfl)
  |(subst h;rfl)
  |(rename_i a b;cases a;cases b;simp at h;simp [h];done)
  |(obtain⟨⟨⟨rfl,rfl⟩,rfl⟩,rfl⟩:=h;rfl)
  |(obtain⟨rfl,rfl,rfl,rfl⟩:=h;rfl)
  |(obtain⟨rfl,h⟩:=h;rw [go h])
  |skip
theorem GU:∀{p:PC} {v:SV} {R:Type} {r:R} {x:KL p R},jY p v r=some x→Id p x=(v,r)
  | .c w,v,R,r,x,h=>by
    cases v<;>simp only [jY]at h<;>first|(cases h;done)|skip
    split at h
    · rename_i he;simp at h;subst h;rw [←Aw he];rfl
    · cases h
  | .hi k,v,R,r,x,h=>by
    cases v<;>simp only [jY]at h<;>first|(cases h;done)|skip
    rename_i w
    cases w<;>simp only at h<;>first|(cases h;done)|skip
    split at h
    · rename_i he;simp at h;subst h;subst he;rfl
    · cases h
  | .hb,v,R,r,x,h=>by
    cases v<;>simp only [jY]at h<;>first|(cases h;done)|skip
    rename_i w
    cases w<;>simp only at h<;>first|(cases h;done)|skip
    simp at h;subst h;rfl
  | .hs,v,R,r,x,h=>by
    cases v<;>simp only [jY]at h<;>first|(cases h;done)|skip
    rename_i w
    cases w<;>simp only at h<;>first|(cases h;done)|skip
    simp at h;subst h;rfl
  | .hl s,v,R,r,x,h=>by
    cases v<;>simp only [jY]at h<;>first|(cases h;done)|skip
    split at h
    · rename_i he;subst he;simp at h;subst h;rfl
    · cases h
  | .hr s off,v,R,r,x,h=>by
    cases v<;>simp only [jY]at h<;>first|(cases h;done)|skip
    split at h
    · rename_i ho
      split at h
      · rename_i he;subst he;subst ho;simp at h;subst h;rfl
      · cases h
    · cases h
  | .s0 sz b,v,R,r,x,h=>by
    cases v<;>simp only [jY]at h<;>first|(cases h;done)|skip
    rename_i w
    cases w<;>simp only at h<;>first|(cases h;done)|skip
    split at h
    · rename_i he;obtain⟨rfl,rfl,rfl⟩:=he;simp at h;subst h;rfl
    · cases h
  | .sn sz b,v,R,r,x,h=>by
    cases v<;>simp only [jY]at h<;>first|(cases h;done)|skip
    rename_i w
    cases w<;>simp only at h<;>first|(cases h;done)|skip
    split at h
    · rename_i he;obtain⟨rfl,rfl⟩:=he;simp at h;subst h;rfl
    · cases h
  | .hp sz b off,v,R,r,x,h=>by
    cases v<;>simp only [jY]at h<;>first|(cases h;done)|skip
    rename_i w
    cases w<;>simp only at h<;>first|(cases h;done)|skip
    split at h
    · rename_i he;obtain⟨rfl,rfl,rfl⟩:=he;simp at h;subst h;rfl
    · cases h
  | .nz,v,R,r,x,h=>by
    cases v<;>simp only [jY]at h<;>first|(cases h;done)|skip
    simp at h;subst h;rfl
theorem xA:∀{ps:List PC} {vs:List SV} {R:Type} {r:R} {x:An ps R},oT ps vs r=some x→uw ps x=(vs,r)
 | [],[],R,r,x,h=>by simp only [oT]at h;simp at h;subst h;rfl
 |p::ps,v::vs,R,r,x,h=>by
  simp only [oT,Option.bind_eq_some_iff]at h
  obtain⟨z,hz,h⟩:=h
  have h1:=GU h
  have h2:=xA hz
  simp only [uw,h1,h2]
 | [],_::_,R,r,x,h=>by simp [oT]at h
 |_::_,[],R,r,x,h=>by simp [oT]at h
theorem Sy:∀{p:PV} {v:SV} {R:Type} {r:R} {x:OP p R},Eh p v r=some x→Ie p x=(v,r)
  | .c p,v,R,r,x,h=>GU h
  | .ag ps,v,R,r,x,h=>by
    cases v<;>simp only [Eh]at h<;>first|(cases h;done)|skip
    simp only [Ie,xA h]
  | .t0,v,R,r,x,h=>by
    cases v<;>simp only [Eh]at h<;>first|(cases h;done)|skip
    rename_i vs
    cases vs<;>simp only at h<;>first|(cases h;done)|skip
    simp at h;subst h;rfl
  | .uk,v,R,r,x,h=>by
    cases v<;>simp only [Eh]at h<;>first|(cases h;done)|skip
    simp at h;subst h;rfl
theorem GV:∀{ps:List (Nat×PV)} {vs:SM} {R:Type} {r:R} {x:KM ps R},xp ps vs r=some x→CD ps x=(vs,r)
 | [],[],R,r,x,h=>by simp only [xp]at h;simp at h;subst h;rfl
 |p::ps,v::vs,R,r,x,h=>by
  simp only [xp]at h
  split at h
  ·rename_i he
   simp only [Option.bind_eq_some_iff]at h
   obtain⟨z,hz,h⟩:=h
   have h1:=Sy h
   have h2:=GV hz
   simp only [CD,h1,h2,he]
  ·cases h
 | [],_::_,R,r,x,h=>by simp [xp]at h
 |_::_,[],R,r,x,h=>by simp [xp]at h
theorem GW:∀{a b:List (AV×AV)},Ao a b=true→a=b
 | [],[],_=>rfl
 |(a,b)::l,(a',b')::l',h=>by
  simp only [Ao,Bool.and_eq_true]at h
  rw [Aw h.1.1,Aw h.1.2,GW h.2]
 | [],_::_,h=>by simp [Ao]at h
 |_::_,[],h=>by simp [Ao]at h
theorem Sz:∀{p:PB} {v:SB} {R:Type} {r:R} {x:OQ p R},rv p v r=some x→Ig p x=(v,r)
  | .vr sz ps t,v,R,r,x,h=>by
    cases v<;>simp only [rv]at h<;>first|(cases h;done)|skip
    split at h
    · rename_i he;obtain⟨rfl,rfl⟩:=he;simp only [Ig,xA h]
    · cases h
  | .row s t,v,R,r,x,h=>by
    cases v<;>simp only [rv]at h<;>first|(cases h;done)|skip
    split at h
    · rename_i ho
      split at h
      · rename_i he;subst he;subst ho;simp at h;subst h;rfl
      · cases h
    · cases h
  | .ar s t,v,R,r,x,h=>by
    cases v<;>simp only [rv]at h<;>first|(cases h;done)|skip
    split at h
    · rename_i ho
      split at h
      · rename_i he;subst he;subst ho;simp at h;subst h;rfl
      · cases h
    · cases h
  | .mi k g s,v,R,r,x,h=>by
    cases v<;>simp only [rv]at h<;>first|(cases h;done)|skip
    split at h
    · rename_i ho
      obtain⟨rfl,rfl⟩:=ho
      split at h
      · rename_i he;subst he;simp at h;subst h;rfl
      · cases h
    · cases h
  | .ms g s,v,R,r,x,h=>by
    cases v<;>simp only [rv]at h<;>first|(cases h;done)|skip
    split at h
    · rename_i ho
      subst ho
      split at h
      · rename_i he;subst he;simp at h;subst h;rfl
      · cases h
    · cases h
  | .ml es,v,R,r,x,h=>by
    cases v<;>simp only [rv]at h<;>first|(cases h;done)|skip
    split at h
    · rename_i he;simp at h;subst h;rw [←GW he];rfl
    · cases h
  | .dd,v,R,r,x,h=>by
    cases v<;>simp only [rv]at h<;>first|(cases h;done)|skip
    simp at h;subst h;rfl
theorem GX:∀{ps:List (Nat×PB)} {vs:bM} {R:Type} {r:R} {x:KN ps R},xq ps vs r=some x→CE ps x=(vs,r)
 | [],[],R,r,x,h=>by simp only [xq]at h;simp at h;subst h;rfl
 |p::ps,v::vs,R,r,x,h=>by
  simp only [xq]at h
  split at h
  ·rename_i he
   simp only [Option.bind_eq_some_iff]at h
   obtain⟨z,hz,h⟩:=h
   have h1:=Sz h
   have h2:=GX hz
   simp only [CE,h1,h2,he]
  ·cases h
 | [],_::_,R,r,x,h=>by simp [xq]at h
 |_::_,[],R,r,x,h=>by simp [xq]at h
theorem wk {p:PS} {S:SS} {x:Ee p} (h:Ap p S=some x):vZ p x=S:=by
 unfold Ap at h
 split at h
 ·rename_i he
  simp only [Option.bind_eq_some_iff]at h
  obtain⟨z,hz,h⟩:=h
  have h1:=GV h
  have h2:=GX hz
  unfold vZ
  simp only [h1,h2,he.1,he.2]
 ·cases h
theorem Ax:∀{l:List PS} {S:SS} {x:lT l},ux l S=some x→wa l x=S
 | [],S,x,h=>by simp [ux]at h
 | [p],S,x,h=>by simp only [ux]at h;exact wk h
 |p::q::l,S,x,h=>by
  simp only [ux]at h
  split at h
  ·rename_i y hy;simp at h;subst h;exact wk hy
  ·simp only [Option.map_eq_some_iff]at h
   obtain⟨y,hy,rfl⟩:=h
   show wa (q::l) y=S
   exact Ax hy
section
variable {ρ:Type} {r:ρ} {h:bM} {h':List (Nat×BK)} {tm:SM} {tm':List (Nat×AV)} {nx:Nat} {g:Cfg} {T:Tbl} {S:SS} {S':St} {run:CC→SS→KS ρ→Option ρ}
theorem Ca (f:Nat→SV) {t:Nat}:∀{l:List Nat},(∀a∈l,a<lS)→t∈l→bA (l.map fun t=>(t,f t)) t=f t
 | [],_,h=>by cases h
 |a::l,hl,h=>by
  simp only [List.map_cons,bA]
  by_cases hat:a=t
  ·subst hat;simp
  ·rw [if_neg hat]
   have h1:=hl a (List.mem_cons_self ..)
   rw [if_neg (by omega)]
   rcases List.mem_cons.1 h with h|h
   ·exact absurd h.symm hat
   ·exact Ca f (fun b hb=>hl b (List.mem_cons_of_mem _ hb)) h
theorem SA (p:Nat→Bool) (q:Nat→Nat) (v:SV):cJ (nB p q v)=cJ v:=by cases v<;>rfl
theorem yC {o:CI} {t:Nat} (h:t∈lC o.op):t∈bS o:=by unfold bS;exact List.mem_append_right _ h
theorem GY (hg:TG T g) (hr:uH T g ρ run):∀{ops:List (CI×List Nat)} {ix:Nat} {fs:List FootS} {S:SS} {S':St} {k:SS→Option ρ},RS S S'→Ij (aI ρ) T run ops ix fs S k=some r→
  ∃S1 S1',k S1=some r∧RS S1 S1'∧Evt fun K=>uj g (dg g K) ops ix (fs.map toF) S'=some S1'
 | [],ix,fs,S,S',k,hs,hk=>⟨S,S',hk,hs,.of fun K=>rfl⟩
 |(o,dp)::l,ix,fs,S,S',k,hs,hk=>by
  simp only [Ij]at hk
  split at hk
  ·rename_i hc
   simp only [Bool.and_eq_true]at hc
   obtain⟨⟨hc1,hc2⟩,hc3⟩:=hc
   have hus:lD (jX S.h) 64 ((bS o).flatMap fun t=>dE (bA S.tm t)) []=lD S'.h 64 ((bS o).flatMap fun t=>bP (look .ud S'.tm t)) []:=by
    rw [EC hs.tm hc2,oV (uC hs.h)]
   have hreads:∀us:List Nat,∀t∈lC o.op,cJ (bA (CA S.tm us (bS o)) t)=false:=by
    intro us t ht
    have h1:(decide (t<lS) && !cJ (bA S.tm t))=true:=List.all_eq_true.1 hc2 t (yC ht)
    simp only [Bool.and_eq_true,Bool.not_eq_true']at h1
    unfold CA
    rw [Ca _ (fun a ha=>by
     have h2:(decide (a<lS) && !cJ (bA S.tm a))=true:=List.all_eq_true.1 hc2 a ha
     simp only [Bool.and_eq_true,decide_eq_true_eq]at h2
     exact h2.1) (yC ht),SA]
    exact h1.2
   rw [hus]at hk hc1
   generalize hU:lD S'.h 64 ((bS o).flatMap fun t=>bP (look .ud S'.tm t)) []=us at hk hc1
   generalize hA:(if OE o.op=true then([]:List Nat)else us)=ac at hk
   obtain⟨rf,v,h1,nx1,w,h1',h2,h3,h4,h5,h6⟩:=GS hg hr (ED hs.tm us (bS o)) (Et hs.h us ac) hk
   dsimp only at h2
   have hw:=Uh hg (ED hs.tm us (bS o)) (Et hs.h us ac) (hreads us) hc3 us
   rw [hw]at h2
   split at h2
   ·rename_i hc4
    simp only [Bool.and_eq_true,decide_eq_true_eq]at hc4
    obtain⟨⟨hc5,hc6⟩,hc7⟩:=hc4
    obtain⟨a1,a2⟩:=EB (lN hs.tm (Uf h6)) hs.mm hc6 (yy (bZ us S.nx nx1) id h4)
    have hs2:=RS.mk (S:={tm:=wg o.dst (nB (bZ us S.nx nx1) id v) (refine S.tm rf),h:=vY S.h (fun b=>ro (bZ us S.nx nx1) id (cU h1 b)) (upto S.nx (nx1-S.nx)++wI g (iQ S'.tm us (bS o)) (gV S'.h us ac) o us),nx:=nx1,bs:=S.bs})
     (S':={tm:=jT o.dst (gn (bZ us S.nx nx1) id w) S'.tm,h:=over S'.h (fun b=>gX (bZ us S.nx nx1) id (aW h1' b)) (upto S.nx (nx1-S.nx)++wI g (iQ S'.tm us (bS o)) (gV S'.h us ac) o us),nx:=nx1,bs:=S'.bs})
     a1 a2 (At (fun b=>yz _ _ (cZ h5 b)) hs.h _) rfl hs.bs
    obtain⟨S1,S1',b1,b2,b3⟩:=GY hg hr hs2 h2
    refine⟨S1,S1',b1,b2,h3.and2 b3 fun K hK hK2=> ?_⟩
    simp only [uj]
    rw [hU,hA]
    rw [hs.nx]at hc1 hK hc5
    rw [if_pos hc1,hK]
    simp only
    rw [if_pos]
    ·rw [←hs.nx]
     exact hK2
    ·rw [hs.nx]at hc7
     simp only [Bool.and_eq_true,decide_eq_true_eq]
     refine⟨hc5,?_⟩
     rw [List.all_map]
     exact hc7
   ·cases h2
  ·cases hk
theorem EF {lp:Nat→Option Lps} {C:SS} {m:Nat} {L:Lps} {x:lT L.ps}:∀(n j:Nat),CJ lp C m j n=some ⟨L,x⟩→(∃j,lp (m+j*jb)=some L)∧ux L.ps C=some x
 |0,_,h=>by cases h
 |n+1,j,h=>by
  simp only [CJ]at h
  split at h
  ·cases h
  ·rename_i L' hL
   split at h
   ·rename_i y hy
    injection h with h
    injection h with h1 h2
    subst h1
    cases h2
    exact⟨⟨j,hL⟩,hy⟩
   ·exact EF n (j+1) h
theorem fy (hg:TG T g) (hr:uH T g ρ run):∀{c:CC} {S:SS} {S':St} {k:KS ρ},RS S S'→iI T g c→eH (aI ρ) T run c S k=some r→
  ∃ex S1 S1',k ex S1=some r∧RS S1 S1'∧Evt fun K=>bF g (dg g K) c S'=some (ex,S1')
 | .sk,S,S',k,hs,hl,hk=>⟨_,S,S',hk,hs,.of fun K=>rfl⟩
 | .rg ops,S,S',k,hs,hl,hk=>by
  simp only [eH]at hk
  obtain⟨S1,S1',h1,h2,h3⟩:=GT hg hr hs hk
  exact⟨_,S1,S1',h1,h2,h3.mono fun K hK=>by simp only [bF,hK];rfl⟩
 | .rd ops,S,S',k,hs,hl,hk=>by
  simp only [eH]at hk
  obtain⟨S1,S1',h1,h2,h3⟩:=GY hg hr hs hk
  exact⟨_,S1,S1',h1,h2,h3.mono fun K hK=>by simp only [List.map_nil]at hK;simp only [bF,hK];rfl⟩
 | .sq a b,S,S',k,hs,hl,hk=>by
  simp only [eH]at hk
  obtain⟨ex,S1,S1',h1,h2,h3⟩:=fy hg hr hs (fun p hp=>hl p (List.mem_append_left _ hp)) hk
  cases ex with
  |nm=>
   obtain⟨ex2,S2,S2',h4,h5,h6⟩:=fy hg hr h2 (fun p hp=>hl p (List.mem_append_right _ hp)) h1
   exact⟨ex2,S2,S2',h4,h5,h3.and2 h6 fun K hK hK2=>by simp only [bF,hK,hK2]⟩
  |rt=>exact⟨_,S1,S1',h1,h2,h3.mono fun K hK=>by simp only [bF,hK]⟩
  |xt i=>exact⟨_,S1,S1',h1,h2,h3.mono fun K hK=>by simp only [bF,hK]⟩
 | .cd c a b,S,S',k,hs,hl,hk=>by
  simp only [eH]at hk
  have hla:iI T g a:=fun p hp=>hl p (List.mem_append_left _ hp)
  have hlb:iI T g b:=fun p hp=>hl p (List.mem_append_right _ hp)
  split at hk
  ·rename_i t
   split at hk
   ·rename_i p hp
    have hl2:look .ud S'.tm t= .bl p:=by have:=hs.tm t;rw [hp]at this;exact this.1.symm
    rcases er hk with⟨rfl,hk⟩|⟨rfl,hk⟩
    ·obtain⟨ex,S1,S1',h1,h2,h3⟩:=fy (S:={S with tm:=refine S.tm [(t,.a (.bl true))]}) hg hr ⟨lN hs.tm (RF.one hl2),hs.mm,hs.h,hs.nx,hs.bs⟩ hla hk
     exact⟨ex,S1,S1',h1,h2,h3.mono fun K hK=>by simp only [bF,rd,hl2];exact hK⟩
    ·obtain⟨ex,S1,S1',h1,h2,h3⟩:=fy (S:={S with tm:=refine S.tm [(t,.a (.bl false))]}) hg hr ⟨lN hs.tm (RF.one hl2),hs.mm,hs.h,hs.nx,hs.bs⟩ hlb hk
     exact⟨ex,S1,S1',h1,h2,h3.mono fun K hK=>by simp only [bF,rd,hl2];exact hK⟩
   ·cases hk
  ·rename_i p
   cases p
   ·simp only [Bool.false_eq_true,if_false]at hk
    obtain⟨ex,S1,S1',h1,h2,h3⟩:=fy hg hr hs hlb hk
    exact⟨ex,S1,S1',h1,h2,h3.mono fun K hK=>by simp only [bF,rd];exact hK⟩
   ·simp only [if_true]at hk
    obtain⟨ex,S1,S1',h1,h2,h3⟩:=fy hg hr hs hla hk
    exact⟨ex,S1,S1',h1,h2,h3.mono fun K hK=>by simp only [bF,rd];exact hK⟩
  ·cases hk
 | .bk id b,S,S',k,hs,hl,hk=>by
  simp only [eH]at hk
  obtain⟨ex,S1,S1',h1,h2,h3⟩:=fy (c:=b) hg hr hs hl hk
  cases ex with
  |nm=>exact⟨_,S1,S1',h1,h2,h3.mono fun K hK=>by simp only [bF,hK]⟩
  |rt=>exact⟨_,S1,S1',h1,h2,h3.mono fun K hK=>by simp only [bF,hK]⟩
  |xt j=>
   simp only at h1
   split at h1
   ·rename_i hj;exact⟨_,S1,S1',h1,h2,h3.mono fun K hK=>by simp only [bF,hK];rw [if_pos hj]⟩
   ·rename_i hj;exact⟨_,S1,S1',h1,h2,h3.mono fun K hK=>by simp only [bF,hK];rw [if_neg hj]⟩
 | .lp live b,S,S',k,hs,hl,hk=>by
  simp only [eH]at hk
  split at hk
  ·split at hk
   ·rename_i hlive
    split at hk
    ·rename_i L x hx
     obtain⟨⟨j,hL⟩,hx⟩:=EF _ _ hx
     obtain⟨hm,hlp⟩:=hl (live,b) (List.mem_cons_self ..) j L hL
     have hs2:=BR hs hlive (.inl hm)
     have hfx:=Ax hx
     rw [←hfx]at hs2
     cases hy:L.L x with
     |none=>simp [aI,hy]at hk
     |some y=>
      have hk2:ii L.os y (aI ρ).sm k=some r:=by simpa [aI,hy]using hk
      obtain⟨ex,S1,S1',h1,h2,h3⟩:=hlp x y hy _ hs2 ρ k r hk2
      exact⟨ex,S1,S1',h1,h2,h3.mono fun K hK=>hK S' rfl⟩
    ·cases hk
   ·cases hk
  ·cases hk
 | .xt id,S,S',k,hs,hl,hk=>⟨_,S,S',hk,hs,.of fun K=>rfl⟩
 | .rt,S,S',k,hs,hl,hk=>⟨_,S,S',hk,hs,.of fun K=>rfl⟩
 | .no,S,S',k,hs,hl,hk=>by simp [eH]at hk
theorem xB (hg:TG T g):∀n,uH T g ρ (wh (aI ρ) T n)
 |0=>fun c S k r S' hk hs hl=>by simp [wh]at hk
 |n+1=>fun c S k r S' hk hs hl=>by
  simp only [wh]at hk
  obtain⟨ex,S1,S1',h1,h2,h3⟩:=fy hg (xB hg n) hs hl hk
  exact⟨ex,S1,S1',h1,h2,h3.succ.mono fun K ⟨j,hj,hK⟩=>by subst hj;simp only [dg];exact hK⟩
end
def fz {X Y:Type} (st:X→Option (X⊕Y)):Nat→X→Option Y
 |0,_=>none
 |n+1,x=>match st x with
  |some (.inl x')=>fz st n x'
  |some (.inr y)=>some y
  |none=>none
open Classical in
noncomputable def aZ {X Y:Type} (st:X→Option (X⊕Y)) (x:X):Option Y:=if h:∃y,∃n,fz st n x=some y then some (Classical.choose h)else none
section
variable {X Y:Type} {st:X→Option (X⊕Y)} {x:X} {y:Y}
theorem rF:∀{n m:Nat} {x:X},fz st n x=some y→n≤m→fz st m x=some y
 |0,_,x,h,_=>by cases h
 |n+1,m,x,h,hm=>by
  obtain⟨m,rfl⟩:∃j,m=j+1:=⟨m-1,by omega⟩
  simp only [fz]at h⊢
  split at h
  ·rename_i x' hx;exact rF h (by omega)
  ·rename_i y' hx;exact h
  ·cases h
theorem xC {n:Nat} (h:fz st n x=some y):aZ st x=some y:=by
 have hex:∃y,∃n,fz st n x=some y:=⟨y,n,h⟩
 unfold aZ
 rw [dif_pos hex]
 obtain⟨m,hm⟩:=Classical.choose_spec hex
 have h1:=rF h (Nat.le_max_left n m)
 have h2:=rF hm (Nat.le_max_right n m)
 rw [h1]at h2
 exact h2.symm
theorem oY (h:aZ st x=some y):∃n,fz st n x=some y:=by
 unfold aZ at h
 split at h
 ·rename_i hex
  injection h with h
  obtain⟨m,hm⟩:=Classical.choose_spec hex
  exact⟨m,by rw [hm,h]⟩
 ·cases h
theorem dm:aZ st x=match st x with
  |some (.inl x')=>aZ st x'
  |some (.inr y)=>some y
  |none=>none:=by
 cases hs:st x with
 |none=>
  simp only
  cases hl:aZ st x with
  |none=>rfl
  |some y=>
   obtain⟨n,hn⟩:=oY hl
   cases n<;>simp [fz,hs]at hn
 |some z=>
  cases z with
  |inr y=>exact xC (n:=1) (by simp [fz,hs])
  |inl x'=>
   simp only
   cases hl:aZ st x' with
   |some y=>
    obtain⟨n,hn⟩:=oY hl
    exact xC (n:=n+1) (by simp [fz,hs,hn])
   |none=>
    cases hl2:aZ st x with
    |none=>rfl
    |some y=>
     obtain⟨n,hn⟩:=oY hl2
     cases n with
     |zero=>simp [fz]at hn
     |succ n=>
      simp only [fz,hs]at hn
      rw [xC hn]at hl
      cases hl
end
def NB (T:Tbl) (n:Nat) (live:List Nat) (b:CC) (ps:List PS) (os:List (EX×PS)) (S:SS):Option (lT ps⊕uy os):=
 TU (aI _) T n live b S fun ex S=>match ex with
  | .nm=>(ux ps S).map .inl
  |ex=>(Ar os ex S).map .inr
section
variable {g:Cfg} {T:Tbl}
theorem GZ {a b:EX} (h:Ik a b=true):a=b:=by
 cases a<;>cases b<;>simp [Ik]at h<;>first|rfl|(subst h;rfl)
theorem EG {p:PS} {S:SS} {S':St} (hs:RS S S') (hp:Il p=true):RS (CG p S) S':=by
 refine⟨fun t=> ?_,hs.mm,hs.h,hs.nx,hs.bs⟩
 have main:∀l:List (Nat×PV),(l.any fun q=>decide (q.1=lS))=true→RV (bA (l.map fun q=>(q.1,if q.1=lS then SV.uk else bA S.tm q.1)) t) (look .ud S'.tm t):=by
  intro l
  induction l with
  |nil=>intro h;simp at h
  |cons q l ih=>
   intro h
   simp only [List.map_cons,bA]
   by_cases hq:q.1=t
   ·rw [if_pos hq]
    by_cases hk:q.1=lS
    ·rw [if_pos hk];trivial
    ·rw [if_neg hk,hq];exact hs.tm t
   ·rw [if_neg hq]
    by_cases hk:q.1=lS
    ·rw [if_pos hk];trivial
    ·rw [if_neg hk]
     refine ih ?_
     simpa [hk]using h
 exact main p.tm hp
theorem Ay {ρ:Type} {k:KS ρ}:∀{l:List (EX×PS)} {ex:EX} {S:SS} {y:uy l},Ar l ex S=some y→∃p,Il p=true∧ii l y (aI ρ).sm k=k ex (CG p S)
 | [],ex,S,y,h=>by simp [Ar]at h
 | [p],ex,S,y,h=>by
  simp only [Ar]at h
  split at h
  ·rename_i he
   simp only [Bool.and_eq_true]at he
   refine⟨p.2,he.2,?_⟩
   simp only [ii,wk h,GZ he.1]
  ·cases h
 |p::q::l,ex,S,y,h=>by
  simp only [Ar]at h
  split at h
  ·rename_i x hx
   split at hx
   ·rename_i he
    simp only [Bool.and_eq_true]at he
    simp at h
    subst h
    refine⟨p.2,he.2,?_⟩
    simp only [ii,aI,wk hx,GZ he.1]
   ·cases hx
  ·simp only [Option.map_eq_some_iff]at h
   obtain⟨z,hz,rfl⟩:=h
   obtain⟨p',h1,h2⟩:=Ay (k:=k) hz
   exact⟨p',h1,by simp only [ii,aI];exact h2⟩
theorem aba (hg:TG T g) {n:Nat} {live:List Nat} {b:CC} {ps:List PS} {os:List (EX×PS)} {st:lT ps→Option (lT ps⊕uy os)} (hm:gj≤dX live) (hb:iI T g b)
  (hst:∀x,NB T n live b ps os (wa ps x)=st x):Iq g ⟨ps,os,aZ st⟩ live b:=by
 refine⟨hm,fun x y hxy=> ?_⟩
 obtain⟨j,hj⟩:=oY hxy
 clear hxy
 induction j generalizing x with
 |zero=>simp [fz]at hj
 |succ j ih=>
  intro S' hs ρ k r hk
  simp only [fz]at hj
  cases hz:st x with
  |none=>rw [hz]at hj;cases hj
  |some z=>
   have hr:=hst x
   rw [hz]at hr
   unfold NB TU at hr
   obtain⟨ex,S1,S1',h1,h2,h3⟩:=fy hg (xB hg n) hs hb hr
   cases ex with
   |nm=>
    simp only at h1
    split at h1
    ·rename_i hl
     simp only [Option.map_eq_some_iff]at h1
     obtain⟨x',hx',rfl⟩:=h1
     rw [hz]at hj
     have hs2:=BR h2 hl (.inl hm)
     rw [←Ax hx']at hs2
     obtain⟨ex,S2,S2',h4,h5,h6⟩:=ih x' hj _ hs2 ρ k r hk
     refine⟨ex,S2,S2',h4,h5,(h3.and h6).succ.and h3|>.mono fun K hK S'' hS=> ?_⟩
     obtain⟨⟨i,rfl,h7,h8⟩,h9⟩:=hK
     simp only [bF,hS,h9]
     simp only [dg]
     exact h8 S1' rfl
    ·cases h1
   |rt=>
    simp only [Option.map_eq_some_iff]at h1
    obtain⟨y',hy',rfl⟩:=h1
    rw [hz]at hj
    simp only [Option.some.injEq]at hj
    subst hj
    obtain⟨p,h4,h5⟩:=Ay (k:=k) hy'
    have hk':ii os y' (aI ρ).sm k=some r:=hk
    rw [h5]at hk'
    exact⟨_,_,S1',hk',EG h2 h4,h3.mono fun K hK S'' hS=>by simp only [bF,hS,hK]⟩
   |xt i=>
    simp only [Option.map_eq_some_iff]at h1
    obtain⟨y',hy',rfl⟩:=h1
    rw [hz]at hj
    simp only [Option.some.injEq]at hj
    subst hj
    obtain⟨p,h4,h5⟩:=Ay (k:=k) hy'
    have hk':ii os y' (aI ρ).sm k=some r:=hk
    rw [h5]at hk'
    exact⟨_,_,S1',hk',EG h2 h4,h3.mono fun K hK S'' hS=>by simp only [bF,hS,hK]⟩
end
theorem mM:∀{rs:List (Bool×Nat)} {cs:List SV} {ws:List AV},bB ws=rs→All2 RC cs (ws.flatMap ce)→∃vs,jZ rs cs=some vs∧All2 RW vs ws
 |rs,cs,[],hs,h=>by
  simp only [bB]at hs
  subst hs
  cases h
  exact⟨[],rfl,.nil⟩
 |rs,cs,w::ws,hs,h=>by
  simp only [List.flatMap_cons]at h
  have hsplit:∃c1 c2,cs=c1++c2∧All2 RC c1 (ce w)∧All2 RC c2 (ws.flatMap ce):=by
   clear hs
   have aux:∀{l1 l2:List AV} {cs:List SV},All2 RC cs (l1++l2)→∃c1 c2,cs=c1++c2∧All2 RC c1 l1∧All2 RC c2 l2:=by
    intro l1
    induction l1 with
    |nil=>intro l2 cs h;exact⟨[],cs,rfl,.nil,h⟩
    |cons a l1 ih=>
     intro l2 cs h
     cases h with
     |cons h1 h2=>
      obtain⟨c1,c2,rfl,h3,h4⟩:=ih h2
      exact⟨_::c1,c2,rfl,.cons h1 h3,h4⟩
   exact aux h
  obtain⟨c1,c2,rfl,h1,h2⟩:=hsplit
  cases w with
  |ag us=>
   simp only [bB]at hs
   subst hs
   obtain⟨vs,h3,h4⟩:=mM rfl h2
   have hl:c1.length=us.length:=h1.length
   refine⟨.ag c1::vs,?_,.cons ⟨us,rfl,h1⟩ h4⟩
   simp only [jZ]
   rw [←hl,List.drop_left,List.take_left,h3]
   rfl
  |_=>
   simp only [bB]at hs
   subst hs
   obtain⟨vs,h3,h4⟩:=mM rfl h2
   obtain⟨a,ha⟩:∃a,c1= [a]:=by
    have:=h1.length
    simp only [ce,List.length_singleton]at this
    cases c1 with
    |nil=>simp at this
    |cons a l=>cases l with
     |nil=>exact⟨a,rfl⟩
     |cons _ _=>simp at this
   subst ha
   cases h1 with
   |cons h5 _=>
    refine⟨a::vs,?_,.cons h5.toW h4⟩
    simp only [List.cons_append,List.nil_append,jZ,h3]
    rfl
def RO (own:Option Bool) (v:SV) (w:AV):Prop:=match own with
 |none=>RC v w
 |some nl=>(∃s ts es,v= .ls s ts∧(nl=true→ts≠ [])∧w= .ow s.sz es∧All2 (RE s) ts es)∨(nl=true∧(v= .a .ns∨v= .a .ez∨v= .nz)∧(w= .ns∨w= .ez))
def OZ (own:List (Nat×Bool)):Nat→List SV→List AV→Prop
 |_,[],[]=>True
 |i,v::vs,w::ws=>RO (own.lookup i) v w∧OZ own (i+1) vs ws
 |_,_,_=>False
def Nm (a b:SV):Prop:=a=b∨((a= .a .ns∨a= .a .ez∨a= .nz)∧∃e,b= .ls e [])
theorem Az:∀{s:Sh} {l:List SV} {x:aN s} {r:List SV},gu s l=some (x,r)→∃l1,l=l1++r∧All2 Nm l1 (iA s x)
 | .i k,l,x,r,h=>by
  simp only [gu]at h
  split at h
  ·simp only [Option.ite_none_right_eq_some,Option.some.injEq,Prod.mk.injEq]at h
   obtain⟨rfl,rfl,rfl⟩:=h
   exact⟨[_],rfl,.cons (.inl rfl) .nil⟩
  ·cases h
 | .b,l,x,r,h=>by
  simp only [gu]at h
  split at h
  ·simp only [Option.some.injEq,Prod.mk.injEq]at h
   obtain⟨rfl,rfl⟩:=h
   exact⟨[_],rfl,.cons (.inl rfl) .nil⟩
  ·cases h
 | .s,l,x,r,h=>by
  simp only [gu]at h
  split at h
  ·simp only [Option.some.injEq,Prod.mk.injEq]at h
   obtain⟨rfl,rfl⟩:=h
   exact⟨[_],rfl,.cons (.inl rfl) .nil⟩
  ·cases h
 | .row e,l,x,r,h=>by
  simp only [gu]at h
  split at h
  ·split at h
   ·rename_i he
    subst he
    simp only [Option.some.injEq,Prod.mk.injEq]at h
    obtain⟨rfl,rfl⟩:=h
    exact⟨[_],rfl,.cons (.inl rfl) .nil⟩
   ·cases h
  ·simp only [Option.some.injEq,Prod.mk.injEq]at h
   obtain⟨rfl,rfl⟩:=h
   exact⟨[_],rfl,.cons (.inr ⟨.inl rfl,_,rfl⟩) .nil⟩
  ·simp only [Option.some.injEq,Prod.mk.injEq]at h
   obtain⟨rfl,rfl⟩:=h
   exact⟨[_],rfl,.cons (.inr ⟨.inr (.inl rfl),_,rfl⟩) .nil⟩
  ·simp only [Option.some.injEq,Prod.mk.injEq]at h
   obtain⟨rfl,rfl⟩:=h
   exact⟨[_],rfl,.cons (.inr ⟨.inr (.inr rfl),_,rfl⟩) .nil⟩
  ·cases h
 | .nil,l,x,r,h=>by
  simp only [gu,Option.some.injEq,Prod.mk.injEq]at h
  obtain⟨_,rfl⟩:=h
  exact⟨[],rfl,.nil⟩
 | .cons a b,l,x,r,h=>by
  simp only [gu,Option.bind_eq_some_iff,Option.some.injEq,Prod.mk.injEq]at h
  obtain⟨⟨p1,p2⟩,hp,⟨q1,q2⟩,hq,rfl,rfl⟩:=h
  obtain⟨l1,rfl,h1⟩:=Az hp
  obtain⟨l2,h3,h2⟩:=Az hq
  simp only at h3
  subst h3
  exact⟨l1++l2,by simp,h1.append h2⟩
theorem Lc {s:Sh} {l:List SV} {x:aN s} (h:cX s l=some x):All2 Nm l (iA s x):=by
 unfold cX at h
 simp only [Option.bind_eq_some_iff]at h
 obtain⟨⟨p1,p2⟩,hp,h⟩:=h
 obtain⟨l1,rfl,h1⟩:=Az hp
 cases p2 with
 |cons _ _=>simp at h
 |nil=>simp only [Option.some.injEq]at h;subst h;simpa using h1
section
variable {ρ:Type} {r:ρ}
theorem xD {ρ:Type} {r:ρ} {c:Prop} [Decidable c] {x:Option ρ} (h:(if c then none else x)=some r):x=some r:=by
 split at h
 ·cases h
 ·exact h
theorem pY {pr own:List (Nat×Bool)}:∀{l es:List SV} {cs:List AV} {i:Nat} {k:List SV→Option ρ},OZ own i l cs→All2 Nm l es→nD (aI ρ) pr own es i k=some r→∃l2,All2 RC l2 cs∧k l2=some r
 | [],es,cs,i,k,h,hn,hk=>by
  cases hn
  cases cs with
  |nil=>exact⟨[],.nil,hk⟩
  |cons _ _=>exact h.elim
 |v::vs,es,cs,i,k,h,hn,hk=>by
  cases cs with
  |nil=>exact h.elim
  |cons w ws=>
   obtain⟨h1,h2⟩:=h
   cases hn with
   | @cons _ e _ es hn1 hn2=>
    unfold nD at hk
    cases hl:own.lookup i with
    |none=>
     rw [hl]at h1 hk
     obtain⟨l2,h3,h4⟩:=pY h2 hn2 hk
     refine⟨_,.cons ?_ h3,h4⟩
     have h1:RC v w:=h1
     rcases hn1 with rfl|⟨hv,e',rfl⟩
     ·exact h1
     ·rcases hv with rfl|rfl|rfl
      ·exact .inr ⟨rfl,.inl h1.1.symm⟩
      ·exact .inr ⟨rfl,.inr h1.1.symm⟩
      ·exact .inr ⟨rfl,h1⟩
    |some nl=>
     rw [hl]at h1 hk
     simp only at hk
     rcases h1 with⟨s,ts,es',rfl,hne,rfl,hr⟩|⟨rfl,hv,hw⟩
     ·have he:e= .ls s ts:=by
       rcases hn1 with h|⟨h|h|h,_⟩
       ·exact h.symm
       ·cases h
       ·cases h
       ·cases h
      subst he
      simp only at hk
      cases nl
      ·simp only [Bool.false_eq_true,if_false]at hk
       obtain⟨l2,h3,h4⟩:=pY h2 hn2 hk
       exact⟨.ow s ts::l2,.cons ⟨es',rfl,hr⟩ h3,h4⟩
      ·simp only [if_true]at hk
       rcases er hk with⟨h5,_⟩|⟨_,hk⟩
       ·exact absurd (by simpa using h5) (hne rfl)
       ·have hk:=xD hk
        obtain⟨l2,h3,h4⟩:=pY h2 hn2 hk
        exact⟨.ow s ts::l2,.cons ⟨es',rfl,hr⟩ h3,h4⟩
     ·rcases hn1 with h|⟨_,e',rfl⟩
      ·subst h;rcases hv with rfl|rfl|rfl<;>simp at hk
      ·simp only [if_true]at hk
       rcases er hk with⟨_,hk⟩|⟨h5,_⟩
       ·have hk:=xD hk
        obtain⟨l2,h3,h4⟩:=pY h2 hn2 hk
        exact⟨.nz::l2,.cons hw h3,h4⟩
       ·simp at h5
theorem abb {c:Ctr} {l:List SV} {y:aN c.t} {ws:List AV} (hd:cX c.t l=some y) (hr:OZ c.own 0 l (ws.flatMap ce)) (hs:bB ws=c.rs):RR c y (fp ws):=fun ρ pr k r hk=>by
 unfold Np at hk
 obtain⟨l2,h1,h2⟩:=pY hr (Lc hd) hk
 obtain⟨vs,h3,h4⟩:=mM hs h1
 rw [h3]at h2
 exact⟨_,xy h4,h2⟩
theorem oZ {own:List (Nat×Bool)} (i:Nat):(own.map (·.1)).contains i=(own.lookup i).isSome:=by
 induction own with
 |nil=>rfl
 |cons p l ih=>
  obtain⟨a,b⟩:=p
  simp only [List.map_cons,List.contains_cons,List.lookup_cons,ih]
  cases h:i==a<;>simp
theorem EH {own:List (Nat×Bool)}:∀{cs:List SV} {ws:List AV} (i:Nat),All2 RC cs ws→oU own cs i=eF (own.map (·.1)) i ws
 | [],_,i,h=>by cases h;rfl
 |c::cs,_,i,h=>by
  cases h with
  | @cons _ w _ ws h1 h2=>
   simp only [oU,eF,EH (i+1) h2,oZ]
   congr 1
   cases hl:own.lookup i with
   |none=>simp only [Option.isSome_none];cases w<;>rfl
   |some nl=>
    simp only [Option.isSome_some]
    cases c with
    |a u=>obtain⟨rfl,_⟩:=h1;cases u<;>rfl
    |ls s ts=>rcases h1 with⟨es,rfl,_⟩|⟨_,rfl|rfl⟩<;>rfl
    |ri s ts i off=>obtain⟨es,rfl,_⟩:=h1;rfl
    |ow s ts=>obtain⟨es,rfl,_⟩:=h1;rfl
    |nz=>rcases h1 with rfl|rfl<;>rfl
    |_=>exact h1.elim
theorem yD (own:List Nat):∀(a b:List AV) (i:Nat),eF own i (a++b)=eF own i a++eF own (i+a.length) b
 | [],b,i=>rfl
 |x::a,b,i=>by
  simp only [List.cons_append,eF,yD own a b,List.append_assoc,List.length_cons]
  congr 3
  omega
theorem wL (own:List Nat):∀(ws:List AV) (i:Nat),dM own i ws=eF own i (ws.flatMap ce)
 | [],i=>rfl
 |w::ws,i=>by
  simp only [dM,List.flatMap_cons,yD,wL own ws]
  cases w with
  |ag cs=>rfl
  |_=>simp [qR,eF,ce,lB]
variable {h hk0:bM} {h' hk':List (Nat×BK)}
theorem ND (hh:RH h h') (hhk:RH hk0 hk') {own:Option Bool} {v:SV} {w:AV} {k:SV→Option ρ} (hv:RC v w) (hk:CK (aI ρ) h hk0 own v k=some r):∃v1 w1,jS h' hk' own.isSome w=some w1∧RO own v1 w1∧k v1=some r:=by
  cases own with
  |none=>
    simp only [CK]at hk
    obtain⟨v1,w1,h1,h2,h3⟩:=pw hhk hv hk
    refine⟨v1,w1,?_,h2,h3⟩
    unfold jS
    cases w<;>first|exact h1|skip
  | some nl=>
    simp only [CK]at hk
    split at hk
    · rename_i sz b lo len
      obtain⟨rfl,_⟩:=hv
      obtain⟨v1,w1,h1,h2,h3⟩:=lM hh (v:=.a (.sl sz b lo len)) ⟨rfl,rfl⟩ hk
      split at h3
      · rename_i s ts
        have hw1:∃es,w1= .ls s.sz es∧All2 (RE s) ts es:=by
          rcases h2 with h4|⟨_,h4|h4⟩
          · exact h4
          · subst h4;simp only [bO]at h1;split at h1<;>first|(split at h1<;>simp at h1;done)|(simp at h1;done)
          · subst h4;simp only [bO]at h1;split at h1<;>first|(split at h1<;>simp at h1;done)|(simp at h1;done)
        obtain⟨es,rfl,hr⟩:=hw1
        have hout:jS h' hk' true (.sl sz b lo len)=some (.ow s.sz es):=by
          unfold jS
          simp only [if_true,h1]
        cases nl
        · simp only [Bool.false_eq_true,if_false]at h3
          exact⟨_,_,hout,.inl ⟨s,ts,es,rfl,(fun h=>by cases h),rfl,hr⟩,h3⟩
        · simp only [if_true]at h3
          obtain⟨h4,h3⟩:=ry h3
          exact⟨_,_,hout,.inl ⟨s,ts,es,rfl,(fun _ he=>by subst he;simp at h4),rfl,hr⟩,h3⟩
      · cases h3
    · obtain⟨rfl,_⟩:=hv
      split at hk
      · rename_i hnl
        exact⟨_,.ns,rfl,.inr ⟨hnl,.inl rfl,.inl rfl⟩,hk⟩
      · cases hk
    · obtain⟨rfl,_⟩:=hv
      split at hk
      · rename_i hnl
        exact⟨_,.ez,rfl,.inr ⟨hnl,.inr (.inl rfl),.inr rfl⟩,hk⟩
      · cases hk
    · split at hk
      · rename_i hnl
        rcases hv with rfl|rfl
        · exact⟨_,.ns,rfl,.inr ⟨hnl,.inr (.inr rfl),.inl rfl⟩,hk⟩
        · exact⟨_,.ez,rfl,.inr ⟨hnl,.inr (.inr rfl),.inr rfl⟩,hk⟩
      · cases hk
    · cases hk
theorem Cb (hh:RH h h') (hhk:RH hk0 hk') {own:List (Nat×Bool)}:∀{cs:List SV} {ws:List AV} {i:Nat} {k:List SV→Option ρ},All2 RC cs ws→uA (aI ρ) h hk0 own cs i k=some r→
  ∃l l',eW h' hk' (own.map (·.1)) i ws=some l'∧OZ own i l l'∧k l=some r
 | [],_,i,k,hc,hk=>by cases hc;exact⟨[],[],rfl,trivial,hk⟩
 |c::cs,_,i,k,hc,hk=>by
  cases hc with
  |cons h1 h2=>
   unfold uA at hk
   obtain⟨v1,w1,h3,h4,h5⟩:=ND hh hhk h1 hk
   obtain⟨l,l',h6,h7,h8⟩:=Cb hh hhk h2 h5
   refine⟨v1::l,w1::l',?_,⟨h4,h7⟩,h8⟩
   simp only [eW,oZ,h3,h6]
theorem Cc {own:List Nat}:∀{a b l:List AV} {i:Nat},eW h' hk' own i (a++b)=some l→∃l1 l2,l=l1++l2∧eW h' hk' own i a=some l1∧eW h' hk' own (i+a.length) b=some l2∧l1.length=a.length
 | [],b,l,i,h=>⟨[],l,rfl,rfl,h,rfl⟩
 |x::a,b,l,i,h=>by
  simp only [List.cons_append,eW]at h
  split at h
  ·rename_i u us hu hus
   simp at h
   subst h
   obtain⟨l1,l2,rfl,h1,h2,h3⟩:=Cc hus
   refine⟨u::l1,l2,rfl,?_,?_,by simp [h3]⟩
   ·simp only [eW,hu,h1]
   ·rw [List.length_cons,show i+(a.length+1)=i+1+a.length from by omega];exact h2
  ·cases h
theorem Ld {b:Bool} {w w1:AV} (h:jS h' hk' b w=some w1):(∀l,w1≠ .ag l)∧(∀l,w1≠ .tp l):=rh h
theorem rG {own:List Nat}:∀{ws:List AV} {l:List AV} {i:Nat},(∀w∈ws,∀x,w≠ .tp x)→eW h' hk' own i (ws.flatMap ce)=some l→∃ws',eE h' hk' own i ws=some ws'∧ws'.flatMap ce=l∧bB ws'=bB ws
 | [],l,i,_,h=>by simp only [List.flatMap_nil,eW]at h;simp at h;subst h;exact⟨[],rfl,rfl,rfl⟩
 |w::ws,l,i,hn,h=>by
  simp only [List.flatMap_cons]at h
  obtain⟨l1,l2,rfl,h1,h2,h3⟩:=Cc h
  have hn2:∀w∈ws,∀x,w≠ .tp x:=fun w hw=>hn w (List.mem_cons_of_mem _ hw)
  cases w with
  |ag cs=>
   obtain⟨ws',h4,h5,h6⟩:=rG hn2 h2
   refine⟨.ag l1::ws',?_,?_,?_⟩
   ·simp only [ce]at h1
    have h4':eE h' hk' own (i+lB (.ag cs)) ws=some ws':=h4
    simp only [eE,ng,h1,h4',Option.map_some]
   ·simp only [List.flatMap_cons,h5,ce]
   ·simp only [bB,h6]
    have h3':l1.length=cs.length:=h3
    rw [h3']
  |tp x=>exact absurd rfl (hn (.tp x) (List.mem_cons_self ..) x)
  |_=>
   obtain⟨ws',h4,h5,h6⟩:=rG hn2 h2
   simp only [ce,eW]at h1
   split at h1
   ·rename_i u us hu hus
    simp at hus h1
    subst hus h1
    have hsh:=Ld hu
    refine⟨u::ws',?_,?_,?_⟩
    ·simp only [ce,List.length_singleton]at h4
     simp only [eE,ng,hu,lB,h4]
    ·simp only [List.flatMap_cons,h5]
     congr 1
     cases u<;>first|rfl|exact absurd rfl (hsh.1 _)
    ·have e1:bB (u::ws')=(false,1)::bB ws':=by cases u<;>first|rfl|exact absurd rfl (hsh.1 _)
     rw [e1,h6]
     rfl
   ·cases h1
end
def aH (P:Program) (f:FuncId) (c:Ctr):Prop:=∀(as:List AV) x y,bB as=c.as→RE c.s x (as.flatMap ce)→c.F x=some y→mA P f∧∃w,fE P f as w∧RR c y w
open Classical in
noncomputable def rH (P:Program) (ct:FuncId→Option Ctr) (f:FuncId) (as:List AV):Option AV:=match ct f with
 |some c=>if h:∃w,mA P f∧fE P f as w∧∃x y,bB as=c.as∧RE c.s x (as.flatMap ce)∧c.F x=some y∧RR c y w then some (Classical.choose h)else none
 |none=>none
def NE (P:Program) (f:FuncId) (as:List AV) (h:List (Nat×BK)) (nx:Nat) (e:Ef):Prop:=
 ∀(I:Nat→Prop) (M:MU) (w:World) (vals:Array Value),SimH I M h nx w→All2 (RpV I M w) as vals.toList→
  mA P f∧∀R:Ending→World→Prop,(∀v I' M' w',Did I M nx w e false v I' M' w'→R (.returned v) w')→Calls P f vals w R
structure StOk (P:Program) (f:FuncId) (w:Wrt):Prop where
 row:∀(h:List (Nat×BK)) nx b t ts es ts',aW h b= .rw false w.s.sz es t→All2 (RE w.s) ts es→w.F ts=some ts'→
  ∃es',All2 (RE w.s) ts' es'∧NE P f [.sl w.s.sz b 0 es.length,.fn w.c []] h nx ⟨.tp [],put h b (.rw false w.s.sz es' t),nx⟩
 nor:∀(h:List (Nat×BK)) nx,NE P f [.ns,.fn w.c []] h nx ⟨.tp [],h,nx⟩
def It (P:Program) (f:FuncId) (w:Wrt) (as:List AV) (h:List (Nat×BK)) (nx:Nat) (e:Ef):Prop:=
 NE P f as h nx e∧((∃b t ts es ts' es',as= [.sl w.s.sz b 0 es.length,.fn w.c []]∧aW h b= .rw false w.s.sz es t∧All2 (RE w.s) ts es∧w.F ts=some ts'∧All2 (RE w.s) ts' es'∧e=⟨.tp [],put h b (.rw false w.s.sz es' t),nx⟩)∨
  (as= [.ns,.fn w.c []]∧e=⟨.tp [],h,nx⟩))
open Classical in
noncomputable def EI (P:Program) (st:FuncId→Option Wrt) (f:FuncId) (as:List AV) (h:List (Nat×BK)) (nx:Nat):Option Ef:=match st f with
 |some w=>if h:∃e,It P f w as h nx e then some (Classical.choose h)else none
 |none=>none
theorem Ha {s:Sh}:∀{ts ts':List (aN s)} {es:List (List AV)},All2 (RE s) ts es→All2 (RE s) ts' es→ts=ts'
 |_,_,[],h1,h2=>by cases h1;cases h2;rfl
 |_,_,e::es,h1,h2=>by
  cases h1 with
  |cons a1 a2=>cases h2 with
   |cons b1 b2=>rw [uB a1 b1,Ha a2 b2]
theorem SC {P:Program} {st:FuncId→Option Wrt} {f:FuncId} {w:Wrt} (hf:st f=some w) (hw:StOk P f w) (h:List (Nat×BK)) (nx b:Nat) (t:TypeId) (ts:List (aN w.s)) (es:List (List AV)) (ts':List (aN w.s))
  (h1:aW h b= .rw false w.s.sz es t) (h2:All2 (RE w.s) ts es) (h3:w.F ts=some ts'):∃es',All2 (RE w.s) ts' es'∧EI P st f [.sl w.s.sz b 0 es.length,.fn w.c []] h nx=some ⟨.tp [],put h b (.rw false w.s.sz es' t),nx⟩:=by
 obtain⟨es',h4,h5⟩:=hw.row h nx b t ts es ts' h1 h2 h3
 have hex:∃e,It P f w [.sl w.s.sz b 0 es.length,.fn w.c []] h nx e:=⟨_,h5,.inl ⟨b,t,ts,es,ts',es',rfl,h1,h2,h3,h4,rfl⟩⟩
 unfold EI
 rw [hf]
 simp only
 rw [dif_pos hex]
 obtain⟨_,h6⟩:=Classical.choose_spec hex
 rcases h6 with⟨b2,t2,ts2,es2,ts2',es2',e1,e2,e3,e4,e5,e6⟩|⟨e1,_⟩
 ·simp only [List.cons.injEq,AV.sl.injEq,true_and,and_true]at e1
  obtain⟨rfl,-⟩:=e1
  rw [h1]at e2
  simp only [BK.rw.injEq,true_and]at e2
  obtain⟨rfl,rfl⟩:=e2
  have:=Ha h2 e3
  subst this
  rw [h3]at e4
  injection e4 with e4
  subst e4
  exact⟨es2',e5,congrArg some e6⟩
 ·simp at e1
theorem SD {P:Program} {st:FuncId→Option Wrt} {f:FuncId} {w:Wrt} (hf:st f=some w) (hw:StOk P f w) (h:List (Nat×BK)) (nx:Nat):EI P st f [.ns,.fn w.c []] h nx=some ⟨.tp [],h,nx⟩:=by
 have hex:∃e,It P f w [.ns,.fn w.c []] h nx e:=⟨_,hw.nor h nx,.inr ⟨rfl,rfl⟩⟩
 unfold EI
 rw [hf]
 simp only
 rw [dif_pos hex]
 obtain⟨_,h6⟩:=Classical.choose_spec hex
 rcases h6 with⟨b2,t2,ts2,es2,ts2',es2',e1,_⟩|⟨_,e1⟩
 ·simp at e1
 ·exact congrArg some e1
noncomputable def bc (P:Program) (code:FuncId→Option CF) (ct:FuncId→Option Ctr) (st:FuncId→Option Wrt) (own:List Nat) (kl pf:List FuncId):Cfg:={code:=code,own:=fun _=>own,inl:=fun f=>(ct f).isNone && !pf.contains f,ext:=rH P ct,kl:=fun f=>kl.contains f,wr:=EI P st}
theorem SE {P:Program} {ct:FuncId→Option Ctr} (hc:∀f c,ct f=some c→aH P f c) {f:FuncId} {c:Ctr} {as:List AV} {x:aN c.s} {y:aN c.t} (h1:ct f=some c) (h2:bB as=c.as) (h3:RE c.s x (as.flatMap ce)) (h4:c.F x=some y):
  ∃w,rH P ct f as=some w∧RR c y w:=by
 obtain⟨he,w,hw,hr⟩:=hc f c h1 as x y h2 h3 h4
 have hex:∃w,mA P f∧fE P f as w∧∃x y,bB as=c.as∧RE c.s x (as.flatMap ce)∧c.F x=some y∧RR c y w:=⟨w,he,hw,x,y,h2,h3,h4,hr⟩
 unfold rH
 rw [h1]
 simp only
 rw [dif_pos hex]
 obtain⟨_,_,x',y',_,h5,h6,h7⟩:=Classical.choose_spec hex
 refine⟨_,rfl,?_⟩
 have hx:=uB h3 h5
 subst hx
 rw [h4]at h6
 injection h6 with h6
 subst h6
 exact h7
theorem SF {P:Program} {code:FuncId→Option CF} {ct:FuncId→Option Ctr} {st:FuncId→Option Wrt} {own:List Nat} {kl pf:List FuncId} (ht:∀f c,code f=some c→∃fn live,P.funcs[f]? =some fn∧aA P live fn=some c):CfgOk P (bc P code ct st own kl pf):=
 ⟨ht,fun f as r h=>by
  have h:rH P ct f as=some r:=h
  unfold rH at h
  split at h
  ·split at h
   ·rename_i hex
    injection h with h
    subst h
    obtain⟨h1,h2,_⟩:=Classical.choose_spec hex
    exact⟨h1,h2⟩
   ·cases h
  ·(cases h),fun f as h nx e he=>by
  have he:EI P st f as h nx=some e:=he
  unfold EI at he
  split at he
  ·split at he
   ·rename_i hex
    injection he with he
    subst he
    exact(Classical.choose_spec hex).1
   ·cases he
  ·cases he⟩
theorem abc {P:Program} {T:Tbl} {own:List Nat} (hc:∀f c,T.ct f=some c→aH P f c) (hst:∀f w,T.st f=some w→StOk P f w) (hl:∀f c,T.code f=some c→iI T (bc P T.code T.ct T.st own T.hint.kl T.hint.pf) c.code):TG T (bc P T.code T.ct T.st own T.hint.kl T.hint.pf) where
 inl:=fun f=>rfl
 noe:=fun f as h=>by show rH P T.ct f as=none;unfold rH;rw [h]
 code:=fun f c h=>h
 kl:=fun f=>rfl
 ext:=fun f c as x y h1 h2 h3 h4=>SE hc h1 h2 h3 h4
 lps:=hl
 noc:=fun f h=>h
 row:=fun f w h=>SC h (hst f w h)
 nor:=fun f w h=>SD h (hst f w h)
theorem Ui {P:Program} {T:Tbl} {n:Nat} {f:FuncId} {cf:CF} {c:Ctr} (hm:P.follows .mixedOrders=true) (ht:∀f c,T.code f=some c→∃fn live,P.funcs[f]? =some fn∧aA P live fn=some c)
  (hg:TG T (bc P T.code T.ct T.st (c.own.map (·.1)) T.hint.kl T.hint.pf)) (hcode:T.code f=some cf) (hct:T.ct f=none)
  (hf:∀x,Ns aI T n cf c.s c.t c.as x c.own c.rs=c.F x):aH P f c:=by
 intro as x y h1 h2 h3
 have hk:=hf x
 rw [h3]at hk
 unfold Ns at hk
 split at hk
 ·cases hk
 ·rename_i hn
  obtain⟨vs,h4,h5⟩:=mM h1 (gR h2)
  rw [h4]at hk
  have hla:as.length=c.as.length:=by
   rw [←h1]
   have aux:∀l:List AV,l.length=(bB l).length:=by
    intro l
    induction l with
    |nil=>rfl
    |cons w l ih=>cases w<;>simp [bB,ih]
   exact aux as
  have hn1:¬cf.np<as.length:=by rw [hla];exact fun h=>hn (.inl h)
  have hn2:as.length≤gj:=by rw [hla];exact Nat.not_lt.1 fun h=>hn (.inr h)
  have hs:RS {tm:=iZ ((some vs).getD []),h:=[],nx:=0,bs:=0} {tm:=fq as,h:=[],nx:=0,bs:=0}:=
   ⟨fun t=>oW (h5.mono fun _ _ h=>h.toV) 0 t,fun t ht=>oX as 0 t (by omega),.nil,rfl,rfl⟩
  obtain⟨ex,S1,S1',h6,h7,h8⟩:=xB hg n _ _ _ _ _ hk hs (hg.lps f cf hcode)
  have hfin:(ex= .nm∨ex= .rt)∧(dL (aI (aN c.t)) S1 cf.res fun vs=>
   if ja vs=c.rs∧eX (oU c.own (vs.flatMap lL) 0)then
    uA (aI (aN c.t)) S1.h (mL S1.h (oU c.own (vs.flatMap lL) 0)) c.own (vs.flatMap lL) 0 fun l=>cX c.t l
   else none)=some y:=by
   cases ex with
   |nm=>exact⟨.inl rfl,h6⟩
   |rt=>exact⟨.inr rfl,h6⟩
   |xt i=>cases h6
  obtain⟨us,ws,h9,h10,h11⟩:=il h7 hfin.2
  split at h11
  ·rename_i hc2
   have hcells:All2 RC (us.flatMap lL) (ws.flatMap ce):=h10.flat fun a b hab=>BV hab
   have hhand:oU c.own (us.flatMap lL) 0=dM (c.own.map (·.1)) 0 ws:=by rw [wL];exact EH 0 hcells
   rw [hhand]at h11 hc2
   obtain⟨l,l',h12,h13,h14⟩:=Cb h7.h (pW h7.h _) hcells h11
   obtain⟨ws',h15,h16,h17⟩:=rG (fun w hw=>by
    have aux:∀{us:List SV} {ws:List AV},All2 RW us ws→∀w∈ws,∀x,w≠ .tp x:=by
     intro us ws h
     induction h with
     |nil=>intro w hw;cases hw
     |cons h1 _ ih=>
      intro w hw
      rcases List.mem_cons.1 hw with rfl|hw
      ·exact wj h1
      ·exact ih w hw
    exact aux h10 w hw) h12
   have hrr:RR c y (fp ws'):=abb h14 (by rw [h16];exact h13) (by rw [h17,←rE h10];exact hc2.1)
   obtain⟨m,hm8⟩:=h8
   have hev:Cw (bc P T.code T.ct T.st (c.own.map (·.1)) T.hint.kl T.hint.pf) m f as=some (fp ws'):=by
    unfold Cw mF
    have he:(bc P T.code T.ct T.st (c.own.map (·.1)) T.hint.kl T.hint.pf).ext f as=none:=by
     show rH P T.ct f as=none
     unfold rH
     rw [hct]
    have hco:(bc P T.code T.ct T.st (c.own.map (·.1)) T.hint.kl T.hint.pf).code f=some cf:=hcode
    have how:(bc P T.code T.ct T.st (c.own.map (·.1)) T.hint.kl T.hint.pf).own f=c.own.map (·.1):=rfl
    rw [he,hco]
    simp only
    rw [if_neg hn1,hm8 m (Nat.le_refl _),how]
    rcases hfin.1 with rfl|rfl
    ·simp only [h9]
     rw [if_pos hc2.2,h15]
     rfl
    ·simp only [h9]
     rw [if_pos hc2.2,h15]
     rfl
   obtain⟨h18,h19⟩:=HZ hm (SF ht) hev
   exact⟨h18,_,h19,hrr⟩
  ·cases h11
theorem Cd {α:Type}:∀(l:List (Nat×CF)) (n:Nat),look? l n=find l n
 | [],_=>rfl
 |(k,c)::l,n=>by
  simp only [look?,find]
  split
  ·rfl
  ·exact Cd (α:=α) l n
def aB (tb:List (Nat×CF)):List (List Nat×CC):=tb.flatMap fun q=>ch q.2.code
def au (g:Cfg) (all:List (List Nat×CC)):List (Nat×Lps)→Prop
 | []=>True
 |(m,L)::l=>(∃live b,all.filter (fun p=>dX p.1 % jb==m % jb)= [(live,b)]∧Iq g L live b)∧au g all l
def aS (P:Program):List (Nat×Ctr)→Prop
 | []=>True
 |(f,c)::l=>aH P f c∧aS P l
theorem EJ {P:Program}:∀{l:List (Nat×Ctr)} {f:Nat} {c:Ctr},aS P l→look? l f=some c→aH P f c
 | [],_,_,_,h=>by simp [look?]at h
 |(k,c0)::l,f,c,hc,h=>by
  simp only [look?]at h
  split at h
  ·rename_i hk;subst hk;injection h with h;subst h;exact hc.1
  ·exact EJ hc.2 h
def rI (P:Program):List (Nat×Wrt)→Prop
 | []=>True
 |(f,c)::l=>StOk P f c∧rI P l
def EK:List (Nat×Wrt):=[]
theorem pZ {P:Program}:rI P EK:=trivial
theorem EL {P:Program}:∀{l:List (Nat×Wrt)} {f:Nat} {c:Wrt},rI P l→look? l f=some c→StOk P f c
 | [],_,_,_,h=>by simp [look?]at h
 |(k,c0)::l,f,c,hc,h=>by
  simp only [look?]at h
  split at h
  ·rename_i hk;subst hk;injection h with h;subst h;exact hc.1
  ·exact EL hc.2 h
theorem EM {g:Cfg} {all:List (List Nat×CC)}:∀{l:List (Nat×Lps)} {m:Nat} {L:Lps},au g all l→look? l m=some L→∃live b,all.filter (fun p=>dX p.1 % jb==m % jb)= [(live,b)]∧Iq g L live b
 | [],_,_,_,h=>by simp [look?]at h
 |(k,c0)::l,f,c,hc,h=>by
  simp only [look?]at h
  split at h
  ·rename_i hk;subst hk;injection h with h;subst h;exact hc.1
  ·exact EM hc.2 h
theorem Le {tb:List (Nat×CF)} {f:Nat} {c:CF} (h:look? tb f=some c):(f,c)∈tb:=by
 induction tb with
 |nil=>simp [look?]at h
 |cons p l ih=>
  obtain⟨k,c0⟩:=p
  simp only [look?]at h
  split at h
  ·rename_i hk;subst hk;injection h with h;subst h;exact List.mem_cons_self ..
  ·exact List.mem_cons_of_mem _ (ih h)
theorem eO:∀{c:CC} {live:List Nat} {b:CC},(live,b)∈ch c→∀p∈ch b,p∈ch c
 | .sq a d,live,b,h,p,hp=>by
  simp only [ch,List.mem_append]at h⊢
  rcases h with h|h
  ·exact .inl (eO h p hp)
  ·exact .inr (eO h p hp)
 | .cd _ a d,live,b,h,p,hp=>by
  simp only [ch,List.mem_append]at h⊢
  rcases h with h|h
  ·exact .inl (eO h p hp)
  ·exact .inr (eO h p hp)
 | .bk _ d,live,b,h,p,hp=>by
  simp only [ch]at h⊢
  exact eO h p hp
 | .lp l d,live,b,h,p,hp=>by
  simp only [ch,List.mem_cons]at h⊢
  rcases h with h|h
  ·injection h with h1 h2;subst h2;exact .inr hp
  ·exact .inr (eO h p hp)
 | .sk,_,_,h,_,_=>by simp [ch]at h
 | .rg _,_,_,h,_,_=>by simp [ch]at h
 | .rd _,_,_,h,_,_=>by simp [ch]at h
 | .xt _,_,_,h,_,_=>by simp [ch]at h
 | .rt,_,_,h,_,_=>by simp [ch]at h
 | .no,_,_,h,_,_=>by simp [ch]at h
theorem Lf {g:Cfg} {T:Tbl} {tb:List (Nat×CF)} {lps:List (Nat×Lps)} (hlp:au g (aB tb) lps) (ht:T.lp=look? lps) {c:CC} (hc:∀p∈ch c,p∈aB tb):iI T g c:=fun p hp j L hL=>by
 rw [ht]at hL
 obtain⟨live,b,h1,h2⟩:=EM hlp hL
 have:p∈(aB tb).filter (fun q=>dX q.1 % jb==(dX p.1+j*jb) % jb):=List.mem_filter.2 ⟨hc p hp,by rw [Nat.add_mul_mod_self_right];simp⟩
 rw [h1,List.mem_singleton]at this
 subst this
 exact h2
section
variable {P:Program} {tb:List (Nat×CF)} {H:Hint} {ct:List (Nat×Ctr)} {wt:List (Nat×Wrt)} {own:List Nat} {lps:List (Nat×Lps)}
theorem Lg (hct:aS P ct) (hwt:rI P wt) (hlp:au (bc P (look? tb) (look? ct) (look? wt) own H.kl H.pf) (aB tb) lps):TG ⟨look? tb,H,look? ct,look? lps,look? wt⟩ (bc P (look? tb) (look? ct) (look? wt) own H.kl H.pf):=
 abc (fun f c h=>EJ hct h) (fun f w h=>EL hwt h) fun f c h=>Lf hlp rfl fun p hp=>List.mem_flatMap.2 ⟨_,Le h,hp⟩
theorem aT (hct:aS P ct) (hwt:rI P wt) (hlp:au (bc P (look? tb) (look? ct) (look? wt) own H.kl H.pf) (aB tb) lps) {m n:Nat} {live:List Nat} {b:CC} {ps:List PS} {os:List (EX×PS)} {st:lT ps→Option (lT ps⊕uy os)}
  (hm:decide (gj≤dX live)=true) (hu:(aB tb).filter (fun p=>dX p.1 % jb==m % jb)= [(live,b)]) (hr:∀x,NB ⟨look? tb,H,look? ct,look? lps,look? wt⟩ n live b ps os (wa ps x)=st x):
  au (bc P (look? tb) (look? ct) (look? wt) own H.kl H.pf) (aB tb) ((m,⟨ps,os,aZ st⟩)::lps):=by
 have hin:(live,b)∈aB tb:=by
  have:(live,b)∈(aB tb).filter (fun p=>dX p.1 % jb==m % jb):=by rw [hu];exact List.mem_singleton.2 rfl
  exact(List.mem_filter.1 this).1
 have hsub:∀p∈ch b,p∈aB tb:=fun p hp=>by
  obtain⟨q,hq,h⟩:=List.mem_flatMap.1 hin
  exact List.mem_flatMap.2 ⟨q,hq,eO h p hp⟩
 exact⟨⟨live,b,hu,aba (Lg hct hwt hlp) (of_decide_eq_true hm) (Lf hlp rfl hsub) hr⟩,hlp⟩
theorem aJ (hm:P.follows .mixedOrders=true) (ht:bi P tb) (hct:aS P ct) (hwt:rI P wt) {f n:Nat} {cf:CF} {c:Ctr} (hlp:au (bc P (look? tb) (look? ct) (look? wt) (c.own.map (·.1)) H.kl H.pf) (aB tb) lps) (hcode:look? tb f=some cf) (hn:look? ct f=none)
  (hf:∀x,Ns aI ⟨look? tb,H,look? ct,look? lps,look? wt⟩ n cf c.s c.t c.as x c.own c.rs=c.F x):aH P f c:=
 Ui (T:=⟨look? tb,H,look? ct,look? lps,look? wt⟩) hm (fun f c h=>oS ht (by rw [←Cd (α:=Unit)];exact h)) (Lg hct hwt hlp) hcode hn hf
end
def Pa (T:TypeId→List AV→Prop):List Field→List AV→Prop
 | [],cs=>cs= []
 |f::fs,cs=>∃a b,cs=a++b∧T f.type a∧Pa T fs b
def Ty (P:Program):Nat→TypeId→List AV→Prop
 |0,_,_=>False
 |n+1,t,cs=>match P.underlying t with
  |some .bool=>∃b,cs= [.bl b]
  |some (.int k)=>∃m,cs= [.int k m]∧(Lit.int k m).wf=true
  |some .string=>∃s,cs= [.st s]∧s.size≤maxLen
  |some (.slice e)=>cs= [.ns]∨∃es,cs= [.ls (P.cellsOf e) es]∧es.length≤maxLen∧∀x∈es,x.length=P.cellsOf e∧Ty P n e x
  |some (.struct fs)=>Pa (Ty P n) fs.toList cs
  |_=>False
def pa (P:Program):List Field→Nat→Nat→Bool
 | [],off,n=>off==n
 |f::fs,off,n=>f.offset==off && pa P fs (off+P.cellsOf f.type) n
def je (P:Program):Nat→TypeId→Bool
 |0,_=>false
 |n+1,t=>match P.underlying t with
  |some .bool|some (.int _)|some .string=>true
  |some (.slice e)=>decide (0<P.cellsOf e) && je P n e
  |some (.struct fs)=>pa P fs.toList 0 (P.cellsOf t) && fs.toList.all fun f=>je P n f.type
  |_=>false
def iC (w:World):Nat→Prop:=fun b=>b<w.heap.size
theorem rJ {α β:Type} {f:α→Option β}:∀{l:List α} {r:List β},l.mapM f=some r→All2 (fun a b=>f a=some b) l r
 | [],r,h=>by simp at h;subst h;exact .nil
 |a::l,r,h=>by
  simp only [List.mapM_cons,Option.bind_eq_bind,Option.bind_eq_some_iff]at h
  obtain⟨b,hb,l',hl,h⟩:=h
  simp only [Option.pure_def,Option.some.injEq]at h
  subst h
  exact .cons hb (rJ hl)
theorem All2.range {β:Type} {R:Nat→β→Prop}:∀{n:Nat} {r:List β},All2 R (List.range n) r→r.length=n∧∀i (b:β),r[i]? =some b→R i b:=by
 intro n r h
 refine⟨by simpa using h.length.symm,fun i b hb=> ?_⟩
 have hl:i<n:=by
  have:=(List.getElem?_eq_some_iff.1 hb).1
  have h2:=h.length
  simp at h2;omega
 obtain⟨c,hc,hr⟩:=h.get i i (by simp [hl])
 rw [hb]at hc;injection hc with hc;subst hc;exact hr
section
variable {H:Type} {enc:TypeId×Value→H} {P:Program} {w:World} {base:Nat} {spare:Nat→Bool} {held:Bool}
theorem lO {a:Addr} {n:Nat} {us:List Value} (h:w.cells? base a n=some us):us.length=n∧∀j (u:Value),us[j]? =some u→w.cell? (a.add j)=some u:=by
 unfold World.cells? at h
 split at h
 ·have:=(rJ h).range
  exact this
 ·simp at h
theorem uK {a:Addr} {u:Value} (h:w.cell? a=some u):a.spot=none∧a.block<w.heap.size:=by
 unfold World.cell? at h
 split at h
 ·rename_i c t f hb
  refine⟨?_,(Array.getElem?_eq_some_iff.1 hb).1⟩
  split at h
  ·simp at h
  ·rename_i hs;simpa using hs
 ·simp at h
theorem EN {n:Nat} {fuel:Nat} {cs:List Value} (ih:∀t us d ps,je P n t=true→DataW.trod enc P w base spare held fuel t us=some (d,ps)→us.length=P.cellsOf t→∃as,Ty P n t as∧All2 (Rp (iC w) M0 w) as us):
  ∀(fs:List Field) (off:Nat),pa P fs off cs.length=true→(fs.all fun f=>je P n f.type)=true→
   (∀f∈fs,∃x,DataW.trod enc P w base spare held fuel f.type ((cs.drop f.offset).take (P.cellsOf f.type))=some x)→off≤cs.length→
   ∃as,Pa (Ty P n) fs as∧All2 (Rp (iC w) M0 w) as (cs.drop off)
 | [],off,ht,hp,hx,hl=>by
  simp only [pa,beq_iff_eq]at ht
  subst ht
  exact⟨[],rfl,by simp;exact .nil⟩
 |f::fs,off,ht,hp,hx,hl=>by
  simp only [pa,Bool.and_eq_true,beq_iff_eq]at ht
  obtain⟨ho,ht⟩:=ht
  simp only [List.all_cons,Bool.and_eq_true]at hp
  have hbound:off+P.cellsOf f.type≤cs.length:=by
   have:∀(fs:List Field) (o m:Nat),pa P fs o m=true→o≤m:=by
    intro fs
    induction fs with
    |nil=>intro o m h;simp only [pa,beq_iff_eq]at h;omega
    |cons g fs ih=>intro o m h;simp only [pa,Bool.and_eq_true]at h;have:=ih _ _ h.2;omega
   exact this fs _ _ ht
  obtain⟨⟨d,ps⟩,hx1⟩:=hx f (by simp)
  rw [ho]at hx1
  obtain⟨as,h1,h2⟩:=ih f.type _ d ps hp.1 hx1 (by simp;omega)
  obtain⟨bs,h3,h4⟩:=EN ih fs (off+P.cellsOf f.type) ht hp.2 (fun g hg=>hx g (by simp [hg])) hbound
  refine⟨as++bs,⟨as,bs,rfl,h1,h3⟩,?_⟩
  have:cs.drop off=(cs.drop off).take (P.cellsOf f.type)++cs.drop (off+P.cellsOf f.type):=by
   rw [←List.drop_drop,List.take_append_drop]
  rw [this]
  exact h2.append h4
theorem AA:∀(n fuel:Nat) (t:TypeId) (cs:List Value) (d:DataW H) (ps:List MemPlace),je P n t=true→DataW.trod enc P w base spare held fuel t cs=some (d,ps)→
    ∃as,Ty P n t as∧All2 (Rp (iC w) M0 w) as cs
  |0,_,t,cs,d,ps,hp,_=>by simp [je]at hp
  |_,0,t,cs,d,ps,_,h=>by simp [DataW.trod]at h
  |n+1,fuel+1,t,cs,d,ps,hp,h=>by
    unfold je at hp
    unfold Ty
    unfold DataW.trod at h
    cases hu:P.underlying t with
    |none=>rw [hu]at hp;simp at hp
    |some ty=>
      rw [hu]at hp h
      cases ty<;>simp only at hp<;>first|(simp at hp;done)|skip
      case bool=>
        rcases cs with _|⟨v,_|⟨v2,r⟩⟩<;>first|(simp at h;done)|skip
        cases v<;>first|(simp at h;done)|skip
        rename_i b
        exact⟨[.bl b],⟨b,rfl⟩,.cons (.bl b) .nil⟩
      case int k=>
        rcases cs with _|⟨v,_|⟨v2,r⟩⟩<;>first|(simp at h;done)|skip
        cases v<;>first|(simp at h;done)|skip
        rename_i k' m
        simp only [Option.ite_none_right_eq_some]at h
        obtain⟨⟨rfl,hwf⟩,h⟩:=h
        exact⟨[.int _ m],⟨m,rfl,hwf⟩,.cons (.int _ m) .nil⟩
      case string=>
        rcases cs with _|⟨v,_|⟨v2,r⟩⟩<;>first|(simp at h;done)|skip
        cases v<;>first|(simp at h;done)|skip
        rename_i s
        simp only [Option.ite_none_right_eq_some]at h
        exact⟨[.st s],⟨s,rfl,h.1⟩,.cons (.st s) .nil⟩
      case struct fs=>
        simp only [Bool.and_eq_true]at hp
        have h':(if cs.length=P.cellsOf t then(fs.toList.mapM fun f=>DataW.trod enc P w base spare held fuel f.type ((cs.drop f.offset).take (P.cellsOf f.type))).map fun xs=>(DataW.agg (xs.map (·.1)),xs.flatMap (·.2))else none)=some (d,ps):=by
          rcases cs with _|⟨v,_|⟨v2,r⟩⟩<;>first|exact h|(cases v<;>exact h)
        simp only [Option.ite_none_right_eq_some,Option.map_eq_some_iff]at h'
        obtain⟨hlen,xs,hxs,_⟩:=h'
        have hall:=rJ hxs
        obtain⟨as,h1,h2⟩:=EN (n:=n) (fuel:=fuel) (cs:=cs) (fun t us d ps hp2 h2 _=>AA n fuel t us d ps hp2 h2) fs.toList 0 (by rw [hlen];exact hp.1) hp.2
          (fun f hf=>by
            obtain⟨i,hi⟩:=List.getElem?_of_mem hf
            obtain⟨b,_,hb⟩:=hall.get i f hi
            exact⟨b,hb⟩) (Nat.zero_le _)
        exact⟨as,h1,by simpa using h2⟩
      case slice e=>
        simp only [Bool.and_eq_true,decide_eq_true_eq]at hp
        rcases cs with _|⟨v,_|⟨v2,r⟩⟩<;>first|(simp at h;done)|skip
        cases v<;>first|(simp at h;done)|skip
        rename_i A len cap
        cases A with
        | none=>
          have:len=0∧cap=0:=by
            rcases len with _|len<;>rcases cap with _|cap<;>first|exact⟨rfl,rfl⟩|(simp at h;done)
          obtain⟨rfl,rfl⟩:=this
          exact⟨[.ns],.inl rfl,.cons .ns .nil⟩
        | some a=>
          simp only [Option.ite_none_right_eq_some,Option.bind_eq_some_iff,Option.map_eq_some_iff]at h
          obtain⟨⟨hb,hlc,hcm⟩,xs,hxs,_⟩:=h
          obtain⟨hxl,hxi⟩:=(rJ hxs).range
          have hel:∀i,i<len→∃us:List Value,w.cells? base (a.add (i*P.cellsOf e)) (P.cellsOf e)=some us∧∃as,Ty P n e as∧All2 (Rp (iC w) M0 w) as us:=fun i hi=>by
            obtain⟨x,hx⟩:∃x,xs[i]? =some x:=⟨xs[i],by simp [hxl,hi]⟩
            have:=hxi i x hx
            simp only [Option.bind_eq_some_iff]at this
            obtain⟨us,hus,ht⟩:=this
            obtain⟨as,h1,h2⟩:=AA n fuel e us x.1 x.2 hp.2 ht
            exact⟨us,hus,as,h1,h2⟩
          by_cases h0:len=0
          · subst h0
            exact⟨[.ls (P.cellsOf e) []],.inr ⟨[],rfl,by simp,by simp⟩,.cons (.lsN _ a cap) .nil⟩
          have hch:∃g:Nat→List Value×List AV,∀i,i<len→w.cells? base (a.add (i*P.cellsOf e)) (P.cellsOf e)=some (g i).1∧Ty P n e (g i).2∧All2 (Rp (iC w) M0 w) (g i).2 (g i).1:=by
            refine⟨fun i=>if hi:i<len then(Classical.choose (hel i hi),Classical.choose (Classical.choose_spec (hel i hi)).2)else([],[]),fun i hi=> ?_⟩
            simp only [hi,dif_pos]
            have:=Classical.choose_spec (hel i hi)
            exact⟨this.1,(Classical.choose_spec this.2).1,(Classical.choose_spec this.2).2⟩
          obtain⟨g,hg⟩:=hch
          have hcell:∀i j (u:Value),i<len→(g i).1[j]? =some u→w.cell? ⟨a.block,a.off+i*P.cellsOf e+j,none⟩=some u:=fun i j u hi hu=>by
            have:=(lO (hg i hi).1).2 j u hu
            have hs:=(uK this).1
            have he:(a.add (i*P.cellsOf e)).add j=⟨a.block,a.off+i*P.cellsOf e+j,none⟩:=by
              unfold Addr.add at hs⊢
              by_cases h1:i*P.cellsOf e=0
              · by_cases h2:j=0
                · simp only [h1,h2,if_true]at hs⊢
                  obtain⟨x,y,z⟩:=a
                  simp only at hs;subst hs;simp
                · simp only [h1,h2,if_true,if_false]at hs⊢;simp
              · by_cases h2:j=0
                · simp only [h1,h2,if_true,if_false]at hs⊢;simp
                · simp only [h1,h2,if_false]at hs⊢
            rw [←he];exact this
          have hlen:∀i,i<len→(g i).2.length=P.cellsOf e:=fun i hi=>by
            rw [(hg i hi).2.2.length];exact(lO (hg i hi).1).1
          have hes:∀(i:Nat) (x:List AV),((List.range len).map fun i=>(g i).2)[i]? =some x→i<len∧x=(g i).2:=fun i x hx=>by
            rw [List.getElem?_map]at hx
            cases hr:(List.range len)[i]? with
            |none=>rw [hr]at hx;simp at hx
            |some k=>
              rw [hr]at hx
              have hil:=(List.getElem?_eq_some_iff.1 hr).1
              simp at hil
              rw [List.getElem?_range hil]at hr
              injection hr with hr
              subst hr
              simp at hx
              exact⟨hil,hx.symm⟩
          refine⟨[.ls (P.cellsOf e) ((List.range len).map fun i=>(g i).2)],.inr ⟨_,rfl,by simp;omega,fun x hx=> ?_⟩,.cons ?_ .nil⟩
          · obtain⟨i,hi⟩:=List.getElem?_of_mem hx
            obtain⟨hil,rfl⟩:=hes i x hi
            exact⟨hlen i hil,(hg i hil).2.1⟩
          · have hIb:iC w a.block:=by
              obtain⟨c0,hc0⟩:∃u,(g 0).1[0]? =some u:=by
                have h2:0<(g 0).1.length:=by rw [(lO (hg 0 (by omega)).1).1];exact hp.1
                exact⟨_,List.getElem?_eq_getElem h2⟩
              have:=(uK (hcell 0 0 c0 (by omega) hc0)).2
              exact this
            have hrp:=Rp.ls (I:=iC w) (M:=M0) (w:=w) (P.cellsOf e) ((List.range len).map fun i=>(g i).2) a.block a.off cap (fun i j=>((g i).1[j]?).getD undef)
              (by intro hn;have:=congrArg List.length hn;simp at this;omega) (by simpa using hlc)
              (fun x hx=>by obtain⟨i,hi⟩:=List.getElem?_of_mem hx;obtain⟨hil,rfl⟩:=hes i x hi;exact hlen i hil) hIb
              (fun i x j c hi hj=>by
                obtain⟨hil,rfl⟩:=hes i x hi
                obtain⟨u,hu,_⟩:=(hg i hil).2.2.get j c hj
                simp only [hu,Option.getD_some];exact hcell i j u hil hu)
              (fun i x j c hi hj=>by
                obtain⟨hil,rfl⟩:=hes i x hi
                obtain⟨u,hu,hr⟩:=(hg i hil).2.2.get j c hj
                simp only [hu,Option.getD_some];exact hr)
            simp only [List.length_map,List.length_range]at hrp
            have ha:a=⟨a.block,a.off,none⟩:=by
              obtain⟨c0,hc0⟩:∃u,(g 0).1[0]? =some u:=by
                have h2:0<(g 0).1.length:=by rw [(lO (hg 0 (by omega)).1).1];exact hp.1
                exact⟨_,List.getElem?_eq_getElem h2⟩
              have:=(uK ((lO (hg 0 (by omega)).1).2 0 c0 hc0)).1
              simp only [Addr.add,Nat.zero_mul,if_true]at this
              obtain⟨x,y,z⟩:=a
              simp only at this;subst this;rfl
            rw [ha];exact hrp
end
open Go.RowKit
def uL:(s:Sh)→aN s→Prop
 | .i k,n=>(Lit.int k n).wf=true
 | .b,_=>True
 | .s,s=>s.size≤9223372036854775807
 | .row e,ts=>ts.length≤9223372036854775807∧∀x∈ts,uL e x
 | .nil,_=>True
 | .cons a b,x=>uL a x.1∧uL b x.2
def Lh (f:TypeId→Option Sh):List Field→Option Sh
 | []=>some .nil
 |x::l=>match f x.type,Lh f l with
  |some s,some r=>some (.cons s r)
  |_,_=>none
def yE (P:Program):Nat→TypeId→Option Sh
 |0,_=>none
 |n+1,t=>match P.underlying t with
  |some .bool=>some .b
  |some (.int k)=>some (.i k)
  |some .string=>some .s
  |some (.slice e)=>match yE P n e with
   |some s=>if s.sz=P.cellsOf e then some (.row s)else none
   |none=>none
  |some (.struct fs)=>Lh (yE P n) fs.toList
  |_=>none
theorem Li {T:TypeId→List AV→Prop} {f:TypeId→Option Sh} (hT:∀t s cs,f t=some s→T t cs→∃x,RE s x cs∧uL s x):∀{fs:List Field} {s:Sh} {cs:List AV},Lh f fs=some s→Pa T fs cs→∃x,RE s x cs∧uL s x
 | [],s,cs,h,h2=>by simp [Lh]at h;subst h;exact⟨(),h2,trivial⟩
 |x::fs,s,cs,h,h2=>by
  simp only [Lh]at h
  split at h
  ·rename_i s1 r1 h3 h4
   simp only [Option.some.injEq]at h
   subst h
   obtain⟨a,b,rfl,h5,h6⟩:=h2
   obtain⟨x1,h7,h8⟩:=hT _ _ _ h3 h5
   obtain⟨x2,h9,h10⟩:=Li hT h4 h6
   exact⟨(x1,x2),⟨a,b,rfl,h7,h9⟩,h8,h10⟩
  ·cases h
theorem Hb {s:Sh}:∀{es:List (List AV)},(∀e∈es,∃x,RE s x e∧uL s x)→∃ts:List (aN s),All2 (RE s) ts es∧∀x∈ts,uL s x
 | [],_=>⟨[],.nil,fun x hx=>by cases hx⟩
 |e::es,h=>by
  obtain⟨x,h1,h2⟩:=h e (List.mem_cons_self ..)
  obtain⟨ts,h3,h4⟩:=Hb (es:=es) fun e he=>h e (List.mem_cons_of_mem _ he)
  refine⟨x::ts,.cons h1 h3,fun y hy=> ?_⟩
  rcases List.mem_cons.1 hy with rfl|hy
  ·exact h2
  ·exact h4 y hy
theorem Iu {P:Program}:∀(n:Nat) (t:TypeId) (s:Sh) (cs:List AV),yE P n t=some s→Ty P n t cs→∃x,RE s x cs∧uL s x
 |0,t,s,cs,h,_=>by simp [yE]at h
 |n+1,t,s,cs,h,h2=>by
  unfold yE at h
  unfold Ty at h2
  have hmax:maxLen=9223372036854775807:=by decide
  cases hu:P.underlying t with
  |none=>rw [hu]at h;simp at h
  |some ty=>
   rw [hu]at h h2
   cases ty<;>simp only at h h2<;>first|(cases h;done)|skip
   case bool=>simp only [Option.some.injEq]at h;subst h;obtain⟨b,rfl⟩:=h2;exact⟨b,rfl,trivial⟩
   case int k=>simp only [Option.some.injEq]at h;subst h;obtain⟨m,rfl,hw⟩:=h2;exact⟨m,rfl,hw⟩
   case string=>simp only [Option.some.injEq]at h;subst h;obtain⟨m,rfl,hw⟩:=h2;exact⟨m,rfl,by show m.size≤_;omega⟩
   case slice e=>
    split at h
    ·rename_i s' hs'
     simp only [Option.ite_none_right_eq_some,Option.some.injEq]at h
     obtain⟨hsz,rfl⟩:=h
     rcases h2 with rfl|⟨es,rfl,h4,h5⟩
     ·exact⟨[],⟨_,rfl,.inr ⟨rfl,.inl rfl⟩⟩,by simp,fun x hx=>by cases hx⟩
     ·obtain⟨ts,h6,h7⟩:=Hb (es:=es) fun x hx=>Iu n e s' x hs' (h5 x hx).2
      refine⟨ts,⟨_,rfl,.inl ⟨es,by rw [hsz],h6⟩⟩,?_,h7⟩
      rw [h6.length];omega
    ·cases h
   case struct fs=>exact Li (fun t s cs h1 h2=>Iu n t s cs h1 h2) h h2
def xE (P:Program) (t:TypeId):Bool:=match P.underlying t with
 |some (.struct _)=>true
 |_=>false
theorem Uj {H:Type} {enc:TypeId×Value→H} {P:Program} {W:World} {spare:Nat→Bool} {held:Bool} {n:Nat} {t:TypeId} {s:Sh} {r:Reach} {v:Value} {d:DataW H} {ps:List MemPlace} {b1 b2:Nat}
    (hp:je P n t=true) (hs:yE P n t=some s) (hok:Value.okWide P W r b1 t v) (h:DataW.Trod enc P W b2 spare held t v d ps):∃x w,RE s x (ce w)∧uL s x∧RpV (iC W) M0 W w v∧bB [w]= [(xE P t,if xE P t then s.sz else 1)]:=by
  obtain⟨fuel,h⟩:=h
  obtain⟨as,h1,h2⟩:=AA n fuel t _ d ps hp h
  obtain⟨x,h3,h4⟩:=Iu n t s as hs h1
  unfold Value.okWide at hok
  unfold xE
  have one:(∀cs,v≠ .agg cs)→(∀cs,v≠ .tuple cs)→v.cells.toList= [v]→(match P.underlying t with|some (.struct _)=>true|_=>false)=false→∃x w,RE s x (ce w)∧uL s x∧RpV (iC W) M0 W w v∧bB [w]= [((match P.underlying t with|some (.struct _)=>true|_=>false),if(match P.underlying t with|some (.struct _)=>true|_=>false)=true then s.sz else 1)]:=by
    intro ha htp hc hst
    rw [hc]at h2
    obtain⟨c,rfl,hr⟩:∃c,as= [c]∧Rp (iC W) M0 W c v:=by
      cases h2 with
      |cons h5 h6=>cases h6;exact⟨_,rfl,h5⟩
    have hca:(∀l,c≠ .ag l)∧(∀l,c≠ .tp l):=by
      constructor<;>(intro l hl;subst hl;cases hr)
    have hcw:ce c= [c]:=by cases c<;>first|rfl|exact absurd rfl (hca.1 _)
    refine⟨x,c,by rw [hcw];exact h3,h4,?_,?_⟩
    · cases c<;>first|exact hr|exact absurd rfl (hca.1 _)|exact absurd rfl (hca.2 _)
    · rw [hst]
      cases c<;>first|rfl|exact absurd rfl (hca.1 _)
  cases hu:P.underlying t with
  | none=>
    exfalso
    cases n<;>simp [hu,yE]at hs
  |some ty=>
    rw [hu]at hok one
    cases ty with
    |struct fs=>
      simp only at hok
      obtain⟨cs,rfl,_,_⟩:=hok
      refine⟨x,.ag as,h3,h4,⟨cs,rfl,h2⟩,?_⟩
      simp only [if_true]
      rw [←ij h3]
      rfl
    |bool=>simp only [Cell.okWide,Cell.ok,hu]at hok;cases v<;>simp at hok;exact one (by simp) (by simp) rfl rfl
    |int k=>simp only [Cell.okWide,Cell.ok,hu]at hok;cases v<;>simp at hok;exact one (by simp) (by simp) rfl rfl
    |string=>simp only [Cell.okWide,Cell.ok,hu]at hok;cases v<;>simp at hok;exact one (by simp) (by simp) rfl rfl
    |slice e=>simp only [Cell.okWide,Cell.ok,hu]at hok;cases v<;>simp at hok;exact one (by simp) (by simp) rfl rfl
    |_=>
      exfalso
      cases n<;>simp [hu,yE]at hs
theorem ag8 {P:Program} {f:FuncId} {F:Unit→Option (Bool×Unit)} (he:mA P f) (h:fE P f [] (.bl true)) (hF:F ()=some (true,()):=by rfl):aH P f ⟨.nil,.cons .b .nil,[],[(false,1)],[],F⟩:=by
 intro as x y h1 h2 h3
 have has:as= []:=by
  cases as with
  |nil=>rfl
  |cons a l=>cases a<;>simp [bB]at h1
 subst has
 refine⟨he,_,h,fun ρ pr k r hk=> ?_⟩
 have h3:F ()=some y:=h3
 rw [hF]at h3
 injection h3 with h3
 subst h3
 exact⟨.a (.bl true),⟨⟨rfl,rfl⟩,rfl⟩,hk⟩
theorem NF {P:Program} {f:FuncId} {c:Ctr} (hc:aH P f c) (ht:c.t= .cons .b .nil) (hrs:c.rs= [(false,1)]) (hown:c.own= []) {as:List AV} {x:aN c.s} {y:aN c.t} (h1:bB as=c.as) (h2:RE c.s x (as.flatMap ce)) (h3:c.F x=some y)
  (hy:(ht▸y:aN (.cons .b .nil)).1=true) (W:World) (vals:Array Value) (ha:All2 (RpV (iC W) M0 W) as vals.toList):Calls P f vals W fun e W'=>e= .returned (.bool true)∧Below W.heap.size W W':=by
 obtain⟨_,w,hw,hr⟩:=hc as x y h1 h2 h3
 obtain⟨s,t,gs,rs,own,F⟩:=c
 simp only at ht hrs hown
 subst ht hrs hown
 simp only at hy
 obtain⟨y1,y2⟩:=y
 simp only at hy
 subst hy
 obtain⟨v,hv,hk⟩:=hr SV [] (fun v=>some v) (.a (.bl true)) rfl
 injection hk with hk
 subst hk
 have hw2:w= .bl true:=hv.1.1.symm
 subst hw2
 refine(hw (iC W) W vals (fun _ h=>h) ha).mono fun e W' he=> ?_
 cases e with
 |returned v=>
  obtain⟨I',h1,h2,h3,h4,h5,h6,h7,h8,_⟩:=he
  obtain⟨Mn,_,_,_,hr⟩:=h8 0
  have hr':Rp I' Mn W' (.bl true) v:=hr
  cases hr'
  exact⟨rfl,h1,h2,h3,h4,h5⟩
 |panicked c=>exact he.elim
 |outgrown=>exact he.elim
end Go.Am
