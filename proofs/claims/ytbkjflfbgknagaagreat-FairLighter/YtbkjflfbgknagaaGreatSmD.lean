import Derived.Test.YtbkjflfbgknagaaGreatSmC
import GoSem.ClaimChange
import Derived.WalkKit
set_option linter.constructorNameAsVariable false
set_option linter.unusedVariables false
set_option linter.unusedSimpArgs false
namespace Go.Am
def Evt (p:Nat→Prop):Prop:=∃m,∀K,m≤K→p K
theorem Evt.of {p:Nat→Prop} (h:∀K,p K):Evt p:=⟨0,fun K _=>h K⟩
theorem Evt.and {p q:Nat→Prop} (h1:Evt p) (h2:Evt q):Evt fun K=>p K∧q K:=by
 obtain⟨m,h1⟩:=h1
 obtain⟨n,h2⟩:=h2
 exact⟨m+n,fun K hK=>⟨h1 K (by omega),h2 K (by omega)⟩⟩
theorem Evt.mono {p q:Nat→Prop} (h1:Evt p) (h:∀K,p K→q K):Evt q:=by
 obtain⟨m,h1⟩:=h1
 exact⟨m,fun K hK=>h K (h1 K hK)⟩
theorem Evt.and2 {p q s:Nat→Prop} (h1:Evt p) (h2:Evt q) (h:∀K,p K→q K→s K):Evt s:=(h1.and h2).mono fun K hK=>h K hK.1 hK.2
theorem Evt.succ {p:Nat→Prop} (h1:Evt p):Evt fun K=>∃j,K=j+1∧p j:=by
 obtain⟨m,h1⟩:=h1
 exact⟨m+1,fun K hK=>⟨K-1,by omega,h1 _ (by omega)⟩⟩
def bY:AV→List AV
 | .ag cs=>cs
 |v=>[v]
def bz:List AV→List (Bool×Nat)
 | []=>[]
 | .ag cs::l=>(true,cs.length)::bz l
 |_::l=>(false,1)::bz l
def Nw (v:SV) (w:AV):Prop:=RV v w∧cF v=false
def RR (c:Ctr) (y:aG c.t) (w:AV):Prop:=∀(ρ:Type) (pr:List (Nat×Bool)) (k:SV→Option ρ) (r:ρ),LF (aA ρ) pr c y k=some r→∃v,Nw v w∧k v=some r
def cg:CC→List (List Nat×CC)
 | .sq a b=>cg a++cg b
 | .cd _ a b=>cg a++cg b
 | .bk _ b=>cg b
 | .lp live b=>(live,b)::cg b
 |_=>[]
def Hb (g:Cfg) (L:Lps) (live:List Nat) (b:CC):Prop:=
 fW≤eC live∧∀x y,L.L x=some y→∀S',RS (vc L.ps x) S'→∀(ρ:Type) (k:KS ρ) (r:ρ),gU L.os y (aA ρ).sm k=some r→
  ∃ex S1 S1',k ex S1=some r∧RS S1 S1'∧Evt fun K=>∀S'',dD live S''=S'→bE g (da g K) (.lp live b) S''=some (ex,S1')
def iw (T:Tbl) (g:Cfg) (c:CC):Prop:=∀p∈cg c,∀L,T.lp (eC p.1)=some L→Hb g L p.1 p.2
structure TG (T:Tbl) (g:Cfg):Prop where
 inl:∀f,g.inl f=((T.ct f).isNone && !T.hint.pf.contains f)
 noe:∀f as,T.ct f=none→g.ext f as=none
 code:∀f c,T.code f=some c→g.code f=some c
 kl:∀f,g.kl f=T.hint.kl.contains f
 ext:∀f c (as:List AV) x y,T.ct f=some c→bz as=c.as→RE c.s x (as.flatMap bY)→c.F x=some y→∃w,g.ext f as=some w∧RR c y w
 lps:∀f c,T.code f=some c→iw T g c.code
 noc:∀f,T.code f=none→g.code f=none
 row:∀f w,T.st f=some w→∀(h:List (Nat×BK)) nx b t ts es ts',aN h b= .rw false w.s.sz es t→All2 (RE w.s) ts es→w.F ts=some ts'→
  ∃es',All2 (RE w.s) ts' es'∧g.wr f [.sl w.s.sz b 0 es.length,.fn w.c []] h nx=some ⟨.tp [],put h b (.rw false w.s.sz es' t),nx⟩
 nor:∀f w,T.st f=some w→∀(h:List (Nat×BK)) nx,g.wr f [.ns,.fn w.c []] h nx=some ⟨.tp [],h,nx⟩
section
variable {ρ:Type} {r:ρ} {h:bJ} {h':List (Nat×BK)} {tm:SM} {tm':List (Nat×AV)} {nx:Nat} {g:Cfg} {T:Tbl} {S:SS} {S':St}
theorem AM {v:SV} {w:AV} (hv:RW v w):All2 RC (lh v) (bY w):=by
 rcases eI hv with⟨cs,ws,rfl,rfl,h⟩|h
 ·exact h
 ·have h2:=db h
  have:bY w= [w]:=by cases w<;>first|rfl|exact absurd rfl (h2.1 _)
  rw [this]
  cases v<;>first|exact .cons h .nil|exact h.elim
theorem vj {v:SV} {w:AV} (hv:RW v w):∀l,w≠ .tp l:=by
 rcases eI hv with⟨cs,ws,rfl,rfl,h⟩|h
 ·intro l hl;cases hl
 ·exact(db h).2
theorem SG {v:SV} {w:AV} (hv:RW v w):cF v=false:=by
 cases v<;>first|rfl|exact hv.elim
theorem Hc {cs:List SV} {ws:List AV} {n:Option Nat} {v:SV} (hc:All2 RC cs ws) (h:dT cs n=some v):∃w,hG ws n=some w∧RW v w:=by
 cases n with
 |some n=>simp [dT]at h;subst h;exact⟨_,rfl,⟨ws,rfl,hc⟩⟩
 |none=>
  unfold dT at h
  simp only at h
  split at h
  ·simp at h;subst h
   obtain⟨w,rfl,hw⟩:=hc.one
   exact⟨w,rfl,hw.toW⟩
  ·cases h
theorem Jv {n:Option Nat} {v:SV} {w:AV} {ws:List AV} {cs:List SV} (hc:All2 RC cs ws) (hw:dq h' (n.getD 1) w=some ws) (hv:dT cs n=some v):∃u,er h' n w=some u∧RW v u:=by
 obtain⟨u,hu,hr⟩:=Hc hc hv
 refine⟨u,?_,hr⟩
 cases n with
 |some n=>simp only [Option.getD_some]at hw;simp [hG]at hu;subst hu;simp [er,hw]
 |none=>
  simp only [Option.getD_none]at hw
  simp only [er,hw]
  unfold hG at hu
  simp only at hu
  split at hu
  ·simp at hu;subst hu;rfl
  ·cases hu
theorem qc:∀{vs:List SV} {ws:List AV},All2 RW vs ws→iO vs=bz ws
 | [],_,h=>by cases h;rfl
 |v::vs,_,h=>by
  cases h with
  | @cons _ w _ ws h1 h2=>
   rcases eI h1 with⟨cs,us,rfl,rfl,h⟩|h
   ·simp only [iO,bz,h.length,qc h2]
   ·have h3:=(db h).1
    have e1:iO (v::vs)=(false,1)::iO vs:=by cases v<;>first|rfl|exact h.elim
    have e2:bz (w::ws)=(false,1)::bz ws:=by cases w<;>first|rfl|exact absurd rfl (h3 _)
    rw [e1,e2,qc h2]
theorem gX (hs:RS S S'):∀{rs:List CR} {k:List SV→Option ρ},dH (aA ρ) S rs k=some r→∃vs ws,results S' rs=some ws∧All2 RW vs ws∧k vs=some r
 | [],k,hk=>⟨[],[],rfl,.nil,hk⟩
 | .tm t::rs,k,hk=>by
  rw [dH]at hk
  have ht:=hs.tm t
  have main:RW (bu S.tm t) (look .ud S'.tm t)→dH (aA ρ) S rs (fun l=>k (bu S.tm t::l))=some r→∃vs ws,results S' (.tm t::rs)=some ws∧All2 RW vs ws∧k vs=some r:=fun hw hk=>by
   obtain⟨vs,ws,h1,h2,h3⟩:=gX hs hk
   refine⟨_,_,?_,.cons hw h2,h3⟩
   have:=vj hw
   simp only [results]
   rw [h1];rfl
  split at hk
  ·cases hk
  ·cases hk
  ·rename_i hn1 hn2
   refine main ?_ hk
   rcases jG ht with h|⟨cs,ws,h,_⟩|h
   ·exact absurd h hn2
   ·exact absurd h (hn1 cs)
   ·exact h
 | .cl t n::rs,k,hk=>by
  rw [dH]at hk
  obtain⟨cs,ws,h1,h2,h3⟩:=vG hs.h (hs.tm t) hk
  split at h3
  ·rename_i v hv
   obtain⟨u,h4,h5⟩:=Jv h2 h1 hv
   obtain⟨vs,ws',h6,h7,h8⟩:=gX hs h3
   exact⟨_,_,by simp only [results,h4,h6],.cons h5 h7,h8⟩
  ·cases h3
theorem wo {vs:List SV} {ws:List AV} (h:All2 RW vs ws):Nw (vd vs) (fh ws):=by
 cases h with
 |nil=>exact⟨⟨[],rfl,.nil⟩,rfl⟩
 |cons h1 h2=>cases h2 with
  |nil=>exact⟨h1.toV,SG h1⟩
  |cons h2 h3=>exact⟨⟨_,rfl,.cons h1 (.cons h2 h3)⟩,rfl⟩
theorem FA {v:SV} {w:AV} (hv:RC v w) (n:Nat):RC (zb n v).1 (cR n w).1∧RH (zb n v).2.1 (cR n w).2.1∧(zb n v).2.2=(cR n w).2.2:=by
  cases v with
  |a u=>
    obtain⟨rfl,hc⟩:=hv
    have:cR n u=(u,[],n):=by cases u<;>first|rfl|(simp [lf]at hc)
    rw [this]
    exact⟨⟨rfl,hc⟩,.nil,rfl⟩
  | ls s ts=>
    have:cR n w=(w,[],n):=by rcases hv with⟨es,rfl,_⟩|⟨_,rfl|rfl⟩<;>rfl
    rw [this]
    exact⟨hv,.nil,rfl⟩
  |ri s ts i off=>obtain⟨es,rfl,h⟩:=hv;exact⟨⟨es,rfl,h⟩,.nil,rfl⟩
  |ow s ts=>
    obtain⟨es,rfl,h⟩:=hv
    exact⟨⟨by show AV.sl _ _ _ _=AV.sl s.sz n 0 es.length;rw [h.length],rfl⟩,.cons ⟨rfl,es,rfl,h⟩ .nil,rfl⟩
  |nz=>
    have:cR n w=(w,[],n):=by rcases hv with rfl|rfl<;>rfl
    rw [this]
    exact⟨hv,.nil,rfl⟩
  |_=>exact hv.elim
theorem Dj:∀{vs:List SV} {ws:List AV},All2 RC vs ws→∀n,All2 RC (ve n vs).1 (iC n ws).1∧RH (ve n vs).2.1 (iC n ws).2.1∧(ve n vs).2.2=(iC n ws).2.2
 | [],_,h,n=>by cases h;exact⟨.nil,.nil,rfl⟩
 |v::vs,_,h,n=>by
  cases h with
  |cons h1 h2=>
   obtain⟨a1,a2,a3⟩:=FA h1 n
   simp only [ve,iC]
   rw [a3]
   obtain⟨b1,b2,b3⟩:=Dj h2 (cR n _).2.2
   exact⟨.cons a1 b1,tB a2 b2,b3⟩
theorem FB {v:SV} {w:AV} (hv:RW v w) (n:Nat):RW (wj n v).1 (dO n w).1∧RH (wj n v).2.1 (dO n w).2.1∧(wj n v).2.2=(dO n w).2.2:=by
 rcases eI hv with⟨cs,ws,rfl,rfl,h⟩|h
 ·obtain⟨a1,a2,a3⟩:=Dj h n
  exact⟨⟨_,rfl,a1⟩,a2,a3⟩
 ·have hw:dO n w=cR n w:=by
   have:=(db h).1
   cases w<;>first|rfl|exact absurd rfl (this _)
  have hv':wj n v=zb n v:=by cases v<;>first|rfl|exact h.elim
  rw [hw,hv']
  obtain⟨a1,a2,a3⟩:=FA h n
  exact⟨a1.toW,a2,a3⟩
theorem Dk:∀{vs:List SV} {ws:List AV},All2 RW vs ws→∀n,All2 RW (vf n vs).1 (dG n ws).1∧RH (vf n vs).2.1 (dG n ws).2.1∧(vf n vs).2.2=(dG n ws).2.2
 | [],_,h,n=>by cases h;exact⟨.nil,.nil,rfl⟩
 |v::vs,_,h,n=>by
  cases h with
  |cons h1 h2=>
   obtain⟨a1,a2,a3⟩:=FB h1 n
   simp only [vf,dG]
   rw [a3]
   obtain⟨b1,b2,b3⟩:=Dk h2 (dO n _).2.2
   exact⟨.cons a1 b1,tB a2 b2,b3⟩
theorem QN {v:SV} {w:AV} (hv:Nw v w) (n:Nat):RV (CW n v).1 (dC n w).1∧RH (CW n v).2.1 (dC n w).2.1∧(CW n v).2.2=(dC n w).2.2:=by
 obtain⟨hv,hu⟩:=hv
 rcases jG hv with rfl|⟨cs,ws,rfl,rfl,h⟩|h
 ·simp [cF]at hu
 ·obtain⟨a1,a2,a3⟩:=Dk h n
  exact⟨⟨_,rfl,a1⟩,a2,a3⟩
 ·have hw:dC n w=dO n w:=by
   have:=vj h
   cases w<;>first|rfl|exact absurd rfl (this _)
  have hv':CW n v=wj n v:=by cases v<;>first|rfl|exact h.elim
  rw [hw,hv']
  obtain⟨a1,a2,a3⟩:=FB h n
  exact⟨a1.toV,a2,a3⟩
theorem FC {v:SV} {w:AV} (hv:RC v w) (h:tw v=true):qD (fun _=>false) w=true:=by
 cases v with
 |a u=>obtain⟨rfl,_⟩:=hv;exact h
 |ls s ts=>rcases hv with⟨es,rfl,_⟩|⟨_,rfl|rfl⟩<;>rfl
 |ri s ts i off=>obtain⟨es,rfl,_⟩:=hv;rfl
 |nz=>rcases hv with rfl|rfl<;>rfl
 |_=>simp [tw]at h
theorem QO {vs:List SV} {ws:List AV} (hv:All2 RC vs ws) (h:vs.all tw=true):ws.all (qD fun _=>false)=true:=by
 induction hv with
 |nil=>rfl
 |cons h1 _ ih=>
  simp only [List.all_cons,Bool.and_eq_true]at h⊢
  exact⟨FC h1 h.1,ih h.2⟩
theorem QP {v:SV} {w:AV} (hv:RV v w) (h:CY v=true):Ch (fun _=>false) w=true:=by
 rcases jG hv with rfl|⟨cs,ws,rfl,rfl,h1⟩|h1
 ·simp [CY,tw]at h
 ·simp [CY,tw]at h
 ·rcases eI h1 with⟨cs,ws,rfl,rfl,h2⟩|h2
  ·exact QO h2 h
  ·have h3:tw v=true:=by cases v<;>first|exact h|exact h2.elim
   have h4:=FC h2 h3
   have:=(db h2).1
   cases w<;>first|exact h4|exact absurd rfl (this _)
theorem QQ {vs:List SV} {ws:List AV} (hv:All2 RV vs ws) (h:vs.all CY=true):ws.all (Ch fun _=>false)=true:=by
 induction hv with
 |nil=>rfl
 |cons h1 _ ih=>
  simp only [List.all_cons,Bool.and_eq_true]at h⊢
  exact⟨QP h1 h.1,ih h.2⟩
def fY:AV→Bool
 | .int .. | .bl _| .st _=>true
 |_=>false
theorem zg:∀{s:Sh} {x:aG s} {cs:List AV},bS s=true→RE s x cs→cs.all (fun| .int .. | .bl _| .st _=>true|_=>false)=true
 | .i _,_,_,_,h=>by cases h;rfl
 | .b,_,_,_,h=>by cases h;rfl
 | .s,_,_,_,h=>by cases h;rfl
 | .row _,_,_,hs,_=>by simp [bS]at hs
 | .nil,_,_,_,h=>by cases h;rfl
 | .cons a b,_,_,hs,h=>by
  simp only [bS,Bool.and_eq_true]at hs
  obtain⟨c1,c2,rfl,h1,h2⟩:=h
  rw [List.all_append,zg hs.1 h1,zg hs.2 h2]
  rfl
theorem AN {v:SV} {w:AV} (hv:RC v w) (h:mD v=true):dB w=true:=by
 cases v with
 |a u=>obtain⟨rfl,_⟩:=hv;exact h
 |ow s ts=>
  obtain⟨es,rfl,h1⟩:=hv
  simp only [mD]at h
  simp only [dB]
  induction h1 with
  |nil=>rfl
  |cons h2 _ ih=>simp only [List.all_cons,Bool.and_eq_true];exact⟨zg h h2,ih⟩
 |nz=>rcases hv with rfl|rfl<;>rfl
 |_=>simp [mD]at h
theorem Jw {vs:List SV} {ws:List AV} (hv:All2 RC vs ws) (h:vs.all mD=true):ws.all dB=true:=by
 induction hv with
 |nil=>rfl
 |cons h1 _ ih=>
  simp only [List.all_cons,Bool.and_eq_true]at h⊢
  exact⟨AN h1 h.1,ih h.2⟩
def flW:AV→Bool
 | .ag cs=>cs.all dB
 |v=>dB v
theorem AO {v:SV} {w:AV} (hv:RW v w) (h:xp v=true):flW w=true:=by
 rcases eI hv with⟨cs,ws,rfl,rfl,h2⟩|h2
 ·exact Jw h2 h
 ·have h3:mD v=true:=by cases v<;>first|exact h|exact h2.elim
  have h4:=AN h2 h3
  have:=(db h2).1
  cases w<;>first|exact h4|exact absurd rfl (this _)
theorem Jx {v:SV} {w:AV} (hv:Nw v w) (h:CX v=true):wQ w=true:=by
 obtain⟨hv,hu⟩:=hv
 rcases jG hv with rfl|⟨cs,ws,rfl,rfl,h1⟩|h1
 ·simp [cF]at hu
 ·simp only [CX]at h
  show ws.all flW=true
  clear hv hu
  induction h1 with
  |nil=>rfl
  |cons h3 _ ih=>
   simp only [List.all_cons,Bool.and_eq_true]at h⊢
   exact⟨AO h3 h.1,ih h.2⟩
 ·have h3:xp v=true:=by cases v<;>first|exact h|exact h1.elim
  have h4:=AO h1 h3
  have:=vj h1
  cases w<;>first|exact h4|exact absurd rfl (this _)
end
section
variable {ρ:Type} {r:ρ} {h:bJ} {h':List (Nat×BK)} {tm:SM} {tm':List (Nat×AV)} {nx:Nat} {g:Cfg} {T:Tbl} {S:SS} {S':St}
def bH (g:Cfg) (c:CC) (S':St) (k:KS ρ) (r:ρ):Prop:=∃ex S1 S1',k ex S1=some r∧RS S1 S1'∧Evt fun K=>da g K c S'=some (ex,S1')
def tF (T:Tbl) (g:Cfg) (ρ:Type) (run:CC→SS→KS ρ→Option ρ):Prop:=∀c S k r S',run c S k=some r→RS S S'→iw T g c→bH g c S' k r
def OkE (g:Cfg) (tm':List (Nat×AV)) (h':List (Nat×BK)) (nx:Nat) (op:COp) (k:KV ρ) (r:ρ):Prop:=
 ∃rf v h1 nx1 w h1',k rf v h1 nx1=some r∧(Evt fun K=>Ck g (da g K) tm' h' nx op=some ⟨w,h1',nx1⟩)∧RV v w∧RH h1 h1'∧RF tm' rf
variable {run:CC→SS→KS ρ→Option ρ}
theorem nT:∀{as:List SV} {ws:List AV},All2 RV as ws→∀(i t:Nat),RV (bu (iN as i) t) (look .ud (fj ws i) t)
 | [],_,h,i,t=>by cases h;exact⟨rfl,rfl⟩
 |a::as,_,h,i,t=>by
  cases h with
  |cons h1 h2=>
   simp only [iN,fj,bu,look]
   split
   ·exact h1
   ·split
    ·trivial
    ·exact nT h2 (i+1) t
theorem nU:∀(ws:List AV) (i t:Nat),i+ws.length≤t→look .ud (fj ws i) t= .ud
 | [],_,_,_=>rfl
 |w::ws,i,t,h=>by
  simp only [List.length_cons]at h
  simp only [fj,look]
  rw [if_neg (by omega)]
  exact nU ws (i+1) t (by omega)
theorem Jy (hg:TG T g) (hh:RH h h') {f:FuncId} {wt:Wrt} (hst:T.st f=some wt) {args:List SV} {as:List AV} {k:KV ρ} (ha:All2 RV args as) (hk:CZ (aA ρ) wt args h nx k=some r):
  ∃v h1 nx1 w h1',k [] v h1 nx1=some r∧g.wr f as h' nx=some ⟨w,h1',nx1⟩∧RV v w∧RH h1 h1':=by
 unfold CZ at hk
 split at hk
 ·rename_i sz b lo len c caps
  cases ha with
  |cons a1 a2=>
  cases a2 with
  |cons a2 a3=>
  cases a3
  have e1:=a1.1
  have e2:=a2.1
  split at hk
  ·rename_i s ts t hb
   split at hk
   ·rename_i e
    subst e
    split at hk
    ·rename_i hc
     obtain⟨rfl,rfl,rfl,hcaps⟩:=hc
     have hc2:caps= []:=by simpa using hcaps
     subst hc2
     have hk:(bif decide (len=ts.length)then((wt.F ts).bind fun ts'=>k [] (.tp []) (fp h b (.row wt.s ts' t)) nx)else none)=some r:=hk
     by_cases hl:len=ts.length
     ·rw [decide_eq_true hl]at hk
      simp only [cond_true]at hk
      cases hF:wt.F ts with
      |none=>rw [hF]at hk;cases hk
      |some ts'=>
       rw [hF]at hk
       simp only [Option.bind_some]at hk
       have hbb:=cW hh b
       rw [hb]at hbb
       obtain⟨es,hes,hts⟩:=hbb
       obtain⟨es',h1,h2⟩:=hg.row f wt hst h' nx b t ts es ts' hes hts hF
       have hrb:RB (.row wt.s ts' t) (.rw false wt.s.sz es' t):=⟨es',rfl,h1⟩
       refine⟨_,_,_,.tp [],put h' b (.rw false wt.s.sz es' t),hk,?_,⟨[],rfl,All2.nil⟩,dV hh hrb b⟩
       rw [←h2,←e1,←e2,hl,hts.length]
     ·rw [decide_eq_false hl]at hk;cases hk
    ·cases hk
   ·cases hk
  ·cases hk
 ·rename_i c caps
  cases ha with
  |cons a1 a2=>
  cases a2 with
  |cons a2 a3=>
  cases a3
  have e1:=a1.1
  have e2:=a2.1
  split at hk
  ·rename_i hc
   obtain⟨rfl,hcaps⟩:=hc
   have hc2:caps= []:=by simpa using hcaps
   subst hc2
   refine⟨_,_,_,.tp [],h',hk,?_,⟨[],rfl,All2.nil⟩,hh⟩
   rw [←hg.nor f wt hst h' nx,←e1,←e2]
  ·cases hk
 ·cases hk
theorem SH {ρ:Type} {r:ρ} {kd:IntKind} {n:Int} {k:SV→Option ρ} (h:cZ n (k (.a (.int kd (.ofNat 0)))) (fun j=>k (.a (.int kd (.ofNat (j+1)))))=some r):k (.a (.int kd n))=some r:=by
 cases n with
 |ofNat m=>cases m with
  |zero=>exact h
  |succ m=>exact h
 |negSucc m=>cases h
theorem Jz {ρ:Type} {r:ρ} {v:SV} {k:SV→Option ρ} (h:Np (aA ρ) v k=some r):k v=some r:=by
 unfold Np at h
 split at h
 ·exact SH h
 ·exact h
theorem Dl {ρ:Type} {r:ρ} {is:List Nat}:∀{vs:List SV} {i:Nat} {k:List SV→Option ρ},Ft (aA ρ) is vs i k=some r→k vs=some r
 | [],_,_,h=>h
 |v::vs,i,k,h=>by
  unfold Ft at h
  split at h
  ·exact Dl (k:=fun l=>k (v::l)) (Jz (k:=fun v=>Ft (aA ρ) is vs (i+1) fun l=>k (v::l)) h)
  ·exact Dl (k:=fun l=>k (v::l)) h
theorem JA {ρ:Type} {r:ρ} {is:Option (List Nat)} {v:SV} {k:SV→Option ρ} (h:Nq (aA ρ) is v k=some r):k v=some r:=by
 unfold Nq at h
 split at h
 ·exact h
 ·split at h
  ·exact Dl (k:=fun l=>k (.tp l)) h
  ·exact Jz h
theorem xx {args:List SV} {as:List AV} (ha:All2 RV args as) (hu:(args.all fun v=> !cF v)=true):args.flatMap dy=as.flatMap bM:=by
 induction ha with
 |nil=>rfl
 |cons h1 _ ih=>
  simp only [List.all_cons,Bool.and_eq_true,Bool.not_eq_true']at hu
  simp only [List.flatMap_cons]
  rw [jH h1 hu.1,ih hu.2]
theorem JB {h:bJ} {h':List (Nat×BK)} (hh:RH h h') {l:List Nat} (hr:l.all (Da h)=true):l.all (wP h')=true:=by
 rw [List.all_eq_true]at hr⊢
 intro b hb
 have h1:=hr b hb
 have h2:=cW hh b
 unfold Da at h1
 unfold wP
 split at h1
 ·rename_i s ts t hk
  rw [hk]at h2
  obtain⟨es,h3,_⟩:=h2
  rw [h3]
 ·cases h1
theorem LN {v:SV} {w:AV} (hv:RV v w) (h:xq v=true):v= .a w∧fY w=true:=by
 unfold xq at h
 split at h
 ·exact⟨congrArg SV.a hv.1,by rw [←hv.1];rfl⟩
 ·exact⟨congrArg SV.a hv.1,by rw [←hv.1];rfl⟩
 ·exact⟨congrArg SV.a hv.1,by rw [←hv.1];rfl⟩
 ·cases h
theorem LO {vs:List SV} {ws:List AV} (hv:All2 RV vs ws) (h:vs.all xq=true):ws.all fY=true:=by
 induction hv with
 |nil=>rfl
 |cons h1 _ ih=>
  simp only [List.all_cons,Bool.and_eq_true]at h⊢
  exact⟨(LN h1 h.1).2,ih h.2⟩
theorem tG {own:List Nat}:∀{ws:List AV} (i:Nat),ws.all fY=true→dK own i ws= []
 | [],_,_=>rfl
 |w::ws,i,h=>by
  simp only [List.all_cons,Bool.and_eq_true]at h
  have h1:pE own i w= []:=by cases w<;>first|rfl|(simp [fY]at h)
  rw [dK,h1,tG _ h.2];rfl
theorem wq {h hk:List (Nat×BK)} {own:List Nat}:∀{ws:List AV} (i:Nat),ws.all fY=true→eu h hk own i ws=some ws
 | [],_,_=>rfl
 |w::ws,i,hw=>by
  simp only [List.all_cons,Bool.and_eq_true]at hw
  have h1:mq h hk own i w=some w:=by cases w<;>first|rfl|(simp [fY]at hw)
  rw [eu,h1,wq _ hw.2]
theorem JC {ws:List AV} (h:ws.all fY=true):wQ (fh ws)=true:=by
  have one:∀w:AV,fY w=true→(match w with| .ag cs=>cs.all dB|v=>dB v)=true:=fun w hw=>by cases w<;>first|rfl|(simp [fY]at hw)
  match ws,h with
  | [],_=>rfl
  | [w],h=>
    simp only [List.all_cons,List.all_nil,Bool.and_true]at h
    cases w<;>first|rfl|(simp [fY]at h)
  | a::b::l,h=>
    show(a::b::l).all (fun| .ag cs=>cs.all dB|v=>dB v)=true
    rw [List.all_eq_true]at h⊢
    exact fun w hw=>one w (h w hw)
theorem AP:∀{ws:List AV} (n:Nat),ws.all fY=true→dG n ws=(ws,[],n)
 | [],_,_=>rfl
 |w::ws,n,h=>by
  simp only [List.all_cons,Bool.and_eq_true]at h
  have h1:dO n w=(w,[],n):=by cases w<;>first|rfl|(simp [fY]at h)
  rw [dG,h1]
  simp only [AP n h.2,List.append_nil]
theorem LP {ws:List AV} (n:Nat) (h:ws.all fY=true):dC n (fh ws)=(fh ws,[],n):=by
  match ws,h with
  | [],_=>rfl
  | [w],h=>
    simp only [List.all_cons,List.all_nil,Bool.and_true]at h
    cases w<;>first|rfl|(simp [fY]at h)
  | a::b::l,h=>
    show(AV.tp (dG n (a::b::l)).1,(dG n (a::b::l)).2)=_
    rw [AP n h];rfl
theorem JD {ρ:Type} {r:ρ} {h:bJ} {h':List (Nat×BK)} {T:Tbl} (hh:RH h h') {v:SV} {w:AV} {k:SV→Option ρ} (hv:RV v w) (hk:Db (aA ρ) T h v k=some r):∃v1 w1,lR h' w=some w1∧RW v1 w1∧k v1=some r:=by
 unfold Db at hk
 split at hk
 ·rename_i sz b i off
  have hw:w= .re sz b i off:=hv.1.symm
  subst hw
  split at hk
  ·rename_i sz' cs t hb
   split at hk
   ·rename_i s hs
    split at hk
    ·rename_i hsz
     obtain⟨ws,hbb,hcs⟩:=by have:=cW hh b;rw [hb]at this;exact this
     obtain⟨l,l',h1,h2,h3⟩:=gh (R:=RC) (R':=RC) (f':=bL h') (fun v w k h1 h2=>by
      obtain⟨v1,w1,g1,g2,g3⟩:=ll hh h1 h2
      exact⟨v1,w1,g1,g2,g3⟩) hcs hk
     split at h3
     ·rename_i d hd
      refine⟨_,.ri sz [l'] i off,?_,?_,h3⟩
      ·show iA h' (.re sz b i off)=_
       rw [iA,hbb]
       simp only
       rw [if_pos hsz.1,h1];rfl
      ·refine⟨[l'],by rw [hsz.2],.cons (eE hd h2) .nil⟩
     ·cases h3
    ·cases hk
   ·cases hk
  ·cases hk
 ·exact AK hh hv hk
theorem SI {ρ:Type} {r:ρ} {h:bJ} {h':List (Nat×BK)} {nx:Nat} {g:Cfg} {T:Tbl} {run:CC→SS→KS ρ→Option ρ} (hg:TG T g) (hr:tF T g ρ run) (hh:RH h h') {f:FuncId} {c:CF} (hc:T.ct f=none) (hpf:T.hint.pf.contains f=true) (hcode:T.code f=some c) {args:List SV} {as:List AV} {k:KV ρ} (ha:All2 RV args as) (hk:Sw (aA ρ) T run f c args h nx k=some r):
  ∃v h1 nx1 w h1',k [] v h1 nx1=some r∧(Evt fun K=>iF g (da g K) f as h' nx=some ⟨w,h1',nx1⟩)∧RV v w∧RH h1 h1':=by
 unfold Sw at hk
 split at hk
 ·cases hk
 rename_i hn
 have hkl:g.kl f=false:=by rw [hg.kl];simpa using fun h=>hn (.inr (.inr h))
 have hinl:g.inl f=false:=by rw [hg.inl,hpf];simp
 obtain⟨l,l',h1,h2,h3⟩:=gh (R:=RV) (R':=RW) (f':=lR h') (fun v w k h1 h2=>JD hh h1 h2) ha hk
 have hlen:l'.length=args.length:=((dx h1).length.symm).trans ha.length.symm
 have h2':All2 RV l l':=h2.mono fun _ _ h=>h.toV
 have hs:RS {tm:=iN l,h:=[],nx:=0,bs:=0} {tm:=fj l',h:=[],nx:=0,bs:=0}:=
  ⟨fun t=>nT h2' 0 t,fun t ht=>nU _ 0 t (by have:=hn;omega),.nil,rfl,rfl⟩
 obtain⟨ex,S1,S1',g1,g2,g3⟩:=hr _ _ _ _ _ h3 hs (hg.lps f c hcode)
 have hfin:dH (aA ρ) S1 c.res (fun vs=>if vs.all xq then k [] (vd vs) h nx else none)=some r∧(ex= .nm∨ex= .rt):=by
  cases ex with
  |nm=>exact⟨g1,.inl rfl⟩
  |rt=>exact⟨g1,.inr rfl⟩
  |xt i=>cases g1
 obtain⟨vs,ws,h4,h5,h6⟩:=gX g2 hfin.1
 split at h6
 ·rename_i hsc
  have hsa:=LO (h5.mono fun _ _ h=>h.toV) hsc
  refine⟨_,_,_,fh ws,h',h6,g3.mono fun K hK=> ?_,(wo h5).1,hh⟩
  unfold iF
  rw [if_neg (by rw [hinl];simp)]
  simp only [h1]
  have hcp:lS g (da g K) f l'=some (fh ws):=by
   unfold lS
   rw [hg.noe f l' hc]
   simp only [hg.code f c hcode]
   rw [if_neg (by omega),hK]
   rcases hfin.2 with rfl|rfl
   ·simp only [h4,tG 0 hsa,wq 0 hsa];rfl
   ·simp only [h4,tG 0 hsa,wq 0 hsa];rfl
  simp only [hcp]
  rw [if_neg (by rw [hkl];simp),if_pos (by rw [JC hsa,Bool.or_true]),LP nx hsa]
  rfl
 ·cases h6
theorem Dm (hg:TG T g) (hr:tF T g ρ run) (hh:RH h h') {f:FuncId} {args:List SV} {as:List AV} {k:KV ρ} (ha:All2 RV args as) (hk:Bw (aA ρ) T run f args h nx k=some r):
  ∃v h1 nx1 w h1',k [] v h1 nx1=some r∧(Evt fun K=>iF g (da g K) f as h' nx=some ⟨w,h1',nx1⟩)∧RV v w∧RH h1 h1':=by
 unfold Bw at hk
 split at hk
 ·rename_i c hc
  have hinl:g.inl f=false:=by rw [hg.inl,hc];rfl
  obtain⟨l,l',h1,h2,h3⟩:=gh (R:=RV) (R':=RW) (f':=lR h') (fun v w k h1 h2=>AK hh h1 h2) ha hk
  split at h3
  ·cases h3
  rename_i hshape
  have hshape:bz l'=c.as:=by rw [←qc h2];simpa using hshape
  split at h3
  ·rename_i x hx
   have h4:RE c.s x (l'.flatMap bY):=eE hx (h2.flat fun a b hab=>AM hab)
   cases hF:c.F x with
   |none=>simp [aA,hF]at h3
   |some y=>
    have h6:=h3
    rw [hF]at h6
    simp only [show∀(o:Option (aG c.t)) (kk:aG c.t→Option ρ),(aA ρ).cl o kk=o.bind kk from fun _ _=>rfl,Option.bind_some]at h6
    obtain⟨w,hw,hrr⟩:=hg.ext f c l' x y hc hshape h4 hF
    obtain⟨v,hv,h7⟩:=hrr _ _ _ _ h6
    obtain⟨a1,a2,a3⟩:=QN hv nx
    split at h7
    ·rename_i hkl
     split at h7
     ·rename_i hcond
      obtain⟨hrow,huk⟩:=Bool.and_eq_true_iff.1 hcond
      have hrf:args.flatMap dy=as.flatMap bM:=xx ha huk
      refine⟨_,_,_,(dC nx w).1,(dC nx w).2.1++kill h' (as.flatMap bM),JA h7,?_,a1,by rw [←hrf];exact tB a2 (pc hh _)⟩
      refine .of fun K=> ?_
      unfold iF
      rw [if_neg (by rw [hinl];simp)]
      simp only [h1,lS,hw]
      rw [if_pos (by rw [hg.kl,hkl]),if_pos (by rw [←hrf];exact JB hh hrow),a3]
     ·cases h7
    ·rename_i hkl
     split at h7
     ·rename_i hcond
      refine⟨_,_,_,(dC nx w).1,(dC nx w).2.1++h',JA h7,?_,a1,tB a2 hh⟩
      refine .of fun K=> ?_
      unfold iF
      rw [if_neg (by rw [hinl];simp)]
      simp only [h1,lS,hw]
      rw [if_neg (by rw [hg.kl];exact hkl),if_pos,a3]
      rcases Bool.or_eq_true_iff.1 hcond with h8|h8
      ·rw [QQ ha h8];rfl
      ·rw [Jx hv h8,Bool.or_true]
     ·cases h7
  ·cases h3
 ·rename_i hc
  split at hk
  ·rename_i hpf
   split at hk
   ·cases hk
   ·rename_i c hcode
    exact SI hg hr hh hc hpf hcode ha hk
  rename_i hpf
  have hinl:g.inl f=true:=by rw [hg.inl,hc];simpa using hpf
  split at hk
  ·rename_i hcode
   split at hk
   ·cases hk
   ·rename_i wt hst
    obtain⟨v,h1,nx1,w,h1',h2,h3,h4,h5⟩:=Jy hg hh hst ha hk
    refine⟨v,h1,nx1,w,h1',h2,.of fun K=> ?_,h4,h5⟩
    unfold iF
    rw [if_pos hinl,hg.noc f hcode]
    exact h3
  ·rename_i c hcode
   split at hk
   ·cases hk
   ·rename_i hn
    have hn1:¬c.np<as.length:=by rw [←ha.length];exact fun h=>hn (.inl h)
    have hn2:as.length≤fW:=by rw [←ha.length];exact Nat.not_lt.1 fun h=>hn (.inr h)
    unfold Sv at hk
    split at hk
    ·rename_i hu
     obtain⟨hall,huk⟩:=Bool.and_eq_true_iff.1 hu
     have hrf:args.flatMap dy=as.flatMap bM:=xx ha huk
     have hcl:kX (jD h) 64 (args.flatMap dy) []=kX h' 64 (as.flatMap bM) []:=by rw [hrf];exact nS (tA hh) _ _ _
     revert hk hall
     rw [hcl]
     generalize hU:kX h' 64 (as.flatMap bM) []=U
     intro hk hall
     have ha':All2 RV (args.map (mC (U.contains ·) id)) (as.map (fZ (U.contains ·) id)):=All2.map2 (fun a b h=>xr _ _ h) ha
     have hs:RS {tm:=iN (args.map (mC (U.contains ·) id)),h:=uY h U U,nx:=nx,bs:=nx} {tm:=fj (as.map (fZ (U.contains ·) id)),h:=gL h' U U,nx:=nx,bs:=nx}:=
      ⟨fun t=>nT ha' 0 t,fun t ht=>nU _ 0 t (by rw [List.length_map];omega),Dg hh U U,rfl,rfl⟩
     obtain⟨ex,S1,S1',h1,h2,h3⟩:=hr _ _ _ _ _ hk hs (hg.lps f c hcode)
     have hfin:dH (aA ρ) S1 c.res (fun vs=>k [] (mC (bV U nx S1.nx) id (vd vs)) (uZ h (fun b=>pR (bV U nx S1.nx) id (cS S1.h b)) (upto nx (S1.nx-nx)++U)) S1.nx)=some r∧(ex= .nm∨ex= .rt):=by
      cases ex with
      |nm=>exact⟨h1,.inl rfl⟩
      |rt=>exact⟨h1,.inr rfl⟩
      |xt i=>cases h1
     obtain⟨vs,ws,h4,h5,h6⟩:=gX h2 hfin.1
     refine⟨_,_,_,fZ (bV U nx S1'.nx) id (fh ws),over h' (fun b=>gN (bV U nx S1'.nx) id (aN S1'.h b)) (upto nx (S1'.nx-nx)++U),h6,h3.mono fun K hK=> ?_,?_,?_⟩
     ·unfold iF
      rw [if_pos hinl,hg.code f c hcode]
      simp only
      unfold Lf
      rw [hU,if_neg hn1,if_pos hall,hK]
      rcases hfin.2 with rfl|rfl
      ·simp only [h4];rw [h2.nx]
      ·simp only [h4];rw [h2.nx]
     ·rw [h2.nx];exact xr _ _ (wo h5).1
     ·rw [h2.nx];exact ze (fun b=>xu _ _ (cW h2.h b)) hh _
    ·cases hk
theorem FD (hg:TG T g) (hr:tF T g ρ run) (ht:RT tm tm') (hh:RH h h') {op:COp} {k:KV ρ} (hk:Dc (aA ρ) T run tm h nx op k=some r):OkE g tm' h' nx op k r:=by
 unfold Dc at hk
 split at hk
 ·rename_i f args
  obtain⟨v,h1,nx1,w,h1',h2,h3,h4,h5⟩:=Dm hg hr hh (tE ht args) hk
  exact⟨[],v,h1,nx1,w,h1',h2,h3,h4,h5,RF.nil⟩
 ·rename_i x args
  split at hk
  ·rename_i f caps hx
   have hx':rd tm' x= .fn f caps:=by have:=bg ht x;rw [hx]at this;exact this.1.symm
   split at hk
   ·rename_i cs hcs
    split at hk
    ·rename_i hfu
     have hcaps:All2 RV cs caps:=(pV hcs).mono fun _ _ h=>h.toV
     obtain⟨v,h1,nx1,w,h1',h2,h3,h4,h5⟩:=Dm hg hr hh ((tE ht args).append hcaps) hk
     refine⟨[],v,h1,nx1,w,h1',h2,h3.mono fun K hK=> ?_,h4,h5,RF.nil⟩
     simp only [Ck,hx']
     rw [if_pos hfu]
     exact hK
    ·cases hk
   ·cases hk
  ·cases hk
 ·rename_i op hn1 hn2
  obtain⟨rf,v,h1,nx1,w,h1',h2,h3,h4,h5,h6⟩:=SF ht hh hk
  refine⟨rf,v,h1,nx1,w,h1',h2,.of fun K=> ?_,h4,h5,h6⟩
  rw [←h3]
  unfold Ck
  split
  ·simp [ay]at h3
  ·simp [ay]at h3
  ·rfl
theorem Fg (l:SM) (t:Nat) (v:SV):∀n,bu (l.map fun p=>if p.1=t then(t,v)else p) n=bu l n∨(n=t∧bu (l.map fun p=>if p.1=t then(t,v)else p) n=v):=by
 induction l with
 |nil=>intro n;exact .inl rfl
 |cons p l ih=>
  intro n
  obtain⟨a,b⟩:=p
  simp only [List.map_cons]
  by_cases hat:a=t
  ·subst hat
   simp only [if_true,bu]
   by_cases han:a=n
   ·subst han;exact .inr ⟨rfl,by simp⟩
   ·simp only [han,if_false]
    split
    ·exact .inl rfl
    ·exact ih n
  ·simp only [hat,if_false,bu]
   by_cases han:a=n
   ·simp only [han,if_true];exact .inl trivial
   ·simp only [han,if_false]
    split
    ·exact .inl rfl
    ·exact ih n
theorem lm (ht:RT tm tm'):∀{rf:SM},RF tm' rf→RT (refine tm rf) tm'
 | [],_=>ht
 |(t,v)::rf,h=>fun n=>by
  have h1:=lm ht (rf:=rf) fun p hp=>h p (List.mem_cons_of_mem _ hp)
  obtain⟨b,hb,hl⟩:=h (t,v) (List.mem_cons_self ..)
  simp only at hb hl
  subst hb
  simp only [refine]
  rcases Fg (refine tm rf) t (.a (.bl b)) n with h2|⟨rfl,h2⟩
  ·rw [h2];exact h1 n
  ·rw [h2,hl];exact⟨rfl,rfl⟩
theorem RF.app {a b:SM} (h1:RF tm' a) (h2:RF tm' b):RF tm' (a++b):=fun p hp=>by
 rcases List.mem_append.1 hp with h|h
 ·exact h1 p h
 ·exact h2 p h
def SJ (g:Cfg) (tm':List (Nat×AV)) (h':List (Nat×BK)) (nx:Nat) (o:CI) (k:KV ρ) (r:ρ):Prop:=
 ∃rf v h1 nx1 w h1',k rf v h1 nx1=some r∧(Evt fun K=>mr g (da g K) tm' h' nx o=some ⟨w,h1',nx1⟩)∧RV v w∧RH h1 h1'∧RF tm' rf
theorem FE (hg:TG T g) (hr:tF T g ρ run) (ht:RT tm tm') (hh:RH h h') {o:CI} {k:KV ρ} (hk:GS (aA ρ) T run tm h nx o k=some r):SJ g tm' h' nx o k r:=by
 unfold GS at hk
 split at hk
 ·rename_i hgd
  obtain⟨rf,v,h1,nx1,w,h1',h2,h3,h4,h5,h6⟩:=FD hg hr ht hh hk
  refine⟨rf,v,h1,nx1,w,h1',h2,h3.mono fun K hK=> ?_,h4,h5,h6⟩
  simp only [mr,hgd,nK]
  exact hK
 ·rename_i t want hgd
  split at hk
  ·rename_i b hb
   have hl:look .ud tm' t= .bl b:=by have:=ht t;rw [hb]at this;exact this.1.symm
   have yes:b=want→Dc (aA ρ) T run ((t,.a (.bl b))::tm) h nx o.op (fun rf w h' nx'=>k (rf++ [(t,.a (.bl b))]) w h' nx')=some r→SJ g tm' h' nx o k r:=fun hw hk=>by
    have ht2:RT ((t,.a (.bl b))::tm) tm':=fun n=>by
     simp only [bu]
     split
     ·rename_i h;subst h;rw [hl];exact⟨rfl,rfl⟩
     ·split
      ·trivial
      ·exact ht n
    obtain⟨rf,v,h1,nx1,w,h1',h2,h3,h4,h5,h6⟩:=FD hg hr ht2 hh hk
    refine⟨_,v,h1,nx1,w,h1',h2,h3.mono fun K hK=> ?_,h4,h5,RF.app h6 (RF.one hl)⟩
    simp only [mr,hgd,nK,hl,hw,beq_self_eq_true]
    exact hK
   have no:b≠want→k [(t,.a (.bl b))] (.tp []) h nx=some r→SJ g tm' h' nx o k r:=fun hw hk=>by
    refine⟨_,_,_,_,_,_,hk,.of fun K=> ?_,⟨[],rfl,.nil⟩,hh,RF.one hl⟩
    simp only [mr,hgd,nK,hl]
    have:(b==want)=false:=by cases b<;>cases want<;>first|rfl|exact absurd rfl hw
    rw [this]
   cases want
   ·simp only [Bool.false_eq_true,if_false]at hk
    rcases ef hk with⟨rfl,hk⟩|⟨rfl,hk⟩
    ·exact no (by simp) hk
    ·exact yes rfl hk
   ·simp only [if_true]at hk
    rcases ef hk with⟨rfl,hk⟩|⟨rfl,hk⟩
    ·exact yes rfl hk
    ·exact no (by simp) hk
  ·rename_i hb
   have hl:look .ud tm' t= .tp []:=by
    have:=ht t
    rw [hb]at this
    obtain⟨ws,h1,h2⟩:=this
    cases h2
    exact h1
   refine⟨[],_,_,_,_,_,hk,.of fun K=> ?_,⟨[],rfl,.nil⟩,hh,RF.nil⟩
   simp only [mr,hgd,nK,hl]
  ·cases hk
theorem Dn (hs:RT tm tm') (hm:RM tm') {d:Option Nat} (hd:Nr d=true) {v:SV} {w:AV} (hv:RV v w):RT (vg d v tm) (jz d w tm')∧RM (jz d w tm'):=by
 cases d with
 |none=>exact⟨hs,hm⟩
 |some d=>
  simp only [Nr,decide_eq_true_eq]at hd
  refine⟨fun t=> ?_,fun t ht=> ?_⟩
  ·simp only [vg,jz,bu,look]
   split
   ·exact hv
   ·split
    ·trivial
    ·exact hs t
  ·simp only [jz,look]
   rw [if_neg (by omega)]
   exact hm t ht
theorem FF (hg:TG T g) (hr:tF T g ρ run):∀{ops:List CI} {S:SS} {S':St} {k:SS→Option ρ},RS S S'→GT (aA ρ) T run ops S k=some r→
  ∃S1 S1',k S1=some r∧RS S1 S1'∧Evt fun K=>vT g (da g K) ops S'=some S1'
 | [],S,S',k,hs,hk=>⟨S,S',hk,hs,.of fun K=>rfl⟩
 |o::l,S,S',k,hs,hk=>by
  simp only [GT]at hk
  obtain⟨rf,v,h1,nx1,w,h1',h2,h3,h4,h5,h6⟩:=FE hg hr hs.tm hs.h hk
  dsimp only at h2
  split at h2
  ·rename_i hc
   simp only [Bool.and_eq_true,decide_eq_true_eq]at hc
   obtain⟨a1,a2⟩:=Dn (lm hs.tm h6) hs.mm hc.2 h4
   have hs2:RS {tm:=vg o.dst v (refine S.tm rf),h:=h1,nx:=nx1,bs:=S.bs} {tm:=jz o.dst w S'.tm,h:=h1',nx:=nx1,bs:=S'.bs}:=⟨a1,a2,h5,rfl,hs.bs⟩
   obtain⟨S1,S1',b1,b2,b3⟩:=FF hg hr hs2 h2
   refine⟨S1,S1',b1,b2,h3.and2 b3 fun K hK hK2=> ?_⟩
   rw [hs.nx]at hK
   simp only [vT,hK]
   rw [if_pos (by rw [←hs.bs];exact hc.1)]
   exact hK2
  ·cases h2
end
section
variable {ρ:Type} {r:ρ} {h:bJ} {h':List (Nat×BK)} {tm:SM} {tm':List (Nat×AV)} {nx:Nat} {g:Cfg} {T:Tbl} {S:SS} {S':St} {run:CC→SS→KS ρ→Option ρ}
theorem Do (ht:RT tm tm'):∀{l:List Nat},l.all (fun t=>decide (t<lw) && !cF (bu tm t))=true→(l.flatMap fun t=>dy (bu tm t))=l.flatMap fun t=>bM (look .ud tm' t)
 | [],_=>rfl
 |t::l,h=>by
  simp only [List.all_cons,Bool.and_eq_true,Bool.not_eq_true']at h
  simp only [List.flatMap_cons]
  rw [jH (ht t) h.1.2,Do ht h.2]
theorem Dp (ht:RT tm tm') (U ts:List Nat):RT (Br tm U ts) (iE tm' U ts):=fun t=>Dh (fun t=>xr _ _ (ht t)) ts t
theorem afJ (hm:RM tm') (U ts:List Nat):RM (iE tm' U ts):=fun t ht=>by
 unfold iE
 rw [lc]
 split
 ·rw [hm t ht];rfl
 ·rfl
theorem SK {p:Nat→Bool} {q:Nat→Nat} {w:AV} {b:Bool} (h:fZ p q w= .bl b):w= .bl b:=by
 cases w<;>simp only [fZ,qG,iD]at h<;>first
  |(split at h<;>first|(simp [ren]at h;done)|(simp only [ren]at h;exact h)|cases h)
  |cases h
theorem SL {U ts:List Nat} {rf:SM} (h:RF (iE tm' U ts) rf):RF tm' rf:=fun p hp=>by
 obtain⟨b,hb,hl⟩:=h p hp
 refine⟨b,hb,?_⟩
 unfold iE at hl
 rw [lc]at hl
 split at hl
 ·exact SK hl
 ·cases hl
def afL (tm:SM) (x:Opd):Prop:=cF (bq tm x)=false∨∃v,x= .c v
theorem QR {v:SV} {f:FuncId} {caps:List AV} (hv:RV v (.fn f caps)) (hu:cF v=false):v= .a (.fn f caps):=by
 cases v with
 |a u=>obtain⟨rfl,_⟩:=hv;rfl
 |ls s ts=>rcases hv with⟨es,h,_⟩|⟨_,h|h⟩<;>cases h
 |ri s ts i off=>obtain⟨es,h,_⟩:=hv;cases h
 |ow s ts=>obtain⟨es,h,_⟩:=hv;cases h
 |nz=>rcases hv with h|h<;>cases h
 |ag cs=>obtain⟨es,h,_⟩:=hv;cases h
 |tp cs=>obtain⟨es,h,_⟩:=hv;cases h
 |uk=>simp [cF]at hu
theorem QS {v:SV} {sz b i off:Nat} (hv:RV v (.re sz b i off)) (hu:cF v=false):v= .a (.re sz b i off):=by
 cases v with
 |a u=>obtain⟨rfl,_⟩:=hv;rfl
 |ls s ts=>rcases hv with⟨es,h,_⟩|⟨_,h|h⟩<;>cases h
 |ri s ts i off=>obtain⟨es,h,_⟩:=hv;cases h
 |ow s ts=>obtain⟨es,h,_⟩:=hv;cases h
 |nz=>rcases hv with h|h<;>cases h
 |ag cs=>obtain⟨es,h,_⟩:=hv;cases h
 |tp cs=>obtain⟨es,h,_⟩:=hv;cases h
 |uk=>simp [cF]at hu
theorem QT {v:AV} {f:FuncId} {caps:List AV} (h:v= .fn f caps):mB v= .a (.fn f caps):=by subst h;rfl
theorem tH {x:Opd} (hk:∀t∈dP x,cF (bu tm t)=false):cF (bq tm x)=false∨∃v,x= .c v:=by
 cases x with
 |t n=>exact .inl (hk n (List.mem_singleton.2 rfl))
 |c v=>exact .inr ⟨v,rfl⟩
theorem ZN (ht:RT tm tm') {x:Opd} (hk:∀t∈dP x,cF (bu tm t)=false) {f:FuncId} {caps:List AV} (h:rd tm' x= .fn f caps):bq tm x= .a (.fn f caps):=by
 rcases tH hk with h1|⟨v,rfl⟩
 ·have:=bg ht x
  rw [h]at this
  exact QR this h1
 ·exact QT h
theorem ZO (ht:RT tm tm') {x:Opd} (hk:∀t∈dP x,cF (bu tm t)=false) {sz b i off:Nat} (h:rd tm' x= .re sz b i off):bq tm x= .a (.re sz b i off):=by
 rcases tH hk with h1|⟨v,rfl⟩
 ·have:=bg ht x
  rw [h]at this
  exact QS this h1
 ·have h:v= .re sz b i off:=h
  subst h;rfl
theorem LQ (ht:RT tm tm') {x:Opd} (hk:∀t∈dP x,cF (bu tm t)=false) (hc:∀v,x= .c v→dy (mB v)=bM v):dy (bq tm x)=bM (rd tm' x):=by
 rcases tH hk with h1|⟨v,rfl⟩
 ·exact jH (bg ht x) h1
 ·exact hc v rfl
theorem Dq {α β:Type} {f g:α→List β} {l:List α} (h:∀a∈l,f a=g a):(l.flatMap f).isEmpty=(l.flatMap g).isEmpty:=by rw [pY h]
theorem Hd {v:AV} (h:cF (mB v)=false):dy (mB v)=bM v:=jH (vi v) h
theorem SN (hg:TG T g) (ht:RT tm tm') {o:CI} (hr:∀t∈kW o.op,cF (bu tm t)=false) (hb:LH o.op=true):Sx T tm o=qI g tm' o:=by
 obtain⟨d,op,gd⟩:=o
 simp only at hr hb
 unfold Sx qI
 cases op with
 |cf f args=>simp [hg.inl,hg.kl]
 |cv x args=>
  simp only
  have hx:∀t∈dP x,cF (bu tm t)=false:=fun t h=>hr t (by simp [kW,h])
  cases h1:rd tm' x with
  |fn f caps=>rw [ZN ht hx h1];simp [hg.inl,hg.kl]
  |_=>
   have:∀f caps,bq tm x≠ .a (.fn f caps):=fun f caps h=>by
    have h2:=bg ht x
    rw [h,h1]at h2
    have:=h2.1
    cases this
   split
   ·rename_i f caps h;exact absurd h (this f caps)
   ·rfl
 |bs sz len z t ps=>
  simp only [Cj]
  refine Dq fun p hp=>LQ ht (fun t h=>hr t (by simp only [kW,List.mem_flatMap];exact⟨p,hp,h⟩)) fun v hv=> ?_
  have:=List.all_eq_true.1 hb p hp
  rw [hv]at this
  exact Hd (by simpa [Fu]using this)
 |_=>rfl
theorem SO (hg:TG T g) (ht:RT tm tm') (hh:RH h h') {o:CI} (hr:∀t∈kW o.op,cF (bu tm t)=false) (hb:LH o.op=true) (us:List Nat):Sy T tm h o us=wI g tm' h' o us:=by
 unfold Sy wI
 rw [SN hg ht hr hb]
 obtain⟨d,op,gd⟩:=o
 simp only at hr hb⊢
 split
 ·rfl
 ·cases op with
  |sr n a x=>
   have ha:∀t∈dP a,cF (bu tm t)=false:=fun t h=>hr t (by simp [kW,h])
   simp only
   cases h1:rd tm' a with
   |re sz b i off=>
    rw [ZO ht ha h1]
    simp only
    have:=cW hh b
    cases h2:cS h b with
    |vr sz cs t=>rw [h2]at this;obtain⟨ws,he,_⟩:=this;rw [he]
    |ar s ts t=>rw [h2]at this;obtain⟨_,ws,he,_⟩:=this;rw [he]
    |row s ts t=>rw [h2]at this;obtain⟨ws,he,_⟩:=this;rw [he]
    |mi k g s es=>rw [h2]at this;obtain⟨ws,he,_⟩:=this;rw [he]
    |ms g s es=>rw [h2]at this;obtain⟨ws,he,_⟩:=this;rw [he]
    |ml es=>rw [h2]at this;have he:aN h' b= .mp es:=this;rw [he]
    |dd=>rw [h2]at this;have he:aN h' b= .dd:=this;rw [he]
   |_=>
    have:∀sz b i off,bq tm a≠ .a (.re sz b i off):=fun sz b i off h=>by
     have h2:=bg ht a
     rw [h,h1]at h2
     have:=h2.1
     cases this
    split
    ·rename_i sz b i off h;exact absurd h (this sz b i off)
    ·rfl
  |_=>rfl
end
def toF (f:FootS):Foot:=⟨f.ix,f.us,f.ac,f.fr,f.wr⟩
theorem zh:∀{v w:AV},avEq v w=true→v=w:=by
 have go:∀{l m:List AV},avEq.go l m=true→l=m:=by
  intro l
  induction l with
  |nil=>intro m h;cases m with
   |nil=>rfl
   |cons _ _=>simp [avEq.go]at h
  |cons a l ih=>
   intro m h
   cases m with
   |nil=>cases a<;>simp [avEq.go]at h
   |cons b m=>
    cases a<;>cases b<;>simp [avEq.go]at h
    obtain⟨⟨⟨⟨rfl,rfl⟩,rfl⟩,rfl⟩,h⟩:=h
    rw [ih h]
 intro v w h
 cases v<;>cases w<;>simp [avEq]at h<;>first
  |rfl
  |(obtain⟨rfl,rfl⟩:=h;rfl)
  |(subst h;rfl)
  |(rename_i a b;cases a;cases b;simp at h;simp [h];done)
  |(obtain⟨⟨⟨rfl,rfl⟩,rfl⟩,rfl⟩:=h;rfl)
  |(obtain⟨rfl,rfl,rfl,rfl⟩:=h;rfl)
  |(obtain⟨rfl,h⟩:=h;rw [go h])
  |skip
theorem FH:∀{p:PC} {v:SV} {R:Type} {r:R} {x:Jp p R},jE p v r=some x→GP p x=(v,r)
  | .c w,v,R,r,x,h=>by
    cases v<;>simp only [jE]at h<;>first|(cases h;done)|skip
    split at h
    · rename_i he;simp at h;subst h;rw [←zh he];rfl
    · cases h
  | .hi k,v,R,r,x,h=>by
    cases v<;>simp only [jE]at h<;>first|(cases h;done)|skip
    rename_i w
    cases w<;>simp only at h<;>first|(cases h;done)|skip
    split at h
    · rename_i he;simp at h;subst h;subst he;rfl
    · cases h
  | .hb,v,R,r,x,h=>by
    cases v<;>simp only [jE]at h<;>first|(cases h;done)|skip
    rename_i w
    cases w<;>simp only at h<;>first|(cases h;done)|skip
    simp at h;subst h;rfl
  | .hs,v,R,r,x,h=>by
    cases v<;>simp only [jE]at h<;>first|(cases h;done)|skip
    rename_i w
    cases w<;>simp only at h<;>first|(cases h;done)|skip
    simp at h;subst h;rfl
  | .hl s,v,R,r,x,h=>by
    cases v<;>simp only [jE]at h<;>first|(cases h;done)|skip
    split at h
    · rename_i he;subst he;simp at h;subst h;rfl
    · cases h
  | .hr s off,v,R,r,x,h=>by
    cases v<;>simp only [jE]at h<;>first|(cases h;done)|skip
    split at h
    · rename_i ho
      split at h
      · rename_i he;subst he;subst ho;simp at h;subst h;rfl
      · cases h
    · cases h
  | .s0 sz b,v,R,r,x,h=>by
    cases v<;>simp only [jE]at h<;>first|(cases h;done)|skip
    rename_i w
    cases w<;>simp only at h<;>first|(cases h;done)|skip
    split at h
    · rename_i he;obtain⟨rfl,rfl,rfl⟩:=he;simp at h;subst h;rfl
    · cases h
  | .sn sz b,v,R,r,x,h=>by
    cases v<;>simp only [jE]at h<;>first|(cases h;done)|skip
    rename_i w
    cases w<;>simp only at h<;>first|(cases h;done)|skip
    split at h
    · rename_i he;obtain⟨rfl,rfl⟩:=he;simp at h;subst h;rfl
    · cases h
  | .hp sz b off,v,R,r,x,h=>by
    cases v<;>simp only [jE]at h<;>first|(cases h;done)|skip
    rename_i w
    cases w<;>simp only at h<;>first|(cases h;done)|skip
    split at h
    · rename_i he;obtain⟨rfl,rfl,rfl⟩:=he;simp at h;subst h;rfl
    · cases h
  | .nz,v,R,r,x,h=>by
    cases v<;>simp only [jE]at h<;>first|(cases h;done)|skip
    simp at h;subst h;rfl
theorem wu:∀{ps:List PC} {vs:List SV} {R:Type} {r:R} {x:yY ps R},nQ ps vs r=some x→tq ps x=(vs,r)
 | [],[],R,r,x,h=>by simp only [nQ]at h;simp at h;subst h;rfl
 |p::ps,v::vs,R,r,x,h=>by
  simp only [nQ,Option.bind_eq_some_iff]at h
  obtain⟨z,hz,h⟩:=h
  have h1:=FH h
  have h2:=wu hz
  simp only [tq,h1,h2]
 | [],_::_,R,r,x,h=>by simp [nQ]at h
 |_::_,[],R,r,x,h=>by simp [nQ]at h
theorem QU:∀{p:PV} {v:SV} {R:Type} {r:R} {x:Nl p R},CV p v r=some x→GQ p x=(v,r)
  | .c p,v,R,r,x,h=>FH h
  | .ag ps,v,R,r,x,h=>by
    cases v<;>simp only [CV]at h<;>first|(cases h;done)|skip
    simp only [GQ,wu h]
  | .t0,v,R,r,x,h=>by
    cases v<;>simp only [CV]at h<;>first|(cases h;done)|skip
    rename_i vs
    cases vs<;>simp only at h<;>first|(cases h;done)|skip
    simp at h;subst h;rfl
  | .uk,v,R,r,x,h=>by
    cases v<;>simp only [CV]at h<;>first|(cases h;done)|skip
    simp at h;subst h;rfl
theorem FI:∀{ps:List (Nat×PV)} {vs:SM} {R:Type} {r:R} {x:Jq ps R},wg ps vs r=some x→Bt ps x=(vs,r)
 | [],[],R,r,x,h=>by simp only [wg]at h;simp at h;subst h;rfl
 |p::ps,v::vs,R,r,x,h=>by
  simp only [wg]at h
  split at h
  ·rename_i he
   simp only [Option.bind_eq_some_iff]at h
   obtain⟨z,hz,h⟩:=h
   have h1:=QU h
   have h2:=FI hz
   simp only [Bt,h1,h2,he]
  ·cases h
 | [],_::_,R,r,x,h=>by simp [wg]at h
 |_::_,[],R,r,x,h=>by simp [wg]at h
theorem FJ:∀{a b:List (AV×AV)},yZ a b=true→a=b
 | [],[],_=>rfl
 |(a,b)::l,(a',b')::l',h=>by
  simp only [yZ,Bool.and_eq_true]at h
  rw [zh h.1.1,zh h.1.2,FJ h.2]
 | [],_::_,h=>by simp [yZ]at h
 |_::_,[],h=>by simp [yZ]at h
theorem QV:∀{p:PB} {v:SB} {R:Type} {r:R} {x:Nn p R},pT p v r=some x→GR p x=(v,r)
  | .vr sz ps t,v,R,r,x,h=>by
    cases v<;>simp only [pT]at h<;>first|(cases h;done)|skip
    split at h
    · rename_i he;obtain⟨rfl,rfl⟩:=he;simp only [GR,wu h]
    · cases h
  | .row s t,v,R,r,x,h=>by
    cases v<;>simp only [pT]at h<;>first|(cases h;done)|skip
    split at h
    · rename_i ho
      split at h
      · rename_i he;subst he;subst ho;simp at h;subst h;rfl
      · cases h
    · cases h
  | .ar s t,v,R,r,x,h=>by
    cases v<;>simp only [pT]at h<;>first|(cases h;done)|skip
    split at h
    · rename_i ho
      split at h
      · rename_i he;subst he;subst ho;simp at h;subst h;rfl
      · cases h
    · cases h
  | .mi k g s,v,R,r,x,h=>by
    cases v<;>simp only [pT]at h<;>first|(cases h;done)|skip
    split at h
    · rename_i ho
      obtain⟨rfl,rfl⟩:=ho
      split at h
      · rename_i he;subst he;simp at h;subst h;rfl
      · cases h
    · cases h
  | .ms g s,v,R,r,x,h=>by
    cases v<;>simp only [pT]at h<;>first|(cases h;done)|skip
    split at h
    · rename_i ho
      subst ho
      split at h
      · rename_i he;subst he;simp at h;subst h;rfl
      · cases h
    · cases h
  | .ml es,v,R,r,x,h=>by
    cases v<;>simp only [pT]at h<;>first|(cases h;done)|skip
    split at h
    · rename_i he;simp at h;subst h;rw [←FJ he];rfl
    · cases h
  | .dd,v,R,r,x,h=>by
    cases v<;>simp only [pT]at h<;>first|(cases h;done)|skip
    simp at h;subst h;rfl
theorem FK:∀{ps:List (Nat×PB)} {vs:bJ} {R:Type} {r:R} {x:Jr ps R},wh ps vs r=some x→Bu ps x=(vs,r)
 | [],[],R,r,x,h=>by simp only [wh]at h;simp at h;subst h;rfl
 |p::ps,v::vs,R,r,x,h=>by
  simp only [wh]at h
  split at h
  ·rename_i he
   simp only [Option.bind_eq_some_iff]at h
   obtain⟨z,hz,h⟩:=h
   have h1:=QV h
   have h2:=FK hz
   simp only [Bu,h1,h2,he]
  ·cases h
 | [],_::_,R,r,x,h=>by simp [wh]at h
 |_::_,[],R,r,x,h=>by simp [wh]at h
theorem vk {p:PS} {S:SS} {x:CU p} (h:za p S=some x):vb p x=S:=by
 unfold za at h
 split at h
 ·rename_i he
  simp only [Option.bind_eq_some_iff]at h
  obtain⟨z,hz,h⟩:=h
  have h1:=FI h
  have h2:=FK hz
  unfold vb
  simp only [h1,h2,he.1,he.2]
 ·cases h
theorem zi:∀{l:List PS} {S:SS} {x:oz l},wi l S=some x→vc l x=S
 | [],S,x,h=>by simp [wi]at h
 | [p],S,x,h=>by simp only [wi]at h;exact vk h
 |p::q::l,S,x,h=>by
  simp only [wi]at h
  split at h
  ·rename_i y hy;simp at h;subst h;exact vk hy
  ·simp only [Option.map_eq_some_iff]at h
   obtain⟨y,hy,rfl⟩:=h
   show vc (q::l) y=S
   exact zi hy
section
variable {ρ:Type} {r:ρ} {h:bJ} {h':List (Nat×BK)} {tm:SM} {tm':List (Nat×AV)} {nx:Nat} {g:Cfg} {T:Tbl} {S:SS} {S':St} {run:CC→SS→KS ρ→Option ρ}
theorem AQ (f:Nat→SV) {t:Nat}:∀{l:List Nat},(∀a∈l,a<lw)→t∈l→bu (l.map fun t=>(t,f t)) t=f t
 | [],_,h=>by cases h
 |a::l,hl,h=>by
  simp only [List.map_cons,bu]
  by_cases hat:a=t
  ·subst hat;simp
  ·rw [if_neg hat]
   have h1:=hl a (List.mem_cons_self ..)
   rw [if_neg (by omega)]
   rcases List.mem_cons.1 h with h|h
   ·exact absurd h.symm hat
   ·exact AQ f (fun b hb=>hl b (List.mem_cons_of_mem _ hb)) h
theorem QW (p:Nat→Bool) (q:Nat→Nat) (v:SV):cF (mC p q v)=cF v:=by cases v<;>rfl
theorem xy {o:CI} {t:Nat} (h:t∈kW o.op):t∈bO o:=by unfold bO;exact List.mem_append_right _ h
theorem FL (hg:TG T g) (hr:tF T g ρ run):∀{ops:List (CI×List Nat)} {ix:Nat} {fs:List FootS} {S:SS} {S':St} {k:SS→Option ρ},RS S S'→GU (aA ρ) T run ops ix fs S k=some r→
  ∃S1 S1',k S1=some r∧RS S1 S1'∧Evt fun K=>sZ g (da g K) ops ix (fs.map toF) S'=some S1'
 | [],ix,fs,S,S',k,hs,hk=>⟨S,S',hk,hs,.of fun K=>rfl⟩
 |(o,dp)::l,ix,fs,S,S',k,hs,hk=>by
  simp only [GU]at hk
  split at hk
  ·rename_i hc
   simp only [Bool.and_eq_true]at hc
   obtain⟨⟨hc1,hc2⟩,hc3⟩:=hc
   have hus:kX (jD S.h) 64 ((bO o).flatMap fun t=>dy (bu S.tm t)) []=kX S'.h 64 ((bO o).flatMap fun t=>bM (look .ud S'.tm t)) []:=by
    rw [Do hs.tm hc2,nS (tA hs.h)]
   have hreads:∀us:List Nat,∀t∈kW o.op,cF (bu (Br S.tm us (bO o)) t)=false:=by
    intro us t ht
    have h1:(decide (t<lw) && !cF (bu S.tm t))=true:=List.all_eq_true.1 hc2 t (xy ht)
    simp only [Bool.and_eq_true,Bool.not_eq_true']at h1
    unfold Br
    rw [AQ _ (fun a ha=>by
     have h2:(decide (a<lw) && !cF (bu S.tm a))=true:=List.all_eq_true.1 hc2 a ha
     simp only [Bool.and_eq_true,decide_eq_true_eq]at h2
     exact h2.1) (xy ht),QW]
    exact h1.2
   rw [hus]at hk hc1
   generalize hU:kX S'.h 64 ((bO o).flatMap fun t=>bM (look .ud S'.tm t)) []=us at hk hc1
   generalize hA:(if Na o.op=true then([]:List Nat)else us)=ac at hk
   obtain⟨rf,v,h1,nx1,w,h1',h2,h3,h4,h5,h6⟩:=FE hg hr (Dp hs.tm us (bO o)) (Dg hs.h us ac) hk
   dsimp only at h2
   have hw:=SO hg (Dp hs.tm us (bO o)) (Dg hs.h us ac) (hreads us) hc3 us
   rw [hw]at h2
   split at h2
   ·rename_i hc4
    simp only [Bool.and_eq_true,decide_eq_true_eq]at hc4
    obtain⟨⟨hc5,hc6⟩,hc7⟩:=hc4
    obtain⟨a1,a2⟩:=Dn (lm hs.tm (SL h6)) hs.mm hc6 (xr (bV us S.nx nx1) id h4)
    have hs2:=RS.mk (S:={tm:=vg o.dst (mC (bV us S.nx nx1) id v) (refine S.tm rf),h:=uZ S.h (fun b=>pR (bV us S.nx nx1) id (cS h1 b)) (upto S.nx (nx1-S.nx)++wI g (iE S'.tm us (bO o)) (gL S'.h us ac) o us),nx:=nx1,bs:=S.bs})
     (S':={tm:=jz o.dst (fZ (bV us S.nx nx1) id w) S'.tm,h:=over S'.h (fun b=>gN (bV us S.nx nx1) id (aN h1' b)) (upto S.nx (nx1-S.nx)++wI g (iE S'.tm us (bO o)) (gL S'.h us ac) o us),nx:=nx1,bs:=S'.bs})
     a1 a2 (ze (fun b=>xu _ _ (cW h5 b)) hs.h _) rfl hs.bs
    obtain⟨S1,S1',b1,b2,b3⟩:=FL hg hr hs2 h2
    refine⟨S1,S1',b1,b2,h3.and2 b3 fun K hK hK2=> ?_⟩
    simp only [sZ]
    rw [hU,hA]
    rw [hs.nx]at hc1 hK hc5
    rw [if_pos hc1,hK]
    simp only
    rw [if_pos]
    ·rw [←hs.nx]
     exact hK2
    ·rw [hs.nx]at hc7
     simp only [Bool.and_eq_true,decide_eq_true_eq]
     refine⟨hc5,?_⟩
     rw [List.all_map]
     exact hc7
   ·cases h2
  ·cases hk
theorem ft (hg:TG T g) (hr:tF T g ρ run):∀{c:CC} {S:SS} {S':St} {k:KS ρ},RS S S'→iw T g c→eD (aA ρ) T run c S k=some r→
  ∃ex S1 S1',k ex S1=some r∧RS S1 S1'∧Evt fun K=>bE g (da g K) c S'=some (ex,S1')
 | .sk,S,S',k,hs,hl,hk=>⟨_,S,S',hk,hs,.of fun K=>rfl⟩
 | .rg ops,S,S',k,hs,hl,hk=>by
  simp only [eD]at hk
  obtain⟨S1,S1',h1,h2,h3⟩:=FF hg hr hs hk
  exact⟨_,S1,S1',h1,h2,h3.mono fun K hK=>by simp only [bE,hK];rfl⟩
 | .rd ops,S,S',k,hs,hl,hk=>by
  simp only [eD]at hk
  obtain⟨S1,S1',h1,h2,h3⟩:=FL hg hr hs hk
  exact⟨_,S1,S1',h1,h2,h3.mono fun K hK=>by simp only [List.map_nil]at hK;simp only [bE,hK];rfl⟩
 | .sq a b,S,S',k,hs,hl,hk=>by
  simp only [eD]at hk
  obtain⟨ex,S1,S1',h1,h2,h3⟩:=ft hg hr hs (fun p hp=>hl p (List.mem_append_left _ hp)) hk
  cases ex with
  |nm=>
   obtain⟨ex2,S2,S2',h4,h5,h6⟩:=ft hg hr h2 (fun p hp=>hl p (List.mem_append_right _ hp)) h1
   exact⟨ex2,S2,S2',h4,h5,h3.and2 h6 fun K hK hK2=>by simp only [bE,hK,hK2]⟩
  |rt=>exact⟨_,S1,S1',h1,h2,h3.mono fun K hK=>by simp only [bE,hK]⟩
  |xt i=>exact⟨_,S1,S1',h1,h2,h3.mono fun K hK=>by simp only [bE,hK]⟩
 | .cd c a b,S,S',k,hs,hl,hk=>by
  simp only [eD]at hk
  have hla:iw T g a:=fun p hp=>hl p (List.mem_append_left _ hp)
  have hlb:iw T g b:=fun p hp=>hl p (List.mem_append_right _ hp)
  split at hk
  ·rename_i t
   split at hk
   ·rename_i p hp
    have hl2:look .ud S'.tm t= .bl p:=by have:=hs.tm t;rw [hp]at this;exact this.1.symm
    rcases ef hk with⟨rfl,hk⟩|⟨rfl,hk⟩
    ·obtain⟨ex,S1,S1',h1,h2,h3⟩:=ft (S:={S with tm:=refine S.tm [(t,.a (.bl true))]}) hg hr ⟨lm hs.tm (RF.one hl2),hs.mm,hs.h,hs.nx,hs.bs⟩ hla hk
     exact⟨ex,S1,S1',h1,h2,h3.mono fun K hK=>by simp only [bE,rd,hl2];exact hK⟩
    ·obtain⟨ex,S1,S1',h1,h2,h3⟩:=ft (S:={S with tm:=refine S.tm [(t,.a (.bl false))]}) hg hr ⟨lm hs.tm (RF.one hl2),hs.mm,hs.h,hs.nx,hs.bs⟩ hlb hk
     exact⟨ex,S1,S1',h1,h2,h3.mono fun K hK=>by simp only [bE,rd,hl2];exact hK⟩
   ·cases hk
  ·rename_i p
   cases p
   ·simp only [Bool.false_eq_true,if_false]at hk
    obtain⟨ex,S1,S1',h1,h2,h3⟩:=ft hg hr hs hlb hk
    exact⟨ex,S1,S1',h1,h2,h3.mono fun K hK=>by simp only [bE,rd];exact hK⟩
   ·simp only [if_true]at hk
    obtain⟨ex,S1,S1',h1,h2,h3⟩:=ft hg hr hs hla hk
    exact⟨ex,S1,S1',h1,h2,h3.mono fun K hK=>by simp only [bE,rd];exact hK⟩
  ·cases hk
 | .bk id b,S,S',k,hs,hl,hk=>by
  simp only [eD]at hk
  obtain⟨ex,S1,S1',h1,h2,h3⟩:=ft (c:=b) hg hr hs hl hk
  cases ex with
  |nm=>exact⟨_,S1,S1',h1,h2,h3.mono fun K hK=>by simp only [bE,hK]⟩
  |rt=>exact⟨_,S1,S1',h1,h2,h3.mono fun K hK=>by simp only [bE,hK]⟩
  |xt j=>
   simp only at h1
   split at h1
   ·rename_i hj;exact⟨_,S1,S1',h1,h2,h3.mono fun K hK=>by simp only [bE,hK];rw [if_pos hj]⟩
   ·rename_i hj;exact⟨_,S1,S1',h1,h2,h3.mono fun K hK=>by simp only [bE,hK];rw [if_neg hj]⟩
 | .lp live b,S,S',k,hs,hl,hk=>by
  simp only [eD]at hk
  split at hk
  ·rename_i L hL
   obtain⟨hm,hlp⟩:=hl (live,b) (List.mem_cons_self ..) L hL
   split at hk
   ·rename_i hlive
    have hs2:=AH hs hlive (.inl hm)
    split at hk
    ·rename_i x hx
     have hfx:=zi hx
     rw [←hfx]at hs2
     cases hy:L.L x with
     |none=>simp [aA,hy]at hk
     |some y=>
      have hk2:gU L.os y (aA ρ).sm k=some r:=by simpa [aA,hy]using hk
      obtain⟨ex,S1,S1',h1,h2,h3⟩:=hlp x y hy _ hs2 ρ k r hk2
      exact⟨ex,S1,S1',h1,h2,h3.mono fun K hK=>hK S' rfl⟩
    ·cases hk
   ·cases hk
  ·cases hk
 | .xt id,S,S',k,hs,hl,hk=>⟨_,S,S',hk,hs,.of fun K=>rfl⟩
 | .rt,S,S',k,hs,hl,hk=>⟨_,S,S',hk,hs,.of fun K=>rfl⟩
 | .no,S,S',k,hs,hl,hk=>by simp [eD]at hk
theorem wv (hg:TG T g):∀n,tF T g ρ (vh (aA ρ) T n)
 |0=>fun c S k r S' hk hs hl=>by simp [vh]at hk
 |n+1=>fun c S k r S' hk hs hl=>by
  simp only [vh]at hk
  obtain⟨ex,S1,S1',h1,h2,h3⟩:=ft hg (wv hg n) hs hl hk
  exact⟨ex,S1,S1',h1,h2,h3.succ.mono fun K ⟨j,hj,hK⟩=>by subst hj;simp only [da];exact hK⟩
end
def fu {X Y:Type} (st:X→Option (X⊕Y)):Nat→X→Option Y
 |0,_=>none
 |n+1,x=>match st x with
  |some (.inl x')=>fu st n x'
  |some (.inr y)=>some y
  |none=>none
open Classical in
noncomputable def aW {X Y:Type} (st:X→Option (X⊕Y)) (x:X):Option Y:=if h:∃y,∃n,fu st n x=some y then some (Classical.choose h)else none
section
variable {X Y:Type} {st:X→Option (X⊕Y)} {x:X} {y:Y}
theorem qg:∀{n m:Nat} {x:X},fu st n x=some y→n≤m→fu st m x=some y
 |0,_,x,h,_=>by cases h
 |n+1,m,x,h,hm=>by
  obtain⟨m,rfl⟩:∃j,m=j+1:=⟨m-1,by omega⟩
  simp only [fu]at h⊢
  split at h
  ·rename_i x' hx;exact qg h (by omega)
  ·rename_i y' hx;exact h
  ·cases h
theorem ww {n:Nat} (h:fu st n x=some y):aW st x=some y:=by
 have hex:∃y,∃n,fu st n x=some y:=⟨y,n,h⟩
 unfold aW
 rw [dif_pos hex]
 obtain⟨m,hm⟩:=Classical.choose_spec hex
 have h1:=qg h (Nat.le_max_left n m)
 have h2:=qg hm (Nat.le_max_right n m)
 rw [h1]at h2
 exact h2.symm
theorem nV (h:aW st x=some y):∃n,fu st n x=some y:=by
 unfold aW at h
 split at h
 ·rename_i hex
  injection h with h
  obtain⟨m,hm⟩:=Classical.choose_spec hex
  exact⟨m,by rw [hm,h]⟩
 ·cases h
theorem dW:aW st x=match st x with
  |some (.inl x')=>aW st x'
  |some (.inr y)=>some y
  |none=>none:=by
 cases hs:st x with
 |none=>
  simp only
  cases hl:aW st x with
  |none=>rfl
  |some y=>
   obtain⟨n,hn⟩:=nV hl
   cases n<;>simp [fu,hs]at hn
 |some z=>
  cases z with
  |inr y=>exact ww (n:=1) (by simp [fu,hs])
  |inl x'=>
   simp only
   cases hl:aW st x' with
   |some y=>
    obtain⟨n,hn⟩:=nV hl
    exact ww (n:=n+1) (by simp [fu,hs,hn])
   |none=>
    cases hl2:aW st x with
    |none=>rfl
    |some y=>
     obtain⟨n,hn⟩:=nV hl2
     cases n with
     |zero=>simp [fu]at hn
     |succ n=>
      simp only [fu,hs]at hn
      rw [ww hn]at hl
      cases hl
end
def LR (T:Tbl) (n:Nat) (live:List Nat) (b:CC) (ps:List PS) (os:List (EX×PS)) (S:SS):Option (oz ps⊕tv os):=
 Sz (aA _) T n live b S fun ex S=>match ex with
  | .nm=>(wi ps S).map .inl
  |ex=>(zc os ex S).map .inr
section
variable {g:Cfg} {T:Tbl}
theorem FM {a b:EX} (h:GV a b=true):a=b:=by
 cases a<;>cases b<;>simp [GV]at h<;>first|rfl|(subst h;rfl)
theorem Dr {p:PS} {S:SS} {S':St} (hs:RS S S') (hp:GW p=true):RS (Bv p S) S':=by
 refine⟨fun t=> ?_,hs.mm,hs.h,hs.nx,hs.bs⟩
 have main:∀l:List (Nat×PV),(l.any fun q=>decide (q.1=lw))=true→RV (bu (l.map fun q=>(q.1,if q.1=lw then SV.uk else bu S.tm q.1)) t) (look .ud S'.tm t):=by
  intro l
  induction l with
  |nil=>intro h;simp at h
  |cons q l ih=>
   intro h
   simp only [List.map_cons,bu]
   by_cases hq:q.1=t
   ·rw [if_pos hq]
    by_cases hk:q.1=lw
    ·rw [if_pos hk];trivial
    ·rw [if_neg hk,hq];exact hs.tm t
   ·rw [if_neg hq]
    by_cases hk:q.1=lw
    ·rw [if_pos hk];trivial
    ·rw [if_neg hk]
     refine ih ?_
     simpa [hk]using h
 exact main p.tm hp
theorem zj {ρ:Type} {k:KS ρ}:∀{l:List (EX×PS)} {ex:EX} {S:SS} {y:tv l},zc l ex S=some y→∃p,GW p=true∧gU l y (aA ρ).sm k=k ex (Bv p S)
 | [],ex,S,y,h=>by simp [zc]at h
 | [p],ex,S,y,h=>by
  simp only [zc]at h
  split at h
  ·rename_i he
   simp only [Bool.and_eq_true]at he
   refine⟨p.2,he.2,?_⟩
   simp only [gU,vk h,FM he.1]
  ·cases h
 |p::q::l,ex,S,y,h=>by
  simp only [zc]at h
  split at h
  ·rename_i x hx
   split at hx
   ·rename_i he
    simp only [Bool.and_eq_true]at he
    simp at h
    subst h
    refine⟨p.2,he.2,?_⟩
    simp only [gU,aA,vk hx,FM he.1]
   ·cases hx
  ·simp only [Option.map_eq_some_iff]at h
   obtain⟨z,hz,rfl⟩:=h
   obtain⟨p',h1,h2⟩:=zj (k:=k) hz
   exact⟨p',h1,by simp only [gU,aA];exact h2⟩
theorem ZP (hg:TG T g) {n:Nat} {live:List Nat} {b:CC} {ps:List PS} {os:List (EX×PS)} {st:oz ps→Option (oz ps⊕tv os)} (hm:fW≤eC live) (hb:iw T g b)
  (hst:∀x,LR T n live b ps os (vc ps x)=st x):Hb g ⟨ps,os,aW st⟩ live b:=by
 refine⟨hm,fun x y hxy=> ?_⟩
 obtain⟨j,hj⟩:=nV hxy
 clear hxy
 induction j generalizing x with
 |zero=>simp [fu]at hj
 |succ j ih=>
  intro S' hs ρ k r hk
  simp only [fu]at hj
  cases hz:st x with
  |none=>rw [hz]at hj;cases hj
  |some z=>
   have hr:=hst x
   rw [hz]at hr
   unfold LR Sz at hr
   obtain⟨ex,S1,S1',h1,h2,h3⟩:=ft hg (wv hg n) hs hb hr
   cases ex with
   |nm=>
    simp only at h1
    split at h1
    ·rename_i hl
     simp only [Option.map_eq_some_iff]at h1
     obtain⟨x',hx',rfl⟩:=h1
     rw [hz]at hj
     have hs2:=AH h2 hl (.inl hm)
     rw [←zi hx']at hs2
     obtain⟨ex,S2,S2',h4,h5,h6⟩:=ih x' hj _ hs2 ρ k r hk
     refine⟨ex,S2,S2',h4,h5,(h3.and h6).succ.and h3|>.mono fun K hK S'' hS=> ?_⟩
     obtain⟨⟨i,rfl,h7,h8⟩,h9⟩:=hK
     simp only [bE,hS,h9]
     simp only [da]
     exact h8 S1' rfl
    ·cases h1
   |rt=>
    simp only [Option.map_eq_some_iff]at h1
    obtain⟨y',hy',rfl⟩:=h1
    rw [hz]at hj
    simp only [Option.some.injEq]at hj
    subst hj
    obtain⟨p,h4,h5⟩:=zj (k:=k) hy'
    have hk':gU os y' (aA ρ).sm k=some r:=hk
    rw [h5]at hk'
    exact⟨_,_,S1',hk',Dr h2 h4,h3.mono fun K hK S'' hS=>by simp only [bE,hS,hK]⟩
   |xt i=>
    simp only [Option.map_eq_some_iff]at h1
    obtain⟨y',hy',rfl⟩:=h1
    rw [hz]at hj
    simp only [Option.some.injEq]at hj
    subst hj
    obtain⟨p,h4,h5⟩:=zj (k:=k) hy'
    have hk':gU os y' (aA ρ).sm k=some r:=hk
    rw [h5]at hk'
    exact⟨_,_,S1',hk',Dr h2 h4,h3.mono fun K hK S'' hS=>by simp only [bE,hS,hK]⟩
end
theorem lZ:∀{rs:List (Bool×Nat)} {cs:List SV} {ws:List AV},bz ws=rs→All2 RC cs (ws.flatMap bY)→∃vs,jF rs cs=some vs∧All2 RW vs ws
 |rs,cs,[],hs,h=>by
  simp only [bz]at hs
  subst hs
  cases h
  exact⟨[],rfl,.nil⟩
 |rs,cs,w::ws,hs,h=>by
  simp only [List.flatMap_cons]at h
  have hsplit:∃c1 c2,cs=c1++c2∧All2 RC c1 (bY w)∧All2 RC c2 (ws.flatMap bY):=by
   clear hs
   have aux:∀{l1 l2:List AV} {cs:List SV},All2 RC cs (l1++l2)→∃c1 c2,cs=c1++c2∧All2 RC c1 l1∧All2 RC c2 l2:=by
    intro l1
    induction l1 with
    |nil=>intro l2 cs h;exact⟨[],cs,rfl,.nil,h⟩
    |cons a l1 ih=>
     intro l2 cs h
     cases h with
     |cons h1 h2=>
      obtain⟨c1,c2,rfl,h3,h4⟩:=ih h2
      exact⟨_::c1,c2,rfl,.cons h1 h3,h4⟩
   exact aux h
  obtain⟨c1,c2,rfl,h1,h2⟩:=hsplit
  cases w with
  |ag us=>
   simp only [bz]at hs
   subst hs
   obtain⟨vs,h3,h4⟩:=lZ rfl h2
   have hl:c1.length=us.length:=h1.length
   refine⟨.ag c1::vs,?_,.cons ⟨us,rfl,h1⟩ h4⟩
   simp only [jF]
   rw [←hl,List.drop_left,List.take_left,h3]
   rfl
  |_=>
   simp only [bz]at hs
   subst hs
   obtain⟨vs,h3,h4⟩:=lZ rfl h2
   obtain⟨a,ha⟩:∃a,c1= [a]:=by
    have:=h1.length
    simp only [bY,List.length_singleton]at this
    cases c1 with
    |nil=>simp at this
    |cons a l=>cases l with
     |nil=>exact⟨a,rfl⟩
     |cons _ _=>simp at this
   subst ha
   cases h1 with
   |cons h5 _=>
    refine⟨a::vs,?_,.cons h5.toW h4⟩
    simp only [List.cons_append,List.nil_append,jF,h3]
    rfl
def RO (own:Option Bool) (v:SV) (w:AV):Prop:=match own with
 |none=>RC v w
 |some nl=>(∃s ts es,v= .ls s ts∧(nl=true→ts≠ [])∧w= .ow s.sz es∧All2 (RE s) ts es)∨(nl=true∧(v= .a .ns∨v= .a .ez∨v= .nz)∧(w= .ns∨w= .ez))
def Nx (own:List (Nat×Bool)):Nat→List SV→List AV→Prop
 |_,[],[]=>True
 |i,v::vs,w::ws=>RO (own.lookup i) v w∧Nx own (i+1) vs ws
 |_,_,_=>False
def Nm (a b:SV):Prop:=a=b∨((a= .a .ns∨a= .a .ez∨a= .nz)∧∃e,b= .ls e [])
theorem zk:∀{s:Sh} {l:List SV} {x:aG s} {r:List SV},gf s l=some (x,r)→∃l1,l=l1++r∧All2 Nm l1 (im s x)
 | .i k,l,x,r,h=>by
  simp only [gf]at h
  split at h
  ·simp only [Option.ite_none_right_eq_some,Option.some.injEq,Prod.mk.injEq]at h
   obtain⟨rfl,rfl,rfl⟩:=h
   exact⟨[_],rfl,.cons (.inl rfl) .nil⟩
  ·cases h
 | .b,l,x,r,h=>by
  simp only [gf]at h
  split at h
  ·simp only [Option.some.injEq,Prod.mk.injEq]at h
   obtain⟨rfl,rfl⟩:=h
   exact⟨[_],rfl,.cons (.inl rfl) .nil⟩
  ·cases h
 | .s,l,x,r,h=>by
  simp only [gf]at h
  split at h
  ·simp only [Option.some.injEq,Prod.mk.injEq]at h
   obtain⟨rfl,rfl⟩:=h
   exact⟨[_],rfl,.cons (.inl rfl) .nil⟩
  ·cases h
 | .row e,l,x,r,h=>by
  simp only [gf]at h
  split at h
  ·split at h
   ·rename_i he
    subst he
    simp only [Option.some.injEq,Prod.mk.injEq]at h
    obtain⟨rfl,rfl⟩:=h
    exact⟨[_],rfl,.cons (.inl rfl) .nil⟩
   ·cases h
  ·simp only [Option.some.injEq,Prod.mk.injEq]at h
   obtain⟨rfl,rfl⟩:=h
   exact⟨[_],rfl,.cons (.inr ⟨.inl rfl,_,rfl⟩) .nil⟩
  ·simp only [Option.some.injEq,Prod.mk.injEq]at h
   obtain⟨rfl,rfl⟩:=h
   exact⟨[_],rfl,.cons (.inr ⟨.inr (.inl rfl),_,rfl⟩) .nil⟩
  ·simp only [Option.some.injEq,Prod.mk.injEq]at h
   obtain⟨rfl,rfl⟩:=h
   exact⟨[_],rfl,.cons (.inr ⟨.inr (.inr rfl),_,rfl⟩) .nil⟩
  ·cases h
 | .nil,l,x,r,h=>by
  simp only [gf,Option.some.injEq,Prod.mk.injEq]at h
  obtain⟨_,rfl⟩:=h
  exact⟨[],rfl,.nil⟩
 | .cons a b,l,x,r,h=>by
  simp only [gf,Option.bind_eq_some_iff,Option.some.injEq,Prod.mk.injEq]at h
  obtain⟨⟨p1,p2⟩,hp,⟨q1,q2⟩,hq,rfl,rfl⟩:=h
  obtain⟨l1,rfl,h1⟩:=zk hp
  obtain⟨l2,h3,h2⟩:=zk hq
  simp only at h3
  subst h3
  exact⟨l1++l2,by simp,h1.append h2⟩
theorem JE {s:Sh} {l:List SV} {x:aG s} (h:cU s l=some x):All2 Nm l (im s x):=by
 unfold cU at h
 simp only [Option.bind_eq_some_iff]at h
 obtain⟨⟨p1,p2⟩,hp,h⟩:=h
 obtain⟨l1,rfl,h1⟩:=zk hp
 cases p2 with
 |cons _ _=>simp at h
 |nil=>simp only [Option.some.injEq]at h;subst h;simpa using h1
section
variable {ρ:Type} {r:ρ}
theorem wx {ρ:Type} {r:ρ} {c:Prop} [Decidable c] {x:Option ρ} (h:(if c then none else x)=some r):x=some r:=by
 split at h
 ·cases h
 ·exact h
theorem pe {pr own:List (Nat×Bool)}:∀{l es:List SV} {cs:List AV} {i:Nat} {k:List SV→Option ρ},Nx own i l cs→All2 Nm l es→mE (aA ρ) pr own es i k=some r→∃l2,All2 RC l2 cs∧k l2=some r
 | [],es,cs,i,k,h,hn,hk=>by
  cases hn
  cases cs with
  |nil=>exact⟨[],.nil,hk⟩
  |cons _ _=>exact h.elim
 |v::vs,es,cs,i,k,h,hn,hk=>by
  cases cs with
  |nil=>exact h.elim
  |cons w ws=>
   obtain⟨h1,h2⟩:=h
   cases hn with
   | @cons _ e _ es hn1 hn2=>
    unfold mE at hk
    cases hl:own.lookup i with
    |none=>
     rw [hl]at h1 hk
     obtain⟨l2,h3,h4⟩:=pe h2 hn2 hk
     refine⟨_,.cons ?_ h3,h4⟩
     have h1:RC v w:=h1
     rcases hn1 with rfl|⟨hv,e',rfl⟩
     ·exact h1
     ·rcases hv with rfl|rfl|rfl
      ·exact .inr ⟨rfl,.inl h1.1.symm⟩
      ·exact .inr ⟨rfl,.inr h1.1.symm⟩
      ·exact .inr ⟨rfl,h1⟩
    |some nl=>
     rw [hl]at h1 hk
     simp only at hk
     rcases h1 with⟨s,ts,es',rfl,hne,rfl,hr⟩|⟨rfl,hv,hw⟩
     ·have he:e= .ls s ts:=by
       rcases hn1 with h|⟨h|h|h,_⟩
       ·exact h.symm
       ·cases h
       ·cases h
       ·cases h
      subst he
      simp only at hk
      cases nl
      ·simp only [Bool.false_eq_true,if_false]at hk
       obtain⟨l2,h3,h4⟩:=pe h2 hn2 hk
       exact⟨.ow s ts::l2,.cons ⟨es',rfl,hr⟩ h3,h4⟩
      ·simp only [if_true]at hk
       rcases ef hk with⟨h5,_⟩|⟨_,hk⟩
       ·exact absurd (by simpa using h5) (hne rfl)
       ·have hk:=wx hk
        obtain⟨l2,h3,h4⟩:=pe h2 hn2 hk
        exact⟨.ow s ts::l2,.cons ⟨es',rfl,hr⟩ h3,h4⟩
     ·rcases hn1 with h|⟨_,e',rfl⟩
      ·subst h;rcases hv with rfl|rfl|rfl<;>simp at hk
      ·simp only [if_true]at hk
       rcases ef hk with⟨_,hk⟩|⟨h5,_⟩
       ·have hk:=wx hk
        obtain⟨l2,h3,h4⟩:=pe h2 hn2 hk
        exact⟨.nz::l2,.cons hw h3,h4⟩
       ·simp at h5
theorem ZQ {c:Ctr} {l:List SV} {y:aG c.t} {ws:List AV} (hd:cU c.t l=some y) (hr:Nx c.own 0 l (ws.flatMap bY)) (hs:bz ws=c.rs):RR c y (fh ws):=fun ρ pr k r hk=>by
 unfold LF at hk
 obtain⟨l2,h1,h2⟩:=pe hr (JE hd) hk
 obtain⟨vs,h3,h4⟩:=lZ hs h1
 rw [h3]at h2
 exact⟨_,wo h4,h2⟩
theorem nW {own:List (Nat×Bool)} (i:Nat):(own.map (·.1)).contains i=(own.lookup i).isSome:=by
 induction own with
 |nil=>rfl
 |cons p l ih=>
  obtain⟨a,b⟩:=p
  simp only [List.map_cons,List.contains_cons,List.lookup_cons,ih]
  cases h:i==a<;>simp
theorem Ds {own:List (Nat×Bool)}:∀{cs:List SV} {ws:List AV} (i:Nat),All2 RC cs ws→nR own cs i=eA (own.map (·.1)) i ws
 | [],_,i,h=>by cases h;rfl
 |c::cs,_,i,h=>by
  cases h with
  | @cons _ w _ ws h1 h2=>
   simp only [nR,eA,Ds (i+1) h2,nW]
   congr 1
   cases hl:own.lookup i with
   |none=>simp only [Option.isSome_none];cases w<;>rfl
   |some nl=>
    simp only [Option.isSome_some]
    cases c with
    |a u=>obtain⟨rfl,_⟩:=h1;cases u<;>rfl
    |ls s ts=>rcases h1 with⟨es,rfl,_⟩|⟨_,rfl|rfl⟩<;>rfl
    |ri s ts i off=>obtain⟨es,rfl,_⟩:=h1;rfl
    |ow s ts=>obtain⟨es,rfl,_⟩:=h1;rfl
    |nz=>rcases h1 with rfl|rfl<;>rfl
    |_=>exact h1.elim
theorem xz (own:List Nat):∀(a b:List AV) (i:Nat),eA own i (a++b)=eA own i a++eA own (i+a.length) b
 | [],b,i=>rfl
 |x::a,b,i=>by
  simp only [List.cons_append,eA,xz own a b,List.append_assoc,List.length_cons]
  congr 3
  omega
theorem vH (own:List Nat):∀(ws:List AV) (i:Nat),dK own i ws=eA own i (ws.flatMap bY)
 | [],i=>rfl
 |w::ws,i=>by
  simp only [dK,List.flatMap_cons,xz,vH own ws]
  cases w with
  |ag cs=>rfl
  |_=>simp [pE,eA,bY,kV]
variable {h hk0:bJ} {h' hk':List (Nat×BK)}
theorem LS (hh:RH h h') (hhk:RH hk0 hk') {own:Option Bool} {v:SV} {w:AV} {k:SV→Option ρ} (hv:RC v w) (hk:Bx (aA ρ) h hk0 own v k=some r):∃v1 w1,jy h' hk' own.isSome w=some w1∧RO own v1 w1∧k v1=some r:=by
  cases own with
  |none=>
    simp only [Bx]at hk
    obtain⟨v1,w1,h1,h2,h3⟩:=oB hhk hv hk
    refine⟨v1,w1,?_,h2,h3⟩
    unfold jy
    cases w<;>first|exact h1|skip
  | some nl=>
    simp only [Bx]at hk
    split at hk
    · rename_i sz b lo len
      obtain⟨rfl,_⟩:=hv
      obtain⟨v1,w1,h1,h2,h3⟩:=ll hh (v:=.a (.sl sz b lo len)) ⟨rfl,rfl⟩ hk
      split at h3
      · rename_i s ts
        have hw1:∃es,w1= .ls s.sz es∧All2 (RE s) ts es:=by
          rcases h2 with h4|⟨_,h4|h4⟩
          · exact h4
          · subst h4;simp only [bL]at h1;split at h1<;>first|(split at h1<;>simp at h1;done)|(simp at h1;done)
          · subst h4;simp only [bL]at h1;split at h1<;>first|(split at h1<;>simp at h1;done)|(simp at h1;done)
        obtain⟨es,rfl,hr⟩:=hw1
        have hout:jy h' hk' true (.sl sz b lo len)=some (.ow s.sz es):=by
          unfold jy
          simp only [if_true,h1]
        cases nl
        · simp only [Bool.false_eq_true,if_false]at h3
          exact⟨_,_,hout,.inl ⟨s,ts,es,rfl,(fun h=>by cases h),rfl,hr⟩,h3⟩
        · simp only [if_true]at h3
          obtain⟨h4,h3⟩:=pU h3
          exact⟨_,_,hout,.inl ⟨s,ts,es,rfl,(fun _ he=>by subst he;simp at h4),rfl,hr⟩,h3⟩
      · cases h3
    · obtain⟨rfl,_⟩:=hv
      split at hk
      · rename_i hnl
        exact⟨_,.ns,rfl,.inr ⟨hnl,.inl rfl,.inl rfl⟩,hk⟩
      · cases hk
    · obtain⟨rfl,_⟩:=hv
      split at hk
      · rename_i hnl
        exact⟨_,.ez,rfl,.inr ⟨hnl,.inr (.inl rfl),.inr rfl⟩,hk⟩
      · cases hk
    · split at hk
      · rename_i hnl
        rcases hv with rfl|rfl
        · exact⟨_,.ns,rfl,.inr ⟨hnl,.inr (.inr rfl),.inl rfl⟩,hk⟩
        · exact⟨_,.ez,rfl,.inr ⟨hnl,.inr (.inr rfl),.inr rfl⟩,hk⟩
      · cases hk
    · cases hk
theorem AR (hh:RH h h') (hhk:RH hk0 hk') {own:List (Nat×Bool)}:∀{cs:List SV} {ws:List AV} {i:Nat} {k:List SV→Option ρ},All2 RC cs ws→tx (aA ρ) h hk0 own cs i k=some r→
  ∃l l',eP h' hk' (own.map (·.1)) i ws=some l'∧Nx own i l l'∧k l=some r
 | [],_,i,k,hc,hk=>by cases hc;exact⟨[],[],rfl,trivial,hk⟩
 |c::cs,_,i,k,hc,hk=>by
  cases hc with
  |cons h1 h2=>
   unfold tx at hk
   obtain⟨v1,w1,h3,h4,h5⟩:=LS hh hhk h1 hk
   obtain⟨l,l',h6,h7,h8⟩:=AR hh hhk h2 h5
   refine⟨v1::l,w1::l',?_,⟨h4,h7⟩,h8⟩
   simp only [eP,nW,h3,h6]
theorem AS {own:List Nat}:∀{a b l:List AV} {i:Nat},eP h' hk' own i (a++b)=some l→∃l1 l2,l=l1++l2∧eP h' hk' own i a=some l1∧eP h' hk' own (i+a.length) b=some l2∧l1.length=a.length
 | [],b,l,i,h=>⟨[],l,rfl,rfl,h,rfl⟩
 |x::a,b,l,i,h=>by
  simp only [List.cons_append,eP]at h
  split at h
  ·rename_i u us hu hus
   simp at h
   subst h
   obtain⟨l1,l2,rfl,h1,h2,h3⟩:=AS hus
   refine⟨u::l1,l2,rfl,?_,?_,by simp [h3]⟩
   ·simp only [eP,hu,h1]
   ·rw [List.length_cons,show i+(a.length+1)=i+1+a.length from by omega];exact h2
  ·cases h
theorem JF {b:Bool} {w w1:AV} (h:jy h' hk' b w=some w1):(∀l,w1≠ .ag l)∧(∀l,w1≠ .tp l):=pO h
theorem qh {own:List Nat}:∀{ws:List AV} {l:List AV} {i:Nat},(∀w∈ws,∀x,w≠ .tp x)→eP h' hk' own i (ws.flatMap bY)=some l→∃ws',eu h' hk' own i ws=some ws'∧ws'.flatMap bY=l∧bz ws'=bz ws
 | [],l,i,_,h=>by simp only [List.flatMap_nil,eP]at h;simp at h;subst h;exact⟨[],rfl,rfl,rfl⟩
 |w::ws,l,i,hn,h=>by
  simp only [List.flatMap_cons]at h
  obtain⟨l1,l2,rfl,h1,h2,h3⟩:=AS h
  have hn2:∀w∈ws,∀x,w≠ .tp x:=fun w hw=>hn w (List.mem_cons_of_mem _ hw)
  cases w with
  |ag cs=>
   obtain⟨ws',h4,h5,h6⟩:=qh hn2 h2
   refine⟨.ag l1::ws',?_,?_,?_⟩
   ·simp only [bY]at h1
    have h4':eu h' hk' own (i+kV (.ag cs)) ws=some ws':=h4
    simp only [eu,mq,h1,h4',Option.map_some]
   ·simp only [List.flatMap_cons,h5,bY]
   ·simp only [bz,h6]
    have h3':l1.length=cs.length:=h3
    rw [h3']
  |tp x=>exact absurd rfl (hn (.tp x) (List.mem_cons_self ..) x)
  |_=>
   obtain⟨ws',h4,h5,h6⟩:=qh hn2 h2
   simp only [bY,eP]at h1
   split at h1
   ·rename_i u us hu hus
    simp at hus h1
    subst hus h1
    have hsh:=JF hu
    refine⟨u::ws',?_,?_,?_⟩
    ·simp only [bY,List.length_singleton]at h4
     simp only [eu,mq,hu,kV,h4]
    ·simp only [List.flatMap_cons,h5]
     congr 1
     cases u<;>first|rfl|exact absurd rfl (hsh.1 _)
    ·have e1:bz (u::ws')=(false,1)::bz ws':=by cases u<;>first|rfl|exact absurd rfl (hsh.1 _)
     rw [e1,h6]
     rfl
   ·cases h1
end
def az (P:Program) (f:FuncId) (c:Ctr):Prop:=∀(as:List AV) x y,bz as=c.as→RE c.s x (as.flatMap bY)→c.F x=some y→lN P f∧∃w,fy P f as w∧RR c y w
open Classical in
noncomputable def qj (P:Program) (ct:FuncId→Option Ctr) (f:FuncId) (as:List AV):Option AV:=match ct f with
 |some c=>if h:∃w,lN P f∧fy P f as w∧∃x y,bz as=c.as∧RE c.s x (as.flatMap bY)∧c.F x=some y∧RR c y w then some (Classical.choose h)else none
 |none=>none
def LU (P:Program) (f:FuncId) (as:List AV) (h:List (Nat×BK)) (nx:Nat) (e:Ef):Prop:=
 ∀(I:Nat→Prop) (M:MU) (w:World) (vals:Array Value),SimH I M h nx w→All2 (RpV I M w) as vals.toList→
  lN P f∧∀R:Ending→World→Prop,(∀v I' M' w',Did I M nx w e false v I' M' w'→R (.returned v) w')→Calls P f vals w R
structure StOk (P:Program) (f:FuncId) (w:Wrt):Prop where
 row:∀(h:List (Nat×BK)) nx b t ts es ts',aN h b= .rw false w.s.sz es t→All2 (RE w.s) ts es→w.F ts=some ts'→
  ∃es',All2 (RE w.s) ts' es'∧LU P f [.sl w.s.sz b 0 es.length,.fn w.c []] h nx ⟨.tp [],put h b (.rw false w.s.sz es' t),nx⟩
 nor:∀(h:List (Nat×BK)) nx,LU P f [.ns,.fn w.c []] h nx ⟨.tp [],h,nx⟩
def He (P:Program) (f:FuncId) (w:Wrt) (as:List AV) (h:List (Nat×BK)) (nx:Nat) (e:Ef):Prop:=
 LU P f as h nx e∧((∃b t ts es ts' es',as= [.sl w.s.sz b 0 es.length,.fn w.c []]∧aN h b= .rw false w.s.sz es t∧All2 (RE w.s) ts es∧w.F ts=some ts'∧All2 (RE w.s) ts' es'∧e=⟨.tp [],put h b (.rw false w.s.sz es' t),nx⟩)∨
  (as= [.ns,.fn w.c []]∧e=⟨.tp [],h,nx⟩))
open Classical in
noncomputable def Dt (P:Program) (st:FuncId→Option Wrt) (f:FuncId) (as:List AV) (h:List (Nat×BK)) (nx:Nat):Option Ef:=match st f with
 |some w=>if h:∃e,He P f w as h nx e then some (Classical.choose h)else none
 |none=>none
theorem FN {s:Sh}:∀{ts ts':List (aG s)} {es:List (List AV)},All2 (RE s) ts es→All2 (RE s) ts' es→ts=ts'
 |_,_,[],h1,h2=>by cases h1;cases h2;rfl
 |_,_,e::es,h1,h2=>by
  cases h1 with
  |cons a1 a2=>cases h2 with
   |cons b1 b2=>rw [tz a1 b1,FN a2 b2]
theorem QX {P:Program} {st:FuncId→Option Wrt} {f:FuncId} {w:Wrt} (hf:st f=some w) (hw:StOk P f w) (h:List (Nat×BK)) (nx b:Nat) (t:TypeId) (ts:List (aG w.s)) (es:List (List AV)) (ts':List (aG w.s))
  (h1:aN h b= .rw false w.s.sz es t) (h2:All2 (RE w.s) ts es) (h3:w.F ts=some ts'):∃es',All2 (RE w.s) ts' es'∧Dt P st f [.sl w.s.sz b 0 es.length,.fn w.c []] h nx=some ⟨.tp [],put h b (.rw false w.s.sz es' t),nx⟩:=by
 obtain⟨es',h4,h5⟩:=hw.row h nx b t ts es ts' h1 h2 h3
 have hex:∃e,He P f w [.sl w.s.sz b 0 es.length,.fn w.c []] h nx e:=⟨_,h5,.inl ⟨b,t,ts,es,ts',es',rfl,h1,h2,h3,h4,rfl⟩⟩
 unfold Dt
 rw [hf]
 simp only
 rw [dif_pos hex]
 obtain⟨_,h6⟩:=Classical.choose_spec hex
 rcases h6 with⟨b2,t2,ts2,es2,ts2',es2',e1,e2,e3,e4,e5,e6⟩|⟨e1,_⟩
 ·simp only [List.cons.injEq,AV.sl.injEq,true_and,and_true]at e1
  obtain⟨rfl,-⟩:=e1
  rw [h1]at e2
  simp only [BK.rw.injEq,true_and]at e2
  obtain⟨rfl,rfl⟩:=e2
  have:=FN h2 e3
  subst this
  rw [h3]at e4
  injection e4 with e4
  subst e4
  exact⟨es2',e5,congrArg some e6⟩
 ·simp at e1
theorem QY {P:Program} {st:FuncId→Option Wrt} {f:FuncId} {w:Wrt} (hf:st f=some w) (hw:StOk P f w) (h:List (Nat×BK)) (nx:Nat):Dt P st f [.ns,.fn w.c []] h nx=some ⟨.tp [],h,nx⟩:=by
 have hex:∃e,He P f w [.ns,.fn w.c []] h nx e:=⟨_,hw.nor h nx,.inr ⟨rfl,rfl⟩⟩
 unfold Dt
 rw [hf]
 simp only
 rw [dif_pos hex]
 obtain⟨_,h6⟩:=Classical.choose_spec hex
 rcases h6 with⟨b2,t2,ts2,es2,ts2',es2',e1,_⟩|⟨_,e1⟩
 ·simp at e1
 ·exact congrArg some e1
noncomputable def aO (P:Program) (code:FuncId→Option CF) (ct:FuncId→Option Ctr) (st:FuncId→Option Wrt) (own:List Nat) (kl pf:List FuncId):Cfg:={code:=code,own:=fun _=>own,inl:=fun f=>(ct f).isNone && !pf.contains f,ext:=qj P ct,kl:=fun f=>kl.contains f,wr:=Dt P st}
theorem QZ {P:Program} {ct:FuncId→Option Ctr} (hc:∀f c,ct f=some c→az P f c) {f:FuncId} {c:Ctr} {as:List AV} {x:aG c.s} {y:aG c.t} (h1:ct f=some c) (h2:bz as=c.as) (h3:RE c.s x (as.flatMap bY)) (h4:c.F x=some y):
  ∃w,qj P ct f as=some w∧RR c y w:=by
 obtain⟨he,w,hw,hr⟩:=hc f c h1 as x y h2 h3 h4
 have hex:∃w,lN P f∧fy P f as w∧∃x y,bz as=c.as∧RE c.s x (as.flatMap bY)∧c.F x=some y∧RR c y w:=⟨w,he,hw,x,y,h2,h3,h4,hr⟩
 unfold qj
 rw [h1]
 simp only
 rw [dif_pos hex]
 obtain⟨_,_,x',y',_,h5,h6,h7⟩:=Classical.choose_spec hex
 refine⟨_,rfl,?_⟩
 have hx:=tz h3 h5
 subst hx
 rw [h4]at h6
 injection h6 with h6
 subst h6
 exact h7
theorem Ra {P:Program} {code:FuncId→Option CF} {ct:FuncId→Option Ctr} {st:FuncId→Option Wrt} {own:List Nat} {kl pf:List FuncId} (ht:∀f c,code f=some c→∃fn live,P.funcs[f]? =some fn∧au P live fn=some c):CfgOk P (aO P code ct st own kl pf):=
 ⟨ht,fun f as r h=>by
  have h:qj P ct f as=some r:=h
  unfold qj at h
  split at h
  ·split at h
   ·rename_i hex
    injection h with h
    subst h
    obtain⟨h1,h2,_⟩:=Classical.choose_spec hex
    exact⟨h1,h2⟩
   ·cases h
  ·(cases h),fun f as h nx e he=>by
  have he:Dt P st f as h nx=some e:=he
  unfold Dt at he
  split at he
  ·split at he
   ·rename_i hex
    injection he with he
    subst he
    exact(Classical.choose_spec hex).1
   ·cases he
  ·cases he⟩
theorem ZR {P:Program} {T:Tbl} {own:List Nat} (hc:∀f c,T.ct f=some c→az P f c) (hst:∀f w,T.st f=some w→StOk P f w) (hl:∀f c,T.code f=some c→iw T (aO P T.code T.ct T.st own T.hint.kl T.hint.pf) c.code):TG T (aO P T.code T.ct T.st own T.hint.kl T.hint.pf) where
 inl:=fun f=>rfl
 noe:=fun f as h=>by show qj P T.ct f as=none;unfold qj;rw [h]
 code:=fun f c h=>h
 kl:=fun f=>rfl
 ext:=fun f c as x y h1 h2 h3 h4=>QZ hc h1 h2 h3 h4
 lps:=hl
 noc:=fun f h=>h
 row:=fun f w h=>QX h (hst f w h)
 nor:=fun f w h=>QY h (hst f w h)
theorem SP {P:Program} {T:Tbl} {n:Nat} {f:FuncId} {cf:CF} {c:Ctr} (hm:P.follows .mixedOrders=true) (ht:∀f c,T.code f=some c→∃fn live,P.funcs[f]? =some fn∧au P live fn=some c)
  (hg:TG T (aO P T.code T.ct T.st (c.own.map (·.1)) T.hint.kl T.hint.pf)) (hcode:T.code f=some cf) (hct:T.ct f=none)
  (hf:∀x,LI aA T n cf c.s c.t c.as x c.own c.rs=c.F x):az P f c:=by
 intro as x y h1 h2 h3
 have hk:=hf x
 rw [h3]at hk
 unfold LI at hk
 split at hk
 ·cases hk
 ·rename_i hn
  obtain⟨vs,h4,h5⟩:=lZ h1 (gI h2)
  rw [h4]at hk
  have hla:as.length=c.as.length:=by
   rw [←h1]
   have aux:∀l:List AV,l.length=(bz l).length:=by
    intro l
    induction l with
    |nil=>rfl
    |cons w l ih=>cases w<;>simp [bz,ih]
   exact aux as
  have hn1:¬cf.np<as.length:=by rw [hla];exact fun h=>hn (.inl h)
  have hn2:as.length≤fW:=by rw [hla];exact Nat.not_lt.1 fun h=>hn (.inr h)
  have hs:RS {tm:=iN ((some vs).getD []),h:=[],nx:=0,bs:=0} {tm:=fj as,h:=[],nx:=0,bs:=0}:=
   ⟨fun t=>nT (h5.mono fun _ _ h=>h.toV) 0 t,fun t ht=>nU as 0 t (by omega),.nil,rfl,rfl⟩
  obtain⟨ex,S1,S1',h6,h7,h8⟩:=wv hg n _ _ _ _ _ hk hs (hg.lps f cf hcode)
  have hfin:(ex= .nm∨ex= .rt)∧(dH (aA (aG c.t)) S1 cf.res fun vs=>
   if iO vs=c.rs∧eQ (nR c.own (vs.flatMap lh) 0)then
    tx (aA (aG c.t)) S1.h (lY S1.h (nR c.own (vs.flatMap lh) 0)) c.own (vs.flatMap lh) 0 fun l=>cU c.t l
   else none)=some y:=by
   cases ex with
   |nm=>exact⟨.inl rfl,h6⟩
   |rt=>exact⟨.inr rfl,h6⟩
   |xt i=>cases h6
  obtain⟨us,ws,h9,h10,h11⟩:=gX h7 hfin.2
  split at h11
  ·rename_i hc2
   have hcells:All2 RC (us.flatMap lh) (ws.flatMap bY):=h10.flat fun a b hab=>AM hab
   have hhand:nR c.own (us.flatMap lh) 0=dK (c.own.map (·.1)) 0 ws:=by rw [vH];exact Ds 0 hcells
   rw [hhand]at h11 hc2
   obtain⟨l,l',h12,h13,h14⟩:=AR h7.h (pc h7.h _) hcells h11
   obtain⟨ws',h15,h16,h17⟩:=qh (fun w hw=>by
    have aux:∀{us:List SV} {ws:List AV},All2 RW us ws→∀w∈ws,∀x,w≠ .tp x:=by
     intro us ws h
     induction h with
     |nil=>intro w hw;cases hw
     |cons h1 _ ih=>
      intro w hw
      rcases List.mem_cons.1 hw with rfl|hw
      ·exact vj h1
      ·exact ih w hw
    exact aux h10 w hw) h12
   have hrr:RR c y (fh ws'):=ZQ h14 (by rw [h16];exact h13) (by rw [h17,←qc h10];exact hc2.1)
   obtain⟨m,hm8⟩:=h8
   have hev:Bn (aO P T.code T.ct T.st (c.own.map (·.1)) T.hint.kl T.hint.pf) m f as=some (fh ws'):=by
    unfold Bn lS
    have he:(aO P T.code T.ct T.st (c.own.map (·.1)) T.hint.kl T.hint.pf).ext f as=none:=by
     show qj P T.ct f as=none
     unfold qj
     rw [hct]
    have hco:(aO P T.code T.ct T.st (c.own.map (·.1)) T.hint.kl T.hint.pf).code f=some cf:=hcode
    have how:(aO P T.code T.ct T.st (c.own.map (·.1)) T.hint.kl T.hint.pf).own f=c.own.map (·.1):=rfl
    rw [he,hco]
    simp only
    rw [if_neg hn1,hm8 m (Nat.le_refl _),how]
    rcases hfin.1 with rfl|rfl
    ·simp only [h9]
     rw [if_pos hc2.2,h15]
     rfl
    ·simp only [h9]
     rw [if_pos hc2.2,h15]
     rfl
   obtain⟨h18,h19⟩:=GL hm (Ra ht) hev
   exact⟨h18,_,h19,hrr⟩
  ·cases h11
theorem AU {α:Type}:∀(l:List (Nat×CF)) (n:Nat),look? l n=find l n
 | [],_=>rfl
 |(k,c)::l,n=>by
  simp only [look?,find]
  split
  ·rfl
  ·exact AU (α:=α) l n
def ax (tb:List (Nat×CF)):List (List Nat×CC):=tb.flatMap fun q=>cg q.2.code
def an (g:Cfg) (all:List (List Nat×CC)):List (Nat×Lps)→Prop
 | []=>True
 |(m,L)::l=>(∃live b,all.filter (fun p=>eC p.1==m)= [(live,b)]∧Hb g L live b)∧an g all l
def aJ (P:Program):List (Nat×Ctr)→Prop
 | []=>True
 |(f,c)::l=>az P f c∧aJ P l
theorem Du {P:Program}:∀{l:List (Nat×Ctr)} {f:Nat} {c:Ctr},aJ P l→look? l f=some c→az P f c
 | [],_,_,_,h=>by simp [look?]at h
 |(k,c0)::l,f,c,hc,h=>by
  simp only [look?]at h
  split at h
  ·rename_i hk;subst hk;injection h with h;subst h;exact hc.1
  ·exact Du hc.2 h
def qm (P:Program):List (Nat×Wrt)→Prop
 | []=>True
 |(f,c)::l=>StOk P f c∧qm P l
def Dv:List (Nat×Wrt):=[]
theorem pg {P:Program}:qm P Dv:=trivial
theorem Dw {P:Program}:∀{l:List (Nat×Wrt)} {f:Nat} {c:Wrt},qm P l→look? l f=some c→StOk P f c
 | [],_,_,_,h=>by simp [look?]at h
 |(k,c0)::l,f,c,hc,h=>by
  simp only [look?]at h
  split at h
  ·rename_i hk;subst hk;injection h with h;subst h;exact hc.1
  ·exact Dw hc.2 h
theorem Dx {g:Cfg} {all:List (List Nat×CC)}:∀{l:List (Nat×Lps)} {m:Nat} {L:Lps},an g all l→look? l m=some L→∃live b,all.filter (fun p=>eC p.1==m)= [(live,b)]∧Hb g L live b
 | [],_,_,_,h=>by simp [look?]at h
 |(k,c0)::l,f,c,hc,h=>by
  simp only [look?]at h
  split at h
  ·rename_i hk;subst hk;injection h with h;subst h;exact hc.1
  ·exact Dx hc.2 h
theorem JG {tb:List (Nat×CF)} {f:Nat} {c:CF} (h:look? tb f=some c):(f,c)∈tb:=by
 induction tb with
 |nil=>simp [look?]at h
 |cons p l ih=>
  obtain⟨k,c0⟩:=p
  simp only [look?]at h
  split at h
  ·rename_i hk;subst hk;injection h with h;subst h;exact List.mem_cons_self ..
  ·exact List.mem_cons_of_mem _ (ih h)
theorem eJ:∀{c:CC} {live:List Nat} {b:CC},(live,b)∈cg c→∀p∈cg b,p∈cg c
 | .sq a d,live,b,h,p,hp=>by
  simp only [cg,List.mem_append]at h⊢
  rcases h with h|h
  ·exact .inl (eJ h p hp)
  ·exact .inr (eJ h p hp)
 | .cd _ a d,live,b,h,p,hp=>by
  simp only [cg,List.mem_append]at h⊢
  rcases h with h|h
  ·exact .inl (eJ h p hp)
  ·exact .inr (eJ h p hp)
 | .bk _ d,live,b,h,p,hp=>by
  simp only [cg]at h⊢
  exact eJ h p hp
 | .lp l d,live,b,h,p,hp=>by
  simp only [cg,List.mem_cons]at h⊢
  rcases h with h|h
  ·injection h with h1 h2;subst h2;exact .inr hp
  ·exact .inr (eJ h p hp)
 | .sk,_,_,h,_,_=>by simp [cg]at h
 | .rg _,_,_,h,_,_=>by simp [cg]at h
 | .rd _,_,_,h,_,_=>by simp [cg]at h
 | .xt _,_,_,h,_,_=>by simp [cg]at h
 | .rt,_,_,h,_,_=>by simp [cg]at h
 | .no,_,_,h,_,_=>by simp [cg]at h
theorem JH {g:Cfg} {T:Tbl} {tb:List (Nat×CF)} {lps:List (Nat×Lps)} (hlp:an g (ax tb) lps) (ht:T.lp=look? lps) {c:CC} (hc:∀p∈cg c,p∈ax tb):iw T g c:=fun p hp L hL=>by
 rw [ht]at hL
 obtain⟨live,b,h1,h2⟩:=Dx hlp hL
 have:p∈(ax tb).filter (fun q=>eC q.1==eC p.1):=List.mem_filter.2 ⟨hc p hp,by simp⟩
 rw [h1,List.mem_singleton]at this
 subst this
 exact h2
section
variable {P:Program} {tb:List (Nat×CF)} {H:Hint} {ct:List (Nat×Ctr)} {wt:List (Nat×Wrt)} {own:List Nat} {lps:List (Nat×Lps)}
theorem JI (hct:aJ P ct) (hwt:qm P wt) (hlp:an (aO P (look? tb) (look? ct) (look? wt) own H.kl H.pf) (ax tb) lps):TG ⟨look? tb,H,look? ct,look? lps,look? wt⟩ (aO P (look? tb) (look? ct) (look? wt) own H.kl H.pf):=
 ZR (fun f c h=>Du hct h) (fun f w h=>Dw hwt h) fun f c h=>JH hlp rfl fun p hp=>List.mem_flatMap.2 ⟨_,JG h,hp⟩
theorem aP (hct:aJ P ct) (hwt:qm P wt) (hlp:an (aO P (look? tb) (look? ct) (look? wt) own H.kl H.pf) (ax tb) lps) {m n:Nat} {live:List Nat} {b:CC} {ps:List PS} {os:List (EX×PS)} {st:oz ps→Option (oz ps⊕tv os)}
  (hm:decide (fW≤eC live)=true) (hu:(ax tb).filter (fun p=>eC p.1==m)= [(live,b)]) (hr:∀x,LR ⟨look? tb,H,look? ct,look? lps,look? wt⟩ n live b ps os (vc ps x)=st x):
  an (aO P (look? tb) (look? ct) (look? wt) own H.kl H.pf) (ax tb) ((m,⟨ps,os,aW st⟩)::lps):=by
 have hin:(live,b)∈ax tb:=by
  have:(live,b)∈(ax tb).filter (fun p=>eC p.1==m):=by rw [hu];exact List.mem_singleton.2 rfl
  exact(List.mem_filter.1 this).1
 have hsub:∀p∈cg b,p∈ax tb:=fun p hp=>by
  obtain⟨q,hq,h⟩:=List.mem_flatMap.1 hin
  exact List.mem_flatMap.2 ⟨q,hq,eJ h p hp⟩
 exact⟨⟨live,b,hu,ZP (JI hct hwt hlp) (of_decide_eq_true hm) (JH hlp rfl hsub) hr⟩,hlp⟩
theorem aB (hm:P.follows .mixedOrders=true) (ht:aV P tb) (hct:aJ P ct) (hwt:qm P wt) {f n:Nat} {cf:CF} {c:Ctr} (hlp:an (aO P (look? tb) (look? ct) (look? wt) (c.own.map (·.1)) H.kl H.pf) (ax tb) lps) (hcode:look? tb f=some cf) (hn:look? ct f=none)
  (hf:∀x,LI aA ⟨look? tb,H,look? ct,look? lps,look? wt⟩ n cf c.s c.t c.as x c.own c.rs=c.F x):az P f c:=
 SP (T:=⟨look? tb,H,look? ct,look? lps,look? wt⟩) hm (fun f c h=>nP ht (by rw [←AU (α:=Unit)];exact h)) (JI hct hwt hlp) hcode hn hf
end
def Ny (T:TypeId→List AV→Prop):List Field→List AV→Prop
 | [],cs=>cs= []
 |f::fs,cs=>∃a b,cs=a++b∧T f.type a∧Ny T fs b
def Ty (P:Program):Nat→TypeId→List AV→Prop
 |0,_,_=>False
 |n+1,t,cs=>match P.underlying t with
  |some .bool=>∃b,cs= [.bl b]
  |some (.int k)=>∃m,cs= [.int k m]∧(Lit.int k m).wf=true
  |some .string=>∃s,cs= [.st s]∧s.size≤maxLen
  |some (.slice e)=>cs= [.ns]∨∃es,cs= [.ls (P.cellsOf e) es]∧es.length≤maxLen∧∀x∈es,x.length=P.cellsOf e∧Ty P n e x
  |some (.struct fs)=>Ny (Ty P n) fs.toList cs
  |_=>False
def nX (P:Program):List Field→Nat→Nat→Bool
 | [],off,n=>off==n
 |f::fs,off,n=>f.offset==off && nX P fs (off+P.cellsOf f.type) n
def gY (P:Program):Nat→TypeId→Bool
 |0,_=>false
 |n+1,t=>match P.underlying t with
  |some .bool|some (.int _)|some .string=>true
  |some (.slice e)=>decide (0<P.cellsOf e) && gY P n e
  |some (.struct fs)=>nX P fs.toList 0 (P.cellsOf t) && fs.toList.all fun f=>gY P n f.type
  |_=>false
def iq (w:World):Nat→Prop:=fun b=>b<w.heap.size
theorem qo {α β:Type} {f:α→Option β}:∀{l:List α} {r:List β},l.mapM f=some r→All2 (fun a b=>f a=some b) l r
 | [],r,h=>by simp at h;subst h;exact .nil
 |a::l,r,h=>by
  simp only [List.mapM_cons,Option.bind_eq_bind,Option.bind_eq_some_iff]at h
  obtain⟨b,hb,l',hl,h⟩:=h
  simp only [Option.pure_def,Option.some.injEq]at h
  subst h
  exact .cons hb (qo hl)
theorem All2.range {β:Type} {R:Nat→β→Prop}:∀{n:Nat} {r:List β},All2 R (List.range n) r→r.length=n∧∀i (b:β),r[i]? =some b→R i b:=by
 intro n r h
 refine⟨by simpa using h.length.symm,fun i b hb=> ?_⟩
 have hl:i<n:=by
  have:=(List.getElem?_eq_some_iff.1 hb).1
  have h2:=h.length
  simp at h2;omega
 obtain⟨c,hc,hr⟩:=h.get i i (by simp [hl])
 rw [hb]at hc;injection hc with hc;subst hc;exact hr
section
variable {H:Type} {enc:TypeId×Value→H} {P:Program} {w:World} {base:Nat} {spare:Nat→Bool} {held:Bool}
theorem lq {a:Addr} {n:Nat} {us:List Value} (h:w.cells? base a n=some us):us.length=n∧∀j (u:Value),us[j]? =some u→w.cell? (a.add j)=some u:=by
 unfold World.cells? at h
 split at h
 ·have:=(qo h).range
  exact this
 ·simp at h
theorem tI {a:Addr} {u:Value} (h:w.cell? a=some u):a.spot=none∧a.block<w.heap.size:=by
 unfold World.cell? at h
 split at h
 ·rename_i c t f hb
  refine⟨?_,(Array.getElem?_eq_some_iff.1 hb).1⟩
  split at h
  ·simp at h
  ·rename_i hs;simpa using hs
 ·simp at h
theorem Dy {n:Nat} {fuel:Nat} {cs:List Value} (ih:∀t us d ps,gY P n t=true→DataW.trod enc P w base spare held fuel t us=some (d,ps)→us.length=P.cellsOf t→∃as,Ty P n t as∧All2 (Rp (iq w) M0 w) as us):
  ∀(fs:List Field) (off:Nat),nX P fs off cs.length=true→(fs.all fun f=>gY P n f.type)=true→
   (∀f∈fs,∃x,DataW.trod enc P w base spare held fuel f.type ((cs.drop f.offset).take (P.cellsOf f.type))=some x)→off≤cs.length→
   ∃as,Ny (Ty P n) fs as∧All2 (Rp (iq w) M0 w) as (cs.drop off)
 | [],off,ht,hp,hx,hl=>by
  simp only [nX,beq_iff_eq]at ht
  subst ht
  exact⟨[],rfl,by simp;exact .nil⟩
 |f::fs,off,ht,hp,hx,hl=>by
  simp only [nX,Bool.and_eq_true,beq_iff_eq]at ht
  obtain⟨ho,ht⟩:=ht
  simp only [List.all_cons,Bool.and_eq_true]at hp
  have hbound:off+P.cellsOf f.type≤cs.length:=by
   have:∀(fs:List Field) (o m:Nat),nX P fs o m=true→o≤m:=by
    intro fs
    induction fs with
    |nil=>intro o m h;simp only [nX,beq_iff_eq]at h;omega
    |cons g fs ih=>intro o m h;simp only [nX,Bool.and_eq_true]at h;have:=ih _ _ h.2;omega
   exact this fs _ _ ht
  obtain⟨⟨d,ps⟩,hx1⟩:=hx f (by simp)
  rw [ho]at hx1
  obtain⟨as,h1,h2⟩:=ih f.type _ d ps hp.1 hx1 (by simp;omega)
  obtain⟨bs,h3,h4⟩:=Dy ih fs (off+P.cellsOf f.type) ht hp.2 (fun g hg=>hx g (by simp [hg])) hbound
  refine⟨as++bs,⟨as,bs,rfl,h1,h3⟩,?_⟩
  have:cs.drop off=(cs.drop off).take (P.cellsOf f.type)++cs.drop (off+P.cellsOf f.type):=by
   rw [←List.drop_drop,List.take_append_drop]
  rw [this]
  exact h2.append h4
theorem zl:∀(n fuel:Nat) (t:TypeId) (cs:List Value) (d:DataW H) (ps:List MemPlace),gY P n t=true→DataW.trod enc P w base spare held fuel t cs=some (d,ps)→
    ∃as,Ty P n t as∧All2 (Rp (iq w) M0 w) as cs
  |0,_,t,cs,d,ps,hp,_=>by simp [gY]at hp
  |_,0,t,cs,d,ps,_,h=>by simp [DataW.trod]at h
  |n+1,fuel+1,t,cs,d,ps,hp,h=>by
    unfold gY at hp
    unfold Ty
    unfold DataW.trod at h
    cases hu:P.underlying t with
    |none=>rw [hu]at hp;simp at hp
    |some ty=>
      rw [hu]at hp h
      cases ty<;>simp only at hp<;>first|(simp at hp;done)|skip
      case bool=>
        rcases cs with _|⟨v,_|⟨v2,r⟩⟩<;>first|(simp at h;done)|skip
        cases v<;>first|(simp at h;done)|skip
        rename_i b
        exact⟨[.bl b],⟨b,rfl⟩,.cons (.bl b) .nil⟩
      case int k=>
        rcases cs with _|⟨v,_|⟨v2,r⟩⟩<;>first|(simp at h;done)|skip
        cases v<;>first|(simp at h;done)|skip
        rename_i k' m
        simp only [Option.ite_none_right_eq_some]at h
        obtain⟨⟨rfl,hwf⟩,h⟩:=h
        exact⟨[.int _ m],⟨m,rfl,hwf⟩,.cons (.int _ m) .nil⟩
      case string=>
        rcases cs with _|⟨v,_|⟨v2,r⟩⟩<;>first|(simp at h;done)|skip
        cases v<;>first|(simp at h;done)|skip
        rename_i s
        simp only [Option.ite_none_right_eq_some]at h
        exact⟨[.st s],⟨s,rfl,h.1⟩,.cons (.st s) .nil⟩
      case struct fs=>
        simp only [Bool.and_eq_true]at hp
        have h':(if cs.length=P.cellsOf t then(fs.toList.mapM fun f=>DataW.trod enc P w base spare held fuel f.type ((cs.drop f.offset).take (P.cellsOf f.type))).map fun xs=>(DataW.agg (xs.map (·.1)),xs.flatMap (·.2))else none)=some (d,ps):=by
          rcases cs with _|⟨v,_|⟨v2,r⟩⟩<;>first|exact h|(cases v<;>exact h)
        simp only [Option.ite_none_right_eq_some,Option.map_eq_some_iff]at h'
        obtain⟨hlen,xs,hxs,_⟩:=h'
        have hall:=qo hxs
        obtain⟨as,h1,h2⟩:=Dy (n:=n) (fuel:=fuel) (cs:=cs) (fun t us d ps hp2 h2 _=>zl n fuel t us d ps hp2 h2) fs.toList 0 (by rw [hlen];exact hp.1) hp.2
          (fun f hf=>by
            obtain⟨i,hi⟩:=List.getElem?_of_mem hf
            obtain⟨b,_,hb⟩:=hall.get i f hi
            exact⟨b,hb⟩) (Nat.zero_le _)
        exact⟨as,h1,by simpa using h2⟩
      case slice e=>
        simp only [Bool.and_eq_true,decide_eq_true_eq]at hp
        rcases cs with _|⟨v,_|⟨v2,r⟩⟩<;>first|(simp at h;done)|skip
        cases v<;>first|(simp at h;done)|skip
        rename_i A len cap
        cases A with
        | none=>
          have:len=0∧cap=0:=by
            rcases len with _|len<;>rcases cap with _|cap<;>first|exact⟨rfl,rfl⟩|(simp at h;done)
          obtain⟨rfl,rfl⟩:=this
          exact⟨[.ns],.inl rfl,.cons .ns .nil⟩
        | some a=>
          simp only [Option.ite_none_right_eq_some,Option.bind_eq_some_iff,Option.map_eq_some_iff]at h
          obtain⟨⟨hb,hlc,hcm⟩,xs,hxs,_⟩:=h
          obtain⟨hxl,hxi⟩:=(qo hxs).range
          have hel:∀i,i<len→∃us:List Value,w.cells? base (a.add (i*P.cellsOf e)) (P.cellsOf e)=some us∧∃as,Ty P n e as∧All2 (Rp (iq w) M0 w) as us:=fun i hi=>by
            obtain⟨x,hx⟩:∃x,xs[i]? =some x:=⟨xs[i],by simp [hxl,hi]⟩
            have:=hxi i x hx
            simp only [Option.bind_eq_some_iff]at this
            obtain⟨us,hus,ht⟩:=this
            obtain⟨as,h1,h2⟩:=zl n fuel e us x.1 x.2 hp.2 ht
            exact⟨us,hus,as,h1,h2⟩
          by_cases h0:len=0
          · subst h0
            exact⟨[.ls (P.cellsOf e) []],.inr ⟨[],rfl,by simp,by simp⟩,.cons (.lsN _ a cap) .nil⟩
          have hch:∃g:Nat→List Value×List AV,∀i,i<len→w.cells? base (a.add (i*P.cellsOf e)) (P.cellsOf e)=some (g i).1∧Ty P n e (g i).2∧All2 (Rp (iq w) M0 w) (g i).2 (g i).1:=by
            refine⟨fun i=>if hi:i<len then(Classical.choose (hel i hi),Classical.choose (Classical.choose_spec (hel i hi)).2)else([],[]),fun i hi=> ?_⟩
            simp only [hi,dif_pos]
            have:=Classical.choose_spec (hel i hi)
            exact⟨this.1,(Classical.choose_spec this.2).1,(Classical.choose_spec this.2).2⟩
          obtain⟨g,hg⟩:=hch
          have hcell:∀i j (u:Value),i<len→(g i).1[j]? =some u→w.cell? ⟨a.block,a.off+i*P.cellsOf e+j,none⟩=some u:=fun i j u hi hu=>by
            have:=(lq (hg i hi).1).2 j u hu
            have hs:=(tI this).1
            have he:(a.add (i*P.cellsOf e)).add j=⟨a.block,a.off+i*P.cellsOf e+j,none⟩:=by
              unfold Addr.add at hs⊢
              by_cases h1:i*P.cellsOf e=0
              · by_cases h2:j=0
                · simp only [h1,h2,if_true]at hs⊢
                  obtain⟨x,y,z⟩:=a
                  simp only at hs;subst hs;simp
                · simp only [h1,h2,if_true,if_false]at hs⊢;simp
              · by_cases h2:j=0
                · simp only [h1,h2,if_true,if_false]at hs⊢;simp
                · simp only [h1,h2,if_false]at hs⊢
            rw [←he];exact this
          have hlen:∀i,i<len→(g i).2.length=P.cellsOf e:=fun i hi=>by
            rw [(hg i hi).2.2.length];exact(lq (hg i hi).1).1
          have hes:∀(i:Nat) (x:List AV),((List.range len).map fun i=>(g i).2)[i]? =some x→i<len∧x=(g i).2:=fun i x hx=>by
            rw [List.getElem?_map]at hx
            cases hr:(List.range len)[i]? with
            |none=>rw [hr]at hx;simp at hx
            |some k=>
              rw [hr]at hx
              have hil:=(List.getElem?_eq_some_iff.1 hr).1
              simp at hil
              rw [List.getElem?_range hil]at hr
              injection hr with hr
              subst hr
              simp at hx
              exact⟨hil,hx.symm⟩
          refine⟨[.ls (P.cellsOf e) ((List.range len).map fun i=>(g i).2)],.inr ⟨_,rfl,by simp;omega,fun x hx=> ?_⟩,.cons ?_ .nil⟩
          · obtain⟨i,hi⟩:=List.getElem?_of_mem hx
            obtain⟨hil,rfl⟩:=hes i x hi
            exact⟨hlen i hil,(hg i hil).2.1⟩
          · have hIb:iq w a.block:=by
              obtain⟨c0,hc0⟩:∃u,(g 0).1[0]? =some u:=by
                have h2:0<(g 0).1.length:=by rw [(lq (hg 0 (by omega)).1).1];exact hp.1
                exact⟨_,List.getElem?_eq_getElem h2⟩
              have:=(tI (hcell 0 0 c0 (by omega) hc0)).2
              exact this
            have hrp:=Rp.ls (I:=iq w) (M:=M0) (w:=w) (P.cellsOf e) ((List.range len).map fun i=>(g i).2) a.block a.off cap (fun i j=>((g i).1[j]?).getD undef)
              (by intro hn;have:=congrArg List.length hn;simp at this;omega) (by simpa using hlc)
              (fun x hx=>by obtain⟨i,hi⟩:=List.getElem?_of_mem hx;obtain⟨hil,rfl⟩:=hes i x hi;exact hlen i hil) hIb
              (fun i x j c hi hj=>by
                obtain⟨hil,rfl⟩:=hes i x hi
                obtain⟨u,hu,_⟩:=(hg i hil).2.2.get j c hj
                simp only [hu,Option.getD_some];exact hcell i j u hil hu)
              (fun i x j c hi hj=>by
                obtain⟨hil,rfl⟩:=hes i x hi
                obtain⟨u,hu,hr⟩:=(hg i hil).2.2.get j c hj
                simp only [hu,Option.getD_some];exact hr)
            simp only [List.length_map,List.length_range]at hrp
            have ha:a=⟨a.block,a.off,none⟩:=by
              obtain⟨c0,hc0⟩:∃u,(g 0).1[0]? =some u:=by
                have h2:0<(g 0).1.length:=by rw [(lq (hg 0 (by omega)).1).1];exact hp.1
                exact⟨_,List.getElem?_eq_getElem h2⟩
              have:=(tI ((lq (hg 0 (by omega)).1).2 0 c0 hc0)).1
              simp only [Addr.add,Nat.zero_mul,if_true]at this
              obtain⟨x,y,z⟩:=a
              simp only at this;subst this;rfl
            rw [ha];exact hrp
end
open Go.RowKit
def qJ:(s:Sh)→aG s→Prop
 | .i k,n=>(Lit.int k n).wf=true
 | .b,_=>True
 | .s,s=>s.size≤9223372036854775807
 | .row e,ts=>ts.length≤9223372036854775807∧∀x∈ts,qJ e x
 | .nil,_=>True
 | .cons a b,x=>qJ a x.1∧qJ b x.2
def JJ (f:TypeId→Option Sh):List Field→Option Sh
 | []=>some .nil
 |x::l=>match f x.type,JJ f l with
  |some s,some r=>some (.cons s r)
  |_,_=>none
def vI (P:Program):Nat→TypeId→Option Sh
 |0,_=>none
 |n+1,t=>match P.underlying t with
  |some .bool=>some .b
  |some (.int k)=>some (.i k)
  |some .string=>some .s
  |some (.slice e)=>match vI P n e with
   |some s=>if s.sz=P.cellsOf e then some (.row s)else none
   |none=>none
  |some (.struct fs)=>JJ (vI P n) fs.toList
  |_=>none
theorem JK {T:TypeId→List AV→Prop} {f:TypeId→Option Sh} (hT:∀t s cs,f t=some s→T t cs→∃x,RE s x cs∧qJ s x):∀{fs:List Field} {s:Sh} {cs:List AV},JJ f fs=some s→Ny T fs cs→∃x,RE s x cs∧qJ s x
 | [],s,cs,h,h2=>by simp [JJ]at h;subst h;exact⟨(),h2,trivial⟩
 |x::fs,s,cs,h,h2=>by
  simp only [JJ]at h
  split at h
  ·rename_i s1 r1 h3 h4
   simp only [Option.some.injEq]at h
   subst h
   obtain⟨a,b,rfl,h5,h6⟩:=h2
   obtain⟨x1,h7,h8⟩:=hT _ _ _ h3 h5
   obtain⟨x2,h9,h10⟩:=JK hT h4 h6
   exact⟨(x1,x2),⟨a,b,rfl,h7,h9⟩,h8,h10⟩
  ·cases h
theorem FO {s:Sh}:∀{es:List (List AV)},(∀e∈es,∃x,RE s x e∧qJ s x)→∃ts:List (aG s),All2 (RE s) ts es∧∀x∈ts,qJ s x
 | [],_=>⟨[],.nil,fun x hx=>by cases hx⟩
 |e::es,h=>by
  obtain⟨x,h1,h2⟩:=h e (List.mem_cons_self ..)
  obtain⟨ts,h3,h4⟩:=FO (es:=es) fun e he=>h e (List.mem_cons_of_mem _ he)
  refine⟨x::ts,.cons h1 h3,fun y hy=> ?_⟩
  rcases List.mem_cons.1 hy with rfl|hy
  ·exact h2
  ·exact h4 y hy
theorem Hf {P:Program}:∀(n:Nat) (t:TypeId) (s:Sh) (cs:List AV),vI P n t=some s→Ty P n t cs→∃x,RE s x cs∧qJ s x
 |0,t,s,cs,h,_=>by simp [vI]at h
 |n+1,t,s,cs,h,h2=>by
  unfold vI at h
  unfold Ty at h2
  have hmax:maxLen=9223372036854775807:=by decide
  cases hu:P.underlying t with
  |none=>rw [hu]at h;simp at h
  |some ty=>
   rw [hu]at h h2
   cases ty<;>simp only at h h2<;>first|(cases h;done)|skip
   case bool=>simp only [Option.some.injEq]at h;subst h;obtain⟨b,rfl⟩:=h2;exact⟨b,rfl,trivial⟩
   case int k=>simp only [Option.some.injEq]at h;subst h;obtain⟨m,rfl,hw⟩:=h2;exact⟨m,rfl,hw⟩
   case string=>simp only [Option.some.injEq]at h;subst h;obtain⟨m,rfl,hw⟩:=h2;exact⟨m,rfl,by show m.size≤_;omega⟩
   case slice e=>
    split at h
    ·rename_i s' hs'
     simp only [Option.ite_none_right_eq_some,Option.some.injEq]at h
     obtain⟨hsz,rfl⟩:=h
     rcases h2 with rfl|⟨es,rfl,h4,h5⟩
     ·exact⟨[],⟨_,rfl,.inr ⟨rfl,.inl rfl⟩⟩,by simp,fun x hx=>by cases hx⟩
     ·obtain⟨ts,h6,h7⟩:=FO (es:=es) fun x hx=>Hf n e s' x hs' (h5 x hx).2
      refine⟨ts,⟨_,rfl,.inl ⟨es,by rw [hsz],h6⟩⟩,?_,h7⟩
      rw [h6.length];omega
    ·cases h
   case struct fs=>exact JK (fun t s cs h1 h2=>Hf n t s cs h1 h2) h h2
def wy (P:Program) (t:TypeId):Bool:=match P.underlying t with
 |some (.struct _)=>true
 |_=>false
theorem JL {H:Type} {enc:TypeId×Value→H} {P:Program} {W:World} {spare:Nat→Bool} {held:Bool} {n:Nat} {t:TypeId} {s:Sh} {r:Reach} {v:Value} {d:DataW H} {ps:List MemPlace} {b1 b2:Nat}
    (hp:gY P n t=true) (hs:vI P n t=some s) (hok:Value.okWide P W r b1 t v) (h:DataW.Trod enc P W b2 spare held t v d ps):∃x w,RE s x (bY w)∧qJ s x∧RpV (iq W) M0 W w v∧bz [w]= [(wy P t,if wy P t then s.sz else 1)]:=by
  obtain⟨fuel,h⟩:=h
  obtain⟨as,h1,h2⟩:=zl n fuel t _ d ps hp h
  obtain⟨x,h3,h4⟩:=Hf n t s as hs h1
  unfold Value.okWide at hok
  unfold wy
  have one:(∀cs,v≠ .agg cs)→(∀cs,v≠ .tuple cs)→v.cells.toList= [v]→(match P.underlying t with|some (.struct _)=>true|_=>false)=false→∃x w,RE s x (bY w)∧qJ s x∧RpV (iq W) M0 W w v∧bz [w]= [((match P.underlying t with|some (.struct _)=>true|_=>false),if(match P.underlying t with|some (.struct _)=>true|_=>false)=true then s.sz else 1)]:=by
    intro ha htp hc hst
    rw [hc]at h2
    obtain⟨c,rfl,hr⟩:∃c,as= [c]∧Rp (iq W) M0 W c v:=by
      cases h2 with
      |cons h5 h6=>cases h6;exact⟨_,rfl,h5⟩
    have hca:(∀l,c≠ .ag l)∧(∀l,c≠ .tp l):=by
      constructor<;>(intro l hl;subst hl;cases hr)
    have hcw:bY c= [c]:=by cases c<;>first|rfl|exact absurd rfl (hca.1 _)
    refine⟨x,c,by rw [hcw];exact h3,h4,?_,?_⟩
    · cases c<;>first|exact hr|exact absurd rfl (hca.1 _)|exact absurd rfl (hca.2 _)
    · rw [hst]
      cases c<;>first|rfl|exact absurd rfl (hca.1 _)
  cases hu:P.underlying t with
  | none=>
    exfalso
    cases n<;>simp [hu,vI]at hs
  |some ty=>
    rw [hu]at hok one
    cases ty with
    |struct fs=>
      simp only at hok
      obtain⟨cs,rfl,_,_⟩:=hok
      refine⟨x,.ag as,h3,h4,⟨cs,rfl,h2⟩,?_⟩
      simp only [if_true]
      rw [←gV h3]
      rfl
    |bool=>simp only [Cell.okWide,Cell.ok,hu]at hok;cases v<;>simp at hok;exact one (by simp) (by simp) rfl rfl
    |int k=>simp only [Cell.okWide,Cell.ok,hu]at hok;cases v<;>simp at hok;exact one (by simp) (by simp) rfl rfl
    |string=>simp only [Cell.okWide,Cell.ok,hu]at hok;cases v<;>simp at hok;exact one (by simp) (by simp) rfl rfl
    |slice e=>simp only [Cell.okWide,Cell.ok,hu]at hok;cases v<;>simp at hok;exact one (by simp) (by simp) rfl rfl
    |_=>
      exfalso
      cases n<;>simp [hu,vI]at hs
theorem afK {P:Program} {f:FuncId} {F:Unit→Option (Bool×Unit)} (he:lN P f) (h:fy P f [] (.bl true)) (hF:F ()=some (true,()):=by rfl):az P f ⟨.nil,.cons .b .nil,[],[(false,1)],[],F⟩:=by
 intro as x y h1 h2 h3
 have has:as= []:=by
  cases as with
  |nil=>rfl
  |cons a l=>cases a<;>simp [bz]at h1
 subst has
 refine⟨he,_,h,fun ρ pr k r hk=> ?_⟩
 have h3:F ()=some y:=h3
 rw [hF]at h3
 injection h3 with h3
 subst h3
 exact⟨.a (.bl true),⟨⟨rfl,rfl⟩,rfl⟩,hk⟩
theorem LV {P:Program} {f:FuncId} {c:Ctr} (hc:az P f c) (ht:c.t= .cons .b .nil) (hrs:c.rs= [(false,1)]) (hown:c.own= []) {as:List AV} {x:aG c.s} {y:aG c.t} (h1:bz as=c.as) (h2:RE c.s x (as.flatMap bY)) (h3:c.F x=some y)
  (hy:(ht▸y:aG (.cons .b .nil)).1=true) (W:World) (vals:Array Value) (ha:All2 (RpV (iq W) M0 W) as vals.toList):Calls P f vals W fun e W'=>e= .returned (.bool true)∧Below W.heap.size W W':=by
 obtain⟨_,w,hw,hr⟩:=hc as x y h1 h2 h3
 obtain⟨s,t,gs,rs,own,F⟩:=c
 simp only at ht hrs hown
 subst ht hrs hown
 simp only at hy
 obtain⟨y1,y2⟩:=y
 simp only at hy
 subst hy
 obtain⟨v,hv,hk⟩:=hr SV [] (fun v=>some v) (.a (.bl true)) rfl
 injection hk with hk
 subst hk
 have hw2:w= .bl true:=hv.1.1.symm
 subst hw2
 refine(hw (iq W) W vals (fun _ h=>h) ha).mono fun e W' he=> ?_
 cases e with
 |returned v=>
  obtain⟨I',h1,h2,h3,h4,h5,h6,h7,h8,_⟩:=he
  obtain⟨Mn,_,_,_,hr⟩:=h8 0
  have hr':Rp I' Mn W' (.bl true) v:=hr
  cases hr'
  exact⟨rfl,h1,h2,h3,h4,h5⟩
 |panicked c=>exact he.elim
 |outgrown=>exact he.elim
end Go.Am
