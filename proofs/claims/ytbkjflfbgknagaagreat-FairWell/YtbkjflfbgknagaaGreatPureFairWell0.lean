import Derived.Test.YtbkjflfbgknagaaGreatSrtFairWell
set_option linter.unusedVariables false
set_option linter.unusedSimpArgs false
namespace Go.Am
section
variable (E:Nat→Nat→Prop)
def jb:Nat→Nat→Nat→Prop
 |0,i,j=>E i j
 |k+1,i,j=>jb k i j∨(jb k i k∧jb k k j)
theorem me:∀(K:Nat) {i m j:Nat},m<K→jb E K i m→jb E K m j→jb E K i j
 |0,_,_,_,h,_,_=>absurd h (Nat.not_lt_zero _)
 |K+1,i,m,j,h,h1,h2=>by
  rcases Nat.lt_or_ge m K with hm|hm
  ·rcases h1 with h1|⟨h1,h1'⟩<;>rcases h2 with h2|⟨h2,h2'⟩
   ·exact .inl (me K hm h1 h2)
   ·exact .inr ⟨me K hm h1 h2,h2'⟩
   ·exact .inr ⟨h1,me K hm h1' h2⟩
   ·exact .inr ⟨h1,h2'⟩
  ·have e:m=K:=by omega
   subst e
   have g1:jb E m i m:=h1.elim id (·.1)
   have g2:jb E m m j:=h2.elim id (·.2)
   exact .inr ⟨g1,g2⟩
theorem vB:∀(K:Nat) {i j:Nat},jb E K i j→∃k,E i k∧(k=j∨jb E K k j)
 |0,i,j,h=>⟨j,h,.inl rfl⟩
 |K+1,i,j,h=>by
  rcases h with h|⟨h,h'⟩
  ·obtain⟨k,h1,h2⟩:=vB K h
   exact⟨k,h1,h2.imp id .inl⟩
  ·obtain⟨k,h1,h2⟩:=vB K h
   refine⟨k,h1,.inr ?_⟩
   rcases h2 with rfl|h2
   ·exact .inl h'
   ·exact .inr ⟨h2,h'⟩
theorem mY {D:Nat→Prop} (hD:∀i j,D i→E i j→D j):∀(K:Nat) {i j:Nat},jb E K i j→D i→D j
 |0,_,_,h,hi=>hD _ _ hi h
 |K+1,_,_,h,hi=>by
  rcases h with h|⟨h,h'⟩
  ·exact mY hD K h hi
  ·exact mY hD K h' (mY hD K h hi)
theorem xL:∀(K:Nat) {i j:Nat},E i j→jb E K i j
 |0,_,_,h=>h
 |K+1,_,_,h=>.inl (xL K h)
end
theorem NY {n:Nat} {R:Nat→Nat→Prop} (ht:∀i m j,m<n→R i m→R m j→R i j):∀(U:List Nat),U≠ []→(∀u∈U,u<n∧¬R u u)→∃u∈U,∀v∈U,¬R u v
 | [],h,_=>absurd rfl h
 | [a],_,h=>⟨a,List.mem_singleton.2 rfl,fun v hv=>by rw [List.mem_singleton.1 hv];exact(h a (List.mem_singleton.2 rfl)).2⟩
 |a::b::l,_,h=>by
  obtain⟨u,hu,hs⟩:=NY ht (b::l) (by simp) fun u hu=>h u (List.mem_cons_of_mem _ hu)
  by_cases hua:R u a
  ·refine⟨a,List.mem_cons_self ..,fun v hv hav=> ?_⟩
   rcases List.mem_cons.1 hv with rfl|hv
   ·exact(h v (List.mem_cons_self ..)).2 hav
   ·exact hs v hv (ht u a v (h a (List.mem_cons_self ..)).1 hua hav)
  ·refine⟨u,List.mem_cons_of_mem _ hu,fun v hv=> ?_⟩
   rcases List.mem_cons.1 hv with rfl|hv
   ·exact hua
   ·exact hs v hv
structure Part (E:Nat→Nat→Prop) (n:Nat) (d:List Bool):Prop where
 len:d.length=n
 cl:∀i j,d.getD i false=true→E i j→d.getD j false=true
 ac:∀i,d.getD i false=true→¬jb E n i i
theorem FD {d:List Bool} {i:Nat} (h:i<d.length) (j:Nat):(d.set i true).getD j false=(decide (j=i)||d.getD j false):=by
 rw [List.getD_eq_getElem?_getD,List.getElem?_set,List.getD_eq_getElem?_getD]
 by_cases hij:i=j
 ·subst hij;simp [h]
 ·rw [if_neg hij,decide_eq_false (fun e=>hij e.symm)];rfl
theorem Part.step {E:Nat→Nat→Prop} {n:Nat} {d:List Bool} (h:Part E n d) {i:Nat} (hi:i<n) (hu:d.getD i false=false) (hm:∀j,E i j→d.getD j false=true):Part E n (d.set i true):=by
 have hi':i<d.length:=by rw [h.len];exact hi
 refine⟨by rw [List.length_set,h.len],fun a j ha he=> ?_,fun a ha hr=> ?_⟩
 ·rw [FD hi']at ha⊢
  rw [Bool.or_eq_true]at ha⊢
  rcases ha with ha|ha
  ·rw [of_decide_eq_true ha]at he;exact .inr (hm _ he)
  ·exact .inr (h.cl _ _ ha he)
 ·rw [FD hi']at ha
  rw [Bool.or_eq_true]at ha
  rcases ha with ha|ha
  ·have e:=of_decide_eq_true ha
   subst e
   obtain⟨k,h1,h2⟩:=vB E n hr
   have hk:=hm k h1
   rcases h2 with rfl|h2
   ·rw [hu]at hk;cases hk
   ·have:=mY E (D:=fun x=>d.getD x false=true) (fun i j hi he=>h.cl i j hi he) n h2 hk
    rw [hu]at this;cases this
  ·exact h.ac a ha hr
def NZ (E:Nat→Nat→Prop) (n:Nat):Prop:=∀i,i<n→¬jb E n i i
theorem Part.all {E:Nat→Nat→Prop} {n:Nat} {d:List Bool} (h:Part E n d) (hc:d.countP id=n):NZ E n:=fun i hi=>by
 refine h.ac i ?_
 have h1:=List.countP_eq_length.1 (hc.trans h.len.symm)
 have hi':i<d.length:=by rw [h.len];exact hi
 rw [bD hi']
 exact h1 _ (List.getElem_mem hi')
theorem Part.next {E:Nat→Nat→Prop} {n:Nat} {d:List Bool} (h:Part E n d) (hE:∀i j,E i j→j<n) (ha:NZ E n) (hc:d.countP id<n):∃i,i<n∧d.getD i false=false∧∀j,E i j→d.getD j false=true:=by
 have hne:(List.range n).filter (fun i=> !d.getD i false)≠ []:=fun e=>by
  have:d.countP id=d.length:=List.countP_eq_length.2 fun b hb=>by
   obtain⟨i,hi,rfl⟩:=List.mem_iff_getElem.1 hb
   rw [List.filter_eq_nil_iff]at e
   have:=e i (List.mem_range.2 (by rw [←h.len];exact hi))
   rw [bD hi]at this
   simpa using this
  rw [h.len]at this
  omega
 obtain⟨u,hu,hs⟩:=NY (R:=jb E n) (fun i m j hm=>me E n hm) _ hne fun u hu=>by
  have:=(List.mem_filter.1 hu).1
  have hl:=List.mem_range.1 this
  exact⟨hl,ha u hl⟩
 obtain⟨h1,h2⟩:=List.mem_filter.1 hu
 refine⟨u,List.mem_range.1 h1,by simpa using h2,fun j hj=> ?_⟩
 rcases hd:d.getD j false with _|_
 ·exact absurd (xL E n hj) (hs j (List.mem_filter.2 ⟨List.mem_range.2 (hE _ _ hj),by rw [hd];rfl⟩))
 ·rfl
end Go.Am
set_option maxRecDepth 100000
set_option linter.constructorNameAsVariable false
namespace Go.Proofs.YtbkjflfbgknagaaGreat.fairWell.Code
open Go Go.Am
open List (replicate take drop drop_zero take_length length_set take_succ_eq_append_getElem mem_append mem_singleton flatMap_cons append_assoc length_take cons_append length_cons nil_append take_zero isEmpty_cons length_nil length getD set length_replicate)
open Option (bind_some)
open Int (ofNat toNat_natCast negSucc natCast_nonneg toNat)
open Nat (lt_or_ge not_lt_zero le_refl sub_zero zero_add)
abbrev aT:=List Int×Int×Int×Unit
abbrev an:=Int×Int×Int×Int×Int×Unit
abbrev aj:=Int×ByteArray×(List aT×Unit)×Int×List an×Unit
abbrev fx:=List Bool
theorem eN (r:aT):(r.1,r.2.1,r.2.2.1,())=r:=rfl
theorem eT (r:an):(r.1,r.2.1,r.2.2.1,r.2.2.2.1,r.2.2.2.2.1,())=r:=rfl
theorem eR (r:aj):(r.1,r.2.1,(r.2.2.1.1,()),r.2.2.2.1,r.2.2.2.2.1,())=r:=rfl
theorem LI {i:Nat} (h1:0<i) (h:i<9223372036854775807):IntKind.i64.wrap ((i:Int)-ofNat 1)=((i-1:Nat):Int):=by
 unfold IntKind.wrap
 simp [IntKind.bits,IntKind.signed]
 omega
theorem vC {α:Type} (a v:α):(replicate 1 a).set 0 v= [v]:=rfl
theorem cX {α:Type} (l:List α):take l.length (drop 0 l)=l:=by rw [drop_zero,take_length]
abbrev z0:Int:=aa (Sh.i IntKind.i64)
def oH (i n:Int) (l:List Int) (j:Nat):Prop:=0≤l.getD j z0∧l.getD j z0<n∧l.getD j z0≠i∧(0<j→l.getD (j-1) z0<l.getD j z0)
def FE (i n:Int) (nd:aT):Prop:=(1≤nd.2.1∧nd.2.1≤5)∧(0≤nd.2.2.1∧nd.2.2.1≤1048576)∧∀j,j<nd.1.length→oH i n nd.1 j
theorem dm {P:Nat→Prop} {j:Nat} (h:∀m,m<j→P m) (hj:P j):∀m,m<j+1→P m:=fun m hm=>by
 rcases lt_or_ge m j with h1|h1
 ·exact h m h1
 ·have:m=j:=by omega
  rw [this];exact hj
theorem f161 (i n:Int) (nd:aT) (hn:nd.1.length≤9223372036854775807):∃b,IK (i,n,nd,())=some (b,())∧(b=true↔FE i n nd):=by
 obtain⟨l,n1,n2,_⟩:=nd
 simp only at hn
 obtain⟨y,hy,hq⟩:=ba (st:=fN) l.length (fun j (p:Int)=>(i,n,p,l,(l.length:Int),(j:Int),())) (fun j p=>(j=0→p= -1)∧(0<j→p=l.getD (j-1) z0)∧-1≤p∧∀m,m<j→oH i n l m)
  (fun y=>(y= .inl (false,())∧∃m,m<l.length∧¬oH i n l m)∨(y= .inr ()∧∀m,m<l.length→oH i n l m)) (fun j p h hx=>by
   obtain⟨hx1,hx2,hx3,hx4⟩:=hx
   simp only [fN,kA,jz,bz h,aP h,aH h,cond_true,toNat_natCast]
   by_cases h1:l.getD j (aa (Sh.i IntKind.i64))≤p
   ·rw [decide_eq_true h1]
    refine .inr ⟨_,rfl,.inl ⟨rfl,j,h,fun hk=> ?_⟩⟩
    obtain⟨k1,k2,k3,k4⟩:=hk
    rcases Nat.eq_zero_or_pos j with h0|h0
    ·rw [hx1 h0]at h1;simp only [z0]at*;omega
    ·have:=k4 h0;rw [←hx2 h0]at this;simp only [z0]at*;omega
   ·rw [decide_eq_false h1]
    by_cases h2:l.getD j (aa (Sh.i IntKind.i64))≥n
    ·rw [decide_eq_true h2]
     exact .inr ⟨_,rfl,.inl ⟨rfl,j,h,fun hk=>by have:=hk.2.1;simp only [z0]at*;omega⟩⟩
    ·rw [decide_eq_false h2]
     rcases h3:(l.getD j (aa (Sh.i IntKind.i64))==i)with _|_
     ·have h3':l.getD j z0≠i:=fun e=>by simp only [z0]at e;rw [e]at h3;simp at h3
      refine .inl ⟨l.getD j (aa (Sh.i IntKind.i64)),by rw [aX (by omega)];rfl,fun h0=>by omega,fun _=>by simp,by simp only [z0]at*;omega,?_⟩
      refine dm hx4 ⟨?_,by simp only [z0]at*;omega,h3',fun h0=>by rw [←hx2 h0];simp only [z0]at*;omega⟩
      simp only [z0]at*;omega
     ·have h3':l.getD j z0=i:=by simpa using h3
      exact .inr ⟨_,rfl,.inl ⟨rfl,j,h,fun hk=>hk.2.2.1 h3'⟩⟩)
  (fun p hx=>⟨.inr (),by simp only [fN,kA,jz,bu,cond_false],.inr ⟨rfl,hx.2.2.2⟩⟩) (-1) ⟨fun _=>rfl,fun h=>absurd h (by omega),by omega,fun m h=>absurd h (not_lt_zero _)⟩
 have hy':nN (i,n,negSucc 0,l,(l.length:Int),ofNat 0,())=some y:=hy
 simp only [IK,hy',bind_some,FE]
 simp only [aF]
 by_cases c1:n1<((1:Nat):Int)
 ·rw [decide_eq_true c1];exact⟨_,rfl,(fun h=>nomatch h),fun h=>by omega⟩
 ·rw [decide_eq_false c1]
  by_cases c2:n1>((5:Nat):Int)
  ·rw [decide_eq_true c2];exact⟨_,rfl,(fun h=>nomatch h),fun h=>by omega⟩
  ·rw [decide_eq_false c2]
   by_cases c3:n2<((0:Nat):Int)
   ·rw [decide_eq_true c3];exact⟨_,rfl,(fun h=>nomatch h),fun h=>by omega⟩
   ·rw [decide_eq_false c3]
    by_cases c4:n2>((1048576:Nat):Int)
    ·rw [decide_eq_true c4];exact⟨_,rfl,(fun h=>nomatch h),fun h=>by omega⟩
    ·rw [decide_eq_false c4]
     rcases hq with⟨rfl,m,h1,h2⟩|⟨rfl,hq⟩
     ·exact⟨_,rfl,(fun h=>nomatch h),fun h=>absurd (h.2.2 m h1) h2⟩
     ·exact⟨_,rfl,fun _=>⟨by omega,by omega,hq⟩,fun _=>rfl⟩
def tS (ns:List aT) (i j:Nat):Prop:=i<ns.length∧(j:Int)∈(ns.getD i (aa af)).1
def jS (ns:List aT):Prop:=∀i:Nat,i<ns.length→FE i ns.length (ns.getD i (aa af))
def qp (ns:List aT):Prop:=(1≤ns.length∧ns.length≤12)∧jS ns∧NZ (tS ns) ns.length
theorem vD {i n:Int} {nd:aT} (h:FE i n nd):∀v∈nd.1,0≤v∧v<n:=fun v hv=>by
 obtain⟨j,hj,rfl⟩:=List.mem_iff_getElem.1 hv
 have:=h.2.2 j hj
 unfold oH at this
 rw [bD hj]at this
 exact⟨this.1,this.2.1⟩
theorem Zv {ns:List aT} (h:jS ns) {i j:Nat} (he:tS ns i j):j<ns.length:=by
 have:=vD (h i he.1) _ he.2
 omega
theorem vE {ns:List aT} (h:jS ns):∀(K:Nat) {i j:Nat},jb (tS ns) K i j→i<ns.length∧j<ns.length
 |0,_,_,he=>⟨he.1,Zv h he⟩
 |K+1,_,_,he=>by
  rcases he with he|⟨h1,h2⟩
  ·exact vE h K he
  ·exact⟨(vE h K h1).1,(vE h K h2).2⟩
def fv (a:fx) (P:Nat→Nat→Prop):Prop:=a.length=144∧∀x y,x<12→y<12→(a.getD (x*12+y) false=true↔P x y)
theorem ix (i j:Nat):0+i*12+j*1=i*12+j:=by omega
theorem qq {a:fx} (ha:a.length=144) {i j:Nat} (hi:i<12) (hj:j<12):(decide (i*12+j<a.length) && decide (144=a.length))=true:=by
 rw [ha];simp;omega
theorem Bk {i:Nat} (h:i<12):ah 0 (i:Int) ((↑12:Int)-1)=true:=by simp [ah];omega
theorem wo {a:fx} {P:Nat→Nat→Prop} (h:fv a P) {x y:Nat} (hx:x<12) (hy:y<12):a.getD (x*12+y) (aa Sh.b)=true↔P x y:=h.2 x y hx hy
theorem Hl {a:fx} {P Q:Nat→Nat→Prop} (h:fv a P) {i j:Nat} (hi:i<12) (hj:j<12) (b:Bool) (h1:b=true↔Q i j) (h2:∀x y,x<12→y<12→¬(x=i∧y=j)→(P x y↔Q x y)):fv (a.set (i*12+j) b) Q:=by
 refine⟨by rw [length_set];exact h.1,fun x y hx hy=> ?_⟩
 rw [List.getD_eq_getElem?_getD,List.getElem?_set]
 by_cases e:i*12+j=x*12+y
 ·have ex:x=i:=by omega
  have ey:y=j:=by omega
  subst ex ey
  rw [if_pos e,if_pos (by rw [h.1];omega)]
  exact h1
 ·rw [if_neg e,←List.getD_eq_getElem?_getD,h.2 x y hx hy]
  exact h2 x y hx hy fun⟨e1,e2⟩=>e (by rw [e1,e2])
theorem ly {a:fx} {P Q:Nat→Nat→Prop} (h:fv a P) (h2:∀x y,x<12→y<12→(P x y↔Q x y)):fv a Q:=⟨h.1,fun x y hx hy=>(h.2 x y hx hy).trans (h2 x y hx hy)⟩
theorem aiv (n:Nat) (hn:n≤12) (a:fx) (P:Nat→Nat→Prop) (ha:fv a P):∃y,nQ ((n:Int),ofNat 0,a,())=some y∧((y= .inl (ofNat 230,a,())∧∃i,i<n∧P i i)∨(y= .inr (a,())∧∀i,i<n→¬P i i)):=by
 obtain⟨y,hy,h⟩:=ba (st:=fP) n (fun i (_:Unit)=>((n:Int),(i:Int),a,())) (fun j _=>∀i,i<j→¬P i i) (fun y=>(y= .inl (ofNat 230,a,())∧∃i,i<n∧P i i)∨(y= .inr (a,())∧∀i,i<n→¬P i i)) (fun i _ h hx=>by
   have hi:i<12:=by omega
   simp only [fP,kD,bz h,Bk hi,cond_true,toNat_natCast,ix,qq ha.1 hi hi]
   have hg:=wo ha hi hi
   rw [aX (by omega)]
   rcases hb:a.getD (i*12+i) (aa Sh.b)with _|_
   ·rw [hb]at hg
    exact .inl ⟨(),rfl,dm hx fun h=>nomatch hg.2 h⟩
   ·exact .inr ⟨_,rfl,.inl ⟨rfl,i,h,hg.1 hb⟩⟩) (fun _ hx=>⟨.inr (a,()),by simp only [fP,kD,bu,cond_false],.inr ⟨rfl,hx⟩⟩) () (fun i h=>absurd h (not_lt_zero _))
 exact⟨y,hy,h⟩
theorem aiw (n k i:Nat) (hn:n≤12) (hk:k<12) (hi:i<12) (x1 x2 x3 x4:Int) (a:fx) (P:Nat→Nat→Prop) (ha:fv a P):∃a':fx,nR ((n:Int),(k:Int),(i:Int),x1,x2,x3,x4,(n:Int),ofNat 0,a,())=some ((n:Int),(k:Int),x1,x2,x3,x4,a',())∧fv a' (fun x y=>P x y∨(x=i∧y<n∧P i k∧P k y)):=by
 obtain⟨y,hy,a',rfl,h⟩:=ba (st:=fQ) n (fun j (a:fx)=>((n:Int),(k:Int),(i:Int),x1,x2,x3,x4,(n:Int),(j:Int),a,())) (fun j a=>fv a (fun x y=>P x y∨(x=i∧y<j∧P i k∧P k y)))
  (fun y=>∃a':fx,y=((n:Int),(k:Int),x1,x2,x3,x4,a',())∧fv a' (fun x y=>P x y∨(x=i∧y<n∧P i k∧P k y))) (fun j a h hx=>by
   have hj:j<12:=by omega
   have g1:=wo hx hi hj
   have g2:=wo hx hi hk
   have g3:=wo hx hk hj
   simp only [fQ,kE,jA,bz h,Bk hi,Bk hj,Bk hk,cond_true,toNat_natCast,ix,qq hx.1 hi hj,qq hx.1 hi hk,qq hx.1 hk hj]
   rw [aX (by omega)]
   refine .inl ?_
   have new:∀b:Bool,(b=true↔P i j∨(P i k∧P k j))→fv (a.set (i*12+j) b) (fun x y=>P x y∨(x=i∧y<j+1∧P i k∧P k y)):=fun b hb=>by
    refine Hl hx hi hj b ?_ fun x y _ _ hne=> ?_
    ·rw [hb]
     exact⟨fun h=>h.imp id fun h=>⟨rfl,Nat.lt_succ_self _,h⟩,fun h=>h.imp id fun h=>h.2.2⟩
    ·refine⟨fun h=>h.imp id fun h=>⟨h.1,by omega,h.2.2⟩,fun h=>h.imp id fun h=>⟨h.1,?_,h.2.2⟩⟩
     have:=h.1
     have:=h.2.1
     omega
   have e1:(P i j∨(i=i∧j<j∧P i k∧P k j))↔P i j:=⟨fun h=>h.elim id fun h=>absurd h.2.1 (Nat.lt_irrefl _),.inl⟩
   have e2:(P i k∨(i=i∧k<j∧P i k∧P k k))↔P i k:=⟨fun h=>h.elim id fun h=>h.2.2.1,.inl⟩
   have e3:(P k j∨(k=i∧j<j∧P i k∧P k j))↔P k j:=⟨fun h=>h.elim id fun h=>absurd h.2.1 (Nat.lt_irrefl _),.inl⟩
   rw [e1]at g1
   rw [e2]at g2
   rw [e3]at g3
   rcases hb1:a.getD (i*12+j) (aa Sh.b)with _|_
   ·rcases hb2:a.getD (i*12+k) (aa Sh.b)with _|_
    ·refine⟨_,rfl,new false ⟨fun h=>(nomatch h),fun h=> ?_⟩⟩
     rcases h with h|h
     ·rw [g1.2 h]at hb1;cases hb1
     ·rw [g2.2 h.1]at hb2;cases hb2
    ·refine⟨_,rfl,new _ (g3.trans ⟨fun h=>.inr ⟨g2.1 hb2,h⟩,fun h=> ?_⟩)⟩
     rcases h with h|h
     ·rw [g1.2 h]at hb1;cases hb1
     ·exact h.2
   ·exact⟨_,rfl,new true ⟨fun _=>.inl (g1.1 hb1),fun _=>rfl⟩⟩) (fun a hx=>⟨((n:Int),(k:Int),x1,x2,x3,x4,a,()),by simp only [fQ,kE,jA,bu,cond_false],a,rfl,hx⟩) a (ly ha fun x y _ _=>⟨.inl,fun h=>h.elim id fun h=>absurd h.2.1 (not_lt_zero _)⟩)
 exact⟨a',hy,h⟩
theorem aix (n k:Nat) (hn:n≤12) (hk:k<12) (x1 x2:Int) (a:fx) (P:Nat→Nat→Prop) (ha:fv a P):∃a':fx,nS ((n:Int),(k:Int),x1,x2,(n:Int),ofNat 0,a,())=some ((n:Int),x1,x2,a',())∧fv a' (fun x y=>P x y∨(x<n∧y<n∧P x k∧P k y)):=by
 obtain⟨y,hy,a',rfl,h⟩:=ba (st:=fR) n (fun j (a:fx)=>((n:Int),(k:Int),x1,x2,(n:Int),(j:Int),a,())) (fun j a=>fv a (fun x y=>P x y∨(x<j∧y<n∧P x k∧P k y)))
  (fun y=>∃a':fx,y=((n:Int),x1,x2,a',())∧fv a' (fun x y=>P x y∨(x<n∧y<n∧P x k∧P k y))) (fun j a h hx=>by
   obtain⟨a',h1,h2⟩:=aiw n k j hn hk (by omega) x1 x2 (n:Int) (j:Int) a _ hx
   simp only [fR,kF,bz h,cond_true,h1,bind_some]
   rw [aX (by omega)]
   refine .inl ⟨a',rfl,ly h2 fun x y _ _=>⟨fun h=> ?_,fun h=> ?_⟩⟩
   ·rcases h with(h|h)|⟨rfl,hy,h3,h4⟩
    ·exact .inl h
    ·exact .inr ⟨by omega,h.2⟩
    ·refine .inr ⟨Nat.lt_succ_self _,hy,?_,?_⟩
     ·exact h3.elim id fun h=>h.2.2.1
     ·exact h4.elim id fun h=>h.2.2.2
   ·rcases h with h|⟨hx1,hy,h3,h4⟩
    ·exact .inl (.inl h)
    ·rcases lt_or_ge x j with h5|h5
     ·exact .inl (.inr ⟨h5,hy,h3,h4⟩)
     ·have e:x=j:=by omega
      subst e
      exact .inr ⟨rfl,hy,.inl h3,.inl h4⟩) (fun a hx=>⟨((n:Int),x1,x2,a,()),by simp only [fR,kF,bu,cond_false],a,rfl,hx⟩) a (ly ha fun x y _ _=>⟨.inl,fun h=>h.elim id fun h=>absurd h.1 (not_lt_zero _)⟩)
 exact⟨a',hy,h⟩
theorem aiy (ns:List aT) (hn:ns.length≤12) (hs:jS ns) (a:fx) (ha:fv a (tS ns)):∃a':fx,nT ((ns.length:Int),(ns.length:Int),ofNat 0,a,())=some ((ns.length:Int),a',())∧fv a' (jb (tS ns) ns.length):=by
 obtain⟨y,hy,a',rfl,h⟩:=ba (st:=fS) ns.length (fun j (a:fx)=>((ns.length:Int),(ns.length:Int),(j:Int),a,())) (fun j a=>fv a (jb (tS ns) j))
  (fun y=>∃a':fx,y=((ns.length:Int),a',())∧fv a' (jb (tS ns) ns.length)) (fun j a h hx=>by
   obtain⟨a',h1,h2⟩:=aix ns.length j hn (by omega) (ns.length:Int) (j:Int) a _ hx
   simp only [fS,kG,bz h,cond_true,h1,bind_some]
   rw [aX (by omega)]
   exact .inl ⟨a',rfl,ly h2 fun x y _ _=>⟨fun h=>h.imp id fun h=>h.2.2,fun h=>h.imp id fun h=>⟨(vE hs j h.1).1,(vE hs j h.2).2,h⟩⟩⟩) (fun a hx=>⟨((ns.length:Int),a,()),by simp only [fS,kG,bu,cond_false],a,rfl,hx⟩) a ha
 exact⟨a',hy,h⟩
theorem aiz (n i:Nat) (hi:i<12) (ns:List aT) (x1 x2:Int) (l:List Int) (hl:l.length≤9223372036854775807) (hr:∀v∈l,0≤v∧v<12) (a:fx) (P:Nat→Nat→Prop) (ha:fv a P):∃a':fx,nU ((n:Int),(i:Int),ns,x1,x2,l,(l.length:Int),ofNat 0,a,())=some ((n:Int),ns,x1,x2,a',())∧fv a' (fun x y=>P x y∨(x=i∧(y:Int)∈l)):=by
 obtain⟨y,hy,a',rfl,h⟩:=ba (st:=fT) l.length (fun j (a:fx)=>((n:Int),(i:Int),ns,x1,x2,l,(l.length:Int),(j:Int),a,())) (fun j a=>fv a (fun x y=>P x y∨(x=i∧(y:Int)∈l.take j)))
  (fun y=>∃a':fx,y=((n:Int),ns,x1,x2,a',())∧fv a' (fun x y=>P x y∨(x=i∧(y:Int)∈l))) (fun j a h hx=>by
   have hv:=hr _ (aD h (aa (Sh.i IntKind.i64)))
   obtain⟨v,hv2⟩:∃v:Nat,l.getD j (aa (Sh.i IntKind.i64))=(v:Int):=⟨(l.getD j (aa (Sh.i IntKind.i64))).toNat,by omega⟩
   have hv3:v<12:=by omega
   simp only [fT,kH,jB,bz h,aP h,aH h,Bk hi,cond_true,toNat_natCast,hv2,Bk hv3,ix,qq hx.1 hi hv3]
   rw [aX (by omega)]
   have ht:∀y:Nat,(y:Int)∈l.take (j+1)↔(y:Int)∈l.take j∨y=v:=fun y=>by
    rw [take_succ_eq_append_getElem h,mem_append,mem_singleton,←bD h (aa (Sh.i IntKind.i64)),hv2]
    constructor
    ·rintro(h|h)
     ·exact .inl h
     ·exact .inr (by omega)
    ·rintro(h|h)
     ·exact .inl h
     ·exact .inr (by omega)
   refine .inl ⟨_,rfl,Hl hx hi hv3 true ⟨fun _=>.inr ⟨rfl,(ht v).2 (.inr rfl)⟩,fun _=>rfl⟩ fun x y _ _ hne=> ?_⟩
   rw [ht y]
   constructor
   ·rintro(h|h)
    ·exact .inl h
    ·exact .inr ⟨h.1,.inl h.2⟩
   ·rintro(h|⟨h,h3|h3⟩)
    ·exact .inl h
    ·exact .inr ⟨h,h3⟩
    ·exact absurd ⟨h,h3⟩ hne) (fun a hx=>⟨((n:Int),ns,x1,x2,a,()),by simp only [fT,kH,jB,bu,cond_false],a,rfl,by rw [take_length]at hx;exact hx⟩) a (ly ha fun x y _ _=>⟨.inl,fun h=>h.elim id fun h=>by simp at h⟩)
 exact⟨a',hy,h⟩
theorem aiA (ns:List aT) (hn:ns.length≤12) (hs:jS ns) (hl:∀nd∈ns,nd.1.length≤9223372036854775807) (a:fx) (ha:fv a (fun _ _=>False)):∃a':fx,nV ((ns.length:Int),ns,(ns.length:Int),ofNat 0,a,())=some ((ns.length:Int),a',())∧fv a' (tS ns):=by
 obtain⟨y,hy,a',rfl,h⟩:=ba (st:=fU) ns.length (fun j (a:fx)=>((ns.length:Int),ns,(ns.length:Int),(j:Int),a,())) (fun j a=>fv a (fun x y=>x<j∧(y:Int)∈(ns.getD x (aa af)).1))
  (fun y=>∃a':fx,y=((ns.length:Int),a',())∧fv a' (tS ns)) (fun j a h hx=>by
   obtain⟨a',h1,h2⟩:=aiz ns.length j (by omega) ns (ns.length:Int) (j:Int) (ns.getD j (aa af)).1 (hl _ (aD h (aa af))) (fun v hv=>by have:=vD (hs j h) v hv;omega) a _ hx
   simp only [fU,kI,bz h,aP h,aH h,cond_true,toNat_natCast,h1,bind_some]
   rw [aX (by omega)]
   refine .inl ⟨a',rfl,ly h2 fun x y _ _=>⟨fun h=> ?_,fun h=> ?_⟩⟩
   ·rcases h with h|⟨rfl,h⟩
    ·exact⟨by omega,h.2⟩
    ·exact⟨Nat.lt_succ_self _,h⟩
   ·rcases lt_or_ge x j with h5|h5
    ·exact .inl ⟨h5,h.2⟩
    ·have e:x=j:=by omega
     subst e
     exact .inr ⟨rfl,h.2⟩) (fun a hx=>⟨((ns.length:Int),a,()),by simp only [fU,kI,bu,cond_false],a,rfl,hx⟩) a (ly ha fun x y _ _=>⟨False.elim,fun h=>absurd h.1 (not_lt_zero _)⟩)
 exact⟨a',hy,h⟩
theorem aiB (ns:List aT) (hn:ns.length≤12) (hr:∀nd∈ns,nd.1.length≤9223372036854775807):∃y,nW ((ns.length:Int),ns,(ns.length:Int),ofNat 0,ns,())=some y∧((∃r,y= .inl (ofNat 230,r)∧¬jS ns)∨(y= .inr ((ns.length:Int),ns,())∧jS ns)):=by
 obtain⟨y,hy,h⟩:=ba (st:=fV) ns.length (fun j (_:Unit)=>((ns.length:Int),ns,(ns.length:Int),(j:Int),ns,())) (fun j _=>∀i:Nat,i<j→FE i ns.length (ns.getD i (aa af)))
  (fun y=>(∃r,y= .inl (ofNat 230,r)∧¬jS ns)∨(y= .inr ((ns.length:Int),ns,())∧jS ns)) (fun j a h hx=>by
   obtain⟨b,h1,h2⟩:=f161 (j:Int) (ns.length:Int) _ (hr _ (aD h (aa af)))
   simp only [fV,kJ,bz h,aP h,aH h,cond_true,toNat_natCast,eN,h1,bind_some]
   rw [aX (by omega)]
   cases b
   ·exact .inr ⟨_,rfl,.inl ⟨_,rfl,fun hs=>nomatch h2.2 (hs j h)⟩⟩
   ·exact .inl ⟨(),rfl,dm hx (h2.1 rfl)⟩) (fun a hx=>⟨.inr ((ns.length:Int),ns,()),by simp only [fV,kJ,bu,cond_false],.inr ⟨rfl,hx⟩⟩) () (fun i h=>absurd h (not_lt_zero _))
 exact⟨y,hy,h⟩
theorem f114 (ns:List aT) (hr:∀nd∈ns,nd.1.length≤9223372036854775807):∃v,jC ((ns,()),())=some (v,())∧((v=0∧qp ns)∨(v=230∧¬qp ns)):=by
 simp only [jC]
 by_cases h1:((ns.length:Nat):Int)<ofNat 1
 ·rw [decide_eq_true h1];exact⟨_,rfl,.inr ⟨rfl,fun h=>by have:=h.1.1;simp only [aF]at h1;omega⟩⟩
 ·rw [decide_eq_false h1]
  by_cases h2:((ns.length:Nat):Int)>ofNat 12
  ·rw [decide_eq_true h2];exact⟨_,rfl,.inr ⟨rfl,fun h=>by have:=h.1.2;simp only [aF]at h2;omega⟩⟩
  ·rw [decide_eq_false h2]
   have h12:ns.length≤12:=by simp only [aF]at h2;omega
   have h01:1≤ns.length:=by simp only [aF]at h1;omega
   obtain⟨y,hy,hq⟩:=aiB ns h12 hr
   simp only [cond_false,hy,bind_some]
   rcases hq with⟨r,rfl,hs⟩|⟨rfl,hs⟩
   ·exact⟨_,rfl,.inr ⟨rfl,fun h=>hs h.2.1⟩⟩
   ·simp only
    obtain⟨a1,e1,g1⟩:=aiA ns h12 hs hr (replicate 144 false) ⟨by simp,fun x y hx hy=>⟨fun h=>(by rw [List.getD_eq_getElem?_getD,List.getElem?_replicate]at h;split at h<;>cases h),False.elim⟩⟩
    have e1':=e1
    simp only [replicate]at e1'
    rw [e1']
    simp only [bind_some]
    obtain⟨a2,e2,g2⟩:=aiy ns h12 hs a1 g1
    rw [e2]
    simp only [bind_some]
    obtain⟨y3,e3,g3⟩:=aiv ns.length h12 a2 _ g2
    rw [e3]
    simp only [bind_some]
    rcases g3 with⟨rfl,i,hi,hp⟩|⟨rfl,hp⟩
    ·exact⟨_,rfl,.inr ⟨rfl,fun h=>h.2.2 i hi hp⟩⟩
    ·exact⟨_,rfl,.inl ⟨rfl,⟨h01,h12⟩,hs,hp⟩⟩
theorem rC (c a b:Bool):(bif c then some (a,())else some (b,()))=some ((bif c then a else b),()):=by cases c<;>rfl
theorem rD (c a b:Bool):(bif c then a else b)=true↔(c=true∧a=true)∨(c=false∧b=true):=by cases c<;>simp
theorem o0:ofNat 0=0:=rfl
theorem o1:ofNat 1=1:=rfl
theorem o2:ofNat 2=2:=rfl
theorem o3:ofNat 3=3:=rfl
theorem o4:ofNat 4=4:=rfl
theorem o5:ofNat 5=5:=rfl
theorem o6:ofNat 6=6:=rfl
theorem oM:ofNat 1099511627776=1099511627776:=rfl
def bV (n:Int):Prop:=0≤n∧n≤1099511627776
instance (n:Int):Decidable (bV n):=inferInstanceAs (Decidable (0≤n∧n≤1099511627776))
def Oa (nt s tr un tk rk:Int):Prop:=(0≤tr∧tr≤nt)∧bV un∧bV tk∧bV rk∧(rk≠0→s=1)∧(un≠0→s=2∨s=3)∧(tk≠0↔s=2)∧((s=0∧tr=0)∨(s=1∧tr<nt)∨(s=2∧1≤tr)∨(s=3∧1≤tr∧tr<nt)∨(s=4∧1≤tr)∨(s=5∧tr=nt)∨s=6)
theorem f208 (n:Int):rq (n,())=some (decide (bV n),()):=by
 simp only [rq,rC,o0,oM]
 congr 2
 rw [Bool.eq_iff_iff,rD]
 simp only [decide_eq_true_eq,decide_eq_false_iff_not,Bool.false_eq_true,and_false,or_false]
 exact Iff.rfl
theorem f207 (n:Int):uF (n,())=some (decide (bV n),()):=f208 n
theorem f180 (l:List Int) (nt w s tr un tk rk:Int) (hs:0≤s):∃b,EU ((l,nt,w,()),(s,tr,un,tk,rk,()),())=some (b,())∧(b=true↔Oa nt s tr un tk rk):=by
 simp only [EU,PF,f208,f207,bind_some,o0,o1,o2,o3,o4,o5,o6,rC]
 refine⟨_,rfl,?_⟩
 have h:s=0∨s=1∨s=2∨s=3∨s=4∨s=5∨s=6∨6<s:=by omega
 rcases h with rfl|rfl|rfl|rfl|rfl|rfl|rfl|h
 all_goals simp only [rD,decide_eq_true_eq,decide_eq_false_iff_not,Bool.not_eq_true',Bool.not_eq_false',beq_iff_eq,beq_eq_false_iff_ne,Bool.false_eq_true,and_false,or_false,false_or,ne_eq,Oa,not_true_eq_false,false_and,true_and,Int.reduceEq,not_false_eq_true,imp_false,Decidable.not_not,iff_false,iff_true,or_true,true_or,and_true,or_self,forall_const,imp_self,implies_true]
 all_goals by_cases hu:un=0<;>by_cases ht:tk=0<;>by_cases hr:rk=0
 all_goals simp only [hu,ht,hr,and_false,or_false,false_or,not_true_eq_false,false_and,true_and,not_false_eq_true,imp_false,or_true,true_or,and_true,or_self]
 all_goals simp only [bV]
 all_goals first|omega|(refine⟨fun h=> ?_,fun h=> ?_⟩<;>first|omega|exact h.elim)
theorem FF (v:Int):∀(l:List Int) (i:Nat),(∃j:Nat,i≤j∧lJ (A:=Unit) (fun i t _=>bif v==t then .inr (.inl ((i:Int),()))else .inl ()) (fun _=>.inr ()) i l ()=(.inl ((j:Int),()):(Int×Unit)⊕Unit)∧v∈l)∨
  (lJ (A:=Unit) (fun i t _=>bif v==t then .inr (.inl ((i:Int),()))else .inl ()) (fun _=>.inr ()) i l ()=(.inr ():(Int×Unit)⊕Unit)∧v∉l)
 | [],i=>.inr ⟨rfl,by simp⟩
 |t::l,i=>by
  simp only [lJ]
  cases hv:v==t
  ·simp only [cond_false]
   have hne:v≠t:=by simpa using hv
   rcases FF v l (i+1)with⟨j,h1,h2,h3⟩|⟨h1,h2⟩
   ·exact .inl ⟨j,by omega,h2,List.mem_cons_of_mem _ h3⟩
   ·exact .inr ⟨h1,by simp [hne,h2]⟩
  ·simp only [cond_true]
   have:v=t:=by simpa using hv
   exact .inl ⟨i,le_refl _,rfl,by simp [this]⟩
theorem f240 (l:List Int) (v:Int) (hl:l.length≤9223372036854775807):IU (l,v,())=some (decide (v∈l),()):=by
 have hloop:=wH (st:=fO) l (aa (Sh.i IntKind.u8)) (fun i (_:Unit)=>(l,v,(l.length:Int),(i:Int),())) (fun _=>.inr ()) (fun i t _=>bif v==t then .inr (.inl ((i:Int),()))else .inl ())
  (fun i a hi=>by
   simp only [fO,kB,bz hi,aP hi,Lq hi,cond_true]
   exact EN _ _ _ _ (fun _=>rfl) (fun _=>by rw [aX (by omega)]))
  (fun a=>by simp only [fO,kB,bu,cond_false]) ()
 have hl0:nO (l,v,(l.length:Int),ofNat 0,())=some (lJ (A:=Unit) (fun i t _=>bif v==t then .inr (.inl ((i:Int),()))else .inl ()) (fun _=>.inr ()) 0 l ()):=hloop
 simp only [IU,Nr,hl0,bind_some]
 rcases FF v l 0 with⟨j,_,h2,h3⟩|⟨h1,h2⟩
 ·rw [h2]
  simp only [bind_some,h3,decide_true]
  rw [decide_eq_true (show(j:Int)≥ofNat 0 from natCast_nonneg j)]
 ·rw [h1]
  simp only [bind_some,h2,decide_false]
  rfl
theorem f222 (t:an) (l:List Int) (hl:l.length≤9223372036854775807):EW (t,l,())=some (decide (t.1∈l),()):=by
 simp only [EW,f240 l t.1 hl,bind_some]
def lM {Y Z:Type}:(Int×Y)⊕Z→Bool
 | .inl y=>decide (y.1≥ofNat 0)
 | .inr _=>false
theorem LJ:decide (negSucc 0≥ofNat 0)=false:=by decide
theorem vF (i:Nat):decide ((i:Int)≥ofNat 0)=true:=decide_eq_true (natCast_nonneg i)
theorem f182 (r:aj) (l:List Int) (hl:l.length≤9223372036854775807) (hr:r.2.2.2.2.1.length≤9223372036854775807):jI (r,l,())=some (decide (∀t∈r.2.2.2.2.1,t.1∈l),()):=by
 obtain⟨id,key,⟨ns,_⟩,state,ts,_⟩:=r
 simp only at hr
 obtain⟨y,hy,hq⟩:=ba (st:=fY) ts.length (fun i (_:Unit)=>(ts,(ts.length:Int),(i:Int),l,())) (fun i _=>∀t∈ts.take i,t.1∈l)
  (fun y=>lM y= !decide (∀t∈ts,t.1∈l)) (fun i _ h hx=>by
   simp only [fY,kV,bz h,aP h,aH h,toNat_natCast,cond_true,eT,f222 _ l hl,bind_some,Bool.not_true,Bool.not_false]
   by_cases hm:(ts.getD i (aa ae)).1∈l
   ·rw [decide_eq_true hm]
    refine .inl ⟨(),by rw [aX (by omega)];rfl,fun t ht=> ?_⟩
    rcases iK h (aa ae) ht with h1|h1
    ·exact hx t h1
    ·rw [h1];exact hm
   ·rw [decide_eq_false hm]
    refine .inr ⟨_,rfl,?_⟩
    simp only [lM]
    rw [vF,decide_eq_false (fun hall=>hm (hall _ (aD h _)))]
    rfl) (fun _ hx=>⟨.inr (l,()),by simp only [fY,kV,bu,cond_false],by
    rw [take_length]at hx
    simp only [lM]
    rw [decide_eq_true hx]
    rfl⟩) () (by simp)
 have hy':oe (ts,(ts.length:Int),ofNat 0,l,())=some y:=hy
 simp only [jI,hy',bind_some]
 cases y with
 |inl a=>
  simp only [lM]at hq
  simp only [hq,Bool.not_not]
 |inr b=>
  simp only [lM]at hq
  have:decide (∀t∈ts,t.1∈l)=true:=by simpa using hq
  rw [this]
  rfl
theorem f183 (r:aj) (l:List Int) (hl:l.length≤9223372036854775807) (hr:r.2.2.2.2.1.length≤9223372036854775807):Ax (r,l,())=some (decide (∃t∈r.2.2.2.2.1,t.1∈l),()):=by
 obtain⟨id,key,⟨ns,_⟩,state,ts,_⟩:=r
 simp only at hr
 obtain⟨y,hy,hq⟩:=ba (st:=fX) ts.length (fun i (_:Unit)=>(ts,(ts.length:Int),(i:Int),l,())) (fun i _=>∀t∈ts.take i,t.1∉l)
  (fun y=>lM y=decide (∃t∈ts,t.1∈l)) (fun i _ h hx=>by
   simp only [fX,kU,bz h,aP h,aH h,toNat_natCast,cond_true,eT,f222 _ l hl,bind_some,Bool.not_true,Bool.not_false]
   by_cases hm:(ts.getD i (aa ae)).1∈l
   ·rw [decide_eq_true hm]
    refine .inr ⟨_,rfl,?_⟩
    simp only [lM]
    rw [vF,decide_eq_true ⟨_,aD h _,hm⟩]
   ·rw [decide_eq_false hm]
    refine .inl ⟨(),by rw [aX (by omega)];rfl,fun t ht=> ?_⟩
    rcases iK h (aa ae) ht with h1|h1
    ·exact hx t h1
    ·rw [h1];exact hm) (fun _ hx=>⟨.inr (l,()),by simp only [fX,kU,bu,cond_false],by
    rw [take_length]at hx
    simp only [lM]
    rw [decide_eq_false (fun⟨t,h1,h2⟩=>hx t h1 h2)]⟩) () (by simp)
 have hy':od (ts,(ts.length:Int),ofNat 0,l,())=some y:=hy
 simp only [Ax,hy',bind_some]
 cases y with
 |inl a=>
  simp only [lM]at hq
  simp only [hq]
 |inr b=>
  simp only [lM]at hq
  rw [LJ,hq]
def gk (ts:List an) (nd:aT):Prop:=∀v∈nd.1,(ts.getD v.toNat (aa ae)).1=4
def Hm (ns:List aT) (ts:List an) (state:Int):Prop:=
 (state=1∧(∀i:Nat,i<ns.length→(gk ts (ns.getD i (aa af))↔(ts.getD i (aa ae)).1≠0))∧¬(∀t∈ts,t.1=4)∧¬∃t∈ts,t.1=5∨t.1=6)∨
 (state=2∧∀t∈ts,t.1=4)∨(state=3∧(∃t∈ts,t.1=5)∧∀t∈ts,t.1=4∨t.1=5∨t.1=6)∨(state=4∧(∃t∈ts,t.1=6)∧∀t∈ts,t.1=4∨t.1=6)
def InR (n:Nat) (l:List Int):Prop:=∀v∈l,0≤v∧v<n
theorem Ob {ts:List an} {l:List Int} {i:Nat} (h:i<l.length) (hx:∀v∈take i l,(ts.getD v.toNat (aa ae)).1=4) (hv:(ts.getD (l.getD i (aa (Sh.i IntKind.i64))).toNat (aa ae)).1=4):∀v∈l.take (i+1),(ts.getD v.toNat (aa ae)).1=4:=fun v h2=>by
 rcases iK h (aa (Sh.i IntKind.i64)) h2 with h3|h3
 ·exact hx v h3
 ·rw [h3];exact hv
theorem f181 (r:aj) (nd:aT) (hn:nd.1.length≤9223372036854775807) (hr:InR r.2.2.2.2.1.length nd.1):∃b,Av (r,nd,())=some (b,())∧(b=true↔gk r.2.2.2.2.1 nd):=by
 obtain⟨id,key,⟨ns,_⟩,state,ts,_⟩:=r
 obtain⟨l,n1,n2,_⟩:=nd
 simp only at hr hn
 obtain⟨y,hy,hq⟩:=ba (st:=fW) l.length (fun i (_:Unit)=>(l,(l.length:Int),(i:Int),id,key,ns,state,ts,())) (fun i _=>∀v∈l.take i,(ts.getD v.toNat (aa ae)).1=4)
  (fun y=>(∃i:Nat,∃r,y= .inl ((i:Int),r)∧¬∀v∈l,(ts.getD v.toNat (aa ae)).1=4)∨(∃r,y= .inr r∧∀v∈l,(ts.getD v.toNat (aa ae)).1=4)) (fun i _ h hx=>by
   have hv:=hr _ (aD h (aa (.i .i64)))
   have hw:ah 0 (l.getD i (aa (.i .i64))) ((ts.length:Int)-1)=true:=by simp only [ah,Bool.and_eq_true,decide_eq_true_eq];omega
   have hd:decide ((l.getD i (aa (.i .i64))).toNat<ts.length)=true:=decide_eq_true (by omega)
   simp only [fW,kP,bz h,aP h,aH h,cond_true,toNat_natCast,hw,hd]
   rcases hb:((ts.getD (l.getD i (aa (.i .i64))).toNat (aa ae)).1 !=ofNat 4)with _|_
   ·exact .inl ⟨(),by rw [aX (by omega)];rfl,Ob h hx (by simpa using hb)⟩
   ·exact .inr ⟨_,rfl,.inl ⟨i,_,rfl,fun h2=>by have h3:=h2 _ (aD h (aa (.i .i64)));rw [h3]at hb;cases hb⟩⟩) (fun _ hx=>⟨.inr (id,key,ns,state,ts,()),by simp only [fW,kP,bu,cond_false],.inr ⟨_,rfl,by rw [take_length]at hx;exact hx⟩⟩) () (by simp)
 have hy':nZ (l,(l.length:Int),ofNat 0,id,key,ns,state,ts,())=some y:=hy
 simp only [Av,hy',bind_some,gk]
 rcases hq with⟨i,r,rfl,h⟩|⟨r,rfl,h⟩
 ·simp only [vF]
  exact⟨_,rfl,(fun h=>nomatch h),fun h2=>absurd h2 h⟩
 ·simp only [LJ]
  exact⟨_,rfl,fun _=>h,fun _=>rfl⟩
structure Fit (r:aj):Prop where
 len:r.2.2.1.1.length=r.2.2.2.2.1.length
 n12:r.2.2.2.2.1.length≤12
 sh:jS r.2.2.1.1
 ln:∀nd∈r.2.2.1.1,nd.1.length≤9223372036854775807
theorem Fit.inr {r:aj} (h:Fit r) {i:Nat} (hi:i<r.2.2.1.1.length):InR r.2.2.2.2.1.length (r.2.2.1.1.getD i (aa af)).1:=fun v hv=>by
 have:=vD (h.sh i hi) v hv
 rw [h.len]at this
 exact this
theorem aiC (a:Int):take ((replicate 1 (ofNat 0)).set 0 a).length (drop 0 ((replicate 1 (ofNat 0)).set 0 a))= [a]:=rfl
theorem aiD (a b:Int):take (((replicate 2 (ofNat 0)).set 0 a).set 1 b).length (drop 0 (((replicate 2 (ofNat 0)).set 0 a).set 1 b))= [a,b]:=rfl
theorem aiE (a b c:Int):take ((((replicate 3 (ofNat 0)).set 0 a).set 1 b).set 2 c).length (drop 0 ((((replicate 3 (ofNat 0)).set 0 a).set 1 b).set 2 c))= [a,b,c]:=rfl
theorem f131 (r:aj) (hf:Fit r):∃b,IX (r,())=some (b,())∧(b=true↔Hm r.2.2.1.1 r.2.2.2.2.1 r.2.2.2.1):=by
 have i1:=hf.ln
 have i2:=hf.len
 have i3:=hf.n12
 have k2:=fun i (hi:i<r.2.2.1.1.length)=>f181 r (r.2.2.1.1.getD i (aa af)) (i1 _ (aD hi (aa af))) (hf.inr hi)
 obtain⟨id,key,⟨ns,_⟩,state,ts,_⟩:=r
 simp only at i1 i2 i3 k2
 have g4:=fun(l:List Int) (hl:l.length≤9223372036854775807)=>f182 (id,key,(ns,()),state,ts,()) l hl (by simp only;omega)
 have g5:=fun(l:List Int) (hl:l.length≤9223372036854775807)=>f183 (id,key,(ns,()),state,ts,()) l hl (by simp only;omega)
 simp only [IX,aiC,aiD,aiE]
 by_cases s1:state=1
 ·subst s1
  obtain⟨y,hy,hq⟩:=ba (st:=fZ) ns.length (fun i (_:Unit)=>(ns,(ns.length:Int),(i:Int),id,key,ns,1,ts,())) (fun j _=>∀i:Nat,i<j→(gk ts (ns.getD i (aa af))↔(ts.getD i (aa ae)).1≠0))
   (fun y=>((∃r,y= .inl (false,r))∧¬∀i:Nat,i<ns.length→(gk ts (ns.getD i (aa af))↔(ts.getD i (aa ae)).1≠0))∨(y= .inr (id,key,ns,1,ts,())∧∀i:Nat,i<ns.length→(gk ts (ns.getD i (aa af))↔(ts.getD i (aa ae)).1≠0))) (fun j _ h hx=>by
    obtain⟨b,h1,h2⟩:=k2 j h
    simp only [fZ,kW,jJ,bz h,aP h,aH h,cond_true,toNat_natCast,eN,h1,bind_some,aP (i2▸h:j<ts.length),aH (i2▸h:j<ts.length)]
    rw [aX (by omega)]
    have hb:((ts.getD j (aa ae)).1==ofNat 0)=true↔(ts.getD j (aa ae)).1=0:=by simp
    generalize ((ts.getD j (aa ae)).1==ofNat 0)=c at hb⊢
    cases b<;>cases c
    ·exact .inr ⟨_,rfl,.inl ⟨⟨_,rfl⟩,fun hall=>nomatch h2.2 ((hall j h).2 fun e=>nomatch hb.2 e)⟩⟩
    ·exact .inl ⟨(),rfl,dm hx ⟨fun h=>(nomatch h2.2 h),fun h=>absurd (hb.1 rfl) h⟩⟩
    ·exact .inl ⟨(),rfl,dm hx ⟨fun _ e=>(nomatch hb.2 e),fun _=>h2.1 rfl⟩⟩
    ·exact .inr ⟨_,rfl,.inl ⟨⟨_,rfl⟩,fun hall=>(hall j h).1 (h2.1 rfl) (hb.1 rfl)⟩⟩) (fun _ hx=>⟨.inr (id,key,ns,1,ts,()),by simp only [fZ,kW,jJ,bu,cond_false],.inr ⟨rfl,hx⟩⟩) () (fun i h=>absurd h (not_lt_zero _))
  have hy':oh (ns,(ns.length:Int),ofNat 0,id,key,ns,1,ts,())=some y:=hy
  have hst:Hm ns ts 1↔(∀i:Nat,i<ns.length→(gk ts (ns.getD i (aa af))↔(ts.getD i (aa ae)).1≠0))∧¬(∀t∈ts,t.1=4)∧¬∃t∈ts,t.1=5∨t.1=6:=by
   simp only [Hm]
   refine⟨fun h=> ?_,fun h=>.inl ⟨trivial,h⟩⟩
   rcases h with h|h|h|h
   ·exact h.2
   ·exact absurd h.1 (by decide)
   ·exact absurd h.1 (by decide)
   ·exact absurd h.1 (by decide)
  rw [hst]
  simp only [o1,o4,o5,o6,show((1:Int)==1)=true from rfl,cond_true,hy',bind_some]
  rcases hq with⟨⟨r,rfl⟩,hq⟩|⟨rfl,hq⟩
  ·exact⟨_,rfl,(fun h=>nomatch h),fun h=>absurd h.1 hq⟩
  ·simp only [g4 [4] (by decide),g5 [5,6] (by decide),bind_some,rC]
   refine⟨_,rfl,?_⟩
   simp only [rD,Bool.not_eq_true',decide_eq_false_iff_not,Bool.false_eq_true,and_false,or_false,List.mem_cons,List.not_mem_nil]
   exact⟨fun h=>⟨hq,h⟩,fun h=>h.2⟩
 ·have n1:(state==ofNat 1)=false:=by simpa using s1
  rw [n1]
  simp only [cond_false,o4,o5,o6,g4 [4] (by decide),g4 [4,6] (by decide),g4 [4,5,6] (by decide),g5 [5] (by decide),g5 [6] (by decide),bind_some,rC]
  simp only [o2,o3]
  refine⟨_,rfl,?_⟩
  simp only [rD,decide_eq_true_eq,beq_iff_eq,Bool.false_eq_true,and_false,or_false,beq_eq_false_iff_ne,Hm,s1,false_and,false_or,List.mem_cons,List.not_mem_nil]
  by_cases s2:state=2
  ·subst s2;simp
  ·by_cases s3:state=3
   ·subst s3;simp
   ·by_cases s4:state=4
    ·subst s4;simp
    ·simp [s2,s3,s4]
def ch (nd:aT) (t:an):Prop:=Oa nd.2.1 t.1 t.2.1 t.2.2.1 t.2.2.2.1 t.2.2.2.2.1
def dZ (nd:aT):Prop:=(1≤nd.2.1∧nd.2.1≤5)∧(0≤nd.2.2.1∧nd.2.2.1≤1048576)
theorem f179 (nd:aT) (h:dZ nd):IL (nd,())=some (true,()):=by
 obtain⟨⟨h1,h2⟩,h3,h4⟩:=h
 simp only [IL]
 rw [decide_eq_true (show nd.2.1≥ofNat 1 from h1),decide_eq_true (show nd.2.1≤ofNat 5 from h2),decide_eq_true (show nd.2.2.1≥ofNat 0 from h3),decide_eq_true (show nd.2.2.1≤ofNat 1048576 from h4)]
 rfl
theorem f130 (nd:aT) (t:an) (h:dZ nd) (hs:0≤t.1):∃v,Au (nd,t,())=some (v,())∧((v=0∧ch nd t)∨(v=8∧¬ch nd t)):=by
 obtain⟨b,h1,h2⟩:=f180 nd.1 nd.2.1 nd.2.2.1 t.1 t.2.1 t.2.2.1 t.2.2.2.1 t.2.2.2.2.1 hs
 have h1':EU (nd,t,())=some (b,()):=h1
 simp only [Au,eN,eT,f179 nd h,h1',bind_some]
 cases b
 ·exact⟨_,rfl,.inr ⟨rfl,fun h=>nomatch h2.2 h⟩⟩
 ·exact⟨_,rfl,.inl ⟨rfl,h2.1 rfl⟩⟩
theorem jT {ns:List aT} (h:jS ns) {i:Nat} (hi:i<ns.length):dZ (ns.getD i (aa af)):=⟨(h i hi).1,(h i hi).2.1⟩
structure bH (r:aj):Prop where
 ln:∀nd∈r.2.2.1.1,nd.1.length≤9223372036854775807
 tl:r.2.2.2.2.1.length≤9223372036854775807
 ts:∀t∈r.2.2.2.2.1,0≤t.1
structure ROk (r:aj):Prop where
 id:bV r.1
 key:1≤r.2.1.size∧r.2.1.size≤24
 dag:qp r.2.2.1.1
 len:r.2.2.2.2.1.length=r.2.2.1.1.length
 tks:∀i:Nat,i<r.2.2.2.2.1.length→ch (r.2.2.1.1.getD i (aa af)) (r.2.2.2.2.1.getD i (aa ae))
 st:Hm r.2.2.1.1 r.2.2.2.2.1 r.2.2.2.1
theorem cQ {ρ:Type} (a:Option ρ) (b:Nat→Option ρ):dz 0 a b=a:=rfl
theorem eX {ρ:Type} (n:Nat) (a:Option ρ) (b:Nat→Option ρ):dz (ofNat (n+1)) a b=b n:=rfl
theorem f89 (r:aj) (hr:bH r):∃v,sK (r,())=some (v,())∧((v=0∧ROk r)∨(v=8∧¬ROk r)):=by
 obtain⟨hr2,hr3,hr4⟩:=hr
 have hst:=fun hf=>f131 r hf
 obtain⟨id,key,⟨ns,_⟩,state,ts,_⟩:=r
 simp only at hr2 hr3 hr4 hst
 simp only [sK]
 by_cases c1:id<ofNat 0
 ·rw [decide_eq_true c1];exact⟨_,rfl,.inr ⟨rfl,fun h=>by have:=h.id.1;simp only [aF]at*;omega⟩⟩
 rw [decide_eq_false c1,cond_false]
 by_cases c2:id>ofNat 1099511627776
 ·rw [decide_eq_true c2];exact⟨_,rfl,.inr ⟨rfl,fun h=>by have:=h.id.2;simp only [aF]at*;omega⟩⟩
 rw [decide_eq_false c2,cond_false]
 by_cases c3:(key.size:Int)<ofNat 1
 ·rw [decide_eq_true c3];exact⟨_,rfl,.inr ⟨rfl,fun h=>by have:=h.key.1;simp only [aF]at*;omega⟩⟩
 rw [decide_eq_false c3,cond_false]
 by_cases c4:(key.size:Int)>ofNat 24
 ·rw [decide_eq_true c4];exact⟨_,rfl,.inr ⟨rfl,fun h=>by have:=h.key.2;simp only [aF]at*;omega⟩⟩
 rw [decide_eq_false c4,cond_false]
 obtain⟨v,hv,hv0⟩:=f114 ns hr2
 simp only [hv,bind_some]
 rcases hv0 with⟨rfl,hd⟩|⟨rfl,hd⟩
 ·rw [cQ]
  by_cases c5:ts.length=ns.length
  ·rw [show((ts.length:Int) !=(ns.length:Int))=false by simp [c5],cond_false]
   have h12:=hd.1.2
   obtain⟨y,hy,hq⟩:=ba (st:=gG) ns.length (fun i (_:Unit)=>(ns,(ns.length:Int),(i:Int),id,key,ns,state,ts,())) (fun j _=>∀i:Nat,i<j→ch (ns.getD i (aa af)) (ts.getD i (aa ae)))
    (fun y=>((∃r,y= .inl (ofNat 8,r))∧¬∀i:Nat,i<ns.length→ch (ns.getD i (aa af)) (ts.getD i (aa ae)))∨(y= .inr (id,key,ns,state,ts,())∧∀i:Nat,i<ns.length→ch (ns.getD i (aa af)) (ts.getD i (aa ae)))) (fun j _ h hx=>by
     have hj:j<ts.length:=by omega
     obtain⟨v,hv,h2⟩:=f130 (ns.getD j (aa af)) (ts.getD j (aa ae)) (jT hd.2.1 h) (hr4 _ (aD hj (aa ae)))
     simp only [gG,mC,bz h,aP h,aH h,cond_true,toNat_natCast,eN,eT,hv,bind_some,aP hj,aH hj]
     rw [aX (by omega)]
     rcases h2 with⟨rfl,h2⟩|⟨rfl,h2⟩
     ·exact .inl ⟨(),rfl,dm hx h2⟩
     ·exact .inr ⟨_,rfl,.inl ⟨⟨_,rfl⟩,fun hall=>h2 (hall j h)⟩⟩) (fun _ hx=>⟨.inr (id,key,ns,state,ts,()),by simp only [gG,mC,bu,cond_false],.inr ⟨rfl,hx⟩⟩) () (fun i h=>absurd h (not_lt_zero _))
   have hy':pL (ns,(ns.length:Int),ofNat 0,id,key,ns,state,ts,())=some y:=hy
   simp only [hy',bind_some]
   rcases hq with⟨⟨r,rfl⟩,hq⟩|⟨rfl,hq⟩
   ·exact⟨_,rfl,.inr ⟨rfl,fun h=>hq fun i hi=>h.tks i (by simp only;omega)⟩⟩
   ·obtain⟨b,hb,hb2⟩:=hst ⟨c5.symm,by simp only;omega,hd.2.1,hr2⟩
    simp only [hb,bind_some]
    cases b
    ·exact⟨_,rfl,.inr ⟨rfl,fun h=>nomatch hb2.2 h.st⟩⟩
    ·exact⟨_,rfl,.inl ⟨rfl,⟨by simp only [bV,aF]at*;omega,by simp only [aF]at*;omega,hd,c5,fun i hi=>hq i (by simp only at hi;omega),hb2.1 rfl⟩⟩⟩
  ·rw [show((ts.length:Int) !=(ns.length:Int))=true by simp;omega]
   exact⟨_,rfl,.inr ⟨rfl,fun h=>c5 h.len⟩⟩
 ·exact⟨_,rfl,.inr ⟨rfl,fun h=>hd h.dag⟩⟩
def dW (t:an):Int:=t.2.2.2.1
def dL (t:an):Int:=t.2.2.2.2.1
def dK (s:Int) (f:an→Int) (ts:List an):List Int:=(ts.filter (fun t=>t.1==s)).map f
def NC (x y:an):Prop:=¬(x.1=2∧y.1=2∧dW x=dW y)∧¬(x.1=1∧y.1=1∧dL x=dL y)
theorem NC.symm {x y:an} (h:NC x y):NC y x:=⟨fun⟨a,b,c⟩=>h.1 ⟨b,a,c.symm⟩,fun⟨a,b,c⟩=>h.2 ⟨b,a,c.symm⟩⟩
theorem FH (s:Int) (f:an→Int) (l:List an) (t:an):dK s f (l++ [t])=dK s f l++(bif t.1==s then [f t]else []):=by
 simp only [dK,List.filter_append,List.map_append,List.filter_cons,List.filter_nil]
 cases t.1==s<;>rfl
theorem Oc {s:Int} {f:an→Int} {l:List an} {v:Int}:v∈dK s f l↔∃t∈l,t.1=s∧f t=v:=by
 simp only [dK,List.mem_map,List.mem_filter,beq_iff_eq]
 exact⟨fun⟨t,⟨a,b⟩,c⟩=>⟨t,a,b,c⟩,fun⟨t,a,b,c⟩=>⟨t,⟨a,b⟩,c⟩⟩
theorem adJ {l:List an} (h1:(dK 2 dW l).Nodup) (h2:(dK 1 dL l).Nodup):l.Pairwise NC:=by
 simp only [dK,List.Nodup,List.pairwise_map,List.pairwise_filter]at h1 h2
 refine(h1.and h2).imp fun {x y} h=>⟨fun⟨a,b,c⟩=>h.1 (by simpa using a) (by simpa using b) c,fun⟨a,b,c⟩=>h.2 (by simpa using a) (by simpa using b) c⟩
def FT (rs:List aj):List an:=rs.flatMap (fun r=>r.2.2.2.2.1)
theorem Hn {rs:List aj} {j:Nat} (h:j<rs.length) (d:aj):FT (rs.take (j+1))=FT (rs.take j)++(rs.getD j d).2.2.2.2.1:=by
 rw [take_succ_eq_append_getElem h,bD h]
 simp only [FT,List.flatMap_append,flatMap_cons,List.flatMap_nil,List.append_nil]
theorem Zw (rs:List aj) {i:Nat} (h:i<rs.length) (d:aj) (j:Nat):(FT (rs.take i)++(rs.getD i d).2.2.2.2.1.take j).Sublist (FT rs):=by
 have h1:FT rs=FT (rs.take (i+1))++FT (rs.drop (i+1)):=by
  simp only [FT]
  rw [←List.flatMap_append,List.take_append_drop]
 rw [h1,Hn h d]
 exact(List.Sublist.append (List.Sublist.refl _) (List.take_sublist _ _)).trans (List.sublist_append_left _ _)
abbrev cU (r:aj):List UInt8:=ByteArray.toList r.2.1
structure GoodX (rs:List aj):Prop where
 up:∀a b:Nat,a<b→b<rs.length→(rs.getD a (aa ab)).1<(rs.getD b (aa ab)).1
 keys:∀a b:Nat,a<b→b<rs.length→cU (rs.getD a (aa ab))≠cU (rs.getD b (aa ab))
 chk:∀a:Nat,a<rs.length→ROk (rs.getD a (aa ab))
 ap:(FT rs).Pairwise NC
theorem Ho {K V:Type} [BEq K] [LawfulBEq K] (v:V) (x k:K):∀l:List (K×V),bT (bW l x v) k=(k==x||bT l k)
 | []=>by simp [bW,bT]
 |(a,w)::l=>by
  simp only [bW]
  by_cases h:x==a
  ·have:x=a:=by simpa using h
   subst this
   simp [bT]
  ·rw [if_neg h]
   simp only [bT,Ho v x k l]
   cases k==a<;>cases k==x<;>rfl
abbrev Mp:=List (Int×Unit)
def iG (m:Mp) (l:List Int):Prop:=(∀k,bT m k=true↔k∈l)∧l.Nodup
theorem Hp {m:Mp} {l:List Int} {x:Int} (h:iG m l) (hx:bT m x=false):iG (bW m x ()) (l++ [x]):=by
 have hn:x∉l:=fun h2=>by rw [(h.1 x).2 h2]at hx;cases hx
 refine⟨fun k=> ?_,?_⟩
 ·rw [Ho]
  simp only [Bool.or_eq_true,beq_iff_eq,h.1 k,mem_append,mem_singleton]
  exact Or.comm
 ·rw [List.nodup_append]
  exact⟨h.2,by simp,fun a ha b hb=>by simp only [mem_singleton]at hb;subst hb;exact fun e=>hn (e▸ha)⟩
theorem Ch {s:Int} {f:an→Int} {m:Mp} {l:List an} {t:an} (hm:iG m (dK s f l)) (ht:bT m (f t)=true):∃x∈l,x.1=s∧f x=f t:=Oc.1 ((hm.1 _).1 ht)
theorem LK {l:List an} {t x:an} (hx:x∈l) (h:¬NC x t):¬(l++ [t]).Pairwise NC:=fun hp=>h ((List.pairwise_append.1 hp).2.2 x hx t (List.mem_singleton.2 rfl))
theorem aiF (rs:List aj) (x1 x2:Int) (ts:List an) (ht:ts.length≤9223372036854775807) (m1 m2:Mp) (l:List an) (hm1:iG m1 (dK 2 dW l)) (hm2:iG m2 (dK 1 dL l)):
  ∃y,gj (rs,rs,x1,x2,ts,(ts.length:Int),ofNat 0,m1,m2,())=some y∧((((∃a,y= .inl (ofNat 8,a))∨(∃a,y= .inr (.inl (ofNat 8,a))))∧∃j,¬(l++ts.take j).Pairwise NC)∨(∃m1' m2':Mp,y= .inr (.inr (rs,rs,x1,x2,m1',m2',()))∧iG m1' (dK 2 dW (l++ts))∧iG m2' (dK 1 dL (l++ts)))):=by
 obtain⟨y,hy,hq⟩:=ba (st:=gI) ts.length (fun j (a:Mp×Mp)=>(rs,rs,x1,x2,ts,(ts.length:Int),(j:Int),a.1,a.2,())) (fun j a=>iG a.1 (dK 2 dW (l++ts.take j))∧iG a.2 (dK 1 dL (l++ts.take j)))
  (fun y=>((((∃a,y= .inl (ofNat 8,a))∨(∃a,y= .inr (.inl (ofNat 8,a))))∧∃j,¬(l++ts.take j).Pairwise NC)∨(∃m1' m2':Mp,y= .inr (.inr (rs,rs,x1,x2,m1',m2',()))∧iG m1' (dK 2 dW (l++ts))∧iG m2' (dK 1 dL (l++ts))))) (fun j a h hx=>by
   obtain⟨m1,m2⟩:=a
   obtain⟨hx1,hx2⟩:=hx
   simp only at hx1 hx2
   simp only [gI,mD,kY,bz h,aP h,aH h,cond_true,toNat_natCast]
   rw [aX (by omega)]
   have hts:l++ts.take (j+1)=(l++ts.take j)++ [ts.getD j (aa ae)]:=by rw [take_succ_eq_append_getElem h,bD h,append_assoc]
   generalize ts.getD j (aa ae)=t at hts
   have s1:=FH 2 dW (l++ts.take j) t
   have s2:=FH 1 dL (l++ts.take j) t
   rw [←hts]at s1 s2
   have no1:(t.1==ofNat 2)=false→iG m1 (dK 2 dW (l++ts.take (j+1))):=fun h2=>by rw [s1,show(t.1==2)=false from h2];simpa using hx1
   have no2:(t.1==ofNat 1)=false→iG m2 (dK 1 dL (l++ts.take (j+1))):=fun h2=>by rw [s2,show(t.1==1)=false from h2];simpa using hx2
   have yes1:(t.1==ofNat 2)=true→bT m1 t.2.2.2.1=false→iG (bW m1 t.2.2.2.1 ()) (dK 2 dW (l++ts.take (j+1))):=fun h2 h3=>by rw [s1,show(t.1==2)=true from h2,cond_true];exact Hp hx1 h3
   have yes2:(t.1==ofNat 1)=true→bT m2 t.2.2.2.2.1=false→iG (bW m2 t.2.2.2.2.1 ()) (dK 1 dL (l++ts.take (j+1))):=fun h2 h3=>by rw [s2,show(t.1==1)=true from h2,cond_true];exact Hp hx2 h3
   have bad1:(t.1==ofNat 2)=true→bT m1 t.2.2.2.1=true→¬(l++ts.take (j+1)).Pairwise NC:=fun h2 h3=>by
    obtain⟨x,hxl,e1,e2⟩:=Ch (f:=dW) hx1 h3
    rw [hts]
    exact LK hxl fun hn=>hn.1 ⟨e1,by simpa using h2,e2⟩
   have bad2:(t.1==ofNat 1)=true→bT m2 t.2.2.2.2.1=true→¬(l++ts.take (j+1)).Pairwise NC:=fun h2 h3=>by
    obtain⟨x,hxl,e1,e2⟩:=Ch (f:=dL) hx2 h3
    rw [hts]
    exact LK hxl fun hn=>hn.2 ⟨e1,by simpa using h2,e2⟩
   rcases h1:(t.1==ofNat 2)with _|_
   ·simp only [cond_false]
    rcases h2:(t.1==ofNat 1)with _|_
    ·exact .inl ⟨(m1,m2),rfl,no1 h1,no2 h2⟩
    ·simp only [cond_true]
     rcases h3:bT m2 t.2.2.2.2.1 with _|_
     ·exact .inl ⟨(m1,_),rfl,no1 h1,yes2 h2 h3⟩
     ·exact .inr ⟨_,rfl,.inl ⟨.inl ⟨_,rfl⟩,_,bad2 h2 h3⟩⟩
   ·simp only [cond_true]
    rcases h4:bT m1 t.2.2.2.1 with _|_
    ·simp only [cond_false]
     rcases h2:(t.1==ofNat 1)with _|_
     ·exact .inl ⟨(_,m2),rfl,yes1 h1 h4,no2 h2⟩
     ·simp only [cond_true]
      rcases h3:bT m2 t.2.2.2.2.1 with _|_
      ·exact .inl ⟨(_,_),rfl,yes1 h1 h4,yes2 h2 h3⟩
      ·exact .inr ⟨_,rfl,.inl ⟨.inr ⟨_,rfl⟩,_,bad2 h2 h3⟩⟩
    ·exact .inr ⟨_,rfl,.inl ⟨.inl ⟨_,rfl⟩,_,bad1 h1 h4⟩⟩) (fun a hx=>⟨.inr (.inr (rs,rs,x1,x2,a.1,a.2,())),by simp only [gI,mD,kY,bu,cond_false],.inr ⟨a.1,a.2,rfl,by rw [take_length]at hx;exact hx⟩⟩) (m1,m2) (by simpa using ⟨hm1,hm2⟩)
 exact⟨y,hy,hq⟩
theorem aiG (rs:List aj) (hl:rs.length≤9223372036854775807) (r:aj):
  ∃y,lK (rs,(rs.length:Int),ofNat 0,r.1,r.2.1,r.2.2.1.1,r.2.2.2.1,r.2.2.2.2.1,())=some y∧((∃a,y= .inl a∧decide (a.1≥ofNat 0)=true∧∃j,j<rs.length∧cU (rs.getD j (aa ab))=cU r)∨(y= .inr (r.1,r.2.1,r.2.2.1.1,r.2.2.2.1,r.2.2.2.2.1,())∧∀j,j<rs.length→cU (rs.getD j (aa ab))≠cU r)):=by
 obtain⟨y,hy,hq⟩:=ba (st:=gJ) rs.length (fun j (_:Unit)=>(rs,(rs.length:Int),(j:Int),r.1,r.2.1,r.2.2.1.1,r.2.2.2.1,r.2.2.2.2.1,())) (fun i a=>∀j,j<i→cU (rs.getD j (aa ab))≠cU r)
  (fun y=>((∃a,y= .inl a∧decide (a.1≥ofNat 0)=true∧∃j,j<rs.length∧cU (rs.getD j (aa ab))=cU r)∨(y= .inr (r.1,r.2.1,r.2.2.1.1,r.2.2.2.1,r.2.2.2.2.1,())∧∀j,j<rs.length→cU (rs.getD j (aa ab))≠cU r))) (fun j a h hx=>by
   simp only [gJ,mE,bz h,aP h,aH h,cond_true,toNat_natCast]
   rw [aX (by omega)]
   rcases hb:(ByteArray.toList (rs.getD j (aa ab)).2.1==ByteArray.toList r.2.1)with _|_
   ·exact .inl ⟨(),rfl,dm hx fun e=>by rw [show ByteArray.toList (rs.getD j (aa ab)).2.1=ByteArray.toList r.2.1 from e]at hb;simp at hb⟩
   ·exact .inr ⟨_,rfl,.inl ⟨_,rfl,vF j,j,h,by simpa using hb⟩⟩) (fun a hx=>⟨.inr (r.1,r.2.1,r.2.2.1.1,r.2.2.2.1,r.2.2.2.2.1,()),by simp only [gJ,mE,bu,cond_false],.inr ⟨rfl,hx⟩⟩) () (fun j h=>absurd h (not_lt_zero _))
 exact⟨y,hy,hq⟩
theorem Kg {X Y:Type} (rs:List aj) (i:Nat) (h:i<rs.length) (hm:rs.length≤9223372036854775807) (r:aj) (e:Y) (z:X⊕Y):
  (bif decide ((i:Int)>ofNat 0)then(bif ah 0 (IntKind.i64.wrap ((i:Int)-ofNat 1)) ((rs.length:Int)-1)then(bif decide ((IntKind.i64.wrap ((i:Int)-ofNat 1)).toNat<rs.length)then(bif decide (r.1≤(rs.getD (IntKind.i64.wrap ((i:Int)-ofNat 1)).toNat (aa ab)).1)then(some (.inr e))else bif ah 0 (i:Int) (rs.length:Int)then(some z)else none)else none)else none)else bif ah 0 (i:Int) (rs.length:Int)then(some z)else none)
   =some (if 0<i∧r.1≤(rs.getD (i-1) (aa ab)).1 then .inr e else z):=by
 have hw:ah 0 (i:Int) (rs.length:Int)=true:=by simp [ah];omega
 rw [hw]
 rcases Nat.eq_zero_or_pos i with rfl|hp
 ·rfl
 ·rw [LI hp (by omega),aP (show i-1<rs.length by omega),toNat_natCast,aH (show i-1<rs.length by omega),decide_eq_true (show(i:Int)>ofNat 0 by simp only [aF];omega)]
  simp only [cond_true]
  by_cases hc:r.1≤(rs.getD (i-1) (aa ab)).1
  ·rw [decide_eq_true hc,if_pos ⟨hp,hc⟩];rfl
  ·rw [decide_eq_false hc,if_neg fun h=>hc h.2];rfl
def code {A B C D E:Type}:(Int×A)⊕((Int×B)⊕((Int×C)⊕((Int×D)⊕E)))→Int
 | .inl a=>a.1
 | .inr (.inl a)=>a.1
 | .inr (.inr (.inl a))=>a.1
 | .inr (.inr (.inr (.inl a)))=>a.1
 | .inr (.inr (.inr (.inr _)))=>0
theorem Ci {α:Type} {l:List α} {n i:Nat} (h:i<n) (d:α):(l.take n).getD i d=l.getD i d:=by
 simp [List.getD_eq_getElem?_getD,List.getElem?_take,h]
structure Pre (rs:List aj) (j:Nat) (m:Mp×Mp):Prop where
 up:∀a b:Nat,a<b→b<j→(rs.getD a (aa ab)).1<(rs.getD b (aa ab)).1
 keys:∀a b:Nat,a<b→b<j→cU (rs.getD a (aa ab))≠cU (rs.getD b (aa ab))
 chk:∀a:Nat,a<j→ROk (rs.getD a (aa ab))
 m1:iG m.1 (dK 2 dW (FT (rs.take j)))
 m2:iG m.2 (dK 1 dL (FT (rs.take j)))
theorem l40 (rs:List aj) (hm:rs.length≤9223372036854775807) (hr:∀r∈rs,bH r):
  ∃y,pM (rs,rs,(rs.length:Int),ofNat 0,[],[],())=some y∧((code y=8∧¬GoodX rs)∨(code y=0∧GoodX rs)):=by
 obtain⟨y,hy,hq⟩:=ba (st:=gK) rs.length (fun j (a:Mp×Mp)=>(rs,rs,(rs.length:Int),(j:Int),a.1,a.2,())) (fun j a=>Pre rs j a)
  (fun y=>(code y=8∧¬GoodX rs)∨(code y=0∧GoodX rs)) (fun j a h hx=>by
   obtain⟨m1,m2⟩:=a
   have hok:=hr _ (aD h (aa ab))
   obtain⟨v,hv,hv0⟩:=f89 _ hok
   have hs:=Hn h (aa ab)
   have hpre:=Zw rs h (aa ab)
   have hup:=fun(g:GoodX rs) (h0:0<j)=>g.up (j-1) j (by omega) h
   have hkey:=fun(g:GoodX rs) (i:Nat) (h0:i<j)=>g.keys i j h0 h
   have hchk:=fun(g:GoodX rs)=>g.chk j h
   have hx1:=hx.m1
   have hx2:=hx.m2
   have hcons:∀m:Mp×Mp,ROk (rs.getD j (aa ab))→¬(0<j∧(rs.getD j (aa ab)).1≤(rs.getD (j-1) (aa ab)).1)→(∀i,i<j→cU (rs.getD i (aa ab))≠cU (rs.getD j (aa ab)))→iG m.1 (dK 2 dW (FT (rs.take (j+1))))→iG m.2 (dK 1 dL (FT (rs.take (j+1))))→Pre rs (j+1) m:=fun m h1 h2 h3 h4 h5=>by
    refine⟨fun a b hab hb=> ?_,fun a b hab hb=> ?_,dm hx.chk h1,h4,h5⟩
    ·rcases lt_or_ge b j with hb'|hb'
     ·exact hx.up a b hab hb'
     ·have e:b=j:=by omega
      subst e
      have h6:(rs.getD (b-1) (aa ab)).1<(rs.getD b (aa ab)).1:=by
       have:=fun h=>h2 ⟨by omega,h⟩
       omega
      rcases lt_or_ge a (b-1)with h7|h7
      ·exact Int.lt_trans (hx.up a (b-1) h7 (by omega)) h6
      ·have e:a=b-1:=by omega
       rw [e];exact h6
    ·rcases lt_or_ge b j with hb'|hb'
     ·exact hx.keys a b hab hb'
     ·have e:b=j:=by omega
      subst e
      exact h3 a hab
   generalize hrr:rs.getD j (aa ab)=r at hok hv hv0 hs hpre hup hkey hchk hcons
   simp only [gK,mF,kZ,bz h,aP h,aH h,cond_true,toNat_natCast,hrr,eR,hv,bind_some]
   rcases hv0 with⟨rfl,hz⟩|⟨rfl,hz⟩
   ·rw [cQ]
    obtain⟨yk,hk,hkq⟩:=aiG (take (j-0) (drop 0 rs)) (by rw [length_take,drop_zero];omega) r
    rw [hk]
    simp only [bind_some]
    have hpr:0<j∧r.1≤(rs.getD (j-1) (aa ab)).1→¬GoodX rs:=fun h1 g=>by have:=hup g h1.1;omega
    rcases hkq with⟨a,rfl,ha,i,hi,hik⟩|⟨rfl,hk2⟩
    ·have hbad:¬GoodX rs:=fun g=>by
      simp only [length_take,drop_zero,sub_zero]at hi
      rw [drop_zero,sub_zero,Ci (by omega)]at hik
      exact hkey g i (by omega) hik
     simp only [ha,cond_true]
     rw [Kg rs j h hm r]
     split
     ·exact .inr ⟨_,rfl,.inl ⟨rfl,hbad⟩⟩
     ·exact .inr ⟨_,rfl,.inl ⟨rfl,hbad⟩⟩
    ·have hk3:∀i,i<j→cU (rs.getD i (aa ab))≠cU r:=fun i hi=>by
      have:=hk2 i (by simp only [length_take,drop_zero,sub_zero];omega)
      rwa [drop_zero,sub_zero,Ci hi]at this
     simp only
     obtain⟨yt,ht,htq⟩:=aiF rs (rs.length:Int) (j:Int) r.2.2.2.2.1 hok.tl m1 m2 _ hx1 hx2
     rw [ht]
     simp only [bind_some]
     rcases htq with⟨⟨a,rfl⟩|⟨a,rfl⟩,i,hb⟩|⟨m1',m2',rfl,hm1,hm2⟩
     ·have hbad:¬GoodX rs:=fun g=>hb (g.ap.sublist (hpre i))
      simp only
      rw [Kg rs j h hm r]
      split
      ·exact .inr ⟨_,rfl,.inl ⟨rfl,hbad⟩⟩
      ·exact .inr ⟨_,rfl,.inl ⟨rfl,hbad⟩⟩
     ·have hbad:¬GoodX rs:=fun g=>hb (g.ap.sublist (hpre i))
      simp only
      rw [Kg rs j h hm r]
      split
      ·exact .inr ⟨_,rfl,.inl ⟨rfl,hbad⟩⟩
      ·exact .inr ⟨_,rfl,.inl ⟨rfl,hbad⟩⟩
     ·simp only
      rw [Kg rs j h hm r]
      split
      ·rename_i hc
       exact .inr ⟨_,rfl,.inl ⟨rfl,hpr hc⟩⟩
      ·rename_i hc
       rw [aX (by omega)]
       rw [←hs]at hm1 hm2
       exact .inl ⟨(m1',m2'),rfl,hcons (m1',m2') hz hc hk3 hm1 hm2⟩
   ·rw [show(8:Int)=ofNat (7+1)from rfl,eX]
    exact .inr ⟨_,rfl,.inl ⟨rfl,fun g=>hz (hchk g)⟩⟩) (fun a hx=>⟨.inr (.inr (.inr (.inr (a.1,a.2,())))),by simp only [gK,mF,kZ,bu,cond_false],.inr ⟨rfl,by
    have h1:=hx.m1.2
    have h2:=hx.m2.2
    rw [take_length]at h1 h2
    exact⟨hx.up,hx.keys,hx.chk,adJ h1 h2⟩⟩⟩) ([],[]) ⟨fun a b _ h=>absurd h (not_lt_zero _),fun a b _ h=>absurd h (not_lt_zero _),fun a h=>absurd h (not_lt_zero _),by simp [iG,bT,FT,dK],by simp [iG,bT,FT,dK]⟩
 exact⟨y,hy,hq⟩
def eG (rs:List aj):Prop:=rs.length≤32∧GoodX rs
def Zx (rs:List aj) (v:Int):Prop:=(rs.length>32∧v=4)∨(rs.length≤32∧¬GoodX rs∧v=8)∨(eG rs∧v=0)
theorem f51 (rs:List aj) (hm:rs.length≤9223372036854775807) (hr:∀r∈rs,bH r):∃v,yG (rs,())=some (v,())∧Zx rs v:=by
 simp only [yG]
 by_cases h2:((rs.length:Nat):Int)>ofNat 32
 ·rw [decide_eq_true h2];exact⟨_,rfl,.inl ⟨by simp only [aF]at h2;omega,rfl⟩⟩
 ·rw [decide_eq_false h2]
  have h32:rs.length≤32:=by simp only [aF]at h2;omega
  obtain⟨y,hy,hq⟩:=l40 rs hm hr
  simp only [cond_false,hy,bind_some]
  have fin:∀v:Int,code y=v→Zx rs v:=fun v e=>by
   rcases hq with⟨h,hg⟩|⟨h,hg⟩
   ·exact .inr (.inl ⟨h32,hg,by omega⟩)
   ·exact .inr (.inr ⟨⟨h32,hg⟩,by omega⟩)
  match y,fin with
  | .inl a,fin=>exact⟨_,rfl,fin _ rfl⟩
  | .inr (.inl a),fin=>exact⟨_,rfl,fin _ rfl⟩
  | .inr (.inr (.inl a)),fin=>exact⟨_,rfl,fin _ rfl⟩
  | .inr (.inr (.inr (.inl a))),fin=>exact⟨_,rfl,fin _ rfl⟩
  | .inr (.inr (.inr (.inr a))),fin=>exact⟨_,rfl,fin _ rfl⟩
def Rt (ns:List aT):Prop:=ns.length≤60∧∀i,i<ns.length→(ns.getD i (aa af)).1.length≤60
def SmR (r:aj):Prop:=Rt r.2.2.1.1∧r.2.2.2.2.1.length≤60
theorem f45 (ns:List aT) (hn:ns.length≤9223372036854775807):∃b,Lz ((ns,()),())=some (b,())∧(b=false→Rt ns):=by
 simp only [Lz]
 by_cases c1:((ns.length:Nat):Int)>ofNat 60
 ·rw [decide_eq_true c1];exact⟨_,rfl,fun h=>nomatch h⟩
 ·rw [decide_eq_false c1]
  obtain⟨y,hy,hq⟩:=ba (st:=gA) ns.length (fun i (_:Unit)=>((i:Int),ns,())) (fun m _=>∀i,i<m→(ns.getD i (aa af)).1.length≤60)
   (fun y=>(∃z,y= .inl (true,z))∨((∃z,y= .inr z)∧∀i,i<ns.length→(ns.getD i (aa af)).1.length≤60)) (fun i _ h hx=>by
    simp only [gA,mr,bz h,aP h,aH h,cond_true,toNat_natCast]
    rw [aX (by omega)]
    by_cases c:(((ns.getD i (aa af)).1.length:Nat):Int)>ofNat 60
    ·rw [decide_eq_true c];exact .inr ⟨_,rfl,.inl ⟨_,rfl⟩⟩
    ·rw [decide_eq_false c];exact .inl ⟨(),rfl,dm hx (by simp only [aF]at c;omega)⟩) (fun _ hx=>⟨.inr (ns,()),by simp only [gA,mr,bu,cond_false],.inr ⟨⟨_,rfl⟩,hx⟩⟩) () (fun k h=>absurd h (not_lt_zero _))
  have hy':pE (ofNat 0,ns,())=some y:=hy
  simp only [cond_false,hy',bind_some]
  rcases hq with⟨z,rfl⟩|⟨⟨z,rfl⟩,hq⟩
  ·exact⟨_,rfl,fun h=>nomatch h⟩
  ·exact⟨_,rfl,fun _=>⟨by simp only [aF]at c1;omega,hq⟩⟩
theorem pp {n k:Nat} (h:n≤1000) (hk:k≤1000):(decide (n*k≤bh) && decide (n≤bh))=true:=by
 have:bh=70368744177664:=by decide
 rw [this]
 have:n*k≤1000*1000:=Nat.mul_le_mul h hk
 simp;omega
theorem Dn {n k:Nat} (h:n≤1000) (hk:k≤1000):(decide (n*k≤2^46) && decide (n≤2^46))=true:=pp h hk
theorem rE {α:Type} {l:List α} {i:Nat} (h:i<l.length) (d:α):l.take (i+1)=l.take i++ [l.getD i d]:=by
 rw [take_succ_eq_append_getElem h,bD h]
theorem Od:(ofNat 0 !=ofNat 0)=false:=rfl
theorem f205 (a b:Int):F205 (a,b,())=some (if a<b then negSucc 0 else if a>b then ofNat 1 else ofNat 0,()):=by
 simp only [F205,F234,bind_some]
 rw [show(a !=a)=false by simp,show(b !=b)=false by simp]
 simp only [cond_false]
 by_cases h:a<b
 ·rw [decide_eq_true h,if_pos h];rfl
 ·rw [decide_eq_false h,if_neg h]
  by_cases h2:a>b
  ·rw [decide_eq_true h2,if_pos h2];rfl
  ·rw [decide_eq_false h2,if_neg h2];rfl
theorem Zy {lo hi:Nat} (h:lo+hi<1000):IntKind.i64.wrap ((IntKind.u64.wrap (IntKind.i64.wrap ((lo:Int)+(hi:Int)))).fdiv (2^min (ofNat 1).toNat IntKind.u64.bits))=(((lo+hi)/2:Nat):Int):=by
 have e1:IntKind.i64.wrap ((lo:Int)+(hi:Int))=((lo+hi:Nat):Int):=by
  unfold IntKind.wrap
  simp [IntKind.bits,IntKind.signed]
  omega
 have e2:IntKind.u64.wrap ((lo+hi:Nat):Int)=((lo+hi:Nat):Int):=by
  unfold IntKind.wrap
  simp [IntKind.bits,IntKind.signed]
  omega
 have e3:(2:Int)^min (ofNat 1).toNat IntKind.u64.bits=2:=by decide
 rw [e1,e2,e3,Int.fdiv_eq_ediv_of_nonneg _ (by omega)]
 unfold IntKind.wrap
 simp [IntKind.bits,IntKind.signed]
 omega
theorem l32 (rs:List aj) (hf:eG rs) (id:Int):
  ∃p:Nat,oC (rs,id,(rs.length:Int),ofNat 0,(rs.length:Int),())=some (rs,id,(rs.length:Int),(p:Int),())∧p≤rs.length∧(∀a,a<p→(rs.getD a (aa ab)).1<id)∧(∀a,p≤a→a<rs.length→id≤(rs.getD a (aa ab)).1):=by
 obtain⟨h32,hg⟩:=hf
 obtain⟨y,hy,p,rfl,hq⟩:=wG (st:=gh) (fun x=>x.2.2.2.2.1.toNat-x.2.2.2.1.toNat) (fun x=>∃lo hi:Nat,x=(rs,id,(rs.length:Int),(lo:Int),(hi:Int),())∧lo≤hi∧hi≤rs.length∧(∀a,a<lo→(rs.getD a (aa ab)).1<id)∧(∀a,hi≤a→a<rs.length→id≤(rs.getD a (aa ab)).1))
  (fun y=>∃p:Nat,y=(rs,id,(rs.length:Int),(p:Int),())∧p≤rs.length∧(∀a,a<p→(rs.getD a (aa ab)).1<id)∧(∀a,p≤a→a<rs.length→id≤(rs.getD a (aa ab)).1)) (fun x hx=>by
   obtain⟨lo,hi,rfl,h1,h2,h3,h4⟩:=hx
   rcases lt_or_ge lo hi with h|h
   ·have hmid:(lo+hi)/2<rs.length:=by omega
    refine .inl ?_
    simp only [gh,lf,bz h,Zy (show lo+hi<1000 by omega),aP hmid,toNat_natCast,aH hmid,cond_true,f205,bind_some]
    by_cases hc:(rs.getD ((lo+hi)/2) (aa ab)).1<id
    ·rw [if_pos hc,show decide (negSucc 0<ofNat 0)=true by decide,aX (by omega)]
     refine⟨_,rfl,⟨(lo+hi)/2+1,hi,rfl,by omega,h2,fun a ha=> ?_,h4⟩,?_⟩
     ·rcases lt_or_ge a ((lo+hi)/2)with h5|h5
      ·have:=hg.up a _ h5 hmid
       omega
      ·have e:a=(lo+hi)/2:=by omega
       rw [e];exact hc
     ·simp only [toNat_natCast];omega
    ·rw [if_neg hc]
     have e:decide ((if(rs.getD ((lo+hi)/2) (aa ab)).1>id then ofNat 1 else ofNat 0)<ofNat 0)=false:=by split<;>decide
     rw [e]
     refine⟨_,rfl,⟨lo,(lo+hi)/2,rfl,by omega,by omega,h3,fun a ha hal=> ?_⟩,?_⟩
     ·rcases lt_or_ge ((lo+hi)/2) a with h5|h5
      ·have:=hg.up _ a h5 hal
       omega
      ·have e:a=(lo+hi)/2:=by omega
       rw [e];omega
     ·simp only [toNat_natCast];omega
   ·have e:hi=lo:=by omega
    subst e
    exact .inr ⟨(rs,id,(rs.length:Int),(hi:Int),()),by simp only [gh,lf,bu,cond_false],hi,rfl,h2,h3,h4⟩) (rs,id,(rs.length:Int),((0:Nat):Int),(rs.length:Int),()) ⟨0,rs.length,rfl,by omega,by omega,fun a h=>absurd h (not_lt_zero _),fun a h1 h2=>by omega⟩
 exact⟨p,hy,hq⟩
def dy {S:Type} (f:Nat→an→S→S):Nat→List an→S→S
 |_,[],s=>s
 |k,t::l,s=>dy f (k+1) l (f k t s)
theorem Cj {S:Type} (f:Nat→an→S→S) (t:an):∀(l:List an) (k:Nat) (s:S),dy f k (l++ [t]) s=f (k+l.length) t (dy f k l s)
 | [],_,_=>rfl
 |a::l,k,s=>by
  simp only [cons_append,dy,Cj f t l (k+1),length_cons]
  rw [show k+1+l.length=k+(l.length+1) by omega]
theorem rF {S:Type} (f:Nat→an→S→S) {ts:List an} {j:Nat} (h:j<ts.length) (s:S):dy f 0 (ts.take (j+1)) s=f j (ts.getD j (aa ae)) (dy f 0 (ts.take j) s):=by
 rw [take_succ_eq_append_getElem h,Cj,bD h,length_take,Nat.min_eq_left (by omega),zero_add]
def ef {S:Type} (f:aj→Nat→an→S→S) (rs:List aj) (s:S):S:=rs.foldl (fun s r=>dy (f r) 0 r.2.2.2.2.1 s) s
theorem rG {S:Type} (f:aj→Nat→an→S→S) {rs:List aj} {j:Nat} (h:j<rs.length) (s:S):ef f (rs.take (j+1)) s=dy (f (rs.getD j (aa ab))) 0 (rs.getD j (aa ab)).2.2.2.2.1 (ef f (rs.take j) s):=by
 rw [rE h (aa ab)]
 simp only [ef,List.foldl_append,List.foldl_cons,List.foldl_nil]
abbrev wS:=Int×Bool×Int×Int×Int
def dM (r:aj) (k:Nat) (t:an) (s:wS):wS:=
 bif t.1==ofNat 1 then(bif !s.2.1 then(t.2.2.2.2.1,true,r.1,(k:Int),ofNat 0)else bif decide (t.2.2.2.2.1<s.1)then(t.2.2.2.2.1,true,r.1,(k:Int),ofNat 0)else s)else s
theorem aiH (rs:List aj) (x1 z1 z2 z3:Int) (i:Nat) (r:aj) (ht:r.2.2.2.2.1.length≤9223372036854775807) (s:wS):
  oz (s.1,s.2.1,rs,x1,(i:Int),r.2.2.2.2.1,(r.2.2.2.2.1.length:Int),ofNat 0,z1,z2,z3,s.2.2.1,s.2.2.2.1,s.2.2.2.2,r.1,r.2.1,r.2.2.1.1,r.2.2.2.1,r.2.2.2.2.1,())=some ((dy (dM r) 0 r.2.2.2.2.1 s).1,(dy (dM r) 0 r.2.2.2.2.1 s).2.1,rs,x1,(i:Int),z1,z2,z3,(dy (dM r) 0 r.2.2.2.2.1 s).2.2.1,(dy (dM r) 0 r.2.2.2.2.1 s).2.2.2.1,(dy (dM r) 0 r.2.2.2.2.1 s).2.2.2.2,r.1,r.2.1,r.2.2.1.1,r.2.2.2.1,r.2.2.2.2.1,()):=by
 obtain⟨y,hy,rfl⟩:=ba (st:=gc) r.2.2.2.2.1.length (fun j (s:wS)=>(s.1,s.2.1,rs,x1,(i:Int),r.2.2.2.2.1,(r.2.2.2.2.1.length:Int),(j:Int),z1,z2,z3,s.2.2.1,s.2.2.2.1,s.2.2.2.2,r.1,r.2.1,r.2.2.1.1,r.2.2.2.1,r.2.2.2.2.1,())) (fun j s'=>s'=dy (dM r) 0 (r.2.2.2.2.1.take j) s)
  (fun y=>y=((dy (dM r) 0 r.2.2.2.2.1 s).1,(dy (dM r) 0 r.2.2.2.2.1 s).2.1,rs,x1,(i:Int),z1,z2,z3,(dy (dM r) 0 r.2.2.2.2.1 s).2.2.1,(dy (dM r) 0 r.2.2.2.2.1 s).2.2.2.1,(dy (dM r) 0 r.2.2.2.2.1 s).2.2.2.2,r.1,r.2.1,r.2.2.1.1,r.2.2.2.1,r.2.2.2.2.1,())) (fun j s' h hx=>by
   have hs:=rF (dM r) h s
   rw [←hx]at hs
   refine .inl ⟨dM r j (r.2.2.2.2.1.getD j (aa ae)) s',?_,hs.symm⟩
   simp only [gc,lb,jM,bz h,aP h,aH h,cond_true,toNat_natCast,dM]
   rw [aX (by omega)]
   cases (r.2.2.2.2.1.getD j (aa ae)).1==ofNat 1
   ·rfl
   ·obtain⟨p,q,a,b,c⟩:=s'
    cases q
    ·rfl
    ·simp only
     cases decide ((r.2.2.2.2.1.getD j (aa ae)).2.2.2.2.1<p)<;>rfl) (fun s' hx=>⟨(s'.1,s'.2.1,rs,x1,(i:Int),z1,z2,z3,s'.2.2.1,s'.2.2.2.1,s'.2.2.2.2,r.1,r.2.1,r.2.2.1.1,r.2.2.2.1,r.2.2.2.2.1,()),by simp only [gc,lb,jM,bu,cond_false],by rw [hx,take_length]⟩) s (by simp [dy])
 exact hy
def mg:wS:=(0,false,0,0,0)
theorem l35 (rs:List aj) (hm:rs.length≤9223372036854775807) (hr:∀r∈rs,bH r):
  ∃z1 z2 z3:Int,oA (ofNat 0,false,rs,(rs.length:Int),ofNat 0,ofNat 0,ofNat 0,ofNat 0,ofNat 0,ofNat 0,ofNat 0,())=some ((ef dM rs mg).2.1,z1,z2,z3,(ef dM rs mg).2.2.1,(ef dM rs mg).2.2.2.1,(ef dM rs mg).2.2.2.2,()):=by
 obtain⟨y,hy,rfl⟩:=ba (st:=gf) rs.length (fun j (s:wS)=>(s.1,s.2.1,rs,(rs.length:Int),(j:Int),ofNat 0,ofNat 0,ofNat 0,s.2.2.1,s.2.2.2.1,s.2.2.2.2,())) (fun j s=>s=ef dM (rs.take j) mg)
  (fun y=>y=((ef dM rs mg).2.1,ofNat 0,ofNat 0,ofNat 0,(ef dM rs mg).2.2.1,(ef dM rs mg).2.2.2.1,(ef dM rs mg).2.2.2.2,())) (fun j s h hx=>by
   have hok:=hr _ (aD h (aa ab))
   have h1:=aiH rs (rs.length:Int) (ofNat 0) (ofNat 0) (ofNat 0) j _ hok.tl s
   simp only [gf,lc,bz h,aP h,aH h,cond_true,toNat_natCast,h1,bind_some]
   rw [aX (by omega)]
   exact .inl ⟨_,rfl,by rw [rG dM h,←hx]⟩) (fun s hx=>⟨(s.2.1,ofNat 0,ofNat 0,ofNat 0,s.2.2.1,s.2.2.2.1,s.2.2.2.2,()),by simp only [gf,lc,bu,cond_false],by rw [hx,take_length]⟩) mg (by simp [ef])
 exact⟨_,_,_,hy⟩
abbrev bY:=Int×Int×Int×Unit
def dA (t:an) (now:Int):Bool:=(t.1==ofNat 2||t.1==ofNat 3) && decide (t.2.2.1≤now)
theorem f176 (t:an) (now:Int):kC (t,now,())=some (dA t now,()):=by
 simp only [kC,dA]
 cases t.1==ofNat 2<;>cases t.1==ofNat 3<;>rfl
def gR (id now:Int):Nat→List an→List bY
 |_,[]=>[]
 |k,t::ts=>(bif dA t now then [(id,(k:Int),t.2.2.1,())]else [])++gR id now (k+1) ts
theorem Hq (id now:Int) (t:an):∀(l:List an) (k:Nat),gR id now k (l++ [t])=gR id now k l++(bif dA t now then [(id,((k+l.length:Nat):Int),t.2.2.1,())]else [])
 | [],k=>by simp [gR]
 |a::l,k=>by
  simp only [cons_append,gR,Hq id now t l (k+1),append_assoc,length_cons]
  rw [show k+1+l.length=k+(l.length+1) by omega]
theorem Oe {id now:Int} {ts:List an} {j:Nat} (h:j<ts.length) (d:an):gR id now 0 (ts.take (j+1))=gR id now 0 (ts.take j)++(bif dA (ts.getD j d) now then [(id,(j:Int),(ts.getD j d).2.2.1,())]else []):=by
 rw [take_succ_eq_append_getElem h,Hq,bD h,length_take,Nat.min_eq_left (by omega),zero_add]
theorem Bl (id now:Int):∀(ts:List an) (k:Nat),(gR id now k ts).length≤ts.length
 | [],_=>le_refl _
 |t::ts,k=>by
  have:=Bl id now ts (k+1)
  simp only [gR,List.length_append,length_cons]
  cases dA t now<;>simp<;>omega
theorem Bm {id now:Int} {p:bY}:∀{ts:List an} {k:Nat},p∈gR id now k ts→∃j,j<ts.length∧dA (ts.getD j (aa ae)) now=true∧p=(id,((k+j:Nat):Int),(ts.getD j (aa ae)).2.2.1,())
 | [],_,h=>by cases h
 |t::ts,k,h=>by
  simp only [gR,mem_append]at h
  rcases h with h|h
  ·rcases hd:dA t now with _|_
   ·rw [hd]at h;cases h
   ·rw [hd]at h
    simp only [cond_true,mem_singleton]at h
    exact⟨0,by simp,hd,h⟩
  ·obtain⟨j,h1,h2,h3⟩:=Bm h
   exact⟨j+1,by simpa using h1,h2,by rw [h3,show k+1+j=k+(j+1) by omega];rfl⟩
def pl (rs:List aj) (now:Int):List bY:=rs.flatMap (fun r=>gR r.1 now 0 r.2.2.2.2.1)
theorem Tt {rs:List aj} {j:Nat} (h:j<rs.length) (now:Int) (d:aj):pl (rs.take (j+1)) now=pl (rs.take j) now++gR (rs.getD j d).1 now 0 (rs.getD j d).2.2.2.2.1:=by
 rw [take_succ_eq_append_getElem h,bD h]
 simp only [pl,List.flatMap_append,flatMap_cons,List.flatMap_nil,List.append_nil]
theorem FI {now:Int}:∀{rs:List aj},(∀r∈rs,r.2.2.2.2.1.length≤12)→(pl rs now).length≤12*rs.length
 | [],_=>le_refl _
 |r::rs,h=>by
  have h1:=FI (now:=now) (rs:=rs) fun r hr=>h r (List.mem_cons_of_mem _ hr)
  have h2:=Bl r.1 now r.2.2.2.2.1 0
  have h3:=h r (List.mem_cons_self ..)
  simp only [pl,flatMap_cons,List.length_append,length_cons]at h1⊢
  omega
theorem FJ {rs:List aj} {now:Int} {p:bY} (h:p∈pl rs now):∃a j:Nat,a<rs.length∧j<(rs.getD a (aa ab)).2.2.2.2.1.length∧dA ((rs.getD a (aa ab)).2.2.2.2.1.getD j (aa ae)) now=true∧p=((rs.getD a (aa ab)).1,(j:Int),((rs.getD a (aa ab)).2.2.2.2.1.getD j (aa ae)).2.2.1,()):=by
 simp only [pl,List.mem_flatMap]at h
 obtain⟨r,hr,hp⟩:=h
 obtain⟨a,ha,rfl⟩:=List.mem_iff_getElem.1 hr
 obtain⟨j,h1,h2,h3⟩:=Bm hp
 rw [zero_add]at h3
 refine⟨a,j,ha,?_⟩
 rw [bD ha]
 exact⟨h1,h2,h3⟩
def FK (now:Int) (rs:List aj) (n i:Int) (r:aj) (ts:List an) (tn j:Int):List bY→(Int×List aj×Int×Int×List an×Int×Int×Int×ByteArray×List aT×Int×List an×Unit)⊕(Int×Nat×List aj×Int×Int×List an×Int×Int×List bY×Int×ByteArray×List aT×Int×List an×Unit)
 | []=>.inl (now,rs,n,i,ts,tn,j,r.1,r.2.1,r.2.2.1.1,r.2.2.2.1,r.2.2.2.2.1,())
 |a::l=>.inr (now,(a::l).length,rs,n,i,ts,tn,j,a::l,r.1,r.2.1,r.2.2.1.1,r.2.2.2.1,r.2.2.2.2.1,())
def outI (now:Int) (rs:List aj) (n i:Int) (r:aj):List bY→(Int×List aj×Int×Int×Int×ByteArray×List aT×Int×List an×Unit)⊕(Int×Nat×List aj×Int×Int×List bY×Int×ByteArray×List aT×Int×List an×Unit)
 | []=>.inl (now,rs,n,i,r.1,r.2.1,r.2.2.1.1,r.2.2.2.1,r.2.2.2.2.1,())
 |a::l=>.inr (now,(a::l).length,rs,n,i,a::l,r.1,r.2.1,r.2.2.1.1,r.2.2.2.1,r.2.2.2.2.1,())
theorem aiI {n:Nat} (h:n≤384):(decide (n*24≤bh) && decide (n≤bh))=true:=by
 have:bh=70368744177664:=by decide
 rw [this]
 simp;omega
theorem aiJ (now:Int) (rs:List aj) (n i:Int) (r:aj) (ht:r.2.2.2.2.1.length≤12) (pre:List bY) (hp:pre.length+12≤384):
  jH (FK now rs n i r r.2.2.2.2.1 (r.2.2.2.2.1.length:Int) (ofNat 0) pre)=some (outI now rs n i r (pre++gR r.1 now 0 r.2.2.2.2.1)):=by
 obtain⟨y,hy,rfl⟩:=ba (st:=eM) r.2.2.2.2.1.length (fun j (A:List bY)=>FK now rs n i r r.2.2.2.2.1 (r.2.2.2.2.1.length:Int) (j:Int) A) (fun j A=>A=pre++gR r.1 now 0 (r.2.2.2.2.1.take j))
  (fun y=>y=outI now rs n i r (pre++gR r.1 now 0 r.2.2.2.2.1)) (fun j A h hx=>by
   have hs:=Oe (id:=r.1) (now:=now) h (aa ae)
   have hlen:A.length+1≤384:=by
    rw [hx,List.length_append]
    have:=Bl r.1 now (r.2.2.2.2.1.take j) 0
    rw [length_take]at this
    omega
   obtain⟨t,hte⟩:∃t:an,r.2.2.2.2.1.getD j (aa ae)=t:=⟨_,rfl⟩
   rw [hte]at hs
   refine .inl ?_
   cases A with
   |nil=>
    simp only [FK,eM,kQ,jF,bz h,aP h,aH h,cond_true,toNat_natCast,hte,eT,f176,bind_some,vC,cX]
    rw [aX (by omega)]
    rcases hd:dA t now with _|_
    ·rw [hd]at hs
     exact⟨[],rfl,by rw [hs,←append_assoc,←hx];rfl⟩
    ·rw [hd]at hs
     exact⟨[(r.1,(j:Int),t.2.2.1,())],rfl,by rw [hs,←append_assoc,←hx];rfl⟩
   |cons a l=>
    simp only [FK,eM,kR,jG,bz h,aP h,aH h,cond_true,toNat_natCast,hte,eT,f176,bind_some,vC,cX]
    rw [aX (by omega)]
    rcases hd:dA t now with _|_
    ·rw [hd]at hs
     exact⟨a::l,rfl,by rw [hs,←append_assoc,←hx];simp⟩
    ·rw [hd]at hs
     refine⟨(a::l)++ [(r.1,(j:Int),t.2.2.1,())],?_,by rw [hs,←append_assoc,←hx];rfl⟩
     have e1:decide (0+(a::l).length≤(a::l).length)=true:=decide_eq_true (by omega)
     have e2:decide (0+(a::l).length=(a::l).length)=true:=decide_eq_true (by omega)
     have e3:=aiI (n:=(a::l).length+ [(r.1,(j:Int),t.2.2.1,())].length) hlen
     rw [cond_true,e1,cond_true,e3,cond_true,e2,cond_true]
     rfl) (fun A hx=>⟨outI now rs n i r A,by cases A<;>simp only [FK,outI,eM,kQ,jF,kR,jG,bu,cond_false],by rw [hx,take_length]⟩) pre (by simp [gR])
 exact hy
def FL (now:Int) (rs:List aj) (n i:Int):List bY→(Int×List aj×Int×Int×Unit)⊕(Int×Nat×List aj×Int×Int×List bY×Unit)
 | []=>.inl (now,rs,n,i,())
 |a::l=>.inr (now,(a::l).length,rs,n,i,a::l,())
def FM:List bY→Unit⊕(Nat×List bY×Unit)
 | []=>.inl ()
 |a::l=>.inr ((a::l).length,a::l,())
theorem l66 (now:Int) (rs:List aj) (hm:rs.length≤32) (ht:∀r∈rs,r.2.2.2.2.1.length≤12):
  oc (.inl (now,rs,(rs.length:Int),ofNat 0,()))=some (FM (pl rs now)):=by
 obtain⟨y,hy,rfl⟩:=ba (st:=eO) rs.length (fun j (A:List bY)=>FL now rs (rs.length:Int) (j:Int) A) (fun j A=>A=pl (rs.take j) now)
  (fun y=>y=FM (pl rs now)) (fun j A h hx=>by
   have hs:=Tt h now (aa ab)
   have htj:=ht _ (aD h (aa ab))
   have hlen:A.length+12≤384:=by
    rw [hx]
    have:=FI (now:=now) (rs:=rs.take j) fun r hr=>ht r (List.mem_of_mem_take hr)
    rw [length_take]at this
    omega
   refine .inl ⟨A++gR (rs.getD j (aa ab)).1 now 0 (rs.getD j (aa ab)).2.2.2.2.1,?_,by rw [hs,←hx]⟩
   generalize hrr:rs.getD j (aa ab)=r at htj
   have h1:=aiJ now rs (rs.length:Int) (j:Int) r htj A hlen
   cases A with
   |nil=>
    simp only [FK]at h1
    simp only [FL,eO,kS,bz h,aP h,aH h,cond_true,toNat_natCast,hrr,h1,bind_some]
    rw [nil_append]
    cases gR r.1 now 0 r.2.2.2.2.1 with
    |nil=>simp only [outI,FL];rw [aX (by omega)]
    |cons a l=>simp only [outI,FL];rw [aX (by omega)]
   |cons a l=>
    simp only [FK]at h1
    simp only [FL,eO,kT,bz h,aP h,aH h,cond_true,toNat_natCast,hrr,h1,bind_some]
    simp only [cons_append,outI,FL]
    rw [aX (by omega)]) (fun A hx=>⟨FM A,by cases A<;>simp only [FL,FM,eO,kS,kT,bu,cond_false],by rw [hx,take_length]⟩) [] (by simp [pl])
 exact hy
def Ru (S:List bY):Prop:=S.Pairwise (fun x y=>¬(y.2.2.1<x.2.2.1∨y.2.2.1=x.2.2.1∧(y.1<x.1∨y.1=x.1∧y.2.1<x.2.1)))
theorem f175 (rs:List aj) (now:Int) (hm:rs.length≤32) (ht:∀r∈rs,r.2.2.2.2.1.length≤12):
  ∃S,Aw (rs,now,())=some (S,())∧S.Perm (pl rs now)∧Ru S:=by
 simp only [Aw,l66 now rs hm ht,bind_some]
 have hlen:=FI (now:=now) ht
 cases hB:pl rs now with
 |nil=>exact⟨[],rfl,.refl _,.nil⟩
 |cons a l=>
  obtain⟨S,h1,h2,h3⟩:=Lp (s:=au) LB (a::l) (by rw [←hB];omega)
  refine⟨S,?_,h2,h3.imp fun {x y} h=> ?_⟩
  ·simp only [FM,decide_true,cond_true]
   rw [show IJ (a::l)=some S from h1,bind_some,←h2.length_eq,cX,decide_eq_true (by omega:0+S.length≤S.length)]
   cases S with
   |nil=>exact absurd h2.length_eq (by simp)
   |cons b m=>rfl
  ·intro hlt
   unfold ltOf at h
   rw [Nw]at h
   exact absurd ((Fd y x).2 hlt) (of_decide_eq_false h)
def LT (x y:bY):Prop:=x.2.2.1<y.2.2.1∨x.2.2.1=y.2.2.1∧(x.1<y.1∨x.1=y.1∧x.2.1<y.2.1)
instance (x y:bY):Decidable (LT x y):=inferInstanceAs (Decidable (_∨_))
theorem LT.trans {x y z:bY} (h1:LT x y) (h2:LT y z):LT x z:=by unfold LT at*;omega
theorem Zz {rs:List aj} (hf:eG rs):∀r∈rs,r.2.2.2.2.1.length≤12:=fun r hr=>by
 obtain⟨i,hi,rfl⟩:=List.mem_iff_getElem.1 hr
 have h:=hf.2.chk i hi
 rw [bD hi]at h
 rw [h.len];exact h.dag.1.2
theorem Tu {nd:aT} {t:an} (h:ch nd t):dA t 1099511627776=(t.1==ofNat 2||t.1==ofNat 3):=by
 have h1:t.2.2.1≤1099511627776:=h.2.1.2
 simp only [dA,decide_eq_true h1,Bool.and_true]
theorem jU:((0:Int) !=ofNat 0)=false:=rfl
theorem bZ (rs:List aj) (hm:rs.length≤9223372036854775807) (hr:∀r∈rs,bH r) (id:Int):
  ∃(i:Int) (b:Bool) (e:Int),cM (rs,id,())=some (i,b,e,())∧((e≠0∧b=false∧¬eG rs)∨(e=0∧eG rs∧((b=true∧∃n:Nat,i=n∧n<rs.length∧(rs.getD n (aa ab)).1=id)∨(b=false∧∀n:Nat,n<rs.length→(rs.getD n (aa ab)).1≠id)))):=by
 obtain⟨v,hv,hc⟩:=f51 rs hm hr
 rcases hc with⟨h1,rfl⟩|⟨h1,h2,rfl⟩|⟨hf,rfl⟩
 ·simp only [cM,hv,bind_some]
  exact⟨_,_,_,rfl,.inl ⟨by decide,rfl,fun h=>by have:=h.1;omega⟩⟩
 ·simp only [cM,hv,bind_some]
  exact⟨_,_,_,rfl,.inl ⟨by decide,rfl,fun h=>h2 h.2⟩⟩
 ·obtain⟨p,e1,e2,e3,e4⟩:=l32 rs hf id
  simp only [cM,hv,bind_some,jU,cond_false,e1,f205]
  by_cases h:p<rs.length
  ·simp only [bz h,aP h,aH h,cond_true,toNat_natCast,bind_some]
   have h6:=e4 p (le_refl _) h
   by_cases he:(rs.getD p (aa ab)).1=id
   ·rw [if_neg (by omega),if_neg (by omega)]
    exact⟨_,_,_,rfl,.inr ⟨rfl,hf,.inl ⟨rfl,p,rfl,h,he⟩⟩⟩
   ·rw [if_neg (by omega),if_pos (by omega)]
    refine⟨_,_,_,rfl,.inr ⟨rfl,hf,.inr ⟨rfl,fun n hn=> ?_⟩⟩⟩
    rcases Nat.lt_trichotomy n p with h7|h7|h7
    ·have:=e3 n h7;omega
    ·rw [h7];exact he
    ·have:=hf.2.up p n h7 hn;omega
  ·have e:p=rs.length:=by omega
   subst e
   simp only [bu,cond_false]
   exact⟨_,_,_,rfl,.inr ⟨rfl,hf,.inr ⟨rfl,fun n hn=>by have:=e3 n hn;omega⟩⟩⟩
theorem oI (rs:List aj) (hm:rs.length≤9223372036854775807) (hr:∀r∈rs,bH r) (key:ByteArray):
  ∃(i:Int) (b:Bool) (e:Int),ov (rs,key,())=some (i,b,e,())∧((e≠0∧b=false∧¬eG rs)∨(e=0∧eG rs∧((b=true∧∃n:Nat,n<rs.length∧(rs.getD n (aa ab)).1=i∧cU (rs.getD n (aa ab))=key.toList)∨(b=false∧∀n:Nat,n<rs.length→cU (rs.getD n (aa ab))≠key.toList)))):=by
 obtain⟨v,hv,hc⟩:=f51 rs hm hr
 rcases hc with⟨h1,rfl⟩|⟨h1,h2,rfl⟩|⟨hf,rfl⟩
 ·simp only [ov,hv,bind_some]
  exact⟨_,_,_,rfl,.inl ⟨by decide,rfl,fun h=>by have:=h.1;omega⟩⟩
 ·simp only [ov,hv,bind_some]
  exact⟨_,_,_,rfl,.inl ⟨by decide,rfl,fun h=>h2 h.2⟩⟩
 ·obtain⟨y,hy,hq⟩:=ba (st:=gb) rs.length (fun i (_:Unit)=>(key,rs,(rs.length:Int),(i:Int),())) (fun i _=>∀n:Nat,n<i→cU (rs.getD n (aa ab))≠key.toList)
   (fun y=>(∃n:Nat,n<rs.length∧cU (rs.getD n (aa ab))=key.toList∧∃z,y= .inl ((rs.getD n (aa ab)).1,true,ofNat 0,z))∨(y= .inr ()∧∀n:Nat,n<rs.length→cU (rs.getD n (aa ab))≠key.toList)) (fun i _ h hx=>by
    simp only [gb,la,bz h,aP h,aH h,cond_true,toNat_natCast]
    by_cases hk:cU (rs.getD i (aa ab))=key.toList
    ·rw [show(ByteArray.toList (rs.getD i (aa ab)).2.1==key.toList)=true from by simpa using hk,cond_true]
     exact .inr ⟨_,rfl,.inl ⟨i,h,hk,_,rfl⟩⟩
    ·rw [show(ByteArray.toList (rs.getD i (aa ab)).2.1==key.toList)=false from by simpa using hk,cond_false,aX (by omega)]
     exact .inl ⟨(),rfl,dm hx hk⟩) (fun _ hx=>⟨.inr (),by simp only [gb,la,bu,cond_false],.inr ⟨rfl,hx⟩⟩) () (fun n h=>absurd h (not_lt_zero _))
  have hy':ot (key,rs,(rs.length:Int),ofNat 0,())=some y:=hy
  simp only [ov,hv,bind_some,jU,cond_false,hy']
  rcases hq with⟨n,h1,h2,z,rfl⟩|⟨rfl,h⟩
  ·exact⟨_,_,_,rfl,.inr ⟨rfl,hf,.inl ⟨rfl,n,h1,rfl,h2⟩⟩⟩
  ·exact⟨_,_,_,rfl,.inr ⟨rfl,hf,.inr ⟨rfl,h⟩⟩⟩
theorem LL (r:aj) (P:wS→Prop) (hp:∀(k:Nat) (v:Int),k<r.2.2.2.2.1.length→(r.2.2.2.2.1.getD k (aa ae)).1=1→P (v,true,r.1,(k:Int),ofNat 0)):∀(j:Nat) (s:wS),j≤r.2.2.2.2.1.length→P s→P (dy (dM r) 0 (r.2.2.2.2.1.take j) s)
 |0,s,_,h=>by rw [take_zero];exact h
 |j+1,s,hj,h=>by
  rw [rF _ hj]
  have h2:=LL r P hp j s (by omega) h
  generalize dy (dM r) 0 (r.2.2.2.2.1.take j) s=s2 at h2
  unfold dM
  by_cases c:(r.2.2.2.2.1.getD j (aa ae)).1=1
  ·rw [show((r.2.2.2.2.1.getD j (aa ae)).1==ofNat 1)=true from by simpa using c,cond_true]
   cases s2.2.1 with
   |false=>exact hp j _ hj c
   |true=>
    rw [Bool.not_true,cond_false]
    cases hd:decide ((r.2.2.2.2.1.getD j (aa ae)).2.2.2.2.1<s2.1)with
    |true=>exact hp j _ hj c
    |false=>exact h2
  ·rw [show((r.2.2.2.2.1.getD j (aa ae)).1==ofNat 1)=false from by simpa using c,cond_false]
   exact h2
theorem LM (rs:List aj) (P:wS→Prop) (h0:P mg) (hp:∀(n k:Nat) (v:Int),n<rs.length→k<(rs.getD n (aa ab)).2.2.2.2.1.length→((rs.getD n (aa ab)).2.2.2.2.1.getD k (aa ae)).1=1→P (v,true,(rs.getD n (aa ab)).1,(k:Int),ofNat 0)):∀j:Nat,j≤rs.length→P (ef dM (rs.take j) mg)
 |0,_=>by rw [take_zero];exact h0
 |j+1,hj=>by
  rw [rG _ hj]
  have:=LL (rs.getD j (aa ab)) P (fun k v h1 h2=>hp j k v hj h1 h2) _ _ (le_refl _) (LM rs P h0 hp j (by omega))
  rw [take_length]at this
  exact this
theorem nj (rs:List aj) (hm:rs.length≤9223372036854775807) (hr:∀r∈rs,bH r):
  ∃(p:bY) (b:Bool) (e:Int),oB (rs,())=some (p,b,e,())∧((e≠0∧b=false∧¬eG rs)∨(e=0∧eG rs∧b=(ef dM rs mg).2.1∧p=((ef dM rs mg).2.2.1,(ef dM rs mg).2.2.2.1,(ef dM rs mg).2.2.2.2,())∧
   (b=true→∃n k:Nat,n<rs.length∧k<(rs.getD n (aa ab)).2.2.2.2.1.length∧((rs.getD n (aa ab)).2.2.2.2.1.getD k (aa ae)).1=1∧p.1=(rs.getD n (aa ab)).1∧p.2.1=(k:Int)))):=by
 obtain⟨v,hv,hc⟩:=f51 rs hm hr
 rcases hc with⟨h1,rfl⟩|⟨h1,h2,rfl⟩|⟨hf,rfl⟩
 ·simp only [oB,hv,bind_some]
  exact⟨_,_,_,rfl,.inl ⟨by decide,rfl,fun h=>by have:=h.1;omega⟩⟩
 ·simp only [oB,hv,bind_some]
  exact⟨_,_,_,rfl,.inl ⟨by decide,rfl,fun h=>h2 h.2⟩⟩
 ·obtain⟨a1,a2,a3,e1⟩:=l35 rs hm hr
  simp only [oB,hv,bind_some,jU,cond_false,e1]
  refine⟨_,_,_,rfl,.inr ⟨rfl,hf,rfl,rfl,?_⟩⟩
  have:=LM rs (fun s=>s.2.1=true→∃n k:Nat,n<rs.length∧k<(rs.getD n (aa ab)).2.2.2.2.1.length∧((rs.getD n (aa ab)).2.2.2.2.1.getD k (aa ae)).1=1∧s.2.2.1=(rs.getD n (aa ab)).1∧s.2.2.2.1=(k:Int)) (fun h=>nomatch h) (fun n k v h1 h2 h3 _=>⟨n,k,h1,h2,h3,rfl,rfl⟩) rs.length (le_refl _)
  rw [take_length]at this
  exact this
abbrev aC:=Int×Int×Int×Int×Unit
abbrev bB:=Int×Int×Int×Int×Int×Int×List aj×List aC×Unit
abbrev bj:=Int×ByteArray×(List aT×Unit)×Int×Int×Int×Int×Int×Unit
abbrev fj:=Int×Int×Int×Int×aj×List aC×Unit
theorem f101 (ts:List an) (h:ts.length≤900):IP (ts,())=some (ts,()):=by
 cases ts with
 |nil=>rfl
 |cons a l=>
  have r1:(decide ((a::l).length*40≤bh) && decide ((a::l).length≤bh))=true:=pp (by omega) (by omega)
  have d1:decide ((a::l).length≤(a::l).length)=true:=decide_eq_true (le_refl _)
  simp only [IP,IM,isEmpty_cons,cond_false,List.replicate_zero,drop_zero,length_nil,take_zero,nil_append,zero_add,r1,d1,cond_true,take_length]
theorem f102 (ts:List Int) (h:ts.length≤900):ET (ts,())=some (ts,()):=by
 cases ts with
 |nil=>rfl
 |cons a l=>
  have r1:(decide ((a::l).length*8≤bh) && decide ((a::l).length≤bh))=true:=pp (by omega) (by omega)
  have d1:decide ((a::l).length≤(a::l).length)=true:=decide_eq_true (le_refl _)
  simp only [ET,IQ,isEmpty_cons,cond_false,List.replicate_zero,drop_zero,length_nil,take_zero,nil_append,zero_add,r1,d1,cond_true,take_length]
theorem f61 (ts:List aC) (h:ts.length≤900):qm (ts,())=some (ts,()):=by
 cases ts with
 |nil=>rfl
 |cons a l=>
  have r1:(decide ((a::l).length*32≤bh) && decide ((a::l).length≤bh))=true:=pp (by omega) (by omega)
  have d1:decide ((a::l).length≤(a::l).length)=true:=decide_eq_true (le_refl _)
  simp only [qm,Ns,isEmpty_cons,cond_false,List.replicate_zero,drop_zero,length_nil,take_zero,nil_append,zero_add,r1,d1,cond_true,take_length]
def LN (r:aj):Prop:=SmR r∧r.2.2.2.2.1≠ []
abbrev be:ByteArray:={data:= #[]}
section
variable (ns:List aT) (id:Int) (key:ByteArray) (st:Int) (ts:List an)
def Rv (i:Int):List aT→(List aT×Int×Int×Int×ByteArray×Int×Nat×List an×Int×ByteArray×Int×Unit)⊕(List aT×Int×Int×Int×ByteArray×Nat×Int×Nat×List aT×List an×Int×ByteArray×Int×Unit)
 | []=>.inl (ns,(ns.length:Int),i,id,key,st,ts.length,ts,ofNat 0,be,ofNat 0,())
 |a::l=>.inr (ns,(ns.length:Int),i,id,key,(a::l).length,st,ts.length,a::l,ts,ofNat 0,be,ofNat 0,())
def Bn:List aT→(Int×ByteArray×Int×Nat×List an×Int×ByteArray×Int×Unit)⊕(Int×ByteArray×Nat×Int×Nat×List aT×List an×Int×ByteArray×Int×Unit)
 | []=>.inl (id,key,st,ts.length,ts,ofNat 0,be,ofNat 0,())
 |a::l=>.inr (id,key,(a::l).length,st,ts.length,a::l,ts,ofNat 0,be,ofNat 0,())
theorem l62 (hs:Rt ns):pG (.inl (ns,(ns.length:Int),ofNat 0,id,key,st,ts.length,ts,ofNat 0,be,ofNat 0,()))=some (Bn id key st ts ns):=by
 obtain⟨hs1,hs2⟩:=hs
 obtain⟨y,hy,rfl⟩:=ba (st:=fu) ns.length (fun i (A:List aT)=>Rv ns id key st ts (i:Int) A) (fun i A=>A=ns.take i) (fun y=>y=Bn id key st ts ns) (fun i A h hx=>by
   have hn:=hs2 i h
   have hlen:A.length=i:=by rw [hx,length_take];omega
   have ht:=rE h (aa af)
   rw [←hx]at ht
   obtain⟨nd,hnd⟩:∃nd:aT,ns.getD i (aa af)=nd:=⟨_,rfl⟩
   rw [hnd]at hn ht
   refine .inl ⟨A++ [nd],?_,ht.symm⟩
   obtain⟨l,n1,n2,_⟩:=nd
   simp only at hn
   have hc:=f102 l (by omega)
   cases A with
   |nil=>
    simp only [Rv,fu,mw,bz h,aP h,aH h,cond_true,toNat_natCast,hnd,hc,bind_some,zero_add,vC,cX]
    rw [aX (by omega)]
    rfl
   |cons a B=>
    have hB:(a::B).length+1≤1000:=by rw [hlen];omega
    have e1:decide ((a::B).length≤(a::B).length)=true:=decide_eq_true (le_refl _)
    have e2:decide ((a::B).length=(a::B).length)=true:=decide_eq_true rfl
    have e3:∀v:aT,(decide (((a::B).length+ [v].length)*40≤bh) && decide ((a::B).length+ [v].length≤bh))=true:=fun v=>pp (n:=(a::B).length+ [v].length) hB (by omega)
    simp only [Rv,fu,my,kK,bz h,aP h,aH h,cond_true,toNat_natCast,hnd,hc,bind_some,zero_add,vC,cX,e1,e2,e3]
    rw [aX (by omega)]
    rfl) (fun A hx=>⟨Bn id key st ts A,by cases A<;>simp only [Rv,Bn,fu,mw,my,kK,bu,cond_false],by rw [hx,take_length]⟩) [] (by simp)
 exact hy
end
theorem f62 (r:aj) (hs:LN r):kg (r,())=some (r,()):=by
 obtain⟨⟨h1,h2⟩,h3⟩:=hs
 obtain⟨id,key,⟨ns,_⟩,st,ts,_⟩:=r
 simp only at h1 h2 h3
 have hc:=f101 ts (by omega)
 have d2:decide (ts.length≤ts.length)=true:=decide_eq_true (le_refl _)
 simp only [kg,hc,bind_some]
 rw [show List.isEmpty ts=false by cases ts<;>simp_all,cond_false,l62 ns id key st ts h1]
 cases ns with
 |nil=>simp only [Bn,bind_some,zero_add,d2,cond_true,cX]
 |cons a l=>
  have d1:decide ((a::l).length≤(a::l).length)=true:=decide_eq_true (le_refl _)
  simp only [Bn,bind_some,zero_add,d1,d2,cond_true,cX]
def Cod (v:Int) (P:Prop):Prop:=(v=0∧P)∨((∃n:Nat,v=ofNat (n+1))∧¬P)
abbrev t0:an:=(ofNat 0,ofNat 0,ofNat 0,ofNat 0,ofNat 0,())
def lz (F:Option (an×Int×Unit)) (P:Prop) (t:an):Prop:=(P∧F=some (t,0,()))∨(¬P∧∃n:Nat,F=some (t0,ofNat (n+1),()))
theorem Cod.ne {v:Int} {P:Prop} (h:Cod v P):((v !=ofNat 0)=false∧v=0∧P)∨((v !=ofNat 0)=true∧(∃n:Nat,v=ofNat (n+1))∧¬P):=by
 rcases h with⟨rfl,h⟩|⟨⟨n,rfl⟩,h⟩
 ·exact .inl ⟨rfl,rfl,h⟩
 ·exact .inr ⟨by simp;omega,⟨n,rfl⟩,h⟩
theorem f235 (nd:aT) (t:an) (b:Bool) (h:dZ nd) (hs:0≤t.1):∃v,IV (nd,t,b,())=some (v,())∧Cod v (ch nd t∧b=true):=by
 obtain⟨v,hv,hc⟩:=f130 nd t h hs
 simp only [IV,hv,bind_some]
 rcases hc with⟨rfl,hc⟩|⟨rfl,hc⟩
 ·rw [jU,cond_false]
  cases b with
  |true=>exact⟨_,rfl,.inl ⟨rfl,hc,rfl⟩⟩
  |false=>exact⟨_,rfl,.inr ⟨⟨1,rfl⟩,fun h=>nomatch h.2⟩⟩
 ·exact⟨_,rfl,.inr ⟨⟨7,rfl⟩,fun h=>hc h.1⟩⟩
theorem f206 (nd:aT) (t:an) (b:Bool) (s:Int) (h:dZ nd) (hs:0≤t.1):∃v,gF (nd,t,b,s,())=some (v,())∧Cod v (ch nd t∧b=true∧t.1=s):=by
 obtain⟨v,hv,hc⟩:=f235 nd t b h hs
 simp only [gF,hv,bind_some]
 rcases hc.ne with⟨h1,rfl,h2,h3⟩|⟨h1,⟨n,rfl⟩,h2⟩
 ·rw [h1,cond_false]
  by_cases c:t.1=s
  ·rw [show(t.1 !=s)=false by simp [c],cond_false];exact⟨_,rfl,.inl ⟨rfl,h2,h3,c⟩⟩
  ·rw [show(t.1 !=s)=true by simpa using c,cond_true];exact⟨_,rfl,.inr ⟨⟨239,rfl⟩,fun h=>c h.2.2⟩⟩
 ·rw [h1,cond_true];exact⟨_,rfl,.inr ⟨⟨n,rfl⟩,fun h=>h2 ⟨h.1,h.2.1⟩⟩⟩
def iH (nd:aT) (t:an) (tk:Int):Prop:=ch nd t∧1≤tk∧bV tk∧t.1=2∧dW t=tk
theorem f209 (nd:aT) (t:an) (b:Bool) (tk:Int) (h:dZ nd) (hs:0≤t.1):∃v,Ay (nd,t,b,tk,())=some (v,())∧Cod v (b=true∧iH nd t tk):=by
 have key:∀c:Bool,∃v,((gF (nd,t,c,ofNat 2,())).bind fun y=>bif y.1 !=ofNat 0 then some y else bif t.2.2.2.1 !=tk then some (ofNat 260,())else some (ofNat 0,()))=some (v,())∧Cod v (ch nd t∧c=true∧t.1=2∧dW t=tk):=fun c=>by
  obtain⟨v,hv,hc⟩:=f206 nd t c (ofNat 2) h hs
  simp only [hv,bind_some]
  rcases hc.ne with⟨h1,rfl,h2,h3,h4⟩|⟨h1,⟨n,rfl⟩,h2⟩
  ·rw [h1,cond_false]
   by_cases c2:t.2.2.2.1=tk
   ·rw [show(t.2.2.2.1 !=tk)=false by simp [c2],cond_false];exact⟨_,rfl,.inl ⟨rfl,h2,h3,h4,c2⟩⟩
   ·rw [show(t.2.2.2.1 !=tk)=true by simpa using c2,cond_true];exact⟨_,rfl,.inr ⟨⟨259,rfl⟩,fun h=>c2 h.2.2.2⟩⟩
  ·rw [h1,cond_true];exact⟨_,rfl,.inr ⟨⟨n,rfl⟩,fun h=>h2 ⟨h.1,h.2.1,h.2.2.1⟩⟩⟩
 simp only [Ay]
 cases b with
 |true=>
  rw [cond_true]
  by_cases c:tk≥ofNat 1
  ·rw [decide_eq_true c,cond_true,f207,bind_some]
   obtain⟨v,hv,hc⟩:=key (decide (bV tk))
   refine⟨v,hv,?_⟩
   rcases hc with⟨rfl,h1,h2,h3,h4⟩|⟨h1,h2⟩
   ·exact .inl ⟨rfl,rfl,h1,c,of_decide_eq_true h2,h3,h4⟩
   ·exact .inr ⟨h1,fun⟨_,a,b,c,d,e⟩=>h2 ⟨a,decide_eq_true c,d,e⟩⟩
  ·rw [decide_eq_false c,cond_false]
   obtain⟨v,hv,hc⟩:=key false
   refine⟨v,hv,?_⟩
   rcases hc with⟨rfl,h1,h2,h3,h4⟩|⟨h1,h2⟩
   ·cases h2
   ·exact .inr ⟨h1,fun⟨_,a,b,c',d,e⟩=>c b⟩
 |false=>
  rw [cond_false]
  obtain⟨v,hv,hc⟩:=key false
  refine⟨v,hv,?_⟩
  rcases hc with⟨rfl,h1,h2,h3,h4⟩|⟨h1,h2⟩
  ·cases h2
  ·exact .inr ⟨h1,fun h=>nomatch h.1⟩
theorem f202 (nd:aT) (t:an) (rk:Int) (h:dZ nd) (hs:0≤t.1):lz (EY (nd,t,rk,())) (bV rk∧ch nd t∧t.1=0) (ofNat 1,ofNat 0,ofNat 0,ofNat 0,rk,()):=by
 simp only [EY,f207,bind_some]
 obtain⟨v,hv,hc⟩:=f206 nd t (decide (bV rk)) (ofNat 0) h hs
 simp only [hv,bind_some]
 rcases hc.ne with⟨h1,rfl,h2,h3,h4⟩|⟨h1,⟨n,rfl⟩,h2⟩
 ·rw [h1,cond_false];exact .inl ⟨⟨of_decide_eq_true h3,h2,h4⟩,rfl⟩
 ·rw [h1,cond_true];exact .inr ⟨fun⟨a,b,c⟩=>h2 ⟨b,decide_eq_true a,c⟩,n,rfl⟩
theorem f167 (nd:aT) (t:an) (tk un:Int) (h:dZ nd) (hs:0≤t.1):lz (uS (nd,t,tk,un,())) (1≤tk∧bV tk∧bV un∧ch nd t∧t.1=1) (ofNat 2,IntKind.i64.wrap (t.2.1+ofNat 1),un,tk,ofNat 0,()):=by
 have key:∀c:Bool,lz ((gF (nd,t,c,ofNat 1,())).bind fun y=>bif y.1 !=ofNat 0 then some (t0,y)else some ((ofNat 2,IntKind.i64.wrap (t.2.1+ofNat 1),un,tk,ofNat 0,()),ofNat 0,())) (ch nd t∧c=true∧t.1=1) (ofNat 2,IntKind.i64.wrap (t.2.1+ofNat 1),un,tk,ofNat 0,()):=fun c=>by
  obtain⟨v,hv,hc⟩:=f206 nd t c (ofNat 1) h hs
  simp only [hv,bind_some]
  rcases hc.ne with⟨h1,rfl,h2⟩|⟨h1,⟨n,rfl⟩,h2⟩
  ·rw [h1,cond_false];exact .inl ⟨h2,rfl⟩
  ·rw [h1,cond_true];exact .inr ⟨h2,n,rfl⟩
 have no:∀{P:Prop},¬P→lz ((gF (nd,t,false,ofNat 1,())).bind fun y=>bif y.1 !=ofNat 0 then some (t0,y)else some ((ofNat 2,IntKind.i64.wrap (t.2.1+ofNat 1),un,tk,ofNat 0,()),ofNat 0,())) P (ofNat 2,IntKind.i64.wrap (t.2.1+ofNat 1),un,tk,ofNat 0,()):=fun hP=>by
  rcases key false with⟨⟨_,h2,_⟩,_⟩|⟨_,h2⟩
  ·cases h2
  ·exact .inr ⟨hP,h2⟩
 simp only [uS]
 by_cases c:tk≥ofNat 1
 ·rw [decide_eq_true c,cond_true,f207,bind_some]
  by_cases c2:bV tk
  ·simp only [decide_eq_true c2,cond_true,f208,bind_some]
   rcases key (decide (bV un))with⟨⟨h1,h2,h3⟩,h4⟩|⟨h1,h2⟩
   ·exact .inl ⟨⟨c,c2,of_decide_eq_true h2,h1,h3⟩,h4⟩
   ·exact .inr ⟨fun⟨_,_,a,b,c⟩=>h1 ⟨b,decide_eq_true a,c⟩,h2⟩
  ·simp only [decide_eq_false c2,cond_false]
   exact no fun h=>c2 h.2.1
 ·rw [decide_eq_false c,cond_false]
  exact no fun h=>c h.1
theorem f169 (nd:aT) (t:an) (tk:Int) (h:dZ nd) (hs:0≤t.1):lz (IW (nd,t,tk,())) (iH nd t tk) (ofNat 4,t.2.1,ofNat 0,ofNat 0,ofNat 0,()):=by
 obtain⟨v,hv,hc⟩:=f209 nd t true tk h hs
 simp only [IW,hv,bind_some]
 rcases hc.ne with⟨h1,rfl,_,h2⟩|⟨h1,⟨n,rfl⟩,h2⟩
 ·rw [h1,cond_false];exact .inl ⟨h2,rfl⟩
 ·rw [h1,cond_true];exact .inr ⟨fun h=>h2 ⟨rfl,h⟩,n,rfl⟩
theorem f236 (nd:aT) (tr:Int) (h:dZ nd) (ht:tr≤5):∃p,IR (nd,tr,())=some (p,())∧0≤p∧p≤1048576:=by
 obtain⟨hw0,hw1⟩:=h.2
 obtain⟨y,hy,p,rfl,h1,h2⟩:=wG (st:=iL) (fun x=>(tr-x.2.2.1).toNat) (fun x=>∃w i:Int,x=(tr,w,i,())∧0≤w∧w≤1048576∧0≤i∧i≤6) (fun y=>∃p:Int,y=(p,())∧0≤p∧p≤1048576) (fun x hx=>by
  obtain⟨w,i,rfl,h1,h2,h3,h4⟩:=hx
  simp only [iL,ql]
  by_cases c:i<tr
  ·rw [decide_eq_true c,cond_true]
   have e1:IntKind.i64.wrap (ofNat 2*w)=2*w:=by rw [IntKind.wrap_i64];simp only [aF];omega
   have e2:IntKind.i64.wrap (i+ofNat 1)=i+1:=by rw [IntKind.wrap_i64];simp only [aF];omega
   rw [e1,e2]
   refine .inl ⟨_,rfl,⟨_,_,rfl,?_,?_,by omega,by omega⟩,?_⟩
   ·simp only [aF];split<;>omega
   ·simp only [aF];split<;>omega
   ·simp only;omega
  ·rw [decide_eq_false c,cond_false]
   exact .inr ⟨_,rfl,w,rfl,h1,h2⟩) (tr,nd.2.2.1,ofNat 1,()) ⟨_,_,rfl,hw0,hw1,by decide,by decide⟩
 simp only [IR,show nP (tr,nd.2.2.1,ofNat 1,())=some (p,())from hy,bind_some]
 exact⟨p,rfl,h1,h2⟩
def tT (nd:aT) (t:an) (now:Int) (t':an):Prop:=(t.2.1=nd.2.1∧t'=(ofNat 5,t.2.1,ofNat 0,ofNat 0,ofNat 0,()))∨(t.2.1≠nd.2.1∧∃u:Int,bV u∧t'=(ofNat 3,t.2.1,u,ofNat 0,ofNat 0,()))
theorem f210 (nd:aT) (t:an) (now:Int) (h:dZ nd) (ht:t.2.1≤5) (hn:bV now):∃t',EV (nd,t,now,())=some (t',())∧tT nd t now t':=by
 simp only [EV]
 by_cases c:t.2.1=nd.2.1
 ·rw [show(t.2.1==nd.2.1)=true by simp [c],cond_true];exact⟨_,rfl,.inl ⟨c,rfl⟩⟩
 ·obtain⟨p,hp,h1,h2⟩:=f236 nd t.2.1 h ht
  rw [show(t.2.1==nd.2.1)=false by simpa using c,cond_false]
  simp only [hp,bind_some]
  have e1:IntKind.i64.wrap (now+p)=now+p:=by have:=hn.1;have:=hn.2;rw [IntKind.wrap_i64];omega
  rw [e1]
  refine⟨_,rfl,.inr ⟨c,_,?_,rfl⟩⟩
  have:=hn.1
  simp only [aF,bV];split<;>omega
theorem FN {nd:aT} {t:an} (h:dZ nd) (ht:ch nd t):t.2.1≤5:=Int.le_trans ht.1.2 h.1.2
theorem f171 (nd:aT) (t:an) (tk now:Int) (h:dZ nd) (hs:0≤t.1):∃t',lz (xA (nd,t,tk,now,())) (bV now∧iH nd t tk) t'∧(bV now∧iH nd t tk→tT nd t now t'):=by
 obtain⟨v,hv,hc⟩:=f209 nd t (decide (bV now)) tk h hs
 simp only [xA,f208,hv,bind_some]
 rcases hc.ne with⟨h1,rfl,h3,h2⟩|⟨h1,⟨n,rfl⟩,h2⟩
 ·have hn:=of_decide_eq_true h3
  obtain⟨t',h4,h5⟩:=f210 nd t now h (FN h h2.1) hn
  rw [h1,cond_false]
  simp only [h4,bind_some]
  exact⟨t',.inl ⟨⟨hn,h2⟩,rfl⟩,fun _=>h5⟩
 ·rw [h1,cond_true];exact⟨t0,.inr ⟨fun h=>h2 ⟨decide_eq_true h.1,h.2⟩,n,rfl⟩,fun h=>absurd ⟨decide_eq_true h.1,h.2⟩ h2⟩
theorem f173 (nd:aT) (t:an) (tk un:Int) (h:dZ nd) (hs:0≤t.1):lz (Az (nd,t,tk,un,())) (bV un∧iH nd t tk) (t.1,t.2.1,un,t.2.2.2.1,t.2.2.2.2.1,()):=by
 obtain⟨v,hv,hc⟩:=f209 nd t (decide (bV un)) tk h hs
 simp only [Az,f208,hv,bind_some]
 rcases hc.ne with⟨h1,rfl,h3,h2⟩|⟨h1,⟨n,rfl⟩,h2⟩
 ·rw [h1,cond_false];exact .inl ⟨⟨of_decide_eq_true h3,h2⟩,rfl⟩
 ·rw [h1,cond_true];exact .inr ⟨fun h=>h2 ⟨decide_eq_true h.1,h.2⟩,n,rfl⟩
theorem f216 (nd:aT) (t:an) (rk now:Int) (h:dZ nd) (hs:0≤t.1):lz (AA (nd,t,rk,now,())) (bV rk∧bV now∧ch nd t∧t.1=3∧dA t now=true) (ofNat 1,t.2.1,ofNat 0,ofNat 0,rk,()):=by
 have key:∀c:Bool,lz ((gF (nd,t,c,ofNat 3,())).bind fun y=>bif y.1 !=ofNat 0 then some (t0,y)else((kC (t,now,())).bind fun y=>bif !y.1 then some (t0,ofNat 240,())else some ((ofNat 1,t.2.1,ofNat 0,ofNat 0,rk,()),ofNat 0,()))) (ch nd t∧c=true∧t.1=3∧dA t now=true) (ofNat 1,t.2.1,ofNat 0,ofNat 0,rk,()):=fun c=>by
  obtain⟨v,hv,hc⟩:=f206 nd t c (ofNat 3) h hs
  simp only [hv,bind_some,f176]
  rcases hc.ne with⟨h1,rfl,h2,h3,h4⟩|⟨h1,⟨n,rfl⟩,h2⟩
  ·rw [h1,cond_false]
   by_cases hd:dA t now=true
   ·rw [hd];exact .inl ⟨⟨h2,h3,h4,rfl⟩,rfl⟩
   ·rw [show dA t now=false by simpa using hd];exact .inr ⟨fun h=>(nomatch h.2.2.2),239,rfl⟩
  ·rw [h1,cond_true];exact .inr ⟨fun h=>h2 ⟨h.1,h.2.1,h.2.2.1⟩,n,rfl⟩
 simp only [AA,f207,bind_some]
 by_cases c:bV rk
 ·simp only [decide_eq_true c,cond_true,f208,bind_some]
  rcases key (decide (bV now))with⟨⟨h1,h2,h3,h4⟩,h5⟩|⟨h1,h2⟩
  ·exact .inl ⟨⟨c,of_decide_eq_true h2,h1,h3,h4⟩,h5⟩
  ·exact .inr ⟨fun⟨_,a,b,c,d⟩=>h1 ⟨b,decide_eq_true a,c,d⟩,h2⟩
 ·simp only [decide_eq_false c,cond_false]
  rcases key false with⟨⟨_,h2,_⟩,_⟩|⟨_,h2⟩
  ·cases h2
  ·exact .inr ⟨fun h=>c h.1,h2⟩
theorem f218 (nd:aT) (t:an) (now:Int) (h:dZ nd) (hs:0≤t.1):∃t',lz (AB (nd,t,now,())) (bV now∧ch nd t∧t.1=2∧dA t now=true) t'∧(bV now∧ch nd t∧t.1=2∧dA t now=true→tT nd t now t'):=by
 obtain⟨v,hv,hc⟩:=f206 nd t (decide (bV now)) (ofNat 2) h hs
 simp only [AB,f208,hv,bind_some,f176]
 rcases hc.ne with⟨h1,rfl,h2,h3,h4⟩|⟨h1,⟨n,rfl⟩,h2⟩
 ·have hn:=of_decide_eq_true h3
  rw [h1,cond_false]
  by_cases hd:dA t now=true
  ·obtain⟨t',h5,h6⟩:=f210 nd t now h (FN h h2) hn
   simp only [hd,h5,bind_some,Bool.not_true,cond_false]
   exact⟨t',.inl ⟨⟨hn,h2,h4,trivial⟩,rfl⟩,fun _=>h6⟩
  ·rw [show dA t now=false by simpa using hd];exact⟨t0,.inr ⟨fun h=>(nomatch h.2.2.2),239,rfl⟩,fun h=>(nomatch h.2.2.2)⟩
 ·rw [h1,cond_true];exact⟨t0,.inr ⟨fun h=>h2 ⟨h.2.1,decide_eq_true h.1,h.2.2.1⟩,n,rfl⟩,fun h=>absurd ⟨h.2.1,decide_eq_true h.1,h.2.2.1⟩ h2⟩
theorem f211 (nd:aT) (t:an) (h:dZ nd) (hs:0≤t.1):lz (pH (nd,t,())) (ch nd t∧t.1≠4∧t.1≠5∧t.1≠6) (ofNat 6,t.2.1,ofNat 0,ofNat 0,ofNat 0,()):=by
 obtain⟨v,hv,hc⟩:=f130 nd t h hs
 simp only [pH,hv,bind_some]
 rcases hc with⟨rfl,hc⟩|⟨rfl,hc⟩
 ·rw [jU,cond_false]
  by_cases c4:t.1=4
  ·rw [show(t.1==ofNat 4)=true by simp [c4]];exact .inr ⟨fun h=>h.2.1 c4,239,rfl⟩
  rw [show(t.1==ofNat 4)=false by simpa using c4,cond_false]
  by_cases c5:t.1=5
  ·rw [show(t.1==ofNat 5)=true by simp [c5]];exact .inr ⟨fun h=>h.2.2.1 c5,239,rfl⟩
  rw [show(t.1==ofNat 5)=false by simpa using c5,cond_false]
  by_cases c6:t.1=6
  ·rw [show(t.1==ofNat 6)=true by simp [c6]];exact .inr ⟨fun h=>h.2.2.2 c6,239,rfl⟩
  rw [show(t.1==ofNat 6)=false by simpa using c6,cond_false]
  exact .inl ⟨⟨hc,c4,c5,c6⟩,rfl⟩
 ·exact .inr ⟨fun h=>hc h.1,7,rfl⟩
abbrev adK:=(List aT×Int×Int×List an×Int×ByteArray×List aT×Int×Nat×Unit)→Option (List an×Int×ByteArray×List aT×Int×Nat×Unit)
noncomputable def pq (D:aT→an→Option (an×Int×Unit)) (L:adK) (r:aj) (i:Int):Option (aj×Int×Unit):=(sK (r,())).bind fun y221=>dz y221.1 (bif decide (i<ofNat 0)then(some (aM,ofNat 2,()))else bif decide (i≥(↑(length r.2.2.2.2.1):Int))then(some (aM,ofNat 2,()))else bif r.2.2.2.1 !=ofNat 1 then(some (aM,ofNat 250,()))else bif ah 0 i ((↑(length r.2.2.1.1):Int)-1)then(bif decide (toNat i<length r.2.2.1.1)then(bif ah 0 i ((↑(length r.2.2.2.2.1):Int)-1)then(bif decide (toNat i<length r.2.2.2.2.1)then((D (getD r.2.2.1.1 i.toNat (aa af)) (getD r.2.2.2.2.1 i.toNat (aa ae))).bind fun y222=>dz y222.2.1 ((kg (r,())).bind fun y223=>bif ah 0 i ((↑(length y223.1.2.2.2.2.1):Int)-1)then(bif decide (0+toNat i<length y223.1.2.2.2.2.1)then(bif y222.1.1==ofNat 5 then((L (y223.1.2.2.1.1,(↑(length y223.1.2.2.1.1):Int),ofNat 0,set y223.1.2.2.2.2.1 (0+toNat i) y222.1,y223.1.1,y223.1.2.1,y223.1.2.2.1.1,ofNat 3,length y223.1.2.2.2.2.1,())).bind fun y224=>bif decide (0+length y223.1.2.2.2.2.1≤y224.1.length)then(some ((y223.1.1,y223.1.2.1,y223.1.2.2.1,ofNat 3,take y223.1.2.2.2.2.1.length (drop 0 y224.1),()),ofNat 0,()))else none)else bif decide (0+length y223.1.2.2.2.2.1≤(set y223.1.2.2.2.2.1 (0+toNat i) y222.1).length)then((jI ((y223.1.1,y223.1.2.1,y223.1.2.2.1,y223.1.2.2.2.1,take y223.1.2.2.2.2.1.length (drop 0 (y223.1.2.2.2.2.1.set (0+i.toNat) y222.1)),()),take ((replicate 1 (ofNat 0)).set 0 (ofNat 4)).length (drop 0 ((replicate 1 (ofNat 0)).set 0 (ofNat 4))),())).bind fun y225=>bif y225.1 then(bif decide (0+length y223.1.2.2.2.2.1≤(set y223.1.2.2.2.2.1 (0+toNat i) y222.1).length)then(some ((y223.1.1,y223.1.2.1,y223.1.2.2.1,ofNat 2,take y223.1.2.2.2.2.1.length (drop 0 (y223.1.2.2.2.2.1.set (0+i.toNat) y222.1)),()),ofNat 0,()))else none)else bif decide (0+length y223.1.2.2.2.2.1≤(set y223.1.2.2.2.2.1 (0+toNat i) y222.1).length)then(some ((y223.1.1,y223.1.2.1,y223.1.2.2.1,y223.1.2.2.2.1,take y223.1.2.2.2.2.1.length (drop 0 (y223.1.2.2.2.2.1.set (0+i.toNat) y222.1)),()),ofNat 0,()))else none)else none)else none)else none) fun j226=>some (aM,ofNat (j226+1),()))else none)else none)else none)else none) fun j227=>some (aM,ofNat (j227+1),())
theorem FO (r:aj) (i tk un:Int):xD (r,i,tk,un,())=pq (fun nd t=>uS (nd,t,tk,un,())) db r i:=rfl
theorem Hr (r:aj) (i tk now:Int):uX (r,i,tk,now,())=pq (fun nd t=>xA (nd,t,tk,now,())) db r i:=rfl
theorem Tv (r:aj) (i tk un:Int):EZ (r,i,tk,un,())=pq (fun nd t=>Az (nd,t,tk,un,())) db r i:=rfl
theorem Tw (r:aj) (i rk now:Int):om (r,i,rk,now,())=pq (fun nd t=>AA (nd,t,rk,now,())) db r i:=rfl
theorem Of (r:aj) (i now:Int):oq (r,i,now,())=pq (fun nd t=>AB (nd,t,now,())) db r i:=rfl
theorem Hs {i n:Int} {l:List Int} (h:∀j,j<l.length→oH i n l j):∀j:Nat,j<l.length→(j:Int)≤l.getD j z0
 |0,h0=>(h 0 h0).1
 |j+1,hj=>by
  have h1:=Hs h j (by omega)
  have h2:=(h (j+1) hj).2.2.2 (Nat.succ_pos _)
  rw [Nat.add_sub_cancel]at h2
  omega
theorem FP {i:Int} {n:Nat} {l:List Int} (h:∀j,j<l.length→oH i n l j):l.length≤n:=by
 rcases Nat.eq_zero_or_pos l.length with h0|h0
 ·omega
 ·have h1:=Hs h (l.length-1) (by omega)
  have h2:=(h (l.length-1) (by omega)).2.1
  omega
theorem Ck {ns:List aT} (h:qp ns):Rt ns:=⟨by have:=h.1.2;omega,fun i hi=>by
 have:=FP (h.2.1 i hi).2.2
 have:=h.1.2
 omega⟩
theorem qr {r:aj} (h:ROk r):LN r:=by
 have hl:=h.len
 have h1:=h.dag.1
 refine⟨⟨Ck h.dag,by omega⟩,fun he=> ?_⟩
 rw [he]at hl
 simp only [length_nil]at hl
 omega
def DP (nd:aT) (t:an):Prop:=ch nd t∧t.1≠4∧t.1≠5∧t.1≠6
abbrev dr (t:an):an:=(ofNat 6,t.2.1,ofNat 0,ofNat 0,ofNat 0,())
def Og (ns:List aT) (ts ts':List an) (j:Nat):Prop:=(¬DP (ns.getD j (aa af)) (ts.getD j (aa ae))∧ts'.getD j (aa ae)=ts.getD j (aa ae))∨(DP (ns.getD j (aa af)) (ts.getD j (aa ae))∧ts'.getD j (aa ae)=dr (ts.getD j (aa ae)))
def lN (ns:List aT) (ts ts':List an):Prop:=ts'.length=ts.length∧∀j:Nat,j<ts.length→Og ns ts ts' j
theorem bm {l:List an} {i:Nat} (h:i<l.length) (v:an) (j:Nat):(l.set i v).getD j (aa ae)=if j=i then v else l.getD j (aa ae):=by
 simp only [List.getD_eq_getElem?_getD,List.getElem?_set]
 by_cases e:i=j
 ·subst e;simp [h]
 ·rw [if_neg e,if_neg (fun h=>e h.symm)]
theorem gS {l:List an} {P:an→Prop} (h:∀j:Nat,j<l.length→P (l.getD j (aa ae))):∀t∈l,P t:=fun t ht=>by
 obtain⟨j,hj,rfl⟩:=List.getElem_of_mem ht
 have:=h j hj
 rwa [List.getD_eq_getElem?_getD,List.getElem?_eq_getElem hj]at this
theorem Ht (ns:List aT) (hn:∀j,j<ns.length→dZ (ns.getD j (aa af))) (hl:ns.length≤12) (ts:List an) (hts:ts.length=ns.length) (hs:∀t∈ts,0≤t.1) (id:Int) (key:ByteArray) (st:Int):
  ∃ts',db (ns,(ns.length:Int),ofNat 0,ts,id,key,ns,st,ts.length,())=some (ts',id,key,ns,st,ts.length,())∧lN ns ts ts'∧∀t∈ts',0≤t.1:=by
 obtain⟨y,hy,ts',rfl,h1⟩:=ba (st:=gi) ns.length (fun i (A:List an)=>(ns,(ns.length:Int),(i:Int),A,id,key,ns,st,ts.length,())) (fun i A=>A.length=ts.length∧(∀t∈A,0≤t.1)∧(∀j:Nat,j<i→Og ns ts A j)∧∀j:Nat,i≤j→A.getD j (aa ae)=ts.getD j (aa ae))
  (fun y=>∃ts',y=(ts',id,key,ns,st,ts.length,())∧lN ns ts ts'∧∀t∈ts',0≤t.1) (fun i A h hx=>by
   obtain⟨h1,h2,h4,h3⟩:=hx
   have hiA:i<A.length:=by rw [h1];omega
   have hit:i<ts.length:=by omega
   have hsi:0≤(A.getD i (aa ae)).1:=h2 _ (aD hiA _)
   simp only [gi,lg,jN,bz h,aP h,aH h,aP hit,cond_true,toNat_natCast,zero_add,decide_eq_true hiA,eN,eT]
   rcases f211 (ns.getD i (aa af)) (A.getD i (aa ae)) (hn i h) hsi with⟨hp,he⟩|⟨hp,n,he⟩
   ·simp only [he,bind_some]
    refine .inl ⟨A.set i (dr (A.getD i (aa ae))),by rw [aX (by omega)];rfl,by rw [length_set];exact h1,?_,fun j hj=> ?_,fun j hj=> ?_⟩
    ·refine gS fun j hj=> ?_
     rw [bm hiA]
     split
     ·exact natCast_nonneg 6
     ·exact h2 _ (aD (by rw [length_set]at hj;exact hj) _)
    ·unfold Og
     rw [bm hiA]
     by_cases e:j=i
     ·subst e
      rw [if_pos rfl]
      rw [h3 j (le_refl _)]at hp⊢
      exact .inr ⟨hp,rfl⟩
     ·rw [if_neg e];exact h4 j (by omega)
    ·rw [bm hiA,if_neg (by omega)]
     exact h3 j (by omega)
   ·simp only [he,bind_some]
    refine .inl ⟨A,?_,h1,h2,fun j hj=> ?_,fun j hj=>h3 j (by omega)⟩
    ·rw [show(ofNat (n+1)==ofNat 0)=false from rfl,cond_false,aX (by omega)]
    ·by_cases e:j=i
     ·subst e
      rw [h3 j (le_refl _)]at hp
      exact .inl ⟨hp,h3 j (le_refl _)⟩
     ·exact h4 j (by omega)) (fun A hx=>⟨_,by simp only [gi,lg,jN,bu,cond_false],A,rfl,⟨hx.1,fun j hj=>hx.2.2.1 j (by omega)⟩,hx.2.1⟩) ts ⟨rfl,hs,fun j h=>absurd h (not_lt_zero _),fun _ _=>rfl⟩
 exact⟨ts',hy,h1⟩
structure Turn (r:aj) (i:Nat) (t:an) (r':aj):Prop where
 id:r'.1=r.1
 key:r'.2.1=r.2.1
 ns:r'.2.2.1=r.2.2.1
 len:r'.2.2.2.2.1.length=r.2.2.2.2.1.length
 pos:∀t∈r'.2.2.2.2.1,0≤t.1
 how:(t.1=5∧r'.2.2.2.1=3∧lN r.2.2.1.1 (r.2.2.2.2.1.set i t) r'.2.2.2.2.1)∨
  (t.1≠5∧r'.2.2.2.2.1=r.2.2.2.2.1.set i t∧(((∀t'∈r.2.2.2.2.1.set i t,t'.1=4)∧r'.2.2.2.1=2)∨(¬(∀t'∈r.2.2.2.2.1.set i t,t'.1=4)∧r'.2.2.2.1=1)))
theorem lA (r:aj) (hr:bH r) (i:Int) (D:aT→an→Option (an×Int×Unit)) (hD:∀nd t,dZ nd→0≤t.1→ch nd t→(∃t',D nd t=some (t',0,())∧0≤t'.1)∨∃n:Nat,D nd t=some (t0,ofNat (n+1),())):
  ∃(r':aj) (e:Int),pq D db r i=some (r',e,())∧((e=0∧ROk r∧r.2.2.2.1=1∧∃(k:Nat) (t':an),i=k∧k<r.2.2.2.2.1.length∧D (r.2.2.1.1.getD k (aa af)) (r.2.2.2.2.1.getD k (aa ae))=some (t',0,())∧Turn r k t' r')∨((∃n:Nat,e=ofNat (n+1))∧r'=aM∧
   ¬(ROk r∧r.2.2.2.1=1∧∃(k:Nat) (t':an),i=k∧k<r.2.2.2.2.1.length∧D (r.2.2.1.1.getD k (aa af)) (r.2.2.2.2.1.getD k (aa ae))=some (t',0,())))):=by
 obtain⟨v,hv,hc⟩:=f89 r hr
 rcases hc with⟨rfl,hc⟩|⟨rfl,hc⟩
 ·have ik:=f62 r (qr hc)
  have hdag:=hc.dag
  have hlen:=hc.len
  have htk:=hc.tks
  obtain⟨id,key,⟨ns,_⟩,st,ts,_⟩:=r
  try simp only at hdag
  simp only at hlen htk
  have h12:=hdag.1.2
  simp only [pq,hv,bind_some,cQ]
  by_cases c1:i<ofNat 0
  ·rw [decide_eq_true c1,cond_true]
   exact⟨_,_,rfl,.inr ⟨⟨1,rfl⟩,rfl,fun⟨_,_,k,t',h1,_⟩=>by simp only [aF]at c1;omega⟩⟩
  rw [decide_eq_false c1,cond_false]
  by_cases c2:i≥(ts.length:Int)
  ·rw [decide_eq_true c2,cond_true]
   exact⟨_,_,rfl,.inr ⟨⟨1,rfl⟩,rfl,fun⟨_,_,k,t',h1,h2,_⟩=>by omega⟩⟩
  rw [decide_eq_false c2,cond_false]
  by_cases c3:st=1
  ·subst c3
   obtain⟨k,rfl⟩:∃k:Nat,i=k:=⟨i.toNat,by simp only [aF]at c1;omega⟩
   have hk:k<ts.length:=by omega
   have hkn:k<ns.length:=by omega
   rw [show((1:Int) !=ofNat 1)=false from rfl,cond_false]
   simp only [aP hkn,aH hkn,aP hk,aH hk,cond_true,toNat_natCast]
   have hs:=hr.ts
   simp only at hs
   rcases hD (ns.getD k (aa af)) (ts.getD k (aa ae)) (jT hdag.2.1 hkn) (hs _ (aD hk _)) (htk k hk)with⟨t',hd,hp⟩|⟨n,hd⟩
   ·have hs2:∀t∈ts.set k t',0≤t.1:=fun t ht=>by
     rcases List.mem_or_eq_of_mem_set ht with h|rfl
     ·exact hs _ h
     ·exact hp
    have hl2:(ts.set k t').length=ts.length:=length_set
    have dl:decide (ts.length≤(ts.set k t').length)=true:=decide_eq_true (by omega)
    have tk2:take ts.length (ts.set k t')=ts.set k t':=by rw [←hl2];exact take_length
    simp only [hd,bind_some,cQ,ik,aP hk,zero_add,aH hk,cond_true]
    by_cases c5:t'.1=5
    ·rw [show(t'.1==ofNat 5)=true by simp [c5],cond_true]
     obtain⟨ts',e1,e2,e3⟩:=Ht ns (fun j hj=>jT hdag.2.1 hj) h12 (ts.set k t') (by omega) hs2 id key (ofNat 3)
     rw [hl2]at e1
     have hl3:ts'.length=ts.length:=by rw [e2.1,hl2]
     simp only [e1,bind_some,drop_zero]
     rw [decide_eq_true (by omega:ts.length≤ts'.length),cond_true,show take ts.length ts'=ts' by rw [←hl3];exact take_length]
     exact⟨_,_,rfl,.inl ⟨by trivial,hc,by trivial,k,t',by trivial,hk,hd,rfl,rfl,rfl,hl3,e3,.inl ⟨c5,rfl,e2⟩⟩⟩
    ·rw [show(t'.1==ofNat 5)=false by simpa using c5,cond_false]
     have Bc:=f182 (id,key,(ns,()),1,ts.set k t',()) [ofNat 4] (by decide) (by simp only;omega)
     simp only [dl,cond_true,drop_zero,tk2]
     rw [show take ((replicate 1 (ofNat 0)).set 0 (ofNat 4)).length ((replicate 1 (ofNat 0)).set 0 (ofNat 4))= [ofNat 4]from rfl]
     simp only [Bc,bind_some]
     by_cases hall:∀t∈ts.set k t',t.1∈ [ofNat 4]
     ·rw [decide_eq_true hall]
      exact⟨_,_,rfl,.inl ⟨by trivial,hc,by trivial,k,t',by trivial,hk,hd,rfl,rfl,rfl,hl2,hs2,.inr ⟨c5,rfl,.inl ⟨fun t ht=>by simpa using hall t ht,rfl⟩⟩⟩⟩
     ·rw [decide_eq_false hall]
      exact⟨_,_,rfl,.inl ⟨by trivial,hc,by trivial,k,t',by trivial,hk,hd,rfl,rfl,rfl,hl2,hs2,.inr ⟨c5,rfl,.inr ⟨fun h=>hall fun t ht=>by simpa using h t ht,rfl⟩⟩⟩⟩
   ·simp only [hd,bind_some,eX]
    refine⟨_,_,rfl,.inr ⟨⟨n,rfl⟩,rfl,fun⟨_,_,k2,t2,h1,h2,h3⟩=> ?_⟩⟩
    obtain rfl:k=k2:=by omega
    rw [hd]at h3
    injection h3 with h3
    injection h3 with _ h3
    injection h3 with h3
    simp only [aF]at h3
    omega
  ·rw [show(st !=ofNat 1)=true by simpa using c3,cond_true]
   exact⟨_,_,rfl,.inr ⟨⟨249,rfl⟩,rfl,fun h=>c3 h.2.1⟩⟩
 ·simp only [pq,hv,bind_some]
  exact⟨_,_,rfl,.inr ⟨⟨7,rfl⟩,rfl,fun h=>hc h.1⟩⟩
open Classical in
noncomputable def opn (ns:List aT) (s:Int×List an):Nat→Int×List an
 |0=>s
 |j+1=>if((opn ns s j).2.getD j (aa ae)).1=0∧gk (opn ns s j).2 (ns.getD j (aa af))then
   (IntKind.i64.wrap ((opn ns s j).1+ofNat 1),(opn ns s j).2.set j (if bV (opn ns s j).1∧ch (ns.getD j (aa af)) ((opn ns s j).2.getD j (aa ae))then(ofNat 1,ofNat 0,ofNat 0,ofNat 0,(opn ns s j).1,())else t0))else opn ns s j
theorem qs (ns:List aT) (s:Int×List an):∀j,(opn ns s j).2.length=s.2.length
 |0=>rfl
 |j+1=>by
  rw [opn]
  split
  ·rw [length_set];exact qs ns s j
  ·exact qs ns s j
theorem wU {l:List an} {k:Nat} {t:an} (h:∀t∈l,0≤t.1) (ht:0≤t.1):∀t'∈l.set k t,0≤t'.1:=fun t' h'=>by
 rcases List.mem_or_eq_of_mem_set h' with h1|rfl
 ·exact h _ h1
 ·exact ht
theorem wq (ns:List aT) (s:Int×List an) (h:∀t∈s.2,0≤t.1):∀j,∀t∈(opn ns s j).2,0≤t.1
 |0=>h
 |j+1=>by
  rw [opn]
  split
  ·refine wU (wq ns s h j) ?_
   split
   ·exact natCast_nonneg 1
   ·exact natCast_nonneg 0
  ·exact wq ns s h j
theorem Hu (ns:List aT) (hd:qp ns) (hln:∀nd∈ns,nd.1.length≤9223372036854775807) (rk:Int) (ts:List an) (hts:ts.length=ns.length) (hs:∀t∈ts,0≤t.1) (id:Int) (key:ByteArray) (st:Int):
  jL (rk,ns,(ns.length:Int),ofNat 0,ts,id,key,ns,st,ts.length,())=some ((opn ns (rk,ts) ns.length).1,(opn ns (rk,ts) ns.length).2,id,key,ns,st,ts.length,()):=by
 have h12:=hd.1.2
 obtain⟨y,hy,rfl⟩:=ba (st:=ga) ns.length (fun i (A:Int×List an)=>(A.1,ns,(ns.length:Int),(i:Int),A.2,id,key,ns,st,ts.length,())) (fun i A=>A=opn ns (rk,ts) i)
  (fun y=>y=((opn ns (rk,ts) ns.length).1,(opn ns (rk,ts) ns.length).2,id,key,ns,st,ts.length,())) (fun i A h hx=>by
   have hl:=qs ns (rk,ts) i
   have hp:=wq ns (rk,ts) hs i
   have hstep:=opn.eq_2 ns (rk,ts) i
   rw [←hx]at hl hp hstep
   simp only at hl
   have hit:i<ts.length:=by omega
   have hiA:i<A.2.length:=by omega
   have tk2:take ts.length A.2=A.2:=by rw [←hl];exact take_length
   refine .inl ⟨opn ns (rk,ts) (i+1),?_,rfl⟩
   simp only [ga,kX,jK,bz h,aP h,aH h,aP hit,cond_true,toNat_natCast,zero_add,decide_eq_true hiA,eN,eT,drop_zero,tk2]
   by_cases c:(A.2.getD i (aa ae)).1=0
   ·rw [show((A.2.getD i (aa ae)).1==ofNat 0)=true by rw [c];rfl,cond_true,decide_eq_true (by omega:ts.length≤A.2.length),cond_true]
    obtain⟨b,hb,hb2⟩:=f181 (id,key,(ns,()),st,A.2,()) (ns.getD i (aa af)) (hln _ (aD h _)) (fun v hv=>by
     have:=vD (hd.2.1 i h) v hv
     simp only
     omega)
    simp only [hb,bind_some]
    cases b with
    |true=>
     have hm:=hb2.1 rfl
     rw [if_pos ⟨c,hm⟩]at hstep
     simp only [cond_true]
     rcases f202 (ns.getD i (aa af)) (A.2.getD i (aa ae)) A.1 (jT hd.2.1 h) (hp _ (aD hiA _))with⟨h1,he⟩|⟨h1,n,he⟩
     ·rw [if_pos ⟨h1.1,h1.2.1⟩]at hstep
      simp only [he,bind_some]
      rw [aX (by omega),hstep]
     ·rw [if_neg (fun h2=>h1 ⟨h2.1,h2.2,c⟩)]at hstep
      simp only [he,bind_some]
      rw [aX (by omega),hstep]
    |false=>
     rw [if_neg (fun h2=>nomatch hb2.2 h2.2)]at hstep
     simp only [cond_false]
     rw [aX (by omega),hstep]
   ·rw [if_neg (fun h2=>c h2.1)]at hstep
    rw [show((A.2.getD i (aa ae)).1==ofNat 0)=false by simpa using c,cond_false]
    rw [aX (by omega),hstep]) (fun A hx=>⟨(A.1,A.2,id,key,ns,st,ts.length,()),by simp only [ga,kX,jK,bu,cond_false],by rw [hx]⟩) (rk,ts) rfl
 exact hy
theorem Tx:gH=jL:=rfl
theorem Tz:ol=db:=rfl
def kh (rk:Int):Prop:=0≤rk∧rk≤1099511627764
theorem f162 (rk:Int):∃b,ES (rk,())=some (b,())∧(b=true↔kh rk):=by
 simp only [ES,kh]
 by_cases c:rk≥ofNat 0
 ·rw [decide_eq_true c]
  exact⟨_,rfl,by simp only [decide_eq_true_eq,aF]at*;omega⟩
 ·rw [decide_eq_false c]
  exact⟨_,rfl,(fun h=>nomatch h),fun h=>absurd h.1 (by simp only [aF]at c;omega)⟩
theorem LO (r:aj) (hr:bH r):∃(r':aj) (e:Int),xC (r,())=some (r',e,())∧((e=0∧ROk r∧r.2.2.2.1=1∧r'.1=r.1∧r'.2.1=r.2.1∧r'.2.2.1=r.2.2.1∧r'.2.2.2.1=4∧lN r.2.2.1.1 r.2.2.2.2.1 r'.2.2.2.2.1∧∀t∈r'.2.2.2.2.1,0≤t.1)∨((∃n:Nat,e=ofNat (n+1))∧r'=aM∧¬(ROk r∧r.2.2.2.1=1))):=by
 obtain⟨v,hv,hc⟩:=f89 r hr
 rcases hc with⟨rfl,hc⟩|⟨rfl,hc⟩
 ·have ik:=f62 r (qr hc)
  have hdag:=hc.dag
  have hlen:=hc.len
  have hs:=hr.ts
  obtain⟨id,key,⟨ns,_⟩,st,ts,_⟩:=r
  simp only at hlen hs
  simp only [xC,hv,bind_some,cQ]
  by_cases c3:st=1
  ·subst c3
   rw [show((1:Int) !=ofNat 1)=false from rfl,cond_false]
   obtain⟨ts',e1,e2,e3⟩:=Ht ns (fun j hj=>jT hdag.2.1 hj) hdag.1.2 ts hlen hs id key (ofNat 4)
   simp only [ik,bind_some,Tz,e1,zero_add,drop_zero]
   rw [decide_eq_true (by have:=e2.1;omega:ts.length≤ts'.length),cond_true,show take ts.length ts'=ts' by rw [←e2.1];exact take_length]
   exact⟨_,_,rfl,.inl ⟨by trivial,hc,by trivial,rfl,rfl,rfl,rfl,e2,e3⟩⟩
  ·rw [show(st !=ofNat 1)=true by simpa using c3,cond_true]
   exact⟨_,_,rfl,.inr ⟨⟨249,rfl⟩,rfl,fun h=>c3 h.2⟩⟩
 ·simp only [xC,hv,bind_some]
  exact⟨_,_,rfl,.inr ⟨⟨7,rfl⟩,rfl,fun h=>hc h.1⟩⟩
theorem FQ (id:Int) (key:ByteArray) (ns:List aT) (hln:∀nd∈ns,nd.1.length≤9223372036854775807) (rk:Int):
  ∃(r':aj) (rk' e:Int),rv (id,key,(ns,()),rk,())=some (r',rk',e,())∧((e=0∧bV id∧(1≤key.size∧key.size≤24)∧qp ns∧kh rk∧r'=(id,key,(ns,()),ofNat 1,(opn ns (rk,replicate ns.length t0) ns.length).2,())∧rk'=(opn ns (rk,replicate ns.length t0) ns.length).1)∨((∃n:Nat,e=ofNat (n+1))∧¬(bV id∧(1≤key.size∧key.size≤24)∧qp ns∧kh rk))):=by
 simp only [rv]
 by_cases c1:id<ofNat 0
 ·rw [decide_eq_true c1,cond_true];exact⟨_,_,_,rfl,.inr ⟨⟨1,rfl⟩,fun h=>by have:=h.1.1;simp only [aF]at*;omega⟩⟩
 rw [decide_eq_false c1,cond_false]
 by_cases c2:id>ofNat 1099511627776
 ·rw [decide_eq_true c2,cond_true];exact⟨_,_,_,rfl,.inr ⟨⟨1,rfl⟩,fun h=>by have:=h.1.2;simp only [aF]at*;omega⟩⟩
 rw [decide_eq_false c2,cond_false]
 by_cases c3:(key.size:Int)<ofNat 1
 ·rw [decide_eq_true c3,cond_true];exact⟨_,_,_,rfl,.inr ⟨⟨2,rfl⟩,fun h=>by have:=h.2.1.1;simp only [aF]at*;omega⟩⟩
 rw [decide_eq_false c3,cond_false]
 by_cases c4:(key.size:Int)>ofNat 24
 ·rw [decide_eq_true c4,cond_true];exact⟨_,_,_,rfl,.inr ⟨⟨2,rfl⟩,fun h=>by have:=h.2.1.2;simp only [aF]at*;omega⟩⟩
 rw [decide_eq_false c4,cond_false]
 obtain⟨v,hv,hc⟩:=f114 ns hln
 simp only [hv,bind_some]
 rcases hc with⟨rfl,hd⟩|⟨rfl,hd⟩
 ·rw [cQ]
  obtain⟨b,hb,hb2⟩:=f162 rk
  simp only [hb,bind_some]
  cases b with
  |false=>exact⟨_,_,_,rfl,.inr ⟨⟨1,rfl⟩,fun h=>nomatch hb2.2 h.2.2.2⟩⟩
  |true=>
   have hrk:=hb2.1 rfl
   have h12:=hd.1
   have hroom:ns.length*40≤bh∧ns.length≤bh:=by
    have:=pp (n:=ns.length) (k:=40) (by omega) (by omega)
    simpa using this
   rw [Bool.not_true,cond_false]
   rw [show(decide (0≤(ns.length:Int)) && decide ((ns.length:Int)≤(ns.length:Int)) && decide ((ns.length:Int)≤((bh:Nat):Int)) && decide ((40:Int)*(ns.length:Int)≤((bh:Nat):Int)))=true by
    simp only [Bool.and_eq_true,decide_eq_true_eq]
    obtain⟨q1,q2⟩:=hroom
    omega,cond_true]
   simp only [toNat_natCast,drop_zero,length_replicate,zero_add]
   rw [decide_eq_true (le_refl _),cond_true,show take ns.length (replicate ns.length t0)=replicate ns.length t0 by rw [List.take_of_length_le (by rw [length_replicate];omega)]]
   have ik:=f62 (id,key,(ns,()),ofNat 1,replicate ns.length t0,()) ⟨⟨Ck hd,by simp only [length_replicate];omega⟩,fun h=>by
    have:=congrArg length h
    simp only [length_replicate,length_nil]at this
    omega⟩
   have ho:=Hu ns hd hln rk (replicate ns.length t0) (length_replicate ..) (fun t ht=>by rw [List.eq_of_mem_replicate ht];exact natCast_nonneg 0) id key (ofNat 1)
   have hl:=qs ns (rk,replicate ns.length t0) ns.length
   simp only [length_replicate]at ho hl
   simp only [ik,bind_some,length_replicate,ho]
   rw [decide_eq_true (by omega:ns.length≤(opn ns (rk,replicate ns.length t0) ns.length).2.length),cond_true,List.take_of_length_le (by omega)]
   exact⟨_,_,_,rfl,.inl ⟨rfl,⟨by simp only [aF]at*;omega,by simp only [aF]at*;omega⟩,by simp only [aF]at*;omega,hd,hrk,rfl,rfl⟩⟩
 ·exact⟨_,_,_,rfl,.inr ⟨⟨229,rfl⟩,fun h=>hd h.2.2.1⟩⟩
structure Cmpl (r:aj) (k:Nat) (rk:Int) (r':aj) (rk':Int):Prop where
 id:r'.1=r.1
 key:r'.2.1=r.2.1
 ns:r'.2.2.1=r.2.2.1
 tks:r'.2.2.2.2.1=(opn r.2.2.1.1 (rk,r.2.2.2.2.1.set k (ofNat 4,(r.2.2.2.2.1.getD k (aa ae)).2.1,ofNat 0,ofNat 0,ofNat 0,())) r.2.2.1.1.length).2
 rank:rk'=(opn r.2.2.1.1 (rk,r.2.2.2.2.1.set k (ofNat 4,(r.2.2.2.2.1.getD k (aa ae)).2.1,ofNat 0,ofNat 0,ofNat 0,())) r.2.2.1.1.length).1
 st:((∀t'∈r.2.2.2.2.1.set k (ofNat 4,(r.2.2.2.2.1.getD k (aa ae)).2.1,ofNat 0,ofNat 0,ofNat 0,()),t'.1=4)∧r'.2.2.2.1=2)∨(¬(∀t'∈r.2.2.2.2.1.set k (ofNat 4,(r.2.2.2.2.1.getD k (aa ae)).2.1,ofNat 0,ofNat 0,ofNat 0,()),t'.1=4)∧r'.2.2.2.1=1)
 len:r'.2.2.2.2.1.length=r.2.2.2.2.1.length
 pos:∀t∈r'.2.2.2.2.1,0≤t.1
theorem Gr (r:aj) (hr:bH r) (i tk rk:Int):
  ∃(r':aj) (rk' e:Int),xB (r,i,tk,rk,())=some (r',rk',e,())∧((e=0∧ROk r∧r.2.2.2.1=1∧kh rk∧∃k:Nat,i=k∧k<r.2.2.2.2.1.length∧iH (r.2.2.1.1.getD k (aa af)) (r.2.2.2.2.1.getD k (aa ae)) tk∧Cmpl r k rk r' rk')∨((∃n:Nat,e=ofNat (n+1))∧¬(ROk r∧r.2.2.2.1=1∧kh rk∧∃k:Nat,i=k∧k<r.2.2.2.2.1.length∧iH (r.2.2.1.1.getD k (aa af)) (r.2.2.2.2.1.getD k (aa ae)) tk))):=by
 obtain⟨v,hv,hc⟩:=f89 r hr
 obtain⟨bR,hbR,hbR2⟩:=f162 rk
 rcases hc with⟨rfl,hc⟩|⟨rfl,hc⟩
 ·have ik:=f62 r (qr hc)
  have hdag:=hc.dag
  have hlen:=hc.len
  have htk:=hc.tks
  have hs:=hr.ts
  have hln:=hr.ln
  obtain⟨id,key,⟨ns,_⟩,st,ts,_⟩:=r
  simp only at hlen htk hs hln
  have h12:ns.length≤12:=hdag.1.2
  simp only [xB,hbR,hv,bind_some,cQ]
  by_cases c1:i<ofNat 0
  ·rw [decide_eq_true c1,cond_true];exact⟨_,_,_,rfl,.inr ⟨⟨1,rfl⟩,fun⟨_,_,_,k,hi,_⟩=>by simp only [aF]at c1;omega⟩⟩
  rw [decide_eq_false c1,cond_false]
  by_cases c2:i≥(ts.length:Int)
  ·rw [decide_eq_true c2,cond_true];exact⟨_,_,_,rfl,.inr ⟨⟨1,rfl⟩,fun⟨_,_,_,k,hi,hk,_⟩=>by omega⟩⟩
  rw [decide_eq_false c2,cond_false]
  by_cases c3:st=1
  ·subst c3
   rw [show((1:Int) !=ofNat 1)=false from rfl,cond_false]
   cases bR with
   |false=>exact⟨_,_,_,rfl,.inr ⟨⟨1,rfl⟩,fun⟨_,_,h,_⟩=>nomatch hbR2.2 h⟩⟩
   |true=>
    have hrk:=hbR2.1 rfl
    obtain⟨k,rfl⟩:∃k:Nat,i=k:=⟨i.toNat,by simp only [aF]at c1;omega⟩
    have hk:k<ts.length:=by omega
    have hkn:k<ns.length:=by omega
    rw [Bool.not_true,cond_false]
    simp only [aP hkn,aH hkn,aP hk,aH hk,cond_true,toNat_natCast,eN]
    rcases f169 (ns.getD k (aa af)) (ts.getD k (aa ae)) tk (jT hdag.2.1 hkn) (hs _ (aD hk _))with⟨hh,hd⟩|⟨hh,n,hd⟩
    ·obtain⟨t',ht'⟩:∃t':an,t'=(ofNat 4,(ts.getD k (aa ae)).2.1,ofNat 0,ofNat 0,ofNat 0,()):=⟨_,rfl⟩
     rw [←ht']at hd
     have hp:0≤t'.1:=by rw [ht'];exact natCast_nonneg 4
     have hs2:=wU (k:=k) hs hp
     have hl2:(ts.set k t').length=ts.length:=length_set
     have dl:decide (ts.length≤(ts.set k t').length)=true:=decide_eq_true (by omega)
     have tk2:take ts.length (ts.set k t')=ts.set k t':=by rw [←hl2];exact take_length
     have c5:(t'.1==ofNat 5)=false:=by rw [ht'];rfl
     have hol:(opn ns (rk,ts.set k t') ns.length).2.length=ts.length:=(qs ns (rk,ts.set k t') ns.length).trans hl2
     have hop:=wq ns (rk,ts.set k t') hs2 ns.length
     have do_:decide (ts.length≤(opn ns (rk,ts.set k t') ns.length).2.length)=true:=decide_eq_true (by omega)
     have to_:take ts.length (opn ns (rk,ts.set k t') ns.length).2=(opn ns (rk,ts.set k t') ns.length).2:=List.take_of_length_le (by omega)
     have ho:=fun st=>Hu ns hdag hln rk (ts.set k t') (by omega) hs2 id key st
     simp only [hl2]at ho
     have Bc:=f182 (id,key,(ns,()),1,ts.set k t',()) [ofNat 4] (by decide) (by simp only;omega)
     simp only [hd,bind_some,cQ,ik,aP hk,zero_add,aH hk,cond_true,c5,cond_false,dl,drop_zero,tk2]
     rw [show take ((replicate 1 (ofNat 0)).set 0 (ofNat 4)).length ((replicate 1 (ofNat 0)).set 0 (ofNat 4))= [ofNat 4]from rfl]
     simp only [Bc,bind_some,Tx,ho,do_,to_,cond_true]
     by_cases hall:∀t∈ts.set k t',t.1∈ [ofNat 4]
     ·rw [decide_eq_true hall]
      refine⟨_,_,_,rfl,.inl ⟨by trivial,hc,by trivial,hrk,k,by trivial,hk,hh,rfl,rfl,rfl,by rw [←ht'],by rw [←ht'],.inl ⟨fun t ht=> ?_,rfl⟩,hol,hop⟩⟩
      rw [←ht']at ht
      simpa using hall t ht
     ·rw [decide_eq_false hall]
      refine⟨_,_,_,rfl,.inl ⟨by trivial,hc,by trivial,hrk,k,by trivial,hk,hh,rfl,rfl,rfl,by rw [←ht'],by rw [←ht'],.inr ⟨fun h=> ?_,rfl⟩,hol,hop⟩⟩
      rw [←ht']at h
      exact hall fun t ht=>by simpa using h t ht
    ·simp only [hd,bind_some,eX]
     exact⟨_,_,_,rfl,.inr ⟨⟨n,rfl⟩,fun⟨_,_,_,k2,hi,_,h⟩=>by
      obtain rfl:k=k2:=by omega
      exact hh h⟩⟩
  ·rw [show(st !=ofNat 1)=true by simpa using c3,cond_true]
   exact⟨_,_,_,rfl,.inr ⟨⟨249,rfl⟩,fun⟨_,h,_⟩=>c3 h⟩⟩
 ·simp only [xB,hbR,hv,bind_some]
  exact⟨_,_,_,rfl,.inr ⟨⟨7,rfl⟩,fun⟨h,_⟩=>hc h⟩⟩
def jV (nr:Int) (x:aC):Prop:=(1≤x.2.1∧x.2.1≤6)∧(0≤x.2.2.1∧x.2.2.1<nr)∧(0≤x.2.2.2.1∧x.2.2.2.1<12)∧(x.2.2.2.1=0∨x.2.1=2∨x.2.1=3)
theorem f54 (s:bB) (x:aC):∃b,PE (s,x,())=some (b,())∧(b=true↔jV s.2.1 x):=by
 simp only [PE,jV]
 by_cases c1:x.2.1<ofNat 1
 ·rw [decide_eq_true c1];exact⟨_,rfl,(fun h=>nomatch h),fun h=>by simp only [aF]at c1;omega⟩
 rw [decide_eq_false c1,cond_false]
 by_cases c2:x.2.1>ofNat 6
 ·rw [decide_eq_true c2];exact⟨_,rfl,(fun h=>nomatch h),fun h=>by simp only [aF]at c2;omega⟩
 rw [decide_eq_false c2,cond_false]
 by_cases c3:x.2.2.1<ofNat 0
 ·rw [decide_eq_true c3];exact⟨_,rfl,(fun h=>nomatch h),fun h=>by simp only [aF]at c3;omega⟩
 rw [decide_eq_false c3,cond_false]
 by_cases c4:x.2.2.1≥s.2.1
 ·rw [decide_eq_true c4];exact⟨_,rfl,(fun h=>nomatch h),fun h=>by omega⟩
 rw [decide_eq_false c4,cond_false]
 by_cases c5:x.2.2.2.1<ofNat 0
 ·rw [decide_eq_true c5];exact⟨_,rfl,(fun h=>nomatch h),fun h=>by simp only [aF]at c5;omega⟩
 rw [decide_eq_false c5,cond_false]
 by_cases c6:x.2.2.2.1≥ofNat 12
 ·rw [decide_eq_true c6];exact⟨_,rfl,(fun h=>nomatch h),fun h=>by simp only [aF]at c6;omega⟩
 rw [decide_eq_false c6,cond_false]
 simp only [aF]at c1 c2 c3 c5 c6
 by_cases c7:x.2.2.2.1=0
 ·rw [show(x.2.2.2.1==ofNat 0)=true by rw [c7];rfl]
  exact⟨_,rfl,fun _=>by omega,fun _=>rfl⟩
 rw [show(x.2.2.2.1==ofNat 0)=false by simpa using c7,cond_false]
 by_cases c8:x.2.1=2
 ·rw [show(x.2.1==ofNat 2)=true by rw [c8];rfl]
  exact⟨_,rfl,fun _=>by omega,fun _=>rfl⟩
 rw [show(x.2.1==ofNat 2)=false by simpa using c8,cond_false]
 refine⟨_,rfl,fun h=> ?_,fun h=> ?_⟩
 ·have:x.2.1=3:=by simpa using h
  omega
 ·have:x.2.1=3:=by omega
  rw [this];rfl
def da (nt nk:Int) (t:an):Prop:=dW t<nt∧(t.1=1→dL t<nk)
structure SOk (s:bB):Prop where
 fine:eG s.2.2.2.2.2.2.1
 ev40:s.2.2.2.2.2.2.2.1.length≤40
 ck:bV s.1
 nr:bV s.2.1
 nk:bV s.2.2.2.1
 nt:1≤s.2.2.1∧s.2.2.1≤1099511627776
 ne:1≤s.2.2.2.2.1∧s.2.2.2.2.1≤1099511627776
 ack:0≤s.2.2.2.2.2.1∧s.2.2.2.2.2.1<s.2.2.2.2.1
 elen:(s.2.2.2.2.2.2.2.1.length:Int)=s.2.2.2.2.1-1-s.2.2.2.2.2.1
 late:∀j:Nat,j<s.2.2.2.2.2.2.1.length→(s.2.2.2.2.2.2.1.getD j (aa ab)).1<s.2.1∧∀t∈(s.2.2.2.2.2.2.1.getD j (aa ab)).2.2.2.2.1,da s.2.2.1 s.2.2.2.1 t
 evs:∀j:Nat,j<s.2.2.2.2.2.2.2.1.length→(s.2.2.2.2.2.2.2.1.getD j (aa aw)).1=s.2.2.2.2.2.1+1+j∧jV s.2.1 (s.2.2.2.2.2.2.2.1.getD j (aa aw))
theorem aiK (ts:List an) (ht:ts.length≤9223372036854775807) (ck nr nt nk ne ac:Int) (rs:List aj) (es:List aC):
  ∃y,pO (ts,(ts.length:Int),ofNat 0,ck,nr,nt,nk,ne,ac,rs,es,())=some y∧((∃(i:Nat) (z:_),y= .inl ((i:Int),ck,nr,nt,nk,ne,ac,rs,es,z)∧¬∀t∈ts,da nt nk t)∨(y= .inr (ck,nr,nt,nk,ne,ac,rs,es,())∧∀t∈ts,da nt nk t)):=by
 obtain⟨y,hy,hq⟩:=ba (st:=gM) ts.length (fun i (_:Unit)=>(ts,(ts.length:Int),(i:Int),ck,nr,nt,nk,ne,ac,rs,es,())) (fun i _=>∀t∈ts.take i,da nt nk t)
  (fun y=>((∃(i:Nat) (z:_),y= .inl ((i:Int),ck,nr,nt,nk,ne,ac,rs,es,z)∧¬∀t∈ts,da nt nk t)∨(y= .inr (ck,nr,nt,nk,ne,ac,rs,es,())∧∀t∈ts,da nt nk t))) (fun i _ h hx=>by
   have next:da nt nk (ts.getD i (aa ae))→∀t∈ts.take (i+1),da nt nk t:=fun hn t ht=>by
    rcases iK h (aa ae) ht with h1|h1
    ·exact hx t h1
    ·rw [h1];exact hn
   simp only [gM,mH,ll,bz h,aP h,aH h,cond_true,toNat_natCast]
   by_cases c1:(ts.getD i (aa ae)).2.2.2.1≥nt
   ·rw [decide_eq_true c1,cond_true]
    exact .inr ⟨_,rfl,.inl ⟨i,_,rfl,fun hall=>by have:=(hall _ (aD h (aa ae))).1;unfold dW at this;omega⟩⟩
   rw [decide_eq_false c1,cond_false]
   by_cases c2:(ts.getD i (aa ae)).1=1
   ·rw [show((ts.getD i (aa ae)).1==ofNat 1)=true by rw [c2];rfl,cond_true]
    by_cases c3:(ts.getD i (aa ae)).2.2.2.2.1≥nk
    ·rw [decide_eq_true c3,cond_true]
     exact .inr ⟨_,rfl,.inl ⟨i,_,rfl,fun hall=>by have:=(hall _ (aD h (aa ae))).2 c2;unfold dL at this;omega⟩⟩
    ·rw [decide_eq_false c3,cond_false,aX (by omega)]
     exact .inl ⟨(),rfl,next ⟨by unfold dW;omega,fun _=>by unfold dL;omega⟩⟩
   ·rw [show((ts.getD i (aa ae)).1==ofNat 1)=false by simpa using c2,cond_false,aX (by omega)]
    exact .inl ⟨(),rfl,next ⟨by unfold dW;omega,fun h=>absurd h c2⟩⟩) (fun _ hx=>⟨.inr (ck,nr,nt,nk,ne,ac,rs,es,()),by simp only [gM,mH,ll,bu,cond_false],.inr ⟨rfl,by rw [take_length]at hx;exact hx⟩⟩) () (by simp)
 exact⟨y,hy,hq⟩
theorem aiL (ck nr nt nk ne ac:Int) (rs:List aj) (es:List aC) (hm:rs.length≤9223372036854775807) (hr:∀r∈rs,bH r):
  ∃y,pP (rs,(rs.length:Int),ofNat 0,ck,nr,nt,nk,ne,ac,rs,es,())=some y∧(((∃z,y= .inl (ofNat 8,z))∨(∃z,y= .inr (.inl (ofNat 8,z))))∧(¬∀j:Nat,j<rs.length→(rs.getD j (aa ab)).1<nr∧∀t∈(rs.getD j (aa ab)).2.2.2.2.1,da nt nk t)∨
   (y= .inr (.inr (ck,nr,nt,nk,ne,ac,rs,es,()))∧∀j:Nat,j<rs.length→(rs.getD j (aa ab)).1<nr∧∀t∈(rs.getD j (aa ab)).2.2.2.2.1,da nt nk t)):=by
 obtain⟨y,hy,hq⟩:=ba (st:=gN) rs.length (fun i (_:Unit)=>(rs,(rs.length:Int),(i:Int),ck,nr,nt,nk,ne,ac,rs,es,())) (fun i _=>∀j:Nat,j<i→(rs.getD j (aa ab)).1<nr∧∀t∈(rs.getD j (aa ab)).2.2.2.2.1,da nt nk t)
  (fun y=>(((∃z,y= .inl (ofNat 8,z))∨(∃z,y= .inr (.inl (ofNat 8,z))))∧(¬∀j:Nat,j<rs.length→(rs.getD j (aa ab)).1<nr∧∀t∈(rs.getD j (aa ab)).2.2.2.2.1,da nt nk t)∨
   (y= .inr (.inr (ck,nr,nt,nk,ne,ac,rs,es,()))∧∀j:Nat,j<rs.length→(rs.getD j (aa ab)).1<nr∧∀t∈(rs.getD j (aa ab)).2.2.2.2.1,da nt nk t))) (fun i _ h hx=>by
   obtain⟨y,hy,hq⟩:=aiK (rs.getD i (aa ab)).2.2.2.2.1 (hr _ (aD h _)).tl ck nr nt nk ne ac rs es
   simp only [gN,mI,bz h,aP h,aH h,cond_true,toNat_natCast]
   by_cases c1:(rs.getD i (aa ab)).1≥nr
   ·rw [decide_eq_true c1,cond_true]
    exact .inr ⟨_,rfl,.inl ⟨.inl ⟨_,rfl⟩,fun hall=>by have:=(hall i h).1;omega⟩⟩
   rw [decide_eq_false c1,cond_false]
   simp only [hy,bind_some]
   rcases hq with⟨a,z,rfl,hn⟩|⟨rfl,hn⟩
   ·simp only [vF,cond_true]
    exact .inr ⟨_,rfl,.inl ⟨.inr ⟨_,rfl⟩,fun hall=>hn (hall i h).2⟩⟩
   ·simp only
    rw [aX (by omega)]
    exact .inl ⟨(),rfl,dm hx ⟨by omega,hn⟩⟩) (fun _ hx=>⟨.inr (.inr (ck,nr,nt,nk,ne,ac,rs,es,())),by simp only [gN,mI,bu,cond_false],.inr ⟨rfl,hx⟩⟩) () (fun j h=>absurd h (not_lt_zero _))
 exact⟨y,hy,hq⟩
theorem aiM (ck nr nt nk ne ac:Int) (rs:List aj) (es:List aC) (he:es.length≤40) (ha:0≤ac∧ac≤1099511627776):
  ∃y,pN (es,(es.length:Int),ofNat 0,ck,nr,nt,nk,ne,ac,rs,es,())=some y∧(((∃z,y= .inl (ofNat 8,z))∧¬∀j:Nat,j<es.length→(es.getD j (aa aw)).1=ac+1+j∧jV nr (es.getD j (aa aw)))∨
   ((∃z,y= .inr z)∧∀j:Nat,j<es.length→(es.getD j (aa aw)).1=ac+1+j∧jV nr (es.getD j (aa aw)))):=by
 obtain⟨y,hy,hq⟩:=ba (st:=gL) es.length (fun i (_:Unit)=>(es,(es.length:Int),(i:Int),ck,nr,nt,nk,ne,ac,rs,es,())) (fun i _=>∀j:Nat,j<i→(es.getD j (aa aw)).1=ac+1+j∧jV nr (es.getD j (aa aw)))
  (fun y=>(((∃z,y= .inl (ofNat 8,z))∧¬∀j:Nat,j<es.length→(es.getD j (aa aw)).1=ac+1+j∧jV nr (es.getD j (aa aw)))∨
   ((∃z,y= .inr z)∧∀j:Nat,j<es.length→(es.getD j (aa aw)).1=ac+1+j∧jV nr (es.getD j (aa aw))))) (fun i _ h hx=>by
   obtain⟨b,hb,hb2⟩:=f54 (ck,nr,nt,nk,ne,ac,rs,es,()) (es.getD i (aa aw))
   simp only at hb2
   have e1:IntKind.i64.wrap (IntKind.i64.wrap (ac+ofNat 1)+(i:Int))=ac+1+i:=by
    rw [show IntKind.i64.wrap (ac+ofNat 1)=ac+1 by rw [IntKind.wrap_i64];simp only [aF];omega,IntKind.wrap_i64];omega
   simp only [gL,mG,lh,bz h,aP h,aH h,cond_true,toNat_natCast,e1]
   by_cases c1:(es.getD i (aa aw)).1=ac+1+i
   ·rw [show((es.getD i (aa aw)).1 !=ac+1+(i:Int))=false by rw [c1];simp,cond_false]
    simp only [hb,bind_some]
    cases b with
    |true=>
     rw [Bool.not_true,cond_false,aX (by omega)]
     exact .inl ⟨(),rfl,dm hx ⟨c1,hb2.1 rfl⟩⟩
    |false=>exact .inr ⟨_,rfl,.inl ⟨⟨_,rfl⟩,fun hall=>nomatch hb2.2 (hall i h).2⟩⟩
   ·rw [show((es.getD i (aa aw)).1 !=ac+1+(i:Int))=true by simpa using c1,cond_true]
    exact .inr ⟨_,rfl,.inl ⟨⟨_,rfl⟩,fun hall=>c1 (hall i h).1⟩⟩) (fun _ hx=>⟨.inr (ck,nr,nt,nk,ne,ac,rs,es,()),by simp only [gL,mG,lh,bu,cond_false],.inr ⟨⟨_,rfl⟩,hx⟩⟩) () (fun j h=>absurd h (not_lt_zero _))
 exact⟨y,hy,hq⟩
theorem f50 (n l:Int):∃b,ER (n,l,())=some (b,())∧(b=true↔(l≤n∧n≤1099511627776)):=by
 simp only [ER]
 by_cases c:n≥l
 ·rw [decide_eq_true c];exact⟨_,rfl,by simp only [decide_eq_true_eq,aF];omega⟩
 ·rw [decide_eq_false c];exact⟨_,rfl,(fun h=>nomatch h),fun h=>absurd h.1 c⟩
theorem gT (s:bB) (hm:s.2.2.2.2.2.2.1.length≤9223372036854775807) (hr:∀r∈s.2.2.2.2.2.2.1,bH r):∃v,tF (s,())=some (v,())∧((v=0∧SOk s)∨((∃n:Nat,v=ofNat (n+1))∧¬SOk s)):=by
 obtain⟨ck,nr,nt,nk,ne,ac,rs,es,_⟩:=s
 simp only at hm hr
 simp only [tF]
 by_cases c1:(rs.length:Int)>ofNat 32
 ·rw [decide_eq_true c1];exact⟨_,rfl,.inr ⟨⟨3,rfl⟩,fun h=>by have:=h.fine.1;simp only [aF]at*;omega⟩⟩
 rw [decide_eq_false c1,cond_false]
 by_cases c2:(es.length:Int)>ofNat 40
 ·rw [decide_eq_true c2];exact⟨_,rfl,.inr ⟨⟨3,rfl⟩,fun h=>by have:=h.ev40;simp only [aF]at*;omega⟩⟩
 rw [decide_eq_false c2,cond_false]
 by_cases c3:ck<ofNat 0
 ·rw [decide_eq_true c3];exact⟨_,rfl,.inr ⟨⟨7,rfl⟩,fun h=>by have:=h.ck.1;simp only [aF]at*;omega⟩⟩
 rw [decide_eq_false c3,cond_false]
 by_cases c4:ck>ofNat 1099511627776
 ·rw [decide_eq_true c4];exact⟨_,rfl,.inr ⟨⟨7,rfl⟩,fun h=>by have:=h.ck.2;simp only [aF]at*;omega⟩⟩
 rw [decide_eq_false c4,cond_false]
 obtain⟨b1,e1,g1⟩:=f50 nr (ofNat 0)
 simp only [e1,bind_some]
 cases b1 with
 |false=>exact⟨_,rfl,.inr ⟨⟨7,rfl⟩,fun h=>nomatch g1.2 h.nr⟩⟩
 |true=>
 have g1:=g1.1 rfl
 rw [Bool.not_true,cond_false]
 obtain⟨b2,e2,g2⟩:=f50 nk (ofNat 0)
 simp only [e2,bind_some]
 cases b2 with
 |false=>exact⟨_,rfl,.inr ⟨⟨7,rfl⟩,fun h=>nomatch g2.2 h.nk⟩⟩
 |true=>
 have g2:=g2.1 rfl
 rw [Bool.not_true,cond_false]
 obtain⟨b3,e3,g3⟩:=f50 nt (ofNat 1)
 simp only [e3,bind_some]
 cases b3 with
 |false=>exact⟨_,rfl,.inr ⟨⟨7,rfl⟩,fun h=>nomatch g3.2 h.nt⟩⟩
 |true=>
 have g3:=g3.1 rfl
 rw [Bool.not_true,cond_false]
 obtain⟨b4,e4,g4⟩:=f50 ne (ofNat 1)
 simp only [e4,bind_some]
 cases b4 with
 |false=>exact⟨_,rfl,.inr ⟨⟨7,rfl⟩,fun h=>nomatch g4.2 h.ne⟩⟩
 |true=>
 have g4:=g4.1 rfl
 rw [Bool.not_true,cond_false]
 by_cases c5:ac<ofNat 0
 ·rw [decide_eq_true c5];exact⟨_,rfl,.inr ⟨⟨7,rfl⟩,fun h=>by have:=h.ack.1;simp only [aF]at*;omega⟩⟩
 rw [decide_eq_false c5,cond_false]
 by_cases c6:ac≥ne
 ·rw [decide_eq_true c6];exact⟨_,rfl,.inr ⟨⟨7,rfl⟩,fun h=>by have:=h.ack.2;simp only at this;omega⟩⟩
 rw [decide_eq_false c6,cond_false]
 simp only [aF]at c1 c2 c3 c4 c5 g1 g2 g3 g4
 have ew:IntKind.i64.wrap (IntKind.i64.wrap (ne-ofNat 1)-ac)=ne-1-ac:=by
  rw [show IntKind.i64.wrap (ne-ofNat 1)=ne-1 by rw [IntKind.wrap_i64];simp only [aF];omega,IntKind.wrap_i64];omega
 rw [ew]
 by_cases c7:(es.length:Int)=ne-1-ac
 ·rw [show((es.length:Int) !=ne-1-ac)=false by simp [c7],cond_false]
  obtain⟨v,hv,hc⟩:=f51 rs hm hr
  simp only [hv,bind_some]
  rcases hc with⟨h1,rfl⟩|⟨h1,h2,rfl⟩|⟨hf,rfl⟩
  ·exact⟨_,rfl,.inr ⟨⟨7,rfl⟩,fun h=>by have:=h.fine.1;simp only at this;omega⟩⟩
  ·exact⟨_,rfl,.inr ⟨⟨7,rfl⟩,fun h=>h2 h.fine.2⟩⟩
  ·rw [jU,cond_false]
   obtain⟨y,hy,hq⟩:=aiL ck nr nt nk ne ac rs es hm hr
   simp only [hy,bind_some]
   rcases hq with⟨h1,h2⟩|⟨rfl,hlate⟩
   ·rcases h1 with⟨z,rfl⟩|⟨z,rfl⟩
    ·exact⟨_,rfl,.inr ⟨⟨7,rfl⟩,fun h=>h2 h.late⟩⟩
    ·exact⟨_,rfl,.inr ⟨⟨7,rfl⟩,fun h=>h2 h.late⟩⟩
   ·obtain⟨y,hy,hq⟩:=aiM ck nr nt nk ne ac rs es (by omega) (by omega)
    simp only [hy,bind_some]
    rcases hq with⟨⟨z,rfl⟩,h2⟩|⟨⟨z,rfl⟩,h2⟩
    ·exact⟨_,rfl,.inr ⟨⟨7,rfl⟩,fun h=>h2 h.evs⟩⟩
    ·exact⟨_,rfl,.inl ⟨rfl,⟨hf,by simp only;omega,⟨by simp only;omega,by simp only;omega⟩,g1,g2,g3,g4,⟨by simp only;omega,by simp only;omega⟩,c7,hlate,h2⟩⟩⟩
 ·rw [show((es.length:Int) !=ne-1-ac)=true by simpa using c7,cond_true]
  exact⟨_,rfl,.inr ⟨⟨7,rfl⟩,fun h=>c7 h.elen⟩⟩
theorem bq {α:Type} (l:List α):ai l=l:=cX l
theorem cg {α:Type} (z v:α):aY z v= [v]:=rfl
section
variable (rs:List aj) (es:List aC) (ck nr nt nk ne ac:Int)
abbrev zz:Int:=ofNat 0
def Rw (i:Int):List aj→(List aj×Int×Int×Int×Int×Int×Int×Int×Int×Nat×List aC×Int×Int×Int×Int×Int×Int×Unit)⊕(List aj×Int×Int×Int×Int×Int×Int×Int×Int×Nat×Nat×List aj×List aC×Int×Int×Int×Int×Int×Int×Unit)
 | []=>.inl (rs,(rs.length:Int),i,ck,nr,nt,nk,ne,ac,es.length,es,zz,zz,zz,zz,zz,zz,())
 |a::l=>.inr (rs,(rs.length:Int),i,ck,nr,nt,nk,ne,ac,(a::l).length,es.length,a::l,es,zz,zz,zz,zz,zz,zz,())
def Bo:List aj→(Int×Int×Int×Int×Int×Int×Nat×List aC×Int×Int×Int×Int×Int×Int×Unit)⊕(Int×Int×Int×Int×Int×Int×Nat×Nat×List aj×List aC×Int×Int×Int×Int×Int×Int×Unit)
 | []=>.inl (ck,nr,nt,nk,ne,ac,es.length,es,zz,zz,zz,zz,zz,zz,())
 |a::l=>.inr (ck,nr,nt,nk,ne,ac,(a::l).length,es.length,a::l,es,zz,zz,zz,zz,zz,zz,())
def Rx (i:Int):List aj→(List aj×Int×Int×Int×Int×Int×Int×Int×Int×Int×Int×Int×Int×Int×Int×Unit)⊕(List aj×Int×Int×Int×Int×Int×Int×Int×Int×Nat×List aj×Int×Int×Int×Int×Int×Int×Unit)
 | []=>.inl (rs,(rs.length:Int),i,ck,nr,nt,nk,ne,ac,zz,zz,zz,zz,zz,zz,())
 |a::l=>.inr (rs,(rs.length:Int),i,ck,nr,nt,nk,ne,ac,(a::l).length,a::l,zz,zz,zz,zz,zz,zz,())
def FR:List aj→(Int×Int×Int×Int×Int×Int×Int×Int×Int×Int×Int×Int×Unit)⊕(Int×Int×Int×Int×Int×Int×Nat×List aj×Int×Int×Int×Int×Int×Int×Unit)
 | []=>.inl (ck,nr,nt,nk,ne,ac,zz,zz,zz,zz,zz,zz,())
 |a::l=>.inr (ck,nr,nt,nk,ne,ac,(a::l).length,a::l,zz,zz,zz,zz,zz,zz,())
theorem aiN (hm:rs.length≤60) (hr:∀r∈rs,LN r):nX (.inl (rs,(rs.length:Int),ofNat 0,ck,nr,nt,nk,ne,ac,es.length,es,zz,zz,zz,zz,zz,zz,()))=some (Bo es ck nr nt nk ne ac rs):=by
 obtain⟨y,hy,rfl⟩:=ba (st:=eK) rs.length (fun i (A:List aj)=>Rw rs es ck nr nt nk ne ac (i:Int) A) (fun i A=>A=rs.take i) (fun y=>y=Bo es ck nr nt nk ne ac rs) (fun i A h hx=>by
   have hlen:A.length=i:=by rw [hx,length_take];omega
   have ht:=rE h (aa ab)
   rw [←hx]at ht
   have ik:=f62 _ (hr _ (aD h (aa ab)))
   obtain⟨r,hrr⟩:∃r:aj,rs.getD i (aa ab)=r:=⟨_,rfl⟩
   rw [hrr]at ik ht
   refine .inl ⟨A++ [r],?_,ht.symm⟩
   obtain⟨id,key,⟨ns,_⟩,st,ts,_⟩:=r
   have d1:decide (ts.length≤ts.length)=true:=decide_eq_true (le_refl _)
   cases A with
   |nil=>
    simp only [Rw,eK,kL,bz h,aP h,aH h,cond_true,toNat_natCast,hrr,ik,bind_some,zero_add,d1,bq,cg]
    rw [aX (by omega)]
    rfl
   |cons a B=>
    have hB:(a::B).length+1≤1000:=by rw [hlen];omega
    have e1:decide ((a::B).length≤(a::B).length)=true:=decide_eq_true (le_refl _)
    have e2:decide ((a::B).length=(a::B).length)=true:=decide_eq_true rfl
    have e3:∀v:aj,(decide (((a::B).length+ [v].length)*80≤2^46) && decide ((a::B).length+ [v].length≤2^46))=true:=fun v=>Dn (n:=(a::B).length+ [v].length) hB (by omega)
    simp only [Rw,eK,kM,jD,bz h,aP h,aH h,cond_true,toNat_natCast,hrr,ik,bind_some,zero_add,d1,bq,cg,cX,e1,e2,e3]
    rw [aX (by omega)]
    rfl) (fun A hx=>⟨Bo es ck nr nt nk ne ac A,by cases A<;>simp only [Rw,Bo,eK,kL,kM,jD,bu,cond_false],by rw [hx,take_length]⟩) [] (by simp)
 exact hy
theorem aiO (hm:rs.length≤60) (hr:∀r∈rs,LN r):nY (.inl (rs,(rs.length:Int),ofNat 0,ck,nr,nt,nk,ne,ac,zz,zz,zz,zz,zz,zz,()))=some (FR ck nr nt nk ne ac rs):=by
 obtain⟨y,hy,rfl⟩:=ba (st:=eL) rs.length (fun i (A:List aj)=>Rx rs ck nr nt nk ne ac (i:Int) A) (fun i A=>A=rs.take i) (fun y=>y=FR ck nr nt nk ne ac rs) (fun i A h hx=>by
   have hlen:A.length=i:=by rw [hx,length_take];omega
   have ht:=rE h (aa ab)
   rw [←hx]at ht
   have ik:=f62 _ (hr _ (aD h (aa ab)))
   obtain⟨r,hrr⟩:∃r:aj,rs.getD i (aa ab)=r:=⟨_,rfl⟩
   rw [hrr]at ik ht
   refine .inl ⟨A++ [r],?_,ht.symm⟩
   obtain⟨id,key,⟨ns,_⟩,st,ts,_⟩:=r
   have d1:decide (ts.length≤ts.length)=true:=decide_eq_true (le_refl _)
   cases A with
   |nil=>
    simp only [Rx,eL,kN,bz h,aP h,aH h,cond_true,toNat_natCast,hrr,ik,bind_some,zero_add,d1,bq,cg]
    rw [aX (by omega)]
    rfl
   |cons a B=>
    have hB:(a::B).length+1≤1000:=by rw [hlen];omega
    have e1:decide ((a::B).length≤(a::B).length)=true:=decide_eq_true (le_refl _)
    have e2:decide ((a::B).length=(a::B).length)=true:=decide_eq_true rfl
    have e3:∀v:aj,(decide (((a::B).length+ [v].length)*80≤2^46) && decide ((a::B).length+ [v].length≤2^46))=true:=fun v=>Dn (n:=(a::B).length+ [v].length) hB (by omega)
    simp only [Rx,eL,kO,jE,bz h,aP h,aH h,cond_true,toNat_natCast,hrr,ik,bind_some,zero_add,d1,bq,cg,cX,e1,e2,e3]
    rw [aX (by omega)]
    rfl) (fun A hx=>⟨FR ck nr nt nk ne ac A,by cases A<;>simp only [Rx,FR,eL,kN,kO,jE,bu,cond_false],by rw [hx,take_length]⟩) [] (by simp)
 exact hy
end
theorem f25 (s:bB) (hm:s.2.2.2.2.2.2.1.length≤60) (he:s.2.2.2.2.2.2.2.1.length≤60) (hr:∀r∈s.2.2.2.2.2.2.1,LN r):cF (s,())=some (s,()):=by
 obtain⟨ck,nr,nt,nk,ne,ac,rs,es,_⟩:=s
 simp only at hm he hr
 have ja:=f61 es (by omega)
 cases es with
 |nil=>
  simp only [cF,List.isEmpty_nil,cond_true]
  simp only [Nv,ja,bind_some,List.isEmpty_nil,cond_true]
  simp only [aiO rs ck nr nt nk ne ac hm hr,bind_some]
  cases rs with
  |nil=>rfl
  |cons a l=>
   have d1:decide ((a::l).length≤(a::l).length)=true:=decide_eq_true (le_refl _)
   simp only [FR,zero_add,d1,cond_true,cX,isEmpty_cons,cond_false]
 |cons e es=>
  simp only [cF,isEmpty_cons,cond_false]
  have d2:decide ((e::es).length≤(e::es).length)=true:=decide_eq_true (le_refl _)
  simp only [Nu,ja,bind_some,isEmpty_cons,cond_false]
  simp only [aiN rs (e::es) ck nr nt nk ne ac hm hr,bind_some]
  cases rs with
  |nil=>simp only [Bo,zero_add,d2,cond_true,cX,isEmpty_cons,cond_false]
  |cons a l=>
   have d1:decide ((a::l).length≤(a::l).length)=true:=decide_eq_true (le_refl _)
   simp only [Bo,zero_add,d1,d2,cond_true,cX,isEmpty_cons,cond_false]
theorem bf {s:bB} (h:SOk s):cF (s,())=some (s,()):=f25 s (by have:=h.fine.1;omega) (by have:=h.ev40;omega) fun r hr=>by
 obtain⟨j,hj,rfl⟩:=List.getElem_of_mem hr
 have:=h.fine.2.chk j hj
 rw [List.getD_eq_getElem?_getD,List.getElem?_eq_getElem hj]at this
 exact qr this
end Go.Proofs.YtbkjflfbgknagaaGreat.fairWell.Code
