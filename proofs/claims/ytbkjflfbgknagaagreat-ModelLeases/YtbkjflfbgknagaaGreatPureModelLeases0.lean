import Derived.Test.YtbkjflfbgknagaaGreatSrtModelLeases
set_option linter.unusedVariables false
set_option linter.unusedSimpArgs false
namespace Go.Am
section
variable (E:Nat→Nat→Prop)
def jF:Nat→Nat→Nat→Prop
 |0,i,j=>E i j
 |k+1,i,j=>jF k i j∨(jF k i k∧jF k k j)
theorem ph:∀(K:Nat) {i m j:Nat},m<K→jF E K i m→jF E K m j→jF E K i j
 |0,_,_,_,h,_,_=>absurd h (Nat.not_lt_zero _)
 |K+1,i,m,j,h,h1,h2=>by
  rcases Nat.lt_or_ge m K with hm|hm
  ·rcases h1 with h1|⟨h1,h1'⟩<;>rcases h2 with h2|⟨h2,h2'⟩
   ·exact .inl (ph K hm h1 h2)
   ·exact .inr ⟨ph K hm h1 h2,h2'⟩
   ·exact .inr ⟨h1,ph K hm h1' h2⟩
   ·exact .inr ⟨h1,h2'⟩
  ·have e:m=K:=by omega
   subst e
   have g1:jF E m i m:=h1.elim id (·.1)
   have g2:jF E m m j:=h2.elim id (·.2)
   exact .inr ⟨g1,g2⟩
theorem vD:∀(K:Nat) {i j:Nat},jF E K i j→∃k,E i k∧(k=j∨jF E K k j)
 |0,i,j,h=>⟨j,h,.inl rfl⟩
 |K+1,i,j,h=>by
  rcases h with h|⟨h,h'⟩
  ·obtain⟨k,h1,h2⟩:=vD K h
   exact⟨k,h1,h2.imp id .inl⟩
  ·obtain⟨k,h1,h2⟩:=vD K h
   refine⟨k,h1,.inr ?_⟩
   rcases h2 with rfl|h2
   ·exact .inl h'
   ·exact .inr ⟨h2,h'⟩
theorem mQ {D:Nat→Prop} (hD:∀i j,D i→E i j→D j):∀(K:Nat) {i j:Nat},jF E K i j→D i→D j
 |0,_,_,h,hi=>hD _ _ hi h
 |K+1,_,_,h,hi=>by
  rcases h with h|⟨h,h'⟩
  ·exact mQ hD K h hi
  ·exact mQ hD K h' (mQ hD K h hi)
theorem FL:∀(K:Nat) {i j:Nat},E i j→jF E K i j
 |0,_,_,h=>h
 |K+1,_,_,h=>.inl (FL K h)
end
theorem Zv {n:Nat} {R:Nat→Nat→Prop} (ht:∀i m j,m<n→R i m→R m j→R i j):∀(U:List Nat),U≠ []→(∀u∈U,u<n∧¬R u u)→∃u∈U,∀v∈U,¬R u v
 | [],h,_=>absurd rfl h
 | [a],_,h=>⟨a,List.mem_singleton.2 rfl,fun v hv=>by rw [List.mem_singleton.1 hv];exact(h a (List.mem_singleton.2 rfl)).2⟩
 |a::b::l,_,h=>by
  obtain⟨u,hu,hs⟩:=Zv ht (b::l) (by simp) fun u hu=>h u (List.mem_cons_of_mem _ hu)
  by_cases hua:R u a
  ·refine⟨a,List.mem_cons_self ..,fun v hv hav=> ?_⟩
   rcases List.mem_cons.1 hv with rfl|hv
   ·exact(h v (List.mem_cons_self ..)).2 hav
   ·exact hs v hv (ht u a v (h a (List.mem_cons_self ..)).1 hua hav)
  ·refine⟨u,List.mem_cons_of_mem _ hu,fun v hv=> ?_⟩
   rcases List.mem_cons.1 hv with rfl|hv
   ·exact hua
   ·exact hs v hv
structure Part (E:Nat→Nat→Prop) (n:Nat) (d:List Bool):Prop where
 len:d.length=n
 cl:∀i j,d.getD i false=true→E i j→d.getD j false=true
 ac:∀i,d.getD i false=true→¬jF E n i i
theorem FM {d:List Bool} {i:Nat} (h:i<d.length) (j:Nat):(d.set i true).getD j false=(decide (j=i)||d.getD j false):=by
 rw [List.getD_eq_getElem?_getD,List.getElem?_set,List.getD_eq_getElem?_getD]
 by_cases hij:i=j
 ·subst hij;simp [h]
 ·rw [if_neg hij,decide_eq_false (fun e=>hij e.symm)];rfl
theorem Part.step {E:Nat→Nat→Prop} {n:Nat} {d:List Bool} (h:Part E n d) {i:Nat} (hi:i<n) (hu:d.getD i false=false) (hm:∀j,E i j→d.getD j false=true):Part E n (d.set i true):=by
 have hi':i<d.length:=by rw [h.len];exact hi
 refine⟨by rw [List.length_set,h.len],fun a j ha he=> ?_,fun a ha hr=> ?_⟩
 ·rw [FM hi']at ha⊢
  rw [Bool.or_eq_true]at ha⊢
  rcases ha with ha|ha
  ·rw [of_decide_eq_true ha]at he;exact .inr (hm _ he)
  ·exact .inr (h.cl _ _ ha he)
 ·rw [FM hi']at ha
  rw [Bool.or_eq_true]at ha
  rcases ha with ha|ha
  ·have e:=of_decide_eq_true ha
   subst e
   obtain⟨k,h1,h2⟩:=vD E n hr
   have hk:=hm k h1
   rcases h2 with rfl|h2
   ·rw [hu]at hk;cases hk
   ·have:=mQ E (D:=fun x=>d.getD x false=true) (fun i j hi he=>h.cl i j hi he) n h2 hk
    rw [hu]at this;cases this
  ·exact h.ac a ha hr
def Ol (E:Nat→Nat→Prop) (n:Nat):Prop:=∀i,i<n→¬jF E n i i
theorem Part.all {E:Nat→Nat→Prop} {n:Nat} {d:List Bool} (h:Part E n d) (hc:d.countP id=n):Ol E n:=fun i hi=>by
 refine h.ac i ?_
 have h1:=List.countP_eq_length.1 (hc.trans h.len.symm)
 have hi':i<d.length:=by rw [h.len];exact hi
 rw [bD hi']
 exact h1 _ (List.getElem_mem hi')
theorem Part.next {E:Nat→Nat→Prop} {n:Nat} {d:List Bool} (h:Part E n d) (hE:∀i j,E i j→j<n) (ha:Ol E n) (hc:d.countP id<n):∃i,i<n∧d.getD i false=false∧∀j,E i j→d.getD j false=true:=by
 have hne:(List.range n).filter (fun i=> !d.getD i false)≠ []:=fun e=>by
  have:d.countP id=d.length:=List.countP_eq_length.2 fun b hb=>by
   obtain⟨i,hi,rfl⟩:=List.mem_iff_getElem.1 hb
   rw [List.filter_eq_nil_iff]at e
   have:=e i (List.mem_range.2 (by rw [←h.len];exact hi))
   rw [bD hi]at this
   simpa using this
  rw [h.len]at this
  omega
 obtain⟨u,hu,hs⟩:=Zv (R:=jF E n) (fun i m j hm=>ph E n hm) _ hne fun u hu=>by
  have:=(List.mem_filter.1 hu).1
  have hl:=List.mem_range.1 this
  exact⟨hl,ha u hl⟩
 obtain⟨h1,h2⟩:=List.mem_filter.1 hu
 refine⟨u,List.mem_range.1 h1,by simpa using h2,fun j hj=> ?_⟩
 rcases hd:d.getD j false with _|_
 ·exact absurd (FL E n hj) (hs j (List.mem_filter.2 ⟨List.mem_range.2 (hE _ _ hj),by rw [hd];rfl⟩))
 ·rfl
end Go.Am
set_option maxRecDepth 100000
set_option linter.constructorNameAsVariable false
namespace Go.Proofs.YtbkjflfbgknagaaGreat.modelLeases.Code
open Go Go.Am
open List (replicate take drop drop_zero take_length length_set getD_eq_getElem?_getD take_succ_eq_append_getElem mem_append mem_singleton flatMap_cons append_assoc length_take cons_append length_cons nil_append take_zero isEmpty_cons length_nil length getD set length_replicate)
open Option (bind_some)
open Int (ofNat toNat_natCast negSucc natCast_nonneg toNat)
open Nat (lt_or_ge not_lt_zero le_refl sub_zero zero_add)
abbrev aR:=List Int×Int×Int×Unit
abbrev aq:=Int×Int×Int×Int×Int×Unit
abbrev am:=Int×ByteArray×(List aR×Unit)×Int×List aq×Unit
abbrev fk:=List Bool
theorem eN (r:aR):(r.1,r.2.1,r.2.2.1,())=r:=rfl
theorem eT (r:aq):(r.1,r.2.1,r.2.2.1,r.2.2.2.1,r.2.2.2.2.1,())=r:=rfl
theorem eR (r:am):(r.1,r.2.1,(r.2.2.1.1,()),r.2.2.2.1,r.2.2.2.2.1,())=r:=rfl
theorem Mk {i:Nat} (h1:0<i) (h:i<9223372036854775807):IntKind.i64.wrap ((i:Int)-ofNat 1)=((i-1:Nat):Int):=by
 unfold IntKind.wrap
 simp [IntKind.bits,IntKind.signed]
 omega
theorem la {α:Type} (a v:α):(replicate 1 a).set 0 v= [v]:=rfl
theorem fC {α:Type} (l:List α):take l.length (drop 0 l)=l:=by rw [drop_zero,take_length]
abbrev z0:Int:=aa (Sh.i IntKind.i64)
def oB (i n:Int) (l:List Int) (j:Nat):Prop:=0≤l.getD j z0∧l.getD j z0<n∧l.getD j z0≠i∧(0<j→l.getD (j-1) z0<l.getD j z0)
def FN (i n:Int) (nd:aR):Prop:=(1≤nd.2.1∧nd.2.1≤5)∧(0≤nd.2.2.1∧nd.2.2.1≤1048576)∧∀j,j<nd.1.length→oB i n nd.1 j
theorem cV {P:Nat→Prop} {j:Nat} (h:∀m,m<j→P m) (hj:P j):∀m,m<j+1→P m:=fun m hm=>by
 rcases lt_or_ge m j with h1|h1
 ·exact h m h1
 ·have:m=j:=by omega
  rw [this];exact hj
theorem f161 (i n:Int) (nd:aR) (hn:nd.1.length≤9223372036854775807):∃b,IP (i,n,nd,())=some (b,())∧(b=true↔FN i n nd):=by
 obtain⟨l,n1,n2,_⟩:=nd
 simp only at hn
 obtain⟨y,hy,hq⟩:=ba (st:=fF) l.length (fun j (p:Int)=>(i,n,p,l,(l.length:Int),(j:Int),())) (fun j p=>(j=0→p= -1)∧(0<j→p=l.getD (j-1) z0)∧-1≤p∧∀m,m<j→oB i n l m)
  (fun y=>(y= .inl (false,())∧∃m,m<l.length∧¬oB i n l m)∨(y= .inr ()∧∀m,m<l.length→oB i n l m)) (fun j p h hx=>by
   obtain⟨hx1,hx2,hx3,hx4⟩:=hx
   simp only [fF,kg,jh,bw h,aL h,aF h,cond_true,toNat_natCast]
   by_cases h1:l.getD j (aa (Sh.i IntKind.i64))≤p
   ·rw [decide_eq_true h1]
    refine .inr ⟨_,rfl,.inl ⟨rfl,j,h,fun hk=> ?_⟩⟩
    obtain⟨k1,k2,k3,k4⟩:=hk
    rcases Nat.eq_zero_or_pos j with h0|h0
    ·rw [hx1 h0]at h1;simp only [z0]at*;omega
    ·have:=k4 h0;rw [←hx2 h0]at this;simp only [z0]at*;omega
   ·rw [decide_eq_false h1]
    by_cases h2:l.getD j (aa (Sh.i IntKind.i64))≥n
    ·rw [decide_eq_true h2]
     exact .inr ⟨_,rfl,.inl ⟨rfl,j,h,fun hk=>by have:=hk.2.1;simp only [z0]at*;omega⟩⟩
    ·rw [decide_eq_false h2]
     rcases h3:(l.getD j (aa (Sh.i IntKind.i64))==i)with _|_
     ·have h3':l.getD j z0≠i:=fun e=>by simp only [z0]at e;rw [e]at h3;simp at h3
      refine .inl ⟨l.getD j (aa (Sh.i IntKind.i64)),by rw [aY (by omega)];rfl,fun h0=>by omega,fun _=>by simp,by simp only [z0]at*;omega,?_⟩
      refine cV hx4 ⟨?_,by simp only [z0]at*;omega,h3',fun h0=>by rw [←hx2 h0];simp only [z0]at*;omega⟩
      simp only [z0]at*;omega
     ·have h3':l.getD j z0=i:=by simpa using h3
      exact .inr ⟨_,rfl,.inl ⟨rfl,j,h,fun hk=>hk.2.2.1 h3'⟩⟩)
  (fun p hx=>⟨.inr (),by simp only [fF,kg,jh,bv,cond_false],.inr ⟨rfl,hx.2.2.2⟩⟩) (-1) ⟨fun _=>rfl,fun h=>absurd h (by omega),by omega,fun m h=>absurd h (not_lt_zero _)⟩
 have hy':nH (i,n,negSucc 0,l,(l.length:Int),ofNat 0,())=some y:=hy
 simp only [IP,hy',bind_some,FN]
 simp only [bm]
 by_cases c1:n1<((1:Nat):Int)
 ·rw [decide_eq_true c1];exact⟨_,rfl,(fun h=>nomatch h),fun h=>by omega⟩
 ·rw [decide_eq_false c1]
  by_cases c2:n1>((5:Nat):Int)
  ·rw [decide_eq_true c2];exact⟨_,rfl,(fun h=>nomatch h),fun h=>by omega⟩
  ·rw [decide_eq_false c2]
   by_cases c3:n2<((0:Nat):Int)
   ·rw [decide_eq_true c3];exact⟨_,rfl,(fun h=>nomatch h),fun h=>by omega⟩
   ·rw [decide_eq_false c3]
    by_cases c4:n2>((1048576:Nat):Int)
    ·rw [decide_eq_true c4];exact⟨_,rfl,(fun h=>nomatch h),fun h=>by omega⟩
    ·rw [decide_eq_false c4]
     rcases hq with⟨rfl,m,h1,h2⟩|⟨rfl,hq⟩
     ·exact⟨_,rfl,(fun h=>nomatch h),fun h=>absurd (h.2.2 m h1) h2⟩
     ·exact⟨_,rfl,fun _=>⟨by omega,by omega,hq⟩,fun _=>rfl⟩
def xa (ns:List aR) (i j:Nat):Prop:=i<ns.length∧(j:Int)∈(ns.getD i (aa ah)).1
def jG (ns:List aR):Prop:=∀i:Nat,i<ns.length→FN i ns.length (ns.getD i (aa ah))
def ub (ns:List aR):Prop:=(1≤ns.length∧ns.length≤12)∧jG ns∧Ol (xa ns) ns.length
theorem vE {i n:Int} {nd:aR} (h:FN i n nd):∀v∈nd.1,0≤v∧v<n:=fun v hv=>by
 obtain⟨j,hj,rfl⟩:=List.mem_iff_getElem.1 hv
 have:=h.2.2 j hj
 unfold oB at this
 rw [bD hj]at this
 exact⟨this.1,this.2.1⟩
theorem Zw {ns:List aR} (h:jG ns) {i j:Nat} (he:xa ns i j):j<ns.length:=by
 have:=vE (h i he.1) _ he.2
 omega
theorem vF {ns:List aR} (h:jG ns):∀(K:Nat) {i j:Nat},jF (xa ns) K i j→i<ns.length∧j<ns.length
 |0,_,_,he=>⟨he.1,Zw h he⟩
 |K+1,_,_,he=>by
  rcases he with he|⟨h1,h2⟩
  ·exact vF h K he
  ·exact⟨(vF h K h1).1,(vF h K h2).2⟩
def fh (a:fk) (P:Nat→Nat→Prop):Prop:=a.length=144∧∀x y,x<12→y<12→(a.getD (x*12+y) false=true↔P x y)
theorem ix (i j:Nat):0+i*12+j*1=i*12+j:=by omega
theorem qD {a:fk} (ha:a.length=144) {i j:Nat} (hi:i<12) (hj:j<12):(decide (i*12+j<a.length) && decide (144=a.length))=true:=by
 rw [ha];simp;omega
theorem Bp {i:Nat} (h:i<12):aj 0 (i:Int) ((↑12:Int)-1)=true:=by simp [aj];omega
theorem wx {a:fk} {P:Nat→Nat→Prop} (h:fh a P) {x y:Nat} (hx:x<12) (hy:y<12):a.getD (x*12+y) (aa Sh.b)=true↔P x y:=h.2 x y hx hy
theorem Hl {a:fk} {P Q:Nat→Nat→Prop} (h:fh a P) {i j:Nat} (hi:i<12) (hj:j<12) (b:Bool) (h1:b=true↔Q i j) (h2:∀x y,x<12→y<12→¬(x=i∧y=j)→(P x y↔Q x y)):fh (a.set (i*12+j) b) Q:=by
 refine⟨by rw [length_set];exact h.1,fun x y hx hy=> ?_⟩
 rw [getD_eq_getElem?_getD,List.getElem?_set]
 by_cases e:i*12+j=x*12+y
 ·have ex:x=i:=by omega
  have ey:y=j:=by omega
  subst ex ey
  rw [if_pos e,if_pos (by rw [h.1];omega)]
  exact h1
 ·rw [if_neg e,←getD_eq_getElem?_getD,h.2 x y hx hy]
  exact h2 x y hx hy fun⟨e1,e2⟩=>e (by rw [e1,e2])
theorem lb {a:fk} {P Q:Nat→Nat→Prop} (h:fh a P) (h2:∀x y,x<12→y<12→(P x y↔Q x y)):fh a Q:=⟨h.1,fun x y hx hy=>(h.2 x y hx hy).trans (h2 x y hx hy)⟩
theorem agF (n:Nat) (hn:n≤12) (a:fk) (P:Nat→Nat→Prop) (ha:fh a P):∃y,nK ((n:Int),ofNat 0,a,())=some y∧((y= .inl (ofNat 230,a,())∧∃i,i<n∧P i i)∨(y= .inr (a,())∧∀i,i<n→¬P i i)):=by
 obtain⟨y,hy,h⟩:=ba (st:=fH) n (fun i (_:Unit)=>((n:Int),(i:Int),a,())) (fun j _=>∀i,i<j→¬P i i) (fun y=>(y= .inl (ofNat 230,a,())∧∃i,i<n∧P i i)∨(y= .inr (a,())∧∀i,i<n→¬P i i)) (fun i _ h hx=>by
   have hi:i<12:=by omega
   simp only [fH,km,bw h,Bp hi,cond_true,toNat_natCast,ix,qD ha.1 hi hi]
   have hg:=wx ha hi hi
   rw [aY (by omega)]
   rcases hb:a.getD (i*12+i) (aa Sh.b)with _|_
   ·rw [hb]at hg
    exact .inl ⟨(),rfl,cV hx fun h=>nomatch hg.2 h⟩
   ·exact .inr ⟨_,rfl,.inl ⟨rfl,i,h,hg.1 hb⟩⟩) (fun _ hx=>⟨.inr (a,()),by simp only [fH,km,bv,cond_false],.inr ⟨rfl,hx⟩⟩) () (fun i h=>absurd h (not_lt_zero _))
 exact⟨y,hy,h⟩
theorem agG (n k i:Nat) (hn:n≤12) (hk:k<12) (hi:i<12) (x1 x2 x3 x4:Int) (a:fk) (P:Nat→Nat→Prop) (ha:fh a P):∃a':fk,nL ((n:Int),(k:Int),(i:Int),x1,x2,x3,x4,(n:Int),ofNat 0,a,())=some ((n:Int),(k:Int),x1,x2,x3,x4,a',())∧fh a' (fun x y=>P x y∨(x=i∧y<n∧P i k∧P k y)):=by
 obtain⟨y,hy,a',rfl,h⟩:=ba (st:=fI) n (fun j (a:fk)=>((n:Int),(k:Int),(i:Int),x1,x2,x3,x4,(n:Int),(j:Int),a,())) (fun j a=>fh a (fun x y=>P x y∨(x=i∧y<j∧P i k∧P k y)))
  (fun y=>∃a':fk,y=((n:Int),(k:Int),x1,x2,x3,x4,a',())∧fh a' (fun x y=>P x y∨(x=i∧y<n∧P i k∧P k y))) (fun j a h hx=>by
   have hj:j<12:=by omega
   have g1:=wx hx hi hj
   have g2:=wx hx hi hk
   have g3:=wx hx hk hj
   simp only [fI,kn,jj,bw h,Bp hi,Bp hj,Bp hk,cond_true,toNat_natCast,ix,qD hx.1 hi hj,qD hx.1 hi hk,qD hx.1 hk hj]
   rw [aY (by omega)]
   refine .inl ?_
   have new:∀b:Bool,(b=true↔P i j∨(P i k∧P k j))→fh (a.set (i*12+j) b) (fun x y=>P x y∨(x=i∧y<j+1∧P i k∧P k y)):=fun b hb=>by
    refine Hl hx hi hj b ?_ fun x y _ _ hne=> ?_
    ·rw [hb]
     exact⟨fun h=>h.imp id fun h=>⟨rfl,Nat.lt_succ_self _,h⟩,fun h=>h.imp id fun h=>h.2.2⟩
    ·refine⟨fun h=>h.imp id fun h=>⟨h.1,by omega,h.2.2⟩,fun h=>h.imp id fun h=>⟨h.1,?_,h.2.2⟩⟩
     have:=h.1
     have:=h.2.1
     omega
   have e1:(P i j∨(i=i∧j<j∧P i k∧P k j))↔P i j:=⟨fun h=>h.elim id fun h=>absurd h.2.1 (Nat.lt_irrefl _),.inl⟩
   have e2:(P i k∨(i=i∧k<j∧P i k∧P k k))↔P i k:=⟨fun h=>h.elim id fun h=>h.2.2.1,.inl⟩
   have e3:(P k j∨(k=i∧j<j∧P i k∧P k j))↔P k j:=⟨fun h=>h.elim id fun h=>absurd h.2.1 (Nat.lt_irrefl _),.inl⟩
   rw [e1]at g1
   rw [e2]at g2
   rw [e3]at g3
   rcases hb1:a.getD (i*12+j) (aa Sh.b)with _|_
   ·rcases hb2:a.getD (i*12+k) (aa Sh.b)with _|_
    ·refine⟨_,rfl,new false ⟨fun h=>(nomatch h),fun h=> ?_⟩⟩
     rcases h with h|h
     ·rw [g1.2 h]at hb1;cases hb1
     ·rw [g2.2 h.1]at hb2;cases hb2
    ·refine⟨_,rfl,new _ (g3.trans ⟨fun h=>.inr ⟨g2.1 hb2,h⟩,fun h=> ?_⟩)⟩
     rcases h with h|h
     ·rw [g1.2 h]at hb1;cases hb1
     ·exact h.2
   ·exact⟨_,rfl,new true ⟨fun _=>.inl (g1.1 hb1),fun _=>rfl⟩⟩) (fun a hx=>⟨((n:Int),(k:Int),x1,x2,x3,x4,a,()),by simp only [fI,kn,jj,bv,cond_false],a,rfl,hx⟩) a (lb ha fun x y _ _=>⟨.inl,fun h=>h.elim id fun h=>absurd h.2.1 (not_lt_zero _)⟩)
 exact⟨a',hy,h⟩
theorem agH (n k:Nat) (hn:n≤12) (hk:k<12) (x1 x2:Int) (a:fk) (P:Nat→Nat→Prop) (ha:fh a P):∃a':fk,nM ((n:Int),(k:Int),x1,x2,(n:Int),ofNat 0,a,())=some ((n:Int),x1,x2,a',())∧fh a' (fun x y=>P x y∨(x<n∧y<n∧P x k∧P k y)):=by
 obtain⟨y,hy,a',rfl,h⟩:=ba (st:=fJ) n (fun j (a:fk)=>((n:Int),(k:Int),x1,x2,(n:Int),(j:Int),a,())) (fun j a=>fh a (fun x y=>P x y∨(x<j∧y<n∧P x k∧P k y)))
  (fun y=>∃a':fk,y=((n:Int),x1,x2,a',())∧fh a' (fun x y=>P x y∨(x<n∧y<n∧P x k∧P k y))) (fun j a h hx=>by
   obtain⟨a',h1,h2⟩:=agG n k j hn hk (by omega) x1 x2 (n:Int) (j:Int) a _ hx
   simp only [fJ,ko,bw h,cond_true,h1,bind_some]
   rw [aY (by omega)]
   refine .inl ⟨a',rfl,lb h2 fun x y _ _=>⟨fun h=> ?_,fun h=> ?_⟩⟩
   ·rcases h with(h|h)|⟨rfl,hy,h3,h4⟩
    ·exact .inl h
    ·exact .inr ⟨by omega,h.2⟩
    ·refine .inr ⟨Nat.lt_succ_self _,hy,?_,?_⟩
     ·exact h3.elim id fun h=>h.2.2.1
     ·exact h4.elim id fun h=>h.2.2.2
   ·rcases h with h|⟨hx1,hy,h3,h4⟩
    ·exact .inl (.inl h)
    ·rcases lt_or_ge x j with h5|h5
     ·exact .inl (.inr ⟨h5,hy,h3,h4⟩)
     ·have e:x=j:=by omega
      subst e
      exact .inr ⟨rfl,hy,.inl h3,.inl h4⟩) (fun a hx=>⟨((n:Int),x1,x2,a,()),by simp only [fJ,ko,bv,cond_false],a,rfl,hx⟩) a (lb ha fun x y _ _=>⟨.inl,fun h=>h.elim id fun h=>absurd h.1 (not_lt_zero _)⟩)
 exact⟨a',hy,h⟩
theorem agI (ns:List aR) (hn:ns.length≤12) (hs:jG ns) (a:fk) (ha:fh a (xa ns)):∃a':fk,nN ((ns.length:Int),(ns.length:Int),ofNat 0,a,())=some ((ns.length:Int),a',())∧fh a' (jF (xa ns) ns.length):=by
 obtain⟨y,hy,a',rfl,h⟩:=ba (st:=fK) ns.length (fun j (a:fk)=>((ns.length:Int),(ns.length:Int),(j:Int),a,())) (fun j a=>fh a (jF (xa ns) j))
  (fun y=>∃a':fk,y=((ns.length:Int),a',())∧fh a' (jF (xa ns) ns.length)) (fun j a h hx=>by
   obtain⟨a',h1,h2⟩:=agH ns.length j hn (by omega) (ns.length:Int) (j:Int) a _ hx
   simp only [fK,kp,bw h,cond_true,h1,bind_some]
   rw [aY (by omega)]
   exact .inl ⟨a',rfl,lb h2 fun x y _ _=>⟨fun h=>h.imp id fun h=>h.2.2,fun h=>h.imp id fun h=>⟨(vF hs j h.1).1,(vF hs j h.2).2,h⟩⟩⟩) (fun a hx=>⟨((ns.length:Int),a,()),by simp only [fK,kp,bv,cond_false],a,rfl,hx⟩) a ha
 exact⟨a',hy,h⟩
theorem agJ (n i:Nat) (hi:i<12) (ns:List aR) (x1 x2:Int) (l:List Int) (hl:l.length≤9223372036854775807) (hr:∀v∈l,0≤v∧v<12) (a:fk) (P:Nat→Nat→Prop) (ha:fh a P):∃a':fk,nO ((n:Int),(i:Int),ns,x1,x2,l,(l.length:Int),ofNat 0,a,())=some ((n:Int),ns,x1,x2,a',())∧fh a' (fun x y=>P x y∨(x=i∧(y:Int)∈l)):=by
 obtain⟨y,hy,a',rfl,h⟩:=ba (st:=fL) l.length (fun j (a:fk)=>((n:Int),(i:Int),ns,x1,x2,l,(l.length:Int),(j:Int),a,())) (fun j a=>fh a (fun x y=>P x y∨(x=i∧(y:Int)∈l.take j)))
  (fun y=>∃a':fk,y=((n:Int),ns,x1,x2,a',())∧fh a' (fun x y=>P x y∨(x=i∧(y:Int)∈l))) (fun j a h hx=>by
   have hv:=hr _ (aG h (aa (Sh.i IntKind.i64)))
   obtain⟨v,hv2⟩:∃v:Nat,l.getD j (aa (Sh.i IntKind.i64))=(v:Int):=⟨(l.getD j (aa (Sh.i IntKind.i64))).toNat,by omega⟩
   have hv3:v<12:=by omega
   simp only [fL,kq,jk,bw h,aL h,aF h,Bp hi,cond_true,toNat_natCast,hv2,Bp hv3,ix,qD hx.1 hi hv3]
   rw [aY (by omega)]
   have ht:∀y:Nat,(y:Int)∈l.take (j+1)↔(y:Int)∈l.take j∨y=v:=fun y=>by
    rw [take_succ_eq_append_getElem h,mem_append,mem_singleton,←bD h (aa (Sh.i IntKind.i64)),hv2]
    constructor
    ·rintro(h|h)
     ·exact .inl h
     ·exact .inr (by omega)
    ·rintro(h|h)
     ·exact .inl h
     ·exact .inr (by omega)
   refine .inl ⟨_,rfl,Hl hx hi hv3 true ⟨fun _=>.inr ⟨rfl,(ht v).2 (.inr rfl)⟩,fun _=>rfl⟩ fun x y _ _ hne=> ?_⟩
   rw [ht y]
   constructor
   ·rintro(h|h)
    ·exact .inl h
    ·exact .inr ⟨h.1,.inl h.2⟩
   ·rintro(h|⟨h,h3|h3⟩)
    ·exact .inl h
    ·exact .inr ⟨h,h3⟩
    ·exact absurd ⟨h,h3⟩ hne) (fun a hx=>⟨((n:Int),ns,x1,x2,a,()),by simp only [fL,kq,jk,bv,cond_false],a,rfl,by rw [take_length]at hx;exact hx⟩) a (lb ha fun x y _ _=>⟨.inl,fun h=>h.elim id fun h=>by simp at h⟩)
 exact⟨a',hy,h⟩
theorem agK (ns:List aR) (hn:ns.length≤12) (hs:jG ns) (hl:∀nd∈ns,nd.1.length≤9223372036854775807) (a:fk) (ha:fh a (fun _ _=>False)):∃a':fk,nP ((ns.length:Int),ns,(ns.length:Int),ofNat 0,a,())=some ((ns.length:Int),a',())∧fh a' (xa ns):=by
 obtain⟨y,hy,a',rfl,h⟩:=ba (st:=fM) ns.length (fun j (a:fk)=>((ns.length:Int),ns,(ns.length:Int),(j:Int),a,())) (fun j a=>fh a (fun x y=>x<j∧(y:Int)∈(ns.getD x (aa ah)).1))
  (fun y=>∃a':fk,y=((ns.length:Int),a',())∧fh a' (xa ns)) (fun j a h hx=>by
   obtain⟨a',h1,h2⟩:=agJ ns.length j (by omega) ns (ns.length:Int) (j:Int) (ns.getD j (aa ah)).1 (hl _ (aG h (aa ah))) (fun v hv=>by have:=vE (hs j h) v hv;omega) a _ hx
   simp only [fM,ku,bw h,aL h,aF h,cond_true,toNat_natCast,h1,bind_some]
   rw [aY (by omega)]
   refine .inl ⟨a',rfl,lb h2 fun x y _ _=>⟨fun h=> ?_,fun h=> ?_⟩⟩
   ·rcases h with h|⟨rfl,h⟩
    ·exact⟨by omega,h.2⟩
    ·exact⟨Nat.lt_succ_self _,h⟩
   ·rcases lt_or_ge x j with h5|h5
    ·exact .inl ⟨h5,h.2⟩
    ·have e:x=j:=by omega
     subst e
     exact .inr ⟨rfl,h.2⟩) (fun a hx=>⟨((ns.length:Int),a,()),by simp only [fM,ku,bv,cond_false],a,rfl,hx⟩) a (lb ha fun x y _ _=>⟨False.elim,fun h=>absurd h.1 (not_lt_zero _)⟩)
 exact⟨a',hy,h⟩
theorem agL (ns:List aR) (hn:ns.length≤12) (hr:∀nd∈ns,nd.1.length≤9223372036854775807):∃y,nQ ((ns.length:Int),ns,(ns.length:Int),ofNat 0,ns,())=some y∧((∃r,y= .inl (ofNat 230,r)∧¬jG ns)∨(y= .inr ((ns.length:Int),ns,())∧jG ns)):=by
 obtain⟨y,hy,h⟩:=ba (st:=fN) ns.length (fun j (_:Unit)=>((ns.length:Int),ns,(ns.length:Int),(j:Int),ns,())) (fun j _=>∀i:Nat,i<j→FN i ns.length (ns.getD i (aa ah)))
  (fun y=>(∃r,y= .inl (ofNat 230,r)∧¬jG ns)∨(y= .inr ((ns.length:Int),ns,())∧jG ns)) (fun j a h hx=>by
   obtain⟨b,h1,h2⟩:=f161 (j:Int) (ns.length:Int) _ (hr _ (aG h (aa ah)))
   simp only [fN,kv,bw h,aL h,aF h,cond_true,toNat_natCast,eN,h1,bind_some]
   rw [aY (by omega)]
   cases b
   ·exact .inr ⟨_,rfl,.inl ⟨_,rfl,fun hs=>nomatch h2.2 (hs j h)⟩⟩
   ·exact .inl ⟨(),rfl,cV hx (h2.1 rfl)⟩) (fun a hx=>⟨.inr ((ns.length:Int),ns,()),by simp only [fN,kv,bv,cond_false],.inr ⟨rfl,hx⟩⟩) () (fun i h=>absurd h (not_lt_zero _))
 exact⟨y,hy,h⟩
theorem f114 (ns:List aR) (hr:∀nd∈ns,nd.1.length≤9223372036854775807):∃v,jl ((ns,()),())=some (v,())∧((v=0∧ub ns)∨(v=230∧¬ub ns)):=by
 simp only [jl]
 by_cases h1:((ns.length:Nat):Int)<ofNat 1
 ·rw [decide_eq_true h1];exact⟨_,rfl,.inr ⟨rfl,fun h=>by have:=h.1.1;simp only [bm]at h1;omega⟩⟩
 ·rw [decide_eq_false h1]
  by_cases h2:((ns.length:Nat):Int)>ofNat 12
  ·rw [decide_eq_true h2];exact⟨_,rfl,.inr ⟨rfl,fun h=>by have:=h.1.2;simp only [bm]at h2;omega⟩⟩
  ·rw [decide_eq_false h2]
   have fZ:ns.length≤12:=by simp only [bm]at h2;omega
   have h01:1≤ns.length:=by simp only [bm]at h1;omega
   obtain⟨y,hy,hq⟩:=agL ns fZ hr
   simp only [cond_false,hy,bind_some]
   rcases hq with⟨r,rfl,hs⟩|⟨rfl,hs⟩
   ·exact⟨_,rfl,.inr ⟨rfl,fun h=>hs h.2.1⟩⟩
   ·simp only
    obtain⟨a1,e1,g1⟩:=agK ns fZ hs hr (replicate 144 false) ⟨by simp,fun x y hx hy=>⟨fun h=>(by rw [getD_eq_getElem?_getD,List.getElem?_replicate]at h;split at h<;>cases h),False.elim⟩⟩
    have e1':=e1
    simp only [replicate]at e1'
    rw [e1']
    simp only [bind_some]
    obtain⟨a2,e2,g2⟩:=agI ns fZ hs a1 g1
    rw [e2]
    simp only [bind_some]
    obtain⟨y3,e3,g3⟩:=agF ns.length fZ a2 _ g2
    rw [e3]
    simp only [bind_some]
    rcases g3 with⟨rfl,i,hi,hp⟩|⟨rfl,hp⟩
    ·exact⟨_,rfl,.inr ⟨rfl,fun h=>h.2.2 i hi hp⟩⟩
    ·exact⟨_,rfl,.inl ⟨rfl,⟨h01,fZ⟩,hs,hp⟩⟩
theorem rO (c a b:Bool):(bif c then some (a,())else some (b,()))=some ((bif c then a else b),()):=by cases c<;>rfl
theorem rP (c a b:Bool):(bif c then a else b)=true↔(c=true∧a=true)∨(c=false∧b=true):=by cases c<;>simp
theorem o0:ofNat 0=0:=rfl
theorem o1:ofNat 1=1:=rfl
theorem o2:ofNat 2=2:=rfl
theorem o3:ofNat 3=3:=rfl
theorem o4:ofNat 4=4:=rfl
theorem o5:ofNat 5=5:=rfl
theorem o6:ofNat 6=6:=rfl
theorem oM:ofNat 1099511627776=1099511627776:=rfl
def bX (n:Int):Prop:=0≤n∧n≤1099511627776
instance (n:Int):Decidable (bX n):=inferInstanceAs (Decidable (0≤n∧n≤1099511627776))
def Om (nt s tr un tk rk:Int):Prop:=(0≤tr∧tr≤nt)∧bX un∧bX tk∧bX rk∧(rk≠0→s=1)∧(un≠0→s=2∨s=3)∧(tk≠0↔s=2)∧((s=0∧tr=0)∨(s=1∧tr<nt)∨(s=2∧1≤tr)∨(s=3∧1≤tr∧tr<nt)∨(s=4∧1≤tr)∨(s=5∧tr=nt)∨s=6)
theorem f208 (n:Int):rL (n,())=some (decide (bX n),()):=by
 simp only [rL,rO,o0,oM]
 congr 2
 rw [Bool.eq_iff_iff,rP]
 simp only [decide_eq_true_eq,decide_eq_false_iff_not,Bool.false_eq_true,and_false,or_false]
 exact Iff.rfl
theorem f207 (n:Int):uO (n,())=some (decide (bX n),()):=f208 n
theorem f180 (l:List Int) (nt w s tr un tk rk:Int) (hs:0≤s):∃b,Fg ((l,nt,w,()),(s,tr,un,tk,rk,()),())=some (b,())∧(b=true↔Om nt s tr un tk rk):=by
 simp only [Fg,PM,f208,f207,bind_some,o0,o1,o2,o3,o4,o5,o6,rO]
 refine⟨_,rfl,?_⟩
 have h:s=0∨s=1∨s=2∨s=3∨s=4∨s=5∨s=6∨6<s:=by omega
 rcases h with rfl|rfl|rfl|rfl|rfl|rfl|rfl|h
 all_goals simp only [rP,decide_eq_true_eq,decide_eq_false_iff_not,Bool.not_eq_true',Bool.not_eq_false',beq_iff_eq,beq_eq_false_iff_ne,Bool.false_eq_true,and_false,or_false,false_or,ne_eq,Om,not_true_eq_false,false_and,true_and,Int.reduceEq,not_false_eq_true,imp_false,Decidable.not_not,iff_false,iff_true,or_true,true_or,and_true,or_self,forall_const,imp_self,implies_true]
 all_goals by_cases hu:un=0<;>by_cases ht:tk=0<;>by_cases hr:rk=0
 all_goals simp only [hu,ht,hr,and_false,or_false,false_or,not_true_eq_false,false_and,true_and,not_false_eq_true,imp_false,or_true,true_or,and_true,or_self]
 all_goals simp only [bX]
 all_goals first|omega|(refine⟨fun h=> ?_,fun h=> ?_⟩<;>first|omega|exact h.elim)
theorem FO (v:Int):∀(l:List Int) (i:Nat),(∃j:Nat,i≤j∧lu (A:=Unit) (fun i t _=>bif v==t then .inr (.inl ((i:Int),()))else .inl ()) (fun _=>.inr ()) i l ()=(.inl ((j:Int),()):(Int×Unit)⊕Unit)∧v∈l)∨
  (lu (A:=Unit) (fun i t _=>bif v==t then .inr (.inl ((i:Int),()))else .inl ()) (fun _=>.inr ()) i l ()=(.inr ():(Int×Unit)⊕Unit)∧v∉l)
 | [],i=>.inr ⟨rfl,by simp⟩
 |t::l,i=>by
  simp only [lu]
  cases hv:v==t
  ·simp only [cond_false]
   have hne:v≠t:=by simpa using hv
   rcases FO v l (i+1)with⟨j,h1,h2,h3⟩|⟨h1,h2⟩
   ·exact .inl ⟨j,by omega,h2,List.mem_cons_of_mem _ h3⟩
   ·exact .inr ⟨h1,by simp [hne,h2]⟩
  ·simp only [cond_true]
   have:v=t:=by simpa using hv
   exact .inl ⟨i,le_refl _,rfl,by simp [this]⟩
theorem f240 (l:List Int) (v:Int) (hl:l.length≤9223372036854775807):IX (l,v,())=some (decide (v∈l),()):=by
 have hloop:=wN (st:=fG) l (aa (Sh.i IntKind.u8)) (fun i (_:Unit)=>(l,v,(l.length:Int),(i:Int),())) (fun _=>.inr ()) (fun i t _=>bif v==t then .inr (.inl ((i:Int),()))else .inl ())
  (fun i a hi=>by
   simp only [fG,kh,bw hi,aL hi,Ln hi,cond_true]
   exact EP _ _ _ _ (fun _=>rfl) (fun _=>by rw [aY (by omega)]))
  (fun a=>by simp only [fG,kh,bv,cond_false]) ()
 have hl0:nI (l,v,(l.length:Int),ofNat 0,())=some (lu (A:=Unit) (fun i t _=>bif v==t then .inr (.inl ((i:Int),()))else .inl ()) (fun _=>.inr ()) 0 l ()):=hloop
 simp only [IX,NP,hl0,bind_some]
 rcases FO v l 0 with⟨j,_,h2,h3⟩|⟨h1,h2⟩
 ·rw [h2]
  simp only [bind_some,h3,decide_true]
  rw [decide_eq_true (show(j:Int)≥ofNat 0 from natCast_nonneg j)]
 ·rw [h1]
  simp only [bind_some,h2,decide_false]
  rfl
theorem f222 (t:aq) (l:List Int) (hl:l.length≤9223372036854775807):Fi (t,l,())=some (decide (t.1∈l),()):=by
 simp only [Fi,f240 l t.1 hl,bind_some]
def lx {Y Z:Type}:(Int×Y)⊕Z→Bool
 | .inl y=>decide (y.1≥ofNat 0)
 | .inr _=>false
theorem Ml:decide (negSucc 0≥ofNat 0)=false:=by decide
theorem vG (i:Nat):decide ((i:Int)≥ofNat 0)=true:=decide_eq_true (natCast_nonneg i)
theorem f182 (r:am) (l:List Int) (hl:l.length≤9223372036854775807) (hr:r.2.2.2.2.1.length≤9223372036854775807):jr (r,l,())=some (decide (∀t∈r.2.2.2.2.1,t.1∈l),()):=by
 obtain⟨id,key,⟨ns,_⟩,state,ts,_⟩:=r
 simp only at hr
 obtain⟨y,hy,hq⟩:=ba (st:=fQ) ts.length (fun i (_:Unit)=>(ts,(ts.length:Int),(i:Int),l,())) (fun i _=>∀t∈ts.take i,t.1∈l)
  (fun y=>lx y= !decide (∀t∈ts,t.1∈l)) (fun i _ h hx=>by
   simp only [fQ,kJ,bw h,aL h,aF h,toNat_natCast,cond_true,eT,f222 _ l hl,bind_some,Bool.not_true,Bool.not_false]
   by_cases hm:(ts.getD i (aa ab)).1∈l
   ·rw [decide_eq_true hm]
    refine .inl ⟨(),by rw [aY (by omega)];rfl,fun t ht=> ?_⟩
    rcases ir h (aa ab) ht with h1|h1
    ·exact hx t h1
    ·rw [h1];exact hm
   ·rw [decide_eq_false hm]
    refine .inr ⟨_,rfl,?_⟩
    simp only [lx]
    rw [vG,decide_eq_false (fun hall=>hm (hall _ (aG h _)))]
    rfl) (fun _ hx=>⟨.inr (l,()),by simp only [fQ,kJ,bv,cond_false],by
    rw [take_length]at hx
    simp only [lx]
    rw [decide_eq_true hx]
    rfl⟩) () (by simp)
 have hy':nW (ts,(ts.length:Int),ofNat 0,l,())=some y:=hy
 simp only [jr,hy',bind_some]
 cases y with
 |inl a=>
  simp only [lx]at hq
  simp only [hq,Bool.not_not]
 |inr b=>
  simp only [lx]at hq
  have:decide (∀t∈ts,t.1∈l)=true:=by simpa using hq
  rw [this]
  rfl
theorem f183 (r:am) (l:List Int) (hl:l.length≤9223372036854775807) (hr:r.2.2.2.2.1.length≤9223372036854775807):AJ (r,l,())=some (decide (∃t∈r.2.2.2.2.1,t.1∈l),()):=by
 obtain⟨id,key,⟨ns,_⟩,state,ts,_⟩:=r
 simp only at hr
 obtain⟨y,hy,hq⟩:=ba (st:=fP) ts.length (fun i (_:Unit)=>(ts,(ts.length:Int),(i:Int),l,())) (fun i _=>∀t∈ts.take i,t.1∉l)
  (fun y=>lx y=decide (∃t∈ts,t.1∈l)) (fun i _ h hx=>by
   simp only [fP,kH,bw h,aL h,aF h,toNat_natCast,cond_true,eT,f222 _ l hl,bind_some,Bool.not_true,Bool.not_false]
   by_cases hm:(ts.getD i (aa ab)).1∈l
   ·rw [decide_eq_true hm]
    refine .inr ⟨_,rfl,?_⟩
    simp only [lx]
    rw [vG,decide_eq_true ⟨_,aG h _,hm⟩]
   ·rw [decide_eq_false hm]
    refine .inl ⟨(),by rw [aY (by omega)];rfl,fun t ht=> ?_⟩
    rcases ir h (aa ab) ht with h1|h1
    ·exact hx t h1
    ·rw [h1];exact hm) (fun _ hx=>⟨.inr (l,()),by simp only [fP,kH,bv,cond_false],by
    rw [take_length]at hx
    simp only [lx]
    rw [decide_eq_false (fun⟨t,h1,h2⟩=>hx t h1 h2)]⟩) () (by simp)
 have hy':nV (ts,(ts.length:Int),ofNat 0,l,())=some y:=hy
 simp only [AJ,hy',bind_some]
 cases y with
 |inl a=>
  simp only [lx]at hq
  simp only [hq]
 |inr b=>
  simp only [lx]at hq
  rw [Ml,hq]
def gL (ts:List aq) (nd:aR):Prop:=∀v∈nd.1,(ts.getD v.toNat (aa ab)).1=4
def Hm (ns:List aR) (ts:List aq) (state:Int):Prop:=
 (state=1∧(∀i:Nat,i<ns.length→(gL ts (ns.getD i (aa ah))↔(ts.getD i (aa ab)).1≠0))∧¬(∀t∈ts,t.1=4)∧¬∃t∈ts,t.1=5∨t.1=6)∨
 (state=2∧∀t∈ts,t.1=4)∨(state=3∧(∃t∈ts,t.1=5)∧∀t∈ts,t.1=4∨t.1=5∨t.1=6)∨(state=4∧(∃t∈ts,t.1=6)∧∀t∈ts,t.1=4∨t.1=6)
def InR (n:Nat) (l:List Int):Prop:=∀v∈l,0≤v∧v<n
theorem On {ts:List aq} {l:List Int} {i:Nat} (h:i<l.length) (hx:∀v∈take i l,(ts.getD v.toNat (aa ab)).1=4) (hv:(ts.getD (l.getD i (aa (Sh.i IntKind.i64))).toNat (aa ab)).1=4):∀v∈l.take (i+1),(ts.getD v.toNat (aa ab)).1=4:=fun v h2=>by
 rcases ir h (aa (Sh.i IntKind.i64)) h2 with h3|h3
 ·exact hx v h3
 ·rw [h3];exact hv
theorem f181 (r:am) (nd:aR) (hn:nd.1.length≤9223372036854775807) (hr:InR r.2.2.2.2.1.length nd.1):∃b,AH (r,nd,())=some (b,())∧(b=true↔gL r.2.2.2.2.1 nd):=by
 obtain⟨id,key,⟨ns,_⟩,state,ts,_⟩:=r
 obtain⟨l,n1,n2,_⟩:=nd
 simp only at hr hn
 obtain⟨y,hy,hq⟩:=ba (st:=fO) l.length (fun i (_:Unit)=>(l,(l.length:Int),(i:Int),id,key,ns,state,ts,())) (fun i _=>∀v∈l.take i,(ts.getD v.toNat (aa ab)).1=4)
  (fun y=>(∃i:Nat,∃r,y= .inl ((i:Int),r)∧¬∀v∈l,(ts.getD v.toNat (aa ab)).1=4)∨(∃r,y= .inr r∧∀v∈l,(ts.getD v.toNat (aa ab)).1=4)) (fun i _ h hx=>by
   have hv:=hr _ (aG h (aa (.i .i64)))
   have hw:aj 0 (l.getD i (aa (.i .i64))) ((ts.length:Int)-1)=true:=by simp only [aj,Bool.and_eq_true,decide_eq_true_eq];omega
   have hd:decide ((l.getD i (aa (.i .i64))).toNat<ts.length)=true:=decide_eq_true (by omega)
   simp only [fO,kC,bw h,aL h,aF h,cond_true,toNat_natCast,hw,hd]
   rcases hb:((ts.getD (l.getD i (aa (.i .i64))).toNat (aa ab)).1 !=ofNat 4)with _|_
   ·exact .inl ⟨(),by rw [aY (by omega)];rfl,On h hx (by simpa using hb)⟩
   ·exact .inr ⟨_,rfl,.inl ⟨i,_,rfl,fun h2=>by have h3:=h2 _ (aG h (aa (.i .i64)));rw [h3]at hb;cases hb⟩⟩) (fun _ hx=>⟨.inr (id,key,ns,state,ts,()),by simp only [fO,kC,bv,cond_false],.inr ⟨_,rfl,by rw [take_length]at hx;exact hx⟩⟩) () (by simp)
 have hy':nT (l,(l.length:Int),ofNat 0,id,key,ns,state,ts,())=some y:=hy
 simp only [AH,hy',bind_some,gL]
 rcases hq with⟨i,r,rfl,h⟩|⟨r,rfl,h⟩
 ·simp only [vG]
  exact⟨_,rfl,(fun h=>nomatch h),fun h2=>absurd h2 h⟩
 ·simp only [Ml]
  exact⟨_,rfl,fun _=>h,fun _=>rfl⟩
structure Fit (r:am):Prop where
 len:r.2.2.1.1.length=r.2.2.2.2.1.length
 n12:r.2.2.2.2.1.length≤12
 sh:jG r.2.2.1.1
 ln:∀nd∈r.2.2.1.1,nd.1.length≤9223372036854775807
theorem Fit.inr {r:am} (h:Fit r) {i:Nat} (hi:i<r.2.2.1.1.length):InR r.2.2.2.2.1.length (r.2.2.1.1.getD i (aa ah)).1:=fun v hv=>by
 have:=vE (h.sh i hi) v hv
 rw [h.len]at this
 exact this
theorem agM (a:Int):take ((replicate 1 (ofNat 0)).set 0 a).length (drop 0 ((replicate 1 (ofNat 0)).set 0 a))= [a]:=rfl
theorem agN (a b:Int):take (((replicate 2 (ofNat 0)).set 0 a).set 1 b).length (drop 0 (((replicate 2 (ofNat 0)).set 0 a).set 1 b))= [a,b]:=rfl
theorem agO (a b c:Int):take ((((replicate 3 (ofNat 0)).set 0 a).set 1 b).set 2 c).length (drop 0 ((((replicate 3 (ofNat 0)).set 0 a).set 1 b).set 2 c))= [a,b,c]:=rfl
theorem f131 (r:am) (hf:Fit r):∃b,Jb (r,())=some (b,())∧(b=true↔Hm r.2.2.1.1 r.2.2.2.2.1 r.2.2.2.1):=by
 have i1:=hf.ln
 have i2:=hf.len
 have i3:=hf.n12
 have k2:=fun i (hi:i<r.2.2.1.1.length)=>f181 r (r.2.2.1.1.getD i (aa ah)) (i1 _ (aG hi (aa ah))) (hf.inr hi)
 obtain⟨id,key,⟨ns,_⟩,state,ts,_⟩:=r
 simp only at i1 i2 i3 k2
 have g4:=fun(l:List Int) (hl:l.length≤9223372036854775807)=>f182 (id,key,(ns,()),state,ts,()) l hl (by simp only;omega)
 have g5:=fun(l:List Int) (hl:l.length≤9223372036854775807)=>f183 (id,key,(ns,()),state,ts,()) l hl (by simp only;omega)
 simp only [Jb,agM,agN,agO]
 by_cases s1:state=1
 ·subst s1
  obtain⟨y,hy,hq⟩:=ba (st:=fR) ns.length (fun i (_:Unit)=>(ns,(ns.length:Int),(i:Int),id,key,ns,1,ts,())) (fun j _=>∀i:Nat,i<j→(gL ts (ns.getD i (aa ah))↔(ts.getD i (aa ab)).1≠0))
   (fun y=>((∃r,y= .inl (false,r))∧¬∀i:Nat,i<ns.length→(gL ts (ns.getD i (aa ah))↔(ts.getD i (aa ab)).1≠0))∨(y= .inr (id,key,ns,1,ts,())∧∀i:Nat,i<ns.length→(gL ts (ns.getD i (aa ah))↔(ts.getD i (aa ab)).1≠0))) (fun j _ h hx=>by
    obtain⟨b,h1,h2⟩:=k2 j h
    simp only [fR,kK,js,bw h,aL h,aF h,cond_true,toNat_natCast,eN,h1,bind_some,aL (i2▸h:j<ts.length),aF (i2▸h:j<ts.length)]
    rw [aY (by omega)]
    have hb:((ts.getD j (aa ab)).1==ofNat 0)=true↔(ts.getD j (aa ab)).1=0:=by simp
    generalize ((ts.getD j (aa ab)).1==ofNat 0)=c at hb⊢
    cases b<;>cases c
    ·exact .inr ⟨_,rfl,.inl ⟨⟨_,rfl⟩,fun hall=>nomatch h2.2 ((hall j h).2 fun e=>nomatch hb.2 e)⟩⟩
    ·exact .inl ⟨(),rfl,cV hx ⟨fun h=>(nomatch h2.2 h),fun h=>absurd (hb.1 rfl) h⟩⟩
    ·exact .inl ⟨(),rfl,cV hx ⟨fun _ e=>(nomatch hb.2 e),fun _=>h2.1 rfl⟩⟩
    ·exact .inr ⟨_,rfl,.inl ⟨⟨_,rfl⟩,fun hall=>(hall j h).1 (h2.1 rfl) (hb.1 rfl)⟩⟩) (fun _ hx=>⟨.inr (id,key,ns,1,ts,()),by simp only [fR,kK,js,bv,cond_false],.inr ⟨rfl,hx⟩⟩) () (fun i h=>absurd h (not_lt_zero _))
  have hy':nX (ns,(ns.length:Int),ofNat 0,id,key,ns,1,ts,())=some y:=hy
  have hst:Hm ns ts 1↔(∀i:Nat,i<ns.length→(gL ts (ns.getD i (aa ah))↔(ts.getD i (aa ab)).1≠0))∧¬(∀t∈ts,t.1=4)∧¬∃t∈ts,t.1=5∨t.1=6:=by
   simp only [Hm]
   refine⟨fun h=> ?_,fun h=>.inl ⟨trivial,h⟩⟩
   rcases h with h|h|h|h
   ·exact h.2
   ·exact absurd h.1 (by decide)
   ·exact absurd h.1 (by decide)
   ·exact absurd h.1 (by decide)
  rw [hst]
  simp only [o1,o4,o5,o6,show((1:Int)==1)=true from rfl,cond_true,hy',bind_some]
  rcases hq with⟨⟨r,rfl⟩,hq⟩|⟨rfl,hq⟩
  ·exact⟨_,rfl,(fun h=>nomatch h),fun h=>absurd h.1 hq⟩
  ·simp only [g4 [4] (by decide),g5 [5,6] (by decide),bind_some,rO]
   refine⟨_,rfl,?_⟩
   simp only [rP,Bool.not_eq_true',decide_eq_false_iff_not,Bool.false_eq_true,and_false,or_false,List.mem_cons,List.not_mem_nil]
   exact⟨fun h=>⟨hq,h⟩,fun h=>h.2⟩
 ·have n1:(state==ofNat 1)=false:=by simpa using s1
  rw [n1]
  simp only [cond_false,o4,o5,o6,g4 [4] (by decide),g4 [4,6] (by decide),g4 [4,5,6] (by decide),g5 [5] (by decide),g5 [6] (by decide),bind_some,rO]
  simp only [o2,o3]
  refine⟨_,rfl,?_⟩
  simp only [rP,decide_eq_true_eq,beq_iff_eq,Bool.false_eq_true,and_false,or_false,beq_eq_false_iff_ne,Hm,s1,false_and,false_or,List.mem_cons,List.not_mem_nil]
  by_cases s2:state=2
  ·subst s2;simp
  ·by_cases s3:state=3
   ·subst s3;simp
   ·by_cases s4:state=4
    ·subst s4;simp
    ·simp [s2,s3,s4]
def cH (nd:aR) (t:aq):Prop:=Om nd.2.1 t.1 t.2.1 t.2.2.1 t.2.2.2.1 t.2.2.2.2.1
def ep (nd:aR):Prop:=(1≤nd.2.1∧nd.2.1≤5)∧(0≤nd.2.2.1∧nd.2.2.1≤1048576)
theorem f179 (nd:aR) (h:ep nd):IQ (nd,())=some (true,()):=by
 obtain⟨⟨h1,h2⟩,h3,h4⟩:=h
 simp only [IQ]
 rw [decide_eq_true (show nd.2.1≥ofNat 1 from h1),decide_eq_true (show nd.2.1≤ofNat 5 from h2),decide_eq_true (show nd.2.2.1≥ofNat 0 from h3),decide_eq_true (show nd.2.2.1≤ofNat 1048576 from h4)]
 rfl
theorem f130 (nd:aR) (t:aq) (h:ep nd) (hs:0≤t.1):∃v,AG (nd,t,())=some (v,())∧((v=0∧cH nd t)∨(v=8∧¬cH nd t)):=by
 obtain⟨b,h1,h2⟩:=f180 nd.1 nd.2.1 nd.2.2.1 t.1 t.2.1 t.2.2.1 t.2.2.2.1 t.2.2.2.2.1 hs
 have h1':Fg (nd,t,())=some (b,()):=h1
 simp only [AG,eN,eT,f179 nd h,h1',bind_some]
 cases b
 ·exact⟨_,rfl,.inr ⟨rfl,fun h=>nomatch h2.2 h⟩⟩
 ·exact⟨_,rfl,.inl ⟨rfl,h2.1 rfl⟩⟩
theorem ly {ns:List aR} (h:jG ns) {i:Nat} (hi:i<ns.length):ep (ns.getD i (aa ah)):=⟨(h i hi).1,(h i hi).2.1⟩
structure bK (r:am):Prop where
 ln:∀nd∈r.2.2.1.1,nd.1.length≤9223372036854775807
 tl:r.2.2.2.2.1.length≤9223372036854775807
 ts:∀t∈r.2.2.2.2.1,0≤t.1
structure ROk (r:am):Prop where
 id:bX r.1
 key:1≤r.2.1.size∧r.2.1.size≤24
 dag:ub r.2.2.1.1
 len:r.2.2.2.2.1.length=r.2.2.1.1.length
 tks:∀i:Nat,i<r.2.2.2.2.1.length→cH (r.2.2.1.1.getD i (aa ah)) (r.2.2.2.2.1.getD i (aa ab))
 st:Hm r.2.2.1.1 r.2.2.2.2.1 r.2.2.2.1
theorem cM {ρ:Type} (a:Option ρ) (b:Nat→Option ρ):df 0 a b=a:=rfl
theorem eJ {ρ:Type} (n:Nat) (a:Option ρ) (b:Nat→Option ρ):df (ofNat (n+1)) a b=b n:=rfl
theorem f89 (r:am) (hr:bK r):∃v,sW (r,())=some (v,())∧((v=0∧ROk r)∨(v=8∧¬ROk r)):=by
 obtain⟨hr2,hr3,hr4⟩:=hr
 have hst:=fun hf=>f131 r hf
 obtain⟨id,key,⟨ns,_⟩,state,ts,_⟩:=r
 simp only at hr2 hr3 hr4 hst
 simp only [sW]
 by_cases c1:id<ofNat 0
 ·rw [decide_eq_true c1];exact⟨_,rfl,.inr ⟨rfl,fun h=>by have:=h.id.1;simp only [bm]at*;omega⟩⟩
 rw [decide_eq_false c1,cond_false]
 by_cases c2:id>ofNat 1099511627776
 ·rw [decide_eq_true c2];exact⟨_,rfl,.inr ⟨rfl,fun h=>by have:=h.id.2;simp only [bm]at*;omega⟩⟩
 rw [decide_eq_false c2,cond_false]
 by_cases c3:(key.size:Int)<ofNat 1
 ·rw [decide_eq_true c3];exact⟨_,rfl,.inr ⟨rfl,fun h=>by have:=h.key.1;simp only [bm]at*;omega⟩⟩
 rw [decide_eq_false c3,cond_false]
 by_cases c4:(key.size:Int)>ofNat 24
 ·rw [decide_eq_true c4];exact⟨_,rfl,.inr ⟨rfl,fun h=>by have:=h.key.2;simp only [bm]at*;omega⟩⟩
 rw [decide_eq_false c4,cond_false]
 obtain⟨v,hv,hv0⟩:=f114 ns hr2
 simp only [hv,bind_some]
 rcases hv0 with⟨rfl,hd⟩|⟨rfl,hd⟩
 ·rw [cM]
  by_cases c5:ts.length=ns.length
  ·rw [show((ts.length:Int) !=(ns.length:Int))=false by simp [c5],cond_false]
   have fZ:=hd.1.2
   obtain⟨y,hy,hq⟩:=ba (st:=gB) ns.length (fun i (_:Unit)=>(ns,(ns.length:Int),(i:Int),id,key,ns,state,ts,())) (fun j _=>∀i:Nat,i<j→cH (ns.getD i (aa ah)) (ts.getD i (aa ab)))
    (fun y=>((∃r,y= .inl (ofNat 8,r))∧¬∀i:Nat,i<ns.length→cH (ns.getD i (aa ah)) (ts.getD i (aa ab)))∨(y= .inr (id,key,ns,state,ts,())∧∀i:Nat,i<ns.length→cH (ns.getD i (aa ah)) (ts.getD i (aa ab)))) (fun j _ h hx=>by
     have hj:j<ts.length:=by omega
     obtain⟨v,hv,h2⟩:=f130 (ns.getD j (aa ah)) (ts.getD j (aa ab)) (ly hd.2.1 h) (hr4 _ (aG hj (aa ab)))
     simp only [gB,lZ,bw h,aL h,aF h,cond_true,toNat_natCast,eN,eT,hv,bind_some,aL hj,aF hj]
     rw [aY (by omega)]
     rcases h2 with⟨rfl,h2⟩|⟨rfl,h2⟩
     ·exact .inl ⟨(),rfl,cV hx h2⟩
     ·exact .inr ⟨_,rfl,.inl ⟨⟨_,rfl⟩,fun hall=>h2 (hall j h)⟩⟩) (fun _ hx=>⟨.inr (id,key,ns,state,ts,()),by simp only [gB,lZ,bv,cond_false],.inr ⟨rfl,hx⟩⟩) () (fun i h=>absurd h (not_lt_zero _))
   have hy':pE (ns,(ns.length:Int),ofNat 0,id,key,ns,state,ts,())=some y:=hy
   simp only [hy',bind_some]
   rcases hq with⟨⟨r,rfl⟩,hq⟩|⟨rfl,hq⟩
   ·exact⟨_,rfl,.inr ⟨rfl,fun h=>hq fun i hi=>h.tks i (by simp only;omega)⟩⟩
   ·obtain⟨b,hb,hb2⟩:=hst ⟨c5.symm,by simp only;omega,hd.2.1,hr2⟩
    simp only [hb,bind_some]
    cases b
    ·exact⟨_,rfl,.inr ⟨rfl,fun h=>nomatch hb2.2 h.st⟩⟩
    ·exact⟨_,rfl,.inl ⟨rfl,⟨by simp only [bX,bm]at*;omega,by simp only [bm]at*;omega,hd,c5,fun i hi=>hq i (by simp only at hi;omega),hb2.1 rfl⟩⟩⟩
  ·rw [show((ts.length:Int) !=(ns.length:Int))=true by simp;omega]
   exact⟨_,rfl,.inr ⟨rfl,fun h=>c5 h.len⟩⟩
 ·exact⟨_,rfl,.inr ⟨rfl,fun h=>hd h.dag⟩⟩
def dx (t:aq):Int:=t.2.2.2.1
def dB (t:aq):Int:=t.2.2.2.2.1
def dA (s:Int) (f:aq→Int) (ts:List aq):List Int:=(ts.filter (fun t=>t.1==s)).map f
def NC (x y:aq):Prop:=¬(x.1=2∧y.1=2∧dx x=dx y)∧¬(x.1=1∧y.1=1∧dB x=dB y)
theorem NC.symm {x y:aq} (h:NC x y):NC y x:=⟨fun⟨a,b,c⟩=>h.1 ⟨b,a,c.symm⟩,fun⟨a,b,c⟩=>h.2 ⟨b,a,c.symm⟩⟩
theorem FP (s:Int) (f:aq→Int) (l:List aq) (t:aq):dA s f (l++ [t])=dA s f l++(bif t.1==s then [f t]else []):=by
 simp only [dA,List.filter_append,List.map_append,List.filter_cons,List.filter_nil]
 cases t.1==s<;>rfl
theorem Oo {s:Int} {f:aq→Int} {l:List aq} {v:Int}:v∈dA s f l↔∃t∈l,t.1=s∧f t=v:=by
 simp only [dA,List.mem_map,List.mem_filter,beq_iff_eq]
 exact⟨fun⟨t,⟨a,b⟩,c⟩=>⟨t,a,b,c⟩,fun⟨t,a,b,c⟩=>⟨t,⟨a,b⟩,c⟩⟩
theorem ac6 {l:List aq} (h1:(dA 2 dx l).Nodup) (h2:(dA 1 dB l).Nodup):l.Pairwise NC:=by
 simp only [dA,List.Nodup,List.pairwise_map,List.pairwise_filter]at h1 h2
 refine(h1.and h2).imp fun {x y} h=>⟨fun⟨a,b,c⟩=>h.1 (by simpa using a) (by simpa using b) c,fun⟨a,b,c⟩=>h.2 (by simpa using a) (by simpa using b) c⟩
def FT (rs:List am):List aq:=rs.flatMap (fun r=>r.2.2.2.2.1)
theorem Hn {rs:List am} {j:Nat} (h:j<rs.length) (d:am):FT (rs.take (j+1))=FT (rs.take j)++(rs.getD j d).2.2.2.2.1:=by
 rw [take_succ_eq_append_getElem h,bD h]
 simp only [FT,List.flatMap_append,flatMap_cons,List.flatMap_nil,List.append_nil]
theorem Zx (rs:List am) {i:Nat} (h:i<rs.length) (d:am) (j:Nat):(FT (rs.take i)++(rs.getD i d).2.2.2.2.1.take j).Sublist (FT rs):=by
 have h1:FT rs=FT (rs.take (i+1))++FT (rs.drop (i+1)):=by
  simp only [FT]
  rw [←List.flatMap_append,List.take_append_drop]
 rw [h1,Hn h d]
 exact(List.Sublist.append (List.Sublist.refl _) (List.take_sublist _ _)).trans (List.sublist_append_left _ _)
abbrev cK (r:am):List UInt8:=ByteArray.toList r.2.1
structure GoodX (rs:List am):Prop where
 up:∀a b:Nat,a<b→b<rs.length→(rs.getD a (aa ae)).1<(rs.getD b (aa ae)).1
 keys:∀a b:Nat,a<b→b<rs.length→cK (rs.getD a (aa ae))≠cK (rs.getD b (aa ae))
 chk:∀a:Nat,a<rs.length→ROk (rs.getD a (aa ae))
 ap:(FT rs).Pairwise NC
theorem Ho {K V:Type} [BEq K] [LawfulBEq K] (v:V) (x k:K):∀l:List (K×V),bT (bU l x v) k=(k==x||bT l k)
 | []=>by simp [bU,bT]
 |(a,w)::l=>by
  simp only [bU]
  by_cases h:x==a
  ·have:x=a:=by simpa using h
   subst this
   simp [bT]
  ·rw [if_neg h]
   simp only [bT,Ho v x k l]
   cases k==a<;>cases k==x<;>rfl
abbrev Mp:=List (Int×Unit)
def im (m:Mp) (l:List Int):Prop:=(∀k,bT m k=true↔k∈l)∧l.Nodup
theorem Hp {m:Mp} {l:List Int} {x:Int} (h:im m l) (hx:bT m x=false):im (bU m x ()) (l++ [x]):=by
 have hn:x∉l:=fun h2=>by rw [(h.1 x).2 h2]at hx;cases hx
 refine⟨fun k=> ?_,?_⟩
 ·rw [Ho]
  simp only [Bool.or_eq_true,beq_iff_eq,h.1 k,mem_append,mem_singleton]
  exact Or.comm
 ·rw [List.nodup_append]
  exact⟨h.2,by simp,fun a ha b hb=>by simp only [mem_singleton]at hb;subst hb;exact fun e=>hn (e▸ha)⟩
theorem Ci {s:Int} {f:aq→Int} {m:Mp} {l:List aq} {t:aq} (hm:im m (dA s f l)) (ht:bT m (f t)=true):∃x∈l,x.1=s∧f x=f t:=Oo.1 ((hm.1 _).1 ht)
theorem Mm {l:List aq} {t x:aq} (hx:x∈l) (h:¬NC x t):¬(l++ [t]).Pairwise NC:=fun hp=>h ((List.pairwise_append.1 hp).2.2 x hx t (List.mem_singleton.2 rfl))
theorem agP (rs:List am) (x1 x2:Int) (ts:List aq) (ht:ts.length≤9223372036854775807) (m1 m2:Mp) (l:List aq) (hm1:im m1 (dA 2 dx l)) (hm2:im m2 (dA 1 dB l)):
  ∃y,gb (rs,rs,x1,x2,ts,(ts.length:Int),ofNat 0,m1,m2,())=some y∧((((∃a,y= .inl (ofNat 8,a))∨(∃a,y= .inr (.inl (ofNat 8,a))))∧∃j,¬(l++ts.take j).Pairwise NC)∨(∃m1' m2':Mp,y= .inr (.inr (rs,rs,x1,x2,m1',m2',()))∧im m1' (dA 2 dx (l++ts))∧im m2' (dA 1 dB (l++ts)))):=by
 obtain⟨y,hy,hq⟩:=ba (st:=gD) ts.length (fun j (a:Mp×Mp)=>(rs,rs,x1,x2,ts,(ts.length:Int),(j:Int),a.1,a.2,())) (fun j a=>im a.1 (dA 2 dx (l++ts.take j))∧im a.2 (dA 1 dB (l++ts.take j)))
  (fun y=>((((∃a,y= .inl (ofNat 8,a))∨(∃a,y= .inr (.inl (ofNat 8,a))))∧∃j,¬(l++ts.take j).Pairwise NC)∨(∃m1' m2':Mp,y= .inr (.inr (rs,rs,x1,x2,m1',m2',()))∧im m1' (dA 2 dx (l++ts))∧im m2' (dA 1 dB (l++ts))))) (fun j a h hx=>by
   obtain⟨m1,m2⟩:=a
   obtain⟨hx1,hx2⟩:=hx
   simp only at hx1 hx2
   simp only [gD,ma,kM,bw h,aL h,aF h,cond_true,toNat_natCast]
   rw [aY (by omega)]
   have hts:l++ts.take (j+1)=(l++ts.take j)++ [ts.getD j (aa ab)]:=by rw [take_succ_eq_append_getElem h,bD h,append_assoc]
   generalize ts.getD j (aa ab)=t at hts
   have s1:=FP 2 dx (l++ts.take j) t
   have s2:=FP 1 dB (l++ts.take j) t
   rw [←hts]at s1 s2
   have no1:(t.1==ofNat 2)=false→im m1 (dA 2 dx (l++ts.take (j+1))):=fun h2=>by rw [s1,show(t.1==2)=false from h2];simpa using hx1
   have no2:(t.1==ofNat 1)=false→im m2 (dA 1 dB (l++ts.take (j+1))):=fun h2=>by rw [s2,show(t.1==1)=false from h2];simpa using hx2
   have yes1:(t.1==ofNat 2)=true→bT m1 t.2.2.2.1=false→im (bU m1 t.2.2.2.1 ()) (dA 2 dx (l++ts.take (j+1))):=fun h2 h3=>by rw [s1,show(t.1==2)=true from h2,cond_true];exact Hp hx1 h3
   have yes2:(t.1==ofNat 1)=true→bT m2 t.2.2.2.2.1=false→im (bU m2 t.2.2.2.2.1 ()) (dA 1 dB (l++ts.take (j+1))):=fun h2 h3=>by rw [s2,show(t.1==1)=true from h2,cond_true];exact Hp hx2 h3
   have bad1:(t.1==ofNat 2)=true→bT m1 t.2.2.2.1=true→¬(l++ts.take (j+1)).Pairwise NC:=fun h2 h3=>by
    obtain⟨x,hxl,e1,e2⟩:=Ci (f:=dx) hx1 h3
    rw [hts]
    exact Mm hxl fun hn=>hn.1 ⟨e1,by simpa using h2,e2⟩
   have bad2:(t.1==ofNat 1)=true→bT m2 t.2.2.2.2.1=true→¬(l++ts.take (j+1)).Pairwise NC:=fun h2 h3=>by
    obtain⟨x,hxl,e1,e2⟩:=Ci (f:=dB) hx2 h3
    rw [hts]
    exact Mm hxl fun hn=>hn.2 ⟨e1,by simpa using h2,e2⟩
   rcases h1:(t.1==ofNat 2)with _|_
   ·simp only [cond_false]
    rcases h2:(t.1==ofNat 1)with _|_
    ·exact .inl ⟨(m1,m2),rfl,no1 h1,no2 h2⟩
    ·simp only [cond_true]
     rcases h3:bT m2 t.2.2.2.2.1 with _|_
     ·exact .inl ⟨(m1,_),rfl,no1 h1,yes2 h2 h3⟩
     ·exact .inr ⟨_,rfl,.inl ⟨.inl ⟨_,rfl⟩,_,bad2 h2 h3⟩⟩
   ·simp only [cond_true]
    rcases h4:bT m1 t.2.2.2.1 with _|_
    ·simp only [cond_false]
     rcases h2:(t.1==ofNat 1)with _|_
     ·exact .inl ⟨(_,m2),rfl,yes1 h1 h4,no2 h2⟩
     ·simp only [cond_true]
      rcases h3:bT m2 t.2.2.2.2.1 with _|_
      ·exact .inl ⟨(_,_),rfl,yes1 h1 h4,yes2 h2 h3⟩
      ·exact .inr ⟨_,rfl,.inl ⟨.inr ⟨_,rfl⟩,_,bad2 h2 h3⟩⟩
    ·exact .inr ⟨_,rfl,.inl ⟨.inl ⟨_,rfl⟩,_,bad1 h1 h4⟩⟩) (fun a hx=>⟨.inr (.inr (rs,rs,x1,x2,a.1,a.2,())),by simp only [gD,ma,kM,bv,cond_false],.inr ⟨a.1,a.2,rfl,by rw [take_length]at hx;exact hx⟩⟩) (m1,m2) (by simpa using ⟨hm1,hm2⟩)
 exact⟨y,hy,hq⟩
theorem agQ (rs:List am) (hl:rs.length≤9223372036854775807) (r:am):
  ∃y,lv (rs,(rs.length:Int),ofNat 0,r.1,r.2.1,r.2.2.1.1,r.2.2.2.1,r.2.2.2.2.1,())=some y∧((∃a,y= .inl a∧decide (a.1≥ofNat 0)=true∧∃j,j<rs.length∧cK (rs.getD j (aa ae))=cK r)∨(y= .inr (r.1,r.2.1,r.2.2.1.1,r.2.2.2.1,r.2.2.2.2.1,())∧∀j,j<rs.length→cK (rs.getD j (aa ae))≠cK r)):=by
 obtain⟨y,hy,hq⟩:=ba (st:=gE) rs.length (fun j (_:Unit)=>(rs,(rs.length:Int),(j:Int),r.1,r.2.1,r.2.2.1.1,r.2.2.2.1,r.2.2.2.2.1,())) (fun i a=>∀j,j<i→cK (rs.getD j (aa ae))≠cK r)
  (fun y=>((∃a,y= .inl a∧decide (a.1≥ofNat 0)=true∧∃j,j<rs.length∧cK (rs.getD j (aa ae))=cK r)∨(y= .inr (r.1,r.2.1,r.2.2.1.1,r.2.2.2.1,r.2.2.2.2.1,())∧∀j,j<rs.length→cK (rs.getD j (aa ae))≠cK r))) (fun j a h hx=>by
   simp only [gE,mb,bw h,aL h,aF h,cond_true,toNat_natCast]
   rw [aY (by omega)]
   rcases hb:(ByteArray.toList (rs.getD j (aa ae)).2.1==ByteArray.toList r.2.1)with _|_
   ·exact .inl ⟨(),rfl,cV hx fun e=>by rw [show ByteArray.toList (rs.getD j (aa ae)).2.1=ByteArray.toList r.2.1 from e]at hb;simp at hb⟩
   ·exact .inr ⟨_,rfl,.inl ⟨_,rfl,vG j,j,h,by simpa using hb⟩⟩) (fun a hx=>⟨.inr (r.1,r.2.1,r.2.2.1.1,r.2.2.2.1,r.2.2.2.2.1,()),by simp only [gE,mb,bv,cond_false],.inr ⟨rfl,hx⟩⟩) () (fun j h=>absurd h (not_lt_zero _))
 exact⟨y,hy,hq⟩
theorem Kg {X Y:Type} (rs:List am) (i:Nat) (h:i<rs.length) (hm:rs.length≤9223372036854775807) (r:am) (e:Y) (z:X⊕Y):
  (bif decide ((i:Int)>ofNat 0)then(bif aj 0 (IntKind.i64.wrap ((i:Int)-ofNat 1)) ((rs.length:Int)-1)then(bif decide ((IntKind.i64.wrap ((i:Int)-ofNat 1)).toNat<rs.length)then(bif decide (r.1≤(rs.getD (IntKind.i64.wrap ((i:Int)-ofNat 1)).toNat (aa ae)).1)then(some (.inr e))else bif aj 0 (i:Int) (rs.length:Int)then(some z)else none)else none)else none)else bif aj 0 (i:Int) (rs.length:Int)then(some z)else none)
   =some (if 0<i∧r.1≤(rs.getD (i-1) (aa ae)).1 then .inr e else z):=by
 have hw:aj 0 (i:Int) (rs.length:Int)=true:=by simp [aj];omega
 rw [hw]
 rcases Nat.eq_zero_or_pos i with rfl|hp
 ·rfl
 ·rw [Mk hp (by omega),aL (show i-1<rs.length by omega),toNat_natCast,aF (show i-1<rs.length by omega),decide_eq_true (show(i:Int)>ofNat 0 by simp only [bm];omega)]
  simp only [cond_true]
  by_cases hc:r.1≤(rs.getD (i-1) (aa ae)).1
  ·rw [decide_eq_true hc,if_pos ⟨hp,hc⟩];rfl
  ·rw [decide_eq_false hc,if_neg fun h=>hc h.2];rfl
def code {A B C D E:Type}:(Int×A)⊕((Int×B)⊕((Int×C)⊕((Int×D)⊕E)))→Int
 | .inl a=>a.1
 | .inr (.inl a)=>a.1
 | .inr (.inr (.inl a))=>a.1
 | .inr (.inr (.inr (.inl a)))=>a.1
 | .inr (.inr (.inr (.inr _)))=>0
theorem Cj {α:Type} {l:List α} {n i:Nat} (h:i<n) (d:α):(l.take n).getD i d=l.getD i d:=by
 simp [getD_eq_getElem?_getD,List.getElem?_take,h]
structure Pre (rs:List am) (j:Nat) (m:Mp×Mp):Prop where
 up:∀a b:Nat,a<b→b<j→(rs.getD a (aa ae)).1<(rs.getD b (aa ae)).1
 keys:∀a b:Nat,a<b→b<j→cK (rs.getD a (aa ae))≠cK (rs.getD b (aa ae))
 chk:∀a:Nat,a<j→ROk (rs.getD a (aa ae))
 m1:im m.1 (dA 2 dx (FT (rs.take j)))
 m2:im m.2 (dA 1 dB (FT (rs.take j)))
theorem l40 (rs:List am) (hm:rs.length≤9223372036854775807) (hr:∀r∈rs,bK r):
  ∃y,pF (rs,rs,(rs.length:Int),ofNat 0,[],[],())=some y∧((code y=8∧¬GoodX rs)∨(code y=0∧GoodX rs)):=by
 obtain⟨y,hy,hq⟩:=ba (st:=gF) rs.length (fun j (a:Mp×Mp)=>(rs,rs,(rs.length:Int),(j:Int),a.1,a.2,())) (fun j a=>Pre rs j a)
  (fun y=>(code y=8∧¬GoodX rs)∨(code y=0∧GoodX rs)) (fun j a h hx=>by
   obtain⟨m1,m2⟩:=a
   have hok:=hr _ (aG h (aa ae))
   obtain⟨v,hv,hv0⟩:=f89 _ hok
   have hs:=Hn h (aa ae)
   have hpre:=Zx rs h (aa ae)
   have hup:=fun(g:GoodX rs) (h0:0<j)=>g.up (j-1) j (by omega) h
   have hkey:=fun(g:GoodX rs) (i:Nat) (h0:i<j)=>g.keys i j h0 h
   have hchk:=fun(g:GoodX rs)=>g.chk j h
   have hx1:=hx.m1
   have hx2:=hx.m2
   have hcons:∀m:Mp×Mp,ROk (rs.getD j (aa ae))→¬(0<j∧(rs.getD j (aa ae)).1≤(rs.getD (j-1) (aa ae)).1)→(∀i,i<j→cK (rs.getD i (aa ae))≠cK (rs.getD j (aa ae)))→im m.1 (dA 2 dx (FT (rs.take (j+1))))→im m.2 (dA 1 dB (FT (rs.take (j+1))))→Pre rs (j+1) m:=fun m h1 h2 h3 h4 h5=>by
    refine⟨fun a b hab hb=> ?_,fun a b hab hb=> ?_,cV hx.chk h1,h4,h5⟩
    ·rcases lt_or_ge b j with hb'|hb'
     ·exact hx.up a b hab hb'
     ·have e:b=j:=by omega
      subst e
      have h6:(rs.getD (b-1) (aa ae)).1<(rs.getD b (aa ae)).1:=by
       have:=fun h=>h2 ⟨by omega,h⟩
       omega
      rcases lt_or_ge a (b-1)with h7|h7
      ·exact Int.lt_trans (hx.up a (b-1) h7 (by omega)) h6
      ·have e:a=b-1:=by omega
       rw [e];exact h6
    ·rcases lt_or_ge b j with hb'|hb'
     ·exact hx.keys a b hab hb'
     ·have e:b=j:=by omega
      subst e
      exact h3 a hab
   generalize hrr:rs.getD j (aa ae)=r at hok hv hv0 hs hpre hup hkey hchk hcons
   simp only [gF,mc,kN,bw h,aL h,aF h,cond_true,toNat_natCast,hrr,eR,hv,bind_some]
   rcases hv0 with⟨rfl,hz⟩|⟨rfl,hz⟩
   ·rw [cM]
    obtain⟨yk,hk,hkq⟩:=agQ (take (j-0) (drop 0 rs)) (by rw [length_take,drop_zero];omega) r
    rw [hk]
    simp only [bind_some]
    have hpr:0<j∧r.1≤(rs.getD (j-1) (aa ae)).1→¬GoodX rs:=fun h1 g=>by have:=hup g h1.1;omega
    rcases hkq with⟨a,rfl,ha,i,hi,hik⟩|⟨rfl,hk2⟩
    ·have hbad:¬GoodX rs:=fun g=>by
      simp only [length_take,drop_zero,sub_zero]at hi
      rw [drop_zero,sub_zero,Cj (by omega)]at hik
      exact hkey g i (by omega) hik
     simp only [ha,cond_true]
     rw [Kg rs j h hm r]
     split
     ·exact .inr ⟨_,rfl,.inl ⟨rfl,hbad⟩⟩
     ·exact .inr ⟨_,rfl,.inl ⟨rfl,hbad⟩⟩
    ·have hk3:∀i,i<j→cK (rs.getD i (aa ae))≠cK r:=fun i hi=>by
      have:=hk2 i (by simp only [length_take,drop_zero,sub_zero];omega)
      rwa [drop_zero,sub_zero,Cj hi]at this
     simp only
     obtain⟨yt,ht,htq⟩:=agP rs (rs.length:Int) (j:Int) r.2.2.2.2.1 hok.tl m1 m2 _ hx1 hx2
     rw [ht]
     simp only [bind_some]
     rcases htq with⟨⟨a,rfl⟩|⟨a,rfl⟩,i,hb⟩|⟨m1',m2',rfl,hm1,hm2⟩
     ·have hbad:¬GoodX rs:=fun g=>hb (g.ap.sublist (hpre i))
      simp only
      rw [Kg rs j h hm r]
      split
      ·exact .inr ⟨_,rfl,.inl ⟨rfl,hbad⟩⟩
      ·exact .inr ⟨_,rfl,.inl ⟨rfl,hbad⟩⟩
     ·have hbad:¬GoodX rs:=fun g=>hb (g.ap.sublist (hpre i))
      simp only
      rw [Kg rs j h hm r]
      split
      ·exact .inr ⟨_,rfl,.inl ⟨rfl,hbad⟩⟩
      ·exact .inr ⟨_,rfl,.inl ⟨rfl,hbad⟩⟩
     ·simp only
      rw [Kg rs j h hm r]
      split
      ·rename_i hc
       exact .inr ⟨_,rfl,.inl ⟨rfl,hpr hc⟩⟩
      ·rename_i hc
       rw [aY (by omega)]
       rw [←hs]at hm1 hm2
       exact .inl ⟨(m1',m2'),rfl,hcons (m1',m2') hz hc hk3 hm1 hm2⟩
   ·rw [show(8:Int)=ofNat (7+1)from rfl,eJ]
    exact .inr ⟨_,rfl,.inl ⟨rfl,fun g=>hz (hchk g)⟩⟩) (fun a hx=>⟨.inr (.inr (.inr (.inr (a.1,a.2,())))),by simp only [gF,mc,kN,bv,cond_false],.inr ⟨rfl,by
    have h1:=hx.m1.2
    have h2:=hx.m2.2
    rw [take_length]at h1 h2
    exact⟨hx.up,hx.keys,hx.chk,ac6 h1 h2⟩⟩⟩) ([],[]) ⟨fun a b _ h=>absurd h (not_lt_zero _),fun a b _ h=>absurd h (not_lt_zero _),fun a h=>absurd h (not_lt_zero _),by simp [im,bT,FT,dA],by simp [im,bT,FT,dA]⟩
 exact⟨y,hy,hq⟩
def eP (rs:List am):Prop:=rs.length≤32∧GoodX rs
def Zy (rs:List am) (v:Int):Prop:=(rs.length>32∧v=4)∨(rs.length≤32∧¬GoodX rs∧v=8)∨(eP rs∧v=0)
theorem f51 (rs:List am) (hm:rs.length≤9223372036854775807) (hr:∀r∈rs,bK r):∃v,Cg (rs,())=some (v,())∧Zy rs v:=by
 simp only [Cg]
 by_cases h2:((rs.length:Nat):Int)>ofNat 32
 ·rw [decide_eq_true h2];exact⟨_,rfl,.inl ⟨by simp only [bm]at h2;omega,rfl⟩⟩
 ·rw [decide_eq_false h2]
  have h32:rs.length≤32:=by simp only [bm]at h2;omega
  obtain⟨y,hy,hq⟩:=l40 rs hm hr
  simp only [cond_false,hy,bind_some]
  have fin:∀v:Int,code y=v→Zy rs v:=fun v e=>by
   rcases hq with⟨h,hg⟩|⟨h,hg⟩
   ·exact .inr (.inl ⟨h32,hg,by omega⟩)
   ·exact .inr (.inr ⟨⟨h32,hg⟩,by omega⟩)
  match y,fin with
  | .inl a,fin=>exact⟨_,rfl,fin _ rfl⟩
  | .inr (.inl a),fin=>exact⟨_,rfl,fin _ rfl⟩
  | .inr (.inr (.inl a)),fin=>exact⟨_,rfl,fin _ rfl⟩
  | .inr (.inr (.inr (.inl a))),fin=>exact⟨_,rfl,fin _ rfl⟩
  | .inr (.inr (.inr (.inr a))),fin=>exact⟨_,rfl,fin _ rfl⟩
def FQ (ns:List aR):Prop:=ns.length≤60∧∀i,i<ns.length→(ns.getD i (aa ah)).1.length≤60
def SmR (r:am):Prop:=FQ r.2.2.1.1∧r.2.2.2.2.1.length≤60
theorem f45 (ns:List aR) (hn:ns.length≤9223372036854775807):∃b,Mb ((ns,()),())=some (b,())∧(b=false→FQ ns):=by
 simp only [Mb]
 by_cases c1:((ns.length:Nat):Int)>ofNat 60
 ·rw [decide_eq_true c1];exact⟨_,rfl,fun h=>nomatch h⟩
 ·rw [decide_eq_false c1]
  obtain⟨y,hy,hq⟩:=ba (st:=gw) ns.length (fun i (_:Unit)=>((i:Int),ns,())) (fun m _=>∀i,i<m→(ns.getD i (aa ah)).1.length≤60)
   (fun y=>(∃z,y= .inl (true,z))∨((∃z,y= .inr z)∧∀i,i<ns.length→(ns.getD i (aa ah)).1.length≤60)) (fun i _ h hx=>by
    simp only [gw,lU,bw h,aL h,aF h,cond_true,toNat_natCast]
    rw [aY (by omega)]
    by_cases c:(((ns.getD i (aa ah)).1.length:Nat):Int)>ofNat 60
    ·rw [decide_eq_true c];exact .inr ⟨_,rfl,.inl ⟨_,rfl⟩⟩
    ·rw [decide_eq_false c];exact .inl ⟨(),rfl,cV hx (by simp only [bm]at c;omega)⟩) (fun _ hx=>⟨.inr (ns,()),by simp only [gw,lU,bv,cond_false],.inr ⟨⟨_,rfl⟩,hx⟩⟩) () (fun k h=>absurd h (not_lt_zero _))
  have hy':px (ofNat 0,ns,())=some y:=hy
  simp only [cond_false,hy',bind_some]
  rcases hq with⟨z,rfl⟩|⟨⟨z,rfl⟩,hq⟩
  ·exact⟨_,rfl,fun h=>nomatch h⟩
  ·exact⟨_,rfl,fun _=>⟨by simp only [bm]at c1;omega,hq⟩⟩
theorem wy {n k:Nat} (h:n≤1000) (hk:k≤1000):(decide (n*k≤aV) && decide (n≤aV))=true:=by
 have:aV=70368744177664:=by decide
 rw [this]
 have:n*k≤1000*1000:=Nat.mul_le_mul h hk
 simp;omega
theorem Dp {n k:Nat} (h:n≤1000) (hk:k≤1000):(decide (n*k≤2^46) && decide (n≤2^46))=true:=wy h hk
theorem rQ {α:Type} {l:List α} {i:Nat} (h:i<l.length) (d:α):l.take (i+1)=l.take i++ [l.getD i d]:=by
 rw [take_succ_eq_append_getElem h,bD h]
theorem f205 (a b:Int):F205 (a,b,())=some (if a<b then negSucc 0 else if a>b then ofNat 1 else ofNat 0,()):=by
 simp only [F205,F234,bind_some]
 rw [show(a !=a)=false by simp,show(b !=b)=false by simp]
 simp only [cond_false]
 by_cases h:a<b
 ·rw [decide_eq_true h,if_pos h];rfl
 ·rw [decide_eq_false h,if_neg h]
  by_cases h2:a>b
  ·rw [decide_eq_true h2,if_pos h2];rfl
  ·rw [decide_eq_false h2,if_neg h2];rfl
theorem Zz {lo hi:Nat} (h:lo+hi<1000):IntKind.i64.wrap ((IntKind.u64.wrap (IntKind.i64.wrap ((lo:Int)+(hi:Int)))).fdiv (2^min (ofNat 1).toNat IntKind.u64.bits))=(((lo+hi)/2:Nat):Int):=by
 have e1:IntKind.i64.wrap ((lo:Int)+(hi:Int))=((lo+hi:Nat):Int):=by
  unfold IntKind.wrap
  simp [IntKind.bits,IntKind.signed]
  omega
 have e2:IntKind.u64.wrap ((lo+hi:Nat):Int)=((lo+hi:Nat):Int):=by
  unfold IntKind.wrap
  simp [IntKind.bits,IntKind.signed]
  omega
 have e3:(2:Int)^min (ofNat 1).toNat IntKind.u64.bits=2:=by decide
 rw [e1,e2,e3,Int.fdiv_eq_ediv_of_nonneg _ (by omega)]
 unfold IntKind.wrap
 simp [IntKind.bits,IntKind.signed]
 omega
theorem l32 (rs:List am) (hf:eP rs) (id:Int):
  ∃p:Nat,oq (rs,id,(rs.length:Int),ofNat 0,(rs.length:Int),())=some (rs,id,(rs.length:Int),(p:Int),())∧p≤rs.length∧(∀a,a<p→(rs.getD a (aa ae)).1<id)∧(∀a,p≤a→a<rs.length→id≤(rs.getD a (aa ae)).1):=by
 obtain⟨h32,hg⟩:=hf
 obtain⟨y,hy,p,rfl,hq⟩:=wM (st:=fW) (fun x=>x.2.2.2.2.1.toNat-x.2.2.2.1.toNat) (fun x=>∃lo hi:Nat,x=(rs,id,(rs.length:Int),(lo:Int),(hi:Int),())∧lo≤hi∧hi≤rs.length∧(∀a,a<lo→(rs.getD a (aa ae)).1<id)∧(∀a,hi≤a→a<rs.length→id≤(rs.getD a (aa ae)).1))
  (fun y=>∃p:Nat,y=(rs,id,(rs.length:Int),(p:Int),())∧p≤rs.length∧(∀a,a<p→(rs.getD a (aa ae)).1<id)∧(∀a,p≤a→a<rs.length→id≤(rs.getD a (aa ae)).1)) (fun x hx=>by
   obtain⟨lo,hi,rfl,h1,h2,h3,h4⟩:=hx
   rcases lt_or_ge lo hi with h|h
   ·have hmid:(lo+hi)/2<rs.length:=by omega
    refine .inl ?_
    simp only [fW,kR,bw h,Zz (show lo+hi<1000 by omega),aL hmid,toNat_natCast,aF hmid,cond_true,f205,bind_some]
    by_cases hc:(rs.getD ((lo+hi)/2) (aa ae)).1<id
    ·rw [if_pos hc,show decide (negSucc 0<ofNat 0)=true by decide,aY (by omega)]
     refine⟨_,rfl,⟨(lo+hi)/2+1,hi,rfl,by omega,h2,fun a ha=> ?_,h4⟩,?_⟩
     ·rcases lt_or_ge a ((lo+hi)/2)with h5|h5
      ·have:=hg.up a _ h5 hmid
       omega
      ·have e:a=(lo+hi)/2:=by omega
       rw [e];exact hc
     ·simp only [toNat_natCast];omega
    ·rw [if_neg hc]
     have e:decide ((if(rs.getD ((lo+hi)/2) (aa ae)).1>id then ofNat 1 else ofNat 0)<ofNat 0)=false:=by split<;>decide
     rw [e]
     refine⟨_,rfl,⟨lo,(lo+hi)/2,rfl,by omega,by omega,h3,fun a ha hal=> ?_⟩,?_⟩
     ·rcases lt_or_ge ((lo+hi)/2) a with h5|h5
      ·have:=hg.up _ a h5 hal
       omega
      ·have e:a=(lo+hi)/2:=by omega
       rw [e];omega
     ·simp only [toNat_natCast];omega
   ·have e:hi=lo:=by omega
    subst e
    exact .inr ⟨(rs,id,(rs.length:Int),(hi:Int),()),by simp only [fW,kR,bv,cond_false],hi,rfl,h2,h3,h4⟩) (rs,id,(rs.length:Int),((0:Nat):Int),(rs.length:Int),()) ⟨0,rs.length,rfl,by omega,by omega,fun a h=>absurd h (not_lt_zero _),fun a h1 h2=>by omega⟩
 exact⟨p,hy,hq⟩
def dv {S:Type} (f:Nat→aq→S→S):Nat→List aq→S→S
 |_,[],s=>s
 |k,t::l,s=>dv f (k+1) l (f k t s)
theorem Ck {S:Type} (f:Nat→aq→S→S) (t:aq):∀(l:List aq) (k:Nat) (s:S),dv f k (l++ [t]) s=f (k+l.length) t (dv f k l s)
 | [],_,_=>rfl
 |a::l,k,s=>by
  simp only [cons_append,dv,Ck f t l (k+1),length_cons]
  rw [show k+1+l.length=k+(l.length+1) by omega]
theorem zN {S:Type} (f:Nat→aq→S→S) {ts:List aq} {j:Nat} (h:j<ts.length) (s:S):dv f 0 (ts.take (j+1)) s=f j (ts.getD j (aa ab)) (dv f 0 (ts.take j) s):=by
 rw [take_succ_eq_append_getElem h,Ck,bD h,length_take,Nat.min_eq_left (by omega),zero_add]
def eh {S:Type} (f:am→Nat→aq→S→S) (rs:List am) (s:S):S:=rs.foldl (fun s r=>dv (f r) 0 r.2.2.2.2.1 s) s
theorem zO {S:Type} (f:am→Nat→aq→S→S) {rs:List am} {j:Nat} (h:j<rs.length) (s:S):eh f (rs.take (j+1)) s=dv (f (rs.getD j (aa ae))) 0 (rs.getD j (aa ae)).2.2.2.2.1 (eh f (rs.take j) s):=by
 rw [rQ h (aa ae)]
 simp only [eh,List.foldl_append,List.foldl_cons,List.foldl_nil]
abbrev zP:=Int×Bool×Int×Int×Int
def dO (r:am) (k:Nat) (t:aq) (s:zP):zP:=
 bif t.1==ofNat 1 then(bif !s.2.1 then(t.2.2.2.2.1,true,r.1,(k:Int),ofNat 0)else bif decide (t.2.2.2.2.1<s.1)then(t.2.2.2.2.1,true,r.1,(k:Int),ofNat 0)else s)else s
theorem agR (rs:List am) (x1 z1 z2 z3:Int) (i:Nat) (r:am) (ht:r.2.2.2.2.1.length≤9223372036854775807) (s:zP):
  oh (s.1,s.2.1,rs,x1,(i:Int),r.2.2.2.2.1,(r.2.2.2.2.1.length:Int),ofNat 0,z1,z2,z3,s.2.2.1,s.2.2.2.1,s.2.2.2.2,r.1,r.2.1,r.2.2.1.1,r.2.2.2.1,r.2.2.2.2.1,())=some ((dv (dO r) 0 r.2.2.2.2.1 s).1,(dv (dO r) 0 r.2.2.2.2.1 s).2.1,rs,x1,(i:Int),z1,z2,z3,(dv (dO r) 0 r.2.2.2.2.1 s).2.2.1,(dv (dO r) 0 r.2.2.2.2.1 s).2.2.2.1,(dv (dO r) 0 r.2.2.2.2.1 s).2.2.2.2,r.1,r.2.1,r.2.2.1.1,r.2.2.2.1,r.2.2.2.2.1,()):=by
 obtain⟨y,hy,rfl⟩:=ba (st:=fU) r.2.2.2.2.1.length (fun j (s:zP)=>(s.1,s.2.1,rs,x1,(i:Int),r.2.2.2.2.1,(r.2.2.2.2.1.length:Int),(j:Int),z1,z2,z3,s.2.2.1,s.2.2.2.1,s.2.2.2.2,r.1,r.2.1,r.2.2.1.1,r.2.2.2.1,r.2.2.2.2.1,())) (fun j s'=>s'=dv (dO r) 0 (r.2.2.2.2.1.take j) s)
  (fun y=>y=((dv (dO r) 0 r.2.2.2.2.1 s).1,(dv (dO r) 0 r.2.2.2.2.1 s).2.1,rs,x1,(i:Int),z1,z2,z3,(dv (dO r) 0 r.2.2.2.2.1 s).2.2.1,(dv (dO r) 0 r.2.2.2.2.1 s).2.2.2.1,(dv (dO r) 0 r.2.2.2.2.1 s).2.2.2.2,r.1,r.2.1,r.2.2.1.1,r.2.2.2.1,r.2.2.2.2.1,())) (fun j s' h hx=>by
   have hs:=zN (dO r) h s
   rw [←hx]at hs
   refine .inl ⟨dO r j (r.2.2.2.2.1.getD j (aa ab)) s',?_,hs.symm⟩
   simp only [fU,kP,jv,bw h,aL h,aF h,cond_true,toNat_natCast,dO]
   rw [aY (by omega)]
   cases (r.2.2.2.2.1.getD j (aa ab)).1==ofNat 1
   ·rfl
   ·obtain⟨p,q,a,b,c⟩:=s'
    cases q
    ·rfl
    ·simp only
     cases decide ((r.2.2.2.2.1.getD j (aa ab)).2.2.2.2.1<p)<;>rfl) (fun s' hx=>⟨(s'.1,s'.2.1,rs,x1,(i:Int),z1,z2,z3,s'.2.2.1,s'.2.2.2.1,s'.2.2.2.2,r.1,r.2.1,r.2.2.1.1,r.2.2.2.1,r.2.2.2.2.1,()),by simp only [fU,kP,jv,bv,cond_false],by rw [hx,take_length]⟩) s (by simp [dv])
 exact hy
def mC:zP:=(0,false,0,0,0)
theorem l35 (rs:List am) (hm:rs.length≤9223372036854775807) (hr:∀r∈rs,bK r):
  ∃z1 z2 z3:Int,ol (ofNat 0,false,rs,(rs.length:Int),ofNat 0,ofNat 0,ofNat 0,ofNat 0,ofNat 0,ofNat 0,ofNat 0,())=some ((eh dO rs mC).2.1,z1,z2,z3,(eh dO rs mC).2.2.1,(eh dO rs mC).2.2.2.1,(eh dO rs mC).2.2.2.2,()):=by
 obtain⟨y,hy,rfl⟩:=ba (st:=fV) rs.length (fun j (s:zP)=>(s.1,s.2.1,rs,(rs.length:Int),(j:Int),ofNat 0,ofNat 0,ofNat 0,s.2.2.1,s.2.2.2.1,s.2.2.2.2,())) (fun j s=>s=eh dO (rs.take j) mC)
  (fun y=>y=((eh dO rs mC).2.1,ofNat 0,ofNat 0,ofNat 0,(eh dO rs mC).2.2.1,(eh dO rs mC).2.2.2.1,(eh dO rs mC).2.2.2.2,())) (fun j s h hx=>by
   have hok:=hr _ (aG h (aa ae))
   have h1:=agR rs (rs.length:Int) (ofNat 0) (ofNat 0) (ofNat 0) j _ hok.tl s
   simp only [fV,kQ,bw h,aL h,aF h,cond_true,toNat_natCast,h1,bind_some]
   rw [aY (by omega)]
   exact .inl ⟨_,rfl,by rw [zO dO h,←hx]⟩) (fun s hx=>⟨(s.2.1,ofNat 0,ofNat 0,ofNat 0,s.2.2.1,s.2.2.2.1,s.2.2.2.2,()),by simp only [fV,kQ,bv,cond_false],by rw [hx,take_length]⟩) mC (by simp [eh])
 exact⟨_,_,_,hy⟩
abbrev cr:=Int×Int×Int×Unit
def ed (t:aq) (now:Int):Bool:=(t.1==ofNat 2||t.1==ofNat 3) && decide (t.2.2.1≤now)
theorem f176 (t:aq) (now:Int):kj (t,now,())=some (ed t now,()):=by
 simp only [kj,ed]
 cases t.1==ofNat 2<;>cases t.1==ofNat 3<;>rfl
def jH (id now:Int):Nat→List aq→List cr
 |_,[]=>[]
 |k,t::ts=>(bif ed t now then [(id,(k:Int),t.2.2.1,())]else [])++jH id now (k+1) ts
theorem Hq (id now:Int) (t:aq):∀(l:List aq) (k:Nat),jH id now k (l++ [t])=jH id now k l++(bif ed t now then [(id,((k+l.length:Nat):Int),t.2.2.1,())]else [])
 | [],k=>by simp [jH]
 |a::l,k=>by
  simp only [cons_append,jH,Hq id now t l (k+1),append_assoc,length_cons]
  rw [show k+1+l.length=k+(l.length+1) by omega]
theorem Oq {id now:Int} {ts:List aq} {j:Nat} (h:j<ts.length) (d:aq):jH id now 0 (ts.take (j+1))=jH id now 0 (ts.take j)++(bif ed (ts.getD j d) now then [(id,(j:Int),(ts.getD j d).2.2.1,())]else []):=by
 rw [take_succ_eq_append_getElem h,Hq,bD h,length_take,Nat.min_eq_left (by omega),zero_add]
theorem Bq (id now:Int):∀(ts:List aq) (k:Nat),(jH id now k ts).length≤ts.length
 | [],_=>le_refl _
 |t::ts,k=>by
  have:=Bq id now ts (k+1)
  simp only [jH,List.length_append,length_cons]
  cases ed t now<;>simp<;>omega
theorem Hr {id now:Int} {p:cr}:∀{ts:List aq} {k:Nat},p∈jH id now k ts→∃j,j<ts.length∧ed (ts.getD j (aa ab)) now=true∧p=(id,((k+j:Nat):Int),(ts.getD j (aa ab)).2.2.1,())
 | [],_,h=>by cases h
 |t::ts,k,h=>by
  simp only [jH,mem_append]at h
  rcases h with h|h
  ·rcases hd:ed t now with _|_
   ·rw [hd]at h;cases h
   ·rw [hd]at h
    simp only [cond_true,mem_singleton]at h
    exact⟨0,by simp,hd,h⟩
  ·obtain⟨j,h1,h2,h3⟩:=Hr h
   exact⟨j+1,by simpa using h1,h2,by rw [h3,show k+1+j=k+(j+1) by omega];rfl⟩
def pl (rs:List am) (now:Int):List cr:=rs.flatMap (fun r=>jH r.1 now 0 r.2.2.2.2.1)
theorem Tm {rs:List am} {j:Nat} (h:j<rs.length) (now:Int) (d:am):pl (rs.take (j+1)) now=pl (rs.take j) now++jH (rs.getD j d).1 now 0 (rs.getD j d).2.2.2.2.1:=by
 rw [take_succ_eq_append_getElem h,bD h]
 simp only [pl,List.flatMap_append,flatMap_cons,List.flatMap_nil,List.append_nil]
theorem FR {now:Int}:∀{rs:List am},(∀r∈rs,r.2.2.2.2.1.length≤12)→(pl rs now).length≤12*rs.length
 | [],_=>le_refl _
 |r::rs,h=>by
  have h1:=FR (now:=now) (rs:=rs) fun r hr=>h r (List.mem_cons_of_mem _ hr)
  have h2:=Bq r.1 now r.2.2.2.2.1 0
  have h3:=h r (List.mem_cons_self ..)
  simp only [pl,flatMap_cons,List.length_append,length_cons]at h1⊢
  omega
def FS (now:Int) (rs:List am) (n i:Int) (r:am) (ts:List aq) (tn j:Int):List cr→(Int×List am×Int×Int×List aq×Int×Int×Int×ByteArray×List aR×Int×List aq×Unit)⊕(Int×Nat×List am×Int×Int×List aq×Int×Int×List cr×Int×ByteArray×List aR×Int×List aq×Unit)
 | []=>.inl (now,rs,n,i,ts,tn,j,r.1,r.2.1,r.2.2.1.1,r.2.2.2.1,r.2.2.2.2.1,())
 |a::l=>.inr (now,(a::l).length,rs,n,i,ts,tn,j,a::l,r.1,r.2.1,r.2.2.1.1,r.2.2.2.1,r.2.2.2.2.1,())
def outI (now:Int) (rs:List am) (n i:Int) (r:am):List cr→(Int×List am×Int×Int×Int×ByteArray×List aR×Int×List aq×Unit)⊕(Int×Nat×List am×Int×Int×List cr×Int×ByteArray×List aR×Int×List aq×Unit)
 | []=>.inl (now,rs,n,i,r.1,r.2.1,r.2.2.1.1,r.2.2.2.1,r.2.2.2.2.1,())
 |a::l=>.inr (now,(a::l).length,rs,n,i,a::l,r.1,r.2.1,r.2.2.1.1,r.2.2.2.1,r.2.2.2.2.1,())
theorem agS {n:Nat} (h:n≤384):(decide (n*24≤aV) && decide (n≤aV))=true:=by
 have:aV=70368744177664:=by decide
 rw [this]
 simp;omega
theorem agT (now:Int) (rs:List am) (n i:Int) (r:am) (ht:r.2.2.2.2.1.length≤12) (pre:List cr) (hp:pre.length+12≤384):
  jq (FS now rs n i r r.2.2.2.2.1 (r.2.2.2.2.1.length:Int) (ofNat 0) pre)=some (outI now rs n i r (pre++jH r.1 now 0 r.2.2.2.2.1)):=by
 obtain⟨y,hy,rfl⟩:=ba (st:=eB) r.2.2.2.2.1.length (fun j (A:List cr)=>FS now rs n i r r.2.2.2.2.1 (r.2.2.2.2.1.length:Int) (j:Int) A) (fun j A=>A=pre++jH r.1 now 0 (r.2.2.2.2.1.take j))
  (fun y=>y=outI now rs n i r (pre++jH r.1 now 0 r.2.2.2.2.1)) (fun j A h hx=>by
   have hs:=Oq (id:=r.1) (now:=now) h (aa ab)
   have hlen:A.length+1≤384:=by
    rw [hx,List.length_append]
    have:=Bq r.1 now (r.2.2.2.2.1.take j) 0
    rw [length_take]at this
    omega
   obtain⟨t,hte⟩:∃t:aq,r.2.2.2.2.1.getD j (aa ab)=t:=⟨_,rfl⟩
   rw [hte]at hs
   refine .inl ?_
   cases A with
   |nil=>
    simp only [FS,eB,kD,jo,bw h,aL h,aF h,cond_true,toNat_natCast,hte,eT,f176,bind_some,la,fC]
    rw [aY (by omega)]
    rcases hd:ed t now with _|_
    ·rw [hd]at hs
     exact⟨[],rfl,by rw [hs,←append_assoc,←hx];rfl⟩
    ·rw [hd]at hs
     exact⟨[(r.1,(j:Int),t.2.2.1,())],rfl,by rw [hs,←append_assoc,←hx];rfl⟩
   |cons a l=>
    simp only [FS,eB,kE,jp,bw h,aL h,aF h,cond_true,toNat_natCast,hte,eT,f176,bind_some,la,fC]
    rw [aY (by omega)]
    rcases hd:ed t now with _|_
    ·rw [hd]at hs
     exact⟨a::l,rfl,by rw [hs,←append_assoc,←hx];simp⟩
    ·rw [hd]at hs
     refine⟨(a::l)++ [(r.1,(j:Int),t.2.2.1,())],?_,by rw [hs,←append_assoc,←hx];rfl⟩
     have e1:decide (0+(a::l).length≤(a::l).length)=true:=decide_eq_true (by omega)
     have e2:decide (0+(a::l).length=(a::l).length)=true:=decide_eq_true (by omega)
     have e3:=agS (n:=(a::l).length+ [(r.1,(j:Int),t.2.2.1,())].length) hlen
     rw [cond_true,e1,cond_true,e3,cond_true,e2,cond_true]
     rfl) (fun A hx=>⟨outI now rs n i r A,by cases A<;>simp only [FS,outI,eB,kD,jo,kE,jp,bv,cond_false],by rw [hx,take_length]⟩) pre (by simp [jH])
 exact hy
def FU (now:Int) (rs:List am) (n i:Int):List cr→(Int×List am×Int×Int×Unit)⊕(Int×Nat×List am×Int×Int×List cr×Unit)
 | []=>.inl (now,rs,n,i,())
 |a::l=>.inr (now,(a::l).length,rs,n,i,a::l,())
def FV:List cr→Unit⊕(Nat×List cr×Unit)
 | []=>.inl ()
 |a::l=>.inr ((a::l).length,a::l,())
theorem l66 (now:Int) (rs:List am) (hm:rs.length≤32) (ht:∀r∈rs,r.2.2.2.2.1.length≤12):
  nU (.inl (now,rs,(rs.length:Int),ofNat 0,()))=some (FV (pl rs now)):=by
 obtain⟨y,hy,rfl⟩:=ba (st:=eC) rs.length (fun j (A:List cr)=>FU now rs (rs.length:Int) (j:Int) A) (fun j A=>A=pl (rs.take j) now)
  (fun y=>y=FV (pl rs now)) (fun j A h hx=>by
   have hs:=Tm h now (aa ae)
   have htj:=ht _ (aG h (aa ae))
   have hlen:A.length+12≤384:=by
    rw [hx]
    have:=FR (now:=now) (rs:=rs.take j) fun r hr=>ht r (List.mem_of_mem_take hr)
    rw [length_take]at this
    omega
   refine .inl ⟨A++jH (rs.getD j (aa ae)).1 now 0 (rs.getD j (aa ae)).2.2.2.2.1,?_,by rw [hs,←hx]⟩
   generalize hrr:rs.getD j (aa ae)=r at htj
   have h1:=agT now rs (rs.length:Int) (j:Int) r htj A hlen
   cases A with
   |nil=>
    simp only [FS]at h1
    simp only [FU,eC,kF,bw h,aL h,aF h,cond_true,toNat_natCast,hrr,h1,bind_some]
    rw [nil_append]
    cases jH r.1 now 0 r.2.2.2.2.1 with
    |nil=>simp only [outI,FU];rw [aY (by omega)]
    |cons a l=>simp only [outI,FU];rw [aY (by omega)]
   |cons a l=>
    simp only [FS]at h1
    simp only [FU,eC,kG,bw h,aL h,aF h,cond_true,toNat_natCast,hrr,h1,bind_some]
    simp only [cons_append,outI,FU]
    rw [aY (by omega)]) (fun A hx=>⟨FV A,by cases A<;>simp only [FU,FV,eC,kF,kG,bv,cond_false],by rw [hx,take_length]⟩) [] (by simp [pl])
 exact hy
def Rv (S:List cr):Prop:=S.Pairwise (fun x y=>¬(y.2.2.1<x.2.2.1∨y.2.2.1=x.2.2.1∧(y.1<x.1∨y.1=x.1∧y.2.1<x.2.1)))
theorem f175 (rs:List am) (now:Int) (hm:rs.length≤32) (ht:∀r∈rs,r.2.2.2.2.1.length≤12):
  ∃S,IZ (rs,now,())=some (S,())∧S.Perm (pl rs now)∧Rv S:=by
 simp only [IZ,l66 now rs hm ht,bind_some]
 have hlen:=FR (now:=now) ht
 cases hB:pl rs now with
 |nil=>exact⟨[],rfl,.refl _,.nil⟩
 |cons a l=>
  obtain⟨S,h1,h2,h3⟩:=Lm (s:=ay) Mc (a::l) (by rw [←hB];omega)
  refine⟨S,?_,h2,h3.imp fun {x y} h=> ?_⟩
  ·simp only [FV,decide_true,cond_true]
   rw [show IM (a::l)=some S from h1,bind_some,←h2.length_eq,fC,decide_eq_true (by omega:0+S.length≤S.length)]
   cases S with
   |nil=>exact absurd h2.length_eq (by simp)
   |cons b m=>rfl
  ·intro hlt
   unfold ltOf at h
   rw [NT]at h
   exact absurd ((Fp y x).2 hlt) (of_decide_eq_false h)
def LT (x y:cr):Prop:=x.2.2.1<y.2.2.1∨x.2.2.1=y.2.2.1∧(x.1<y.1∨x.1=y.1∧x.2.1<y.2.1)
instance (x y:cr):Decidable (LT x y):=inferInstanceAs (Decidable (_∨_))
theorem LT.trans {x y z:cr} (h1:LT x y) (h2:LT y z):LT x z:=by unfold LT at*;omega
theorem agU {rs:List am} (hf:eP rs):∀r∈rs,r.2.2.2.2.1.length≤12:=fun r hr=>by
 obtain⟨i,hi,rfl⟩:=List.mem_iff_getElem.1 hr
 have h:=hf.2.chk i hi
 rw [bD hi]at h
 rw [h.len];exact h.dag.1.2
theorem pj:((0:Int) !=ofNat 0)=false:=rfl
theorem bY (rs:List am) (hm:rs.length≤9223372036854775807) (hr:∀r∈rs,bK r) (id:Int):
  ∃(i:Int) (b:Bool) (e:Int),cF (rs,id,())=some (i,b,e,())∧((e≠0∧b=false∧¬eP rs)∨(e=0∧eP rs∧((b=true∧∃n:Nat,i=n∧n<rs.length∧(rs.getD n (aa ae)).1=id)∨(b=false∧∀n:Nat,n<rs.length→(rs.getD n (aa ae)).1≠id)))):=by
 obtain⟨v,hv,hc⟩:=f51 rs hm hr
 rcases hc with⟨h1,rfl⟩|⟨h1,h2,rfl⟩|⟨hf,rfl⟩
 ·simp only [cF,hv,bind_some]
  exact⟨_,_,_,rfl,.inl ⟨by decide,rfl,fun h=>by have:=h.1;omega⟩⟩
 ·simp only [cF,hv,bind_some]
  exact⟨_,_,_,rfl,.inl ⟨by decide,rfl,fun h=>h2 h.2⟩⟩
 ·obtain⟨p,e1,e2,e3,e4⟩:=l32 rs hf id
  simp only [cF,hv,bind_some,pj,cond_false,e1,f205]
  by_cases h:p<rs.length
  ·simp only [bw h,aL h,aF h,cond_true,toNat_natCast,bind_some]
   have h6:=e4 p (le_refl _) h
   by_cases he:(rs.getD p (aa ae)).1=id
   ·rw [if_neg (by omega),if_neg (by omega)]
    exact⟨_,_,_,rfl,.inr ⟨rfl,hf,.inl ⟨rfl,p,rfl,h,he⟩⟩⟩
   ·rw [if_neg (by omega),if_pos (by omega)]
    refine⟨_,_,_,rfl,.inr ⟨rfl,hf,.inr ⟨rfl,fun n hn=> ?_⟩⟩⟩
    rcases Nat.lt_trichotomy n p with h7|h7|h7
    ·have:=e3 n h7;omega
    ·rw [h7];exact he
    ·have:=hf.2.up p n h7 hn;omega
  ·have e:p=rs.length:=by omega
   subst e
   simp only [bv,cond_false]
   exact⟨_,_,_,rfl,.inr ⟨rfl,hf,.inr ⟨rfl,fun n hn=>by have:=e3 n hn;omega⟩⟩⟩
theorem oC (rs:List am) (hm:rs.length≤9223372036854775807) (hr:∀r∈rs,bK r) (key:ByteArray):
  ∃(i:Int) (b:Bool) (e:Int),oe (rs,key,())=some (i,b,e,())∧((e≠0∧b=false∧¬eP rs)∨(e=0∧eP rs∧((b=true∧∃n:Nat,n<rs.length∧(rs.getD n (aa ae)).1=i∧cK (rs.getD n (aa ae))=key.toList)∨(b=false∧∀n:Nat,n<rs.length→cK (rs.getD n (aa ae))≠key.toList)))):=by
 obtain⟨v,hv,hc⟩:=f51 rs hm hr
 rcases hc with⟨h1,rfl⟩|⟨h1,h2,rfl⟩|⟨hf,rfl⟩
 ·simp only [oe,hv,bind_some]
  exact⟨_,_,_,rfl,.inl ⟨by decide,rfl,fun h=>by have:=h.1;omega⟩⟩
 ·simp only [oe,hv,bind_some]
  exact⟨_,_,_,rfl,.inl ⟨by decide,rfl,fun h=>h2 h.2⟩⟩
 ·obtain⟨y,hy,hq⟩:=ba (st:=fT) rs.length (fun i (_:Unit)=>(key,rs,(rs.length:Int),(i:Int),())) (fun i _=>∀n:Nat,n<i→cK (rs.getD n (aa ae))≠key.toList)
   (fun y=>(∃n:Nat,n<rs.length∧cK (rs.getD n (aa ae))=key.toList∧∃z,y= .inl ((rs.getD n (aa ae)).1,true,ofNat 0,z))∨(y= .inr ()∧∀n:Nat,n<rs.length→cK (rs.getD n (aa ae))≠key.toList)) (fun i _ h hx=>by
    simp only [fT,kO,bw h,aL h,aF h,cond_true,toNat_natCast]
    by_cases hk:cK (rs.getD i (aa ae))=key.toList
    ·rw [show(ByteArray.toList (rs.getD i (aa ae)).2.1==key.toList)=true from by simpa using hk,cond_true]
     exact .inr ⟨_,rfl,.inl ⟨i,h,hk,_,rfl⟩⟩
    ·rw [show(ByteArray.toList (rs.getD i (aa ae)).2.1==key.toList)=false from by simpa using hk,cond_false,aY (by omega)]
     exact .inl ⟨(),rfl,cV hx hk⟩) (fun _ hx=>⟨.inr (),by simp only [fT,kO,bv,cond_false],.inr ⟨rfl,hx⟩⟩) () (fun n h=>absurd h (not_lt_zero _))
  have hy':od (key,rs,(rs.length:Int),ofNat 0,())=some y:=hy
  simp only [oe,hv,bind_some,pj,cond_false,hy']
  rcases hq with⟨n,h1,h2,z,rfl⟩|⟨rfl,h⟩
  ·exact⟨_,_,_,rfl,.inr ⟨rfl,hf,.inl ⟨rfl,n,h1,rfl,h2⟩⟩⟩
  ·exact⟨_,_,_,rfl,.inr ⟨rfl,hf,.inr ⟨rfl,h⟩⟩⟩
theorem Mo (r:am) (P:zP→Prop) (hp:∀(k:Nat) (v:Int),k<r.2.2.2.2.1.length→(r.2.2.2.2.1.getD k (aa ab)).1=1→P (v,true,r.1,(k:Int),ofNat 0)):∀(j:Nat) (s:zP),j≤r.2.2.2.2.1.length→P s→P (dv (dO r) 0 (r.2.2.2.2.1.take j) s)
 |0,s,_,h=>by rw [take_zero];exact h
 |j+1,s,hj,h=>by
  rw [zN _ hj]
  have h2:=Mo r P hp j s (by omega) h
  generalize dv (dO r) 0 (r.2.2.2.2.1.take j) s=s2 at h2
  unfold dO
  by_cases c:(r.2.2.2.2.1.getD j (aa ab)).1=1
  ·rw [show((r.2.2.2.2.1.getD j (aa ab)).1==ofNat 1)=true from by simpa using c,cond_true]
   cases s2.2.1 with
   |false=>exact hp j _ hj c
   |true=>
    rw [Bool.not_true,cond_false]
    cases hd:decide ((r.2.2.2.2.1.getD j (aa ab)).2.2.2.2.1<s2.1)with
    |true=>exact hp j _ hj c
    |false=>exact h2
  ·rw [show((r.2.2.2.2.1.getD j (aa ab)).1==ofNat 1)=false from by simpa using c,cond_false]
   exact h2
theorem Mq (rs:List am) (P:zP→Prop) (h0:P mC) (hp:∀(n k:Nat) (v:Int),n<rs.length→k<(rs.getD n (aa ae)).2.2.2.2.1.length→((rs.getD n (aa ae)).2.2.2.2.1.getD k (aa ab)).1=1→P (v,true,(rs.getD n (aa ae)).1,(k:Int),ofNat 0)):∀j:Nat,j≤rs.length→P (eh dO (rs.take j) mC)
 |0,_=>by rw [take_zero];exact h0
 |j+1,hj=>by
  rw [zO _ hj]
  have:=Mo (rs.getD j (aa ae)) P (fun k v h1 h2=>hp j k v hj h1 h2) _ _ (le_refl _) (Mq rs P h0 hp j (by omega))
  rw [take_length]at this
  exact this
theorem mW (rs:List am) (hm:rs.length≤9223372036854775807) (hr:∀r∈rs,bK r):
  ∃(p:cr) (b:Bool) (e:Int),om (rs,())=some (p,b,e,())∧((e≠0∧b=false∧¬eP rs)∨(e=0∧eP rs∧b=(eh dO rs mC).2.1∧p=((eh dO rs mC).2.2.1,(eh dO rs mC).2.2.2.1,(eh dO rs mC).2.2.2.2,())∧
   (b=true→∃n k:Nat,n<rs.length∧k<(rs.getD n (aa ae)).2.2.2.2.1.length∧((rs.getD n (aa ae)).2.2.2.2.1.getD k (aa ab)).1=1∧p.1=(rs.getD n (aa ae)).1∧p.2.1=(k:Int)))):=by
 obtain⟨v,hv,hc⟩:=f51 rs hm hr
 rcases hc with⟨h1,rfl⟩|⟨h1,h2,rfl⟩|⟨hf,rfl⟩
 ·simp only [om,hv,bind_some]
  exact⟨_,_,_,rfl,.inl ⟨by decide,rfl,fun h=>by have:=h.1;omega⟩⟩
 ·simp only [om,hv,bind_some]
  exact⟨_,_,_,rfl,.inl ⟨by decide,rfl,fun h=>h2 h.2⟩⟩
 ·obtain⟨a1,a2,a3,e1⟩:=l35 rs hm hr
  simp only [om,hv,bind_some,pj,cond_false,e1]
  refine⟨_,_,_,rfl,.inr ⟨rfl,hf,rfl,rfl,?_⟩⟩
  have:=Mq rs (fun s=>s.2.1=true→∃n k:Nat,n<rs.length∧k<(rs.getD n (aa ae)).2.2.2.2.1.length∧((rs.getD n (aa ae)).2.2.2.2.1.getD k (aa ab)).1=1∧s.2.2.1=(rs.getD n (aa ae)).1∧s.2.2.2.1=(k:Int)) (fun h=>nomatch h) (fun n k v h1 h2 h3 _=>⟨n,k,h1,h2,h3,rfl,rfl⟩) rs.length (le_refl _)
  rw [take_length]at this
  exact this
abbrev aO:=Int×Int×Int×Int×Unit
abbrev cg:=Int×Int×Int×Int×Int×Int×List am×List aO×Unit
abbrev bo:=Int×ByteArray×(List aR×Unit)×Int×Int×Int×Int×Int×Unit
abbrev jI:=Int×Int×Int×Int×am×List aO×Unit
theorem f101 (ts:List aq) (h:ts.length≤900):IU (ts,())=some (ts,()):=by
 cases ts with
 |nil=>rfl
 |cons a l=>
  have r1:(decide ((a::l).length*40≤aV) && decide ((a::l).length≤aV))=true:=wy (by omega) (by omega)
  have d1:decide ((a::l).length≤(a::l).length)=true:=decide_eq_true (le_refl _)
  simp only [IU,IR,isEmpty_cons,cond_false,List.replicate_zero,drop_zero,length_nil,take_zero,nil_append,zero_add,r1,d1,cond_true,take_length]
theorem f102 (ts:List Int) (h:ts.length≤900):Ff (ts,())=some (ts,()):=by
 cases ts with
 |nil=>rfl
 |cons a l=>
  have r1:(decide ((a::l).length*8≤aV) && decide ((a::l).length≤aV))=true:=wy (by omega) (by omega)
  have d1:decide ((a::l).length≤(a::l).length)=true:=decide_eq_true (le_refl _)
  simp only [Ff,IV,isEmpty_cons,cond_false,List.replicate_zero,drop_zero,length_nil,take_zero,nil_append,zero_add,r1,d1,cond_true,take_length]
theorem f61 (ts:List aO) (h:ts.length≤900):qj (ts,())=some (ts,()):=by
 cases ts with
 |nil=>rfl
 |cons a l=>
  have r1:(decide ((a::l).length*32≤aV) && decide ((a::l).length≤aV))=true:=wy (by omega) (by omega)
  have d1:decide ((a::l).length≤(a::l).length)=true:=decide_eq_true (le_refl _)
  simp only [qj,NQ,isEmpty_cons,cond_false,List.replicate_zero,drop_zero,length_nil,take_zero,nil_append,zero_add,r1,d1,cond_true,take_length]
def Mr (r:am):Prop:=SmR r∧r.2.2.2.2.1≠ []
abbrev be:ByteArray:={data:= #[]}
section
variable (ns:List aR) (id:Int) (key:ByteArray) (st:Int) (ts:List aq)
def Rw (i:Int):List aR→(List aR×Int×Int×Int×ByteArray×Int×Nat×List aq×Int×ByteArray×Int×Unit)⊕(List aR×Int×Int×Int×ByteArray×Nat×Int×Nat×List aR×List aq×Int×ByteArray×Int×Unit)
 | []=>.inl (ns,(ns.length:Int),i,id,key,st,ts.length,ts,ofNat 0,be,ofNat 0,())
 |a::l=>.inr (ns,(ns.length:Int),i,id,key,(a::l).length,st,ts.length,a::l,ts,ofNat 0,be,ofNat 0,())
def Br:List aR→(Int×ByteArray×Int×Nat×List aq×Int×ByteArray×Int×Unit)⊕(Int×ByteArray×Nat×Int×Nat×List aR×List aq×Int×ByteArray×Int×Unit)
 | []=>.inl (id,key,st,ts.length,ts,ofNat 0,be,ofNat 0,())
 |a::l=>.inr (id,key,(a::l).length,st,ts.length,a::l,ts,ofNat 0,be,ofNat 0,())
theorem l62 (hs:FQ ns):pB (.inl (ns,(ns.length:Int),ofNat 0,id,key,st,ts.length,ts,ofNat 0,be,ofNat 0,()))=some (Br id key st ts ns):=by
 obtain⟨hs1,hs2⟩:=hs
 obtain⟨y,hy,rfl⟩:=ba (st:=fe) ns.length (fun i (A:List aR)=>Rw ns id key st ts (i:Int) A) (fun i A=>A=ns.take i) (fun y=>y=Br id key st ts ns) (fun i A h hx=>by
   have hn:=hs2 i h
   have hlen:A.length=i:=by rw [hx,length_take];omega
   have ht:=rQ h (aa ah)
   rw [←hx]at ht
   obtain⟨nd,hnd⟩:∃nd:aR,ns.getD i (aa ah)=nd:=⟨_,rfl⟩
   rw [hnd]at hn ht
   refine .inl ⟨A++ [nd],?_,ht.symm⟩
   obtain⟨l,n1,n2,_⟩:=nd
   simp only at hn
   have hc:=f102 l (by omega)
   cases A with
   |nil=>
    simp only [Rw,fe,lW,bw h,aL h,aF h,cond_true,toNat_natCast,hnd,hc,bind_some,zero_add,la,fC]
    rw [aY (by omega)]
    rfl
   |cons a B=>
    have hB:(a::B).length+1≤1000:=by rw [hlen];omega
    have e1:decide ((a::B).length≤(a::B).length)=true:=decide_eq_true (le_refl _)
    have e2:decide ((a::B).length=(a::B).length)=true:=decide_eq_true rfl
    have e3:∀v:aR,(decide (((a::B).length+ [v].length)*40≤aV) && decide ((a::B).length+ [v].length≤aV))=true:=fun v=>wy (n:=(a::B).length+ [v].length) hB (by omega)
    simp only [Rw,fe,lX,kw,bw h,aL h,aF h,cond_true,toNat_natCast,hnd,hc,bind_some,zero_add,la,fC,e1,e2,e3]
    rw [aY (by omega)]
    rfl) (fun A hx=>⟨Br id key st ts A,by cases A<;>simp only [Rw,Br,fe,lW,lX,kw,bv,cond_false],by rw [hx,take_length]⟩) [] (by simp)
 exact hy
end
theorem f62 (r:am) (hs:Mr r):jQ (r,())=some (r,()):=by
 obtain⟨⟨h1,h2⟩,h3⟩:=hs
 obtain⟨id,key,⟨ns,_⟩,st,ts,_⟩:=r
 simp only at h1 h2 h3
 have hc:=f101 ts (by omega)
 have d2:decide (ts.length≤ts.length)=true:=decide_eq_true (le_refl _)
 simp only [jQ,hc,bind_some]
 rw [show List.isEmpty ts=false by cases ts<;>simp_all,cond_false,l62 ns id key st ts h1]
 cases ns with
 |nil=>simp only [Br,bind_some,zero_add,d2,cond_true,fC]
 |cons a l=>
  have d1:decide ((a::l).length≤(a::l).length)=true:=decide_eq_true (le_refl _)
  simp only [Br,bind_some,zero_add,d1,d2,cond_true,fC]
def Cod (v:Int) (P:Prop):Prop:=(v=0∧P)∨((∃n:Nat,v=ofNat (n+1))∧¬P)
abbrev t0:aq:=(ofNat 0,ofNat 0,ofNat 0,ofNat 0,ofNat 0,())
def lc (F:Option (aq×Int×Unit)) (P:Prop) (t:aq):Prop:=(P∧F=some (t,0,()))∨(¬P∧∃n:Nat,F=some (t0,ofNat (n+1),()))
theorem Cod.ne {v:Int} {P:Prop} (h:Cod v P):((v !=ofNat 0)=false∧v=0∧P)∨((v !=ofNat 0)=true∧(∃n:Nat,v=ofNat (n+1))∧¬P):=by
 rcases h with⟨rfl,h⟩|⟨⟨n,rfl⟩,h⟩
 ·exact .inl ⟨rfl,rfl,h⟩
 ·exact .inr ⟨by simp;omega,⟨n,rfl⟩,h⟩
theorem f235 (nd:aR) (t:aq) (b:Bool) (h:ep nd) (hs:0≤t.1):∃v,IY (nd,t,b,())=some (v,())∧Cod v (cH nd t∧b=true):=by
 obtain⟨v,hv,hc⟩:=f130 nd t h hs
 simp only [IY,hv,bind_some]
 rcases hc with⟨rfl,hc⟩|⟨rfl,hc⟩
 ·rw [pj,cond_false]
  cases b with
  |true=>exact⟨_,rfl,.inl ⟨rfl,hc,rfl⟩⟩
  |false=>exact⟨_,rfl,.inr ⟨⟨1,rfl⟩,fun h=>nomatch h.2⟩⟩
 ·exact⟨_,rfl,.inr ⟨⟨7,rfl⟩,fun h=>hc h.1⟩⟩
theorem f206 (nd:aR) (t:aq) (b:Bool) (s:Int) (h:ep nd) (hs:0≤t.1):∃v,gz (nd,t,b,s,())=some (v,())∧Cod v (cH nd t∧b=true∧t.1=s):=by
 obtain⟨v,hv,hc⟩:=f235 nd t b h hs
 simp only [gz,hv,bind_some]
 rcases hc.ne with⟨h1,rfl,h2,h3⟩|⟨h1,⟨n,rfl⟩,h2⟩
 ·rw [h1,cond_false]
  by_cases c:t.1=s
  ·rw [show(t.1 !=s)=false by simp [c],cond_false];exact⟨_,rfl,.inl ⟨rfl,h2,h3,c⟩⟩
  ·rw [show(t.1 !=s)=true by simpa using c,cond_true];exact⟨_,rfl,.inr ⟨⟨239,rfl⟩,fun h=>c h.2.2⟩⟩
 ·rw [h1,cond_true];exact⟨_,rfl,.inr ⟨⟨n,rfl⟩,fun h=>h2 ⟨h.1,h.2.1⟩⟩⟩
def jR (nd:aR) (t:aq) (tk:Int):Prop:=cH nd t∧1≤tk∧bX tk∧t.1=2∧dx t=tk
theorem f209 (nd:aR) (t:aq) (b:Bool) (tk:Int) (h:ep nd) (hs:0≤t.1):∃v,AK (nd,t,b,tk,())=some (v,())∧Cod v (b=true∧jR nd t tk):=by
 have key:∀c:Bool,∃v,((gz (nd,t,c,ofNat 2,())).bind fun y=>bif y.1 !=ofNat 0 then some y else bif t.2.2.2.1 !=tk then some (ofNat 260,())else some (ofNat 0,()))=some (v,())∧Cod v (cH nd t∧c=true∧t.1=2∧dx t=tk):=fun c=>by
  obtain⟨v,hv,hc⟩:=f206 nd t c (ofNat 2) h hs
  simp only [hv,bind_some]
  rcases hc.ne with⟨h1,rfl,h2,h3,h4⟩|⟨h1,⟨n,rfl⟩,h2⟩
  ·rw [h1,cond_false]
   by_cases c2:t.2.2.2.1=tk
   ·rw [show(t.2.2.2.1 !=tk)=false by simp [c2],cond_false];exact⟨_,rfl,.inl ⟨rfl,h2,h3,h4,c2⟩⟩
   ·rw [show(t.2.2.2.1 !=tk)=true by simpa using c2,cond_true];exact⟨_,rfl,.inr ⟨⟨259,rfl⟩,fun h=>c2 h.2.2.2⟩⟩
  ·rw [h1,cond_true];exact⟨_,rfl,.inr ⟨⟨n,rfl⟩,fun h=>h2 ⟨h.1,h.2.1,h.2.2.1⟩⟩⟩
 simp only [AK]
 cases b with
 |true=>
  rw [cond_true]
  by_cases c:tk≥ofNat 1
  ·rw [decide_eq_true c,cond_true,f207,bind_some]
   obtain⟨v,hv,hc⟩:=key (decide (bX tk))
   refine⟨v,hv,?_⟩
   rcases hc with⟨rfl,h1,h2,h3,h4⟩|⟨h1,h2⟩
   ·exact .inl ⟨rfl,rfl,h1,c,of_decide_eq_true h2,h3,h4⟩
   ·exact .inr ⟨h1,fun⟨_,a,b,c,d,e⟩=>h2 ⟨a,decide_eq_true c,d,e⟩⟩
  ·rw [decide_eq_false c,cond_false]
   obtain⟨v,hv,hc⟩:=key false
   refine⟨v,hv,?_⟩
   rcases hc with⟨rfl,h1,h2,h3,h4⟩|⟨h1,h2⟩
   ·cases h2
   ·exact .inr ⟨h1,fun⟨_,a,b,c',d,e⟩=>c b⟩
 |false=>
  rw [cond_false]
  obtain⟨v,hv,hc⟩:=key false
  refine⟨v,hv,?_⟩
  rcases hc with⟨rfl,h1,h2,h3,h4⟩|⟨h1,h2⟩
  ·cases h2
  ·exact .inr ⟨h1,fun h=>nomatch h.1⟩
theorem f202 (nd:aR) (t:aq) (rk:Int) (h:ep nd) (hs:0≤t.1):lc (Fj (nd,t,rk,())) (bX rk∧cH nd t∧t.1=0) (ofNat 1,ofNat 0,ofNat 0,ofNat 0,rk,()):=by
 simp only [Fj,f207,bind_some]
 obtain⟨v,hv,hc⟩:=f206 nd t (decide (bX rk)) (ofNat 0) h hs
 simp only [hv,bind_some]
 rcases hc.ne with⟨h1,rfl,h2,h3,h4⟩|⟨h1,⟨n,rfl⟩,h2⟩
 ·rw [h1,cond_false];exact .inl ⟨⟨of_decide_eq_true h3,h2,h4⟩,rfl⟩
 ·rw [h1,cond_true];exact .inr ⟨fun⟨a,b,c⟩=>h2 ⟨b,decide_eq_true a,c⟩,n,rfl⟩
theorem f167 (nd:aR) (t:aq) (tk un:Int) (h:ep nd) (hs:0≤t.1):lc (uZ (nd,t,tk,un,())) (1≤tk∧bX tk∧bX un∧cH nd t∧t.1=1) (ofNat 2,IntKind.i64.wrap (t.2.1+ofNat 1),un,tk,ofNat 0,()):=by
 have key:∀c:Bool,lc ((gz (nd,t,c,ofNat 1,())).bind fun y=>bif y.1 !=ofNat 0 then some (t0,y)else some ((ofNat 2,IntKind.i64.wrap (t.2.1+ofNat 1),un,tk,ofNat 0,()),ofNat 0,())) (cH nd t∧c=true∧t.1=1) (ofNat 2,IntKind.i64.wrap (t.2.1+ofNat 1),un,tk,ofNat 0,()):=fun c=>by
  obtain⟨v,hv,hc⟩:=f206 nd t c (ofNat 1) h hs
  simp only [hv,bind_some]
  rcases hc.ne with⟨h1,rfl,h2⟩|⟨h1,⟨n,rfl⟩,h2⟩
  ·rw [h1,cond_false];exact .inl ⟨h2,rfl⟩
  ·rw [h1,cond_true];exact .inr ⟨h2,n,rfl⟩
 have no:∀{P:Prop},¬P→lc ((gz (nd,t,false,ofNat 1,())).bind fun y=>bif y.1 !=ofNat 0 then some (t0,y)else some ((ofNat 2,IntKind.i64.wrap (t.2.1+ofNat 1),un,tk,ofNat 0,()),ofNat 0,())) P (ofNat 2,IntKind.i64.wrap (t.2.1+ofNat 1),un,tk,ofNat 0,()):=fun hP=>by
  rcases key false with⟨⟨_,h2,_⟩,_⟩|⟨_,h2⟩
  ·cases h2
  ·exact .inr ⟨hP,h2⟩
 simp only [uZ]
 by_cases c:tk≥ofNat 1
 ·rw [decide_eq_true c,cond_true,f207,bind_some]
  by_cases c2:bX tk
  ·simp only [decide_eq_true c2,cond_true,f208,bind_some]
   rcases key (decide (bX un))with⟨⟨h1,h2,h3⟩,h4⟩|⟨h1,h2⟩
   ·exact .inl ⟨⟨c,c2,of_decide_eq_true h2,h1,h3⟩,h4⟩
   ·exact .inr ⟨fun⟨_,_,a,b,c⟩=>h1 ⟨b,decide_eq_true a,c⟩,h2⟩
  ·simp only [decide_eq_false c2,cond_false]
   exact no fun h=>c2 h.2.1
 ·rw [decide_eq_false c,cond_false]
  exact no fun h=>c h.1
theorem f169 (nd:aR) (t:aq) (tk:Int) (h:ep nd) (hs:0≤t.1):lc (Ja (nd,t,tk,())) (jR nd t tk) (ofNat 4,t.2.1,ofNat 0,ofNat 0,ofNat 0,()):=by
 obtain⟨v,hv,hc⟩:=f209 nd t true tk h hs
 simp only [Ja,hv,bind_some]
 rcases hc.ne with⟨h1,rfl,_,h2⟩|⟨h1,⟨n,rfl⟩,h2⟩
 ·rw [h1,cond_false];exact .inl ⟨h2,rfl⟩
 ·rw [h1,cond_true];exact .inr ⟨fun h=>h2 ⟨rfl,h⟩,n,rfl⟩
theorem f236 (nd:aR) (tr:Int) (h:ep nd) (ht:tr≤5):∃p,IW (nd,tr,())=some (p,())∧0≤p∧p≤1048576:=by
 obtain⟨hw0,hw1⟩:=h.2
 obtain⟨y,hy,p,rfl,h1,h2⟩:=wM (st:=iu) (fun x=>(tr-x.2.2.1).toNat) (fun x=>∃w i:Int,x=(tr,w,i,())∧0≤w∧w≤1048576∧0≤i∧i≤6) (fun y=>∃p:Int,y=(p,())∧0≤p∧p≤1048576) (fun x hx=>by
  obtain⟨w,i,rfl,h1,h2,h3,h4⟩:=hx
  simp only [iu,qh]
  by_cases c:i<tr
  ·rw [decide_eq_true c,cond_true]
   have e1:IntKind.i64.wrap (ofNat 2*w)=2*w:=by rw [IntKind.wrap_i64];simp only [bm];omega
   have e2:IntKind.i64.wrap (i+ofNat 1)=i+1:=by rw [IntKind.wrap_i64];simp only [bm];omega
   rw [e1,e2]
   refine .inl ⟨_,rfl,⟨_,_,rfl,?_,?_,by omega,by omega⟩,?_⟩
   ·simp only [bm];split<;>omega
   ·simp only [bm];split<;>omega
   ·simp only;omega
  ·rw [decide_eq_false c,cond_false]
   exact .inr ⟨_,rfl,w,rfl,h1,h2⟩) (tr,nd.2.2.1,ofNat 1,()) ⟨_,_,rfl,hw0,hw1,by decide,by decide⟩
 simp only [IW,show nJ (tr,nd.2.2.1,ofNat 1,())=some (p,())from hy,bind_some]
 exact⟨p,rfl,h1,h2⟩
def vH (nd:aR) (t:aq) (now:Int) (t':aq):Prop:=(t.2.1=nd.2.1∧t'=(ofNat 5,t.2.1,ofNat 0,ofNat 0,ofNat 0,()))∨(t.2.1≠nd.2.1∧∃u:Int,bX u∧t'=(ofNat 3,t.2.1,u,ofNat 0,ofNat 0,()))
theorem f210 (nd:aR) (t:aq) (now:Int) (h:ep nd) (ht:t.2.1≤5) (hn:bX now):∃t',Fh (nd,t,now,())=some (t',())∧vH nd t now t':=by
 simp only [Fh]
 by_cases c:t.2.1=nd.2.1
 ·rw [show(t.2.1==nd.2.1)=true by simp [c],cond_true];exact⟨_,rfl,.inl ⟨c,rfl⟩⟩
 ·obtain⟨p,hp,h1,h2⟩:=f236 nd t.2.1 h ht
  rw [show(t.2.1==nd.2.1)=false by simpa using c,cond_false]
  simp only [hp,bind_some]
  have e1:IntKind.i64.wrap (now+p)=now+p:=by have:=hn.1;have:=hn.2;rw [IntKind.wrap_i64];omega
  rw [e1]
  refine⟨_,rfl,.inr ⟨c,_,?_,rfl⟩⟩
  have:=hn.1
  simp only [bm,bX];split<;>omega
theorem FW {nd:aR} {t:aq} (h:ep nd) (ht:cH nd t):t.2.1≤5:=Int.le_trans ht.1.2 h.1.2
theorem f171 (nd:aR) (t:aq) (tk now:Int) (h:ep nd) (hs:0≤t.1):∃t',lc (AL (nd,t,tk,now,())) (bX now∧jR nd t tk) t'∧(bX now∧jR nd t tk→vH nd t now t'):=by
 obtain⟨v,hv,hc⟩:=f209 nd t (decide (bX now)) tk h hs
 simp only [AL,f208,hv,bind_some]
 rcases hc.ne with⟨h1,rfl,h3,h2⟩|⟨h1,⟨n,rfl⟩,h2⟩
 ·have hn:=of_decide_eq_true h3
  obtain⟨t',h4,h5⟩:=f210 nd t now h (FW h h2.1) hn
  rw [h1,cond_false]
  simp only [h4,bind_some]
  exact⟨t',.inl ⟨⟨hn,h2⟩,rfl⟩,fun _=>h5⟩
 ·rw [h1,cond_true];exact⟨t0,.inr ⟨fun h=>h2 ⟨decide_eq_true h.1,h.2⟩,n,rfl⟩,fun h=>absurd ⟨decide_eq_true h.1,h.2⟩ h2⟩
theorem f173 (nd:aR) (t:aq) (tk un:Int) (h:ep nd) (hs:0≤t.1):lc (AM (nd,t,tk,un,())) (bX un∧jR nd t tk) (t.1,t.2.1,un,t.2.2.2.1,t.2.2.2.2.1,()):=by
 obtain⟨v,hv,hc⟩:=f209 nd t (decide (bX un)) tk h hs
 simp only [AM,f208,hv,bind_some]
 rcases hc.ne with⟨h1,rfl,h3,h2⟩|⟨h1,⟨n,rfl⟩,h2⟩
 ·rw [h1,cond_false];exact .inl ⟨⟨of_decide_eq_true h3,h2⟩,rfl⟩
 ·rw [h1,cond_true];exact .inr ⟨fun h=>h2 ⟨decide_eq_true h.1,h.2⟩,n,rfl⟩
theorem f216 (nd:aR) (t:aq) (rk now:Int) (h:ep nd) (hs:0≤t.1):lc (AN (nd,t,rk,now,())) (bX rk∧bX now∧cH nd t∧t.1=3∧ed t now=true) (ofNat 1,t.2.1,ofNat 0,ofNat 0,rk,()):=by
 have key:∀c:Bool,lc ((gz (nd,t,c,ofNat 3,())).bind fun y=>bif y.1 !=ofNat 0 then some (t0,y)else((kj (t,now,())).bind fun y=>bif !y.1 then some (t0,ofNat 240,())else some ((ofNat 1,t.2.1,ofNat 0,ofNat 0,rk,()),ofNat 0,()))) (cH nd t∧c=true∧t.1=3∧ed t now=true) (ofNat 1,t.2.1,ofNat 0,ofNat 0,rk,()):=fun c=>by
  obtain⟨v,hv,hc⟩:=f206 nd t c (ofNat 3) h hs
  simp only [hv,bind_some,f176]
  rcases hc.ne with⟨h1,rfl,h2,h3,h4⟩|⟨h1,⟨n,rfl⟩,h2⟩
  ·rw [h1,cond_false]
   by_cases hd:ed t now=true
   ·rw [hd];exact .inl ⟨⟨h2,h3,h4,rfl⟩,rfl⟩
   ·rw [show ed t now=false by simpa using hd];exact .inr ⟨fun h=>(nomatch h.2.2.2),239,rfl⟩
  ·rw [h1,cond_true];exact .inr ⟨fun h=>h2 ⟨h.1,h.2.1,h.2.2.1⟩,n,rfl⟩
 simp only [AN,f207,bind_some]
 by_cases c:bX rk
 ·simp only [decide_eq_true c,cond_true,f208,bind_some]
  rcases key (decide (bX now))with⟨⟨h1,h2,h3,h4⟩,h5⟩|⟨h1,h2⟩
  ·exact .inl ⟨⟨c,of_decide_eq_true h2,h1,h3,h4⟩,h5⟩
  ·exact .inr ⟨fun⟨_,a,b,c,d⟩=>h1 ⟨b,decide_eq_true a,c,d⟩,h2⟩
 ·simp only [decide_eq_false c,cond_false]
  rcases key false with⟨⟨_,h2,_⟩,_⟩|⟨_,h2⟩
  ·cases h2
  ·exact .inr ⟨fun h=>c h.1,h2⟩
theorem f218 (nd:aR) (t:aq) (now:Int) (h:ep nd) (hs:0≤t.1):∃t',lc (AO (nd,t,now,())) (bX now∧cH nd t∧t.1=2∧ed t now=true) t'∧(bX now∧cH nd t∧t.1=2∧ed t now=true→vH nd t now t'):=by
 obtain⟨v,hv,hc⟩:=f206 nd t (decide (bX now)) (ofNat 2) h hs
 simp only [AO,f208,hv,bind_some,f176]
 rcases hc.ne with⟨h1,rfl,h2,h3,h4⟩|⟨h1,⟨n,rfl⟩,h2⟩
 ·have hn:=of_decide_eq_true h3
  rw [h1,cond_false]
  by_cases hd:ed t now=true
  ·obtain⟨t',h5,h6⟩:=f210 nd t now h (FW h h2) hn
   simp only [hd,h5,bind_some,Bool.not_true,cond_false]
   exact⟨t',.inl ⟨⟨hn,h2,h4,trivial⟩,rfl⟩,fun _=>h6⟩
  ·rw [show ed t now=false by simpa using hd];exact⟨t0,.inr ⟨fun h=>(nomatch h.2.2.2),239,rfl⟩,fun h=>(nomatch h.2.2.2)⟩
 ·rw [h1,cond_true];exact⟨t0,.inr ⟨fun h=>h2 ⟨h.2.1,decide_eq_true h.1,h.2.2.1⟩,n,rfl⟩,fun h=>absurd ⟨h.2.1,decide_eq_true h.1,h.2.2.1⟩ h2⟩
theorem f211 (nd:aR) (t:aq) (h:ep nd) (hs:0≤t.1):lc (pD (nd,t,())) (cH nd t∧t.1≠4∧t.1≠5∧t.1≠6) (ofNat 6,t.2.1,ofNat 0,ofNat 0,ofNat 0,()):=by
 obtain⟨v,hv,hc⟩:=f130 nd t h hs
 simp only [pD,hv,bind_some]
 rcases hc with⟨rfl,hc⟩|⟨rfl,hc⟩
 ·rw [pj,cond_false]
  by_cases c4:t.1=4
  ·rw [show(t.1==ofNat 4)=true by simp [c4]];exact .inr ⟨fun h=>h.2.1 c4,239,rfl⟩
  rw [show(t.1==ofNat 4)=false by simpa using c4,cond_false]
  by_cases c5:t.1=5
  ·rw [show(t.1==ofNat 5)=true by simp [c5]];exact .inr ⟨fun h=>h.2.2.1 c5,239,rfl⟩
  rw [show(t.1==ofNat 5)=false by simpa using c5,cond_false]
  by_cases c6:t.1=6
  ·rw [show(t.1==ofNat 6)=true by simp [c6]];exact .inr ⟨fun h=>h.2.2.2 c6,239,rfl⟩
  rw [show(t.1==ofNat 6)=false by simpa using c6,cond_false]
  exact .inl ⟨⟨hc,c4,c5,c6⟩,rfl⟩
 ·exact .inr ⟨fun h=>hc h.1,7,rfl⟩
abbrev ac7:=(List aR×Int×Int×List aq×Int×ByteArray×List aR×Int×Nat×Unit)→Option (List aq×Int×ByteArray×List aR×Int×Nat×Unit)
noncomputable def pm (D:aR→aq→Option (aq×Int×Unit)) (L:ac7) (r:am) (i:Int):Option (am×Int×Unit):=(sW (r,())).bind fun y221=>df y221.1 (bif decide (i<ofNat 0)then(some (aP,ofNat 2,()))else bif decide (i≥(↑(length r.2.2.2.2.1):Int))then(some (aP,ofNat 2,()))else bif r.2.2.2.1 !=ofNat 1 then(some (aP,ofNat 250,()))else bif aj 0 i ((↑(length r.2.2.1.1):Int)-1)then(bif decide (toNat i<length r.2.2.1.1)then(bif aj 0 i ((↑(length r.2.2.2.2.1):Int)-1)then(bif decide (toNat i<length r.2.2.2.2.1)then((D (getD r.2.2.1.1 i.toNat (aa ah)) (getD r.2.2.2.2.1 i.toNat (aa ab))).bind fun y222=>df y222.2.1 ((jQ (r,())).bind fun y223=>bif aj 0 i ((↑(length y223.1.2.2.2.2.1):Int)-1)then(bif decide (0+toNat i<length y223.1.2.2.2.2.1)then(bif y222.1.1==ofNat 5 then((L (y223.1.2.2.1.1,(↑(length y223.1.2.2.1.1):Int),ofNat 0,set y223.1.2.2.2.2.1 (0+toNat i) y222.1,y223.1.1,y223.1.2.1,y223.1.2.2.1.1,ofNat 3,length y223.1.2.2.2.2.1,())).bind fun y224=>bif decide (0+length y223.1.2.2.2.2.1≤y224.1.length)then(some ((y223.1.1,y223.1.2.1,y223.1.2.2.1,ofNat 3,take y223.1.2.2.2.2.1.length (drop 0 y224.1),()),ofNat 0,()))else none)else bif decide (0+length y223.1.2.2.2.2.1≤(set y223.1.2.2.2.2.1 (0+toNat i) y222.1).length)then((jr ((y223.1.1,y223.1.2.1,y223.1.2.2.1,y223.1.2.2.2.1,take y223.1.2.2.2.2.1.length (drop 0 (y223.1.2.2.2.2.1.set (0+i.toNat) y222.1)),()),take ((replicate 1 (ofNat 0)).set 0 (ofNat 4)).length (drop 0 ((replicate 1 (ofNat 0)).set 0 (ofNat 4))),())).bind fun y225=>bif y225.1 then(bif decide (0+length y223.1.2.2.2.2.1≤(set y223.1.2.2.2.2.1 (0+toNat i) y222.1).length)then(some ((y223.1.1,y223.1.2.1,y223.1.2.2.1,ofNat 2,take y223.1.2.2.2.2.1.length (drop 0 (y223.1.2.2.2.2.1.set (0+i.toNat) y222.1)),()),ofNat 0,()))else none)else bif decide (0+length y223.1.2.2.2.2.1≤(set y223.1.2.2.2.2.1 (0+toNat i) y222.1).length)then(some ((y223.1.1,y223.1.2.1,y223.1.2.2.1,y223.1.2.2.2.1,take y223.1.2.2.2.2.1.length (drop 0 (y223.1.2.2.2.2.1.set (0+i.toNat) y222.1)),()),ofNat 0,()))else none)else none)else none)else none) fun j226=>some (aP,ofNat (j226+1),()))else none)else none)else none)else none) fun j227=>some (aP,ofNat (j227+1),())
theorem FX (r:am) (i tk un:Int):xK (r,i,tk,un,())=pm (fun nd t=>uZ (nd,t,tk,un,())) cQ r i:=rfl
theorem Tn (r:am) (i tk now:Int):Fk (r,i,tk,now,())=pm (fun nd t=>AL (nd,t,tk,now,())) cQ r i:=rfl
theorem To (r:am) (i tk un:Int):Fl (r,i,tk,un,())=pm (fun nd t=>AM (nd,t,tk,un,())) cQ r i:=rfl
theorem Tp (r:am) (i rk now:Int):nZ (r,i,rk,now,())=pm (fun nd t=>AN (nd,t,rk,now,())) cQ r i:=rfl
theorem Ot (r:am) (i now:Int):oc (r,i,now,())=pm (fun nd t=>AO (nd,t,now,())) cQ r i:=rfl
theorem Hs {i n:Int} {l:List Int} (h:∀j,j<l.length→oB i n l j):∀j:Nat,j<l.length→(j:Int)≤l.getD j z0
 |0,h0=>(h 0 h0).1
 |j+1,hj=>by
  have h1:=Hs h j (by omega)
  have h2:=(h (j+1) hj).2.2.2 (Nat.succ_pos _)
  rw [Nat.add_sub_cancel]at h2
  omega
theorem xT {i:Int} {n:Nat} {l:List Int} (h:∀j,j<l.length→oB i n l j):l.length≤n:=by
 rcases Nat.eq_zero_or_pos l.length with h0|h0
 ·omega
 ·have h1:=Hs h (l.length-1) (by omega)
  have h2:=(h (l.length-1) (by omega)).2.1
  omega
theorem Cl {ns:List aR} (h:ub ns):FQ ns:=⟨by have:=h.1.2;omega,fun i hi=>by
 have:=xT (h.2.1 i hi).2.2
 have:=h.1.2
 omega⟩
theorem qG {r:am} (h:ROk r):Mr r:=by
 have hl:=h.len
 have h1:=h.dag.1
 refine⟨⟨Cl h.dag,by omega⟩,fun he=> ?_⟩
 rw [he]at hl
 simp only [length_nil]at hl
 omega
def DP (nd:aR) (t:aq):Prop:=cH nd t∧t.1≠4∧t.1≠5∧t.1≠6
abbrev dr (t:aq):aq:=(ofNat 6,t.2.1,ofNat 0,ofNat 0,ofNat 0,())
def Ou (ns:List aR) (ts ts':List aq) (j:Nat):Prop:=(¬DP (ns.getD j (aa ah)) (ts.getD j (aa ab))∧ts'.getD j (aa ab)=ts.getD j (aa ab))∨(DP (ns.getD j (aa ah)) (ts.getD j (aa ab))∧ts'.getD j (aa ab)=dr (ts.getD j (aa ab)))
def iv (ns:List aR) (ts ts':List aq):Prop:=ts'.length=ts.length∧∀j:Nat,j<ts.length→Ou ns ts ts' j
theorem bq {l:List aq} {i:Nat} (h:i<l.length) (v:aq) (j:Nat):(l.set i v).getD j (aa ab)=if j=i then v else l.getD j (aa ab):=by
 simp only [getD_eq_getElem?_getD,List.getElem?_set]
 by_cases e:i=j
 ·subst e;simp [h]
 ·rw [if_neg e,if_neg (fun h=>e h.symm)]
theorem gM {l:List aq} {P:aq→Prop} (h:∀j:Nat,j<l.length→P (l.getD j (aa ab))):∀t∈l,P t:=fun t ht=>by
 obtain⟨j,hj,rfl⟩:=List.getElem_of_mem ht
 have:=h j hj
 rwa [getD_eq_getElem?_getD,List.getElem?_eq_getElem hj]at this
theorem Ht (ns:List aR) (hn:∀j,j<ns.length→ep (ns.getD j (aa ah))) (hl:ns.length≤12) (ts:List aq) (hts:ts.length=ns.length) (hs:∀t∈ts,0≤t.1) (id:Int) (key:ByteArray) (st:Int):
  ∃ts',cQ (ns,(ns.length:Int),ofNat 0,ts,id,key,ns,st,ts.length,())=some (ts',id,key,ns,st,ts.length,())∧iv ns ts ts'∧∀t∈ts',0≤t.1:=by
 obtain⟨y,hy,ts',rfl,h1⟩:=ba (st:=fX) ns.length (fun i (A:List aq)=>(ns,(ns.length:Int),(i:Int),A,id,key,ns,st,ts.length,())) (fun i A=>A.length=ts.length∧(∀t∈A,0≤t.1)∧(∀j:Nat,j<i→Ou ns ts A j)∧∀j:Nat,i≤j→A.getD j (aa ab)=ts.getD j (aa ab))
  (fun y=>∃ts',y=(ts',id,key,ns,st,ts.length,())∧iv ns ts ts'∧∀t∈ts',0≤t.1) (fun i A h hx=>by
   obtain⟨h1,h2,h4,h3⟩:=hx
   have hiA:i<A.length:=by rw [h1];omega
   have hit:i<ts.length:=by omega
   have hsi:0≤(A.getD i (aa ab)).1:=h2 _ (aG hiA _)
   simp only [fX,kS,jw,bw h,aL h,aF h,aL hit,cond_true,toNat_natCast,zero_add,decide_eq_true hiA,eN,eT]
   rcases f211 (ns.getD i (aa ah)) (A.getD i (aa ab)) (hn i h) hsi with⟨hp,he⟩|⟨hp,n,he⟩
   ·simp only [he,bind_some]
    refine .inl ⟨A.set i (dr (A.getD i (aa ab))),by rw [aY (by omega)];rfl,by rw [length_set];exact h1,?_,fun j hj=> ?_,fun j hj=> ?_⟩
    ·refine gM fun j hj=> ?_
     rw [bq hiA]
     split
     ·exact natCast_nonneg 6
     ·exact h2 _ (aG (by rw [length_set]at hj;exact hj) _)
    ·unfold Ou
     rw [bq hiA]
     by_cases e:j=i
     ·subst e
      rw [if_pos rfl]
      rw [h3 j (le_refl _)]at hp⊢
      exact .inr ⟨hp,rfl⟩
     ·rw [if_neg e];exact h4 j (by omega)
    ·rw [bq hiA,if_neg (by omega)]
     exact h3 j (by omega)
   ·simp only [he,bind_some]
    refine .inl ⟨A,?_,h1,h2,fun j hj=> ?_,fun j hj=>h3 j (by omega)⟩
    ·rw [show(ofNat (n+1)==ofNat 0)=false from rfl,cond_false,aY (by omega)]
    ·by_cases e:j=i
     ·subst e
      rw [h3 j (le_refl _)]at hp
      exact .inl ⟨hp,h3 j (le_refl _)⟩
     ·exact h4 j (by omega)) (fun A hx=>⟨_,by simp only [fX,kS,jw,bv,cond_false],A,rfl,⟨hx.1,fun j hj=>hx.2.2.1 j (by omega)⟩,hx.2.1⟩) ts ⟨rfl,hs,fun j h=>absurd h (not_lt_zero _),fun _ _=>rfl⟩
 exact⟨ts',hy,h1⟩
structure Turn (r:am) (i:Nat) (t:aq) (r':am):Prop where
 id:r'.1=r.1
 key:r'.2.1=r.2.1
 ns:r'.2.2.1=r.2.2.1
 len:r'.2.2.2.2.1.length=r.2.2.2.2.1.length
 pos:∀t∈r'.2.2.2.2.1,0≤t.1
 how:(t.1=5∧r'.2.2.2.1=3∧iv r.2.2.1.1 (r.2.2.2.2.1.set i t) r'.2.2.2.2.1)∨
  (t.1≠5∧r'.2.2.2.2.1=r.2.2.2.2.1.set i t∧(((∀t'∈r.2.2.2.2.1.set i t,t'.1=4)∧r'.2.2.2.1=2)∨(¬(∀t'∈r.2.2.2.2.1.set i t,t'.1=4)∧r'.2.2.2.1=1)))
theorem mX (r:am) (hr:bK r) (i:Int) (D:aR→aq→Option (aq×Int×Unit)) (hD:∀nd t,ep nd→0≤t.1→cH nd t→(∃t',D nd t=some (t',0,())∧0≤t'.1)∨∃n:Nat,D nd t=some (t0,ofNat (n+1),())):
  ∃(r':am) (e:Int),pm D cQ r i=some (r',e,())∧((e=0∧ROk r∧r.2.2.2.1=1∧∃(k:Nat) (t':aq),i=k∧k<r.2.2.2.2.1.length∧D (r.2.2.1.1.getD k (aa ah)) (r.2.2.2.2.1.getD k (aa ab))=some (t',0,())∧Turn r k t' r')∨((∃n:Nat,e=ofNat (n+1))∧r'=aP∧
   ¬(ROk r∧r.2.2.2.1=1∧∃(k:Nat) (t':aq),i=k∧k<r.2.2.2.2.1.length∧D (r.2.2.1.1.getD k (aa ah)) (r.2.2.2.2.1.getD k (aa ab))=some (t',0,())))):=by
 obtain⟨v,hv,hc⟩:=f89 r hr
 rcases hc with⟨rfl,hc⟩|⟨rfl,hc⟩
 ·have gT:=f62 r (qG hc)
  have hdag:=hc.dag
  have hlen:=hc.len
  have htk:=hc.tks
  obtain⟨id,key,⟨ns,_⟩,st,ts,_⟩:=r
  try simp only at hdag
  simp only at hlen htk
  have fZ:=hdag.1.2
  simp only [pm,hv,bind_some,cM]
  by_cases c1:i<ofNat 0
  ·rw [decide_eq_true c1,cond_true]
   exact⟨_,_,rfl,.inr ⟨⟨1,rfl⟩,rfl,fun⟨_,_,k,t',h1,_⟩=>by simp only [bm]at c1;omega⟩⟩
  rw [decide_eq_false c1,cond_false]
  by_cases c2:i≥(ts.length:Int)
  ·rw [decide_eq_true c2,cond_true]
   exact⟨_,_,rfl,.inr ⟨⟨1,rfl⟩,rfl,fun⟨_,_,k,t',h1,h2,_⟩=>by omega⟩⟩
  rw [decide_eq_false c2,cond_false]
  by_cases c3:st=1
  ·subst c3
   obtain⟨k,rfl⟩:∃k:Nat,i=k:=⟨i.toNat,by simp only [bm]at c1;omega⟩
   have hk:k<ts.length:=by omega
   have hkn:k<ns.length:=by omega
   rw [show((1:Int) !=ofNat 1)=false from rfl,cond_false]
   simp only [aL hkn,aF hkn,aL hk,aF hk,cond_true,toNat_natCast]
   have hs:=hr.ts
   simp only at hs
   rcases hD (ns.getD k (aa ah)) (ts.getD k (aa ab)) (ly hdag.2.1 hkn) (hs _ (aG hk _)) (htk k hk)with⟨t',hd,hp⟩|⟨n,hd⟩
   ·have hs2:∀t∈ts.set k t',0≤t.1:=fun t ht=>by
     rcases List.mem_or_eq_of_mem_set ht with h|rfl
     ·exact hs _ h
     ·exact hp
    have hl2:(ts.set k t').length=ts.length:=length_set
    have dl:decide (ts.length≤(ts.set k t').length)=true:=decide_eq_true (by omega)
    have tk2:take ts.length (ts.set k t')=ts.set k t':=by rw [←hl2];exact take_length
    simp only [hd,bind_some,cM,gT,aL hk,zero_add,aF hk,cond_true]
    by_cases c5:t'.1=5
    ·rw [show(t'.1==ofNat 5)=true by simp [c5],cond_true]
     obtain⟨ts',e1,e2,e3⟩:=Ht ns (fun j hj=>ly hdag.2.1 hj) fZ (ts.set k t') (by omega) hs2 id key (ofNat 3)
     rw [hl2]at e1
     have hl3:ts'.length=ts.length:=by rw [e2.1,hl2]
     simp only [e1,bind_some,drop_zero]
     rw [decide_eq_true (by omega:ts.length≤ts'.length),cond_true,show take ts.length ts'=ts' by rw [←hl3];exact take_length]
     exact⟨_,_,rfl,.inl ⟨by trivial,hc,by trivial,k,t',by trivial,hk,hd,rfl,rfl,rfl,hl3,e3,.inl ⟨c5,rfl,e2⟩⟩⟩
    ·rw [show(t'.1==ofNat 5)=false by simpa using c5,cond_false]
     have Bl:=f182 (id,key,(ns,()),1,ts.set k t',()) [ofNat 4] (by decide) (by simp only;omega)
     simp only [dl,cond_true,drop_zero,tk2]
     rw [show take ((replicate 1 (ofNat 0)).set 0 (ofNat 4)).length ((replicate 1 (ofNat 0)).set 0 (ofNat 4))= [ofNat 4]from rfl]
     simp only [Bl,bind_some]
     by_cases hall:∀t∈ts.set k t',t.1∈ [ofNat 4]
     ·rw [decide_eq_true hall]
      exact⟨_,_,rfl,.inl ⟨by trivial,hc,by trivial,k,t',by trivial,hk,hd,rfl,rfl,rfl,hl2,hs2,.inr ⟨c5,rfl,.inl ⟨fun t ht=>by simpa using hall t ht,rfl⟩⟩⟩⟩
     ·rw [decide_eq_false hall]
      exact⟨_,_,rfl,.inl ⟨by trivial,hc,by trivial,k,t',by trivial,hk,hd,rfl,rfl,rfl,hl2,hs2,.inr ⟨c5,rfl,.inr ⟨fun h=>hall fun t ht=>by simpa using h t ht,rfl⟩⟩⟩⟩
   ·simp only [hd,bind_some,eJ]
    refine⟨_,_,rfl,.inr ⟨⟨n,rfl⟩,rfl,fun⟨_,_,k2,t2,h1,h2,h3⟩=> ?_⟩⟩
    obtain rfl:k=k2:=by omega
    rw [hd]at h3
    injection h3 with h3
    injection h3 with _ h3
    injection h3 with h3
    simp only [bm]at h3
    omega
  ·rw [show(st !=ofNat 1)=true by simpa using c3,cond_true]
   exact⟨_,_,rfl,.inr ⟨⟨249,rfl⟩,rfl,fun h=>c3 h.2.1⟩⟩
 ·simp only [pm,hv,bind_some]
  exact⟨_,_,rfl,.inr ⟨⟨7,rfl⟩,rfl,fun h=>hc h.1⟩⟩
open Classical in
noncomputable def opn (ns:List aR) (s:Int×List aq):Nat→Int×List aq
 |0=>s
 |j+1=>if((opn ns s j).2.getD j (aa ab)).1=0∧gL (opn ns s j).2 (ns.getD j (aa ah))then
   (IntKind.i64.wrap ((opn ns s j).1+ofNat 1),(opn ns s j).2.set j (if bX (opn ns s j).1∧cH (ns.getD j (aa ah)) ((opn ns s j).2.getD j (aa ab))then(ofNat 1,ofNat 0,ofNat 0,ofNat 0,(opn ns s j).1,())else t0))else opn ns s j
theorem qH (ns:List aR) (s:Int×List aq):∀j,(opn ns s j).2.length=s.2.length
 |0=>rfl
 |j+1=>by
  rw [opn]
  split
  ·rw [length_set];exact qH ns s j
  ·exact qH ns s j
theorem xb {l:List aq} {k:Nat} {t:aq} (h:∀t∈l,0≤t.1) (ht:0≤t.1):∀t'∈l.set k t,0≤t'.1:=fun t' h'=>by
 rcases List.mem_or_eq_of_mem_set h' with h1|rfl
 ·exact h _ h1
 ·exact ht
theorem wz (ns:List aR) (s:Int×List aq) (h:∀t∈s.2,0≤t.1):∀j,∀t∈(opn ns s j).2,0≤t.1
 |0=>h
 |j+1=>by
  rw [opn]
  split
  ·refine xb (wz ns s h j) ?_
   split
   ·exact natCast_nonneg 1
   ·exact natCast_nonneg 0
  ·exact wz ns s h j
theorem Hu (ns:List aR) (hd:ub ns) (hln:∀nd∈ns,nd.1.length≤9223372036854775807) (rk:Int) (ts:List aq) (hts:ts.length=ns.length) (hs:∀t∈ts,0≤t.1) (id:Int) (key:ByteArray) (st:Int):
  ju (rk,ns,(ns.length:Int),ofNat 0,ts,id,key,ns,st,ts.length,())=some ((opn ns (rk,ts) ns.length).1,(opn ns (rk,ts) ns.length).2,id,key,ns,st,ts.length,()):=by
 have fZ:=hd.1.2
 obtain⟨y,hy,rfl⟩:=ba (st:=fS) ns.length (fun i (A:Int×List aq)=>(A.1,ns,(ns.length:Int),(i:Int),A.2,id,key,ns,st,ts.length,())) (fun i A=>A=opn ns (rk,ts) i)
  (fun y=>y=((opn ns (rk,ts) ns.length).1,(opn ns (rk,ts) ns.length).2,id,key,ns,st,ts.length,())) (fun i A h hx=>by
   have hl:=qH ns (rk,ts) i
   have hp:=wz ns (rk,ts) hs i
   have hstep:=opn.eq_2 ns (rk,ts) i
   rw [←hx]at hl hp hstep
   simp only at hl
   have hit:i<ts.length:=by omega
   have hiA:i<A.2.length:=by omega
   have tk2:take ts.length A.2=A.2:=by rw [←hl];exact take_length
   refine .inl ⟨opn ns (rk,ts) (i+1),?_,rfl⟩
   simp only [fS,kL,jt,bw h,aL h,aF h,aL hit,cond_true,toNat_natCast,zero_add,decide_eq_true hiA,eN,eT,drop_zero,tk2]
   by_cases c:(A.2.getD i (aa ab)).1=0
   ·rw [show((A.2.getD i (aa ab)).1==ofNat 0)=true by rw [c];rfl,cond_true,decide_eq_true (by omega:ts.length≤A.2.length),cond_true]
    obtain⟨b,hb,hb2⟩:=f181 (id,key,(ns,()),st,A.2,()) (ns.getD i (aa ah)) (hln _ (aG h _)) (fun v hv=>by
     have:=vE (hd.2.1 i h) v hv
     simp only
     omega)
    simp only [hb,bind_some]
    cases b with
    |true=>
     have hm:=hb2.1 rfl
     rw [if_pos ⟨c,hm⟩]at hstep
     simp only [cond_true]
     rcases f202 (ns.getD i (aa ah)) (A.2.getD i (aa ab)) A.1 (ly hd.2.1 h) (hp _ (aG hiA _))with⟨h1,he⟩|⟨h1,n,he⟩
     ·rw [if_pos ⟨h1.1,h1.2.1⟩]at hstep
      simp only [he,bind_some]
      rw [aY (by omega),hstep]
     ·rw [if_neg (fun h2=>h1 ⟨h2.1,h2.2,c⟩)]at hstep
      simp only [he,bind_some]
      rw [aY (by omega),hstep]
    |false=>
     rw [if_neg (fun h2=>nomatch hb2.2 h2.2)]at hstep
     simp only [cond_false]
     rw [aY (by omega),hstep]
   ·rw [if_neg (fun h2=>c h2.1)]at hstep
    rw [show((A.2.getD i (aa ab)).1==ofNat 0)=false by simpa using c,cond_false]
    rw [aY (by omega),hstep]) (fun A hx=>⟨(A.1,A.2,id,key,ns,st,ts.length,()),by simp only [fS,kL,jt,bv,cond_false],by rw [hx]⟩) (rk,ts) rfl
 exact hy
theorem Tq:gC=ju:=rfl
theorem Tr:nY=cQ:=rfl
def pn (rk:Int):Prop:=0≤rk∧rk≤1099511627764
theorem f162 (rk:Int):∃b,Fe (rk,())=some (b,())∧(b=true↔pn rk):=by
 simp only [Fe,pn]
 by_cases c:rk≥ofNat 0
 ·rw [decide_eq_true c]
  exact⟨_,rfl,by simp only [decide_eq_true_eq,bm]at*;omega⟩
 ·rw [decide_eq_false c]
  exact⟨_,rfl,(fun h=>nomatch h),fun h=>absurd h.1 (by simp only [bm]at c;omega)⟩
theorem Ms (r:am) (hr:bK r):∃(r':am) (e:Int),xJ (r,())=some (r',e,())∧((e=0∧ROk r∧r.2.2.2.1=1∧r'.1=r.1∧r'.2.1=r.2.1∧r'.2.2.1=r.2.2.1∧r'.2.2.2.1=4∧iv r.2.2.1.1 r.2.2.2.2.1 r'.2.2.2.2.1∧∀t∈r'.2.2.2.2.1,0≤t.1)∨((∃n:Nat,e=ofNat (n+1))∧r'=aP∧¬(ROk r∧r.2.2.2.1=1))):=by
 obtain⟨v,hv,hc⟩:=f89 r hr
 rcases hc with⟨rfl,hc⟩|⟨rfl,hc⟩
 ·have gT:=f62 r (qG hc)
  have hdag:=hc.dag
  have hlen:=hc.len
  have hs:=hr.ts
  obtain⟨id,key,⟨ns,_⟩,st,ts,_⟩:=r
  simp only at hlen hs
  simp only [xJ,hv,bind_some,cM]
  by_cases c3:st=1
  ·subst c3
   rw [show((1:Int) !=ofNat 1)=false from rfl,cond_false]
   obtain⟨ts',e1,e2,e3⟩:=Ht ns (fun j hj=>ly hdag.2.1 hj) hdag.1.2 ts hlen hs id key (ofNat 4)
   simp only [gT,bind_some,Tr,e1,zero_add,drop_zero]
   rw [decide_eq_true (by have:=e2.1;omega:ts.length≤ts'.length),cond_true,show take ts.length ts'=ts' by rw [←e2.1];exact take_length]
   exact⟨_,_,rfl,.inl ⟨by trivial,hc,by trivial,rfl,rfl,rfl,rfl,e2,e3⟩⟩
  ·rw [show(st !=ofNat 1)=true by simpa using c3,cond_true]
   exact⟨_,_,rfl,.inr ⟨⟨249,rfl⟩,rfl,fun h=>c3 h.2⟩⟩
 ·simp only [xJ,hv,bind_some]
  exact⟨_,_,rfl,.inr ⟨⟨7,rfl⟩,rfl,fun h=>hc h.1⟩⟩
theorem FY (id:Int) (key:ByteArray) (ns:List aR) (hln:∀nd∈ns,nd.1.length≤9223372036854775807) (rk:Int):
  ∃(r':am) (rk' e:Int),rM (id,key,(ns,()),rk,())=some (r',rk',e,())∧((e=0∧bX id∧(1≤key.size∧key.size≤24)∧ub ns∧pn rk∧r'=(id,key,(ns,()),ofNat 1,(opn ns (rk,replicate ns.length t0) ns.length).2,())∧rk'=(opn ns (rk,replicate ns.length t0) ns.length).1)∨((∃n:Nat,e=ofNat (n+1))∧¬(bX id∧(1≤key.size∧key.size≤24)∧ub ns∧pn rk))):=by
 simp only [rM]
 by_cases c1:id<ofNat 0
 ·rw [decide_eq_true c1,cond_true];exact⟨_,_,_,rfl,.inr ⟨⟨1,rfl⟩,fun h=>by have:=h.1.1;simp only [bm]at*;omega⟩⟩
 rw [decide_eq_false c1,cond_false]
 by_cases c2:id>ofNat 1099511627776
 ·rw [decide_eq_true c2,cond_true];exact⟨_,_,_,rfl,.inr ⟨⟨1,rfl⟩,fun h=>by have:=h.1.2;simp only [bm]at*;omega⟩⟩
 rw [decide_eq_false c2,cond_false]
 by_cases c3:(key.size:Int)<ofNat 1
 ·rw [decide_eq_true c3,cond_true];exact⟨_,_,_,rfl,.inr ⟨⟨2,rfl⟩,fun h=>by have:=h.2.1.1;simp only [bm]at*;omega⟩⟩
 rw [decide_eq_false c3,cond_false]
 by_cases c4:(key.size:Int)>ofNat 24
 ·rw [decide_eq_true c4,cond_true];exact⟨_,_,_,rfl,.inr ⟨⟨2,rfl⟩,fun h=>by have:=h.2.1.2;simp only [bm]at*;omega⟩⟩
 rw [decide_eq_false c4,cond_false]
 obtain⟨v,hv,hc⟩:=f114 ns hln
 simp only [hv,bind_some]
 rcases hc with⟨rfl,hd⟩|⟨rfl,hd⟩
 ·rw [cM]
  obtain⟨b,hb,hb2⟩:=f162 rk
  simp only [hb,bind_some]
  cases b with
  |false=>exact⟨_,_,_,rfl,.inr ⟨⟨1,rfl⟩,fun h=>nomatch hb2.2 h.2.2.2⟩⟩
  |true=>
   have hrk:=hb2.1 rfl
   have fZ:=hd.1
   have hroom:ns.length*40≤aV∧ns.length≤aV:=by
    have:=wy (n:=ns.length) (k:=40) (by omega) (by omega)
    simpa using this
   rw [Bool.not_true,cond_false]
   rw [show(decide (0≤(ns.length:Int)) && decide ((ns.length:Int)≤(ns.length:Int)) && decide ((ns.length:Int)≤((aV:Nat):Int)) && decide ((40:Int)*(ns.length:Int)≤((aV:Nat):Int)))=true by
    simp only [Bool.and_eq_true,decide_eq_true_eq]
    obtain⟨q1,q2⟩:=hroom
    omega,cond_true]
   simp only [toNat_natCast,drop_zero,length_replicate,zero_add]
   rw [decide_eq_true (le_refl _),cond_true,show take ns.length (replicate ns.length t0)=replicate ns.length t0 by rw [List.take_of_length_le (by rw [length_replicate];omega)]]
   have gT:=f62 (id,key,(ns,()),ofNat 1,replicate ns.length t0,()) ⟨⟨Cl hd,by simp only [length_replicate];omega⟩,fun h=>by
    have:=congrArg length h
    simp only [length_replicate,length_nil]at this
    omega⟩
   have ho:=Hu ns hd hln rk (replicate ns.length t0) (length_replicate ..) (fun t ht=>by rw [List.eq_of_mem_replicate ht];exact natCast_nonneg 0) id key (ofNat 1)
   have hl:=qH ns (rk,replicate ns.length t0) ns.length
   simp only [length_replicate]at ho hl
   simp only [gT,bind_some,length_replicate,ho]
   rw [decide_eq_true (by omega:ns.length≤(opn ns (rk,replicate ns.length t0) ns.length).2.length),cond_true,List.take_of_length_le (by omega)]
   exact⟨_,_,_,rfl,.inl ⟨rfl,⟨by simp only [bm]at*;omega,by simp only [bm]at*;omega⟩,by simp only [bm]at*;omega,hd,hrk,rfl,rfl⟩⟩
 ·exact⟨_,_,_,rfl,.inr ⟨⟨229,rfl⟩,fun h=>hd h.2.2.1⟩⟩
structure Cmpl (r:am) (k:Nat) (rk:Int) (r':am) (rk':Int):Prop where
 id:r'.1=r.1
 key:r'.2.1=r.2.1
 ns:r'.2.2.1=r.2.2.1
 tks:r'.2.2.2.2.1=(opn r.2.2.1.1 (rk,r.2.2.2.2.1.set k (ofNat 4,(r.2.2.2.2.1.getD k (aa ab)).2.1,ofNat 0,ofNat 0,ofNat 0,())) r.2.2.1.1.length).2
 rank:rk'=(opn r.2.2.1.1 (rk,r.2.2.2.2.1.set k (ofNat 4,(r.2.2.2.2.1.getD k (aa ab)).2.1,ofNat 0,ofNat 0,ofNat 0,())) r.2.2.1.1.length).1
 st:((∀t'∈r.2.2.2.2.1.set k (ofNat 4,(r.2.2.2.2.1.getD k (aa ab)).2.1,ofNat 0,ofNat 0,ofNat 0,()),t'.1=4)∧r'.2.2.2.1=2)∨(¬(∀t'∈r.2.2.2.2.1.set k (ofNat 4,(r.2.2.2.2.1.getD k (aa ab)).2.1,ofNat 0,ofNat 0,ofNat 0,()),t'.1=4)∧r'.2.2.2.1=1)
 len:r'.2.2.2.2.1.length=r.2.2.2.2.1.length
 pos:∀t∈r'.2.2.2.2.1,0≤t.1
theorem Gu (r:am) (hr:bK r) (i tk rk:Int):
  ∃(r':am) (rk' e:Int),xI (r,i,tk,rk,())=some (r',rk',e,())∧((e=0∧ROk r∧r.2.2.2.1=1∧pn rk∧∃k:Nat,i=k∧k<r.2.2.2.2.1.length∧jR (r.2.2.1.1.getD k (aa ah)) (r.2.2.2.2.1.getD k (aa ab)) tk∧Cmpl r k rk r' rk')∨(∃n:Nat,e=ofNat (n+1))):=by
 obtain⟨v,hv,hc⟩:=f89 r hr
 obtain⟨bR,hbR,hbR2⟩:=f162 rk
 rcases hc with⟨rfl,hc⟩|⟨rfl,hc⟩
 ·have gT:=f62 r (qG hc)
  have hdag:=hc.dag
  have hlen:=hc.len
  have htk:=hc.tks
  have hs:=hr.ts
  have hln:=hr.ln
  obtain⟨id,key,⟨ns,_⟩,st,ts,_⟩:=r
  simp only at hlen htk hs hln
  have fZ:ns.length≤12:=hdag.1.2
  simp only [xI,hbR,hv,bind_some,cM]
  by_cases c1:i<ofNat 0
  ·rw [decide_eq_true c1,cond_true];exact⟨_,_,_,rfl,.inr ⟨1,rfl⟩⟩
  rw [decide_eq_false c1,cond_false]
  by_cases c2:i≥(ts.length:Int)
  ·rw [decide_eq_true c2,cond_true];exact⟨_,_,_,rfl,.inr ⟨1,rfl⟩⟩
  rw [decide_eq_false c2,cond_false]
  by_cases c3:st=1
  ·subst c3
   rw [show((1:Int) !=ofNat 1)=false from rfl,cond_false]
   cases bR with
   |false=>exact⟨_,_,_,rfl,.inr ⟨1,rfl⟩⟩
   |true=>
    have hrk:=hbR2.1 rfl
    obtain⟨k,rfl⟩:∃k:Nat,i=k:=⟨i.toNat,by simp only [bm]at c1;omega⟩
    have hk:k<ts.length:=by omega
    have hkn:k<ns.length:=by omega
    rw [Bool.not_true,cond_false]
    simp only [aL hkn,aF hkn,aL hk,aF hk,cond_true,toNat_natCast,eN]
    rcases f169 (ns.getD k (aa ah)) (ts.getD k (aa ab)) tk (ly hdag.2.1 hkn) (hs _ (aG hk _))with⟨hh,hd⟩|⟨hh,n,hd⟩
    ·obtain⟨t',ht'⟩:∃t':aq,t'=(ofNat 4,(ts.getD k (aa ab)).2.1,ofNat 0,ofNat 0,ofNat 0,()):=⟨_,rfl⟩
     rw [←ht']at hd
     have hp:0≤t'.1:=by rw [ht'];exact natCast_nonneg 4
     have hs2:=xb (k:=k) hs hp
     have hl2:(ts.set k t').length=ts.length:=length_set
     have dl:decide (ts.length≤(ts.set k t').length)=true:=decide_eq_true (by omega)
     have tk2:take ts.length (ts.set k t')=ts.set k t':=by rw [←hl2];exact take_length
     have c5:(t'.1==ofNat 5)=false:=by rw [ht'];rfl
     have hol:(opn ns (rk,ts.set k t') ns.length).2.length=ts.length:=(qH ns (rk,ts.set k t') ns.length).trans hl2
     have hop:=wz ns (rk,ts.set k t') hs2 ns.length
     have do_:decide (ts.length≤(opn ns (rk,ts.set k t') ns.length).2.length)=true:=decide_eq_true (by omega)
     have to_:take ts.length (opn ns (rk,ts.set k t') ns.length).2=(opn ns (rk,ts.set k t') ns.length).2:=List.take_of_length_le (by omega)
     have ho:=fun st=>Hu ns hdag hln rk (ts.set k t') (by omega) hs2 id key st
     simp only [hl2]at ho
     have Bl:=f182 (id,key,(ns,()),1,ts.set k t',()) [ofNat 4] (by decide) (by simp only;omega)
     simp only [hd,bind_some,cM,gT,aL hk,zero_add,aF hk,cond_true,c5,cond_false,dl,drop_zero,tk2]
     rw [show take ((replicate 1 (ofNat 0)).set 0 (ofNat 4)).length ((replicate 1 (ofNat 0)).set 0 (ofNat 4))= [ofNat 4]from rfl]
     simp only [Bl,bind_some,Tq,ho,do_,to_,cond_true]
     by_cases hall:∀t∈ts.set k t',t.1∈ [ofNat 4]
     ·rw [decide_eq_true hall]
      refine⟨_,_,_,rfl,.inl ⟨by trivial,hc,by trivial,hrk,k,by trivial,hk,hh,rfl,rfl,rfl,by rw [←ht'],by rw [←ht'],.inl ⟨fun t ht=> ?_,rfl⟩,hol,hop⟩⟩
      rw [←ht']at ht
      simpa using hall t ht
     ·rw [decide_eq_false hall]
      refine⟨_,_,_,rfl,.inl ⟨by trivial,hc,by trivial,hrk,k,by trivial,hk,hh,rfl,rfl,rfl,by rw [←ht'],by rw [←ht'],.inr ⟨fun h=> ?_,rfl⟩,hol,hop⟩⟩
      rw [←ht']at h
      exact hall fun t ht=>by simpa using h t ht
    ·simp only [hd,bind_some,eJ]
     exact⟨_,_,_,rfl,.inr ⟨n,rfl⟩⟩
  ·rw [show(st !=ofNat 1)=true by simpa using c3,cond_true]
   exact⟨_,_,_,rfl,.inr ⟨249,rfl⟩⟩
 ·simp only [xI,hbR,hv,bind_some]
  exact⟨_,_,_,rfl,.inr ⟨7,rfl⟩⟩
def jJ (nr:Int) (x:aO):Prop:=(1≤x.2.1∧x.2.1≤6)∧(0≤x.2.2.1∧x.2.2.1<nr)∧(0≤x.2.2.2.1∧x.2.2.2.1<12)∧(x.2.2.2.1=0∨x.2.1=2∨x.2.1=3)
theorem f54 (s:cg) (x:aO):∃b,PL (s,x,())=some (b,())∧(b=true↔jJ s.2.1 x):=by
 simp only [PL,jJ]
 by_cases c1:x.2.1<ofNat 1
 ·rw [decide_eq_true c1];exact⟨_,rfl,(fun h=>nomatch h),fun h=>by simp only [bm]at c1;omega⟩
 rw [decide_eq_false c1,cond_false]
 by_cases c2:x.2.1>ofNat 6
 ·rw [decide_eq_true c2];exact⟨_,rfl,(fun h=>nomatch h),fun h=>by simp only [bm]at c2;omega⟩
 rw [decide_eq_false c2,cond_false]
 by_cases c3:x.2.2.1<ofNat 0
 ·rw [decide_eq_true c3];exact⟨_,rfl,(fun h=>nomatch h),fun h=>by simp only [bm]at c3;omega⟩
 rw [decide_eq_false c3,cond_false]
 by_cases c4:x.2.2.1≥s.2.1
 ·rw [decide_eq_true c4];exact⟨_,rfl,(fun h=>nomatch h),fun h=>by omega⟩
 rw [decide_eq_false c4,cond_false]
 by_cases c5:x.2.2.2.1<ofNat 0
 ·rw [decide_eq_true c5];exact⟨_,rfl,(fun h=>nomatch h),fun h=>by simp only [bm]at c5;omega⟩
 rw [decide_eq_false c5,cond_false]
 by_cases c6:x.2.2.2.1≥ofNat 12
 ·rw [decide_eq_true c6];exact⟨_,rfl,(fun h=>nomatch h),fun h=>by simp only [bm]at c6;omega⟩
 rw [decide_eq_false c6,cond_false]
 simp only [bm]at c1 c2 c3 c5 c6
 by_cases c7:x.2.2.2.1=0
 ·rw [show(x.2.2.2.1==ofNat 0)=true by rw [c7];rfl]
  exact⟨_,rfl,fun _=>by omega,fun _=>rfl⟩
 rw [show(x.2.2.2.1==ofNat 0)=false by simpa using c7,cond_false]
 by_cases c8:x.2.1=2
 ·rw [show(x.2.1==ofNat 2)=true by rw [c8];rfl]
  exact⟨_,rfl,fun _=>by omega,fun _=>rfl⟩
 rw [show(x.2.1==ofNat 2)=false by simpa using c8,cond_false]
 refine⟨_,rfl,fun h=> ?_,fun h=> ?_⟩
 ·have:x.2.1=3:=by simpa using h
  omega
 ·have:x.2.1=3:=by omega
  rw [this];rfl
def cP (nt nk:Int) (t:aq):Prop:=dx t<nt∧(t.1=1→dB t<nk)
structure SOk (s:cg):Prop where
 fine:eP s.2.2.2.2.2.2.1
 ev40:s.2.2.2.2.2.2.2.1.length≤40
 ck:bX s.1
 nr:bX s.2.1
 nk:bX s.2.2.2.1
 nt:1≤s.2.2.1∧s.2.2.1≤1099511627776
 ne:1≤s.2.2.2.2.1∧s.2.2.2.2.1≤1099511627776
 ack:0≤s.2.2.2.2.2.1∧s.2.2.2.2.2.1<s.2.2.2.2.1
 elen:(s.2.2.2.2.2.2.2.1.length:Int)=s.2.2.2.2.1-1-s.2.2.2.2.2.1
 late:∀j:Nat,j<s.2.2.2.2.2.2.1.length→(s.2.2.2.2.2.2.1.getD j (aa ae)).1<s.2.1∧∀t∈(s.2.2.2.2.2.2.1.getD j (aa ae)).2.2.2.2.1,cP s.2.2.1 s.2.2.2.1 t
 evs:∀j:Nat,j<s.2.2.2.2.2.2.2.1.length→(s.2.2.2.2.2.2.2.1.getD j (aa an)).1=s.2.2.2.2.2.1+1+j∧jJ s.2.1 (s.2.2.2.2.2.2.2.1.getD j (aa an))
theorem agV (ts:List aq) (ht:ts.length≤9223372036854775807) (ck nr nt nk ne ac:Int) (rs:List am) (es:List aO):
  ∃y,pH (ts,(ts.length:Int),ofNat 0,ck,nr,nt,nk,ne,ac,rs,es,())=some y∧((∃(i:Nat) (z:_),y= .inl ((i:Int),ck,nr,nt,nk,ne,ac,rs,es,z)∧¬∀t∈ts,cP nt nk t)∨(y= .inr (ck,nr,nt,nk,ne,ac,rs,es,())∧∀t∈ts,cP nt nk t)):=by
 obtain⟨y,hy,hq⟩:=ba (st:=gH) ts.length (fun i (_:Unit)=>(ts,(ts.length:Int),(i:Int),ck,nr,nt,nk,ne,ac,rs,es,())) (fun i _=>∀t∈ts.take i,cP nt nk t)
  (fun y=>((∃(i:Nat) (z:_),y= .inl ((i:Int),ck,nr,nt,nk,ne,ac,rs,es,z)∧¬∀t∈ts,cP nt nk t)∨(y= .inr (ck,nr,nt,nk,ne,ac,rs,es,())∧∀t∈ts,cP nt nk t))) (fun i _ h hx=>by
   have next:cP nt nk (ts.getD i (aa ab))→∀t∈ts.take (i+1),cP nt nk t:=fun hn t ht=>by
    rcases ir h (aa ab) ht with h1|h1
    ·exact hx t h1
    ·rw [h1];exact hn
   simp only [gH,me,kU,bw h,aL h,aF h,cond_true,toNat_natCast]
   by_cases c1:(ts.getD i (aa ab)).2.2.2.1≥nt
   ·rw [decide_eq_true c1,cond_true]
    exact .inr ⟨_,rfl,.inl ⟨i,_,rfl,fun hall=>by have:=(hall _ (aG h (aa ab))).1;unfold dx at this;omega⟩⟩
   rw [decide_eq_false c1,cond_false]
   by_cases c2:(ts.getD i (aa ab)).1=1
   ·rw [show((ts.getD i (aa ab)).1==ofNat 1)=true by rw [c2];rfl,cond_true]
    by_cases c3:(ts.getD i (aa ab)).2.2.2.2.1≥nk
    ·rw [decide_eq_true c3,cond_true]
     exact .inr ⟨_,rfl,.inl ⟨i,_,rfl,fun hall=>by have:=(hall _ (aG h (aa ab))).2 c2;unfold dB at this;omega⟩⟩
    ·rw [decide_eq_false c3,cond_false,aY (by omega)]
     exact .inl ⟨(),rfl,next ⟨by unfold dx;omega,fun _=>by unfold dB;omega⟩⟩
   ·rw [show((ts.getD i (aa ab)).1==ofNat 1)=false by simpa using c2,cond_false,aY (by omega)]
    exact .inl ⟨(),rfl,next ⟨by unfold dx;omega,fun h=>absurd h c2⟩⟩) (fun _ hx=>⟨.inr (ck,nr,nt,nk,ne,ac,rs,es,()),by simp only [gH,me,kU,bv,cond_false],.inr ⟨rfl,by rw [take_length]at hx;exact hx⟩⟩) () (by simp)
 exact⟨y,hy,hq⟩
theorem agW (ck nr nt nk ne ac:Int) (rs:List am) (es:List aO) (hm:rs.length≤9223372036854775807) (hr:∀r∈rs,bK r):
  ∃y,pI (rs,(rs.length:Int),ofNat 0,ck,nr,nt,nk,ne,ac,rs,es,())=some y∧(((∃z,y= .inl (ofNat 8,z))∨(∃z,y= .inr (.inl (ofNat 8,z))))∧(¬∀j:Nat,j<rs.length→(rs.getD j (aa ae)).1<nr∧∀t∈(rs.getD j (aa ae)).2.2.2.2.1,cP nt nk t)∨
   (y= .inr (.inr (ck,nr,nt,nk,ne,ac,rs,es,()))∧∀j:Nat,j<rs.length→(rs.getD j (aa ae)).1<nr∧∀t∈(rs.getD j (aa ae)).2.2.2.2.1,cP nt nk t)):=by
 obtain⟨y,hy,hq⟩:=ba (st:=gI) rs.length (fun i (_:Unit)=>(rs,(rs.length:Int),(i:Int),ck,nr,nt,nk,ne,ac,rs,es,())) (fun i _=>∀j:Nat,j<i→(rs.getD j (aa ae)).1<nr∧∀t∈(rs.getD j (aa ae)).2.2.2.2.1,cP nt nk t)
  (fun y=>(((∃z,y= .inl (ofNat 8,z))∨(∃z,y= .inr (.inl (ofNat 8,z))))∧(¬∀j:Nat,j<rs.length→(rs.getD j (aa ae)).1<nr∧∀t∈(rs.getD j (aa ae)).2.2.2.2.1,cP nt nk t)∨
   (y= .inr (.inr (ck,nr,nt,nk,ne,ac,rs,es,()))∧∀j:Nat,j<rs.length→(rs.getD j (aa ae)).1<nr∧∀t∈(rs.getD j (aa ae)).2.2.2.2.1,cP nt nk t))) (fun i _ h hx=>by
   obtain⟨y,hy,hq⟩:=agV (rs.getD i (aa ae)).2.2.2.2.1 (hr _ (aG h _)).tl ck nr nt nk ne ac rs es
   simp only [gI,mg,bw h,aL h,aF h,cond_true,toNat_natCast]
   by_cases c1:(rs.getD i (aa ae)).1≥nr
   ·rw [decide_eq_true c1,cond_true]
    exact .inr ⟨_,rfl,.inl ⟨.inl ⟨_,rfl⟩,fun hall=>by have:=(hall i h).1;omega⟩⟩
   rw [decide_eq_false c1,cond_false]
   simp only [hy,bind_some]
   rcases hq with⟨a,z,rfl,hn⟩|⟨rfl,hn⟩
   ·simp only [vG,cond_true]
    exact .inr ⟨_,rfl,.inl ⟨.inr ⟨_,rfl⟩,fun hall=>hn (hall i h).2⟩⟩
   ·simp only
    rw [aY (by omega)]
    exact .inl ⟨(),rfl,cV hx ⟨by omega,hn⟩⟩) (fun _ hx=>⟨.inr (.inr (ck,nr,nt,nk,ne,ac,rs,es,())),by simp only [gI,mg,bv,cond_false],.inr ⟨rfl,hx⟩⟩) () (fun j h=>absurd h (not_lt_zero _))
 exact⟨y,hy,hq⟩
theorem agX (ck nr nt nk ne ac:Int) (rs:List am) (es:List aO) (he:es.length≤40) (ha:0≤ac∧ac≤1099511627776):
  ∃y,pG (es,(es.length:Int),ofNat 0,ck,nr,nt,nk,ne,ac,rs,es,())=some y∧(((∃z,y= .inl (ofNat 8,z))∧¬∀j:Nat,j<es.length→(es.getD j (aa an)).1=ac+1+j∧jJ nr (es.getD j (aa an)))∨
   ((∃z,y= .inr z)∧∀j:Nat,j<es.length→(es.getD j (aa an)).1=ac+1+j∧jJ nr (es.getD j (aa an)))):=by
 obtain⟨y,hy,hq⟩:=ba (st:=gG) es.length (fun i (_:Unit)=>(es,(es.length:Int),(i:Int),ck,nr,nt,nk,ne,ac,rs,es,())) (fun i _=>∀j:Nat,j<i→(es.getD j (aa an)).1=ac+1+j∧jJ nr (es.getD j (aa an)))
  (fun y=>(((∃z,y= .inl (ofNat 8,z))∧¬∀j:Nat,j<es.length→(es.getD j (aa an)).1=ac+1+j∧jJ nr (es.getD j (aa an)))∨
   ((∃z,y= .inr z)∧∀j:Nat,j<es.length→(es.getD j (aa an)).1=ac+1+j∧jJ nr (es.getD j (aa an))))) (fun i _ h hx=>by
   obtain⟨b,hb,hb2⟩:=f54 (ck,nr,nt,nk,ne,ac,rs,es,()) (es.getD i (aa an))
   simp only at hb2
   have e1:IntKind.i64.wrap (IntKind.i64.wrap (ac+ofNat 1)+(i:Int))=ac+1+i:=by
    rw [show IntKind.i64.wrap (ac+ofNat 1)=ac+1 by rw [IntKind.wrap_i64];simp only [bm];omega,IntKind.wrap_i64];omega
   simp only [gG,md,kT,bw h,aL h,aF h,cond_true,toNat_natCast,e1]
   by_cases c1:(es.getD i (aa an)).1=ac+1+i
   ·rw [show((es.getD i (aa an)).1 !=ac+1+(i:Int))=false by rw [c1];simp,cond_false]
    simp only [hb,bind_some]
    cases b with
    |true=>
     rw [Bool.not_true,cond_false,aY (by omega)]
     exact .inl ⟨(),rfl,cV hx ⟨c1,hb2.1 rfl⟩⟩
    |false=>exact .inr ⟨_,rfl,.inl ⟨⟨_,rfl⟩,fun hall=>nomatch hb2.2 (hall i h).2⟩⟩
   ·rw [show((es.getD i (aa an)).1 !=ac+1+(i:Int))=true by simpa using c1,cond_true]
    exact .inr ⟨_,rfl,.inl ⟨⟨_,rfl⟩,fun hall=>c1 (hall i h).1⟩⟩) (fun _ hx=>⟨.inr (ck,nr,nt,nk,ne,ac,rs,es,()),by simp only [gG,md,kT,bv,cond_false],.inr ⟨⟨_,rfl⟩,hx⟩⟩) () (fun j h=>absurd h (not_lt_zero _))
 exact⟨y,hy,hq⟩
theorem f50 (n l:Int):∃b,Fd (n,l,())=some (b,())∧(b=true↔(l≤n∧n≤1099511627776)):=by
 simp only [Fd]
 by_cases c:n≥l
 ·rw [decide_eq_true c];exact⟨_,rfl,by simp only [decide_eq_true_eq,bm];omega⟩
 ·rw [decide_eq_false c];exact⟨_,rfl,(fun h=>nomatch h),fun h=>absurd h.1 c⟩
theorem lf (s:cg) (hm:s.2.2.2.2.2.2.1.length≤9223372036854775807) (hr:∀r∈s.2.2.2.2.2.2.1,bK r):∃v,mB (s,())=some (v,())∧((v=0∧SOk s)∨((∃n:Nat,v=ofNat (n+1))∧¬SOk s)):=by
 obtain⟨ck,nr,nt,nk,ne,ac,rs,es,_⟩:=s
 simp only at hm hr
 simp only [mB]
 by_cases c1:(rs.length:Int)>ofNat 32
 ·rw [decide_eq_true c1];exact⟨_,rfl,.inr ⟨⟨3,rfl⟩,fun h=>by have:=h.fine.1;simp only [bm]at*;omega⟩⟩
 rw [decide_eq_false c1,cond_false]
 by_cases c2:(es.length:Int)>ofNat 40
 ·rw [decide_eq_true c2];exact⟨_,rfl,.inr ⟨⟨3,rfl⟩,fun h=>by have:=h.ev40;simp only [bm]at*;omega⟩⟩
 rw [decide_eq_false c2,cond_false]
 by_cases c3:ck<ofNat 0
 ·rw [decide_eq_true c3];exact⟨_,rfl,.inr ⟨⟨7,rfl⟩,fun h=>by have:=h.ck.1;simp only [bm]at*;omega⟩⟩
 rw [decide_eq_false c3,cond_false]
 by_cases c4:ck>ofNat 1099511627776
 ·rw [decide_eq_true c4];exact⟨_,rfl,.inr ⟨⟨7,rfl⟩,fun h=>by have:=h.ck.2;simp only [bm]at*;omega⟩⟩
 rw [decide_eq_false c4,cond_false]
 obtain⟨b1,e1,g1⟩:=f50 nr (ofNat 0)
 simp only [e1,bind_some]
 cases b1 with
 |false=>exact⟨_,rfl,.inr ⟨⟨7,rfl⟩,fun h=>nomatch g1.2 h.nr⟩⟩
 |true=>
 have g1:=g1.1 rfl
 rw [Bool.not_true,cond_false]
 obtain⟨b2,e2,g2⟩:=f50 nk (ofNat 0)
 simp only [e2,bind_some]
 cases b2 with
 |false=>exact⟨_,rfl,.inr ⟨⟨7,rfl⟩,fun h=>nomatch g2.2 h.nk⟩⟩
 |true=>
 have g2:=g2.1 rfl
 rw [Bool.not_true,cond_false]
 obtain⟨b3,e3,g3⟩:=f50 nt (ofNat 1)
 simp only [e3,bind_some]
 cases b3 with
 |false=>exact⟨_,rfl,.inr ⟨⟨7,rfl⟩,fun h=>nomatch g3.2 h.nt⟩⟩
 |true=>
 have g3:=g3.1 rfl
 rw [Bool.not_true,cond_false]
 obtain⟨b4,e4,g4⟩:=f50 ne (ofNat 1)
 simp only [e4,bind_some]
 cases b4 with
 |false=>exact⟨_,rfl,.inr ⟨⟨7,rfl⟩,fun h=>nomatch g4.2 h.ne⟩⟩
 |true=>
 have g4:=g4.1 rfl
 rw [Bool.not_true,cond_false]
 by_cases c5:ac<ofNat 0
 ·rw [decide_eq_true c5];exact⟨_,rfl,.inr ⟨⟨7,rfl⟩,fun h=>by have:=h.ack.1;simp only [bm]at*;omega⟩⟩
 rw [decide_eq_false c5,cond_false]
 by_cases c6:ac≥ne
 ·rw [decide_eq_true c6];exact⟨_,rfl,.inr ⟨⟨7,rfl⟩,fun h=>by have:=h.ack.2;simp only at this;omega⟩⟩
 rw [decide_eq_false c6,cond_false]
 simp only [bm]at c1 c2 c3 c4 c5 g1 g2 g3 g4
 have ew:IntKind.i64.wrap (IntKind.i64.wrap (ne-ofNat 1)-ac)=ne-1-ac:=by
  rw [show IntKind.i64.wrap (ne-ofNat 1)=ne-1 by rw [IntKind.wrap_i64];simp only [bm];omega,IntKind.wrap_i64];omega
 rw [ew]
 by_cases c7:(es.length:Int)=ne-1-ac
 ·rw [show((es.length:Int) !=ne-1-ac)=false by simp [c7],cond_false]
  obtain⟨v,hv,hc⟩:=f51 rs hm hr
  simp only [hv,bind_some]
  rcases hc with⟨h1,rfl⟩|⟨h1,h2,rfl⟩|⟨hf,rfl⟩
  ·exact⟨_,rfl,.inr ⟨⟨7,rfl⟩,fun h=>by have:=h.fine.1;simp only at this;omega⟩⟩
  ·exact⟨_,rfl,.inr ⟨⟨7,rfl⟩,fun h=>h2 h.fine.2⟩⟩
  ·rw [pj,cond_false]
   obtain⟨y,hy,hq⟩:=agW ck nr nt nk ne ac rs es hm hr
   simp only [hy,bind_some]
   rcases hq with⟨h1,h2⟩|⟨rfl,hlate⟩
   ·rcases h1 with⟨z,rfl⟩|⟨z,rfl⟩
    ·exact⟨_,rfl,.inr ⟨⟨7,rfl⟩,fun h=>h2 h.late⟩⟩
    ·exact⟨_,rfl,.inr ⟨⟨7,rfl⟩,fun h=>h2 h.late⟩⟩
   ·obtain⟨y,hy,hq⟩:=agX ck nr nt nk ne ac rs es (by omega) (by omega)
    simp only [hy,bind_some]
    rcases hq with⟨⟨z,rfl⟩,h2⟩|⟨⟨z,rfl⟩,h2⟩
    ·exact⟨_,rfl,.inr ⟨⟨7,rfl⟩,fun h=>h2 h.evs⟩⟩
    ·exact⟨_,rfl,.inl ⟨rfl,⟨hf,by simp only;omega,⟨by simp only;omega,by simp only;omega⟩,g1,g2,g3,g4,⟨by simp only;omega,by simp only;omega⟩,c7,hlate,h2⟩⟩⟩
 ·rw [show((es.length:Int) !=ne-1-ac)=true by simpa using c7,cond_true]
  exact⟨_,rfl,.inr ⟨⟨7,rfl⟩,fun h=>c7 h.elen⟩⟩
theorem bp {α:Type} (l:List α):ak l=l:=fC l
theorem bW {α:Type} (z v:α):aU z v= [v]:=rfl
section
variable (rs:List am) (es:List aO) (ck nr nt nk ne ac:Int)
abbrev zz:Int:=ofNat 0
def Rx (i:Int):List am→(List am×Int×Int×Int×Int×Int×Int×Int×Int×Nat×List aO×Int×Int×Int×Int×Int×Int×Unit)⊕(List am×Int×Int×Int×Int×Int×Int×Int×Int×Nat×Nat×List am×List aO×Int×Int×Int×Int×Int×Int×Unit)
 | []=>.inl (rs,(rs.length:Int),i,ck,nr,nt,nk,ne,ac,es.length,es,zz,zz,zz,zz,zz,zz,())
 |a::l=>.inr (rs,(rs.length:Int),i,ck,nr,nt,nk,ne,ac,(a::l).length,es.length,a::l,es,zz,zz,zz,zz,zz,zz,())
def Bs:List am→(Int×Int×Int×Int×Int×Int×Nat×List aO×Int×Int×Int×Int×Int×Int×Unit)⊕(Int×Int×Int×Int×Int×Int×Nat×Nat×List am×List aO×Int×Int×Int×Int×Int×Int×Unit)
 | []=>.inl (ck,nr,nt,nk,ne,ac,es.length,es,zz,zz,zz,zz,zz,zz,())
 |a::l=>.inr (ck,nr,nt,nk,ne,ac,(a::l).length,es.length,a::l,es,zz,zz,zz,zz,zz,zz,())
def Ry (i:Int):List am→(List am×Int×Int×Int×Int×Int×Int×Int×Int×Int×Int×Int×Int×Int×Int×Unit)⊕(List am×Int×Int×Int×Int×Int×Int×Int×Int×Nat×List am×Int×Int×Int×Int×Int×Int×Unit)
 | []=>.inl (rs,(rs.length:Int),i,ck,nr,nt,nk,ne,ac,zz,zz,zz,zz,zz,zz,())
 |a::l=>.inr (rs,(rs.length:Int),i,ck,nr,nt,nk,ne,ac,(a::l).length,a::l,zz,zz,zz,zz,zz,zz,())
def FZ:List am→(Int×Int×Int×Int×Int×Int×Int×Int×Int×Int×Int×Int×Unit)⊕(Int×Int×Int×Int×Int×Int×Nat×List am×Int×Int×Int×Int×Int×Int×Unit)
 | []=>.inl (ck,nr,nt,nk,ne,ac,zz,zz,zz,zz,zz,zz,())
 |a::l=>.inr (ck,nr,nt,nk,ne,ac,(a::l).length,a::l,zz,zz,zz,zz,zz,zz,())
theorem agY (hm:rs.length≤60) (hr:∀r∈rs,Mr r):nR (.inl (rs,(rs.length:Int),ofNat 0,ck,nr,nt,nk,ne,ac,es.length,es,zz,zz,zz,zz,zz,zz,()))=some (Bs es ck nr nt nk ne ac rs):=by
 obtain⟨y,hy,rfl⟩:=ba (st:=eu) rs.length (fun i (A:List am)=>Rx rs es ck nr nt nk ne ac (i:Int) A) (fun i A=>A=rs.take i) (fun y=>y=Bs es ck nr nt nk ne ac rs) (fun i A h hx=>by
   have hlen:A.length=i:=by rw [hx,length_take];omega
   have ht:=rQ h (aa ae)
   rw [←hx]at ht
   have gT:=f62 _ (hr _ (aG h (aa ae)))
   obtain⟨r,hrr⟩:∃r:am,rs.getD i (aa ae)=r:=⟨_,rfl⟩
   rw [hrr]at gT ht
   refine .inl ⟨A++ [r],?_,ht.symm⟩
   obtain⟨id,key,⟨ns,_⟩,st,ts,_⟩:=r
   have d1:decide (ts.length≤ts.length)=true:=decide_eq_true (le_refl _)
   cases A with
   |nil=>
    simp only [Rx,eu,kx,bw h,aL h,aF h,cond_true,toNat_natCast,hrr,gT,bind_some,zero_add,d1,bp,bW]
    rw [aY (by omega)]
    rfl
   |cons a B=>
    have hB:(a::B).length+1≤1000:=by rw [hlen];omega
    have e1:decide ((a::B).length≤(a::B).length)=true:=decide_eq_true (le_refl _)
    have e2:decide ((a::B).length=(a::B).length)=true:=decide_eq_true rfl
    have e3:∀v:am,(decide (((a::B).length+ [v].length)*80≤2^46) && decide ((a::B).length+ [v].length≤2^46))=true:=fun v=>Dp (n:=(a::B).length+ [v].length) hB (by omega)
    simp only [Rx,eu,kz,jm,bw h,aL h,aF h,cond_true,toNat_natCast,hrr,gT,bind_some,zero_add,d1,bp,bW,fC,e1,e2,e3]
    rw [aY (by omega)]
    rfl) (fun A hx=>⟨Bs es ck nr nt nk ne ac A,by cases A<;>simp only [Rx,Bs,eu,kx,kz,jm,bv,cond_false],by rw [hx,take_length]⟩) [] (by simp)
 exact hy
theorem agZ (hm:rs.length≤60) (hr:∀r∈rs,Mr r):nS (.inl (rs,(rs.length:Int),ofNat 0,ck,nr,nt,nk,ne,ac,zz,zz,zz,zz,zz,zz,()))=some (FZ ck nr nt nk ne ac rs):=by
 obtain⟨y,hy,rfl⟩:=ba (st:=eA) rs.length (fun i (A:List am)=>Ry rs ck nr nt nk ne ac (i:Int) A) (fun i A=>A=rs.take i) (fun y=>y=FZ ck nr nt nk ne ac rs) (fun i A h hx=>by
   have hlen:A.length=i:=by rw [hx,length_take];omega
   have ht:=rQ h (aa ae)
   rw [←hx]at ht
   have gT:=f62 _ (hr _ (aG h (aa ae)))
   obtain⟨r,hrr⟩:∃r:am,rs.getD i (aa ae)=r:=⟨_,rfl⟩
   rw [hrr]at gT ht
   refine .inl ⟨A++ [r],?_,ht.symm⟩
   obtain⟨id,key,⟨ns,_⟩,st,ts,_⟩:=r
   have d1:decide (ts.length≤ts.length)=true:=decide_eq_true (le_refl _)
   cases A with
   |nil=>
    simp only [Ry,eA,kA,bw h,aL h,aF h,cond_true,toNat_natCast,hrr,gT,bind_some,zero_add,d1,bp,bW]
    rw [aY (by omega)]
    rfl
   |cons a B=>
    have hB:(a::B).length+1≤1000:=by rw [hlen];omega
    have e1:decide ((a::B).length≤(a::B).length)=true:=decide_eq_true (le_refl _)
    have e2:decide ((a::B).length=(a::B).length)=true:=decide_eq_true rfl
    have e3:∀v:am,(decide (((a::B).length+ [v].length)*80≤2^46) && decide ((a::B).length+ [v].length≤2^46))=true:=fun v=>Dp (n:=(a::B).length+ [v].length) hB (by omega)
    simp only [Ry,eA,kB,jn,bw h,aL h,aF h,cond_true,toNat_natCast,hrr,gT,bind_some,zero_add,d1,bp,bW,fC,e1,e2,e3]
    rw [aY (by omega)]
    rfl) (fun A hx=>⟨FZ ck nr nt nk ne ac A,by cases A<;>simp only [Ry,FZ,eA,kA,kB,jn,bv,cond_false],by rw [hx,take_length]⟩) [] (by simp)
 exact hy
end
theorem f25 (s:cg) (hm:s.2.2.2.2.2.2.1.length≤60) (he:s.2.2.2.2.2.2.2.1.length≤60) (hr:∀r∈s.2.2.2.2.2.2.1,Mr r):cD (s,())=some (s,()):=by
 obtain⟨ck,nr,nt,nk,ne,ac,rs,es,_⟩:=s
 simp only at hm he hr
 have iK:=f61 es (by omega)
 cases es with
 |nil=>
  simp only [cD,List.isEmpty_nil,cond_true]
  simp only [NS,iK,bind_some,List.isEmpty_nil,cond_true]
  simp only [agZ rs ck nr nt nk ne ac hm hr,bind_some]
  cases rs with
  |nil=>rfl
  |cons a l=>
   have d1:decide ((a::l).length≤(a::l).length)=true:=decide_eq_true (le_refl _)
   simp only [FZ,zero_add,d1,cond_true,fC,isEmpty_cons,cond_false]
 |cons e es=>
  simp only [cD,isEmpty_cons,cond_false]
  have d2:decide ((e::es).length≤(e::es).length)=true:=decide_eq_true (le_refl _)
  simp only [NR,iK,bind_some,isEmpty_cons,cond_false]
  simp only [agY rs (e::es) ck nr nt nk ne ac hm hr,bind_some]
  cases rs with
  |nil=>simp only [Bs,zero_add,d2,cond_true,fC,isEmpty_cons,cond_false]
  |cons a l=>
   have d1:decide ((a::l).length≤(a::l).length)=true:=decide_eq_true (le_refl _)
   simp only [Bs,zero_add,d1,d2,cond_true,fC,isEmpty_cons,cond_false]
theorem bg {s:cg} (h:SOk s):cD (s,())=some (s,()):=f25 s (by have:=h.fine.1;omega) (by have:=h.ev40;omega) fun r hr=>by
 obtain⟨j,hj,rfl⟩:=List.getElem_of_mem hr
 have:=h.fine.2.chk j hj
 rw [getD_eq_getElem?_getD,List.getElem?_eq_getElem hj]at this
 exact qG this
end Go.Proofs.YtbkjflfbgknagaaGreat.modelLeases.Code
