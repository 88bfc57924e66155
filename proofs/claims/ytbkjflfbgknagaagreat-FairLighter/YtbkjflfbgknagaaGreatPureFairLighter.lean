import Derived.Test.YtbkjflfbgknagaaGreatPureFairLighter0
set_option maxRecDepth 100000
set_option linter.unusedVariables false
set_option linter.unusedSimpArgs false
set_option linter.constructorNameAsVariable false
namespace Go.Proofs.YtbkjflfbgknagaaGreat.fairLighter.Code
open Go Go.Am
open List (length_set mem_set getD_eq_getElem?_getD replicate length_append length_singleton append_nil length_drop take take_of_length_le isEmpty isEmpty_nil length_cons length_nil drop_zero drop getD isEmpty_cons take_length not_mem_nil)
open Option (bind_some)
open Int (ofNat le_refl natCast_nonneg toNat_natCast)
open Nat (not_lt_zero lt_succ_self zero_add sub_zero)
abbrev bp (r:aj) (j:Nat):am:=r.2.2.2.2.1.getD j (aa ae)
abbrev bT (r:aj) (j:Nat):aL:=r.2.2.1.1.getD j (aa af)
theorem bD {a b:Int} (h:decide (a=b)=false):¬a=b:=of_decide_eq_false h
theorem dw:bW (ofNat 0):=by decide
theorem Yk {nd:aL} {t:am} (h:bZ nd t):bZ nd (dr t):=
 ⟨h.1,dw,dw,dw,fun h=>absurd rfl h,fun h=>absurd rfl h,⟨fun h=>absurd rfl h,fun h=>absurd h (bD rfl)⟩,.inr (.inr (.inr (.inr (.inr (.inr rfl)))))⟩
theorem EK {nd:aL} {t:am} (h:bZ nd t):0≤t.1∧t.1≤6:=by
 obtain⟨_,_,_,_,_,_,_,h⟩:=h
 omega
theorem uL {A B:List am} {nd:aL} (h:∀j:Nat,(A.getD j (aa ae)).1=4↔(B.getD j (aa ae)).1=4):gB A nd↔gB B nd:=
 ⟨fun h2 v hv=>(h _).1 (h2 v hv),fun h2 v hv=>(h _).2 (h2 v hv)⟩
theorem EL {l:List am} {t:am} (h:t∈l):∃j:Nat,j<l.length∧l.getD j (aa ae)=t:=by
 obtain⟨j,hj,rfl⟩:=List.getElem_of_mem h
 exact⟨j,hj,bG hj _⟩
theorem dF {r:aj} (h:ROk r) {k:Nat} (hk:k<r.2.2.2.2.1.length) (hs:(bp r k).1≤3):r.2.2.2.1=1:=by
 have hm:=aC hk (aa ae)
 unfold bp at hs
 rcases h.st with⟨h1,_⟩|⟨_,h2⟩|⟨_,_,h2⟩|⟨_,_,h2⟩
 ·exact h1
 ·have:=h2 _ hm;omega
 ·have:=h2 _ hm;omega
 ·have:=h2 _ hm;omega
theorem Gl {ns:List aL} {ts ts':List am} (hl:ts.length=ns.length) (ht:∀i:Nat,i<ts.length→bZ (ns.getD i (aa af)) (ts.getD i (aa ae))) (h:kT ns ts ts'):∀i:Nat,i<ts'.length→bZ (ns.getD i (aa af)) (ts'.getD i (aa ae))∧((ts'.getD i (aa ae)).1=4∨(ts'.getD i (aa ae)).1=5∨(ts'.getD i (aa ae)).1=6):=fun i hi=>by
 rw [h.1]at hi
 rcases h.2 i hi with⟨h1,h2⟩|⟨h1,h2⟩
 ·rw [h2]
  refine⟨ht i hi,?_⟩
  by_cases c4:(ts.getD i (aa ae)).1=4
  ·exact .inl c4
  by_cases c5:(ts.getD i (aa ae)).1=5
  ·exact .inr (.inl c5)
  by_cases c6:(ts.getD i (aa ae)).1=6
  ·exact .inr (.inr c6)
  exact absurd ⟨ht i hi,c4,c5,c6⟩ h1
 ·rw [h2]
  exact⟨Yk h1.1,.inr (.inr rfl)⟩
theorem nB {r r':aj} {k:Nat} {t':am} (h:ROk r) (h1:r.2.2.2.1=1) (hk:k<r.2.2.2.2.1.length) (h0:(bp r k).1≠0) (h4:(bp r k).1≠4) (ht:bZ (bT r k) t') (n0:t'.1≠0) (n4:t'.1≠4) (n6:t'.1≠6) (hT:Turn r k t' r'):ROk r':=by
 obtain⟨id,key,⟨ns,_⟩,st,ts,_⟩:=r
 obtain⟨id',key',ns',st',ts',_⟩:=r'
 obtain⟨e1,e2,e3,e4,_,how⟩:=hT
 simp only at e1 e2 e3 e4 how h1 hk
 subst e1 e2 e3 h1
 obtain⟨q1,q2,q3,q4,q5,q6⟩:=h
 simp only at q1 q2 q3 q4 q5 q6
 simp only [bp,bT]at h0 h4 ht
 have hset:∀i:Nat,i<(ts.set k t').length→bZ (ns.getD i (aa af)) ((ts.set k t').getD i (aa ae)):=fun i hi=>by
  rw [length_set]at hi
  rw [bo hk]
  split
  ·rename_i c;rw [c];exact ht
  ·exact q5 i hi
 rcases how with⟨c5,rfl,hd⟩|⟨c5,rfl,how⟩
 ·have hts:=Gl (by rw [length_set];exact q4) hset hd
  refine⟨q1,q2,q3,by simp only;omega,fun i hi=>(hts i hi).1,.inr (.inr (.inl ⟨rfl,⟨t',?_,c5⟩,gC fun i hi=>(hts i hi).2⟩))⟩
  rcases hd.2 k (by rw [length_set];exact hk)with⟨_,h2⟩|⟨h2,_⟩
  ·rw [bo hk,if_pos rfl]at h2
   rw [←h2]
   exact aC (by rw [hd.1,length_set];exact hk) _
  ·rw [bo hk,if_pos rfl]at h2
   exact absurd c5 h2.2.2.1
 ·have hmem:t'∈ts.set k t':=mem_set hk t'
  rcases how with⟨h2,_⟩|⟨h2,rfl⟩
  ·exact absurd (h2 t' hmem) n4
  ·rcases q6 with⟨_,hm,_,hn⟩|⟨h3,_⟩|⟨h3,_⟩|⟨h3,_⟩
   ·refine⟨q1,q2,q3,by simp only;rw [length_set];exact q4,hset,.inl ⟨rfl,fun i hi=> ?_,h2,fun⟨t,ht,h5⟩=> ?_⟩⟩
    ·rw [uL (B:=ts) fun j=>by
      rw [bo hk]
      split
      ·rename_i c;rw [c];exact⟨fun h=>absurd h n4,fun h=>absurd h h4⟩
      ·exact Iff.rfl]
     rw [hm i hi,bo hk]
     split
     ·rename_i c;rw [c];exact⟨fun _=>n0,fun _=>h0⟩
     ·exact Iff.rfl
    ·rcases List.mem_or_eq_of_mem_set ht with h6|rfl
     ·exact hn ⟨t,h6,h5⟩
     ·omega
   ·exact absurd h3 (bD rfl)
   ·exact absurd h3 (bD rfl)
   ·exact absurd h3 (bD rfl)
theorem IG {r r':aj} (h:ROk r) (h1:r.2.2.2.1=1) (e1:r'.1=r.1) (e2:r'.2.1=r.2.1) (e3:r'.2.2.1=r.2.2.1) (e4:r'.2.2.2.1=4) (hd:kT r.2.2.1.1 r.2.2.2.2.1 r'.2.2.2.2.1):ROk r':=by
 obtain⟨id,key,⟨ns,_⟩,st,ts,_⟩:=r
 obtain⟨id',key',ns',st',ts',_⟩:=r'
 simp only at e1 e2 e3 e4 hd h1
 subst e1 e2 e3 e4 h1
 obtain⟨q1,q2,q3,q4,q5,q6⟩:=h
 simp only at q1 q2 q3 q4 q5 q6
 have hts:=Gl q4 q5 hd
 rcases q6 with⟨_,hm,h4,hn⟩|⟨h3,_⟩|⟨h3,_⟩|⟨h3,_⟩
 ·refine⟨q1,q2,q3,by rw [←q4];exact hd.1,fun i hi=>(hts i hi).1,.inr (.inr (.inr ⟨rfl,?_,gC fun i hi=> ?_⟩))⟩
  ·obtain⟨k,hk,h5⟩:∃k:Nat,k<ts.length∧(ts.getD k (aa ae)).1≠4:=Classical.byContradiction fun hc=>h4 (gC fun j hj=>Classical.byContradiction fun h=>hc ⟨j,hj,h⟩)
   have hk':k<ts'.length:=by rw [hd.1];exact hk
   refine⟨_,aC hk' (aa ae),?_⟩
   rcases hd.2 k hk with⟨_,h2⟩|⟨_,h2⟩
   ·rw [h2]
    have h6:=(hts k hk').2
    rw [h2]at h6
    have:¬(ts.getD k (aa ae)).1=5:=fun h=>hn ⟨_,aC hk _,.inl h⟩
    omega
   ·rw [h2];rfl
  ·have h6:=(hts i hi).2
   rw [hd.1]at hi
   rcases hd.2 i hi with⟨_,h2⟩|⟨_,h2⟩
   ·rw [h2]at h6⊢
    have:¬(ts.getD i (aa ae)).1=5:=fun h=>hn ⟨_,aC hi _,.inl h⟩
    omega
   ·rw [h2];exact .inr rfl
 ·exact absurd h3 (bD rfl)
 ·exact absurd h3 (bD rfl)
 ·exact absurd h3 (bD rfl)
structure OpnP (ns:List aL) (rk:Int) (ts:List am) (j:Nat) (S:Int×List am):Prop where
 lo:rk≤S.1
 hi:S.1≤rk+j
 len:S.2.length=ts.length
 is:∀i:Nat,i<ts.length→(¬(i<j∧(ts.getD i (aa ae)).1=0∧gB ts (ns.getD i (aa af)))∧S.2.getD i (aa ae)=ts.getD i (aa ae))∨((i<j∧(ts.getD i (aa ae)).1=0∧gB ts (ns.getD i (aa af)))∧∃ρ:Int,S.2.getD i (aa ae)=(ofNat 1,ofNat 0,ofNat 0,ofNat 0,ρ,())∧rk≤ρ∧ρ<S.1)
 up:∀i i':Nat,i<i'→i'<ts.length→(ts.getD i (aa ae)).1=0→(S.2.getD i (aa ae)).1=1→(ts.getD i' (aa ae)).1=0→(S.2.getD i' (aa ae)).1=1→dv (S.2.getD i (aa ae))<dv (S.2.getD i' (aa ae))
theorem OpnP.four {ns:List aL} {rk:Int} {ts:List am} {j:Nat} {S:Int×List am} (h:OpnP ns rk ts j S) (i:Nat):(S.2.getD i (aa ae)).1=4↔(ts.getD i (aa ae)).1=4:=by
 by_cases hi:i<ts.length
 ·rcases h.is i hi with⟨_,h2⟩|⟨⟨_,h0,_⟩,ρ,h2,_⟩
  ·rw [h2]
  ·rw [h2,h0];exact⟨fun h=>absurd h (bD rfl),fun h=>absurd h (bD rfl)⟩
 ·have h1:S.2.length≤i:=by have:=h.len;omega
  rw [getD_eq_getElem?_getD,List.getElem?_eq_none h1,getD_eq_getElem?_getD,List.getElem?_eq_none (by omega)]
theorem EM {ns:List aL} {rk:Int} {ts:List am} (hl:ts.length=ns.length) (h0:0≤rk) (h1:rk+ns.length≤1099511627776) (ht:∀i:Nat,i<ts.length→bZ (ns.getD i (aa af)) (ts.getD i (aa ae))):∀j:Nat,j≤ns.length→OpnP ns rk ts j (opn ns (rk,ts) j)
 |0,_=>⟨le_refl _,by simp only [opn];omega,rfl,fun i hi=>.inl ⟨fun h=>absurd h.1 (not_lt_zero _),rfl⟩,fun i i' _ _ h1 h2=>by
   simp only [opn]at h2;omega⟩
 |j+1,hj=>by
  have ih:=EM hl h0 h1 ht j (by omega)
  rw [opn]
  generalize hS:opn ns (rk,ts) j=S at ih
  have hjt:j<ts.length:=by omega
  have hSj:S.2.getD j (aa ae)=ts.getD j (aa ae):=by
   rcases ih.is j hjt with⟨_,h2⟩|⟨⟨h2,_⟩,_⟩
   ·exact h2
   ·exact absurd h2 (Nat.lt_irrefl _)
  have hmet:gB S.2 (ns.getD j (aa af))↔gB ts (ns.getD j (aa af)):=uL ih.four
  rw [hSj,hmet]
  have hlo:=ih.lo
  have hhi:=ih.hi
  have hjS:j<S.2.length:=by rw [ih.len];exact hjt
  by_cases c:(ts.getD j (aa ae)).1=0∧gB ts (ns.getD j (aa af))
  ·have hc:bW S.1:=⟨by omega,by omega⟩
   have hw:IntKind.i64.wrap (S.1+ofNat 1)=S.1+1:=by rw [IntKind.wrap_i64];simp only [bi];omega
   rw [if_pos c,if_pos ⟨hc,ht j hjt⟩,hw]
   refine⟨by simp only;omega,by simp only;omega,by simp only;rw [length_set];exact ih.len,fun i hi=> ?_,fun i i' hii hi' z1 z2 z3 z4=> ?_⟩
   ·simp only
    rw [bo hjS]
    by_cases e:i=j
    ·subst e
     rw [if_pos rfl]
     exact .inr ⟨⟨lt_succ_self _,c⟩,_,rfl,hlo,by omega⟩
    ·rw [if_neg e]
     rcases ih.is i hi with⟨h2,h3⟩|⟨⟨h2,h3⟩,ρ,h4,h5,h6⟩
     ·exact .inl ⟨fun h=>h2 ⟨by omega,h.2⟩,h3⟩
     ·exact .inr ⟨⟨by omega,h3⟩,ρ,h4,h5,by omega⟩
   ·simp only at z2 z4⊢
    rw [bo hjS]at z2 z4⊢
    rw [bo hjS]
    have far:∀a:Nat,a<ts.length→(ts.getD a (aa ae)).1=0→(S.2.getD a (aa ae)).1=1→a<j∧dv (S.2.getD a (aa ae))<S.1:=fun a ha y1 y2=>by
     rcases ih.is a ha with⟨h2,h3⟩|⟨⟨h2,h3⟩,ρ,h4,h5,h6⟩
     ·rw [h3,y1]at y2;exact absurd y2 (bD rfl)
     ·rw [h4];exact⟨h2,h6⟩
    by_cases e:i=j
    ·subst e
     rw [if_neg (by omega)]at z4
     have:=(far i' hi' z3 z4).1
     omega
    ·rw [if_neg e]at z2⊢
     by_cases e':i'=j
     ·subst e'
      rw [if_pos rfl]
      exact(far i (by omega) z1 z2).2
     ·rw [if_neg e']at z4⊢
      exact ih.up i i' hii hi' z1 z2 z3 z4
  ·rw [if_neg c]
   refine⟨hlo,by omega,ih.len,fun i hi=> ?_,ih.up⟩
   rcases ih.is i hi with⟨h2,h3⟩|⟨⟨h2,h3⟩,h4⟩
   ·refine .inl ⟨fun h=> ?_,h3⟩
    by_cases e:i=j
    ·subst e;exact c h.2
    ·exact h2 ⟨by omega,h.2⟩
   ·exact .inr ⟨⟨by omega,h3⟩,h4⟩
theorem Gm {ns:List aL} {rk:Int} {ts:List am} {S:Int×List am} (hn:∀i:Nat,i<ns.length→dJ (ns.getD i (aa af))) (hl:ts.length=ns.length) (h0:0≤rk) (h1:rk+ns.length≤1099511627776) (ht:∀i:Nat,i<ts.length→bZ (ns.getD i (aa af)) (ts.getD i (aa ae))) (h:OpnP ns rk ts ns.length S):∀i:Nat,i<S.2.length→bZ (ns.getD i (aa af)) (S.2.getD i (aa ae)):=fun i hi=>by
 rw [h.len]at hi
 rcases h.is i hi with⟨_,h3⟩|⟨h2,ρ,h4,h5,h6⟩
 ·rw [h3];exact ht i hi
 ·rw [h4]
  have:=h.hi
  have:=(hn i (by omega)).1.1
  exact⟨⟨dw.1,by simp only [bi];omega⟩,dw,dw,⟨by simp only;omega,by simp only;omega⟩,fun _=>rfl,fun h=>absurd rfl h,⟨fun h=>absurd rfl h,fun h=>absurd h (bD rfl)⟩,.inr (.inl ⟨rfl,by simp only [bi];omega⟩)⟩
theorem KU {ns:List aL} {rk:Int} {ts:List am} {S:Int×List am} (hl:ts.length=ns.length) (hm:∀i:Nat,i<ns.length→(ts.getD i (aa ae)).1≠0→gB ts (ns.getD i (aa af))) (h4:¬∀t∈ts,t.1=4) (hn:¬∃t∈ts,t.1=5∨t.1=6) (h:OpnP ns rk ts ns.length S):Gb ns S.2 1:=by
 refine .inl ⟨rfl,fun i hi=> ?_,fun hc=>h4 (gC fun j hj=>(h.four j).1 (hc _ (aC (by rw [h.len];exact hj) _))),fun⟨t,ht,h5⟩=> ?_⟩
 ·rw [uL h.four]
  rcases h.is i (by omega)with⟨h2,h3⟩|⟨⟨_,h2,h3⟩,ρ,h5,_⟩
  ·rw [h3]
   exact⟨fun h5 h6=>h2 ⟨hi,h6,h5⟩,hm i hi⟩
  ·rw [h5]
   exact⟨fun _=>bD rfl,fun _=>h3⟩
 ·obtain⟨j,hj,rfl⟩:=EL ht
  rw [h.len]at hj
  rcases h.is j hj with⟨_,h3⟩|⟨_,ρ,h6,_⟩
  ·rw [h3]at h5;exact hn ⟨_,aC hj _,h5⟩
  ·rw [h6]at h5;rcases h5 with h5|h5<;>exact absurd h5 (bD rfl)
theorem uM {r r':aj} {k:Nat} {rk rk' tk:Int} (h:ROk r) (h1:r.2.2.2.1=1) (hk:k<r.2.2.2.2.1.length) (hrk:pw rk) (hh:lP (bT r k) (bp r k) tk) (hC:Cmpl r k rk r' rk'):ROk r'∧OpnP r.2.2.1.1 rk (r.2.2.2.2.1.set k (ofNat 4,(bp r k).2.1,ofNat 0,ofNat 0,ofNat 0,())) r.2.2.1.1.length (rk',r'.2.2.2.2.1):=by
 obtain⟨id,key,⟨ns,_⟩,st,ts,_⟩:=r
 obtain⟨id',key',ns',st',ts',_⟩:=r'
 obtain⟨e1,e2,e3,e4,e5,hst,e6,_⟩:=hC
 simp only at e1 e2 e3 e4 e5 e6 hst h1 hk
 subst e1 e2 e3 h1
 obtain⟨q1,q2,q3,q4,q5,q6⟩:=h
 simp only at q1 q2 q3 q4 q5 q6
 simp only [bp,bT]at hh⊢
 generalize hte:(ts.getD k (aa ae))=t at hh e4 e5 hst⊢
 obtain⟨⟨g1,g2,g3,g4,g5,g6,g7,g8⟩,_,_,c2,_⟩:=hh
 have h12:=q3.1.2
 have hrk1:rk+ns.length≤1099511627776:=by have:=hrk.2;omega
 have ht4:bZ (ns.getD k (aa af)) (ofNat 4,t.2.1,ofNat 0,ofNat 0,ofNat 0,()):=
  ⟨g1,dw,dw,dw,fun h=>absurd rfl h,fun h=>absurd rfl h,⟨fun h=>absurd rfl h,fun h=>absurd h (bD rfl)⟩,.inr (.inr (.inr (.inr (.inl ⟨rfl,by simp only;omega⟩))))⟩
 generalize hq4:((ofNat 4,t.2.1,ofNat 0,ofNat 0,ofNat 0,()):am)=t4 at ht4 e4 e5 hst⊢
 have c4:t4.1=4:=by rw [←hq4];rfl
 have hset:∀i:Nat,i<(ts.set k t4).length→bZ (ns.getD i (aa af)) ((ts.set k t4).getD i (aa ae)):=fun i hi=>by
  rw [length_set]at hi
  rw [bo hk]
  split
  ·rename_i c;rw [c];exact ht4
  ·exact q5 i hi
 have hl:(ts.set k t4).length=ns.length:=by rw [length_set];exact q4
 have ho:=EM hl hrk.1 hrk1 hset ns.length (Nat.le_refl _)
 have heq:opn ns (rk,ts.set k t4) ns.length=(rk',ts'):=Prod.ext e5.symm e4.symm
 rw [heq]at ho
 refine⟨?_,ho⟩
 have htk:=Gm (fun i hi=>gJ q3.2.1 hi) hl hrk.1 hrk1 hset ho
 have hsl:=ho.len
 simp only at hsl htk
 rcases q6 with⟨_,hm,hn4,hn⟩|⟨h3,_⟩|⟨h3,_⟩|⟨h3,_⟩
 ·have hmono:∀j:Nat,(ts.getD j (aa ae)).1=4→((ts.set k t4).getD j (aa ae)).1=4:=fun j hj=>by
   rw [bo hk]
   split
   ·exact c4
   ·exact hj
  rcases hst with⟨hall,rfl⟩|⟨hall,rfl⟩
  ·refine⟨q1,q2,q3,by simp only;omega,htk,.inr (.inl ⟨rfl,gC fun j hj=>(ho.four j).2 (hall _ (aC (by rw [←hsl];exact hj) _))⟩)⟩
  ·refine⟨q1,q2,q3,by simp only;omega,htk,KU hl (fun i hi h0 v hv=> ?_) hall (fun⟨t,ht,h5⟩=> ?_) ho⟩
   ·refine hmono _ ((hm i hi).2 ?_ v hv)
    rw [bo hk]at h0
    split at h0
    ·rename_i c;rw [c,hte,c2];decide
    ·exact h0
   ·rcases List.mem_or_eq_of_mem_set ht with h6|rfl
    ·exact hn ⟨t,h6,h5⟩
    ·omega
 ·exact absurd h3 (bD rfl)
 ·exact absurd h3 (bD rfl)
 ·exact absurd h3 (bD rfl)
theorem Bf {id:Int} {key:ByteArray} {ns:List aL} {rk:Int} (h1:bW id) (h2:1≤key.size∧key.size≤24) (hd:od ns) (hrk:pw rk):ROk (id,key,(ns,()),ofNat 1,(opn ns (rk,replicate ns.length t0) ns.length).2,())∧OpnP ns rk (replicate ns.length t0) ns.length (opn ns (rk,replicate ns.length t0) ns.length):=by
 have h12:=hd.1
 have hrk1:rk+ns.length≤1099511627776:=by have:=hrk.2;omega
 have hl:(replicate ns.length t0).length=ns.length:=List.length_replicate ..
 have h0:∀i:Nat,i<(replicate ns.length t0).length→(replicate ns.length t0).getD i (aa ae)=t0:=fun i hi=>List.eq_of_mem_replicate (aC hi _)
 have ht:∀i:Nat,i<(replicate ns.length t0).length→bZ (ns.getD i (aa af)) ((replicate ns.length t0).getD i (aa ae)):=fun i hi=>by
  rw [h0 i hi]
  have:=(gJ hd.2.1 (i:=i) (by omega)).1.1
  exact⟨⟨dw.1,by simp only [bi];omega⟩,dw,dw,dw,fun h=>absurd rfl h,fun h=>absurd rfl h,⟨fun h=>absurd rfl h,fun h=>absurd h (bD rfl)⟩,.inl ⟨rfl,rfl⟩⟩
 have ho:=EM hl hrk.1 hrk1 ht ns.length (Nat.le_refl _)
 refine⟨⟨h1,h2,hd,ho.len.trans hl,Gm (fun i hi=>gJ hd.2.1 hi) hl hrk.1 hrk1 ht ho,KU hl (fun i hi h=>absurd (by rw [h0 i (by rw [hl];exact hi)];rfl) h) (fun h=> ?_) (fun⟨t,ht,h5⟩=> ?_) ho⟩,ho⟩
 ·have:=h t0 (List.mem_replicate.2 ⟨by omega,rfl⟩)
  exact absurd this (bD rfl)
 ·rw [List.eq_of_mem_replicate ht]at h5
  rcases h5 with h5|h5<;>exact absurd h5 (bD rfl)
theorem px {r:aj} (h:ROk r):bH r:=by
 have h12:=h.dag.1
 refine⟨fun nd hnd=> ?_,by have:=h.len;omega,gC fun j hj=>(EK (h.tks j hj)).1⟩
 obtain⟨j,hj,rfl⟩:=List.getElem_of_mem hnd
 have:=EH (h.dag.2.1 j hj).2.2
 rw [bG hj]at this
 omega
structure Rel (nt nk nt' nk':Int) (ts ts':List am):Prop where
 len:ts'.length=ts.length
 tk:∀j:Nat,j<ts.length→(ts'.getD j (aa ae)).1=2→((ts.getD j (aa ae)).1=2∧dE (ts'.getD j (aa ae))=dE (ts.getD j (aa ae)))∨(nt≤dE (ts'.getD j (aa ae))∧dE (ts'.getD j (aa ae))<nt')
 rk:∀j:Nat,j<ts.length→(ts'.getD j (aa ae)).1=1→((ts.getD j (aa ae)).1=1∧dv (ts'.getD j (aa ae))=dv (ts.getD j (aa ae)))∨(nk≤dv (ts'.getD j (aa ae))∧dv (ts'.getD j (aa ae))<nk')
 tu:∀i j:Nat,i<j→j<ts.length→(ts'.getD i (aa ae)).1=2→(ts'.getD j (aa ae)).1=2→nt≤dE (ts'.getD i (aa ae))→nt≤dE (ts'.getD j (aa ae))→dE (ts'.getD i (aa ae))≠dE (ts'.getD j (aa ae))
 ru:∀i j:Nat,i<j→j<ts.length→(ts'.getD i (aa ae)).1=1→(ts'.getD j (aa ae)).1=1→nk≤dv (ts'.getD i (aa ae))→nk≤dv (ts'.getD j (aa ae))→dv (ts'.getD i (aa ae))≠dv (ts'.getD j (aa ae))
def nC (nt nk:Int) (t:am):Prop:=(t.1=2→dE t<nt)∧(t.1=1→dv t<nk)
theorem KW {l:List am}:l.Pairwise NC↔∀i j:Nat,i<j→j<l.length→NC (l.getD i (aa ae)) (l.getD j (aa ae)):=by
 rw [List.pairwise_iff_getElem]
 constructor
 ·intro h i j hij hj
  rw [bG (by omega:i<l.length),bG hj]
  exact h i j (by omega) hj hij
 ·intro h i j hi hj hij
  have:=h i j hij hj
  rwa [bG hi,bG hj]at this
theorem EN {nt nk nt' nk':Int} {ts ts':List am} (h:ts.Pairwise NC) (hl:∀t∈ts,nC nt nk t) (hr:Rel nt nk nt' nk' ts ts'):ts'.Pairwise NC:=by
 rw [KW]at h⊢
 intro i j hij hj
 rw [hr.len]at hj
 have h1:=h i j hij hj
 have li:=hl _ (aC (show i<ts.length by omega) (aa ae))
 have lj:=hl _ (aC hj (aa ae))
 refine⟨fun⟨a,b,c⟩=> ?_,fun⟨a,b,c⟩=> ?_⟩
 ·rcases hr.tk i (by omega) a with⟨a1,a2⟩|⟨a1,a2⟩<;>rcases hr.tk j hj b with⟨b1,b2⟩|⟨b1,b2⟩
  ·exact h1.1 ⟨a1,b1,by omega⟩
  ·have:=li.1 a1;omega
  ·have:=lj.1 b1;omega
  ·exact hr.tu i j hij hj a b a1 b1 c
 ·rcases hr.rk i (by omega) a with⟨a1,a2⟩|⟨a1,a2⟩<;>rcases hr.rk j hj b with⟨b1,b2⟩|⟨b1,b2⟩
  ·exact h1.2 ⟨a1,b1,by omega⟩
  ·have:=li.2 a1;omega
  ·have:=lj.2 b1;omega
  ·exact hr.ru i j hij hj a b a1 b1 c
theorem IH {nt nk nt' nk':Int} {ts ts':List am} {y:am} (hy:nC nt nk y) (h:∀x∈ts,NC x y) (hr:Rel nt nk nt' nk' ts ts'):∀x∈ts',NC x y:=fun x hx=>by
 obtain⟨j,hj,rfl⟩:=EL hx
 rw [hr.len]at hj
 have h1:=h _ (aC hj (aa ae))
 refine⟨fun⟨a,b,c⟩=> ?_,fun⟨a,b,c⟩=> ?_⟩
 ·rcases hr.tk j hj a with⟨a1,a2⟩|⟨a1,a2⟩
  ·exact h1.1 ⟨a1,b,by omega⟩
  ·have:=hy.1 b;omega
 ·rcases hr.rk j hj a with⟨a1,a2⟩|⟨a1,a2⟩
  ·exact h1.2 ⟨a1,b,by omega⟩
  ·have:=hy.2 b;omega
theorem Gn {nt nk nt' nk':Int} {ts ts':List am} (h1:nt≤nt') (h2:nk≤nk') (hl:∀t∈ts,nC nt nk t) (hr:Rel nt nk nt' nk' ts ts'):∀t∈ts',nC nt' nk' t:=gC fun j hj=>by
 rw [hr.len]at hj
 have lj:=hl _ (aC hj (aa ae))
 refine⟨fun a=> ?_,fun a=> ?_⟩
 ·rcases hr.tk j hj a with⟨a1,a2⟩|⟨a1,a2⟩
  ·have:=lj.1 a1;omega
  ·exact a2
 ·rcases hr.rk j hj a with⟨a1,a2⟩|⟨a1,a2⟩
  ·have:=lj.2 a1;omega
  ·exact a2
theorem MO {nt nk:Int} {t:am} (h:cM nt nk t):nC nt nk t:=⟨fun _=>h.1,h.2⟩
theorem MP {nd:aL} {nt nk:Int} {t:am} (hn:1≤nt) (ht:bZ nd t) (h:nC nt nk t):cM nt nk t:=by
 refine⟨?_,h.2⟩
 by_cases c:t.1=2
 ·exact h.1 c
 ·have:dE t=0:=Classical.byContradiction fun h2=>c (ht.2.2.2.2.2.2.1.1 h2)
  omega
theorem mj {nt nk nt' nk':Int} {ts:List am} {k:Nat} {t:am} (hk:k<ts.length) (ht:t.1=2→((ts.getD k (aa ae)).1=2∧dE t=dE (ts.getD k (aa ae)))∨(nt≤dE t∧dE t<nt')) (hr:t.1=1→((ts.getD k (aa ae)).1=1∧dv t=dv (ts.getD k (aa ae)))∨(nk≤dv t∧dv t<nk')) (hl:∀t∈ts,nC nt nk t):Rel nt nk nt' nk' ts (ts.set k t):=by
 refine⟨length_set,fun j hj h=> ?_,fun j hj h=> ?_,fun i j hij hj h1 h2 h3 h4=> ?_,fun i j hij hj h1 h2 h3 h4=> ?_⟩
 ·rw [bo hk]at h⊢
  split
  ·rename_i c;subst c;rw [if_pos rfl]at h;exact ht h
  ·rename_i c;rw [if_neg c]at h;exact .inl ⟨h,rfl⟩
 ·rw [bo hk]at h⊢
  split
  ·rename_i c;subst c;rw [if_pos rfl]at h;exact hr h
  ·rename_i c;rw [if_neg c]at h;exact .inl ⟨h,rfl⟩
 ·rw [bo hk]at h1 h2 h3 h4
  have li:=(hl _ (aC (show i<ts.length by omega) (aa ae))).1
  have lj:=(hl _ (aC hj (aa ae))).1
  by_cases ci:i=k
  ·rw [if_neg (show¬j=k by omega)]at h2 h4
   have:=lj h2;omega
  ·rw [if_neg ci]at h1 h3
   have:=li h1;omega
 ·rw [bo hk]at h1 h2 h3 h4
  have li:=(hl _ (aC (show i<ts.length by omega) (aa ae))).2
  have lj:=(hl _ (aC hj (aa ae))).2
  by_cases ci:i=k
  ·rw [if_neg (show¬j=k by omega)]at h2 h4
   have:=lj h2;omega
  ·rw [if_neg ci]at h1 h3
   have:=li h1;omega
theorem Gp {nt nk nt' nk':Int} {ns:List aL} {ts ts1 ts':List am} (h:Rel nt nk nt' nk' ts ts1) (hd:kT ns ts1 ts'):Rel nt nk nt' nk' ts ts':=by
 have key:∀j:Nat,j<ts.length→∀s:Int,s≠6→(ts'.getD j (aa ae)).1=s→ts'.getD j (aa ae)=ts1.getD j (aa ae):=fun j hj s hs e=>by
  rcases hd.2 j (by rw [h.len];exact hj)with⟨_,h2⟩|⟨_,h2⟩
  ·exact h2
  ·rw [h2]at e;exact absurd e.symm hs
 refine⟨hd.1.trans h.len,fun j hj e=> ?_,fun j hj e=> ?_,fun i j hij hj e1 e2=> ?_,fun i j hij hj e1 e2=> ?_⟩
 ·have q:=key j hj 2 (by decide) e;rw [q]at e⊢;exact h.tk j hj e
 ·have q:=key j hj 1 (by decide) e;rw [q]at e⊢;exact h.rk j hj e
 ·have q:=key i (by omega) 2 (by decide) e1;have q2:=key j hj 2 (by decide) e2;rw [q]at e1⊢;rw [q2]at e2⊢;exact h.tu i j hij hj e1 e2
 ·have q:=key i (by omega) 1 (by decide) e1;have q2:=key j hj 1 (by decide) e2;rw [q]at e1⊢;rw [q2]at e2⊢;exact h.ru i j hij hj e1 e2
theorem EO {nt nk nt' nk':Int} {ts:List am} (hl:∀t∈ts,nC nt nk t):Rel nt nk nt' nk' ts ts:=by
 refine⟨rfl,fun j hj h=>.inl ⟨h,rfl⟩,fun j hj h=>.inl ⟨h,rfl⟩,fun i j hij hj h1 h2 h3 h4=> ?_,fun i j hij hj h1 h2 h3 h4=> ?_⟩
 ·have:=(hl _ (aC hj (aa ae))).1 h2;omega
 ·have:=(hl _ (aC hj (aa ae))).2 h2;omega
theorem Gq {nt nk nk':Int} {ns:List aL} {ts ts1 ts':List am} (h:Rel nt nk nt nk ts ts1) (hl:∀t∈ts,nC nt nk t) (ho:OpnP ns nk ts1 ns.length (nk',ts')):Rel nt nk nt nk' ts ts':=by
 have h2':∀j:Nat,j<ts.length→(ts'.getD j (aa ae)).1=2→ts'.getD j (aa ae)=ts1.getD j (aa ae):=fun j hj e=>by
  rcases ho.is j (by rw [h.len];exact hj)with⟨_,h2⟩|⟨_,ρ,h2,_⟩
  ·exact h2
  ·simp only at h2;rw [h2]at e;exact absurd e (bD rfl)
 have h1':∀j:Nat,j<ts.length→(ts'.getD j (aa ae)).1=1→(ts'.getD j (aa ae)=ts1.getD j (aa ae))∨((ts1.getD j (aa ae)).1=0∧nk≤dv (ts'.getD j (aa ae))∧dv (ts'.getD j (aa ae))<nk'):=fun j hj e=>by
  rcases ho.is j (by rw [h.len];exact hj)with⟨_,h2⟩|⟨⟨_,h0,_⟩,ρ,h2,h3,h4⟩
  ·exact .inl h2
  ·simp only at h2 h4;rw [h2];exact .inr ⟨h0,h3,h4⟩
 refine⟨ho.len.trans h.len,fun j hj e=> ?_,fun j hj e=> ?_,fun i j hij hj e1 e2=> ?_,fun i j hij hj e1 e2 e3 e4=> ?_⟩
 ·have q:=h2' j hj e;rw [q]at e⊢;exact h.tk j hj e
 ·rcases h1' j hj e with h3|⟨_,h3⟩
  ·rw [h3]at e⊢
   rcases h.rk j hj e with h4|⟨h4,h5⟩
   ·exact .inl h4
   ·omega
  ·exact .inr h3
 ·have q:=h2' i (by omega) e1;have q2:=h2' j hj e2;rw [q]at e1⊢;rw [q2]at e2⊢;exact h.tu i j hij hj e1 e2
 ·have old:∀a:Nat,a<ts.length→(ts'.getD a (aa ae)).1=1→nk≤dv (ts'.getD a (aa ae))→(ts1.getD a (aa ae)).1=0:=fun a ha b c=>by
   rcases h1' a ha b with h3|⟨h3,_⟩
   ·rw [h3]at b c
    rcases h.rk a ha b with⟨h4,h5⟩|⟨h4,h5⟩
    ·have:=(hl _ (aC ha (aa ae))).2 h4;omega
    ·omega
   ·exact h3
  have:=ho.up i j hij (by rw [h.len];exact hj) (old i (by omega) e1 e3) e1 (old j hj e2 e4) e2
  simp only at this
  omega
theorem dc {l:List aj} {i:Nat} (h:i<l.length) (v:aj) (j:Nat):(l.set i v).getD j (aa ab)=if j=i then v else l.getD j (aa ab):=by
 simp only [getD_eq_getElem?_getD,List.getElem?_set]
 by_cases e:i=j
 ·subst e;simp [h]
 ·rw [if_neg e,if_neg (fun h=>e h.symm)]
abbrev aZ (rs:List aj) (a:Nat):List am:=(rs.getD a (aa ab)).2.2.2.2.1
theorem yE (rs:List aj):(FT rs).Pairwise NC↔(∀a:Nat,a<rs.length→(aZ rs a).Pairwise NC)∧∀a b:Nat,a<b→b<rs.length→∀x∈aZ rs a,∀y∈aZ rs b,NC x y:=by
 unfold FT
 rw [List.pairwise_flatMap,List.pairwise_iff_getElem]
 constructor
 ·intro⟨h1,h2⟩
  refine⟨fun a ha=>h1 _ (aC ha _),fun a b hab hb=> ?_⟩
  have:=h2 a b (by omega) hb hab
  rwa [←bG (by omega:a<rs.length) (aa ab),←bG hb (aa ab)]at this
 ·intro⟨h1,h2⟩
  refine⟨fun r hr=> ?_,fun a b ha hb hab=> ?_⟩
  ·obtain⟨a,ha,rfl⟩:=List.getElem_of_mem hr
   have:=h1 a ha
   rwa [aZ,bG ha]at this
  ·have:=h2 a b hab hb
   rwa [aZ,aZ,bG ha,bG hb]at this
theorem MQ {rs:List aj} {n:Nat} {r':aj} {nt nk nt' nk':Int} (hf:eL rs) (hn:n<rs.length) (hl:∀a:Nat,a<rs.length→∀t∈aZ rs a,nC nt nk t) (e1:r'.1=(rs.getD n (aa ab)).1) (e2:r'.2.1=(rs.getD n (aa ab)).2.1) (ho:ROk r') (hr:Rel nt nk nt' nk' (aZ rs n) r'.2.2.2.2.1):eL (rs.set n r'):=by
 obtain⟨h32,up,keys,chk,ap⟩:=hf
 have G:=dc hn r'
 have idA:∀a:Nat,((rs.set n r').getD a (aa ab)).1=(rs.getD a (aa ab)).1:=fun a=>by
  rw [G];split
  ·rename_i c;rw [c];exact e1
  ·rfl
 have keyA:∀a:Nat,cH ((rs.set n r').getD a (aa ab))=cH (rs.getD a (aa ab)):=fun a=>by
  rw [G];split
  ·rename_i c;rw [c,cH,e2]
  ·rfl
 rw [yE]at ap
 refine⟨by rw [length_set];exact h32,fun a b hab hb=> ?_,fun a b hab hb=> ?_,fun a ha=> ?_,?_⟩
 ·rw [idA,idA];rw [length_set]at hb;exact up a b hab hb
 ·rw [keyA,keyA];rw [length_set]at hb;exact keys a b hab hb
 ·rw [length_set]at ha;rw [G];split
  ·exact ho
  ·exact chk a ha
 ·rw [yE]
  refine⟨fun a ha=> ?_,fun a b hab hb=> ?_⟩
  ·rw [length_set]at ha
   unfold aZ
   rw [G];split
   ·exact EN (ap.1 n hn) (hl n hn) hr
   ·exact ap.1 a ha
  ·rw [length_set]at hb
   unfold aZ
   rw [G,G]
   by_cases ca:a=n
   ·rw [if_pos ca,if_neg (by omega)]
    subst ca
    exact fun x hx y hy=>IH (hl b hb y hy) (fun x hx=>ap.2 a b hab hb x hx y hy) hr x hx
   ·rw [if_neg ca]
    by_cases cb:b=n
    ·rw [if_pos cb]
     subst cb
     exact fun x hx y hy=>(IH (hl a (by omega) x hx) (fun y hy=>(ap.2 a b hab hb x hx y hy).symm) hr y hy).symm
    ·rw [if_neg cb]
     exact ap.2 a b hab hb
theorem cI {l:List aj} {v:aj} (j:Nat) (h:j<(l++ [v]).length):(l++ [v]).getD j (aa ab)=if j=l.length then v else l.getD j (aa ab):=by
 rw [length_append,length_singleton]at h
 by_cases e:j=l.length
 ·subst e
  rw [if_pos rfl,getD_eq_getElem?_getD,List.getElem?_append_right (Nat.le_refl _),Nat.sub_self]
  rfl
 ·rw [if_neg e,getD_eq_getElem?_getD,List.getElem?_append_left (by omega),←getD_eq_getElem?_getD]
theorem MR {rs:List aj} {r':aj} {ts:List am} {nt nk nt' nk':Int} (hf:eL rs) (h32:rs.length<32) (hl:∀a:Nat,a<rs.length→∀t∈aZ rs a,nC nt nk t) (hid:∀a:Nat,a<rs.length→(rs.getD a (aa ab)).1<r'.1) (hk:∀a:Nat,a<rs.length→cH (rs.getD a (aa ab))≠cH r') (ho:ROk r') (h0:∀t∈ts,t.1=0) (hr:Rel nt nk nt' nk' ts r'.2.2.2.2.1):eL (rs++ [r']):=by
 obtain⟨_,up,keys,chk,ap⟩:=hf
 have hlen:(rs++ [r']).length=rs.length+1:=by rw [length_append,length_singleton]
 have hnc:∀t∈ts,∀y:am,NC t y:=fun t ht y=>by
  have:=h0 t ht
  exact⟨fun⟨a,_⟩=>by omega,fun⟨a,_⟩=>by omega⟩
 have hlow:∀t∈ts,nC nt nk t:=fun t ht=>by
  have:=h0 t ht
  exact⟨fun a=>by omega,fun a=>by omega⟩
 rw [yE]at ap
 refine⟨by omega,fun a b hab hb=> ?_,fun a b hab hb=> ?_,fun a ha=> ?_,?_⟩
 ·rw [cI b hb,cI a (by omega),if_neg (by omega)]
  split
  ·exact hid a (by omega)
  ·exact up a b hab (by omega)
 ·rw [cI b hb,cI a (by omega),if_neg (by omega)]
  split
  ·exact hk a (by omega)
  ·exact keys a b hab (by omega)
 ·rw [cI a ha]
  split
  ·exact ho
  ·exact chk a (by omega)
 ·rw [yE]
  refine⟨fun a ha=> ?_,fun a b hab hb=> ?_⟩
  ·unfold aZ
   rw [cI a ha]
   split
   ·exact EN (KW.2 fun i j hij hj=>hnc _ (aC (by omega) _) _) hlow hr
   ·exact ap.1 a (by omega)
  ·unfold aZ
   rw [cI b hb,cI a (by omega),if_neg (by omega)]
   split
   ·exact fun x hx y hy=>(IH (hl a (by omega) x hx) (fun y hy=>hnc y hy x) hr y hy).symm
   ·exact ap.2 a b hab (by omega)
abbrev fe (ck nr nt nk ne ac:Int) (rs:List aj) (es:List aK):cQ:=(ck,nr,nt,nk,ne,ac,rs,es,())
structure SX (ck nr nt nk ne ac:Int) (rs:List aj) (es:List aK):Prop where
 fine:eL rs
 ckI:bW ck
 nrI:bW nr
 nkI:bW nk
 ntI:1≤nt∧nt≤1099511627776
 neI:1≤ne∧ne≤1099511627776
 ack:0≤ac∧ac<ne
 elen:(es.length:Int)=ne-1-ac
 late:∀j:Nat,j<rs.length→(rs.getD j (aa ab)).1<nr∧∀t∈(rs.getD j (aa ab)).2.2.2.2.1,cM nt nk t
 evs:∀j:Nat,j<es.length→(es.getD j (aa aH)).1=ac+1+j∧jp nr (es.getD j (aa aH))
theorem vw {ck nr nt nk ne ac:Int} {rs:List aj} {es:List aK} (h:SOk (fe ck nr nt nk ne ac rs es)):SX ck nr nt nk ne ac rs es:=
 ⟨h.fine,h.ck,h.nr,h.nk,h.nt,h.ne,h.ack,h.elen,h.late,h.evs⟩
theorem KX {ck nr nt nk ne ac:Int} {rs:List aj} {es:List aK} (h:SX ck nr nt nk ne ac rs es) (he:es.length≤40):SOk (fe ck nr nt nk ne ac rs es):=
 ⟨h.fine,he,h.ckI,h.nrI,h.nkI,h.ntI,h.neI,h.ack,h.elen,h.late,h.evs⟩
def jq (ne nr:Int) (new:List aK):Prop:=∀j:Nat,j<new.length→(new.getD j (aa aH)).1=ne+j∧jp nr (new.getD j (aa aH))
theorem RX {nr nr':Int} {x:aK} (h:nr≤nr') (he:jp nr x):jp nr' x:=⟨he.1,⟨he.2.1.1,by have:=he.2.1.2;omega⟩,he.2.2⟩
theorem Gr {nr nr' ne ac:Int} {es new:List aK} (hl:(es.length:Int)=ne-1-ac) (h:∀j:Nat,j<es.length→(es.getD j (aa aH)).1=ac+1+j∧jp nr (es.getD j (aa aH))) (hn:nr≤nr') (hw:jq ne nr' new):∀j:Nat,j<(es++new).length→((es++new).getD j (aa aH)).1=ac+1+j∧jp nr' ((es++new).getD j (aa aH)):=fun j hj=>by
 rw [length_append]at hj
 by_cases c:j<es.length
 ·rw [getD_eq_getElem?_getD,List.getElem?_append_left c,←getD_eq_getElem?_getD]
  exact⟨(h j c).1,RX hn (h j c).2⟩
 ·rw [getD_eq_getElem?_getD,List.getElem?_append_right (by omega),←getD_eq_getElem?_getD]
  have:=hw (j-es.length) (by omega)
  exact⟨by omega,this.2⟩
theorem jr {ne nr kind id i:Int} (h1:1≤kind∧kind≤6) (h2:0≤id∧id<nr) (h3:0≤i∧i<12) (h4:i=0∨kind=2∨kind=3):jq ne nr [(ne,kind,id,i,())]:=fun j hj=>by
 obtain rfl:j=0:=by simp only [length_singleton]at hj;omega
 exact⟨by show ne=ne+((0:Nat):Int);omega,h1,h2,h3,h4⟩
theorem Yl {ne nr:Int} {a b:List aK} (ha:jq ne nr a) (hb:jq (ne+a.length) nr b):jq ne nr (a++b):=fun j hj=>by
 rw [length_append]at hj
 by_cases c:j<a.length
 ·rw [getD_eq_getElem?_getD,List.getElem?_append_left c,←getD_eq_getElem?_getD]
  exact ha j c
 ·rw [getD_eq_getElem?_getD,List.getElem?_append_right (by omega),←getD_eq_getElem?_getD]
  have:=hb (j-a.length) (by omega)
  exact⟨by omega,this.2⟩
section
variable {ck nr nt nk ne ac:Int} {rs:List aj} {es:List aK}
theorem SX.low (h:SX ck nr nt nk ne ac rs es):∀a:Nat,a<rs.length→∀t∈aZ rs a,nC nt nk t:=fun a ha t ht=>MO ((h.late a ha).2 t ht)
theorem SX.rok (h:SX ck nr nt nk ne ac rs es) {n:Nat} (hn:n<rs.length):ROk (rs.getD n (aa ab)):=h.fine.2.chk n hn
theorem SX.id (h:SX ck nr nt nk ne ac rs es) {n:Nat} (hn:n<rs.length):0≤(rs.getD n (aa ab)).1∧(rs.getD n (aa ab)).1<nr:=⟨(h.rok hn).id.1,(h.late n hn).1⟩
theorem SX.task (h:SX ck nr nt nk ne ac rs es) {n k:Nat} (hn:n<rs.length) (hk:k<(aZ rs n).length):0≤(k:Int)∧(k:Int)<12:=by
 have h1:=(h.rok hn).len
 have h2:=(h.rok hn).dag.1.2
 unfold aZ at hk
 omega
theorem Gs {nt nk:Int} {r:aj} (hn:1≤nt) (ho:ROk r) (h:∀t∈r.2.2.2.2.1,nC nt nk t):∀t∈r.2.2.2.2.1,cM nt nk t:=fun t ht=>by
 obtain⟨j,hj,rfl⟩:=EL ht
 exact MP hn (ho.tks j hj) (h _ ht)
theorem nD {ck' nt' nk' ne':Int} {new:List aK} (h:SX ck nr nt nk ne ac rs es) {n:Nat} {r':aj} (hn:n<rs.length) (e1:r'.1=(rs.getD n (aa ab)).1) (e2:r'.2.1=(rs.getD n (aa ab)).2.1) (ho:ROk r') (hr:Rel nt nk nt' nk' (aZ rs n) r'.2.2.2.2.1)
  (hck:bW ck') (hnt:nt≤nt'∧nt'≤1099511627776) (hnk:nk≤nk'∧nk'≤1099511627776) (hne:ne'=ne+new.length) (hne2:ne'≤1099511627776) (hev:jq ne nr new):SX ck' nr nt' nk' ne' ac (rs.set n r') (es++new):=by
 subst hne
 have hnt1:=h.ntI.1
 have hne1:=h.neI.1
 have hack:=h.ack
 refine⟨MQ h.fine hn h.low e1 e2 ho hr,hck,h.nrI,⟨by have:=h.nkI.1;omega,hnk.2⟩,⟨by omega,hnt.2⟩,⟨by omega,hne2⟩,⟨hack.1,by omega⟩,by rw [length_append];have:=h.elen;omega,fun j hj=> ?_,Gr h.elen h.evs (le_refl _) hev⟩
 rw [length_set]at hj
 rw [dc hn]
 split
 ·rename_i c
  subst c
  exact⟨by rw [e1];exact(h.late _ hj).1,Gs (by omega) ho (Gn hnt.1 hnk.1 (h.low _ hj) hr)⟩
 ·refine⟨(h.late _ hj).1,fun t ht=> ?_⟩
  obtain⟨a,b⟩:=(h.late _ hj).2 t ht
  exact⟨by omega,fun c=>by have:=b c;omega⟩
theorem Ym {nk':Int} (h:SX ck nr nt nk ne ac rs es) (h32:rs.length<32) {r':aj} {ts:List am} (e1:r'.1=nr) (hk:∀a:Nat,a<rs.length→cH (rs.getD a (aa ab))≠cH r') (ho:ROk r') (h0:∀t∈ts,t.1=0) (hr:Rel nt nk nt nk' ts r'.2.2.2.2.1)
  (hnr:nr+1≤1099511627776) (hnk:nk≤nk'∧nk'≤1099511627776) (hne2:ne+1≤1099511627776):SX ck (nr+1) nt nk' (ne+1) ac (rs++ [r']) (es++ [(ne,ofNat 1,nr,ofNat 0,())]):=by
 have hnr0:=h.nrI.1
 have hack:=h.ack
 have hne1:=h.neI.1
 refine⟨MR h.fine h32 h.low (fun a ha=>by rw [e1];exact(h.late a ha).1) hk ho h0 hr,h.ckI,⟨by omega,hnr⟩,⟨by have:=h.nkI.1;omega,hnk.2⟩,h.ntI,⟨by omega,hne2⟩,⟨hack.1,by omega⟩,by rw [length_append,length_singleton];have:=h.elen;omega,fun j hj=> ?_,Gr h.elen h.evs (by omega) (jr (by decide) ⟨hnr0,by omega⟩ (by decide) (.inl rfl))⟩
 rw [cI j hj]
 rw [length_append,length_singleton]at hj
 split
 ·refine⟨by omega,Gs h.ntI.1 ho (Gn (le_refl _) hnk.1 (fun t ht=> ?_) hr)⟩
  have:=h0 t ht
  exact⟨fun a=>by omega,fun a=>by omega⟩
 ·have hj':j<rs.length:=by omega
  refine⟨by have:=(h.late j hj').1;omega,fun t ht=> ?_⟩
  obtain⟨a,b⟩:=(h.late j hj').2 t ht
  exact⟨a,fun c=>by have:=b c;omega⟩
end
theorem nE {nt nk nt' nk':Int} {r r':aj} {k:Nat} {t':am} (hT:Turn r k t' r') (h:Rel nt nk nt' nk' r.2.2.2.2.1 (r.2.2.2.2.1.set k t')):Rel nt nk nt' nk' r.2.2.2.2.1 r'.2.2.2.2.1:=by
 rcases hT.how with⟨_,_,hd⟩|⟨_,he,_⟩
 ·exact Gp h hd
 ·rw [he];exact h
theorem vx {nd:aL} {t t':am} {now:Int} (h:bZ nd t) (h1:1≤t.2.1) (hf:sV nd t now t'):bZ nd t'∧t'.1≠0∧t'.1≠4∧t'.1≠6∧t'.1≠1∧t'.1≠2:=by
 rcases hf with⟨e,rfl⟩|⟨e,u,hu,rfl⟩
 ·exact⟨⟨h.1,dw,dw,dw,fun h=>absurd rfl h,fun h=>absurd rfl h,⟨fun h=>absurd rfl h,fun h=>absurd h (bD rfl)⟩,.inr (.inr (.inr (.inr (.inr (.inl ⟨rfl,e⟩)))))⟩,bD rfl,bD rfl,bD rfl,bD rfl,bD rfl⟩
 ·exact⟨⟨h.1,hu,dw,dw,fun h=>absurd rfl h,fun _=>.inr rfl,⟨fun h=>absurd rfl h,fun h=>absurd h (bD rfl)⟩,.inr (.inr (.inr (.inl ⟨rfl,h1,by have:=h.1.2;simp only;omega⟩)))⟩,bD rfl,bD rfl,bD rfl,bD rfl,bD rfl⟩
abbrev cX (ne:Int) (r':aj) (k:Nat):aK:=if r'.2.2.2.1=3 then(ne,ofNat 5,r'.1,ofNat 0,())else(ne,ofNat 3,r'.1,(k:Int),())
abbrev py:=Int×List aj×Int×Int×List aK
inductive Tk1 (now:Int) (p:cq):py→py→Prop
 |skip (d:Int) (R:List aj) (nk ne:Int) (w:List aK) (h:∀n k:Nat,n<R.length→(R.getD n (aa ab)).1=p.1→p.2.1=k→k<(aZ R n).length→dZ ((aZ R n).getD k (aa ae)) now=false):Tk1 now p (d,R,nk,ne,w) (d,R,nk,ne,w)
 |wake (d:Int) (R:List aj) (nk ne:Int) (w:List aK) (n k:Nat) (r':aj) (hn:n<R.length) (hid:(R.getD n (aa ab)).1=p.1) (hp:p.2.1=k) (hk:k<(aZ R n).length) (hd:dZ ((aZ R n).getD k (aa ae)) now=true) (h3:((aZ R n).getD k (aa ae)).1=3) (hT:Turn (R.getD n (aa ab)) k (ofNat 1,((aZ R n).getD k (aa ae)).2.1,ofNat 0,ofNat 0,nk,()) r'):
   Tk1 now p (d,R,nk,ne,w) (d+1,R.set n r',nk+1,ne,w)
 |lapse (d:Int) (R:List aj) (nk ne:Int) (w:List aK) (n k:Nat) (t':am) (r':aj) (hn:n<R.length) (hid:(R.getD n (aa ab)).1=p.1) (hp:p.2.1=k) (hk:k<(aZ R n).length) (hd:dZ ((aZ R n).getD k (aa ae)) now=true) (h2:((aZ R n).getD k (aa ae)).1=2) (hf:sV (bT (R.getD n (aa ab)) k) ((aZ R n).getD k (aa ae)) now t') (hT:Turn (R.getD n (aa ab)) k t' r'):
   Tk1 now p (d,R,nk,ne,w) (d+1,R.set n r',nk,ne+1,w++ [cX ne r' k])
inductive TkN (now:Int) (P:List cq) (x:py):Nat→py→Prop
 |zero:TkN now P x 0 x
 |step (i:Nat) (y z:py):TkN now P x i y→Tk1 now (P.getD i (aa aw)) y z→TkN now P x (i+1) z
theorem yF {t:am} {now:Int} (h:dZ t now=true):(t.1=2∨t.1=3)∧t.2.2.1≤now:=by
 unfold dZ at h
 simp only [Bool.and_eq_true,Bool.or_eq_true,beq_iff_eq,decide_eq_true_eq]at h
 exact h
section
variable {now nr nt ac:Int} {es:List aK}
theorem Yn {p:cq} {x y:py} (h:Tk1 now p x y) (hx:SX now nr nt x.2.2.1 x.2.2.2.1 ac x.2.1 (es++x.2.2.2.2)) (h1:x.2.2.1+1≤1099511627776) (h2:x.2.2.2.1+1≤1099511627776):
  SX now nr nt y.2.2.1 y.2.2.2.1 ac y.2.1 (es++y.2.2.2.2)∧x.2.2.1≤y.2.2.1∧y.2.2.1≤x.2.2.1+1∧x.2.2.2.1≤y.2.2.2.1∧y.2.2.2.1≤x.2.2.2.1+1∧y.2.2.2.2.length≤x.2.2.2.2.length+1:=by
 cases h with
 |skip d R nk ne w h=>exact⟨hx,by simp only;omega,by simp only;omega,by simp only;omega,by simp only;omega,by omega⟩
 |wake d R nk ne w n k r' hn hid hp hk hd h3 hT=>
  simp only at hx h1 h2
  have hro:=hx.rok hn
  have htk:=hro.tks k hk
  obtain⟨g1,g2,g3,g4,g5,g6,g7,g8⟩:=htk
  have hst:=dF hro hk (show(bp _ k).1≤3 by simp only [bp];simp only [aZ]at h3;omega)
  have hnk:=hx.nkI
  have h3':(bp (R.getD n (aa ab)) k).1=3:=h3
  simp only [bp]at h3'
  have ht:bZ (bT (R.getD n (aa ab)) k) (ofNat 1,((aZ R n).getD k (aa ae)).2.1,ofNat 0,ofNat 0,nk,()):=
   ⟨g1,dw,dw,hnk,fun _=>rfl,fun h=>absurd rfl h,⟨fun h=>absurd rfl h,fun h=>absurd h (bD rfl)⟩,.inr (.inl ⟨rfl,by simp only [aZ,bT];omega⟩)⟩
  have hok:=nB hro hst hk (by rw [bp,h3'];decide) (by rw [bp,h3'];decide) ht (bD rfl) (bD rfl) (bD rfl) hT
  have:=nD (new:=[]) (nt':=nt) (nk':=nk+1) (ne':=ne) hx hn hT.id hT.key hok (nE hT (mj hk (fun h=>absurd h (bD rfl)) (fun _=>.inr ⟨le_refl _,by simp only [dv];omega⟩) (hx.low n hn))) hx.ckI ⟨le_refl _,hx.ntI.2⟩ ⟨by omega,h1⟩ (by simp) hx.neI.2 (fun j hj=>absurd hj (not_lt_zero _))
  rw [append_nil]at this
  exact⟨this,by simp only;omega,by simp only;omega,by simp only;omega,by simp only;omega,by simp only;omega⟩
 |lapse d R nk ne w n k t' r' hn hid hp hk hd h3 hf hT=>
  simp only at hx h1 h2
  have hro:=hx.rok hn
  have htk:=hro.tks k hk
  have h3':(bp (R.getD n (aa ab)) k).1=2:=h3
  simp only [bp]at h3'
  have hst:=dF hro hk (show(bp _ k).1≤3 by simp only [bp];omega)
  have htr:1≤((aZ R n).getD k (aa ae)).2.1:=by
   obtain⟨g1,g2,g3,g4,g5,g6,g7,g8⟩:=htk
   simp only [aZ];omega
  obtain⟨q1,q2,q3,q4,q5,q6⟩:=vx htk htr hf
  have hok:=nB hro hst hk (by rw [bp,h3'];decide) (by rw [bp,h3'];decide) q1 q2 q3 q4 hT
  have hid:=hx.id hn
  have hkk:=hx.task hn hk
  have hev:jq ne nr [cX ne r' k]:=by
   unfold cX
   rw [hT.id]
   split
   ·exact jr (by decide) hid (by decide) (.inl rfl)
   ·exact jr (by decide) hid hkk (.inr (.inr rfl))
  have:=nD (new:=[cX ne r' k]) (nt':=nt) (nk':=nk) (ne':=ne+1) hx hn hT.id hT.key hok (nE hT (mj hk (fun h=>absurd h q6) (fun h=>absurd h q5) (hx.low n hn))) hx.ckI ⟨le_refl _,hx.ntI.2⟩ ⟨le_refl _,hx.nkI.2⟩ rfl h2 hev
  rw [List.append_assoc]at this
  exact⟨this,by simp only;omega,by simp only;omega,by simp only;omega,by simp only;omega,by simp only [length_append,length_singleton];omega⟩
theorem uN {P:List cq} {x:py} (hx:SX now nr nt x.2.2.1 x.2.2.2.1 ac x.2.1 (es++x.2.2.2.2)):∀(i:Nat) (y:py),TkN now P x i y→x.2.2.1+i≤1099511627776→x.2.2.2.1+i≤1099511627776→
  SX now nr nt y.2.2.1 y.2.2.2.1 ac y.2.1 (es++y.2.2.2.2)∧x.2.2.1≤y.2.2.1∧y.2.2.1≤x.2.2.1+i∧x.2.2.2.1≤y.2.2.2.1∧y.2.2.2.1≤x.2.2.2.1+i∧y.2.2.2.2.length≤x.2.2.2.2.length+i
 |_,_,.zero,h1,h2=>⟨hx,by omega,by omega,by omega,by omega,by omega⟩
 |_,z,.step i y _ hy h,h1,h2=>by
  obtain⟨q1,q2,q3,q4,q5,q6⟩:=uN hx i y hy (by omega) (by omega)
  obtain⟨p1,p2,p3,p4,p5,p6⟩:=Yn h q1 (by omega) (by omega)
  exact⟨p1,by omega,by omega,by omega,by omega,by omega⟩
end
abbrev jw (a b d:Int):mb:=(ofNat 0,a,b,d,aI,[],())
structure Fresh (nr nt nk ne:Int):Prop where
 nr:nr≤1099511627676
 nt:nt≤1099511627676
 nk:nk≤1099511627676
 ne:ne≤1099511627676
noncomputable abbrev eG (ns:List aL) (nk:Int):Int×List am:=opn ns (nk,replicate ns.length t0) ns.length
inductive Stp (ck nr nt nk ne ac:Int) (rs:List aj) (es:List aK) (c:bm):cQ→mb→Prop
 |err (n:Nat):Stp ck nr nt nk ne ac rs es c (fe ck nr nt nk ne ac rs es) (ofNat (n+1),ofNat 0,ofNat 0,ofNat 0,aI,[],())
 |known (n:Nat) (hk:c.1=1) (hn:n<rs.length) (hkey:cH (rs.getD n (aa ab))=c.2.1.toList):Stp ck nr nt nk ne ac rs es c (fe ck nr nt nk ne ac rs es) (jw (rs.getD n (aa ab)).1 (ofNat 0) (ofNat 0))
 |new (hk:c.1=1) (hf:Fresh nr nt nk ne) (hno:∀n:Nat,n<rs.length→cH (rs.getD n (aa ab))≠c.2.1.toList) (h32:rs.length<32) (hkey:1≤c.2.1.size∧c.2.1.size≤24) (hd:od c.2.2.1.1) (hrk:pw nk):
   Stp ck nr nt nk ne ac rs es c (fe ck (nr+1) nt (eG c.2.2.1.1 nk).1 (ne+1) ac (rs++ [(nr,c.2.1,c.2.2.1,ofNat 1,(eG c.2.2.1.1 nk).2,())]) (es++ [(ne,ofNat 1,nr,ofNat 0,())])) (jw nr (ofNat 0) (ofNat 0))
 |poll (n k:Nat) (un:Int) (r':aj) (hk:c.1=2) (hf:Fresh nr nt nk ne) (hn:n<rs.length) (hkl:k<(aZ rs n).length) (h1:((aZ rs n).getD k (aa ae)).1=1) (hun:bW un) (hT:Turn (rs.getD n (aa ab)) k (ofNat 2,((aZ rs n).getD k (aa ae)).2.1+1,un,nt,ofNat 0,()) r'):
   Stp ck nr nt nk ne ac rs es c (fe ck nr (nt+1) nk ne ac (rs.set n r') es) (jw (rs.getD n (aa ab)).1 (k:Int) nt)
 |complete (n k:Nat) (r':aj) (rk':Int) (w:List aK) (hk:c.1=3) (hf:Fresh nr nt nk ne) (hn:n<rs.length) (hid:(rs.getD n (aa ab)).1=c.2.2.2.1) (hi:c.2.2.2.2.1=k) (hkl:k<(aZ rs n).length) (hrk:pw nk) (hh:lP (bT (rs.getD n (aa ab)) k) ((aZ rs n).getD k (aa ae)) c.2.2.2.2.2.1) (hC:Cmpl (rs.getD n (aa ab)) k nk r' rk')
   (hw:(r'.2.2.2.1≠2∧w= [(ne,ofNat 2,r'.1,(k:Int),())])∨(r'.2.2.2.1=2∧w= [(ne,ofNat 2,r'.1,(k:Int),()),(ne+1,ofNat 4,r'.1,ofNat 0,())])):
   Stp ck nr nt nk ne ac rs es c (fe ck nr nt rk' (ne+w.length) ac (rs.set n r') (es++w)) (jw (ofNat 0) (ofNat 0) (ofNat 0))
 |fail (n k:Nat) (t':am) (r':aj) (hk:c.1=4) (hf:Fresh nr nt nk ne) (hn:n<rs.length) (hid:(rs.getD n (aa ab)).1=c.2.2.2.1) (hi:c.2.2.2.2.1=k) (hkl:k<(aZ rs n).length) (hh:lP (bT (rs.getD n (aa ab)) k) ((aZ rs n).getD k (aa ae)) c.2.2.2.2.2.1) (hfl:sV (bT (rs.getD n (aa ab)) k) ((aZ rs n).getD k (aa ae)) ck t') (hT:Turn (rs.getD n (aa ab)) k t' r'):
   Stp ck nr nt nk ne ac rs es c (fe ck nr nt nk (ne+1) ac (rs.set n r') (es++ [cX ne r' k])) (jw (ofNat 0) (ofNat 0) (ofNat 0))
 |beat (n k:Nat) (un:Int) (r':aj) (hk:c.1=5) (hf:Fresh nr nt nk ne) (hn:n<rs.length) (hid:(rs.getD n (aa ab)).1=c.2.2.2.1) (hi:c.2.2.2.2.1=k) (hkl:k<(aZ rs n).length) (hh:lP (bT (rs.getD n (aa ab)) k) ((aZ rs n).getD k (aa ae)) c.2.2.2.2.2.1) (hun:bW un)
   (hT:Turn (rs.getD n (aa ab)) k (((aZ rs n).getD k (aa ae)).1,((aZ rs n).getD k (aa ae)).2.1,un,((aZ rs n).getD k (aa ae)).2.2.2.1,((aZ rs n).getD k (aa ae)).2.2.2.2.1,()) r'):
   Stp ck nr nt nk ne ac rs es c (fe ck nr nt nk ne ac (rs.set n r') es) (jw (ofNat 0) (ofNat 0) (ofNat 0))
 |cancel (n:Nat) (r':aj) (hk:c.1=6) (hf:Fresh nr nt nk ne) (hn:n<rs.length) (hid:(rs.getD n (aa ab)).1=c.2.2.2.1) (h1:(rs.getD n (aa ab)).2.2.2.1=1) (e1:r'.1=(rs.getD n (aa ab)).1) (e2:r'.2.1=(rs.getD n (aa ab)).2.1) (e3:r'.2.2.1=(rs.getD n (aa ab)).2.2.1) (e4:r'.2.2.2.1=4) (hd:kT (rs.getD n (aa ab)).2.2.1.1 (aZ rs n) r'.2.2.2.2.1):
   Stp ck nr nt nk ne ac rs es c (fe ck nr nt nk (ne+1) ac (rs.set n r') (es++ [(ne,ofNat 6,r'.1,ofNat 0,())])) (jw (ofNat 0) (ofNat 0) (ofNat 0))
 |tick (l:List cq) (d:Int) (R:List aj) (nk' ne':Int) (w:List aK) (hk:c.1=7) (hf:Fresh nr nt nk ne) (h1:ck≤c.2.2.2.2.2.2.2.1) (h2:c.2.2.2.2.2.2.2.1≤1099511627776) (hl:l.Perm (pl rs c.2.2.2.2.2.2.2.1)) (hs:Qd l) (hN:TkN c.2.2.2.2.2.2.2.1 l (ofNat 0,rs,nk,ne,[]) (min 16 l.length) (d,R,nk',ne',w)):
   Stp ck nr nt nk ne ac rs es c (fe c.2.2.2.2.2.2.2.1 nr nt nk' ne' ac R (es++w)) (jw (ofNat 0) d (ofNat 0))
 |query (n:Nat) (hk:c.1=8) (hn:n<rs.length) (hid:(rs.getD n (aa ab)).1=c.2.2.2.1):Stp ck nr nt nk ne ac rs es c (fe ck nr nt nk ne ac rs es) (ofNat 0,ofNat 0,ofNat 0,ofNat 0,rs.getD n (aa ab),[],())
 |drain (m:Nat) (hk:c.1=9):Stp ck nr nt nk ne ac rs es c (fe ck nr nt nk ne ac rs es) (ofNat 0,ofNat 0,ofNat 0,ofNat 0,aI,es.take m,())
 |ack (hk:c.1=10) (h1:ac≤c.2.2.2.2.2.2.2.1) (h2:c.2.2.2.2.2.2.2.1<ne):Stp ck nr nt nk ne ac rs es c (fe ck nr nt nk ne c.2.2.2.2.2.2.2.1 rs (es.drop (c.2.2.2.2.2.2.2.1-ac).toNat)) (jw (ofNat 0) (ofNat 0) (ofNat 0))
structure Grow (ck nr nt nk ne ac:Int) (t:cQ):Prop where
 ck:ck≤t.1
 nr:nr≤t.2.1
 nt:nt≤t.2.2.1
 nk:nk≤t.2.2.2.1
 ne:ne≤t.2.2.2.2.1
 ac:ac≤t.2.2.2.2.2.1
theorem KY {ck nr nt nk ne ac:Int} {rs:List aj} {es:List aK} {c:bm} {t:cQ} {r:mb} (h:SX ck nr nt nk ne ac rs es) (hs:Stp ck nr nt nk ne ac rs es c t r):SX t.1 t.2.1 t.2.2.1 t.2.2.2.1 t.2.2.2.2.1 t.2.2.2.2.2.1 t.2.2.2.2.2.2.1 t.2.2.2.2.2.2.2.1∧Grow ck nr nt nk ne ac t:=by
 have refl:∀z:Int,z≤z:=le_refl
 have hnil:∀z,jq ne z []:=fun z j hj=>absurd hj (not_lt_zero _)
 cases hs with
 |err n=>exact⟨h,refl _,refl _,refl _,refl _,refl _,refl _⟩
 |known n=>exact⟨h,refl _,refl _,refl _,refl _,refl _,refl _⟩
 |query n=>exact⟨h,refl _,refl _,refl _,refl _,refl _,refl _⟩
 |drain m=>exact⟨h,refl _,refl _,refl _,refl _,refl _,refl _⟩
 |new hk hf hno h32 hkey hd hrk=>
  obtain⟨f1,f2,f3,f4⟩:=hf
  have h12:=hd.1
  obtain⟨ho,hop⟩:=Bf (id:=nr) h.nrI hkey hd hrk
  have h0:∀t∈replicate c.2.2.1.1.length t0,t.1=0:=fun t ht=>by rw [List.eq_of_mem_replicate ht];rfl
  have hlow:∀t∈replicate c.2.2.1.1.length t0,nC nt nk t:=fun t ht=>by
   have:=h0 t ht
   exact⟨fun a=>by omega,fun a=>by omega⟩
  have hlo:=hop.lo
  have hhi:=hop.hi
  have hrel:=Gq (nk':=(eG c.2.2.1.1 nk).1) (ts':=(eG c.2.2.1.1 nk).2) (EO hlow) hlow hop
  exact⟨Ym (r':=(nr,c.2.1,c.2.2.1,ofNat 1,(eG c.2.2.1.1 nk).2,())) h h32 rfl hno ho h0 hrel (by omega) ⟨hlo,by simp only [fe,eG];omega⟩ (by omega),refl _,by simp only;omega,refl _,hlo,by simp only;omega,refl _⟩
 |poll n k un r' hk hf hn hkl h1 hun hT=>
  obtain⟨f1,f2,f3,f4⟩:=hf
  have hro:=h.rok hn
  obtain⟨g1,g2,g3,g4,g5,g6,g7,g8⟩:=hro.tks k hkl
  have h1':(bp (rs.getD n (aa ab)) k).1=1:=h1
  simp only [bp]at h1'
  have hst:=dF hro hkl (show(bp _ k).1≤3 by simp only [bp];omega)
  have hnt:=h.ntI
  have ht:bZ (bT (rs.getD n (aa ab)) k) (ofNat 2,((aZ rs n).getD k (aa ae)).2.1+1,un,nt,ofNat 0,()):=
   ⟨⟨by simp only [aZ,bT];omega,by simp only [aZ,bT];omega⟩,hun,⟨by simp only;omega,by simp only;omega⟩,dw,fun h=>absurd rfl h,fun _=>.inl rfl,⟨fun _=>rfl,fun _=>by simp only;omega⟩,.inr (.inr (.inl ⟨rfl,by simp only [aZ,bT];omega⟩))⟩
  have hok:=nB hro hst hkl (by rw [bp,h1'];decide) (by rw [bp,h1'];decide) ht (bD rfl) (bD rfl) (bD rfl) hT
  have:=nD (new:=[]) (nt':=nt+1) (nk':=nk) (ne':=ne) h hn hT.id hT.key hok (nE hT (mj hkl (fun _=>.inr ⟨le_refl _,by simp only [dE];omega⟩) (fun h=>absurd h (bD rfl)) (h.low n hn))) h.ckI ⟨by omega,by omega⟩ ⟨refl _,h.nkI.2⟩ (by simp) h.neI.2 (hnil _)
  rw [append_nil]at this
  exact⟨this,refl _,refl _,by simp only;omega,refl _,refl _,refl _⟩
 |complete n k r' rk' w hk hf hn hid hi hkl hrk hh hC hw=>
  obtain⟨f1,f2,f3,f4⟩:=hf
  have hro:=h.rok hn
  have hh2:=hh
  obtain⟨_,_,_,c2,_⟩:=hh2
  have c2':(bp (rs.getD n (aa ab)) k).1=2:=c2
  have hst:=dF hro hkl (by rw [c2'];decide)
  obtain⟨hok,hop⟩:=uM hro hst hkl hrk hh hC
  have hlo:=hop.lo
  have hhi:=hop.hi
  simp only at hlo hhi
  have h12:=hro.dag.1.2
  have hrel:=Gq (mj (k:=k) (nt':=nt) (nk':=nk) (t:=(ofNat 4,(bp (rs.getD n (aa ab)) k).2.1,ofNat 0,ofNat 0,ofNat 0,())) hkl (fun h=>absurd h (bD rfl)) (fun h=>absurd h (bD rfl)) (h.low n hn)) (h.low n hn) hop
  have hid':=h.id hn
  have hkk:=h.task hn hkl
  have hwl:w.length≤2:=by rcases hw with⟨_,rfl⟩|⟨_,rfl⟩<;>simp
  have hev:jq ne nr w:=by
   rw [hC.id]at hw
   rcases hw with⟨_,rfl⟩|⟨_,rfl⟩
   ·exact jr (by decide) hid' hkk (.inr (.inl rfl))
   ·exact Yl (a:=[_]) (b:=[_]) (jr (by decide) hid' hkk (.inr (.inl rfl))) (jr (by decide) hid' (by decide) (.inl rfl))
  exact⟨nD h hn hC.id hC.key hok hrel h.ckI ⟨refl _,h.ntI.2⟩ ⟨hlo,by simp only [fe];omega⟩ rfl (by simp only [fe];omega) hev,refl _,refl _,refl _,hlo,by simp only;omega,refl _⟩
 |fail n k t' r' hk hf hn hid hi hkl hh hfl hT=>
  obtain⟨f1,f2,f3,f4⟩:=hf
  have hro:=h.rok hn
  obtain⟨htk,_,_,c2,_⟩:=hh
  have c2':(bp (rs.getD n (aa ab)) k).1=2:=c2
  have hst:=dF hro hkl (by rw [c2'];decide)
  have htr:1≤((aZ rs n).getD k (aa ae)).2.1:=by
   obtain⟨g1,g2,g3,g4,g5,g6,g7,g8⟩:=htk
   simp only [aZ,bT]at*;omega
  obtain⟨q1,q2,q3,q4,q5,q6⟩:=vx htk htr hfl
  have hok:=nB hro hst hkl (by rw [c2'];decide) (by rw [c2'];decide) q1 q2 q3 q4 hT
  have hid':=h.id hn
  have hkk:=h.task hn hkl
  have hev:jq ne nr [cX ne r' k]:=by
   unfold cX
   rw [hT.id]
   split
   ·exact jr (by decide) hid' (by decide) (.inl rfl)
   ·exact jr (by decide) hid' hkk (.inr (.inr rfl))
  exact⟨nD h hn hT.id hT.key hok (nE hT (mj hkl (fun h=>absurd h q6) (fun h=>absurd h q5) (h.low n hn))) h.ckI ⟨refl _,h.ntI.2⟩ ⟨refl _,h.nkI.2⟩ rfl (by simp only [fe];omega) hev,refl _,refl _,refl _,refl _,by simp only;omega,refl _⟩
 |beat n k un r' hk hf hn hid hi hkl hh hun hT=>
  obtain⟨f1,f2,f3,f4⟩:=hf
  have hro:=h.rok hn
  obtain⟨htk,_,_,c2,_⟩:=hh
  have c2':(bp (rs.getD n (aa ab)) k).1=2:=c2
  have hst:=dF hro hkl (by rw [c2'];decide)
  obtain⟨g1,g2,g3,g4,g5,g6,g7,g8⟩:=htk
  have ht:bZ (bT (rs.getD n (aa ab)) k) (((aZ rs n).getD k (aa ae)).1,((aZ rs n).getD k (aa ae)).2.1,un,((aZ rs n).getD k (aa ae)).2.2.2.1,((aZ rs n).getD k (aa ae)).2.2.2.2.1,()):=
   ⟨g1,hun,g3,g4,g5,fun _=>.inl c2,g7,g8⟩
  have hok:=nB hro hst hkl (by rw [c2'];decide) (by rw [c2'];decide) ht (by rw [c2];decide) (by rw [c2];decide) (by rw [c2];decide) hT
  have:=nD (new:=[]) (nt':=nt) (nk':=nk) (ne':=ne) h hn hT.id hT.key hok (nE hT (mj hkl (fun _=>.inl ⟨c2,rfl⟩) (fun h=>by simp only at h;rw [c2]at h;exact absurd h (bD rfl)) (h.low n hn))) h.ckI ⟨refl _,h.ntI.2⟩ ⟨refl _,h.nkI.2⟩ (by simp) h.neI.2 (hnil _)
  rw [append_nil]at this
  exact⟨this,refl _,refl _,refl _,refl _,refl _,refl _⟩
 |cancel n r' hk hf hn hid h1 e1 e2 e3 e4 hd=>
  obtain⟨f1,f2,f3,f4⟩:=hf
  have hro:=h.rok hn
  have hok:=IG hro h1 e1 e2 e3 e4 hd
  have hev:jq ne nr [(ne,ofNat 6,r'.1,ofNat 0,())]:=by
   rw [e1]
   exact jr (by decide) (h.id hn) (by decide) (.inl rfl)
  exact⟨nD (nt':=nt) (nk':=nk) h hn e1 e2 hok (Gp (EO (h.low n hn)) hd) h.ckI ⟨refl _,h.ntI.2⟩ ⟨refl _,h.nkI.2⟩ rfl (by simp only [fe];omega) hev,refl _,refl _,refl _,refl _,by simp only;omega,refl _⟩
 |tick l d R nk' ne' w hk hf h1 h2 hl hs' hN=>
  obtain⟨f1,f2,f3,f4⟩:=hf
  have hx:SX c.2.2.2.2.2.2.2.1 nr nt nk ne ac rs (es++ []):=by
   rw [append_nil]
   exact⟨h.fine,⟨by have:=h.ckI.1;omega,h2⟩,h.nrI,h.nkI,h.ntI,h.neI,h.ack,h.elen,h.late,h.evs⟩
  obtain⟨q1,q2,q3,q4,q5,q6⟩:=uN (x:=(ofNat 0,rs,nk,ne,[])) hx _ _ hN (by simp only;omega) (by simp only;omega)
  exact⟨q1,h1,refl _,refl _,q2,q4,refl _⟩
 |ack hk h1 h2=>
  have hel:=h.elen
  have hack:=h.ack
  refine⟨⟨h.fine,h.ckI,h.nrI,h.nkI,h.ntI,h.neI,⟨by simp only;omega,h2⟩,by rw [length_drop];simp only;omega,h.late,fun j hj=> ?_⟩,refl _,refl _,refl _,refl _,refl _,h1⟩
  simp only [length_drop]at hj⊢
  have:=h.evs ((c.2.2.2.2.2.2.2.1-ac).toNat+j) (by omega)
  rw [getD_eq_getElem?_getD,List.getElem?_drop,←getD_eq_getElem?_getD]
  exact⟨by omega,this.2⟩
abbrev nF (v:Int):mb:=(v,ofNat 0,ofNat 0,ofNat 0,aI,[],())
abbrev mk (ck nr nt nk ne ac:Int) (rs:List aj) (es:List aK):cQ:=(ck,nr,nt,nk,ne,ac,rs,es,())
theorem tr_ok {P:Prop} {F:Option (am×Int×Unit)} {t t':am} (h:kF F P t) (he:F=some (t',0,())):P∧t'=t:=by
 rcases h with⟨hp,h⟩|⟨_,n,h⟩
 ·rw [he]at h
  injection h with h
  exact⟨hp,(Prod.mk.inj h).1⟩
 ·rw [he]at h
  injection h with h
  have:=(Prod.mk.inj (Prod.mk.inj h).2).1
  simp only [bi]at this
  omega
theorem wO {P:Prop} {F:Option (am×Int×Unit)} {t:am} (h:kF F P t) (ht:P→0≤t.1):(∃t',F=some (t',0,())∧0≤t'.1)∨∃n:Nat,F=some (t0,ofNat (n+1),()):=by
 rcases h with⟨hp,h⟩|⟨_,h⟩
 ·exact .inl ⟨t,h,ht hp⟩
 ·exact .inr h
theorem Ah {nd:aL} {t t':am} {now:Int} (h:sV nd t now t'):0≤t'.1:=by
 rcases h with⟨_,rfl⟩|⟨_,u,_,rfl⟩
 ·exact natCast_nonneg 5
 ·exact natCast_nonneg 3
theorem js {r:aj} (h:ROk r) {k:Nat} (hk:k<r.2.2.2.2.1.length):dJ (bT r k):=gJ h.dag.2.1 (by have:=h.len;omega)
theorem uO {r:aj} (h:ROk r) {k:Nat} (hk:k<r.2.2.2.2.1.length):0≤(bp r k).1:=(EK (h.tks k hk)).1
section
variable {S R:Type} {G:S→R→Prop}
theorem yG {K:aj×Int×Unit→Option (S×R×Unit)} (r:aj) (hr:bH r) (i tk un:Int) (hok:∀(r':aj) (k:Nat),i=k→k<r.2.2.2.2.1.length→(bp r k).1=1→bW un→Turn r k (ofNat 2,(bp r k).2.1+1,un,tk,ofNat 0,()) r'→∃t q,K (r',0,())=some (t,q,())∧G t q) (herr:∀n:Nat,∃t q,K (aI,ofNat (n+1),())=some (t,q,())∧G t q):
  ∃t q,(wG (r,i,tk,un,())).bind K=some (t,q,())∧G t q:=by
 obtain⟨r',e',hc,hq⟩:=kG r hr i (fun nd t=>tZ (nd,t,tk,un,())) (fun nd t h1 h2 h3=>wO (f167 nd t tk un h1 h2) fun _=>natCast_nonneg 2)
 rw [←EG]at hc
 rw [hc]
 rcases hq with⟨rfl,hro,_,k,t',hi,hk,hD,ht⟩|⟨⟨m,rfl⟩,rfl,_⟩
 ·obtain⟨⟨_,_,hun,htk,h1⟩,rfl⟩:=tr_ok (f167 _ _ tk un (js hro hk) (uO hro hk)) hD
  have h5:=EF (js hro hk) htk
  have h0:=htk.1.1
  have e:IntKind.i64.wrap ((bp r k).2.1+ofNat 1)=(bp r k).2.1+1:=by rw [IntKind.wrap_i64];simp only [bi];omega
  rw [e]at ht
  exact hok r' k hi hk h1 hun ht
 ·exact herr m
theorem Bg {K:aj×Int×Unit→Option (S×R×Unit)} (r:aj) (hr:bH r) (i tk un:Int) (hok:∀(r':aj) (k:Nat),i=k→k<r.2.2.2.2.1.length→lP (bT r k) (bp r k) tk→bW un→Turn r k ((bp r k).1,(bp r k).2.1,un,(bp r k).2.2.2.1,(bp r k).2.2.2.2.1,()) r'→∃t q,K (r',0,())=some (t,q,())∧G t q) (herr:∀n:Nat,∃t q,K (aI,ofNat (n+1),())=some (t,q,())∧G t q):
  ∃t q,(DU (r,i,tk,un,())).bind K=some (t,q,())∧G t q:=by
 obtain⟨r',e',hc,hq⟩:=kG r hr i (fun nd t=>zx (nd,t,tk,un,())) (fun nd t h1 h2 h3=>wO (f173 nd t tk un h1 h2) fun _=>h2)
 rw [←RN]at hc
 rw [hc]
 rcases hq with⟨rfl,hro,_,k,t',hi,hk,hD,ht⟩|⟨⟨m,rfl⟩,rfl,_⟩
 ·obtain⟨⟨hun,hh⟩,rfl⟩:=tr_ok (f173 _ _ tk un (js hro hk) (uO hro hk)) hD
  exact hok r' k hi hk hh hun ht
 ·exact herr m
theorem Bh {K:aj×Int×Unit→Option (S×R×Unit)} (r:aj) (hr:bH r) (i tk now:Int) (hok:∀(r':aj) (k:Nat) (t':am),i=k→k<r.2.2.2.2.1.length→lP (bT r k) (bp r k) tk→sV (bT r k) (bp r k) now t'→Turn r k t' r'→∃t q,K (r',0,())=some (t,q,())∧G t q) (herr:∀n:Nat,∃t q,K (aI,ofNat (n+1),())=some (t,q,())∧G t q):
  ∃t q,(ug (r,i,tk,now,())).bind K=some (t,q,())∧G t q:=by
 obtain⟨r',e',hc,hq⟩:=kG r hr i (fun nd t=>wC (nd,t,tk,now,())) (fun nd t h1 h2 h3=>by
  obtain⟨t',h,h4⟩:=f171 nd t tk now h1 h2
  exact wO h fun hp=>Ah (h4 hp))
 rw [←Gh]at hc
 rw [hc]
 rcases hq with⟨rfl,hro,_,k,t',hi,hk,hD,ht⟩|⟨⟨m,rfl⟩,rfl,_⟩
 ·obtain⟨t2,h2,h3⟩:=f171 (bT r k) (bp r k) tk now (js hro hk) (uO hro hk)
  obtain⟨hp,rfl⟩:=tr_ok h2 hD
  exact hok r' k t' hi hk hp.2 (h3 hp) ht
 ·exact herr m
theorem vR {K:aj×Int×Unit→Option (S×R×Unit)} (r:aj) (hr:bH r) (hok:∀r':aj,r.2.2.2.1=1→r'.1=r.1→r'.2.1=r.2.1→r'.2.2.1=r.2.2.1→r'.2.2.2.1=4→kT r.2.2.1.1 r.2.2.2.2.1 r'.2.2.2.2.1→∃t q,K (r',0,())=some (t,q,())∧G t q) (herr:∀n:Nat,∃t q,K (aI,ofNat (n+1),())=some (t,q,())∧G t q):
  ∃t q,(wE (r,())).bind K=some (t,q,())∧G t q:=by
 obtain⟨r',e',hc,hq⟩:=KT r hr
 rw [hc]
 rcases hq with⟨rfl,hro,h1,h2,h3,h4,h5,h6,_⟩|⟨⟨m,rfl⟩,rfl,_⟩
 ·exact hok r' h1 h2 h3 h4 h5 h6
 ·exact herr m
theorem sW {K:aj×Int×Int×Unit→Option (S×R×Unit)} (r:aj) (hr:bH r) (i tk rk:Int) (hok:∀(r':aj) (rk':Int) (k:Nat),i=k→k<r.2.2.2.2.1.length→pw rk→lP (bT r k) (bp r k) tk→Cmpl r k rk r' rk'→∃t q,K (r',rk',0,())=some (t,q,())∧G t q) (herr:∀r' rk' (n:Nat),∃t q,K (r',rk',ofNat (n+1),())=some (t,q,())∧G t q):
  ∃t q,(wD (r,i,tk,rk,())).bind K=some (t,q,())∧G t q:=by
 obtain⟨r',rk',e',hc,hq⟩:=Fh r hr i tk rk
 rw [hc]
 rcases hq with⟨rfl,hro,_,hrk,k,hi,hk,hh,ht⟩|⟨m,rfl⟩
 ·exact hok r' rk' k hi hk hrk hh ht
 ·exact herr r' rk' m
theorem mc {K:aj×Int×Int×Unit→Option (S×R×Unit)} (id:Int) (key:ByteArray) (sp:List aL×Unit) (hln:∀nd∈sp.1,nd.1.length≤9223372036854775807) (rk:Int) (hok:1≤key.size∧key.size≤24→od sp.1→pw rk→∃t q,K ((id,key,sp,ofNat 1,(eG sp.1 rk).2,()),(eG sp.1 rk).1,0,())=some (t,q,())∧G t q) (herr:∀r' rk' (n:Nat),∃t q,K (r',rk',ofNat (n+1),())=some (t,q,())∧G t q):
  ∃t q,(qs (id,key,sp,rk,())).bind K=some (t,q,())∧G t q:=by
 obtain⟨ns,_⟩:=sp
 obtain⟨r',rk',e,hc,hq⟩:=EI id key ns hln rk
 rw [hc]
 rcases hq with⟨rfl,_,h1,hd,hk,rfl,rfl⟩|⟨⟨m,rfl⟩,_⟩
 ·exact hok h1 hd hk
 ·exact herr r' rk' m
end
theorem vy (r:aj) (h:ROk r) (k:Nat) (rk now:Int) (hk:k<r.2.2.2.2.1.length) (h3:(bp r k).1=3) (hd:dZ (bp r k) now=true) (hrk:bW rk) (hnow:bW now):∃r',mZ (r,(k:Int),rk,now,())=some (r',0,())∧Turn r k (ofNat 1,(bp r k).2.1,ofNat 0,ofNat 0,rk,()) r':=by
 have f:=fun nd t h1 h2=>f216 nd t rk now h1 h2
 obtain⟨r',e',hc,hq⟩:=kG r (px h) k (fun nd t=>zy (nd,t,rk,now,())) (fun nd t h1 h2 h3=>wO (f nd t h1 h2) fun _=>natCast_nonneg 1)
 rw [←RP]at hc
 have hP:=f (bT r k) (bp r k) (js h hk) (uO h hk)
 rcases hq with⟨rfl,hro,_,k',t',hi,_,hD,ht⟩|⟨_,_,hno⟩
 ·obtain rfl:k=k':=by omega
  obtain⟨_,rfl⟩:=tr_ok hP hD
  exact⟨r',hc,ht⟩
 ·refine absurd ⟨h,dF h hk (by rw [h3];decide),k,(ofNat 1,(bp r k).2.1,ofNat 0,ofNat 0,rk,()),rfl,hk,?_⟩ hno
  rcases hP with⟨_,hP⟩|⟨hP,_⟩
  ·exact hP
  ·exact absurd ⟨hrk,hnow,h.tks k hk,h3,hd⟩ hP
theorem qC (r:aj) (h:ROk r) (k:Nat) (now:Int) (hk:k<r.2.2.2.2.1.length) (h2:(bp r k).1=2) (hd:dZ (bp r k) now=true) (hnow:bW now):∃r' t',na (r,(k:Int),now,())=some (r',0,())∧sV (bT r k) (bp r k) now t'∧Turn r k t' r':=by
 obtain⟨r',e',hc,hq⟩:=kG r (px h) k (fun nd t=>zA (nd,t,now,())) (fun nd t h1 h2 h3=>by
  obtain⟨t',h,h4⟩:=f218 nd t now h1 h2
  exact wO h fun hp=>Ah (h4 hp))
 rw [←MM]at hc
 obtain⟨t2,hP,hf⟩:=f218 (bT r k) (bp r k) now (js h hk) (uO h hk)
 rcases hq with⟨rfl,hro,_,k',t',hi,_,hD,ht⟩|⟨_,_,hno⟩
 ·obtain rfl:k=k':=by omega
  obtain⟨hp,rfl⟩:=tr_ok hP hD
  exact⟨r',t',hc,hf hp,ht⟩
 ·refine absurd ⟨h,dF h hk (by rw [h2];decide),k,t2,rfl,hk,?_⟩ hno
  rcases hP with⟨_,hP⟩|⟨hP,_⟩
  ·exact hP
  ·exact absurd ⟨hnow,h.tks k hk,h2,hd⟩ hP
def bA (ck nr nt nk ne ac:Int) (rs:List aj) (es:List aK) (c:bm) (t:cQ) (r:mb):Prop:=Stp ck nr nt nk ne ac rs es c t r∧t.2.2.2.2.2.2.2.1.length≤40
theorem ff {z:Int} (h0:0≤z) (h:z≤1099511627776):IntKind.i64.wrap (z+ofNat 1)=z+1:=by rw [IntKind.wrap_i64];simp only [bi];omega
theorem wr2 {z:Int} (h0:0≤z) (h:z≤1099511627776):IntKind.i64.wrap (IntKind.i64.wrap (z+ofNat 1)+ofNat 1)=z+2:=by rw [ff h0 h,IntKind.wrap_i64];simp only [bi];omega
theorem wrm {z:Int} (h0:0≤z) (h:z≤1099511627776):IntKind.i64.wrap (IntKind.i64.wrap (z+ofNat 1)-ofNat 1)=z:=by rw [ff h0 h,IntKind.wrap_i64];simp only [bi];omega
theorem jt {rs:List aj} (n:Nat) (r':aj):take rs.length (rs.set n r')=rs.set n r':=take_of_length_le (by rw [length_set];exact Nat.le_refl _)
theorem f48 (ck nr nt nk ne ac:Int) (rs:List aj) (es:List aK):∃b,cK (mk ck nr nt nk ne ac rs es,())=some (b,())∧(b=false→Fresh nr nt nk ne):=by
 refine⟨_,rfl,fun h=> ?_⟩
 have h:=of_decide_eq_false h
 simp only [bi]at h
 constructor<;>(split at h<;>split at h<;>split at h<;>omega)
section
variable {ck nr nt nk ne ac:Int} {rs:List aj} {es:List aK} {c:bm} {ck' nr' nt' nk' ne' ac':Int} {R:List aj} {E:List aK} {a b d:Int}
theorem ao (h:SOk (mk ck nr nt nk ne ac rs es)) (n:Nat):bA ck nr nt nk ne ac rs es c (mk ck nr nt nk ne ac rs es) (nF (ofNat (n+1))):=⟨.err n,h.ev40⟩
theorem EP (h:SOk (mk ck nr nt nk ne ac rs es)) {n:Nat} (hk:c.1=1) (hn:n<rs.length) (hkey:cH (rs.getD n (aa ab))=c.2.1.toList) (ha:(rs.getD n (aa ab)).1=a):bA ck nr nt nk ne ac rs es c (mk ck nr nt nk ne ac rs es) (jw a (ofNat 0) (ofNat 0)):=by
 subst ha;exact⟨.known n hk hn hkey,h.ev40⟩
theorem yH (hk:c.1=1) (hf:Fresh nr nt nk ne) (hno:∀n:Nat,n<rs.length→cH (rs.getD n (aa ab))≠c.2.1.toList) (h32:rs.length<32) (hkey:1≤c.2.1.size∧c.2.1.size≤24) (hd:od c.2.2.1.1) (hrk:pw nk) (hnr:nr'=nr+1) (hne:ne'=ne+1) (hR:R=rs++ [(nr,c.2.1,c.2.2.1,ofNat 1,(eG c.2.2.1.1 nk).2,())]) (hE:E=es++ [(ne,ofNat 1,nr,ofNat 0,())]) (h40:E.length≤40):
  bA ck nr nt nk ne ac rs es c (mk ck nr' nt (eG c.2.2.1.1 nk).1 ne' ac R E) (jw nr (ofNat 0) (ofNat 0)):=by
 subst hnr hne hR hE;exact⟨.new hk hf hno h32 hkey hd hrk,h40⟩
theorem Gt (h:SOk (mk ck nr nt nk ne ac rs es)) {n k:Nat} {un:Int} {r':aj} (hk:c.1=2) (hf:Fresh nr nt nk ne) (hn:n<rs.length) (hkl:k<(aZ rs n).length) (h1:((aZ rs n).getD k (aa ae)).1=1) (hun:bW un) (hT:Turn (rs.getD n (aa ab)) k (ofNat 2,((aZ rs n).getD k (aa ae)).2.1+1,un,nt,ofNat 0,()) r') (ha:(rs.getD n (aa ab)).1=a) (hb:b=k) (hd:d=nt) (hnt:nt'=nt+1) (hR:R=rs.set n r'):
  bA ck nr nt nk ne ac rs es c (mk ck nr nt' nk ne ac R es) (jw a b d):=by
 subst ha hb hnt hR;rw [hd];exact⟨.poll n k un r' hk hf hn hkl h1 hun hT,h.ev40⟩
theorem kU {n k:Nat} {r':aj} {rk':Int} {w:List aK} (hk:c.1=3) (hf:Fresh nr nt nk ne) (hn:n<rs.length) (hid:(rs.getD n (aa ab)).1=c.2.2.2.1) (hi:c.2.2.2.2.1=k) (hkl:k<(aZ rs n).length) (hrk:pw nk) (hh:lP (bT (rs.getD n (aa ab)) k) ((aZ rs n).getD k (aa ae)) c.2.2.2.2.2.1) (hC:Cmpl (rs.getD n (aa ab)) k nk r' rk')
  (hw:(r'.2.2.2.1≠2∧w= [(ne,ofNat 2,r'.1,(k:Int),())])∨(r'.2.2.2.1=2∧w= [(ne,ofNat 2,r'.1,(k:Int),()),(ne+1,ofNat 4,r'.1,ofNat 0,())])) (hne:ne'=ne+w.length) (hR:R=rs.set n r') (hE:E=es++w) (h40:E.length≤40):
  bA ck nr nt nk ne ac rs es c (mk ck nr nt rk' ne' ac R E) (jw (ofNat 0) (ofNat 0) (ofNat 0)):=by
 subst hne hR hE;exact⟨.complete n k r' rk' w hk hf hn hid hi hkl hrk hh hC hw,h40⟩
theorem vz {n k:Nat} {t':am} {r':aj} (hk:c.1=4) (hf:Fresh nr nt nk ne) (hn:n<rs.length) (hid:(rs.getD n (aa ab)).1=c.2.2.2.1) (hi:c.2.2.2.2.1=k) (hkl:k<(aZ rs n).length) (hh:lP (bT (rs.getD n (aa ab)) k) ((aZ rs n).getD k (aa ae)) c.2.2.2.2.2.1) (hfl:sV (bT (rs.getD n (aa ab)) k) ((aZ rs n).getD k (aa ae)) ck t') (hT:Turn (rs.getD n (aa ab)) k t' r') (hne:ne'=ne+1) (hR:R=rs.set n r') (hE:E=es++ [cX ne r' k]) (h40:E.length≤40):
  bA ck nr nt nk ne ac rs es c (mk ck nr nt nk ne' ac R E) (jw (ofNat 0) (ofNat 0) (ofNat 0)):=by
 subst hne hR hE;exact⟨.fail n k t' r' hk hf hn hid hi hkl hh hfl hT,h40⟩
theorem Gu (h:SOk (mk ck nr nt nk ne ac rs es)) {n k:Nat} {un:Int} {r':aj} (hk:c.1=5) (hf:Fresh nr nt nk ne) (hn:n<rs.length) (hid:(rs.getD n (aa ab)).1=c.2.2.2.1) (hi:c.2.2.2.2.1=k) (hkl:k<(aZ rs n).length) (hh:lP (bT (rs.getD n (aa ab)) k) ((aZ rs n).getD k (aa ae)) c.2.2.2.2.2.1) (hun:bW un)
  (hT:Turn (rs.getD n (aa ab)) k (((aZ rs n).getD k (aa ae)).1,((aZ rs n).getD k (aa ae)).2.1,un,((aZ rs n).getD k (aa ae)).2.2.2.1,((aZ rs n).getD k (aa ae)).2.2.2.2.1,()) r') (hR:R=rs.set n r'):
  bA ck nr nt nk ne ac rs es c (mk ck nr nt nk ne ac R es) (jw (ofNat 0) (ofNat 0) (ofNat 0)):=by
 subst hR;exact⟨.beat n k un r' hk hf hn hid hi hkl hh hun hT,h.ev40⟩
theorem Bi {n:Nat} {r':aj} (hk:c.1=6) (hf:Fresh nr nt nk ne) (hn:n<rs.length) (hid:(rs.getD n (aa ab)).1=c.2.2.2.1) (h1:(rs.getD n (aa ab)).2.2.2.1=1) (e1:r'.1=(rs.getD n (aa ab)).1) (e2:r'.2.1=(rs.getD n (aa ab)).2.1) (e3:r'.2.2.1=(rs.getD n (aa ab)).2.2.1) (e4:r'.2.2.2.1=4) (hd:kT (rs.getD n (aa ab)).2.2.1.1 (aZ rs n) r'.2.2.2.2.1) (hne:ne'=ne+1) (hR:R=rs.set n r') (hE:E=es++ [(ne,ofNat 6,r'.1,ofNat 0,())]) (h40:E.length≤40):
  bA ck nr nt nk ne ac rs es c (mk ck nr nt nk ne' ac R E) (jw (ofNat 0) (ofNat 0) (ofNat 0)):=by
 subst hne hR hE;exact⟨.cancel n r' hk hf hn hid h1 e1 e2 e3 e4 hd,h40⟩
theorem EQ (h:SOk (mk ck nr nt nk ne ac rs es)) {n:Nat} (hk:c.1=8) (hn:n<rs.length) (hid:(rs.getD n (aa ab)).1=c.2.2.2.1):bA ck nr nt nk ne ac rs es c (mk ck nr nt nk ne ac rs es) (ofNat 0,ofNat 0,ofNat 0,ofNat 0,rs.getD n (aa ab),[],()):=⟨.query n hk hn hid,h.ev40⟩
theorem kJ (h:SOk (mk ck nr nt nk ne ac rs es)) (hk:c.1=9) (m:Nat) (hE:E=es.take m):bA ck nr nt nk ne ac rs es c (mk ck nr nt nk ne ac rs es) (ofNat 0,ofNat 0,ofNat 0,ofNat 0,aI,E,()):=by
 subst hE;exact⟨.drain m hk,h.ev40⟩
theorem pA (h:SOk (mk ck nr nt nk ne ac rs es)) (hk:c.1=10) (h1:ac≤c.2.2.2.2.2.2.2.1) (h2:c.2.2.2.2.2.2.2.1<ne) (hE:E=es.drop (c.2.2.2.2.2.2.2.1-ac).toNat):bA ck nr nt nk ne ac rs es c (mk ck nr nt nk ne c.2.2.2.2.2.2.2.1 rs E) (jw (ofNat 0) (ofNat 0) (ofNat 0)):=by
 subst hE;exact⟨.ack hk h1 h2,by have:=h.ev40;simp only [length_drop,mk]at*;omega⟩
end
theorem bN {G:cQ→mb→Prop} {M E:Option (cQ×mb×Unit)} {ck nr nt nk ne ac:Int} {rs:List aj} {es:List aK} (b:Bool) (hM:(b=true→Fresh nr nt nk ne)→∃t r,M=some (t,r,())∧G t r) (hE:∃t r,E=some (t,r,())∧G t r):
  ∃t r,((cK (mk ck nr nt nk ne ac rs es,())).bind fun y=>bif y.1 then(bif b then E else M)else M)=some (t,r,())∧G t r:=by
 obtain⟨b',hb,hf⟩:=f48 ck nr nt nk ne ac rs es
 rw [hb,bind_some]
 cases b' with
 |true=>
  cases b with
  |true=>exact hE
  |false=>exact hM fun h=>nomatch h
 |false=>exact hM fun _=>hf rfl
theorem KZ {n:Nat} (h:n≤60):(decide ((n+1)*80≤2^46) && decide (n+1≤2^46))=true:=Cc (by omega) (by omega)
theorem f118 (n:Int):∃b,lx (n,())=some (b,()):=by
 simp only [lx]
 cases decide (n≥ofNat 1)with
 |true=>exact⟨_,rfl⟩
 |false=>exact⟨_,rfl⟩
theorem ch {n k:Nat} (h:n≤60) (hk:k≤60):(decide ((n+k)*32≤2^46) && decide (n+k≤2^46))=true:=Cc (by omega) (by omega)
section
variable {ck nr nt nk ne ac:Int} {rs:List aj} {es:List aK}
theorem nG (h:SOk (mk ck nr nt nk ne ac rs es)) (hR:isEmpty rs=false) (hE:isEmpty es=false) (v:Int):bC (mk ck nr nt nk ne ac rs es) v=some (mk ck nr nt nk ne ac rs es,nF v,()):=by
 have h25:=aX h
 simp only [mk]at h25
 simp only [bC,mk,h25,bind_some,hR,hE,cond_false,zero_add,Nat.le_refl,decide_true,cond_true,bj]
theorem nH (h:SOk (mk ck nr nt nk ne ac rs [])) (hR:isEmpty rs=false) (v:Int):cm (mk ck nr nt nk ne ac rs []) v=some (mk ck nr nt nk ne ac rs [],nF v,()):=by
 have h25:=aX h
 simp only [mk]at h25
 simp only [cm,mk,h25,bind_some,hR,isEmpty_nil,cond_false,zero_add,Nat.le_refl,decide_true,cond_true,bj]
theorem nI (h:SOk (mk ck nr nt nk ne ac [] es)) (hE:isEmpty es=false) (v:Int):cn (mk ck nr nt nk ne ac [] es) v=some (mk ck nr nt nk ne ac [] es,nF v,()):=by
 have h25:=aX h
 simp only [mk]at h25
 simp only [cn,mk,h25,bind_some,hE,isEmpty_nil,cond_false,zero_add,Nat.le_refl,decide_true,cond_true,bj]
theorem nJ (h:SOk (mk ck nr nt nk ne ac [] [])) (v:Int):cO (mk ck nr nt nk ne ac [] []) v=some (mk ck nr nt nk ne ac [] [],nF v,()):=by
 have h25:=aX h
 simp only [mk]at h25
 simp only [cO,mk,h25,bind_some,isEmpty_nil,cond_false,zero_add,Nat.le_refl,decide_true,cond_true,bj]
end
theorem Yo {ck nr nt nk ne ac:Int} {rs:List aj} {es:List aK} (h:SOk (mk ck nr nt nk ne ac rs es)) (hr:∀r∈rs,bH r) (hR:isEmpty rs=false) (hE:isEmpty es=false) (c:bm) (hfr:Fresh nr nt nk ne) (hk:c.1=6):
  ∃t r,xN ((mk ck nr nt nk ne ac rs es),c,())=some (t,r,())∧bA ck nr nt nk ne ac rs es c t r:=by
 have h25:=aX h
 have hf:=h.fine
 have he:=h.ev40
 have hne:=h.ne
 simp only [mk]at h25 hf he hne
 have h32:=hf.1
 have E:=nG h hR hE
 simp only [mk]at E
 simp only [xN,mk,h25,bind_some,hR,hE,cond_false,zero_add,Nat.le_refl,decide_true,cond_true,bj,ce,E]
 obtain⟨i,b,e,hfi,hq⟩:=bU rs (by omega) hr c.2.2.2.1
 simp only [hfi,bind_some]
 rcases hq with⟨_,_,hq⟩|⟨rfl,_,⟨rfl,n,rfl,hn,hid⟩|⟨rfl,_⟩⟩
 ·exact absurd hf hq
 ·simp only [Bool.not_true,cond_false,aM hn,aF hn,cond_true,toNat_natCast]
  refine vR (rs.getD n (aa ab)) (hr _ (aC hn _)) (fun r' h1 e1 e2 e3 e4 hd=> ?_) (fun m=> ?_)
  ·simp only [cD]
   try simp only [length_cons,length_nil,zero_add,ch (show es.length≤60 by omega) (show 1≤60 by omega),ch (show es.length+1≤60 by omega) (show 1≤60 by omega),decide_true,cond_true,length_append,length_set,Nat.le_refl,drop_zero]
   by_cases c40:(((es.length+1:Nat):Int)>ofNat 40)
   ·rw [decide_eq_true c40,cond_true];exact⟨_,_,rfl,ao h 8⟩
   ·rw [decide_eq_false c40,cond_false]
    exact⟨_,_,rfl,Bi hk hfr hn hid h1 e1 e2 e3 e4 hd (ff (by omega) (by omega)) (jt n r') (by simp) (by simp only [length_append,length_cons,length_nil,bi]at c40⊢;omega)⟩
  ·simp only [eF]
   exact⟨_,_,rfl,ao h m⟩
 ·exact⟨_,_,rfl,ao h 5⟩
theorem Yp {ck nr nt nk ne ac:Int} {rs:List aj} (h:SOk (mk ck nr nt nk ne ac rs [])) (hr:∀r∈rs,bH r) (hR:isEmpty rs=false) (c:bm) (hfr:Fresh nr nt nk ne) (hk:c.1=6):
  ∃t r,xW ((mk ck nr nt nk ne ac rs []),c,())=some (t,r,())∧bA ck nr nt nk ne ac rs [] c t r:=by
 have h25:=aX h
 have hf:=h.fine
 have he:=h.ev40
 have hne:=h.ne
 simp only [mk]at h25 hf he hne
 have h32:=hf.1
 have E:=nH h hR
 simp only [mk]at E
 simp only [xW,mk,h25,bind_some,hR,isEmpty_nil,cond_false,zero_add,Nat.le_refl,decide_true,cond_true,bj,ce,E]
 obtain⟨i,b,e,hfi,hq⟩:=bU rs (by omega) hr c.2.2.2.1
 simp only [hfi,bind_some]
 rcases hq with⟨_,_,hq⟩|⟨rfl,_,⟨rfl,n,rfl,hn,hid⟩|⟨rfl,_⟩⟩
 ·exact absurd hf hq
 ·simp only [Bool.not_true,cond_false,aM hn,aF hn,cond_true,toNat_natCast]
  refine vR (rs.getD n (aa ab)) (hr _ (aC hn _)) (fun r' h1 e1 e2 e3 e4 hd=> ?_) (fun m=> ?_)
  ·simp only [cD]
   try simp only [length_set,Nat.le_refl,decide_true,cond_true,drop_zero]
   exact⟨_,_,rfl,Bi hk hfr hn hid h1 e1 e2 e3 e4 hd (ff (by omega) (by omega)) (jt n r') (by simp) (by simp only [length_cons,length_nil];omega)⟩
  ·simp only [eF]
   exact⟨_,_,rfl,ao h m⟩
 ·exact⟨_,_,rfl,ao h 5⟩
theorem Yq {ck nr nt nk ne ac:Int} {es:List aK} (h:SOk (mk ck nr nt nk ne ac [] es)) (hr:∀r∈([]:List aj),bH r) (hE:isEmpty es=false) (c:bm) (hfr:Fresh nr nt nk ne) (hk:c.1=6):
  ∃t r,yg ((mk ck nr nt nk ne ac [] es),c,())=some (t,r,())∧bA ck nr nt nk ne ac [] es c t r:=by
 have h25:=aX h
 have hf:=h.fine
 have he:=h.ev40
 have hne:=h.ne
 simp only [mk]at h25 hf he hne
 have h32:=hf.1
 have E:=nI h hE
 simp only [mk]at E
 simp only [yg,mk,h25,bind_some,hE,isEmpty_nil,cond_false,zero_add,Nat.le_refl,decide_true,cond_true,bj,ce,E]
 obtain⟨i,b,e,hfi,hq⟩:=bU ([]:List aj) (by omega) hr c.2.2.2.1
 simp only [hfi,bind_some]
 rcases hq with⟨_,_,hq⟩|⟨rfl,_,⟨rfl,n,rfl,hn,hid⟩|⟨rfl,_⟩⟩
 ·exact absurd hf hq
 ·exact absurd hn (not_lt_zero _)
 ·exact⟨_,_,rfl,ao h 5⟩
theorem Yr {ck nr nt nk ne ac:Int} (h:SOk (mk ck nr nt nk ne ac [] [])) (hr:∀r∈([]:List aj),bH r) (c:bm) (hfr:Fresh nr nt nk ne) (hk:c.1=6):
  ∃t r,yq ((mk ck nr nt nk ne ac [] []),c,())=some (t,r,())∧bA ck nr nt nk ne ac [] [] c t r:=by
 have h25:=aX h
 have hf:=h.fine
 have he:=h.ev40
 have hne:=h.ne
 simp only [mk]at h25 hf he hne
 have h32:=hf.1
 have E:=nJ h
 simp only [mk]at E
 simp only [yq,mk,h25,bind_some,isEmpty_nil,cond_false,zero_add,Nat.le_refl,decide_true,cond_true,bj,ce,E]
 obtain⟨i,b,e,hfi,hq⟩:=bU ([]:List aj) (by omega) hr c.2.2.2.1
 simp only [hfi,bind_some]
 rcases hq with⟨_,_,hq⟩|⟨rfl,_,⟨rfl,n,rfl,hn,hid⟩|⟨rfl,_⟩⟩
 ·exact absurd hf hq
 ·exact absurd hn (not_lt_zero _)
 ·exact⟨_,_,rfl,ao h 5⟩
theorem Ys {ck nr nt nk ne ac:Int} {rs:List aj} {es:List aK} (h:SOk (mk ck nr nt nk ne ac rs es)) (hr:∀r∈rs,bH r) (hR:isEmpty rs=false) (hE:isEmpty es=false) (c:bm) (hfr:Fresh nr nt nk ne) (hk:c.1=4):
  ∃t r,uB ((mk ck nr nt nk ne ac rs es),c,())=some (t,r,())∧bA ck nr nt nk ne ac rs es c t r:=by
 have h25:=aX h
 have hf:=h.fine
 have he:=h.ev40
 have hne:=h.ne
 simp only [mk]at h25 hf he hne
 have h32:=hf.1
 have E:=nG h hR hE
 simp only [mk]at E
 simp only [uB,mk,h25,bind_some,hR,hE,cond_false,zero_add,Nat.le_refl,decide_true,cond_true,bj,ce,E]
 obtain⟨i,b,e,hfi,hq⟩:=bU rs (by omega) hr c.2.2.2.1
 simp only [hfi,bind_some]
 rcases hq with⟨_,_,hq⟩|⟨rfl,_,⟨rfl,n,rfl,hn,hid⟩|⟨rfl,_⟩⟩
 ·exact absurd hf hq
 ·simp only [Bool.not_true,cond_false,aM hn,aF hn,cond_true,toNat_natCast]
  refine Bh (rs.getD n (aa ab)) (hr _ (aC hn _)) _ _ _ (fun r' k t' hi hkl hh hfl hT=> ?_) (fun m=> ?_)
  ·simp only [cD]
   by_cases c3:r'.2.2.2.1=3
   ·rw [show(r'.2.2.2.1==ofNat 3)=true by simpa using c3,cond_true]
    try simp only [length_cons,length_nil,zero_add,ch (show es.length≤60 by omega) (show 1≤60 by omega),ch (show es.length+1≤60 by omega) (show 1≤60 by omega),decide_true,cond_true,length_append,length_set,Nat.le_refl,drop_zero]
    by_cases c40:(((es.length+1:Nat):Int)>ofNat 40)
    ·rw [decide_eq_true c40,cond_true];exact⟨_,_,rfl,ao h 8⟩
    ·rw [decide_eq_false c40,cond_false]
     exact⟨_,_,rfl,vz hk hfr hn hid hi hkl hh hfl hT (ff (by omega) (by omega)) (jt n r') (by simp [cX,c3,hi]) (by simp only [length_append,length_cons,length_nil,bi]at c40⊢;omega)⟩
   ·rw [show(r'.2.2.2.1==ofNat 3)=false by simpa using c3,cond_false]
    try simp only [length_cons,length_nil,zero_add,ch (show es.length≤60 by omega) (show 1≤60 by omega),ch (show es.length+1≤60 by omega) (show 1≤60 by omega),decide_true,cond_true,length_append,length_set,Nat.le_refl,drop_zero]
    by_cases c40:(((es.length+1:Nat):Int)>ofNat 40)
    ·rw [decide_eq_true c40,cond_true];exact⟨_,_,rfl,ao h 8⟩
    ·rw [decide_eq_false c40,cond_false]
     exact⟨_,_,rfl,vz hk hfr hn hid hi hkl hh hfl hT (ff (by omega) (by omega)) (jt n r') (by simp [cX,c3,hi]) (by simp only [length_append,length_cons,length_nil,bi]at c40⊢;omega)⟩
  ·simp only [eF]
   exact⟨_,_,rfl,ao h m⟩
 ·exact⟨_,_,rfl,ao h 5⟩
theorem Yt {ck nr nt nk ne ac:Int} {rs:List aj} (h:SOk (mk ck nr nt nk ne ac rs [])) (hr:∀r∈rs,bH r) (hR:isEmpty rs=false) (c:bm) (hfr:Fresh nr nt nk ne) (hk:c.1=4):
  ∃t r,xU ((mk ck nr nt nk ne ac rs []),c,())=some (t,r,())∧bA ck nr nt nk ne ac rs [] c t r:=by
 have h25:=aX h
 have hf:=h.fine
 have he:=h.ev40
 have hne:=h.ne
 simp only [mk]at h25 hf he hne
 have h32:=hf.1
 have E:=nH h hR
 simp only [mk]at E
 simp only [xU,mk,h25,bind_some,hR,isEmpty_nil,cond_false,zero_add,Nat.le_refl,decide_true,cond_true,bj,ce,E]
 obtain⟨i,b,e,hfi,hq⟩:=bU rs (by omega) hr c.2.2.2.1
 simp only [hfi,bind_some]
 rcases hq with⟨_,_,hq⟩|⟨rfl,_,⟨rfl,n,rfl,hn,hid⟩|⟨rfl,_⟩⟩
 ·exact absurd hf hq
 ·simp only [Bool.not_true,cond_false,aM hn,aF hn,cond_true,toNat_natCast]
  refine Bh (rs.getD n (aa ab)) (hr _ (aC hn _)) _ _ _ (fun r' k t' hi hkl hh hfl hT=> ?_) (fun m=> ?_)
  ·simp only [cD]
   by_cases c3:r'.2.2.2.1=3
   ·rw [show(r'.2.2.2.1==ofNat 3)=true by simpa using c3,cond_true]
    try simp only [length_set,Nat.le_refl,decide_true,cond_true,drop_zero]
    exact⟨_,_,rfl,vz hk hfr hn hid hi hkl hh hfl hT (ff (by omega) (by omega)) (jt n r') (by simp [cX,c3,hi]) (by simp only [length_cons,length_nil];omega)⟩
   ·rw [show(r'.2.2.2.1==ofNat 3)=false by simpa using c3,cond_false]
    try simp only [length_set,Nat.le_refl,decide_true,cond_true,drop_zero]
    exact⟨_,_,rfl,vz hk hfr hn hid hi hkl hh hfl hT (ff (by omega) (by omega)) (jt n r') (by simp [cX,c3,hi]) (by simp only [length_cons,length_nil];omega)⟩
  ·simp only [eF]
   exact⟨_,_,rfl,ao h m⟩
 ·exact⟨_,_,rfl,ao h 5⟩
theorem Yu {ck nr nt nk ne ac:Int} {es:List aK} (h:SOk (mk ck nr nt nk ne ac [] es)) (hr:∀r∈([]:List aj),bH r) (hE:isEmpty es=false) (c:bm) (hfr:Fresh nr nt nk ne) (hk:c.1=4):
  ∃t r,ye ((mk ck nr nt nk ne ac [] es),c,())=some (t,r,())∧bA ck nr nt nk ne ac [] es c t r:=by
 have h25:=aX h
 have hf:=h.fine
 have he:=h.ev40
 have hne:=h.ne
 simp only [mk]at h25 hf he hne
 have h32:=hf.1
 have E:=nI h hE
 simp only [mk]at E
 simp only [ye,mk,h25,bind_some,hE,isEmpty_nil,cond_false,zero_add,Nat.le_refl,decide_true,cond_true,bj,ce,E]
 obtain⟨i,b,e,hfi,hq⟩:=bU ([]:List aj) (by omega) hr c.2.2.2.1
 simp only [hfi,bind_some]
 rcases hq with⟨_,_,hq⟩|⟨rfl,_,⟨rfl,n,rfl,hn,hid⟩|⟨rfl,_⟩⟩
 ·exact absurd hf hq
 ·exact absurd hn (not_lt_zero _)
 ·exact⟨_,_,rfl,ao h 5⟩
theorem Yv {ck nr nt nk ne ac:Int} (h:SOk (mk ck nr nt nk ne ac [] [])) (hr:∀r∈([]:List aj),bH r) (c:bm) (hfr:Fresh nr nt nk ne) (hk:c.1=4):
  ∃t r,yo ((mk ck nr nt nk ne ac [] []),c,())=some (t,r,())∧bA ck nr nt nk ne ac [] [] c t r:=by
 have h25:=aX h
 have hf:=h.fine
 have he:=h.ev40
 have hne:=h.ne
 simp only [mk]at h25 hf he hne
 have h32:=hf.1
 have E:=nJ h
 simp only [mk]at E
 simp only [yo,mk,h25,bind_some,isEmpty_nil,cond_false,zero_add,Nat.le_refl,decide_true,cond_true,bj,ce,E]
 obtain⟨i,b,e,hfi,hq⟩:=bU ([]:List aj) (by omega) hr c.2.2.2.1
 simp only [hfi,bind_some]
 rcases hq with⟨_,_,hq⟩|⟨rfl,_,⟨rfl,n,rfl,hn,hid⟩|⟨rfl,_⟩⟩
 ·exact absurd hf hq
 ·exact absurd hn (not_lt_zero _)
 ·exact⟨_,_,rfl,ao h 5⟩
theorem Yw {ck nr nt nk ne ac:Int} {rs:List aj} {es:List aK} (h:SOk (mk ck nr nt nk ne ac rs es)) (hr:∀r∈rs,bH r) (hR:isEmpty rs=false) (hE:isEmpty es=false) (c:bm) (hfr:Fresh nr nt nk ne) (hk:c.1=3):
  ∃t r,xL ((mk ck nr nt nk ne ac rs es),c,())=some (t,r,())∧bA ck nr nt nk ne ac rs es c t r:=by
 have h25:=aX h
 have hf:=h.fine
 have he:=h.ev40
 have hne:=h.ne
 simp only [mk]at h25 hf he hne
 have h32:=hf.1
 have E:=nG h hR hE
 simp only [mk]at E
 simp only [xL,mk,h25,bind_some,hR,hE,cond_false,zero_add,Nat.le_refl,decide_true,cond_true,bj,ce,E]
 obtain⟨i,b,e,hfi,hq⟩:=bU rs (by omega) hr c.2.2.2.1
 simp only [hfi,bind_some]
 rcases hq with⟨_,_,hq⟩|⟨rfl,_,⟨rfl,n,rfl,hn,hid⟩|⟨rfl,_⟩⟩
 ·exact absurd hf hq
 ·simp only [Bool.not_true,cond_false,aM hn,aF hn,cond_true,toNat_natCast]
  refine sW (rs.getD n (aa ab)) (hr _ (aC hn _)) _ _ _ (fun r' rk' k hi hkl hrk hh hC=> ?_) (fun _ _ m=> ?_)
  ·simp only [cD]
   try simp only [decide_true,cond_true,length_cons,length_nil,zero_add,ch (show es.length≤60 by omega) (show 1≤60 by omega),ch (show es.length+1≤60 by omega) (show 1≤60 by omega),aF hn]
   by_cases c2:r'.2.2.2.1=2
   ·rw [show(r'.2.2.2.1==ofNat 2)=true by simpa using c2,cond_true]
    try simp only [length_cons,length_nil,zero_add,ch (show es.length≤60 by omega) (show 1≤60 by omega),ch (show es.length+1≤60 by omega) (show 1≤60 by omega),decide_true,cond_true,length_append,length_set,Nat.le_refl,drop_zero]
    by_cases c40:(((es.length+1+1:Nat):Int)>ofNat 40)
    ·rw [decide_eq_true c40,cond_true];exact⟨_,_,rfl,ao h 8⟩
    ·rw [decide_eq_false c40,cond_false]
     exact⟨_,_,rfl,kU hk hfr hn hid hi hkl hrk hh hC (.inr ⟨c2,rfl⟩) (wr2 (z:=ne) (by omega) (by omega)) (jt n r') (by simp [hi];rw [IntKind.wrap_i64];omega) (by simp only [length_append,length_cons,length_nil,bi]at c40⊢;omega)⟩
   ·rw [show(r'.2.2.2.1==ofNat 2)=false by simpa using c2,cond_false]
    try simp only [length_cons,length_nil,zero_add,ch (show es.length≤60 by omega) (show 1≤60 by omega),ch (show es.length+1≤60 by omega) (show 1≤60 by omega),decide_true,cond_true,length_append,length_set,Nat.le_refl,drop_zero]
    by_cases c40:(((es.length+1:Nat):Int)>ofNat 40)
    ·rw [decide_eq_true c40,cond_true];exact⟨_,_,rfl,ao h 8⟩
    ·rw [decide_eq_false c40,cond_false]
     exact⟨_,_,rfl,kU hk hfr hn hid hi hkl hrk hh hC (.inl ⟨c2,rfl⟩) (ff (by omega) (by omega)) (jt n r') (by simp [hi]) (by simp only [length_append,length_cons,length_nil,bi]at c40⊢;omega)⟩
  ·simp only [eF]
   exact⟨_,_,rfl,ao h m⟩
 ·exact⟨_,_,rfl,ao h 5⟩
theorem Yx {ck nr nt nk ne ac:Int} {rs:List aj} (h:SOk (mk ck nr nt nk ne ac rs [])) (hr:∀r∈rs,bH r) (hR:isEmpty rs=false) (c:bm) (hfr:Fresh nr nt nk ne) (hk:c.1=3):
  ∃t r,xT ((mk ck nr nt nk ne ac rs []),c,())=some (t,r,())∧bA ck nr nt nk ne ac rs [] c t r:=by
 have h25:=aX h
 have hf:=h.fine
 have he:=h.ev40
 have hne:=h.ne
 simp only [mk]at h25 hf he hne
 have h32:=hf.1
 have E:=nH h hR
 simp only [mk]at E
 simp only [xT,mk,h25,bind_some,hR,isEmpty_nil,cond_false,zero_add,Nat.le_refl,decide_true,cond_true,bj,ce,E]
 obtain⟨i,b,e,hfi,hq⟩:=bU rs (by omega) hr c.2.2.2.1
 simp only [hfi,bind_some]
 rcases hq with⟨_,_,hq⟩|⟨rfl,_,⟨rfl,n,rfl,hn,hid⟩|⟨rfl,_⟩⟩
 ·exact absurd hf hq
 ·simp only [Bool.not_true,cond_false,aM hn,aF hn,cond_true,toNat_natCast]
  refine sW (rs.getD n (aa ab)) (hr _ (aC hn _)) _ _ _ (fun r' rk' k hi hkl hrk hh hC=> ?_) (fun _ _ m=> ?_)
  ·simp only [cD]
   try simp only [decide_true,cond_true,length_cons,length_nil,zero_add,aF hn]
   by_cases c2:r'.2.2.2.1=2
   ·rw [show(r'.2.2.2.1==ofNat 2)=true by simpa using c2,cond_true]
    try simp only [length_cons,length_nil,zero_add,decide_true,cond_true,length_append,length_set,Nat.le_refl,drop_zero,List.cons_append,List.nil_append,Nat.reduceAdd,Nat.reduceMul,Nat.reducePow,Nat.reduceLeDiff,Bool.and_self]
    exact⟨_,_,rfl,kU hk hfr hn hid hi hkl hrk hh hC (.inr ⟨c2,rfl⟩) (wr2 (z:=ne) (by omega) (by omega)) (jt n r') (by simp [hi];rw [IntKind.wrap_i64];omega) (by simp only [length_cons,length_nil];omega)⟩
   ·rw [show(r'.2.2.2.1==ofNat 2)=false by simpa using c2,cond_false]
    try simp only [length_set,Nat.le_refl,decide_true,cond_true,drop_zero]
    exact⟨_,_,rfl,kU hk hfr hn hid hi hkl hrk hh hC (.inl ⟨c2,rfl⟩) (ff (by omega) (by omega)) (jt n r') (by simp [hi]) (by simp only [length_cons,length_nil];omega)⟩
  ·simp only [eF]
   exact⟨_,_,rfl,ao h m⟩
 ·exact⟨_,_,rfl,ao h 5⟩
theorem Yy {ck nr nt nk ne ac:Int} {es:List aK} (h:SOk (mk ck nr nt nk ne ac [] es)) (hr:∀r∈([]:List aj),bH r) (hE:isEmpty es=false) (c:bm) (hfr:Fresh nr nt nk ne) (hk:c.1=3):
  ∃t r,yd ((mk ck nr nt nk ne ac [] es),c,())=some (t,r,())∧bA ck nr nt nk ne ac [] es c t r:=by
 have h25:=aX h
 have hf:=h.fine
 have he:=h.ev40
 have hne:=h.ne
 simp only [mk]at h25 hf he hne
 have h32:=hf.1
 have E:=nI h hE
 simp only [mk]at E
 simp only [yd,mk,h25,bind_some,hE,isEmpty_nil,cond_false,zero_add,Nat.le_refl,decide_true,cond_true,bj,ce,E]
 obtain⟨i,b,e,hfi,hq⟩:=bU ([]:List aj) (by omega) hr c.2.2.2.1
 simp only [hfi,bind_some]
 rcases hq with⟨_,_,hq⟩|⟨rfl,_,⟨rfl,n,rfl,hn,hid⟩|⟨rfl,_⟩⟩
 ·exact absurd hf hq
 ·exact absurd hn (not_lt_zero _)
 ·exact⟨_,_,rfl,ao h 5⟩
theorem Yz {ck nr nt nk ne ac:Int} (h:SOk (mk ck nr nt nk ne ac [] [])) (hr:∀r∈([]:List aj),bH r) (c:bm) (hfr:Fresh nr nt nk ne) (hk:c.1=3):
  ∃t r,yn ((mk ck nr nt nk ne ac [] []),c,())=some (t,r,())∧bA ck nr nt nk ne ac [] [] c t r:=by
 have h25:=aX h
 have hf:=h.fine
 have he:=h.ev40
 have hne:=h.ne
 simp only [mk]at h25 hf he hne
 have h32:=hf.1
 have E:=nJ h
 simp only [mk]at E
 simp only [yn,mk,h25,bind_some,isEmpty_nil,cond_false,zero_add,Nat.le_refl,decide_true,cond_true,bj,ce,E]
 obtain⟨i,b,e,hfi,hq⟩:=bU ([]:List aj) (by omega) hr c.2.2.2.1
 simp only [hfi,bind_some]
 rcases hq with⟨_,_,hq⟩|⟨rfl,_,⟨rfl,n,rfl,hn,hid⟩|⟨rfl,_⟩⟩
 ·exact absurd hf hq
 ·exact absurd hn (not_lt_zero _)
 ·exact⟨_,_,rfl,ao h 5⟩
theorem YA {ck nr nt nk ne ac:Int} {rs:List aj} {es:List aK} (h:SOk (mk ck nr nt nk ne ac rs es)) (hr:∀r∈rs,bH r) (hR:isEmpty rs=false) (hE:isEmpty es=false) (c:bm) (hk:c.1=8):
  ∃t r,xP ((mk ck nr nt nk ne ac rs es),c,())=some (t,r,())∧bA ck nr nt nk ne ac rs es c t r:=by
 have h25:=aX h
 have hf:=h.fine
 have he:=h.ev40
 have hne:=h.ne
 simp only [mk]at h25 hf he hne
 have h32:=hf.1
 have E:=nG h hR hE
 simp only [mk]at E
 simp only [xP,mk,h25,bind_some,hR,hE,cond_false,zero_add,Nat.le_refl,decide_true,cond_true,bj,ce,E]
 obtain⟨i,b,e,hfi,hq⟩:=bU rs (by omega) hr c.2.2.2.1
 simp only [hfi,bind_some]
 rcases hq with⟨_,_,hq⟩|⟨rfl,_,⟨rfl,n,rfl,hn,hid⟩|⟨rfl,_⟩⟩
 ·exact absurd hf hq
 ·simp only [Bool.not_true,cond_false,aM hn,aF hn,cond_true,toNat_natCast]
  have gK:=f62 (rs.getD n (aa ab)) (pu (hf.2.chk n hn))
  simp only [gK,bind_some]
  try simp only [length_cons,length_nil,zero_add,ch (show es.length≤60 by omega) (show 1≤60 by omega),ch (show es.length+1≤60 by omega) (show 1≤60 by omega),decide_true,cond_true,length_append,length_set,Nat.le_refl,drop_zero]
  by_cases c40:(((es.length:Nat):Int)>ofNat 40)
  ·rw [decide_eq_true c40,cond_true];exact⟨_,_,rfl,ao h 8⟩
  ·rw [decide_eq_false c40,cond_false]
   exact⟨_,_,rfl,EQ h hk hn hid⟩
 ·exact⟨_,_,rfl,ao h 5⟩
theorem YB {ck nr nt nk ne ac:Int} {rs:List aj} (h:SOk (mk ck nr nt nk ne ac rs [])) (hr:∀r∈rs,bH r) (hR:isEmpty rs=false) (c:bm) (hk:c.1=8):
  ∃t r,xY ((mk ck nr nt nk ne ac rs []),c,())=some (t,r,())∧bA ck nr nt nk ne ac rs [] c t r:=by
 have h25:=aX h
 have hf:=h.fine
 have he:=h.ev40
 have hne:=h.ne
 simp only [mk]at h25 hf he hne
 have h32:=hf.1
 have E:=nH h hR
 simp only [mk]at E
 simp only [xY,mk,h25,bind_some,hR,isEmpty_nil,cond_false,zero_add,Nat.le_refl,decide_true,cond_true,bj,ce,E]
 obtain⟨i,b,e,hfi,hq⟩:=bU rs (by omega) hr c.2.2.2.1
 simp only [hfi,bind_some]
 rcases hq with⟨_,_,hq⟩|⟨rfl,_,⟨rfl,n,rfl,hn,hid⟩|⟨rfl,_⟩⟩
 ·exact absurd hf hq
 ·simp only [Bool.not_true,cond_false,aM hn,aF hn,cond_true,toNat_natCast]
  have gK:=f62 (rs.getD n (aa ab)) (pu (hf.2.chk n hn))
  simp only [gK,bind_some]
  try simp only [length_set,Nat.le_refl,decide_true,cond_true,drop_zero]
  exact⟨_,_,rfl,EQ h hk hn hid⟩
 ·exact⟨_,_,rfl,ao h 5⟩
theorem YC {ck nr nt nk ne ac:Int} {es:List aK} (h:SOk (mk ck nr nt nk ne ac [] es)) (hr:∀r∈([]:List aj),bH r) (hE:isEmpty es=false) (c:bm) (hk:c.1=8):
  ∃t r,yi ((mk ck nr nt nk ne ac [] es),c,())=some (t,r,())∧bA ck nr nt nk ne ac [] es c t r:=by
 have h25:=aX h
 have hf:=h.fine
 have he:=h.ev40
 have hne:=h.ne
 simp only [mk]at h25 hf he hne
 have h32:=hf.1
 have E:=nI h hE
 simp only [mk]at E
 simp only [yi,mk,h25,bind_some,hE,isEmpty_nil,cond_false,zero_add,Nat.le_refl,decide_true,cond_true,bj,ce,E]
 obtain⟨i,b,e,hfi,hq⟩:=bU ([]:List aj) (by omega) hr c.2.2.2.1
 simp only [hfi,bind_some]
 rcases hq with⟨_,_,hq⟩|⟨rfl,_,⟨rfl,n,rfl,hn,hid⟩|⟨rfl,_⟩⟩
 ·exact absurd hf hq
 ·exact absurd hn (not_lt_zero _)
 ·exact⟨_,_,rfl,ao h 5⟩
theorem YD {ck nr nt nk ne ac:Int} (h:SOk (mk ck nr nt nk ne ac [] [])) (hr:∀r∈([]:List aj),bH r) (c:bm) (hk:c.1=8):
  ∃t r,yu ((mk ck nr nt nk ne ac [] []),c,())=some (t,r,())∧bA ck nr nt nk ne ac [] [] c t r:=by
 have h25:=aX h
 have hf:=h.fine
 have he:=h.ev40
 have hne:=h.ne
 simp only [mk]at h25 hf he hne
 have h32:=hf.1
 have E:=nJ h
 simp only [mk]at E
 simp only [yu,mk,h25,bind_some,isEmpty_nil,cond_false,zero_add,Nat.le_refl,decide_true,cond_true,bj,ce,E]
 obtain⟨i,b,e,hfi,hq⟩:=bU ([]:List aj) (by omega) hr c.2.2.2.1
 simp only [hfi,bind_some]
 rcases hq with⟨_,_,hq⟩|⟨rfl,_,⟨rfl,n,rfl,hn,hid⟩|⟨rfl,_⟩⟩
 ·exact absurd hf hq
 ·exact absurd hn (not_lt_zero _)
 ·exact⟨_,_,rfl,ao h 5⟩
theorem YE {ck nr nt nk ne ac:Int} {rs:List aj} {es:List aK} (h:SOk (mk ck nr nt nk ne ac rs es)) (hr:∀r∈rs,bH r) (hR:isEmpty rs=false) (hE:isEmpty es=false) (c:bm) (hk:c.1=9):
  ∃t r,xQ ((mk ck nr nt nk ne ac rs es),c,())=some (t,r,())∧bA ck nr nt nk ne ac rs es c t r:=by
 have h25:=aX h
 have hf:=h.fine
 have he:=h.ev40
 have hne:=h.ne
 simp only [mk]at h25 hf he hne
 have h32:=hf.1
 have E:=nG h hR hE
 simp only [mk]at E
 simp only [xQ,mk,h25,bind_some,hR,hE,cond_false,zero_add,Nat.le_refl,decide_true,cond_true,bj,ce,E]
 by_cases c1:c.2.2.2.2.2.2.2.1<ofNat 1
 ·rw [decide_eq_true c1,cond_true];exact⟨_,_,rfl,ao h 1⟩
 rw [decide_eq_false c1,cond_false]
 by_cases c2:c.2.2.2.2.2.2.2.1>ofNat 40
 ·rw [decide_eq_true c2,cond_true];exact⟨_,_,rfl,ao h 1⟩
 rw [decide_eq_false c2,cond_false]
 simp only [bi]at c1 c2
 obtain⟨m,hm,hml⟩:∃m:Nat,(if(es.length:Int)<c.2.2.2.2.2.2.2.1 then(es.length:Int)else c.2.2.2.2.2.2.2.1)=(m:Int)∧m≤es.length:=by
  split
  ·exact⟨es.length,rfl,Nat.le_refl _⟩
  ·exact⟨c.2.2.2.2.2.2.2.1.toNat,by omega,by omega⟩
 have hw:∀z:Int,z=0→ah z (m:Int) (es.length:Int)=true:=fun z hz=>by subst hz;simp only [ah,Bool.and_eq_true,decide_eq_true_eq];omega
 have iy:=f61 (es.take m) (by rw [List.length_take];omega)
 simp only [hm,hw 0 rfl,hw ((0:Nat):Int) rfl,cond_true,toNat_natCast,sub_zero,Nat.add_zero,zero_add,drop_zero,decide_eq_true hml,iy,bind_some,bj]
 generalize decide ((es.length:Int)>ofNat 40)=b40
 cases hem:isEmpty (take m es)with
 |true=>
  cases b40 with
  |true=>exact⟨_,_,rfl,ao h 8⟩
  |false=>exact⟨_,_,rfl,kJ h hk 0 rfl⟩
 |false=>
  cases b40 with
  |true=>exact⟨_,_,rfl,ao h 8⟩
  |false=>exact⟨_,_,rfl,kJ h hk m rfl⟩
theorem YF {ck nr nt nk ne ac:Int} {rs:List aj} (h:SOk (mk ck nr nt nk ne ac rs [])) (hr:∀r∈rs,bH r) (hR:isEmpty rs=false) (c:bm) (hk:c.1=9):
  ∃t r,xZ ((mk ck nr nt nk ne ac rs []),c,())=some (t,r,())∧bA ck nr nt nk ne ac rs [] c t r:=by
 have h25:=aX h
 have hf:=h.fine
 have he:=h.ev40
 have hne:=h.ne
 simp only [mk]at h25 hf he hne
 have h32:=hf.1
 have E:=nH h hR
 simp only [mk]at E
 simp only [xZ,mk,h25,bind_some,hR,isEmpty_nil,cond_false,zero_add,Nat.le_refl,decide_true,cond_true,bj,ce,E]
 by_cases c1:c.2.2.2.2.2.2.2.1<ofNat 1
 ·rw [decide_eq_true c1,cond_true];exact⟨_,_,rfl,ao h 1⟩
 rw [decide_eq_false c1,cond_false]
 by_cases c2:c.2.2.2.2.2.2.2.1>ofNat 40
 ·rw [decide_eq_true c2,cond_true];exact⟨_,_,rfl,ao h 1⟩
 rw [decide_eq_false c2,cond_false]
 simp only [bi]at c1 c2
 have hm:(if(0:Int)<c.2.2.2.2.2.2.2.1 then(0:Int)else c.2.2.2.2.2.2.2.1)=0:=if_pos (by omega)
 have hw:∀z y:Int,z=0→y=0→ah z 0 y=true:=fun z y hz hy=>by subst hz;subst hy;rfl
 have iy:=f61 [] (by decide)
 simp only [hm,hw 0 0 rfl rfl,hw ((0:Nat):Int) ((0:Nat):Int) rfl rfl,cond_true,iy,bind_some,isEmpty_nil]
 exact⟨_,_,rfl,kJ h hk 0 rfl⟩
theorem YG {ck nr nt nk ne ac:Int} {es:List aK} (h:SOk (mk ck nr nt nk ne ac [] es)) (hr:∀r∈([]:List aj),bH r) (hE:isEmpty es=false) (c:bm) (hk:c.1=9):
  ∃t r,yj ((mk ck nr nt nk ne ac [] es),c,())=some (t,r,())∧bA ck nr nt nk ne ac [] es c t r:=by
 have h25:=aX h
 have hf:=h.fine
 have he:=h.ev40
 have hne:=h.ne
 simp only [mk]at h25 hf he hne
 have h32:=hf.1
 have E:=nI h hE
 simp only [mk]at E
 simp only [yj,mk,h25,bind_some,hE,isEmpty_nil,cond_false,zero_add,Nat.le_refl,decide_true,cond_true,bj,ce,E]
 by_cases c1:c.2.2.2.2.2.2.2.1<ofNat 1
 ·rw [decide_eq_true c1,cond_true];exact⟨_,_,rfl,ao h 1⟩
 rw [decide_eq_false c1,cond_false]
 by_cases c2:c.2.2.2.2.2.2.2.1>ofNat 40
 ·rw [decide_eq_true c2,cond_true];exact⟨_,_,rfl,ao h 1⟩
 rw [decide_eq_false c2,cond_false]
 simp only [bi]at c1 c2
 obtain⟨m,hm,hml⟩:∃m:Nat,(if(es.length:Int)<c.2.2.2.2.2.2.2.1 then(es.length:Int)else c.2.2.2.2.2.2.2.1)=(m:Int)∧m≤es.length:=by
  split
  ·exact⟨es.length,rfl,Nat.le_refl _⟩
  ·exact⟨c.2.2.2.2.2.2.2.1.toNat,by omega,by omega⟩
 have hw:∀z:Int,z=0→ah z (m:Int) (es.length:Int)=true:=fun z hz=>by subst hz;simp only [ah,Bool.and_eq_true,decide_eq_true_eq];omega
 have iy:=f61 (es.take m) (by rw [List.length_take];omega)
 simp only [hm,hw 0 rfl,hw ((0:Nat):Int) rfl,cond_true,toNat_natCast,sub_zero,Nat.add_zero,zero_add,drop_zero,decide_eq_true hml,iy,bind_some,bj]
 generalize decide ((es.length:Int)>ofNat 40)=b40
 cases hem:isEmpty (take m es)with
 |true=>
  cases b40 with
  |true=>exact⟨_,_,rfl,ao h 8⟩
  |false=>exact⟨_,_,rfl,kJ h hk 0 rfl⟩
 |false=>
  cases b40 with
  |true=>exact⟨_,_,rfl,ao h 8⟩
  |false=>exact⟨_,_,rfl,kJ h hk m rfl⟩
theorem YH {ck nr nt nk ne ac:Int} (h:SOk (mk ck nr nt nk ne ac [] [])) (hr:∀r∈([]:List aj),bH r) (c:bm) (hk:c.1=9):
  ∃t r,yv ((mk ck nr nt nk ne ac [] []),c,())=some (t,r,())∧bA ck nr nt nk ne ac [] [] c t r:=by
 have h25:=aX h
 have hf:=h.fine
 have he:=h.ev40
 have hne:=h.ne
 simp only [mk]at h25 hf he hne
 have h32:=hf.1
 have E:=nJ h
 simp only [mk]at E
 simp only [yv,mk,h25,bind_some,isEmpty_nil,cond_false,zero_add,Nat.le_refl,decide_true,cond_true,bj,ce,E]
 by_cases c1:c.2.2.2.2.2.2.2.1<ofNat 1
 ·rw [decide_eq_true c1,cond_true];exact⟨_,_,rfl,ao h 1⟩
 rw [decide_eq_false c1,cond_false]
 by_cases c2:c.2.2.2.2.2.2.2.1>ofNat 40
 ·rw [decide_eq_true c2,cond_true];exact⟨_,_,rfl,ao h 1⟩
 rw [decide_eq_false c2,cond_false]
 simp only [bi]at c1 c2
 have hm:(if(0:Int)<c.2.2.2.2.2.2.2.1 then(0:Int)else c.2.2.2.2.2.2.2.1)=0:=if_pos (by omega)
 have hw:∀z y:Int,z=0→y=0→ah z 0 y=true:=fun z y hz hy=>by subst hz;subst hy;rfl
 have iy:=f61 [] (by decide)
 simp only [hm,hw 0 0 rfl rfl,hw ((0:Nat):Int) ((0:Nat):Int) rfl rfl,cond_true,iy,bind_some,isEmpty_nil]
 exact⟨_,_,rfl,kJ h hk 0 rfl⟩
theorem RY {ck nr nt nk ne ac:Int} {rs:List aj} {es:List aK} (h:SOk (mk ck nr nt nk ne ac rs es)) (hr:∀r∈rs,bH r) (hR:isEmpty rs=false) (hE:isEmpty es=false) (c:bm) (hk:c.1=10):
  ∃t r,vm ((mk ck nr nt nk ne ac rs es),c,())=some (t,r,())∧bA ck nr nt nk ne ac rs es c t r:=by
 have h25:=aX h
 have hf:=h.fine
 have he:=h.ev40
 have hne:=h.ne
 simp only [mk]at h25 hf he hne
 have h32:=hf.1
 have E:=nG h hR hE
 simp only [mk]at E
 simp only [vm,mk,h25,bind_some,hR,hE,cond_false,zero_add,Nat.le_refl,decide_true,cond_true,bj,ce,E]
 by_cases c1:c.2.2.2.2.2.2.2.1<ac
 ·rw [decide_eq_true c1,cond_true];exact⟨_,_,rfl,ao h 1⟩
 rw [decide_eq_false c1,cond_false]
 by_cases c2:c.2.2.2.2.2.2.2.1≥ne
 ·rw [decide_eq_true c2,cond_true];exact⟨_,_,rfl,ao h 1⟩
 rw [decide_eq_false c2,cond_false]
 have hac:=h.ack
 have hel:=h.elen
 simp only [mk]at hac hel
 obtain⟨m,hm⟩:∃m:Nat,c.2.2.2.2.2.2.2.1-ac=(m:Int):=⟨(c.2.2.2.2.2.2.2.1-ac).toNat,by omega⟩
 have hml:m≤es.length:=by omega
 have hwr:IntKind.i64.wrap (c.2.2.2.2.2.2.2.1-ac)=(m:Int):=by rw [IntKind.wrap_i64];omega
 have htn:(c.2.2.2.2.2.2.2.1-ac).toNat=m:=by omega
 have hw:∀z:Int,z=0→ah z (m:Int) (es.length:Int)=true:=fun z hz=>by subst hz;simp only [ah,Bool.and_eq_true,decide_eq_true_eq];omega
 have htk:take (es.length-m) (drop m es)=drop m es:=take_of_length_le (by rw [length_drop];omega)
 have iy:=f61 (es.drop m) (by rw [length_drop];omega)
 have hd:decide (m+(es.length-m)≤es.length)=true:=decide_eq_true (by omega)
 simp only [hwr,hw 0 rfl,hw ((0:Nat):Int) rfl,cond_true,toNat_natCast,zero_add,htk,hd,iy,bind_some,bj]
 cases hem:isEmpty (drop m es)with
 |true=>exact⟨_,_,rfl,pA h hk (by omega) (by omega) (by rw [htn];exact(show es.drop m= [] by simpa using hem).symm)⟩
 |false=>
  generalize decide (((drop m es).length:Int)>ofNat 40)=b40
  cases b40 with
  |true=>exact⟨_,_,rfl,ao h 8⟩
  |false=>exact⟨_,_,rfl,pA h hk (by omega) (by omega) (by rw [htn])⟩
theorem RZ {ck nr nt nk ne ac:Int} {rs:List aj} (h:SOk (mk ck nr nt nk ne ac rs [])) (hr:∀r∈rs,bH r) (hR:isEmpty rs=false) (c:bm) (hk:c.1=10):
  ∃t r,vn ((mk ck nr nt nk ne ac rs []),c,())=some (t,r,())∧bA ck nr nt nk ne ac rs [] c t r:=by
 have h25:=aX h
 have hf:=h.fine
 have he:=h.ev40
 have hne:=h.ne
 simp only [mk]at h25 hf he hne
 have h32:=hf.1
 have E:=nH h hR
 simp only [mk]at E
 simp only [vn,mk,h25,bind_some,hR,isEmpty_nil,cond_false,zero_add,Nat.le_refl,decide_true,cond_true,bj,ce,E]
 by_cases c1:c.2.2.2.2.2.2.2.1<ac
 ·rw [decide_eq_true c1,cond_true];exact⟨_,_,rfl,ao h 1⟩
 rw [decide_eq_false c1,cond_false]
 by_cases c2:c.2.2.2.2.2.2.2.1≥ne
 ·rw [decide_eq_true c2,cond_true];exact⟨_,_,rfl,ao h 1⟩
 rw [decide_eq_false c2,cond_false]
 have hac:=h.ack
 have hel:=h.elen
 simp only [mk]at hac hel
 have hto:c.2.2.2.2.2.2.2.1=ac:=by simp only [length_nil]at hel;omega
 have hwr:IntKind.i64.wrap (c.2.2.2.2.2.2.2.1-ac)=0:=by rw [IntKind.wrap_i64];omega
 have hw:∀z y:Int,z=0→y=0→ah z 0 y=true:=fun z y hz hy=>by subst hz;subst hy;rfl
 have iy:=f61 [] (by decide)
 simp only [hwr,hw 0 0 rfl rfl,hw ((0:Nat):Int) ((0:Nat):Int) rfl rfl,cond_true,iy,bind_some,isEmpty_nil]
 exact⟨_,_,rfl,pA h hk (by omega) (by omega) (by simp)⟩
theorem Sa {ck nr nt nk ne ac:Int} {es:List aK} (h:SOk (mk ck nr nt nk ne ac [] es)) (hr:∀r∈([]:List aj),bH r) (hE:isEmpty es=false) (c:bm) (hk:c.1=10):
  ∃t r,vo ((mk ck nr nt nk ne ac [] es),c,())=some (t,r,())∧bA ck nr nt nk ne ac [] es c t r:=by
 have h25:=aX h
 have hf:=h.fine
 have he:=h.ev40
 have hne:=h.ne
 simp only [mk]at h25 hf he hne
 have h32:=hf.1
 have E:=nI h hE
 simp only [mk]at E
 simp only [vo,mk,h25,bind_some,hE,isEmpty_nil,cond_false,zero_add,Nat.le_refl,decide_true,cond_true,bj,ce,E]
 by_cases c1:c.2.2.2.2.2.2.2.1<ac
 ·rw [decide_eq_true c1,cond_true];exact⟨_,_,rfl,ao h 1⟩
 rw [decide_eq_false c1,cond_false]
 by_cases c2:c.2.2.2.2.2.2.2.1≥ne
 ·rw [decide_eq_true c2,cond_true];exact⟨_,_,rfl,ao h 1⟩
 rw [decide_eq_false c2,cond_false]
 have hac:=h.ack
 have hel:=h.elen
 simp only [mk]at hac hel
 obtain⟨m,hm⟩:∃m:Nat,c.2.2.2.2.2.2.2.1-ac=(m:Int):=⟨(c.2.2.2.2.2.2.2.1-ac).toNat,by omega⟩
 have hml:m≤es.length:=by omega
 have hwr:IntKind.i64.wrap (c.2.2.2.2.2.2.2.1-ac)=(m:Int):=by rw [IntKind.wrap_i64];omega
 have htn:(c.2.2.2.2.2.2.2.1-ac).toNat=m:=by omega
 have hw:∀z:Int,z=0→ah z (m:Int) (es.length:Int)=true:=fun z hz=>by subst hz;simp only [ah,Bool.and_eq_true,decide_eq_true_eq];omega
 have htk:take (es.length-m) (drop m es)=drop m es:=take_of_length_le (by rw [length_drop];omega)
 have iy:=f61 (es.drop m) (by rw [length_drop];omega)
 have hd:decide (m+(es.length-m)≤es.length)=true:=decide_eq_true (by omega)
 simp only [hwr,hw 0 rfl,hw ((0:Nat):Int) rfl,cond_true,toNat_natCast,zero_add,htk,hd,iy,bind_some,bj]
 cases hem:isEmpty (drop m es)with
 |true=>exact⟨_,_,rfl,pA h hk (by omega) (by omega) (by rw [htn];exact(show es.drop m= [] by simpa using hem).symm)⟩
 |false=>
  generalize decide (((drop m es).length:Int)>ofNat 40)=b40
  cases b40 with
  |true=>exact⟨_,_,rfl,ao h 8⟩
  |false=>exact⟨_,_,rfl,pA h hk (by omega) (by omega) (by rw [htn])⟩
theorem Sb {ck nr nt nk ne ac:Int} (h:SOk (mk ck nr nt nk ne ac [] [])) (hr:∀r∈([]:List aj),bH r) (c:bm) (hk:c.1=10):
  ∃t r,vp ((mk ck nr nt nk ne ac [] []),c,())=some (t,r,())∧bA ck nr nt nk ne ac [] [] c t r:=by
 have h25:=aX h
 have hf:=h.fine
 have he:=h.ev40
 have hne:=h.ne
 simp only [mk]at h25 hf he hne
 have h32:=hf.1
 have E:=nJ h
 simp only [mk]at E
 simp only [vp,mk,h25,bind_some,isEmpty_nil,cond_false,zero_add,Nat.le_refl,decide_true,cond_true,bj,ce,E]
 by_cases c1:c.2.2.2.2.2.2.2.1<ac
 ·rw [decide_eq_true c1,cond_true];exact⟨_,_,rfl,ao h 1⟩
 rw [decide_eq_false c1,cond_false]
 by_cases c2:c.2.2.2.2.2.2.2.1≥ne
 ·rw [decide_eq_true c2,cond_true];exact⟨_,_,rfl,ao h 1⟩
 rw [decide_eq_false c2,cond_false]
 have hac:=h.ack
 have hel:=h.elen
 simp only [mk]at hac hel
 have hto:c.2.2.2.2.2.2.2.1=ac:=by simp only [length_nil]at hel;omega
 have hwr:IntKind.i64.wrap (c.2.2.2.2.2.2.2.1-ac)=0:=by rw [IntKind.wrap_i64];omega
 have hw:∀z y:Int,z=0→y=0→ah z 0 y=true:=fun z y hz hy=>by subst hz;subst hy;rfl
 have iy:=f61 [] (by decide)
 simp only [hwr,hw 0 0 rfl rfl,hw ((0:Nat):Int) ((0:Nat):Int) rfl rfl,cond_true,iy,bind_some,isEmpty_nil]
 exact⟨_,_,rfl,pA h hk (by omega) (by omega) (by simp)⟩
theorem YI {ck nr nt nk ne ac:Int} {rs:List aj} {es:List aK} (h:SOk (mk ck nr nt nk ne ac rs es)) (hr:∀r∈rs,bH r) (hR:isEmpty rs=false) (hE:isEmpty es=false) (c:bm) (hfr:Fresh nr nt nk ne) (hk:c.1=5):
  ∃t r,xM ((mk ck nr nt nk ne ac rs es),c,())=some (t,r,())∧bA ck nr nt nk ne ac rs es c t r:=by
 have h25:=aX h
 have hf:=h.fine
 have he:=h.ev40
 have hne:=h.ne
 simp only [mk]at h25 hf he hne
 have h32:=hf.1
 have E:=nG h hR hE
 simp only [mk]at E
 obtain⟨bs,hbs⟩:=f118 c.2.2.2.2.2.2.1
 simp only [xM,mk,h25,bind_some,hR,hE,cond_false,zero_add,Nat.le_refl,decide_true,cond_true,bj,ce,E,hbs]
 cases bs with
 |false=>exact⟨_,_,rfl,ao h 1⟩
 |true=>
 simp only [Bool.not_true,cond_false]
 obtain⟨i,b,e,hfi,hq⟩:=bU rs (by omega) hr c.2.2.2.1
 simp only [hfi,bind_some]
 rcases hq with⟨_,_,hq⟩|⟨rfl,_,⟨rfl,n,rfl,hn,hid⟩|⟨rfl,_⟩⟩
 ·exact absurd hf hq
 ·simp only [Bool.not_true,cond_false,aM hn,aF hn,cond_true,toNat_natCast]
  refine Bg (rs.getD n (aa ab)) (hr _ (aC hn _)) _ _ _ (fun r' k hi hkl hh hun hT=> ?_) (fun m=> ?_)
  ·simp only [cD]
   try simp only [length_cons,length_nil,zero_add,ch (show es.length≤60 by omega) (show 1≤60 by omega),ch (show es.length+1≤60 by omega) (show 1≤60 by omega),decide_true,cond_true,length_append,length_set,Nat.le_refl,drop_zero]
   by_cases c40:(((es.length:Nat):Int)>ofNat 40)
   ·rw [decide_eq_true c40,cond_true];exact⟨_,_,rfl,ao h 8⟩
   ·rw [decide_eq_false c40,cond_false]
    exact⟨_,_,rfl,Gu h hk hfr hn hid hi hkl hh hun hT (jt n r')⟩
  ·simp only [eF]
   exact⟨_,_,rfl,ao h m⟩
 ·exact⟨_,_,rfl,ao h 5⟩
theorem YJ {ck nr nt nk ne ac:Int} {rs:List aj} (h:SOk (mk ck nr nt nk ne ac rs [])) (hr:∀r∈rs,bH r) (hR:isEmpty rs=false) (c:bm) (hfr:Fresh nr nt nk ne) (hk:c.1=5):
  ∃t r,xV ((mk ck nr nt nk ne ac rs []),c,())=some (t,r,())∧bA ck nr nt nk ne ac rs [] c t r:=by
 have h25:=aX h
 have hf:=h.fine
 have he:=h.ev40
 have hne:=h.ne
 simp only [mk]at h25 hf he hne
 have h32:=hf.1
 have E:=nH h hR
 simp only [mk]at E
 obtain⟨bs,hbs⟩:=f118 c.2.2.2.2.2.2.1
 simp only [xV,mk,h25,bind_some,hR,isEmpty_nil,cond_false,zero_add,Nat.le_refl,decide_true,cond_true,bj,ce,E,hbs]
 cases bs with
 |false=>exact⟨_,_,rfl,ao h 1⟩
 |true=>
 simp only [Bool.not_true,cond_false]
 obtain⟨i,b,e,hfi,hq⟩:=bU rs (by omega) hr c.2.2.2.1
 simp only [hfi,bind_some]
 rcases hq with⟨_,_,hq⟩|⟨rfl,_,⟨rfl,n,rfl,hn,hid⟩|⟨rfl,_⟩⟩
 ·exact absurd hf hq
 ·simp only [Bool.not_true,cond_false,aM hn,aF hn,cond_true,toNat_natCast]
  refine Bg (rs.getD n (aa ab)) (hr _ (aC hn _)) _ _ _ (fun r' k hi hkl hh hun hT=> ?_) (fun m=> ?_)
  ·simp only [cD]
   try simp only [length_set,Nat.le_refl,decide_true,cond_true,drop_zero]
   exact⟨_,_,rfl,Gu h hk hfr hn hid hi hkl hh hun hT (jt n r')⟩
  ·simp only [eF]
   exact⟨_,_,rfl,ao h m⟩
 ·exact⟨_,_,rfl,ao h 5⟩
theorem YK {ck nr nt nk ne ac:Int} {es:List aK} (h:SOk (mk ck nr nt nk ne ac [] es)) (hr:∀r∈([]:List aj),bH r) (hE:isEmpty es=false) (c:bm) (hfr:Fresh nr nt nk ne) (hk:c.1=5):
  ∃t r,yf ((mk ck nr nt nk ne ac [] es),c,())=some (t,r,())∧bA ck nr nt nk ne ac [] es c t r:=by
 have h25:=aX h
 have hf:=h.fine
 have he:=h.ev40
 have hne:=h.ne
 simp only [mk]at h25 hf he hne
 have h32:=hf.1
 have E:=nI h hE
 simp only [mk]at E
 obtain⟨bs,hbs⟩:=f118 c.2.2.2.2.2.2.1
 simp only [yf,mk,h25,bind_some,hE,isEmpty_nil,cond_false,zero_add,Nat.le_refl,decide_true,cond_true,bj,ce,E,hbs]
 cases bs with
 |false=>exact⟨_,_,rfl,ao h 1⟩
 |true=>
 simp only [Bool.not_true,cond_false]
 obtain⟨i,b,e,hfi,hq⟩:=bU ([]:List aj) (by omega) hr c.2.2.2.1
 simp only [hfi,bind_some]
 rcases hq with⟨_,_,hq⟩|⟨rfl,_,⟨rfl,n,rfl,hn,hid⟩|⟨rfl,_⟩⟩
 ·exact absurd hf hq
 ·exact absurd hn (not_lt_zero _)
 ·exact⟨_,_,rfl,ao h 5⟩
theorem YL {ck nr nt nk ne ac:Int} (h:SOk (mk ck nr nt nk ne ac [] [])) (hr:∀r∈([]:List aj),bH r) (c:bm) (hfr:Fresh nr nt nk ne) (hk:c.1=5):
  ∃t r,yp ((mk ck nr nt nk ne ac [] []),c,())=some (t,r,())∧bA ck nr nt nk ne ac [] [] c t r:=by
 have h25:=aX h
 have hf:=h.fine
 have he:=h.ev40
 have hne:=h.ne
 simp only [mk]at h25 hf he hne
 have h32:=hf.1
 have E:=nJ h
 simp only [mk]at E
 obtain⟨bs,hbs⟩:=f118 c.2.2.2.2.2.2.1
 simp only [yp,mk,h25,bind_some,isEmpty_nil,cond_false,zero_add,Nat.le_refl,decide_true,cond_true,bj,ce,E,hbs]
 cases bs with
 |false=>exact⟨_,_,rfl,ao h 1⟩
 |true=>
 simp only [Bool.not_true,cond_false]
 obtain⟨i,b,e,hfi,hq⟩:=bU ([]:List aj) (by omega) hr c.2.2.2.1
 simp only [hfi,bind_some]
 rcases hq with⟨_,_,hq⟩|⟨rfl,_,⟨rfl,n,rfl,hn,hid⟩|⟨rfl,_⟩⟩
 ·exact absurd hf hq
 ·exact absurd hn (not_lt_zero _)
 ·exact⟨_,_,rfl,ao h 5⟩
theorem YM {ck nr nt nk ne ac:Int} {rs:List aj} {es:List aK} (h:SOk (mk ck nr nt nk ne ac rs es)) (hr:∀r∈rs,bH r) (hR:isEmpty rs=false) (hE:isEmpty es=false) (c:bm) (hfr:Fresh nr nt nk ne) (hk:c.1=2):
  ∃t r,uA ((mk ck nr nt nk ne ac rs es),c,())=some (t,r,())∧bA ck nr nt nk ne ac rs es c t r:=by
 have h25:=aX h
 have hf:=h.fine
 have he:=h.ev40
 have hne:=h.ne
 simp only [mk]at h25 hf he hne
 have h32:=hf.1
 have E:=nG h hR hE
 simp only [mk]at E
 have hnt:=h.nt
 simp only [mk]at hnt
 obtain⟨bs,hbs⟩:=f118 c.2.2.2.2.2.2.1
 simp only [uA,mk,h25,bind_some,hR,hE,cond_false,zero_add,Nat.le_refl,decide_true,cond_true,bj,ce,E,hbs]
 cases bs with
 |false=>exact⟨_,_,rfl,ao h 1⟩
 |true=>
 simp only [Bool.not_true,cond_false]
 obtain⟨p,b,e,hnx,hq⟩:=pt rs (by omega) hr
 simp only [hnx,bind_some]
 rcases hq with⟨_,_,hq⟩|⟨rfl,_,_,_,hex⟩
 ·exact absurd hf hq
 cases b with
 |false=>exact⟨_,_,rfl,ao h 5⟩
 |true=>
 obtain⟨n0,k0,hn0,_,_,hp,_⟩:=hex rfl
 simp only [Bool.not_true,cond_false]
 obtain⟨i,b,e,hfi,hq⟩:=bU rs (by omega) hr p.1
 simp only [hfi,bind_some]
 rcases hq with⟨_,_,hq⟩|⟨rfl,_,⟨rfl,n,rfl,hn,hid⟩|⟨rfl,hno⟩⟩
 ·exact absurd hf hq
 ·simp only [Bool.not_true,cond_false,aM hn,aF hn,cond_true,toNat_natCast]
  refine yG (rs.getD n (aa ab)) (hr _ (aC hn _)) _ _ _ (fun r' k hi hkl h1 hun hT=> ?_) (fun m=> ?_)
  ·simp only [cD]
   try simp only [length_cons,length_nil,zero_add,ch (show es.length≤60 by omega) (show 1≤60 by omega),ch (show es.length+1≤60 by omega) (show 1≤60 by omega),decide_true,cond_true,length_append,length_set,Nat.le_refl,drop_zero]
   by_cases c40:(((es.length:Nat):Int)>ofNat 40)
   ·rw [decide_eq_true c40,cond_true];exact⟨_,_,rfl,ao h 8⟩
   ·rw [decide_eq_false c40,cond_false]
    exact⟨_,_,rfl,Gt h hk hfr hn hkl h1 hun hT hid hi (wrm (by omega) (by omega)) (ff (by omega) (by omega)) (jt n r')⟩
  ·simp only [eF]
   exact⟨_,_,rfl,ao h m⟩
 ·exact absurd hp.symm (hno n0 hn0)
theorem YN {ck nr nt nk ne ac:Int} {rs:List aj} (h:SOk (mk ck nr nt nk ne ac rs [])) (hr:∀r∈rs,bH r) (hR:isEmpty rs=false) (c:bm) (hfr:Fresh nr nt nk ne) (hk:c.1=2):
  ∃t r,xS ((mk ck nr nt nk ne ac rs []),c,())=some (t,r,())∧bA ck nr nt nk ne ac rs [] c t r:=by
 have h25:=aX h
 have hf:=h.fine
 have he:=h.ev40
 have hne:=h.ne
 simp only [mk]at h25 hf he hne
 have h32:=hf.1
 have E:=nH h hR
 simp only [mk]at E
 have hnt:=h.nt
 simp only [mk]at hnt
 obtain⟨bs,hbs⟩:=f118 c.2.2.2.2.2.2.1
 simp only [xS,mk,h25,bind_some,hR,isEmpty_nil,cond_false,zero_add,Nat.le_refl,decide_true,cond_true,bj,ce,E,hbs]
 cases bs with
 |false=>exact⟨_,_,rfl,ao h 1⟩
 |true=>
 simp only [Bool.not_true,cond_false]
 obtain⟨p,b,e,hnx,hq⟩:=pt rs (by omega) hr
 simp only [hnx,bind_some]
 rcases hq with⟨_,_,hq⟩|⟨rfl,_,_,_,hex⟩
 ·exact absurd hf hq
 cases b with
 |false=>exact⟨_,_,rfl,ao h 5⟩
 |true=>
 obtain⟨n0,k0,hn0,_,_,hp,_⟩:=hex rfl
 simp only [Bool.not_true,cond_false]
 obtain⟨i,b,e,hfi,hq⟩:=bU rs (by omega) hr p.1
 simp only [hfi,bind_some]
 rcases hq with⟨_,_,hq⟩|⟨rfl,_,⟨rfl,n,rfl,hn,hid⟩|⟨rfl,hno⟩⟩
 ·exact absurd hf hq
 ·simp only [Bool.not_true,cond_false,aM hn,aF hn,cond_true,toNat_natCast]
  refine yG (rs.getD n (aa ab)) (hr _ (aC hn _)) _ _ _ (fun r' k hi hkl h1 hun hT=> ?_) (fun m=> ?_)
  ·simp only [cD]
   try simp only [length_set,Nat.le_refl,decide_true,cond_true,drop_zero]
   exact⟨_,_,rfl,Gt h hk hfr hn hkl h1 hun hT hid hi (wrm (by omega) (by omega)) (ff (by omega) (by omega)) (jt n r')⟩
  ·simp only [eF]
   exact⟨_,_,rfl,ao h m⟩
 ·exact absurd hp.symm (hno n0 hn0)
theorem YO {ck nr nt nk ne ac:Int} {es:List aK} (h:SOk (mk ck nr nt nk ne ac [] es)) (hr:∀r∈([]:List aj),bH r) (hE:isEmpty es=false) (c:bm) (hfr:Fresh nr nt nk ne) (hk:c.1=2):
  ∃t r,yc ((mk ck nr nt nk ne ac [] es),c,())=some (t,r,())∧bA ck nr nt nk ne ac [] es c t r:=by
 have h25:=aX h
 have hf:=h.fine
 have he:=h.ev40
 have hne:=h.ne
 simp only [mk]at h25 hf he hne
 have h32:=hf.1
 have E:=nI h hE
 simp only [mk]at E
 have hnt:=h.nt
 simp only [mk]at hnt
 obtain⟨bs,hbs⟩:=f118 c.2.2.2.2.2.2.1
 simp only [yc,mk,h25,bind_some,hE,isEmpty_nil,cond_false,zero_add,Nat.le_refl,decide_true,cond_true,bj,ce,E,hbs]
 cases bs with
 |false=>exact⟨_,_,rfl,ao h 1⟩
 |true=>
 simp only [Bool.not_true,cond_false]
 obtain⟨p,b,e,hnx,hq⟩:=pt ([]:List aj) (by omega) hr
 simp only [hnx,bind_some]
 rcases hq with⟨_,_,hq⟩|⟨rfl,_,_,_,hex⟩
 ·exact absurd hf hq
 cases b with
 |false=>exact⟨_,_,rfl,ao h 5⟩
 |true=>
 obtain⟨n0,k0,hn0,_,_,hp,_⟩:=hex rfl
 exact absurd hn0 (not_lt_zero _)
theorem YP {ck nr nt nk ne ac:Int} (h:SOk (mk ck nr nt nk ne ac [] [])) (hr:∀r∈([]:List aj),bH r) (c:bm) (hfr:Fresh nr nt nk ne) (hk:c.1=2):
  ∃t r,ym ((mk ck nr nt nk ne ac [] []),c,())=some (t,r,())∧bA ck nr nt nk ne ac [] [] c t r:=by
 have h25:=aX h
 have hf:=h.fine
 have he:=h.ev40
 have hne:=h.ne
 simp only [mk]at h25 hf he hne
 have h32:=hf.1
 have E:=nJ h
 simp only [mk]at E
 have hnt:=h.nt
 simp only [mk]at hnt
 obtain⟨bs,hbs⟩:=f118 c.2.2.2.2.2.2.1
 simp only [ym,mk,h25,bind_some,isEmpty_nil,cond_false,zero_add,Nat.le_refl,decide_true,cond_true,bj,ce,E,hbs]
 cases bs with
 |false=>exact⟨_,_,rfl,ao h 1⟩
 |true=>
 simp only [Bool.not_true,cond_false]
 obtain⟨p,b,e,hnx,hq⟩:=pt ([]:List aj) (by omega) hr
 simp only [hnx,bind_some]
 rcases hq with⟨_,_,hq⟩|⟨rfl,_,_,_,hex⟩
 ·exact absurd hf hq
 cases b with
 |false=>exact⟨_,_,rfl,ao h 5⟩
 |true=>
 obtain⟨n0,k0,hn0,_,_,hp,_⟩:=hex rfl
 exact absurd hn0 (not_lt_zero _)
theorem YQ {ck nr nt nk ne ac:Int} {rs:List aj} {es:List aK} (h:SOk (mk ck nr nt nk ne ac rs es)) (hr:∀r∈rs,bH r) (hR:isEmpty rs=false) (hE:isEmpty es=false) (c:bm) (hcl:∀nd∈c.2.2.1.1,nd.1.length≤9223372036854775807) (hfr:Fresh nr nt nk ne) (hk:c.1=1):
  ∃t r,xK ((mk ck nr nt nk ne ac rs es),c,())=some (t,r,())∧bA ck nr nt nk ne ac rs es c t r:=by
 have h25:=aX h
 have hf:=h.fine
 have he:=h.ev40
 have hne:=h.ne
 simp only [mk]at h25 hf he hne
 have h32:=hf.1
 have E:=nG h hR hE
 simp only [mk]at E
 have hnr:0≤nr∧nr≤1099511627776:=h.nr
 simp only [xK,mk,h25,bind_some,hR,hE,cond_false,zero_add,Nat.le_refl,decide_true,cond_true,bj,ce,E]
 by_cases c1:((c.2.1.size:Nat):Int)<ofNat 1
 ·rw [decide_eq_true c1,cond_true];exact⟨_,_,rfl,ao h 2⟩
 rw [decide_eq_false c1,cond_false]
 by_cases c2:((c.2.1.size:Nat):Int)>ofNat 24
 ·rw [decide_eq_true c2,cond_true];exact⟨_,_,rfl,ao h 2⟩
 rw [decide_eq_false c2,cond_false]
 obtain⟨v,hv,hc⟩:=f114 c.2.2.1.1 hcl
 have hv':iV (c.2.2.1,())=some (v,()):=hv
 simp only [hv',bind_some]
 rcases hc with⟨rfl,hdag⟩|⟨rfl,_⟩
 ·simp only [cD]
  obtain⟨i,b,e,hkn,hq⟩:=nA rs (by omega) hr c.2.1
  simp only [hkn,bind_some]
  rcases hq with⟨_,_,hq⟩|⟨rfl,_,⟨rfl,n,hn,hid,hkey⟩|⟨rfl,hno⟩⟩
  ·exact absurd hf hq
  ·simp only [cond_true]
   try simp only [length_cons,length_nil,zero_add,ch (show es.length≤60 by omega) (show 1≤60 by omega),ch (show es.length+1≤60 by omega) (show 1≤60 by omega),decide_true,cond_true,length_append,length_set,Nat.le_refl,drop_zero]
   by_cases c40:(((es.length:Nat):Int)>ofNat 40)
   ·rw [decide_eq_true c40,cond_true];exact⟨_,_,rfl,ao h 8⟩
   ·rw [decide_eq_false c40,cond_false]
    exact⟨_,_,rfl,EP h hk hn hkey hid⟩
  ·simp only [cond_false]
   by_cases c32:((rs.length:Nat):Int)=32
   ·rw [show(((rs.length:Nat):Int)==ofNat 32)=true by rw [c32];rfl,cond_true];exact⟨_,_,rfl,ao h 8⟩
   ·rw [show(((rs.length:Nat):Int)==ofNat 32)=false by simpa using c32,cond_false]
    refine mc _ _ _ hcl _ (fun hkey hd hrk=> ?_) (fun r' rk' m=> ?_)
    ·simp only [cD]
     try simp only [uI,ce,bj,length_cons,length_nil,zero_add,KZ (show rs.length≤60 by omega),ch (show es.length≤60 by omega) (show 1≤60 by omega),ch (show es.length+1≤60 by omega) (show 1≤60 by omega),decide_true,cond_true,length_append,Nat.le_refl,drop_zero]
     by_cases c40:(((es.length+1:Nat):Int)>ofNat 40)
     ·rw [decide_eq_true c40,cond_true];exact⟨_,_,rfl,ao h 8⟩
     ·rw [decide_eq_false c40,cond_false]
      exact⟨_,_,rfl,yH hk hfr hno (by omega) hkey hd hrk (ff (by omega) (by omega)) (ff (by omega) (by omega)) (by simp) (by simp) (by simp only [length_append,length_cons,length_nil,bi]at c40⊢;omega)⟩
    ·simp only [eF]
     exact⟨_,_,rfl,ao h m⟩
 ·exact⟨_,_,rfl,ao h 229⟩
theorem YR {ck nr nt nk ne ac:Int} {rs:List aj} (h:SOk (mk ck nr nt nk ne ac rs [])) (hr:∀r∈rs,bH r) (hR:isEmpty rs=false) (c:bm) (hcl:∀nd∈c.2.2.1.1,nd.1.length≤9223372036854775807) (hfr:Fresh nr nt nk ne) (hk:c.1=1):
  ∃t r,xR ((mk ck nr nt nk ne ac rs []),c,())=some (t,r,())∧bA ck nr nt nk ne ac rs [] c t r:=by
 have h25:=aX h
 have hf:=h.fine
 have he:=h.ev40
 have hne:=h.ne
 simp only [mk]at h25 hf he hne
 have h32:=hf.1
 have E:=nH h hR
 simp only [mk]at E
 have hnr:0≤nr∧nr≤1099511627776:=h.nr
 simp only [xR,mk,h25,bind_some,hR,isEmpty_nil,cond_false,zero_add,Nat.le_refl,decide_true,cond_true,bj,ce,E]
 by_cases c1:((c.2.1.size:Nat):Int)<ofNat 1
 ·rw [decide_eq_true c1,cond_true];exact⟨_,_,rfl,ao h 2⟩
 rw [decide_eq_false c1,cond_false]
 by_cases c2:((c.2.1.size:Nat):Int)>ofNat 24
 ·rw [decide_eq_true c2,cond_true];exact⟨_,_,rfl,ao h 2⟩
 rw [decide_eq_false c2,cond_false]
 obtain⟨v,hv,hc⟩:=f114 c.2.2.1.1 hcl
 have hv':iV (c.2.2.1,())=some (v,()):=hv
 simp only [hv',bind_some]
 rcases hc with⟨rfl,hdag⟩|⟨rfl,_⟩
 ·simp only [cD]
  obtain⟨i,b,e,hkn,hq⟩:=nA rs (by omega) hr c.2.1
  simp only [hkn,bind_some]
  rcases hq with⟨_,_,hq⟩|⟨rfl,_,⟨rfl,n,hn,hid,hkey⟩|⟨rfl,hno⟩⟩
  ·exact absurd hf hq
  ·simp only [cond_true]
   try simp only [length_set,Nat.le_refl,decide_true,cond_true,drop_zero]
   exact⟨_,_,rfl,EP h hk hn hkey hid⟩
  ·simp only [cond_false]
   by_cases c32:((rs.length:Nat):Int)=32
   ·rw [show(((rs.length:Nat):Int)==ofNat 32)=true by rw [c32];rfl,cond_true];exact⟨_,_,rfl,ao h 8⟩
   ·rw [show(((rs.length:Nat):Int)==ofNat 32)=false by simpa using c32,cond_false]
    refine mc _ _ _ hcl _ (fun hkey hd hrk=> ?_) (fun r' rk' m=> ?_)
    ·simp only [cD]
     try simp only [uI,ce,bj,length_cons,length_nil,zero_add,KZ (show rs.length≤60 by omega),decide_true,cond_true,length_append,Nat.le_refl,drop_zero]
     exact⟨_,_,rfl,yH hk hfr hno (by omega) hkey hd hrk (ff (by omega) (by omega)) (ff (by omega) (by omega)) (by simp) (by simp) (by simp only [length_cons,length_nil];omega)⟩
    ·simp only [eF]
     exact⟨_,_,rfl,ao h m⟩
 ·exact⟨_,_,rfl,ao h 229⟩
theorem YS {ck nr nt nk ne ac:Int} {es:List aK} (h:SOk (mk ck nr nt nk ne ac [] es)) (hr:∀r∈([]:List aj),bH r) (hE:isEmpty es=false) (c:bm) (hcl:∀nd∈c.2.2.1.1,nd.1.length≤9223372036854775807) (hfr:Fresh nr nt nk ne) (hk:c.1=1):
  ∃t r,yb ((mk ck nr nt nk ne ac [] es),c,())=some (t,r,())∧bA ck nr nt nk ne ac [] es c t r:=by
 have h25:=aX h
 have hf:=h.fine
 have he:=h.ev40
 have hne:=h.ne
 simp only [mk]at h25 hf he hne
 have h32:=hf.1
 have E:=nI h hE
 simp only [mk]at E
 have hnr:0≤nr∧nr≤1099511627776:=h.nr
 simp only [yb,mk,h25,bind_some,hE,isEmpty_nil,cond_false,zero_add,Nat.le_refl,decide_true,cond_true,bj,ce,E]
 by_cases c1:((c.2.1.size:Nat):Int)<ofNat 1
 ·rw [decide_eq_true c1,cond_true];exact⟨_,_,rfl,ao h 2⟩
 rw [decide_eq_false c1,cond_false]
 by_cases c2:((c.2.1.size:Nat):Int)>ofNat 24
 ·rw [decide_eq_true c2,cond_true];exact⟨_,_,rfl,ao h 2⟩
 rw [decide_eq_false c2,cond_false]
 obtain⟨v,hv,hc⟩:=f114 c.2.2.1.1 hcl
 have hv':iV (c.2.2.1,())=some (v,()):=hv
 simp only [hv',bind_some]
 rcases hc with⟨rfl,hdag⟩|⟨rfl,_⟩
 ·simp only [cD]
  obtain⟨i,b,e,hkn,hq⟩:=nA ([]:List aj) (by omega) hr c.2.1
  simp only [hkn,bind_some]
  rcases hq with⟨_,_,hq⟩|⟨rfl,_,⟨rfl,n,hn,hid,hkey⟩|⟨rfl,hno⟩⟩
  ·exact absurd hf hq
  ·exact absurd hn (not_lt_zero _)
  ·simp only [cond_false]
   refine mc _ _ _ hcl _ (fun hkey hd hrk=> ?_) (fun r' rk' m=> ?_)
   ·simp only [cD]
    try simp only [uI,ce,bj,length_cons,length_nil,zero_add,ch (show es.length≤60 by omega) (show 1≤60 by omega),ch (show es.length+1≤60 by omega) (show 1≤60 by omega),decide_true,cond_true,length_append,Nat.le_refl,drop_zero]
    by_cases c40:(((es.length+1:Nat):Int)>ofNat 40)
    ·rw [decide_eq_true c40,cond_true];exact⟨_,_,rfl,ao h 8⟩
    ·rw [decide_eq_false c40,cond_false]
     exact⟨_,_,rfl,yH hk hfr hno (by simp only [length_nil];omega) hkey hd hrk (ff (by omega) (by omega)) (ff (by omega) (by omega)) (by simp) (by simp) (by simp only [length_append,length_cons,length_nil,bi]at c40⊢;omega)⟩
   ·simp only [eF]
    exact⟨_,_,rfl,ao h m⟩
 ·exact⟨_,_,rfl,ao h 229⟩
theorem YT {ck nr nt nk ne ac:Int} (h:SOk (mk ck nr nt nk ne ac [] [])) (hr:∀r∈([]:List aj),bH r) (c:bm) (hcl:∀nd∈c.2.2.1.1,nd.1.length≤9223372036854775807) (hfr:Fresh nr nt nk ne) (hk:c.1=1):
  ∃t r,uC ((mk ck nr nt nk ne ac [] []),c,())=some (t,r,())∧bA ck nr nt nk ne ac [] [] c t r:=by
 have h25:=aX h
 have hf:=h.fine
 have he:=h.ev40
 have hne:=h.ne
 simp only [mk]at h25 hf he hne
 have h32:=hf.1
 have E:=nJ h
 simp only [mk]at E
 have hnr:0≤nr∧nr≤1099511627776:=h.nr
 simp only [uC,mk,h25,bind_some,isEmpty_nil,cond_false,zero_add,Nat.le_refl,decide_true,cond_true,bj,ce,E]
 by_cases c1:((c.2.1.size:Nat):Int)<ofNat 1
 ·rw [decide_eq_true c1,cond_true];exact⟨_,_,rfl,ao h 2⟩
 rw [decide_eq_false c1,cond_false]
 by_cases c2:((c.2.1.size:Nat):Int)>ofNat 24
 ·rw [decide_eq_true c2,cond_true];exact⟨_,_,rfl,ao h 2⟩
 rw [decide_eq_false c2,cond_false]
 obtain⟨v,hv,hc⟩:=f114 c.2.2.1.1 hcl
 have hv':iV (c.2.2.1,())=some (v,()):=hv
 simp only [hv',bind_some]
 rcases hc with⟨rfl,hdag⟩|⟨rfl,_⟩
 ·simp only [cD]
  obtain⟨i,b,e,hkn,hq⟩:=nA ([]:List aj) (by omega) hr c.2.1
  simp only [hkn,bind_some]
  rcases hq with⟨_,_,hq⟩|⟨rfl,_,⟨rfl,n,hn,hid,hkey⟩|⟨rfl,hno⟩⟩
  ·exact absurd hf hq
  ·exact absurd hn (not_lt_zero _)
  ·simp only [cond_false]
   refine mc _ _ _ hcl _ (fun hkey hd hrk=> ?_) (fun r' rk' m=> ?_)
   ·simp only [cD]
    try simp only [uI,ce,bj,length_cons,length_nil,zero_add,decide_true,cond_true,length_append,Nat.le_refl,drop_zero]
    exact⟨_,_,rfl,yH hk hfr hno (by simp only [length_nil];omega) hkey hd hrk (ff (by omega) (by omega)) (ff (by omega) (by omega)) (by simp) (by simp) (by simp only [length_cons,length_nil];omega)⟩
   ·simp only [eF]
    exact⟨_,_,rfl,ao h m⟩
 ·exact⟨_,_,rfl,ao h 229⟩
abbrev Dom {α β:Type} (f:α→β):Type:=α
structure SameI (rs R:List aj):Prop where
 len:R.length=rs.length
 is:∀j:Nat,j<rs.length→(R.getD j (aa ab)).1=(rs.getD j (aa ab)).1∧(aZ R j).length=(aZ rs j).length
theorem ER {rs R:List aj} (hs:SameI rs R) {n:Nat} (hn:n<R.length) {r':aj} (h1:r'.1=(R.getD n (aa ab)).1) (h2:r'.2.2.2.2.1.length=(aZ R n).length):SameI rs (R.set n r'):=by
 refine⟨by rw [length_set];exact hs.len,fun j hj=> ?_⟩
 unfold aZ
 rw [dc hn]
 split
 ·rename_i c
  subst c
  exact⟨h1.trans (hs.is _ hj).1,h2.trans (hs.is _ hj).2⟩
 ·exact hs.is j hj
theorem ir {now:Int} {P:List cq} {x:py}:∀(i:Nat) (y:py),TkN now P x i y→SameI x.2.1 y.2.1∧x.1≤y.1∧y.1≤x.1+i
 |_,_,.zero=>⟨⟨rfl,fun _ _=>⟨rfl,rfl⟩⟩,by omega,by omega⟩
 |_,z,.step i y _ hy h=>by
  obtain⟨q,q1,q2⟩:=ir i y hy
  cases h with
  |skip d R nk ne w h=>exact⟨q,by simp only at*;omega,by simp only at*;omega⟩
  |wake d R nk ne w n k r' hn hid hp hk hd h3 hT=>exact⟨ER q hn hT.id hT.len,by simp only at*;omega,by simp only at*;omega⟩
  |lapse d R nk ne w n k t' r' hn hid hp hk hd h2 hf hT=>exact⟨ER q hn hT.id hT.len,by simp only at*;omega,by simp only at*;omega⟩
theorem vA {rs R:List aj} {now:Int} {p:cq} (hs:SameI rs R) (hf:eL rs) (hp:p∈pl rs now) {n:Nat} (hn:n<R.length) (hid:(R.getD n (aa ab)).1=p.1):
  ∃k:Nat,p.2.1=k∧k<(R.getD n (aa ab)).2.2.2.2.1.length:=by
 obtain⟨r,hr,hp⟩:=List.mem_flatMap.1 hp
 obtain⟨j,hj,_,rfl⟩:=Gg hp
 obtain⟨m,hm,rfl⟩:=List.mem_iff_getElem.1 hr
 rw [←bG hm (aa ab)]at hj hid
 have hn':n<rs.length:=hs.len▸hn
 obtain⟨h1,h2⟩:=hs.is n hn'
 have hnm:n=m:=by
  rw [h1]at hid
  simp only at hid
  rcases Nat.lt_trichotomy n m with h|h|h
  ·have:=hf.2.up n m h hm;omega
  ·exact h
  ·have:=hf.2.up m n h hn';omega
 subst hnm
 exact⟨j,by simp only;omega,by unfold aZ at h2;rw [h2];exact hj⟩
theorem yI {R:List aj} (hf:eL R) {n m:Nat} (hn:n<R.length) (hm:m<R.length) (h:(R.getD n (aa ab)).1=(R.getD m (aa ab)).1):n=m:=by
 rcases Nat.lt_trichotomy n m with c|c|c
 ·have:=hf.2.up n m c hm;omega
 ·exact c
 ·have:=hf.2.up m n c hn;omega
section
variable (np:Nat) (rs:List aj) (es:List aK) (P:List cq) (now nr nt ac:Int)
abbrev ta1 (i d:Int) (R:List aj) (nk ne:Int):=(d,np,(np:Int),i,es,R,now,nr,nt,nk,ne,ac,rs.length,es.length,ofNat 0,ofNat 0,ofNat 0,ofNat 0,ofNat 0,({data:= #[]}:ByteArray),ofNat 0,P,())
abbrev ta2 (i d:Int) (R:List aj) (nk ne:Int) (E:List aK):=(d,np,(np:Int),i,R,now,nr,nt,nk,ne,ac,rs.length,E.length,ofNat 0,ofNat 0,ofNat 0,ofNat 0,ofNat 0,({data:= #[]}:ByteArray),ofNat 0,P,E,())
abbrev ena (i:Int) (x:Int×List aj×Int×Int×Option (List aK)):Dom df:=match x with
 |(d,R,nk,ne,none)=>.inr (.inl (ta1 np rs es P now nr nt ac i d R nk ne))
 |(d,R,nk,ne,some E)=>.inr (.inr (ta2 np rs P now nr nt ac i d R nk ne E))
def Iva (nk ne:Int) (i:Nat) (x:Int×List aj×Int×Int×Option (List aK)):Prop:=∃w,TkN now P (ofNat 0,rs,nk,ne,[]) i (x.1,x.2.1,x.2.2.1,x.2.2.2.1,w)∧((w= []∧x.2.2.2.2=none)∨x.2.2.2.2=some (es++w))
theorem ab1 (hnp:np≤16) (hP:np≤P.length) (nk ne:Int) (hx:SX now nr nt nk ne ac rs (es++ [])) (hk:nk≤1099511627676) (he:ne≤1099511627676) (he4:es.length≤40) (hp:∀p∈P,p∈pl rs now):
  ∃y,dX (ena np rs es P now nr nt ac ((0:Nat):Int) (ofNat 0,rs,nk,ne,none))=some y∧∃d R nk' ne' w,TkN now P (ofNat 0,rs,nk,ne,[]) np (d,R,nk',ne',w)∧((w= []∧y= .inr (.inl (d,es,R,now,nr,nt,nk',ne',ac,rs.length,es.length,ofNat 0,ofNat 0,ofNat 0,ofNat 0,ofNat 0,({data:= #[]}:ByteArray),ofNat 0,P,())))∨y= .inr (.inr (d,R,now,nr,nt,nk',ne',ac,rs.length,(es++w).length,ofNat 0,ofNat 0,ofNat 0,ofNat 0,ofNat 0,({data:= #[]}:ByteArray),ofNat 0,P,(es++w),()))):=by
 have h32:=hx.fine.1
 have hf:=hx.fine
 refine aS (st:=df) np (fun i (x:Int×List aj×Int×Int×Option (List aK))=>ena np rs es P now nr nt ac (i:Int) x) (Iva rs es P now nk ne) (fun y=>∃d R nk' ne' w,TkN now P (ofNat 0,rs,nk,ne,[]) np (d,R,nk',ne',w)∧((w= []∧y= .inr (.inl (d,es,R,now,nr,nt,nk',ne',ac,rs.length,es.length,ofNat 0,ofNat 0,ofNat 0,ofNat 0,ofNat 0,({data:= #[]}:ByteArray),ofNat 0,P,())))∨y= .inr (.inr (d,R,now,nr,nt,nk',ne',ac,rs.length,(es++w).length,ofNat 0,ofNat 0,ofNat 0,ofNat 0,ofNat 0,({data:= #[]}:ByteArray),ofNat 0,P,(es++w),())))) (fun i x h hx2=>.inl ?_) (fun x hx2=> ?_) (ofNat 0,rs,nk,ne,none) ⟨[],.zero,.inl ⟨rfl,rfl⟩⟩
 ·obtain⟨d,R,nk1,ne1,o⟩:=x
  obtain⟨w,hN,ho⟩:=hx2
  simp only at hN ho
  obtain⟨q1,q2,q3,q4,q5,q6⟩:=uN (es:=es) (x:=(ofNat 0,rs,nk,ne,[])) hx i _ hN (by simp only;omega) (by simp only;omega)
  obtain⟨hs,q7,q8⟩:=ir i _ hN
  simp only [length_nil,bi]at q1 q2 q3 q4 q5 q6 hs q7 q8
  have hg:=q1.fine
  have hPi:i<P.length:=by omega
  have hpp:=hp _ (aC hPi (aa aw))
  have hT:take rs.length (drop 0 R)=R:=by rw [←hs.len];exact fw R
  have hle:rs.length≤R.length:=by rw [hs.len];omega
  have ek:IntKind.i64.wrap ((i:Int)+ofNat 1)=((i+1:Nat):Int):=tJ (by omega) (by omega)
  have hwd:IntKind.i64.wrap (d+ofNat 1)=d+1:=ff (by omega) (by omega)
  have hwk:IntKind.i64.wrap (nk1+ofNat 1)=nk1+1:=ff q1.nkI.1 q1.nkI.2
  have hwe:IntKind.i64.wrap (ne1+ofNat 1)=ne1+1:=ff (by have:=q1.neI.1;omega) q1.neI.2
  have hok:∀r∈R,bH r:=fun r hr=>by
   obtain⟨j,hj,rfl⟩:=List.mem_iff_getElem.1 hr
   rw [←bG hj (aa ab)]
   exact px (q1.rok hj)
  obtain⟨fi,b,e,hfi,hq⟩:=bU R (by rw [hs.len];omega) hok (P.getD i (aa aw)).1
  have stp:=fun z=>TkN.step (now:=now) (P:=P) (x:=(ofNat 0,rs,nk,ne,[])) i (d,R,nk1,ne1,w) z hN
  generalize hgp:P.getD i (aa aw)=p at hfi hq hpp stp
  have skipN:(∀n k:Nat,n<R.length→(R.getD n (aa ab)).1=p.1→p.2.1=k→k<(aZ R n).length→dZ ((aZ R n).getD k (aa ae)) now=false)→Iva rs es P now nk ne (i+1) (d,R,nk1,ne1,o):=fun hsk=>⟨w,stp _ (.skip d R nk1 ne1 w hsk),ho⟩
  cases o with
  |none=>
   obtain rfl:w= []:=by
    rcases ho with⟨h,_⟩|h
    ·exact h
    ·cases h
   have hT2:=fw es
   simp only [df,kz,jh,bw h,aM h,cond_true,zero_add,toNat_natCast,decide_eq_true hPi,decide_eq_true hle,hT,hgp,hfi,bind_some]
   rcases hq with⟨_,_,hq⟩|⟨_,_,⟨rfl,n,rfl,hn,hid⟩|⟨rfl,hno⟩⟩
   ·exact absurd hg hq
   ·obtain⟨k,hk,hkl⟩:=vA hs hf hpp hn hid
    have hn':n<rs.length:=hs.len▸hn
    simp only [Bool.not_true,cond_false,aM hn',aF hn,cond_true,toNat_natCast,zero_add,hk,aM hkl,aF hkl,f176,bind_some,length_set,ek]
    cases hdu:dZ (getD (R.getD n (aa ab)).2.2.2.2.1 k (aa ae)) now with
    |false=>
     simp only [Bool.not_false,cond_true]
     exact⟨(d,R,nk1,ne1,none),rfl,skipN fun n2 k2 hn2 hid2 hk2 hkl2=>by
      obtain rfl:=yI hg hn hn2 (hid.trans hid2.symm)
      obtain rfl:k=k2:=by omega
      exact hdu⟩
    |true=>
     simp only [Bool.not_true,cond_false]
     by_cases h3:(getD (R.getD n (aa ab)).2.2.2.2.1 k (aa ae)).1=3
     ·obtain⟨r',hw,hT3⟩:=vy (R.getD n (aa ab)) (q1.rok hn) k nk1 now hkl h3 hdu q1.nkI q1.ckI
      have hw:mZ (((R.getD n (aa ab)).1,(R.getD n (aa ab)).2.1,(R.getD n (aa ab)).2.2.1,(R.getD n (aa ab)).2.2.2.1,(R.getD n (aa ab)).2.2.2.2.1,()),(k:Int),nk1,now,())=some (r',0,()):=hw
      rw [show((getD (R.getD n (aa ab)).2.2.2.2.1 k (aa ae)).1==ofNat 3)=true by rw [h3];rfl,cond_true]
      simp only [hw,bind_some,hwd,hwk,length_set]
      exact⟨(d+1,R.set n r',nk1+1,ne1,none),rfl,_,stp _ (.wake d R nk1 ne1 _ n k r' hn hid hk hkl hdu h3 hT3),ho⟩
     ·have h2:(getD (R.getD n (aa ab)).2.2.2.2.1 k (aa ae)).1=2:=by
       have:=(yF hdu).1
       omega
      obtain⟨r',t',hl,hfl,hT3⟩:=qC (R.getD n (aa ab)) (q1.rok hn) k now hkl h2 hdu q1.ckI
      have hl:na (((R.getD n (aa ab)).1,(R.getD n (aa ab)).2.1,(R.getD n (aa ab)).2.2.1,(R.getD n (aa ab)).2.2.2.1,(R.getD n (aa ab)).2.2.2.2.1,()),(k:Int),now,())=some (r',0,()):=hl
      rw [show((getD (R.getD n (aa ab)).2.2.2.2.1 k (aa ae)).1==ofNat 3)=false by rw [h2];rfl,cond_false]
      have hgd:(R.set n r').getD n (aa ab)=r':=by rw [dc hn,if_pos rfl]
      have h1:=ch (show es.length≤60 by omega) (show 1≤60 by omega)
      simp only [hl,bind_some,length_set,hgd,aF hn,cond_true]
      by_cases c3:r'.2.2.2.1=3
      ·rw [show(r'.2.2.2.1==ofNat 3)=true by simpa using c3]
       simp only [Nat.le_refl,decide_true,cond_true,hT2,bj,ce,length_singleton,h1,cond_true,hwd,hwe]
       exact⟨(d+1,R.set n r',nk1,ne1+1,some (es++ [(ne1,ofNat 5,r'.1,ofNat 0,())])),rfl,_,stp _ (.lapse d R nk1 ne1 _ n k t' r' hn hid hk hkl hdu h2 hfl hT3),.inr (by simp [cX,c3])⟩
      ·rw [show(r'.2.2.2.1==ofNat 3)=false by simpa using c3]
       simp only [Nat.le_refl,decide_true,cond_true,hT2,bj,ce,length_singleton,h1,cond_false,hwd,hwe]
       exact⟨(d+1,R.set n r',nk1,ne1+1,some (es++ [(ne1,ofNat 3,r'.1,(k:Int),())])),rfl,_,stp _ (.lapse d R nk1 ne1 _ n k t' r' hn hid hk hkl hdu h2 hfl hT3),.inr (by simp [cX,c3])⟩
   ·simp only [Bool.not_false,cond_true,ek]
    exact⟨(d,R,nk1,ne1,none),rfl,skipN fun n2 k2 hn2 hid2 _ _=>absurd hid2 (hno n2 hn2)⟩
  |some E=>
   obtain rfl:E=(es++w):=by
    rcases ho with⟨_,h⟩|h
    ·cases h
    ·exact Option.some.inj h
   have hT2:=fw (es++w)
   simp only [df,kA,ji,bw h,aM h,cond_true,zero_add,toNat_natCast,decide_eq_true hPi,decide_eq_true hle,hT,hgp,hfi,bind_some]
   rcases hq with⟨_,_,hq⟩|⟨_,_,⟨rfl,n,rfl,hn,hid⟩|⟨rfl,hno⟩⟩
   ·exact absurd hg hq
   ·obtain⟨k,hk,hkl⟩:=vA hs hf hpp hn hid
    have hn':n<rs.length:=hs.len▸hn
    simp only [Bool.not_true,cond_false,aM hn',aF hn,cond_true,toNat_natCast,zero_add,hk,aM hkl,aF hkl,f176,bind_some,length_set,ek]
    cases hdu:dZ (getD (R.getD n (aa ab)).2.2.2.2.1 k (aa ae)) now with
    |false=>
     simp only [Bool.not_false,cond_true]
     exact⟨(d,R,nk1,ne1,some (es++w)),rfl,skipN fun n2 k2 hn2 hid2 hk2 hkl2=>by
      obtain rfl:=yI hg hn hn2 (hid.trans hid2.symm)
      obtain rfl:k=k2:=by omega
      exact hdu⟩
    |true=>
     simp only [Bool.not_true,cond_false]
     by_cases h3:(getD (R.getD n (aa ab)).2.2.2.2.1 k (aa ae)).1=3
     ·obtain⟨r',hw,hT3⟩:=vy (R.getD n (aa ab)) (q1.rok hn) k nk1 now hkl h3 hdu q1.nkI q1.ckI
      have hw:mZ (((R.getD n (aa ab)).1,(R.getD n (aa ab)).2.1,(R.getD n (aa ab)).2.2.1,(R.getD n (aa ab)).2.2.2.1,(R.getD n (aa ab)).2.2.2.2.1,()),(k:Int),nk1,now,())=some (r',0,()):=hw
      rw [show((getD (R.getD n (aa ab)).2.2.2.2.1 k (aa ae)).1==ofNat 3)=true by rw [h3];rfl,cond_true]
      simp only [hw,bind_some,hwd,hwk,length_set]
      exact⟨(d+1,R.set n r',nk1+1,ne1,some (es++w)),rfl,_,stp _ (.wake d R nk1 ne1 _ n k r' hn hid hk hkl hdu h3 hT3),ho⟩
     ·have h2:(getD (R.getD n (aa ab)).2.2.2.2.1 k (aa ae)).1=2:=by
       have:=(yF hdu).1
       omega
      obtain⟨r',t',hl,hfl,hT3⟩:=qC (R.getD n (aa ab)) (q1.rok hn) k now hkl h2 hdu q1.ckI
      have hl:na (((R.getD n (aa ab)).1,(R.getD n (aa ab)).2.1,(R.getD n (aa ab)).2.2.1,(R.getD n (aa ab)).2.2.2.1,(R.getD n (aa ab)).2.2.2.2.1,()),(k:Int),now,())=some (r',0,()):=hl
      rw [show((getD (R.getD n (aa ab)).2.2.2.2.1 k (aa ae)).1==ofNat 3)=false by rw [h2];rfl,cond_false]
      have hgd:(R.set n r').getD n (aa ab)=r':=by rw [dc hn,if_pos rfl]
      have h1:=ch (show(es++w).length≤60 by rw [length_append];omega) (show 1≤60 by omega)
      simp only [hl,bind_some,length_set,hgd,aF hn,cond_true]
      by_cases c3:r'.2.2.2.1=3
      ·rw [show(r'.2.2.2.1==ofNat 3)=true by simpa using c3]
       simp only [Nat.le_refl,decide_true,cond_true,hT2,bj,ce,length_singleton,h1,cond_true,hwd,hwe]
       exact⟨(d+1,R.set n r',nk1,ne1+1,some ((es++w)++ [(ne1,ofNat 5,r'.1,ofNat 0,())])),rfl,_,stp _ (.lapse d R nk1 ne1 _ n k t' r' hn hid hk hkl hdu h2 hfl hT3),.inr (by simp [cX,c3])⟩
      ·rw [show(r'.2.2.2.1==ofNat 3)=false by simpa using c3]
       simp only [Nat.le_refl,decide_true,cond_true,hT2,bj,ce,length_singleton,h1,cond_false,hwd,hwe]
       exact⟨(d+1,R.set n r',nk1,ne1+1,some ((es++w)++ [(ne1,ofNat 3,r'.1,(k:Int),())])),rfl,_,stp _ (.lapse d R nk1 ne1 _ n k t' r' hn hid hk hkl hdu h2 hfl hT3),.inr (by simp [cX,c3])⟩
   ·simp only [Bool.not_false,cond_true,ek]
    exact⟨(d,R,nk1,ne1,some (es++w)),rfl,skipN fun n2 k2 hn2 hid2 _ _=>absurd hid2 (hno n2 hn2)⟩
 ·obtain⟨d,R,nk1,ne1,o⟩:=x
  obtain⟨w,hN,ho⟩:=hx2
  simp only at hN ho
  cases o with
  |none=>
   rcases ho with⟨hw,_⟩|h
   ·exact⟨.inr (.inl (d,es,R,now,nr,nt,nk1,ne1,ac,rs.length,es.length,ofNat 0,ofNat 0,ofNat 0,ofNat 0,ofNat 0,({data:= #[]}:ByteArray),ofNat 0,P,())),by simp only [df,kz,jh,bt,cond_false],d,R,nk1,ne1,w,hN,.inl ⟨hw,rfl⟩⟩
   ·cases h
  |some E=>
   obtain rfl:E=(es++w):=by
    rcases ho with⟨_,h⟩|h
    ·cases h
    ·exact Option.some.inj h
   exact⟨.inr (.inr (d,R,now,nr,nt,nk1,ne1,ac,rs.length,(es++w).length,ofNat 0,ofNat 0,ofNat 0,ofNat 0,ofNat 0,({data:= #[]}:ByteArray),ofNat 0,P,(es++w),())),by simp only [df,kA,ji,bt,cond_false],d,R,nk1,ne1,w,hN,.inr rfl⟩
end
section
variable (np:Nat) (rs:List aj) (P:List cq) (now nr nt ac:Int)
abbrev tb1 (i d:Int) (R:List aj) (nk ne:Int):=(d,np,(np:Int),i,R,now,nr,nt,nk,ne,ac,rs.length,ofNat 0,ofNat 0,ofNat 0,ofNat 0,ofNat 0,({data:= #[]}:ByteArray),ofNat 0,P,())
abbrev tb2 (i d:Int) (R:List aj) (nk ne:Int) (E:List aK):=(d,np,(np:Int),i,R,now,nr,nt,nk,ne,ac,rs.length,E.length,ofNat 0,ofNat 0,ofNat 0,ofNat 0,ofNat 0,({data:= #[]}:ByteArray),ofNat 0,P,E,())
abbrev enb (i:Int) (x:Int×List aj×Int×Int×Option (List aK)):Dom dg:=match x with
 |(d,R,nk,ne,none)=>.inr (.inl (tb1 np rs P now nr nt ac i d R nk ne))
 |(d,R,nk,ne,some E)=>.inr (.inr (tb2 np rs P now nr nt ac i d R nk ne E))
def Ivb (nk ne:Int) (i:Nat) (x:Int×List aj×Int×Int×Option (List aK)):Prop:=∃w,TkN now P (ofNat 0,rs,nk,ne,[]) i (x.1,x.2.1,x.2.2.1,x.2.2.2.1,w)∧((w= []∧x.2.2.2.2=none)∨x.2.2.2.2=some w)
theorem ab2 (hnp:np≤16) (hP:np≤P.length) (nk ne:Int) (hx:SX now nr nt nk ne ac rs (([]:List aK)++ [])) (hk:nk≤1099511627676) (he:ne≤1099511627676) (hp:∀p∈P,p∈pl rs now):
  ∃y,dY (enb np rs P now nr nt ac ((0:Nat):Int) (ofNat 0,rs,nk,ne,none))=some y∧∃d R nk' ne' w,TkN now P (ofNat 0,rs,nk,ne,[]) np (d,R,nk',ne',w)∧((w= []∧y= .inr (.inl (d,R,now,nr,nt,nk',ne',ac,rs.length,ofNat 0,ofNat 0,ofNat 0,ofNat 0,ofNat 0,({data:= #[]}:ByteArray),ofNat 0,P,())))∨y= .inr (.inr (d,R,now,nr,nt,nk',ne',ac,rs.length,w.length,ofNat 0,ofNat 0,ofNat 0,ofNat 0,ofNat 0,({data:= #[]}:ByteArray),ofNat 0,P,w,()))):=by
 have h32:=hx.fine.1
 have hf:=hx.fine
 refine aS (st:=dg) np (fun i (x:Int×List aj×Int×Int×Option (List aK))=>enb np rs P now nr nt ac (i:Int) x) (Ivb rs P now nk ne) (fun y=>∃d R nk' ne' w,TkN now P (ofNat 0,rs,nk,ne,[]) np (d,R,nk',ne',w)∧((w= []∧y= .inr (.inl (d,R,now,nr,nt,nk',ne',ac,rs.length,ofNat 0,ofNat 0,ofNat 0,ofNat 0,ofNat 0,({data:= #[]}:ByteArray),ofNat 0,P,())))∨y= .inr (.inr (d,R,now,nr,nt,nk',ne',ac,rs.length,w.length,ofNat 0,ofNat 0,ofNat 0,ofNat 0,ofNat 0,({data:= #[]}:ByteArray),ofNat 0,P,w,())))) (fun i x h hx2=>.inl ?_) (fun x hx2=> ?_) (ofNat 0,rs,nk,ne,none) ⟨[],.zero,.inl ⟨rfl,rfl⟩⟩
 ·obtain⟨d,R,nk1,ne1,o⟩:=x
  obtain⟨w,hN,ho⟩:=hx2
  simp only at hN ho
  obtain⟨q1,q2,q3,q4,q5,q6⟩:=uN (es:=([]:List aK)) (x:=(ofNat 0,rs,nk,ne,[])) hx i _ hN (by simp only;omega) (by simp only;omega)
  obtain⟨hs,q7,q8⟩:=ir i _ hN
  simp only [length_nil,bi]at q1 q2 q3 q4 q5 q6 hs q7 q8
  have hg:=q1.fine
  have hPi:i<P.length:=by omega
  have hpp:=hp _ (aC hPi (aa aw))
  have hT:take rs.length (drop 0 R)=R:=by rw [←hs.len];exact fw R
  have hle:rs.length≤R.length:=by rw [hs.len];omega
  have ek:IntKind.i64.wrap ((i:Int)+ofNat 1)=((i+1:Nat):Int):=tJ (by omega) (by omega)
  have hwd:IntKind.i64.wrap (d+ofNat 1)=d+1:=ff (by omega) (by omega)
  have hwk:IntKind.i64.wrap (nk1+ofNat 1)=nk1+1:=ff q1.nkI.1 q1.nkI.2
  have hwe:IntKind.i64.wrap (ne1+ofNat 1)=ne1+1:=ff (by have:=q1.neI.1;omega) q1.neI.2
  have hok:∀r∈R,bH r:=fun r hr=>by
   obtain⟨j,hj,rfl⟩:=List.mem_iff_getElem.1 hr
   rw [←bG hj (aa ab)]
   exact px (q1.rok hj)
  obtain⟨fi,b,e,hfi,hq⟩:=bU R (by rw [hs.len];omega) hok (P.getD i (aa aw)).1
  have stp:=fun z=>TkN.step (now:=now) (P:=P) (x:=(ofNat 0,rs,nk,ne,[])) i (d,R,nk1,ne1,w) z hN
  generalize hgp:P.getD i (aa aw)=p at hfi hq hpp stp
  have skipN:(∀n k:Nat,n<R.length→(R.getD n (aa ab)).1=p.1→p.2.1=k→k<(aZ R n).length→dZ ((aZ R n).getD k (aa ae)) now=false)→Ivb rs P now nk ne (i+1) (d,R,nk1,ne1,o):=fun hsk=>⟨w,stp _ (.skip d R nk1 ne1 w hsk),ho⟩
  cases o with
  |none=>
   obtain rfl:w= []:=by
    rcases ho with⟨h,_⟩|h
    ·exact h
    ·cases h
   simp only [dg,kB,jj,bw h,aM h,cond_true,zero_add,toNat_natCast,decide_eq_true hPi,decide_eq_true hle,hT,hgp,hfi,bind_some]
   rcases hq with⟨_,_,hq⟩|⟨_,_,⟨rfl,n,rfl,hn,hid⟩|⟨rfl,hno⟩⟩
   ·exact absurd hg hq
   ·obtain⟨k,hk,hkl⟩:=vA hs hf hpp hn hid
    have hn':n<rs.length:=hs.len▸hn
    simp only [Bool.not_true,cond_false,aM hn',aF hn,cond_true,toNat_natCast,zero_add,hk,aM hkl,aF hkl,f176,bind_some,length_set,ek]
    cases hdu:dZ (getD (R.getD n (aa ab)).2.2.2.2.1 k (aa ae)) now with
    |false=>
     simp only [Bool.not_false,cond_true]
     exact⟨(d,R,nk1,ne1,none),rfl,skipN fun n2 k2 hn2 hid2 hk2 hkl2=>by
      obtain rfl:=yI hg hn hn2 (hid.trans hid2.symm)
      obtain rfl:k=k2:=by omega
      exact hdu⟩
    |true=>
     simp only [Bool.not_true,cond_false]
     by_cases h3:(getD (R.getD n (aa ab)).2.2.2.2.1 k (aa ae)).1=3
     ·obtain⟨r',hw,hT3⟩:=vy (R.getD n (aa ab)) (q1.rok hn) k nk1 now hkl h3 hdu q1.nkI q1.ckI
      have hw:mZ (((R.getD n (aa ab)).1,(R.getD n (aa ab)).2.1,(R.getD n (aa ab)).2.2.1,(R.getD n (aa ab)).2.2.2.1,(R.getD n (aa ab)).2.2.2.2.1,()),(k:Int),nk1,now,())=some (r',0,()):=hw
      rw [show((getD (R.getD n (aa ab)).2.2.2.2.1 k (aa ae)).1==ofNat 3)=true by rw [h3];rfl,cond_true]
      simp only [hw,bind_some,hwd,hwk,length_set]
      exact⟨(d+1,R.set n r',nk1+1,ne1,none),rfl,_,stp _ (.wake d R nk1 ne1 _ n k r' hn hid hk hkl hdu h3 hT3),ho⟩
     ·have h2:(getD (R.getD n (aa ab)).2.2.2.2.1 k (aa ae)).1=2:=by
       have:=(yF hdu).1
       omega
      obtain⟨r',t',hl,hfl,hT3⟩:=qC (R.getD n (aa ab)) (q1.rok hn) k now hkl h2 hdu q1.ckI
      have hl:na (((R.getD n (aa ab)).1,(R.getD n (aa ab)).2.1,(R.getD n (aa ab)).2.2.1,(R.getD n (aa ab)).2.2.2.1,(R.getD n (aa ab)).2.2.2.2.1,()),(k:Int),now,())=some (r',0,()):=hl
      rw [show((getD (R.getD n (aa ab)).2.2.2.2.1 k (aa ae)).1==ofNat 3)=false by rw [h2];rfl,cond_false]
      have hgd:(R.set n r').getD n (aa ab)=r':=by rw [dc hn,if_pos rfl]
      simp only [hl,bind_some,length_set,hgd,aF hn,cond_true]
      by_cases c3:r'.2.2.2.1=3
      ·rw [show(r'.2.2.2.1==ofNat 3)=true by simpa using c3]
       simp only [bj,ce,length_singleton,cond_true,hwd,hwe]
       exact⟨(d+1,R.set n r',nk1,ne1+1,some ([(ne1,ofNat 5,r'.1,ofNat 0,())])),rfl,_,stp _ (.lapse d R nk1 ne1 _ n k t' r' hn hid hk hkl hdu h2 hfl hT3),.inr (by simp [cX,c3])⟩
      ·rw [show(r'.2.2.2.1==ofNat 3)=false by simpa using c3]
       simp only [bj,ce,length_singleton,cond_false,hwd,hwe]
       exact⟨(d+1,R.set n r',nk1,ne1+1,some ([(ne1,ofNat 3,r'.1,(k:Int),())])),rfl,_,stp _ (.lapse d R nk1 ne1 _ n k t' r' hn hid hk hkl hdu h2 hfl hT3),.inr (by simp [cX,c3])⟩
   ·simp only [Bool.not_false,cond_true,ek]
    exact⟨(d,R,nk1,ne1,none),rfl,skipN fun n2 k2 hn2 hid2 _ _=>absurd hid2 (hno n2 hn2)⟩
  |some E=>
   obtain rfl:w=E:=by
    rcases ho with⟨_,h⟩|h
    ·cases h
    ·exact(Option.some.inj h).symm
   have hT2:=fw w
   simp only [dg,kC,jk,bw h,aM h,cond_true,zero_add,toNat_natCast,decide_eq_true hPi,decide_eq_true hle,hT,hgp,hfi,bind_some]
   rcases hq with⟨_,_,hq⟩|⟨_,_,⟨rfl,n,rfl,hn,hid⟩|⟨rfl,hno⟩⟩
   ·exact absurd hg hq
   ·obtain⟨k,hk,hkl⟩:=vA hs hf hpp hn hid
    have hn':n<rs.length:=hs.len▸hn
    simp only [Bool.not_true,cond_false,aM hn',aF hn,cond_true,toNat_natCast,zero_add,hk,aM hkl,aF hkl,f176,bind_some,length_set,ek]
    cases hdu:dZ (getD (R.getD n (aa ab)).2.2.2.2.1 k (aa ae)) now with
    |false=>
     simp only [Bool.not_false,cond_true]
     exact⟨(d,R,nk1,ne1,some w),rfl,skipN fun n2 k2 hn2 hid2 hk2 hkl2=>by
      obtain rfl:=yI hg hn hn2 (hid.trans hid2.symm)
      obtain rfl:k=k2:=by omega
      exact hdu⟩
    |true=>
     simp only [Bool.not_true,cond_false]
     by_cases h3:(getD (R.getD n (aa ab)).2.2.2.2.1 k (aa ae)).1=3
     ·obtain⟨r',hw,hT3⟩:=vy (R.getD n (aa ab)) (q1.rok hn) k nk1 now hkl h3 hdu q1.nkI q1.ckI
      have hw:mZ (((R.getD n (aa ab)).1,(R.getD n (aa ab)).2.1,(R.getD n (aa ab)).2.2.1,(R.getD n (aa ab)).2.2.2.1,(R.getD n (aa ab)).2.2.2.2.1,()),(k:Int),nk1,now,())=some (r',0,()):=hw
      rw [show((getD (R.getD n (aa ab)).2.2.2.2.1 k (aa ae)).1==ofNat 3)=true by rw [h3];rfl,cond_true]
      simp only [hw,bind_some,hwd,hwk,length_set]
      exact⟨(d+1,R.set n r',nk1+1,ne1,some w),rfl,_,stp _ (.wake d R nk1 ne1 _ n k r' hn hid hk hkl hdu h3 hT3),ho⟩
     ·have h2:(getD (R.getD n (aa ab)).2.2.2.2.1 k (aa ae)).1=2:=by
       have:=(yF hdu).1
       omega
      obtain⟨r',t',hl,hfl,hT3⟩:=qC (R.getD n (aa ab)) (q1.rok hn) k now hkl h2 hdu q1.ckI
      have hl:na (((R.getD n (aa ab)).1,(R.getD n (aa ab)).2.1,(R.getD n (aa ab)).2.2.1,(R.getD n (aa ab)).2.2.2.1,(R.getD n (aa ab)).2.2.2.2.1,()),(k:Int),now,())=some (r',0,()):=hl
      rw [show((getD (R.getD n (aa ab)).2.2.2.2.1 k (aa ae)).1==ofNat 3)=false by rw [h2];rfl,cond_false]
      have hgd:(R.set n r').getD n (aa ab)=r':=by rw [dc hn,if_pos rfl]
      have h1:=ch (show w.length≤60 by omega) (show 1≤60 by omega)
      simp only [hl,bind_some,length_set,hgd,aF hn,cond_true]
      by_cases c3:r'.2.2.2.1=3
      ·rw [show(r'.2.2.2.1==ofNat 3)=true by simpa using c3]
       simp only [Nat.le_refl,decide_true,cond_true,hT2,bj,ce,length_singleton,h1,cond_true,hwd,hwe]
       exact⟨(d+1,R.set n r',nk1,ne1+1,some (w++ [(ne1,ofNat 5,r'.1,ofNat 0,())])),rfl,_,stp _ (.lapse d R nk1 ne1 _ n k t' r' hn hid hk hkl hdu h2 hfl hT3),.inr (by simp [cX,c3])⟩
      ·rw [show(r'.2.2.2.1==ofNat 3)=false by simpa using c3]
       simp only [Nat.le_refl,decide_true,cond_true,hT2,bj,ce,length_singleton,h1,cond_false,hwd,hwe]
       exact⟨(d+1,R.set n r',nk1,ne1+1,some (w++ [(ne1,ofNat 3,r'.1,(k:Int),())])),rfl,_,stp _ (.lapse d R nk1 ne1 _ n k t' r' hn hid hk hkl hdu h2 hfl hT3),.inr (by simp [cX,c3])⟩
   ·simp only [Bool.not_false,cond_true,ek]
    exact⟨(d,R,nk1,ne1,some w),rfl,skipN fun n2 k2 hn2 hid2 _ _=>absurd hid2 (hno n2 hn2)⟩
 ·obtain⟨d,R,nk1,ne1,o⟩:=x
  obtain⟨w,hN,ho⟩:=hx2
  simp only at hN ho
  cases o with
  |none=>
   rcases ho with⟨hw,_⟩|h
   ·exact⟨.inr (.inl (d,R,now,nr,nt,nk1,ne1,ac,rs.length,ofNat 0,ofNat 0,ofNat 0,ofNat 0,ofNat 0,({data:= #[]}:ByteArray),ofNat 0,P,())),by simp only [dg,kB,jj,bt,cond_false],d,R,nk1,ne1,w,hN,.inl ⟨hw,rfl⟩⟩
   ·cases h
  |some E=>
   obtain rfl:w=E:=by
    rcases ho with⟨_,h⟩|h
    ·cases h
    ·exact(Option.some.inj h).symm
   exact⟨.inr (.inr (d,R,now,nr,nt,nk1,ne1,ac,rs.length,w.length,ofNat 0,ofNat 0,ofNat 0,ofNat 0,ofNat 0,({data:= #[]}:ByteArray),ofNat 0,P,w,())),by simp only [dg,kC,jk,bt,cond_false],d,R,nk1,ne1,w,hN,.inr rfl⟩
end
theorem yJ (rs:List aj) (hm:rs.length≤9223372036854775807) (hr:∀r∈rs,bH r) (hf:eL rs) (now:Int) (hn:bW now):
  ∃(l:List cq) (e:Int),wH (rs,now,())=some (l,e,())∧l.Perm (pl rs now)∧Qd l:=by
 obtain⟨v,hv,hc⟩:=f51 rs hm hr
 rcases hc with⟨h1,_⟩|⟨_,h2,_⟩|⟨_,rfl⟩
 ·have:=hf.1;omega
 ·exact absurd hf.2 h2
 ·obtain⟨S,h1,h2,h3⟩:=f175 rs now hf.1 (afy hf)
  obtain⟨n1,n2⟩:=hn
  simp only [wH,hv,bind_some,ny,cond_false,decide_eq_false (show¬now<ofNat 0 by simp only [bi];omega),decide_eq_false (show¬now>ofNat 1099511627776 by simp only [bi];omega),h1]
  cases S with
  |nil=>exact⟨_,_,rfl,h2,h3⟩
  |cons a m=>
   simp only [isEmpty_cons,cond_false,fw,zero_add,Nat.le_refl,decide_true,cond_true]
   exact⟨_,_,rfl,h2,h3⟩
theorem iz {ck nr nt nk ne ac:Int} {rs:List aj} {es:List aK} {c:bm} {R2:List aj} {E:List aK} {l:List cq} {d:Int} {R:List aj} {nk' ne':Int} {w:List aK} (hk:c.1=7) (hf:Fresh nr nt nk ne) (h1:¬c.2.2.2.2.2.2.2.1<ck) (h2:¬c.2.2.2.2.2.2.2.1>ofNat 1099511627776) (hl:l.Perm (pl rs c.2.2.2.2.2.2.2.1)) (hs:Qd l) (hN:TkN c.2.2.2.2.2.2.2.1 l (ofNat 0,rs,nk,ne,[]) (min 16 l.length) (d,R,nk',ne',w)) (hR:R2=R) (hE:E=es++w) (h40:E.length≤40):
  bA ck nr nt nk ne ac rs es c (mk c.2.2.2.2.2.2.2.1 nr nt nk' ne' ac R2 E) (jw (ofNat 0) d (ofNat 0)):=by
 subst hR hE;exact⟨.tick l d R2 nk' ne' w hk hf (by omega) (by simp only [bi]at h2;omega) hl hs hN,h40⟩
theorem YU {ck nr nt nk ne ac:Int} {rs:List aj} {es:List aK} (h:SOk (mk ck nr nt nk ne ac rs es)) (hr:∀r∈rs,bH r) (hR:isEmpty rs=false) (hE:isEmpty es=false) (c:bm) (hfr:Fresh nr nt nk ne) (hk:c.1=7):
  ∃t r,xO ((mk ck nr nt nk ne ac rs es),c,())=some (t,r,())∧bA ck nr nt nk ne ac rs es c t r:=by
 have h25:=aX h
 have hf:=h.fine
 have he:=h.ev40
 have hck:0≤ck∧ck≤1099511627776:=h.ck
 have hsx:=vw h
 simp only [mk]at h25 hf he
 have h32:=hf.1
 have E:=nG h hR hE
 simp only [mk]at E
 simp only [xO,mk,h25,bind_some,hR,hE,isEmpty_nil,cond_false,zero_add,Nat.le_refl,decide_true,cond_true,bj,ce,E]
 by_cases c1:c.2.2.2.2.2.2.2.1<ck
 ·rw [decide_eq_true c1,cond_true];exact⟨_,_,rfl,ao h 1⟩
 rw [decide_eq_false c1,cond_false]
 by_cases c2:c.2.2.2.2.2.2.2.1>ofNat 1099511627776
 ·rw [decide_eq_true c2,cond_true];exact⟨_,_,rfl,ao h 1⟩
 rw [decide_eq_false c2,cond_false]
 have hTo:bW c.2.2.2.2.2.2.2.1:=⟨by omega,by simp only [bi]at c2;omega⟩
 obtain⟨l,e,hdue,hperm,hsrt⟩:=yJ rs (by omega) hr hf c.2.2.2.2.2.2.2.1 hTo
 simp only [hdue,bind_some]
 have h0:dX (.inl (ofNat 0,0,ofNat 0,es,rs,c.2.2.2.2.2.2.2.1,nr,nt,nk,ne,ac,rs.length,es.length,ofNat 0,ofNat 0,ofNat 0,ofNat 0,ofNat 0,({data:= #[]}:ByteArray),ofNat 0,()))=some (.inl (ofNat 0,es,rs,c.2.2.2.2.2.2.2.1,nr,nt,nk,ne,ac,rs.length,es.length,ofNat 0,ofNat 0,ofNat 0,ofNat 0,ofNat 0,({data:= #[]}:ByteArray),ofNat 0,())):=by
  rw [dX,dW]
  rfl
 by_cases hl:l= []
 ·subst hl
  simp only [isEmpty_nil,cond_true,h0,bind_some]
  by_cases c40:(((es.length:Nat):Int)>ofNat 40)
  ·rw [decide_eq_true c40,cond_true];exact⟨_,_,rfl,ao h 8⟩
  ·rw [decide_eq_false c40,cond_false]
   try simp only [cond_false,zero_add,Nat.le_refl,decide_true,cond_true,drop_zero,take_length]
   exact⟨_,_,rfl,iz hk hfr c1 c2 hperm hsrt TkN.zero (by first|rfl|simp|exact hRR) (by simp) (by simp only [bi]at c40;omega)⟩
 ·have hle:isEmpty l=false:=by cases l with
   |nil=>exact absurd rfl hl
   |cons a m=>rfl
  have hmin:(if ofNat 16<((l.length:Nat):Int)then ofNat 16 else((l.length:Nat):Int))=((min 16 l.length:Nat):Int):=by
   simp only [bi]
   split<;>omega
  have hwi:ah (0:Int) ((min 16 l.length:Nat):Int) ((l.length:Nat):Int)=true:=by
   simp only [ah,Bool.and_eq_true,decide_eq_true_eq];omega
  have hsx2:SX c.2.2.2.2.2.2.2.1 nr nt nk ne ac rs (es++ []):=by
   rw [append_nil]
   exact⟨hsx.fine,hTo,hsx.nrI,hsx.nkI,hsx.ntI,hsx.neI,hsx.ack,hsx.elen,hsx.late,hsx.evs⟩
  obtain⟨y,hy,d,R,nk',ne',w,hN,hyq⟩:=ab1 (min 16 l.length) rs es l c.2.2.2.2.2.2.2.1 nr nt ac (by omega) (by omega) nk ne hsx2 hfr.nk hfr.ne he (fun p hp=>hperm.subset hp)
  have hy:dX (.inr (.inl (ofNat 0,min 16 l.length,((min 16 l.length:Nat):Int),ofNat 0,es,rs,c.2.2.2.2.2.2.2.1,nr,nt,nk,ne,ac,rs.length,es.length,ofNat 0,ofNat 0,ofNat 0,ofNat 0,ofNat 0,({data:= #[]}:ByteArray),ofNat 0,l,())))=some y:=hy
  simp only [hle,hmin,hwi,toNat_natCast,sub_zero,cond_true,cond_false,hy,bind_some]
  have hs:=(ir _ _ hN).1
  simp only at hs
  have hlR:rs.length≤R.length:=by rw [hs.len];omega
  have hRR:take rs.length R=R:=take_of_length_le (by rw [hs.len];omega)
  rcases hyq with⟨rfl,rfl⟩|rfl
  ·simp only []
   by_cases c40:(((es.length:Nat):Int)>ofNat 40)
   ·rw [decide_eq_true c40,cond_true];exact⟨_,_,rfl,ao h 8⟩
   ·rw [decide_eq_false c40,cond_false]
    try simp only [cond_false,zero_add,Nat.le_refl,decide_true,cond_true,drop_zero,take_length,decide_eq_true hlR,hRR]
    exact⟨_,_,rfl,iz hk hfr c1 c2 hperm hsrt hN (by first|rfl|simp|exact hRR) (by simp) (by simp only [bi]at c40;omega)⟩
  ·simp only []
   by_cases c40:((((es++w).length:Nat):Int)>ofNat 40)
   ·rw [decide_eq_true c40,cond_true];exact⟨_,_,rfl,ao h 8⟩
   ·rw [decide_eq_false c40,cond_false]
    try simp only [cond_false,zero_add,Nat.le_refl,decide_true,cond_true,drop_zero,take_length,decide_eq_true hlR,hRR]
    exact⟨_,_,rfl,iz hk hfr c1 c2 hperm hsrt hN (by first|rfl|simp|exact hRR) (by simp) (by simp only [bi]at c40;omega)⟩
theorem YV {ck nr nt nk ne ac:Int} {rs:List aj} (h:SOk (mk ck nr nt nk ne ac rs [])) (hr:∀r∈rs,bH r) (hR:isEmpty rs=false) (c:bm) (hfr:Fresh nr nt nk ne) (hk:c.1=7):
  ∃t r,xX ((mk ck nr nt nk ne ac rs []),c,())=some (t,r,())∧bA ck nr nt nk ne ac rs [] c t r:=by
 have h25:=aX h
 have hf:=h.fine
 have he:=h.ev40
 have hck:0≤ck∧ck≤1099511627776:=h.ck
 have hsx:=vw h
 simp only [mk]at h25 hf he
 have h32:=hf.1
 have E:=nH h hR
 simp only [mk]at E
 simp only [xX,mk,h25,bind_some,hR,isEmpty_nil,cond_false,zero_add,Nat.le_refl,decide_true,cond_true,bj,ce,E]
 by_cases c1:c.2.2.2.2.2.2.2.1<ck
 ·rw [decide_eq_true c1,cond_true];exact⟨_,_,rfl,ao h 1⟩
 rw [decide_eq_false c1,cond_false]
 by_cases c2:c.2.2.2.2.2.2.2.1>ofNat 1099511627776
 ·rw [decide_eq_true c2,cond_true];exact⟨_,_,rfl,ao h 1⟩
 rw [decide_eq_false c2,cond_false]
 have hTo:bW c.2.2.2.2.2.2.2.1:=⟨by omega,by simp only [bi]at c2;omega⟩
 obtain⟨l,e,hdue,hperm,hsrt⟩:=yJ rs (by omega) hr hf c.2.2.2.2.2.2.2.1 hTo
 simp only [hdue,bind_some]
 have h0:dY (.inl (ofNat 0,0,ofNat 0,rs,c.2.2.2.2.2.2.2.1,nr,nt,nk,ne,ac,rs.length,ofNat 0,ofNat 0,ofNat 0,ofNat 0,ofNat 0,({data:= #[]}:ByteArray),ofNat 0,()))=some (.inl (ofNat 0,rs,c.2.2.2.2.2.2.2.1,nr,nt,nk,ne,ac,rs.length,ofNat 0,ofNat 0,ofNat 0,ofNat 0,ofNat 0,({data:= #[]}:ByteArray),ofNat 0,())):=by
  rw [dY,dW]
  rfl
 by_cases hl:l= []
 ·subst hl
  simp only [isEmpty_nil,cond_true,h0,bind_some]
  try simp only [cond_false,zero_add,Nat.le_refl,decide_true,cond_true,drop_zero,take_length]
  exact⟨_,_,rfl,iz hk hfr c1 c2 hperm hsrt TkN.zero (by first|rfl|simp|exact hRR) (by simp) (by simp)⟩
 ·have hle:isEmpty l=false:=by cases l with
   |nil=>exact absurd rfl hl
   |cons a m=>rfl
  have hmin:(if ofNat 16<((l.length:Nat):Int)then ofNat 16 else((l.length:Nat):Int))=((min 16 l.length:Nat):Int):=by
   simp only [bi]
   split<;>omega
  have hwi:ah (0:Int) ((min 16 l.length:Nat):Int) ((l.length:Nat):Int)=true:=by
   simp only [ah,Bool.and_eq_true,decide_eq_true_eq];omega
  have hsx2:SX c.2.2.2.2.2.2.2.1 nr nt nk ne ac rs ([]++ []):=by
   rw [append_nil]
   exact⟨hsx.fine,hTo,hsx.nrI,hsx.nkI,hsx.ntI,hsx.neI,hsx.ack,hsx.elen,hsx.late,hsx.evs⟩
  obtain⟨y,hy,d,R,nk',ne',w,hN,hyq⟩:=ab2 (min 16 l.length) rs l c.2.2.2.2.2.2.2.1 nr nt ac (by omega) (by omega) nk ne hsx2 hfr.nk hfr.ne (fun p hp=>hperm.subset hp)
  have hy:dY (.inr (.inl (ofNat 0,min 16 l.length,((min 16 l.length:Nat):Int),ofNat 0,rs,c.2.2.2.2.2.2.2.1,nr,nt,nk,ne,ac,rs.length,ofNat 0,ofNat 0,ofNat 0,ofNat 0,ofNat 0,({data:= #[]}:ByteArray),ofNat 0,l,())))=some y:=hy
  simp only [hle,hmin,hwi,toNat_natCast,sub_zero,cond_true,cond_false,hy,bind_some]
  have hs:=(ir _ _ hN).1
  simp only at hs
  have hlR:rs.length≤R.length:=by rw [hs.len];omega
  have hRR:take rs.length R=R:=take_of_length_le (by rw [hs.len];omega)
  rcases hyq with⟨rfl,rfl⟩|rfl
  ·simp only []
   try simp only [cond_false,zero_add,Nat.le_refl,decide_true,cond_true,drop_zero,take_length,decide_eq_true hlR,hRR]
   exact⟨_,_,rfl,iz hk hfr c1 c2 hperm hsrt hN (by first|rfl|simp|exact hRR) (by simp) (by simp)⟩
  ·simp only []
   by_cases c40:(((w.length:Nat):Int)>ofNat 40)
   ·rw [decide_eq_true c40,cond_true];exact⟨_,_,rfl,ao h 8⟩
   ·rw [decide_eq_false c40,cond_false]
    try simp only [cond_false,zero_add,Nat.le_refl,decide_true,cond_true,drop_zero,take_length,decide_eq_true hlR,hRR]
    exact⟨_,_,rfl,iz hk hfr c1 c2 hperm hsrt hN (by first|rfl|simp|exact hRR) (by simp) (by simp only [bi]at c40;omega)⟩
theorem YW {ck nr nt nk ne ac:Int} {es:List aK} (h:SOk (mk ck nr nt nk ne ac [] es)) (hr:∀r∈([]:List aj),bH r) (hE:isEmpty es=false) (c:bm) (hfr:Fresh nr nt nk ne) (hk:c.1=7):
  ∃t r,yh ((mk ck nr nt nk ne ac [] es),c,())=some (t,r,())∧bA ck nr nt nk ne ac [] es c t r:=by
 have h25:=aX h
 have hf:=h.fine
 have he:=h.ev40
 have hck:0≤ck∧ck≤1099511627776:=h.ck
 have hsx:=vw h
 simp only [mk]at h25 hf he
 have h32:=hf.1
 have E:=nI h hE
 simp only [mk]at E
 simp only [yh,mk,h25,bind_some,hE,isEmpty_nil,cond_false,zero_add,Nat.le_refl,decide_true,cond_true,bj,ce,E]
 by_cases c1:c.2.2.2.2.2.2.2.1<ck
 ·rw [decide_eq_true c1,cond_true];exact⟨_,_,rfl,ao h 1⟩
 rw [decide_eq_false c1,cond_false]
 by_cases c2:c.2.2.2.2.2.2.2.1>ofNat 1099511627776
 ·rw [decide_eq_true c2,cond_true];exact⟨_,_,rfl,ao h 1⟩
 rw [decide_eq_false c2,cond_false]
 have hTo:bW c.2.2.2.2.2.2.2.1:=⟨by omega,by simp only [bi]at c2;omega⟩
 obtain⟨l,e,hdue,hperm,hsrt⟩:=yJ ([]:List aj) (by omega) hr hf c.2.2.2.2.2.2.2.1 hTo
 simp only [hdue,bind_some]
 have h0:gz (.inl (ofNat 0,0,ofNat 0,es,c.2.2.2.2.2.2.2.1,nr,nt,nk,ne,ac,es.length,ofNat 0,ofNat 0,ofNat 0,ofNat 0,ofNat 0,({data:= #[]}:ByteArray),ofNat 0,()))=some (.inl (ofNat 0,es,c.2.2.2.2.2.2.2.1,nr,nt,nk,ne,ac,es.length,ofNat 0,ofNat 0,ofNat 0,ofNat 0,ofNat 0,({data:= #[]}:ByteArray),ofNat 0,())):=by
  rw [gz,dW]
  rfl
 obtain rfl:l= []:=hperm.eq_nil
 simp only [isEmpty_nil,cond_true,h0,bind_some]
 by_cases c40:(((es.length:Nat):Int)>ofNat 40)
 ·rw [decide_eq_true c40,cond_true];exact⟨_,_,rfl,ao h 8⟩
 ·rw [decide_eq_false c40,cond_false]
  try simp only [cond_false,zero_add,Nat.le_refl,decide_true,cond_true,drop_zero,take_length]
  exact⟨_,_,rfl,iz hk hfr c1 c2 hperm hsrt TkN.zero (by first|rfl|simp|exact hRR) (by simp) (by simp only [bi]at c40;omega)⟩
theorem YX {ck nr nt nk ne ac:Int} (h:SOk (mk ck nr nt nk ne ac [] [])) (hr:∀r∈([]:List aj),bH r) (c:bm) (hfr:Fresh nr nt nk ne) (hk:c.1=7):
  ∃t r,yr ((mk ck nr nt nk ne ac [] []),c,())=some (t,r,())∧bA ck nr nt nk ne ac [] [] c t r:=by
 have h25:=aX h
 have hf:=h.fine
 have he:=h.ev40
 have hck:0≤ck∧ck≤1099511627776:=h.ck
 have hsx:=vw h
 simp only [mk]at h25 hf he
 have h32:=hf.1
 have E:=nJ h
 simp only [mk]at E
 simp only [yr,mk,h25,bind_some,isEmpty_nil,cond_false,zero_add,Nat.le_refl,decide_true,cond_true,bj,ce,E]
 by_cases c1:c.2.2.2.2.2.2.2.1<ck
 ·rw [decide_eq_true c1,cond_true];exact⟨_,_,rfl,ao h 1⟩
 rw [decide_eq_false c1,cond_false]
 by_cases c2:c.2.2.2.2.2.2.2.1>ofNat 1099511627776
 ·rw [decide_eq_true c2,cond_true];exact⟨_,_,rfl,ao h 1⟩
 rw [decide_eq_false c2,cond_false]
 have hTo:bW c.2.2.2.2.2.2.2.1:=⟨by omega,by simp only [bi]at c2;omega⟩
 obtain⟨l,e,hdue,hperm,hsrt⟩:=yJ ([]:List aj) (by omega) hr hf c.2.2.2.2.2.2.2.1 hTo
 simp only [hdue,bind_some]
 have h0:gA (.inl (ofNat 0,0,ofNat 0,c.2.2.2.2.2.2.2.1,nr,nt,nk,ne,ac,ofNat 0,ofNat 0,ofNat 0,ofNat 0,ofNat 0,({data:= #[]}:ByteArray),ofNat 0,()))=some (.inl (ofNat 0,c.2.2.2.2.2.2.2.1,nr,nt,nk,ne,ac,ofNat 0,ofNat 0,ofNat 0,ofNat 0,ofNat 0,({data:= #[]}:ByteArray),ofNat 0,())):=by
  rw [gA,dW]
  rfl
 obtain rfl:l= []:=hperm.eq_nil
 simp only [isEmpty_nil,cond_true,h0,bind_some]
 try simp only [cond_false,zero_add,Nat.le_refl,decide_true,cond_true,drop_zero,take_length]
 exact⟨_,_,rfl,iz hk hfr c1 c2 hperm hsrt TkN.zero (by first|rfl|simp|exact hRR) (by simp) (by simp)⟩
theorem afE {ck nr nt nk ne ac:Int} {rs:List aj} {es:List aK} (h:SOk (mk ck nr nt nk ne ac rs es)) (hr:∀r∈rs,bH r) (hR:isEmpty rs=false) (hE:isEmpty es=false) (c:bm) (hcl:∀nd∈c.2.2.1.1,nd.1.length≤9223372036854775807):
  ∃t r,oQ ((mk ck nr nt nk ne ac rs es),c,())=some (t,r,())∧bA ck nr nt nk ne ac rs es c t r:=by
 obtain⟨v,hv,hc⟩:=kH (mk ck nr nt nk ne ac rs es) (by have:=h.fine.1;simp only [mk]at this⊢;omega) hr
 obtain rfl:v=0:=by
  rcases hc with⟨h1,_⟩|⟨_,hc⟩
  ·exact h1
  ·exact absurd h hc
 have E:=nG h hR hE
 have Eg:=fun n=>ao (c:=c) h n
 simp only [oQ,hv,bind_some,ny,cond_false]
 by_cases k1:c.1=1
 ·rw [show(c.1==ofNat 1)=true by rw [k1];rfl,cond_true]
  exact bN _ (fun f=>YQ h hr hR hE c hcl (f (decide_eq_true (by rw [k1];decide))) k1) ⟨_,_,E 9,Eg 8⟩
 rw [show(c.1==ofNat 1)=false by simpa using k1,cond_false]
 by_cases k2:c.1=2
 ·rw [show(c.1==ofNat 2)=true by rw [k2];rfl,cond_true]
  exact bN _ (fun f=>YM h hr hR hE c (f (decide_eq_true (by rw [k2];decide))) k2) ⟨_,_,E 9,Eg 8⟩
 rw [show(c.1==ofNat 2)=false by simpa using k2,cond_false]
 by_cases k3:c.1=3
 ·rw [show(c.1==ofNat 3)=true by rw [k3];rfl,cond_true]
  exact bN _ (fun f=>Yw h hr hR hE c (f (decide_eq_true (by rw [k3];decide))) k3) ⟨_,_,E 9,Eg 8⟩
 rw [show(c.1==ofNat 3)=false by simpa using k3,cond_false]
 by_cases k4:c.1=4
 ·rw [show(c.1==ofNat 4)=true by rw [k4];rfl,cond_true]
  exact bN _ (fun f=>Ys h hr hR hE c (f (decide_eq_true (by rw [k4];decide))) k4) ⟨_,_,E 9,Eg 8⟩
 rw [show(c.1==ofNat 4)=false by simpa using k4,cond_false]
 by_cases k5:c.1=5
 ·rw [show(c.1==ofNat 5)=true by rw [k5];rfl,cond_true]
  exact bN _ (fun f=>YI h hr hR hE c (f (decide_eq_true (by rw [k5];decide))) k5) ⟨_,_,E 9,Eg 8⟩
 rw [show(c.1==ofNat 5)=false by simpa using k5,cond_false]
 by_cases k6:c.1=6
 ·rw [show(c.1==ofNat 6)=true by rw [k6];rfl,cond_true]
  exact bN _ (fun f=>Yo h hr hR hE c (f (decide_eq_true (by rw [k6];decide))) k6) ⟨_,_,E 9,Eg 8⟩
 rw [show(c.1==ofNat 6)=false by simpa using k6,cond_false]
 by_cases k7:c.1=7
 ·rw [show(c.1==ofNat 7)=true by rw [k7];rfl,cond_true]
  exact bN _ (fun f=>YU h hr hR hE c (f (decide_eq_true (by rw [k7];decide))) k7) ⟨_,_,E 9,Eg 8⟩
 rw [show(c.1==ofNat 7)=false by simpa using k7,cond_false]
 by_cases k8:c.1=8
 ·rw [show(c.1==ofNat 8)=true by rw [k8];rfl,cond_true]
  exact bN _ (fun f=>YA h hr hR hE c k8) ⟨_,_,E 9,Eg 8⟩
 rw [show(c.1==ofNat 8)=false by simpa using k8,cond_false]
 by_cases k9:c.1=9
 ·rw [show(c.1==ofNat 9)=true by rw [k9];rfl,cond_true]
  exact bN _ (fun f=>YE h hr hR hE c k9) ⟨_,_,E 9,Eg 8⟩
 rw [show(c.1==ofNat 9)=false by simpa using k9,cond_false]
 by_cases k10:c.1=10
 ·rw [show(c.1==ofNat 10)=true by rw [k10];rfl,cond_true]
  exact bN _ (fun f=>RY h hr hR hE c k10) ⟨_,_,E 9,Eg 8⟩
 rw [show(c.1==ofNat 10)=false by simpa using k10,cond_false]
 exact⟨_,_,E 2,Eg 1⟩
theorem afF {ck nr nt nk ne ac:Int} {rs:List aj} (h:SOk (mk ck nr nt nk ne ac rs [])) (hr:∀r∈rs,bH r) (hR:isEmpty rs=false) (c:bm) (hcl:∀nd∈c.2.2.1.1,nd.1.length≤9223372036854775807):
  ∃t r,zL ((mk ck nr nt nk ne ac rs []),c,())=some (t,r,())∧bA ck nr nt nk ne ac rs [] c t r:=by
 obtain⟨v,hv,hc⟩:=kH (mk ck nr nt nk ne ac rs []) (by have:=h.fine.1;simp only [mk]at this⊢;omega) hr
 obtain rfl:v=0:=by
  rcases hc with⟨h1,_⟩|⟨_,hc⟩
  ·exact h1
  ·exact absurd h hc
 have E:=nH h hR
 have Eg:=fun n=>ao (c:=c) h n
 simp only [zL,hv,bind_some,ny,cond_false]
 by_cases k1:c.1=1
 ·rw [show(c.1==ofNat 1)=true by rw [k1];rfl,cond_true]
  exact bN _ (fun f=>YR h hr hR c hcl (f (decide_eq_true (by rw [k1];decide))) k1) ⟨_,_,E 9,Eg 8⟩
 rw [show(c.1==ofNat 1)=false by simpa using k1,cond_false]
 by_cases k2:c.1=2
 ·rw [show(c.1==ofNat 2)=true by rw [k2];rfl,cond_true]
  exact bN _ (fun f=>YN h hr hR c (f (decide_eq_true (by rw [k2];decide))) k2) ⟨_,_,E 9,Eg 8⟩
 rw [show(c.1==ofNat 2)=false by simpa using k2,cond_false]
 by_cases k3:c.1=3
 ·rw [show(c.1==ofNat 3)=true by rw [k3];rfl,cond_true]
  exact bN _ (fun f=>Yx h hr hR c (f (decide_eq_true (by rw [k3];decide))) k3) ⟨_,_,E 9,Eg 8⟩
 rw [show(c.1==ofNat 3)=false by simpa using k3,cond_false]
 by_cases k4:c.1=4
 ·rw [show(c.1==ofNat 4)=true by rw [k4];rfl,cond_true]
  exact bN _ (fun f=>Yt h hr hR c (f (decide_eq_true (by rw [k4];decide))) k4) ⟨_,_,E 9,Eg 8⟩
 rw [show(c.1==ofNat 4)=false by simpa using k4,cond_false]
 by_cases k5:c.1=5
 ·rw [show(c.1==ofNat 5)=true by rw [k5];rfl,cond_true]
  exact bN _ (fun f=>YJ h hr hR c (f (decide_eq_true (by rw [k5];decide))) k5) ⟨_,_,E 9,Eg 8⟩
 rw [show(c.1==ofNat 5)=false by simpa using k5,cond_false]
 by_cases k6:c.1=6
 ·rw [show(c.1==ofNat 6)=true by rw [k6];rfl,cond_true]
  exact bN _ (fun f=>Yp h hr hR c (f (decide_eq_true (by rw [k6];decide))) k6) ⟨_,_,E 9,Eg 8⟩
 rw [show(c.1==ofNat 6)=false by simpa using k6,cond_false]
 by_cases k7:c.1=7
 ·rw [show(c.1==ofNat 7)=true by rw [k7];rfl,cond_true]
  exact bN _ (fun f=>YV h hr hR c (f (decide_eq_true (by rw [k7];decide))) k7) ⟨_,_,E 9,Eg 8⟩
 rw [show(c.1==ofNat 7)=false by simpa using k7,cond_false]
 by_cases k8:c.1=8
 ·rw [show(c.1==ofNat 8)=true by rw [k8];rfl,cond_true]
  exact bN _ (fun f=>YB h hr hR c k8) ⟨_,_,E 9,Eg 8⟩
 rw [show(c.1==ofNat 8)=false by simpa using k8,cond_false]
 by_cases k9:c.1=9
 ·rw [show(c.1==ofNat 9)=true by rw [k9];rfl,cond_true]
  exact bN _ (fun f=>YF h hr hR c k9) ⟨_,_,E 9,Eg 8⟩
 rw [show(c.1==ofNat 9)=false by simpa using k9,cond_false]
 by_cases k10:c.1=10
 ·rw [show(c.1==ofNat 10)=true by rw [k10];rfl,cond_true]
  exact bN _ (fun f=>RZ h hr hR c k10) ⟨_,_,E 9,Eg 8⟩
 rw [show(c.1==ofNat 10)=false by simpa using k10,cond_false]
 exact⟨_,_,E 2,Eg 1⟩
theorem afG {ck nr nt nk ne ac:Int} {es:List aK} (h:SOk (mk ck nr nt nk ne ac [] es)) (hr:∀r∈([]:List aj),bH r) (hE:isEmpty es=false) (c:bm) (hcl:∀nd∈c.2.2.1.1,nd.1.length≤9223372036854775807):
  ∃t r,zO ((mk ck nr nt nk ne ac [] es),c,())=some (t,r,())∧bA ck nr nt nk ne ac [] es c t r:=by
 obtain⟨v,hv,hc⟩:=kH (mk ck nr nt nk ne ac [] es) (by have:=h.fine.1;simp only [mk]at this⊢;omega) hr
 obtain rfl:v=0:=by
  rcases hc with⟨h1,_⟩|⟨_,hc⟩
  ·exact h1
  ·exact absurd h hc
 have E:=nI h hE
 have Eg:=fun n=>ao (c:=c) h n
 simp only [zO,hv,bind_some,ny,cond_false]
 by_cases k1:c.1=1
 ·rw [show(c.1==ofNat 1)=true by rw [k1];rfl,cond_true]
  exact bN _ (fun f=>YS h hr hE c hcl (f (decide_eq_true (by rw [k1];decide))) k1) ⟨_,_,E 9,Eg 8⟩
 rw [show(c.1==ofNat 1)=false by simpa using k1,cond_false]
 by_cases k2:c.1=2
 ·rw [show(c.1==ofNat 2)=true by rw [k2];rfl,cond_true]
  exact bN _ (fun f=>YO h hr hE c (f (decide_eq_true (by rw [k2];decide))) k2) ⟨_,_,E 9,Eg 8⟩
 rw [show(c.1==ofNat 2)=false by simpa using k2,cond_false]
 by_cases k3:c.1=3
 ·rw [show(c.1==ofNat 3)=true by rw [k3];rfl,cond_true]
  exact bN _ (fun f=>Yy h hr hE c (f (decide_eq_true (by rw [k3];decide))) k3) ⟨_,_,E 9,Eg 8⟩
 rw [show(c.1==ofNat 3)=false by simpa using k3,cond_false]
 by_cases k4:c.1=4
 ·rw [show(c.1==ofNat 4)=true by rw [k4];rfl,cond_true]
  exact bN _ (fun f=>Yu h hr hE c (f (decide_eq_true (by rw [k4];decide))) k4) ⟨_,_,E 9,Eg 8⟩
 rw [show(c.1==ofNat 4)=false by simpa using k4,cond_false]
 by_cases k5:c.1=5
 ·rw [show(c.1==ofNat 5)=true by rw [k5];rfl,cond_true]
  exact bN _ (fun f=>YK h hr hE c (f (decide_eq_true (by rw [k5];decide))) k5) ⟨_,_,E 9,Eg 8⟩
 rw [show(c.1==ofNat 5)=false by simpa using k5,cond_false]
 by_cases k6:c.1=6
 ·rw [show(c.1==ofNat 6)=true by rw [k6];rfl,cond_true]
  exact bN _ (fun f=>Yq h hr hE c (f (decide_eq_true (by rw [k6];decide))) k6) ⟨_,_,E 9,Eg 8⟩
 rw [show(c.1==ofNat 6)=false by simpa using k6,cond_false]
 by_cases k7:c.1=7
 ·rw [show(c.1==ofNat 7)=true by rw [k7];rfl,cond_true]
  exact bN _ (fun f=>YW h hr hE c (f (decide_eq_true (by rw [k7];decide))) k7) ⟨_,_,E 9,Eg 8⟩
 rw [show(c.1==ofNat 7)=false by simpa using k7,cond_false]
 by_cases k8:c.1=8
 ·rw [show(c.1==ofNat 8)=true by rw [k8];rfl,cond_true]
  exact bN _ (fun f=>YC h hr hE c k8) ⟨_,_,E 9,Eg 8⟩
 rw [show(c.1==ofNat 8)=false by simpa using k8,cond_false]
 by_cases k9:c.1=9
 ·rw [show(c.1==ofNat 9)=true by rw [k9];rfl,cond_true]
  exact bN _ (fun f=>YG h hr hE c k9) ⟨_,_,E 9,Eg 8⟩
 rw [show(c.1==ofNat 9)=false by simpa using k9,cond_false]
 by_cases k10:c.1=10
 ·rw [show(c.1==ofNat 10)=true by rw [k10];rfl,cond_true]
  exact bN _ (fun f=>Sa h hr hE c k10) ⟨_,_,E 9,Eg 8⟩
 rw [show(c.1==ofNat 10)=false by simpa using k10,cond_false]
 exact⟨_,_,E 2,Eg 1⟩
theorem afH {ck nr nt nk ne ac:Int} (h:SOk (mk ck nr nt nk ne ac [] [])) (hr:∀r∈([]:List aj),bH r) (c:bm) (hcl:∀nd∈c.2.2.1.1,nd.1.length≤9223372036854775807):
  ∃t r,uD ((mk ck nr nt nk ne ac [] []),c,())=some (t,r,())∧bA ck nr nt nk ne ac [] [] c t r:=by
 obtain⟨v,hv,hc⟩:=kH (mk ck nr nt nk ne ac [] []) (by have:=h.fine.1;simp only [mk]at this⊢;omega) hr
 obtain rfl:v=0:=by
  rcases hc with⟨h1,_⟩|⟨_,hc⟩
  ·exact h1
  ·exact absurd h hc
 have E:=nJ h
 have Eg:=fun n=>ao (c:=c) h n
 simp only [uD,hv,bind_some,ny,cond_false]
 by_cases k1:c.1=1
 ·rw [show(c.1==ofNat 1)=true by rw [k1];rfl,cond_true]
  exact bN _ (fun f=>YT h hr c hcl (f (decide_eq_true (by rw [k1];decide))) k1) ⟨_,_,E 9,Eg 8⟩
 rw [show(c.1==ofNat 1)=false by simpa using k1,cond_false]
 by_cases k2:c.1=2
 ·rw [show(c.1==ofNat 2)=true by rw [k2];rfl,cond_true]
  exact bN _ (fun f=>YP h hr c (f (decide_eq_true (by rw [k2];decide))) k2) ⟨_,_,E 9,Eg 8⟩
 rw [show(c.1==ofNat 2)=false by simpa using k2,cond_false]
 by_cases k3:c.1=3
 ·rw [show(c.1==ofNat 3)=true by rw [k3];rfl,cond_true]
  exact bN _ (fun f=>Yz h hr c (f (decide_eq_true (by rw [k3];decide))) k3) ⟨_,_,E 9,Eg 8⟩
 rw [show(c.1==ofNat 3)=false by simpa using k3,cond_false]
 by_cases k4:c.1=4
 ·rw [show(c.1==ofNat 4)=true by rw [k4];rfl,cond_true]
  exact bN _ (fun f=>Yv h hr c (f (decide_eq_true (by rw [k4];decide))) k4) ⟨_,_,E 9,Eg 8⟩
 rw [show(c.1==ofNat 4)=false by simpa using k4,cond_false]
 by_cases k5:c.1=5
 ·rw [show(c.1==ofNat 5)=true by rw [k5];rfl,cond_true]
  exact bN _ (fun f=>YL h hr c (f (decide_eq_true (by rw [k5];decide))) k5) ⟨_,_,E 9,Eg 8⟩
 rw [show(c.1==ofNat 5)=false by simpa using k5,cond_false]
 by_cases k6:c.1=6
 ·rw [show(c.1==ofNat 6)=true by rw [k6];rfl,cond_true]
  exact bN _ (fun f=>Yr h hr c (f (decide_eq_true (by rw [k6];decide))) k6) ⟨_,_,E 9,Eg 8⟩
 rw [show(c.1==ofNat 6)=false by simpa using k6,cond_false]
 by_cases k7:c.1=7
 ·rw [show(c.1==ofNat 7)=true by rw [k7];rfl,cond_true]
  exact bN _ (fun f=>YX h hr c (f (decide_eq_true (by rw [k7];decide))) k7) ⟨_,_,E 9,Eg 8⟩
 rw [show(c.1==ofNat 7)=false by simpa using k7,cond_false]
 by_cases k8:c.1=8
 ·rw [show(c.1==ofNat 8)=true by rw [k8];rfl,cond_true]
  exact bN _ (fun f=>YD h hr c k8) ⟨_,_,E 9,Eg 8⟩
 rw [show(c.1==ofNat 8)=false by simpa using k8,cond_false]
 by_cases k9:c.1=9
 ·rw [show(c.1==ofNat 9)=true by rw [k9];rfl,cond_true]
  exact bN _ (fun f=>YH h hr c k9) ⟨_,_,E 9,Eg 8⟩
 rw [show(c.1==ofNat 9)=false by simpa using k9,cond_false]
 by_cases k10:c.1=10
 ·rw [show(c.1==ofNat 10)=true by rw [k10];rfl,cond_true]
  exact bN _ (fun f=>Sb h hr c k10) ⟨_,_,E 9,Eg 8⟩
 rw [show(c.1==ofNat 10)=false by simpa using k10,cond_false]
 exact⟨_,_,E 2,Eg 1⟩
abbrev zS:cQ:=(ofNat 0,ofNat 0,ofNat 0,ofNat 0,ofNat 0,ofNat 0,[],[],())
theorem Qh (s:cQ) (c:bm) (hm:s.2.2.2.2.2.2.1.length≤9223372036854775807) (hr:∀r∈s.2.2.2.2.2.2.1,bH r) (hcl:∀nd∈c.2.2.1.1,nd.1.length≤9223372036854775807):
  ∃v,vM (s,())=some (v,())∧∃t r,lu (s,c,())=some (t,r,())∧((v=0∧SOk s∧bA s.1 s.2.1 s.2.2.1 s.2.2.2.1 s.2.2.2.2.1 s.2.2.2.2.2.1 s.2.2.2.2.2.2.1 s.2.2.2.2.2.2.2.1 c t r)∨((∃n:Nat,v=ofNat (n+1))∧¬SOk s∧t=zS∧r=nF v)):=by
 obtain⟨v,hv,hc⟩:=kH s hm hr
 refine⟨v,hv,?_⟩
 rcases hc with⟨rfl,h⟩|⟨⟨n,rfl⟩,h⟩
 ·have:∃t r,lu (s,c,())=some (t,r,())∧bA s.1 s.2.1 s.2.2.1 s.2.2.2.1 s.2.2.2.2.1 s.2.2.2.2.2.1 s.2.2.2.2.2.2.1 s.2.2.2.2.2.2.2.1 c t r:=by
   obtain⟨ck,nr,nt,nk,ne,ac,rs,es,_⟩:=s
   cases rs with
   |nil=>
    cases es with
    |nil=>exact afH h hr c hcl
    |cons e es=>exact afG h hr rfl c hcl
   |cons r rs=>
    cases es with
    |nil=>exact afF h hr rfl c hcl
    |cons e es=>exact afE h hr rfl rfl c hcl
  obtain⟨t,r,h1,h2⟩:=this
  exact⟨t,r,h1,.inl ⟨rfl,h,h2⟩⟩
 ·have c0:(ofNat (n+1) !=ofNat 0)=true:=by simp;omega
  refine⟨zS,nF (ofNat (n+1)),?_,.inr ⟨⟨n,rfl⟩,h,rfl,rfl⟩⟩
  have ha:oQ (s,c,())=some (zS,nF (ofNat (n+1)),()):=by simp only [oQ,hv,bind_some,c0,cond_true]
  have hb:zL (s,c,())=some (zS,nF (ofNat (n+1)),()):=by simp only [zL,hv,bind_some,c0,cond_true]
  have hcc:zO (s,c,())=some (zS,nF (ofNat (n+1)),()):=by simp only [zO,hv,bind_some,c0,cond_true]
  have hd:uD (s,c,())=some (zS,nF (ofNat (n+1)),()):=by simp only [uD,hv,bind_some,c0,cond_true]
  simp only [lu,ha,hb,hcc,hd]
  cases isEmpty s.2.2.2.2.2.2.1<;>cases isEmpty s.2.2.2.2.2.2.2.1<;>rfl
abbrev yK:cQ:=(ofNat 0,ofNat 0,ofNat 1,ofNat 0,ofNat 1,ofNat 0,[],[],())
abbrev n1:aL:=([],ofNat 2,ofNat 3,())
abbrev ky:ByteArray:={data:= #[97]}
abbrev u1:am:=(ofNat 1,ofNat 0,ofNat 0,ofNat 0,ofNat 0,())
abbrev u2:am:=(ofNat 2,ofNat 1,ofNat 10,ofNat 1,ofNat 0,())
abbrev rn (t:am):aj:=(ofNat 0,ky,([n1],()),ofNat 1,[t],())
abbrev ev1:aK:=(ofNat 1,ofNat 1,ofNat 0,ofNat 0,())
abbrev gD (nt:Int) (t:am):cQ:=mk (ofNat 0) (ofNat 1) nt (ofNat 1) (ofNat 2) (ofNat 0) [rn t] [ev1]
abbrev YY:bm:=(ofNat 1,{data:= #[97]},([n1],()),ofNat 0,ofNat 0,ofNat 0,ofNat 0,ofNat 0,())
abbrev YZ:bm:=(ofNat 2,{data:= #[]},([],()),ofNat 0,ofNat 0,ofNat 0,ofNat 10,ofNat 0,())
theorem Za:bW (ofNat 1):=by decide
theorem lQ {i:Nat} (h:i<1):i=0:=by omega
theorem nd1:dJ n1:=by constructor<;>constructor<;>decide
theorem MS:od [n1]:=by
 refine⟨⟨by decide,by decide⟩,fun i h=> ?_,fun i h hr=> ?_⟩
 ·obtain rfl:=lQ h
  exact⟨by constructor<;>decide,by constructor<;>decide,fun j h=>absurd h (not_lt_zero _)⟩
 ·have:∀{a b:Nat},¬vP [n1] a b:=fun {a b} ⟨h1,h2⟩=>by
   obtain rfl:=lQ h1
   exact(not_mem_nil h2).elim
  rcases hr with h|⟨h,_⟩
  ·exact this h
  ·exact this h
theorem Qi:bZ n1 u1:=by
 refine⟨by decide,by decide,by decide,by decide,fun _=>rfl,fun h=>absurd rfl h,⟨fun h=>absurd rfl h,fun h=>absurd h (by decide)⟩,.inr (.inl ⟨rfl,by decide⟩)⟩
theorem yL:bZ n1 u2:=by
 refine⟨by decide,by decide,by decide,by decide,fun h=>absurd rfl h,fun _=>.inl rfl,⟨fun _=>rfl,fun _=>by decide⟩,.inr (.inr (.inl ⟨rfl,by decide⟩))⟩
theorem MT {t:am} (ht:bZ n1 t) (h:t.1=1∨t.1=2):ROk (rn t):=by
 refine⟨dw,show 1≤ky.size∧ky.size≤24 by decide,MS,rfl,fun i h=> ?_,.inl ⟨rfl,fun i h=> ?_,fun h4=> ?_,fun⟨x,hx,h4⟩=> ?_⟩⟩
 ·obtain rfl:=lQ h
  exact ht
 ·obtain rfl:=lQ h
  exact⟨fun _=>by show t.1≠0;omega,fun _ v hv=>(not_mem_nil hv).elim⟩
 ·have:=h4 t (List.mem_singleton.2 rfl);omega
 ·rw [List.mem_singleton.1 hx]at h4;omega
theorem MV {t:am} (h:0≤t.1):∀r∈ [rn t],bH r:=fun r hr=>by
 rw [List.mem_singleton.1 hr]
 exact⟨fun nd hnd=>by rw [List.mem_singleton.1 hnd];decide,show 1≤9223372036854775807 by decide,fun x hx=>by rw [List.mem_singleton.1 hx];exact h⟩
theorem ab3 {t:am} (ht:bZ n1 t) (h:t.1=1∨t.1=2):eL [rn t]:=
 ⟨show 1≤32 by decide,fun a b h1 h2=>by have:=lQ h2;omega,fun a b h1 h2=>by have:=lQ h2;omega,fun a h1=>by
  obtain rfl:=lQ h1
  exact MT ht h,List.pairwise_singleton _ _⟩
theorem MW {nt:Int} {t:am} (hn:1≤nt∧nt≤1099511627776) (ht:bZ n1 t) (h:t.1=1∨t.1=2) (hl:cM nt 1 t):SOk (gD nt t):=
 ⟨ab3 ht h,show 1≤40 by decide,dw,Za,Za,hn,show 1≤ofNat 2∧ofNat 2≤1099511627776 by decide,show 0≤ofNat 0∧ofNat 0<ofNat 2 by decide,rfl,fun j hj=>by
  obtain rfl:=lQ hj
  exact⟨by show(ofNat 0)<ofNat 1;decide,fun x hx=>by rw [List.mem_singleton.1 hx];exact hl⟩,fun j hj=>by
  obtain rfl:=lQ hj
  exact⟨rfl,show 1≤ofNat 1∧ofNat 1≤6 by decide,show 0≤ofNat 0∧ofNat 0<ofNat 1 by decide,show 0≤ofNat 0∧ofNat 0<12 by decide,.inl rfl⟩⟩
theorem sok0:SOk yK:=
 ⟨⟨by decide,fun a b h1 h2=>absurd h2 (not_lt_zero _),fun a b h1 h2=>absurd h2 (not_lt_zero _),fun a h1=>absurd h1 (not_lt_zero _),.nil⟩,by decide,by decide,by decide,by decide,by decide,by decide,by decide,rfl,fun j hj=>absurd hj (not_lt_zero _),fun j hj=>absurd hj (not_lt_zero _)⟩
theorem II {s:cQ} (h:SOk s) (hm:s.2.2.2.2.2.2.1.length≤9223372036854775807) (hr:∀r∈s.2.2.2.2.2.2.1,bH r):vM (s,())=some (0,()):=by
 obtain⟨v,hv,hc⟩:=kH s hm hr
 rcases hc with⟨rfl,_⟩|⟨_,hc⟩
 ·exact hv
 ·exact absurd h hc
theorem do1:lu (yK,YY,())=some (gD (ofNat 1) u1,(ofNat 0,ofNat 0,ofNat 0,ofNat 0,aI,[],()),()):=by
 have hc:=II sok0 (show 0≤9223372036854775807 by decide) (fun r h=>(not_mem_nil h).elim)
 have Ea:cK (yK,())=some (false,()):=rfl
 have h25:cA (yK,())=some (yK,()):=aX sok0
 have hln:∀nd∈ [n1],nd.1.length≤9223372036854775807:=fun nd h=>by rw [List.mem_singleton.1 h];decide
 have oR:iV (([n1],()),())=some (0,()):=by
  obtain⟨v,hv,h⟩:=f114 [n1] hln
  rcases h with⟨rfl,_⟩|⟨_,h⟩
  ·exact hv
  ·exact absurd MS h
 have Aa:∃i,ng ([],ky,())=some (i,false,0,()):=by
  obtain⟨i,b,e,hv,h⟩:=nA [] (show 0≤9223372036854775807 by decide) (fun r h=>(not_mem_nil h).elim) ky
  rcases h with⟨_,_,h⟩|⟨rfl,_,⟨_,n,h,_⟩|⟨rfl,_⟩⟩
  ·exact absurd sok0.fine h
  ·exact absurd h (not_lt_zero _)
  ·exact⟨i,hv⟩
 obtain⟨i,Aa⟩:=Aa
 have Im:qs (ofNat 0,ky,([n1],()),ofNat 0,())=some (rn u1,ofNat 1,0,()):=by
  obtain⟨r',rk',e,hv,h⟩:=EI (ofNat 0) ky [n1] hln (ofNat 0)
  rcases h with⟨rfl,_,_,_,_,rfl,rfl⟩|⟨_,h⟩
  ·have ho:opn [n1] (ofNat 0,replicate [n1].length t0) [n1].length=(ofNat 1,[u1]):=by
    show opn [n1] (ofNat 0,[t0]) (0+1)=_
    have hm:gB [t0] n1:=fun v h=>(not_mem_nil h).elim
    have ht:bZ n1 t0:=⟨by decide,by decide,by decide,by decide,fun h=>absurd rfl h,fun h=>absurd rfl h,⟨fun h=>absurd rfl h,fun h=>absurd h (by decide)⟩,.inl ⟨rfl,rfl⟩⟩
    rw [opn,if_pos ⟨rfl,hm⟩,if_pos ⟨dw,ht⟩]
    rfl
   rw [hv,ho]
  ·exact absurd ⟨dw,by decide,MS,by decide,by decide⟩ h
 have hF:lu (yK,YY,())=uD (yK,YY,()):=rfl
 rw [hF]
 simp only [uD,hc,bind_some,ny,cond_false,beq_self_eq_true,cond_true,Ea]
 have h115':ng ([],{data:= #[97]},())=some (i,false,0,()):=Aa
 simp only [uC,h25,bind_some,isEmpty_nil,cond_true,cond_false,decide_eq_false (show¬((ByteArray.size {data:= #[97]}:Nat):Int)<ofNat 1 by decide),decide_eq_false (show¬((ByteArray.size {data:= #[97]}:Nat):Int)>ofNat 24 by decide),oR,cD,h115',Im,bj,ce]
 rfl
theorem do2:lu (gD (ofNat 1) u1,YZ,())=some (gD (ofNat 2) u2,(ofNat 0,ofNat 0,ofNat 0,ofNat 1,aI,[],()),()):=by
 have hr:=MV (t:=u1) (by decide)
 have hs:SOk (gD (ofNat 1) u1):=MW (by decide) Qi (.inl rfl) ⟨by decide,fun _=>by decide⟩
 have hc:=II hs (show 1≤9223372036854775807 by decide) hr
 have Ea:cK (gD (ofNat 1) u1,())=some (false,()):=rfl
 have h25:=aX hs
 have Mm:lx (ofNat 10,())=some (true,()):=rfl
 have Eo:oL ([rn u1],())=some ((ofNat 0,ofNat 0,ofNat 0,()),true,0,()):=by
  obtain⟨p,b,e,hv,h⟩:=pt [rn u1] (show 1≤9223372036854775807 by decide) hr
  rcases h with⟨_,_,h⟩|⟨rfl,_,rfl,rfl,_⟩
  ·exact absurd hs.fine h
  ·exact hv
 have Ab:cB ([rn u1],ofNat 0,())=some (ofNat 0,true,0,()):=by
  obtain⟨i,b,e,hv,h⟩:=bU [rn u1] (show 1≤9223372036854775807 by decide) hr (ofNat 0)
  rcases h with⟨_,_,h⟩|⟨rfl,_,⟨rfl,n,rfl,h,_⟩|⟨_,h⟩⟩
  ·exact absurd hs.fine h
  ·obtain rfl:=lQ h
   exact hv
  ·exact absurd rfl (h 0 (by decide))
 have IA:wG (rn u1,ofNat 0,ofNat 1,ofNat 10,())=some (rn u2,0,()):=by
  obtain⟨r',e',hv,h⟩:=kG (rn u1) (hr _ (List.mem_singleton.2 rfl)) (ofNat 0) (fun nd t=>tZ (nd,t,ofNat 1,ofNat 10,())) (fun nd t h1 h2 h3=>wO (f167 nd t (ofNat 1) (ofNat 10) h1 h2) fun _=>natCast_nonneg 2)
  rw [←EG]at hv
  have h167:tZ (n1,u1,ofNat 1,ofNat 10,())=some (u2,0,()):=by
   rcases f167 n1 u1 (ofNat 1) (ofNat 10) nd1 (by decide)with⟨_,h⟩|⟨h,_⟩
   ·exact h
   ·exact absurd ⟨by decide,by decide,by decide,Qi,rfl⟩ h
  rcases h with⟨rfl,_,_,k,t',hk,hkl,hD,ht⟩|⟨_,_,h⟩
  ·obtain rfl:=lQ hkl
   have h2:some (u2,(0:Int),())=some (t',0,()):=h167.symm.trans hD
   obtain rfl:u2=t':=by injection h2 with h2;exact(Prod.mk.inj h2).1
   obtain⟨i1,i2,i3,_,_,i4⟩:=ht
   rcases i4 with⟨h5,_⟩|⟨_,i5,⟨h4,_⟩|⟨_,i6⟩⟩
   ·exact absurd h5 (by decide)
   ·exact absurd (h4 u2 (List.mem_singleton.2 rfl)) (by decide)
   ·obtain⟨q1,q2,q3,q4,q5,_⟩:=r'
    simp only at i1 i2 i3 i5 i6
    subst i1 i2 i3 i5 i6
    exact hv
  ·exact absurd ⟨MT Qi (.inl rfl),rfl,0,u2,rfl,by decide,h167⟩ h
 have hF:lu (gD (ofNat 1) u1,YZ,())=oQ (gD (ofNat 1) u1,YZ,()):=rfl
 rw [hF]
 simp only [oQ,hc,bind_some,ny,cond_false,show(ofNat 2==ofNat 1)=false from rfl,beq_self_eq_true,cond_true,Ea]
 simp only [gD,mk]at h25
 simp only [uA,gD,mk,h25,bind_some,isEmpty_cons,cond_true,cond_false,Mm,Bool.not_true,length_singleton,zero_add,Nat.le_refl,decide_true,bj,Eo,Ab]
 show Option.bind (wG (rn u1,ofNat 0,ofNat 1,ofNat 10,())) _=_
 rw [IA,bind_some]
 rfl
def bK (f:Nat→Int):Nat→Int
 |0=>0
 |n+1=>bK f n+f n
theorem oh {f g:Nat→Int}:∀n:Nat,(∀i,i<n→f i=g i)→bK f n=bK g n
 |0,_=>rfl
 |n+1,h=>by rw [bK,bK,oh n fun i hi=>h i (by omega),h n (lt_succ_self n)]
theorem ES {f g:Nat→Int}:∀n:Nat,(∀i,i<n→f i≤g i)→bK f n≤bK g n
 |0,_=>le_refl _
 |n+1,h=>by
  have:=ES n fun i hi=>h i (by omega)
  have:=h n (lt_succ_self n)
  simp only [bK];omega
theorem yM {f:Nat→Int} {b:Int}:∀n:Nat,(∀i,i<n→0≤f i∧f i≤b)→0≤bK f n∧bK f n≤b*n
 |0,_=>⟨le_refl _,by simp [bK]⟩
 |n+1,h=>by
  have:=yM n fun i hi=>h i (by omega)
  have:=h n (lt_succ_self n)
  have e:b*((n+1:Nat):Int)=b*n+b:=by rw [Int.natCast_succ,Int.mul_add,Int.mul_one]
  rw [e]
  simp only [bK];omega
theorem Ai {f g:Nat→Int} {k:Nat}:∀n:Nat,k<n→(∀i,i<n→i≠k→g i≤f i)→bK g n≤bK f n-f k+g k
 |0,h,_=>absurd h (not_lt_zero _)
 |n+1,hk,h=>by
  simp only [bK]
  by_cases c:k=n
  ·subst c
   have:=ES (f:=g) (g:=f) k fun i hi=>h i (by omega) (by omega)
   omega
  ·have:=Ai (k:=k) n (by omega) fun i hi hn=>h i (by omega) hn
   have:=h n (lt_succ_self n) (by omega)
   omega
theorem Gv {f g:Nat→Int} {k:Nat}:∀n:Nat,k<n→(∀i,i<n→i≠k→g i=f i)→bK g n=bK f n-f k+g k
 |0,h,_=>absurd h (not_lt_zero _)
 |n+1,hk,h=>by
  simp only [bK]
  by_cases c:k=n
  ·subst c
   have:=oh (f:=g) (g:=f) k fun i hi=>h i (by omega) (by omega)
   omega
  ·have:=Gv (k:=k) n (by omega) fun i hi hn=>h i (by omega) hn
   have:=h n (lt_succ_self n) (by omega)
   omega
theorem Aj {f:Nat→Int} {k:Nat}:∀n:Nat,k<n→(∀i,i<n→0≤f i)→f k≤bK f n
 |0,h,_=>absurd h (not_lt_zero _)
 |n+1,hk,h=>by
  simp only [bK]
  have h0:=(ES (f:=fun _=>0) (g:=f) n fun i hi=>h i (by omega))
  have hz:∀m:Nat,bK (fun _=>0) m=0:=fun m=>by
   induction m with
   |zero=>rfl
   |succ m ih=>rw [bK,ih];rfl
  rw [hz]at h0
  by_cases c:k=n
  ·subst c;omega
  ·have:=Aj (k:=k) n (by omega) fun i hi=>h i (by omega)
   have:=h n (lt_succ_self n)
   omega
def wT (nd:aL) (t:am):Int:=if t.1=2 then 3*(nd.2.1-t.2.1)+2 else if t.1=3 then 3*(nd.2.1-t.2.1)+1 else if t.1=0∨t.1=1 then 3*(nd.2.1-t.2.1)else 0
theorem Qj {nd:aL} {t:am} (hn:dJ nd) (ht:bZ nd t):0≤wT nd t∧wT nd t≤17:=by
 have:=ht.1
 have:=hn.1
 unfold wT
 split
 ·omega
 split
 ·omega
 split<;>omega
theorem f95 {nd:aL} {t:am} (hn:dJ nd) (ht:bZ nd t):Om (t,IntKind.i64.wrap (nd.2.1-t.2.1),())=some (wT nd t,()):=by
 have h1:=ht.1
 have h2:=hn.1
 have h3:=EK ht
 have e1:IntKind.i64.wrap (nd.2.1-t.2.1)=nd.2.1-t.2.1:=by rw [IntKind.wrap_i64];omega
 have e2:IntKind.i64.wrap (ofNat 3*(nd.2.1-t.2.1))=3*(nd.2.1-t.2.1):=by rw [IntKind.wrap_i64];simp only [bi];omega
 have e3:IntKind.i64.wrap (3*(nd.2.1-t.2.1)+ofNat 2)=3*(nd.2.1-t.2.1)+2:=by rw [IntKind.wrap_i64];simp only [bi];omega
 have e4:IntKind.i64.wrap (3*(nd.2.1-t.2.1)+ofNat 1)=3*(nd.2.1-t.2.1)+1:=by rw [IntKind.wrap_i64];simp only [bi];omega
 simp only [Om,e1,e2,e3,e4]
 have hc:t.1=0∨t.1=1∨t.1=2∨t.1=3∨t.1=4∨t.1=5∨t.1=6:=by omega
 unfold wT
 rcases hc with h|h|h|h|h|h|h<;>rw [h]<;>rfl
noncomputable abbrev wF (r:aj) (j:Nat):Int:=wT (bT r j) (bp r j)
noncomputable def wR (r:aj):Int:=if r.2.2.2.1=1 then bK (wF r) r.2.2.2.2.1.length else 0
noncomputable def W (rs:List aj):Int:=bK (fun a=>wR (rs.getD a (aa ab))) rs.length
theorem Cd {r:aj} (h:ROk r) {j:Nat} (hj:j<r.2.2.2.2.1.length):0≤wF r j∧wF r j≤17:=Qj (js h hj) (h.tks j hj)
theorem Gw {r:aj} (h:ROk r) (n:Nat) (hn:n≤r.2.2.2.2.1.length):0≤bK (wF r) n∧bK (wF r) n≤204:=by
 have h1:=yM (f:=wF r) (b:=17) n fun i hi=>Cd h (by omega)
 have h2:=h.len
 have h3:=h.dag.1.2
 omega
theorem Qk {r:aj} (h:ROk r):0≤wR r∧wR r≤204:=by
 unfold wR
 split
 ·exact Gw h _ (Nat.le_refl _)
 ·exact⟨by decide,by decide⟩
theorem MX {rs:List aj} (hf:eL rs) (n:Nat) (hn:n≤rs.length):0≤bK (fun a=>wR (rs.getD a (aa ab))) n∧bK (fun a=>wR (rs.getD a (aa ab))) n≤6528:=by
 have h1:=yM (f:=fun a=>wR (rs.getD a (aa ab))) (b:=204) n fun i hi=>Qk (hf.2.chk i (by omega))
 have:=hf.1
 omega
theorem l57 {r:aj} (h:ROk r) (acc:Int) (rs:List aj) (l i:Int) (hacc:0≤acc∧acc≤10000):oG (acc,rs,l,i,r.2.2.2.2.1,(r.2.2.2.2.1.length:Int),ofNat 0,r.1,r.2.1,r.2.2.1.1,r.2.2.2.1,r.2.2.2.2.1,())=some (acc+bK (wF r) r.2.2.2.2.1.length,rs,l,i,r.1,r.2.1,r.2.2.1.1,r.2.2.2.1,r.2.2.2.2.1,()):=by
 obtain⟨y,hy,rfl⟩:=aS (st:=gk) r.2.2.2.2.1.length (fun j (a:Int)=>(a,rs,l,i,r.2.2.2.2.1,(r.2.2.2.2.1.length:Int),(j:Int),r.1,r.2.1,r.2.2.1.1,r.2.2.2.1,r.2.2.2.2.1,())) (fun j a=>a=acc+bK (wF r) j)
  (fun y=>y=(acc+bK (wF r) r.2.2.2.2.1.length,rs,l,i,r.1,r.2.1,r.2.2.1.1,r.2.2.2.1,r.2.2.2.2.1,())) (fun j a hj ha=>by
   have hjn:j<r.2.2.1.1.length:=by have:=h.len;omega
   have h12:r.2.2.2.2.1.length≤12:=by have:=h.len;have:=h.dag.1.2;omega
   have h1:=f95 (js h hj) (h.tks j hj)
   have b1:=Gw h j (by omega)
   have b2:=Cd h hj
   have e:IntKind.i64.wrap (a+wT (bT r j) (bp r j))=acc+bK (wF r) (j+1):=by
    rw [IntKind.wrap_i64,ha]
    simp only [bK,wF]at*
    omega
   simp only [bp,bT]at h1 e
   simp only [gk,lC,bw hj,aM hj,aF hj,aM hjn,aF hjn,cond_true,toNat_natCast,h1,bind_some,e]
   rw [aR (by omega)]
   exact .inl ⟨_,rfl,rfl⟩) (fun a ha=>⟨(acc+bK (wF r) r.2.2.2.2.1.length,rs,l,i,r.1,r.2.1,r.2.2.1.1,r.2.2.2.1,r.2.2.2.2.1,()),by subst ha;simp only [gk,lC,bt,cond_false],rfl⟩) acc (by simp [bK])
 exact hy
theorem f57 (s:cQ) (hf:eL s.2.2.2.2.2.2.1):Oo (s,())=some (W s.2.2.2.2.2.2.1,()):=by
 generalize hrs:s.2.2.2.2.2.2.1=rs at hf
 obtain⟨y,hy,rfl⟩:=aS (st:=gl) rs.length (fun j (a:Int)=>(a,rs,(rs.length:Int),(j:Int),())) (fun j a=>a=bK (fun a=>wR (rs.getD a (aa ab))) j) (fun y=>y=(W rs,())) (fun j a hj ha=>by
   have hr:=hf.2.chk j hj
   have b1:=MX hf j (by omega)
   have h32:=hf.1
   simp only [gl,lD,bw hj,aM hj,aF hj,cond_true,toNat_natCast]
   by_cases c:(rs.getD j (aa ab)).2.2.2.1=1
   ·have h1:=l57 hr a rs rs.length j (by omega)
    have e:a+bK (wF (rs.getD j (aa ab))) (rs.getD j (aa ab)).2.2.2.2.1.length=bK (fun a=>wR (rs.getD a (aa ab))) (j+1):=by
     simp only [bK,wR,if_pos c]
     rw [ha]
     rfl
    rw [e]at h1
    rw [show((rs.getD j (aa ab)).2.2.2.1 !=ofNat 1)=false by rw [c];rfl,cond_false]
    simp only [h1,bind_some]
    rw [aR (by omega)]
    exact .inl ⟨_,rfl,rfl⟩
   ·rw [show((rs.getD j (aa ab)).2.2.2.1 !=ofNat 1)=true by simpa using c,cond_true,aR (by omega)]
    refine .inl ⟨_,rfl,?_⟩
    simp only [bK,wR,if_neg c]
    rw [ha,Int.add_zero]
    rfl) (fun a ha=>⟨(W rs,()),by subst ha;simp only [gl,lD,bt,cond_false];rfl,rfl⟩) 0 rfl
 have hy':oH (ofNat 0,rs,(rs.length:Int),ofNat 0,())=some (W rs,()):=hy
 simp only [Oo,hrs,hy',bind_some]
theorem f22 {s:cQ} (h:SOk s):sK (s,())=some (W s.2.2.2.2.2.2.1,ofNat 0,()):=by
 have hc0:=II h (by have:=h.fine.1;omega) fun r hr=>by
  obtain⟨j,hj,rfl⟩:=List.mem_iff_getElem.1 hr
  rw [←bG hj (aa ab)]
  exact px (h.fine.2.chk j hj)
 simp only [sK,hc0,bind_some,ny,cond_false,f57 s h.fine]
theorem ol {rs:List aj} {n:Nat} {r':aj} (hn:n<rs.length):W (rs.set n r')=W rs-wR (rs.getD n (aa ab))+wR r':=by
 unfold W
 rw [length_set]
 have h:=Gv (f:=fun a=>wR (rs.getD a (aa ab))) (g:=fun a=>wR ((rs.set n r').getD a (aa ab))) (k:=n) rs.length hn fun i hi hne=>by
  simp only [dc hn,if_neg hne]
 rw [h]
 simp only [dc hn,if_pos]
theorem ab4 {rs:List aj} {r':aj}:W (rs++ [r'])=W rs+wR r':=by
 unfold W
 rw [length_append,length_singleton,bK]
 rw [cI rs.length (by simp),if_pos rfl]
 congr 1
 exact oh _ fun i hi=>by rw [cI i (by simp;omega),if_neg (by omega)]
theorem uP {r r':aj} {k:Nat} {t':am} (h:ROk r) (h1:r.2.2.2.1=1) (hk:k<r.2.2.2.2.1.length) (ht:bZ (bT r k) t') (hT:Turn r k t' r'):wR r'≤wR r-wT (bT r k) (bp r k)+wT (bT r k) t':=by
 have b0:=fun i (hi:i<r.2.2.2.2.1.length)=>(Cd h hi).1
 have b1:=Aj (f:=wF r) (k:=k) _ hk b0
 have b2:=(Qj (js h hk) ht).1
 have e0:wR r=bK (wF r) r.2.2.2.2.1.length:=if_pos h1
 rcases hT.how with⟨c5,h3,_⟩|⟨c5,h3,⟨_,h4⟩|⟨_,h4⟩⟩
 ·rw [e0,show wR r'=0 from if_neg (by rw [h3];decide)]
  simp only [wF]at b1
  omega
 ·rw [e0,show wR r'=0 from if_neg (by rw [h4];decide)]
  simp only [wF]at b1
  omega
 ·rw [e0,show wR r'=bK (wF r') r'.2.2.2.2.1.length from if_pos h4,hT.len]
  have:=Ai (f:=wF r) (g:=wF r') (k:=k) _ hk fun i hi hne=>by
   simp only [wF,bT,bp,hT.ns,h3,bo hk,if_neg hne]
   exact le_refl _
  have e:wF r' k=wT (bT r k) t':=by simp only [wF,bT,bp,hT.ns,h3,bo hk,if_pos]
  rw [e]at this
  exact this
theorem Zb {nd:aL} {t t':am} {now:Int} (hn:dJ nd) (ht:bZ nd t) (h2:t.1=2) (hf:sV nd t now t'):wT nd t'+1≤wT nd t:=by
 have:=ht.1
 rcases hf with⟨e,rfl⟩|⟨e,u,_,rfl⟩
 ·simp only [wT,h2,if_pos]
  rw [if_neg (bD rfl),if_neg (bD rfl),if_neg (by rintro(h|h)<;>exact absurd h (bD rfl))]
  omega
 ·simp only [wT,h2,if_pos]
  rw [if_neg (bD rfl),if_pos (show ofNat 3=3 from rfl)]
  omega
theorem ab5 {now nr nt ac:Int} {es:List aK} {p:cq} {x y:py} (h:Tk1 now p x y) (hx:SX now nr nt x.2.2.1 x.2.2.2.1 ac x.2.1 (es++x.2.2.2.2)):W y.2.1+y.1≤W x.2.1+x.1:=by
 cases h with
 |skip d R nk ne w h=>exact le_refl _
 |wake d R nk ne w n k r' hn hid hp hk hd h3 hT=>
  have hx:SX now nr nt nk ne ac R (es++w):=hx
  have hro:=hx.rok hn
  have htk:=hro.tks k hk
  have h3':(bp (R.getD n (aa ab)) k).1=3:=h3
  have hst:=dF hro hk (by rw [h3'];decide)
  have hg:=htk
  obtain⟨g1,g2,g3,g4,g5,g6,g7,g8⟩:=hg
  simp only [bp]at h3'
  have ht:bZ (bT (R.getD n (aa ab)) k) (ofNat 1,((aZ R n).getD k (aa ae)).2.1,ofNat 0,ofNat 0,nk,()):=
   ⟨g1,dw,dw,hx.nkI,fun _=>rfl,fun h=>absurd rfl h,⟨fun h=>absurd rfl h,fun h=>absurd h (bD rfl)⟩,.inr (.inl ⟨rfl,by simp only [aZ,bT];omega⟩)⟩
  have h4:=uP hro hst hk ht hT
  have e1:wT (bT (R.getD n (aa ab)) k) (bp (R.getD n (aa ab)) k)=3*((bT (R.getD n (aa ab)) k).2.1-(bp (R.getD n (aa ab)) k).2.1)+1:=by
   unfold wT
   rw [if_neg (by rw [bp,h3'];decide),if_pos h3']
  have e2:wT (bT (R.getD n (aa ab)) k) (ofNat 1,((aZ R n).getD k (aa ae)).2.1,ofNat 0,ofNat 0,nk,())=3*((bT (R.getD n (aa ab)) k).2.1-(bp (R.getD n (aa ab)) k).2.1):=by
   unfold wT
   rw [if_neg (bD rfl),if_neg (bD rfl),if_pos (.inr rfl)]
  rw [e1,e2]at h4
  simp only [ol hn]
  omega
 |lapse d R nk ne w n k t' r' hn hid hp hk hd h2 hf hT=>
  have hx:SX now nr nt nk ne ac R (es++w):=hx
  have hro:=hx.rok hn
  have htk:=hro.tks k hk
  have h2':(bp (R.getD n (aa ab)) k).1=2:=h2
  have hst:=dF hro hk (by rw [h2'];decide)
  have htr:1≤((aZ R n).getD k (aa ae)).2.1:=by
   obtain⟨g1,g2,g3,g4,g5,g6,g7,g8⟩:=htk
   simp only [bp]at h2'
   simp only [aZ];omega
  have h4:=uP hro hst hk (vx htk htr hf).1 hT
  have h5:=Zb (js hro hk) htk h2' hf
  simp only [ol hn]
  simp only [bp,bT]at h4 h5
  omega
theorem Ql {now nr nt ac:Int} {es:List aK} {P:List cq} {x:py} (hx:SX now nr nt x.2.2.1 x.2.2.2.1 ac x.2.1 (es++x.2.2.2.2)):∀(i:Nat) (y:py),TkN now P x i y→x.2.2.1+i≤1099511627776→x.2.2.2.1+i≤1099511627776→W y.2.1+y.1≤W x.2.1+x.1
 |_,_,.zero,_,_=>le_refl _
 |_,z,.step i y _ hy h,h1,h2=>by
  have:=uN hx i y hy (by omega) (by omega)
  have h3:=ab5 h this.1
  have h4:=Ql hx i y hy (by omega) (by omega)
  omega
theorem Qm {ns:List aL} {rk:Int} {ts:List am} {j:Nat} {S:Int×List am} (h:OpnP ns rk ts j S) (i:Nat) (hi:i<ts.length) (ht:bZ (ns.getD i (aa af)) (ts.getD i (aa ae))):wT (ns.getD i (aa af)) (S.2.getD i (aa ae))=wT (ns.getD i (aa af)) (ts.getD i (aa ae)):=by
 rcases h.is i hi with⟨_,h2⟩|⟨⟨_,h0,_⟩,ρ,h2,_⟩
 ·rw [h2]
 ·have h3:(ts.getD i (aa ae)).2.1=0:=by
   obtain⟨g1,g2,g3,g4,g5,g6,g7,g8⟩:=ht
   omega
  rw [h2]
  unfold wT
  rw [if_neg (bD rfl),if_neg (bD rfl),if_pos (.inr rfl),if_neg (by rw [h0];decide),if_neg (by rw [h0];decide),if_pos (.inl h0),h3]
  rfl
abbrev jx (t:cQ):List aj:=t.2.2.2.2.2.2.1
theorem ab6 {ck nr nt nk ne ac:Int} {rs:List aj} {es:List aK} {c:bm} {t:cQ} {r:mb} (h:SX ck nr nt nk ne ac rs es) (hs:Stp ck nr nt nk ne ac rs es c t r):
  (r.1≠0∧jx t=rs)∨(r.1=0∧((c.1=1∧(jx t=rs∨((jx t).length=rs.length+1∧od c.2.2.1.1∧W (jx t)=W rs+bK (fun i=>3*(c.2.2.1.1.getD i (aa af)).2.1) c.2.2.1.1.length)))∨
   (c.1≠1∧W (jx t)≤W rs∧((c.1=2∨c.1=3∨c.1=4)→W (jx t)<W rs)∧(c.1=7→W (jx t)+r.2.2.1≤W rs)))):=by
 cases hs with
 |err n=>exact .inl ⟨bD rfl,rfl⟩
 |known n hk hn hkey=>exact .inr ⟨rfl,.inl ⟨hk,.inl rfl⟩⟩
 |query n hk=>exact .inr ⟨rfl,.inr ⟨by omega,le_refl _,fun h=>by omega,fun h=>by omega⟩⟩
 |drain m hk=>exact .inr ⟨rfl,.inr ⟨by omega,le_refl _,fun h=>by omega,fun h=>by omega⟩⟩
 |ack hk h1 h2=>exact .inr ⟨rfl,.inr ⟨by omega,le_refl _,fun h=>by omega,fun h=>by omega⟩⟩
 |new hk hf hno h32 hkey hd hrk=>
  refine .inr ⟨rfl,.inl ⟨hk,.inr ⟨by simp [jx],hd,?_⟩⟩⟩
  obtain⟨ho,hop⟩:=Bf (id:=nr) h.nrI hkey hd hrk
  have hlen:(eG c.2.2.1.1 nk).2.length=c.2.2.1.1.length:=hop.len.trans (List.length_replicate ..)
  simp only [jx,fe,ab4]
  congr 1
  have e:wR (nr,c.2.1,c.2.2.1,ofNat 1,(eG c.2.2.1.1 nk).2,())=bK (wF (nr,c.2.1,c.2.2.1,ofNat 1,(eG c.2.2.1.1 nk).2,())) (eG c.2.2.1.1 nk).2.length:=if_pos rfl
  rw [e,hlen]
  refine oh _ fun i hi=> ?_
  have hi':i<(replicate c.2.2.1.1.length t0).length:=by rw [List.length_replicate];exact hi
  have e0:(replicate c.2.2.1.1.length t0).getD i (aa ae)=t0:=List.eq_of_mem_replicate (aC hi' _)
  have ht:bZ (c.2.2.1.1.getD i (aa af)) ((replicate c.2.2.1.1.length t0).getD i (aa ae)):=by
   rw [e0]
   have:=(gJ hd.2.1 hi).1.1
   exact⟨⟨dw.1,by simp only [bi];omega⟩,dw,dw,dw,fun h=>absurd rfl h,fun h=>absurd rfl h,⟨fun h=>absurd rfl h,fun h=>absurd h (bD rfl)⟩,.inl ⟨rfl,rfl⟩⟩
  have h1:=Qm hop i hi' ht
  rw [e0]at h1
  refine Eq.trans h1 ?_
  unfold wT
  rw [if_neg (bD rfl),if_neg (bD rfl),if_pos (.inl rfl)]
  simp only [bi]
  omega
 |poll n k un r' hk hf hn hkl h1 hun hT=>
  have hro:=h.rok hn
  have htk:=hro.tks k hkl
  have h1':(bp (rs.getD n (aa ab)) k).1=1:=h1
  have hst:=dF hro hkl (by rw [h1'];decide)
  have hg:=htk
  obtain⟨g1,g2,g3,g4,g5,g6,g7,g8⟩:=hg
  simp only [bp]at h1'
  have hnt:=h.ntI
  have ht:bZ (bT (rs.getD n (aa ab)) k) (ofNat 2,((aZ rs n).getD k (aa ae)).2.1+1,un,nt,ofNat 0,()):=
   ⟨⟨by simp only [aZ,bT];omega,by simp only [aZ,bT];omega⟩,hun,⟨by simp only;omega,by simp only;omega⟩,dw,fun h=>absurd rfl h,fun _=>.inl rfl,⟨fun _=>rfl,fun _=>by simp only;omega⟩,.inr (.inr (.inl ⟨rfl,by simp only [aZ,bT];omega⟩))⟩
  have h4:=uP hro hst hkl ht hT
  have e1:wT (bT (rs.getD n (aa ab)) k) (bp (rs.getD n (aa ab)) k)=3*((bT (rs.getD n (aa ab)) k).2.1-(bp (rs.getD n (aa ab)) k).2.1):=by
   unfold wT
   rw [if_neg (by rw [bp,h1'];decide),if_neg (by rw [bp,h1'];decide),if_pos (.inr h1')]
  have e2:wT (bT (rs.getD n (aa ab)) k) (ofNat 2,((aZ rs n).getD k (aa ae)).2.1+1,un,nt,ofNat 0,())=3*((bT (rs.getD n (aa ab)) k).2.1-((bp (rs.getD n (aa ab)) k).2.1+1))+2:=if_pos rfl
  rw [e1,e2]at h4
  have:W (rs.set n r')<W rs:=by rw [ol hn];omega
  exact .inr ⟨rfl,.inr ⟨by omega,by simp only [jx,fe];omega,fun _=>this,fun h=>by omega⟩⟩
 |complete n k r' rk' w hk hf hn hid hi hkl hrk hh hC hw=>
  have hro:=h.rok hn
  have hkl:k<(rs.getD n (aa ab)).2.2.2.2.1.length:=hkl
  have hh2:=hh
  obtain⟨htk,_,_,c2,_⟩:=hh2
  have c2':(bp (rs.getD n (aa ab)) k).1=2:=c2
  have hst:=dF hro hkl (by rw [c2'];decide)
  obtain⟨hok,hop⟩:=uM hro hst hkl hrk hh hC
  have b0:=fun i (hi:i<(rs.getD n (aa ab)).2.2.2.2.1.length)=>(Cd hro hi).1
  have b1:=Aj (f:=wF (rs.getD n (aa ab))) (k:=k) _ hkl b0
  have e0:wR (rs.getD n (aa ab))=bK (wF (rs.getD n (aa ab))) (rs.getD n (aa ab)).2.2.2.2.1.length:=if_pos hst
  have b2:2≤wF (rs.getD n (aa ab)) k:=by
   have:=htk.1
   simp only [wF,wT,c2',if_pos]
   simp only [bp,bT,aZ]at*
   omega
  have:wR r'<wR (rs.getD n (aa ab)):=by
   by_cases h1:r'.2.2.2.1=1
   ·rw [e0,show wR r'=bK (wF r') r'.2.2.2.2.1.length from if_pos h1,hC.len]
    have hset:∀i:Nat,i<(rs.getD n (aa ab)).2.2.2.2.1.length→bZ ((rs.getD n (aa ab)).2.2.1.1.getD i (aa af)) (((rs.getD n (aa ab)).2.2.2.2.1.set k (ofNat 4,(bp (rs.getD n (aa ab)) k).2.1,ofNat 0,ofNat 0,ofNat 0,())).getD i (aa ae)):=fun i hi=>by
     rw [bo hkl]
     split
     ·rename_i ck
      subst ck
      obtain⟨g1,g2,g3,g4,g5,g6,g7,g8⟩:=htk
      exact⟨g1,dw,dw,dw,fun h=>absurd rfl h,fun h=>absurd rfl h,⟨fun h=>absurd rfl h,fun h=>absurd h (bD rfl)⟩,.inr (.inr (.inr (.inr (.inl ⟨rfl,by simp only [bp,aZ,bT]at*;omega⟩))))⟩
     ·exact hro.tks i hi
    have hwi:∀i:Nat,i<(rs.getD n (aa ab)).2.2.2.2.1.length→wF r' i=wT ((rs.getD n (aa ab)).2.2.1.1.getD i (aa af)) (((rs.getD n (aa ab)).2.2.2.2.1.set k (ofNat 4,(bp (rs.getD n (aa ab)) k).2.1,ofNat 0,ofNat 0,ofNat 0,())).getD i (aa ae)):=fun i hi=>by
     have:=Qm hop i (by rw [length_set];exact hi) (hset i hi)
     simp only at this
     rw [←this]
     simp only [wF,bT,bp,hC.ns]
    have h5:=Ai (f:=wF (rs.getD n (aa ab))) (g:=wF r') (k:=k) _ hkl fun i hi hne=>by
     rw [hwi i hi,bo hkl,if_neg hne]
     exact le_refl _
    have h6:wF r' k=0:=by
     rw [hwi k hkl,bo hkl,if_pos rfl]
     unfold wT
     rw [if_neg (bD rfl),if_neg (bD rfl),if_neg (by rintro(h|h)<;>exact absurd h (bD rfl))]
    omega
   ·rw [show wR r'=0 from if_neg h1];omega
  have h7:W (rs.set n r')<W rs:=by rw [ol hn];omega
  exact .inr ⟨rfl,.inr ⟨by omega,by simp only [jx,fe];omega,fun _=>h7,fun h=>by omega⟩⟩
 |fail n k t' r' hk hf hn hid hi hkl hh hfl hT=>
  have hro:=h.rok hn
  obtain⟨htk,_,_,c2,_⟩:=hh
  have c2':(bp (rs.getD n (aa ab)) k).1=2:=c2
  have hst:=dF hro hkl (by rw [c2'];decide)
  have htr:1≤((aZ rs n).getD k (aa ae)).2.1:=by
   obtain⟨g1,g2,g3,g4,g5,g6,g7,g8⟩:=htk
   simp only [aZ,bT,bp]at*;omega
  have h4:=uP hro hst hkl (vx htk htr hfl).1 hT
  have h5:=Zb (js hro hkl) htk c2' hfl
  have h7:W (rs.set n r')<W rs:=by
   rw [ol hn]
   simp only [bp,bT,aZ]at h4 h5
   omega
  exact .inr ⟨rfl,.inr ⟨by omega,by simp only [jx,fe];omega,fun _=>h7,fun h=>by omega⟩⟩
 |beat n k un r' hk hf hn hid hi hkl hh hun hT=>
  have hro:=h.rok hn
  obtain⟨htk,_,_,c2,_⟩:=hh
  have c2':(bp (rs.getD n (aa ab)) k).1=2:=c2
  have hst:=dF hro hkl (by rw [c2'];decide)
  obtain⟨g1,g2,g3,g4,g5,g6,g7,g8⟩:=htk
  have ht:bZ (bT (rs.getD n (aa ab)) k) (((aZ rs n).getD k (aa ae)).1,((aZ rs n).getD k (aa ae)).2.1,un,((aZ rs n).getD k (aa ae)).2.2.2.1,((aZ rs n).getD k (aa ae)).2.2.2.2.1,()):=
   ⟨g1,hun,g3,g4,g5,fun _=>.inl c2,g7,g8⟩
  have h4:=uP hro hst hkl ht hT
  have e:wT (bT (rs.getD n (aa ab)) k) (((aZ rs n).getD k (aa ae)).1,((aZ rs n).getD k (aa ae)).2.1,un,((aZ rs n).getD k (aa ae)).2.2.2.1,((aZ rs n).getD k (aa ae)).2.2.2.2.1,())=wT (bT (rs.getD n (aa ab)) k) (bp (rs.getD n (aa ab)) k):=rfl
  rw [e]at h4
  have h7:W (rs.set n r')≤W rs:=by rw [ol hn];omega
  exact .inr ⟨rfl,.inr ⟨by omega,h7,fun h=>by omega,fun h=>by omega⟩⟩
 |cancel n r' hk hf hn hid h1 e1 e2 e3 e4 hd=>
  have h7:W (rs.set n r')≤W rs:=by
   have:=(Qk (h.rok hn)).1
   rw [ol hn,show wR r'=0 from if_neg (by rw [e4];decide)]
   omega
  exact .inr ⟨rfl,.inr ⟨by omega,h7,fun h=>by omega,fun h=>by omega⟩⟩
 |tick l d R nk' ne' w hk hf h1 h2 hl hs' hN=>
  obtain⟨f1,f2,f3,f4⟩:=hf
  have hx:SX c.2.2.2.2.2.2.2.1 nr nt nk ne ac rs (es++ []):=by
   rw [append_nil]
   exact⟨h.fine,⟨by have:=h.ckI.1;omega,h2⟩,h.nrI,h.nkI,h.ntI,h.neI,h.ack,h.elen,h.late,h.evs⟩
  have h3:=Ql (x:=(ofNat 0,rs,nk,ne,[])) hx _ _ hN (by simp only;omega) (by simp only;omega)
  have h4:=(ir _ _ hN).2.1
  simp only [bi]at h3 h4
  exact .inr ⟨rfl,.inr ⟨by omega,by simp only [jx,fe];omega,fun h=>by omega,fun _=>by simp only [jx,fe];omega⟩⟩
abbrev La:bm:=(ofNat 4,{data:= #[]},([],()),ofNat 0,ofNat 0,ofNat 1,ofNat 0,ofNat 0,())
theorem MY:SOk (gD (ofNat 2) u2):=MW (by decide) yL (.inr rfl) ⟨by decide,fun h=>absurd h (by decide)⟩
theorem ab7:SOk (gD (ofNat 1) u1):=MW (by decide) Qi (.inl rfl) ⟨by decide,fun _=>by decide⟩
theorem do4:∃T R,lu (gD (ofNat 2) u2,La,())=some (T,R,())∧R.1=0:=by
 have hr:=MV (t:=u2) (by decide)
 have hs:=MY
 have hc:=II hs (show 1≤9223372036854775807 by decide) hr
 have Ea:cK (gD (ofNat 2) u2,())=some (false,()):=rfl
 have h25:=aX hs
 have Ab:cB ([rn u2],ofNat 0,())=some (ofNat 0,true,0,()):=by
  obtain⟨i,b,e,hv,h⟩:=bU [rn u2] (show 1≤9223372036854775807 by decide) hr (ofNat 0)
  rcases h with⟨_,_,h⟩|⟨rfl,_,⟨rfl,n,rfl,h,_⟩|⟨_,h⟩⟩
  ·exact absurd hs.fine h
  ·obtain rfl:=lQ h
   exact hv
  ·exact absurd rfl (h 0 (by decide))
 have zY:∃r',ug (rn u2,ofNat 0,ofNat 1,ofNat 0,())=some (r',0,()):=by
  obtain⟨r',e',hv,h⟩:=kG (rn u2) (hr _ (List.mem_singleton.2 rfl)) (ofNat 0) (fun nd t=>wC (nd,t,ofNat 1,ofNat 0,())) (fun nd t h1 h2 h3=>by
   obtain⟨t',h,h4⟩:=f171 nd t (ofNat 1) (ofNat 0) h1 h2
   exact wO h fun hp=>Ah (h4 hp))
  rw [←Gh]at hv
  rcases h with⟨rfl,_⟩|⟨_,_,h⟩
  ·exact⟨r',hv⟩
  ·obtain⟨t',h2,_⟩:=f171 n1 u2 (ofNat 1) (ofNat 0) nd1 (by decide)
   rcases h2 with⟨_,h2⟩|⟨h2,_⟩
   ·exact absurd ⟨MT yL (.inr rfl),rfl,0,t',rfl,by decide,h2⟩ h
   ·exact absurd ⟨dw,yL,by decide,Za,rfl,rfl⟩ h2
 obtain⟨r',zY⟩:=zY
 have hF:lu (gD (ofNat 2) u2,La,())=oQ (gD (ofNat 2) u2,La,()):=rfl
 rw [hF]
 simp only [oQ,hc,bind_some,ny,cond_false,show(ofNat 4==ofNat 1)=false from rfl,show(ofNat 4==ofNat 2)=false from rfl,show(ofNat 4==ofNat 3)=false from rfl,beq_self_eq_true,cond_true,Ea]
 simp only [gD,mk]at h25
 simp only [uB,gD,mk,h25,bind_some,isEmpty_cons,cond_true,cond_false,Bool.not_true,length_singleton,zero_add,Nat.le_refl,decide_true,bj,Ab]
 have h124':ug (rn u2,ofNat 0,ofNat 1,ofNat 0,())=some (r',0,()):=zY
 show∃(T:cQ) (R:mb),Option.bind (ug (rn u2,ofNat 0,ofNat 1,ofNat 0,())) _=some (T,R,())∧R.1=0
 rw [h124',bind_some,cD]
 cases r'.2.2.2.1==ofNat 3 with
 |true=>exact⟨_,_,rfl,rfl⟩
 |false=>exact⟨_,_,rfl,rfl⟩
theorem w2:W [rn u2]=5:=rfl
theorem afI:∃t r,lu (gD (ofNat 2) u2,La,())=some (t,r,())∧r.1=0∧SOk t∧W (jx t)=4:=by
 obtain⟨T,R,h1,h2⟩:=do4
 obtain⟨v,hv,t,r,hdo,hq⟩:=Qh (gD (ofNat 2) u2) La (show 1≤9223372036854775807 by decide) (MV (t:=u2) (by decide)) (fun nd hnd=>(not_mem_nil hnd).elim)
 rw [h1]at hdo
 injection hdo with hdo
 obtain⟨rfl,hR⟩:=Prod.mk.inj hdo
 obtain⟨rfl,_⟩:=Prod.mk.inj hR
 rcases hq with⟨_,hso,hst,h40⟩|⟨_,h,_⟩
 ·have hsx:=vw hso
  have hto:=KX (KY hsx hst).1 h40
  refine⟨T,R,h1,h2,hto,?_⟩
  cases hst with
  |err n=>exact absurd h2 (bD rfl)
  |fail n k t' r' hk hf hn hid hi hkl hh hfl hT=>
   obtain rfl:=lQ hn
   obtain rfl:=lQ hkl
   have ht:sV n1 u2 (ofNat 0) t':=hfl
   rcases ht with⟨h,_⟩|⟨_,u,hu,rfl⟩
   ·exact absurd h (by decide)
   ·have e:W ([rn u2].set 0 r')=W [rn u2]-wR (rn u2)+wR r':=ol (rs:=[rn u2]) (by decide)
    have e2:wR (rn u2)=5:=rfl
    simp only [jx,fe]
    refine Eq.trans e ?_
    rw [w2,e2]
    rcases hT.how with⟨h,_⟩|⟨_,h3,⟨h,_⟩|⟨_,h4⟩⟩
    ·exact absurd h (bD rfl)
    ·have:=h _ (mem_set (by decide) _)
     exact absurd this (bD rfl)
    ·have e3:wR r'=bK (wF r') r'.2.2.2.2.1.length:=if_pos h4
     have hl:r'.2.2.2.2.1.length=1:=hT.len
     rw [e3,hl]
     have e4:wF r' 0=4:=by
      simp only [wF,bT,bp,hT.ns,h3]
      rfl
     simp only [bK,e4]
     rfl
  |known n hk=>exact absurd hk (bD rfl)
  |new hk=>exact absurd hk (bD rfl)
  |poll n k un r' hk=>exact absurd hk (bD rfl)
  |complete n k r' rk' w hk=>exact absurd hk (bD rfl)
  |beat n k un r' hk=>exact absurd hk (bD rfl)
  |cancel n r' hk=>exact absurd hk (bD rfl)
  |tick l d R nk' ne' w hk=>exact absurd hk (bD rfl)
  |query n hk=>exact absurd hk (bD rfl)
  |drain m hk=>exact absurd hk (bD rfl)
  |ack hk=>exact absurd hk (bD rfl)
 ·exact absurd MY h
theorem alive:Ou ()=some (true,()):=by
 have KE:UW ()=some (yK,()):=rfl
 have Yd:KC ()=some (gD (ofNat 1) u1,()):=by
  simp only [KC,KE,bind_some]
  have:lu (yK,(ofNat 1,{data:= #[97]},(take ((replicate 1 (eX Int,ofNat 0,ofNat 0,())).set 0 (eX Int,ofNat 2,ofNat 3,())).length (drop 0 ((replicate 1 (eX Int,ofNat 0,ofNat 0,())).set 0 (eX Int,ofNat 2,ofNat 3,()))),()),ofNat 0,ofNat 0,ofNat 0,ofNat 0,ofNat 0,()),())=_:=do1
  rw [this]
  rfl
 obtain⟨t,r,hd4,hr0,hto,hw⟩:=afI
 have h1:=f22 ab7
 have h2:=f22 MY
 have h3:=f22 hto
 have h1:sK (gD (ofNat 1) u1,())=some (6,ofNat 0,()):=h1
 have h2:sK (gD (ofNat 2) u2,())=some (5,ofNat 0,()):=h2
 simp only [jx]at hw
 rw [hw]at h3
 simp only [Ou,Yd,h1,do2,h2,hd4,h3,bind_some,hr0]
 rfl
theorem f94 (r:aj) (hn:r.2.2.1.1.length≤9223372036854775807):∃b,On (r,())=some (b,()):=by
 obtain⟨b,hb,_⟩:=f45 r.2.2.1.1 hn
 have hb':DO (r.2.2.1,())=some (b,()):=hb
 simp only [On,hb',bind_some]
 cases b with
 |true=>exact⟨_,rfl⟩
 |false=>
  simp only [cond_false]
  cases decide (((r.2.2.2.2.1.length:Nat):Int)>ofNat 60)with
  |true=>exact⟨_,rfl⟩
  |false=>exact⟨_,rfl⟩
theorem f56 (rs:List aj) (hl:rs.length≤9223372036854775807) (hr:∀r∈rs,r.2.2.1.1.length≤9223372036854775807):∃b,Oq (rs,())=some (b,()):=by
 simp only [Oq]
 cases decide (((rs.length:Nat):Int)>ofNat 60)with
 |true=>exact⟨_,rfl⟩
 |false=>
  obtain⟨y,hy,hq⟩:=aS (st:=gm) rs.length (fun i (_:Unit)=>(rs,(i:Int),())) (fun _ _=>True) (fun y=>y= .inr ()∨y= .inl (true,())) (fun i _ h _=>by
   obtain⟨b,hb⟩:=f94 (rs.getD i (aa ab)) (hr _ (aC h _))
   simp only [gm,lE,bw h,aM h,aF h,cond_true,toNat_natCast,hb,bind_some]
   cases b with
   |true=>exact .inr ⟨_,rfl,.inr rfl⟩
   |false=>
    rw [aR (by omega)]
    exact .inl ⟨(),rfl,trivial⟩) (fun _ _=>⟨.inr (),by simp only [gm,lE,bt,cond_false],.inl rfl⟩) () trivial
  have hy':oI (rs,ofNat 0,())=some y:=hy
  simp only [cond_false,hy',bind_some]
  rcases hq with rfl|rfl
  ·exact⟨_,rfl⟩
  ·exact⟨_,rfl⟩
theorem f21 (s:cQ) (hl:s.2.2.2.2.2.2.1.length≤9223372036854775807) (hr:∀r∈s.2.2.2.2.2.2.1,r.2.2.1.1.length≤9223372036854775807):∃b,Ot (s,())=some (b,()):=by
 obtain⟨b,hb⟩:=f56 s.2.2.2.2.2.2.1 hl hr
 simp only [Ot,hb,bind_some]
 cases b with
 |true=>exact⟨_,rfl⟩
 |false=>exact⟨_,rfl⟩
theorem f13 (c:bm) (hn:c.2.2.1.1.length≤9223372036854775807):∃b,Ok ([c],ofNat 1,())=some (b,()):=by
 obtain⟨b,hb,_⟩:=f45 c.2.2.1.1 hn
 have hb':DO (c.2.2.1,())=some (b,()):=hb
 simp only [Ok]
 rw [decide_eq_false (show¬((([c]:List bm).length:Nat):Int)>ofNat 1 by simp),cond_false]
 obtain⟨y,hy,hq⟩:=aS (st:=gj) 1 (fun i (_:Unit)=>([c],(i:Int),())) (fun _ _=>True) (fun y=>y= .inr ()∨y= .inl (true,())) (fun i _ h _=>by
   obtain rfl:i=0:=by omega
   have h:0<([c]:List bm).length:=by simp
   have hg:([c]:List bm).getD 0 (aa dM)=c:=rfl
   simp only [gj,lz,bw h,aM h,aF h,cond_true,toNat_natCast,hg,hb',bind_some]
   cases b with
   |true=>exact .inr ⟨_,rfl,.inr rfl⟩
   |false=>
    simp only [cond_false]
    cases decide (((c.2.1.size:Nat):Int)>ofNat 1000)with
    |true=>exact .inr ⟨_,rfl,.inr rfl⟩
    |false=>
     rw [aR (by simp)]
     exact .inl ⟨(),rfl,trivial⟩) (fun _ _=>⟨.inr (),by simp only [gj,lz];rfl,.inl rfl⟩) () trivial
 have hy':oD ([c],ofNat 0,())=some y:=hy
 simp only [hy',bind_some]
 rcases hq with rfl|rfl
 ·exact⟨_,rfl⟩
 ·exact⟨_,rfl⟩
noncomputable abbrev Ak (ns:List aL):Nat→Int:=bK (fun i=>3*(ns.getD i (aa af)).2.1)
theorem l5 (was now a1 a2 a3 a4 a5 a6 b1 d1 d2 d3 d4 d5 e1 e2 e3 e4 e5 e6:Int) (rs R:List aj) (es E:List aK) (key:ByteArray) (ns:List aL) (hns:ns.length≤9223372036854775807) (h:R.length=rs.length∨(R.length=rs.length+1∧od ns)):
  ∃y,qt (was,now,ofNat 0,ofNat 0,a1,a2,a3,a4,a5,a6,rs,es,b1,key,ns,d1,d2,d3,d4,d5,e1,e2,e3,e4,e5,e6,R,E,())=some y∧y.1=was∧y.2.1=now∧((R.length=rs.length∧y.2.2.1=0)∨(R.length=rs.length+1∧y.2.2.1=Ak ns ns.length)):=by
 rcases h with h|⟨h,hd⟩
 ·obtain⟨y,hy,h1,h2,h3⟩:=aS (st:=eK) 0 (fun i (_:Unit)=>(was,now,ofNat 0,(i:Int),a1,a2,a3,a4,a5,a6,rs,es,b1,key,ns,d1,d2,d3,d4,d5,e1,e2,e3,e4,e5,e6,R,E,())) (fun _ _=>True) (fun y=>y.1=was∧y.2.1=now∧y.2.2.1=0) (fun i _ h _=>absurd h (not_lt_zero _)) (fun _ _=>by
   simp only [eK,jl,ii]
   rw [decide_eq_false (show¬((R.length:Nat):Int)>((rs.length:Nat):Int) by omega)]
   cases decide (((0:Nat):Int)<((ns.length:Nat):Int))with
   |true=>exact⟨_,rfl,rfl,rfl,rfl⟩
   |false=>exact⟨_,rfl,rfl,rfl,rfl⟩) () trivial
  exact⟨y,hy,h1,h2,.inl ⟨h,h3⟩⟩
 ·have hb:=fun i (hi:i≤ns.length)=>yM (f:=fun i=>3*(ns.getD i (aa af)).2.1) (b:=15) i fun j hj=>by
   have:=(gJ hd.2.1 (i:=j) (by omega)).1
   omega
  have h12:=hd.1.2
  obtain⟨y,hy,h1,h2,h3⟩:=aS (st:=eK) ns.length (fun i (a:Int)=>(was,now,a,(i:Int),a1,a2,a3,a4,a5,a6,rs,es,b1,key,ns,d1,d2,d3,d4,d5,e1,e2,e3,e4,e5,e6,R,E,())) (fun i a=>a=Ak ns i) (fun y=>y.1=was∧y.2.1=now∧y.2.2.1=Ak ns ns.length) (fun i a hi ha=>by
   have h4:=(gJ hd.2.1 hi).1
   have h5:=hb i (by omega)
   have e0:IntKind.i64.wrap (ofNat 3*(ns.getD i (aa af)).2.1)=3*(ns.getD i (aa af)).2.1:=by rw [IntKind.wrap_i64];simp only [bi];omega
   have e:IntKind.i64.wrap (a+IntKind.i64.wrap (ofNat 3*(ns.getD i (aa af)).2.1))=Ak ns (i+1):=by
    rw [e0,IntKind.wrap_i64,ha]
    simp only [Ak,bK]at*
    omega
   simp only [eK,jl,ii,bw hi,aM hi,aF hi,cond_true,toNat_natCast,e]
   rw [decide_eq_true (show((R.length:Nat):Int)>((rs.length:Nat):Int) by omega),cond_true,aR (by omega)]
   exact .inl ⟨_,rfl,rfl⟩) (fun a ha=>by
   subst ha
   simp only [eK,jl,ii,bt,cond_false]
   exact⟨_,rfl,rfl,rfl,rfl⟩) 0 rfl
  exact⟨y,hy,h1,h2,.inr ⟨h,h3⟩⟩
theorem Qn {r:aj} (h:qJ ab r):bH r∧r.2.2.1.1.length≤9223372036854775807:=by
 obtain⟨_,_,⟨⟨hn,hns⟩,_⟩,_,⟨ht,hts⟩,_⟩:=h
 refine⟨⟨fun nd hnd=>(hns nd hnd).1.1,ht,fun t h=> ?_⟩,hn⟩
 have h1:(Lit.int .u8 t.1).wf=true:=(hts t h).1
 simp only [Lit.wf,Bool.and_eq_true,decide_eq_true_eq]at h1
 exact h1.1
theorem f5 (s:cQ) (c:bm) (hm:s.2.2.2.2.2.2.1.length≤9223372036854775807) (hr:∀r∈s.2.2.2.2.2.2.1,bH r) (hrn:∀r∈s.2.2.2.2.2.2.1,r.2.2.1.1.length≤9223372036854775807) (hcn:c.2.2.1.1.length≤9223372036854775807) (hcs:∀nd∈c.2.2.1.1,nd.1.length≤9223372036854775807):F5 (s,c,())=some (true,()):=by
 obtain⟨ck,nr,nt,nk,ne,ac,rs,es,_⟩:=s
 simp only at hm hr hrn
 obtain⟨b1,hb1⟩:=f21 (mk ck nr nt nk ne ac rs es) hm hrn
 obtain⟨b2,hb2⟩:=f13 c hcn
 obtain⟨v,hv,t,r,hdo,hq⟩:=Qh (mk ck nr nt nk ne ac rs es) c hm hr hcs
 have hA:ai (aU (ofNat 0,{data:= #[]},([],()),ofNat 0,ofNat 0,ofNat 0,ofNat 0,ofNat 0,()) c)= [c]:=rfl
 simp only [mk]at hb1
 simp only [F5,alive,hb1,bind_some]
 cases b1 with
 |true=>rfl
 |false=>
 simp only [cond_false,hA,hb2,bind_some]
 cases b2 with
 |true=>rfl
 |false=>
 have hdo':lu (mk ck nr nt nk ne ac rs es,c,PUnit.unit)=some (t,r,()):=hdo
 simp only [cond_false,Bool.not_true]
 rcases hq with⟨rfl,hso,hst,h40⟩|⟨⟨n,rfl⟩,_,rfl,rfl⟩
 ·have hsx:=vw hso
  obtain⟨hsx2,_⟩:=KY hsx hst
  have hto:SOk t:=KX hsx2 h40
  have b1:0≤W rs∧W rs≤6528:=MX hso.fine _ (Nat.le_refl _)
  have b2:0≤W t.2.2.2.2.2.2.1∧W t.2.2.2.2.2.2.1≤6528:=MX hto.fine _ (Nat.le_refl _)
  have hw:=ab6 hsx hst
  have f1:=f22 hso
  have f2:=f22 hto
  simp only [jx]at hw
  obtain⟨was,hW⟩:∃z,z=W rs:=⟨_,rfl⟩
  obtain⟨now,hN⟩:∃z,z=W t.2.2.2.2.2.2.1:=⟨_,rfl⟩
  rw [←hW]at b1 f1 hw
  rw [←hN]at b2 f2 hw
  simp only [mk]at f1 hdo'
  simp only [f1,f2,hdo',bind_some]
  simp only [show(ofNat 0 !=ofNat 0)=false from rfl,cond_false]
  rcases hw with⟨hr0,he⟩|⟨hr0,hw⟩
  ·rw [show(r.1 !=ofNat 0)=true by simpa using hr0,cond_true]
   have:now=was:=by rw [hN,he,hW]
   subst this
   simp
  ·rw [show(r.1 !=ofNat 0)=false by rw [hr0];rfl,cond_false]
   rcases hw with⟨h1,hw⟩|⟨h1,hle,hlt,h7⟩
   ·rw [h1]
    obtain⟨y,hy,y1,y2,y3⟩:=l5 was now ck nr nt nk ne ac 1 c.2.2.2.1 c.2.2.2.2.1 c.2.2.2.2.2.1 c.2.2.2.2.2.2.1 c.2.2.2.2.2.2.2.1 t.1 t.2.1 t.2.2.1 t.2.2.2.1 t.2.2.2.2.1 t.2.2.2.2.2.1 rs t.2.2.2.2.2.2.1 es t.2.2.2.2.2.2.2.1 c.2.1 c.2.2.1.1 hcn (by
     rcases hw with hw|⟨hw,hd,_⟩
     ·exact .inl (by rw [hw])
     ·exact .inr ⟨hw,hd⟩)
    simp only [show((1:Int)==ofNat 2)=false from rfl,show((1:Int)==ofNat 3)=false from rfl,show((1:Int)==ofNat 4)=false from rfl,show((1:Int)==ofNat 7)=false from rfl,show((1:Int)==ofNat 1)=true from rfl,cond_false,cond_true,hy,bind_some,y1,y2]
    have e:IntKind.i64.wrap (was+y.2.2.1)=now:=by
     rcases hw with hw|⟨hw,hd,he⟩
     ·have:now=was:=by rw [hN,hw,hW]
      rcases y3 with⟨_,y3⟩|⟨y3,_⟩
      ·rw [y3,this,IntKind.wrap_i64];omega
      ·rw [hw]at y3;omega
     ·rcases y3 with⟨y3,_⟩|⟨_,y3⟩
      ·omega
      ·rw [y3,IntKind.wrap_i64]
       simp only [Ak]
       omega
    rw [e]
    simp
   ·by_cases k2:c.1=2
    ·rw [show(c.1==ofNat 2)=true by rw [k2];rfl,cond_true,decide_eq_true (hlt (.inl k2))]
    rw [show(c.1==ofNat 2)=false by simpa using k2,cond_false]
    by_cases k3:c.1=3
    ·rw [show(c.1==ofNat 3)=true by rw [k3];rfl,cond_true,decide_eq_true (hlt (.inr (.inl k3)))]
    rw [show(c.1==ofNat 3)=false by simpa using k3,cond_false]
    by_cases k4:c.1=4
    ·rw [show(c.1==ofNat 4)=true by rw [k4];rfl,cond_true,decide_eq_true (hlt (.inr (.inr k4)))]
    rw [show(c.1==ofNat 4)=false by simpa using k4,cond_false]
    by_cases k7:c.1=7
    ·have h8:=h7 k7
     rw [show(c.1==ofNat 7)=true by rw [k7];rfl,cond_true,decide_eq_true (show now≤IntKind.i64.wrap (was-r.2.2.1) by
      have h9:0≤r.2.2.1:=by
       cases hst with
       |tick l d R nk' ne' w hk hf h1 h2 hl hs' hN'=>exact(ir _ _ hN').2.1
       |_=>first|exact le_refl _|exact natCast_nonneg _|omega
      rw [IntKind.wrap_i64];omega)]
    rw [show(c.1==ofNat 7)=false by simpa using k7,cond_false,show(c.1==ofNat 1)=false by simpa using h1,cond_false,decide_eq_true hle]
 ·have c0:(ofNat (n+1) !=ofNat 0)=true:=by simp;omega
  have PP:sK (mk ck nr nt nk ne ac rs es,())=some (ofNat 0,ofNat (n+1),()):=by
   simp only [sK,hv,bind_some,c0,cond_true]
  simp only [mk]at PP
  simp only [PP,bind_some,c0,cond_true]
  rfl
theorem pure:∀x:aG (.cons cG (.cons dM .nil)),qJ (.cons cG (.cons dM .nil)) x→∃y,F5 x=some y∧y.1=true:=by
 intro x hx
 obtain⟨s,c,_⟩:=x
 obtain⟨⟨_,_,_,_,_,_,⟨hm,hrs⟩,_,_⟩,⟨_,_,⟨⟨hcn,hcs⟩,_⟩,_⟩,_⟩:=hx
 exact⟨_,f5 s c hm (fun r h=>(Qn (hrs r h)).1) (fun r h=>(Qn (hrs r h)).2) hcn fun nd hnd=>(hcs nd hnd).1.1,rfl⟩
end Go.Proofs.YtbkjflfbgknagaaGreat.fairLighter.Code
