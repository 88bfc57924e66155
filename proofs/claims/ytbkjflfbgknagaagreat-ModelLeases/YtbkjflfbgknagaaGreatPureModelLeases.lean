import Derived.Test.YtbkjflfbgknagaaGreatPureModelLeases0
set_option maxRecDepth 100000
set_option linter.unusedVariables false
set_option linter.unusedSimpArgs false
set_option linter.constructorNameAsVariable false
namespace Go.Proofs.YtbkjflfbgknagaaGreat.modelLeases.Code
open Go Go.Am
open List (length_set getD_eq_getElem?_getD replicate length_append length_singleton getElem?_append_right getElem?_append_left append_nil length_drop take take_of_length_le isEmpty isEmpty_nil length_cons length_nil drop_zero drop getD isEmpty_cons take_length not_mem_nil length)
open Option (bind_some)
open Int (ofNat le_refl natCast_nonneg toNat_natCast negSucc)
open Nat (not_lt_zero sub_self zero_add sub_zero zero_le)
abbrev bN (r:am) (j:Nat):aq:=r.2.2.2.2.1.getD j (aa ab)
abbrev dC (r:am) (j:Nat):aR:=r.2.2.1.1.getD j (aa ah)
theorem bG {a b:Int} (h:decide (a=b)=false):¬a=b:=of_decide_eq_false h
theorem ga:bX (ofNat 0):=by decide
theorem ZA {nd:aR} {t:aq} (h:cH nd t):cH nd (dr t):=
 ⟨h.1,ga,ga,ga,fun h=>absurd rfl h,fun h=>absurd rfl h,⟨fun h=>absurd rfl h,fun h=>absurd h (bG rfl)⟩,.inr (.inr (.inr (.inr (.inr (.inr rfl)))))⟩
theorem Mt {nd:aR} {t:aq} (h:cH nd t):0≤t.1∧t.1≤6:=by
 obtain⟨_,_,_,_,_,_,_,h⟩:=h
 omega
theorem vI {A B:List aq} {nd:aR} (h:∀j:Nat,(A.getD j (aa ab)).1=4↔(B.getD j (aa ab)).1=4):gL A nd↔gL B nd:=
 ⟨fun h2 v hv=>(h _).1 (h2 v hv),fun h2 v hv=>(h _).2 (h2 v hv)⟩
theorem zQ {l:List aq} {t:aq} (h:t∈l):∃j:Nat,j<l.length∧l.getD j (aa ab)=t:=by
 obtain⟨j,hj,rfl⟩:=List.getElem_of_mem h
 exact⟨j,hj,bD hj _⟩
theorem gc {r:am} (h:ROk r) {k:Nat} (hk:k<r.2.2.2.2.1.length) (hs:(bN r k).1≤3):r.2.2.2.1=1:=by
 have hm:=aG hk (aa ab)
 unfold bN at hs
 rcases h.st with⟨h1,_⟩|⟨_,h2⟩|⟨_,_,h2⟩|⟨_,_,h2⟩
 ·exact h1
 ·have:=h2 _ hm;omega
 ·have:=h2 _ hm;omega
 ·have:=h2 _ hm;omega
theorem Hv {ns:List aR} {ts ts':List aq} (hl:ts.length=ns.length) (ht:∀i:Nat,i<ts.length→cH (ns.getD i (aa ah)) (ts.getD i (aa ab))) (h:iv ns ts ts'):∀i:Nat,i<ts'.length→cH (ns.getD i (aa ah)) (ts'.getD i (aa ab))∧((ts'.getD i (aa ab)).1=4∨(ts'.getD i (aa ab)).1=5∨(ts'.getD i (aa ab)).1=6):=fun i hi=>by
 rw [h.1]at hi
 rcases h.2 i hi with⟨h1,h2⟩|⟨h1,h2⟩
 ·rw [h2]
  refine⟨ht i hi,?_⟩
  by_cases c4:(ts.getD i (aa ab)).1=4
  ·exact .inl c4
  by_cases c5:(ts.getD i (aa ab)).1=5
  ·exact .inr (.inl c5)
  by_cases c6:(ts.getD i (aa ab)).1=6
  ·exact .inr (.inr c6)
  exact absurd ⟨ht i hi,c4,c5,c6⟩ h1
 ·rw [h2]
  exact⟨ZA h1.1,.inr (.inr rfl)⟩
theorem oD {r r':am} {k:Nat} {t':aq} (h:ROk r) (h1:r.2.2.2.1=1) (hk:k<r.2.2.2.2.1.length) (h0:(bN r k).1≠0) (h4:(bN r k).1≠4) (ht:cH (dC r k) t') (n0:t'.1≠0) (n4:t'.1≠4) (n6:t'.1≠6) (hT:Turn r k t' r'):ROk r':=by
 obtain⟨id,key,⟨ns,_⟩,st,ts,_⟩:=r
 obtain⟨id',key',ns',st',ts',_⟩:=r'
 obtain⟨e1,e2,e3,e4,_,how⟩:=hT
 simp only at e1 e2 e3 e4 how h1 hk
 subst e1 e2 e3 h1
 obtain⟨q1,q2,q3,q4,q5,q6⟩:=h
 simp only at q1 q2 q3 q4 q5 q6
 simp only [bN,dC]at h0 h4 ht
 have hset:∀i:Nat,i<(ts.set k t').length→cH (ns.getD i (aa ah)) ((ts.set k t').getD i (aa ab)):=fun i hi=>by
  rw [length_set]at hi
  rw [bq hk]
  split
  ·rename_i c;rw [c];exact ht
  ·exact q5 i hi
 rcases how with⟨c5,rfl,hd⟩|⟨c5,rfl,how⟩
 ·have hts:=Hv (by rw [length_set];exact q4) hset hd
  refine⟨q1,q2,q3,by simp only;omega,fun i hi=>(hts i hi).1,.inr (.inr (.inl ⟨rfl,⟨t',?_,c5⟩,gM fun i hi=>(hts i hi).2⟩))⟩
  rcases hd.2 k (by rw [length_set];exact hk)with⟨_,h2⟩|⟨h2,_⟩
  ·rw [bq hk,if_pos rfl]at h2
   rw [←h2]
   exact aG (by rw [hd.1,length_set];exact hk) _
  ·rw [bq hk,if_pos rfl]at h2
   exact absurd c5 h2.2.2.1
 ·have hmem:t'∈ts.set k t':=List.mem_set hk t'
  rcases how with⟨h2,_⟩|⟨h2,rfl⟩
  ·exact absurd (h2 t' hmem) n4
  ·rcases q6 with⟨_,hm,_,hn⟩|⟨h3,_⟩|⟨h3,_⟩|⟨h3,_⟩
   ·refine⟨q1,q2,q3,by simp only;rw [length_set];exact q4,hset,.inl ⟨rfl,fun i hi=> ?_,h2,fun⟨t,ht,h5⟩=> ?_⟩⟩
    ·rw [vI (B:=ts) fun j=>by
      rw [bq hk]
      split
      ·rename_i c;rw [c];exact⟨fun h=>absurd h n4,fun h=>absurd h h4⟩
      ·exact Iff.rfl]
     rw [hm i hi,bq hk]
     split
     ·rename_i c;rw [c];exact⟨fun _=>n0,fun _=>h0⟩
     ·exact Iff.rfl
    ·rcases List.mem_or_eq_of_mem_set ht with h6|rfl
     ·exact hn ⟨t,h6,h5⟩
     ·omega
   ·exact absurd h3 (bG rfl)
   ·exact absurd h3 (bG rfl)
   ·exact absurd h3 (bG rfl)
theorem Kh {r r':am} (h:ROk r) (h1:r.2.2.2.1=1) (e1:r'.1=r.1) (e2:r'.2.1=r.2.1) (e3:r'.2.2.1=r.2.2.1) (e4:r'.2.2.2.1=4) (hd:iv r.2.2.1.1 r.2.2.2.2.1 r'.2.2.2.2.1):ROk r':=by
 obtain⟨id,key,⟨ns,_⟩,st,ts,_⟩:=r
 obtain⟨id',key',ns',st',ts',_⟩:=r'
 simp only at e1 e2 e3 e4 hd h1
 subst e1 e2 e3 e4 h1
 obtain⟨q1,q2,q3,q4,q5,q6⟩:=h
 simp only at q1 q2 q3 q4 q5 q6
 have hts:=Hv q4 q5 hd
 rcases q6 with⟨_,hm,h4,hn⟩|⟨h3,_⟩|⟨h3,_⟩|⟨h3,_⟩
 ·refine⟨q1,q2,q3,by rw [←q4];exact hd.1,fun i hi=>(hts i hi).1,.inr (.inr (.inr ⟨rfl,?_,gM fun i hi=> ?_⟩))⟩
  ·obtain⟨k,hk,h5⟩:∃k:Nat,k<ts.length∧(ts.getD k (aa ab)).1≠4:=Classical.byContradiction fun hc=>h4 (gM fun j hj=>Classical.byContradiction fun h=>hc ⟨j,hj,h⟩)
   have hk':k<ts'.length:=by rw [hd.1];exact hk
   refine⟨_,aG hk' (aa ab),?_⟩
   rcases hd.2 k hk with⟨_,h2⟩|⟨_,h2⟩
   ·rw [h2]
    have h6:=(hts k hk').2
    rw [h2]at h6
    have:¬(ts.getD k (aa ab)).1=5:=fun h=>hn ⟨_,aG hk _,.inl h⟩
    omega
   ·rw [h2];rfl
  ·have h6:=(hts i hi).2
   rw [hd.1]at hi
   rcases hd.2 i hi with⟨_,h2⟩|⟨_,h2⟩
   ·rw [h2]at h6⊢
    have:¬(ts.getD i (aa ab)).1=5:=fun h=>hn ⟨_,aG hi _,.inl h⟩
    omega
   ·rw [h2];exact .inr rfl
 ·exact absurd h3 (bG rfl)
 ·exact absurd h3 (bG rfl)
 ·exact absurd h3 (bG rfl)
structure OpnP (ns:List aR) (rk:Int) (ts:List aq) (j:Nat) (S:Int×List aq):Prop where
 lo:rk≤S.1
 hi:S.1≤rk+j
 len:S.2.length=ts.length
 is:∀i:Nat,i<ts.length→(¬(i<j∧(ts.getD i (aa ab)).1=0∧gL ts (ns.getD i (aa ah)))∧S.2.getD i (aa ab)=ts.getD i (aa ab))∨((i<j∧(ts.getD i (aa ab)).1=0∧gL ts (ns.getD i (aa ah)))∧∃ρ:Int,S.2.getD i (aa ab)=(ofNat 1,ofNat 0,ofNat 0,ofNat 0,ρ,())∧rk≤ρ∧ρ<S.1)
 up:∀i i':Nat,i<i'→i'<ts.length→(ts.getD i (aa ab)).1=0→(S.2.getD i (aa ab)).1=1→(ts.getD i' (aa ab)).1=0→(S.2.getD i' (aa ab)).1=1→dB (S.2.getD i (aa ab))<dB (S.2.getD i' (aa ab))
theorem OpnP.four {ns:List aR} {rk:Int} {ts:List aq} {j:Nat} {S:Int×List aq} (h:OpnP ns rk ts j S) (i:Nat):(S.2.getD i (aa ab)).1=4↔(ts.getD i (aa ab)).1=4:=by
 by_cases hi:i<ts.length
 ·rcases h.is i hi with⟨_,h2⟩|⟨⟨_,h0,_⟩,ρ,h2,_⟩
  ·rw [h2]
  ·rw [h2,h0];exact⟨fun h=>absurd h (bG rfl),fun h=>absurd h (bG rfl)⟩
 ·have h1:S.2.length≤i:=by have:=h.len;omega
  rw [getD_eq_getElem?_getD,List.getElem?_eq_none h1,getD_eq_getElem?_getD,List.getElem?_eq_none (by omega)]
theorem Ga {ns:List aR} {rk:Int} {ts:List aq} (hl:ts.length=ns.length) (h0:0≤rk) (h1:rk+ns.length≤1099511627776) (ht:∀i:Nat,i<ts.length→cH (ns.getD i (aa ah)) (ts.getD i (aa ab))):∀j:Nat,j≤ns.length→OpnP ns rk ts j (opn ns (rk,ts) j)
 |0,_=>⟨le_refl _,by simp only [opn];omega,rfl,fun i hi=>.inl ⟨fun h=>absurd h.1 (not_lt_zero _),rfl⟩,fun i i' _ _ h1 h2=>by
   simp only [opn]at h2;omega⟩
 |j+1,hj=>by
  have ih:=Ga hl h0 h1 ht j (by omega)
  rw [opn]
  generalize hS:opn ns (rk,ts) j=S at ih
  have hjt:j<ts.length:=by omega
  have hSj:S.2.getD j (aa ab)=ts.getD j (aa ab):=by
   rcases ih.is j hjt with⟨_,h2⟩|⟨⟨h2,_⟩,_⟩
   ·exact h2
   ·exact absurd h2 (Nat.lt_irrefl _)
  have hmet:gL S.2 (ns.getD j (aa ah))↔gL ts (ns.getD j (aa ah)):=vI ih.four
  rw [hSj,hmet]
  have hlo:=ih.lo
  have hhi:=ih.hi
  have hjS:j<S.2.length:=by rw [ih.len];exact hjt
  by_cases c:(ts.getD j (aa ab)).1=0∧gL ts (ns.getD j (aa ah))
  ·have hc:bX S.1:=⟨by omega,by omega⟩
   have hw:IntKind.i64.wrap (S.1+ofNat 1)=S.1+1:=by rw [IntKind.wrap_i64];simp only [bm];omega
   rw [if_pos c,if_pos ⟨hc,ht j hjt⟩,hw]
   refine⟨by simp only;omega,by simp only;omega,by simp only;rw [length_set];exact ih.len,fun i hi=> ?_,fun i i' hii hi' z1 z2 z3 z4=> ?_⟩
   ·simp only
    rw [bq hjS]
    by_cases e:i=j
    ·subst e
     rw [if_pos rfl]
     exact .inr ⟨⟨Nat.lt_succ_self _,c⟩,_,rfl,hlo,by omega⟩
    ·rw [if_neg e]
     rcases ih.is i hi with⟨h2,h3⟩|⟨⟨h2,h3⟩,ρ,h4,h5,h6⟩
     ·exact .inl ⟨fun h=>h2 ⟨by omega,h.2⟩,h3⟩
     ·exact .inr ⟨⟨by omega,h3⟩,ρ,h4,h5,by omega⟩
   ·simp only at z2 z4⊢
    rw [bq hjS]at z2 z4⊢
    rw [bq hjS]
    have far:∀a:Nat,a<ts.length→(ts.getD a (aa ab)).1=0→(S.2.getD a (aa ab)).1=1→a<j∧dB (S.2.getD a (aa ab))<S.1:=fun a ha y1 y2=>by
     rcases ih.is a ha with⟨h2,h3⟩|⟨⟨h2,h3⟩,ρ,h4,h5,h6⟩
     ·rw [h3,y1]at y2;exact absurd y2 (bG rfl)
     ·rw [h4];exact⟨h2,h6⟩
    by_cases e:i=j
    ·subst e
     rw [if_neg (by omega)]at z4
     have:=(far i' hi' z3 z4).1
     omega
    ·rw [if_neg e]at z2⊢
     by_cases e':i'=j
     ·subst e'
      rw [if_pos rfl]
      exact(far i (by omega) z1 z2).2
     ·rw [if_neg e']at z4⊢
      exact ih.up i i' hii hi' z1 z2 z3 z4
  ·rw [if_neg c]
   refine⟨hlo,by omega,ih.len,fun i hi=> ?_,ih.up⟩
   rcases ih.is i hi with⟨h2,h3⟩|⟨⟨h2,h3⟩,h4⟩
   ·refine .inl ⟨fun h=> ?_,h3⟩
    by_cases e:i=j
    ·subst e;exact c h.2
    ·exact h2 ⟨by omega,h.2⟩
   ·exact .inr ⟨⟨by omega,h3⟩,h4⟩
theorem Hw {ns:List aR} {rk:Int} {ts:List aq} {S:Int×List aq} (hn:∀i:Nat,i<ns.length→ep (ns.getD i (aa ah))) (hl:ts.length=ns.length) (h0:0≤rk) (h1:rk+ns.length≤1099511627776) (ht:∀i:Nat,i<ts.length→cH (ns.getD i (aa ah)) (ts.getD i (aa ab))) (h:OpnP ns rk ts ns.length S):∀i:Nat,i<S.2.length→cH (ns.getD i (aa ah)) (S.2.getD i (aa ab)):=fun i hi=>by
 rw [h.len]at hi
 rcases h.is i hi with⟨_,h3⟩|⟨h2,ρ,h4,h5,h6⟩
 ·rw [h3];exact ht i hi
 ·rw [h4]
  have:=h.hi
  have:=(hn i (by omega)).1.1
  exact⟨⟨ga.1,by simp only [bm];omega⟩,ga,ga,⟨by simp only;omega,by simp only;omega⟩,fun _=>rfl,fun h=>absurd rfl h,⟨fun h=>absurd rfl h,fun h=>absurd h (bG rfl)⟩,.inr (.inl ⟨rfl,by simp only [bm];omega⟩)⟩
theorem Mu {ns:List aR} {rk:Int} {ts:List aq} {S:Int×List aq} (hl:ts.length=ns.length) (hm:∀i:Nat,i<ns.length→(ts.getD i (aa ab)).1≠0→gL ts (ns.getD i (aa ah))) (h4:¬∀t∈ts,t.1=4) (hn:¬∃t∈ts,t.1=5∨t.1=6) (h:OpnP ns rk ts ns.length S):Hm ns S.2 1:=by
 refine .inl ⟨rfl,fun i hi=> ?_,fun hc=>h4 (gM fun j hj=>(h.four j).1 (hc _ (aG (by rw [h.len];exact hj) _))),fun⟨t,ht,h5⟩=> ?_⟩
 ·rw [vI h.four]
  rcases h.is i (by omega)with⟨h2,h3⟩|⟨⟨_,h2,h3⟩,ρ,h5,_⟩
  ·rw [h3]
   exact⟨fun h5 h6=>h2 ⟨hi,h6,h5⟩,hm i hi⟩
  ·rw [h5]
   exact⟨fun _=>bG rfl,fun _=>h3⟩
 ·obtain⟨j,hj,rfl⟩:=zQ ht
  rw [h.len]at hj
  rcases h.is j hj with⟨_,h3⟩|⟨_,ρ,h6,_⟩
  ·rw [h3]at h5;exact hn ⟨_,aG hj _,h5⟩
  ·rw [h6]at h5;rcases h5 with h5|h5<;>exact absurd h5 (bG rfl)
theorem vJ {r r':am} {k:Nat} {rk rk' tk:Int} (h:ROk r) (h1:r.2.2.2.1=1) (hk:k<r.2.2.2.2.1.length) (hrk:pn rk) (hh:jR (dC r k) (bN r k) tk) (hC:Cmpl r k rk r' rk'):ROk r'∧OpnP r.2.2.1.1 rk (r.2.2.2.2.1.set k (ofNat 4,(bN r k).2.1,ofNat 0,ofNat 0,ofNat 0,())) r.2.2.1.1.length (rk',r'.2.2.2.2.1):=by
 obtain⟨id,key,⟨ns,_⟩,st,ts,_⟩:=r
 obtain⟨id',key',ns',st',ts',_⟩:=r'
 obtain⟨e1,e2,e3,e4,e5,hst,e6,_⟩:=hC
 simp only at e1 e2 e3 e4 e5 e6 hst h1 hk
 subst e1 e2 e3 h1
 obtain⟨q1,q2,q3,q4,q5,q6⟩:=h
 simp only at q1 q2 q3 q4 q5 q6
 simp only [bN,dC]at hh⊢
 generalize hte:(ts.getD k (aa ab))=t at hh e4 e5 hst⊢
 obtain⟨⟨g1,g2,g3,g4,g5,g6,g7,g8⟩,_,_,c2,_⟩:=hh
 have fZ:=q3.1.2
 have hrk1:rk+ns.length≤1099511627776:=by have:=hrk.2;omega
 have ht4:cH (ns.getD k (aa ah)) (ofNat 4,t.2.1,ofNat 0,ofNat 0,ofNat 0,()):=
  ⟨g1,ga,ga,ga,fun h=>absurd rfl h,fun h=>absurd rfl h,⟨fun h=>absurd rfl h,fun h=>absurd h (bG rfl)⟩,.inr (.inr (.inr (.inr (.inl ⟨rfl,by simp only;omega⟩))))⟩
 generalize hq4:((ofNat 4,t.2.1,ofNat 0,ofNat 0,ofNat 0,()):aq)=t4 at ht4 e4 e5 hst⊢
 have c4:t4.1=4:=by rw [←hq4];rfl
 have hset:∀i:Nat,i<(ts.set k t4).length→cH (ns.getD i (aa ah)) ((ts.set k t4).getD i (aa ab)):=fun i hi=>by
  rw [length_set]at hi
  rw [bq hk]
  split
  ·rename_i c;rw [c];exact ht4
  ·exact q5 i hi
 have hl:(ts.set k t4).length=ns.length:=by rw [length_set];exact q4
 have ho:=Ga hl hrk.1 hrk1 hset ns.length (Nat.le_refl _)
 have heq:opn ns (rk,ts.set k t4) ns.length=(rk',ts'):=Prod.ext e5.symm e4.symm
 rw [heq]at ho
 refine⟨?_,ho⟩
 have htk:=Hw (fun i hi=>ly q3.2.1 hi) hl hrk.1 hrk1 hset ho
 have hsl:=ho.len
 simp only at hsl htk
 rcases q6 with⟨_,hm,hn4,hn⟩|⟨h3,_⟩|⟨h3,_⟩|⟨h3,_⟩
 ·have hmono:∀j:Nat,(ts.getD j (aa ab)).1=4→((ts.set k t4).getD j (aa ab)).1=4:=fun j hj=>by
   rw [bq hk]
   split
   ·exact c4
   ·exact hj
  rcases hst with⟨hall,rfl⟩|⟨hall,rfl⟩
  ·refine⟨q1,q2,q3,by simp only;omega,htk,.inr (.inl ⟨rfl,gM fun j hj=>(ho.four j).2 (hall _ (aG (by rw [←hsl];exact hj) _))⟩)⟩
  ·refine⟨q1,q2,q3,by simp only;omega,htk,Mu hl (fun i hi h0 v hv=> ?_) hall (fun⟨t,ht,h5⟩=> ?_) ho⟩
   ·refine hmono _ ((hm i hi).2 ?_ v hv)
    rw [bq hk]at h0
    split at h0
    ·rename_i c;rw [c,hte,c2];decide
    ·exact h0
   ·rcases List.mem_or_eq_of_mem_set ht with h6|rfl
    ·exact hn ⟨t,h6,h5⟩
    ·omega
 ·exact absurd h3 (bG rfl)
 ·exact absurd h3 (bG rfl)
 ·exact absurd h3 (bG rfl)
theorem Cm {id:Int} {key:ByteArray} {ns:List aR} {rk:Int} (h1:bX id) (h2:1≤key.size∧key.size≤24) (hd:ub ns) (hrk:pn rk):ROk (id,key,(ns,()),ofNat 1,(opn ns (rk,replicate ns.length t0) ns.length).2,())∧OpnP ns rk (replicate ns.length t0) ns.length (opn ns (rk,replicate ns.length t0) ns.length):=by
 have fZ:=hd.1
 have hrk1:rk+ns.length≤1099511627776:=by have:=hrk.2;omega
 have hl:(replicate ns.length t0).length=ns.length:=List.length_replicate ..
 have h0:∀i:Nat,i<(replicate ns.length t0).length→(replicate ns.length t0).getD i (aa ab)=t0:=fun i hi=>List.eq_of_mem_replicate (aG hi _)
 have ht:∀i:Nat,i<(replicate ns.length t0).length→cH (ns.getD i (aa ah)) ((replicate ns.length t0).getD i (aa ab)):=fun i hi=>by
  rw [h0 i hi]
  have:=(ly hd.2.1 (i:=i) (by omega)).1.1
  exact⟨⟨ga.1,by simp only [bm];omega⟩,ga,ga,ga,fun h=>absurd rfl h,fun h=>absurd rfl h,⟨fun h=>absurd rfl h,fun h=>absurd h (bG rfl)⟩,.inl ⟨rfl,rfl⟩⟩
 have ho:=Ga hl hrk.1 hrk1 ht ns.length (Nat.le_refl _)
 refine⟨⟨h1,h2,hd,ho.len.trans hl,Hw (fun i hi=>ly hd.2.1 hi) hl hrk.1 hrk1 ht ho,Mu hl (fun i hi h=>absurd (by rw [h0 i (by rw [hl];exact hi)];rfl) h) (fun h=> ?_) (fun⟨t,ht,h5⟩=> ?_) ho⟩,ho⟩
 ·have:=h t0 (List.mem_replicate.2 ⟨by omega,rfl⟩)
  exact absurd this (bG rfl)
 ·rw [List.eq_of_mem_replicate ht]at h5
  rcases h5 with h5|h5<;>exact absurd h5 (bG rfl)
theorem mY {r:am} (h:ROk r):bK r:=by
 have fZ:=h.dag.1
 refine⟨fun nd hnd=> ?_,by have:=h.len;omega,gM fun j hj=>(Mt (h.tks j hj)).1⟩
 obtain⟨j,hj,rfl⟩:=List.getElem_of_mem hnd
 have:=xT (h.dag.2.1 j hj).2.2
 rw [bD hj]at this
 omega
structure Rel (nt nk nt' nk':Int) (ts ts':List aq):Prop where
 len:ts'.length=ts.length
 tk:∀j:Nat,j<ts.length→(ts'.getD j (aa ab)).1=2→((ts.getD j (aa ab)).1=2∧dx (ts'.getD j (aa ab))=dx (ts.getD j (aa ab)))∨(nt≤dx (ts'.getD j (aa ab))∧dx (ts'.getD j (aa ab))<nt')
 rk:∀j:Nat,j<ts.length→(ts'.getD j (aa ab)).1=1→((ts.getD j (aa ab)).1=1∧dB (ts'.getD j (aa ab))=dB (ts.getD j (aa ab)))∨(nk≤dB (ts'.getD j (aa ab))∧dB (ts'.getD j (aa ab))<nk')
 tu:∀i j:Nat,i<j→j<ts.length→(ts'.getD i (aa ab)).1=2→(ts'.getD j (aa ab)).1=2→nt≤dx (ts'.getD i (aa ab))→nt≤dx (ts'.getD j (aa ab))→dx (ts'.getD i (aa ab))≠dx (ts'.getD j (aa ab))
 ru:∀i j:Nat,i<j→j<ts.length→(ts'.getD i (aa ab)).1=1→(ts'.getD j (aa ab)).1=1→nk≤dB (ts'.getD i (aa ab))→nk≤dB (ts'.getD j (aa ab))→dB (ts'.getD i (aa ab))≠dB (ts'.getD j (aa ab))
def oE (nt nk:Int) (t:aq):Prop:=(t.1=2→dx t<nt)∧(t.1=1→dB t<nk)
theorem Mw {l:List aq}:l.Pairwise NC↔∀i j:Nat,i<j→j<l.length→NC (l.getD i (aa ab)) (l.getD j (aa ab)):=by
 rw [List.pairwise_iff_getElem]
 constructor
 ·intro h i j hij hj
  rw [bD (by omega:i<l.length),bD hj]
  exact h i j (by omega) hj hij
 ·intro h i j hi hj hij
  have:=h i j hij hj
  rwa [bD hi,bD hj]at this
theorem Gb {nt nk nt' nk':Int} {ts ts':List aq} (h:ts.Pairwise NC) (hl:∀t∈ts,oE nt nk t) (hr:Rel nt nk nt' nk' ts ts'):ts'.Pairwise NC:=by
 rw [Mw]at h⊢
 intro i j hij hj
 rw [hr.len]at hj
 have h1:=h i j hij hj
 have li:=hl _ (aG (show i<ts.length by omega) (aa ab))
 have lj:=hl _ (aG hj (aa ab))
 refine⟨fun⟨a,b,c⟩=> ?_,fun⟨a,b,c⟩=> ?_⟩
 ·rcases hr.tk i (by omega) a with⟨a1,a2⟩|⟨a1,a2⟩<;>rcases hr.tk j hj b with⟨b1,b2⟩|⟨b1,b2⟩
  ·exact h1.1 ⟨a1,b1,by omega⟩
  ·have:=li.1 a1;omega
  ·have:=lj.1 b1;omega
  ·exact hr.tu i j hij hj a b a1 b1 c
 ·rcases hr.rk i (by omega) a with⟨a1,a2⟩|⟨a1,a2⟩<;>rcases hr.rk j hj b with⟨b1,b2⟩|⟨b1,b2⟩
  ·exact h1.2 ⟨a1,b1,by omega⟩
  ·have:=li.2 a1;omega
  ·have:=lj.2 b1;omega
  ·exact hr.ru i j hij hj a b a1 b1 c
theorem Ki {nt nk nt' nk':Int} {ts ts':List aq} {y:aq} (hy:oE nt nk y) (h:∀x∈ts,NC x y) (hr:Rel nt nk nt' nk' ts ts'):∀x∈ts',NC x y:=fun x hx=>by
 obtain⟨j,hj,rfl⟩:=zQ hx
 rw [hr.len]at hj
 have h1:=h _ (aG hj (aa ab))
 refine⟨fun⟨a,b,c⟩=> ?_,fun⟨a,b,c⟩=> ?_⟩
 ·rcases hr.tk j hj a with⟨a1,a2⟩|⟨a1,a2⟩
  ·exact h1.1 ⟨a1,b,by omega⟩
  ·have:=hy.1 b;omega
 ·rcases hr.rk j hj a with⟨a1,a2⟩|⟨a1,a2⟩
  ·exact h1.2 ⟨a1,b,by omega⟩
  ·have:=hy.2 b;omega
theorem Hx {nt nk nt' nk':Int} {ts ts':List aq} (h1:nt≤nt') (h2:nk≤nk') (hl:∀t∈ts,oE nt nk t) (hr:Rel nt nk nt' nk' ts ts'):∀t∈ts',oE nt' nk' t:=gM fun j hj=>by
 rw [hr.len]at hj
 have lj:=hl _ (aG hj (aa ab))
 refine⟨fun a=> ?_,fun a=> ?_⟩
 ·rcases hr.tk j hj a with⟨a1,a2⟩|⟨a1,a2⟩
  ·have:=lj.1 a1;omega
  ·exact a2
 ·rcases hr.rk j hj a with⟨a1,a2⟩|⟨a1,a2⟩
  ·have:=lj.2 a1;omega
  ·exact a2
theorem Ov {nt nk:Int} {t:aq} (h:cP nt nk t):oE nt nk t:=⟨fun _=>h.1,h.2⟩
theorem Ow {nd:aR} {nt nk:Int} {t:aq} (hn:1≤nt) (ht:cH nd t) (h:oE nt nk t):cP nt nk t:=by
 refine⟨?_,h.2⟩
 by_cases c:t.1=2
 ·exact h.1 c
 ·have:dx t=0:=Classical.byContradiction fun h2=>c (ht.2.2.2.2.2.2.1.1 h2)
  omega
theorem mZ {nt nk nt' nk':Int} {ts:List aq} {k:Nat} {t:aq} (hk:k<ts.length) (ht:t.1=2→((ts.getD k (aa ab)).1=2∧dx t=dx (ts.getD k (aa ab)))∨(nt≤dx t∧dx t<nt')) (hr:t.1=1→((ts.getD k (aa ab)).1=1∧dB t=dB (ts.getD k (aa ab)))∨(nk≤dB t∧dB t<nk')) (hl:∀t∈ts,oE nt nk t):Rel nt nk nt' nk' ts (ts.set k t):=by
 refine⟨length_set,fun j hj h=> ?_,fun j hj h=> ?_,fun i j hij hj h1 h2 h3 h4=> ?_,fun i j hij hj h1 h2 h3 h4=> ?_⟩
 ·rw [bq hk]at h⊢
  split
  ·rename_i c;subst c;rw [if_pos rfl]at h;exact ht h
  ·rename_i c;rw [if_neg c]at h;exact .inl ⟨h,rfl⟩
 ·rw [bq hk]at h⊢
  split
  ·rename_i c;subst c;rw [if_pos rfl]at h;exact hr h
  ·rename_i c;rw [if_neg c]at h;exact .inl ⟨h,rfl⟩
 ·rw [bq hk]at h1 h2 h3 h4
  have li:=(hl _ (aG (show i<ts.length by omega) (aa ab))).1
  have lj:=(hl _ (aG hj (aa ab))).1
  by_cases ci:i=k
  ·rw [if_neg (show¬j=k by omega)]at h2 h4
   have:=lj h2;omega
  ·rw [if_neg ci]at h1 h3
   have:=li h1;omega
 ·rw [bq hk]at h1 h2 h3 h4
  have li:=(hl _ (aG (show i<ts.length by omega) (aa ab))).2
  have lj:=(hl _ (aG hj (aa ab))).2
  by_cases ci:i=k
  ·rw [if_neg (show¬j=k by omega)]at h2 h4
   have:=lj h2;omega
  ·rw [if_neg ci]at h1 h3
   have:=li h1;omega
theorem Hy {nt nk nt' nk':Int} {ns:List aR} {ts ts1 ts':List aq} (h:Rel nt nk nt' nk' ts ts1) (hd:iv ns ts1 ts'):Rel nt nk nt' nk' ts ts':=by
 have key:∀j:Nat,j<ts.length→∀s:Int,s≠6→(ts'.getD j (aa ab)).1=s→ts'.getD j (aa ab)=ts1.getD j (aa ab):=fun j hj s hs e=>by
  rcases hd.2 j (by rw [h.len];exact hj)with⟨_,h2⟩|⟨_,h2⟩
  ·exact h2
  ·rw [h2]at e;exact absurd e.symm hs
 refine⟨hd.1.trans h.len,fun j hj e=> ?_,fun j hj e=> ?_,fun i j hij hj e1 e2=> ?_,fun i j hij hj e1 e2=> ?_⟩
 ·have q:=key j hj 2 (by decide) e;rw [q]at e⊢;exact h.tk j hj e
 ·have q:=key j hj 1 (by decide) e;rw [q]at e⊢;exact h.rk j hj e
 ·have q:=key i (by omega) 2 (by decide) e1;have q2:=key j hj 2 (by decide) e2;rw [q]at e1⊢;rw [q2]at e2⊢;exact h.tu i j hij hj e1 e2
 ·have q:=key i (by omega) 1 (by decide) e1;have q2:=key j hj 1 (by decide) e2;rw [q]at e1⊢;rw [q2]at e2⊢;exact h.ru i j hij hj e1 e2
theorem Gc {nt nk nt' nk':Int} {ts:List aq} (hl:∀t∈ts,oE nt nk t):Rel nt nk nt' nk' ts ts:=by
 refine⟨rfl,fun j hj h=>.inl ⟨h,rfl⟩,fun j hj h=>.inl ⟨h,rfl⟩,fun i j hij hj h1 h2 h3 h4=> ?_,fun i j hij hj h1 h2 h3 h4=> ?_⟩
 ·have:=(hl _ (aG hj (aa ab))).1 h2;omega
 ·have:=(hl _ (aG hj (aa ab))).2 h2;omega
theorem Hz {nt nk nk':Int} {ns:List aR} {ts ts1 ts':List aq} (h:Rel nt nk nt nk ts ts1) (hl:∀t∈ts,oE nt nk t) (ho:OpnP ns nk ts1 ns.length (nk',ts')):Rel nt nk nt nk' ts ts':=by
 have h2':∀j:Nat,j<ts.length→(ts'.getD j (aa ab)).1=2→ts'.getD j (aa ab)=ts1.getD j (aa ab):=fun j hj e=>by
  rcases ho.is j (by rw [h.len];exact hj)with⟨_,h2⟩|⟨_,ρ,h2,_⟩
  ·exact h2
  ·simp only at h2;rw [h2]at e;exact absurd e (bG rfl)
 have h1':∀j:Nat,j<ts.length→(ts'.getD j (aa ab)).1=1→(ts'.getD j (aa ab)=ts1.getD j (aa ab))∨((ts1.getD j (aa ab)).1=0∧nk≤dB (ts'.getD j (aa ab))∧dB (ts'.getD j (aa ab))<nk'):=fun j hj e=>by
  rcases ho.is j (by rw [h.len];exact hj)with⟨_,h2⟩|⟨⟨_,h0,_⟩,ρ,h2,h3,h4⟩
  ·exact .inl h2
  ·simp only at h2 h4;rw [h2];exact .inr ⟨h0,h3,h4⟩
 refine⟨ho.len.trans h.len,fun j hj e=> ?_,fun j hj e=> ?_,fun i j hij hj e1 e2=> ?_,fun i j hij hj e1 e2 e3 e4=> ?_⟩
 ·have q:=h2' j hj e;rw [q]at e⊢;exact h.tk j hj e
 ·rcases h1' j hj e with h3|⟨_,h3⟩
  ·rw [h3]at e⊢
   rcases h.rk j hj e with h4|⟨h4,h5⟩
   ·exact .inl h4
   ·omega
  ·exact .inr h3
 ·have q:=h2' i (by omega) e1;have q2:=h2' j hj e2;rw [q]at e1⊢;rw [q2]at e2⊢;exact h.tu i j hij hj e1 e2
 ·have old:∀a:Nat,a<ts.length→(ts'.getD a (aa ab)).1=1→nk≤dB (ts'.getD a (aa ab))→(ts1.getD a (aa ab)).1=0:=fun a ha b c=>by
   rcases h1' a ha b with h3|⟨h3,_⟩
   ·rw [h3]at b c
    rcases h.rk a ha b with⟨h4,h5⟩|⟨h4,h5⟩
    ·have:=(hl _ (aG ha (aa ab))).2 h4;omega
    ·omega
   ·exact h3
  have:=ho.up i j hij (by rw [h.len];exact hj) (old i (by omega) e1 e3) e1 (old j hj e2 e4) e2
  simp only at this
  omega
theorem cz {l:List am} {i:Nat} (h:i<l.length) (v:am) (j:Nat):(l.set i v).getD j (aa ae)=if j=i then v else l.getD j (aa ae):=by
 simp only [getD_eq_getElem?_getD,List.getElem?_set]
 by_cases e:i=j
 ·subst e;simp [h]
 ·rw [if_neg e,if_neg (fun h=>e h.symm)]
abbrev aQ (rs:List am) (a:Nat):List aq:=(rs.getD a (aa ae)).2.2.2.2.1
theorem zR (rs:List am):(FT rs).Pairwise NC↔(∀a:Nat,a<rs.length→(aQ rs a).Pairwise NC)∧∀a b:Nat,a<b→b<rs.length→∀x∈aQ rs a,∀y∈aQ rs b,NC x y:=by
 unfold FT
 rw [List.pairwise_flatMap,List.pairwise_iff_getElem]
 constructor
 ·intro⟨h1,h2⟩
  refine⟨fun a ha=>h1 _ (aG ha _),fun a b hab hb=> ?_⟩
  have:=h2 a b (by omega) hb hab
  rwa [←bD (by omega:a<rs.length) (aa ae),←bD hb (aa ae)]at this
 ·intro⟨h1,h2⟩
  refine⟨fun r hr=> ?_,fun a b ha hb hab=> ?_⟩
  ·obtain⟨a,ha,rfl⟩:=List.getElem_of_mem hr
   have:=h1 a ha
   rwa [aQ,bD ha]at this
  ·have:=h2 a b hab hb
   rwa [aQ,aQ,bD ha,bD hb]at this
theorem Ox {rs:List am} {n:Nat} {r':am} {nt nk nt' nk':Int} (hf:eP rs) (hn:n<rs.length) (hl:∀a:Nat,a<rs.length→∀t∈aQ rs a,oE nt nk t) (e1:r'.1=(rs.getD n (aa ae)).1) (e2:r'.2.1=(rs.getD n (aa ae)).2.1) (ho:ROk r') (hr:Rel nt nk nt' nk' (aQ rs n) r'.2.2.2.2.1):eP (rs.set n r'):=by
 obtain⟨h32,up,keys,chk,ap⟩:=hf
 have G:=cz hn r'
 have idA:∀a:Nat,((rs.set n r').getD a (aa ae)).1=(rs.getD a (aa ae)).1:=fun a=>by
  rw [G];split
  ·rename_i c;rw [c];exact e1
  ·rfl
 have keyA:∀a:Nat,cK ((rs.set n r').getD a (aa ae))=cK (rs.getD a (aa ae)):=fun a=>by
  rw [G];split
  ·rename_i c;rw [c,cK,e2]
  ·rfl
 rw [zR]at ap
 refine⟨by rw [length_set];exact h32,fun a b hab hb=> ?_,fun a b hab hb=> ?_,fun a ha=> ?_,?_⟩
 ·rw [idA,idA];rw [length_set]at hb;exact up a b hab hb
 ·rw [keyA,keyA];rw [length_set]at hb;exact keys a b hab hb
 ·rw [length_set]at ha;rw [G];split
  ·exact ho
  ·exact chk a ha
 ·rw [zR]
  refine⟨fun a ha=> ?_,fun a b hab hb=> ?_⟩
  ·rw [length_set]at ha
   unfold aQ
   rw [G];split
   ·exact Gb (ap.1 n hn) (hl n hn) hr
   ·exact ap.1 a ha
  ·rw [length_set]at hb
   unfold aQ
   rw [G,G]
   by_cases ca:a=n
   ·rw [if_pos ca,if_neg (by omega)]
    subst ca
    exact fun x hx y hy=>Ki (hl b hb y hy) (fun x hx=>ap.2 a b hab hb x hx y hy) hr x hx
   ·rw [if_neg ca]
    by_cases cb:b=n
    ·rw [if_pos cb]
     subst cb
     exact fun x hx y hy=>(Ki (hl a (by omega) x hx) (fun y hy=>(ap.2 a b hab hb x hx y hy).symm) hr y hy).symm
    ·rw [if_neg cb]
     exact ap.2 a b hab hb
theorem cA {l:List am} {v:am} (j:Nat) (h:j<(l++ [v]).length):(l++ [v]).getD j (aa ae)=if j=l.length then v else l.getD j (aa ae):=by
 rw [length_append,length_singleton]at h
 by_cases e:j=l.length
 ·subst e
  rw [if_pos rfl,getD_eq_getElem?_getD,getElem?_append_right (Nat.le_refl _),sub_self]
  rfl
 ·rw [if_neg e,getD_eq_getElem?_getD,getElem?_append_left (by omega),←getD_eq_getElem?_getD]
theorem Oy {rs:List am} {r':am} {ts:List aq} {nt nk nt' nk':Int} (hf:eP rs) (h32:rs.length<32) (hl:∀a:Nat,a<rs.length→∀t∈aQ rs a,oE nt nk t) (hid:∀a:Nat,a<rs.length→(rs.getD a (aa ae)).1<r'.1) (hk:∀a:Nat,a<rs.length→cK (rs.getD a (aa ae))≠cK r') (ho:ROk r') (h0:∀t∈ts,t.1=0) (hr:Rel nt nk nt' nk' ts r'.2.2.2.2.1):eP (rs++ [r']):=by
 obtain⟨_,up,keys,chk,ap⟩:=hf
 have hlen:(rs++ [r']).length=rs.length+1:=by rw [length_append,length_singleton]
 have hnc:∀t∈ts,∀y:aq,NC t y:=fun t ht y=>by
  have:=h0 t ht
  exact⟨fun⟨a,_⟩=>by omega,fun⟨a,_⟩=>by omega⟩
 have hlow:∀t∈ts,oE nt nk t:=fun t ht=>by
  have:=h0 t ht
  exact⟨fun a=>by omega,fun a=>by omega⟩
 rw [zR]at ap
 refine⟨by omega,fun a b hab hb=> ?_,fun a b hab hb=> ?_,fun a ha=> ?_,?_⟩
 ·rw [cA b hb,cA a (by omega),if_neg (by omega)]
  split
  ·exact hid a (by omega)
  ·exact up a b hab (by omega)
 ·rw [cA b hb,cA a (by omega),if_neg (by omega)]
  split
  ·exact hk a (by omega)
  ·exact keys a b hab (by omega)
 ·rw [cA a ha]
  split
  ·exact ho
  ·exact chk a (by omega)
 ·rw [zR]
  refine⟨fun a ha=> ?_,fun a b hab hb=> ?_⟩
  ·unfold aQ
   rw [cA a ha]
   split
   ·exact Gb (Mw.2 fun i j hij hj=>hnc _ (aG (by omega) _) _) hlow hr
   ·exact ap.1 a (by omega)
  ·unfold aQ
   rw [cA b hb,cA a (by omega),if_neg (by omega)]
   split
   ·exact fun x hx y hy=>(Ki (hl a (by omega) x hx) (fun y hy=>hnc y hy x) hr y hy).symm
   ·exact ap.2 a b hab (by omega)
abbrev jK (ck nr nt nk ne ac:Int) (rs:List am) (es:List aO):cg:=(ck,nr,nt,nk,ne,ac,rs,es,())
structure SX (ck nr nt nk ne ac:Int) (rs:List am) (es:List aO):Prop where
 fine:eP rs
 ckI:bX ck
 nrI:bX nr
 nkI:bX nk
 ntI:1≤nt∧nt≤1099511627776
 neI:1≤ne∧ne≤1099511627776
 ack:0≤ac∧ac<ne
 elen:(es.length:Int)=ne-1-ac
 late:∀j:Nat,j<rs.length→(rs.getD j (aa ae)).1<nr∧∀t∈(rs.getD j (aa ae)).2.2.2.2.1,cP nt nk t
 evs:∀j:Nat,j<es.length→(es.getD j (aa an)).1=ac+1+j∧jJ nr (es.getD j (aa an))
theorem po {ck nr nt nk ne ac:Int} {rs:List am} {es:List aO} (h:SOk (jK ck nr nt nk ne ac rs es)):SX ck nr nt nk ne ac rs es:=
 ⟨h.fine,h.ck,h.nr,h.nk,h.nt,h.ne,h.ack,h.elen,h.late,h.evs⟩
theorem ZB {ck nr nt nk ne ac:Int} {rs:List am} {es:List aO} (h:SX ck nr nt nk ne ac rs es) (he:es.length≤40):SOk (jK ck nr nt nk ne ac rs es):=
 ⟨h.fine,he,h.ckI,h.nrI,h.nkI,h.ntI,h.neI,h.ack,h.elen,h.late,h.evs⟩
def jL (ne nr:Int) (new:List aO):Prop:=∀j:Nat,j<new.length→(new.getD j (aa an)).1=ne+j∧jJ nr (new.getD j (aa an))
theorem Ts {nr nr':Int} {x:aO} (h:nr≤nr') (he:jJ nr x):jJ nr' x:=⟨he.1,⟨he.2.1.1,by have:=he.2.1.2;omega⟩,he.2.2⟩
theorem HA {nr nr' ne ac:Int} {es new:List aO} (hl:(es.length:Int)=ne-1-ac) (h:∀j:Nat,j<es.length→(es.getD j (aa an)).1=ac+1+j∧jJ nr (es.getD j (aa an))) (hn:nr≤nr') (hw:jL ne nr' new):∀j:Nat,j<(es++new).length→((es++new).getD j (aa an)).1=ac+1+j∧jJ nr' ((es++new).getD j (aa an)):=fun j hj=>by
 rw [length_append]at hj
 by_cases c:j<es.length
 ·rw [getD_eq_getElem?_getD,getElem?_append_left c,←getD_eq_getElem?_getD]
  exact⟨(h j c).1,Ts hn (h j c).2⟩
 ·rw [getD_eq_getElem?_getD,getElem?_append_right (by omega),←getD_eq_getElem?_getD]
  have:=hw (j-es.length) (by omega)
  exact⟨by omega,this.2⟩
theorem jM {ne nr kind id i:Int} (h1:1≤kind∧kind≤6) (h2:0≤id∧id<nr) (h3:0≤i∧i<12) (h4:i=0∨kind=2∨kind=3):jL ne nr [(ne,kind,id,i,())]:=fun j hj=>by
 obtain rfl:j=0:=by simp only [length_singleton]at hj;omega
 exact⟨by show ne=ne+((0:Nat):Int);omega,h1,h2,h3,h4⟩
theorem ZC {ne nr:Int} {a b:List aO} (ha:jL ne nr a) (hb:jL (ne+a.length) nr b):jL ne nr (a++b):=fun j hj=>by
 rw [length_append]at hj
 by_cases c:j<a.length
 ·rw [getD_eq_getElem?_getD,getElem?_append_left c,←getD_eq_getElem?_getD]
  exact ha j c
 ·rw [getD_eq_getElem?_getD,getElem?_append_right (by omega),←getD_eq_getElem?_getD]
  have:=hb (j-a.length) (by omega)
  exact⟨by omega,this.2⟩
section
variable {ck nr nt nk ne ac:Int} {rs:List am} {es:List aO}
theorem SX.low (h:SX ck nr nt nk ne ac rs es):∀a:Nat,a<rs.length→∀t∈aQ rs a,oE nt nk t:=fun a ha t ht=>Ov ((h.late a ha).2 t ht)
theorem SX.rok (h:SX ck nr nt nk ne ac rs es) {n:Nat} (hn:n<rs.length):ROk (rs.getD n (aa ae)):=h.fine.2.chk n hn
theorem SX.id (h:SX ck nr nt nk ne ac rs es) {n:Nat} (hn:n<rs.length):0≤(rs.getD n (aa ae)).1∧(rs.getD n (aa ae)).1<nr:=⟨(h.rok hn).id.1,(h.late n hn).1⟩
theorem SX.task (h:SX ck nr nt nk ne ac rs es) {n k:Nat} (hn:n<rs.length) (hk:k<(aQ rs n).length):0≤(k:Int)∧(k:Int)<12:=by
 have h1:=(h.rok hn).len
 have h2:=(h.rok hn).dag.1.2
 unfold aQ at hk
 omega
theorem HB {nt nk:Int} {r:am} (hn:1≤nt) (ho:ROk r) (h:∀t∈r.2.2.2.2.1,oE nt nk t):∀t∈r.2.2.2.2.1,cP nt nk t:=fun t ht=>by
 obtain⟨j,hj,rfl⟩:=zQ ht
 exact Ow hn (ho.tks j hj) (h _ ht)
theorem oF {ck' nt' nk' ne':Int} {new:List aO} (h:SX ck nr nt nk ne ac rs es) {n:Nat} {r':am} (hn:n<rs.length) (e1:r'.1=(rs.getD n (aa ae)).1) (e2:r'.2.1=(rs.getD n (aa ae)).2.1) (ho:ROk r') (hr:Rel nt nk nt' nk' (aQ rs n) r'.2.2.2.2.1)
  (hck:bX ck') (hnt:nt≤nt'∧nt'≤1099511627776) (hnk:nk≤nk'∧nk'≤1099511627776) (hne:ne'=ne+new.length) (hne2:ne'≤1099511627776) (hev:jL ne nr new):SX ck' nr nt' nk' ne' ac (rs.set n r') (es++new):=by
 subst hne
 have hnt1:=h.ntI.1
 have hne1:=h.neI.1
 have hack:=h.ack
 refine⟨Ox h.fine hn h.low e1 e2 ho hr,hck,h.nrI,⟨by have:=h.nkI.1;omega,hnk.2⟩,⟨by omega,hnt.2⟩,⟨by omega,hne2⟩,⟨hack.1,by omega⟩,by rw [length_append];have:=h.elen;omega,fun j hj=> ?_,HA h.elen h.evs (le_refl _) hev⟩
 rw [length_set]at hj
 rw [cz hn]
 split
 ·rename_i c
  subst c
  exact⟨by rw [e1];exact(h.late _ hj).1,HB (by omega) ho (Hx hnt.1 hnk.1 (h.low _ hj) hr)⟩
 ·refine⟨(h.late _ hj).1,fun t ht=> ?_⟩
  obtain⟨a,b⟩:=(h.late _ hj).2 t ht
  exact⟨by omega,fun c=>by have:=b c;omega⟩
theorem ZD {nk':Int} (h:SX ck nr nt nk ne ac rs es) (h32:rs.length<32) {r':am} {ts:List aq} (e1:r'.1=nr) (hk:∀a:Nat,a<rs.length→cK (rs.getD a (aa ae))≠cK r') (ho:ROk r') (h0:∀t∈ts,t.1=0) (hr:Rel nt nk nt nk' ts r'.2.2.2.2.1)
  (hnr:nr+1≤1099511627776) (hnk:nk≤nk'∧nk'≤1099511627776) (hne2:ne+1≤1099511627776):SX ck (nr+1) nt nk' (ne+1) ac (rs++ [r']) (es++ [(ne,ofNat 1,nr,ofNat 0,())]):=by
 have hnr0:=h.nrI.1
 have hack:=h.ack
 have hne1:=h.neI.1
 refine⟨Oy h.fine h32 h.low (fun a ha=>by rw [e1];exact(h.late a ha).1) hk ho h0 hr,h.ckI,⟨by omega,hnr⟩,⟨by have:=h.nkI.1;omega,hnk.2⟩,h.ntI,⟨by omega,hne2⟩,⟨hack.1,by omega⟩,by rw [length_append,length_singleton];have:=h.elen;omega,fun j hj=> ?_,HA h.elen h.evs (by omega) (jM (by decide) ⟨hnr0,by omega⟩ (by decide) (.inl rfl))⟩
 rw [cA j hj]
 rw [length_append,length_singleton]at hj
 split
 ·refine⟨by omega,HB h.ntI.1 ho (Hx (le_refl _) hnk.1 (fun t ht=> ?_) hr)⟩
  have:=h0 t ht
  exact⟨fun a=>by omega,fun a=>by omega⟩
 ·have hj':j<rs.length:=by omega
  refine⟨by have:=(h.late j hj').1;omega,fun t ht=> ?_⟩
  obtain⟨a,b⟩:=(h.late j hj').2 t ht
  exact⟨a,fun c=>by have:=b c;omega⟩
end
theorem oG {nt nk nt' nk':Int} {r r':am} {k:Nat} {t':aq} (hT:Turn r k t' r') (h:Rel nt nk nt' nk' r.2.2.2.2.1 (r.2.2.2.2.1.set k t')):Rel nt nk nt' nk' r.2.2.2.2.1 r'.2.2.2.2.1:=by
 rcases hT.how with⟨_,_,hd⟩|⟨_,he,_⟩
 ·exact Hy h hd
 ·rw [he];exact h
theorem HC {nd:aR} {t t':aq} {now:Int} (h:cH nd t) (h1:1≤t.2.1) (hf:vH nd t now t'):cH nd t'∧t'.1≠0∧t'.1≠4∧t'.1≠6∧t'.1≠1∧t'.1≠2:=by
 rcases hf with⟨e,rfl⟩|⟨e,u,hu,rfl⟩
 ·exact⟨⟨h.1,ga,ga,ga,fun h=>absurd rfl h,fun h=>absurd rfl h,⟨fun h=>absurd rfl h,fun h=>absurd h (bG rfl)⟩,.inr (.inr (.inr (.inr (.inr (.inl ⟨rfl,e⟩)))))⟩,bG rfl,bG rfl,bG rfl,bG rfl,bG rfl⟩
 ·exact⟨⟨h.1,hu,ga,ga,fun h=>absurd rfl h,fun _=>.inr rfl,⟨fun h=>absurd rfl h,fun h=>absurd h (bG rfl)⟩,.inr (.inr (.inr (.inl ⟨rfl,h1,by have:=h.1.2;simp only;omega⟩)))⟩,bG rfl,bG rfl,bG rfl,bG rfl,bG rfl⟩
abbrev db (ne:Int) (r':am) (k:Nat):aO:=if r'.2.2.2.1=3 then(ne,ofNat 5,r'.1,ofNat 0,())else(ne,ofNat 3,r'.1,(k:Int),())
abbrev uc:=Int×List am×Int×Int×List aO
inductive Tk1 (now:Int) (p:cr):uc→uc→Prop
 |skip (d:Int) (R:List am) (nk ne:Int) (w:List aO) (h:∀n k:Nat,n<R.length→(R.getD n (aa ae)).1=p.1→p.2.1=k→k<(aQ R n).length→ed ((aQ R n).getD k (aa ab)) now=false):Tk1 now p (d,R,nk,ne,w) (d,R,nk,ne,w)
 |wake (d:Int) (R:List am) (nk ne:Int) (w:List aO) (n k:Nat) (r':am) (hn:n<R.length) (hid:(R.getD n (aa ae)).1=p.1) (hp:p.2.1=k) (hk:k<(aQ R n).length) (hd:ed ((aQ R n).getD k (aa ab)) now=true) (h3:((aQ R n).getD k (aa ab)).1=3) (hT:Turn (R.getD n (aa ae)) k (ofNat 1,((aQ R n).getD k (aa ab)).2.1,ofNat 0,ofNat 0,nk,()) r'):
   Tk1 now p (d,R,nk,ne,w) (d+1,R.set n r',nk+1,ne,w)
 |lapse (d:Int) (R:List am) (nk ne:Int) (w:List aO) (n k:Nat) (t':aq) (r':am) (hn:n<R.length) (hid:(R.getD n (aa ae)).1=p.1) (hp:p.2.1=k) (hk:k<(aQ R n).length) (hd:ed ((aQ R n).getD k (aa ab)) now=true) (h2:((aQ R n).getD k (aa ab)).1=2) (hf:vH (dC (R.getD n (aa ae)) k) ((aQ R n).getD k (aa ab)) now t') (hT:Turn (R.getD n (aa ae)) k t' r'):
   Tk1 now p (d,R,nk,ne,w) (d+1,R.set n r',nk,ne+1,w++ [db ne r' k])
inductive TkN (now:Int) (P:List cr) (x:uc):Nat→uc→Prop
 |zero:TkN now P x 0 x
 |step (i:Nat) (y z:uc):TkN now P x i y→Tk1 now (P.getD i (aa ay)) y z→TkN now P x (i+1) z
theorem zT {t:aq} {now:Int} (h:ed t now=true):(t.1=2∨t.1=3)∧t.2.2.1≤now:=by
 unfold ed at h
 simp only [Bool.and_eq_true,Bool.or_eq_true,beq_iff_eq,decide_eq_true_eq]at h
 exact h
section
variable {now nr nt ac:Int} {es:List aO}
theorem ZE {p:cr} {x y:uc} (h:Tk1 now p x y) (hx:SX now nr nt x.2.2.1 x.2.2.2.1 ac x.2.1 (es++x.2.2.2.2)) (h1:x.2.2.1+1≤1099511627776) (h2:x.2.2.2.1+1≤1099511627776):
  SX now nr nt y.2.2.1 y.2.2.2.1 ac y.2.1 (es++y.2.2.2.2)∧x.2.2.1≤y.2.2.1∧y.2.2.1≤x.2.2.1+1∧x.2.2.2.1≤y.2.2.2.1∧y.2.2.2.1≤x.2.2.2.1+1∧y.2.2.2.2.length≤x.2.2.2.2.length+1:=by
 cases h with
 |skip d R nk ne w h=>exact⟨hx,by simp only;omega,by simp only;omega,by simp only;omega,by simp only;omega,by omega⟩
 |wake d R nk ne w n k r' hn hid hp hk hd h3 hT=>
  simp only at hx h1 h2
  have hro:=hx.rok hn
  have htk:=hro.tks k hk
  obtain⟨g1,g2,g3,g4,g5,g6,g7,g8⟩:=htk
  have hst:=gc hro hk (show(bN _ k).1≤3 by simp only [bN];simp only [aQ]at h3;omega)
  have hnk:=hx.nkI
  have h3':(bN (R.getD n (aa ae)) k).1=3:=h3
  simp only [bN]at h3'
  have ht:cH (dC (R.getD n (aa ae)) k) (ofNat 1,((aQ R n).getD k (aa ab)).2.1,ofNat 0,ofNat 0,nk,()):=
   ⟨g1,ga,ga,hnk,fun _=>rfl,fun h=>absurd rfl h,⟨fun h=>absurd rfl h,fun h=>absurd h (bG rfl)⟩,.inr (.inl ⟨rfl,by simp only [aQ,dC];omega⟩)⟩
  have hok:=oD hro hst hk (by rw [bN,h3'];decide) (by rw [bN,h3'];decide) ht (bG rfl) (bG rfl) (bG rfl) hT
  have:=oF (new:=[]) (nt':=nt) (nk':=nk+1) (ne':=ne) hx hn hT.id hT.key hok (oG hT (mZ hk (fun h=>absurd h (bG rfl)) (fun _=>.inr ⟨le_refl _,by simp only [dB];omega⟩) (hx.low n hn))) hx.ckI ⟨le_refl _,hx.ntI.2⟩ ⟨by omega,h1⟩ (by simp) hx.neI.2 (fun j hj=>absurd hj (not_lt_zero _))
  rw [append_nil]at this
  exact⟨this,by simp only;omega,by simp only;omega,by simp only;omega,by simp only;omega,by simp only;omega⟩
 |lapse d R nk ne w n k t' r' hn hid hp hk hd h3 hf hT=>
  simp only at hx h1 h2
  have hro:=hx.rok hn
  have htk:=hro.tks k hk
  have h3':(bN (R.getD n (aa ae)) k).1=2:=h3
  simp only [bN]at h3'
  have hst:=gc hro hk (show(bN _ k).1≤3 by simp only [bN];omega)
  have htr:1≤((aQ R n).getD k (aa ab)).2.1:=by
   obtain⟨g1,g2,g3,g4,g5,g6,g7,g8⟩:=htk
   simp only [aQ];omega
  obtain⟨q1,q2,q3,q4,q5,q6⟩:=HC htk htr hf
  have hok:=oD hro hst hk (by rw [bN,h3'];decide) (by rw [bN,h3'];decide) q1 q2 q3 q4 hT
  have hid:=hx.id hn
  have hkk:=hx.task hn hk
  have hev:jL ne nr [db ne r' k]:=by
   unfold db
   rw [hT.id]
   split
   ·exact jM (by decide) hid (by decide) (.inl rfl)
   ·exact jM (by decide) hid hkk (.inr (.inr rfl))
  have:=oF (new:=[db ne r' k]) (nt':=nt) (nk':=nk) (ne':=ne+1) hx hn hT.id hT.key hok (oG hT (mZ hk (fun h=>absurd h q6) (fun h=>absurd h q5) (hx.low n hn))) hx.ckI ⟨le_refl _,hx.ntI.2⟩ ⟨le_refl _,hx.nkI.2⟩ rfl h2 hev
  rw [List.append_assoc]at this
  exact⟨this,by simp only;omega,by simp only;omega,by simp only;omega,by simp only;omega,by simp only [length_append,length_singleton];omega⟩
theorem zU {P:List cr} {x:uc} (hx:SX now nr nt x.2.2.1 x.2.2.2.1 ac x.2.1 (es++x.2.2.2.2)):∀(i:Nat) (y:uc),TkN now P x i y→x.2.2.1+i≤1099511627776→x.2.2.2.1+i≤1099511627776→
  SX now nr nt y.2.2.1 y.2.2.2.1 ac y.2.1 (es++y.2.2.2.2)∧x.2.2.1≤y.2.2.1∧y.2.2.1≤x.2.2.1+i∧x.2.2.2.1≤y.2.2.2.1∧y.2.2.2.1≤x.2.2.2.1+i∧y.2.2.2.2.length≤x.2.2.2.2.length+i
 |_,_,.zero,h1,h2=>⟨hx,by omega,by omega,by omega,by omega,by omega⟩
 |_,z,.step i y _ hy h,h1,h2=>by
  obtain⟨q1,q2,q3,q4,q5,q6⟩:=zU hx i y hy (by omega) (by omega)
  obtain⟨p1,p2,p3,p4,p5,p6⟩:=ZE h q1 (by omega) (by omega)
  exact⟨p1,by omega,by omega,by omega,by omega,by omega⟩
end
abbrev gU (a b d:Int):jI:=(ofNat 0,a,b,d,aP,[],())
structure Fresh (nr nt nk ne:Int):Prop where
 nr:nr≤1099511627676
 nt:nt≤1099511627676
 nk:nk≤1099511627676
 ne:ne≤1099511627676
noncomputable abbrev eK (ns:List aR) (nk:Int):Int×List aq:=opn ns (nk,replicate ns.length t0) ns.length
inductive Stp (ck nr nt nk ne ac:Int) (rs:List am) (es:List aO) (c:bo):cg→jI→Prop
 |err (n:Nat):Stp ck nr nt nk ne ac rs es c (jK ck nr nt nk ne ac rs es) (ofNat (n+1),ofNat 0,ofNat 0,ofNat 0,aP,[],())
 |known (n:Nat) (hk:c.1=1) (hn:n<rs.length) (hkey:cK (rs.getD n (aa ae))=c.2.1.toList):Stp ck nr nt nk ne ac rs es c (jK ck nr nt nk ne ac rs es) (gU (rs.getD n (aa ae)).1 (ofNat 0) (ofNat 0))
 |new (hk:c.1=1) (hf:Fresh nr nt nk ne) (hno:∀n:Nat,n<rs.length→cK (rs.getD n (aa ae))≠c.2.1.toList) (h32:rs.length<32) (hkey:1≤c.2.1.size∧c.2.1.size≤24) (hd:ub c.2.2.1.1) (hrk:pn nk):
   Stp ck nr nt nk ne ac rs es c (jK ck (nr+1) nt (eK c.2.2.1.1 nk).1 (ne+1) ac (rs++ [(nr,c.2.1,c.2.2.1,ofNat 1,(eK c.2.2.1.1 nk).2,())]) (es++ [(ne,ofNat 1,nr,ofNat 0,())])) (gU nr (ofNat 0) (ofNat 0))
 |poll (n k:Nat) (un:Int) (r':am) (hk:c.1=2) (hf:Fresh nr nt nk ne) (hn:n<rs.length) (hkl:k<(aQ rs n).length) (h1:((aQ rs n).getD k (aa ab)).1=1) (hun:bX un) (hT:Turn (rs.getD n (aa ae)) k (ofNat 2,((aQ rs n).getD k (aa ab)).2.1+1,un,nt,ofNat 0,()) r'):
   Stp ck nr nt nk ne ac rs es c (jK ck nr (nt+1) nk ne ac (rs.set n r') es) (gU (rs.getD n (aa ae)).1 (k:Int) nt)
 |complete (n k:Nat) (r':am) (rk':Int) (w:List aO) (hk:c.1=3) (hf:Fresh nr nt nk ne) (hn:n<rs.length) (hid:(rs.getD n (aa ae)).1=c.2.2.2.1) (hi:c.2.2.2.2.1=k) (hkl:k<(aQ rs n).length) (hrk:pn nk) (hh:jR (dC (rs.getD n (aa ae)) k) ((aQ rs n).getD k (aa ab)) c.2.2.2.2.2.1) (hC:Cmpl (rs.getD n (aa ae)) k nk r' rk')
   (hw:(r'.2.2.2.1≠2∧w= [(ne,ofNat 2,r'.1,(k:Int),())])∨(r'.2.2.2.1=2∧w= [(ne,ofNat 2,r'.1,(k:Int),()),(ne+1,ofNat 4,r'.1,ofNat 0,())])):
   Stp ck nr nt nk ne ac rs es c (jK ck nr nt rk' (ne+w.length) ac (rs.set n r') (es++w)) (gU (ofNat 0) (ofNat 0) (ofNat 0))
 |fail (n k:Nat) (t':aq) (r':am) (hk:c.1=4) (hf:Fresh nr nt nk ne) (hn:n<rs.length) (hid:(rs.getD n (aa ae)).1=c.2.2.2.1) (hi:c.2.2.2.2.1=k) (hkl:k<(aQ rs n).length) (hh:jR (dC (rs.getD n (aa ae)) k) ((aQ rs n).getD k (aa ab)) c.2.2.2.2.2.1) (hfl:vH (dC (rs.getD n (aa ae)) k) ((aQ rs n).getD k (aa ab)) ck t') (hT:Turn (rs.getD n (aa ae)) k t' r'):
   Stp ck nr nt nk ne ac rs es c (jK ck nr nt nk (ne+1) ac (rs.set n r') (es++ [db ne r' k])) (gU (ofNat 0) (ofNat 0) (ofNat 0))
 |beat (n k:Nat) (un:Int) (r':am) (hk:c.1=5) (hf:Fresh nr nt nk ne) (hn:n<rs.length) (hid:(rs.getD n (aa ae)).1=c.2.2.2.1) (hi:c.2.2.2.2.1=k) (hkl:k<(aQ rs n).length) (hh:jR (dC (rs.getD n (aa ae)) k) ((aQ rs n).getD k (aa ab)) c.2.2.2.2.2.1) (hun:bX un)
   (hT:Turn (rs.getD n (aa ae)) k (((aQ rs n).getD k (aa ab)).1,((aQ rs n).getD k (aa ab)).2.1,un,((aQ rs n).getD k (aa ab)).2.2.2.1,((aQ rs n).getD k (aa ab)).2.2.2.2.1,()) r'):
   Stp ck nr nt nk ne ac rs es c (jK ck nr nt nk ne ac (rs.set n r') es) (gU (ofNat 0) (ofNat 0) (ofNat 0))
 |cancel (n:Nat) (r':am) (hk:c.1=6) (hf:Fresh nr nt nk ne) (hn:n<rs.length) (hid:(rs.getD n (aa ae)).1=c.2.2.2.1) (h1:(rs.getD n (aa ae)).2.2.2.1=1) (e1:r'.1=(rs.getD n (aa ae)).1) (e2:r'.2.1=(rs.getD n (aa ae)).2.1) (e3:r'.2.2.1=(rs.getD n (aa ae)).2.2.1) (e4:r'.2.2.2.1=4) (hd:iv (rs.getD n (aa ae)).2.2.1.1 (aQ rs n) r'.2.2.2.2.1):
   Stp ck nr nt nk ne ac rs es c (jK ck nr nt nk (ne+1) ac (rs.set n r') (es++ [(ne,ofNat 6,r'.1,ofNat 0,())])) (gU (ofNat 0) (ofNat 0) (ofNat 0))
 |tick (l:List cr) (d:Int) (R:List am) (nk' ne':Int) (w:List aO) (hk:c.1=7) (hf:Fresh nr nt nk ne) (h1:ck≤c.2.2.2.2.2.2.2.1) (h2:c.2.2.2.2.2.2.2.1≤1099511627776) (hl:l.Perm (pl rs c.2.2.2.2.2.2.2.1)) (hs:Rv l) (hN:TkN c.2.2.2.2.2.2.2.1 l (ofNat 0,rs,nk,ne,[]) (min 16 l.length) (d,R,nk',ne',w)):
   Stp ck nr nt nk ne ac rs es c (jK c.2.2.2.2.2.2.2.1 nr nt nk' ne' ac R (es++w)) (gU (ofNat 0) d (ofNat 0))
 |query (n:Nat) (hk:c.1=8) (hn:n<rs.length) (hid:(rs.getD n (aa ae)).1=c.2.2.2.1):Stp ck nr nt nk ne ac rs es c (jK ck nr nt nk ne ac rs es) (ofNat 0,ofNat 0,ofNat 0,ofNat 0,rs.getD n (aa ae),[],())
 |drain (m:Nat) (hk:c.1=9):Stp ck nr nt nk ne ac rs es c (jK ck nr nt nk ne ac rs es) (ofNat 0,ofNat 0,ofNat 0,ofNat 0,aP,es.take m,())
 |ack (hk:c.1=10) (h1:ac≤c.2.2.2.2.2.2.2.1) (h2:c.2.2.2.2.2.2.2.1<ne):Stp ck nr nt nk ne ac rs es c (jK ck nr nt nk ne c.2.2.2.2.2.2.2.1 rs (es.drop (c.2.2.2.2.2.2.2.1-ac).toNat)) (gU (ofNat 0) (ofNat 0) (ofNat 0))
structure Grow (ck nr nt nk ne ac:Int) (t:cg):Prop where
 ck:ck≤t.1
 nr:nr≤t.2.1
 nt:nt≤t.2.2.1
 nk:nk≤t.2.2.2.1
 ne:ne≤t.2.2.2.2.1
 ac:ac≤t.2.2.2.2.2.1
theorem ZF {ck nr nt nk ne ac:Int} {rs:List am} {es:List aO} {c:bo} {t:cg} {r:jI} (h:SX ck nr nt nk ne ac rs es) (hs:Stp ck nr nt nk ne ac rs es c t r):SX t.1 t.2.1 t.2.2.1 t.2.2.2.1 t.2.2.2.2.1 t.2.2.2.2.2.1 t.2.2.2.2.2.2.1 t.2.2.2.2.2.2.2.1∧Grow ck nr nt nk ne ac t:=by
 have refl:∀z:Int,z≤z:=le_refl
 have hnil:∀z,jL ne z []:=fun z j hj=>absurd hj (not_lt_zero _)
 cases hs with
 |err n=>exact⟨h,refl _,refl _,refl _,refl _,refl _,refl _⟩
 |known n=>exact⟨h,refl _,refl _,refl _,refl _,refl _,refl _⟩
 |query n=>exact⟨h,refl _,refl _,refl _,refl _,refl _,refl _⟩
 |drain m=>exact⟨h,refl _,refl _,refl _,refl _,refl _,refl _⟩
 |new hk hf hno h32 hkey hd hrk=>
  obtain⟨f1,f2,f3,f4⟩:=hf
  have fZ:=hd.1
  obtain⟨ho,hop⟩:=Cm (id:=nr) h.nrI hkey hd hrk
  have h0:∀t∈replicate c.2.2.1.1.length t0,t.1=0:=fun t ht=>by rw [List.eq_of_mem_replicate ht];rfl
  have hlow:∀t∈replicate c.2.2.1.1.length t0,oE nt nk t:=fun t ht=>by
   have:=h0 t ht
   exact⟨fun a=>by omega,fun a=>by omega⟩
  have hlo:=hop.lo
  have hhi:=hop.hi
  have hrel:=Hz (nk':=(eK c.2.2.1.1 nk).1) (ts':=(eK c.2.2.1.1 nk).2) (Gc hlow) hlow hop
  exact⟨ZD (r':=(nr,c.2.1,c.2.2.1,ofNat 1,(eK c.2.2.1.1 nk).2,())) h h32 rfl hno ho h0 hrel (by omega) ⟨hlo,by simp only [jK,eK];omega⟩ (by omega),refl _,by simp only;omega,refl _,hlo,by simp only;omega,refl _⟩
 |poll n k un r' hk hf hn hkl h1 hun hT=>
  obtain⟨f1,f2,f3,f4⟩:=hf
  have hro:=h.rok hn
  obtain⟨g1,g2,g3,g4,g5,g6,g7,g8⟩:=hro.tks k hkl
  have h1':(bN (rs.getD n (aa ae)) k).1=1:=h1
  simp only [bN]at h1'
  have hst:=gc hro hkl (show(bN _ k).1≤3 by simp only [bN];omega)
  have hnt:=h.ntI
  have ht:cH (dC (rs.getD n (aa ae)) k) (ofNat 2,((aQ rs n).getD k (aa ab)).2.1+1,un,nt,ofNat 0,()):=
   ⟨⟨by simp only [aQ,dC];omega,by simp only [aQ,dC];omega⟩,hun,⟨by simp only;omega,by simp only;omega⟩,ga,fun h=>absurd rfl h,fun _=>.inl rfl,⟨fun _=>rfl,fun _=>by simp only;omega⟩,.inr (.inr (.inl ⟨rfl,by simp only [aQ,dC];omega⟩))⟩
  have hok:=oD hro hst hkl (by rw [bN,h1'];decide) (by rw [bN,h1'];decide) ht (bG rfl) (bG rfl) (bG rfl) hT
  have:=oF (new:=[]) (nt':=nt+1) (nk':=nk) (ne':=ne) h hn hT.id hT.key hok (oG hT (mZ hkl (fun _=>.inr ⟨le_refl _,by simp only [dx];omega⟩) (fun h=>absurd h (bG rfl)) (h.low n hn))) h.ckI ⟨by omega,by omega⟩ ⟨refl _,h.nkI.2⟩ (by simp) h.neI.2 (hnil _)
  rw [append_nil]at this
  exact⟨this,refl _,refl _,by simp only;omega,refl _,refl _,refl _⟩
 |complete n k r' rk' w hk hf hn hid hi hkl hrk hh hC hw=>
  obtain⟨f1,f2,f3,f4⟩:=hf
  have hro:=h.rok hn
  have hh2:=hh
  obtain⟨_,_,_,c2,_⟩:=hh2
  have c2':(bN (rs.getD n (aa ae)) k).1=2:=c2
  have hst:=gc hro hkl (by rw [c2'];decide)
  obtain⟨hok,hop⟩:=vJ hro hst hkl hrk hh hC
  have hlo:=hop.lo
  have hhi:=hop.hi
  simp only at hlo hhi
  have fZ:=hro.dag.1.2
  have hrel:=Hz (mZ (k:=k) (nt':=nt) (nk':=nk) (t:=(ofNat 4,(bN (rs.getD n (aa ae)) k).2.1,ofNat 0,ofNat 0,ofNat 0,())) hkl (fun h=>absurd h (bG rfl)) (fun h=>absurd h (bG rfl)) (h.low n hn)) (h.low n hn) hop
  have hid':=h.id hn
  have hkk:=h.task hn hkl
  have hwl:w.length≤2:=by rcases hw with⟨_,rfl⟩|⟨_,rfl⟩<;>simp
  have hev:jL ne nr w:=by
   rw [hC.id]at hw
   rcases hw with⟨_,rfl⟩|⟨_,rfl⟩
   ·exact jM (by decide) hid' hkk (.inr (.inl rfl))
   ·exact ZC (a:=[_]) (b:=[_]) (jM (by decide) hid' hkk (.inr (.inl rfl))) (jM (by decide) hid' (by decide) (.inl rfl))
  exact⟨oF h hn hC.id hC.key hok hrel h.ckI ⟨refl _,h.ntI.2⟩ ⟨hlo,by simp only [jK];omega⟩ rfl (by simp only [jK];omega) hev,refl _,refl _,refl _,hlo,by simp only;omega,refl _⟩
 |fail n k t' r' hk hf hn hid hi hkl hh hfl hT=>
  obtain⟨f1,f2,f3,f4⟩:=hf
  have hro:=h.rok hn
  obtain⟨htk,_,_,c2,_⟩:=hh
  have c2':(bN (rs.getD n (aa ae)) k).1=2:=c2
  have hst:=gc hro hkl (by rw [c2'];decide)
  have htr:1≤((aQ rs n).getD k (aa ab)).2.1:=by
   obtain⟨g1,g2,g3,g4,g5,g6,g7,g8⟩:=htk
   simp only [aQ,dC]at*;omega
  obtain⟨q1,q2,q3,q4,q5,q6⟩:=HC htk htr hfl
  have hok:=oD hro hst hkl (by rw [c2'];decide) (by rw [c2'];decide) q1 q2 q3 q4 hT
  have hid':=h.id hn
  have hkk:=h.task hn hkl
  have hev:jL ne nr [db ne r' k]:=by
   unfold db
   rw [hT.id]
   split
   ·exact jM (by decide) hid' (by decide) (.inl rfl)
   ·exact jM (by decide) hid' hkk (.inr (.inr rfl))
  exact⟨oF h hn hT.id hT.key hok (oG hT (mZ hkl (fun h=>absurd h q6) (fun h=>absurd h q5) (h.low n hn))) h.ckI ⟨refl _,h.ntI.2⟩ ⟨refl _,h.nkI.2⟩ rfl (by simp only [jK];omega) hev,refl _,refl _,refl _,refl _,by simp only;omega,refl _⟩
 |beat n k un r' hk hf hn hid hi hkl hh hun hT=>
  obtain⟨f1,f2,f3,f4⟩:=hf
  have hro:=h.rok hn
  obtain⟨htk,_,_,c2,_⟩:=hh
  have c2':(bN (rs.getD n (aa ae)) k).1=2:=c2
  have hst:=gc hro hkl (by rw [c2'];decide)
  obtain⟨g1,g2,g3,g4,g5,g6,g7,g8⟩:=htk
  have ht:cH (dC (rs.getD n (aa ae)) k) (((aQ rs n).getD k (aa ab)).1,((aQ rs n).getD k (aa ab)).2.1,un,((aQ rs n).getD k (aa ab)).2.2.2.1,((aQ rs n).getD k (aa ab)).2.2.2.2.1,()):=
   ⟨g1,hun,g3,g4,g5,fun _=>.inl c2,g7,g8⟩
  have hok:=oD hro hst hkl (by rw [c2'];decide) (by rw [c2'];decide) ht (by rw [c2];decide) (by rw [c2];decide) (by rw [c2];decide) hT
  have:=oF (new:=[]) (nt':=nt) (nk':=nk) (ne':=ne) h hn hT.id hT.key hok (oG hT (mZ hkl (fun _=>.inl ⟨c2,rfl⟩) (fun h=>by simp only at h;rw [c2]at h;exact absurd h (bG rfl)) (h.low n hn))) h.ckI ⟨refl _,h.ntI.2⟩ ⟨refl _,h.nkI.2⟩ (by simp) h.neI.2 (hnil _)
  rw [append_nil]at this
  exact⟨this,refl _,refl _,refl _,refl _,refl _,refl _⟩
 |cancel n r' hk hf hn hid h1 e1 e2 e3 e4 hd=>
  obtain⟨f1,f2,f3,f4⟩:=hf
  have hro:=h.rok hn
  have hok:=Kh hro h1 e1 e2 e3 e4 hd
  have hev:jL ne nr [(ne,ofNat 6,r'.1,ofNat 0,())]:=by
   rw [e1]
   exact jM (by decide) (h.id hn) (by decide) (.inl rfl)
  exact⟨oF (nt':=nt) (nk':=nk) h hn e1 e2 hok (Hy (Gc (h.low n hn)) hd) h.ckI ⟨refl _,h.ntI.2⟩ ⟨refl _,h.nkI.2⟩ rfl (by simp only [jK];omega) hev,refl _,refl _,refl _,refl _,by simp only;omega,refl _⟩
 |tick l d R nk' ne' w hk hf h1 h2 hl hs' hN=>
  obtain⟨f1,f2,f3,f4⟩:=hf
  have hx:SX c.2.2.2.2.2.2.2.1 nr nt nk ne ac rs (es++ []):=by
   rw [append_nil]
   exact⟨h.fine,⟨by have:=h.ckI.1;omega,h2⟩,h.nrI,h.nkI,h.ntI,h.neI,h.ack,h.elen,h.late,h.evs⟩
  obtain⟨q1,q2,q3,q4,q5,q6⟩:=zU (x:=(ofNat 0,rs,nk,ne,[])) hx _ _ hN (by simp only;omega) (by simp only;omega)
  exact⟨q1,h1,refl _,refl _,q2,q4,refl _⟩
 |ack hk h1 h2=>
  have hel:=h.elen
  have hack:=h.ack
  refine⟨⟨h.fine,h.ckI,h.nrI,h.nkI,h.ntI,h.neI,⟨by simp only;omega,h2⟩,by rw [length_drop];simp only;omega,h.late,fun j hj=> ?_⟩,refl _,refl _,refl _,refl _,refl _,h1⟩
  simp only [length_drop]at hj⊢
  have:=h.evs ((c.2.2.2.2.2.2.2.1-ac).toNat+j) (by omega)
  rw [getD_eq_getElem?_getD,List.getElem?_drop,←getD_eq_getElem?_getD]
  exact⟨by omega,this.2⟩
abbrev mw (v:Int):jI:=(v,ofNat 0,ofNat 0,ofNat 0,aP,[],())
abbrev mk (ck nr nt nk ne ac:Int) (rs:List am) (es:List aO):cg:=(ck,nr,nt,nk,ne,ac,rs,es,())
theorem tr_ok {P:Prop} {F:Option (aq×Int×Unit)} {t t':aq} (h:lc F P t) (he:F=some (t',0,())):P∧t'=t:=by
 rcases h with⟨hp,h⟩|⟨_,n,h⟩
 ·rw [he]at h
  injection h with h
  exact⟨hp,(Prod.mk.inj h).1⟩
 ·rw [he]at h
  injection h with h
  have:=(Prod.mk.inj (Prod.mk.inj h).2).1
  simp only [bm]at this
  omega
theorem Bt {P:Prop} {F:Option (aq×Int×Unit)} {t:aq} (h:lc F P t) (ht:P→0≤t.1):(∃t',F=some (t',0,())∧0≤t'.1)∨∃n:Nat,F=some (t0,ofNat (n+1),()):=by
 rcases h with⟨hp,h⟩|⟨_,h⟩
 ·exact .inl ⟨t,h,ht hp⟩
 ·exact .inr h
theorem HD {nd:aR} {t t':aq} {now:Int} (h:vH nd t now t'):0≤t'.1:=by
 rcases h with⟨_,rfl⟩|⟨_,u,_,rfl⟩
 ·exact natCast_nonneg 5
 ·exact natCast_nonneg 3
theorem rR {r:am} (h:ROk r) {k:Nat} (hk:k<r.2.2.2.2.1.length):ep (dC r k):=ly h.dag.2.1 (by have:=h.len;omega)
theorem vK {r:am} (h:ROk r) {k:Nat} (hk:k<r.2.2.2.2.1.length):0≤(bN r k).1:=(Mt (h.tks k hk)).1
section
variable {S R:Type} {G:S→R→Prop}
theorem zV {K:am×Int×Unit→Option (S×R×Unit)} (r:am) (hr:bK r) (i tk un:Int) (hok:∀(r':am) (k:Nat),i=k→k<r.2.2.2.2.1.length→(bN r k).1=1→bX un→Turn r k (ofNat 2,(bN r k).2.1+1,un,tk,ofNat 0,()) r'→∃t q,K (r',0,())=some (t,q,())∧G t q) (herr:∀n:Nat,∃t q,K (aP,ofNat (n+1),())=some (t,q,())∧G t q):
  ∃t q,(xK (r,i,tk,un,())).bind K=some (t,q,())∧G t q:=by
 obtain⟨r',e',hc,hq⟩:=mX r hr i (fun nd t=>uZ (nd,t,tk,un,())) (fun nd t h1 h2 h3=>Bt (f167 nd t tk un h1 h2) fun _=>natCast_nonneg 2)
 rw [←FX]at hc
 rw [hc]
 rcases hq with⟨rfl,hro,_,k,t',hi,hk,hD,ht⟩|⟨⟨m,rfl⟩,rfl,_⟩
 ·obtain⟨⟨_,_,hun,htk,h1⟩,rfl⟩:=tr_ok (f167 _ _ tk un (rR hro hk) (vK hro hk)) hD
  have h5:=FW (rR hro hk) htk
  have h0:=htk.1.1
  have e:IntKind.i64.wrap ((bN r k).2.1+ofNat 1)=(bN r k).2.1+1:=by rw [IntKind.wrap_i64];simp only [bm];omega
  rw [e]at ht
  exact hok r' k hi hk h1 hun ht
 ·exact herr m
theorem Cn {K:am×Int×Unit→Option (S×R×Unit)} (r:am) (hr:bK r) (i tk un:Int) (hok:∀(r':am) (k:Nat),i=k→k<r.2.2.2.2.1.length→jR (dC r k) (bN r k) tk→bX un→Turn r k ((bN r k).1,(bN r k).2.1,un,(bN r k).2.2.2.1,(bN r k).2.2.2.2.1,()) r'→∃t q,K (r',0,())=some (t,q,())∧G t q) (herr:∀n:Nat,∃t q,K (aP,ofNat (n+1),())=some (t,q,())∧G t q):
  ∃t q,(Fl (r,i,tk,un,())).bind K=some (t,q,())∧G t q:=by
 obtain⟨r',e',hc,hq⟩:=mX r hr i (fun nd t=>AM (nd,t,tk,un,())) (fun nd t h1 h2 h3=>Bt (f173 nd t tk un h1 h2) fun _=>h2)
 rw [←To]at hc
 rw [hc]
 rcases hq with⟨rfl,hro,_,k,t',hi,hk,hD,ht⟩|⟨⟨m,rfl⟩,rfl,_⟩
 ·obtain⟨⟨hun,hh⟩,rfl⟩:=tr_ok (f173 _ _ tk un (rR hro hk) (vK hro hk)) hD
  exact hok r' k hi hk hh hun ht
 ·exact herr m
theorem Co {K:am×Int×Unit→Option (S×R×Unit)} (r:am) (hr:bK r) (i tk now:Int) (hok:∀(r':am) (k:Nat) (t':aq),i=k→k<r.2.2.2.2.1.length→jR (dC r k) (bN r k) tk→vH (dC r k) (bN r k) now t'→Turn r k t' r'→∃t q,K (r',0,())=some (t,q,())∧G t q) (herr:∀n:Nat,∃t q,K (aP,ofNat (n+1),())=some (t,q,())∧G t q):
  ∃t q,(Fk (r,i,tk,now,())).bind K=some (t,q,())∧G t q:=by
 obtain⟨r',e',hc,hq⟩:=mX r hr i (fun nd t=>AL (nd,t,tk,now,())) (fun nd t h1 h2 h3=>by
  obtain⟨t',h,h4⟩:=f171 nd t tk now h1 h2
  exact Bt h fun hp=>HD (h4 hp))
 rw [←Tn]at hc
 rw [hc]
 rcases hq with⟨rfl,hro,_,k,t',hi,hk,hD,ht⟩|⟨⟨m,rfl⟩,rfl,_⟩
 ·obtain⟨t2,h2,h3⟩:=f171 (dC r k) (bN r k) tk now (rR hro hk) (vK hro hk)
  obtain⟨hp,rfl⟩:=tr_ok h2 hD
  exact hok r' k t' hi hk hp.2 (h3 hp) ht
 ·exact herr m
theorem xc {K:am×Int×Unit→Option (S×R×Unit)} (r:am) (hr:bK r) (hok:∀r':am,r.2.2.2.1=1→r'.1=r.1→r'.2.1=r.2.1→r'.2.2.1=r.2.2.1→r'.2.2.2.1=4→iv r.2.2.1.1 r.2.2.2.2.1 r'.2.2.2.2.1→∃t q,K (r',0,())=some (t,q,())∧G t q) (herr:∀n:Nat,∃t q,K (aP,ofNat (n+1),())=some (t,q,())∧G t q):
  ∃t q,(xJ (r,())).bind K=some (t,q,())∧G t q:=by
 obtain⟨r',e',hc,hq⟩:=Ms r hr
 rw [hc]
 rcases hq with⟨rfl,hro,h1,h2,h3,h4,h5,h6,_⟩|⟨⟨m,rfl⟩,rfl,_⟩
 ·exact hok r' h1 h2 h3 h4 h5 h6
 ·exact herr m
theorem uf {K:am×Int×Int×Unit→Option (S×R×Unit)} (r:am) (hr:bK r) (i tk rk:Int) (hok:∀(r':am) (rk':Int) (k:Nat),i=k→k<r.2.2.2.2.1.length→pn rk→jR (dC r k) (bN r k) tk→Cmpl r k rk r' rk'→∃t q,K (r',rk',0,())=some (t,q,())∧G t q) (herr:∀r' rk' (n:Nat),∃t q,K (r',rk',ofNat (n+1),())=some (t,q,())∧G t q):
  ∃t q,(xI (r,i,tk,rk,())).bind K=some (t,q,())∧G t q:=by
 obtain⟨r',rk',e',hc,hq⟩:=Gu r hr i tk rk
 rw [hc]
 rcases hq with⟨rfl,hro,_,hrk,k,hi,hk,hh,ht⟩|⟨m,rfl⟩
 ·exact hok r' rk' k hi hk hrk hh ht
 ·exact herr r' rk' m
theorem mR {K:am×Int×Int×Unit→Option (S×R×Unit)} (id:Int) (key:ByteArray) (sp:List aR×Unit) (hln:∀nd∈sp.1,nd.1.length≤9223372036854775807) (rk:Int) (hok:1≤key.size∧key.size≤24→ub sp.1→pn rk→∃t q,K ((id,key,sp,ofNat 1,(eK sp.1 rk).2,()),(eK sp.1 rk).1,0,())=some (t,q,())∧G t q) (herr:∀r' rk' (n:Nat),∃t q,K (r',rk',ofNat (n+1),())=some (t,q,())∧G t q):
  ∃t q,(rM (id,key,sp,rk,())).bind K=some (t,q,())∧G t q:=by
 obtain⟨ns,_⟩:=sp
 obtain⟨r',rk',e,hc,hq⟩:=FY id key ns hln rk
 rw [hc]
 rcases hq with⟨rfl,_,h1,hd,hk,rfl,rfl⟩|⟨⟨m,rfl⟩,_⟩
 ·exact hok h1 hd hk
 ·exact herr r' rk' m
end
theorem wA (r:am) (h:ROk r) (k:Nat) (rk now:Int) (hk:k<r.2.2.2.2.1.length) (h3:(bN r k).1=3) (hd:ed (bN r k) now=true) (hrk:bX rk) (hnow:bX now):∃r',nZ (r,(k:Int),rk,now,())=some (r',0,())∧Turn r k (ofNat 1,(bN r k).2.1,ofNat 0,ofNat 0,rk,()) r':=by
 have f:=fun nd t h1 h2=>f216 nd t rk now h1 h2
 obtain⟨r',e',hc,hq⟩:=mX r (mY h) k (fun nd t=>AN (nd,t,rk,now,())) (fun nd t h1 h2 h3=>Bt (f nd t h1 h2) fun _=>natCast_nonneg 1)
 rw [←Tp]at hc
 have hP:=f (dC r k) (bN r k) (rR h hk) (vK h hk)
 rcases hq with⟨rfl,hro,_,k',t',hi,_,hD,ht⟩|⟨_,_,hno⟩
 ·obtain rfl:k=k':=by omega
  obtain⟨_,rfl⟩:=tr_ok hP hD
  exact⟨r',hc,ht⟩
 ·refine absurd ⟨h,gc h hk (by rw [h3];decide),k,(ofNat 1,(bN r k).2.1,ofNat 0,ofNat 0,rk,()),rfl,hk,?_⟩ hno
  rcases hP with⟨_,hP⟩|⟨hP,_⟩
  ·exact hP
  ·exact absurd ⟨hrk,hnow,h.tks k hk,h3,hd⟩ hP
theorem rS (r:am) (h:ROk r) (k:Nat) (now:Int) (hk:k<r.2.2.2.2.1.length) (h2:(bN r k).1=2) (hd:ed (bN r k) now=true) (hnow:bX now):∃r' t',oc (r,(k:Int),now,())=some (r',0,())∧vH (dC r k) (bN r k) now t'∧Turn r k t' r':=by
 obtain⟨r',e',hc,hq⟩:=mX r (mY h) k (fun nd t=>AO (nd,t,now,())) (fun nd t h1 h2 h3=>by
  obtain⟨t',h,h4⟩:=f218 nd t now h1 h2
  exact Bt h fun hp=>HD (h4 hp))
 rw [←Ot]at hc
 obtain⟨t2,hP,hf⟩:=f218 (dC r k) (bN r k) now (rR h hk) (vK h hk)
 rcases hq with⟨rfl,hro,_,k',t',hi,_,hD,ht⟩|⟨_,_,hno⟩
 ·obtain rfl:k=k':=by omega
  obtain⟨hp,rfl⟩:=tr_ok hP hD
  exact⟨r',t',hc,hf hp,ht⟩
 ·refine absurd ⟨h,gc h hk (by rw [h2];decide),k,t2,rfl,hk,?_⟩ hno
  rcases hP with⟨_,hP⟩|⟨hP,_⟩
  ·exact hP
  ·exact absurd ⟨hnow,h.tks k hk,h2,hd⟩ hP
def bC (ck nr nt nk ne ac:Int) (rs:List am) (es:List aO) (c:bo) (t:cg) (r:jI):Prop:=Stp ck nr nt nk ne ac rs es c t r∧t.2.2.2.2.2.2.2.1.length≤40
theorem fm {z:Int} (h0:0≤z) (h:z≤1099511627776):IntKind.i64.wrap (z+ofNat 1)=z+1:=by rw [IntKind.wrap_i64];simp only [bm];omega
theorem wr2 {z:Int} (h0:0≤z) (h:z≤1099511627776):IntKind.i64.wrap (IntKind.i64.wrap (z+ofNat 1)+ofNat 1)=z+2:=by rw [fm h0 h,IntKind.wrap_i64];simp only [bm];omega
theorem wrm {z:Int} (h0:0≤z) (h:z≤1099511627776):IntKind.i64.wrap (IntKind.i64.wrap (z+ofNat 1)-ofNat 1)=z:=by rw [fm h0 h,IntKind.wrap_i64];simp only [bm];omega
theorem jN {rs:List am} (n:Nat) (r':am):take rs.length (rs.set n r')=rs.set n r':=take_of_length_le (by rw [length_set];exact Nat.le_refl _)
theorem f48 (ck nr nt nk ne ac:Int) (rs:List am) (es:List aO):∃b,qd (mk ck nr nt nk ne ac rs es,())=some (b,())∧(b=false→Fresh nr nt nk ne):=by
 refine⟨_,rfl,fun h=> ?_⟩
 have h:=of_decide_eq_false h
 simp only [bm]at h
 constructor<;>(split at h<;>split at h<;>split at h<;>omega)
section
variable {ck nr nt nk ne ac:Int} {rs:List am} {es:List aO} {c:bo} {ck' nr' nt' nk' ne' ac':Int} {R:List am} {E:List aO} {a b d:Int}
theorem aw (h:SOk (mk ck nr nt nk ne ac rs es)) (n:Nat):bC ck nr nt nk ne ac rs es c (mk ck nr nt nk ne ac rs es) (mw (ofNat (n+1))):=⟨.err n,h.ev40⟩
theorem Gd (h:SOk (mk ck nr nt nk ne ac rs es)) {n:Nat} (hk:c.1=1) (hn:n<rs.length) (hkey:cK (rs.getD n (aa ae))=c.2.1.toList) (ha:(rs.getD n (aa ae)).1=a):bC ck nr nt nk ne ac rs es c (mk ck nr nt nk ne ac rs es) (gU a (ofNat 0) (ofNat 0)):=by
 subst ha;exact⟨.known n hk hn hkey,h.ev40⟩
theorem zW (hk:c.1=1) (hf:Fresh nr nt nk ne) (hno:∀n:Nat,n<rs.length→cK (rs.getD n (aa ae))≠c.2.1.toList) (h32:rs.length<32) (hkey:1≤c.2.1.size∧c.2.1.size≤24) (hd:ub c.2.2.1.1) (hrk:pn nk) (hnr:nr'=nr+1) (hne:ne'=ne+1) (hR:R=rs++ [(nr,c.2.1,c.2.2.1,ofNat 1,(eK c.2.2.1.1 nk).2,())]) (hE:E=es++ [(ne,ofNat 1,nr,ofNat 0,())]) (h40:E.length≤40):
  bC ck nr nt nk ne ac rs es c (mk ck nr' nt (eK c.2.2.1.1 nk).1 ne' ac R E) (gU nr (ofNat 0) (ofNat 0)):=by
 subst hnr hne hR hE;exact⟨.new hk hf hno h32 hkey hd hrk,h40⟩
theorem HE (h:SOk (mk ck nr nt nk ne ac rs es)) {n k:Nat} {un:Int} {r':am} (hk:c.1=2) (hf:Fresh nr nt nk ne) (hn:n<rs.length) (hkl:k<(aQ rs n).length) (h1:((aQ rs n).getD k (aa ab)).1=1) (hun:bX un) (hT:Turn (rs.getD n (aa ae)) k (ofNat 2,((aQ rs n).getD k (aa ab)).2.1+1,un,nt,ofNat 0,()) r') (ha:(rs.getD n (aa ae)).1=a) (hb:b=k) (hd:d=nt) (hnt:nt'=nt+1) (hR:R=rs.set n r'):
  bC ck nr nt nk ne ac rs es c (mk ck nr nt' nk ne ac R es) (gU a b d):=by
 subst ha hb hnt hR;rw [hd];exact⟨.poll n k un r' hk hf hn hkl h1 hun hT,h.ev40⟩
theorem lA {n k:Nat} {r':am} {rk':Int} {w:List aO} (hk:c.1=3) (hf:Fresh nr nt nk ne) (hn:n<rs.length) (hid:(rs.getD n (aa ae)).1=c.2.2.2.1) (hi:c.2.2.2.2.1=k) (hkl:k<(aQ rs n).length) (hrk:pn nk) (hh:jR (dC (rs.getD n (aa ae)) k) ((aQ rs n).getD k (aa ab)) c.2.2.2.2.2.1) (hC:Cmpl (rs.getD n (aa ae)) k nk r' rk')
  (hw:(r'.2.2.2.1≠2∧w= [(ne,ofNat 2,r'.1,(k:Int),())])∨(r'.2.2.2.1=2∧w= [(ne,ofNat 2,r'.1,(k:Int),()),(ne+1,ofNat 4,r'.1,ofNat 0,())])) (hne:ne'=ne+w.length) (hR:R=rs.set n r') (hE:E=es++w) (h40:E.length≤40):
  bC ck nr nt nk ne ac rs es c (mk ck nr nt rk' ne' ac R E) (gU (ofNat 0) (ofNat 0) (ofNat 0)):=by
 subst hne hR hE;exact⟨.complete n k r' rk' w hk hf hn hid hi hkl hrk hh hC hw,h40⟩
theorem wB {n k:Nat} {t':aq} {r':am} (hk:c.1=4) (hf:Fresh nr nt nk ne) (hn:n<rs.length) (hid:(rs.getD n (aa ae)).1=c.2.2.2.1) (hi:c.2.2.2.2.1=k) (hkl:k<(aQ rs n).length) (hh:jR (dC (rs.getD n (aa ae)) k) ((aQ rs n).getD k (aa ab)) c.2.2.2.2.2.1) (hfl:vH (dC (rs.getD n (aa ae)) k) ((aQ rs n).getD k (aa ab)) ck t') (hT:Turn (rs.getD n (aa ae)) k t' r') (hne:ne'=ne+1) (hR:R=rs.set n r') (hE:E=es++ [db ne r' k]) (h40:E.length≤40):
  bC ck nr nt nk ne ac rs es c (mk ck nr nt nk ne' ac R E) (gU (ofNat 0) (ofNat 0) (ofNat 0)):=by
 subst hne hR hE;exact⟨.fail n k t' r' hk hf hn hid hi hkl hh hfl hT,h40⟩
theorem HF (h:SOk (mk ck nr nt nk ne ac rs es)) {n k:Nat} {un:Int} {r':am} (hk:c.1=5) (hf:Fresh nr nt nk ne) (hn:n<rs.length) (hid:(rs.getD n (aa ae)).1=c.2.2.2.1) (hi:c.2.2.2.2.1=k) (hkl:k<(aQ rs n).length) (hh:jR (dC (rs.getD n (aa ae)) k) ((aQ rs n).getD k (aa ab)) c.2.2.2.2.2.1) (hun:bX un)
  (hT:Turn (rs.getD n (aa ae)) k (((aQ rs n).getD k (aa ab)).1,((aQ rs n).getD k (aa ab)).2.1,un,((aQ rs n).getD k (aa ab)).2.2.2.1,((aQ rs n).getD k (aa ab)).2.2.2.2.1,()) r') (hR:R=rs.set n r'):
  bC ck nr nt nk ne ac rs es c (mk ck nr nt nk ne ac R es) (gU (ofNat 0) (ofNat 0) (ofNat 0)):=by
 subst hR;exact⟨.beat n k un r' hk hf hn hid hi hkl hh hun hT,h.ev40⟩
theorem Cp {n:Nat} {r':am} (hk:c.1=6) (hf:Fresh nr nt nk ne) (hn:n<rs.length) (hid:(rs.getD n (aa ae)).1=c.2.2.2.1) (h1:(rs.getD n (aa ae)).2.2.2.1=1) (e1:r'.1=(rs.getD n (aa ae)).1) (e2:r'.2.1=(rs.getD n (aa ae)).2.1) (e3:r'.2.2.1=(rs.getD n (aa ae)).2.2.1) (e4:r'.2.2.2.1=4) (hd:iv (rs.getD n (aa ae)).2.2.1.1 (aQ rs n) r'.2.2.2.2.1) (hne:ne'=ne+1) (hR:R=rs.set n r') (hE:E=es++ [(ne,ofNat 6,r'.1,ofNat 0,())]) (h40:E.length≤40):
  bC ck nr nt nk ne ac rs es c (mk ck nr nt nk ne' ac R E) (gU (ofNat 0) (ofNat 0) (ofNat 0)):=by
 subst hne hR hE;exact⟨.cancel n r' hk hf hn hid h1 e1 e2 e3 e4 hd,h40⟩
theorem Ge (h:SOk (mk ck nr nt nk ne ac rs es)) {n:Nat} (hk:c.1=8) (hn:n<rs.length) (hid:(rs.getD n (aa ae)).1=c.2.2.2.1):bC ck nr nt nk ne ac rs es c (mk ck nr nt nk ne ac rs es) (ofNat 0,ofNat 0,ofNat 0,ofNat 0,rs.getD n (aa ae),[],()):=⟨.query n hk hn hid,h.ev40⟩
theorem lg (h:SOk (mk ck nr nt nk ne ac rs es)) (hk:c.1=9) (m:Nat) (hE:E=es.take m):bC ck nr nt nk ne ac rs es c (mk ck nr nt nk ne ac rs es) (ofNat 0,ofNat 0,ofNat 0,ofNat 0,aP,E,()):=by
 subst hE;exact⟨.drain m hk,h.ev40⟩
theorem qJ (h:SOk (mk ck nr nt nk ne ac rs es)) (hk:c.1=10) (h1:ac≤c.2.2.2.2.2.2.2.1) (h2:c.2.2.2.2.2.2.2.1<ne) (hE:E=es.drop (c.2.2.2.2.2.2.2.1-ac).toNat):bC ck nr nt nk ne ac rs es c (mk ck nr nt nk ne c.2.2.2.2.2.2.2.1 rs E) (gU (ofNat 0) (ofNat 0) (ofNat 0)):=by
 subst hE;exact⟨.ack hk h1 h2,by have:=h.ev40;simp only [length_drop,mk]at*;omega⟩
end
theorem bQ {G:cg→jI→Prop} {M E:Option (cg×jI×Unit)} {ck nr nt nk ne ac:Int} {rs:List am} {es:List aO} (b:Bool) (hM:(b=true→Fresh nr nt nk ne)→∃t r,M=some (t,r,())∧G t r) (hE:∃t r,E=some (t,r,())∧G t r):
  ∃t r,((qd (mk ck nr nt nk ne ac rs es,())).bind fun y=>bif y.1 then(bif b then E else M)else M)=some (t,r,())∧G t r:=by
 obtain⟨b',hb,hf⟩:=f48 ck nr nt nk ne ac rs es
 rw [hb,bind_some]
 cases b' with
 |true=>
  cases b with
  |true=>exact hE
  |false=>exact hM fun h=>nomatch h
 |false=>exact hM fun _=>hf rfl
theorem Mx {n:Nat} (h:n≤60):(decide ((n+1)*80≤2^46) && decide (n+1≤2^46))=true:=Dp (by omega) (by omega)
theorem f118 (n:Int):∃b,ki (n,())=some (b,()):=by
 simp only [ki]
 cases decide (n≥ofNat 1)with
 |true=>exact⟨_,rfl⟩
 |false=>exact⟨_,rfl⟩
theorem cj {n k:Nat} (h:n≤60) (hk:k≤60):(decide ((n+k)*32≤2^46) && decide (n+k≤2^46))=true:=Dp (by omega) (by omega)
section
variable {ck nr nt nk ne ac:Int} {rs:List am} {es:List aO}
theorem my (h:SOk (mk ck nr nt nk ne ac rs es)) (hR:isEmpty rs=false) (hE:isEmpty es=false) (v:Int):bE (mk ck nr nt nk ne ac rs es) v=some (mk ck nr nt nk ne ac rs es,mw v,()):=by
 have h25:=bg h
 simp only [mk]at h25
 simp only [bE,mk,h25,bind_some,hR,hE,cond_false,zero_add,Nat.le_refl,decide_true,cond_true,bp]
theorem oH (h:SOk (mk ck nr nt nk ne ac rs [])) (hR:isEmpty rs=false) (v:Int):cn (mk ck nr nt nk ne ac rs []) v=some (mk ck nr nt nk ne ac rs [],mw v,()):=by
 have h25:=bg h
 simp only [mk]at h25
 simp only [cn,mk,h25,bind_some,hR,isEmpty_nil,cond_false,zero_add,Nat.le_refl,decide_true,cond_true,bp]
theorem oI (h:SOk (mk ck nr nt nk ne ac [] es)) (hE:isEmpty es=false) (v:Int):co (mk ck nr nt nk ne ac [] es) v=some (mk ck nr nt nk ne ac [] es,mw v,()):=by
 have h25:=bg h
 simp only [mk]at h25
 simp only [co,mk,h25,bind_some,hE,isEmpty_nil,cond_false,zero_add,Nat.le_refl,decide_true,cond_true,bp]
theorem oJ (h:SOk (mk ck nr nt nk ne ac [] [])) (v:Int):cR (mk ck nr nt nk ne ac [] []) v=some (mk ck nr nt nk ne ac [] [],mw v,()):=by
 have h25:=bg h
 simp only [mk]at h25
 simp only [cR,mk,h25,bind_some,isEmpty_nil,cond_false,zero_add,Nat.le_refl,decide_true,cond_true,bp]
end
theorem ZG {ck nr nt nk ne ac:Int} {rs:List am} {es:List aO} (h:SOk (mk ck nr nt nk ne ac rs es)) (hr:∀r∈rs,bK r) (hR:isEmpty rs=false) (hE:isEmpty es=false) (c:bo) (hfr:Fresh nr nt nk ne) (hk:c.1=6):
  ∃t r,yW ((mk ck nr nt nk ne ac rs es),c,())=some (t,r,())∧bC ck nr nt nk ne ac rs es c t r:=by
 have h25:=bg h
 have hf:=h.fine
 have he:=h.ev40
 have hne:=h.ne
 simp only [mk]at h25 hf he hne
 have h32:=hf.1
 have E:=my h hR hE
 simp only [mk]at E
 simp only [yW,mk,h25,bind_some,hR,hE,cond_false,zero_add,Nat.le_refl,decide_true,cond_true,bp,bW,E]
 obtain⟨i,b,e,hfi,hq⟩:=bY rs (by omega) hr c.2.2.2.1
 simp only [hfi,bind_some]
 rcases hq with⟨_,_,hq⟩|⟨rfl,_,⟨rfl,n,rfl,hn,hid⟩|⟨rfl,_⟩⟩
 ·exact absurd hf hq
 ·simp only [Bool.not_true,cond_false,aL hn,aF hn,cond_true,toNat_natCast]
  refine xc (rs.getD n (aa ae)) (hr _ (aG hn _)) (fun r' h1 e1 e2 e3 e4 hd=> ?_) (fun m=> ?_)
  ·simp only [cM]
   try simp only [length_cons,length_nil,zero_add,cj (show es.length≤60 by omega) (show 1≤60 by omega),cj (show es.length+1≤60 by omega) (show 1≤60 by omega),decide_true,cond_true,length_append,length_set,Nat.le_refl,drop_zero]
   by_cases c40:(((es.length+1:Nat):Int)>ofNat 40)
   ·rw [decide_eq_true c40,cond_true];exact⟨_,_,rfl,aw h 8⟩
   ·rw [decide_eq_false c40,cond_false]
    exact⟨_,_,rfl,Cp hk hfr hn hid h1 e1 e2 e3 e4 hd (fm (by omega) (by omega)) (jN n r') (by simp) (by simp only [length_append,length_cons,length_nil,bm]at c40⊢;omega)⟩
  ·simp only [eJ]
   exact⟨_,_,rfl,aw h m⟩
 ·exact⟨_,_,rfl,aw h 5⟩
theorem ZH {ck nr nt nk ne ac:Int} {rs:List am} (h:SOk (mk ck nr nt nk ne ac rs [])) (hr:∀r∈rs,bK r) (hR:isEmpty rs=false) (c:bo) (hfr:Fresh nr nt nk ne) (hk:c.1=6):
  ∃t r,zf ((mk ck nr nt nk ne ac rs []),c,())=some (t,r,())∧bC ck nr nt nk ne ac rs [] c t r:=by
 have h25:=bg h
 have hf:=h.fine
 have he:=h.ev40
 have hne:=h.ne
 simp only [mk]at h25 hf he hne
 have h32:=hf.1
 have E:=oH h hR
 simp only [mk]at E
 simp only [zf,mk,h25,bind_some,hR,isEmpty_nil,cond_false,zero_add,Nat.le_refl,decide_true,cond_true,bp,bW,E]
 obtain⟨i,b,e,hfi,hq⟩:=bY rs (by omega) hr c.2.2.2.1
 simp only [hfi,bind_some]
 rcases hq with⟨_,_,hq⟩|⟨rfl,_,⟨rfl,n,rfl,hn,hid⟩|⟨rfl,_⟩⟩
 ·exact absurd hf hq
 ·simp only [Bool.not_true,cond_false,aL hn,aF hn,cond_true,toNat_natCast]
  refine xc (rs.getD n (aa ae)) (hr _ (aG hn _)) (fun r' h1 e1 e2 e3 e4 hd=> ?_) (fun m=> ?_)
  ·simp only [cM]
   try simp only [length_set,Nat.le_refl,decide_true,cond_true,drop_zero]
   exact⟨_,_,rfl,Cp hk hfr hn hid h1 e1 e2 e3 e4 hd (fm (by omega) (by omega)) (jN n r') (by simp) (by simp only [length_cons,length_nil];omega)⟩
  ·simp only [eJ]
   exact⟨_,_,rfl,aw h m⟩
 ·exact⟨_,_,rfl,aw h 5⟩
theorem ZI {ck nr nt nk ne ac:Int} {es:List aO} (h:SOk (mk ck nr nt nk ne ac [] es)) (hr:∀r∈([]:List am),bK r) (hE:isEmpty es=false) (c:bo) (hfr:Fresh nr nt nk ne) (hk:c.1=6):
  ∃t r,zp ((mk ck nr nt nk ne ac [] es),c,())=some (t,r,())∧bC ck nr nt nk ne ac [] es c t r:=by
 have h25:=bg h
 have hf:=h.fine
 have he:=h.ev40
 have hne:=h.ne
 simp only [mk]at h25 hf he hne
 have h32:=hf.1
 have E:=oI h hE
 simp only [mk]at E
 simp only [zp,mk,h25,bind_some,hE,isEmpty_nil,cond_false,zero_add,Nat.le_refl,decide_true,cond_true,bp,bW,E]
 obtain⟨i,b,e,hfi,hq⟩:=bY ([]:List am) (by omega) hr c.2.2.2.1
 simp only [hfi,bind_some]
 rcases hq with⟨_,_,hq⟩|⟨rfl,_,⟨rfl,n,rfl,hn,hid⟩|⟨rfl,_⟩⟩
 ·exact absurd hf hq
 ·exact absurd hn (not_lt_zero _)
 ·exact⟨_,_,rfl,aw h 5⟩
theorem ZJ {ck nr nt nk ne ac:Int} (h:SOk (mk ck nr nt nk ne ac [] [])) (hr:∀r∈([]:List am),bK r) (c:bo) (hfr:Fresh nr nt nk ne) (hk:c.1=6):
  ∃t r,zB ((mk ck nr nt nk ne ac [] []),c,())=some (t,r,())∧bC ck nr nt nk ne ac [] [] c t r:=by
 have h25:=bg h
 have hf:=h.fine
 have he:=h.ev40
 have hne:=h.ne
 simp only [mk]at h25 hf he hne
 have h32:=hf.1
 have E:=oJ h
 simp only [mk]at E
 simp only [zB,mk,h25,bind_some,isEmpty_nil,cond_false,zero_add,Nat.le_refl,decide_true,cond_true,bp,bW,E]
 obtain⟨i,b,e,hfi,hq⟩:=bY ([]:List am) (by omega) hr c.2.2.2.1
 simp only [hfi,bind_some]
 rcases hq with⟨_,_,hq⟩|⟨rfl,_,⟨rfl,n,rfl,hn,hid⟩|⟨rfl,_⟩⟩
 ·exact absurd hf hq
 ·exact absurd hn (not_lt_zero _)
 ·exact⟨_,_,rfl,aw h 5⟩
theorem ZK {ck nr nt nk ne ac:Int} {rs:List am} {es:List aO} (h:SOk (mk ck nr nt nk ne ac rs es)) (hr:∀r∈rs,bK r) (hR:isEmpty rs=false) (hE:isEmpty es=false) (c:bo) (hfr:Fresh nr nt nk ne) (hk:c.1=4):
  ∃t r,yU ((mk ck nr nt nk ne ac rs es),c,())=some (t,r,())∧bC ck nr nt nk ne ac rs es c t r:=by
 have h25:=bg h
 have hf:=h.fine
 have he:=h.ev40
 have hne:=h.ne
 simp only [mk]at h25 hf he hne
 have h32:=hf.1
 have E:=my h hR hE
 simp only [mk]at E
 simp only [yU,mk,h25,bind_some,hR,hE,cond_false,zero_add,Nat.le_refl,decide_true,cond_true,bp,bW,E]
 obtain⟨i,b,e,hfi,hq⟩:=bY rs (by omega) hr c.2.2.2.1
 simp only [hfi,bind_some]
 rcases hq with⟨_,_,hq⟩|⟨rfl,_,⟨rfl,n,rfl,hn,hid⟩|⟨rfl,_⟩⟩
 ·exact absurd hf hq
 ·simp only [Bool.not_true,cond_false,aL hn,aF hn,cond_true,toNat_natCast]
  refine Co (rs.getD n (aa ae)) (hr _ (aG hn _)) _ _ _ (fun r' k t' hi hkl hh hfl hT=> ?_) (fun m=> ?_)
  ·simp only [cM]
   by_cases c3:r'.2.2.2.1=3
   ·rw [show(r'.2.2.2.1==ofNat 3)=true by simpa using c3,cond_true]
    try simp only [length_cons,length_nil,zero_add,cj (show es.length≤60 by omega) (show 1≤60 by omega),cj (show es.length+1≤60 by omega) (show 1≤60 by omega),decide_true,cond_true,length_append,length_set,Nat.le_refl,drop_zero]
    by_cases c40:(((es.length+1:Nat):Int)>ofNat 40)
    ·rw [decide_eq_true c40,cond_true];exact⟨_,_,rfl,aw h 8⟩
    ·rw [decide_eq_false c40,cond_false]
     exact⟨_,_,rfl,wB hk hfr hn hid hi hkl hh hfl hT (fm (by omega) (by omega)) (jN n r') (by simp [db,c3,hi]) (by simp only [length_append,length_cons,length_nil,bm]at c40⊢;omega)⟩
   ·rw [show(r'.2.2.2.1==ofNat 3)=false by simpa using c3,cond_false]
    try simp only [length_cons,length_nil,zero_add,cj (show es.length≤60 by omega) (show 1≤60 by omega),cj (show es.length+1≤60 by omega) (show 1≤60 by omega),decide_true,cond_true,length_append,length_set,Nat.le_refl,drop_zero]
    by_cases c40:(((es.length+1:Nat):Int)>ofNat 40)
    ·rw [decide_eq_true c40,cond_true];exact⟨_,_,rfl,aw h 8⟩
    ·rw [decide_eq_false c40,cond_false]
     exact⟨_,_,rfl,wB hk hfr hn hid hi hkl hh hfl hT (fm (by omega) (by omega)) (jN n r') (by simp [db,c3,hi]) (by simp only [length_append,length_cons,length_nil,bm]at c40⊢;omega)⟩
  ·simp only [eJ]
   exact⟨_,_,rfl,aw h m⟩
 ·exact⟨_,_,rfl,aw h 5⟩
theorem ZL {ck nr nt nk ne ac:Int} {rs:List am} (h:SOk (mk ck nr nt nk ne ac rs [])) (hr:∀r∈rs,bK r) (hR:isEmpty rs=false) (c:bo) (hfr:Fresh nr nt nk ne) (hk:c.1=4):
  ∃t r,zd ((mk ck nr nt nk ne ac rs []),c,())=some (t,r,())∧bC ck nr nt nk ne ac rs [] c t r:=by
 have h25:=bg h
 have hf:=h.fine
 have he:=h.ev40
 have hne:=h.ne
 simp only [mk]at h25 hf he hne
 have h32:=hf.1
 have E:=oH h hR
 simp only [mk]at E
 simp only [zd,mk,h25,bind_some,hR,isEmpty_nil,cond_false,zero_add,Nat.le_refl,decide_true,cond_true,bp,bW,E]
 obtain⟨i,b,e,hfi,hq⟩:=bY rs (by omega) hr c.2.2.2.1
 simp only [hfi,bind_some]
 rcases hq with⟨_,_,hq⟩|⟨rfl,_,⟨rfl,n,rfl,hn,hid⟩|⟨rfl,_⟩⟩
 ·exact absurd hf hq
 ·simp only [Bool.not_true,cond_false,aL hn,aF hn,cond_true,toNat_natCast]
  refine Co (rs.getD n (aa ae)) (hr _ (aG hn _)) _ _ _ (fun r' k t' hi hkl hh hfl hT=> ?_) (fun m=> ?_)
  ·simp only [cM]
   by_cases c3:r'.2.2.2.1=3
   ·rw [show(r'.2.2.2.1==ofNat 3)=true by simpa using c3,cond_true]
    try simp only [length_set,Nat.le_refl,decide_true,cond_true,drop_zero]
    exact⟨_,_,rfl,wB hk hfr hn hid hi hkl hh hfl hT (fm (by omega) (by omega)) (jN n r') (by simp [db,c3,hi]) (by simp only [length_cons,length_nil];omega)⟩
   ·rw [show(r'.2.2.2.1==ofNat 3)=false by simpa using c3,cond_false]
    try simp only [length_set,Nat.le_refl,decide_true,cond_true,drop_zero]
    exact⟨_,_,rfl,wB hk hfr hn hid hi hkl hh hfl hT (fm (by omega) (by omega)) (jN n r') (by simp [db,c3,hi]) (by simp only [length_cons,length_nil];omega)⟩
  ·simp only [eJ]
   exact⟨_,_,rfl,aw h m⟩
 ·exact⟨_,_,rfl,aw h 5⟩
theorem ZM {ck nr nt nk ne ac:Int} {es:List aO} (h:SOk (mk ck nr nt nk ne ac [] es)) (hr:∀r∈([]:List am),bK r) (hE:isEmpty es=false) (c:bo) (hfr:Fresh nr nt nk ne) (hk:c.1=4):
  ∃t r,zn ((mk ck nr nt nk ne ac [] es),c,())=some (t,r,())∧bC ck nr nt nk ne ac [] es c t r:=by
 have h25:=bg h
 have hf:=h.fine
 have he:=h.ev40
 have hne:=h.ne
 simp only [mk]at h25 hf he hne
 have h32:=hf.1
 have E:=oI h hE
 simp only [mk]at E
 simp only [zn,mk,h25,bind_some,hE,isEmpty_nil,cond_false,zero_add,Nat.le_refl,decide_true,cond_true,bp,bW,E]
 obtain⟨i,b,e,hfi,hq⟩:=bY ([]:List am) (by omega) hr c.2.2.2.1
 simp only [hfi,bind_some]
 rcases hq with⟨_,_,hq⟩|⟨rfl,_,⟨rfl,n,rfl,hn,hid⟩|⟨rfl,_⟩⟩
 ·exact absurd hf hq
 ·exact absurd hn (not_lt_zero _)
 ·exact⟨_,_,rfl,aw h 5⟩
theorem ZN {ck nr nt nk ne ac:Int} (h:SOk (mk ck nr nt nk ne ac [] [])) (hr:∀r∈([]:List am),bK r) (c:bo) (hfr:Fresh nr nt nk ne) (hk:c.1=4):
  ∃t r,zy ((mk ck nr nt nk ne ac [] []),c,())=some (t,r,())∧bC ck nr nt nk ne ac [] [] c t r:=by
 have h25:=bg h
 have hf:=h.fine
 have he:=h.ev40
 have hne:=h.ne
 simp only [mk]at h25 hf he hne
 have h32:=hf.1
 have E:=oJ h
 simp only [mk]at E
 simp only [zy,mk,h25,bind_some,isEmpty_nil,cond_false,zero_add,Nat.le_refl,decide_true,cond_true,bp,bW,E]
 obtain⟨i,b,e,hfi,hq⟩:=bY ([]:List am) (by omega) hr c.2.2.2.1
 simp only [hfi,bind_some]
 rcases hq with⟨_,_,hq⟩|⟨rfl,_,⟨rfl,n,rfl,hn,hid⟩|⟨rfl,_⟩⟩
 ·exact absurd hf hq
 ·exact absurd hn (not_lt_zero _)
 ·exact⟨_,_,rfl,aw h 5⟩
theorem ZO {ck nr nt nk ne ac:Int} {rs:List am} {es:List aO} (h:SOk (mk ck nr nt nk ne ac rs es)) (hr:∀r∈rs,bK r) (hR:isEmpty rs=false) (hE:isEmpty es=false) (c:bo) (hfr:Fresh nr nt nk ne) (hk:c.1=3):
  ∃t r,yT ((mk ck nr nt nk ne ac rs es),c,())=some (t,r,())∧bC ck nr nt nk ne ac rs es c t r:=by
 have h25:=bg h
 have hf:=h.fine
 have he:=h.ev40
 have hne:=h.ne
 simp only [mk]at h25 hf he hne
 have h32:=hf.1
 have E:=my h hR hE
 simp only [mk]at E
 simp only [yT,mk,h25,bind_some,hR,hE,cond_false,zero_add,Nat.le_refl,decide_true,cond_true,bp,bW,E]
 obtain⟨i,b,e,hfi,hq⟩:=bY rs (by omega) hr c.2.2.2.1
 simp only [hfi,bind_some]
 rcases hq with⟨_,_,hq⟩|⟨rfl,_,⟨rfl,n,rfl,hn,hid⟩|⟨rfl,_⟩⟩
 ·exact absurd hf hq
 ·simp only [Bool.not_true,cond_false,aL hn,aF hn,cond_true,toNat_natCast]
  refine uf (rs.getD n (aa ae)) (hr _ (aG hn _)) _ _ _ (fun r' rk' k hi hkl hrk hh hC=> ?_) (fun _ _ m=> ?_)
  ·simp only [cM]
   try simp only [decide_true,cond_true,length_cons,length_nil,zero_add,cj (show es.length≤60 by omega) (show 1≤60 by omega),cj (show es.length+1≤60 by omega) (show 1≤60 by omega),aF hn]
   by_cases c2:r'.2.2.2.1=2
   ·rw [show(r'.2.2.2.1==ofNat 2)=true by simpa using c2,cond_true]
    try simp only [length_cons,length_nil,zero_add,cj (show es.length≤60 by omega) (show 1≤60 by omega),cj (show es.length+1≤60 by omega) (show 1≤60 by omega),decide_true,cond_true,length_append,length_set,Nat.le_refl,drop_zero]
    by_cases c40:(((es.length+1+1:Nat):Int)>ofNat 40)
    ·rw [decide_eq_true c40,cond_true];exact⟨_,_,rfl,aw h 8⟩
    ·rw [decide_eq_false c40,cond_false]
     exact⟨_,_,rfl,lA hk hfr hn hid hi hkl hrk hh hC (.inr ⟨c2,rfl⟩) (wr2 (z:=ne) (by omega) (by omega)) (jN n r') (by simp [hi];rw [IntKind.wrap_i64];omega) (by simp only [length_append,length_cons,length_nil,bm]at c40⊢;omega)⟩
   ·rw [show(r'.2.2.2.1==ofNat 2)=false by simpa using c2,cond_false]
    try simp only [length_cons,length_nil,zero_add,cj (show es.length≤60 by omega) (show 1≤60 by omega),cj (show es.length+1≤60 by omega) (show 1≤60 by omega),decide_true,cond_true,length_append,length_set,Nat.le_refl,drop_zero]
    by_cases c40:(((es.length+1:Nat):Int)>ofNat 40)
    ·rw [decide_eq_true c40,cond_true];exact⟨_,_,rfl,aw h 8⟩
    ·rw [decide_eq_false c40,cond_false]
     exact⟨_,_,rfl,lA hk hfr hn hid hi hkl hrk hh hC (.inl ⟨c2,rfl⟩) (fm (by omega) (by omega)) (jN n r') (by simp [hi]) (by simp only [length_append,length_cons,length_nil,bm]at c40⊢;omega)⟩
  ·simp only [eJ]
   exact⟨_,_,rfl,aw h m⟩
 ·exact⟨_,_,rfl,aw h 5⟩
theorem ZP {ck nr nt nk ne ac:Int} {rs:List am} (h:SOk (mk ck nr nt nk ne ac rs [])) (hr:∀r∈rs,bK r) (hR:isEmpty rs=false) (c:bo) (hfr:Fresh nr nt nk ne) (hk:c.1=3):
  ∃t r,zc ((mk ck nr nt nk ne ac rs []),c,())=some (t,r,())∧bC ck nr nt nk ne ac rs [] c t r:=by
 have h25:=bg h
 have hf:=h.fine
 have he:=h.ev40
 have hne:=h.ne
 simp only [mk]at h25 hf he hne
 have h32:=hf.1
 have E:=oH h hR
 simp only [mk]at E
 simp only [zc,mk,h25,bind_some,hR,isEmpty_nil,cond_false,zero_add,Nat.le_refl,decide_true,cond_true,bp,bW,E]
 obtain⟨i,b,e,hfi,hq⟩:=bY rs (by omega) hr c.2.2.2.1
 simp only [hfi,bind_some]
 rcases hq with⟨_,_,hq⟩|⟨rfl,_,⟨rfl,n,rfl,hn,hid⟩|⟨rfl,_⟩⟩
 ·exact absurd hf hq
 ·simp only [Bool.not_true,cond_false,aL hn,aF hn,cond_true,toNat_natCast]
  refine uf (rs.getD n (aa ae)) (hr _ (aG hn _)) _ _ _ (fun r' rk' k hi hkl hrk hh hC=> ?_) (fun _ _ m=> ?_)
  ·simp only [cM]
   try simp only [decide_true,cond_true,length_cons,length_nil,zero_add,aF hn]
   by_cases c2:r'.2.2.2.1=2
   ·rw [show(r'.2.2.2.1==ofNat 2)=true by simpa using c2,cond_true]
    try simp only [length_cons,length_nil,zero_add,decide_true,cond_true,length_append,length_set,Nat.le_refl,drop_zero,List.cons_append,List.nil_append,Nat.reduceAdd,Nat.reduceMul,Nat.reducePow,Nat.reduceLeDiff,Bool.and_self]
    exact⟨_,_,rfl,lA hk hfr hn hid hi hkl hrk hh hC (.inr ⟨c2,rfl⟩) (wr2 (z:=ne) (by omega) (by omega)) (jN n r') (by simp [hi];rw [IntKind.wrap_i64];omega) (by simp only [length_cons,length_nil];omega)⟩
   ·rw [show(r'.2.2.2.1==ofNat 2)=false by simpa using c2,cond_false]
    try simp only [length_set,Nat.le_refl,decide_true,cond_true,drop_zero]
    exact⟨_,_,rfl,lA hk hfr hn hid hi hkl hrk hh hC (.inl ⟨c2,rfl⟩) (fm (by omega) (by omega)) (jN n r') (by simp [hi]) (by simp only [length_cons,length_nil];omega)⟩
  ·simp only [eJ]
   exact⟨_,_,rfl,aw h m⟩
 ·exact⟨_,_,rfl,aw h 5⟩
theorem ZQ {ck nr nt nk ne ac:Int} {es:List aO} (h:SOk (mk ck nr nt nk ne ac [] es)) (hr:∀r∈([]:List am),bK r) (hE:isEmpty es=false) (c:bo) (hfr:Fresh nr nt nk ne) (hk:c.1=3):
  ∃t r,zm ((mk ck nr nt nk ne ac [] es),c,())=some (t,r,())∧bC ck nr nt nk ne ac [] es c t r:=by
 have h25:=bg h
 have hf:=h.fine
 have he:=h.ev40
 have hne:=h.ne
 simp only [mk]at h25 hf he hne
 have h32:=hf.1
 have E:=oI h hE
 simp only [mk]at E
 simp only [zm,mk,h25,bind_some,hE,isEmpty_nil,cond_false,zero_add,Nat.le_refl,decide_true,cond_true,bp,bW,E]
 obtain⟨i,b,e,hfi,hq⟩:=bY ([]:List am) (by omega) hr c.2.2.2.1
 simp only [hfi,bind_some]
 rcases hq with⟨_,_,hq⟩|⟨rfl,_,⟨rfl,n,rfl,hn,hid⟩|⟨rfl,_⟩⟩
 ·exact absurd hf hq
 ·exact absurd hn (not_lt_zero _)
 ·exact⟨_,_,rfl,aw h 5⟩
theorem ZR {ck nr nt nk ne ac:Int} (h:SOk (mk ck nr nt nk ne ac [] [])) (hr:∀r∈([]:List am),bK r) (c:bo) (hfr:Fresh nr nt nk ne) (hk:c.1=3):
  ∃t r,zx ((mk ck nr nt nk ne ac [] []),c,())=some (t,r,())∧bC ck nr nt nk ne ac [] [] c t r:=by
 have h25:=bg h
 have hf:=h.fine
 have he:=h.ev40
 have hne:=h.ne
 simp only [mk]at h25 hf he hne
 have h32:=hf.1
 have E:=oJ h
 simp only [mk]at E
 simp only [zx,mk,h25,bind_some,isEmpty_nil,cond_false,zero_add,Nat.le_refl,decide_true,cond_true,bp,bW,E]
 obtain⟨i,b,e,hfi,hq⟩:=bY ([]:List am) (by omega) hr c.2.2.2.1
 simp only [hfi,bind_some]
 rcases hq with⟨_,_,hq⟩|⟨rfl,_,⟨rfl,n,rfl,hn,hid⟩|⟨rfl,_⟩⟩
 ·exact absurd hf hq
 ·exact absurd hn (not_lt_zero _)
 ·exact⟨_,_,rfl,aw h 5⟩
theorem ZS {ck nr nt nk ne ac:Int} {rs:List am} {es:List aO} (h:SOk (mk ck nr nt nk ne ac rs es)) (hr:∀r∈rs,bK r) (hR:isEmpty rs=false) (hE:isEmpty es=false) (c:bo) (hk:c.1=8):
  ∃t r,yY ((mk ck nr nt nk ne ac rs es),c,())=some (t,r,())∧bC ck nr nt nk ne ac rs es c t r:=by
 have h25:=bg h
 have hf:=h.fine
 have he:=h.ev40
 have hne:=h.ne
 simp only [mk]at h25 hf he hne
 have h32:=hf.1
 have E:=my h hR hE
 simp only [mk]at E
 simp only [yY,mk,h25,bind_some,hR,hE,cond_false,zero_add,Nat.le_refl,decide_true,cond_true,bp,bW,E]
 obtain⟨i,b,e,hfi,hq⟩:=bY rs (by omega) hr c.2.2.2.1
 simp only [hfi,bind_some]
 rcases hq with⟨_,_,hq⟩|⟨rfl,_,⟨rfl,n,rfl,hn,hid⟩|⟨rfl,_⟩⟩
 ·exact absurd hf hq
 ·simp only [Bool.not_true,cond_false,aL hn,aF hn,cond_true,toNat_natCast]
  have gT:=f62 (rs.getD n (aa ae)) (qG (hf.2.chk n hn))
  simp only [gT,bind_some]
  try simp only [length_cons,length_nil,zero_add,cj (show es.length≤60 by omega) (show 1≤60 by omega),cj (show es.length+1≤60 by omega) (show 1≤60 by omega),decide_true,cond_true,length_append,length_set,Nat.le_refl,drop_zero]
  by_cases c40:(((es.length:Nat):Int)>ofNat 40)
  ·rw [decide_eq_true c40,cond_true];exact⟨_,_,rfl,aw h 8⟩
  ·rw [decide_eq_false c40,cond_false]
   exact⟨_,_,rfl,Ge h hk hn hid⟩
 ·exact⟨_,_,rfl,aw h 5⟩
theorem ZT {ck nr nt nk ne ac:Int} {rs:List am} (h:SOk (mk ck nr nt nk ne ac rs [])) (hr:∀r∈rs,bK r) (hR:isEmpty rs=false) (c:bo) (hk:c.1=8):
  ∃t r,zh ((mk ck nr nt nk ne ac rs []),c,())=some (t,r,())∧bC ck nr nt nk ne ac rs [] c t r:=by
 have h25:=bg h
 have hf:=h.fine
 have he:=h.ev40
 have hne:=h.ne
 simp only [mk]at h25 hf he hne
 have h32:=hf.1
 have E:=oH h hR
 simp only [mk]at E
 simp only [zh,mk,h25,bind_some,hR,isEmpty_nil,cond_false,zero_add,Nat.le_refl,decide_true,cond_true,bp,bW,E]
 obtain⟨i,b,e,hfi,hq⟩:=bY rs (by omega) hr c.2.2.2.1
 simp only [hfi,bind_some]
 rcases hq with⟨_,_,hq⟩|⟨rfl,_,⟨rfl,n,rfl,hn,hid⟩|⟨rfl,_⟩⟩
 ·exact absurd hf hq
 ·simp only [Bool.not_true,cond_false,aL hn,aF hn,cond_true,toNat_natCast]
  have gT:=f62 (rs.getD n (aa ae)) (qG (hf.2.chk n hn))
  simp only [gT,bind_some]
  try simp only [length_set,Nat.le_refl,decide_true,cond_true,drop_zero]
  exact⟨_,_,rfl,Ge h hk hn hid⟩
 ·exact⟨_,_,rfl,aw h 5⟩
theorem ZU {ck nr nt nk ne ac:Int} {es:List aO} (h:SOk (mk ck nr nt nk ne ac [] es)) (hr:∀r∈([]:List am),bK r) (hE:isEmpty es=false) (c:bo) (hk:c.1=8):
  ∃t r,zr ((mk ck nr nt nk ne ac [] es),c,())=some (t,r,())∧bC ck nr nt nk ne ac [] es c t r:=by
 have h25:=bg h
 have hf:=h.fine
 have he:=h.ev40
 have hne:=h.ne
 simp only [mk]at h25 hf he hne
 have h32:=hf.1
 have E:=oI h hE
 simp only [mk]at E
 simp only [zr,mk,h25,bind_some,hE,isEmpty_nil,cond_false,zero_add,Nat.le_refl,decide_true,cond_true,bp,bW,E]
 obtain⟨i,b,e,hfi,hq⟩:=bY ([]:List am) (by omega) hr c.2.2.2.1
 simp only [hfi,bind_some]
 rcases hq with⟨_,_,hq⟩|⟨rfl,_,⟨rfl,n,rfl,hn,hid⟩|⟨rfl,_⟩⟩
 ·exact absurd hf hq
 ·exact absurd hn (not_lt_zero _)
 ·exact⟨_,_,rfl,aw h 5⟩
theorem ZV {ck nr nt nk ne ac:Int} (h:SOk (mk ck nr nt nk ne ac [] [])) (hr:∀r∈([]:List am),bK r) (c:bo) (hk:c.1=8):
  ∃t r,zD ((mk ck nr nt nk ne ac [] []),c,())=some (t,r,())∧bC ck nr nt nk ne ac [] [] c t r:=by
 have h25:=bg h
 have hf:=h.fine
 have he:=h.ev40
 have hne:=h.ne
 simp only [mk]at h25 hf he hne
 have h32:=hf.1
 have E:=oJ h
 simp only [mk]at E
 simp only [zD,mk,h25,bind_some,isEmpty_nil,cond_false,zero_add,Nat.le_refl,decide_true,cond_true,bp,bW,E]
 obtain⟨i,b,e,hfi,hq⟩:=bY ([]:List am) (by omega) hr c.2.2.2.1
 simp only [hfi,bind_some]
 rcases hq with⟨_,_,hq⟩|⟨rfl,_,⟨rfl,n,rfl,hn,hid⟩|⟨rfl,_⟩⟩
 ·exact absurd hf hq
 ·exact absurd hn (not_lt_zero _)
 ·exact⟨_,_,rfl,aw h 5⟩
theorem ZW {ck nr nt nk ne ac:Int} {rs:List am} {es:List aO} (h:SOk (mk ck nr nt nk ne ac rs es)) (hr:∀r∈rs,bK r) (hR:isEmpty rs=false) (hE:isEmpty es=false) (c:bo) (hk:c.1=9):
  ∃t r,yZ ((mk ck nr nt nk ne ac rs es),c,())=some (t,r,())∧bC ck nr nt nk ne ac rs es c t r:=by
 have h25:=bg h
 have hf:=h.fine
 have he:=h.ev40
 have hne:=h.ne
 simp only [mk]at h25 hf he hne
 have h32:=hf.1
 have E:=my h hR hE
 simp only [mk]at E
 simp only [yZ,mk,h25,bind_some,hR,hE,cond_false,zero_add,Nat.le_refl,decide_true,cond_true,bp,bW,E]
 by_cases c1:c.2.2.2.2.2.2.2.1<ofNat 1
 ·rw [decide_eq_true c1,cond_true];exact⟨_,_,rfl,aw h 1⟩
 rw [decide_eq_false c1,cond_false]
 by_cases c2:c.2.2.2.2.2.2.2.1>ofNat 40
 ·rw [decide_eq_true c2,cond_true];exact⟨_,_,rfl,aw h 1⟩
 rw [decide_eq_false c2,cond_false]
 simp only [bm]at c1 c2
 obtain⟨m,hm,hml⟩:∃m:Nat,(if(es.length:Int)<c.2.2.2.2.2.2.2.1 then(es.length:Int)else c.2.2.2.2.2.2.2.1)=(m:Int)∧m≤es.length:=by
  split
  ·exact⟨es.length,rfl,Nat.le_refl _⟩
  ·exact⟨c.2.2.2.2.2.2.2.1.toNat,by omega,by omega⟩
 have hw:∀z:Int,z=0→aj z (m:Int) (es.length:Int)=true:=fun z hz=>by subst hz;simp only [aj,Bool.and_eq_true,decide_eq_true_eq];omega
 have iK:=f61 (es.take m) (by rw [List.length_take];omega)
 simp only [hm,hw 0 rfl,hw ((0:Nat):Int) rfl,cond_true,toNat_natCast,sub_zero,Nat.add_zero,zero_add,drop_zero,decide_eq_true hml,iK,bind_some,bp]
 generalize decide ((es.length:Int)>ofNat 40)=b40
 cases hem:isEmpty (take m es)with
 |true=>
  cases b40 with
  |true=>exact⟨_,_,rfl,aw h 8⟩
  |false=>exact⟨_,_,rfl,lg h hk 0 rfl⟩
 |false=>
  cases b40 with
  |true=>exact⟨_,_,rfl,aw h 8⟩
  |false=>exact⟨_,_,rfl,lg h hk m rfl⟩
theorem ZX {ck nr nt nk ne ac:Int} {rs:List am} (h:SOk (mk ck nr nt nk ne ac rs [])) (hr:∀r∈rs,bK r) (hR:isEmpty rs=false) (c:bo) (hk:c.1=9):
  ∃t r,zi ((mk ck nr nt nk ne ac rs []),c,())=some (t,r,())∧bC ck nr nt nk ne ac rs [] c t r:=by
 have h25:=bg h
 have hf:=h.fine
 have he:=h.ev40
 have hne:=h.ne
 simp only [mk]at h25 hf he hne
 have h32:=hf.1
 have E:=oH h hR
 simp only [mk]at E
 simp only [zi,mk,h25,bind_some,hR,isEmpty_nil,cond_false,zero_add,Nat.le_refl,decide_true,cond_true,bp,bW,E]
 by_cases c1:c.2.2.2.2.2.2.2.1<ofNat 1
 ·rw [decide_eq_true c1,cond_true];exact⟨_,_,rfl,aw h 1⟩
 rw [decide_eq_false c1,cond_false]
 by_cases c2:c.2.2.2.2.2.2.2.1>ofNat 40
 ·rw [decide_eq_true c2,cond_true];exact⟨_,_,rfl,aw h 1⟩
 rw [decide_eq_false c2,cond_false]
 simp only [bm]at c1 c2
 have hm:(if(0:Int)<c.2.2.2.2.2.2.2.1 then(0:Int)else c.2.2.2.2.2.2.2.1)=0:=if_pos (by omega)
 have hw:∀z y:Int,z=0→y=0→aj z 0 y=true:=fun z y hz hy=>by subst hz;subst hy;rfl
 have iK:=f61 [] (by decide)
 simp only [hm,hw 0 0 rfl rfl,hw ((0:Nat):Int) ((0:Nat):Int) rfl rfl,cond_true,iK,bind_some,isEmpty_nil]
 exact⟨_,_,rfl,lg h hk 0 rfl⟩
theorem ZY {ck nr nt nk ne ac:Int} {es:List aO} (h:SOk (mk ck nr nt nk ne ac [] es)) (hr:∀r∈([]:List am),bK r) (hE:isEmpty es=false) (c:bo) (hk:c.1=9):
  ∃t r,zt ((mk ck nr nt nk ne ac [] es),c,())=some (t,r,())∧bC ck nr nt nk ne ac [] es c t r:=by
 have h25:=bg h
 have hf:=h.fine
 have he:=h.ev40
 have hne:=h.ne
 simp only [mk]at h25 hf he hne
 have h32:=hf.1
 have E:=oI h hE
 simp only [mk]at E
 simp only [zt,mk,h25,bind_some,hE,isEmpty_nil,cond_false,zero_add,Nat.le_refl,decide_true,cond_true,bp,bW,E]
 by_cases c1:c.2.2.2.2.2.2.2.1<ofNat 1
 ·rw [decide_eq_true c1,cond_true];exact⟨_,_,rfl,aw h 1⟩
 rw [decide_eq_false c1,cond_false]
 by_cases c2:c.2.2.2.2.2.2.2.1>ofNat 40
 ·rw [decide_eq_true c2,cond_true];exact⟨_,_,rfl,aw h 1⟩
 rw [decide_eq_false c2,cond_false]
 simp only [bm]at c1 c2
 obtain⟨m,hm,hml⟩:∃m:Nat,(if(es.length:Int)<c.2.2.2.2.2.2.2.1 then(es.length:Int)else c.2.2.2.2.2.2.2.1)=(m:Int)∧m≤es.length:=by
  split
  ·exact⟨es.length,rfl,Nat.le_refl _⟩
  ·exact⟨c.2.2.2.2.2.2.2.1.toNat,by omega,by omega⟩
 have hw:∀z:Int,z=0→aj z (m:Int) (es.length:Int)=true:=fun z hz=>by subst hz;simp only [aj,Bool.and_eq_true,decide_eq_true_eq];omega
 have iK:=f61 (es.take m) (by rw [List.length_take];omega)
 simp only [hm,hw 0 rfl,hw ((0:Nat):Int) rfl,cond_true,toNat_natCast,sub_zero,Nat.add_zero,zero_add,drop_zero,decide_eq_true hml,iK,bind_some,bp]
 generalize decide ((es.length:Int)>ofNat 40)=b40
 cases hem:isEmpty (take m es)with
 |true=>
  cases b40 with
  |true=>exact⟨_,_,rfl,aw h 8⟩
  |false=>exact⟨_,_,rfl,lg h hk 0 rfl⟩
 |false=>
  cases b40 with
  |true=>exact⟨_,_,rfl,aw h 8⟩
  |false=>exact⟨_,_,rfl,lg h hk m rfl⟩
theorem ZZ {ck nr nt nk ne ac:Int} (h:SOk (mk ck nr nt nk ne ac [] [])) (hr:∀r∈([]:List am),bK r) (c:bo) (hk:c.1=9):
  ∃t r,zF ((mk ck nr nt nk ne ac [] []),c,())=some (t,r,())∧bC ck nr nt nk ne ac [] [] c t r:=by
 have h25:=bg h
 have hf:=h.fine
 have he:=h.ev40
 have hne:=h.ne
 simp only [mk]at h25 hf he hne
 have h32:=hf.1
 have E:=oJ h
 simp only [mk]at E
 simp only [zF,mk,h25,bind_some,isEmpty_nil,cond_false,zero_add,Nat.le_refl,decide_true,cond_true,bp,bW,E]
 by_cases c1:c.2.2.2.2.2.2.2.1<ofNat 1
 ·rw [decide_eq_true c1,cond_true];exact⟨_,_,rfl,aw h 1⟩
 rw [decide_eq_false c1,cond_false]
 by_cases c2:c.2.2.2.2.2.2.2.1>ofNat 40
 ·rw [decide_eq_true c2,cond_true];exact⟨_,_,rfl,aw h 1⟩
 rw [decide_eq_false c2,cond_false]
 simp only [bm]at c1 c2
 have hm:(if(0:Int)<c.2.2.2.2.2.2.2.1 then(0:Int)else c.2.2.2.2.2.2.2.1)=0:=if_pos (by omega)
 have hw:∀z y:Int,z=0→y=0→aj z 0 y=true:=fun z y hz hy=>by subst hz;subst hy;rfl
 have iK:=f61 [] (by decide)
 simp only [hm,hw 0 0 rfl rfl,hw ((0:Nat):Int) ((0:Nat):Int) rfl rfl,cond_true,iK,bind_some,isEmpty_nil]
 exact⟨_,_,rfl,lg h hk 0 rfl⟩
theorem Tt {ck nr nt nk ne ac:Int} {rs:List am} {es:List aO} (h:SOk (mk ck nr nt nk ne ac rs es)) (hr:∀r∈rs,bK r) (hR:isEmpty rs=false) (hE:isEmpty es=false) (c:bo) (hk:c.1=10):
  ∃t r,wn ((mk ck nr nt nk ne ac rs es),c,())=some (t,r,())∧bC ck nr nt nk ne ac rs es c t r:=by
 have h25:=bg h
 have hf:=h.fine
 have he:=h.ev40
 have hne:=h.ne
 simp only [mk]at h25 hf he hne
 have h32:=hf.1
 have E:=my h hR hE
 simp only [mk]at E
 simp only [wn,mk,h25,bind_some,hR,hE,cond_false,zero_add,Nat.le_refl,decide_true,cond_true,bp,bW,E]
 by_cases c1:c.2.2.2.2.2.2.2.1<ac
 ·rw [decide_eq_true c1,cond_true];exact⟨_,_,rfl,aw h 1⟩
 rw [decide_eq_false c1,cond_false]
 by_cases c2:c.2.2.2.2.2.2.2.1≥ne
 ·rw [decide_eq_true c2,cond_true];exact⟨_,_,rfl,aw h 1⟩
 rw [decide_eq_false c2,cond_false]
 have hac:=h.ack
 have hel:=h.elen
 simp only [mk]at hac hel
 obtain⟨m,hm⟩:∃m:Nat,c.2.2.2.2.2.2.2.1-ac=(m:Int):=⟨(c.2.2.2.2.2.2.2.1-ac).toNat,by omega⟩
 have hml:m≤es.length:=by omega
 have hwr:IntKind.i64.wrap (c.2.2.2.2.2.2.2.1-ac)=(m:Int):=by rw [IntKind.wrap_i64];omega
 have htn:(c.2.2.2.2.2.2.2.1-ac).toNat=m:=by omega
 have hw:∀z:Int,z=0→aj z (m:Int) (es.length:Int)=true:=fun z hz=>by subst hz;simp only [aj,Bool.and_eq_true,decide_eq_true_eq];omega
 have htk:take (es.length-m) (drop m es)=drop m es:=take_of_length_le (by rw [length_drop];omega)
 have iK:=f61 (es.drop m) (by rw [length_drop];omega)
 have hd:decide (m+(es.length-m)≤es.length)=true:=decide_eq_true (by omega)
 simp only [hwr,hw 0 rfl,hw ((0:Nat):Int) rfl,cond_true,toNat_natCast,zero_add,htk,hd,iK,bind_some,bp]
 cases hem:isEmpty (drop m es)with
 |true=>exact⟨_,_,rfl,qJ h hk (by omega) (by omega) (by rw [htn];exact(show es.drop m= [] by simpa using hem).symm)⟩
 |false=>
  generalize decide (((drop m es).length:Int)>ofNat 40)=b40
  cases b40 with
  |true=>exact⟨_,_,rfl,aw h 8⟩
  |false=>exact⟨_,_,rfl,qJ h hk (by omega) (by omega) (by rw [htn])⟩
theorem Tu {ck nr nt nk ne ac:Int} {rs:List am} (h:SOk (mk ck nr nt nk ne ac rs [])) (hr:∀r∈rs,bK r) (hR:isEmpty rs=false) (c:bo) (hk:c.1=10):
  ∃t r,wo ((mk ck nr nt nk ne ac rs []),c,())=some (t,r,())∧bC ck nr nt nk ne ac rs [] c t r:=by
 have h25:=bg h
 have hf:=h.fine
 have he:=h.ev40
 have hne:=h.ne
 simp only [mk]at h25 hf he hne
 have h32:=hf.1
 have E:=oH h hR
 simp only [mk]at E
 simp only [wo,mk,h25,bind_some,hR,isEmpty_nil,cond_false,zero_add,Nat.le_refl,decide_true,cond_true,bp,bW,E]
 by_cases c1:c.2.2.2.2.2.2.2.1<ac
 ·rw [decide_eq_true c1,cond_true];exact⟨_,_,rfl,aw h 1⟩
 rw [decide_eq_false c1,cond_false]
 by_cases c2:c.2.2.2.2.2.2.2.1≥ne
 ·rw [decide_eq_true c2,cond_true];exact⟨_,_,rfl,aw h 1⟩
 rw [decide_eq_false c2,cond_false]
 have hac:=h.ack
 have hel:=h.elen
 simp only [mk]at hac hel
 have hto:c.2.2.2.2.2.2.2.1=ac:=by simp only [length_nil]at hel;omega
 have hwr:IntKind.i64.wrap (c.2.2.2.2.2.2.2.1-ac)=0:=by rw [IntKind.wrap_i64];omega
 have hw:∀z y:Int,z=0→y=0→aj z 0 y=true:=fun z y hz hy=>by subst hz;subst hy;rfl
 have iK:=f61 [] (by decide)
 simp only [hwr,hw 0 0 rfl rfl,hw ((0:Nat):Int) ((0:Nat):Int) rfl rfl,cond_true,iK,bind_some,isEmpty_nil]
 exact⟨_,_,rfl,qJ h hk (by omega) (by omega) (by simp)⟩
theorem Tv {ck nr nt nk ne ac:Int} {es:List aO} (h:SOk (mk ck nr nt nk ne ac [] es)) (hr:∀r∈([]:List am),bK r) (hE:isEmpty es=false) (c:bo) (hk:c.1=10):
  ∃t r,wq ((mk ck nr nt nk ne ac [] es),c,())=some (t,r,())∧bC ck nr nt nk ne ac [] es c t r:=by
 have h25:=bg h
 have hf:=h.fine
 have he:=h.ev40
 have hne:=h.ne
 simp only [mk]at h25 hf he hne
 have h32:=hf.1
 have E:=oI h hE
 simp only [mk]at E
 simp only [wq,mk,h25,bind_some,hE,isEmpty_nil,cond_false,zero_add,Nat.le_refl,decide_true,cond_true,bp,bW,E]
 by_cases c1:c.2.2.2.2.2.2.2.1<ac
 ·rw [decide_eq_true c1,cond_true];exact⟨_,_,rfl,aw h 1⟩
 rw [decide_eq_false c1,cond_false]
 by_cases c2:c.2.2.2.2.2.2.2.1≥ne
 ·rw [decide_eq_true c2,cond_true];exact⟨_,_,rfl,aw h 1⟩
 rw [decide_eq_false c2,cond_false]
 have hac:=h.ack
 have hel:=h.elen
 simp only [mk]at hac hel
 obtain⟨m,hm⟩:∃m:Nat,c.2.2.2.2.2.2.2.1-ac=(m:Int):=⟨(c.2.2.2.2.2.2.2.1-ac).toNat,by omega⟩
 have hml:m≤es.length:=by omega
 have hwr:IntKind.i64.wrap (c.2.2.2.2.2.2.2.1-ac)=(m:Int):=by rw [IntKind.wrap_i64];omega
 have htn:(c.2.2.2.2.2.2.2.1-ac).toNat=m:=by omega
 have hw:∀z:Int,z=0→aj z (m:Int) (es.length:Int)=true:=fun z hz=>by subst hz;simp only [aj,Bool.and_eq_true,decide_eq_true_eq];omega
 have htk:take (es.length-m) (drop m es)=drop m es:=take_of_length_le (by rw [length_drop];omega)
 have iK:=f61 (es.drop m) (by rw [length_drop];omega)
 have hd:decide (m+(es.length-m)≤es.length)=true:=decide_eq_true (by omega)
 simp only [hwr,hw 0 rfl,hw ((0:Nat):Int) rfl,cond_true,toNat_natCast,zero_add,htk,hd,iK,bind_some,bp]
 cases hem:isEmpty (drop m es)with
 |true=>exact⟨_,_,rfl,qJ h hk (by omega) (by omega) (by rw [htn];exact(show es.drop m= [] by simpa using hem).symm)⟩
 |false=>
  generalize decide (((drop m es).length:Int)>ofNat 40)=b40
  cases b40 with
  |true=>exact⟨_,_,rfl,aw h 8⟩
  |false=>exact⟨_,_,rfl,qJ h hk (by omega) (by omega) (by rw [htn])⟩
theorem Tw {ck nr nt nk ne ac:Int} (h:SOk (mk ck nr nt nk ne ac [] [])) (hr:∀r∈([]:List am),bK r) (c:bo) (hk:c.1=10):
  ∃t r,wu ((mk ck nr nt nk ne ac [] []),c,())=some (t,r,())∧bC ck nr nt nk ne ac [] [] c t r:=by
 have h25:=bg h
 have hf:=h.fine
 have he:=h.ev40
 have hne:=h.ne
 simp only [mk]at h25 hf he hne
 have h32:=hf.1
 have E:=oJ h
 simp only [mk]at E
 simp only [wu,mk,h25,bind_some,isEmpty_nil,cond_false,zero_add,Nat.le_refl,decide_true,cond_true,bp,bW,E]
 by_cases c1:c.2.2.2.2.2.2.2.1<ac
 ·rw [decide_eq_true c1,cond_true];exact⟨_,_,rfl,aw h 1⟩
 rw [decide_eq_false c1,cond_false]
 by_cases c2:c.2.2.2.2.2.2.2.1≥ne
 ·rw [decide_eq_true c2,cond_true];exact⟨_,_,rfl,aw h 1⟩
 rw [decide_eq_false c2,cond_false]
 have hac:=h.ack
 have hel:=h.elen
 simp only [mk]at hac hel
 have hto:c.2.2.2.2.2.2.2.1=ac:=by simp only [length_nil]at hel;omega
 have hwr:IntKind.i64.wrap (c.2.2.2.2.2.2.2.1-ac)=0:=by rw [IntKind.wrap_i64];omega
 have hw:∀z y:Int,z=0→y=0→aj z 0 y=true:=fun z y hz hy=>by subst hz;subst hy;rfl
 have iK:=f61 [] (by decide)
 simp only [hwr,hw 0 0 rfl rfl,hw ((0:Nat):Int) ((0:Nat):Int) rfl rfl,cond_true,iK,bind_some,isEmpty_nil]
 exact⟨_,_,rfl,qJ h hk (by omega) (by omega) (by simp)⟩
theorem aaa {ck nr nt nk ne ac:Int} {rs:List am} {es:List aO} (h:SOk (mk ck nr nt nk ne ac rs es)) (hr:∀r∈rs,bK r) (hR:isEmpty rs=false) (hE:isEmpty es=false) (c:bo) (hfr:Fresh nr nt nk ne) (hk:c.1=5):
  ∃t r,yV ((mk ck nr nt nk ne ac rs es),c,())=some (t,r,())∧bC ck nr nt nk ne ac rs es c t r:=by
 have h25:=bg h
 have hf:=h.fine
 have he:=h.ev40
 have hne:=h.ne
 simp only [mk]at h25 hf he hne
 have h32:=hf.1
 have E:=my h hR hE
 simp only [mk]at E
 obtain⟨bs,hbs⟩:=f118 c.2.2.2.2.2.2.1
 simp only [yV,mk,h25,bind_some,hR,hE,cond_false,zero_add,Nat.le_refl,decide_true,cond_true,bp,bW,E,hbs]
 cases bs with
 |false=>exact⟨_,_,rfl,aw h 1⟩
 |true=>
 simp only [Bool.not_true,cond_false]
 obtain⟨i,b,e,hfi,hq⟩:=bY rs (by omega) hr c.2.2.2.1
 simp only [hfi,bind_some]
 rcases hq with⟨_,_,hq⟩|⟨rfl,_,⟨rfl,n,rfl,hn,hid⟩|⟨rfl,_⟩⟩
 ·exact absurd hf hq
 ·simp only [Bool.not_true,cond_false,aL hn,aF hn,cond_true,toNat_natCast]
  refine Cn (rs.getD n (aa ae)) (hr _ (aG hn _)) _ _ _ (fun r' k hi hkl hh hun hT=> ?_) (fun m=> ?_)
  ·simp only [cM]
   try simp only [length_cons,length_nil,zero_add,cj (show es.length≤60 by omega) (show 1≤60 by omega),cj (show es.length+1≤60 by omega) (show 1≤60 by omega),decide_true,cond_true,length_append,length_set,Nat.le_refl,drop_zero]
   by_cases c40:(((es.length:Nat):Int)>ofNat 40)
   ·rw [decide_eq_true c40,cond_true];exact⟨_,_,rfl,aw h 8⟩
   ·rw [decide_eq_false c40,cond_false]
    exact⟨_,_,rfl,HF h hk hfr hn hid hi hkl hh hun hT (jN n r')⟩
  ·simp only [eJ]
   exact⟨_,_,rfl,aw h m⟩
 ·exact⟨_,_,rfl,aw h 5⟩
theorem aab {ck nr nt nk ne ac:Int} {rs:List am} (h:SOk (mk ck nr nt nk ne ac rs [])) (hr:∀r∈rs,bK r) (hR:isEmpty rs=false) (c:bo) (hfr:Fresh nr nt nk ne) (hk:c.1=5):
  ∃t r,ze ((mk ck nr nt nk ne ac rs []),c,())=some (t,r,())∧bC ck nr nt nk ne ac rs [] c t r:=by
 have h25:=bg h
 have hf:=h.fine
 have he:=h.ev40
 have hne:=h.ne
 simp only [mk]at h25 hf he hne
 have h32:=hf.1
 have E:=oH h hR
 simp only [mk]at E
 obtain⟨bs,hbs⟩:=f118 c.2.2.2.2.2.2.1
 simp only [ze,mk,h25,bind_some,hR,isEmpty_nil,cond_false,zero_add,Nat.le_refl,decide_true,cond_true,bp,bW,E,hbs]
 cases bs with
 |false=>exact⟨_,_,rfl,aw h 1⟩
 |true=>
 simp only [Bool.not_true,cond_false]
 obtain⟨i,b,e,hfi,hq⟩:=bY rs (by omega) hr c.2.2.2.1
 simp only [hfi,bind_some]
 rcases hq with⟨_,_,hq⟩|⟨rfl,_,⟨rfl,n,rfl,hn,hid⟩|⟨rfl,_⟩⟩
 ·exact absurd hf hq
 ·simp only [Bool.not_true,cond_false,aL hn,aF hn,cond_true,toNat_natCast]
  refine Cn (rs.getD n (aa ae)) (hr _ (aG hn _)) _ _ _ (fun r' k hi hkl hh hun hT=> ?_) (fun m=> ?_)
  ·simp only [cM]
   try simp only [length_set,Nat.le_refl,decide_true,cond_true,drop_zero]
   exact⟨_,_,rfl,HF h hk hfr hn hid hi hkl hh hun hT (jN n r')⟩
  ·simp only [eJ]
   exact⟨_,_,rfl,aw h m⟩
 ·exact⟨_,_,rfl,aw h 5⟩
theorem aac {ck nr nt nk ne ac:Int} {es:List aO} (h:SOk (mk ck nr nt nk ne ac [] es)) (hr:∀r∈([]:List am),bK r) (hE:isEmpty es=false) (c:bo) (hfr:Fresh nr nt nk ne) (hk:c.1=5):
  ∃t r,zo ((mk ck nr nt nk ne ac [] es),c,())=some (t,r,())∧bC ck nr nt nk ne ac [] es c t r:=by
 have h25:=bg h
 have hf:=h.fine
 have he:=h.ev40
 have hne:=h.ne
 simp only [mk]at h25 hf he hne
 have h32:=hf.1
 have E:=oI h hE
 simp only [mk]at E
 obtain⟨bs,hbs⟩:=f118 c.2.2.2.2.2.2.1
 simp only [zo,mk,h25,bind_some,hE,isEmpty_nil,cond_false,zero_add,Nat.le_refl,decide_true,cond_true,bp,bW,E,hbs]
 cases bs with
 |false=>exact⟨_,_,rfl,aw h 1⟩
 |true=>
 simp only [Bool.not_true,cond_false]
 obtain⟨i,b,e,hfi,hq⟩:=bY ([]:List am) (by omega) hr c.2.2.2.1
 simp only [hfi,bind_some]
 rcases hq with⟨_,_,hq⟩|⟨rfl,_,⟨rfl,n,rfl,hn,hid⟩|⟨rfl,_⟩⟩
 ·exact absurd hf hq
 ·exact absurd hn (not_lt_zero _)
 ·exact⟨_,_,rfl,aw h 5⟩
theorem aad {ck nr nt nk ne ac:Int} (h:SOk (mk ck nr nt nk ne ac [] [])) (hr:∀r∈([]:List am),bK r) (c:bo) (hfr:Fresh nr nt nk ne) (hk:c.1=5):
  ∃t r,zA ((mk ck nr nt nk ne ac [] []),c,())=some (t,r,())∧bC ck nr nt nk ne ac [] [] c t r:=by
 have h25:=bg h
 have hf:=h.fine
 have he:=h.ev40
 have hne:=h.ne
 simp only [mk]at h25 hf he hne
 have h32:=hf.1
 have E:=oJ h
 simp only [mk]at E
 obtain⟨bs,hbs⟩:=f118 c.2.2.2.2.2.2.1
 simp only [zA,mk,h25,bind_some,isEmpty_nil,cond_false,zero_add,Nat.le_refl,decide_true,cond_true,bp,bW,E,hbs]
 cases bs with
 |false=>exact⟨_,_,rfl,aw h 1⟩
 |true=>
 simp only [Bool.not_true,cond_false]
 obtain⟨i,b,e,hfi,hq⟩:=bY ([]:List am) (by omega) hr c.2.2.2.1
 simp only [hfi,bind_some]
 rcases hq with⟨_,_,hq⟩|⟨rfl,_,⟨rfl,n,rfl,hn,hid⟩|⟨rfl,_⟩⟩
 ·exact absurd hf hq
 ·exact absurd hn (not_lt_zero _)
 ·exact⟨_,_,rfl,aw h 5⟩
theorem aae {ck nr nt nk ne ac:Int} {rs:List am} {es:List aO} (h:SOk (mk ck nr nt nk ne ac rs es)) (hr:∀r∈rs,bK r) (hR:isEmpty rs=false) (hE:isEmpty es=false) (c:bo) (hfr:Fresh nr nt nk ne) (hk:c.1=2):
  ∃t r,qm ((mk ck nr nt nk ne ac rs es),c,())=some (t,r,())∧bC ck nr nt nk ne ac rs es c t r:=by
 have h25:=bg h
 have hf:=h.fine
 have he:=h.ev40
 have hne:=h.ne
 simp only [mk]at h25 hf he hne
 have h32:=hf.1
 have E:=my h hR hE
 simp only [mk]at E
 have hnt:=h.nt
 simp only [mk]at hnt
 obtain⟨bs,hbs⟩:=f118 c.2.2.2.2.2.2.1
 simp only [qm,mk,h25,bind_some,hR,hE,cond_false,zero_add,Nat.le_refl,decide_true,cond_true,bp,bW,E,hbs]
 cases bs with
 |false=>exact⟨_,_,rfl,aw h 1⟩
 |true=>
 simp only [Bool.not_true,cond_false]
 obtain⟨p,b,e,hnx,hq⟩:=mW rs (by omega) hr
 simp only [hnx,bind_some]
 rcases hq with⟨_,_,hq⟩|⟨rfl,_,_,_,hex⟩
 ·exact absurd hf hq
 cases b with
 |false=>exact⟨_,_,rfl,aw h 5⟩
 |true=>
 obtain⟨n0,k0,hn0,_,_,hp,_⟩:=hex rfl
 simp only [Bool.not_true,cond_false]
 obtain⟨i,b,e,hfi,hq⟩:=bY rs (by omega) hr p.1
 simp only [hfi,bind_some]
 rcases hq with⟨_,_,hq⟩|⟨rfl,_,⟨rfl,n,rfl,hn,hid⟩|⟨rfl,hno⟩⟩
 ·exact absurd hf hq
 ·simp only [Bool.not_true,cond_false,aL hn,aF hn,cond_true,toNat_natCast]
  refine zV (rs.getD n (aa ae)) (hr _ (aG hn _)) _ _ _ (fun r' k hi hkl h1 hun hT=> ?_) (fun m=> ?_)
  ·simp only [cM]
   try simp only [length_cons,length_nil,zero_add,cj (show es.length≤60 by omega) (show 1≤60 by omega),cj (show es.length+1≤60 by omega) (show 1≤60 by omega),decide_true,cond_true,length_append,length_set,Nat.le_refl,drop_zero]
   by_cases c40:(((es.length:Nat):Int)>ofNat 40)
   ·rw [decide_eq_true c40,cond_true];exact⟨_,_,rfl,aw h 8⟩
   ·rw [decide_eq_false c40,cond_false]
    exact⟨_,_,rfl,HE h hk hfr hn hkl h1 hun hT hid hi (wrm (by omega) (by omega)) (fm (by omega) (by omega)) (jN n r')⟩
  ·simp only [eJ]
   exact⟨_,_,rfl,aw h m⟩
 ·exact absurd hp.symm (hno n0 hn0)
theorem aaf {ck nr nt nk ne ac:Int} {rs:List am} (h:SOk (mk ck nr nt nk ne ac rs [])) (hr:∀r∈rs,bK r) (hR:isEmpty rs=false) (c:bo) (hfr:Fresh nr nt nk ne) (hk:c.1=2):
  ∃t r,zb ((mk ck nr nt nk ne ac rs []),c,())=some (t,r,())∧bC ck nr nt nk ne ac rs [] c t r:=by
 have h25:=bg h
 have hf:=h.fine
 have he:=h.ev40
 have hne:=h.ne
 simp only [mk]at h25 hf he hne
 have h32:=hf.1
 have E:=oH h hR
 simp only [mk]at E
 have hnt:=h.nt
 simp only [mk]at hnt
 obtain⟨bs,hbs⟩:=f118 c.2.2.2.2.2.2.1
 simp only [zb,mk,h25,bind_some,hR,isEmpty_nil,cond_false,zero_add,Nat.le_refl,decide_true,cond_true,bp,bW,E,hbs]
 cases bs with
 |false=>exact⟨_,_,rfl,aw h 1⟩
 |true=>
 simp only [Bool.not_true,cond_false]
 obtain⟨p,b,e,hnx,hq⟩:=mW rs (by omega) hr
 simp only [hnx,bind_some]
 rcases hq with⟨_,_,hq⟩|⟨rfl,_,_,_,hex⟩
 ·exact absurd hf hq
 cases b with
 |false=>exact⟨_,_,rfl,aw h 5⟩
 |true=>
 obtain⟨n0,k0,hn0,_,_,hp,_⟩:=hex rfl
 simp only [Bool.not_true,cond_false]
 obtain⟨i,b,e,hfi,hq⟩:=bY rs (by omega) hr p.1
 simp only [hfi,bind_some]
 rcases hq with⟨_,_,hq⟩|⟨rfl,_,⟨rfl,n,rfl,hn,hid⟩|⟨rfl,hno⟩⟩
 ·exact absurd hf hq
 ·simp only [Bool.not_true,cond_false,aL hn,aF hn,cond_true,toNat_natCast]
  refine zV (rs.getD n (aa ae)) (hr _ (aG hn _)) _ _ _ (fun r' k hi hkl h1 hun hT=> ?_) (fun m=> ?_)
  ·simp only [cM]
   try simp only [length_set,Nat.le_refl,decide_true,cond_true,drop_zero]
   exact⟨_,_,rfl,HE h hk hfr hn hkl h1 hun hT hid hi (wrm (by omega) (by omega)) (fm (by omega) (by omega)) (jN n r')⟩
  ·simp only [eJ]
   exact⟨_,_,rfl,aw h m⟩
 ·exact absurd hp.symm (hno n0 hn0)
theorem aag {ck nr nt nk ne ac:Int} {es:List aO} (h:SOk (mk ck nr nt nk ne ac [] es)) (hr:∀r∈([]:List am),bK r) (hE:isEmpty es=false) (c:bo) (hfr:Fresh nr nt nk ne) (hk:c.1=2):
  ∃t r,zl ((mk ck nr nt nk ne ac [] es),c,())=some (t,r,())∧bC ck nr nt nk ne ac [] es c t r:=by
 have h25:=bg h
 have hf:=h.fine
 have he:=h.ev40
 have hne:=h.ne
 simp only [mk]at h25 hf he hne
 have h32:=hf.1
 have E:=oI h hE
 simp only [mk]at E
 have hnt:=h.nt
 simp only [mk]at hnt
 obtain⟨bs,hbs⟩:=f118 c.2.2.2.2.2.2.1
 simp only [zl,mk,h25,bind_some,hE,isEmpty_nil,cond_false,zero_add,Nat.le_refl,decide_true,cond_true,bp,bW,E,hbs]
 cases bs with
 |false=>exact⟨_,_,rfl,aw h 1⟩
 |true=>
 simp only [Bool.not_true,cond_false]
 obtain⟨p,b,e,hnx,hq⟩:=mW ([]:List am) (by omega) hr
 simp only [hnx,bind_some]
 rcases hq with⟨_,_,hq⟩|⟨rfl,_,_,_,hex⟩
 ·exact absurd hf hq
 cases b with
 |false=>exact⟨_,_,rfl,aw h 5⟩
 |true=>
 obtain⟨n0,k0,hn0,_,_,hp,_⟩:=hex rfl
 exact absurd hn0 (not_lt_zero _)
theorem aah {ck nr nt nk ne ac:Int} (h:SOk (mk ck nr nt nk ne ac [] [])) (hr:∀r∈([]:List am),bK r) (c:bo) (hfr:Fresh nr nt nk ne) (hk:c.1=2):
  ∃t r,zw ((mk ck nr nt nk ne ac [] []),c,())=some (t,r,())∧bC ck nr nt nk ne ac [] [] c t r:=by
 have h25:=bg h
 have hf:=h.fine
 have he:=h.ev40
 have hne:=h.ne
 simp only [mk]at h25 hf he hne
 have h32:=hf.1
 have E:=oJ h
 simp only [mk]at E
 have hnt:=h.nt
 simp only [mk]at hnt
 obtain⟨bs,hbs⟩:=f118 c.2.2.2.2.2.2.1
 simp only [zw,mk,h25,bind_some,isEmpty_nil,cond_false,zero_add,Nat.le_refl,decide_true,cond_true,bp,bW,E,hbs]
 cases bs with
 |false=>exact⟨_,_,rfl,aw h 1⟩
 |true=>
 simp only [Bool.not_true,cond_false]
 obtain⟨p,b,e,hnx,hq⟩:=mW ([]:List am) (by omega) hr
 simp only [hnx,bind_some]
 rcases hq with⟨_,_,hq⟩|⟨rfl,_,_,_,hex⟩
 ·exact absurd hf hq
 cases b with
 |false=>exact⟨_,_,rfl,aw h 5⟩
 |true=>
 obtain⟨n0,k0,hn0,_,_,hp,_⟩:=hex rfl
 exact absurd hn0 (not_lt_zero _)
theorem aai {ck nr nt nk ne ac:Int} {rs:List am} {es:List aO} (h:SOk (mk ck nr nt nk ne ac rs es)) (hr:∀r∈rs,bK r) (hR:isEmpty rs=false) (hE:isEmpty es=false) (c:bo) (hcl:∀nd∈c.2.2.1.1,nd.1.length≤9223372036854775807) (hfr:Fresh nr nt nk ne) (hk:c.1=1):
  ∃t r,yS ((mk ck nr nt nk ne ac rs es),c,())=some (t,r,())∧bC ck nr nt nk ne ac rs es c t r:=by
 have h25:=bg h
 have hf:=h.fine
 have he:=h.ev40
 have hne:=h.ne
 simp only [mk]at h25 hf he hne
 have h32:=hf.1
 have E:=my h hR hE
 simp only [mk]at E
 have hnr:0≤nr∧nr≤1099511627776:=h.nr
 simp only [yS,mk,h25,bind_some,hR,hE,cond_false,zero_add,Nat.le_refl,decide_true,cond_true,bp,bW,E]
 by_cases c1:((c.2.1.size:Nat):Int)<ofNat 1
 ·rw [decide_eq_true c1,cond_true];exact⟨_,_,rfl,aw h 2⟩
 rw [decide_eq_false c1,cond_false]
 by_cases c2:((c.2.1.size:Nat):Int)>ofNat 24
 ·rw [decide_eq_true c2,cond_true];exact⟨_,_,rfl,aw h 2⟩
 rw [decide_eq_false c2,cond_false]
 obtain⟨v,hv,hc⟩:=f114 c.2.2.1.1 hcl
 have hv':jl (c.2.2.1,())=some (v,()):=hv
 simp only [hv',bind_some]
 rcases hc with⟨rfl,hdag⟩|⟨rfl,_⟩
 ·simp only [cM]
  obtain⟨i,b,e,hkn,hq⟩:=oC rs (by omega) hr c.2.1
  simp only [hkn,bind_some]
  rcases hq with⟨_,_,hq⟩|⟨rfl,_,⟨rfl,n,hn,hid,hkey⟩|⟨rfl,hno⟩⟩
  ·exact absurd hf hq
  ·simp only [cond_true]
   try simp only [length_cons,length_nil,zero_add,cj (show es.length≤60 by omega) (show 1≤60 by omega),cj (show es.length+1≤60 by omega) (show 1≤60 by omega),decide_true,cond_true,length_append,length_set,Nat.le_refl,drop_zero]
   by_cases c40:(((es.length:Nat):Int)>ofNat 40)
   ·rw [decide_eq_true c40,cond_true];exact⟨_,_,rfl,aw h 8⟩
   ·rw [decide_eq_false c40,cond_false]
    exact⟨_,_,rfl,Gd h hk hn hkey hid⟩
  ·simp only [cond_false]
   by_cases c32:((rs.length:Nat):Int)=32
   ·rw [show(((rs.length:Nat):Int)==ofNat 32)=true by rw [c32];rfl,cond_true];exact⟨_,_,rfl,aw h 8⟩
   ·rw [show(((rs.length:Nat):Int)==ofNat 32)=false by simpa using c32,cond_false]
    refine mR _ _ _ hcl _ (fun hkey hd hrk=> ?_) (fun r' rk' m=> ?_)
    ·simp only [cM]
     try simp only [la,bW,bp,length_cons,length_nil,zero_add,Mx (show rs.length≤60 by omega),cj (show es.length≤60 by omega) (show 1≤60 by omega),cj (show es.length+1≤60 by omega) (show 1≤60 by omega),decide_true,cond_true,length_append,Nat.le_refl,drop_zero]
     by_cases c40:(((es.length+1:Nat):Int)>ofNat 40)
     ·rw [decide_eq_true c40,cond_true];exact⟨_,_,rfl,aw h 8⟩
     ·rw [decide_eq_false c40,cond_false]
      exact⟨_,_,rfl,zW hk hfr hno (by omega) hkey hd hrk (fm (by omega) (by omega)) (fm (by omega) (by omega)) (by simp) (by simp) (by simp only [length_append,length_cons,length_nil,bm]at c40⊢;omega)⟩
    ·simp only [eJ]
     exact⟨_,_,rfl,aw h m⟩
 ·exact⟨_,_,rfl,aw h 229⟩
theorem aaj {ck nr nt nk ne ac:Int} {rs:List am} (h:SOk (mk ck nr nt nk ne ac rs [])) (hr:∀r∈rs,bK r) (hR:isEmpty rs=false) (c:bo) (hcl:∀nd∈c.2.2.1.1,nd.1.length≤9223372036854775807) (hfr:Fresh nr nt nk ne) (hk:c.1=1):
  ∃t r,za ((mk ck nr nt nk ne ac rs []),c,())=some (t,r,())∧bC ck nr nt nk ne ac rs [] c t r:=by
 have h25:=bg h
 have hf:=h.fine
 have he:=h.ev40
 have hne:=h.ne
 simp only [mk]at h25 hf he hne
 have h32:=hf.1
 have E:=oH h hR
 simp only [mk]at E
 have hnr:0≤nr∧nr≤1099511627776:=h.nr
 simp only [za,mk,h25,bind_some,hR,isEmpty_nil,cond_false,zero_add,Nat.le_refl,decide_true,cond_true,bp,bW,E]
 by_cases c1:((c.2.1.size:Nat):Int)<ofNat 1
 ·rw [decide_eq_true c1,cond_true];exact⟨_,_,rfl,aw h 2⟩
 rw [decide_eq_false c1,cond_false]
 by_cases c2:((c.2.1.size:Nat):Int)>ofNat 24
 ·rw [decide_eq_true c2,cond_true];exact⟨_,_,rfl,aw h 2⟩
 rw [decide_eq_false c2,cond_false]
 obtain⟨v,hv,hc⟩:=f114 c.2.2.1.1 hcl
 have hv':jl (c.2.2.1,())=some (v,()):=hv
 simp only [hv',bind_some]
 rcases hc with⟨rfl,hdag⟩|⟨rfl,_⟩
 ·simp only [cM]
  obtain⟨i,b,e,hkn,hq⟩:=oC rs (by omega) hr c.2.1
  simp only [hkn,bind_some]
  rcases hq with⟨_,_,hq⟩|⟨rfl,_,⟨rfl,n,hn,hid,hkey⟩|⟨rfl,hno⟩⟩
  ·exact absurd hf hq
  ·simp only [cond_true]
   try simp only [length_set,Nat.le_refl,decide_true,cond_true,drop_zero]
   exact⟨_,_,rfl,Gd h hk hn hkey hid⟩
  ·simp only [cond_false]
   by_cases c32:((rs.length:Nat):Int)=32
   ·rw [show(((rs.length:Nat):Int)==ofNat 32)=true by rw [c32];rfl,cond_true];exact⟨_,_,rfl,aw h 8⟩
   ·rw [show(((rs.length:Nat):Int)==ofNat 32)=false by simpa using c32,cond_false]
    refine mR _ _ _ hcl _ (fun hkey hd hrk=> ?_) (fun r' rk' m=> ?_)
    ·simp only [cM]
     try simp only [la,bW,bp,length_cons,length_nil,zero_add,Mx (show rs.length≤60 by omega),decide_true,cond_true,length_append,Nat.le_refl,drop_zero]
     exact⟨_,_,rfl,zW hk hfr hno (by omega) hkey hd hrk (fm (by omega) (by omega)) (fm (by omega) (by omega)) (by simp) (by simp) (by simp only [length_cons,length_nil];omega)⟩
    ·simp only [eJ]
     exact⟨_,_,rfl,aw h m⟩
 ·exact⟨_,_,rfl,aw h 229⟩
theorem aak {ck nr nt nk ne ac:Int} {es:List aO} (h:SOk (mk ck nr nt nk ne ac [] es)) (hr:∀r∈([]:List am),bK r) (hE:isEmpty es=false) (c:bo) (hcl:∀nd∈c.2.2.1.1,nd.1.length≤9223372036854775807) (hfr:Fresh nr nt nk ne) (hk:c.1=1):
  ∃t r,zk ((mk ck nr nt nk ne ac [] es),c,())=some (t,r,())∧bC ck nr nt nk ne ac [] es c t r:=by
 have h25:=bg h
 have hf:=h.fine
 have he:=h.ev40
 have hne:=h.ne
 simp only [mk]at h25 hf he hne
 have h32:=hf.1
 have E:=oI h hE
 simp only [mk]at E
 have hnr:0≤nr∧nr≤1099511627776:=h.nr
 simp only [zk,mk,h25,bind_some,hE,isEmpty_nil,cond_false,zero_add,Nat.le_refl,decide_true,cond_true,bp,bW,E]
 by_cases c1:((c.2.1.size:Nat):Int)<ofNat 1
 ·rw [decide_eq_true c1,cond_true];exact⟨_,_,rfl,aw h 2⟩
 rw [decide_eq_false c1,cond_false]
 by_cases c2:((c.2.1.size:Nat):Int)>ofNat 24
 ·rw [decide_eq_true c2,cond_true];exact⟨_,_,rfl,aw h 2⟩
 rw [decide_eq_false c2,cond_false]
 obtain⟨v,hv,hc⟩:=f114 c.2.2.1.1 hcl
 have hv':jl (c.2.2.1,())=some (v,()):=hv
 simp only [hv',bind_some]
 rcases hc with⟨rfl,hdag⟩|⟨rfl,_⟩
 ·simp only [cM]
  obtain⟨i,b,e,hkn,hq⟩:=oC ([]:List am) (by omega) hr c.2.1
  simp only [hkn,bind_some]
  rcases hq with⟨_,_,hq⟩|⟨rfl,_,⟨rfl,n,hn,hid,hkey⟩|⟨rfl,hno⟩⟩
  ·exact absurd hf hq
  ·exact absurd hn (not_lt_zero _)
  ·simp only [cond_false]
   refine mR _ _ _ hcl _ (fun hkey hd hrk=> ?_) (fun r' rk' m=> ?_)
   ·simp only [cM]
    try simp only [la,bW,bp,length_cons,length_nil,zero_add,cj (show es.length≤60 by omega) (show 1≤60 by omega),cj (show es.length+1≤60 by omega) (show 1≤60 by omega),decide_true,cond_true,length_append,Nat.le_refl,drop_zero]
    by_cases c40:(((es.length+1:Nat):Int)>ofNat 40)
    ·rw [decide_eq_true c40,cond_true];exact⟨_,_,rfl,aw h 8⟩
    ·rw [decide_eq_false c40,cond_false]
     exact⟨_,_,rfl,zW hk hfr hno (by simp only [length_nil];omega) hkey hd hrk (fm (by omega) (by omega)) (fm (by omega) (by omega)) (by simp) (by simp) (by simp only [length_append,length_cons,length_nil,bm]at c40⊢;omega)⟩
   ·simp only [eJ]
    exact⟨_,_,rfl,aw h m⟩
 ·exact⟨_,_,rfl,aw h 229⟩
theorem aal {ck nr nt nk ne ac:Int} (h:SOk (mk ck nr nt nk ne ac [] [])) (hr:∀r∈([]:List am),bK r) (c:bo) (hcl:∀nd∈c.2.2.1.1,nd.1.length≤9223372036854775807) (hfr:Fresh nr nt nk ne) (hk:c.1=1):
  ∃t r,vw ((mk ck nr nt nk ne ac [] []),c,())=some (t,r,())∧bC ck nr nt nk ne ac [] [] c t r:=by
 have h25:=bg h
 have hf:=h.fine
 have he:=h.ev40
 have hne:=h.ne
 simp only [mk]at h25 hf he hne
 have h32:=hf.1
 have E:=oJ h
 simp only [mk]at E
 have hnr:0≤nr∧nr≤1099511627776:=h.nr
 simp only [vw,mk,h25,bind_some,isEmpty_nil,cond_false,zero_add,Nat.le_refl,decide_true,cond_true,bp,bW,E]
 by_cases c1:((c.2.1.size:Nat):Int)<ofNat 1
 ·rw [decide_eq_true c1,cond_true];exact⟨_,_,rfl,aw h 2⟩
 rw [decide_eq_false c1,cond_false]
 by_cases c2:((c.2.1.size:Nat):Int)>ofNat 24
 ·rw [decide_eq_true c2,cond_true];exact⟨_,_,rfl,aw h 2⟩
 rw [decide_eq_false c2,cond_false]
 obtain⟨v,hv,hc⟩:=f114 c.2.2.1.1 hcl
 have hv':jl (c.2.2.1,())=some (v,()):=hv
 simp only [hv',bind_some]
 rcases hc with⟨rfl,hdag⟩|⟨rfl,_⟩
 ·simp only [cM]
  obtain⟨i,b,e,hkn,hq⟩:=oC ([]:List am) (by omega) hr c.2.1
  simp only [hkn,bind_some]
  rcases hq with⟨_,_,hq⟩|⟨rfl,_,⟨rfl,n,hn,hid,hkey⟩|⟨rfl,hno⟩⟩
  ·exact absurd hf hq
  ·exact absurd hn (not_lt_zero _)
  ·simp only [cond_false]
   refine mR _ _ _ hcl _ (fun hkey hd hrk=> ?_) (fun r' rk' m=> ?_)
   ·simp only [cM]
    try simp only [la,bW,bp,length_cons,length_nil,zero_add,decide_true,cond_true,length_append,Nat.le_refl,drop_zero]
    exact⟨_,_,rfl,zW hk hfr hno (by simp only [length_nil];omega) hkey hd hrk (fm (by omega) (by omega)) (fm (by omega) (by omega)) (by simp) (by simp) (by simp only [length_cons,length_nil];omega)⟩
   ·simp only [eJ]
    exact⟨_,_,rfl,aw h m⟩
 ·exact⟨_,_,rfl,aw h 229⟩
abbrev HG {α β:Type} (f:α→β):Type:=α
structure SameI (rs R:List am):Prop where
 len:R.length=rs.length
 is:∀j:Nat,j<rs.length→(R.getD j (aa ae)).1=(rs.getD j (aa ae)).1∧(aQ R j).length=(aQ rs j).length
theorem Gf {rs R:List am} (hs:SameI rs R) {n:Nat} (hn:n<R.length) {r':am} (h1:r'.1=(R.getD n (aa ae)).1) (h2:r'.2.2.2.2.1.length=(aQ R n).length):SameI rs (R.set n r'):=by
 refine⟨by rw [length_set];exact hs.len,fun j hj=> ?_⟩
 unfold aQ
 rw [cz hn]
 split
 ·rename_i c
  subst c
  exact⟨h1.trans (hs.is _ hj).1,h2.trans (hs.is _ hj).2⟩
 ·exact hs.is j hj
theorem oK {now:Int} {P:List cr} {x:uc}:∀(i:Nat) (y:uc),TkN now P x i y→SameI x.2.1 y.2.1∧x.1≤y.1∧y.1≤x.1+i
 |_,_,.zero=>⟨⟨rfl,fun _ _=>⟨rfl,rfl⟩⟩,by omega,by omega⟩
 |_,z,.step i y _ hy h=>by
  obtain⟨q,q1,q2⟩:=oK i y hy
  cases h with
  |skip d R nk ne w h=>exact⟨q,by simp only at*;omega,by simp only at*;omega⟩
  |wake d R nk ne w n k r' hn hid hp hk hd h3 hT=>exact⟨Gf q hn hT.id hT.len,by simp only at*;omega,by simp only at*;omega⟩
  |lapse d R nk ne w n k t' r' hn hid hp hk hd h2 hf hT=>exact⟨Gf q hn hT.id hT.len,by simp only at*;omega,by simp only at*;omega⟩
theorem wC {rs R:List am} {now:Int} {p:cr} (hs:SameI rs R) (hf:eP rs) (hp:p∈pl rs now) {n:Nat} (hn:n<R.length) (hid:(R.getD n (aa ae)).1=p.1):
  ∃k:Nat,p.2.1=k∧k<(R.getD n (aa ae)).2.2.2.2.1.length:=by
 obtain⟨r,hr,hp⟩:=List.mem_flatMap.1 hp
 obtain⟨j,hj,_,rfl⟩:=Hr hp
 obtain⟨m,hm,rfl⟩:=List.mem_iff_getElem.1 hr
 rw [←bD hm (aa ae)]at hj hid
 have hn':n<rs.length:=hs.len▸hn
 obtain⟨h1,h2⟩:=hs.is n hn'
 have hnm:n=m:=by
  rw [h1]at hid
  simp only at hid
  rcases Nat.lt_trichotomy n m with h|h|h
  ·have:=hf.2.up n m h hm;omega
  ·exact h
  ·have:=hf.2.up m n h hn';omega
 subst hnm
 exact⟨j,by simp only;omega,by unfold aQ at h2;rw [h2];exact hj⟩
theorem vL {R:List am} (hf:eP R) {n m:Nat} (hn:n<R.length) (hm:m<R.length) (h:(R.getD n (aa ae)).1=(R.getD m (aa ae)).1):n=m:=by
 rcases Nat.lt_trichotomy n m with c|c|c
 ·have:=hf.2.up n m c hm;omega
 ·exact c
 ·have:=hf.2.up m n c hn;omega
section
variable (np:Nat) (rs:List am) (es:List aO) (P:List cr) (now nr nt ac:Int)
abbrev ta1 (i d:Int) (R:List am) (nk ne:Int):=(d,np,(np:Int),i,es,R,now,nr,nt,nk,ne,ac,rs.length,es.length,ofNat 0,ofNat 0,ofNat 0,ofNat 0,ofNat 0,({data:= #[]}:ByteArray),ofNat 0,P,())
abbrev ta2 (i d:Int) (R:List am) (nk ne:Int) (E:List aO):=(d,np,(np:Int),i,R,now,nr,nt,nk,ne,ac,rs.length,E.length,ofNat 0,ofNat 0,ofNat 0,ofNat 0,ofNat 0,({data:= #[]}:ByteArray),ofNat 0,P,E,())
abbrev ena (i:Int) (x:Int×List am×Int×Int×Option (List aO)):HG dn:=match x with
 |(d,R,nk,ne,none)=>.inr (.inl (ta1 np rs es P now nr nt ac i d R nk ne))
 |(d,R,nk,ne,some E)=>.inr (.inr (ta2 np rs P now nr nt ac i d R nk ne E))
def Iva (nk ne:Int) (i:Nat) (x:Int×List am×Int×Int×Option (List aO)):Prop:=∃w,TkN now P (ofNat 0,rs,nk,ne,[]) i (x.1,x.2.1,x.2.2.1,x.2.2.2.1,w)∧((w= []∧x.2.2.2.2=none)∨x.2.2.2.2=some (es++w))
theorem ac8 (hnp:np≤16) (hP:np≤P.length) (nk ne:Int) (hx:SX now nr nt nk ne ac rs (es++ [])) (hk:nk≤1099511627676) (he:ne≤1099511627676) (he4:es.length≤40) (hp:∀p∈P,p∈pl rs now):
  ∃y,dZ (ena np rs es P now nr nt ac ((0:Nat):Int) (ofNat 0,rs,nk,ne,none))=some y∧∃d R nk' ne' w,TkN now P (ofNat 0,rs,nk,ne,[]) np (d,R,nk',ne',w)∧((w= []∧y= .inr (.inl (d,es,R,now,nr,nt,nk',ne',ac,rs.length,es.length,ofNat 0,ofNat 0,ofNat 0,ofNat 0,ofNat 0,({data:= #[]}:ByteArray),ofNat 0,P,())))∨y= .inr (.inr (d,R,now,nr,nt,nk',ne',ac,rs.length,(es++w).length,ofNat 0,ofNat 0,ofNat 0,ofNat 0,ofNat 0,({data:= #[]}:ByteArray),ofNat 0,P,(es++w),()))):=by
 have h32:=hx.fine.1
 have hf:=hx.fine
 refine ba (st:=dn) np (fun i (x:Int×List am×Int×Int×Option (List aO))=>ena np rs es P now nr nt ac (i:Int) x) (Iva rs es P now nk ne) (fun y=>∃d R nk' ne' w,TkN now P (ofNat 0,rs,nk,ne,[]) np (d,R,nk',ne',w)∧((w= []∧y= .inr (.inl (d,es,R,now,nr,nt,nk',ne',ac,rs.length,es.length,ofNat 0,ofNat 0,ofNat 0,ofNat 0,ofNat 0,({data:= #[]}:ByteArray),ofNat 0,P,())))∨y= .inr (.inr (d,R,now,nr,nt,nk',ne',ac,rs.length,(es++w).length,ofNat 0,ofNat 0,ofNat 0,ofNat 0,ofNat 0,({data:= #[]}:ByteArray),ofNat 0,P,(es++w),())))) (fun i x h hx2=>.inl ?_) (fun x hx2=> ?_) (ofNat 0,rs,nk,ne,none) ⟨[],.zero,.inl ⟨rfl,rfl⟩⟩
 ·obtain⟨d,R,nk1,ne1,o⟩:=x
  obtain⟨w,hN,ho⟩:=hx2
  simp only at hN ho
  obtain⟨q1,q2,q3,q4,q5,q6⟩:=zU (es:=es) (x:=(ofNat 0,rs,nk,ne,[])) hx i _ hN (by simp only;omega) (by simp only;omega)
  obtain⟨hs,q7,q8⟩:=oK i _ hN
  simp only [length_nil,bm]at q1 q2 q3 q4 q5 q6 hs q7 q8
  have hg:=q1.fine
  have hPi:i<P.length:=by omega
  have hpp:=hp _ (aG hPi (aa ay))
  have hT:take rs.length (drop 0 R)=R:=by rw [←hs.len];exact fC R
  have hle:rs.length≤R.length:=by rw [hs.len];omega
  have ek:IntKind.i64.wrap ((i:Int)+ofNat 1)=((i+1:Nat):Int):=iJ (by omega) (by omega)
  have hwd:IntKind.i64.wrap (d+ofNat 1)=d+1:=fm (by omega) (by omega)
  have hwk:IntKind.i64.wrap (nk1+ofNat 1)=nk1+1:=fm q1.nkI.1 q1.nkI.2
  have hwe:IntKind.i64.wrap (ne1+ofNat 1)=ne1+1:=fm (by have:=q1.neI.1;omega) q1.neI.2
  have hok:∀r∈R,bK r:=fun r hr=>by
   obtain⟨j,hj,rfl⟩:=List.mem_iff_getElem.1 hr
   rw [←bD hj (aa ae)]
   exact mY (q1.rok hj)
  obtain⟨fi,b,e,hfi,hq⟩:=bY R (by rw [hs.len];omega) hok (P.getD i (aa ay)).1
  have stp:=fun z=>TkN.step (now:=now) (P:=P) (x:=(ofNat 0,rs,nk,ne,[])) i (d,R,nk1,ne1,w) z hN
  generalize hgp:P.getD i (aa ay)=p at hfi hq hpp stp
  have skipN:(∀n k:Nat,n<R.length→(R.getD n (aa ae)).1=p.1→p.2.1=k→k<(aQ R n).length→ed ((aQ R n).getD k (aa ab)) now=false)→Iva rs es P now nk ne (i+1) (d,R,nk1,ne1,o):=fun hsk=>⟨w,stp _ (.skip d R nk1 ne1 w hsk),ho⟩
  cases o with
  |none=>
   obtain rfl:w= []:=by
    rcases ho with⟨h,_⟩|h
    ·exact h
    ·cases h
   have hT2:=fC es
   simp only [dn,kV,jx,bw h,aL h,cond_true,zero_add,toNat_natCast,decide_eq_true hPi,decide_eq_true hle,hT,hgp,hfi,bind_some]
   rcases hq with⟨_,_,hq⟩|⟨_,_,⟨rfl,n,rfl,hn,hid⟩|⟨rfl,hno⟩⟩
   ·exact absurd hg hq
   ·obtain⟨k,hk,hkl⟩:=wC hs hf hpp hn hid
    have hn':n<rs.length:=hs.len▸hn
    simp only [Bool.not_true,cond_false,aL hn',aF hn,cond_true,toNat_natCast,zero_add,hk,aL hkl,aF hkl,f176,bind_some,length_set,ek]
    cases hdu:ed (getD (R.getD n (aa ae)).2.2.2.2.1 k (aa ab)) now with
    |false=>
     simp only [Bool.not_false,cond_true]
     exact⟨(d,R,nk1,ne1,none),rfl,skipN fun n2 k2 hn2 hid2 hk2 hkl2=>by
      obtain rfl:=vL hg hn hn2 (hid.trans hid2.symm)
      obtain rfl:k=k2:=by omega
      exact hdu⟩
    |true=>
     simp only [Bool.not_true,cond_false]
     by_cases h3:(getD (R.getD n (aa ae)).2.2.2.2.1 k (aa ab)).1=3
     ·obtain⟨r',hw,hT3⟩:=wA (R.getD n (aa ae)) (q1.rok hn) k nk1 now hkl h3 hdu q1.nkI q1.ckI
      have hw:nZ (((R.getD n (aa ae)).1,(R.getD n (aa ae)).2.1,(R.getD n (aa ae)).2.2.1,(R.getD n (aa ae)).2.2.2.1,(R.getD n (aa ae)).2.2.2.2.1,()),(k:Int),nk1,now,())=some (r',0,()):=hw
      rw [show((getD (R.getD n (aa ae)).2.2.2.2.1 k (aa ab)).1==ofNat 3)=true by rw [h3];rfl,cond_true]
      simp only [hw,bind_some,hwd,hwk,length_set]
      exact⟨(d+1,R.set n r',nk1+1,ne1,none),rfl,_,stp _ (.wake d R nk1 ne1 _ n k r' hn hid hk hkl hdu h3 hT3),ho⟩
     ·have h2:(getD (R.getD n (aa ae)).2.2.2.2.1 k (aa ab)).1=2:=by
       have:=(zT hdu).1
       omega
      obtain⟨r',t',hl,hfl,hT3⟩:=rS (R.getD n (aa ae)) (q1.rok hn) k now hkl h2 hdu q1.ckI
      have hl:oc (((R.getD n (aa ae)).1,(R.getD n (aa ae)).2.1,(R.getD n (aa ae)).2.2.1,(R.getD n (aa ae)).2.2.2.1,(R.getD n (aa ae)).2.2.2.2.1,()),(k:Int),now,())=some (r',0,()):=hl
      rw [show((getD (R.getD n (aa ae)).2.2.2.2.1 k (aa ab)).1==ofNat 3)=false by rw [h2];rfl,cond_false]
      have hgd:(R.set n r').getD n (aa ae)=r':=by rw [cz hn,if_pos rfl]
      have h1:=cj (show es.length≤60 by omega) (show 1≤60 by omega)
      simp only [hl,bind_some,length_set,hgd,aF hn,cond_true]
      by_cases c3:r'.2.2.2.1=3
      ·rw [show(r'.2.2.2.1==ofNat 3)=true by simpa using c3]
       simp only [Nat.le_refl,decide_true,cond_true,hT2,bp,bW,length_singleton,h1,cond_true,hwd,hwe]
       exact⟨(d+1,R.set n r',nk1,ne1+1,some (es++ [(ne1,ofNat 5,r'.1,ofNat 0,())])),rfl,_,stp _ (.lapse d R nk1 ne1 _ n k t' r' hn hid hk hkl hdu h2 hfl hT3),.inr (by simp [db,c3])⟩
      ·rw [show(r'.2.2.2.1==ofNat 3)=false by simpa using c3]
       simp only [Nat.le_refl,decide_true,cond_true,hT2,bp,bW,length_singleton,h1,cond_false,hwd,hwe]
       exact⟨(d+1,R.set n r',nk1,ne1+1,some (es++ [(ne1,ofNat 3,r'.1,(k:Int),())])),rfl,_,stp _ (.lapse d R nk1 ne1 _ n k t' r' hn hid hk hkl hdu h2 hfl hT3),.inr (by simp [db,c3])⟩
   ·simp only [Bool.not_false,cond_true,ek]
    exact⟨(d,R,nk1,ne1,none),rfl,skipN fun n2 k2 hn2 hid2 _ _=>absurd hid2 (hno n2 hn2)⟩
  |some E=>
   obtain rfl:E=(es++w):=by
    rcases ho with⟨_,h⟩|h
    ·cases h
    ·exact Option.some.inj h
   have hT2:=fC (es++w)
   simp only [dn,kW,jy,bw h,aL h,cond_true,zero_add,toNat_natCast,decide_eq_true hPi,decide_eq_true hle,hT,hgp,hfi,bind_some]
   rcases hq with⟨_,_,hq⟩|⟨_,_,⟨rfl,n,rfl,hn,hid⟩|⟨rfl,hno⟩⟩
   ·exact absurd hg hq
   ·obtain⟨k,hk,hkl⟩:=wC hs hf hpp hn hid
    have hn':n<rs.length:=hs.len▸hn
    simp only [Bool.not_true,cond_false,aL hn',aF hn,cond_true,toNat_natCast,zero_add,hk,aL hkl,aF hkl,f176,bind_some,length_set,ek]
    cases hdu:ed (getD (R.getD n (aa ae)).2.2.2.2.1 k (aa ab)) now with
    |false=>
     simp only [Bool.not_false,cond_true]
     exact⟨(d,R,nk1,ne1,some (es++w)),rfl,skipN fun n2 k2 hn2 hid2 hk2 hkl2=>by
      obtain rfl:=vL hg hn hn2 (hid.trans hid2.symm)
      obtain rfl:k=k2:=by omega
      exact hdu⟩
    |true=>
     simp only [Bool.not_true,cond_false]
     by_cases h3:(getD (R.getD n (aa ae)).2.2.2.2.1 k (aa ab)).1=3
     ·obtain⟨r',hw,hT3⟩:=wA (R.getD n (aa ae)) (q1.rok hn) k nk1 now hkl h3 hdu q1.nkI q1.ckI
      have hw:nZ (((R.getD n (aa ae)).1,(R.getD n (aa ae)).2.1,(R.getD n (aa ae)).2.2.1,(R.getD n (aa ae)).2.2.2.1,(R.getD n (aa ae)).2.2.2.2.1,()),(k:Int),nk1,now,())=some (r',0,()):=hw
      rw [show((getD (R.getD n (aa ae)).2.2.2.2.1 k (aa ab)).1==ofNat 3)=true by rw [h3];rfl,cond_true]
      simp only [hw,bind_some,hwd,hwk,length_set]
      exact⟨(d+1,R.set n r',nk1+1,ne1,some (es++w)),rfl,_,stp _ (.wake d R nk1 ne1 _ n k r' hn hid hk hkl hdu h3 hT3),ho⟩
     ·have h2:(getD (R.getD n (aa ae)).2.2.2.2.1 k (aa ab)).1=2:=by
       have:=(zT hdu).1
       omega
      obtain⟨r',t',hl,hfl,hT3⟩:=rS (R.getD n (aa ae)) (q1.rok hn) k now hkl h2 hdu q1.ckI
      have hl:oc (((R.getD n (aa ae)).1,(R.getD n (aa ae)).2.1,(R.getD n (aa ae)).2.2.1,(R.getD n (aa ae)).2.2.2.1,(R.getD n (aa ae)).2.2.2.2.1,()),(k:Int),now,())=some (r',0,()):=hl
      rw [show((getD (R.getD n (aa ae)).2.2.2.2.1 k (aa ab)).1==ofNat 3)=false by rw [h2];rfl,cond_false]
      have hgd:(R.set n r').getD n (aa ae)=r':=by rw [cz hn,if_pos rfl]
      have h1:=cj (show(es++w).length≤60 by rw [length_append];omega) (show 1≤60 by omega)
      simp only [hl,bind_some,length_set,hgd,aF hn,cond_true]
      by_cases c3:r'.2.2.2.1=3
      ·rw [show(r'.2.2.2.1==ofNat 3)=true by simpa using c3]
       simp only [Nat.le_refl,decide_true,cond_true,hT2,bp,bW,length_singleton,h1,cond_true,hwd,hwe]
       exact⟨(d+1,R.set n r',nk1,ne1+1,some ((es++w)++ [(ne1,ofNat 5,r'.1,ofNat 0,())])),rfl,_,stp _ (.lapse d R nk1 ne1 _ n k t' r' hn hid hk hkl hdu h2 hfl hT3),.inr (by simp [db,c3])⟩
      ·rw [show(r'.2.2.2.1==ofNat 3)=false by simpa using c3]
       simp only [Nat.le_refl,decide_true,cond_true,hT2,bp,bW,length_singleton,h1,cond_false,hwd,hwe]
       exact⟨(d+1,R.set n r',nk1,ne1+1,some ((es++w)++ [(ne1,ofNat 3,r'.1,(k:Int),())])),rfl,_,stp _ (.lapse d R nk1 ne1 _ n k t' r' hn hid hk hkl hdu h2 hfl hT3),.inr (by simp [db,c3])⟩
   ·simp only [Bool.not_false,cond_true,ek]
    exact⟨(d,R,nk1,ne1,some (es++w)),rfl,skipN fun n2 k2 hn2 hid2 _ _=>absurd hid2 (hno n2 hn2)⟩
 ·obtain⟨d,R,nk1,ne1,o⟩:=x
  obtain⟨w,hN,ho⟩:=hx2
  simp only at hN ho
  cases o with
  |none=>
   rcases ho with⟨hw,_⟩|h
   ·exact⟨.inr (.inl (d,es,R,now,nr,nt,nk1,ne1,ac,rs.length,es.length,ofNat 0,ofNat 0,ofNat 0,ofNat 0,ofNat 0,({data:= #[]}:ByteArray),ofNat 0,P,())),by simp only [dn,kV,jx,bv,cond_false],d,R,nk1,ne1,w,hN,.inl ⟨hw,rfl⟩⟩
   ·cases h
  |some E=>
   obtain rfl:E=(es++w):=by
    rcases ho with⟨_,h⟩|h
    ·cases h
    ·exact Option.some.inj h
   exact⟨.inr (.inr (d,R,now,nr,nt,nk1,ne1,ac,rs.length,(es++w).length,ofNat 0,ofNat 0,ofNat 0,ofNat 0,ofNat 0,({data:= #[]}:ByteArray),ofNat 0,P,(es++w),())),by simp only [dn,kW,jy,bv,cond_false],d,R,nk1,ne1,w,hN,.inr rfl⟩
end
section
variable (np:Nat) (rs:List am) (P:List cr) (now nr nt ac:Int)
abbrev tb1 (i d:Int) (R:List am) (nk ne:Int):=(d,np,(np:Int),i,R,now,nr,nt,nk,ne,ac,rs.length,ofNat 0,ofNat 0,ofNat 0,ofNat 0,ofNat 0,({data:= #[]}:ByteArray),ofNat 0,P,())
abbrev tb2 (i d:Int) (R:List am) (nk ne:Int) (E:List aO):=(d,np,(np:Int),i,R,now,nr,nt,nk,ne,ac,rs.length,E.length,ofNat 0,ofNat 0,ofNat 0,ofNat 0,ofNat 0,({data:= #[]}:ByteArray),ofNat 0,P,E,())
abbrev enb (i:Int) (x:Int×List am×Int×Int×Option (List aO)):HG dq:=match x with
 |(d,R,nk,ne,none)=>.inr (.inl (tb1 np rs P now nr nt ac i d R nk ne))
 |(d,R,nk,ne,some E)=>.inr (.inr (tb2 np rs P now nr nt ac i d R nk ne E))
def Ivb (nk ne:Int) (i:Nat) (x:Int×List am×Int×Int×Option (List aO)):Prop:=∃w,TkN now P (ofNat 0,rs,nk,ne,[]) i (x.1,x.2.1,x.2.2.1,x.2.2.2.1,w)∧((w= []∧x.2.2.2.2=none)∨x.2.2.2.2=some w)
theorem ac9 (hnp:np≤16) (hP:np≤P.length) (nk ne:Int) (hx:SX now nr nt nk ne ac rs (([]:List aO)++ [])) (hk:nk≤1099511627676) (he:ne≤1099511627676) (hp:∀p∈P,p∈pl rs now):
  ∃y,ec (enb np rs P now nr nt ac ((0:Nat):Int) (ofNat 0,rs,nk,ne,none))=some y∧∃d R nk' ne' w,TkN now P (ofNat 0,rs,nk,ne,[]) np (d,R,nk',ne',w)∧((w= []∧y= .inr (.inl (d,R,now,nr,nt,nk',ne',ac,rs.length,ofNat 0,ofNat 0,ofNat 0,ofNat 0,ofNat 0,({data:= #[]}:ByteArray),ofNat 0,P,())))∨y= .inr (.inr (d,R,now,nr,nt,nk',ne',ac,rs.length,w.length,ofNat 0,ofNat 0,ofNat 0,ofNat 0,ofNat 0,({data:= #[]}:ByteArray),ofNat 0,P,w,()))):=by
 have h32:=hx.fine.1
 have hf:=hx.fine
 refine ba (st:=dq) np (fun i (x:Int×List am×Int×Int×Option (List aO))=>enb np rs P now nr nt ac (i:Int) x) (Ivb rs P now nk ne) (fun y=>∃d R nk' ne' w,TkN now P (ofNat 0,rs,nk,ne,[]) np (d,R,nk',ne',w)∧((w= []∧y= .inr (.inl (d,R,now,nr,nt,nk',ne',ac,rs.length,ofNat 0,ofNat 0,ofNat 0,ofNat 0,ofNat 0,({data:= #[]}:ByteArray),ofNat 0,P,())))∨y= .inr (.inr (d,R,now,nr,nt,nk',ne',ac,rs.length,w.length,ofNat 0,ofNat 0,ofNat 0,ofNat 0,ofNat 0,({data:= #[]}:ByteArray),ofNat 0,P,w,())))) (fun i x h hx2=>.inl ?_) (fun x hx2=> ?_) (ofNat 0,rs,nk,ne,none) ⟨[],.zero,.inl ⟨rfl,rfl⟩⟩
 ·obtain⟨d,R,nk1,ne1,o⟩:=x
  obtain⟨w,hN,ho⟩:=hx2
  simp only at hN ho
  obtain⟨q1,q2,q3,q4,q5,q6⟩:=zU (es:=([]:List aO)) (x:=(ofNat 0,rs,nk,ne,[])) hx i _ hN (by simp only;omega) (by simp only;omega)
  obtain⟨hs,q7,q8⟩:=oK i _ hN
  simp only [length_nil,bm]at q1 q2 q3 q4 q5 q6 hs q7 q8
  have hg:=q1.fine
  have hPi:i<P.length:=by omega
  have hpp:=hp _ (aG hPi (aa ay))
  have hT:take rs.length (drop 0 R)=R:=by rw [←hs.len];exact fC R
  have hle:rs.length≤R.length:=by rw [hs.len];omega
  have ek:IntKind.i64.wrap ((i:Int)+ofNat 1)=((i+1:Nat):Int):=iJ (by omega) (by omega)
  have hwd:IntKind.i64.wrap (d+ofNat 1)=d+1:=fm (by omega) (by omega)
  have hwk:IntKind.i64.wrap (nk1+ofNat 1)=nk1+1:=fm q1.nkI.1 q1.nkI.2
  have hwe:IntKind.i64.wrap (ne1+ofNat 1)=ne1+1:=fm (by have:=q1.neI.1;omega) q1.neI.2
  have hok:∀r∈R,bK r:=fun r hr=>by
   obtain⟨j,hj,rfl⟩:=List.mem_iff_getElem.1 hr
   rw [←bD hj (aa ae)]
   exact mY (q1.rok hj)
  obtain⟨fi,b,e,hfi,hq⟩:=bY R (by rw [hs.len];omega) hok (P.getD i (aa ay)).1
  have stp:=fun z=>TkN.step (now:=now) (P:=P) (x:=(ofNat 0,rs,nk,ne,[])) i (d,R,nk1,ne1,w) z hN
  generalize hgp:P.getD i (aa ay)=p at hfi hq hpp stp
  have skipN:(∀n k:Nat,n<R.length→(R.getD n (aa ae)).1=p.1→p.2.1=k→k<(aQ R n).length→ed ((aQ R n).getD k (aa ab)) now=false)→Ivb rs P now nk ne (i+1) (d,R,nk1,ne1,o):=fun hsk=>⟨w,stp _ (.skip d R nk1 ne1 w hsk),ho⟩
  cases o with
  |none=>
   obtain rfl:w= []:=by
    rcases ho with⟨h,_⟩|h
    ·exact h
    ·cases h
   simp only [dq,kX,jz,bw h,aL h,cond_true,zero_add,toNat_natCast,decide_eq_true hPi,decide_eq_true hle,hT,hgp,hfi,bind_some]
   rcases hq with⟨_,_,hq⟩|⟨_,_,⟨rfl,n,rfl,hn,hid⟩|⟨rfl,hno⟩⟩
   ·exact absurd hg hq
   ·obtain⟨k,hk,hkl⟩:=wC hs hf hpp hn hid
    have hn':n<rs.length:=hs.len▸hn
    simp only [Bool.not_true,cond_false,aL hn',aF hn,cond_true,toNat_natCast,zero_add,hk,aL hkl,aF hkl,f176,bind_some,length_set,ek]
    cases hdu:ed (getD (R.getD n (aa ae)).2.2.2.2.1 k (aa ab)) now with
    |false=>
     simp only [Bool.not_false,cond_true]
     exact⟨(d,R,nk1,ne1,none),rfl,skipN fun n2 k2 hn2 hid2 hk2 hkl2=>by
      obtain rfl:=vL hg hn hn2 (hid.trans hid2.symm)
      obtain rfl:k=k2:=by omega
      exact hdu⟩
    |true=>
     simp only [Bool.not_true,cond_false]
     by_cases h3:(getD (R.getD n (aa ae)).2.2.2.2.1 k (aa ab)).1=3
     ·obtain⟨r',hw,hT3⟩:=wA (R.getD n (aa ae)) (q1.rok hn) k nk1 now hkl h3 hdu q1.nkI q1.ckI
      have hw:nZ (((R.getD n (aa ae)).1,(R.getD n (aa ae)).2.1,(R.getD n (aa ae)).2.2.1,(R.getD n (aa ae)).2.2.2.1,(R.getD n (aa ae)).2.2.2.2.1,()),(k:Int),nk1,now,())=some (r',0,()):=hw
      rw [show((getD (R.getD n (aa ae)).2.2.2.2.1 k (aa ab)).1==ofNat 3)=true by rw [h3];rfl,cond_true]
      simp only [hw,bind_some,hwd,hwk,length_set]
      exact⟨(d+1,R.set n r',nk1+1,ne1,none),rfl,_,stp _ (.wake d R nk1 ne1 _ n k r' hn hid hk hkl hdu h3 hT3),ho⟩
     ·have h2:(getD (R.getD n (aa ae)).2.2.2.2.1 k (aa ab)).1=2:=by
       have:=(zT hdu).1
       omega
      obtain⟨r',t',hl,hfl,hT3⟩:=rS (R.getD n (aa ae)) (q1.rok hn) k now hkl h2 hdu q1.ckI
      have hl:oc (((R.getD n (aa ae)).1,(R.getD n (aa ae)).2.1,(R.getD n (aa ae)).2.2.1,(R.getD n (aa ae)).2.2.2.1,(R.getD n (aa ae)).2.2.2.2.1,()),(k:Int),now,())=some (r',0,()):=hl
      rw [show((getD (R.getD n (aa ae)).2.2.2.2.1 k (aa ab)).1==ofNat 3)=false by rw [h2];rfl,cond_false]
      have hgd:(R.set n r').getD n (aa ae)=r':=by rw [cz hn,if_pos rfl]
      simp only [hl,bind_some,length_set,hgd,aF hn,cond_true]
      by_cases c3:r'.2.2.2.1=3
      ·rw [show(r'.2.2.2.1==ofNat 3)=true by simpa using c3]
       simp only [bp,bW,length_singleton,cond_true,hwd,hwe]
       exact⟨(d+1,R.set n r',nk1,ne1+1,some ([(ne1,ofNat 5,r'.1,ofNat 0,())])),rfl,_,stp _ (.lapse d R nk1 ne1 _ n k t' r' hn hid hk hkl hdu h2 hfl hT3),.inr (by simp [db,c3])⟩
      ·rw [show(r'.2.2.2.1==ofNat 3)=false by simpa using c3]
       simp only [bp,bW,length_singleton,cond_false,hwd,hwe]
       exact⟨(d+1,R.set n r',nk1,ne1+1,some ([(ne1,ofNat 3,r'.1,(k:Int),())])),rfl,_,stp _ (.lapse d R nk1 ne1 _ n k t' r' hn hid hk hkl hdu h2 hfl hT3),.inr (by simp [db,c3])⟩
   ·simp only [Bool.not_false,cond_true,ek]
    exact⟨(d,R,nk1,ne1,none),rfl,skipN fun n2 k2 hn2 hid2 _ _=>absurd hid2 (hno n2 hn2)⟩
  |some E=>
   obtain rfl:w=E:=by
    rcases ho with⟨_,h⟩|h
    ·cases h
    ·exact(Option.some.inj h).symm
   have hT2:=fC w
   simp only [dq,kY,jA,bw h,aL h,cond_true,zero_add,toNat_natCast,decide_eq_true hPi,decide_eq_true hle,hT,hgp,hfi,bind_some]
   rcases hq with⟨_,_,hq⟩|⟨_,_,⟨rfl,n,rfl,hn,hid⟩|⟨rfl,hno⟩⟩
   ·exact absurd hg hq
   ·obtain⟨k,hk,hkl⟩:=wC hs hf hpp hn hid
    have hn':n<rs.length:=hs.len▸hn
    simp only [Bool.not_true,cond_false,aL hn',aF hn,cond_true,toNat_natCast,zero_add,hk,aL hkl,aF hkl,f176,bind_some,length_set,ek]
    cases hdu:ed (getD (R.getD n (aa ae)).2.2.2.2.1 k (aa ab)) now with
    |false=>
     simp only [Bool.not_false,cond_true]
     exact⟨(d,R,nk1,ne1,some w),rfl,skipN fun n2 k2 hn2 hid2 hk2 hkl2=>by
      obtain rfl:=vL hg hn hn2 (hid.trans hid2.symm)
      obtain rfl:k=k2:=by omega
      exact hdu⟩
    |true=>
     simp only [Bool.not_true,cond_false]
     by_cases h3:(getD (R.getD n (aa ae)).2.2.2.2.1 k (aa ab)).1=3
     ·obtain⟨r',hw,hT3⟩:=wA (R.getD n (aa ae)) (q1.rok hn) k nk1 now hkl h3 hdu q1.nkI q1.ckI
      have hw:nZ (((R.getD n (aa ae)).1,(R.getD n (aa ae)).2.1,(R.getD n (aa ae)).2.2.1,(R.getD n (aa ae)).2.2.2.1,(R.getD n (aa ae)).2.2.2.2.1,()),(k:Int),nk1,now,())=some (r',0,()):=hw
      rw [show((getD (R.getD n (aa ae)).2.2.2.2.1 k (aa ab)).1==ofNat 3)=true by rw [h3];rfl,cond_true]
      simp only [hw,bind_some,hwd,hwk,length_set]
      exact⟨(d+1,R.set n r',nk1+1,ne1,some w),rfl,_,stp _ (.wake d R nk1 ne1 _ n k r' hn hid hk hkl hdu h3 hT3),ho⟩
     ·have h2:(getD (R.getD n (aa ae)).2.2.2.2.1 k (aa ab)).1=2:=by
       have:=(zT hdu).1
       omega
      obtain⟨r',t',hl,hfl,hT3⟩:=rS (R.getD n (aa ae)) (q1.rok hn) k now hkl h2 hdu q1.ckI
      have hl:oc (((R.getD n (aa ae)).1,(R.getD n (aa ae)).2.1,(R.getD n (aa ae)).2.2.1,(R.getD n (aa ae)).2.2.2.1,(R.getD n (aa ae)).2.2.2.2.1,()),(k:Int),now,())=some (r',0,()):=hl
      rw [show((getD (R.getD n (aa ae)).2.2.2.2.1 k (aa ab)).1==ofNat 3)=false by rw [h2];rfl,cond_false]
      have hgd:(R.set n r').getD n (aa ae)=r':=by rw [cz hn,if_pos rfl]
      have h1:=cj (show w.length≤60 by omega) (show 1≤60 by omega)
      simp only [hl,bind_some,length_set,hgd,aF hn,cond_true]
      by_cases c3:r'.2.2.2.1=3
      ·rw [show(r'.2.2.2.1==ofNat 3)=true by simpa using c3]
       simp only [Nat.le_refl,decide_true,cond_true,hT2,bp,bW,length_singleton,h1,cond_true,hwd,hwe]
       exact⟨(d+1,R.set n r',nk1,ne1+1,some (w++ [(ne1,ofNat 5,r'.1,ofNat 0,())])),rfl,_,stp _ (.lapse d R nk1 ne1 _ n k t' r' hn hid hk hkl hdu h2 hfl hT3),.inr (by simp [db,c3])⟩
      ·rw [show(r'.2.2.2.1==ofNat 3)=false by simpa using c3]
       simp only [Nat.le_refl,decide_true,cond_true,hT2,bp,bW,length_singleton,h1,cond_false,hwd,hwe]
       exact⟨(d+1,R.set n r',nk1,ne1+1,some (w++ [(ne1,ofNat 3,r'.1,(k:Int),())])),rfl,_,stp _ (.lapse d R nk1 ne1 _ n k t' r' hn hid hk hkl hdu h2 hfl hT3),.inr (by simp [db,c3])⟩
   ·simp only [Bool.not_false,cond_true,ek]
    exact⟨(d,R,nk1,ne1,some w),rfl,skipN fun n2 k2 hn2 hid2 _ _=>absurd hid2 (hno n2 hn2)⟩
 ·obtain⟨d,R,nk1,ne1,o⟩:=x
  obtain⟨w,hN,ho⟩:=hx2
  simp only at hN ho
  cases o with
  |none=>
   rcases ho with⟨hw,_⟩|h
   ·exact⟨.inr (.inl (d,R,now,nr,nt,nk1,ne1,ac,rs.length,ofNat 0,ofNat 0,ofNat 0,ofNat 0,ofNat 0,({data:= #[]}:ByteArray),ofNat 0,P,())),by simp only [dq,kX,jz,bv,cond_false],d,R,nk1,ne1,w,hN,.inl ⟨hw,rfl⟩⟩
   ·cases h
  |some E=>
   obtain rfl:w=E:=by
    rcases ho with⟨_,h⟩|h
    ·cases h
    ·exact(Option.some.inj h).symm
   exact⟨.inr (.inr (d,R,now,nr,nt,nk1,ne1,ac,rs.length,w.length,ofNat 0,ofNat 0,ofNat 0,ofNat 0,ofNat 0,({data:= #[]}:ByteArray),ofNat 0,P,w,())),by simp only [dq,kY,jA,bv,cond_false],d,R,nk1,ne1,w,hN,.inr rfl⟩
end
theorem zX (rs:List am) (hm:rs.length≤9223372036854775807) (hr:∀r∈rs,bK r) (hf:eP rs) (now:Int) (hn:bX now):
  ∃(l:List cr) (e:Int),xL (rs,now,())=some (l,e,())∧l.Perm (pl rs now)∧Rv l:=by
 obtain⟨v,hv,hc⟩:=f51 rs hm hr
 rcases hc with⟨h1,_⟩|⟨_,h2,_⟩|⟨_,rfl⟩
 ·have:=hf.1;omega
 ·exact absurd hf.2 h2
 ·obtain⟨S,h1,h2,h3⟩:=f175 rs now hf.1 (agU hf)
  obtain⟨n1,n2⟩:=hn
  simp only [xL,hv,bind_some,pj,cond_false,decide_eq_false (show¬now<ofNat 0 by simp only [bm];omega),decide_eq_false (show¬now>ofNat 1099511627776 by simp only [bm];omega),h1]
  cases S with
  |nil=>exact⟨_,_,rfl,h2,h3⟩
  |cons a m=>
   simp only [isEmpty_cons,cond_false,fC,zero_add,Nat.le_refl,decide_true,cond_true]
   exact⟨_,_,rfl,h2,h3⟩
theorem iL {ck nr nt nk ne ac:Int} {rs:List am} {es:List aO} {c:bo} {R2:List am} {E:List aO} {l:List cr} {d:Int} {R:List am} {nk' ne':Int} {w:List aO} (hk:c.1=7) (hf:Fresh nr nt nk ne) (h1:¬c.2.2.2.2.2.2.2.1<ck) (h2:¬c.2.2.2.2.2.2.2.1>ofNat 1099511627776) (hl:l.Perm (pl rs c.2.2.2.2.2.2.2.1)) (hs:Rv l) (hN:TkN c.2.2.2.2.2.2.2.1 l (ofNat 0,rs,nk,ne,[]) (min 16 l.length) (d,R,nk',ne',w)) (hR:R2=R) (hE:E=es++w) (h40:E.length≤40):
  bC ck nr nt nk ne ac rs es c (mk c.2.2.2.2.2.2.2.1 nr nt nk' ne' ac R2 E) (gU (ofNat 0) d (ofNat 0)):=by
 subst hR hE;exact⟨.tick l d R2 nk' ne' w hk hf (by omega) (by simp only [bm]at h2;omega) hl hs hN,h40⟩
theorem aam {ck nr nt nk ne ac:Int} {rs:List am} {es:List aO} (h:SOk (mk ck nr nt nk ne ac rs es)) (hr:∀r∈rs,bK r) (hR:isEmpty rs=false) (hE:isEmpty es=false) (c:bo) (hfr:Fresh nr nt nk ne) (hk:c.1=7):
  ∃t r,yX ((mk ck nr nt nk ne ac rs es),c,())=some (t,r,())∧bC ck nr nt nk ne ac rs es c t r:=by
 have h25:=bg h
 have hf:=h.fine
 have he:=h.ev40
 have hck:0≤ck∧ck≤1099511627776:=h.ck
 have hsx:=po h
 simp only [mk]at h25 hf he
 have h32:=hf.1
 have E:=my h hR hE
 simp only [mk]at E
 simp only [yX,mk,h25,bind_some,hR,hE,isEmpty_nil,cond_false,zero_add,Nat.le_refl,decide_true,cond_true,bp,bW,E]
 by_cases c1:c.2.2.2.2.2.2.2.1<ck
 ·rw [decide_eq_true c1,cond_true];exact⟨_,_,rfl,aw h 1⟩
 rw [decide_eq_false c1,cond_false]
 by_cases c2:c.2.2.2.2.2.2.2.1>ofNat 1099511627776
 ·rw [decide_eq_true c2,cond_true];exact⟨_,_,rfl,aw h 1⟩
 rw [decide_eq_false c2,cond_false]
 have hTo:bX c.2.2.2.2.2.2.2.1:=⟨by omega,by simp only [bm]at c2;omega⟩
 obtain⟨l,e,hdue,hperm,hsrt⟩:=zX rs (by omega) hr hf c.2.2.2.2.2.2.2.1 hTo
 simp only [hdue,bind_some]
 have h0:dZ (.inl (ofNat 0,0,ofNat 0,es,rs,c.2.2.2.2.2.2.2.1,nr,nt,nk,ne,ac,rs.length,es.length,ofNat 0,ofNat 0,ofNat 0,ofNat 0,ofNat 0,({data:= #[]}:ByteArray),ofNat 0,()))=some (.inl (ofNat 0,es,rs,c.2.2.2.2.2.2.2.1,nr,nt,nk,ne,ac,rs.length,es.length,ofNat 0,ofNat 0,ofNat 0,ofNat 0,ofNat 0,({data:= #[]}:ByteArray),ofNat 0,())):=by
  rw [dZ,dm]
  rfl
 by_cases hl:l= []
 ·subst hl
  simp only [isEmpty_nil,cond_true,h0,bind_some]
  by_cases c40:(((es.length:Nat):Int)>ofNat 40)
  ·rw [decide_eq_true c40,cond_true];exact⟨_,_,rfl,aw h 8⟩
  ·rw [decide_eq_false c40,cond_false]
   try simp only [cond_false,zero_add,Nat.le_refl,decide_true,cond_true,drop_zero,take_length]
   exact⟨_,_,rfl,iL hk hfr c1 c2 hperm hsrt TkN.zero (by first|rfl|simp|exact hRR) (by simp) (by simp only [bm]at c40;omega)⟩
 ·have hle:isEmpty l=false:=by cases l with
   |nil=>exact absurd rfl hl
   |cons a m=>rfl
  have hmin:(if ofNat 16<((l.length:Nat):Int)then ofNat 16 else((l.length:Nat):Int))=((min 16 l.length:Nat):Int):=by
   simp only [bm]
   split<;>omega
  have hwi:aj (0:Int) ((min 16 l.length:Nat):Int) ((l.length:Nat):Int)=true:=by
   simp only [aj,Bool.and_eq_true,decide_eq_true_eq];omega
  have hsx2:SX c.2.2.2.2.2.2.2.1 nr nt nk ne ac rs (es++ []):=by
   rw [append_nil]
   exact⟨hsx.fine,hTo,hsx.nrI,hsx.nkI,hsx.ntI,hsx.neI,hsx.ack,hsx.elen,hsx.late,hsx.evs⟩
  obtain⟨y,hy,d,R,nk',ne',w,hN,hyq⟩:=ac8 (min 16 l.length) rs es l c.2.2.2.2.2.2.2.1 nr nt ac (by omega) (by omega) nk ne hsx2 hfr.nk hfr.ne he (fun p hp=>hperm.subset hp)
  have hy:dZ (.inr (.inl (ofNat 0,min 16 l.length,((min 16 l.length:Nat):Int),ofNat 0,es,rs,c.2.2.2.2.2.2.2.1,nr,nt,nk,ne,ac,rs.length,es.length,ofNat 0,ofNat 0,ofNat 0,ofNat 0,ofNat 0,({data:= #[]}:ByteArray),ofNat 0,l,())))=some y:=hy
  simp only [hle,hmin,hwi,toNat_natCast,sub_zero,cond_true,cond_false,hy,bind_some]
  have hs:=(oK _ _ hN).1
  simp only at hs
  have hlR:rs.length≤R.length:=by rw [hs.len];omega
  have hRR:take rs.length R=R:=take_of_length_le (by rw [hs.len];omega)
  rcases hyq with⟨rfl,rfl⟩|rfl
  ·simp only []
   by_cases c40:(((es.length:Nat):Int)>ofNat 40)
   ·rw [decide_eq_true c40,cond_true];exact⟨_,_,rfl,aw h 8⟩
   ·rw [decide_eq_false c40,cond_false]
    try simp only [cond_false,zero_add,Nat.le_refl,decide_true,cond_true,drop_zero,take_length,decide_eq_true hlR,hRR]
    exact⟨_,_,rfl,iL hk hfr c1 c2 hperm hsrt hN (by first|rfl|simp|exact hRR) (by simp) (by simp only [bm]at c40;omega)⟩
  ·simp only []
   by_cases c40:((((es++w).length:Nat):Int)>ofNat 40)
   ·rw [decide_eq_true c40,cond_true];exact⟨_,_,rfl,aw h 8⟩
   ·rw [decide_eq_false c40,cond_false]
    try simp only [cond_false,zero_add,Nat.le_refl,decide_true,cond_true,drop_zero,take_length,decide_eq_true hlR,hRR]
    exact⟨_,_,rfl,iL hk hfr c1 c2 hperm hsrt hN (by first|rfl|simp|exact hRR) (by simp) (by simp only [bm]at c40;omega)⟩
theorem aan {ck nr nt nk ne ac:Int} {rs:List am} (h:SOk (mk ck nr nt nk ne ac rs [])) (hr:∀r∈rs,bK r) (hR:isEmpty rs=false) (c:bo) (hfr:Fresh nr nt nk ne) (hk:c.1=7):
  ∃t r,zg ((mk ck nr nt nk ne ac rs []),c,())=some (t,r,())∧bC ck nr nt nk ne ac rs [] c t r:=by
 have h25:=bg h
 have hf:=h.fine
 have he:=h.ev40
 have hck:0≤ck∧ck≤1099511627776:=h.ck
 have hsx:=po h
 simp only [mk]at h25 hf he
 have h32:=hf.1
 have E:=oH h hR
 simp only [mk]at E
 simp only [zg,mk,h25,bind_some,hR,isEmpty_nil,cond_false,zero_add,Nat.le_refl,decide_true,cond_true,bp,bW,E]
 by_cases c1:c.2.2.2.2.2.2.2.1<ck
 ·rw [decide_eq_true c1,cond_true];exact⟨_,_,rfl,aw h 1⟩
 rw [decide_eq_false c1,cond_false]
 by_cases c2:c.2.2.2.2.2.2.2.1>ofNat 1099511627776
 ·rw [decide_eq_true c2,cond_true];exact⟨_,_,rfl,aw h 1⟩
 rw [decide_eq_false c2,cond_false]
 have hTo:bX c.2.2.2.2.2.2.2.1:=⟨by omega,by simp only [bm]at c2;omega⟩
 obtain⟨l,e,hdue,hperm,hsrt⟩:=zX rs (by omega) hr hf c.2.2.2.2.2.2.2.1 hTo
 simp only [hdue,bind_some]
 have h0:ec (.inl (ofNat 0,0,ofNat 0,rs,c.2.2.2.2.2.2.2.1,nr,nt,nk,ne,ac,rs.length,ofNat 0,ofNat 0,ofNat 0,ofNat 0,ofNat 0,({data:= #[]}:ByteArray),ofNat 0,()))=some (.inl (ofNat 0,rs,c.2.2.2.2.2.2.2.1,nr,nt,nk,ne,ac,rs.length,ofNat 0,ofNat 0,ofNat 0,ofNat 0,ofNat 0,({data:= #[]}:ByteArray),ofNat 0,())):=by
  rw [ec,dm]
  rfl
 by_cases hl:l= []
 ·subst hl
  simp only [isEmpty_nil,cond_true,h0,bind_some]
  try simp only [cond_false,zero_add,Nat.le_refl,decide_true,cond_true,drop_zero,take_length]
  exact⟨_,_,rfl,iL hk hfr c1 c2 hperm hsrt TkN.zero (by first|rfl|simp|exact hRR) (by simp) (by simp)⟩
 ·have hle:isEmpty l=false:=by cases l with
   |nil=>exact absurd rfl hl
   |cons a m=>rfl
  have hmin:(if ofNat 16<((l.length:Nat):Int)then ofNat 16 else((l.length:Nat):Int))=((min 16 l.length:Nat):Int):=by
   simp only [bm]
   split<;>omega
  have hwi:aj (0:Int) ((min 16 l.length:Nat):Int) ((l.length:Nat):Int)=true:=by
   simp only [aj,Bool.and_eq_true,decide_eq_true_eq];omega
  have hsx2:SX c.2.2.2.2.2.2.2.1 nr nt nk ne ac rs ([]++ []):=by
   rw [append_nil]
   exact⟨hsx.fine,hTo,hsx.nrI,hsx.nkI,hsx.ntI,hsx.neI,hsx.ack,hsx.elen,hsx.late,hsx.evs⟩
  obtain⟨y,hy,d,R,nk',ne',w,hN,hyq⟩:=ac9 (min 16 l.length) rs l c.2.2.2.2.2.2.2.1 nr nt ac (by omega) (by omega) nk ne hsx2 hfr.nk hfr.ne (fun p hp=>hperm.subset hp)
  have hy:ec (.inr (.inl (ofNat 0,min 16 l.length,((min 16 l.length:Nat):Int),ofNat 0,rs,c.2.2.2.2.2.2.2.1,nr,nt,nk,ne,ac,rs.length,ofNat 0,ofNat 0,ofNat 0,ofNat 0,ofNat 0,({data:= #[]}:ByteArray),ofNat 0,l,())))=some y:=hy
  simp only [hle,hmin,hwi,toNat_natCast,sub_zero,cond_true,cond_false,hy,bind_some]
  have hs:=(oK _ _ hN).1
  simp only at hs
  have hlR:rs.length≤R.length:=by rw [hs.len];omega
  have hRR:take rs.length R=R:=take_of_length_le (by rw [hs.len];omega)
  rcases hyq with⟨rfl,rfl⟩|rfl
  ·simp only []
   try simp only [cond_false,zero_add,Nat.le_refl,decide_true,cond_true,drop_zero,take_length,decide_eq_true hlR,hRR]
   exact⟨_,_,rfl,iL hk hfr c1 c2 hperm hsrt hN (by first|rfl|simp|exact hRR) (by simp) (by simp)⟩
  ·simp only []
   by_cases c40:(((w.length:Nat):Int)>ofNat 40)
   ·rw [decide_eq_true c40,cond_true];exact⟨_,_,rfl,aw h 8⟩
   ·rw [decide_eq_false c40,cond_false]
    try simp only [cond_false,zero_add,Nat.le_refl,decide_true,cond_true,drop_zero,take_length,decide_eq_true hlR,hRR]
    exact⟨_,_,rfl,iL hk hfr c1 c2 hperm hsrt hN (by first|rfl|simp|exact hRR) (by simp) (by simp only [bm]at c40;omega)⟩
theorem aao {ck nr nt nk ne ac:Int} {es:List aO} (h:SOk (mk ck nr nt nk ne ac [] es)) (hr:∀r∈([]:List am),bK r) (hE:isEmpty es=false) (c:bo) (hfr:Fresh nr nt nk ne) (hk:c.1=7):
  ∃t r,zq ((mk ck nr nt nk ne ac [] es),c,())=some (t,r,())∧bC ck nr nt nk ne ac [] es c t r:=by
 have h25:=bg h
 have hf:=h.fine
 have he:=h.ev40
 have hck:0≤ck∧ck≤1099511627776:=h.ck
 have hsx:=po h
 simp only [mk]at h25 hf he
 have h32:=hf.1
 have E:=oI h hE
 simp only [mk]at E
 simp only [zq,mk,h25,bind_some,hE,isEmpty_nil,cond_false,zero_add,Nat.le_refl,decide_true,cond_true,bp,bW,E]
 by_cases c1:c.2.2.2.2.2.2.2.1<ck
 ·rw [decide_eq_true c1,cond_true];exact⟨_,_,rfl,aw h 1⟩
 rw [decide_eq_false c1,cond_false]
 by_cases c2:c.2.2.2.2.2.2.2.1>ofNat 1099511627776
 ·rw [decide_eq_true c2,cond_true];exact⟨_,_,rfl,aw h 1⟩
 rw [decide_eq_false c2,cond_false]
 have hTo:bX c.2.2.2.2.2.2.2.1:=⟨by omega,by simp only [bm]at c2;omega⟩
 obtain⟨l,e,hdue,hperm,hsrt⟩:=zX ([]:List am) (by omega) hr hf c.2.2.2.2.2.2.2.1 hTo
 simp only [hdue,bind_some]
 have h0:gJ (.inl (ofNat 0,0,ofNat 0,es,c.2.2.2.2.2.2.2.1,nr,nt,nk,ne,ac,es.length,ofNat 0,ofNat 0,ofNat 0,ofNat 0,ofNat 0,({data:= #[]}:ByteArray),ofNat 0,()))=some (.inl (ofNat 0,es,c.2.2.2.2.2.2.2.1,nr,nt,nk,ne,ac,es.length,ofNat 0,ofNat 0,ofNat 0,ofNat 0,ofNat 0,({data:= #[]}:ByteArray),ofNat 0,())):=by
  rw [gJ,dm]
  rfl
 obtain rfl:l= []:=hperm.eq_nil
 simp only [isEmpty_nil,cond_true,h0,bind_some]
 by_cases c40:(((es.length:Nat):Int)>ofNat 40)
 ·rw [decide_eq_true c40,cond_true];exact⟨_,_,rfl,aw h 8⟩
 ·rw [decide_eq_false c40,cond_false]
  try simp only [cond_false,zero_add,Nat.le_refl,decide_true,cond_true,drop_zero,take_length]
  exact⟨_,_,rfl,iL hk hfr c1 c2 hperm hsrt TkN.zero (by first|rfl|simp|exact hRR) (by simp) (by simp only [bm]at c40;omega)⟩
theorem aap {ck nr nt nk ne ac:Int} (h:SOk (mk ck nr nt nk ne ac [] [])) (hr:∀r∈([]:List am),bK r) (c:bo) (hfr:Fresh nr nt nk ne) (hk:c.1=7):
  ∃t r,zC ((mk ck nr nt nk ne ac [] []),c,())=some (t,r,())∧bC ck nr nt nk ne ac [] [] c t r:=by
 have h25:=bg h
 have hf:=h.fine
 have he:=h.ev40
 have hck:0≤ck∧ck≤1099511627776:=h.ck
 have hsx:=po h
 simp only [mk]at h25 hf he
 have h32:=hf.1
 have E:=oJ h
 simp only [mk]at E
 simp only [zC,mk,h25,bind_some,isEmpty_nil,cond_false,zero_add,Nat.le_refl,decide_true,cond_true,bp,bW,E]
 by_cases c1:c.2.2.2.2.2.2.2.1<ck
 ·rw [decide_eq_true c1,cond_true];exact⟨_,_,rfl,aw h 1⟩
 rw [decide_eq_false c1,cond_false]
 by_cases c2:c.2.2.2.2.2.2.2.1>ofNat 1099511627776
 ·rw [decide_eq_true c2,cond_true];exact⟨_,_,rfl,aw h 1⟩
 rw [decide_eq_false c2,cond_false]
 have hTo:bX c.2.2.2.2.2.2.2.1:=⟨by omega,by simp only [bm]at c2;omega⟩
 obtain⟨l,e,hdue,hperm,hsrt⟩:=zX ([]:List am) (by omega) hr hf c.2.2.2.2.2.2.2.1 hTo
 simp only [hdue,bind_some]
 have h0:gK (.inl (ofNat 0,0,ofNat 0,c.2.2.2.2.2.2.2.1,nr,nt,nk,ne,ac,ofNat 0,ofNat 0,ofNat 0,ofNat 0,ofNat 0,({data:= #[]}:ByteArray),ofNat 0,()))=some (.inl (ofNat 0,c.2.2.2.2.2.2.2.1,nr,nt,nk,ne,ac,ofNat 0,ofNat 0,ofNat 0,ofNat 0,ofNat 0,({data:= #[]}:ByteArray),ofNat 0,())):=by
  rw [gK,dm]
  rfl
 obtain rfl:l= []:=hperm.eq_nil
 simp only [isEmpty_nil,cond_true,h0,bind_some]
 try simp only [cond_false,zero_add,Nat.le_refl,decide_true,cond_true,drop_zero,take_length]
 exact⟨_,_,rfl,iL hk hfr c1 c2 hperm hsrt TkN.zero (by first|rfl|simp|exact hRR) (by simp) (by simp)⟩
theorem ag0 {ck nr nt nk ne ac:Int} {rs:List am} {es:List aO} (h:SOk (mk ck nr nt nk ne ac rs es)) (hr:∀r∈rs,bK r) (hR:isEmpty rs=false) (hE:isEmpty es=false) (c:bo) (hcl:∀nd∈c.2.2.1.1,nd.1.length≤9223372036854775807):
  ∃t r,pJ ((mk ck nr nt nk ne ac rs es),c,())=some (t,r,())∧bC ck nr nt nk ne ac rs es c t r:=by
 obtain⟨v,hv,hc⟩:=lf (mk ck nr nt nk ne ac rs es) (by have:=h.fine.1;simp only [mk]at this⊢;omega) hr
 obtain rfl:v=0:=by
  rcases hc with⟨h1,_⟩|⟨_,hc⟩
  ·exact h1
  ·exact absurd h hc
 have E:=my h hR hE
 have Eg:=fun n=>aw (c:=c) h n
 simp only [pJ,hv,bind_some,pj,cond_false]
 by_cases k1:c.1=1
 ·rw [show(c.1==ofNat 1)=true by rw [k1];rfl,cond_true]
  exact bQ _ (fun f=>aai h hr hR hE c hcl (f (decide_eq_true (by rw [k1];decide))) k1) ⟨_,_,E 9,Eg 8⟩
 rw [show(c.1==ofNat 1)=false by simpa using k1,cond_false]
 by_cases k2:c.1=2
 ·rw [show(c.1==ofNat 2)=true by rw [k2];rfl,cond_true]
  exact bQ _ (fun f=>aae h hr hR hE c (f (decide_eq_true (by rw [k2];decide))) k2) ⟨_,_,E 9,Eg 8⟩
 rw [show(c.1==ofNat 2)=false by simpa using k2,cond_false]
 by_cases k3:c.1=3
 ·rw [show(c.1==ofNat 3)=true by rw [k3];rfl,cond_true]
  exact bQ _ (fun f=>ZO h hr hR hE c (f (decide_eq_true (by rw [k3];decide))) k3) ⟨_,_,E 9,Eg 8⟩
 rw [show(c.1==ofNat 3)=false by simpa using k3,cond_false]
 by_cases k4:c.1=4
 ·rw [show(c.1==ofNat 4)=true by rw [k4];rfl,cond_true]
  exact bQ _ (fun f=>ZK h hr hR hE c (f (decide_eq_true (by rw [k4];decide))) k4) ⟨_,_,E 9,Eg 8⟩
 rw [show(c.1==ofNat 4)=false by simpa using k4,cond_false]
 by_cases k5:c.1=5
 ·rw [show(c.1==ofNat 5)=true by rw [k5];rfl,cond_true]
  exact bQ _ (fun f=>aaa h hr hR hE c (f (decide_eq_true (by rw [k5];decide))) k5) ⟨_,_,E 9,Eg 8⟩
 rw [show(c.1==ofNat 5)=false by simpa using k5,cond_false]
 by_cases k6:c.1=6
 ·rw [show(c.1==ofNat 6)=true by rw [k6];rfl,cond_true]
  exact bQ _ (fun f=>ZG h hr hR hE c (f (decide_eq_true (by rw [k6];decide))) k6) ⟨_,_,E 9,Eg 8⟩
 rw [show(c.1==ofNat 6)=false by simpa using k6,cond_false]
 by_cases k7:c.1=7
 ·rw [show(c.1==ofNat 7)=true by rw [k7];rfl,cond_true]
  exact bQ _ (fun f=>aam h hr hR hE c (f (decide_eq_true (by rw [k7];decide))) k7) ⟨_,_,E 9,Eg 8⟩
 rw [show(c.1==ofNat 7)=false by simpa using k7,cond_false]
 by_cases k8:c.1=8
 ·rw [show(c.1==ofNat 8)=true by rw [k8];rfl,cond_true]
  exact bQ _ (fun f=>ZS h hr hR hE c k8) ⟨_,_,E 9,Eg 8⟩
 rw [show(c.1==ofNat 8)=false by simpa using k8,cond_false]
 by_cases k9:c.1=9
 ·rw [show(c.1==ofNat 9)=true by rw [k9];rfl,cond_true]
  exact bQ _ (fun f=>ZW h hr hR hE c k9) ⟨_,_,E 9,Eg 8⟩
 rw [show(c.1==ofNat 9)=false by simpa using k9,cond_false]
 by_cases k10:c.1=10
 ·rw [show(c.1==ofNat 10)=true by rw [k10];rfl,cond_true]
  exact bQ _ (fun f=>Tt h hr hR hE c k10) ⟨_,_,E 9,Eg 8⟩
 rw [show(c.1==ofNat 10)=false by simpa using k10,cond_false]
 exact⟨_,_,E 2,Eg 1⟩
theorem ag1 {ck nr nt nk ne ac:Int} {rs:List am} (h:SOk (mk ck nr nt nk ne ac rs [])) (hr:∀r∈rs,bK r) (hR:isEmpty rs=false) (c:bo) (hcl:∀nd∈c.2.2.1.1,nd.1.length≤9223372036854775807):
  ∃t r,Ba ((mk ck nr nt nk ne ac rs []),c,())=some (t,r,())∧bC ck nr nt nk ne ac rs [] c t r:=by
 obtain⟨v,hv,hc⟩:=lf (mk ck nr nt nk ne ac rs []) (by have:=h.fine.1;simp only [mk]at this⊢;omega) hr
 obtain rfl:v=0:=by
  rcases hc with⟨h1,_⟩|⟨_,hc⟩
  ·exact h1
  ·exact absurd h hc
 have E:=oH h hR
 have Eg:=fun n=>aw (c:=c) h n
 simp only [Ba,hv,bind_some,pj,cond_false]
 by_cases k1:c.1=1
 ·rw [show(c.1==ofNat 1)=true by rw [k1];rfl,cond_true]
  exact bQ _ (fun f=>aaj h hr hR c hcl (f (decide_eq_true (by rw [k1];decide))) k1) ⟨_,_,E 9,Eg 8⟩
 rw [show(c.1==ofNat 1)=false by simpa using k1,cond_false]
 by_cases k2:c.1=2
 ·rw [show(c.1==ofNat 2)=true by rw [k2];rfl,cond_true]
  exact bQ _ (fun f=>aaf h hr hR c (f (decide_eq_true (by rw [k2];decide))) k2) ⟨_,_,E 9,Eg 8⟩
 rw [show(c.1==ofNat 2)=false by simpa using k2,cond_false]
 by_cases k3:c.1=3
 ·rw [show(c.1==ofNat 3)=true by rw [k3];rfl,cond_true]
  exact bQ _ (fun f=>ZP h hr hR c (f (decide_eq_true (by rw [k3];decide))) k3) ⟨_,_,E 9,Eg 8⟩
 rw [show(c.1==ofNat 3)=false by simpa using k3,cond_false]
 by_cases k4:c.1=4
 ·rw [show(c.1==ofNat 4)=true by rw [k4];rfl,cond_true]
  exact bQ _ (fun f=>ZL h hr hR c (f (decide_eq_true (by rw [k4];decide))) k4) ⟨_,_,E 9,Eg 8⟩
 rw [show(c.1==ofNat 4)=false by simpa using k4,cond_false]
 by_cases k5:c.1=5
 ·rw [show(c.1==ofNat 5)=true by rw [k5];rfl,cond_true]
  exact bQ _ (fun f=>aab h hr hR c (f (decide_eq_true (by rw [k5];decide))) k5) ⟨_,_,E 9,Eg 8⟩
 rw [show(c.1==ofNat 5)=false by simpa using k5,cond_false]
 by_cases k6:c.1=6
 ·rw [show(c.1==ofNat 6)=true by rw [k6];rfl,cond_true]
  exact bQ _ (fun f=>ZH h hr hR c (f (decide_eq_true (by rw [k6];decide))) k6) ⟨_,_,E 9,Eg 8⟩
 rw [show(c.1==ofNat 6)=false by simpa using k6,cond_false]
 by_cases k7:c.1=7
 ·rw [show(c.1==ofNat 7)=true by rw [k7];rfl,cond_true]
  exact bQ _ (fun f=>aan h hr hR c (f (decide_eq_true (by rw [k7];decide))) k7) ⟨_,_,E 9,Eg 8⟩
 rw [show(c.1==ofNat 7)=false by simpa using k7,cond_false]
 by_cases k8:c.1=8
 ·rw [show(c.1==ofNat 8)=true by rw [k8];rfl,cond_true]
  exact bQ _ (fun f=>ZT h hr hR c k8) ⟨_,_,E 9,Eg 8⟩
 rw [show(c.1==ofNat 8)=false by simpa using k8,cond_false]
 by_cases k9:c.1=9
 ·rw [show(c.1==ofNat 9)=true by rw [k9];rfl,cond_true]
  exact bQ _ (fun f=>ZX h hr hR c k9) ⟨_,_,E 9,Eg 8⟩
 rw [show(c.1==ofNat 9)=false by simpa using k9,cond_false]
 by_cases k10:c.1=10
 ·rw [show(c.1==ofNat 10)=true by rw [k10];rfl,cond_true]
  exact bQ _ (fun f=>Tu h hr hR c k10) ⟨_,_,E 9,Eg 8⟩
 rw [show(c.1==ofNat 10)=false by simpa using k10,cond_false]
 exact⟨_,_,E 2,Eg 1⟩
theorem ag2 {ck nr nt nk ne ac:Int} {es:List aO} (h:SOk (mk ck nr nt nk ne ac [] es)) (hr:∀r∈([]:List am),bK r) (hE:isEmpty es=false) (c:bo) (hcl:∀nd∈c.2.2.1.1,nd.1.length≤9223372036854775807):
  ∃t r,Bd ((mk ck nr nt nk ne ac [] es),c,())=some (t,r,())∧bC ck nr nt nk ne ac [] es c t r:=by
 obtain⟨v,hv,hc⟩:=lf (mk ck nr nt nk ne ac [] es) (by have:=h.fine.1;simp only [mk]at this⊢;omega) hr
 obtain rfl:v=0:=by
  rcases hc with⟨h1,_⟩|⟨_,hc⟩
  ·exact h1
  ·exact absurd h hc
 have E:=oI h hE
 have Eg:=fun n=>aw (c:=c) h n
 simp only [Bd,hv,bind_some,pj,cond_false]
 by_cases k1:c.1=1
 ·rw [show(c.1==ofNat 1)=true by rw [k1];rfl,cond_true]
  exact bQ _ (fun f=>aak h hr hE c hcl (f (decide_eq_true (by rw [k1];decide))) k1) ⟨_,_,E 9,Eg 8⟩
 rw [show(c.1==ofNat 1)=false by simpa using k1,cond_false]
 by_cases k2:c.1=2
 ·rw [show(c.1==ofNat 2)=true by rw [k2];rfl,cond_true]
  exact bQ _ (fun f=>aag h hr hE c (f (decide_eq_true (by rw [k2];decide))) k2) ⟨_,_,E 9,Eg 8⟩
 rw [show(c.1==ofNat 2)=false by simpa using k2,cond_false]
 by_cases k3:c.1=3
 ·rw [show(c.1==ofNat 3)=true by rw [k3];rfl,cond_true]
  exact bQ _ (fun f=>ZQ h hr hE c (f (decide_eq_true (by rw [k3];decide))) k3) ⟨_,_,E 9,Eg 8⟩
 rw [show(c.1==ofNat 3)=false by simpa using k3,cond_false]
 by_cases k4:c.1=4
 ·rw [show(c.1==ofNat 4)=true by rw [k4];rfl,cond_true]
  exact bQ _ (fun f=>ZM h hr hE c (f (decide_eq_true (by rw [k4];decide))) k4) ⟨_,_,E 9,Eg 8⟩
 rw [show(c.1==ofNat 4)=false by simpa using k4,cond_false]
 by_cases k5:c.1=5
 ·rw [show(c.1==ofNat 5)=true by rw [k5];rfl,cond_true]
  exact bQ _ (fun f=>aac h hr hE c (f (decide_eq_true (by rw [k5];decide))) k5) ⟨_,_,E 9,Eg 8⟩
 rw [show(c.1==ofNat 5)=false by simpa using k5,cond_false]
 by_cases k6:c.1=6
 ·rw [show(c.1==ofNat 6)=true by rw [k6];rfl,cond_true]
  exact bQ _ (fun f=>ZI h hr hE c (f (decide_eq_true (by rw [k6];decide))) k6) ⟨_,_,E 9,Eg 8⟩
 rw [show(c.1==ofNat 6)=false by simpa using k6,cond_false]
 by_cases k7:c.1=7
 ·rw [show(c.1==ofNat 7)=true by rw [k7];rfl,cond_true]
  exact bQ _ (fun f=>aao h hr hE c (f (decide_eq_true (by rw [k7];decide))) k7) ⟨_,_,E 9,Eg 8⟩
 rw [show(c.1==ofNat 7)=false by simpa using k7,cond_false]
 by_cases k8:c.1=8
 ·rw [show(c.1==ofNat 8)=true by rw [k8];rfl,cond_true]
  exact bQ _ (fun f=>ZU h hr hE c k8) ⟨_,_,E 9,Eg 8⟩
 rw [show(c.1==ofNat 8)=false by simpa using k8,cond_false]
 by_cases k9:c.1=9
 ·rw [show(c.1==ofNat 9)=true by rw [k9];rfl,cond_true]
  exact bQ _ (fun f=>ZY h hr hE c k9) ⟨_,_,E 9,Eg 8⟩
 rw [show(c.1==ofNat 9)=false by simpa using k9,cond_false]
 by_cases k10:c.1=10
 ·rw [show(c.1==ofNat 10)=true by rw [k10];rfl,cond_true]
  exact bQ _ (fun f=>Tv h hr hE c k10) ⟨_,_,E 9,Eg 8⟩
 rw [show(c.1==ofNat 10)=false by simpa using k10,cond_false]
 exact⟨_,_,E 2,Eg 1⟩
theorem ag3 {ck nr nt nk ne ac:Int} (h:SOk (mk ck nr nt nk ne ac [] [])) (hr:∀r∈([]:List am),bK r) (c:bo) (hcl:∀nd∈c.2.2.1.1,nd.1.length≤9223372036854775807):
  ∃t r,vx ((mk ck nr nt nk ne ac [] []),c,())=some (t,r,())∧bC ck nr nt nk ne ac [] [] c t r:=by
 obtain⟨v,hv,hc⟩:=lf (mk ck nr nt nk ne ac [] []) (by have:=h.fine.1;simp only [mk]at this⊢;omega) hr
 obtain rfl:v=0:=by
  rcases hc with⟨h1,_⟩|⟨_,hc⟩
  ·exact h1
  ·exact absurd h hc
 have E:=oJ h
 have Eg:=fun n=>aw (c:=c) h n
 simp only [vx,hv,bind_some,pj,cond_false]
 by_cases k1:c.1=1
 ·rw [show(c.1==ofNat 1)=true by rw [k1];rfl,cond_true]
  exact bQ _ (fun f=>aal h hr c hcl (f (decide_eq_true (by rw [k1];decide))) k1) ⟨_,_,E 9,Eg 8⟩
 rw [show(c.1==ofNat 1)=false by simpa using k1,cond_false]
 by_cases k2:c.1=2
 ·rw [show(c.1==ofNat 2)=true by rw [k2];rfl,cond_true]
  exact bQ _ (fun f=>aah h hr c (f (decide_eq_true (by rw [k2];decide))) k2) ⟨_,_,E 9,Eg 8⟩
 rw [show(c.1==ofNat 2)=false by simpa using k2,cond_false]
 by_cases k3:c.1=3
 ·rw [show(c.1==ofNat 3)=true by rw [k3];rfl,cond_true]
  exact bQ _ (fun f=>ZR h hr c (f (decide_eq_true (by rw [k3];decide))) k3) ⟨_,_,E 9,Eg 8⟩
 rw [show(c.1==ofNat 3)=false by simpa using k3,cond_false]
 by_cases k4:c.1=4
 ·rw [show(c.1==ofNat 4)=true by rw [k4];rfl,cond_true]
  exact bQ _ (fun f=>ZN h hr c (f (decide_eq_true (by rw [k4];decide))) k4) ⟨_,_,E 9,Eg 8⟩
 rw [show(c.1==ofNat 4)=false by simpa using k4,cond_false]
 by_cases k5:c.1=5
 ·rw [show(c.1==ofNat 5)=true by rw [k5];rfl,cond_true]
  exact bQ _ (fun f=>aad h hr c (f (decide_eq_true (by rw [k5];decide))) k5) ⟨_,_,E 9,Eg 8⟩
 rw [show(c.1==ofNat 5)=false by simpa using k5,cond_false]
 by_cases k6:c.1=6
 ·rw [show(c.1==ofNat 6)=true by rw [k6];rfl,cond_true]
  exact bQ _ (fun f=>ZJ h hr c (f (decide_eq_true (by rw [k6];decide))) k6) ⟨_,_,E 9,Eg 8⟩
 rw [show(c.1==ofNat 6)=false by simpa using k6,cond_false]
 by_cases k7:c.1=7
 ·rw [show(c.1==ofNat 7)=true by rw [k7];rfl,cond_true]
  exact bQ _ (fun f=>aap h hr c (f (decide_eq_true (by rw [k7];decide))) k7) ⟨_,_,E 9,Eg 8⟩
 rw [show(c.1==ofNat 7)=false by simpa using k7,cond_false]
 by_cases k8:c.1=8
 ·rw [show(c.1==ofNat 8)=true by rw [k8];rfl,cond_true]
  exact bQ _ (fun f=>ZV h hr c k8) ⟨_,_,E 9,Eg 8⟩
 rw [show(c.1==ofNat 8)=false by simpa using k8,cond_false]
 by_cases k9:c.1=9
 ·rw [show(c.1==ofNat 9)=true by rw [k9];rfl,cond_true]
  exact bQ _ (fun f=>ZZ h hr c k9) ⟨_,_,E 9,Eg 8⟩
 rw [show(c.1==ofNat 9)=false by simpa using k9,cond_false]
 by_cases k10:c.1=10
 ·rw [show(c.1==ofNat 10)=true by rw [k10];rfl,cond_true]
  exact bQ _ (fun f=>Tw h hr c k10) ⟨_,_,E 9,Eg 8⟩
 rw [show(c.1==ofNat 10)=false by simpa using k10,cond_false]
 exact⟨_,_,E 2,Eg 1⟩
abbrev zS:cg:=(ofNat 0,ofNat 0,ofNat 0,ofNat 0,ofNat 0,ofNat 0,[],[],())
theorem ada (s:cg) (c:bo) (hm:s.2.2.2.2.2.2.1.length≤9223372036854775807) (hr:∀r∈s.2.2.2.2.2.2.1,bK r) (hcl:∀nd∈c.2.2.1.1,nd.1.length≤9223372036854775807):
  ∃v,mB (s,())=some (v,())∧∃t r,jB (s,c,())=some (t,r,())∧((v=0∧SOk s∧bC s.1 s.2.1 s.2.2.1 s.2.2.2.1 s.2.2.2.2.1 s.2.2.2.2.2.1 s.2.2.2.2.2.2.1 s.2.2.2.2.2.2.2.1 c t r)∨((∃n:Nat,v=ofNat (n+1))∧¬SOk s∧t=zS∧r=mw v)):=by
 obtain⟨v,hv,hc⟩:=lf s hm hr
 refine⟨v,hv,?_⟩
 rcases hc with⟨rfl,h⟩|⟨⟨n,rfl⟩,h⟩
 ·have:∃t r,jB (s,c,())=some (t,r,())∧bC s.1 s.2.1 s.2.2.1 s.2.2.2.1 s.2.2.2.2.1 s.2.2.2.2.2.1 s.2.2.2.2.2.2.1 s.2.2.2.2.2.2.2.1 c t r:=by
   obtain⟨ck,nr,nt,nk,ne,ac,rs,es,_⟩:=s
   cases rs with
   |nil=>
    cases es with
    |nil=>exact ag3 h hr c hcl
    |cons e es=>exact ag2 h hr rfl c hcl
   |cons r rs=>
    cases es with
    |nil=>exact ag1 h hr rfl c hcl
    |cons e es=>exact ag0 h hr rfl rfl c hcl
  obtain⟨t,r,h1,h2⟩:=this
  exact⟨t,r,h1,.inl ⟨rfl,h,h2⟩⟩
 ·have c0:(ofNat (n+1) !=ofNat 0)=true:=by simp;omega
  refine⟨zS,mw (ofNat (n+1)),?_,.inr ⟨⟨n,rfl⟩,h,rfl,rfl⟩⟩
  have ha:pJ (s,c,())=some (zS,mw (ofNat (n+1)),()):=by simp only [pJ,hv,bind_some,c0,cond_true]
  have hb:Ba (s,c,())=some (zS,mw (ofNat (n+1)),()):=by simp only [Ba,hv,bind_some,c0,cond_true]
  have hcc:Bd (s,c,())=some (zS,mw (ofNat (n+1)),()):=by simp only [Bd,hv,bind_some,c0,cond_true]
  have hd:vx (s,c,())=some (zS,mw (ofNat (n+1)),()):=by simp only [vx,hv,bind_some,c0,cond_true]
  simp only [jB,ha,hb,hcc,hd]
  cases isEmpty s.2.2.2.2.2.2.1<;>cases isEmpty s.2.2.2.2.2.2.2.1<;>rfl
abbrev vM:cg:=(ofNat 0,ofNat 0,ofNat 1,ofNat 0,ofNat 1,ofNat 0,[],[],())
abbrev n1:aR:=([],ofNat 2,ofNat 3,())
abbrev ky:ByteArray:={data:= #[97]}
abbrev u1:aq:=(ofNat 1,ofNat 0,ofNat 0,ofNat 0,ofNat 0,())
abbrev u2:aq:=(ofNat 2,ofNat 1,ofNat 10,ofNat 1,ofNat 0,())
abbrev rn (t:aq):am:=(ofNat 0,ky,([n1],()),ofNat 1,[t],())
abbrev ev1:aO:=(ofNat 1,ofNat 1,ofNat 0,ofNat 0,())
abbrev jO (nt:Int) (t:aq):cg:=mk (ofNat 0) (ofNat 1) nt (ofNat 1) (ofNat 2) (ofNat 0) [rn t] [ev1]
abbrev qn:bo:=(ofNat 1,{data:= #[97]},([n1],()),ofNat 0,ofNat 0,ofNat 0,ofNat 0,ofNat 0,())
abbrev HH:bo:=(ofNat 2,{data:= #[]},([],()),ofNat 0,ofNat 0,ofNat 0,ofNat 10,ofNat 0,())
theorem in1:bX (ofNat 1):=by decide
theorem vN {i:Nat} (h:i<1):i=0:=by omega
theorem nd1:ep n1:=by constructor<;>constructor<;>decide
theorem Oz:ub [n1]:=by
 refine⟨⟨by decide,by decide⟩,fun i h=> ?_,fun i h hr=> ?_⟩
 ·obtain rfl:=vN h
  exact⟨by constructor<;>decide,by constructor<;>decide,fun j h=>absurd h (not_lt_zero _)⟩
 ·have:∀{a b:Nat},¬xa [n1] a b:=fun {a b} ⟨h1,h2⟩=>by
   obtain rfl:=vN h1
   exact(not_mem_nil h2).elim
  rcases hr with h|⟨h,_⟩
  ·exact this h
  ·exact this h
theorem qz:cH n1 u1:=by
 refine⟨by decide,by decide,by decide,by decide,fun _=>rfl,fun h=>absurd rfl h,⟨fun h=>absurd rfl h,fun h=>absurd h (by decide)⟩,.inr (.inl ⟨rfl,by decide⟩)⟩
theorem Gg:cH n1 u2:=by
 refine⟨by decide,by decide,by decide,by decide,fun h=>absurd rfl h,fun _=>.inl rfl,⟨fun _=>rfl,fun _=>by decide⟩,.inr (.inr (.inl ⟨rfl,by decide⟩))⟩
theorem aaq {t:aq} (ht:cH n1 t) (h:t.1=1∨t.1=2):ROk (rn t):=by
 refine⟨ga,show 1≤ky.size∧ky.size≤24 by decide,Oz,rfl,fun i h=> ?_,.inl ⟨rfl,fun i h=> ?_,fun h4=> ?_,fun⟨x,hx,h4⟩=> ?_⟩⟩
 ·obtain rfl:=vN h
  exact ht
 ·obtain rfl:=vN h
  exact⟨fun _=>by show t.1≠0;omega,fun _ v hv=>(not_mem_nil hv).elim⟩
 ·have:=h4 t (List.mem_singleton.2 rfl);omega
 ·rw [List.mem_singleton.1 hx]at h4;omega
theorem aar {t:aq} (h:0≤t.1):∀r∈ [rn t],bK r:=fun r hr=>by
 rw [List.mem_singleton.1 hr]
 exact⟨fun nd hnd=>by rw [List.mem_singleton.1 hnd];decide,show 1≤9223372036854775807 by decide,fun x hx=>by rw [List.mem_singleton.1 hx];exact h⟩
theorem adb {t:aq} (ht:cH n1 t) (h:t.1=1∨t.1=2):eP [rn t]:=
 ⟨show 1≤32 by decide,fun a b h1 h2=>by have:=vN h2;omega,fun a b h1 h2=>by have:=vN h2;omega,fun a h1=>by
  obtain rfl:=vN h1
  exact aaq ht h,List.pairwise_singleton _ _⟩
theorem aas {nt:Int} {t:aq} (hn:1≤nt∧nt≤1099511627776) (ht:cH n1 t) (h:t.1=1∨t.1=2) (hl:cP nt 1 t):SOk (jO nt t):=
 ⟨adb ht h,show 1≤40 by decide,ga,in1,in1,hn,show 1≤ofNat 2∧ofNat 2≤1099511627776 by decide,show 0≤ofNat 0∧ofNat 0<ofNat 2 by decide,rfl,fun j hj=>by
  obtain rfl:=vN hj
  exact⟨by show(ofNat 0)<ofNat 1;decide,fun x hx=>by rw [List.mem_singleton.1 hx];exact hl⟩,fun j hj=>by
  obtain rfl:=vN hj
  exact⟨rfl,show 1≤ofNat 1∧ofNat 1≤6 by decide,show 0≤ofNat 0∧ofNat 0<ofNat 1 by decide,show 0≤ofNat 0∧ofNat 0<12 by decide,.inl rfl⟩⟩
theorem sok0:SOk vM:=
 ⟨⟨by decide,fun a b h1 h2=>absurd h2 (not_lt_zero _),fun a b h1 h2=>absurd h2 (not_lt_zero _),fun a h1=>absurd h1 (not_lt_zero _),.nil⟩,by decide,by decide,by decide,by decide,by decide,by decide,by decide,rfl,fun j hj=>absurd hj (not_lt_zero _),fun j hj=>absurd hj (not_lt_zero _)⟩
theorem Kj {s:cg} (h:SOk s) (hm:s.2.2.2.2.2.2.1.length≤9223372036854775807) (hr:∀r∈s.2.2.2.2.2.2.1,bK r):mB (s,())=some (0,()):=by
 obtain⟨v,hv,hc⟩:=lf s hm hr
 rcases hc with⟨rfl,_⟩|⟨_,hc⟩
 ·exact hv
 ·exact absurd h hc
theorem do1:jB (vM,qn,())=some (jO (ofNat 1) u1,(ofNat 0,ofNat 0,ofNat 0,ofNat 0,aP,[],()),()):=by
 have hc:=Kj sok0 (show 0≤9223372036854775807 by decide) (fun r h=>(not_mem_nil h).elim)
 have Fu:qd (vM,())=some (false,()):=rfl
 have h25:cD (vM,())=some (vM,()):=bg sok0
 have hln:∀nd∈ [n1],nd.1.length≤9223372036854775807:=fun nd h=>by rw [List.mem_singleton.1 h];decide
 have pL:jl (([n1],()),())=some (0,()):=by
  obtain⟨v,hv,h⟩:=f114 [n1] hln
  rcases h with⟨rfl,_⟩|⟨_,h⟩
  ·exact hv
  ·exact absurd Oz h
 have Bn:∃i,oe ([],ky,())=some (i,false,0,()):=by
  obtain⟨i,b,e,hv,h⟩:=oC [] (show 0≤9223372036854775807 by decide) (fun r h=>(not_mem_nil h).elim) ky
  rcases h with⟨_,_,h⟩|⟨rfl,_,⟨_,n,h,_⟩|⟨rfl,_⟩⟩
  ·exact absurd sok0.fine h
  ·exact absurd h (not_lt_zero _)
  ·exact⟨i,hv⟩
 obtain⟨i,Bn⟩:=Bn
 have JL:rM (ofNat 0,ky,([n1],()),ofNat 0,())=some (rn u1,ofNat 1,0,()):=by
  obtain⟨r',rk',e,hv,h⟩:=FY (ofNat 0) ky [n1] hln (ofNat 0)
  rcases h with⟨rfl,_,_,_,_,rfl,rfl⟩|⟨_,h⟩
  ·have ho:opn [n1] (ofNat 0,replicate [n1].length t0) [n1].length=(ofNat 1,[u1]):=by
    show opn [n1] (ofNat 0,[t0]) (0+1)=_
    have hm:gL [t0] n1:=fun v h=>(not_mem_nil h).elim
    have ht:cH n1 t0:=⟨by decide,by decide,by decide,by decide,fun h=>absurd rfl h,fun h=>absurd rfl h,⟨fun h=>absurd rfl h,fun h=>absurd h (by decide)⟩,.inl ⟨rfl,rfl⟩⟩
    rw [opn,if_pos ⟨rfl,hm⟩,if_pos ⟨ga,ht⟩]
    rfl
   rw [hv,ho]
  ·exact absurd ⟨ga,by decide,Oz,by decide,by decide⟩ h
 have hF:jB (vM,qn,())=vx (vM,qn,()):=rfl
 rw [hF]
 simp only [vx,hc,bind_some,pj,cond_false,beq_self_eq_true,cond_true,Fu]
 have h115':oe ([],{data:= #[97]},())=some (i,false,0,()):=Bn
 simp only [vw,h25,bind_some,isEmpty_nil,cond_true,cond_false,decide_eq_false (show¬((ByteArray.size {data:= #[97]}:Nat):Int)<ofNat 1 by decide),decide_eq_false (show¬((ByteArray.size {data:= #[97]}:Nat):Int)>ofNat 24 by decide),pL,cM,h115',JL,bp,bW]
 rfl
theorem do2:jB (jO (ofNat 1) u1,HH,())=some (jO (ofNat 2) u2,(ofNat 0,ofNat 0,ofNat 0,ofNat 1,aP,[],()),()):=by
 have hr:=aar (t:=u1) (by decide)
 have hs:SOk (jO (ofNat 1) u1):=aas (by decide) qz (.inl rfl) ⟨by decide,fun _=>by decide⟩
 have hc:=Kj hs (show 1≤9223372036854775807 by decide) hr
 have Fu:qd (jO (ofNat 1) u1,())=some (false,()):=rfl
 have h25:=bg hs
 have Fr:ki (ofNat 10,())=some (true,()):=rfl
 have xS:om ([rn u1],())=some ((ofNat 0,ofNat 0,ofNat 0,()),true,0,()):=by
  obtain⟨p,b,e,hv,h⟩:=mW [rn u1] (show 1≤9223372036854775807 by decide) hr
  rcases h with⟨_,_,h⟩|⟨rfl,_,rfl,rfl,_⟩
  ·exact absurd hs.fine h
  ·exact hv
 have JY:cF ([rn u1],ofNat 0,())=some (ofNat 0,true,0,()):=by
  obtain⟨i,b,e,hv,h⟩:=bY [rn u1] (show 1≤9223372036854775807 by decide) hr (ofNat 0)
  rcases h with⟨_,_,h⟩|⟨rfl,_,⟨rfl,n,rfl,h,_⟩|⟨_,h⟩⟩
  ·exact absurd hs.fine h
  ·obtain rfl:=vN h
   exact hv
  ·exact absurd rfl (h 0 (by decide))
 have Ka:xK (rn u1,ofNat 0,ofNat 1,ofNat 10,())=some (rn u2,0,()):=by
  obtain⟨r',e',hv,h⟩:=mX (rn u1) (hr _ (List.mem_singleton.2 rfl)) (ofNat 0) (fun nd t=>uZ (nd,t,ofNat 1,ofNat 10,())) (fun nd t h1 h2 h3=>Bt (f167 nd t (ofNat 1) (ofNat 10) h1 h2) fun _=>natCast_nonneg 2)
  rw [←FX]at hv
  have h167:uZ (n1,u1,ofNat 1,ofNat 10,())=some (u2,0,()):=by
   rcases f167 n1 u1 (ofNat 1) (ofNat 10) nd1 (by decide)with⟨_,h⟩|⟨h,_⟩
   ·exact h
   ·exact absurd ⟨by decide,by decide,by decide,qz,rfl⟩ h
  rcases h with⟨rfl,_,_,k,t',hk,hkl,hD,ht⟩|⟨_,_,h⟩
  ·obtain rfl:=vN hkl
   have h2:some (u2,(0:Int),())=some (t',0,()):=h167.symm.trans hD
   obtain rfl:u2=t':=by injection h2 with h2;exact(Prod.mk.inj h2).1
   obtain⟨i1,i2,i3,_,_,i4⟩:=ht
   rcases i4 with⟨h5,_⟩|⟨_,i5,⟨h4,_⟩|⟨_,i6⟩⟩
   ·exact absurd h5 (by decide)
   ·exact absurd (h4 u2 (List.mem_singleton.2 rfl)) (by decide)
   ·obtain⟨q1,q2,q3,q4,q5,_⟩:=r'
    simp only at i1 i2 i3 i5 i6
    subst i1 i2 i3 i5 i6
    exact hv
  ·exact absurd ⟨aaq qz (.inl rfl),rfl,0,u2,rfl,by decide,h167⟩ h
 have hF:jB (jO (ofNat 1) u1,HH,())=pJ (jO (ofNat 1) u1,HH,()):=rfl
 rw [hF]
 simp only [pJ,hc,bind_some,pj,cond_false,show(ofNat 2==ofNat 1)=false from rfl,beq_self_eq_true,cond_true,Fu]
 simp only [jO,mk]at h25
 simp only [qm,jO,mk,h25,bind_some,isEmpty_cons,cond_true,cond_false,Fr,Bool.not_true,length_singleton,zero_add,Nat.le_refl,decide_true,bp,xS,JY]
 show Option.bind (xK (rn u1,ofNat 0,ofNat 1,ofNat 10,())) _=_
 rw [Ka,bind_some]
 rfl
theorem do3:jB (jO (ofNat 2) u2,HH,())=some (jO (ofNat 2) u2,mw (ofNat 6),()):=by
 have hr:=aar (t:=u2) (by decide)
 have hs:SOk (jO (ofNat 2) u2):=aas (by decide) Gg (.inr rfl) ⟨by decide,fun h=>absurd h (by decide)⟩
 have hc:=Kj hs (show 1≤9223372036854775807 by decide) hr
 have Fu:qd (jO (ofNat 2) u2,())=some (false,()):=rfl
 have h25:=bg hs
 have Fr:ki (ofNat 10,())=some (true,()):=rfl
 have xS:om ([rn u2],())=some ((ofNat 0,ofNat 0,ofNat 0,()),false,0,()):=by
  obtain⟨p,b,e,hv,h⟩:=mW [rn u2] (show 1≤9223372036854775807 by decide) hr
  rcases h with⟨_,_,h⟩|⟨rfl,_,rfl,rfl,_⟩
  ·exact absurd hs.fine h
  ·exact hv
 have hF:jB (jO (ofNat 2) u2,HH,())=pJ (jO (ofNat 2) u2,HH,()):=rfl
 have E:=my hs rfl rfl (ofNat 6)
 rw [hF]
 simp only [pJ,hc,bind_some,pj,cond_false,show(ofNat 2==ofNat 1)=false from rfl,beq_self_eq_true,cond_true,Fu]
 simp only [jO,mk]at h25 E
 simp only [qm,jO,mk,h25,bind_some,isEmpty_cons,cond_true,cond_false,Fr,Bool.not_true,length_singleton,zero_add,Nat.le_refl,decide_true,bp,xS,Bool.not_false,E]
theorem alive:PP ()=some (true,()):=by
 have Md:Ma ()=some (vM,()):=rfl
 have Wv:Wo ()=some (([n1],()),()):=rfl
 have Zt:PO ()=some (jO (ofNat 1) u1,true,()):=by
  simp only [PO,Md,Wv,bind_some,do1]
  rfl
 simp only [PP,Zt,bind_some,do2,do3]
 rfl
abbrev Sp:=Int×ByteArray×(List aR×Unit)×Unit
abbrev Hd:=Int×Int×Int×Int×Bool×Unit
def ug (t t':aq):Prop:=t'.2.1=t.2.1∧(t'.1=4↔t.1=4)∧(t'.1=2→t.1=2∧dx t'=dx t)
theorem na (t:aq):ug t t:=⟨rfl,Iff.rfl,fun h=>⟨h,rfl⟩⟩
theorem Gh {a b c:aq} (h1:ug a b) (h2:ug b c):ug a c:=⟨h2.1.trans h1.1,h2.2.1.trans h1.2.1,fun h=>by
 obtain⟨h3,h4⟩:=h2.2.2 h
 obtain⟨h5,h6⟩:=h1.2.2 h3
 exact⟨h5,h4.trans h6⟩⟩
structure EvR (r r':am):Prop where
 id:r'.1=r.1
 key:r'.2.1=r.2.1
 ns:r'.2.2.1=r.2.2.1
 len:r'.2.2.2.2.1.length=r.2.2.2.2.1.length
 tks:∀j:Nat,j<r.2.2.2.2.1.length→ug (bN r j) (bN r' j)
structure EvS (rs R:List am):Prop where
 len:R.length=rs.length
 is:∀a:Nat,a<rs.length→EvR (rs.getD a (aa ae)) (R.getD a (aa ae))
theorem OA (r:am):EvR r r:=⟨rfl,rfl,rfl,rfl,fun _ _=>na _⟩
theorem iF (rs:List am):EvS rs rs:=⟨rfl,fun _ _=>OA _⟩
theorem My {a b c:am} (h1:EvR a b) (h2:EvR b c):EvR a c:=⟨h2.id.trans h1.id,h2.key.trans h1.key,h2.ns.trans h1.ns,h2.len.trans h1.len,fun j hj=>Gh (h1.tks j hj) (h2.tks j (by rw [h1.len];exact hj))⟩
theorem qK {rs R:List am} (h:EvS rs R) {n:Nat} (hn:n<R.length) {r':am} (hr:EvR (R.getD n (aa ae)) r'):EvS rs (R.set n r'):=by
 refine⟨by rw [length_set];exact h.len,fun a ha=> ?_⟩
 rw [cz hn]
 split
 ·rename_i c
  subst c
  exact My (h.is _ ha) hr
 ·exact h.is a ha
theorem Mz {ns:List aR} {ts ts':List aq} (h:iv ns ts ts') (j:Nat) (hj:j<ts.length):ug (ts.getD j (aa ab)) (ts'.getD j (aa ab)):=by
 rcases h.2 j hj with⟨_,h2⟩|⟨hd,h2⟩
 ·rw [h2];exact na _
 ·rw [h2]
  exact⟨rfl,⟨fun h=>absurd h (bG rfl),fun h=>absurd h hd.2.1⟩,fun h=>absurd h (bG rfl)⟩
theorem MA {ts:List aq} {k:Nat} (hk:k<ts.length) {t':aq} (h:ug (ts.getD k (aa ab)) t') (j:Nat):ug (ts.getD j (aa ab)) ((ts.set k t').getD j (aa ab)):=by
 rw [bq hk]
 split
 ·rename_i c;rw [c];exact h
 ·exact na _
theorem wD {r r':am} {k:Nat} {t':aq} (hk:k<r.2.2.2.2.1.length) (hT:Turn r k t' r') (h:ug (bN r k) t'):EvR r r':=by
 refine⟨hT.id,hT.key,hT.ns,hT.len,fun j hj=> ?_⟩
 rcases hT.how with⟨_,_,hd⟩|⟨_,he,_⟩
 ·exact Gh (MA hk h j) (Mz hd j (by rw [length_set];exact hj))
 ·simp only [bN,he]
  exact MA hk h j
theorem Rz {nd:aR} {t t':aq} {now:Int} (h2:t.1=2) (hf:vH nd t now t'):ug t t':=by
 rcases hf with⟨_,rfl⟩|⟨_,u,_,rfl⟩
 ·exact⟨rfl,⟨fun h=>absurd h (bG rfl),fun h=>by omega⟩,fun h=>absurd h (bG rfl)⟩
 ·exact⟨rfl,⟨fun h=>absurd h (bG rfl),fun h=>by omega⟩,fun h=>absurd h (bG rfl)⟩
theorem MB {now:Int} {P:List cr} {x:uc}:∀(i:Nat) (y:uc),TkN now P x i y→EvS x.2.1 y.2.1
 |_,_,.zero=>iF _
 |_,z,.step i y _ hy h=>by
  have q:=MB i y hy
  cases h with
  |skip d R nk ne w h=>exact q
  |wake d R nk ne w n k r' hn hid hp hk hd h3 hT=>exact qK q hn (wD hk hT ⟨rfl,⟨fun h=>absurd h (bG rfl),fun h=>by simp only [bN]at h;simp only [aQ]at h3;omega⟩,fun h=>absurd h (bG rfl)⟩)
  |lapse d R nk ne w n k t' r' hn hid hp hk hd h2 hf hT=>exact qK q hn (wD hk hT (Rz h2 hf))
structure HdOk (nt:Int) (t:aq) (e:Hd):Prop where
 times:e.2.2.2.1=t.2.1
 pos:1≤t.2.1
 done:e.2.2.2.2.1=true↔t.1=4
 tk:t.1=2→e.2.2.1=dx t
 lt:e.2.2.1<nt
abbrev hz:Hd:=aa ai
abbrev ee:Sp:=aa bf
structure Lz (rs:List am) (nt:Int) (runs:List Sp) (out:List Hd):Prop where
 len:runs.length=rs.length
 is:∀a:Nat,a<rs.length→(runs.getD a ee).1=(rs.getD a (aa ae)).1∧(runs.getD a ee).2.1=(rs.getD a (aa ae)).2.1∧(runs.getD a ee).2.2.1=(rs.getD a (aa ae)).2.2.1
 of:∀i:Nat,i<out.length→∃a k:Nat,a<rs.length∧k<(aQ rs a).length∧(out.getD i hz).1=(rs.getD a (aa ae)).1∧(out.getD i hz).2.1=(k:Int)∧HdOk nt ((aQ rs a).getD k (aa ab)) (out.getD i hz)
 un:∀i j:Nat,i<j→j<out.length→¬((out.getD i hz).1=(out.getD j hz).1∧(out.getD i hz).2.1=(out.getD j hz).2.1)
 all:∀a k:Nat,a<rs.length→k<(aQ rs a).length→1≤((aQ rs a).getD k (aa ab)).2.1→∃i:Nat,i<out.length∧(out.getD i hz).1=(rs.getD a (aa ae)).1∧(out.getD i hz).2.1=(k:Int)
theorem zY {rs R:List am} {nt nt':Int} {runs:List Sp} {out:List Hd} (h:Lz rs nt runs out) (hn:nt≤nt') (he:EvS rs R):Lz R nt' runs out:=by
 have hl:∀a:Nat,a<rs.length→(aQ R a).length=(aQ rs a).length:=fun a ha=>(he.is a ha).len
 refine⟨h.len.trans he.len.symm,fun a ha=> ?_,fun i hi=> ?_,h.un,fun a k ha hk hp=> ?_⟩
 ·rw [he.len]at ha
  obtain⟨h1,h2,h3⟩:=h.is a ha
  have e:=he.is a ha
  exact⟨h1.trans e.id.symm,h2.trans e.key.symm,h3.trans e.ns.symm⟩
 ·obtain⟨a,k,ha,hk,h1,h2,h3⟩:=h.of i hi
  have e:=he.is a ha
  have et:=e.tks k hk
  simp only [bN]at et
  refine⟨a,k,by rw [he.len];exact ha,by rw [hl a ha];exact hk,h1.trans e.id.symm,h2,?_⟩
  exact⟨h3.times.trans et.1.symm,by rw [aQ,et.1];exact h3.pos,h3.done.trans et.2.1.symm,fun c=>by
   obtain⟨c1,c2⟩:=et.2.2 c
   exact(h3.tk c1).trans c2.symm,by have:=h3.lt;omega⟩
 ·rw [he.len]at ha
  rw [hl a ha]at hk
  have e:=he.is a ha
  have et:=e.tks k hk
  simp only [bN]at et
  obtain⟨i,hi,h1,h2⟩:=h.all a k ha hk (by rw [aQ]at hp⊢;rw [←et.1];exact hp)
  exact⟨i,hi,h1.trans e.id.symm,h2⟩
theorem Dq {rs:List am} {nt:Int} {runs:List Sp} {out:List Hd} (h:Lz rs nt runs out) (hf:eP rs) {i a k:Nat} (hi:i<out.length) (ha:a<rs.length) (h1:(out.getD i hz).1=(rs.getD a (aa ae)).1) (h2:(out.getD i hz).2.1=(k:Int)):k<(aQ rs a).length∧HdOk nt ((aQ rs a).getD k (aa ab)) (out.getD i hz):=by
 obtain⟨b,j,hb,hj,e1,e2,e3⟩:=h.of i hi
 obtain rfl:b=a:=vL hf hb ha (e1.symm.trans h1)
 obtain rfl:j=k:=by omega
 exact⟨hj,e3⟩
theorem aat {rs:List am} {nt:Int} {runs:List Sp} {out:List Hd} (h:Lz rs nt runs out) {r:am} (h0:∀t∈r.2.2.2.2.1,t.2.1=0):Lz (rs++ [r]) nt (runs++ [(r.1,r.2.1,r.2.2.1,())]) out:=by
 have hlen:(rs++ [r]).length=rs.length+1:=by rw [length_append,length_singleton]
 have gA:∀a:Nat,a<rs.length→(rs++ [r]).getD a (aa ae)=rs.getD a (aa ae):=fun a ha=>by rw [cA a (by omega),if_neg (by omega)]
 refine⟨by rw [length_append,length_singleton,hlen,h.len],fun a ha=> ?_,fun i hi=> ?_,h.un,fun a k ha hk hp=> ?_⟩
 ·rw [cA a ha]
  split
  ·rename_i c
   subst c
   rw [←h.len,getD_eq_getElem?_getD,getElem?_append_right (Nat.le_refl _),sub_self]
   exact⟨rfl,rfl,rfl⟩
  ·have ha':a<rs.length:=by omega
   rw [getD_eq_getElem?_getD,getElem?_append_left (by rw [h.len];exact ha'),←getD_eq_getElem?_getD]
   exact h.is a ha'
 ·obtain⟨a,k,ha,hk,h1,h2,h3⟩:=h.of i hi
  exact⟨a,k,by omega,by unfold aQ;rw [gA a ha];exact hk,by rw [gA a ha];exact h1,h2,by unfold aQ;rw [gA a ha];exact h3⟩
 ·unfold aQ at hk hp
  rw [cA a ha]at hk hp⊢
  split at hk
  ·rename_i c
   rw [if_pos c]at hp
   have:=h0 _ (aG hk (aa ab))
   omega
  ·rename_i c
   rw [if_neg c]at hp⊢
   exact h.all a k (by omega) hk hp
theorem dP {l:List Hd} {i:Nat} (h:i<l.length) (v:Hd) (j:Nat):(l.set i v).getD j hz=if j=i then v else l.getD j hz:=by
 simp only [getD_eq_getElem?_getD,List.getElem?_set]
 by_cases e:i=j
 ·subst e;simp [h]
 ·rw [if_neg e,if_neg (fun h=>e h.symm)]
theorem eQ {l:List Hd} {v:Hd} (j:Nat) (h:j<(l++ [v]).length):(l++ [v]).getD j hz=if j=l.length then v else l.getD j hz:=by
 rw [length_append,length_singleton]at h
 by_cases e:j=l.length
 ·subst e
  rw [if_pos rfl,getD_eq_getElem?_getD,getElem?_append_right (Nat.le_refl _),sub_self]
  rfl
 ·rw [if_neg e,getD_eq_getElem?_getD,getElem?_append_left (by omega),←getD_eq_getElem?_getD]
structure EvX (rs R:List am) (n k:Nat):Prop where
 len:R.length=rs.length
 is:∀a:Nat,a<rs.length→(R.getD a (aa ae)).1=(rs.getD a (aa ae)).1∧(R.getD a (aa ae)).2.1=(rs.getD a (aa ae)).2.1∧(R.getD a (aa ae)).2.2.1=(rs.getD a (aa ae)).2.2.1∧(aQ R a).length=(aQ rs a).length
 tks:∀a j:Nat,a<rs.length→j<(aQ rs a).length→(a=n→j≠k)→ug ((aQ rs a).getD j (aa ab)) ((aQ R a).getD j (aa ab))
theorem HI {rs:List am} {n k:Nat} {r':am} (hn:n<rs.length) (e1:r'.1=(rs.getD n (aa ae)).1) (e2:r'.2.1=(rs.getD n (aa ae)).2.1) (e3:r'.2.2.1=(rs.getD n (aa ae)).2.2.1) (e4:r'.2.2.2.2.1.length=(aQ rs n).length) (h:∀j:Nat,j<(aQ rs n).length→j≠k→ug ((aQ rs n).getD j (aa ab)) (bN r' j)):EvX rs (rs.set n r') n k:=by
 refine⟨length_set,fun a ha=> ?_,fun a j ha hj hne=> ?_⟩
 ·unfold aQ
  rw [cz hn]
  split
  ·rename_i c;subst c;exact⟨e1,e2,e3,e4⟩
  ·exact⟨rfl,rfl,rfl,rfl⟩
 ·unfold aQ
  rw [cz hn]
  split
  ·rename_i c;subst c;exact h j hj (hne rfl)
  ·exact na _
theorem OB {rs R:List am} {nt nt':Int} {runs:List Sp} {out out':List Hd} {n k:Nat} {e:Hd} (h:Lz rs nt runs out) (hf:eP rs) (hnt:nt≤nt') (hx:EvX rs R n k) (hn:n<rs.length) (hk:k<(aQ rs n).length) (he1:e.1=(rs.getD n (aa ae)).1) (he2:e.2.1=(k:Int)) (hok:HdOk nt' ((aQ R n).getD k (aa ab)) e)
  (ho:(∃i:Nat,i<out.length∧(out.getD i hz).1=e.1∧(out.getD i hz).2.1=e.2.1∧out'=out.set i e)∨((∀i:Nat,i<out.length→¬((out.getD i hz).1=e.1∧(out.getD i hz).2.1=e.2.1))∧out'=out++ [e])):Lz R nt' runs out':=by
 have other:∀i:Nat,i<out.length→¬((out.getD i hz).1=e.1∧(out.getD i hz).2.1=e.2.1)→∃a k:Nat,a<R.length∧k<(aQ R a).length∧(out.getD i hz).1=(R.getD a (aa ae)).1∧(out.getD i hz).2.1=(k:Int)∧HdOk nt' ((aQ R a).getD k (aa ab)) (out.getD i hz):=fun i hi hne=>by
  obtain⟨a,j,ha,hj,h1,h2,h3⟩:=h.of i hi
  obtain⟨q1,q2,q3,q4⟩:=hx.is a ha
  have et:=hx.tks a j ha hj (fun c c2=>hne ⟨by rw [h1,c,he1],by rw [h2,c2,he2]⟩)
  refine⟨a,j,by rw [hx.len];exact ha,by rw [q4];exact hj,h1.trans q1.symm,h2,?_⟩
  exact⟨h3.times.trans et.1.symm,by rw [et.1];exact h3.pos,h3.done.trans et.2.1.symm,fun c=>by
   obtain⟨c1,c2⟩:=et.2.2 c
   exact(h3.tk c1).trans c2.symm,by have:=h3.lt;omega⟩
 have mine:∃a k:Nat,a<R.length∧k<(aQ R a).length∧e.1=(R.getD a (aa ae)).1∧e.2.1=(k:Int)∧HdOk nt' ((aQ R a).getD k (aa ab)) e:=by
  obtain⟨q1,q2,q3,q4⟩:=hx.is n hn
  exact⟨n,k,by rw [hx.len];exact hn,by rw [q4];exact hk,he1.trans q1.symm,he2,hok⟩
 have his:∀a:Nat,a<R.length→(runs.getD a ee).1=(R.getD a (aa ae)).1∧(runs.getD a ee).2.1=(R.getD a (aa ae)).2.1∧(runs.getD a ee).2.2.1=(R.getD a (aa ae)).2.2.1:=fun a ha=>by
  rw [hx.len]at ha
  obtain⟨q1,q2,q3,q4⟩:=hx.is a ha
  obtain⟨p1,p2,p3⟩:=h.is a ha
  exact⟨p1.trans q1.symm,p2.trans q2.symm,p3.trans q3.symm⟩
 have cover:∀a j:Nat,a<R.length→j<(aQ R a).length→1≤((aQ R a).getD j (aa ab)).2.1→(a=n∧j=k)∨∃i:Nat,i<out.length∧(out.getD i hz).1=(R.getD a (aa ae)).1∧(out.getD i hz).2.1=(j:Int):=fun a j ha hj hp=>by
  rw [hx.len]at ha
  obtain⟨q1,q2,q3,q4⟩:=hx.is a ha
  rw [q4]at hj
  by_cases c:a=n∧j=k
  ·exact .inl c
  ·have et:=hx.tks a j ha hj (fun c1 c2=>c ⟨c1,c2⟩)
   rw [et.1]at hp
   obtain⟨i,hi,h1,h2⟩:=h.all a j ha hj hp
   exact .inr ⟨i,hi,h1.trans q1.symm,h2⟩
 have q1:=(hx.is n hn).1
 rcases ho with⟨i0,hi0,e1,e2,rfl⟩|⟨hno,rfl⟩
 ·have same:∀i:Nat,i<out.length→(out.getD i hz).1=e.1∧(out.getD i hz).2.1=e.2.1→i=i0:=fun i hi ⟨c1,c2⟩=>by
   rcases Nat.lt_trichotomy i i0 with c|c|c
   ·exact absurd ⟨c1.trans e1.symm,c2.trans e2.symm⟩ (h.un i i0 c hi0)
   ·exact c
   ·exact absurd ⟨e1.trans c1.symm,e2.trans c2.symm⟩ (h.un i0 i c hi)
  refine⟨h.len.trans hx.len.symm,his,fun i hi=> ?_,fun i j hij hj=> ?_,fun a j ha hj hp=> ?_⟩
  ·rw [length_set]at hi
   rw [dP hi0]
   split
   ·exact mine
   ·rename_i c;exact other i hi fun c2=>c (same i hi c2)
  ·rw [length_set]at hj
   rw [dP hi0,dP hi0]
   have:=h.un i j hij hj
   split
   ·rename_i c;subst c
    rw [if_neg (by omega)]
    rw [e1,e2]at this
    exact this
   ·split
    ·rename_i c;subst c
     rw [e1,e2]at this
     exact this
    ·exact this
  ·rcases cover a j ha hj hp with⟨rfl,rfl⟩|⟨i,hi,c1,c2⟩
   ·exact⟨i0,by rw [length_set];exact hi0,by rw [dP hi0,if_pos rfl];exact he1.trans q1.symm,by rw [dP hi0,if_pos rfl];exact he2⟩
   ·refine⟨i,by rw [length_set];exact hi,?_,?_⟩
    ·rw [dP hi0];split
     ·rename_i c;subst c;exact e1.symm.trans c1
     ·exact c1
    ·rw [dP hi0];split
     ·rename_i c;subst c;exact e2.symm.trans c2
     ·exact c2
 ·have hl:(out++ [e]).length=out.length+1:=by rw [length_append,length_singleton]
  refine⟨h.len.trans hx.len.symm,his,fun i hi=> ?_,fun i j hij hj=> ?_,fun a j ha hj hp=> ?_⟩
  ·rw [eQ i hi]
   split
   ·exact mine
   ·exact other i (by omega) (hno i (by omega))
  ·rw [eQ j hj,eQ i (by omega),if_neg (by omega)]
   split
   ·exact hno i (by omega)
   ·exact h.un i j hij (by omega)
  ·rcases cover a j ha hj hp with⟨rfl,rfl⟩|⟨i,hi,c1,c2⟩
   ·exact⟨out.length,by omega,by rw [eQ _ (by omega),if_pos rfl];exact he1.trans q1.symm,by rw [eQ _ (by omega),if_pos rfl];exact he2⟩
   ·exact⟨i,by omega,by rw [eQ i (by omega),if_neg (by omega)];exact c1,by rw [eQ i (by omega),if_neg (by omega)];exact c2⟩
theorem f18 (l:List Hd) (hl:l.length≤1000000) (run task:Int):∃v,lQ (l,run,task,())=some (v,())∧((∃i:Nat,v=i∧i<l.length∧(l.getD i hz).1=run∧(l.getD i hz).2.1=task)∨(v=negSucc 0∧∀i:Nat,i<l.length→¬((l.getD i hz).1=run∧(l.getD i hz).2.1=task))):=by
 obtain⟨y,hy,hq⟩:=ba (st:=gx) l.length (fun i (_:Unit)=>(l,run,task,(i:Int),())) (fun i _=>∀j:Nat,j<i→¬((l.getD j hz).1=run∧(l.getD j hz).2.1=task))
  (fun y=>(∃i:Nat,y= .inl ((i:Int),())∧i<l.length∧(l.getD i hz).1=run∧(l.getD i hz).2.1=task)∨(y= .inr ()∧∀i:Nat,i<l.length→¬((l.getD i hz).1=run∧(l.getD i hz).2.1=task))) (fun i _ h hx=>by
   simp only [gx,lV,bw h,aL h,aF h,cond_true,toNat_natCast]
   by_cases c1:(l.getD i hz).1=run
   ·rw [show((l.getD i (aa ai)).1==run)=true by simpa using c1,cond_true]
    by_cases c2:(l.getD i hz).2.1=task
    ·rw [show((l.getD i (aa ai)).2.1==task)=true by simpa using c2,cond_true]
     exact .inr ⟨_,rfl,.inl ⟨i,rfl,h,c1,c2⟩⟩
    ·rw [show((l.getD i (aa ai)).2.1==task)=false by simpa using c2,cond_false,aY (by omega)]
     exact .inl ⟨(),rfl,cV hx fun c=>c2 c.2⟩
   ·rw [show((l.getD i (aa ai)).1==run)=false by simpa using c1,cond_false,aY (by omega)]
    exact .inl ⟨(),rfl,cV hx fun c=>c1 c.1⟩) (fun _ hx=>⟨.inr (),by simp only [gx,lV,bv,cond_false],.inr ⟨rfl,hx⟩⟩) () (fun j h=>absurd h (not_lt_zero _))
 have hy':pA (l,run,task,ofNat 0,())=some y:=hy
 simp only [lQ,hy',bind_some]
 rcases hq with⟨i,rfl,h⟩|⟨rfl,h⟩
 ·exact⟨_,rfl,.inl ⟨i,rfl,h⟩⟩
 ·exact⟨_,rfl,.inr ⟨rfl,h⟩⟩
theorem f49 (l:List Sp) (hl:l.length≤1000000) (n:Nat) (hn:n<l.length) (h:∀m:Nat,m<n→(l.getD m ee).1≠(l.getD n ee).1):Cf (l,(l.getD n ee).1,())=some ((n:Int),()):=by
 obtain⟨y,hy,rfl⟩:=ba (st:=ji) l.length (fun i (_:Unit)=>(l,(l.getD n ee).1,(i:Int),())) (fun i _=>i≤n) (fun y=>y= .inl ((n:Int),())) (fun i _ hi hx=>by
   simp only [ji,sf,bw hi,aL hi,aF hi,cond_true,toNat_natCast]
   by_cases c:i=n
   ·subst c
    rw [show((l.getD i (aa bf)).1==(l.getD i ee).1)=true by simp,cond_true]
    exact .inr ⟨_,rfl,rfl⟩
   ·rw [show((l.getD i (aa bf)).1==(l.getD n ee).1)=false by simpa using h i (by omega),cond_false,aY (by omega)]
    exact .inl ⟨(),rfl,by omega⟩) (fun _ hx=>by omega) () (zero_le _)
 have hy':py (l,(l.getD n ee).1,ofNat 0,())=some (.inl ((n:Int),())):=hy
 simp only [Cf,hy',bind_some]
theorem MC:mo=fY:=rfl
section
variable (l:List Sp) (z3:Int) (key:ByteArray) (ns:List aR) (z6 z7 z8 z9 z10 z11 rid z13 z14 z15:Int) (k2:ByteArray) (n2:List aR) (z18:Int) (t2:List aq) (e2:List aO)
theorem Cq (hl:l.length≤1000000) (n:Nat) (hn:n<l.length) (h1:(l.getD n ee).2.1.toList=key.toList) (h2:(l.getD n ee).1=rid) (h:∀m:Nat,m<n→(l.getD m ee).2.1.toList≠key.toList∧(l.getD m ee).1≠rid):
  fY (l.length,ofNat 0,l,z3,key,ns,z6,z7,z8,z9,z10,z11,rid,z13,z14,z15,k2,n2,z18,t2,e2,())=some (.inl (l.length,true,l,z3,key,ns,z6,z7,z8,z9,z10,z11,rid,z13,z14,z15,k2,n2,z18,t2,e2,())):=by
 obtain⟨y,hy,rfl⟩:=ba (st:=dz) l.length (fun i (_:Unit)=>(l.length,(i:Int),l,z3,key,ns,z6,z7,z8,z9,z10,z11,rid,z13,z14,z15,k2,n2,z18,t2,e2,())) (fun i _=>i≤n) (fun y=>y= .inl (l.length,true,l,z3,key,ns,z6,z7,z8,z9,z10,z11,rid,z13,z14,z15,k2,n2,z18,t2,e2,())) (fun i _ hi hx=>by
   simp only [dz,gm,fB,bw hi,aL hi,zero_add,aF hi,cond_true,toNat_natCast]
   by_cases c:i=n
   ·subst c
    rw [show(ByteArray.toList (l.getD i (aa bf)).2.1==key.toList)=true by simpa using h1,cond_true,show((l.getD i (aa bf)).1==rid)=true by simpa using h2]
    exact .inr ⟨_,rfl,rfl⟩
   ·obtain⟨h3,h4⟩:=h i (by omega)
    rw [show(ByteArray.toList (l.getD i (aa bf)).2.1==key.toList)=false by simpa using h3,cond_false,show((l.getD i (aa bf)).1==rid)=false by simpa using h4,cond_false,aY (by omega)]
    exact .inl ⟨(),rfl,by omega⟩) (fun _ hx=>by omega) () (zero_le _)
 exact hy
theorem HJ (hl:l.length≤1000000) (h:∀m:Nat,m<l.length→(l.getD m ee).2.1.toList≠key.toList∧(l.getD m ee).1≠rid):
  fY (l.length,ofNat 0,l,z3,key,ns,z6,z7,z8,z9,z10,z11,rid,z13,z14,z15,k2,n2,z18,t2,e2,())=some (.inr (l.length,l,z3,key,ns,z6,z7,z8,z9,z10,z11,rid,z13,z14,z15,k2,n2,z18,t2,e2,())):=by
 obtain⟨y,hy,rfl⟩:=ba (st:=dz) l.length (fun i (_:Unit)=>(l.length,(i:Int),l,z3,key,ns,z6,z7,z8,z9,z10,z11,rid,z13,z14,z15,k2,n2,z18,t2,e2,())) (fun i _=>True) (fun y=>y= .inr (l.length,l,z3,key,ns,z6,z7,z8,z9,z10,z11,rid,z13,z14,z15,k2,n2,z18,t2,e2,())) (fun i _ hi hx=>by
   simp only [dz,gm,fB,bw hi,aL hi,zero_add,aF hi,cond_true,toNat_natCast]
   obtain⟨h3,h4⟩:=h i hi
   rw [show(ByteArray.toList (l.getD i (aa bf)).2.1==key.toList)=false by simpa using h3,cond_false,show((l.getD i (aa bf)).1==rid)=false by simpa using h4,cond_false,aY (by omega)]
   exact .inl ⟨(),rfl,trivial⟩) (fun _ hx=>⟨_,by simp only [dz,gm,fB,bv,cond_false],rfl⟩) () trivial
 exact hy
end
section
variable (l:List Hd) (runs:List Sp) (z4 rid z6 tk z8:Int) (k9:ByteArray) (n10:List aR) (z11:Int) (pc:List aq) (e13:List aO) (needs:List Int) (z15 z16:Int)
theorem Tx (hl:l.length≤1000000) (hn:needs.length≤1000000) (h:∀v∈needs,(∃i:Nat,i<l.length∧(l.getD i hz).1=rid∧(l.getD i hz).2.1=v)∧∀i:Nat,i<l.length→(l.getD i hz).1=rid→(l.getD i hz).2.1=v→(l.getD i hz).2.2.2.2.1=true):
  mj (l.length,ofNat 0,l,runs,z4,rid,z6,tk,z8,k9,n10,z11,pc,e13,needs,z15,z16,())=some (.inr (l.length,l,runs,z4,rid,z6,tk,z8,k9,n10,z11,pc,e13,needs,z15,z16,())):=by
 obtain⟨y,hy,rfl⟩:=ba (st:=fg) needs.length (fun i (_:Unit)=>(l.length,(i:Int),l,runs,z4,rid,z6,tk,z8,k9,n10,z11,pc,e13,needs,z15,z16,())) (fun i _=>True) (fun y=>y= .inr (l.length,l,runs,z4,rid,z6,tk,z8,k9,n10,z11,pc,e13,needs,z15,z16,())) (fun i _ hi hx=>by
   obtain⟨⟨i0,hi0,a1,a2⟩,h2⟩:=h (needs.getD i (aa (Sh.i IntKind.i64))) (aG hi _)
   obtain⟨v,hv,hq⟩:=f18 l hl rid (needs.getD i (aa (Sh.i IntKind.i64)))
   simp only [fg,jD,iE,bw hi,aL hi,aF hi,cond_true,toNat_natCast,zero_add,Nat.le_refl,decide_true,drop_zero,take_length,hv,bind_some]
   rcases hq with⟨j,rfl,hj,b1,b2⟩|⟨_,hno⟩
   ·rw [decide_eq_false (show¬(j:Int)<ofNat 0 by simp only [bm];omega),cond_false,aL hj,cond_true,toNat_natCast,aF hj,cond_true]
    have:=h2 j hj b1 b2
    rw [show(l.getD j (aa ai)).2.2.2.2.1=true from this,Bool.not_true,cond_false,aY (by omega)]
    exact .inl ⟨(),rfl,trivial⟩
   ·exact absurd ⟨a1,a2⟩ (hno i0 hi0)) (fun _ hx=>⟨_,by simp only [fg,jD,iE,bv,cond_false],rfl⟩) () trivial
 exact hy
theorem aau (hl:l.length≤1000000) (h:∀i:Nat,i<l.length→(l.getD i hz).2.2.1≠tk):
  mh (l.length,ofNat 0,l,runs,z4,rid,z6,tk,z8,k9,n10,z11,pc,e13,needs,z15,z16,())=some (.inr (l.length,l,runs,z4,rid,z6,tk,z8,k9,n10,z11,pc,e13,needs,z15,z16,())):=by
 obtain⟨y,hy,rfl⟩:=ba (st:=ff) l.length (fun i (_:Unit)=>(l.length,(i:Int),l,runs,z4,rid,z6,tk,z8,k9,n10,z11,pc,e13,needs,z15,z16,())) (fun i _=>True) (fun y=>y= .inr (l.length,l,runs,z4,rid,z6,tk,z8,k9,n10,z11,pc,e13,needs,z15,z16,())) (fun i _ hi hx=>by
   simp only [ff,jC,iD,bw hi,aL hi,zero_add,aF hi,cond_true,toNat_natCast]
   rw [show((l.getD i (aa ai)).2.2.1==tk)=false by simpa using h i hi,cond_false,aY (by omega)]
   exact .inl ⟨(),rfl,trivial⟩) (fun _ hx=>⟨_,by simp only [ff,jC,iD,bv,cond_false],rfl⟩) () trivial
 exact hy
end
theorem MD {r r':am} (e1:r'.1=r.1) (e2:r'.2.1=r.2.1) (e3:r'.2.2.1=r.2.2.1) (hd:iv r.2.2.1.1 r.2.2.2.2.1 r'.2.2.2.2.1):EvR r r':=⟨e1,e2,e3,hd.1,fun j hj=>Mz hd j hj⟩
section
variable {ck nr nt nk ne ac:Int} {rs:List am} {es:List aO} {runs:List Sp} {out:List Hd}
theorem Cr {nd:aR} {t:aq} (h:cH nd t) (hs:t.1=2∨t.1=4):1≤t.2.1:=by
 obtain⟨g1,g2,g3,g4,g5,g6,g7,g8⟩:=h
 omega
theorem zZ (h:SX ck nr nt nk ne ac rs es) (hL:Lz rs nt runs out) {n k:Nat} (hn:n<rs.length) (hk:k<(aQ rs n).length) (h1:((aQ rs n).getD k (aa ab)).1=1):
  k<(runs.getD n ee).2.2.1.1.length∧((runs.getD n ee).2.2.1.1.getD k (aa ah)).1.length≤1000000∧((runs.getD n ee).2.2.1.1.getD k (aa ah))=dC (rs.getD n (aa ae)) k∧
  (∀v∈((runs.getD n ee).2.2.1.1.getD k (aa ah)).1,(∃i:Nat,i<out.length∧(out.getD i hz).1=(rs.getD n (aa ae)).1∧(out.getD i hz).2.1=v)∧∀i:Nat,i<out.length→(out.getD i hz).1=(rs.getD n (aa ae)).1→(out.getD i hz).2.1=v→(out.getD i hz).2.2.2.2.1=true)∧
  (∀i:Nat,i<out.length→(out.getD i hz).2.2.1≠nt):=by
 have hro:=h.rok hn
 obtain⟨e1,e2,e3⟩:=hL.is n hn
 have hkn:k<(rs.getD n (aa ae)).2.2.1.1.length:=by have:=hro.len;unfold aQ at hk;omega
 have h1':(bN (rs.getD n (aa ae)) k).1=1:=h1
 have hst:=gc hro hk (by rw [h1'];decide)
 have hsh:=hro.dag.2.1 k hkn
 rw [e3]
 refine⟨hkn,by have:=xT hsh.2.2;have:=hro.dag.1.2;omega,rfl,fun v hv=> ?_,fun i hi=> ?_⟩
 ·obtain⟨v0,v1⟩:=vE hsh v hv
  rcases hro.st with⟨_,hm,_⟩|⟨c,_⟩|⟨c,_⟩|⟨c,_⟩
  ·have hmet:=(hm k hkn).2 (by simp only [bN]at h1';rw [h1'];decide)
   have h4:=hmet v hv
   have hj:v.toNat<(aQ rs n).length:=by
    have:=hro.len
    unfold aQ
    omega
   have hp:=Cr (hro.tks v.toNat hj) (.inr h4)
   obtain⟨i,hi,a1,a2⟩:=hL.all n v.toNat hn hj hp
   refine⟨⟨i,hi,a1,by omega⟩,fun i hi b1 b2=> ?_⟩
   exact(Dq hL h.fine hi hn b1 (show(out.getD i hz).2.1=((v.toNat:Nat):Int) by omega)).2.done.2 h4
  ·omega
  ·omega
  ·omega
 ·obtain⟨a,j,ha,hj,a1,a2,a3⟩:=hL.of i hi
  have:=a3.lt
  omega
theorem HK (h:SX ck nr nt nk ne ac rs es) (hL:Lz rs nt runs out) {n k:Nat} {un:Int} {r':am} (hn:n<rs.length) (hk:k<(aQ rs n).length) (h1:((aQ rs n).getD k (aa ab)).1=1) (hT:Turn (rs.getD n (aa ae)) k (ofNat 2,((aQ rs n).getD k (aa ab)).2.1+1,un,nt,ofNat 0,()) r'):
  ((∀i:Nat,i<out.length→¬((out.getD i hz).1=(rs.getD n (aa ae)).1∧(out.getD i hz).2.1=(k:Int)))→Lz (rs.set n r') (nt+1) runs (out++ [((rs.getD n (aa ae)).1,(k:Int),nt,ofNat 1,false,())]))∧
  ∀i:Nat,i<out.length→(out.getD i hz).1=(rs.getD n (aa ae)).1→(out.getD i hz).2.1=(k:Int)→(out.getD i hz).2.2.2.2.1=false∧(out.getD i hz).2.2.2.1+1≤(dC (rs.getD n (aa ae)) k).2.1∧0≤(out.getD i hz).2.2.2.1∧Lz (rs.set n r') (nt+1) runs (out.set i ((out.getD i hz).1,(out.getD i hz).2.1,nt,(out.getD i hz).2.2.2.1+1,(out.getD i hz).2.2.2.2.1,())):=by
 have hro:=h.rok hn
 have hk':k<(rs.getD n (aa ae)).2.2.2.2.1.length:=hk
 have htk:=hro.tks k hk'
 have hset:r'.2.2.2.2.1=(rs.getD n (aa ae)).2.2.2.2.1.set k (ofNat 2,((aQ rs n).getD k (aa ab)).2.1+1,un,nt,ofNat 0,()):=by
  rcases hT.how with⟨c,_⟩|⟨_,c,_⟩
  ·exact absurd c (bG rfl)
  ·exact c
 have hx:EvX rs (rs.set n r') n k:=HI hn hT.id hT.key hT.ns hT.len fun j hj hne=>by
  simp only [bN,hset,bq hk',if_neg hne]
  exact na _
 have hme:(aQ (rs.set n r') n).getD k (aa ab)=(ofNat 2,((aQ rs n).getD k (aa ab)).2.1+1,un,nt,ofNat 0,()):=by
  unfold aQ
  rw [cz hn,if_pos rfl,hset,bq hk',if_pos rfl]
 obtain⟨g1,g2,g3,g4,g5,g6,g7,g8⟩:=htk
 have h1':((rs.getD n (aa ae)).2.2.2.2.1.getD k (aa ab)).1=1:=h1
 refine⟨fun hno=> ?_,fun i hi a1 a2=> ?_⟩
 ·have h0:((aQ rs n).getD k (aa ab)).2.1=0:=by
   by_cases c:1≤((aQ rs n).getD k (aa ab)).2.1
   ·obtain⟨i,hi,c1,c2⟩:=hL.all n k hn hk c
    exact absurd ⟨c1,c2⟩ (hno i hi)
   ·simp only [aQ]at c⊢;omega
  refine OB (e:=((rs.getD n (aa ae)).1,(k:Int),nt,ofNat 1,false,())) hL h.fine (by omega) hx hn hk rfl rfl ?_ (.inr ⟨hno,rfl⟩)
  rw [hme]
  exact⟨by simp only [bm];omega,by simp only;omega,⟨fun h=>(by cases h),fun h=>absurd h (bG rfl)⟩,fun _=>rfl,by simp only;omega⟩
 ·obtain⟨_,b2⟩:=Dq hL h.fine hi hn a1 a2
  have hd:(out.getD i hz).2.2.2.2.1=false:=by
   cases hc:(out.getD i hz).2.2.2.2.1 with
   |false=>rfl
   |true=>have:=b2.done.1 hc;omega
  have ht:=b2.times
  have hp:=b2.pos
  simp only [aQ]at ht hp
  refine⟨hd,by simp only [dC];omega,by omega,?_⟩
  refine OB (e:=((out.getD i hz).1,(out.getD i hz).2.1,nt,(out.getD i hz).2.2.2.1+1,(out.getD i hz).2.2.2.2.1,())) hL h.fine (by omega) hx hn hk a1 a2 ?_ (.inl ⟨i,hi,rfl,rfl,rfl⟩)
  rw [hme]
  exact⟨by simp only [aQ];omega,by simp only [aQ];omega,⟨fun h=>(by rw [hd]at h;cases h),fun h=>absurd h (bG rfl)⟩,fun _=>rfl,by simp only;omega⟩
theorem Gv (h:SX ck nr nt nk ne ac rs es) (hL:Lz rs nt runs out) {n k:Nat} {r':am} {rk' tk:Int} (hn:n<rs.length) (hk:k<(aQ rs n).length) (hrk:pn nk) (hh:jR (dC (rs.getD n (aa ae)) k) ((aQ rs n).getD k (aa ab)) tk) (hC:Cmpl (rs.getD n (aa ae)) k nk r' rk') {i:Nat} (hi:i<out.length) (a1:(out.getD i hz).1=(rs.getD n (aa ae)).1) (a2:(out.getD i hz).2.1=(k:Int)):
  Lz (rs.set n r') nt runs (out.set i ((out.getD i hz).1,(out.getD i hz).2.1,(out.getD i hz).2.2.1,(out.getD i hz).2.2.2.1,true,())):=by
 have hro:=h.rok hn
 have hk':k<(rs.getD n (aa ae)).2.2.2.2.1.length:=hk
 have hh2:=hh
 obtain⟨htk,_,_,c2,_⟩:=hh2
 have c2':(bN (rs.getD n (aa ae)) k).1=2:=c2
 have hst:=gc hro hk' (by rw [c2'];decide)
 obtain⟨hok,hop⟩:=vJ hro hst hk' hrk hh hC
 have hsl:((rs.getD n (aa ae)).2.2.2.2.1.set k (ofNat 4,(bN (rs.getD n (aa ae)) k).2.1,ofNat 0,ofNat 0,ofNat 0,())).length=(rs.getD n (aa ae)).2.2.2.2.1.length:=length_set
 have hx:EvX rs (rs.set n r') n k:=HI hn hC.id hC.key hC.ns hC.len fun j hj hne=>by
  rcases hop.is j (by rw [hsl];exact hj)with⟨_,q⟩|⟨⟨_,q0,_⟩,ρ,q,_⟩
  ·simp only [bq hk',if_neg hne]at q
   simp only [bN,q]
   exact na _
  ·simp only [bq hk',if_neg hne]at q q0
   simp only [bN,q]
   have hz0:((aQ rs n).getD j (aa ab)).2.1=0:=by
    obtain⟨g1,g2,g3,g4,g5,g6,g7,g8⟩:=hro.tks j hj
    simp only [aQ];omega
   exact⟨hz0.symm,⟨fun h=>absurd h (bG rfl),fun h=>by simp only [aQ]at h;omega⟩,fun h=>absurd h (bG rfl)⟩
 have hme:(aQ (rs.set n r') n).getD k (aa ab)=(ofNat 4,(bN (rs.getD n (aa ae)) k).2.1,ofNat 0,ofNat 0,ofNat 0,()):=by
  unfold aQ
  rw [cz hn,if_pos rfl]
  rcases hop.is k (by rw [hsl];exact hk')with⟨_,q⟩|⟨⟨_,q0,_⟩,_⟩
  ·simp only [bq hk',if_pos]at q
   exact q
  ·simp only [bq hk',if_pos]at q0
   exact absurd q0 (bG rfl)
 obtain⟨_,b2⟩:=Dq hL h.fine hi hn a1 a2
 refine OB (e:=((out.getD i hz).1,(out.getD i hz).2.1,(out.getD i hz).2.2.1,(out.getD i hz).2.2.2.1,true,())) hL h.fine (le_refl _) hx hn hk a1 a2 ?_ (.inl ⟨i,hi,rfl,rfl,rfl⟩)
 rw [hme]
 exact⟨b2.times,b2.pos,⟨fun _=>rfl,fun _=>rfl⟩,fun h=>absurd h (bG rfl),b2.lt⟩
theorem gS (h:SX ck nr nt nk ne ac rs es) (hL:Lz rs nt runs out) {n k:Nat} {tk:Int} (hn:n<rs.length) (hk:k<(aQ rs n).length) (hh:jR (dC (rs.getD n (aa ae)) k) ((aQ rs n).getD k (aa ab)) tk):
  (∃i:Nat,i<out.length∧(out.getD i hz).1=(rs.getD n (aa ae)).1∧(out.getD i hz).2.1=(k:Int))∧∀i:Nat,i<out.length→(out.getD i hz).1=(rs.getD n (aa ae)).1→(out.getD i hz).2.1=(k:Int)→(out.getD i hz).2.2.2.2.1=false∧(out.getD i hz).2.2.1=tk:=by
 obtain⟨htk,_,_,c2,c3⟩:=hh
 refine⟨hL.all n k hn hk (Cr htk (.inl c2)),fun i hi a1 a2=> ?_⟩
 obtain⟨_,b2⟩:=Dq hL h.fine hi hn a1 a2
 refine⟨?_,(b2.tk c2).trans c3⟩
 cases hc:(out.getD i hz).2.2.2.2.1 with
 |false=>rfl
 |true=>have:=b2.done.1 hc;omega
end
abbrev Aa (t:cg):List am:=t.2.2.2.2.2.2.1
theorem ME {n:Nat} (h:n≤1000):(decide ((n+1)*48≤aV) && decide (n+1≤aV))=true:=by
 have:aV=70368744177664:=by decide
 rw [this]
 simp;omega
theorem aav {n:Nat} (h:n≤1000):(decide ((n+1)*40≤aV) && decide (n+1≤aV))=true:=by
 have:aV=70368744177664:=by decide
 rw [this]
 simp;omega
abbrev en0 (cs:List bo) (i:Int) (t:cg):HG bJ:=.inl (cs,i,t.1,t.2.1,t.2.2.1,t.2.2.2.1,t.2.2.2.2.1,t.2.2.2.2.2.1,t.2.2.2.2.2.2.1,t.2.2.2.2.2.2.2.1,())
abbrev qA (cs:List bo) (i:Int) (t:cg) (runs:List Sp):HG bJ:=.inr (.inl (cs,runs.length,i,t.1,t.2.1,t.2.2.1,t.2.2.2.1,t.2.2.2.2.1,t.2.2.2.2.2.1,t.2.2.2.2.2.2.1,t.2.2.2.2.2.2.2.1,runs,()))
abbrev MF (cs:List bo) (i:Int) (t:cg) (runs:List Sp) (out:List Hd):HG bJ:=.inr (.inr (cs,runs.length,out.length,i,t.1,t.2.1,t.2.2.1,t.2.2.2.1,t.2.2.2.2.1,t.2.2.2.2.2.1,t.2.2.2.2.2.2.1,t.2.2.2.2.2.2.2.1,runs,out,()))
def mD (cs:List bo) (i:Int) (t:cg) (runs:List Sp) (out:List Hd):HG bJ:=if runs= []then en0 cs i t else if out= []then qA cs i t runs else MF cs i t runs out
theorem xU {cs:List bo} {i:Int} {t:cg} {runs:List Sp} (h:runs≠ []):mD cs i t runs []=qA cs i t runs:=by rw [mD,if_neg h,if_pos rfl]
theorem mz {cs:List bo} {i:Int} {t:cg} {runs:List Sp} {out:List Hd} (h:runs≠ []) (h2:out≠ []):mD cs i t runs out=MF cs i t runs out:=by rw [mD,if_neg h,if_neg h2]
theorem Tz (i:Int) (hi:¬i<0) (z1:Int) (k:ByteArray) (z2:List aR) (z3 z4 z5 z6 z7 z8 z9 z10 z11 z12:Int) (k2:ByteArray) (n2:List aR) (z13:Int) (t2:List aq) (e2:List aO):mP (i,z1,k,z2,z3,z4,z5,z6,z7,z8,z9,z10,z11,z12,k2,n2,z13,t2,e2,())=some (z1,k,z2,z3,z4,z5,z6,z7,z8,z9,z10,z11,z12,k2,n2,z13,t2,e2,()):=by
 rw [mP,dm]
 simp only [pK,vy,decide_eq_false hi,cond_false]
theorem OC (l:List Sp) (z2 rid z4 tk z6:Int) (k7:ByteArray) (n8:List aR) (z9:Int) (t10:List aq) (e11:List aO) (z13 z14:Int):mO (ofNat 0,l,z2,rid,z4,tk,z6,k7,n8,z9,t10,e11,[],z13,z14,())=some (.inr (l,z2,rid,z4,tk,z6,k7,n8,z9,t10,e11,[],z13,z14,())):=by
 rw [mO,dm]
 rfl
theorem TA (l:List Sp) (z2 rid z4 tk z6:Int) (k7:ByteArray) (n8:List aR) (z9:Int) (t10:List aq) (e11:List aO) (ns:List Int) (z13 z14:Int):mN (ofNat 0,l,z2,rid,z4,tk,z6,k7,n8,z9,t10,e11,ns,z13,z14,())=some (l,z2,rid,z4,tk,z6,k7,n8,z9,t10,e11,ns,z13,z14,()):=by
 rw [mN,dm]
 rfl
theorem aaw (run task:Int):lQ ([],run,task,())=some (negSucc 0,()):=by
 obtain⟨v,hv,h⟩:=f18 [] (by decide) run task
 rcases h with⟨i,_,h,_⟩|⟨rfl,_⟩
 ·exact absurd h (not_lt_zero _)
 ·exact hv
theorem MG {rs:List am} {nt:Int} {out:List Hd} (h:Lz rs nt [] out):rs= []:=List.eq_nil_of_length_eq_zero (by rw [←h.len];rfl)
section
variable {cs:List bo} {i:Nat} {ck nr nt nk ne ac:Int} {rs:List am} {es:List aO} {runs:List Sp} {out:List Hd} {t:cg} {r:jI}
theorem oL {c:bo} (h:SX ck nr nt nk ne ac rs es) (hst:Stp ck nr nt nk ne ac rs es c t r) (hr:r.1=0) (hk:c.1≠1∧c.1≠2∧c.1≠3):EvS rs (Aa t)∧nt≤t.2.2.1:=by
 cases hst with
 |err n=>exact absurd hr (bG rfl)
 |known n hk'=>exact absurd hk' hk.1
 |new hk'=>exact absurd hk' hk.1
 |poll n k un r' hk'=>exact absurd hk' hk.2.1
 |complete n k r' rk' w hk'=>exact absurd hk' hk.2.2
 |fail n k t' r' hk' hf hn hid hi hkl hh hfl hT=>
  exact⟨qK (iF rs) hn (wD hkl hT (Rz hh.2.2.2.1 hfl)),le_refl _⟩
 |beat n k un r' hk' hf hn hid hi hkl hh hun hT=>
  exact⟨qK (iF rs) hn (wD hkl hT ⟨rfl,Iff.rfl,fun h=>⟨h,rfl⟩⟩),le_refl _⟩
 |cancel n r' hk' hf hn hid h1 e1 e2 e3 e4 hd=>exact⟨qK (iF rs) hn (MD e1 e2 e3 hd),le_refl _⟩
 |tick l d R nk' ne' w hk' hf h1 h2 hl hs hN=>exact⟨MB _ _ hN,le_refl _⟩
 |query n hk'=>exact⟨iF rs,le_refl _⟩
 |drain m hk'=>exact⟨iF rs,le_refl _⟩
 |ack hk'=>exact⟨iF rs,le_refl _⟩
theorem vO {c:bo} (h:SX ck nr nt nk ne ac rs es) (hL:Lz rs nt runs out) (hst:Stp ck nr nt nk ne ac rs es c t r) (hr:r.1=0) (hk:c.1=1):
  (∃n:Nat,n<runs.length∧(runs.getD n ee).2.1.toList=c.2.1.toList∧(runs.getD n ee).1=r.2.1∧(∀m:Nat,m<n→(runs.getD m ee).2.1.toList≠c.2.1.toList∧(runs.getD m ee).1≠r.2.1)∧Lz (Aa t) t.2.2.1 runs out)∨
  ((∀m:Nat,m<runs.length→(runs.getD m ee).2.1.toList≠c.2.1.toList∧(runs.getD m ee).1≠r.2.1)∧Lz (Aa t) t.2.2.1 (runs++ [(r.2.1,c.2.1,(c.2.2.1.1,()),())]) out):=by
 cases hst with
 |err n=>exact absurd hr (bG rfl)
 |known n hk' hn hkey=>
  obtain⟨e1,e2,e3⟩:=hL.is n hn
  refine .inl ⟨n,by rw [hL.len];exact hn,by rw [e2];exact hkey,e1,fun m hm=> ?_,hL⟩
  obtain⟨f1,f2,f3⟩:=hL.is m (by omega)
  refine⟨?_,?_⟩
  ·rw [f2]
   intro c1
   exact h.fine.2.keys m n hm hn (c1.trans hkey.symm)
  ·rw [f1]
   have:=h.fine.2.up m n hm hn
   simp only [gU]
   omega
 |new hk' hf hno h32 hkey hd hrk=>
  refine .inr ⟨fun m hm=> ?_,?_⟩
  ·rw [hL.len]at hm
   obtain⟨f1,f2,f3⟩:=hL.is m hm
   refine⟨by rw [f2];exact hno m hm,?_⟩
   rw [f1]
   have:=(h.late m hm).1
   simp only [gU]
   omega
  ·refine aat (r:=(nr,c.2.1,c.2.2.1,ofNat 1,(eK c.2.2.1.1 nk).2,())) hL fun t ht=> ?_
   obtain⟨_,hop⟩:=Cm (id:=nr) h.nrI hkey hd hrk
   obtain⟨j,hj,rfl⟩:=zQ ht
   rw [show(eK c.2.2.1.1 nk).2.length=(replicate c.2.2.1.1.length t0).length from hop.len]at hj
   rcases hop.is j hj with⟨_,q⟩|⟨_,ρ,q,_⟩
   ·rw [show((eK c.2.2.1.1 nk).2).getD j (aa ab)=_ from q,List.eq_of_mem_replicate (aG hj _)]
    rfl
   ·rw [show((eK c.2.2.1.1 nk).2).getD j (aa ab)=_ from q]
    rfl
 |poll n k un r' hk'=>omega
 |complete n k r' rk' w hk'=>omega
 |fail n k t' r' hk'=>omega
 |beat n k un r' hk'=>omega
 |cancel n r' hk'=>omega
 |tick l d R nk' ne' w hk'=>omega
 |query n hk'=>omega
 |drain m hk'=>omega
 |ack hk'=>omega
end
theorem adc {cs:List bo} {i:Nat} {ck nr nt nk ne ac:Int} {rs:List am} {es:List aO} {t:cg} {r:jI} (hi:i<cs.length) (hi2:i<250) (hso:SOk (mk ck nr nt nk ne ac rs es)) (hL:Lz rs nt [] []) (ho:([]:List Hd).length≤i)
  (hdo:jB (mk ck nr nt nk ne ac rs es,cs.getD i (aa af),())=some (t,r,())) (hst:Stp ck nr nt nk ne ac rs es (cs.getD i (aa af)) t r) (hto:SOk t):
  ∃runs' out',bJ (en0 cs (i:Int) (mk ck nr nt nk ne ac rs es))=some (.inl (mD cs ((i+1:Nat):Int) t runs' out'))∧Lz (Aa t) t.2.2.1 runs' out'∧out'.length≤i+1:=by
 have hsx:=po hso
 have h32:=hsx.fine.1
 have hrl:=hL.len
 simp only [mk]at hdo
 have ek:IntKind.i64.wrap ((i:Int)+ofNat 1)=((i+1:Nat):Int):=iJ (by omega) (by omega)
 simp only [bJ,ot,bw hi,aL hi,aF hi,cond_true,toNat_natCast,hdo,bind_some,ek]
 generalize cs.getD i (aa af)=c at hdo hst
 by_cases hr:r.1=0
 case neg=>
  rw [show(r.1 !=ofNat 0)=true by simpa using hr,cond_true]
  cases hst with
  |err n=>exact⟨[],[],rfl,hL,by omega⟩
  |_=>exact absurd rfl hr
 rw [show(r.1 !=ofNat 0)=false by rw [hr];rfl,cond_false]
 by_cases k1:c.1=1
 ·rw [show(c.1==ofNat 1)=true by rw [k1];rfl,cond_true]
  rcases vO hsx hL hst hr k1 with⟨n,hn,h1,h2,h3,h4⟩|⟨h3,h4⟩
  ·exact absurd hn (not_lt_zero _)
  ·simp only [Tz (ofNat 0) (by decide),bind_some,la,bW,bp]
   refine⟨_,[],?_,h4,zero_le _⟩
   rw [xU (by simp)]
   rfl
 rw [show(c.1==ofNat 1)=false by simpa using k1,cond_false]
 by_cases k2:c.1=2
 ·rw [show(c.1==ofNat 2)=true by rw [k2];rfl,cond_true]
  cases hst with
  |poll n k un r' hk' hf hn hkl h1 hun hT=>
   rw [MG hL]at hn
   exact absurd hn (not_lt_zero _)
  |err n=>exact absurd hr (bG rfl)
  |known n hk'=>omega
  |new hk'=>omega
  |complete n k r' rk' w hk'=>omega
  |fail n k t' r' hk'=>omega
  |beat n k un r' hk'=>omega
  |cancel n r' hk'=>omega
  |tick l d R nk' ne' w hk'=>omega
  |query n hk'=>omega
  |drain m hk'=>omega
  |ack hk'=>omega
 rw [show(c.1==ofNat 2)=false by simpa using k2,cond_false]
 by_cases k3:c.1=3
 ·rw [show(c.1==ofNat 3)=true by rw [k3];rfl,cond_true]
  have hst0:=hst
  cases hst with
  |complete n k r' rk' w hk' hf hn hid hi' hkl hrk hh hC hw=>
   obtain⟨⟨i0,hi0,d1,d2⟩,d3⟩:=gS hsx hL hn hkl hh
   exact absurd hi0 (not_lt_zero _)
  |err n=>exact absurd hr (bG rfl)
  |known n hk'=>omega
  |new hk'=>omega
  |poll n k un r' hk'=>omega
  |fail n k t' r' hk'=>omega
  |beat n k un r' hk'=>omega
  |cancel n r' hk'=>omega
  |tick l d R nk' ne' w hk'=>omega
  |query n hk'=>omega
  |drain m hk'=>omega
  |ack hk'=>omega
 rw [show(c.1==ofNat 3)=false by simpa using k3,cond_false]
 by_cases k4:c.1=4
 ·rw [show(c.1==ofNat 4)=true by rw [k4];rfl,cond_true]
  have hst0:=hst
  cases hst with
  |fail n k t' r' hk' hf hn hid hi' hkl hh hfl hT=>
   obtain⟨⟨i0,hi0,d1,d2⟩,d3⟩:=gS hsx hL hn hkl hh
   exact absurd hi0 (not_lt_zero _)
  |err n=>exact absurd hr (bG rfl)
  |known n hk'=>omega
  |new hk'=>omega
  |poll n k un r' hk'=>omega
  |complete n k r' rk' w hk'=>omega
  |beat n k un r' hk'=>omega
  |cancel n r' hk'=>omega
  |tick l d R nk' ne' w hk'=>omega
  |query n hk'=>omega
  |drain m hk'=>omega
  |ack hk'=>omega
 rw [show(c.1==ofNat 4)=false by simpa using k4,cond_false]
 by_cases k5:c.1=5
 ·rw [show(c.1==ofNat 5)=true by rw [k5];rfl,cond_true]
  have hst0:=hst
  cases hst with
  |beat n k un r' hk' hf hn hid hi' hkl hh hun hT=>
   obtain⟨⟨i0,hi0,d1,d2⟩,d3⟩:=gS hsx hL hn hkl hh
   exact absurd hi0 (not_lt_zero _)
  |err n=>exact absurd hr (bG rfl)
  |known n hk'=>omega
  |new hk'=>omega
  |poll n k un r' hk'=>omega
  |complete n k r' rk' w hk'=>omega
  |fail n k t' r' hk'=>omega
  |cancel n r' hk'=>omega
  |tick l d R nk' ne' w hk'=>omega
  |query n hk'=>omega
  |drain m hk'=>omega
  |ack hk'=>omega
 rw [show(c.1==ofNat 5)=false by simpa using k5,cond_false]
 obtain⟨v1,v2⟩:=oL hsx hst hr ⟨k1,k2,k3⟩
 refine⟨[],[],?_,zY hL v2 v1,by omega⟩
 rfl
theorem ade {cs:List bo} {i:Nat} {ck nr nt nk ne ac:Int} {rs:List am} {es:List aO} {runs:List Sp} {t:cg} {r:jI} (hi:i<cs.length) (hi2:i<250) (hr0:runs≠ []) (hso:SOk (mk ck nr nt nk ne ac rs es)) (hL:Lz rs nt runs []) (ho:([]:List Hd).length≤i)
  (hdo:jB (mk ck nr nt nk ne ac rs es,cs.getD i (aa af),())=some (t,r,())) (hst:Stp ck nr nt nk ne ac rs es (cs.getD i (aa af)) t r) (hto:SOk t):
  ∃runs' out',bJ (qA cs (i:Int) (mk ck nr nt nk ne ac rs es) runs)=some (.inl (mD cs ((i+1:Nat):Int) t runs' out'))∧Lz (Aa t) t.2.2.1 runs' out'∧out'.length≤i+1:=by
 have hsx:=po hso
 have h32:=hsx.fine.1
 have hrl:=hL.len
 simp only [mk]at hdo
 have ek:IntKind.i64.wrap ((i:Int)+ofNat 1)=((i+1:Nat):Int):=iJ (by omega) (by omega)
 simp only [bJ,ov,mq,bw hi,aL hi,aF hi,cond_true,toNat_natCast,hdo,bind_some,ek]
 generalize cs.getD i (aa af)=c at hdo hst
 by_cases hr:r.1=0
 case neg=>
  rw [show(r.1 !=ofNat 0)=true by simpa using hr,cond_true]
  cases hst with
  |err n=>exact⟨runs,[],by rw [xU hr0],hL,by omega⟩
  |_=>exact absurd rfl hr
 rw [show(r.1 !=ofNat 0)=false by rw [hr];rfl,cond_false]
 by_cases k1:c.1=1
 ·rw [show(c.1==ofNat 1)=true by rw [k1];rfl,cond_true]
  rcases vO hsx hL hst hr k1 with⟨n,hn,h1,h2,h3,h4⟩|⟨h3,h4⟩
  ·have hs:=fun z3 ns z6 z7 z8 z9 z10 z11 z13 z14 z15 k2 n2 z18 t2 e2=>Cq runs z3 c.2.1 ns z6 z7 z8 z9 z10 z11 r.2.1 z13 z14 z15 k2 n2 z18 t2 e2 (by omega) n hn h1 h2 h3
   simp only [hs,bind_some,Bool.not_true,cond_false]
   refine⟨runs,[],?_,h4,by omega⟩
   rw [xU hr0]
  ·have hs:=fun z3 ns z6 z7 z8 z9 z10 z11 z13 z14 z15 k2 n2 z18 t2 e2=>HJ runs z3 c.2.1 ns z6 z7 z8 z9 z10 z11 r.2.1 z13 z14 z15 k2 n2 z18 t2 e2 (by omega) h3
   simp only [hs,bind_some,zero_add,Nat.le_refl,decide_true,cond_true,drop_zero,take_length,la,bW,bp,length_singleton,length_cons,length_nil,ME (show runs.length≤1000 by omega)]
   refine⟨runs++ [(r.2.1,c.2.1,(c.2.2.1.1,()),())],[],?_,h4,by omega⟩
   rw [xU (by simp)]
 rw [show(c.1==ofNat 1)=false by simpa using k1,cond_false]
 by_cases k2:c.1=2
 ·rw [show(c.1==ofNat 2)=true by rw [k2];rfl,cond_true]
  cases hst with
  |poll n k un r' hk' hf hn hkl h1 hun hT=>
   obtain⟨p1,p2,p3,p4,p5⟩:=zZ hsx hL hn hkl h1
   obtain⟨q1,q2⟩:=HK hsx hL hn hkl h1 hT
   obtain⟨e1,e2,e3⟩:=hL.is n hn
   have hn':n<runs.length:=by omega
   have hf49:Cf (runs,(rs.getD n (aa ae)).1,())=some ((n:Int),()):=by
    rw [←e1]
    refine f49 runs (by omega) n hn' fun m hm=> ?_
    rw [(hL.is m (by omega)).1,e1]
    have:=hsx.fine.2.up m n hm hn
    omega
   have hkn:k<length (runs.getD n (aa bf)).2.2.1.1:=p1
   simp only [gU,zero_add,Nat.le_refl,decide_true,cond_true,drop_zero,take_length,hf49,bind_some,decide_eq_false (show¬(n:Int)<ofNat 0 by simp only [bm];omega),decide_eq_false (show¬(k:Int)<ofNat 0 by simp only [bm];omega),cond_false,aL hn',aF hn',toNat_natCast,decide_eq_false (show¬(k:Int)≥((length (runs.getD n (aa bf)).2.2.1.1:Nat):Int) by omega),aL hkn,aF hkn]
   have hnil:(getD (runs.getD n (aa bf)).2.2.1.1 k (aa ah)).1= []:=by
    cases hc:(getD (runs.getD n (aa bf)).2.2.1.1 k (aa ah)).1 with
    |nil=>rfl
    |cons a l=>
     obtain⟨⟨j,hj,_⟩,_⟩:=p4 a (by rw [show((runs.getD n ee).2.2.1.1.getD k (aa ah)).1=a::l from hc];exact List.mem_cons_self ..)
     exact absurd hj (not_lt_zero _)
   simp only [hnil,OC,TA,aaw,bind_some,decide_eq_true (show negSucc 0<ofNat 0 by decide),cond_true,la,bW,bp]
   refine⟨runs,_,?_,q1 fun j hj=>absurd hj (not_lt_zero _),Nat.succ_le_succ (zero_le _)⟩
   rw [mz hr0 (by simp)]
   rfl
  |err n=>exact absurd hr (bG rfl)
  |known n hk'=>omega
  |new hk'=>omega
  |complete n k r' rk' w hk'=>omega
  |fail n k t' r' hk'=>omega
  |beat n k un r' hk'=>omega
  |cancel n r' hk'=>omega
  |tick l d R nk' ne' w hk'=>omega
  |query n hk'=>omega
  |drain m hk'=>omega
  |ack hk'=>omega
 rw [show(c.1==ofNat 2)=false by simpa using k2,cond_false]
 by_cases k3:c.1=3
 ·rw [show(c.1==ofNat 3)=true by rw [k3];rfl,cond_true]
  have hst0:=hst
  cases hst with
  |complete n k r' rk' w hk' hf hn hid hi' hkl hrk hh hC hw=>
   obtain⟨⟨i0,hi0,d1,d2⟩,d3⟩:=gS hsx hL hn hkl hh
   exact absurd hi0 (not_lt_zero _)
  |err n=>exact absurd hr (bG rfl)
  |known n hk'=>omega
  |new hk'=>omega
  |poll n k un r' hk'=>omega
  |fail n k t' r' hk'=>omega
  |beat n k un r' hk'=>omega
  |cancel n r' hk'=>omega
  |tick l d R nk' ne' w hk'=>omega
  |query n hk'=>omega
  |drain m hk'=>omega
  |ack hk'=>omega
 rw [show(c.1==ofNat 3)=false by simpa using k3,cond_false]
 by_cases k4:c.1=4
 ·rw [show(c.1==ofNat 4)=true by rw [k4];rfl,cond_true]
  have hst0:=hst
  cases hst with
  |fail n k t' r' hk' hf hn hid hi' hkl hh hfl hT=>
   obtain⟨⟨i0,hi0,d1,d2⟩,d3⟩:=gS hsx hL hn hkl hh
   exact absurd hi0 (not_lt_zero _)
  |err n=>exact absurd hr (bG rfl)
  |known n hk'=>omega
  |new hk'=>omega
  |poll n k un r' hk'=>omega
  |complete n k r' rk' w hk'=>omega
  |beat n k un r' hk'=>omega
  |cancel n r' hk'=>omega
  |tick l d R nk' ne' w hk'=>omega
  |query n hk'=>omega
  |drain m hk'=>omega
  |ack hk'=>omega
 rw [show(c.1==ofNat 4)=false by simpa using k4,cond_false]
 by_cases k5:c.1=5
 ·rw [show(c.1==ofNat 5)=true by rw [k5];rfl,cond_true]
  have hst0:=hst
  cases hst with
  |beat n k un r' hk' hf hn hid hi' hkl hh hun hT=>
   obtain⟨⟨i0,hi0,d1,d2⟩,d3⟩:=gS hsx hL hn hkl hh
   exact absurd hi0 (not_lt_zero _)
  |err n=>exact absurd hr (bG rfl)
  |known n hk'=>omega
  |new hk'=>omega
  |poll n k un r' hk'=>omega
  |complete n k r' rk' w hk'=>omega
  |fail n k t' r' hk'=>omega
  |cancel n r' hk'=>omega
  |tick l d R nk' ne' w hk'=>omega
  |query n hk'=>omega
  |drain m hk'=>omega
  |ack hk'=>omega
 rw [show(c.1==ofNat 5)=false by simpa using k5,cond_false]
 obtain⟨v1,v2⟩:=oL hsx hst hr ⟨k1,k2,k3⟩
 refine⟨runs,[],?_,zY hL v2 v1,by omega⟩
 rw [xU hr0]
theorem adf {cs:List bo} {i:Nat} {ck nr nt nk ne ac:Int} {rs:List am} {es:List aO} {runs:List Sp} {out:List Hd} {t:cg} {r:jI} (hi:i<cs.length) (hi2:i<250) (hr0:runs≠ []) (ho0:out≠ []) (hso:SOk (mk ck nr nt nk ne ac rs es)) (hL:Lz rs nt runs out) (ho:(out:List Hd).length≤i)
  (hdo:jB (mk ck nr nt nk ne ac rs es,cs.getD i (aa af),())=some (t,r,())) (hst:Stp ck nr nt nk ne ac rs es (cs.getD i (aa af)) t r) (hto:SOk t):
  ∃runs' out',bJ (MF cs (i:Int) (mk ck nr nt nk ne ac rs es) runs out)=some (.inl (mD cs ((i+1:Nat):Int) t runs' out'))∧Lz (Aa t) t.2.2.1 runs' out'∧out'.length≤i+1:=by
 have hsx:=po hso
 have h32:=hsx.fine.1
 have hrl:=hL.len
 simp only [mk]at hdo
 have ek:IntKind.i64.wrap ((i:Int)+ofNat 1)=((i+1:Nat):Int):=iJ (by omega) (by omega)
 simp only [bJ,oz,mr,bw hi,aL hi,aF hi,cond_true,toNat_natCast,hdo,bind_some,ek]
 generalize cs.getD i (aa af)=c at hdo hst
 by_cases hr:r.1=0
 case neg=>
  rw [show(r.1 !=ofNat 0)=true by simpa using hr,cond_true]
  cases hst with
  |err n=>exact⟨runs,out,by rw [mz hr0 ho0],hL,by omega⟩
  |_=>exact absurd rfl hr
 rw [show(r.1 !=ofNat 0)=false by rw [hr];rfl,cond_false]
 by_cases k1:c.1=1
 ·rw [show(c.1==ofNat 1)=true by rw [k1];rfl,cond_true]
  rcases vO hsx hL hst hr k1 with⟨n,hn,h1,h2,h3,h4⟩|⟨h3,h4⟩
  ·have hs:=fun z3 ns z6 z7 z8 z9 z10 z11 z13 z14 z15 k2 n2 z18 t2 e2=>Cq runs z3 c.2.1 ns z6 z7 z8 z9 z10 z11 r.2.1 z13 z14 z15 k2 n2 z18 t2 e2 (by omega) n hn h1 h2 h3
   simp only [MC,hs,bind_some,Bool.not_true,cond_false]
   refine⟨runs,out,?_,h4,by omega⟩
   rw [mz hr0 ho0]
  ·have hs:=fun z3 ns z6 z7 z8 z9 z10 z11 z13 z14 z15 k2 n2 z18 t2 e2=>HJ runs z3 c.2.1 ns z6 z7 z8 z9 z10 z11 r.2.1 z13 z14 z15 k2 n2 z18 t2 e2 (by omega) h3
   simp only [MC,hs,bind_some,zero_add,Nat.le_refl,decide_true,cond_true,drop_zero,take_length,la,bW,bp,length_singleton,length_cons,length_nil,ME (show runs.length≤1000 by omega)]
   refine⟨runs++ [(r.2.1,c.2.1,(c.2.2.1.1,()),())],out,?_,h4,by omega⟩
   rw [mz (by simp) ho0]
 rw [show(c.1==ofNat 1)=false by simpa using k1,cond_false]
 by_cases k2:c.1=2
 ·rw [show(c.1==ofNat 2)=true by rw [k2];rfl,cond_true]
  cases hst with
  |poll n k un r' hk' hf hn hkl h1 hun hT=>
   obtain⟨p1,p2,p3,p4,p5⟩:=zZ hsx hL hn hkl h1
   obtain⟨q1,q2⟩:=HK hsx hL hn hkl h1 hT
   obtain⟨e1,e2,e3⟩:=hL.is n hn
   have hn':n<runs.length:=by omega
   have hf49:Cf (runs,(rs.getD n (aa ae)).1,())=some ((n:Int),()):=by
    rw [←e1]
    refine f49 runs (by omega) n hn' fun m hm=> ?_
    rw [(hL.is m (by omega)).1,e1]
    have:=hsx.fine.2.up m n hm hn
    omega
   have hkn:k<length (runs.getD n (aa bf)).2.2.1.1:=p1
   simp only [gU,zero_add,Nat.le_refl,decide_true,cond_true,drop_zero,take_length,hf49,bind_some,decide_eq_false (show¬(n:Int)<ofNat 0 by simp only [bm];omega),decide_eq_false (show¬(k:Int)<ofNat 0 by simp only [bm];omega),cond_false,aL hn',aF hn',toNat_natCast,decide_eq_false (show¬(k:Int)≥((length (runs.getD n (aa bf)).2.2.1.1:Nat):Int) by omega),aL hkn,aF hkn]
   have hnd:=fun z4 z6 z8 k9 n10 z11 pc e13 z15 z16=>Tx out runs z4 (rs.getD n (aa ae)).1 z6 nt z8 k9 n10 z11 pc e13 _ z15 z16 (by omega) p2 p4
   have htk:=fun z4 z6 z8 k9 n10 z11 pc e13 ns z15 z16=>aau out runs z4 (rs.getD n (aa ae)).1 z6 nt z8 k9 n10 z11 pc e13 ns z15 z16 (by omega) p5
   obtain⟨w,hw,hq⟩:=f18 out (by omega) (rs.getD n (aa ae)).1 (k:Int)
   simp only [ee]at hnd
   simp only [hnd,htk,bind_some,zero_add,Nat.le_refl,decide_true,cond_true,drop_zero,take_length,hw]
   rcases hq with⟨j,rfl,hj,a1,a2⟩|⟨rfl,hno⟩
   ·obtain⟨b1,b2,b3,b4⟩:=q2 j hj a1 a2
    have hout:out.length≤250:=by omega
    have hj':=hj
    have tm:(out.getD j hz).2.2.2.1≤5:=by
     have:=(rR (hsx.rok hn) hkl).1
     omega
    have ew:IntKind.i64.wrap ((out.getD j (aa ai)).2.2.2.1+ofNat 1)=(out.getD j hz).2.2.2.1+1:=by
     rw [IntKind.wrap_i64];simp only [bm]
     simp only [hz]at*
     omega
    have hnd2:(getD (runs.getD n (aa bf)).2.2.1.1 k (aa ah)).2.1=(dC (rs.getD n (aa ae)) k).2.1:=by
     have:=congrArg (fun x:aR=>x.2.1) p3
     exact this
    have gs:∀v:Hd,(out.set j v).getD j (aa ai)=v:=fun v=>by rw [dP hj,if_pos rfl]
    rw [decide_eq_false (show¬(j:Int)<ofNat 0 by simp only [bm];omega),cond_false]
    simp only [aL hj,aF hj,cond_true,toNat_natCast,length_set,gs,List.set_set,ew,show(out.getD j (aa ai)).2.2.2.2.1=false from b1,Bool.not_false,hnd2,decide_eq_true b2,Bool.not_true,cond_false]
    refine⟨runs,_,?_,b4,by rw [length_set];omega⟩
    rw [mz hr0 (by intro h;have:=congrArg length h;rw [length_set]at this;exact ho0 (List.eq_nil_of_length_eq_zero this))]
    simp only [MF,length_set]
    rw [show(out.getD j hz).2.2.2.2.1=false from b1]
   ·rw [decide_eq_true (show negSucc 0<ofNat 0 by decide),cond_true]
    simp only [la,bW,bp,length_singleton,length_cons,length_nil,zero_add,aav (show out.length≤1000 by omega),cond_true]
    refine⟨runs,_,?_,q1 hno,by rw [length_append,length_singleton];omega⟩
    rw [mz hr0 (by simp)]
  |err n=>exact absurd hr (bG rfl)
  |known n hk'=>omega
  |new hk'=>omega
  |complete n k r' rk' w hk'=>omega
  |fail n k t' r' hk'=>omega
  |beat n k un r' hk'=>omega
  |cancel n r' hk'=>omega
  |tick l d R nk' ne' w hk'=>omega
  |query n hk'=>omega
  |drain m hk'=>omega
  |ack hk'=>omega
 rw [show(c.1==ofNat 2)=false by simpa using k2,cond_false]
 by_cases k3:c.1=3
 ·rw [show(c.1==ofNat 3)=true by rw [k3];rfl,cond_true]
  have hst0:=hst
  cases hst with
  |complete n k r' rk' w hk' hf hn hid hi' hkl hrk hh hC hw=>
   obtain⟨⟨i0,hi0,d1,d2⟩,d3⟩:=gS hsx hL hn hkl hh
   obtain⟨w0,hw0,hq⟩:=f18 out (by omega) c.2.2.2.1 c.2.2.2.2.1
   simp only [zero_add,Nat.le_refl,decide_true,cond_true,drop_zero,take_length,hw0,bind_some]
   rcases hq with⟨j,rfl,hj,a1,a2⟩|⟨_,hno⟩
   ·obtain⟨b1,b2⟩:=d3 j hj (by rw [a1,hid]) (by rw [a2,hi'])
    simp only [decide_eq_true (show(j:Int)≥ofNat 0 by simp only [bm];omega),aL hj,aF hj,cond_true,toNat_natCast,show(out.getD j (aa ai)).2.2.2.2.1=false from b1,Bool.not_false,show((out.getD j (aa ai)).2.2.1==c.2.2.2.2.2.1)=true by simpa using b2,Bool.not_true,cond_false,show(c.1==ofNat 3)=true by rw [k3];rfl]
    refine⟨runs,_,?_,Gv hsx hL hn hkl hrk hh hC hj (by rw [a1,hid]) (by rw [a2,hi']),by rw [length_set];omega⟩
    rw [mz hr0 (by intro h;have:=congrArg length h;rw [length_set]at this;exact ho0 (List.eq_nil_of_length_eq_zero this))]
    simp only [MF,length_set]
   ·exact absurd ⟨by rw [d1,hid],by rw [d2,hi']⟩ (hno i0 hi0)
  |err n=>exact absurd hr (bG rfl)
  |known n hk'=>omega
  |new hk'=>omega
  |poll n k un r' hk'=>omega
  |fail n k t' r' hk'=>omega
  |beat n k un r' hk'=>omega
  |cancel n r' hk'=>omega
  |tick l d R nk' ne' w hk'=>omega
  |query n hk'=>omega
  |drain m hk'=>omega
  |ack hk'=>omega
 rw [show(c.1==ofNat 3)=false by simpa using k3,cond_false]
 by_cases k4:c.1=4
 ·rw [show(c.1==ofNat 4)=true by rw [k4];rfl,cond_true]
  have hst0:=hst
  cases hst with
  |fail n k t' r' hk' hf hn hid hi' hkl hh hfl hT=>
   obtain⟨⟨i0,hi0,d1,d2⟩,d3⟩:=gS hsx hL hn hkl hh
   obtain⟨w0,hw0,hq⟩:=f18 out (by omega) c.2.2.2.1 c.2.2.2.2.1
   simp only [zero_add,Nat.le_refl,decide_true,cond_true,drop_zero,take_length,hw0,bind_some]
   rcases hq with⟨j,rfl,hj,a1,a2⟩|⟨_,hno⟩
   ·obtain⟨b1,b2⟩:=d3 j hj (by rw [a1,hid]) (by rw [a2,hi'])
    simp only [decide_eq_true (show(j:Int)≥ofNat 0 by simp only [bm];omega),aL hj,aF hj,cond_true,toNat_natCast,show(out.getD j (aa ai)).2.2.2.2.1=false from b1,Bool.not_false,show((out.getD j (aa ai)).2.2.1==c.2.2.2.2.2.1)=true by simpa using b2,Bool.not_true,cond_false,show(c.1==ofNat 3)=false by simpa using k3]
    obtain⟨v1,v2⟩:=oL hsx hst0 rfl ⟨k1,k2,k3⟩
    refine⟨runs,out,?_,zY hL v2 v1,by omega⟩
    rw [mz hr0 ho0]
   ·exact absurd ⟨by rw [d1,hid],by rw [d2,hi']⟩ (hno i0 hi0)
  |err n=>exact absurd hr (bG rfl)
  |known n hk'=>omega
  |new hk'=>omega
  |poll n k un r' hk'=>omega
  |complete n k r' rk' w hk'=>omega
  |beat n k un r' hk'=>omega
  |cancel n r' hk'=>omega
  |tick l d R nk' ne' w hk'=>omega
  |query n hk'=>omega
  |drain m hk'=>omega
  |ack hk'=>omega
 rw [show(c.1==ofNat 4)=false by simpa using k4,cond_false]
 by_cases k5:c.1=5
 ·rw [show(c.1==ofNat 5)=true by rw [k5];rfl,cond_true]
  have hst0:=hst
  cases hst with
  |beat n k un r' hk' hf hn hid hi' hkl hh hun hT=>
   obtain⟨⟨i0,hi0,d1,d2⟩,d3⟩:=gS hsx hL hn hkl hh
   obtain⟨w0,hw0,hq⟩:=f18 out (by omega) c.2.2.2.1 c.2.2.2.2.1
   simp only [zero_add,Nat.le_refl,decide_true,cond_true,drop_zero,take_length,hw0,bind_some]
   rcases hq with⟨j,rfl,hj,a1,a2⟩|⟨_,hno⟩
   ·obtain⟨b1,b2⟩:=d3 j hj (by rw [a1,hid]) (by rw [a2,hi'])
    simp only [decide_eq_true (show(j:Int)≥ofNat 0 by simp only [bm];omega),aL hj,aF hj,cond_true,toNat_natCast,show(out.getD j (aa ai)).2.2.2.2.1=false from b1,Bool.not_false,show((out.getD j (aa ai)).2.2.1==c.2.2.2.2.2.1)=true by simpa using b2,Bool.not_true,cond_false,show(c.1==ofNat 3)=false by simpa using k3]
    obtain⟨v1,v2⟩:=oL hsx hst0 rfl ⟨k1,k2,k3⟩
    refine⟨runs,out,?_,zY hL v2 v1,by omega⟩
    rw [mz hr0 ho0]
   ·exact absurd ⟨by rw [d1,hid],by rw [d2,hi']⟩ (hno i0 hi0)
  |err n=>exact absurd hr (bG rfl)
  |known n hk'=>omega
  |new hk'=>omega
  |poll n k un r' hk'=>omega
  |complete n k r' rk' w hk'=>omega
  |fail n k t' r' hk'=>omega
  |cancel n r' hk'=>omega
  |tick l d R nk' ne' w hk'=>omega
  |query n hk'=>omega
  |drain m hk'=>omega
  |ack hk'=>omega
 rw [show(c.1==ofNat 5)=false by simpa using k5,cond_false]
 obtain⟨v1,v2⟩:=oL hsx hst hr ⟨k1,k2,k3⟩
 refine⟨runs,out,?_,zY hL v2 v1,by omega⟩
 rw [mz hr0 ho0]
abbrev ag4 {α β:Type} (f:α→Option β):Type:=β
noncomputable def eS (y:ag4 jE):Option (Bool×Unit):=(match y with| .inl a556=>some (a556.1,())| .inr b556=>(match b556 with| .inl a558=>some (a558.1,())| .inr b558=>(match b558 with| .inl a560=>(mB (a560,())).bind fun y561=>some (y561.1==ofNat 0,())| .inr b560=>(match b560 with| .inl a563=>some (a563.1,())| .inr b563=>(match b563 with| .inl a565=>some (a565.1,())| .inr b565=>(match b565 with| .inl a567=>some (a567.1,())| .inr b567=>(match b567 with| .inl a569=>some (a569.1,())| .inr b569=>(match b569 with| .inl a571=>(mB ((a571.1,a571.2.1,a571.2.2.1,a571.2.2.2.1,a571.2.2.2.2.1,a571.2.2.2.2.2.1,a571.2.2.2.2.2.2.1,a571.2.2.2.2.2.2.2.1,()),())).bind fun y572=>some (y572.1==ofNat 0,())| .inr b571=>(match b571 with| .inl a574=>some (a574.1,())| .inr b574=>(match b574 with| .inl a576=>some (a576.1,())| .inr b576=>(match b576 with| .inl a578=>some (a578.1,())| .inr b578=>(match b578 with| .inl a580=>some (a580.1,())| .inr b580=>(mB ((b580.1,b580.2.1,b580.2.2.1,b580.2.2.2.1,b580.2.2.2.2.1,b580.2.2.2.2.2.1,b580.2.2.2.2.2.2.1,b580.2.2.2.2.2.2.2.1,()),())).bind fun y582=>some (y582.1==ofNat 0,())))))))))))))
theorem f13 (cs:List bo) (hn:∀c∈cs,c.2.2.1.1.length≤9223372036854775807):∃b,PN (cs,ofNat 250,())=some (b,())∧(b=false→cs.length≤250∧∀i,i<cs.length→FQ (cs.getD i (aa af)).2.2.1.1):=by
 simp only [PN]
 by_cases c1:((cs.length:Nat):Int)>ofNat 250
 ·rw [decide_eq_true c1];exact⟨_,rfl,fun h=>nomatch h⟩
 ·rw [decide_eq_false c1]
  obtain⟨y,hy,hq⟩:=ba (st:=gy) cs.length (fun i (_:Unit)=>(cs,(i:Int),())) (fun m _=>∀i,i<m→FQ (cs.getD i (aa af)).2.2.1.1)
   (fun y=>(∃z,y= .inl (true,z))∨((∃z,y= .inr z)∧∀i,i<cs.length→FQ (cs.getD i (aa af)).2.2.1.1)) (fun i _ h hx=>by
    obtain⟨b,hb,hb2⟩:=f45 (cs.getD i (aa af)).2.2.1.1 (hn _ (by rw [getD_eq_getElem?_getD,List.getElem?_eq_getElem h];exact List.getElem_mem h))
    have hb':Mb ((cs.getD i (aa af)).2.2.1,())=some (b,()):=hb
    simp only [gy,lY,bw h,aL h,aF h,cond_true,toNat_natCast,hb',bind_some]
    cases b with
    |true=>exact .inr ⟨_,rfl,.inl ⟨_,rfl⟩⟩
    |false=>
     simp only [cond_false]
     rw [aY (by simp only [bm]at c1;omega)]
     by_cases c:((ByteArray.size (cs.getD i (aa af)).2.1:Nat):Int)>ofNat 1000
     ·rw [decide_eq_true c];exact .inr ⟨_,rfl,.inl ⟨_,rfl⟩⟩
     ·rw [decide_eq_false c];exact .inl ⟨(),rfl,cV hx (hb2 rfl)⟩) (fun _ hx=>⟨.inr (),by simp only [gy,lY,bv,cond_false],.inr ⟨⟨_,rfl⟩,hx⟩⟩) () (fun k h=>absurd h (not_lt_zero _))
  have hy':pC (cs,ofNat 0,())=some y:=hy
  simp only [cond_false,hy',bind_some]
  rcases hq with⟨z,rfl⟩|⟨⟨z,rfl⟩,hq⟩
  ·exact⟨_,rfl,fun h=>nomatch h⟩
  ·exact⟨_,rfl,fun _=>⟨by simp only [bm]at c1;omega,hq⟩⟩
structure Inv (i:Nat) (x:cg×List Sp×List Hd):Prop where
 ok:SOk x.1
 lz:Lz (Aa x.1) x.1.2.2.1 x.2.1 x.2.2
 few:x.2.2.length≤i
theorem ag5 {t:cg} (h:SOk t):mB (t,())=some (0,()):=Kj h (by have:=h.fine.1;omega) fun r hr=>by
 obtain⟨j,hj,rfl⟩:=List.mem_iff_getElem.1 hr
 rw [←bD hj (aa ae)]
 exact mY (h.fine.2.chk j hj)
theorem step {cs:List bo} (hcs:cs.length≤250) (hnd:∀c∈cs,∀nd∈c.2.2.1.1,nd.1.length≤9223372036854775807) {i:Nat} (hi:i<cs.length) {x:cg×List Sp×List Hd} (hx:Inv i x):
  ∃x',bJ (mD cs (i:Int) x.1 x.2.1 x.2.2)=some (.inl (mD cs ((i+1:Nat):Int) x'.1 x'.2.1 x'.2.2))∧Inv (i+1) x':=by
 obtain⟨s,runs,out⟩:=x
 obtain⟨hso,hL,hfew⟩:=hx
 simp only at hso hL hfew
 obtain⟨ck,nr,nt,nk,ne,ac,rs,es,_⟩:=s
 simp only [Aa]at hL
 have hr:∀r∈rs,bK r:=fun r hr=>by
  obtain⟨j,hj,rfl⟩:=List.mem_iff_getElem.1 hr
  rw [←bD hj (aa ae)]
  exact mY (hso.fine.2.chk j hj)
 obtain⟨v,hv,t,r,hdo,hq⟩:=ada (mk ck nr nt nk ne ac rs es) (cs.getD i (aa af)) (by have:=hso.fine.1;simp only [mk]at this⊢;omega) hr (hnd _ (aG hi _))
 rcases hq with⟨_,_,hst,h40⟩|⟨_,hn,_⟩
 ·have hto:=ZB (ZF (po hso) hst).1 h40
  have fin_:(∃runs' out',bJ (mD cs (i:Int) (mk ck nr nt nk ne ac rs es) runs out)=some (.inl (mD cs ((i+1:Nat):Int) t runs' out'))∧Lz (Aa t) t.2.2.1 runs' out'∧out'.length≤i+1)→∃x',bJ (mD cs (i:Int) (mk ck nr nt nk ne ac rs es) runs out)=some (.inl (mD cs ((i+1:Nat):Int) x'.1 x'.2.1 x'.2.2))∧Inv (i+1) x':=fun⟨runs',out',h1,h2,h3⟩=>⟨(t,runs',out'),h1,hto,h2,h3⟩
  refine fin_ ?_
  by_cases h1:runs= []
  ·subst h1
   have h2:out= []:=by
    cases out with
    |nil=>rfl
    |cons a l=>
     obtain⟨a,k,ha,_⟩:=hL.of 0 (by simp)
     rw [MG hL]at ha
     exact absurd ha (not_lt_zero _)
   subst h2
   exact adc hi (by omega) hso hL hfew hdo hst hto
  ·by_cases h2:out= []
   ·subst h2
    rw [xU h1]
    exact ade hi (by omega) h1 hso hL hfew hdo hst hto
   ·rw [mz h1 h2]
    exact adf hi (by omega) h1 h2 hso hL hfew hdo hst hto
 ·exact absurd hso hn
theorem ag6:Inv 0 (vM,[],[]):=by
 refine⟨sok0,⟨rfl,fun a h=>absurd h (not_lt_zero _),fun i h=>absurd h (not_lt_zero _),fun i j _ h=>absurd h (not_lt_zero _),fun a k h=>absurd h (not_lt_zero _)⟩,Nat.le_refl _⟩
theorem loop {cs:List bo} (hcs:cs.length≤250) (hnd:∀c∈cs,∀nd∈c.2.2.1.1,nd.1.length≤9223372036854775807):
  ∃y,jE (mD cs ((0:Nat):Int) vM [] [])=some y∧eS y=some (true,()):=by
 refine ba (st:=bJ) cs.length (fun k (x:cg×List Sp×List Hd)=>mD cs (k:Int) x.1 x.2.1 x.2.2) Inv (fun y=>eS y=some (true,())) (fun k x h hx=>.inl (step hcs hnd h hx)) (fun x hx=> ?_) (vM,[],[]) ag6
 obtain⟨s,runs,out⟩:=x
 obtain⟨hso,hL,hfew⟩:=hx
 simp only at hso hL hfew
 have wZ:=ag5 hso
 obtain⟨ck,nr,nt,nk,ne,ac,rs,es,_⟩:=s
 by_cases h1:runs= []
 ·subst h1
  refine⟨_,by simp only [mD,if_true,bJ,ot,bv,cond_false];rfl,?_⟩
  simp only [eS,wZ,bind_some]
  rfl
 ·by_cases h2:out= []
  ·subst h2
   refine⟨_,by simp only [xU h1,bJ,ov,mq,bv,cond_false];rfl,?_⟩
   simp only [eS,wZ,bind_some]
   rfl
  ·refine⟨_,by simp only [mz h1 h2,bJ,oz,mr,bv,cond_false];rfl,?_⟩
   simp only [eS,wZ,bind_some]
   rfl
theorem f3 (cs:List bo) (hn:∀c∈cs,c.2.2.1.1.length≤9223372036854775807∧∀nd∈c.2.2.1.1,nd.1.length≤9223372036854775807):F3 (cs,())=some (true,()):=by
 obtain⟨b,hb,hb2⟩:=f13 cs fun c hc=>(hn c hc).1
 simp only [F3,alive,hb,bind_some,Bool.not_true,cond_false]
 cases b with
 |true=>rfl
 |false=>
  obtain⟨y,hy,hq⟩:=loop (hb2 rfl).1 fun c hc=>(hn c hc).2
  have hy':jE (.inl (cs,ofNat 0,ofNat 0,ofNat 0,ofNat 1,ofNat 0,ofNat 1,ofNat 0,[],[],()))=some y:=hy
  simp only [cond_false,Ma,bind_some,hy']
  exact hq
theorem pure:∀x:aN (.cons (.row af) .nil),uL (.cons (.row af) .nil) x→∃y,F3 x=some y∧y.1=true:=by
 intro x hx
 obtain⟨cs,_⟩:=x
 obtain⟨⟨h1,h2⟩,_⟩:=hx
 refine⟨_,f3 cs fun c hc=> ?_,rfl⟩
 obtain⟨_,_,⟨⟨h3,h4⟩,_⟩,_⟩:=h2 c hc
 exact⟨h3,fun nd hnd=>(h4 nd hnd).1.1⟩
end Go.Proofs.YtbkjflfbgknagaaGreat.modelLeases.Code
