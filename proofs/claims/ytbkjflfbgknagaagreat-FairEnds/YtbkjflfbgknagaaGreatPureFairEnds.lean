import Derived.Test.YtbkjflfbgknagaaGreatPureFairEnds0
set_option maxRecDepth 100000
set_option linter.unusedVariables false
set_option linter.unusedSimpArgs false
set_option linter.constructorNameAsVariable false
namespace Go.Proofs.YtbkjflfbgknagaaGreat.fairEnds.Code
open Go Go.Am
open List (length_set mem_set replicate length_append length_singleton append_nil length_drop take take_of_length_le take_length isEmpty isEmpty_nil length_cons length_nil drop_zero drop getD isEmpty_cons not_mem_nil)
open Option (bind_some)
open Int (ofNat le_refl natCast_nonneg toNat_natCast le_trans tmod)
open Nat (not_lt_zero lt_succ_self zero_add lt_trichotomy sub_zero)
abbrev bh (r:aj) (j:Nat):an:=r.2.2.2.2.1.getD j (aa ae)
abbrev bM (r:aj) (j:Nat):aO:=r.2.2.1.1.getD j (aa af)
theorem ba {a b:Int} (h:decide (a=b)=false):¬a=b:=of_decide_eq_false h
theorem dM:bU (ofNat 0):=by decide
theorem Zg {nd:aO} {t:an} (h:cg nd t):cg nd (dr t):=
 ⟨h.1,dM,dM,dM,fun h=>absurd rfl h,fun h=>absurd rfl h,⟨fun h=>absurd rfl h,fun h=>absurd h (ba rfl)⟩,.inr (.inr (.inr (.inr (.inr (.inr rfl)))))⟩
theorem zd {nd:aO} {t:an} (h:cg nd t):0≤t.1∧t.1≤6:=by
 obtain⟨_,_,_,_,_,_,_,h⟩:=h
 omega
theorem vu {A B:List an} {nd:aO} (h:∀j:Nat,(A.getD j (aa ae)).1=4↔(B.getD j (aa ae)).1=4):gj A nd↔gj B nd:=
 ⟨fun h2 v hv=>(h _).1 (h2 v hv),fun h2 v hv=>(h _).2 (h2 v hv)⟩
theorem ze {l:List an} {t:an} (h:t∈l):∃j:Nat,j<l.length∧l.getD j (aa ae)=t:=by
 obtain⟨j,hj,rfl⟩:=List.getElem_of_mem h
 exact⟨j,hj,bB hj _⟩
theorem cY {r:aj} (h:ROk r) {k:Nat} (hk:k<r.2.2.2.2.1.length) (hs:(bh r k).1≤3):r.2.2.2.1=1:=by
 have hm:=aD hk (aa ae)
 unfold bh at hs
 rcases h.st with⟨h1,_⟩|⟨_,h2⟩|⟨_,_,h2⟩|⟨_,_,h2⟩
 ·exact h1
 ·have:=h2 _ hm;omega
 ·have:=h2 _ hm;omega
 ·have:=h2 _ hm;omega
theorem Ha {ns:List aO} {ts ts':List an} (hl:ts.length=ns.length) (ht:∀i:Nat,i<ts.length→cg (ns.getD i (aa af)) (ts.getD i (aa ae))) (h:lH ns ts ts'):∀i:Nat,i<ts'.length→cg (ns.getD i (aa af)) (ts'.getD i (aa ae))∧((ts'.getD i (aa ae)).1=4∨(ts'.getD i (aa ae)).1=5∨(ts'.getD i (aa ae)).1=6):=fun i hi=>by
 rw [h.1]at hi
 rcases h.2 i hi with⟨h1,h2⟩|⟨h1,h2⟩
 ·rw [h2]
  refine⟨ht i hi,?_⟩
  by_cases c4:(ts.getD i (aa ae)).1=4
  ·exact .inl c4
  by_cases c5:(ts.getD i (aa ae)).1=5
  ·exact .inr (.inl c5)
  by_cases c6:(ts.getD i (aa ae)).1=6
  ·exact .inr (.inr c6)
  exact absurd ⟨ht i hi,c4,c5,c6⟩ h1
 ·rw [h2]
  exact⟨Zg h1.1,.inr (.inr rfl)⟩
theorem oA {r r':aj} {k:Nat} {t':an} (h:ROk r) (h1:r.2.2.2.1=1) (hk:k<r.2.2.2.2.1.length) (h0:(bh r k).1≠0) (h4:(bh r k).1≠4) (ht:cg (bM r k) t') (n0:t'.1≠0) (n4:t'.1≠4) (n6:t'.1≠6) (hT:Turn r k t' r'):ROk r':=by
 obtain⟨id,key,⟨ns,_⟩,st,ts,_⟩:=r
 obtain⟨id',key',ns',st',ts',_⟩:=r'
 obtain⟨e1,e2,e3,e4,_,how⟩:=hT
 simp only at e1 e2 e3 e4 how h1 hk
 subst e1 e2 e3 h1
 obtain⟨q1,q2,q3,q4,q5,q6⟩:=h
 simp only at q1 q2 q3 q4 q5 q6
 simp only [bh,bM]at h0 h4 ht
 have hset:∀i:Nat,i<(ts.set k t').length→cg (ns.getD i (aa af)) ((ts.set k t').getD i (aa ae)):=fun i hi=>by
  rw [length_set]at hi
  rw [bq hk]
  split
  ·rename_i c;rw [c];exact ht
  ·exact q5 i hi
 rcases how with⟨c5,rfl,hd⟩|⟨c5,rfl,how⟩
 ·have hts:=Ha (by rw [length_set];exact q4) hset hd
  refine⟨q1,q2,q3,by simp only;omega,fun i hi=>(hts i hi).1,.inr (.inr (.inl ⟨rfl,⟨t',?_,c5⟩,gS fun i hi=>(hts i hi).2⟩))⟩
  rcases hd.2 k (by rw [length_set];exact hk)with⟨_,h2⟩|⟨h2,_⟩
  ·rw [bq hk,if_pos rfl]at h2
   rw [←h2]
   exact aD (by rw [hd.1,length_set];exact hk) _
  ·rw [bq hk,if_pos rfl]at h2
   exact absurd c5 h2.2.2.1
 ·have hmem:t'∈ts.set k t':=mem_set hk t'
  rcases how with⟨h2,_⟩|⟨h2,rfl⟩
  ·exact absurd (h2 t' hmem) n4
  ·rcases q6 with⟨_,hm,_,hn⟩|⟨h3,_⟩|⟨h3,_⟩|⟨h3,_⟩
   ·refine⟨q1,q2,q3,by simp only;rw [length_set];exact q4,hset,.inl ⟨rfl,fun i hi=> ?_,h2,fun⟨t,ht,h5⟩=> ?_⟩⟩
    ·rw [vu (B:=ts) fun j=>by
      rw [bq hk]
      split
      ·rename_i c;rw [c];exact⟨fun h=>absurd h n4,fun h=>absurd h h4⟩
      ·exact Iff.rfl]
     rw [hm i hi,bq hk]
     split
     ·rename_i c;rw [c];exact⟨fun _=>n0,fun _=>h0⟩
     ·exact Iff.rfl
    ·rcases List.mem_or_eq_of_mem_set ht with h6|rfl
     ·exact hn ⟨t,h6,h5⟩
     ·omega
   ·exact absurd h3 (ba rfl)
   ·exact absurd h3 (ba rfl)
   ·exact absurd h3 (ba rfl)
theorem JK {r r':aj} (h:ROk r) (h1:r.2.2.2.1=1) (e1:r'.1=r.1) (e2:r'.2.1=r.2.1) (e3:r'.2.2.1=r.2.2.1) (e4:r'.2.2.2.1=4) (hd:lH r.2.2.1.1 r.2.2.2.2.1 r'.2.2.2.2.1):ROk r':=by
 obtain⟨id,key,⟨ns,_⟩,st,ts,_⟩:=r
 obtain⟨id',key',ns',st',ts',_⟩:=r'
 simp only at e1 e2 e3 e4 hd h1
 subst e1 e2 e3 e4 h1
 obtain⟨q1,q2,q3,q4,q5,q6⟩:=h
 simp only at q1 q2 q3 q4 q5 q6
 have hts:=Ha q4 q5 hd
 rcases q6 with⟨_,hm,h4,hn⟩|⟨h3,_⟩|⟨h3,_⟩|⟨h3,_⟩
 ·refine⟨q1,q2,q3,by rw [←q4];exact hd.1,fun i hi=>(hts i hi).1,.inr (.inr (.inr ⟨rfl,?_,gS fun i hi=> ?_⟩))⟩
  ·obtain⟨k,hk,h5⟩:∃k:Nat,k<ts.length∧(ts.getD k (aa ae)).1≠4:=Classical.byContradiction fun hc=>h4 (gS fun j hj=>Classical.byContradiction fun h=>hc ⟨j,hj,h⟩)
   have hk':k<ts'.length:=by rw [hd.1];exact hk
   refine⟨_,aD hk' (aa ae),?_⟩
   rcases hd.2 k hk with⟨_,h2⟩|⟨_,h2⟩
   ·rw [h2]
    have h6:=(hts k hk').2
    rw [h2]at h6
    have:¬(ts.getD k (aa ae)).1=5:=fun h=>hn ⟨_,aD hk _,.inl h⟩
    omega
   ·rw [h2];rfl
  ·have h6:=(hts i hi).2
   rw [hd.1]at hi
   rcases hd.2 i hi with⟨_,h2⟩|⟨_,h2⟩
   ·rw [h2]at h6⊢
    have:¬(ts.getD i (aa ae)).1=5:=fun h=>hn ⟨_,aD hi _,.inl h⟩
    omega
   ·rw [h2];exact .inr rfl
 ·exact absurd h3 (ba rfl)
 ·exact absurd h3 (ba rfl)
 ·exact absurd h3 (ba rfl)
structure OpnP (ns:List aO) (rk:Int) (ts:List an) (j:Nat) (S:Int×List an):Prop where
 lo:rk≤S.1
 hi:S.1≤rk+j
 len:S.2.length=ts.length
 is:∀i:Nat,i<ts.length→(¬(i<j∧(ts.getD i (aa ae)).1=0∧gj ts (ns.getD i (aa af)))∧S.2.getD i (aa ae)=ts.getD i (aa ae))∨((i<j∧(ts.getD i (aa ae)).1=0∧gj ts (ns.getD i (aa af)))∧∃ρ:Int,S.2.getD i (aa ae)=(ofNat 1,ofNat 0,ofNat 0,ofNat 0,ρ,())∧rk≤ρ∧ρ<S.1)
 up:∀i i':Nat,i<i'→i'<ts.length→(ts.getD i (aa ae)).1=0→(S.2.getD i (aa ae)).1=1→(ts.getD i' (aa ae)).1=0→(S.2.getD i' (aa ae)).1=1→dK (S.2.getD i (aa ae))<dK (S.2.getD i' (aa ae))
theorem OpnP.four {ns:List aO} {rk:Int} {ts:List an} {j:Nat} {S:Int×List an} (h:OpnP ns rk ts j S) (i:Nat):(S.2.getD i (aa ae)).1=4↔(ts.getD i (aa ae)).1=4:=by
 by_cases hi:i<ts.length
 ·rcases h.is i hi with⟨_,h2⟩|⟨⟨_,h0,_⟩,ρ,h2,_⟩
  ·rw [h2]
  ·rw [h2,h0];exact⟨fun h=>absurd h (ba rfl),fun h=>absurd h (ba rfl)⟩
 ·have h1:S.2.length≤i:=by have:=h.len;omega
  rw [List.getD_eq_getElem?_getD,List.getElem?_eq_none h1,List.getD_eq_getElem?_getD,List.getElem?_eq_none (by omega)]
theorem Fx {ns:List aO} {rk:Int} {ts:List an} (hl:ts.length=ns.length) (h0:0≤rk) (h1:rk+ns.length≤1099511627776) (ht:∀i:Nat,i<ts.length→cg (ns.getD i (aa af)) (ts.getD i (aa ae))):∀j:Nat,j≤ns.length→OpnP ns rk ts j (opn ns (rk,ts) j)
 |0,_=>⟨le_refl _,by simp only [opn];omega,rfl,fun i hi=>.inl ⟨fun h=>absurd h.1 (not_lt_zero _),rfl⟩,fun i i' _ _ h1 h2=>by
   simp only [opn]at h2;omega⟩
 |j+1,hj=>by
  have ih:=Fx hl h0 h1 ht j (by omega)
  rw [opn]
  generalize hS:opn ns (rk,ts) j=S at ih
  have hjt:j<ts.length:=by omega
  have hSj:S.2.getD j (aa ae)=ts.getD j (aa ae):=by
   rcases ih.is j hjt with⟨_,h2⟩|⟨⟨h2,_⟩,_⟩
   ·exact h2
   ·exact absurd h2 (Nat.lt_irrefl _)
  have hmet:gj S.2 (ns.getD j (aa af))↔gj ts (ns.getD j (aa af)):=vu ih.four
  rw [hSj,hmet]
  have hlo:=ih.lo
  have hhi:=ih.hi
  have hjS:j<S.2.length:=by rw [ih.len];exact hjt
  by_cases c:(ts.getD j (aa ae)).1=0∧gj ts (ns.getD j (aa af))
  ·have hc:bU S.1:=⟨by omega,by omega⟩
   have hw:IntKind.i64.wrap (S.1+ofNat 1)=S.1+1:=by rw [IntKind.wrap_i64];simp only [aF];omega
   rw [if_pos c,if_pos ⟨hc,ht j hjt⟩,hw]
   refine⟨by simp only;omega,by simp only;omega,by simp only;rw [length_set];exact ih.len,fun i hi=> ?_,fun i i' hii hi' z1 z2 z3 z4=> ?_⟩
   ·simp only
    rw [bq hjS]
    by_cases e:i=j
    ·subst e
     rw [if_pos rfl]
     exact .inr ⟨⟨lt_succ_self _,c⟩,_,rfl,hlo,by omega⟩
    ·rw [if_neg e]
     rcases ih.is i hi with⟨h2,h3⟩|⟨⟨h2,h3⟩,ρ,h4,h5,h6⟩
     ·exact .inl ⟨fun h=>h2 ⟨by omega,h.2⟩,h3⟩
     ·exact .inr ⟨⟨by omega,h3⟩,ρ,h4,h5,by omega⟩
   ·simp only at z2 z4⊢
    rw [bq hjS]at z2 z4⊢
    rw [bq hjS]
    have far:∀a:Nat,a<ts.length→(ts.getD a (aa ae)).1=0→(S.2.getD a (aa ae)).1=1→a<j∧dK (S.2.getD a (aa ae))<S.1:=fun a ha y1 y2=>by
     rcases ih.is a ha with⟨h2,h3⟩|⟨⟨h2,h3⟩,ρ,h4,h5,h6⟩
     ·rw [h3,y1]at y2;exact absurd y2 (ba rfl)
     ·rw [h4];exact⟨h2,h6⟩
    by_cases e:i=j
    ·subst e
     rw [if_neg (by omega)]at z4
     have:=(far i' hi' z3 z4).1
     omega
    ·rw [if_neg e]at z2⊢
     by_cases e':i'=j
     ·subst e'
      rw [if_pos rfl]
      exact(far i (by omega) z1 z2).2
     ·rw [if_neg e']at z4⊢
      exact ih.up i i' hii hi' z1 z2 z3 z4
  ·rw [if_neg c]
   refine⟨hlo,by omega,ih.len,fun i hi=> ?_,ih.up⟩
   rcases ih.is i hi with⟨h2,h3⟩|⟨⟨h2,h3⟩,h4⟩
   ·refine .inl ⟨fun h=> ?_,h3⟩
    by_cases e:i=j
    ·subst e;exact c h.2
    ·exact h2 ⟨by omega,h.2⟩
   ·exact .inr ⟨⟨by omega,h3⟩,h4⟩
theorem Hb {ns:List aO} {rk:Int} {ts:List an} {S:Int×List an} (hn:∀i:Nat,i<ns.length→dX (ns.getD i (aa af))) (hl:ts.length=ns.length) (h0:0≤rk) (h1:rk+ns.length≤1099511627776) (ht:∀i:Nat,i<ts.length→cg (ns.getD i (aa af)) (ts.getD i (aa ae))) (h:OpnP ns rk ts ns.length S):∀i:Nat,i<S.2.length→cg (ns.getD i (aa af)) (S.2.getD i (aa ae)):=fun i hi=>by
 rw [h.len]at hi
 rcases h.is i hi with⟨_,h3⟩|⟨h2,ρ,h4,h5,h6⟩
 ·rw [h3];exact ht i hi
 ·rw [h4]
  have:=h.hi
  have:=(hn i (by omega)).1.1
  exact⟨⟨dM.1,by simp only [aF];omega⟩,dM,dM,⟨by simp only;omega,by simp only;omega⟩,fun _=>rfl,fun h=>absurd rfl h,⟨fun h=>absurd rfl h,fun h=>absurd h (ba rfl)⟩,.inr (.inl ⟨rfl,by simp only [aF];omega⟩)⟩
theorem Lv {ns:List aO} {rk:Int} {ts:List an} {S:Int×List an} (hl:ts.length=ns.length) (hm:∀i:Nat,i<ns.length→(ts.getD i (aa ae)).1≠0→gj ts (ns.getD i (aa af))) (h4:¬∀t∈ts,t.1=4) (hn:¬∃t∈ts,t.1=5∨t.1=6) (h:OpnP ns rk ts ns.length S):GR ns S.2 1:=by
 refine .inl ⟨rfl,fun i hi=> ?_,fun hc=>h4 (gS fun j hj=>(h.four j).1 (hc _ (aD (by rw [h.len];exact hj) _))),fun⟨t,ht,h5⟩=> ?_⟩
 ·rw [vu h.four]
  rcases h.is i (by omega)with⟨h2,h3⟩|⟨⟨_,h2,h3⟩,ρ,h5,_⟩
  ·rw [h3]
   exact⟨fun h5 h6=>h2 ⟨hi,h6,h5⟩,hm i hi⟩
  ·rw [h5]
   exact⟨fun _=>ba rfl,fun _=>h3⟩
 ·obtain⟨j,hj,rfl⟩:=ze ht
  rw [h.len]at hj
  rcases h.is j hj with⟨_,h3⟩|⟨_,ρ,h6,_⟩
  ·rw [h3]at h5;exact hn ⟨_,aD hj _,h5⟩
  ·rw [h6]at h5;rcases h5 with h5|h5<;>exact absurd h5 (ba rfl)
theorem oB {r r':aj} {k:Nat} {rk rk' tk:Int} (h:ROk r) (h1:r.2.2.2.1=1) (hk:k<r.2.2.2.2.1.length) (hrk:ma rk) (hh:iZ (bM r k) (bh r k) tk) (hC:Cmpl r k rk r' rk'):ROk r'∧OpnP r.2.2.1.1 rk (r.2.2.2.2.1.set k (ofNat 4,(bh r k).2.1,ofNat 0,ofNat 0,ofNat 0,())) r.2.2.1.1.length (rk',r'.2.2.2.2.1):=by
 obtain⟨id,key,⟨ns,_⟩,st,ts,_⟩:=r
 obtain⟨id',key',ns',st',ts',_⟩:=r'
 obtain⟨e1,e2,e3,e4,e5,hst,e6,_⟩:=hC
 simp only at e1 e2 e3 e4 e5 e6 hst h1 hk
 subst e1 e2 e3 h1
 obtain⟨q1,q2,q3,q4,q5,q6⟩:=h
 simp only at q1 q2 q3 q4 q5 q6
 simp only [bh,bM]at hh⊢
 generalize hte:(ts.getD k (aa ae))=t at hh e4 e5 hst⊢
 obtain⟨⟨g1,g2,g3,g4,g5,g6,g7,g8⟩,_,_,c2,_⟩:=hh
 have h12:=q3.1.2
 have hrk1:rk+ns.length≤1099511627776:=by have:=hrk.2;omega
 have ht4:cg (ns.getD k (aa af)) (ofNat 4,t.2.1,ofNat 0,ofNat 0,ofNat 0,()):=
  ⟨g1,dM,dM,dM,fun h=>absurd rfl h,fun h=>absurd rfl h,⟨fun h=>absurd rfl h,fun h=>absurd h (ba rfl)⟩,.inr (.inr (.inr (.inr (.inl ⟨rfl,by simp only;omega⟩))))⟩
 generalize hq4:((ofNat 4,t.2.1,ofNat 0,ofNat 0,ofNat 0,()):an)=t4 at ht4 e4 e5 hst⊢
 have c4:t4.1=4:=by rw [←hq4];rfl
 have hset:∀i:Nat,i<(ts.set k t4).length→cg (ns.getD i (aa af)) ((ts.set k t4).getD i (aa ae)):=fun i hi=>by
  rw [length_set]at hi
  rw [bq hk]
  split
  ·rename_i c;rw [c];exact ht4
  ·exact q5 i hi
 have hl:(ts.set k t4).length=ns.length:=by rw [length_set];exact q4
 have ho:=Fx hl hrk.1 hrk1 hset ns.length (Nat.le_refl _)
 have heq:opn ns (rk,ts.set k t4) ns.length=(rk',ts'):=Prod.ext e5.symm e4.symm
 rw [heq]at ho
 refine⟨?_,ho⟩
 have htk:=Hb (fun i hi=>jP q3.2.1 hi) hl hrk.1 hrk1 hset ho
 have hsl:=ho.len
 simp only at hsl htk
 rcases q6 with⟨_,hm,hn4,hn⟩|⟨h3,_⟩|⟨h3,_⟩|⟨h3,_⟩
 ·have hmono:∀j:Nat,(ts.getD j (aa ae)).1=4→((ts.set k t4).getD j (aa ae)).1=4:=fun j hj=>by
   rw [bq hk]
   split
   ·exact c4
   ·exact hj
  rcases hst with⟨hall,rfl⟩|⟨hall,rfl⟩
  ·refine⟨q1,q2,q3,by simp only;omega,htk,.inr (.inl ⟨rfl,gS fun j hj=>(ho.four j).2 (hall _ (aD (by rw [←hsl];exact hj) _))⟩)⟩
  ·refine⟨q1,q2,q3,by simp only;omega,htk,Lv hl (fun i hi h0 v hv=> ?_) hall (fun⟨t,ht,h5⟩=> ?_) ho⟩
   ·refine hmono _ ((hm i hi).2 ?_ v hv)
    rw [bq hk]at h0
    split at h0
    ·rename_i c;rw [c,hte,c2];decide
    ·exact h0
   ·rcases List.mem_or_eq_of_mem_set ht with h6|rfl
    ·exact hn ⟨t,h6,h5⟩
    ·omega
 ·exact absurd h3 (ba rfl)
 ·exact absurd h3 (ba rfl)
 ·exact absurd h3 (ba rfl)
theorem BR {id:Int} {key:ByteArray} {ns:List aO} {rk:Int} (h1:bU id) (h2:1≤key.size∧key.size≤24) (hd:qf ns) (hrk:ma rk):ROk (id,key,(ns,()),ofNat 1,(opn ns (rk,replicate ns.length t0) ns.length).2,())∧OpnP ns rk (replicate ns.length t0) ns.length (opn ns (rk,replicate ns.length t0) ns.length):=by
 have h12:=hd.1
 have hrk1:rk+ns.length≤1099511627776:=by have:=hrk.2;omega
 have hl:(replicate ns.length t0).length=ns.length:=List.length_replicate ..
 have h0:∀i:Nat,i<(replicate ns.length t0).length→(replicate ns.length t0).getD i (aa ae)=t0:=fun i hi=>List.eq_of_mem_replicate (aD hi _)
 have ht:∀i:Nat,i<(replicate ns.length t0).length→cg (ns.getD i (aa af)) ((replicate ns.length t0).getD i (aa ae)):=fun i hi=>by
  rw [h0 i hi]
  have:=(jP hd.2.1 (i:=i) (by omega)).1.1
  exact⟨⟨dM.1,by simp only [aF];omega⟩,dM,dM,dM,fun h=>absurd rfl h,fun h=>absurd rfl h,⟨fun h=>absurd rfl h,fun h=>absurd h (ba rfl)⟩,.inl ⟨rfl,rfl⟩⟩
 have ho:=Fx hl hrk.1 hrk1 ht ns.length (Nat.le_refl _)
 refine⟨⟨h1,h2,hd,ho.len.trans hl,Hb (fun i hi=>jP hd.2.1 hi) hl hrk.1 hrk1 ht ho,Lv hl (fun i hi h=>absurd (by rw [h0 i (by rw [hl];exact hi)];rfl) h) (fun h=> ?_) (fun⟨t,ht,h5⟩=> ?_) ho⟩,ho⟩
 ·have:=h t0 (List.mem_replicate.2 ⟨by omega,rfl⟩)
  exact absurd this (ba rfl)
 ·rw [List.eq_of_mem_replicate ht]at h5
  rcases h5 with h5|h5<;>exact absurd h5 (ba rfl)
theorem mZ {r:aj} (h:ROk r):bG r:=by
 have h12:=h.dag.1
 refine⟨fun nd hnd=> ?_,by have:=h.len;omega,gS fun j hj=>(zd (h.tks j hj)).1⟩
 obtain⟨j,hj,rfl⟩:=List.getElem_of_mem hnd
 have:=Fu (h.dag.2.1 j hj).2.2
 rw [bB hj]at this
 omega
structure Rel (nt nk nt' nk':Int) (ts ts':List an):Prop where
 len:ts'.length=ts.length
 tk:∀j:Nat,j<ts.length→(ts'.getD j (aa ae)).1=2→((ts.getD j (aa ae)).1=2∧dU (ts'.getD j (aa ae))=dU (ts.getD j (aa ae)))∨(nt≤dU (ts'.getD j (aa ae))∧dU (ts'.getD j (aa ae))<nt')
 rk:∀j:Nat,j<ts.length→(ts'.getD j (aa ae)).1=1→((ts.getD j (aa ae)).1=1∧dK (ts'.getD j (aa ae))=dK (ts.getD j (aa ae)))∨(nk≤dK (ts'.getD j (aa ae))∧dK (ts'.getD j (aa ae))<nk')
 tu:∀i j:Nat,i<j→j<ts.length→(ts'.getD i (aa ae)).1=2→(ts'.getD j (aa ae)).1=2→nt≤dU (ts'.getD i (aa ae))→nt≤dU (ts'.getD j (aa ae))→dU (ts'.getD i (aa ae))≠dU (ts'.getD j (aa ae))
 ru:∀i j:Nat,i<j→j<ts.length→(ts'.getD i (aa ae)).1=1→(ts'.getD j (aa ae)).1=1→nk≤dK (ts'.getD i (aa ae))→nk≤dK (ts'.getD j (aa ae))→dK (ts'.getD i (aa ae))≠dK (ts'.getD j (aa ae))
def oC (nt nk:Int) (t:an):Prop:=(t.1=2→dU t<nt)∧(t.1=1→dK t<nk)
theorem Lw {l:List an}:l.Pairwise NC↔∀i j:Nat,i<j→j<l.length→NC (l.getD i (aa ae)) (l.getD j (aa ae)):=by
 rw [List.pairwise_iff_getElem]
 constructor
 ·intro h i j hij hj
  rw [bB (by omega:i<l.length),bB hj]
  exact h i j (by omega) hj hij
 ·intro h i j hi hj hij
  have:=h i j hij hj
  rwa [bB hi,bB hj]at this
theorem Fy {nt nk nt' nk':Int} {ts ts':List an} (h:ts.Pairwise NC) (hl:∀t∈ts,oC nt nk t) (hr:Rel nt nk nt' nk' ts ts'):ts'.Pairwise NC:=by
 rw [Lw]at h⊢
 intro i j hij hj
 rw [hr.len]at hj
 have h1:=h i j hij hj
 have li:=hl _ (aD (show i<ts.length by omega) (aa ae))
 have lj:=hl _ (aD hj (aa ae))
 refine⟨fun⟨a,b,c⟩=> ?_,fun⟨a,b,c⟩=> ?_⟩
 ·rcases hr.tk i (by omega) a with⟨a1,a2⟩|⟨a1,a2⟩<;>rcases hr.tk j hj b with⟨b1,b2⟩|⟨b1,b2⟩
  ·exact h1.1 ⟨a1,b1,by omega⟩
  ·have:=li.1 a1;omega
  ·have:=lj.1 b1;omega
  ·exact hr.tu i j hij hj a b a1 b1 c
 ·rcases hr.rk i (by omega) a with⟨a1,a2⟩|⟨a1,a2⟩<;>rcases hr.rk j hj b with⟨b1,b2⟩|⟨b1,b2⟩
  ·exact h1.2 ⟨a1,b1,by omega⟩
  ·have:=li.2 a1;omega
  ·have:=lj.2 b1;omega
  ·exact hr.ru i j hij hj a b a1 b1 c
theorem JL {nt nk nt' nk':Int} {ts ts':List an} {y:an} (hy:oC nt nk y) (h:∀x∈ts,NC x y) (hr:Rel nt nk nt' nk' ts ts'):∀x∈ts',NC x y:=fun x hx=>by
 obtain⟨j,hj,rfl⟩:=ze hx
 rw [hr.len]at hj
 have h1:=h _ (aD hj (aa ae))
 refine⟨fun⟨a,b,c⟩=> ?_,fun⟨a,b,c⟩=> ?_⟩
 ·rcases hr.tk j hj a with⟨a1,a2⟩|⟨a1,a2⟩
  ·exact h1.1 ⟨a1,b,by omega⟩
  ·have:=hy.1 b;omega
 ·rcases hr.rk j hj a with⟨a1,a2⟩|⟨a1,a2⟩
  ·exact h1.2 ⟨a1,b,by omega⟩
  ·have:=hy.2 b;omega
theorem Hc {nt nk nt' nk':Int} {ts ts':List an} (h1:nt≤nt') (h2:nk≤nk') (hl:∀t∈ts,oC nt nk t) (hr:Rel nt nk nt' nk' ts ts'):∀t∈ts',oC nt' nk' t:=gS fun j hj=>by
 rw [hr.len]at hj
 have lj:=hl _ (aD hj (aa ae))
 refine⟨fun a=> ?_,fun a=> ?_⟩
 ·rcases hr.tk j hj a with⟨a1,a2⟩|⟨a1,a2⟩
  ·have:=lj.1 a1;omega
  ·exact a2
 ·rcases hr.rk j hj a with⟨a1,a2⟩|⟨a1,a2⟩
  ·have:=lj.2 a1;omega
  ·exact a2
theorem NM {nt nk:Int} {t:an} (h:cX nt nk t):oC nt nk t:=⟨fun _=>h.1,h.2⟩
theorem NN {nd:aO} {nt nk:Int} {t:an} (hn:1≤nt) (ht:cg nd t) (h:oC nt nk t):cX nt nk t:=by
 refine⟨?_,h.2⟩
 by_cases c:t.1=2
 ·exact h.1 c
 ·have:dU t=0:=Classical.byContradiction fun h2=>c (ht.2.2.2.2.2.2.1.1 h2)
  omega
theorem na {nt nk nt' nk':Int} {ts:List an} {k:Nat} {t:an} (hk:k<ts.length) (ht:t.1=2→((ts.getD k (aa ae)).1=2∧dU t=dU (ts.getD k (aa ae)))∨(nt≤dU t∧dU t<nt')) (hr:t.1=1→((ts.getD k (aa ae)).1=1∧dK t=dK (ts.getD k (aa ae)))∨(nk≤dK t∧dK t<nk')) (hl:∀t∈ts,oC nt nk t):Rel nt nk nt' nk' ts (ts.set k t):=by
 refine⟨length_set,fun j hj h=> ?_,fun j hj h=> ?_,fun i j hij hj h1 h2 h3 h4=> ?_,fun i j hij hj h1 h2 h3 h4=> ?_⟩
 ·rw [bq hk]at h⊢
  split
  ·rename_i c;subst c;rw [if_pos rfl]at h;exact ht h
  ·rename_i c;rw [if_neg c]at h;exact .inl ⟨h,rfl⟩
 ·rw [bq hk]at h⊢
  split
  ·rename_i c;subst c;rw [if_pos rfl]at h;exact hr h
  ·rename_i c;rw [if_neg c]at h;exact .inl ⟨h,rfl⟩
 ·rw [bq hk]at h1 h2 h3 h4
  have li:=(hl _ (aD (show i<ts.length by omega) (aa ae))).1
  have lj:=(hl _ (aD hj (aa ae))).1
  by_cases ci:i=k
  ·rw [if_neg (show¬j=k by omega)]at h2 h4
   have:=lj h2;omega
  ·rw [if_neg ci]at h1 h3
   have:=li h1;omega
 ·rw [bq hk]at h1 h2 h3 h4
  have li:=(hl _ (aD (show i<ts.length by omega) (aa ae))).2
  have lj:=(hl _ (aD hj (aa ae))).2
  by_cases ci:i=k
  ·rw [if_neg (show¬j=k by omega)]at h2 h4
   have:=lj h2;omega
  ·rw [if_neg ci]at h1 h3
   have:=li h1;omega
theorem Hd {nt nk nt' nk':Int} {ns:List aO} {ts ts1 ts':List an} (h:Rel nt nk nt' nk' ts ts1) (hd:lH ns ts1 ts'):Rel nt nk nt' nk' ts ts':=by
 have key:∀j:Nat,j<ts.length→∀s:Int,s≠6→(ts'.getD j (aa ae)).1=s→ts'.getD j (aa ae)=ts1.getD j (aa ae):=fun j hj s hs e=>by
  rcases hd.2 j (by rw [h.len];exact hj)with⟨_,h2⟩|⟨_,h2⟩
  ·exact h2
  ·rw [h2]at e;exact absurd e.symm hs
 refine⟨hd.1.trans h.len,fun j hj e=> ?_,fun j hj e=> ?_,fun i j hij hj e1 e2=> ?_,fun i j hij hj e1 e2=> ?_⟩
 ·have q:=key j hj 2 (by decide) e;rw [q]at e⊢;exact h.tk j hj e
 ·have q:=key j hj 1 (by decide) e;rw [q]at e⊢;exact h.rk j hj e
 ·have q:=key i (by omega) 2 (by decide) e1;have q2:=key j hj 2 (by decide) e2;rw [q]at e1⊢;rw [q2]at e2⊢;exact h.tu i j hij hj e1 e2
 ·have q:=key i (by omega) 1 (by decide) e1;have q2:=key j hj 1 (by decide) e2;rw [q]at e1⊢;rw [q2]at e2⊢;exact h.ru i j hij hj e1 e2
theorem Fz {nt nk nt' nk':Int} {ts:List an} (hl:∀t∈ts,oC nt nk t):Rel nt nk nt' nk' ts ts:=by
 refine⟨rfl,fun j hj h=>.inl ⟨h,rfl⟩,fun j hj h=>.inl ⟨h,rfl⟩,fun i j hij hj h1 h2 h3 h4=> ?_,fun i j hij hj h1 h2 h3 h4=> ?_⟩
 ·have:=(hl _ (aD hj (aa ae))).1 h2;omega
 ·have:=(hl _ (aD hj (aa ae))).2 h2;omega
theorem He {nt nk nk':Int} {ns:List aO} {ts ts1 ts':List an} (h:Rel nt nk nt nk ts ts1) (hl:∀t∈ts,oC nt nk t) (ho:OpnP ns nk ts1 ns.length (nk',ts')):Rel nt nk nt nk' ts ts':=by
 have h2':∀j:Nat,j<ts.length→(ts'.getD j (aa ae)).1=2→ts'.getD j (aa ae)=ts1.getD j (aa ae):=fun j hj e=>by
  rcases ho.is j (by rw [h.len];exact hj)with⟨_,h2⟩|⟨_,ρ,h2,_⟩
  ·exact h2
  ·simp only at h2;rw [h2]at e;exact absurd e (ba rfl)
 have h1':∀j:Nat,j<ts.length→(ts'.getD j (aa ae)).1=1→(ts'.getD j (aa ae)=ts1.getD j (aa ae))∨((ts1.getD j (aa ae)).1=0∧nk≤dK (ts'.getD j (aa ae))∧dK (ts'.getD j (aa ae))<nk'):=fun j hj e=>by
  rcases ho.is j (by rw [h.len];exact hj)with⟨_,h2⟩|⟨⟨_,h0,_⟩,ρ,h2,h3,h4⟩
  ·exact .inl h2
  ·simp only at h2 h4;rw [h2];exact .inr ⟨h0,h3,h4⟩
 refine⟨ho.len.trans h.len,fun j hj e=> ?_,fun j hj e=> ?_,fun i j hij hj e1 e2=> ?_,fun i j hij hj e1 e2 e3 e4=> ?_⟩
 ·have q:=h2' j hj e;rw [q]at e⊢;exact h.tk j hj e
 ·rcases h1' j hj e with h3|⟨_,h3⟩
  ·rw [h3]at e⊢
   rcases h.rk j hj e with h4|⟨h4,h5⟩
   ·exact .inl h4
   ·omega
  ·exact .inr h3
 ·have q:=h2' i (by omega) e1;have q2:=h2' j hj e2;rw [q]at e1⊢;rw [q2]at e2⊢;exact h.tu i j hij hj e1 e2
 ·have old:∀a:Nat,a<ts.length→(ts'.getD a (aa ae)).1=1→nk≤dK (ts'.getD a (aa ae))→(ts1.getD a (aa ae)).1=0:=fun a ha b c=>by
   rcases h1' a ha b with h3|⟨h3,_⟩
   ·rw [h3]at b c
    rcases h.rk a ha b with⟨h4,h5⟩|⟨h4,h5⟩
    ·have:=(hl _ (aD ha (aa ae))).2 h4;omega
    ·omega
   ·exact h3
  have:=ho.up i j hij (by rw [h.len];exact hj) (old i (by omega) e1 e3) e1 (old j hj e2 e4) e2
  simp only at this
  omega
theorem dB {l:List aj} {i:Nat} (h:i<l.length) (v:aj) (j:Nat):(l.set i v).getD j (aa ab)=if j=i then v else l.getD j (aa ab):=by
 simp only [List.getD_eq_getElem?_getD,List.getElem?_set]
 by_cases e:i=j
 ·subst e;simp [h]
 ·rw [if_neg e,if_neg (fun h=>e h.symm)]
abbrev aP (rs:List aj) (a:Nat):List an:=(rs.getD a (aa ab)).2.2.2.2.1
theorem zf (rs:List aj):(FT rs).Pairwise NC↔(∀a:Nat,a<rs.length→(aP rs a).Pairwise NC)∧∀a b:Nat,a<b→b<rs.length→∀x∈aP rs a,∀y∈aP rs b,NC x y:=by
 unfold FT
 rw [List.pairwise_flatMap,List.pairwise_iff_getElem]
 constructor
 ·intro⟨h1,h2⟩
  refine⟨fun a ha=>h1 _ (aD ha _),fun a b hab hb=> ?_⟩
  have:=h2 a b (by omega) hb hab
  rwa [←bB (by omega:a<rs.length) (aa ab),←bB hb (aa ab)]at this
 ·intro⟨h1,h2⟩
  refine⟨fun r hr=> ?_,fun a b ha hb hab=> ?_⟩
  ·obtain⟨a,ha,rfl⟩:=List.getElem_of_mem hr
   have:=h1 a ha
   rwa [aP,bB ha]at this
  ·have:=h2 a b hab hb
   rwa [aP,aP,bB ha,bB hb]at this
theorem NO {rs:List aj} {n:Nat} {r':aj} {nt nk nt' nk':Int} (hf:eF rs) (hn:n<rs.length) (hl:∀a:Nat,a<rs.length→∀t∈aP rs a,oC nt nk t) (e1:r'.1=(rs.getD n (aa ab)).1) (e2:r'.2.1=(rs.getD n (aa ab)).2.1) (ho:ROk r') (hr:Rel nt nk nt' nk' (aP rs n) r'.2.2.2.2.1):eF (rs.set n r'):=by
 obtain⟨h32,up,keys,chk,ap⟩:=hf
 have G:=dB hn r'
 have idA:∀a:Nat,((rs.set n r').getD a (aa ab)).1=(rs.getD a (aa ab)).1:=fun a=>by
  rw [G];split
  ·rename_i c;rw [c];exact e1
  ·rfl
 have keyA:∀a:Nat,cQ ((rs.set n r').getD a (aa ab))=cQ (rs.getD a (aa ab)):=fun a=>by
  rw [G];split
  ·rename_i c;rw [c,cQ,e2]
  ·rfl
 rw [zf]at ap
 refine⟨by rw [length_set];exact h32,fun a b hab hb=> ?_,fun a b hab hb=> ?_,fun a ha=> ?_,?_⟩
 ·rw [idA,idA];rw [length_set]at hb;exact up a b hab hb
 ·rw [keyA,keyA];rw [length_set]at hb;exact keys a b hab hb
 ·rw [length_set]at ha;rw [G];split
  ·exact ho
  ·exact chk a ha
 ·rw [zf]
  refine⟨fun a ha=> ?_,fun a b hab hb=> ?_⟩
  ·rw [length_set]at ha
   unfold aP
   rw [G];split
   ·exact Fy (ap.1 n hn) (hl n hn) hr
   ·exact ap.1 a ha
  ·rw [length_set]at hb
   unfold aP
   rw [G,G]
   by_cases ca:a=n
   ·rw [if_pos ca,if_neg (by omega)]
    subst ca
    exact fun x hx y hy=>JL (hl b hb y hy) (fun x hx=>ap.2 a b hab hb x hx y hy) hr x hx
   ·rw [if_neg ca]
    by_cases cb:b=n
    ·rw [if_pos cb]
     subst cb
     exact fun x hx y hy=>(JL (hl a (by omega) x hx) (fun y hy=>(ap.2 a b hab hb x hx y hy).symm) hr y hy).symm
    ·rw [if_neg cb]
     exact ap.2 a b hab hb
theorem cR {l:List aj} {v:aj} (j:Nat) (h:j<(l++ [v]).length):(l++ [v]).getD j (aa ab)=if j=l.length then v else l.getD j (aa ab):=by
 rw [length_append,length_singleton]at h
 by_cases e:j=l.length
 ·subst e
  rw [if_pos rfl,List.getD_eq_getElem?_getD,List.getElem?_append_right (Nat.le_refl _),Nat.sub_self]
  rfl
 ·rw [if_neg e,List.getD_eq_getElem?_getD,List.getElem?_append_left (by omega),←List.getD_eq_getElem?_getD]
theorem NP {rs:List aj} {r':aj} {ts:List an} {nt nk nt' nk':Int} (hf:eF rs) (h32:rs.length<32) (hl:∀a:Nat,a<rs.length→∀t∈aP rs a,oC nt nk t) (hid:∀a:Nat,a<rs.length→(rs.getD a (aa ab)).1<r'.1) (hk:∀a:Nat,a<rs.length→cQ (rs.getD a (aa ab))≠cQ r') (ho:ROk r') (h0:∀t∈ts,t.1=0) (hr:Rel nt nk nt' nk' ts r'.2.2.2.2.1):eF (rs++ [r']):=by
 obtain⟨_,up,keys,chk,ap⟩:=hf
 have hlen:(rs++ [r']).length=rs.length+1:=by rw [length_append,length_singleton]
 have hnc:∀t∈ts,∀y:an,NC t y:=fun t ht y=>by
  have:=h0 t ht
  exact⟨fun⟨a,_⟩=>by omega,fun⟨a,_⟩=>by omega⟩
 have hlow:∀t∈ts,oC nt nk t:=fun t ht=>by
  have:=h0 t ht
  exact⟨fun a=>by omega,fun a=>by omega⟩
 rw [zf]at ap
 refine⟨by omega,fun a b hab hb=> ?_,fun a b hab hb=> ?_,fun a ha=> ?_,?_⟩
 ·rw [cR b hb,cR a (by omega),if_neg (by omega)]
  split
  ·exact hid a (by omega)
  ·exact up a b hab (by omega)
 ·rw [cR b hb,cR a (by omega),if_neg (by omega)]
  split
  ·exact hk a (by omega)
  ·exact keys a b hab (by omega)
 ·rw [cR a ha]
  split
  ·exact ho
  ·exact chk a (by omega)
 ·rw [zf]
  refine⟨fun a ha=> ?_,fun a b hab hb=> ?_⟩
  ·unfold aP
   rw [cR a ha]
   split
   ·exact Fy (Lw.2 fun i j hij hj=>hnc _ (aD (by omega) _) _) hlow hr
   ·exact ap.1 a (by omega)
  ·unfold aP
   rw [cR b hb,cR a (by omega),if_neg (by omega)]
   split
   ·exact fun x hx y hy=>(JL (hl a (by omega) x hx) (fun y hy=>hnc y hy x) hr y hy).symm
   ·exact ap.2 a b hab (by omega)
abbrev ec (ck nr nt nk ne ac:Int) (rs:List aj) (es:List aC):bC:=(ck,nr,nt,nk,ne,ac,rs,es,())
structure SX (ck nr nt nk ne ac:Int) (rs:List aj) (es:List aC):Prop where
 fine:eF rs
 ckI:bU ck
 nrI:bU nr
 nkI:bU nk
 ntI:1≤nt∧nt≤1099511627776
 neI:1≤ne∧ne≤1099511627776
 ack:0≤ac∧ac<ne
 elen:(es.length:Int)=ne-1-ac
 late:∀j:Nat,j<rs.length→(rs.getD j (aa ab)).1<nr∧∀t∈(rs.getD j (aa ab)).2.2.2.2.1,cX nt nk t
 evs:∀j:Nat,j<es.length→(es.getD j (aa ay)).1=ac+1+j∧jQ nr (es.getD j (aa ay))
theorem iL {ck nr nt nk ne ac:Int} {rs:List aj} {es:List aC} (h:SOk (ec ck nr nt nk ne ac rs es)):SX ck nr nt nk ne ac rs es:=
 ⟨h.fine,h.ck,h.nr,h.nk,h.nt,h.ne,h.ack,h.elen,h.late,h.evs⟩
theorem Lx {ck nr nt nk ne ac:Int} {rs:List aj} {es:List aC} (h:SX ck nr nt nk ne ac rs es) (he:es.length≤40):SOk (ec ck nr nt nk ne ac rs es):=
 ⟨h.fine,he,h.ckI,h.nrI,h.nkI,h.ntI,h.neI,h.ack,h.elen,h.late,h.evs⟩
def jR (ne nr:Int) (new:List aC):Prop:=∀j:Nat,j<new.length→(new.getD j (aa ay)).1=ne+j∧jQ nr (new.getD j (aa ay))
theorem Td {nr nr':Int} {x:aC} (h:nr≤nr') (he:jQ nr x):jQ nr' x:=⟨he.1,⟨he.2.1.1,by have:=he.2.1.2;omega⟩,he.2.2⟩
theorem Hf {nr nr' ne ac:Int} {es new:List aC} (hl:(es.length:Int)=ne-1-ac) (h:∀j:Nat,j<es.length→(es.getD j (aa ay)).1=ac+1+j∧jQ nr (es.getD j (aa ay))) (hn:nr≤nr') (hw:jR ne nr' new):∀j:Nat,j<(es++new).length→((es++new).getD j (aa ay)).1=ac+1+j∧jQ nr' ((es++new).getD j (aa ay)):=fun j hj=>by
 rw [length_append]at hj
 by_cases c:j<es.length
 ·rw [List.getD_eq_getElem?_getD,List.getElem?_append_left c,←List.getD_eq_getElem?_getD]
  exact⟨(h j c).1,Td hn (h j c).2⟩
 ·rw [List.getD_eq_getElem?_getD,List.getElem?_append_right (by omega),←List.getD_eq_getElem?_getD]
  have:=hw (j-es.length) (by omega)
  exact⟨by omega,this.2⟩
theorem jS {ne nr kind id i:Int} (h1:1≤kind∧kind≤6) (h2:0≤id∧id<nr) (h3:0≤i∧i<12) (h4:i=0∨kind=2∨kind=3):jR ne nr [(ne,kind,id,i,())]:=fun j hj=>by
 obtain rfl:j=0:=by simp only [length_singleton]at hj;omega
 exact⟨by show ne=ne+((0:Nat):Int);omega,h1,h2,h3,h4⟩
theorem Zh {ne nr:Int} {a b:List aC} (ha:jR ne nr a) (hb:jR (ne+a.length) nr b):jR ne nr (a++b):=fun j hj=>by
 rw [length_append]at hj
 by_cases c:j<a.length
 ·rw [List.getD_eq_getElem?_getD,List.getElem?_append_left c,←List.getD_eq_getElem?_getD]
  exact ha j c
 ·rw [List.getD_eq_getElem?_getD,List.getElem?_append_right (by omega),←List.getD_eq_getElem?_getD]
  have:=hb (j-a.length) (by omega)
  exact⟨by omega,this.2⟩
section
variable {ck nr nt nk ne ac:Int} {rs:List aj} {es:List aC}
theorem SX.low (h:SX ck nr nt nk ne ac rs es):∀a:Nat,a<rs.length→∀t∈aP rs a,oC nt nk t:=fun a ha t ht=>NM ((h.late a ha).2 t ht)
theorem SX.rok (h:SX ck nr nt nk ne ac rs es) {n:Nat} (hn:n<rs.length):ROk (rs.getD n (aa ab)):=h.fine.2.chk n hn
theorem SX.id (h:SX ck nr nt nk ne ac rs es) {n:Nat} (hn:n<rs.length):0≤(rs.getD n (aa ab)).1∧(rs.getD n (aa ab)).1<nr:=⟨(h.rok hn).id.1,(h.late n hn).1⟩
theorem SX.task (h:SX ck nr nt nk ne ac rs es) {n k:Nat} (hn:n<rs.length) (hk:k<(aP rs n).length):0≤(k:Int)∧(k:Int)<12:=by
 have h1:=(h.rok hn).len
 have h2:=(h.rok hn).dag.1.2
 unfold aP at hk
 omega
theorem Hg {nt nk:Int} {r:aj} (hn:1≤nt) (ho:ROk r) (h:∀t∈r.2.2.2.2.1,oC nt nk t):∀t∈r.2.2.2.2.1,cX nt nk t:=fun t ht=>by
 obtain⟨j,hj,rfl⟩:=ze ht
 exact NN hn (ho.tks j hj) (h _ ht)
theorem oD {ck' nt' nk' ne':Int} {new:List aC} (h:SX ck nr nt nk ne ac rs es) {n:Nat} {r':aj} (hn:n<rs.length) (e1:r'.1=(rs.getD n (aa ab)).1) (e2:r'.2.1=(rs.getD n (aa ab)).2.1) (ho:ROk r') (hr:Rel nt nk nt' nk' (aP rs n) r'.2.2.2.2.1)
  (hck:bU ck') (hnt:nt≤nt'∧nt'≤1099511627776) (hnk:nk≤nk'∧nk'≤1099511627776) (hne:ne'=ne+new.length) (hne2:ne'≤1099511627776) (hev:jR ne nr new):SX ck' nr nt' nk' ne' ac (rs.set n r') (es++new):=by
 subst hne
 have hnt1:=h.ntI.1
 have hne1:=h.neI.1
 have hack:=h.ack
 refine⟨NO h.fine hn h.low e1 e2 ho hr,hck,h.nrI,⟨by have:=h.nkI.1;omega,hnk.2⟩,⟨by omega,hnt.2⟩,⟨by omega,hne2⟩,⟨hack.1,by omega⟩,by rw [length_append];have:=h.elen;omega,fun j hj=> ?_,Hf h.elen h.evs (le_refl _) hev⟩
 rw [length_set]at hj
 rw [dB hn]
 split
 ·rename_i c
  subst c
  exact⟨by rw [e1];exact(h.late _ hj).1,Hg (by omega) ho (Hc hnt.1 hnk.1 (h.low _ hj) hr)⟩
 ·refine⟨(h.late _ hj).1,fun t ht=> ?_⟩
  obtain⟨a,b⟩:=(h.late _ hj).2 t ht
  exact⟨by omega,fun c=>by have:=b c;omega⟩
theorem Zi {nk':Int} (h:SX ck nr nt nk ne ac rs es) (h32:rs.length<32) {r':aj} {ts:List an} (e1:r'.1=nr) (hk:∀a:Nat,a<rs.length→cQ (rs.getD a (aa ab))≠cQ r') (ho:ROk r') (h0:∀t∈ts,t.1=0) (hr:Rel nt nk nt nk' ts r'.2.2.2.2.1)
  (hnr:nr+1≤1099511627776) (hnk:nk≤nk'∧nk'≤1099511627776) (hne2:ne+1≤1099511627776):SX ck (nr+1) nt nk' (ne+1) ac (rs++ [r']) (es++ [(ne,ofNat 1,nr,ofNat 0,())]):=by
 have hnr0:=h.nrI.1
 have hack:=h.ack
 have hne1:=h.neI.1
 refine⟨NP h.fine h32 h.low (fun a ha=>by rw [e1];exact(h.late a ha).1) hk ho h0 hr,h.ckI,⟨by omega,hnr⟩,⟨by have:=h.nkI.1;omega,hnk.2⟩,h.ntI,⟨by omega,hne2⟩,⟨hack.1,by omega⟩,by rw [length_append,length_singleton];have:=h.elen;omega,fun j hj=> ?_,Hf h.elen h.evs (by omega) (jS (by decide) ⟨hnr0,by omega⟩ (by decide) (.inl rfl))⟩
 rw [cR j hj]
 rw [length_append,length_singleton]at hj
 split
 ·refine⟨by omega,Hg h.ntI.1 ho (Hc (le_refl _) hnk.1 (fun t ht=> ?_) hr)⟩
  have:=h0 t ht
  exact⟨fun a=>by omega,fun a=>by omega⟩
 ·have hj':j<rs.length:=by omega
  refine⟨by have:=(h.late j hj').1;omega,fun t ht=> ?_⟩
  obtain⟨a,b⟩:=(h.late j hj').2 t ht
  exact⟨a,fun c=>by have:=b c;omega⟩
end
theorem oE {nt nk nt' nk':Int} {r r':aj} {k:Nat} {t':an} (hT:Turn r k t' r') (h:Rel nt nk nt' nk' r.2.2.2.2.1 (r.2.2.2.2.1.set k t')):Rel nt nk nt' nk' r.2.2.2.2.1 r'.2.2.2.2.1:=by
 rcases hT.how with⟨_,_,hd⟩|⟨_,he,_⟩
 ·exact Hd h hd
 ·rw [he];exact h
theorem vZ {nd:aO} {t t':an} {now:Int} (h:cg nd t) (h1:1≤t.2.1) (hf:tH nd t now t'):cg nd t'∧t'.1≠0∧t'.1≠4∧t'.1≠6∧t'.1≠1∧t'.1≠2:=by
 rcases hf with⟨e,rfl⟩|⟨e,u,hu,rfl⟩
 ·exact⟨⟨h.1,dM,dM,dM,fun h=>absurd rfl h,fun h=>absurd rfl h,⟨fun h=>absurd rfl h,fun h=>absurd h (ba rfl)⟩,.inr (.inr (.inr (.inr (.inr (.inl ⟨rfl,e⟩)))))⟩,ba rfl,ba rfl,ba rfl,ba rfl,ba rfl⟩
 ·exact⟨⟨h.1,hu,dM,dM,fun h=>absurd rfl h,fun _=>.inr rfl,⟨fun h=>absurd rfl h,fun h=>absurd h (ba rfl)⟩,.inr (.inr (.inr (.inl ⟨rfl,h1,by have:=h.1.2;simp only;omega⟩)))⟩,ba rfl,ba rfl,ba rfl,ba rfl,ba rfl⟩
abbrev dq (ne:Int) (r':aj) (k:Nat):aC:=if r'.2.2.2.1=3 then(ne,ofNat 5,r'.1,ofNat 0,())else(ne,ofNat 3,r'.1,(k:Int),())
abbrev jY:=Int×List aj×Int×Int×List aC
inductive Tk1 (now:Int) (p:bY):jY→jY→Prop
 |skip (d:Int) (R:List aj) (nk ne:Int) (w:List aC) (h:∀n k:Nat,n<R.length→(R.getD n (aa ab)).1=p.1→p.2.1=k→k<(aP R n).length→dx ((aP R n).getD k (aa ae)) now=false):Tk1 now p (d,R,nk,ne,w) (d,R,nk,ne,w)
 |wake (d:Int) (R:List aj) (nk ne:Int) (w:List aC) (n k:Nat) (r':aj) (hn:n<R.length) (hid:(R.getD n (aa ab)).1=p.1) (hp:p.2.1=k) (hk:k<(aP R n).length) (hd:dx ((aP R n).getD k (aa ae)) now=true) (h3:((aP R n).getD k (aa ae)).1=3) (hT:Turn (R.getD n (aa ab)) k (ofNat 1,((aP R n).getD k (aa ae)).2.1,ofNat 0,ofNat 0,nk,()) r'):
   Tk1 now p (d,R,nk,ne,w) (d+1,R.set n r',nk+1,ne,w)
 |lapse (d:Int) (R:List aj) (nk ne:Int) (w:List aC) (n k:Nat) (t':an) (r':aj) (hn:n<R.length) (hid:(R.getD n (aa ab)).1=p.1) (hp:p.2.1=k) (hk:k<(aP R n).length) (hd:dx ((aP R n).getD k (aa ae)) now=true) (h2:((aP R n).getD k (aa ae)).1=2) (hf:tH (bM (R.getD n (aa ab)) k) ((aP R n).getD k (aa ae)) now t') (hT:Turn (R.getD n (aa ab)) k t' r'):
   Tk1 now p (d,R,nk,ne,w) (d+1,R.set n r',nk,ne+1,w++ [dq ne r' k])
inductive TkN (now:Int) (P:List bY) (x:jY):Nat→jY→Prop
 |zero:TkN now P x 0 x
 |step (i:Nat) (y z:jY):TkN now P x i y→Tk1 now (P.getD i (aa au)) y z→TkN now P x (i+1) z
theorem qj {t:an} {now:Int} (h:dx t now=true):(t.1=2∨t.1=3)∧t.2.2.1≤now:=by
 unfold dx at h
 simp only [Bool.and_eq_true,Bool.or_eq_true,beq_iff_eq,decide_eq_true_eq]at h
 exact h
section
variable {now nr nt ac:Int} {es:List aC}
theorem Zj {p:bY} {x y:jY} (h:Tk1 now p x y) (hx:SX now nr nt x.2.2.1 x.2.2.2.1 ac x.2.1 (es++x.2.2.2.2)) (h1:x.2.2.1+1≤1099511627776) (h2:x.2.2.2.1+1≤1099511627776):
  SX now nr nt y.2.2.1 y.2.2.2.1 ac y.2.1 (es++y.2.2.2.2)∧x.2.2.1≤y.2.2.1∧y.2.2.1≤x.2.2.1+1∧x.2.2.2.1≤y.2.2.2.1∧y.2.2.2.1≤x.2.2.2.1+1∧y.2.2.2.2.length≤x.2.2.2.2.length+1:=by
 cases h with
 |skip d R nk ne w h=>exact⟨hx,by simp only;omega,by simp only;omega,by simp only;omega,by simp only;omega,by omega⟩
 |wake d R nk ne w n k r' hn hid hp hk hd h3 hT=>
  simp only at hx h1 h2
  have hro:=hx.rok hn
  have htk:=hro.tks k hk
  obtain⟨g1,g2,g3,g4,g5,g6,g7,g8⟩:=htk
  have hst:=cY hro hk (show(bh _ k).1≤3 by simp only [bh];simp only [aP]at h3;omega)
  have hnk:=hx.nkI
  have h3':(bh (R.getD n (aa ab)) k).1=3:=h3
  simp only [bh]at h3'
  have ht:cg (bM (R.getD n (aa ab)) k) (ofNat 1,((aP R n).getD k (aa ae)).2.1,ofNat 0,ofNat 0,nk,()):=
   ⟨g1,dM,dM,hnk,fun _=>rfl,fun h=>absurd rfl h,⟨fun h=>absurd rfl h,fun h=>absurd h (ba rfl)⟩,.inr (.inl ⟨rfl,by simp only [aP,bM];omega⟩)⟩
  have hok:=oA hro hst hk (by rw [bh,h3'];decide) (by rw [bh,h3'];decide) ht (ba rfl) (ba rfl) (ba rfl) hT
  have:=oD (new:=[]) (nt':=nt) (nk':=nk+1) (ne':=ne) hx hn hT.id hT.key hok (oE hT (na hk (fun h=>absurd h (ba rfl)) (fun _=>.inr ⟨le_refl _,by simp only [dK];omega⟩) (hx.low n hn))) hx.ckI ⟨le_refl _,hx.ntI.2⟩ ⟨by omega,h1⟩ (by simp) hx.neI.2 (fun j hj=>absurd hj (not_lt_zero _))
  rw [append_nil]at this
  exact⟨this,by simp only;omega,by simp only;omega,by simp only;omega,by simp only;omega,by simp only;omega⟩
 |lapse d R nk ne w n k t' r' hn hid hp hk hd h3 hf hT=>
  simp only at hx h1 h2
  have hro:=hx.rok hn
  have htk:=hro.tks k hk
  have h3':(bh (R.getD n (aa ab)) k).1=2:=h3
  simp only [bh]at h3'
  have hst:=cY hro hk (show(bh _ k).1≤3 by simp only [bh];omega)
  have htr:1≤((aP R n).getD k (aa ae)).2.1:=by
   obtain⟨g1,g2,g3,g4,g5,g6,g7,g8⟩:=htk
   simp only [aP];omega
  obtain⟨q1,q2,q3,q4,q5,q6⟩:=vZ htk htr hf
  have hok:=oA hro hst hk (by rw [bh,h3'];decide) (by rw [bh,h3'];decide) q1 q2 q3 q4 hT
  have hid:=hx.id hn
  have hkk:=hx.task hn hk
  have hev:jR ne nr [dq ne r' k]:=by
   unfold dq
   rw [hT.id]
   split
   ·exact jS (by decide) hid (by decide) (.inl rfl)
   ·exact jS (by decide) hid hkk (.inr (.inr rfl))
  have:=oD (new:=[dq ne r' k]) (nt':=nt) (nk':=nk) (ne':=ne+1) hx hn hT.id hT.key hok (oE hT (na hk (fun h=>absurd h q6) (fun h=>absurd h q5) (hx.low n hn))) hx.ckI ⟨le_refl _,hx.ntI.2⟩ ⟨le_refl _,hx.nkI.2⟩ rfl h2 hev
  rw [List.append_assoc]at this
  exact⟨this,by simp only;omega,by simp only;omega,by simp only;omega,by simp only;omega,by simp only [length_append,length_singleton];omega⟩
theorem gT {P:List bY} {x:jY} (hx:SX now nr nt x.2.2.1 x.2.2.2.1 ac x.2.1 (es++x.2.2.2.2)):∀(i:Nat) (y:jY),TkN now P x i y→x.2.2.1+i≤1099511627776→x.2.2.2.1+i≤1099511627776→
  SX now nr nt y.2.2.1 y.2.2.2.1 ac y.2.1 (es++y.2.2.2.2)∧x.2.2.1≤y.2.2.1∧y.2.2.1≤x.2.2.1+i∧x.2.2.2.1≤y.2.2.2.1∧y.2.2.2.1≤x.2.2.2.1+i∧y.2.2.2.2.length≤x.2.2.2.2.length+i
 |_,_,.zero,h1,h2=>⟨hx,by omega,by omega,by omega,by omega,by omega⟩
 |_,z,.step i y _ hy h,h1,h2=>by
  obtain⟨q1,q2,q3,q4,q5,q6⟩:=gT hx i y hy (by omega) (by omega)
  obtain⟨p1,p2,p3,p4,p5,p6⟩:=Zj h q1 (by omega) (by omega)
  exact⟨p1,by omega,by omega,by omega,by omega,by omega⟩
end
abbrev jZ (a b d:Int):gr:=(ofNat 0,a,b,d,aK,[],())
structure Fresh (nr nt nk ne:Int):Prop where
 nr:nr≤1099511627676
 nt:nt≤1099511627676
 nk:nk≤1099511627676
 ne:ne≤1099511627676
noncomputable abbrev eX (ns:List aO) (nk:Int):Int×List an:=opn ns (nk,replicate ns.length t0) ns.length
def ef (ck nr nt nk ne ac:Int) (rs:List aj) (es:List aC) (c:bi):Prop:=(c.1=2→Fresh nr nt nk ne→1≤c.2.2.2.2.2.2.1→c.2.2.2.2.2.2.1≤1048576→∀n k:Nat,n<rs.length→k<(aP rs n).length→((aP rs n).getD k (aa ae)).1≠1)∧(c.1=3→Fresh nr nt nk ne→es.length≤38→∀n k:Nat,n<rs.length→(rs.getD n (aa ab)).1=c.2.2.2.1→c.2.2.2.2.1=k→k<(aP rs n).length→ma nk→iZ (bM (rs.getD n (aa ab)) k) ((aP rs n).getD k (aa ae)) c.2.2.2.2.2.1→False)∧(c.1=7→Fresh nr nt nk ne→ck≤c.2.2.2.2.2.2.2.1→c.2.2.2.2.2.2.2.1≤1099511627776→es.length≤24→False)∧(c.1=10→ac≤c.2.2.2.2.2.2.2.1→c.2.2.2.2.2.2.2.1<ne→False)
section
variable {ck nr nt nk ne ac:Int} {rs:List aj} {es:List aC} {c:bi}
theorem dF (h2:c.1≠2) (h3:c.1≠3) (h7:c.1≠7) (h10:c.1≠10):ef ck nr nt nk ne ac rs es c:=⟨fun h=>absurd h h2,fun h=>absurd h h3,fun h=>absurd h h7,fun h=>absurd h h10⟩
theorem oF (hk:c.1=2) (h:Fresh nr nt nk ne→1≤c.2.2.2.2.2.2.1→c.2.2.2.2.2.2.1≤1048576→∀n k:Nat,n<rs.length→k<(aP rs n).length→((aP rs n).getD k (aa ae)).1≠1):ef ck nr nt nk ne ac rs es c:=⟨fun _=>h,fun h=>by rw [hk]at h;exact absurd h (by decide),fun h=>by rw [hk]at h;exact absurd h (by decide),fun h=>by rw [hk]at h;exact absurd h (by decide)⟩
theorem vv (hk:c.1=3) (h:Fresh nr nt nk ne→es.length≤38→∀n k:Nat,n<rs.length→(rs.getD n (aa ab)).1=c.2.2.2.1→c.2.2.2.2.1=k→k<(aP rs n).length→ma nk→iZ (bM (rs.getD n (aa ab)) k) ((aP rs n).getD k (aa ae)) c.2.2.2.2.2.1→False):ef ck nr nt nk ne ac rs es c:=⟨fun h=>by rw [hk]at h;exact absurd h (by decide),fun _=>h,fun h=>by rw [hk]at h;exact absurd h (by decide),fun h=>by rw [hk]at h;exact absurd h (by decide)⟩
theorem lv (hk:c.1=7) (h:Fresh nr nt nk ne→ck≤c.2.2.2.2.2.2.2.1→c.2.2.2.2.2.2.2.1≤1099511627776→es.length≤24→False):ef ck nr nt nk ne ac rs es c:=⟨fun h=>by rw [hk]at h;exact absurd h (by decide),fun h=>by rw [hk]at h;exact absurd h (by decide),fun _=>h,fun h=>by rw [hk]at h;exact absurd h (by decide)⟩
theorem pe (hk:c.1=10) (h:ac≤c.2.2.2.2.2.2.2.1→c.2.2.2.2.2.2.2.1<ne→False):ef ck nr nt nk ne ac rs es c:=⟨fun h=>by rw [hk]at h;exact absurd h (by decide),fun h=>by rw [hk]at h;exact absurd h (by decide),fun h=>by rw [hk]at h;exact absurd h (by decide),fun _=>h⟩
theorem cw (hk:c.1<ofNat 8) (h:¬Fresh nr nt nk ne):ef ck nr nt nk ne ac rs es c:=⟨fun _ hf=>absurd hf h,fun _ hf=>absurd hf h,fun _ hf=>absurd hf h,fun h=>by rw [h]at hk;exact absurd hk (by decide)⟩
end
inductive Stp (ck nr nt nk ne ac:Int) (rs:List aj) (es:List aC) (c:bi):bC→gr→Prop
 |err (n:Nat) (hw:ef ck nr nt nk ne ac rs es c):Stp ck nr nt nk ne ac rs es c (ec ck nr nt nk ne ac rs es) (ofNat (n+1),ofNat 0,ofNat 0,ofNat 0,aK,[],())
 |known (n:Nat) (hk:c.1=1) (hn:n<rs.length) (hkey:cQ (rs.getD n (aa ab))=c.2.1.toList):Stp ck nr nt nk ne ac rs es c (ec ck nr nt nk ne ac rs es) (jZ (rs.getD n (aa ab)).1 (ofNat 0) (ofNat 0))
 |new (hk:c.1=1) (hf:Fresh nr nt nk ne) (hno:∀n:Nat,n<rs.length→cQ (rs.getD n (aa ab))≠c.2.1.toList) (h32:rs.length<32) (hkey:1≤c.2.1.size∧c.2.1.size≤24) (hd:qf c.2.2.1.1) (hrk:ma nk):
   Stp ck nr nt nk ne ac rs es c (ec ck (nr+1) nt (eX c.2.2.1.1 nk).1 (ne+1) ac (rs++ [(nr,c.2.1,c.2.2.1,ofNat 1,(eX c.2.2.1.1 nk).2,())]) (es++ [(ne,ofNat 1,nr,ofNat 0,())])) (jZ nr (ofNat 0) (ofNat 0))
 |poll (n k:Nat) (un:Int) (r':aj) (hk:c.1=2) (hf:Fresh nr nt nk ne) (hn:n<rs.length) (hkl:k<(aP rs n).length) (h1:((aP rs n).getD k (aa ae)).1=1) (hun:bU un) (hT:Turn (rs.getD n (aa ab)) k (ofNat 2,((aP rs n).getD k (aa ae)).2.1+1,un,nt,ofNat 0,()) r'):
   Stp ck nr nt nk ne ac rs es c (ec ck nr (nt+1) nk ne ac (rs.set n r') es) (jZ (rs.getD n (aa ab)).1 (k:Int) nt)
 |complete (n k:Nat) (r':aj) (rk':Int) (w:List aC) (hk:c.1=3) (hf:Fresh nr nt nk ne) (hn:n<rs.length) (hid:(rs.getD n (aa ab)).1=c.2.2.2.1) (hi:c.2.2.2.2.1=k) (hkl:k<(aP rs n).length) (hrk:ma nk) (hh:iZ (bM (rs.getD n (aa ab)) k) ((aP rs n).getD k (aa ae)) c.2.2.2.2.2.1) (hC:Cmpl (rs.getD n (aa ab)) k nk r' rk')
   (hw:(r'.2.2.2.1≠2∧w= [(ne,ofNat 2,r'.1,(k:Int),())])∨(r'.2.2.2.1=2∧w= [(ne,ofNat 2,r'.1,(k:Int),()),(ne+1,ofNat 4,r'.1,ofNat 0,())])):
   Stp ck nr nt nk ne ac rs es c (ec ck nr nt rk' (ne+w.length) ac (rs.set n r') (es++w)) (jZ (ofNat 0) (ofNat 0) (ofNat 0))
 |fail (n k:Nat) (t':an) (r':aj) (hk:c.1=4) (hf:Fresh nr nt nk ne) (hn:n<rs.length) (hid:(rs.getD n (aa ab)).1=c.2.2.2.1) (hi:c.2.2.2.2.1=k) (hkl:k<(aP rs n).length) (hh:iZ (bM (rs.getD n (aa ab)) k) ((aP rs n).getD k (aa ae)) c.2.2.2.2.2.1) (hfl:tH (bM (rs.getD n (aa ab)) k) ((aP rs n).getD k (aa ae)) ck t') (hT:Turn (rs.getD n (aa ab)) k t' r'):
   Stp ck nr nt nk ne ac rs es c (ec ck nr nt nk (ne+1) ac (rs.set n r') (es++ [dq ne r' k])) (jZ (ofNat 0) (ofNat 0) (ofNat 0))
 |beat (n k:Nat) (un:Int) (r':aj) (hk:c.1=5) (hf:Fresh nr nt nk ne) (hn:n<rs.length) (hid:(rs.getD n (aa ab)).1=c.2.2.2.1) (hi:c.2.2.2.2.1=k) (hkl:k<(aP rs n).length) (hh:iZ (bM (rs.getD n (aa ab)) k) ((aP rs n).getD k (aa ae)) c.2.2.2.2.2.1) (hun:bU un)
   (hT:Turn (rs.getD n (aa ab)) k (((aP rs n).getD k (aa ae)).1,((aP rs n).getD k (aa ae)).2.1,un,((aP rs n).getD k (aa ae)).2.2.2.1,((aP rs n).getD k (aa ae)).2.2.2.2.1,()) r'):
   Stp ck nr nt nk ne ac rs es c (ec ck nr nt nk ne ac (rs.set n r') es) (jZ (ofNat 0) (ofNat 0) (ofNat 0))
 |cancel (n:Nat) (r':aj) (hk:c.1=6) (hf:Fresh nr nt nk ne) (hn:n<rs.length) (hid:(rs.getD n (aa ab)).1=c.2.2.2.1) (h1:(rs.getD n (aa ab)).2.2.2.1=1) (e1:r'.1=(rs.getD n (aa ab)).1) (e2:r'.2.1=(rs.getD n (aa ab)).2.1) (e3:r'.2.2.1=(rs.getD n (aa ab)).2.2.1) (e4:r'.2.2.2.1=4) (hd:lH (rs.getD n (aa ab)).2.2.1.1 (aP rs n) r'.2.2.2.2.1):
   Stp ck nr nt nk ne ac rs es c (ec ck nr nt nk (ne+1) ac (rs.set n r') (es++ [(ne,ofNat 6,r'.1,ofNat 0,())])) (jZ (ofNat 0) (ofNat 0) (ofNat 0))
 |tick (l:List bY) (d:Int) (R:List aj) (nk' ne':Int) (w:List aC) (hk:c.1=7) (hf:Fresh nr nt nk ne) (h1:ck≤c.2.2.2.2.2.2.2.1) (h2:c.2.2.2.2.2.2.2.1≤1099511627776) (hl:l.Perm (pl rs c.2.2.2.2.2.2.2.1)) (hs:QX l) (hN:TkN c.2.2.2.2.2.2.2.1 l (ofNat 0,rs,nk,ne,[]) (min 16 l.length) (d,R,nk',ne',w)):
   Stp ck nr nt nk ne ac rs es c (ec c.2.2.2.2.2.2.2.1 nr nt nk' ne' ac R (es++w)) (jZ (ofNat 0) d (ofNat 0))
 |query (n:Nat) (hk:c.1=8) (hn:n<rs.length) (hid:(rs.getD n (aa ab)).1=c.2.2.2.1):Stp ck nr nt nk ne ac rs es c (ec ck nr nt nk ne ac rs es) (ofNat 0,ofNat 0,ofNat 0,ofNat 0,rs.getD n (aa ab),[],())
 |drain (m:Nat) (hk:c.1=9):Stp ck nr nt nk ne ac rs es c (ec ck nr nt nk ne ac rs es) (ofNat 0,ofNat 0,ofNat 0,ofNat 0,aK,es.take m,())
 |ack (hk:c.1=10) (h1:ac≤c.2.2.2.2.2.2.2.1) (h2:c.2.2.2.2.2.2.2.1<ne):Stp ck nr nt nk ne ac rs es c (ec ck nr nt nk ne c.2.2.2.2.2.2.2.1 rs (es.drop (c.2.2.2.2.2.2.2.1-ac).toNat)) (jZ (ofNat 0) (ofNat 0) (ofNat 0))
structure Grow (ck nr nt nk ne ac:Int) (t:bC):Prop where
 ck:ck≤t.1
 nr:nr≤t.2.1
 nt:nt≤t.2.2.1
 nk:nk≤t.2.2.2.1
 ne:ne≤t.2.2.2.2.1
 ac:ac≤t.2.2.2.2.2.1
theorem Ly {ck nr nt nk ne ac:Int} {rs:List aj} {es:List aC} {c:bi} {t:bC} {r:gr} (h:SX ck nr nt nk ne ac rs es) (hs:Stp ck nr nt nk ne ac rs es c t r):SX t.1 t.2.1 t.2.2.1 t.2.2.2.1 t.2.2.2.2.1 t.2.2.2.2.2.1 t.2.2.2.2.2.2.1 t.2.2.2.2.2.2.2.1∧Grow ck nr nt nk ne ac t:=by
 have refl:∀z:Int,z≤z:=le_refl
 have hnil:∀z,jR ne z []:=fun z j hj=>absurd hj (not_lt_zero _)
 cases hs with
 |err n=>exact⟨h,refl _,refl _,refl _,refl _,refl _,refl _⟩
 |known n=>exact⟨h,refl _,refl _,refl _,refl _,refl _,refl _⟩
 |query n=>exact⟨h,refl _,refl _,refl _,refl _,refl _,refl _⟩
 |drain m=>exact⟨h,refl _,refl _,refl _,refl _,refl _,refl _⟩
 |new hk hf hno h32 hkey hd hrk=>
  obtain⟨f1,f2,f3,f4⟩:=hf
  have h12:=hd.1
  obtain⟨ho,hop⟩:=BR (id:=nr) h.nrI hkey hd hrk
  have h0:∀t∈replicate c.2.2.1.1.length t0,t.1=0:=fun t ht=>by rw [List.eq_of_mem_replicate ht];rfl
  have hlow:∀t∈replicate c.2.2.1.1.length t0,oC nt nk t:=fun t ht=>by
   have:=h0 t ht
   exact⟨fun a=>by omega,fun a=>by omega⟩
  have hlo:=hop.lo
  have hhi:=hop.hi
  have hrel:=He (nk':=(eX c.2.2.1.1 nk).1) (ts':=(eX c.2.2.1.1 nk).2) (Fz hlow) hlow hop
  exact⟨Zi (r':=(nr,c.2.1,c.2.2.1,ofNat 1,(eX c.2.2.1.1 nk).2,())) h h32 rfl hno ho h0 hrel (by omega) ⟨hlo,by simp only [ec,eX];omega⟩ (by omega),refl _,by simp only;omega,refl _,hlo,by simp only;omega,refl _⟩
 |poll n k un r' hk hf hn hkl h1 hun hT=>
  obtain⟨f1,f2,f3,f4⟩:=hf
  have hro:=h.rok hn
  obtain⟨g1,g2,g3,g4,g5,g6,g7,g8⟩:=hro.tks k hkl
  have h1':(bh (rs.getD n (aa ab)) k).1=1:=h1
  simp only [bh]at h1'
  have hst:=cY hro hkl (show(bh _ k).1≤3 by simp only [bh];omega)
  have hnt:=h.ntI
  have ht:cg (bM (rs.getD n (aa ab)) k) (ofNat 2,((aP rs n).getD k (aa ae)).2.1+1,un,nt,ofNat 0,()):=
   ⟨⟨by simp only [aP,bM];omega,by simp only [aP,bM];omega⟩,hun,⟨by simp only;omega,by simp only;omega⟩,dM,fun h=>absurd rfl h,fun _=>.inl rfl,⟨fun _=>rfl,fun _=>by simp only;omega⟩,.inr (.inr (.inl ⟨rfl,by simp only [aP,bM];omega⟩))⟩
  have hok:=oA hro hst hkl (by rw [bh,h1'];decide) (by rw [bh,h1'];decide) ht (ba rfl) (ba rfl) (ba rfl) hT
  have:=oD (new:=[]) (nt':=nt+1) (nk':=nk) (ne':=ne) h hn hT.id hT.key hok (oE hT (na hkl (fun _=>.inr ⟨le_refl _,by simp only [dU];omega⟩) (fun h=>absurd h (ba rfl)) (h.low n hn))) h.ckI ⟨by omega,by omega⟩ ⟨refl _,h.nkI.2⟩ (by simp) h.neI.2 (hnil _)
  rw [append_nil]at this
  exact⟨this,refl _,refl _,by simp only;omega,refl _,refl _,refl _⟩
 |complete n k r' rk' w hk hf hn hid hi hkl hrk hh hC hw=>
  obtain⟨f1,f2,f3,f4⟩:=hf
  have hro:=h.rok hn
  have hh2:=hh
  obtain⟨_,_,_,c2,_⟩:=hh2
  have c2':(bh (rs.getD n (aa ab)) k).1=2:=c2
  have hst:=cY hro hkl (by rw [c2'];decide)
  obtain⟨hok,hop⟩:=oB hro hst hkl hrk hh hC
  have hlo:=hop.lo
  have hhi:=hop.hi
  simp only at hlo hhi
  have h12:=hro.dag.1.2
  have hrel:=He (na (k:=k) (nt':=nt) (nk':=nk) (t:=(ofNat 4,(bh (rs.getD n (aa ab)) k).2.1,ofNat 0,ofNat 0,ofNat 0,())) hkl (fun h=>absurd h (ba rfl)) (fun h=>absurd h (ba rfl)) (h.low n hn)) (h.low n hn) hop
  have hid':=h.id hn
  have hkk:=h.task hn hkl
  have hwl:w.length≤2:=by rcases hw with⟨_,rfl⟩|⟨_,rfl⟩<;>simp
  have hev:jR ne nr w:=by
   rw [hC.id]at hw
   rcases hw with⟨_,rfl⟩|⟨_,rfl⟩
   ·exact jS (by decide) hid' hkk (.inr (.inl rfl))
   ·exact Zh (a:=[_]) (b:=[_]) (jS (by decide) hid' hkk (.inr (.inl rfl))) (jS (by decide) hid' (by decide) (.inl rfl))
  exact⟨oD h hn hC.id hC.key hok hrel h.ckI ⟨refl _,h.ntI.2⟩ ⟨hlo,by simp only [ec];omega⟩ rfl (by simp only [ec];omega) hev,refl _,refl _,refl _,hlo,by simp only;omega,refl _⟩
 |fail n k t' r' hk hf hn hid hi hkl hh hfl hT=>
  obtain⟨f1,f2,f3,f4⟩:=hf
  have hro:=h.rok hn
  obtain⟨htk,_,_,c2,_⟩:=hh
  have c2':(bh (rs.getD n (aa ab)) k).1=2:=c2
  have hst:=cY hro hkl (by rw [c2'];decide)
  have htr:1≤((aP rs n).getD k (aa ae)).2.1:=by
   obtain⟨g1,g2,g3,g4,g5,g6,g7,g8⟩:=htk
   simp only [aP,bM]at*;omega
  obtain⟨q1,q2,q3,q4,q5,q6⟩:=vZ htk htr hfl
  have hok:=oA hro hst hkl (by rw [c2'];decide) (by rw [c2'];decide) q1 q2 q3 q4 hT
  have hid':=h.id hn
  have hkk:=h.task hn hkl
  have hev:jR ne nr [dq ne r' k]:=by
   unfold dq
   rw [hT.id]
   split
   ·exact jS (by decide) hid' (by decide) (.inl rfl)
   ·exact jS (by decide) hid' hkk (.inr (.inr rfl))
  exact⟨oD h hn hT.id hT.key hok (oE hT (na hkl (fun h=>absurd h q6) (fun h=>absurd h q5) (h.low n hn))) h.ckI ⟨refl _,h.ntI.2⟩ ⟨refl _,h.nkI.2⟩ rfl (by simp only [ec];omega) hev,refl _,refl _,refl _,refl _,by simp only;omega,refl _⟩
 |beat n k un r' hk hf hn hid hi hkl hh hun hT=>
  obtain⟨f1,f2,f3,f4⟩:=hf
  have hro:=h.rok hn
  obtain⟨htk,_,_,c2,_⟩:=hh
  have c2':(bh (rs.getD n (aa ab)) k).1=2:=c2
  have hst:=cY hro hkl (by rw [c2'];decide)
  obtain⟨g1,g2,g3,g4,g5,g6,g7,g8⟩:=htk
  have ht:cg (bM (rs.getD n (aa ab)) k) (((aP rs n).getD k (aa ae)).1,((aP rs n).getD k (aa ae)).2.1,un,((aP rs n).getD k (aa ae)).2.2.2.1,((aP rs n).getD k (aa ae)).2.2.2.2.1,()):=
   ⟨g1,hun,g3,g4,g5,fun _=>.inl c2,g7,g8⟩
  have hok:=oA hro hst hkl (by rw [c2'];decide) (by rw [c2'];decide) ht (by rw [c2];decide) (by rw [c2];decide) (by rw [c2];decide) hT
  have:=oD (new:=[]) (nt':=nt) (nk':=nk) (ne':=ne) h hn hT.id hT.key hok (oE hT (na hkl (fun _=>.inl ⟨c2,rfl⟩) (fun h=>by simp only at h;rw [c2]at h;exact absurd h (ba rfl)) (h.low n hn))) h.ckI ⟨refl _,h.ntI.2⟩ ⟨refl _,h.nkI.2⟩ (by simp) h.neI.2 (hnil _)
  rw [append_nil]at this
  exact⟨this,refl _,refl _,refl _,refl _,refl _,refl _⟩
 |cancel n r' hk hf hn hid h1 e1 e2 e3 e4 hd=>
  obtain⟨f1,f2,f3,f4⟩:=hf
  have hro:=h.rok hn
  have hok:=JK hro h1 e1 e2 e3 e4 hd
  have hev:jR ne nr [(ne,ofNat 6,r'.1,ofNat 0,())]:=by
   rw [e1]
   exact jS (by decide) (h.id hn) (by decide) (.inl rfl)
  exact⟨oD (nt':=nt) (nk':=nk) h hn e1 e2 hok (Hd (Fz (h.low n hn)) hd) h.ckI ⟨refl _,h.ntI.2⟩ ⟨refl _,h.nkI.2⟩ rfl (by simp only [ec];omega) hev,refl _,refl _,refl _,refl _,by simp only;omega,refl _⟩
 |tick l d R nk' ne' w hk hf h1 h2 hl hs' hN=>
  obtain⟨f1,f2,f3,f4⟩:=hf
  have hx:SX c.2.2.2.2.2.2.2.1 nr nt nk ne ac rs (es++ []):=by
   rw [append_nil]
   exact⟨h.fine,⟨by have:=h.ckI.1;omega,h2⟩,h.nrI,h.nkI,h.ntI,h.neI,h.ack,h.elen,h.late,h.evs⟩
  obtain⟨q1,q2,q3,q4,q5,q6⟩:=gT (x:=(ofNat 0,rs,nk,ne,[])) hx _ _ hN (by simp only;omega) (by simp only;omega)
  exact⟨q1,h1,refl _,refl _,q2,q4,refl _⟩
 |ack hk h1 h2=>
  have hel:=h.elen
  have hack:=h.ack
  refine⟨⟨h.fine,h.ckI,h.nrI,h.nkI,h.ntI,h.neI,⟨by simp only;omega,h2⟩,by rw [length_drop];simp only;omega,h.late,fun j hj=> ?_⟩,refl _,refl _,refl _,refl _,refl _,h1⟩
  simp only [length_drop]at hj⊢
  have:=h.evs ((c.2.2.2.2.2.2.2.1-ac).toNat+j) (by omega)
  rw [List.getD_eq_getElem?_getD,List.getElem?_drop,←List.getD_eq_getElem?_getD]
  exact⟨by omega,this.2⟩
abbrev oG (v:Int):gr:=(v,ofNat 0,ofNat 0,ofNat 0,aK,[],())
abbrev mk (ck nr nt nk ne ac:Int) (rs:List aj) (es:List aC):bC:=(ck,nr,nt,nk,ne,ac,rs,es,())
theorem tr_ok {P:Prop} {F:Option (an×Int×Unit)} {t t':an} (h:lr F P t) (he:F=some (t',0,())):P∧t'=t:=by
 rcases h with⟨hp,h⟩|⟨_,n,h⟩
 ·rw [he]at h
  injection h with h
  exact⟨hp,(Prod.mk.inj h).1⟩
 ·rw [he]at h
  injection h with h
  have:=(Prod.mk.inj (Prod.mk.inj h).2).1
  simp only [aF]at this
  omega
theorem xu {P:Prop} {F:Option (an×Int×Unit)} {t:an} (h:lr F P t) (ht:P→0≤t.1):(∃t',F=some (t',0,())∧0≤t'.1)∨∃n:Nat,F=some (t0,ofNat (n+1),()):=by
 rcases h with⟨hp,h⟩|⟨_,h⟩
 ·exact .inl ⟨t,h,ht hp⟩
 ·exact .inr h
theorem AX {nd:aO} {t t':an} {now:Int} (h:tH nd t now t'):0≤t'.1:=by
 rcases h with⟨_,rfl⟩|⟨_,u,_,rfl⟩
 ·exact natCast_nonneg 5
 ·exact natCast_nonneg 3
theorem iM {r:aj} (h:ROk r) {k:Nat} (hk:k<r.2.2.2.2.1.length):dX (bM r k):=jP h.dag.2.1 (by have:=h.len;omega)
theorem qk {r:aj} (h:ROk r) {k:Nat} (hk:k<r.2.2.2.2.1.length):0≤(bh r k).1:=(zd (h.tks k hk)).1
section
variable {S R:Type} {G:S→R→Prop}
theorem zg {K:aj×Int×Unit→Option (S×R×Unit)} (r:aj) (hr:bG r) (i tk un:Int) (hok:∀(r':aj) (k:Nat),i=k→k<r.2.2.2.2.1.length→(bh r k).1=1→bU un→Turn r k (ofNat 2,(bh r k).2.1+1,un,tk,ofNat 0,()) r'→∃t q,K (r',0,())=some (t,q,())∧G t q) (herr:(ROk r→¬(∃k:Nat,i=k∧k<r.2.2.2.2.1.length∧(bh r k).1=1∧bU un∧1≤tk∧bU tk))→∀n:Nat,∃t q,K (aK,ofNat (n+1),())=some (t,q,())∧G t q):
  ∃t q,(xj (r,i,tk,un,())).bind K=some (t,q,())∧G t q:=by
 obtain⟨r',e',hc,hq⟩:=lu r hr i (fun nd t=>uG (nd,t,tk,un,())) (fun nd t h1 h2 h3=>xu (f167 nd t tk un h1 h2) fun _=>natCast_nonneg 2)
 rw [←Ft]at hc
 rw [hc]
 rcases hq with⟨rfl,hro,_,k,t',hi,hk,hD,ht⟩|⟨⟨m,rfl⟩,rfl,hno⟩
 ·obtain⟨⟨_,_,hun,htk,h1⟩,rfl⟩:=tr_ok (f167 _ _ tk un (iM hro hk) (qk hro hk)) hD
  have h5:=Fs (iM hro hk) htk
  have h0:=htk.1.1
  have e:IntKind.i64.wrap ((bh r k).2.1+ofNat 1)=(bh r k).2.1+1:=by rw [IntKind.wrap_i64];simp only [aF];omega
  rw [e]at ht
  exact hok r' k hi hk h1 hun ht
 ·refine herr (fun hro ⟨k,hi,hk,h1,hun,htk,htk2⟩=>hno ⟨hro,cY hro hk (by rw [h1];decide),k,(ofNat 2,IntKind.i64.wrap ((bh r k).2.1+ofNat 1),un,tk,ofNat 0,()),hi,hk,?_⟩) m
  rcases f167 (bM r k) (bh r k) tk un (iM hro hk) (qk hro hk)with⟨_,hP⟩|⟨hP,_⟩
  ·exact hP
  ·exact absurd ⟨htk,htk2,hun,hro.tks k hk,h1⟩ hP
theorem BS {K:aj×Int×Unit→Option (S×R×Unit)} (r:aj) (hr:bG r) (i tk un:Int) (hok:∀(r':aj) (k:Nat),i=k→k<r.2.2.2.2.1.length→iZ (bM r k) (bh r k) tk→bU un→Turn r k ((bh r k).1,(bh r k).2.1,un,(bh r k).2.2.2.1,(bh r k).2.2.2.2.1,()) r'→∃t q,K (r',0,())=some (t,q,())∧G t q) (herr:∀n:Nat,∃t q,K (aK,ofNat (n+1),())=some (t,q,())∧G t q):
  ∃t q,(EF (r,i,tk,un,())).bind K=some (t,q,())∧G t q:=by
 obtain⟨r',e',hc,hq⟩:=lu r hr i (fun nd t=>Ag (nd,t,tk,un,())) (fun nd t h1 h2 h3=>xu (f173 nd t tk un h1 h2) fun _=>h2)
 rw [←SZ]at hc
 rw [hc]
 rcases hq with⟨rfl,hro,_,k,t',hi,hk,hD,ht⟩|⟨⟨m,rfl⟩,rfl,_⟩
 ·obtain⟨⟨hun,hh⟩,rfl⟩:=tr_ok (f173 _ _ tk un (iM hro hk) (qk hro hk)) hD
  exact hok r' k hi hk hh hun ht
 ·exact herr m
theorem BT {K:aj×Int×Unit→Option (S×R×Unit)} (r:aj) (hr:bG r) (i tk now:Int) (hok:∀(r':aj) (k:Nat) (t':an),i=k→k<r.2.2.2.2.1.length→iZ (bM r k) (bh r k) tk→tH (bM r k) (bh r k) now t'→Turn r k t' r'→∃t q,K (r',0,())=some (t,q,())∧G t q) (herr:∀n:Nat,∃t q,K (aK,ofNat (n+1),())=some (t,q,())∧G t q):
  ∃t q,(uL (r,i,tk,now,())).bind K=some (t,q,())∧G t q:=by
 obtain⟨r',e',hc,hq⟩:=lu r hr i (fun nd t=>xg (nd,t,tk,now,())) (fun nd t h1 h2 h3=>by
  obtain⟨t',h,h4⟩:=f171 nd t tk now h1 h2
  exact xu h fun hp=>AX (h4 hp))
 rw [←GW]at hc
 rw [hc]
 rcases hq with⟨rfl,hro,_,k,t',hi,hk,hD,ht⟩|⟨⟨m,rfl⟩,rfl,_⟩
 ·obtain⟨t2,h2,h3⟩:=f171 (bM r k) (bh r k) tk now (iM hro hk) (qk hro hk)
  obtain⟨hp,rfl⟩:=tr_ok h2 hD
  exact hok r' k t' hi hk hp.2 (h3 hp) ht
 ·exact herr m
theorem wA {K:aj×Int×Unit→Option (S×R×Unit)} (r:aj) (hr:bG r) (hok:∀r':aj,r.2.2.2.1=1→r'.1=r.1→r'.2.1=r.2.1→r'.2.2.1=r.2.2.1→r'.2.2.2.1=4→lH r.2.2.1.1 r.2.2.2.2.1 r'.2.2.2.2.1→∃t q,K (r',0,())=some (t,q,())∧G t q) (herr:∀n:Nat,∃t q,K (aK,ofNat (n+1),())=some (t,q,())∧G t q):
  ∃t q,(xi (r,())).bind K=some (t,q,())∧G t q:=by
 obtain⟨r',e',hc,hq⟩:=Lu r hr
 rw [hc]
 rcases hq with⟨rfl,hro,h1,h2,h3,h4,h5,h6,_⟩|⟨⟨m,rfl⟩,rfl,_⟩
 ·exact hok r' h1 h2 h3 h4 h5 h6
 ·exact herr m
theorem tI {K:aj×Int×Int×Unit→Option (S×R×Unit)} (r:aj) (hr:bG r) (i tk rk:Int) (hok:∀(r':aj) (rk':Int) (k:Nat),i=k→k<r.2.2.2.2.1.length→ma rk→iZ (bM r k) (bh r k) tk→Cmpl r k rk r' rk'→∃t q,K (r',rk',0,())=some (t,q,())∧G t q) (herr:(ROk r→¬(r.2.2.2.1=1∧ma rk∧∃k:Nat,i=k∧k<r.2.2.2.2.1.length∧iZ (bM r k) (bh r k) tk))→∀r' rk' (n:Nat),∃t q,K (r',rk',ofNat (n+1),())=some (t,q,())∧G t q):
  ∃t q,(xh (r,i,tk,rk,())).bind K=some (t,q,())∧G t q:=by
 obtain⟨r',rk',e',hc,hq⟩:=FW r hr i tk rk
 rw [hc]
 rcases hq with⟨rfl,hro,_,hrk,k,hi,hk,hh,ht⟩|⟨⟨m,rfl⟩,hno⟩
 ·exact hok r' rk' k hi hk hrk hh ht
 ·exact herr (fun hro h=>hno ⟨hro,h⟩) r' rk' m
theorem mT {K:aj×Int×Int×Unit→Option (S×R×Unit)} (id:Int) (key:ByteArray) (sp:List aO×Unit) (hln:∀nd∈sp.1,nd.1.length≤9223372036854775807) (rk:Int) (hok:1≤key.size∧key.size≤24→qf sp.1→ma rk→∃t q,K ((id,key,sp,ofNat 1,(eX sp.1 rk).2,()),(eX sp.1 rk).1,0,())=some (t,q,())∧G t q) (herr:∀r' rk' (n:Nat),∃t q,K (r',rk',ofNat (n+1),())=some (t,q,())∧G t q):
  ∃t q,(qY (id,key,sp,rk,())).bind K=some (t,q,())∧G t q:=by
 obtain⟨ns,_⟩:=sp
 obtain⟨r',rk',e,hc,hq⟩:=Fv id key ns hln rk
 rw [hc]
 rcases hq with⟨rfl,_,h1,hd,hk,rfl,rfl⟩|⟨⟨m,rfl⟩,_⟩
 ·exact hok h1 hd hk
 ·exact herr r' rk' m
end
theorem wa (r:aj) (h:ROk r) (k:Nat) (rk now:Int) (hk:k<r.2.2.2.2.1.length) (h3:(bh r k).1=3) (hd:dx (bh r k) now=true) (hrk:bU rk) (hnow:bU now):∃r',nZ (r,(k:Int),rk,now,())=some (r',0,())∧Turn r k (ofNat 1,(bh r k).2.1,ofNat 0,ofNat 0,rk,()) r':=by
 have f:=fun nd t h1 h2=>f216 nd t rk now h1 h2
 obtain⟨r',e',hc,hq⟩:=lu r (mZ h) k (fun nd t=>Ah (nd,t,rk,now,())) (fun nd t h1 h2 h3=>xu (f nd t h1 h2) fun _=>natCast_nonneg 1)
 rw [←Ta]at hc
 have hP:=f (bM r k) (bh r k) (iM h hk) (qk h hk)
 rcases hq with⟨rfl,hro,_,k',t',hi,_,hD,ht⟩|⟨_,_,hno⟩
 ·obtain rfl:k=k':=by omega
  obtain⟨_,rfl⟩:=tr_ok hP hD
  exact⟨r',hc,ht⟩
 ·refine absurd ⟨h,cY h hk (by rw [h3];decide),k,(ofNat 1,(bh r k).2.1,ofNat 0,ofNat 0,rk,()),rfl,hk,?_⟩ hno
  rcases hP with⟨_,hP⟩|⟨hP,_⟩
  ·exact hP
  ·exact absurd ⟨hrk,hnow,h.tks k hk,h3,hd⟩ hP
theorem ro (r:aj) (h:ROk r) (k:Nat) (now:Int) (hk:k<r.2.2.2.2.1.length) (h2:(bh r k).1=2) (hd:dx (bh r k) now=true) (hnow:bU now):∃r' t',oc (r,(k:Int),now,())=some (r',0,())∧tH (bM r k) (bh r k) now t'∧Turn r k t' r':=by
 obtain⟨r',e',hc,hq⟩:=lu r (mZ h) k (fun nd t=>Ai (nd,t,now,())) (fun nd t h1 h2 h3=>by
  obtain⟨t',h,h4⟩:=f218 nd t now h1 h2
  exact xu h fun hp=>AX (h4 hp))
 rw [←NK]at hc
 obtain⟨t2,hP,hf⟩:=f218 (bM r k) (bh r k) now (iM h hk) (qk h hk)
 rcases hq with⟨rfl,hro,_,k',t',hi,_,hD,ht⟩|⟨_,_,hno⟩
 ·obtain rfl:k=k':=by omega
  obtain⟨hp,rfl⟩:=tr_ok hP hD
  exact⟨r',t',hc,hf hp,ht⟩
 ·refine absurd ⟨h,cY h hk (by rw [h2];decide),k,t2,rfl,hk,?_⟩ hno
  rcases hP with⟨_,hP⟩|⟨hP,_⟩
  ·exact hP
  ·exact absurd ⟨hnow,h.tks k hk,h2,hd⟩ hP
def bD (ck nr nt nk ne ac:Int) (rs:List aj) (es:List aC) (c:bi) (t:bC) (r:gr):Prop:=Stp ck nr nt nk ne ac rs es c t r∧t.2.2.2.2.2.2.2.1.length≤40
theorem fv {z:Int} (h0:0≤z) (h:z≤1099511627776):IntKind.i64.wrap (z+ofNat 1)=z+1:=by rw [IntKind.wrap_i64];simp only [aF];omega
theorem wr2 {z:Int} (h0:0≤z) (h:z≤1099511627776):IntKind.i64.wrap (IntKind.i64.wrap (z+ofNat 1)+ofNat 1)=z+2:=by rw [fv h0 h,IntKind.wrap_i64];simp only [aF];omega
theorem wrm {z:Int} (h0:0≤z) (h:z≤1099511627776):IntKind.i64.wrap (IntKind.i64.wrap (z+ofNat 1)-ofNat 1)=z:=by rw [fv h0 h,IntKind.wrap_i64];simp only [aF];omega
theorem jT {rs:List aj} (n:Nat) (r':aj):take rs.length (rs.set n r')=rs.set n r':=take_of_length_le (by rw [length_set];exact Nat.le_refl _)
theorem f48 (ck nr nt nk ne ac:Int) (rs:List aj) (es:List aC):∃b,cS (mk ck nr nt nk ne ac rs es,())=some (b,())∧(b=false→Fresh nr nt nk ne)∧(b=true→¬Fresh nr nt nk ne):=by
 refine⟨_,rfl,fun h=> ?_,fun h hf=> ?_⟩
 ·have h:=of_decide_eq_false h
  simp only [aF]at h
  constructor<;>(split at h<;>split at h<;>split at h<;>omega)
 ·have h:=of_decide_eq_true h
  simp only [aF]at h
  obtain⟨f1,f2,f3,f4⟩:=hf
  split at h<;>split at h<;>split at h<;>omega
section
variable {ck nr nt nk ne ac:Int} {rs:List aj} {es:List aC} {c:bi} {ck' nr' nt' nk' ne' ac':Int} {R:List aj} {E:List aC} {a b d:Int}
theorem ao (h:SOk (mk ck nr nt nk ne ac rs es)) (n:Nat) (hw:ef ck nr nt nk ne ac rs es c):bD ck nr nt nk ne ac rs es c (mk ck nr nt nk ne ac rs es) (oG (ofNat (n+1))):=⟨.err n hw,h.ev40⟩
theorem FA (h:SOk (mk ck nr nt nk ne ac rs es)) {n:Nat} (hk:c.1=1) (hn:n<rs.length) (hkey:cQ (rs.getD n (aa ab))=c.2.1.toList) (ha:(rs.getD n (aa ab)).1=a):bD ck nr nt nk ne ac rs es c (mk ck nr nt nk ne ac rs es) (jZ a (ofNat 0) (ofNat 0)):=by
 subst ha;exact⟨.known n hk hn hkey,h.ev40⟩
theorem zh (hk:c.1=1) (hf:Fresh nr nt nk ne) (hno:∀n:Nat,n<rs.length→cQ (rs.getD n (aa ab))≠c.2.1.toList) (h32:rs.length<32) (hkey:1≤c.2.1.size∧c.2.1.size≤24) (hd:qf c.2.2.1.1) (hrk:ma nk) (hnr:nr'=nr+1) (hne:ne'=ne+1) (hR:R=rs++ [(nr,c.2.1,c.2.2.1,ofNat 1,(eX c.2.2.1.1 nk).2,())]) (hE:E=es++ [(ne,ofNat 1,nr,ofNat 0,())]) (h40:E.length≤40):
  bD ck nr nt nk ne ac rs es c (mk ck nr' nt (eX c.2.2.1.1 nk).1 ne' ac R E) (jZ nr (ofNat 0) (ofNat 0)):=by
 subst hnr hne hR hE;exact⟨.new hk hf hno h32 hkey hd hrk,h40⟩
theorem Hh (h:SOk (mk ck nr nt nk ne ac rs es)) {n k:Nat} {un:Int} {r':aj} (hk:c.1=2) (hf:Fresh nr nt nk ne) (hn:n<rs.length) (hkl:k<(aP rs n).length) (h1:((aP rs n).getD k (aa ae)).1=1) (hun:bU un) (hT:Turn (rs.getD n (aa ab)) k (ofNat 2,((aP rs n).getD k (aa ae)).2.1+1,un,nt,ofNat 0,()) r') (ha:(rs.getD n (aa ab)).1=a) (hb:b=k) (hd:d=nt) (hnt:nt'=nt+1) (hR:R=rs.set n r'):
  bD ck nr nt nk ne ac rs es c (mk ck nr nt' nk ne ac R es) (jZ a b d):=by
 subst ha hb hnt hR;rw [hd];exact⟨.poll n k un r' hk hf hn hkl h1 hun hT,h.ev40⟩
theorem lI {n k:Nat} {r':aj} {rk':Int} {w:List aC} (hk:c.1=3) (hf:Fresh nr nt nk ne) (hn:n<rs.length) (hid:(rs.getD n (aa ab)).1=c.2.2.2.1) (hi:c.2.2.2.2.1=k) (hkl:k<(aP rs n).length) (hrk:ma nk) (hh:iZ (bM (rs.getD n (aa ab)) k) ((aP rs n).getD k (aa ae)) c.2.2.2.2.2.1) (hC:Cmpl (rs.getD n (aa ab)) k nk r' rk')
  (hw:(r'.2.2.2.1≠2∧w= [(ne,ofNat 2,r'.1,(k:Int),())])∨(r'.2.2.2.1=2∧w= [(ne,ofNat 2,r'.1,(k:Int),()),(ne+1,ofNat 4,r'.1,ofNat 0,())])) (hne:ne'=ne+w.length) (hR:R=rs.set n r') (hE:E=es++w) (h40:E.length≤40):
  bD ck nr nt nk ne ac rs es c (mk ck nr nt rk' ne' ac R E) (jZ (ofNat 0) (ofNat 0) (ofNat 0)):=by
 subst hne hR hE;exact⟨.complete n k r' rk' w hk hf hn hid hi hkl hrk hh hC hw,h40⟩
theorem wb {n k:Nat} {t':an} {r':aj} (hk:c.1=4) (hf:Fresh nr nt nk ne) (hn:n<rs.length) (hid:(rs.getD n (aa ab)).1=c.2.2.2.1) (hi:c.2.2.2.2.1=k) (hkl:k<(aP rs n).length) (hh:iZ (bM (rs.getD n (aa ab)) k) ((aP rs n).getD k (aa ae)) c.2.2.2.2.2.1) (hfl:tH (bM (rs.getD n (aa ab)) k) ((aP rs n).getD k (aa ae)) ck t') (hT:Turn (rs.getD n (aa ab)) k t' r') (hne:ne'=ne+1) (hR:R=rs.set n r') (hE:E=es++ [dq ne r' k]) (h40:E.length≤40):
  bD ck nr nt nk ne ac rs es c (mk ck nr nt nk ne' ac R E) (jZ (ofNat 0) (ofNat 0) (ofNat 0)):=by
 subst hne hR hE;exact⟨.fail n k t' r' hk hf hn hid hi hkl hh hfl hT,h40⟩
theorem Hi (h:SOk (mk ck nr nt nk ne ac rs es)) {n k:Nat} {un:Int} {r':aj} (hk:c.1=5) (hf:Fresh nr nt nk ne) (hn:n<rs.length) (hid:(rs.getD n (aa ab)).1=c.2.2.2.1) (hi:c.2.2.2.2.1=k) (hkl:k<(aP rs n).length) (hh:iZ (bM (rs.getD n (aa ab)) k) ((aP rs n).getD k (aa ae)) c.2.2.2.2.2.1) (hun:bU un)
  (hT:Turn (rs.getD n (aa ab)) k (((aP rs n).getD k (aa ae)).1,((aP rs n).getD k (aa ae)).2.1,un,((aP rs n).getD k (aa ae)).2.2.2.1,((aP rs n).getD k (aa ae)).2.2.2.2.1,()) r') (hR:R=rs.set n r'):
  bD ck nr nt nk ne ac rs es c (mk ck nr nt nk ne ac R es) (jZ (ofNat 0) (ofNat 0) (ofNat 0)):=by
 subst hR;exact⟨.beat n k un r' hk hf hn hid hi hkl hh hun hT,h.ev40⟩
theorem BU {n:Nat} {r':aj} (hk:c.1=6) (hf:Fresh nr nt nk ne) (hn:n<rs.length) (hid:(rs.getD n (aa ab)).1=c.2.2.2.1) (h1:(rs.getD n (aa ab)).2.2.2.1=1) (e1:r'.1=(rs.getD n (aa ab)).1) (e2:r'.2.1=(rs.getD n (aa ab)).2.1) (e3:r'.2.2.1=(rs.getD n (aa ab)).2.2.1) (e4:r'.2.2.2.1=4) (hd:lH (rs.getD n (aa ab)).2.2.1.1 (aP rs n) r'.2.2.2.2.1) (hne:ne'=ne+1) (hR:R=rs.set n r') (hE:E=es++ [(ne,ofNat 6,r'.1,ofNat 0,())]) (h40:E.length≤40):
  bD ck nr nt nk ne ac rs es c (mk ck nr nt nk ne' ac R E) (jZ (ofNat 0) (ofNat 0) (ofNat 0)):=by
 subst hne hR hE;exact⟨.cancel n r' hk hf hn hid h1 e1 e2 e3 e4 hd,h40⟩
theorem FB (h:SOk (mk ck nr nt nk ne ac rs es)) {n:Nat} (hk:c.1=8) (hn:n<rs.length) (hid:(rs.getD n (aa ab)).1=c.2.2.2.1):bD ck nr nt nk ne ac rs es c (mk ck nr nt nk ne ac rs es) (ofNat 0,ofNat 0,ofNat 0,ofNat 0,rs.getD n (aa ab),[],()):=⟨.query n hk hn hid,h.ev40⟩
theorem lw (h:SOk (mk ck nr nt nk ne ac rs es)) (hk:c.1=9) (m:Nat) (hE:E=es.take m):bD ck nr nt nk ne ac rs es c (mk ck nr nt nk ne ac rs es) (ofNat 0,ofNat 0,ofNat 0,ofNat 0,aK,E,()):=by
 subst hE;exact⟨.drain m hk,h.ev40⟩
theorem ql (h:SOk (mk ck nr nt nk ne ac rs es)) (hk:c.1=10) (h1:ac≤c.2.2.2.2.2.2.2.1) (h2:c.2.2.2.2.2.2.2.1<ne) (hE:E=es.drop (c.2.2.2.2.2.2.2.1-ac).toNat):bD ck nr nt nk ne ac rs es c (mk ck nr nt nk ne c.2.2.2.2.2.2.2.1 rs E) (jZ (ofNat 0) (ofNat 0) (ofNat 0)):=by
 subst hE;exact⟨.ack hk h1 h2,by have:=h.ev40;simp only [length_drop,mk]at*;omega⟩
end
theorem bP {G:bC→gr→Prop} {M E:Option (bC×gr×Unit)} {ck nr nt nk ne ac:Int} {rs:List aj} {es:List aC} (b:Bool) (hM:(b=true→Fresh nr nt nk ne)→∃t r,M=some (t,r,())∧G t r) (hE:b=true→¬Fresh nr nt nk ne→∃t r,E=some (t,r,())∧G t r):
  ∃t r,((cS (mk ck nr nt nk ne ac rs es,())).bind fun y=>bif y.1 then(bif b then E else M)else M)=some (t,r,())∧G t r:=by
 obtain⟨b',hb,hf,hg⟩:=f48 ck nr nt nk ne ac rs es
 rw [hb,bind_some]
 cases b' with
 |true=>
  cases b with
  |true=>exact hE rfl (hg rfl)
  |false=>exact hM fun h=>nomatch h
 |false=>exact hM fun _=>hf rfl
theorem Lz {n:Nat} (h:n≤60):(decide ((n+1)*80≤2^46) && decide (n+1≤2^46))=true:=CU (by omega) (by omega)
theorem f118 (n:Int):∃b,me (n,())=some (b,())∧(b=false→¬(1≤n∧n≤1048576))∧(b=true→1≤n∧n≤1048576):=by
 simp only [me]
 by_cases c:n≥ofNat 1
 ·rw [decide_eq_true c,cond_true]
  exact⟨_,rfl,fun h=>by have:=of_decide_eq_false h;simp only [aF]at*;omega,fun h=>by have:=of_decide_eq_true h;simp only [aF]at*;omega⟩
 ·rw [decide_eq_false c,cond_false]
  exact⟨_,rfl,fun _=>by simp only [aF]at*;omega,fun h=>nomatch h⟩
theorem Rb {z:Int} (h:0≤z) (d:Decidable (ofNat 1099511627776<z)):bU (Decidable.rec (fun _=>z) (fun _=>ofNat 1099511627776) d):=by
 cases d with
 |isFalse hn=>exact(⟨h,by simp only [aF]at hn;omega⟩:bU z)
 |isTrue hn=>exact(⟨by decide,by decide⟩:bU (ofNat 1099511627776))
theorem LA {a b:Int} (h1:0≤a) (h2:a≤1099511627776) (h3:1≤b) (h4:b≤1048576):0≤IntKind.i64.wrap (a+b):=by rw [IntKind.wrap_i64];omega
theorem BV (r:aj):∀(j:Nat) (s:wy),j≤r.2.2.2.2.1.length→(dv (dL r) 0 (r.2.2.2.2.1.take j) s).2.1=false→s.2.1=false∧∀k,k<j→(r.2.2.2.2.1.getD k (aa ae)).1≠1
 |0,s,_,h=>by rw [List.take_zero]at h;exact⟨h,fun k hk=>absurd hk (not_lt_zero _)⟩
 |j+1,s,hj,h=>by
  rw [rl _ hj]at h
  have ih:=BV r j s (by omega)
  generalize dv (dL r) 0 (r.2.2.2.2.1.take j) s=s2 at h ih
  unfold dL at h
  by_cases c:(r.2.2.2.2.1.getD j (aa ae)).1=1
  ·rw [show((r.2.2.2.2.1.getD j (aa ae)).1==ofNat 1)=true from by simpa using c,cond_true]at h
   cases h2:s2.2.1 with
   |false=>rw [h2]at h;exact nomatch h
   |true=>
    rw [h2,Bool.not_true,cond_false]at h
    cases hd:decide ((r.2.2.2.2.1.getD j (aa ae)).2.2.2.2.1<s2.1)with
    |true=>rw [hd]at h;exact nomatch h
    |false=>rw [hd,cond_false,h2]at h;exact nomatch h
  ·rw [show((r.2.2.2.2.1.getD j (aa ae)).1==ofNat 1)=false from by simpa using c,cond_false]at h
   obtain⟨a,b⟩:=ih h
   refine⟨a,fun k hk=> ?_⟩
   by_cases e:k=j
   ·rw [e];exact c
   ·exact b k (by omega)
theorem jU (rs:List aj):∀j:Nat,j≤rs.length→(ee dL (rs.take j) lZ).2.1=false→∀n k:Nat,n<j→k<(aP rs n).length→((aP rs n).getD k (aa ae)).1≠1
 |0,_,_=>fun n k hn=>absurd hn (not_lt_zero _)
 |j+1,hj,h=>fun n k hn hk=>by
  rw [rm _ hj]at h
  obtain⟨a,b⟩:=BV (rs.getD j (aa ab)) _ _ (Nat.le_refl _) (by rw [take_length];exact h)
  by_cases e:n=j
  ·subst e;exact b k hk
  ·exact jU rs j (by omega) a n k (by omega) hk
theorem co {n k:Nat} (h:n≤60) (hk:k≤60):(decide ((n+k)*32≤2^46) && decide (n+k≤2^46))=true:=CU (by omega) (by omega)
section
variable {ck nr nt nk ne ac:Int} {rs:List aj} {es:List aC}
theorem oH (h:SOk (mk ck nr nt nk ne ac rs es)) (hR:isEmpty rs=false) (hE:isEmpty es=false) (v:Int):bE (mk ck nr nt nk ne ac rs es) v=some (mk ck nr nt nk ne ac rs es,oG v,()):=by
 have h25:=aZ h
 simp only [mk]at h25
 simp only [bE,mk,h25,bind_some,hR,hE,cond_false,zero_add,Nat.le_refl,decide_true,cond_true,bm]
theorem oI (h:SOk (mk ck nr nt nk ne ac rs [])) (hR:isEmpty rs=false) (v:Int):cr (mk ck nr nt nk ne ac rs []) v=some (mk ck nr nt nk ne ac rs [],oG v,()):=by
 have h25:=aZ h
 simp only [mk]at h25
 simp only [cr,mk,h25,bind_some,hR,isEmpty_nil,cond_false,zero_add,Nat.le_refl,decide_true,cond_true,bm]
theorem oJ (h:SOk (mk ck nr nt nk ne ac [] es)) (hE:isEmpty es=false) (v:Int):cu (mk ck nr nt nk ne ac [] es) v=some (mk ck nr nt nk ne ac [] es,oG v,()):=by
 have h25:=aZ h
 simp only [mk]at h25
 simp only [cu,mk,h25,bind_some,hE,isEmpty_nil,cond_false,zero_add,Nat.le_refl,decide_true,cond_true,bm]
theorem oK (h:SOk (mk ck nr nt nk ne ac [] [])) (v:Int):da (mk ck nr nt nk ne ac [] []) v=some (mk ck nr nt nk ne ac [] [],oG v,()):=by
 have h25:=aZ h
 simp only [mk]at h25
 simp only [da,mk,h25,bind_some,isEmpty_nil,cond_false,zero_add,Nat.le_refl,decide_true,cond_true,bm]
end
theorem Zk {ck nr nt nk ne ac:Int} {rs:List aj} {es:List aC} (h:SOk (mk ck nr nt nk ne ac rs es)) (hr:∀r∈rs,bG r) (hR:isEmpty rs=false) (hE:isEmpty es=false) (c:bi) (hfr:Fresh nr nt nk ne) (hk:c.1=6):
  ∃t r,yq ((mk ck nr nt nk ne ac rs es),c,())=some (t,r,())∧bD ck nr nt nk ne ac rs es c t r:=by
 have h25:=aZ h
 have hf:=h.fine
 have he:=h.ev40
 have hne:=h.ne
 simp only [mk]at h25 hf he hne
 have h32:=hf.1
 have E:=oH h hR hE
 have hwy:ef ck nr nt nk ne ac rs es c:=dF (by rw [hk];decide) (by rw [hk];decide) (by rw [hk];decide) (by rw [hk];decide)
 simp only [mk]at E
 simp only [yq,mk,h25,bind_some,hR,hE,cond_false,zero_add,Nat.le_refl,decide_true,cond_true,bm,ce,E]
 obtain⟨i,b,e,hfi,hq⟩:=bX rs (by omega) hr c.2.2.2.1
 simp only [hfi,bind_some]
 rcases hq with⟨_,_,hq⟩|⟨rfl,_,⟨rfl,n,rfl,hn,hid⟩|⟨rfl,_⟩⟩
 ·exact absurd hf hq
 ·simp only [Bool.not_true,cond_false,aQ hn,aJ hn,cond_true,toNat_natCast]
  refine wA (rs.getD n (aa ab)) (hr _ (aD hn _)) (fun r' h1 e1 e2 e3 e4 hd=> ?_) (fun m=> ?_)
  ·simp only [cM]
   try simp only [length_cons,length_nil,zero_add,co (show es.length≤60 by omega) (show 1≤60 by omega),co (show es.length+1≤60 by omega) (show 1≤60 by omega),decide_true,cond_true,length_append,length_set,Nat.le_refl,drop_zero]
   by_cases c40:(((es.length+1:Nat):Int)>ofNat 40)
   ·rw [decide_eq_true c40,cond_true];exact⟨_,_,rfl,ao h 8 hwy⟩
   ·rw [decide_eq_false c40,cond_false]
    exact⟨_,_,rfl,BU hk hfr hn hid h1 e1 e2 e3 e4 hd (fv (by omega) (by omega)) (jT n r') (by simp) (by simp only [length_append,length_cons,length_nil,aF]at c40⊢;omega)⟩
  ·simp only [eW]
   exact⟨_,_,rfl,ao h m hwy⟩
 ·exact⟨_,_,rfl,ao h 5 hwy⟩
theorem Zl {ck nr nt nk ne ac:Int} {rs:List aj} (h:SOk (mk ck nr nt nk ne ac rs [])) (hr:∀r∈rs,bG r) (hR:isEmpty rs=false) (c:bi) (hfr:Fresh nr nt nk ne) (hk:c.1=6):
  ∃t r,yB ((mk ck nr nt nk ne ac rs []),c,())=some (t,r,())∧bD ck nr nt nk ne ac rs [] c t r:=by
 have h25:=aZ h
 have hf:=h.fine
 have he:=h.ev40
 have hne:=h.ne
 simp only [mk]at h25 hf he hne
 have h32:=hf.1
 have E:=oI h hR
 have hwy:ef ck nr nt nk ne ac rs ([]:List aC) c:=dF (by rw [hk];decide) (by rw [hk];decide) (by rw [hk];decide) (by rw [hk];decide)
 simp only [mk]at E
 simp only [yB,mk,h25,bind_some,hR,isEmpty_nil,cond_false,zero_add,Nat.le_refl,decide_true,cond_true,bm,ce,E]
 obtain⟨i,b,e,hfi,hq⟩:=bX rs (by omega) hr c.2.2.2.1
 simp only [hfi,bind_some]
 rcases hq with⟨_,_,hq⟩|⟨rfl,_,⟨rfl,n,rfl,hn,hid⟩|⟨rfl,_⟩⟩
 ·exact absurd hf hq
 ·simp only [Bool.not_true,cond_false,aQ hn,aJ hn,cond_true,toNat_natCast]
  refine wA (rs.getD n (aa ab)) (hr _ (aD hn _)) (fun r' h1 e1 e2 e3 e4 hd=> ?_) (fun m=> ?_)
  ·simp only [cM]
   try simp only [length_set,Nat.le_refl,decide_true,cond_true,drop_zero]
   exact⟨_,_,rfl,BU hk hfr hn hid h1 e1 e2 e3 e4 hd (fv (by omega) (by omega)) (jT n r') (by simp) (by simp only [length_cons,length_nil];omega)⟩
  ·simp only [eW]
   exact⟨_,_,rfl,ao h m hwy⟩
 ·exact⟨_,_,rfl,ao h 5 hwy⟩
theorem Zm {ck nr nt nk ne ac:Int} {es:List aC} (h:SOk (mk ck nr nt nk ne ac [] es)) (hr:∀r∈([]:List aj),bG r) (hE:isEmpty es=false) (c:bi) (hfr:Fresh nr nt nk ne) (hk:c.1=6):
  ∃t r,yL ((mk ck nr nt nk ne ac [] es),c,())=some (t,r,())∧bD ck nr nt nk ne ac [] es c t r:=by
 have h25:=aZ h
 have hf:=h.fine
 have he:=h.ev40
 have hne:=h.ne
 simp only [mk]at h25 hf he hne
 have h32:=hf.1
 have E:=oJ h hE
 have hwy:ef ck nr nt nk ne ac ([]:List aj) es c:=dF (by rw [hk];decide) (by rw [hk];decide) (by rw [hk];decide) (by rw [hk];decide)
 simp only [mk]at E
 simp only [yL,mk,h25,bind_some,hE,isEmpty_nil,cond_false,zero_add,Nat.le_refl,decide_true,cond_true,bm,ce,E]
 obtain⟨i,b,e,hfi,hq⟩:=bX ([]:List aj) (by omega) hr c.2.2.2.1
 simp only [hfi,bind_some]
 rcases hq with⟨_,_,hq⟩|⟨rfl,_,⟨rfl,n,rfl,hn,hid⟩|⟨rfl,_⟩⟩
 ·exact absurd hf hq
 ·exact absurd hn (not_lt_zero _)
 ·exact⟨_,_,rfl,ao h 5 hwy⟩
theorem Zn {ck nr nt nk ne ac:Int} (h:SOk (mk ck nr nt nk ne ac [] [])) (hr:∀r∈([]:List aj),bG r) (c:bi) (hfr:Fresh nr nt nk ne) (hk:c.1=6):
  ∃t r,yU ((mk ck nr nt nk ne ac [] []),c,())=some (t,r,())∧bD ck nr nt nk ne ac [] [] c t r:=by
 have h25:=aZ h
 have hf:=h.fine
 have he:=h.ev40
 have hne:=h.ne
 simp only [mk]at h25 hf he hne
 have h32:=hf.1
 have E:=oK h
 have hwy:ef ck nr nt nk ne ac ([]:List aj) ([]:List aC) c:=dF (by rw [hk];decide) (by rw [hk];decide) (by rw [hk];decide) (by rw [hk];decide)
 simp only [mk]at E
 simp only [yU,mk,h25,bind_some,isEmpty_nil,cond_false,zero_add,Nat.le_refl,decide_true,cond_true,bm,ce,E]
 obtain⟨i,b,e,hfi,hq⟩:=bX ([]:List aj) (by omega) hr c.2.2.2.1
 simp only [hfi,bind_some]
 rcases hq with⟨_,_,hq⟩|⟨rfl,_,⟨rfl,n,rfl,hn,hid⟩|⟨rfl,_⟩⟩
 ·exact absurd hf hq
 ·exact absurd hn (not_lt_zero _)
 ·exact⟨_,_,rfl,ao h 5 hwy⟩
theorem Zo {ck nr nt nk ne ac:Int} {rs:List aj} {es:List aC} (h:SOk (mk ck nr nt nk ne ac rs es)) (hr:∀r∈rs,bG r) (hR:isEmpty rs=false) (hE:isEmpty es=false) (c:bi) (hfr:Fresh nr nt nk ne) (hk:c.1=4):
  ∃t r,vd ((mk ck nr nt nk ne ac rs es),c,())=some (t,r,())∧bD ck nr nt nk ne ac rs es c t r:=by
 have h25:=aZ h
 have hf:=h.fine
 have he:=h.ev40
 have hne:=h.ne
 simp only [mk]at h25 hf he hne
 have h32:=hf.1
 have E:=oH h hR hE
 have hwy:ef ck nr nt nk ne ac rs es c:=dF (by rw [hk];decide) (by rw [hk];decide) (by rw [hk];decide) (by rw [hk];decide)
 simp only [mk]at E
 simp only [vd,mk,h25,bind_some,hR,hE,cond_false,zero_add,Nat.le_refl,decide_true,cond_true,bm,ce,E]
 obtain⟨i,b,e,hfi,hq⟩:=bX rs (by omega) hr c.2.2.2.1
 simp only [hfi,bind_some]
 rcases hq with⟨_,_,hq⟩|⟨rfl,_,⟨rfl,n,rfl,hn,hid⟩|⟨rfl,_⟩⟩
 ·exact absurd hf hq
 ·simp only [Bool.not_true,cond_false,aQ hn,aJ hn,cond_true,toNat_natCast]
  refine BT (rs.getD n (aa ab)) (hr _ (aD hn _)) _ _ _ (fun r' k t' hi hkl hh hfl hT=> ?_) (fun m=> ?_)
  ·simp only [cM]
   by_cases c3:r'.2.2.2.1=3
   ·rw [show(r'.2.2.2.1==ofNat 3)=true by simpa using c3,cond_true]
    try simp only [length_cons,length_nil,zero_add,co (show es.length≤60 by omega) (show 1≤60 by omega),co (show es.length+1≤60 by omega) (show 1≤60 by omega),decide_true,cond_true,length_append,length_set,Nat.le_refl,drop_zero]
    by_cases c40:(((es.length+1:Nat):Int)>ofNat 40)
    ·rw [decide_eq_true c40,cond_true];exact⟨_,_,rfl,ao h 8 hwy⟩
    ·rw [decide_eq_false c40,cond_false]
     exact⟨_,_,rfl,wb hk hfr hn hid hi hkl hh hfl hT (fv (by omega) (by omega)) (jT n r') (by simp [dq,c3,hi]) (by simp only [length_append,length_cons,length_nil,aF]at c40⊢;omega)⟩
   ·rw [show(r'.2.2.2.1==ofNat 3)=false by simpa using c3,cond_false]
    try simp only [length_cons,length_nil,zero_add,co (show es.length≤60 by omega) (show 1≤60 by omega),co (show es.length+1≤60 by omega) (show 1≤60 by omega),decide_true,cond_true,length_append,length_set,Nat.le_refl,drop_zero]
    by_cases c40:(((es.length+1:Nat):Int)>ofNat 40)
    ·rw [decide_eq_true c40,cond_true];exact⟨_,_,rfl,ao h 8 hwy⟩
    ·rw [decide_eq_false c40,cond_false]
     exact⟨_,_,rfl,wb hk hfr hn hid hi hkl hh hfl hT (fv (by omega) (by omega)) (jT n r') (by simp [dq,c3,hi]) (by simp only [length_append,length_cons,length_nil,aF]at c40⊢;omega)⟩
  ·simp only [eW]
   exact⟨_,_,rfl,ao h m hwy⟩
 ·exact⟨_,_,rfl,ao h 5 hwy⟩
theorem Zp {ck nr nt nk ne ac:Int} {rs:List aj} (h:SOk (mk ck nr nt nk ne ac rs [])) (hr:∀r∈rs,bG r) (hR:isEmpty rs=false) (c:bi) (hfr:Fresh nr nt nk ne) (hk:c.1=4):
  ∃t r,yz ((mk ck nr nt nk ne ac rs []),c,())=some (t,r,())∧bD ck nr nt nk ne ac rs [] c t r:=by
 have h25:=aZ h
 have hf:=h.fine
 have he:=h.ev40
 have hne:=h.ne
 simp only [mk]at h25 hf he hne
 have h32:=hf.1
 have E:=oI h hR
 have hwy:ef ck nr nt nk ne ac rs ([]:List aC) c:=dF (by rw [hk];decide) (by rw [hk];decide) (by rw [hk];decide) (by rw [hk];decide)
 simp only [mk]at E
 simp only [yz,mk,h25,bind_some,hR,isEmpty_nil,cond_false,zero_add,Nat.le_refl,decide_true,cond_true,bm,ce,E]
 obtain⟨i,b,e,hfi,hq⟩:=bX rs (by omega) hr c.2.2.2.1
 simp only [hfi,bind_some]
 rcases hq with⟨_,_,hq⟩|⟨rfl,_,⟨rfl,n,rfl,hn,hid⟩|⟨rfl,_⟩⟩
 ·exact absurd hf hq
 ·simp only [Bool.not_true,cond_false,aQ hn,aJ hn,cond_true,toNat_natCast]
  refine BT (rs.getD n (aa ab)) (hr _ (aD hn _)) _ _ _ (fun r' k t' hi hkl hh hfl hT=> ?_) (fun m=> ?_)
  ·simp only [cM]
   by_cases c3:r'.2.2.2.1=3
   ·rw [show(r'.2.2.2.1==ofNat 3)=true by simpa using c3,cond_true]
    try simp only [length_set,Nat.le_refl,decide_true,cond_true,drop_zero]
    exact⟨_,_,rfl,wb hk hfr hn hid hi hkl hh hfl hT (fv (by omega) (by omega)) (jT n r') (by simp [dq,c3,hi]) (by simp only [length_cons,length_nil];omega)⟩
   ·rw [show(r'.2.2.2.1==ofNat 3)=false by simpa using c3,cond_false]
    try simp only [length_set,Nat.le_refl,decide_true,cond_true,drop_zero]
    exact⟨_,_,rfl,wb hk hfr hn hid hi hkl hh hfl hT (fv (by omega) (by omega)) (jT n r') (by simp [dq,c3,hi]) (by simp only [length_cons,length_nil];omega)⟩
  ·simp only [eW]
   exact⟨_,_,rfl,ao h m hwy⟩
 ·exact⟨_,_,rfl,ao h 5 hwy⟩
theorem Zq {ck nr nt nk ne ac:Int} {es:List aC} (h:SOk (mk ck nr nt nk ne ac [] es)) (hr:∀r∈([]:List aj),bG r) (hE:isEmpty es=false) (c:bi) (hfr:Fresh nr nt nk ne) (hk:c.1=4):
  ∃t r,yJ ((mk ck nr nt nk ne ac [] es),c,())=some (t,r,())∧bD ck nr nt nk ne ac [] es c t r:=by
 have h25:=aZ h
 have hf:=h.fine
 have he:=h.ev40
 have hne:=h.ne
 simp only [mk]at h25 hf he hne
 have h32:=hf.1
 have E:=oJ h hE
 have hwy:ef ck nr nt nk ne ac ([]:List aj) es c:=dF (by rw [hk];decide) (by rw [hk];decide) (by rw [hk];decide) (by rw [hk];decide)
 simp only [mk]at E
 simp only [yJ,mk,h25,bind_some,hE,isEmpty_nil,cond_false,zero_add,Nat.le_refl,decide_true,cond_true,bm,ce,E]
 obtain⟨i,b,e,hfi,hq⟩:=bX ([]:List aj) (by omega) hr c.2.2.2.1
 simp only [hfi,bind_some]
 rcases hq with⟨_,_,hq⟩|⟨rfl,_,⟨rfl,n,rfl,hn,hid⟩|⟨rfl,_⟩⟩
 ·exact absurd hf hq
 ·exact absurd hn (not_lt_zero _)
 ·exact⟨_,_,rfl,ao h 5 hwy⟩
theorem Zr {ck nr nt nk ne ac:Int} (h:SOk (mk ck nr nt nk ne ac [] [])) (hr:∀r∈([]:List aj),bG r) (c:bi) (hfr:Fresh nr nt nk ne) (hk:c.1=4):
  ∃t r,yS ((mk ck nr nt nk ne ac [] []),c,())=some (t,r,())∧bD ck nr nt nk ne ac [] [] c t r:=by
 have h25:=aZ h
 have hf:=h.fine
 have he:=h.ev40
 have hne:=h.ne
 simp only [mk]at h25 hf he hne
 have h32:=hf.1
 have E:=oK h
 have hwy:ef ck nr nt nk ne ac ([]:List aj) ([]:List aC) c:=dF (by rw [hk];decide) (by rw [hk];decide) (by rw [hk];decide) (by rw [hk];decide)
 simp only [mk]at E
 simp only [yS,mk,h25,bind_some,isEmpty_nil,cond_false,zero_add,Nat.le_refl,decide_true,cond_true,bm,ce,E]
 obtain⟨i,b,e,hfi,hq⟩:=bX ([]:List aj) (by omega) hr c.2.2.2.1
 simp only [hfi,bind_some]
 rcases hq with⟨_,_,hq⟩|⟨rfl,_,⟨rfl,n,rfl,hn,hid⟩|⟨rfl,_⟩⟩
 ·exact absurd hf hq
 ·exact absurd hn (not_lt_zero _)
 ·exact⟨_,_,rfl,ao h 5 hwy⟩
theorem Zs {ck nr nt nk ne ac:Int} {rs:List aj} {es:List aC} (h:SOk (mk ck nr nt nk ne ac rs es)) (hr:∀r∈rs,bG r) (hR:isEmpty rs=false) (hE:isEmpty es=false) (c:bi) (hfr:Fresh nr nt nk ne) (hk:c.1=3):
  ∃t r,yo ((mk ck nr nt nk ne ac rs es),c,())=some (t,r,())∧bD ck nr nt nk ne ac rs es c t r:=by
 have h25:=aZ h
 have hf:=h.fine
 have he:=h.ev40
 have hne:=h.ne
 simp only [mk]at h25 hf he hne
 have h32:=hf.1
 have E:=oH h hR hE
 simp only [mk]at E
 simp only [yo,mk,h25,bind_some,hR,hE,cond_false,zero_add,Nat.le_refl,decide_true,cond_true,bm,ce,E]
 obtain⟨i,b,e,hfi,hq⟩:=bX rs (by omega) hr c.2.2.2.1
 simp only [hfi,bind_some]
 rcases hq with⟨_,_,hq⟩|⟨rfl,_,⟨rfl,n,rfl,hn,hid⟩|⟨rfl,hno⟩⟩
 ·exact absurd hf hq
 ·simp only [Bool.not_true,cond_false,aQ hn,aJ hn,cond_true,toNat_natCast]
  refine tI (rs.getD n (aa ab)) (hr _ (aD hn _)) _ _ _ (fun r' rk' k hi hkl hrk hh hC=> ?_) (fun hwl _ _ m=> ?_)
  ·simp only [cM]
   try simp only [decide_true,cond_true,length_cons,length_nil,zero_add,co (show es.length≤60 by omega) (show 1≤60 by omega),co (show es.length+1≤60 by omega) (show 1≤60 by omega),aJ hn]
   by_cases c2:r'.2.2.2.1=2
   ·rw [show(r'.2.2.2.1==ofNat 2)=true by simpa using c2,cond_true]
    try simp only [length_cons,length_nil,zero_add,co (show es.length≤60 by omega) (show 1≤60 by omega),co (show es.length+1≤60 by omega) (show 1≤60 by omega),decide_true,cond_true,length_append,length_set,Nat.le_refl,drop_zero]
    by_cases c40:(((es.length+1+1:Nat):Int)>ofNat 40)
    ·rw [decide_eq_true c40,cond_true];exact⟨_,_,rfl,ao h 8 (vv hk fun _ _=>by simp only [aF]at c40;omega)⟩
    ·rw [decide_eq_false c40,cond_false]
     exact⟨_,_,rfl,lI hk hfr hn hid hi hkl hrk hh hC (.inr ⟨c2,rfl⟩) (wr2 (z:=ne) (by omega) (by omega)) (jT n r') (by simp [hi];rw [IntKind.wrap_i64];omega) (by simp only [length_append,length_cons,length_nil,aF]at c40⊢;omega)⟩
   ·rw [show(r'.2.2.2.1==ofNat 2)=false by simpa using c2,cond_false]
    try simp only [length_cons,length_nil,zero_add,co (show es.length≤60 by omega) (show 1≤60 by omega),co (show es.length+1≤60 by omega) (show 1≤60 by omega),decide_true,cond_true,length_append,length_set,Nat.le_refl,drop_zero]
    by_cases c40:(((es.length+1:Nat):Int)>ofNat 40)
    ·rw [decide_eq_true c40,cond_true];exact⟨_,_,rfl,ao h 8 (vv hk fun _ _=>by simp only [aF]at c40;omega)⟩
    ·rw [decide_eq_false c40,cond_false]
     exact⟨_,_,rfl,lI hk hfr hn hid hi hkl hrk hh hC (.inl ⟨c2,rfl⟩) (fv (by omega) (by omega)) (jT n r') (by simp [hi]) (by simp only [length_append,length_cons,length_nil,aF]at c40⊢;omega)⟩
  ·simp only [eW]
   exact⟨_,_,rfl,ao h m (vv hk fun _ _ n2 k hn2 hid2 hi hkl hrk hh=>by
    have hnn:n=n2:=by
     rcases lt_trichotomy n n2 with q|q|q
     ·have:=hf.2.up n n2 q hn2;omega
     ·exact q
     ·have:=hf.2.up n2 n q hn;omega
    subst hnn
    exact hwl (hf.2.chk n hn) ⟨cY (hf.2.chk n hn) hkl (by rw [show(bh _ k).1=2 from hh.2.2.2.1];decide),hrk,k,hi,hkl,hh⟩)⟩
 ·exact⟨_,_,rfl,ao h 5 (vv hk fun _ _ n k hn hid _ _ _ _=>hno n hn hid)⟩
theorem Zt {ck nr nt nk ne ac:Int} {rs:List aj} (h:SOk (mk ck nr nt nk ne ac rs [])) (hr:∀r∈rs,bG r) (hR:isEmpty rs=false) (c:bi) (hfr:Fresh nr nt nk ne) (hk:c.1=3):
  ∃t r,yy ((mk ck nr nt nk ne ac rs []),c,())=some (t,r,())∧bD ck nr nt nk ne ac rs [] c t r:=by
 have h25:=aZ h
 have hf:=h.fine
 have he:=h.ev40
 have hne:=h.ne
 simp only [mk]at h25 hf he hne
 have h32:=hf.1
 have E:=oI h hR
 simp only [mk]at E
 simp only [yy,mk,h25,bind_some,hR,isEmpty_nil,cond_false,zero_add,Nat.le_refl,decide_true,cond_true,bm,ce,E]
 obtain⟨i,b,e,hfi,hq⟩:=bX rs (by omega) hr c.2.2.2.1
 simp only [hfi,bind_some]
 rcases hq with⟨_,_,hq⟩|⟨rfl,_,⟨rfl,n,rfl,hn,hid⟩|⟨rfl,hno⟩⟩
 ·exact absurd hf hq
 ·simp only [Bool.not_true,cond_false,aQ hn,aJ hn,cond_true,toNat_natCast]
  refine tI (rs.getD n (aa ab)) (hr _ (aD hn _)) _ _ _ (fun r' rk' k hi hkl hrk hh hC=> ?_) (fun hwl _ _ m=> ?_)
  ·simp only [cM]
   try simp only [decide_true,cond_true,length_cons,length_nil,zero_add,aJ hn]
   by_cases c2:r'.2.2.2.1=2
   ·rw [show(r'.2.2.2.1==ofNat 2)=true by simpa using c2,cond_true]
    try simp only [length_cons,length_nil,zero_add,decide_true,cond_true,length_append,length_set,Nat.le_refl,drop_zero,List.cons_append,List.nil_append,Nat.reduceAdd,Nat.reduceMul,Nat.reducePow,Nat.reduceLeDiff,Bool.and_self]
    exact⟨_,_,rfl,lI hk hfr hn hid hi hkl hrk hh hC (.inr ⟨c2,rfl⟩) (wr2 (z:=ne) (by omega) (by omega)) (jT n r') (by simp [hi];rw [IntKind.wrap_i64];omega) (by simp only [length_cons,length_nil];omega)⟩
   ·rw [show(r'.2.2.2.1==ofNat 2)=false by simpa using c2,cond_false]
    try simp only [length_set,Nat.le_refl,decide_true,cond_true,drop_zero]
    exact⟨_,_,rfl,lI hk hfr hn hid hi hkl hrk hh hC (.inl ⟨c2,rfl⟩) (fv (by omega) (by omega)) (jT n r') (by simp [hi]) (by simp only [length_cons,length_nil];omega)⟩
  ·simp only [eW]
   exact⟨_,_,rfl,ao h m (vv hk fun _ _ n2 k hn2 hid2 hi hkl hrk hh=>by
    have hnn:n=n2:=by
     rcases lt_trichotomy n n2 with q|q|q
     ·have:=hf.2.up n n2 q hn2;omega
     ·exact q
     ·have:=hf.2.up n2 n q hn;omega
    subst hnn
    exact hwl (hf.2.chk n hn) ⟨cY (hf.2.chk n hn) hkl (by rw [show(bh _ k).1=2 from hh.2.2.2.1];decide),hrk,k,hi,hkl,hh⟩)⟩
 ·exact⟨_,_,rfl,ao h 5 (vv hk fun _ _ n k hn hid _ _ _ _=>hno n hn hid)⟩
theorem Zu {ck nr nt nk ne ac:Int} {es:List aC} (h:SOk (mk ck nr nt nk ne ac [] es)) (hr:∀r∈([]:List aj),bG r) (hE:isEmpty es=false) (c:bi) (hfr:Fresh nr nt nk ne) (hk:c.1=3):
  ∃t r,yI ((mk ck nr nt nk ne ac [] es),c,())=some (t,r,())∧bD ck nr nt nk ne ac [] es c t r:=by
 have h25:=aZ h
 have hf:=h.fine
 have he:=h.ev40
 have hne:=h.ne
 simp only [mk]at h25 hf he hne
 have h32:=hf.1
 have E:=oJ h hE
 simp only [mk]at E
 simp only [yI,mk,h25,bind_some,hE,isEmpty_nil,cond_false,zero_add,Nat.le_refl,decide_true,cond_true,bm,ce,E]
 obtain⟨i,b,e,hfi,hq⟩:=bX ([]:List aj) (by omega) hr c.2.2.2.1
 simp only [hfi,bind_some]
 rcases hq with⟨_,_,hq⟩|⟨rfl,_,⟨rfl,n,rfl,hn,hid⟩|⟨rfl,_⟩⟩
 ·exact absurd hf hq
 ·exact absurd hn (not_lt_zero _)
 ·exact⟨_,_,rfl,ao h 5 (vv hk fun _ _ n k hn _ _ _ _ _=>absurd hn (not_lt_zero _))⟩
theorem Zv {ck nr nt nk ne ac:Int} (h:SOk (mk ck nr nt nk ne ac [] [])) (hr:∀r∈([]:List aj),bG r) (c:bi) (hfr:Fresh nr nt nk ne) (hk:c.1=3):
  ∃t r,yR ((mk ck nr nt nk ne ac [] []),c,())=some (t,r,())∧bD ck nr nt nk ne ac [] [] c t r:=by
 have h25:=aZ h
 have hf:=h.fine
 have he:=h.ev40
 have hne:=h.ne
 simp only [mk]at h25 hf he hne
 have h32:=hf.1
 have E:=oK h
 simp only [mk]at E
 simp only [yR,mk,h25,bind_some,isEmpty_nil,cond_false,zero_add,Nat.le_refl,decide_true,cond_true,bm,ce,E]
 obtain⟨i,b,e,hfi,hq⟩:=bX ([]:List aj) (by omega) hr c.2.2.2.1
 simp only [hfi,bind_some]
 rcases hq with⟨_,_,hq⟩|⟨rfl,_,⟨rfl,n,rfl,hn,hid⟩|⟨rfl,_⟩⟩
 ·exact absurd hf hq
 ·exact absurd hn (not_lt_zero _)
 ·exact⟨_,_,rfl,ao h 5 (vv hk fun _ _ n k hn _ _ _ _ _=>absurd hn (not_lt_zero _))⟩
theorem Zw {ck nr nt nk ne ac:Int} {rs:List aj} {es:List aC} (h:SOk (mk ck nr nt nk ne ac rs es)) (hr:∀r∈rs,bG r) (hR:isEmpty rs=false) (hE:isEmpty es=false) (c:bi) (hk:c.1=8):
  ∃t r,yu ((mk ck nr nt nk ne ac rs es),c,())=some (t,r,())∧bD ck nr nt nk ne ac rs es c t r:=by
 have h25:=aZ h
 have hf:=h.fine
 have he:=h.ev40
 have hne:=h.ne
 simp only [mk]at h25 hf he hne
 have h32:=hf.1
 have E:=oH h hR hE
 have hwy:ef ck nr nt nk ne ac rs es c:=dF (by rw [hk];decide) (by rw [hk];decide) (by rw [hk];decide) (by rw [hk];decide)
 simp only [mk]at E
 simp only [yu,mk,h25,bind_some,hR,hE,cond_false,zero_add,Nat.le_refl,decide_true,cond_true,bm,ce,E]
 obtain⟨i,b,e,hfi,hq⟩:=bX rs (by omega) hr c.2.2.2.1
 simp only [hfi,bind_some]
 rcases hq with⟨_,_,hq⟩|⟨rfl,_,⟨rfl,n,rfl,hn,hid⟩|⟨rfl,_⟩⟩
 ·exact absurd hf hq
 ·simp only [Bool.not_true,cond_false,aQ hn,aJ hn,cond_true,toNat_natCast]
  have ii:=f62 (rs.getD n (aa ab)) (qh (hf.2.chk n hn))
  simp only [ii,bind_some]
  try simp only [length_cons,length_nil,zero_add,co (show es.length≤60 by omega) (show 1≤60 by omega),co (show es.length+1≤60 by omega) (show 1≤60 by omega),decide_true,cond_true,length_append,length_set,Nat.le_refl,drop_zero]
  by_cases c40:(((es.length:Nat):Int)>ofNat 40)
  ·rw [decide_eq_true c40,cond_true];exact⟨_,_,rfl,ao h 8 hwy⟩
  ·rw [decide_eq_false c40,cond_false]
   exact⟨_,_,rfl,FB h hk hn hid⟩
 ·exact⟨_,_,rfl,ao h 5 hwy⟩
theorem Zx {ck nr nt nk ne ac:Int} {rs:List aj} (h:SOk (mk ck nr nt nk ne ac rs [])) (hr:∀r∈rs,bG r) (hR:isEmpty rs=false) (c:bi) (hk:c.1=8):
  ∃t r,yD ((mk ck nr nt nk ne ac rs []),c,())=some (t,r,())∧bD ck nr nt nk ne ac rs [] c t r:=by
 have h25:=aZ h
 have hf:=h.fine
 have he:=h.ev40
 have hne:=h.ne
 simp only [mk]at h25 hf he hne
 have h32:=hf.1
 have E:=oI h hR
 have hwy:ef ck nr nt nk ne ac rs ([]:List aC) c:=dF (by rw [hk];decide) (by rw [hk];decide) (by rw [hk];decide) (by rw [hk];decide)
 simp only [mk]at E
 simp only [yD,mk,h25,bind_some,hR,isEmpty_nil,cond_false,zero_add,Nat.le_refl,decide_true,cond_true,bm,ce,E]
 obtain⟨i,b,e,hfi,hq⟩:=bX rs (by omega) hr c.2.2.2.1
 simp only [hfi,bind_some]
 rcases hq with⟨_,_,hq⟩|⟨rfl,_,⟨rfl,n,rfl,hn,hid⟩|⟨rfl,_⟩⟩
 ·exact absurd hf hq
 ·simp only [Bool.not_true,cond_false,aQ hn,aJ hn,cond_true,toNat_natCast]
  have ii:=f62 (rs.getD n (aa ab)) (qh (hf.2.chk n hn))
  simp only [ii,bind_some]
  try simp only [length_set,Nat.le_refl,decide_true,cond_true,drop_zero]
  exact⟨_,_,rfl,FB h hk hn hid⟩
 ·exact⟨_,_,rfl,ao h 5 hwy⟩
theorem Zy {ck nr nt nk ne ac:Int} {es:List aC} (h:SOk (mk ck nr nt nk ne ac [] es)) (hr:∀r∈([]:List aj),bG r) (hE:isEmpty es=false) (c:bi) (hk:c.1=8):
  ∃t r,yN ((mk ck nr nt nk ne ac [] es),c,())=some (t,r,())∧bD ck nr nt nk ne ac [] es c t r:=by
 have h25:=aZ h
 have hf:=h.fine
 have he:=h.ev40
 have hne:=h.ne
 simp only [mk]at h25 hf he hne
 have h32:=hf.1
 have E:=oJ h hE
 have hwy:ef ck nr nt nk ne ac ([]:List aj) es c:=dF (by rw [hk];decide) (by rw [hk];decide) (by rw [hk];decide) (by rw [hk];decide)
 simp only [mk]at E
 simp only [yN,mk,h25,bind_some,hE,isEmpty_nil,cond_false,zero_add,Nat.le_refl,decide_true,cond_true,bm,ce,E]
 obtain⟨i,b,e,hfi,hq⟩:=bX ([]:List aj) (by omega) hr c.2.2.2.1
 simp only [hfi,bind_some]
 rcases hq with⟨_,_,hq⟩|⟨rfl,_,⟨rfl,n,rfl,hn,hid⟩|⟨rfl,_⟩⟩
 ·exact absurd hf hq
 ·exact absurd hn (not_lt_zero _)
 ·exact⟨_,_,rfl,ao h 5 hwy⟩
theorem Zz {ck nr nt nk ne ac:Int} (h:SOk (mk ck nr nt nk ne ac [] [])) (hr:∀r∈([]:List aj),bG r) (c:bi) (hk:c.1=8):
  ∃t r,yW ((mk ck nr nt nk ne ac [] []),c,())=some (t,r,())∧bD ck nr nt nk ne ac [] [] c t r:=by
 have h25:=aZ h
 have hf:=h.fine
 have he:=h.ev40
 have hne:=h.ne
 simp only [mk]at h25 hf he hne
 have h32:=hf.1
 have E:=oK h
 have hwy:ef ck nr nt nk ne ac ([]:List aj) ([]:List aC) c:=dF (by rw [hk];decide) (by rw [hk];decide) (by rw [hk];decide) (by rw [hk];decide)
 simp only [mk]at E
 simp only [yW,mk,h25,bind_some,isEmpty_nil,cond_false,zero_add,Nat.le_refl,decide_true,cond_true,bm,ce,E]
 obtain⟨i,b,e,hfi,hq⟩:=bX ([]:List aj) (by omega) hr c.2.2.2.1
 simp only [hfi,bind_some]
 rcases hq with⟨_,_,hq⟩|⟨rfl,_,⟨rfl,n,rfl,hn,hid⟩|⟨rfl,_⟩⟩
 ·exact absurd hf hq
 ·exact absurd hn (not_lt_zero _)
 ·exact⟨_,_,rfl,ao h 5 hwy⟩
theorem ZA {ck nr nt nk ne ac:Int} {rs:List aj} {es:List aC} (h:SOk (mk ck nr nt nk ne ac rs es)) (hr:∀r∈rs,bG r) (hR:isEmpty rs=false) (hE:isEmpty es=false) (c:bi) (hk:c.1=9):
  ∃t r,yv ((mk ck nr nt nk ne ac rs es),c,())=some (t,r,())∧bD ck nr nt nk ne ac rs es c t r:=by
 have h25:=aZ h
 have hf:=h.fine
 have he:=h.ev40
 have hne:=h.ne
 simp only [mk]at h25 hf he hne
 have h32:=hf.1
 have E:=oH h hR hE
 have hwy:ef ck nr nt nk ne ac rs es c:=dF (by rw [hk];decide) (by rw [hk];decide) (by rw [hk];decide) (by rw [hk];decide)
 simp only [mk]at E
 simp only [yv,mk,h25,bind_some,hR,hE,cond_false,zero_add,Nat.le_refl,decide_true,cond_true,bm,ce,E]
 by_cases c1:c.2.2.2.2.2.2.2.1<ofNat 1
 ·rw [decide_eq_true c1,cond_true];exact⟨_,_,rfl,ao h 1 hwy⟩
 rw [decide_eq_false c1,cond_false]
 by_cases c2:c.2.2.2.2.2.2.2.1>ofNat 40
 ·rw [decide_eq_true c2,cond_true];exact⟨_,_,rfl,ao h 1 hwy⟩
 rw [decide_eq_false c2,cond_false]
 simp only [aF]at c1 c2
 obtain⟨m,hm,hml⟩:∃m:Nat,(if(es.length:Int)<c.2.2.2.2.2.2.2.1 then(es.length:Int)else c.2.2.2.2.2.2.2.1)=(m:Int)∧m≤es.length:=by
  split
  ·exact⟨es.length,rfl,Nat.le_refl _⟩
  ·exact⟨c.2.2.2.2.2.2.2.1.toNat,by omega,by omega⟩
 have hw:∀z:Int,z=0→ai z (m:Int) (es.length:Int)=true:=fun z hz=>by subst hz;simp only [ai,Bool.and_eq_true,decide_eq_true_eq];omega
 have iW:=f61 (es.take m) (by rw [List.length_take];omega)
 simp only [hm,hw 0 rfl,hw ((0:Nat):Int) rfl,cond_true,toNat_natCast,sub_zero,Nat.add_zero,zero_add,drop_zero,decide_eq_true hml,iW,bind_some,bm]
 generalize decide ((es.length:Int)>ofNat 40)=b40
 cases hem:isEmpty (take m es)with
 |true=>
  cases b40 with
  |true=>exact⟨_,_,rfl,ao h 8 hwy⟩
  |false=>exact⟨_,_,rfl,lw h hk 0 rfl⟩
 |false=>
  cases b40 with
  |true=>exact⟨_,_,rfl,ao h 8 hwy⟩
  |false=>exact⟨_,_,rfl,lw h hk m rfl⟩
theorem ZB {ck nr nt nk ne ac:Int} {rs:List aj} (h:SOk (mk ck nr nt nk ne ac rs [])) (hr:∀r∈rs,bG r) (hR:isEmpty rs=false) (c:bi) (hk:c.1=9):
  ∃t r,yE ((mk ck nr nt nk ne ac rs []),c,())=some (t,r,())∧bD ck nr nt nk ne ac rs [] c t r:=by
 have h25:=aZ h
 have hf:=h.fine
 have he:=h.ev40
 have hne:=h.ne
 simp only [mk]at h25 hf he hne
 have h32:=hf.1
 have E:=oI h hR
 have hwy:ef ck nr nt nk ne ac rs ([]:List aC) c:=dF (by rw [hk];decide) (by rw [hk];decide) (by rw [hk];decide) (by rw [hk];decide)
 simp only [mk]at E
 simp only [yE,mk,h25,bind_some,hR,isEmpty_nil,cond_false,zero_add,Nat.le_refl,decide_true,cond_true,bm,ce,E]
 by_cases c1:c.2.2.2.2.2.2.2.1<ofNat 1
 ·rw [decide_eq_true c1,cond_true];exact⟨_,_,rfl,ao h 1 hwy⟩
 rw [decide_eq_false c1,cond_false]
 by_cases c2:c.2.2.2.2.2.2.2.1>ofNat 40
 ·rw [decide_eq_true c2,cond_true];exact⟨_,_,rfl,ao h 1 hwy⟩
 rw [decide_eq_false c2,cond_false]
 simp only [aF]at c1 c2
 have hm:(if(0:Int)<c.2.2.2.2.2.2.2.1 then(0:Int)else c.2.2.2.2.2.2.2.1)=0:=if_pos (by omega)
 have hw:∀z y:Int,z=0→y=0→ai z 0 y=true:=fun z y hz hy=>by subst hz;subst hy;rfl
 have iW:=f61 [] (by decide)
 simp only [hm,hw 0 0 rfl rfl,hw ((0:Nat):Int) ((0:Nat):Int) rfl rfl,cond_true,iW,bind_some,isEmpty_nil]
 exact⟨_,_,rfl,lw h hk 0 rfl⟩
theorem ZC {ck nr nt nk ne ac:Int} {es:List aC} (h:SOk (mk ck nr nt nk ne ac [] es)) (hr:∀r∈([]:List aj),bG r) (hE:isEmpty es=false) (c:bi) (hk:c.1=9):
  ∃t r,yO ((mk ck nr nt nk ne ac [] es),c,())=some (t,r,())∧bD ck nr nt nk ne ac [] es c t r:=by
 have h25:=aZ h
 have hf:=h.fine
 have he:=h.ev40
 have hne:=h.ne
 simp only [mk]at h25 hf he hne
 have h32:=hf.1
 have E:=oJ h hE
 have hwy:ef ck nr nt nk ne ac ([]:List aj) es c:=dF (by rw [hk];decide) (by rw [hk];decide) (by rw [hk];decide) (by rw [hk];decide)
 simp only [mk]at E
 simp only [yO,mk,h25,bind_some,hE,isEmpty_nil,cond_false,zero_add,Nat.le_refl,decide_true,cond_true,bm,ce,E]
 by_cases c1:c.2.2.2.2.2.2.2.1<ofNat 1
 ·rw [decide_eq_true c1,cond_true];exact⟨_,_,rfl,ao h 1 hwy⟩
 rw [decide_eq_false c1,cond_false]
 by_cases c2:c.2.2.2.2.2.2.2.1>ofNat 40
 ·rw [decide_eq_true c2,cond_true];exact⟨_,_,rfl,ao h 1 hwy⟩
 rw [decide_eq_false c2,cond_false]
 simp only [aF]at c1 c2
 obtain⟨m,hm,hml⟩:∃m:Nat,(if(es.length:Int)<c.2.2.2.2.2.2.2.1 then(es.length:Int)else c.2.2.2.2.2.2.2.1)=(m:Int)∧m≤es.length:=by
  split
  ·exact⟨es.length,rfl,Nat.le_refl _⟩
  ·exact⟨c.2.2.2.2.2.2.2.1.toNat,by omega,by omega⟩
 have hw:∀z:Int,z=0→ai z (m:Int) (es.length:Int)=true:=fun z hz=>by subst hz;simp only [ai,Bool.and_eq_true,decide_eq_true_eq];omega
 have iW:=f61 (es.take m) (by rw [List.length_take];omega)
 simp only [hm,hw 0 rfl,hw ((0:Nat):Int) rfl,cond_true,toNat_natCast,sub_zero,Nat.add_zero,zero_add,drop_zero,decide_eq_true hml,iW,bind_some,bm]
 generalize decide ((es.length:Int)>ofNat 40)=b40
 cases hem:isEmpty (take m es)with
 |true=>
  cases b40 with
  |true=>exact⟨_,_,rfl,ao h 8 hwy⟩
  |false=>exact⟨_,_,rfl,lw h hk 0 rfl⟩
 |false=>
  cases b40 with
  |true=>exact⟨_,_,rfl,ao h 8 hwy⟩
  |false=>exact⟨_,_,rfl,lw h hk m rfl⟩
theorem ZD {ck nr nt nk ne ac:Int} (h:SOk (mk ck nr nt nk ne ac [] [])) (hr:∀r∈([]:List aj),bG r) (c:bi) (hk:c.1=9):
  ∃t r,yX ((mk ck nr nt nk ne ac [] []),c,())=some (t,r,())∧bD ck nr nt nk ne ac [] [] c t r:=by
 have h25:=aZ h
 have hf:=h.fine
 have he:=h.ev40
 have hne:=h.ne
 simp only [mk]at h25 hf he hne
 have h32:=hf.1
 have E:=oK h
 have hwy:ef ck nr nt nk ne ac ([]:List aj) ([]:List aC) c:=dF (by rw [hk];decide) (by rw [hk];decide) (by rw [hk];decide) (by rw [hk];decide)
 simp only [mk]at E
 simp only [yX,mk,h25,bind_some,isEmpty_nil,cond_false,zero_add,Nat.le_refl,decide_true,cond_true,bm,ce,E]
 by_cases c1:c.2.2.2.2.2.2.2.1<ofNat 1
 ·rw [decide_eq_true c1,cond_true];exact⟨_,_,rfl,ao h 1 hwy⟩
 rw [decide_eq_false c1,cond_false]
 by_cases c2:c.2.2.2.2.2.2.2.1>ofNat 40
 ·rw [decide_eq_true c2,cond_true];exact⟨_,_,rfl,ao h 1 hwy⟩
 rw [decide_eq_false c2,cond_false]
 simp only [aF]at c1 c2
 have hm:(if(0:Int)<c.2.2.2.2.2.2.2.1 then(0:Int)else c.2.2.2.2.2.2.2.1)=0:=if_pos (by omega)
 have hw:∀z y:Int,z=0→y=0→ai z 0 y=true:=fun z y hz hy=>by subst hz;subst hy;rfl
 have iW:=f61 [] (by decide)
 simp only [hm,hw 0 0 rfl rfl,hw ((0:Nat):Int) ((0:Nat):Int) rfl rfl,cond_true,iW,bind_some,isEmpty_nil]
 exact⟨_,_,rfl,lw h hk 0 rfl⟩
theorem Te {ck nr nt nk ne ac:Int} {rs:List aj} {es:List aC} (h:SOk (mk ck nr nt nk ne ac rs es)) (hr:∀r∈rs,bG r) (hR:isEmpty rs=false) (hE:isEmpty es=false) (c:bi) (hk:c.1=10):
  ∃t r,vS ((mk ck nr nt nk ne ac rs es),c,())=some (t,r,())∧bD ck nr nt nk ne ac rs es c t r:=by
 have h25:=aZ h
 have hf:=h.fine
 have he:=h.ev40
 have hne:=h.ne
 simp only [mk]at h25 hf he hne
 have h32:=hf.1
 have E:=oH h hR hE
 simp only [mk]at E
 simp only [vS,mk,h25,bind_some,hR,hE,cond_false,zero_add,Nat.le_refl,decide_true,cond_true,bm,ce,E]
 by_cases c1:c.2.2.2.2.2.2.2.1<ac
 ·rw [decide_eq_true c1,cond_true];exact⟨_,_,rfl,ao h 1 (pe hk fun h1 h2=>by omega)⟩
 rw [decide_eq_false c1,cond_false]
 by_cases c2:c.2.2.2.2.2.2.2.1≥ne
 ·rw [decide_eq_true c2,cond_true];exact⟨_,_,rfl,ao h 1 (pe hk fun h1 h2=>by omega)⟩
 rw [decide_eq_false c2,cond_false]
 have hac:=h.ack
 have hel:=h.elen
 simp only [mk]at hac hel
 obtain⟨m,hm⟩:∃m:Nat,c.2.2.2.2.2.2.2.1-ac=(m:Int):=⟨(c.2.2.2.2.2.2.2.1-ac).toNat,by omega⟩
 have hml:m≤es.length:=by omega
 have hwr:IntKind.i64.wrap (c.2.2.2.2.2.2.2.1-ac)=(m:Int):=by rw [IntKind.wrap_i64];omega
 have htn:(c.2.2.2.2.2.2.2.1-ac).toNat=m:=by omega
 have hw:∀z:Int,z=0→ai z (m:Int) (es.length:Int)=true:=fun z hz=>by subst hz;simp only [ai,Bool.and_eq_true,decide_eq_true_eq];omega
 have htk:take (es.length-m) (drop m es)=drop m es:=take_of_length_le (by rw [length_drop];omega)
 have iW:=f61 (es.drop m) (by rw [length_drop];omega)
 have hd:decide (m+(es.length-m)≤es.length)=true:=decide_eq_true (by omega)
 simp only [hwr,hw 0 rfl,hw ((0:Nat):Int) rfl,cond_true,toNat_natCast,zero_add,htk,hd,iW,bind_some,bm]
 cases hem:isEmpty (drop m es)with
 |true=>exact⟨_,_,rfl,ql h hk (by omega) (by omega) (by rw [htn];exact(show es.drop m= [] by simpa using hem).symm)⟩
 |false=>
  rw [decide_eq_false (show¬(((drop m es).length:Int)>ofNat 40) by rw [length_drop];simp only [aF];omega),cond_false]
  exact⟨_,_,rfl,ql h hk (by omega) (by omega) (by rw [htn])⟩
theorem Tf {ck nr nt nk ne ac:Int} {rs:List aj} (h:SOk (mk ck nr nt nk ne ac rs [])) (hr:∀r∈rs,bG r) (hR:isEmpty rs=false) (c:bi) (hk:c.1=10):
  ∃t r,vT ((mk ck nr nt nk ne ac rs []),c,())=some (t,r,())∧bD ck nr nt nk ne ac rs [] c t r:=by
 have h25:=aZ h
 have hf:=h.fine
 have he:=h.ev40
 have hne:=h.ne
 simp only [mk]at h25 hf he hne
 have h32:=hf.1
 have E:=oI h hR
 simp only [mk]at E
 simp only [vT,mk,h25,bind_some,hR,isEmpty_nil,cond_false,zero_add,Nat.le_refl,decide_true,cond_true,bm,ce,E]
 by_cases c1:c.2.2.2.2.2.2.2.1<ac
 ·rw [decide_eq_true c1,cond_true];exact⟨_,_,rfl,ao h 1 (pe hk fun h1 h2=>by omega)⟩
 rw [decide_eq_false c1,cond_false]
 by_cases c2:c.2.2.2.2.2.2.2.1≥ne
 ·rw [decide_eq_true c2,cond_true];exact⟨_,_,rfl,ao h 1 (pe hk fun h1 h2=>by omega)⟩
 rw [decide_eq_false c2,cond_false]
 have hac:=h.ack
 have hel:=h.elen
 simp only [mk]at hac hel
 have hto:c.2.2.2.2.2.2.2.1=ac:=by simp only [length_nil]at hel;omega
 have hwr:IntKind.i64.wrap (c.2.2.2.2.2.2.2.1-ac)=0:=by rw [IntKind.wrap_i64];omega
 have hw:∀z y:Int,z=0→y=0→ai z 0 y=true:=fun z y hz hy=>by subst hz;subst hy;rfl
 have iW:=f61 [] (by decide)
 simp only [hwr,hw 0 0 rfl rfl,hw ((0:Nat):Int) ((0:Nat):Int) rfl rfl,cond_true,iW,bind_some,isEmpty_nil]
 exact⟨_,_,rfl,ql h hk (by omega) (by omega) (by simp)⟩
theorem Tg {ck nr nt nk ne ac:Int} {es:List aC} (h:SOk (mk ck nr nt nk ne ac [] es)) (hr:∀r∈([]:List aj),bG r) (hE:isEmpty es=false) (c:bi) (hk:c.1=10):
  ∃t r,vU ((mk ck nr nt nk ne ac [] es),c,())=some (t,r,())∧bD ck nr nt nk ne ac [] es c t r:=by
 have h25:=aZ h
 have hf:=h.fine
 have he:=h.ev40
 have hne:=h.ne
 simp only [mk]at h25 hf he hne
 have h32:=hf.1
 have E:=oJ h hE
 simp only [mk]at E
 simp only [vU,mk,h25,bind_some,hE,isEmpty_nil,cond_false,zero_add,Nat.le_refl,decide_true,cond_true,bm,ce,E]
 by_cases c1:c.2.2.2.2.2.2.2.1<ac
 ·rw [decide_eq_true c1,cond_true];exact⟨_,_,rfl,ao h 1 (pe hk fun h1 h2=>by omega)⟩
 rw [decide_eq_false c1,cond_false]
 by_cases c2:c.2.2.2.2.2.2.2.1≥ne
 ·rw [decide_eq_true c2,cond_true];exact⟨_,_,rfl,ao h 1 (pe hk fun h1 h2=>by omega)⟩
 rw [decide_eq_false c2,cond_false]
 have hac:=h.ack
 have hel:=h.elen
 simp only [mk]at hac hel
 obtain⟨m,hm⟩:∃m:Nat,c.2.2.2.2.2.2.2.1-ac=(m:Int):=⟨(c.2.2.2.2.2.2.2.1-ac).toNat,by omega⟩
 have hml:m≤es.length:=by omega
 have hwr:IntKind.i64.wrap (c.2.2.2.2.2.2.2.1-ac)=(m:Int):=by rw [IntKind.wrap_i64];omega
 have htn:(c.2.2.2.2.2.2.2.1-ac).toNat=m:=by omega
 have hw:∀z:Int,z=0→ai z (m:Int) (es.length:Int)=true:=fun z hz=>by subst hz;simp only [ai,Bool.and_eq_true,decide_eq_true_eq];omega
 have htk:take (es.length-m) (drop m es)=drop m es:=take_of_length_le (by rw [length_drop];omega)
 have iW:=f61 (es.drop m) (by rw [length_drop];omega)
 have hd:decide (m+(es.length-m)≤es.length)=true:=decide_eq_true (by omega)
 simp only [hwr,hw 0 rfl,hw ((0:Nat):Int) rfl,cond_true,toNat_natCast,zero_add,htk,hd,iW,bind_some,bm]
 cases hem:isEmpty (drop m es)with
 |true=>exact⟨_,_,rfl,ql h hk (by omega) (by omega) (by rw [htn];exact(show es.drop m= [] by simpa using hem).symm)⟩
 |false=>
  rw [decide_eq_false (show¬(((drop m es).length:Int)>ofNat 40) by rw [length_drop];simp only [aF];omega),cond_false]
  exact⟨_,_,rfl,ql h hk (by omega) (by omega) (by rw [htn])⟩
theorem Th {ck nr nt nk ne ac:Int} (h:SOk (mk ck nr nt nk ne ac [] [])) (hr:∀r∈([]:List aj),bG r) (c:bi) (hk:c.1=10):
  ∃t r,vV ((mk ck nr nt nk ne ac [] []),c,())=some (t,r,())∧bD ck nr nt nk ne ac [] [] c t r:=by
 have h25:=aZ h
 have hf:=h.fine
 have he:=h.ev40
 have hne:=h.ne
 simp only [mk]at h25 hf he hne
 have h32:=hf.1
 have E:=oK h
 simp only [mk]at E
 simp only [vV,mk,h25,bind_some,isEmpty_nil,cond_false,zero_add,Nat.le_refl,decide_true,cond_true,bm,ce,E]
 by_cases c1:c.2.2.2.2.2.2.2.1<ac
 ·rw [decide_eq_true c1,cond_true];exact⟨_,_,rfl,ao h 1 (pe hk fun h1 h2=>by omega)⟩
 rw [decide_eq_false c1,cond_false]
 by_cases c2:c.2.2.2.2.2.2.2.1≥ne
 ·rw [decide_eq_true c2,cond_true];exact⟨_,_,rfl,ao h 1 (pe hk fun h1 h2=>by omega)⟩
 rw [decide_eq_false c2,cond_false]
 have hac:=h.ack
 have hel:=h.elen
 simp only [mk]at hac hel
 have hto:c.2.2.2.2.2.2.2.1=ac:=by simp only [length_nil]at hel;omega
 have hwr:IntKind.i64.wrap (c.2.2.2.2.2.2.2.1-ac)=0:=by rw [IntKind.wrap_i64];omega
 have hw:∀z y:Int,z=0→y=0→ai z 0 y=true:=fun z y hz hy=>by subst hz;subst hy;rfl
 have iW:=f61 [] (by decide)
 simp only [hwr,hw 0 0 rfl rfl,hw ((0:Nat):Int) ((0:Nat):Int) rfl rfl,cond_true,iW,bind_some,isEmpty_nil]
 exact⟨_,_,rfl,ql h hk (by omega) (by omega) (by simp)⟩
theorem ZE {ck nr nt nk ne ac:Int} {rs:List aj} {es:List aC} (h:SOk (mk ck nr nt nk ne ac rs es)) (hr:∀r∈rs,bG r) (hR:isEmpty rs=false) (hE:isEmpty es=false) (c:bi) (hfr:Fresh nr nt nk ne) (hk:c.1=5):
  ∃t r,yp ((mk ck nr nt nk ne ac rs es),c,())=some (t,r,())∧bD ck nr nt nk ne ac rs es c t r:=by
 have h25:=aZ h
 have hf:=h.fine
 have he:=h.ev40
 have hne:=h.ne
 simp only [mk]at h25 hf he hne
 have h32:=hf.1
 have E:=oH h hR hE
 have hwy:ef ck nr nt nk ne ac rs es c:=dF (by rw [hk];decide) (by rw [hk];decide) (by rw [hk];decide) (by rw [hk];decide)
 simp only [mk]at E
 obtain⟨bs,hbs,hsF,hsT⟩:=f118 c.2.2.2.2.2.2.1
 simp only [yp,mk,h25,bind_some,hR,hE,cond_false,zero_add,Nat.le_refl,decide_true,cond_true,bm,ce,E,hbs]
 cases bs with
 |false=>exact⟨_,_,rfl,ao h 1 hwy⟩
 |true=>
 simp only [Bool.not_true,cond_false]
 obtain⟨i,b,e,hfi,hq⟩:=bX rs (by omega) hr c.2.2.2.1
 simp only [hfi,bind_some]
 rcases hq with⟨_,_,hq⟩|⟨rfl,_,⟨rfl,n,rfl,hn,hid⟩|⟨rfl,_⟩⟩
 ·exact absurd hf hq
 ·simp only [Bool.not_true,cond_false,aQ hn,aJ hn,cond_true,toNat_natCast]
  refine BS (rs.getD n (aa ab)) (hr _ (aD hn _)) _ _ _ (fun r' k hi hkl hh hun hT=> ?_) (fun m=> ?_)
  ·simp only [cM]
   try simp only [length_cons,length_nil,zero_add,co (show es.length≤60 by omega) (show 1≤60 by omega),co (show es.length+1≤60 by omega) (show 1≤60 by omega),decide_true,cond_true,length_append,length_set,Nat.le_refl,drop_zero]
   by_cases c40:(((es.length:Nat):Int)>ofNat 40)
   ·rw [decide_eq_true c40,cond_true];exact⟨_,_,rfl,ao h 8 hwy⟩
   ·rw [decide_eq_false c40,cond_false]
    exact⟨_,_,rfl,Hi h hk hfr hn hid hi hkl hh hun hT (jT n r')⟩
  ·simp only [eW]
   exact⟨_,_,rfl,ao h m hwy⟩
 ·exact⟨_,_,rfl,ao h 5 hwy⟩
theorem ZF {ck nr nt nk ne ac:Int} {rs:List aj} (h:SOk (mk ck nr nt nk ne ac rs [])) (hr:∀r∈rs,bG r) (hR:isEmpty rs=false) (c:bi) (hfr:Fresh nr nt nk ne) (hk:c.1=5):
  ∃t r,yA ((mk ck nr nt nk ne ac rs []),c,())=some (t,r,())∧bD ck nr nt nk ne ac rs [] c t r:=by
 have h25:=aZ h
 have hf:=h.fine
 have he:=h.ev40
 have hne:=h.ne
 simp only [mk]at h25 hf he hne
 have h32:=hf.1
 have E:=oI h hR
 have hwy:ef ck nr nt nk ne ac rs ([]:List aC) c:=dF (by rw [hk];decide) (by rw [hk];decide) (by rw [hk];decide) (by rw [hk];decide)
 simp only [mk]at E
 obtain⟨bs,hbs,hsF,hsT⟩:=f118 c.2.2.2.2.2.2.1
 simp only [yA,mk,h25,bind_some,hR,isEmpty_nil,cond_false,zero_add,Nat.le_refl,decide_true,cond_true,bm,ce,E,hbs]
 cases bs with
 |false=>exact⟨_,_,rfl,ao h 1 hwy⟩
 |true=>
 simp only [Bool.not_true,cond_false]
 obtain⟨i,b,e,hfi,hq⟩:=bX rs (by omega) hr c.2.2.2.1
 simp only [hfi,bind_some]
 rcases hq with⟨_,_,hq⟩|⟨rfl,_,⟨rfl,n,rfl,hn,hid⟩|⟨rfl,_⟩⟩
 ·exact absurd hf hq
 ·simp only [Bool.not_true,cond_false,aQ hn,aJ hn,cond_true,toNat_natCast]
  refine BS (rs.getD n (aa ab)) (hr _ (aD hn _)) _ _ _ (fun r' k hi hkl hh hun hT=> ?_) (fun m=> ?_)
  ·simp only [cM]
   try simp only [length_set,Nat.le_refl,decide_true,cond_true,drop_zero]
   exact⟨_,_,rfl,Hi h hk hfr hn hid hi hkl hh hun hT (jT n r')⟩
  ·simp only [eW]
   exact⟨_,_,rfl,ao h m hwy⟩
 ·exact⟨_,_,rfl,ao h 5 hwy⟩
theorem ZG {ck nr nt nk ne ac:Int} {es:List aC} (h:SOk (mk ck nr nt nk ne ac [] es)) (hr:∀r∈([]:List aj),bG r) (hE:isEmpty es=false) (c:bi) (hfr:Fresh nr nt nk ne) (hk:c.1=5):
  ∃t r,yK ((mk ck nr nt nk ne ac [] es),c,())=some (t,r,())∧bD ck nr nt nk ne ac [] es c t r:=by
 have h25:=aZ h
 have hf:=h.fine
 have he:=h.ev40
 have hne:=h.ne
 simp only [mk]at h25 hf he hne
 have h32:=hf.1
 have E:=oJ h hE
 have hwy:ef ck nr nt nk ne ac ([]:List aj) es c:=dF (by rw [hk];decide) (by rw [hk];decide) (by rw [hk];decide) (by rw [hk];decide)
 simp only [mk]at E
 obtain⟨bs,hbs,hsF,hsT⟩:=f118 c.2.2.2.2.2.2.1
 simp only [yK,mk,h25,bind_some,hE,isEmpty_nil,cond_false,zero_add,Nat.le_refl,decide_true,cond_true,bm,ce,E,hbs]
 cases bs with
 |false=>exact⟨_,_,rfl,ao h 1 hwy⟩
 |true=>
 simp only [Bool.not_true,cond_false]
 obtain⟨i,b,e,hfi,hq⟩:=bX ([]:List aj) (by omega) hr c.2.2.2.1
 simp only [hfi,bind_some]
 rcases hq with⟨_,_,hq⟩|⟨rfl,_,⟨rfl,n,rfl,hn,hid⟩|⟨rfl,_⟩⟩
 ·exact absurd hf hq
 ·exact absurd hn (not_lt_zero _)
 ·exact⟨_,_,rfl,ao h 5 hwy⟩
theorem ZH {ck nr nt nk ne ac:Int} (h:SOk (mk ck nr nt nk ne ac [] [])) (hr:∀r∈([]:List aj),bG r) (c:bi) (hfr:Fresh nr nt nk ne) (hk:c.1=5):
  ∃t r,yT ((mk ck nr nt nk ne ac [] []),c,())=some (t,r,())∧bD ck nr nt nk ne ac [] [] c t r:=by
 have h25:=aZ h
 have hf:=h.fine
 have he:=h.ev40
 have hne:=h.ne
 simp only [mk]at h25 hf he hne
 have h32:=hf.1
 have E:=oK h
 have hwy:ef ck nr nt nk ne ac ([]:List aj) ([]:List aC) c:=dF (by rw [hk];decide) (by rw [hk];decide) (by rw [hk];decide) (by rw [hk];decide)
 simp only [mk]at E
 obtain⟨bs,hbs,hsF,hsT⟩:=f118 c.2.2.2.2.2.2.1
 simp only [yT,mk,h25,bind_some,isEmpty_nil,cond_false,zero_add,Nat.le_refl,decide_true,cond_true,bm,ce,E,hbs]
 cases bs with
 |false=>exact⟨_,_,rfl,ao h 1 hwy⟩
 |true=>
 simp only [Bool.not_true,cond_false]
 obtain⟨i,b,e,hfi,hq⟩:=bX ([]:List aj) (by omega) hr c.2.2.2.1
 simp only [hfi,bind_some]
 rcases hq with⟨_,_,hq⟩|⟨rfl,_,⟨rfl,n,rfl,hn,hid⟩|⟨rfl,_⟩⟩
 ·exact absurd hf hq
 ·exact absurd hn (not_lt_zero _)
 ·exact⟨_,_,rfl,ao h 5 hwy⟩
theorem ZI {ck nr nt nk ne ac:Int} {rs:List aj} {es:List aC} (h:SOk (mk ck nr nt nk ne ac rs es)) (hr:∀r∈rs,bG r) (hR:isEmpty rs=false) (hE:isEmpty es=false) (c:bi) (hfr:Fresh nr nt nk ne) (hk:c.1=2):
  ∃t r,vc ((mk ck nr nt nk ne ac rs es),c,())=some (t,r,())∧bD ck nr nt nk ne ac rs es c t r:=by
 have h25:=aZ h
 have hf:=h.fine
 have he:=h.ev40
 have hne:=h.ne
 simp only [mk]at h25 hf he hne
 have h32:=hf.1
 have E:=oH h hR hE
 simp only [mk]at E
 have hnt:=h.nt
 simp only [mk]at hnt
 obtain⟨bs,hbs,hsF,hsT⟩:=f118 c.2.2.2.2.2.2.1
 simp only [vc,mk,h25,bind_some,hR,hE,cond_false,zero_add,Nat.le_refl,decide_true,cond_true,bm,ce,E,hbs]
 cases bs with
 |false=>exact⟨_,_,rfl,ao h 1 (oF hk fun _ h1 h2=>absurd ⟨h1,h2⟩ (hsF rfl))⟩
 |true=>
 simp only [Bool.not_true,cond_false]
 obtain⟨p,b,e,hnx,hq⟩:=mY rs (by omega) hr
 simp only [hnx,bind_some]
 rcases hq with⟨_,_,hq⟩|⟨rfl,_,hfb,_,hex⟩
 ·exact absurd hf hq
 cases b with
 |false=>exact⟨_,_,rfl,ao h 5 (oF hk fun _ _ _ n k hn hkk=>jU rs rs.length (Nat.le_refl _) (by rw [take_length];exact hfb.symm) n k hn hkk)⟩
 |true=>
 obtain⟨n0,k0,hn0,hk0,h10,hp,hp2⟩:=hex rfl
 simp only [Bool.not_true,cond_false]
 obtain⟨i,b,e,hfi,hq⟩:=bX rs (by omega) hr p.1
 simp only [hfi,bind_some]
 rcases hq with⟨_,_,hq⟩|⟨rfl,_,⟨rfl,n,rfl,hn,hid⟩|⟨rfl,hno⟩⟩
 ·exact absurd hf hq
 ·simp only [Bool.not_true,cond_false,aQ hn,aJ hn,cond_true,toNat_natCast]
  refine zg (rs.getD n (aa ab)) (hr _ (aD hn _)) _ _ _ (fun r' k hi hkl h1 hun hT=> ?_) (fun hwl m=> ?_)
  ·simp only [cM]
   try simp only [length_cons,length_nil,zero_add,co (show es.length≤60 by omega) (show 1≤60 by omega),co (show es.length+1≤60 by omega) (show 1≤60 by omega),decide_true,cond_true,length_append,length_set,Nat.le_refl,drop_zero]
   by_cases c40:(((es.length:Nat):Int)>ofNat 40)
   ·rw [decide_eq_true c40,cond_true];exact⟨_,_,rfl,ao h 8 (oF hk fun _ _ _=>by simp only [aF]at c40;omega)⟩
   ·rw [decide_eq_false c40,cond_false]
    exact⟨_,_,rfl,Hh h hk hfr hn hkl h1 hun hT hid hi (wrm (by omega) (by omega)) (fv (by omega) (by omega)) (jT n r')⟩
  ·simp only [eW]
   exact⟨_,_,rfl,ao h m (oF hk fun _ h1 h2=>by
    have hnn:n=n0:=by
     rcases lt_trichotomy n n0 with q|q|q
     ·have:=hf.2.up n n0 q hn0;omega
     ·exact q
     ·have:=hf.2.up n0 n q hn;omega
    subst hnn
    have hckI:0≤ck∧ck≤1099511627776:=h.ck
    exact absurd ⟨k0,hp2,hk0,h10,Rb (LA hckI.1 hckI.2 h1 h2) _,hnt.1,by omega,hnt.2⟩ (hwl (hf.2.chk n hn)))⟩
 ·exact absurd hp.symm (hno n0 hn0)
theorem ZJ {ck nr nt nk ne ac:Int} {rs:List aj} (h:SOk (mk ck nr nt nk ne ac rs [])) (hr:∀r∈rs,bG r) (hR:isEmpty rs=false) (c:bi) (hfr:Fresh nr nt nk ne) (hk:c.1=2):
  ∃t r,yx ((mk ck nr nt nk ne ac rs []),c,())=some (t,r,())∧bD ck nr nt nk ne ac rs [] c t r:=by
 have h25:=aZ h
 have hf:=h.fine
 have he:=h.ev40
 have hne:=h.ne
 simp only [mk]at h25 hf he hne
 have h32:=hf.1
 have E:=oI h hR
 simp only [mk]at E
 have hnt:=h.nt
 simp only [mk]at hnt
 obtain⟨bs,hbs,hsF,hsT⟩:=f118 c.2.2.2.2.2.2.1
 simp only [yx,mk,h25,bind_some,hR,isEmpty_nil,cond_false,zero_add,Nat.le_refl,decide_true,cond_true,bm,ce,E,hbs]
 cases bs with
 |false=>exact⟨_,_,rfl,ao h 1 (oF hk fun _ h1 h2=>absurd ⟨h1,h2⟩ (hsF rfl))⟩
 |true=>
 simp only [Bool.not_true,cond_false]
 obtain⟨p,b,e,hnx,hq⟩:=mY rs (by omega) hr
 simp only [hnx,bind_some]
 rcases hq with⟨_,_,hq⟩|⟨rfl,_,hfb,_,hex⟩
 ·exact absurd hf hq
 cases b with
 |false=>exact⟨_,_,rfl,ao h 5 (oF hk fun _ _ _ n k hn hkk=>jU rs rs.length (Nat.le_refl _) (by rw [take_length];exact hfb.symm) n k hn hkk)⟩
 |true=>
 obtain⟨n0,k0,hn0,hk0,h10,hp,hp2⟩:=hex rfl
 simp only [Bool.not_true,cond_false]
 obtain⟨i,b,e,hfi,hq⟩:=bX rs (by omega) hr p.1
 simp only [hfi,bind_some]
 rcases hq with⟨_,_,hq⟩|⟨rfl,_,⟨rfl,n,rfl,hn,hid⟩|⟨rfl,hno⟩⟩
 ·exact absurd hf hq
 ·simp only [Bool.not_true,cond_false,aQ hn,aJ hn,cond_true,toNat_natCast]
  refine zg (rs.getD n (aa ab)) (hr _ (aD hn _)) _ _ _ (fun r' k hi hkl h1 hun hT=> ?_) (fun hwl m=> ?_)
  ·simp only [cM]
   try simp only [length_set,Nat.le_refl,decide_true,cond_true,drop_zero]
   exact⟨_,_,rfl,Hh h hk hfr hn hkl h1 hun hT hid hi (wrm (by omega) (by omega)) (fv (by omega) (by omega)) (jT n r')⟩
  ·simp only [eW]
   exact⟨_,_,rfl,ao h m (oF hk fun _ h1 h2=>by
    have hnn:n=n0:=by
     rcases lt_trichotomy n n0 with q|q|q
     ·have:=hf.2.up n n0 q hn0;omega
     ·exact q
     ·have:=hf.2.up n0 n q hn;omega
    subst hnn
    have hckI:0≤ck∧ck≤1099511627776:=h.ck
    exact absurd ⟨k0,hp2,hk0,h10,Rb (LA hckI.1 hckI.2 h1 h2) _,hnt.1,by omega,hnt.2⟩ (hwl (hf.2.chk n hn)))⟩
 ·exact absurd hp.symm (hno n0 hn0)
theorem ZK {ck nr nt nk ne ac:Int} {es:List aC} (h:SOk (mk ck nr nt nk ne ac [] es)) (hr:∀r∈([]:List aj),bG r) (hE:isEmpty es=false) (c:bi) (hfr:Fresh nr nt nk ne) (hk:c.1=2):
  ∃t r,yH ((mk ck nr nt nk ne ac [] es),c,())=some (t,r,())∧bD ck nr nt nk ne ac [] es c t r:=by
 have h25:=aZ h
 have hf:=h.fine
 have he:=h.ev40
 have hne:=h.ne
 simp only [mk]at h25 hf he hne
 have h32:=hf.1
 have E:=oJ h hE
 simp only [mk]at E
 have hnt:=h.nt
 simp only [mk]at hnt
 obtain⟨bs,hbs,hsF,hsT⟩:=f118 c.2.2.2.2.2.2.1
 simp only [yH,mk,h25,bind_some,hE,isEmpty_nil,cond_false,zero_add,Nat.le_refl,decide_true,cond_true,bm,ce,E,hbs]
 cases bs with
 |false=>exact⟨_,_,rfl,ao h 1 (oF hk fun _ h1 h2=>absurd ⟨h1,h2⟩ (hsF rfl))⟩
 |true=>
 simp only [Bool.not_true,cond_false]
 obtain⟨p,b,e,hnx,hq⟩:=mY ([]:List aj) (by omega) hr
 simp only [hnx,bind_some]
 rcases hq with⟨_,_,hq⟩|⟨rfl,_,hfb,_,hex⟩
 ·exact absurd hf hq
 cases b with
 |false=>exact⟨_,_,rfl,ao h 5 (oF hk fun _ _ _ n k hn hkk=>jU ([]:List aj) ([]:List aj).length (Nat.le_refl _) (by rw [take_length];exact hfb.symm) n k hn hkk)⟩
 |true=>
 obtain⟨n0,k0,hn0,_,_,hp,_⟩:=hex rfl
 exact absurd hn0 (not_lt_zero _)
theorem ZL {ck nr nt nk ne ac:Int} (h:SOk (mk ck nr nt nk ne ac [] [])) (hr:∀r∈([]:List aj),bG r) (c:bi) (hfr:Fresh nr nt nk ne) (hk:c.1=2):
  ∃t r,yQ ((mk ck nr nt nk ne ac [] []),c,())=some (t,r,())∧bD ck nr nt nk ne ac [] [] c t r:=by
 have h25:=aZ h
 have hf:=h.fine
 have he:=h.ev40
 have hne:=h.ne
 simp only [mk]at h25 hf he hne
 have h32:=hf.1
 have E:=oK h
 simp only [mk]at E
 have hnt:=h.nt
 simp only [mk]at hnt
 obtain⟨bs,hbs,hsF,hsT⟩:=f118 c.2.2.2.2.2.2.1
 simp only [yQ,mk,h25,bind_some,isEmpty_nil,cond_false,zero_add,Nat.le_refl,decide_true,cond_true,bm,ce,E,hbs]
 cases bs with
 |false=>exact⟨_,_,rfl,ao h 1 (oF hk fun _ h1 h2=>absurd ⟨h1,h2⟩ (hsF rfl))⟩
 |true=>
 simp only [Bool.not_true,cond_false]
 obtain⟨p,b,e,hnx,hq⟩:=mY ([]:List aj) (by omega) hr
 simp only [hnx,bind_some]
 rcases hq with⟨_,_,hq⟩|⟨rfl,_,hfb,_,hex⟩
 ·exact absurd hf hq
 cases b with
 |false=>exact⟨_,_,rfl,ao h 5 (oF hk fun _ _ _ n k hn hkk=>jU ([]:List aj) ([]:List aj).length (Nat.le_refl _) (by rw [take_length];exact hfb.symm) n k hn hkk)⟩
 |true=>
 obtain⟨n0,k0,hn0,_,_,hp,_⟩:=hex rfl
 exact absurd hn0 (not_lt_zero _)
theorem ZM {ck nr nt nk ne ac:Int} {rs:List aj} {es:List aC} (h:SOk (mk ck nr nt nk ne ac rs es)) (hr:∀r∈rs,bG r) (hR:isEmpty rs=false) (hE:isEmpty es=false) (c:bi) (hcl:∀nd∈c.2.2.1.1,nd.1.length≤9223372036854775807) (hfr:Fresh nr nt nk ne) (hk:c.1=1):
  ∃t r,yn ((mk ck nr nt nk ne ac rs es),c,())=some (t,r,())∧bD ck nr nt nk ne ac rs es c t r:=by
 have h25:=aZ h
 have hf:=h.fine
 have he:=h.ev40
 have hne:=h.ne
 simp only [mk]at h25 hf he hne
 have h32:=hf.1
 have E:=oH h hR hE
 have hwy:ef ck nr nt nk ne ac rs es c:=dF (by rw [hk];decide) (by rw [hk];decide) (by rw [hk];decide) (by rw [hk];decide)
 simp only [mk]at E
 have hnr:0≤nr∧nr≤1099511627776:=h.nr
 simp only [yn,mk,h25,bind_some,hR,hE,cond_false,zero_add,Nat.le_refl,decide_true,cond_true,bm,ce,E]
 by_cases c1:((c.2.1.size:Nat):Int)<ofNat 1
 ·rw [decide_eq_true c1,cond_true];exact⟨_,_,rfl,ao h 2 hwy⟩
 rw [decide_eq_false c1,cond_false]
 by_cases c2:((c.2.1.size:Nat):Int)>ofNat 24
 ·rw [decide_eq_true c2,cond_true];exact⟨_,_,rfl,ao h 2 hwy⟩
 rw [decide_eq_false c2,cond_false]
 obtain⟨v,hv,hc⟩:=f114 c.2.2.1.1 hcl
 have hv':jy (c.2.2.1,())=some (v,()):=hv
 simp only [hv',bind_some]
 rcases hc with⟨rfl,hdag⟩|⟨rfl,_⟩
 ·simp only [cM]
  obtain⟨i,b,e,hkn,hq⟩:=oz rs (by omega) hr c.2.1
  simp only [hkn,bind_some]
  rcases hq with⟨_,_,hq⟩|⟨rfl,_,⟨rfl,n,hn,hid,hkey⟩|⟨rfl,hno⟩⟩
  ·exact absurd hf hq
  ·simp only [cond_true]
   try simp only [length_cons,length_nil,zero_add,co (show es.length≤60 by omega) (show 1≤60 by omega),co (show es.length+1≤60 by omega) (show 1≤60 by omega),decide_true,cond_true,length_append,length_set,Nat.le_refl,drop_zero]
   by_cases c40:(((es.length:Nat):Int)>ofNat 40)
   ·rw [decide_eq_true c40,cond_true];exact⟨_,_,rfl,ao h 8 hwy⟩
   ·rw [decide_eq_false c40,cond_false]
    exact⟨_,_,rfl,FA h hk hn hkey hid⟩
  ·simp only [cond_false]
   by_cases c32:((rs.length:Nat):Int)=32
   ·rw [show(((rs.length:Nat):Int)==ofNat 32)=true by rw [c32];rfl,cond_true];exact⟨_,_,rfl,ao h 8 hwy⟩
   ·rw [show(((rs.length:Nat):Int)==ofNat 32)=false by simpa using c32,cond_false]
    refine mT _ _ _ hcl _ (fun hkey hd hrk=> ?_) (fun r' rk' m=> ?_)
    ·simp only [cM]
     try simp only [vo,ce,bm,length_cons,length_nil,zero_add,Lz (show rs.length≤60 by omega),co (show es.length≤60 by omega) (show 1≤60 by omega),co (show es.length+1≤60 by omega) (show 1≤60 by omega),decide_true,cond_true,length_append,Nat.le_refl,drop_zero]
     by_cases c40:(((es.length+1:Nat):Int)>ofNat 40)
     ·rw [decide_eq_true c40,cond_true];exact⟨_,_,rfl,ao h 8 hwy⟩
     ·rw [decide_eq_false c40,cond_false]
      exact⟨_,_,rfl,zh hk hfr hno (by omega) hkey hd hrk (fv (by omega) (by omega)) (fv (by omega) (by omega)) (by simp) (by simp) (by simp only [length_append,length_cons,length_nil,aF]at c40⊢;omega)⟩
    ·simp only [eW]
     exact⟨_,_,rfl,ao h m hwy⟩
 ·exact⟨_,_,rfl,ao h 229 hwy⟩
theorem ZN {ck nr nt nk ne ac:Int} {rs:List aj} (h:SOk (mk ck nr nt nk ne ac rs [])) (hr:∀r∈rs,bG r) (hR:isEmpty rs=false) (c:bi) (hcl:∀nd∈c.2.2.1.1,nd.1.length≤9223372036854775807) (hfr:Fresh nr nt nk ne) (hk:c.1=1):
  ∃t r,yw ((mk ck nr nt nk ne ac rs []),c,())=some (t,r,())∧bD ck nr nt nk ne ac rs [] c t r:=by
 have h25:=aZ h
 have hf:=h.fine
 have he:=h.ev40
 have hne:=h.ne
 simp only [mk]at h25 hf he hne
 have h32:=hf.1
 have E:=oI h hR
 have hwy:ef ck nr nt nk ne ac rs ([]:List aC) c:=dF (by rw [hk];decide) (by rw [hk];decide) (by rw [hk];decide) (by rw [hk];decide)
 simp only [mk]at E
 have hnr:0≤nr∧nr≤1099511627776:=h.nr
 simp only [yw,mk,h25,bind_some,hR,isEmpty_nil,cond_false,zero_add,Nat.le_refl,decide_true,cond_true,bm,ce,E]
 by_cases c1:((c.2.1.size:Nat):Int)<ofNat 1
 ·rw [decide_eq_true c1,cond_true];exact⟨_,_,rfl,ao h 2 hwy⟩
 rw [decide_eq_false c1,cond_false]
 by_cases c2:((c.2.1.size:Nat):Int)>ofNat 24
 ·rw [decide_eq_true c2,cond_true];exact⟨_,_,rfl,ao h 2 hwy⟩
 rw [decide_eq_false c2,cond_false]
 obtain⟨v,hv,hc⟩:=f114 c.2.2.1.1 hcl
 have hv':jy (c.2.2.1,())=some (v,()):=hv
 simp only [hv',bind_some]
 rcases hc with⟨rfl,hdag⟩|⟨rfl,_⟩
 ·simp only [cM]
  obtain⟨i,b,e,hkn,hq⟩:=oz rs (by omega) hr c.2.1
  simp only [hkn,bind_some]
  rcases hq with⟨_,_,hq⟩|⟨rfl,_,⟨rfl,n,hn,hid,hkey⟩|⟨rfl,hno⟩⟩
  ·exact absurd hf hq
  ·simp only [cond_true]
   try simp only [length_set,Nat.le_refl,decide_true,cond_true,drop_zero]
   exact⟨_,_,rfl,FA h hk hn hkey hid⟩
  ·simp only [cond_false]
   by_cases c32:((rs.length:Nat):Int)=32
   ·rw [show(((rs.length:Nat):Int)==ofNat 32)=true by rw [c32];rfl,cond_true];exact⟨_,_,rfl,ao h 8 hwy⟩
   ·rw [show(((rs.length:Nat):Int)==ofNat 32)=false by simpa using c32,cond_false]
    refine mT _ _ _ hcl _ (fun hkey hd hrk=> ?_) (fun r' rk' m=> ?_)
    ·simp only [cM]
     try simp only [vo,ce,bm,length_cons,length_nil,zero_add,Lz (show rs.length≤60 by omega),decide_true,cond_true,length_append,Nat.le_refl,drop_zero]
     exact⟨_,_,rfl,zh hk hfr hno (by omega) hkey hd hrk (fv (by omega) (by omega)) (fv (by omega) (by omega)) (by simp) (by simp) (by simp only [length_cons,length_nil];omega)⟩
    ·simp only [eW]
     exact⟨_,_,rfl,ao h m hwy⟩
 ·exact⟨_,_,rfl,ao h 229 hwy⟩
theorem ZO {ck nr nt nk ne ac:Int} {es:List aC} (h:SOk (mk ck nr nt nk ne ac [] es)) (hr:∀r∈([]:List aj),bG r) (hE:isEmpty es=false) (c:bi) (hcl:∀nd∈c.2.2.1.1,nd.1.length≤9223372036854775807) (hfr:Fresh nr nt nk ne) (hk:c.1=1):
  ∃t r,yG ((mk ck nr nt nk ne ac [] es),c,())=some (t,r,())∧bD ck nr nt nk ne ac [] es c t r:=by
 have h25:=aZ h
 have hf:=h.fine
 have he:=h.ev40
 have hne:=h.ne
 simp only [mk]at h25 hf he hne
 have h32:=hf.1
 have E:=oJ h hE
 have hwy:ef ck nr nt nk ne ac ([]:List aj) es c:=dF (by rw [hk];decide) (by rw [hk];decide) (by rw [hk];decide) (by rw [hk];decide)
 simp only [mk]at E
 have hnr:0≤nr∧nr≤1099511627776:=h.nr
 simp only [yG,mk,h25,bind_some,hE,isEmpty_nil,cond_false,zero_add,Nat.le_refl,decide_true,cond_true,bm,ce,E]
 by_cases c1:((c.2.1.size:Nat):Int)<ofNat 1
 ·rw [decide_eq_true c1,cond_true];exact⟨_,_,rfl,ao h 2 hwy⟩
 rw [decide_eq_false c1,cond_false]
 by_cases c2:((c.2.1.size:Nat):Int)>ofNat 24
 ·rw [decide_eq_true c2,cond_true];exact⟨_,_,rfl,ao h 2 hwy⟩
 rw [decide_eq_false c2,cond_false]
 obtain⟨v,hv,hc⟩:=f114 c.2.2.1.1 hcl
 have hv':jy (c.2.2.1,())=some (v,()):=hv
 simp only [hv',bind_some]
 rcases hc with⟨rfl,hdag⟩|⟨rfl,_⟩
 ·simp only [cM]
  obtain⟨i,b,e,hkn,hq⟩:=oz ([]:List aj) (by omega) hr c.2.1
  simp only [hkn,bind_some]
  rcases hq with⟨_,_,hq⟩|⟨rfl,_,⟨rfl,n,hn,hid,hkey⟩|⟨rfl,hno⟩⟩
  ·exact absurd hf hq
  ·exact absurd hn (not_lt_zero _)
  ·simp only [cond_false]
   refine mT _ _ _ hcl _ (fun hkey hd hrk=> ?_) (fun r' rk' m=> ?_)
   ·simp only [cM]
    try simp only [vo,ce,bm,length_cons,length_nil,zero_add,co (show es.length≤60 by omega) (show 1≤60 by omega),co (show es.length+1≤60 by omega) (show 1≤60 by omega),decide_true,cond_true,length_append,Nat.le_refl,drop_zero]
    by_cases c40:(((es.length+1:Nat):Int)>ofNat 40)
    ·rw [decide_eq_true c40,cond_true];exact⟨_,_,rfl,ao h 8 hwy⟩
    ·rw [decide_eq_false c40,cond_false]
     exact⟨_,_,rfl,zh hk hfr hno (by simp only [length_nil];omega) hkey hd hrk (fv (by omega) (by omega)) (fv (by omega) (by omega)) (by simp) (by simp) (by simp only [length_append,length_cons,length_nil,aF]at c40⊢;omega)⟩
   ·simp only [eW]
    exact⟨_,_,rfl,ao h m hwy⟩
 ·exact⟨_,_,rfl,ao h 229 hwy⟩
theorem ZP {ck nr nt nk ne ac:Int} (h:SOk (mk ck nr nt nk ne ac [] [])) (hr:∀r∈([]:List aj),bG r) (c:bi) (hcl:∀nd∈c.2.2.1.1,nd.1.length≤9223372036854775807) (hfr:Fresh nr nt nk ne) (hk:c.1=1):
  ∃t r,ve ((mk ck nr nt nk ne ac [] []),c,())=some (t,r,())∧bD ck nr nt nk ne ac [] [] c t r:=by
 have h25:=aZ h
 have hf:=h.fine
 have he:=h.ev40
 have hne:=h.ne
 simp only [mk]at h25 hf he hne
 have h32:=hf.1
 have E:=oK h
 have hwy:ef ck nr nt nk ne ac ([]:List aj) ([]:List aC) c:=dF (by rw [hk];decide) (by rw [hk];decide) (by rw [hk];decide) (by rw [hk];decide)
 simp only [mk]at E
 have hnr:0≤nr∧nr≤1099511627776:=h.nr
 simp only [ve,mk,h25,bind_some,isEmpty_nil,cond_false,zero_add,Nat.le_refl,decide_true,cond_true,bm,ce,E]
 by_cases c1:((c.2.1.size:Nat):Int)<ofNat 1
 ·rw [decide_eq_true c1,cond_true];exact⟨_,_,rfl,ao h 2 hwy⟩
 rw [decide_eq_false c1,cond_false]
 by_cases c2:((c.2.1.size:Nat):Int)>ofNat 24
 ·rw [decide_eq_true c2,cond_true];exact⟨_,_,rfl,ao h 2 hwy⟩
 rw [decide_eq_false c2,cond_false]
 obtain⟨v,hv,hc⟩:=f114 c.2.2.1.1 hcl
 have hv':jy (c.2.2.1,())=some (v,()):=hv
 simp only [hv',bind_some]
 rcases hc with⟨rfl,hdag⟩|⟨rfl,_⟩
 ·simp only [cM]
  obtain⟨i,b,e,hkn,hq⟩:=oz ([]:List aj) (by omega) hr c.2.1
  simp only [hkn,bind_some]
  rcases hq with⟨_,_,hq⟩|⟨rfl,_,⟨rfl,n,hn,hid,hkey⟩|⟨rfl,hno⟩⟩
  ·exact absurd hf hq
  ·exact absurd hn (not_lt_zero _)
  ·simp only [cond_false]
   refine mT _ _ _ hcl _ (fun hkey hd hrk=> ?_) (fun r' rk' m=> ?_)
   ·simp only [cM]
    try simp only [vo,ce,bm,length_cons,length_nil,zero_add,decide_true,cond_true,length_append,Nat.le_refl,drop_zero]
    exact⟨_,_,rfl,zh hk hfr hno (by simp only [length_nil];omega) hkey hd hrk (fv (by omega) (by omega)) (fv (by omega) (by omega)) (by simp) (by simp) (by simp only [length_cons,length_nil];omega)⟩
   ·simp only [eW]
    exact⟨_,_,rfl,ao h m hwy⟩
 ·exact⟨_,_,rfl,ao h 229 hwy⟩
abbrev Dom {α β:Type} (f:α→β):Type:=α
structure SameI (rs R:List aj):Prop where
 len:R.length=rs.length
 is:∀j:Nat,j<rs.length→(R.getD j (aa ab)).1=(rs.getD j (aa ab)).1∧(aP R j).length=(aP rs j).length
theorem FC {rs R:List aj} (hs:SameI rs R) {n:Nat} (hn:n<R.length) {r':aj} (h1:r'.1=(R.getD n (aa ab)).1) (h2:r'.2.2.2.2.1.length=(aP R n).length):SameI rs (R.set n r'):=by
 refine⟨by rw [length_set];exact hs.len,fun j hj=> ?_⟩
 unfold aP
 rw [dB hn]
 split
 ·rename_i c
  subst c
  exact⟨h1.trans (hs.is _ hj).1,h2.trans (hs.is _ hj).2⟩
 ·exact hs.is j hj
theorem lx {now:Int} {P:List bY} {x:jY}:∀(i:Nat) (y:jY),TkN now P x i y→SameI x.2.1 y.2.1∧x.1≤y.1∧y.1≤x.1+i
 |_,_,.zero=>⟨⟨rfl,fun _ _=>⟨rfl,rfl⟩⟩,by omega,by omega⟩
 |_,z,.step i y _ hy h=>by
  obtain⟨q,q1,q2⟩:=lx i y hy
  cases h with
  |skip d R nk ne w h=>exact⟨q,by simp only at*;omega,by simp only at*;omega⟩
  |wake d R nk ne w n k r' hn hid hp hk hd h3 hT=>exact⟨FC q hn hT.id hT.len,by simp only at*;omega,by simp only at*;omega⟩
  |lapse d R nk ne w n k t' r' hn hid hp hk hd h2 hf hT=>exact⟨FC q hn hT.id hT.len,by simp only at*;omega,by simp only at*;omega⟩
theorem wd {rs R:List aj} {now:Int} {p:bY} (hs:SameI rs R) (hf:eF rs) (hp:p∈pl rs now) {n:Nat} (hn:n<R.length) (hid:(R.getD n (aa ab)).1=p.1):
  ∃k:Nat,p.2.1=k∧k<(R.getD n (aa ab)).2.2.2.2.1.length:=by
 obtain⟨r,hr,hp⟩:=List.mem_flatMap.1 hp
 obtain⟨j,hj,_,rfl⟩:=AS hp
 obtain⟨m,hm,rfl⟩:=List.mem_iff_getElem.1 hr
 rw [←bB hm (aa ab)]at hj hid
 have hn':n<rs.length:=hs.len▸hn
 obtain⟨h1,h2⟩:=hs.is n hn'
 have hnm:n=m:=by
  rw [h1]at hid
  simp only at hid
  rcases lt_trichotomy n m with h|h|h
  ·have:=hf.2.up n m h hm;omega
  ·exact h
  ·have:=hf.2.up m n h hn';omega
 subst hnm
 exact⟨j,by simp only;omega,by unfold aP at h2;rw [h2];exact hj⟩
theorem zi {R:List aj} (hf:eF R) {n m:Nat} (hn:n<R.length) (hm:m<R.length) (h:(R.getD n (aa ab)).1=(R.getD m (aa ab)).1):n=m:=by
 rcases lt_trichotomy n m with c|c|c
 ·have:=hf.2.up n m c hm;omega
 ·exact c
 ·have:=hf.2.up m n c hn;omega
section
variable (np:Nat) (rs:List aj) (es:List aC) (P:List bY) (now nr nt ac:Int)
abbrev ta1 (i d:Int) (R:List aj) (nk ne:Int):=(d,np,(np:Int),i,es,R,now,nr,nt,nk,ne,ac,rs.length,es.length,ofNat 0,ofNat 0,ofNat 0,ofNat 0,ofNat 0,({data:= #[]}:ByteArray),ofNat 0,P,())
abbrev ta2 (i d:Int) (R:List aj) (nk ne:Int) (E:List aC):=(d,np,(np:Int),i,R,now,nr,nt,nk,ne,ac,rs.length,E.length,ofNat 0,ofNat 0,ofNat 0,ofNat 0,ofNat 0,({data:= #[]}:ByteArray),ofNat 0,P,E,())
abbrev ena (i:Int) (x:Int×List aj×Int×Int×Option (List aC)):Dom dC:=match x with
 |(d,R,nk,ne,none)=>.inr (.inl (ta1 np rs es P now nr nt ac i d R nk ne))
 |(d,R,nk,ne,some E)=>.inr (.inr (ta2 np rs P now nr nt ac i d R nk ne E))
def Iva (nk ne:Int) (i:Nat) (x:Int×List aj×Int×Int×Option (List aC)):Prop:=∃w,TkN now P (ofNat 0,rs,nk,ne,[]) i (x.1,x.2.1,x.2.2.1,x.2.2.2.1,w)∧((w= []∧x.2.2.2.2=none)∨x.2.2.2.2=some (es++w))
theorem ads (hnp:np≤16) (hP:np≤P.length) (nk ne:Int) (hx:SX now nr nt nk ne ac rs (es++ [])) (hk:nk≤1099511627676) (he:ne≤1099511627676) (he4:es.length≤40) (hp:∀p∈P,p∈pl rs now):
  ∃y,eC (ena np rs es P now nr nt ac ((0:Nat):Int) (ofNat 0,rs,nk,ne,none))=some y∧∃d R nk' ne' w,TkN now P (ofNat 0,rs,nk,ne,[]) np (d,R,nk',ne',w)∧((w= []∧y= .inr (.inl (d,es,R,now,nr,nt,nk',ne',ac,rs.length,es.length,ofNat 0,ofNat 0,ofNat 0,ofNat 0,ofNat 0,({data:= #[]}:ByteArray),ofNat 0,P,())))∨y= .inr (.inr (d,R,now,nr,nt,nk',ne',ac,rs.length,(es++w).length,ofNat 0,ofNat 0,ofNat 0,ofNat 0,ofNat 0,({data:= #[]}:ByteArray),ofNat 0,P,(es++w),()))):=by
 have h32:=hx.fine.1
 have hf:=hx.fine
 refine bc (st:=dC) np (fun i (x:Int×List aj×Int×Int×Option (List aC))=>ena np rs es P now nr nt ac (i:Int) x) (Iva rs es P now nk ne) (fun y=>∃d R nk' ne' w,TkN now P (ofNat 0,rs,nk,ne,[]) np (d,R,nk',ne',w)∧((w= []∧y= .inr (.inl (d,es,R,now,nr,nt,nk',ne',ac,rs.length,es.length,ofNat 0,ofNat 0,ofNat 0,ofNat 0,ofNat 0,({data:= #[]}:ByteArray),ofNat 0,P,())))∨y= .inr (.inr (d,R,now,nr,nt,nk',ne',ac,rs.length,(es++w).length,ofNat 0,ofNat 0,ofNat 0,ofNat 0,ofNat 0,({data:= #[]}:ByteArray),ofNat 0,P,(es++w),())))) (fun i x h hx2=>.inl ?_) (fun x hx2=> ?_) (ofNat 0,rs,nk,ne,none) ⟨[],.zero,.inl ⟨rfl,rfl⟩⟩
 ·obtain⟨d,R,nk1,ne1,o⟩:=x
  obtain⟨w,hN,ho⟩:=hx2
  simp only at hN ho
  obtain⟨q1,q2,q3,q4,q5,q6⟩:=gT (es:=es) (x:=(ofNat 0,rs,nk,ne,[])) hx i _ hN (by simp only;omega) (by simp only;omega)
  obtain⟨hs,q7,q8⟩:=lx i _ hN
  simp only [length_nil,aF]at q1 q2 q3 q4 q5 q6 hs q7 q8
  have hg:=q1.fine
  have hPi:i<P.length:=by omega
  have hpp:=hp _ (aD hPi (aa au))
  have hT:take rs.length (drop 0 R)=R:=by rw [←hs.len];exact cU R
  have hle:rs.length≤R.length:=by rw [hs.len];omega
  have ek:IntKind.i64.wrap ((i:Int)+ofNat 1)=((i+1:Nat):Int):=um (by omega) (by omega)
  have hwd:IntKind.i64.wrap (d+ofNat 1)=d+1:=fv (by omega) (by omega)
  have hwk:IntKind.i64.wrap (nk1+ofNat 1)=nk1+1:=fv q1.nkI.1 q1.nkI.2
  have hwe:IntKind.i64.wrap (ne1+ofNat 1)=ne1+1:=fv (by have:=q1.neI.1;omega) q1.neI.2
  have hok:∀r∈R,bG r:=fun r hr=>by
   obtain⟨j,hj,rfl⟩:=List.mem_iff_getElem.1 hr
   rw [←bB hj (aa ab)]
   exact mZ (q1.rok hj)
  obtain⟨fi,b,e,hfi,hq⟩:=bX R (by rw [hs.len];omega) hok (P.getD i (aa au)).1
  have stp:=fun z=>TkN.step (now:=now) (P:=P) (x:=(ofNat 0,rs,nk,ne,[])) i (d,R,nk1,ne1,w) z hN
  generalize hgp:P.getD i (aa au)=p at hfi hq hpp stp
  have skipN:(∀n k:Nat,n<R.length→(R.getD n (aa ab)).1=p.1→p.2.1=k→k<(aP R n).length→dx ((aP R n).getD k (aa ae)) now=false)→Iva rs es P now nk ne (i+1) (d,R,nk1,ne1,o):=fun hsk=>⟨w,stp _ (.skip d R nk1 ne1 w hsk),ho⟩
  cases o with
  |none=>
   obtain rfl:w= []:=by
    rcases ho with⟨h,_⟩|h
    ·exact h
    ·cases h
   have hT2:=cU es
   simp only [dC,lb,jK,bA h,aQ h,cond_true,zero_add,toNat_natCast,decide_eq_true hPi,decide_eq_true hle,hT,hgp,hfi,bind_some]
   rcases hq with⟨_,_,hq⟩|⟨_,_,⟨rfl,n,rfl,hn,hid⟩|⟨rfl,hno⟩⟩
   ·exact absurd hg hq
   ·obtain⟨k,hk,hkl⟩:=wd hs hf hpp hn hid
    have hn':n<rs.length:=hs.len▸hn
    simp only [Bool.not_true,cond_false,aQ hn',aJ hn,cond_true,toNat_natCast,zero_add,hk,aQ hkl,aJ hkl,f176,bind_some,length_set,ek]
    cases hdu:dx (getD (R.getD n (aa ab)).2.2.2.2.1 k (aa ae)) now with
    |false=>
     simp only [Bool.not_false,cond_true]
     exact⟨(d,R,nk1,ne1,none),rfl,skipN fun n2 k2 hn2 hid2 hk2 hkl2=>by
      obtain rfl:=zi hg hn hn2 (hid.trans hid2.symm)
      obtain rfl:k=k2:=by omega
      exact hdu⟩
    |true=>
     simp only [Bool.not_true,cond_false]
     by_cases h3:(getD (R.getD n (aa ab)).2.2.2.2.1 k (aa ae)).1=3
     ·obtain⟨r',hw,hT3⟩:=wa (R.getD n (aa ab)) (q1.rok hn) k nk1 now hkl h3 hdu q1.nkI q1.ckI
      have hw:nZ (((R.getD n (aa ab)).1,(R.getD n (aa ab)).2.1,(R.getD n (aa ab)).2.2.1,(R.getD n (aa ab)).2.2.2.1,(R.getD n (aa ab)).2.2.2.2.1,()),(k:Int),nk1,now,())=some (r',0,()):=hw
      rw [show((getD (R.getD n (aa ab)).2.2.2.2.1 k (aa ae)).1==ofNat 3)=true by rw [h3];rfl,cond_true]
      simp only [hw,bind_some,hwd,hwk,length_set]
      exact⟨(d+1,R.set n r',nk1+1,ne1,none),rfl,_,stp _ (.wake d R nk1 ne1 _ n k r' hn hid hk hkl hdu h3 hT3),ho⟩
     ·have h2:(getD (R.getD n (aa ab)).2.2.2.2.1 k (aa ae)).1=2:=by
       have:=(qj hdu).1
       omega
      obtain⟨r',t',hl,hfl,hT3⟩:=ro (R.getD n (aa ab)) (q1.rok hn) k now hkl h2 hdu q1.ckI
      have hl:oc (((R.getD n (aa ab)).1,(R.getD n (aa ab)).2.1,(R.getD n (aa ab)).2.2.1,(R.getD n (aa ab)).2.2.2.1,(R.getD n (aa ab)).2.2.2.2.1,()),(k:Int),now,())=some (r',0,()):=hl
      rw [show((getD (R.getD n (aa ab)).2.2.2.2.1 k (aa ae)).1==ofNat 3)=false by rw [h2];rfl,cond_false]
      have hgd:(R.set n r').getD n (aa ab)=r':=by rw [dB hn,if_pos rfl]
      have h1:=co (show es.length≤60 by omega) (show 1≤60 by omega)
      simp only [hl,bind_some,length_set,hgd,aJ hn,cond_true]
      by_cases c3:r'.2.2.2.1=3
      ·rw [show(r'.2.2.2.1==ofNat 3)=true by simpa using c3]
       simp only [Nat.le_refl,decide_true,cond_true,hT2,bm,ce,length_singleton,h1,cond_true,hwd,hwe]
       exact⟨(d+1,R.set n r',nk1,ne1+1,some (es++ [(ne1,ofNat 5,r'.1,ofNat 0,())])),rfl,_,stp _ (.lapse d R nk1 ne1 _ n k t' r' hn hid hk hkl hdu h2 hfl hT3),.inr (by simp [dq,c3])⟩
      ·rw [show(r'.2.2.2.1==ofNat 3)=false by simpa using c3]
       simp only [Nat.le_refl,decide_true,cond_true,hT2,bm,ce,length_singleton,h1,cond_false,hwd,hwe]
       exact⟨(d+1,R.set n r',nk1,ne1+1,some (es++ [(ne1,ofNat 3,r'.1,(k:Int),())])),rfl,_,stp _ (.lapse d R nk1 ne1 _ n k t' r' hn hid hk hkl hdu h2 hfl hT3),.inr (by simp [dq,c3])⟩
   ·simp only [Bool.not_false,cond_true,ek]
    exact⟨(d,R,nk1,ne1,none),rfl,skipN fun n2 k2 hn2 hid2 _ _=>absurd hid2 (hno n2 hn2)⟩
  |some E=>
   obtain rfl:E=(es++w):=by
    rcases ho with⟨_,h⟩|h
    ·cases h
    ·exact Option.some.inj h
   have hT2:=cU (es++w)
   simp only [dC,lc,jL,bA h,aQ h,cond_true,zero_add,toNat_natCast,decide_eq_true hPi,decide_eq_true hle,hT,hgp,hfi,bind_some]
   rcases hq with⟨_,_,hq⟩|⟨_,_,⟨rfl,n,rfl,hn,hid⟩|⟨rfl,hno⟩⟩
   ·exact absurd hg hq
   ·obtain⟨k,hk,hkl⟩:=wd hs hf hpp hn hid
    have hn':n<rs.length:=hs.len▸hn
    simp only [Bool.not_true,cond_false,aQ hn',aJ hn,cond_true,toNat_natCast,zero_add,hk,aQ hkl,aJ hkl,f176,bind_some,length_set,ek]
    cases hdu:dx (getD (R.getD n (aa ab)).2.2.2.2.1 k (aa ae)) now with
    |false=>
     simp only [Bool.not_false,cond_true]
     exact⟨(d,R,nk1,ne1,some (es++w)),rfl,skipN fun n2 k2 hn2 hid2 hk2 hkl2=>by
      obtain rfl:=zi hg hn hn2 (hid.trans hid2.symm)
      obtain rfl:k=k2:=by omega
      exact hdu⟩
    |true=>
     simp only [Bool.not_true,cond_false]
     by_cases h3:(getD (R.getD n (aa ab)).2.2.2.2.1 k (aa ae)).1=3
     ·obtain⟨r',hw,hT3⟩:=wa (R.getD n (aa ab)) (q1.rok hn) k nk1 now hkl h3 hdu q1.nkI q1.ckI
      have hw:nZ (((R.getD n (aa ab)).1,(R.getD n (aa ab)).2.1,(R.getD n (aa ab)).2.2.1,(R.getD n (aa ab)).2.2.2.1,(R.getD n (aa ab)).2.2.2.2.1,()),(k:Int),nk1,now,())=some (r',0,()):=hw
      rw [show((getD (R.getD n (aa ab)).2.2.2.2.1 k (aa ae)).1==ofNat 3)=true by rw [h3];rfl,cond_true]
      simp only [hw,bind_some,hwd,hwk,length_set]
      exact⟨(d+1,R.set n r',nk1+1,ne1,some (es++w)),rfl,_,stp _ (.wake d R nk1 ne1 _ n k r' hn hid hk hkl hdu h3 hT3),ho⟩
     ·have h2:(getD (R.getD n (aa ab)).2.2.2.2.1 k (aa ae)).1=2:=by
       have:=(qj hdu).1
       omega
      obtain⟨r',t',hl,hfl,hT3⟩:=ro (R.getD n (aa ab)) (q1.rok hn) k now hkl h2 hdu q1.ckI
      have hl:oc (((R.getD n (aa ab)).1,(R.getD n (aa ab)).2.1,(R.getD n (aa ab)).2.2.1,(R.getD n (aa ab)).2.2.2.1,(R.getD n (aa ab)).2.2.2.2.1,()),(k:Int),now,())=some (r',0,()):=hl
      rw [show((getD (R.getD n (aa ab)).2.2.2.2.1 k (aa ae)).1==ofNat 3)=false by rw [h2];rfl,cond_false]
      have hgd:(R.set n r').getD n (aa ab)=r':=by rw [dB hn,if_pos rfl]
      have h1:=co (show(es++w).length≤60 by rw [length_append];omega) (show 1≤60 by omega)
      simp only [hl,bind_some,length_set,hgd,aJ hn,cond_true]
      by_cases c3:r'.2.2.2.1=3
      ·rw [show(r'.2.2.2.1==ofNat 3)=true by simpa using c3]
       simp only [Nat.le_refl,decide_true,cond_true,hT2,bm,ce,length_singleton,h1,cond_true,hwd,hwe]
       exact⟨(d+1,R.set n r',nk1,ne1+1,some ((es++w)++ [(ne1,ofNat 5,r'.1,ofNat 0,())])),rfl,_,stp _ (.lapse d R nk1 ne1 _ n k t' r' hn hid hk hkl hdu h2 hfl hT3),.inr (by simp [dq,c3])⟩
      ·rw [show(r'.2.2.2.1==ofNat 3)=false by simpa using c3]
       simp only [Nat.le_refl,decide_true,cond_true,hT2,bm,ce,length_singleton,h1,cond_false,hwd,hwe]
       exact⟨(d+1,R.set n r',nk1,ne1+1,some ((es++w)++ [(ne1,ofNat 3,r'.1,(k:Int),())])),rfl,_,stp _ (.lapse d R nk1 ne1 _ n k t' r' hn hid hk hkl hdu h2 hfl hT3),.inr (by simp [dq,c3])⟩
   ·simp only [Bool.not_false,cond_true,ek]
    exact⟨(d,R,nk1,ne1,some (es++w)),rfl,skipN fun n2 k2 hn2 hid2 _ _=>absurd hid2 (hno n2 hn2)⟩
 ·obtain⟨d,R,nk1,ne1,o⟩:=x
  obtain⟨w,hN,ho⟩:=hx2
  simp only at hN ho
  cases o with
  |none=>
   rcases ho with⟨hw,_⟩|h
   ·exact⟨.inr (.inl (d,es,R,now,nr,nt,nk1,ne1,ac,rs.length,es.length,ofNat 0,ofNat 0,ofNat 0,ofNat 0,ofNat 0,({data:= #[]}:ByteArray),ofNat 0,P,())),by simp only [dC,lb,jK,bu,cond_false],d,R,nk1,ne1,w,hN,.inl ⟨hw,rfl⟩⟩
   ·cases h
  |some E=>
   obtain rfl:E=(es++w):=by
    rcases ho with⟨_,h⟩|h
    ·cases h
    ·exact Option.some.inj h
   exact⟨.inr (.inr (d,R,now,nr,nt,nk1,ne1,ac,rs.length,(es++w).length,ofNat 0,ofNat 0,ofNat 0,ofNat 0,ofNat 0,({data:= #[]}:ByteArray),ofNat 0,P,(es++w),())),by simp only [dC,lc,jL,bu,cond_false],d,R,nk1,ne1,w,hN,.inr rfl⟩
end
section
variable (np:Nat) (rs:List aj) (P:List bY) (now nr nt ac:Int)
abbrev tb1 (i d:Int) (R:List aj) (nk ne:Int):=(d,np,(np:Int),i,R,now,nr,nt,nk,ne,ac,rs.length,ofNat 0,ofNat 0,ofNat 0,ofNat 0,ofNat 0,({data:= #[]}:ByteArray),ofNat 0,P,())
abbrev tb2 (i d:Int) (R:List aj) (nk ne:Int) (E:List aC):=(d,np,(np:Int),i,R,now,nr,nt,nk,ne,ac,rs.length,E.length,ofNat 0,ofNat 0,ofNat 0,ofNat 0,ofNat 0,({data:= #[]}:ByteArray),ofNat 0,P,E,())
abbrev enb (i:Int) (x:Int×List aj×Int×Int×Option (List aC)):Dom dD:=match x with
 |(d,R,nk,ne,none)=>.inr (.inl (tb1 np rs P now nr nt ac i d R nk ne))
 |(d,R,nk,ne,some E)=>.inr (.inr (tb2 np rs P now nr nt ac i d R nk ne E))
def Ivb (nk ne:Int) (i:Nat) (x:Int×List aj×Int×Int×Option (List aC)):Prop:=∃w,TkN now P (ofNat 0,rs,nk,ne,[]) i (x.1,x.2.1,x.2.2.1,x.2.2.2.1,w)∧((w= []∧x.2.2.2.2=none)∨x.2.2.2.2=some w)
theorem adt (hnp:np≤16) (hP:np≤P.length) (nk ne:Int) (hx:SX now nr nt nk ne ac rs (([]:List aC)++ [])) (hk:nk≤1099511627676) (he:ne≤1099511627676) (hp:∀p∈P,p∈pl rs now):
  ∃y,eD (enb np rs P now nr nt ac ((0:Nat):Int) (ofNat 0,rs,nk,ne,none))=some y∧∃d R nk' ne' w,TkN now P (ofNat 0,rs,nk,ne,[]) np (d,R,nk',ne',w)∧((w= []∧y= .inr (.inl (d,R,now,nr,nt,nk',ne',ac,rs.length,ofNat 0,ofNat 0,ofNat 0,ofNat 0,ofNat 0,({data:= #[]}:ByteArray),ofNat 0,P,())))∨y= .inr (.inr (d,R,now,nr,nt,nk',ne',ac,rs.length,w.length,ofNat 0,ofNat 0,ofNat 0,ofNat 0,ofNat 0,({data:= #[]}:ByteArray),ofNat 0,P,w,()))):=by
 have h32:=hx.fine.1
 have hf:=hx.fine
 refine bc (st:=dD) np (fun i (x:Int×List aj×Int×Int×Option (List aC))=>enb np rs P now nr nt ac (i:Int) x) (Ivb rs P now nk ne) (fun y=>∃d R nk' ne' w,TkN now P (ofNat 0,rs,nk,ne,[]) np (d,R,nk',ne',w)∧((w= []∧y= .inr (.inl (d,R,now,nr,nt,nk',ne',ac,rs.length,ofNat 0,ofNat 0,ofNat 0,ofNat 0,ofNat 0,({data:= #[]}:ByteArray),ofNat 0,P,())))∨y= .inr (.inr (d,R,now,nr,nt,nk',ne',ac,rs.length,w.length,ofNat 0,ofNat 0,ofNat 0,ofNat 0,ofNat 0,({data:= #[]}:ByteArray),ofNat 0,P,w,())))) (fun i x h hx2=>.inl ?_) (fun x hx2=> ?_) (ofNat 0,rs,nk,ne,none) ⟨[],.zero,.inl ⟨rfl,rfl⟩⟩
 ·obtain⟨d,R,nk1,ne1,o⟩:=x
  obtain⟨w,hN,ho⟩:=hx2
  simp only at hN ho
  obtain⟨q1,q2,q3,q4,q5,q6⟩:=gT (es:=([]:List aC)) (x:=(ofNat 0,rs,nk,ne,[])) hx i _ hN (by simp only;omega) (by simp only;omega)
  obtain⟨hs,q7,q8⟩:=lx i _ hN
  simp only [length_nil,aF]at q1 q2 q3 q4 q5 q6 hs q7 q8
  have hg:=q1.fine
  have hPi:i<P.length:=by omega
  have hpp:=hp _ (aD hPi (aa au))
  have hT:take rs.length (drop 0 R)=R:=by rw [←hs.len];exact cU R
  have hle:rs.length≤R.length:=by rw [hs.len];omega
  have ek:IntKind.i64.wrap ((i:Int)+ofNat 1)=((i+1:Nat):Int):=um (by omega) (by omega)
  have hwd:IntKind.i64.wrap (d+ofNat 1)=d+1:=fv (by omega) (by omega)
  have hwk:IntKind.i64.wrap (nk1+ofNat 1)=nk1+1:=fv q1.nkI.1 q1.nkI.2
  have hwe:IntKind.i64.wrap (ne1+ofNat 1)=ne1+1:=fv (by have:=q1.neI.1;omega) q1.neI.2
  have hok:∀r∈R,bG r:=fun r hr=>by
   obtain⟨j,hj,rfl⟩:=List.mem_iff_getElem.1 hr
   rw [←bB hj (aa ab)]
   exact mZ (q1.rok hj)
  obtain⟨fi,b,e,hfi,hq⟩:=bX R (by rw [hs.len];omega) hok (P.getD i (aa au)).1
  have stp:=fun z=>TkN.step (now:=now) (P:=P) (x:=(ofNat 0,rs,nk,ne,[])) i (d,R,nk1,ne1,w) z hN
  generalize hgp:P.getD i (aa au)=p at hfi hq hpp stp
  have skipN:(∀n k:Nat,n<R.length→(R.getD n (aa ab)).1=p.1→p.2.1=k→k<(aP R n).length→dx ((aP R n).getD k (aa ae)) now=false)→Ivb rs P now nk ne (i+1) (d,R,nk1,ne1,o):=fun hsk=>⟨w,stp _ (.skip d R nk1 ne1 w hsk),ho⟩
  cases o with
  |none=>
   obtain rfl:w= []:=by
    rcases ho with⟨h,_⟩|h
    ·exact h
    ·cases h
   simp only [dD,lf,jM,bA h,aQ h,cond_true,zero_add,toNat_natCast,decide_eq_true hPi,decide_eq_true hle,hT,hgp,hfi,bind_some]
   rcases hq with⟨_,_,hq⟩|⟨_,_,⟨rfl,n,rfl,hn,hid⟩|⟨rfl,hno⟩⟩
   ·exact absurd hg hq
   ·obtain⟨k,hk,hkl⟩:=wd hs hf hpp hn hid
    have hn':n<rs.length:=hs.len▸hn
    simp only [Bool.not_true,cond_false,aQ hn',aJ hn,cond_true,toNat_natCast,zero_add,hk,aQ hkl,aJ hkl,f176,bind_some,length_set,ek]
    cases hdu:dx (getD (R.getD n (aa ab)).2.2.2.2.1 k (aa ae)) now with
    |false=>
     simp only [Bool.not_false,cond_true]
     exact⟨(d,R,nk1,ne1,none),rfl,skipN fun n2 k2 hn2 hid2 hk2 hkl2=>by
      obtain rfl:=zi hg hn hn2 (hid.trans hid2.symm)
      obtain rfl:k=k2:=by omega
      exact hdu⟩
    |true=>
     simp only [Bool.not_true,cond_false]
     by_cases h3:(getD (R.getD n (aa ab)).2.2.2.2.1 k (aa ae)).1=3
     ·obtain⟨r',hw,hT3⟩:=wa (R.getD n (aa ab)) (q1.rok hn) k nk1 now hkl h3 hdu q1.nkI q1.ckI
      have hw:nZ (((R.getD n (aa ab)).1,(R.getD n (aa ab)).2.1,(R.getD n (aa ab)).2.2.1,(R.getD n (aa ab)).2.2.2.1,(R.getD n (aa ab)).2.2.2.2.1,()),(k:Int),nk1,now,())=some (r',0,()):=hw
      rw [show((getD (R.getD n (aa ab)).2.2.2.2.1 k (aa ae)).1==ofNat 3)=true by rw [h3];rfl,cond_true]
      simp only [hw,bind_some,hwd,hwk,length_set]
      exact⟨(d+1,R.set n r',nk1+1,ne1,none),rfl,_,stp _ (.wake d R nk1 ne1 _ n k r' hn hid hk hkl hdu h3 hT3),ho⟩
     ·have h2:(getD (R.getD n (aa ab)).2.2.2.2.1 k (aa ae)).1=2:=by
       have:=(qj hdu).1
       omega
      obtain⟨r',t',hl,hfl,hT3⟩:=ro (R.getD n (aa ab)) (q1.rok hn) k now hkl h2 hdu q1.ckI
      have hl:oc (((R.getD n (aa ab)).1,(R.getD n (aa ab)).2.1,(R.getD n (aa ab)).2.2.1,(R.getD n (aa ab)).2.2.2.1,(R.getD n (aa ab)).2.2.2.2.1,()),(k:Int),now,())=some (r',0,()):=hl
      rw [show((getD (R.getD n (aa ab)).2.2.2.2.1 k (aa ae)).1==ofNat 3)=false by rw [h2];rfl,cond_false]
      have hgd:(R.set n r').getD n (aa ab)=r':=by rw [dB hn,if_pos rfl]
      simp only [hl,bind_some,length_set,hgd,aJ hn,cond_true]
      by_cases c3:r'.2.2.2.1=3
      ·rw [show(r'.2.2.2.1==ofNat 3)=true by simpa using c3]
       simp only [bm,ce,length_singleton,cond_true,hwd,hwe]
       exact⟨(d+1,R.set n r',nk1,ne1+1,some ([(ne1,ofNat 5,r'.1,ofNat 0,())])),rfl,_,stp _ (.lapse d R nk1 ne1 _ n k t' r' hn hid hk hkl hdu h2 hfl hT3),.inr (by simp [dq,c3])⟩
      ·rw [show(r'.2.2.2.1==ofNat 3)=false by simpa using c3]
       simp only [bm,ce,length_singleton,cond_false,hwd,hwe]
       exact⟨(d+1,R.set n r',nk1,ne1+1,some ([(ne1,ofNat 3,r'.1,(k:Int),())])),rfl,_,stp _ (.lapse d R nk1 ne1 _ n k t' r' hn hid hk hkl hdu h2 hfl hT3),.inr (by simp [dq,c3])⟩
   ·simp only [Bool.not_false,cond_true,ek]
    exact⟨(d,R,nk1,ne1,none),rfl,skipN fun n2 k2 hn2 hid2 _ _=>absurd hid2 (hno n2 hn2)⟩
  |some E=>
   obtain rfl:w=E:=by
    rcases ho with⟨_,h⟩|h
    ·cases h
    ·exact(Option.some.inj h).symm
   have hT2:=cU w
   simp only [dD,lg,jN,bA h,aQ h,cond_true,zero_add,toNat_natCast,decide_eq_true hPi,decide_eq_true hle,hT,hgp,hfi,bind_some]
   rcases hq with⟨_,_,hq⟩|⟨_,_,⟨rfl,n,rfl,hn,hid⟩|⟨rfl,hno⟩⟩
   ·exact absurd hg hq
   ·obtain⟨k,hk,hkl⟩:=wd hs hf hpp hn hid
    have hn':n<rs.length:=hs.len▸hn
    simp only [Bool.not_true,cond_false,aQ hn',aJ hn,cond_true,toNat_natCast,zero_add,hk,aQ hkl,aJ hkl,f176,bind_some,length_set,ek]
    cases hdu:dx (getD (R.getD n (aa ab)).2.2.2.2.1 k (aa ae)) now with
    |false=>
     simp only [Bool.not_false,cond_true]
     exact⟨(d,R,nk1,ne1,some w),rfl,skipN fun n2 k2 hn2 hid2 hk2 hkl2=>by
      obtain rfl:=zi hg hn hn2 (hid.trans hid2.symm)
      obtain rfl:k=k2:=by omega
      exact hdu⟩
    |true=>
     simp only [Bool.not_true,cond_false]
     by_cases h3:(getD (R.getD n (aa ab)).2.2.2.2.1 k (aa ae)).1=3
     ·obtain⟨r',hw,hT3⟩:=wa (R.getD n (aa ab)) (q1.rok hn) k nk1 now hkl h3 hdu q1.nkI q1.ckI
      have hw:nZ (((R.getD n (aa ab)).1,(R.getD n (aa ab)).2.1,(R.getD n (aa ab)).2.2.1,(R.getD n (aa ab)).2.2.2.1,(R.getD n (aa ab)).2.2.2.2.1,()),(k:Int),nk1,now,())=some (r',0,()):=hw
      rw [show((getD (R.getD n (aa ab)).2.2.2.2.1 k (aa ae)).1==ofNat 3)=true by rw [h3];rfl,cond_true]
      simp only [hw,bind_some,hwd,hwk,length_set]
      exact⟨(d+1,R.set n r',nk1+1,ne1,some w),rfl,_,stp _ (.wake d R nk1 ne1 _ n k r' hn hid hk hkl hdu h3 hT3),ho⟩
     ·have h2:(getD (R.getD n (aa ab)).2.2.2.2.1 k (aa ae)).1=2:=by
       have:=(qj hdu).1
       omega
      obtain⟨r',t',hl,hfl,hT3⟩:=ro (R.getD n (aa ab)) (q1.rok hn) k now hkl h2 hdu q1.ckI
      have hl:oc (((R.getD n (aa ab)).1,(R.getD n (aa ab)).2.1,(R.getD n (aa ab)).2.2.1,(R.getD n (aa ab)).2.2.2.1,(R.getD n (aa ab)).2.2.2.2.1,()),(k:Int),now,())=some (r',0,()):=hl
      rw [show((getD (R.getD n (aa ab)).2.2.2.2.1 k (aa ae)).1==ofNat 3)=false by rw [h2];rfl,cond_false]
      have hgd:(R.set n r').getD n (aa ab)=r':=by rw [dB hn,if_pos rfl]
      have h1:=co (show w.length≤60 by omega) (show 1≤60 by omega)
      simp only [hl,bind_some,length_set,hgd,aJ hn,cond_true]
      by_cases c3:r'.2.2.2.1=3
      ·rw [show(r'.2.2.2.1==ofNat 3)=true by simpa using c3]
       simp only [Nat.le_refl,decide_true,cond_true,hT2,bm,ce,length_singleton,h1,cond_true,hwd,hwe]
       exact⟨(d+1,R.set n r',nk1,ne1+1,some (w++ [(ne1,ofNat 5,r'.1,ofNat 0,())])),rfl,_,stp _ (.lapse d R nk1 ne1 _ n k t' r' hn hid hk hkl hdu h2 hfl hT3),.inr (by simp [dq,c3])⟩
      ·rw [show(r'.2.2.2.1==ofNat 3)=false by simpa using c3]
       simp only [Nat.le_refl,decide_true,cond_true,hT2,bm,ce,length_singleton,h1,cond_false,hwd,hwe]
       exact⟨(d+1,R.set n r',nk1,ne1+1,some (w++ [(ne1,ofNat 3,r'.1,(k:Int),())])),rfl,_,stp _ (.lapse d R nk1 ne1 _ n k t' r' hn hid hk hkl hdu h2 hfl hT3),.inr (by simp [dq,c3])⟩
   ·simp only [Bool.not_false,cond_true,ek]
    exact⟨(d,R,nk1,ne1,some w),rfl,skipN fun n2 k2 hn2 hid2 _ _=>absurd hid2 (hno n2 hn2)⟩
 ·obtain⟨d,R,nk1,ne1,o⟩:=x
  obtain⟨w,hN,ho⟩:=hx2
  simp only at hN ho
  cases o with
  |none=>
   rcases ho with⟨hw,_⟩|h
   ·exact⟨.inr (.inl (d,R,now,nr,nt,nk1,ne1,ac,rs.length,ofNat 0,ofNat 0,ofNat 0,ofNat 0,ofNat 0,({data:= #[]}:ByteArray),ofNat 0,P,())),by simp only [dD,lf,jM,bu,cond_false],d,R,nk1,ne1,w,hN,.inl ⟨hw,rfl⟩⟩
   ·cases h
  |some E=>
   obtain rfl:w=E:=by
    rcases ho with⟨_,h⟩|h
    ·cases h
    ·exact(Option.some.inj h).symm
   exact⟨.inr (.inr (d,R,now,nr,nt,nk1,ne1,ac,rs.length,w.length,ofNat 0,ofNat 0,ofNat 0,ofNat 0,ofNat 0,({data:= #[]}:ByteArray),ofNat 0,P,w,())),by simp only [dD,lg,jN,bu,cond_false],d,R,nk1,ne1,w,hN,.inr rfl⟩
end
theorem zj (rs:List aj) (hm:rs.length≤9223372036854775807) (hr:∀r∈rs,bG r) (hf:eF rs) (now:Int) (hn:bU now):
  ∃(l:List bY) (e:Int),xk (rs,now,())=some (l,e,())∧l.Perm (pl rs now)∧QX l:=by
 obtain⟨v,hv,hc⟩:=f51 rs hm hr
 rcases hc with⟨h1,_⟩|⟨_,h2,_⟩|⟨_,rfl⟩
 ·have:=hf.1;omega
 ·exact absurd hf.2 h2
 ·obtain⟨S,h1,h2,h3⟩:=f175 rs now hf.1 (Zf hf)
  obtain⟨n1,n2⟩:=hn
  simp only [xk,hv,bind_some,iY,cond_false,decide_eq_false (show¬now<ofNat 0 by simp only [aF];omega),decide_eq_false (show¬now>ofNat 1099511627776 by simp only [aF];omega),h1]
  cases S with
  |nil=>exact⟨_,_,rfl,h2,h3⟩
  |cons a m=>
   simp only [isEmpty_cons,cond_false,cU,zero_add,Nat.le_refl,decide_true,cond_true]
   exact⟨_,_,rfl,h2,h3⟩
theorem ja {ck nr nt nk ne ac:Int} {rs:List aj} {es:List aC} {c:bi} {R2:List aj} {E:List aC} {l:List bY} {d:Int} {R:List aj} {nk' ne':Int} {w:List aC} (hk:c.1=7) (hf:Fresh nr nt nk ne) (h1:¬c.2.2.2.2.2.2.2.1<ck) (h2:¬c.2.2.2.2.2.2.2.1>ofNat 1099511627776) (hl:l.Perm (pl rs c.2.2.2.2.2.2.2.1)) (hs:QX l) (hN:TkN c.2.2.2.2.2.2.2.1 l (ofNat 0,rs,nk,ne,[]) (min 16 l.length) (d,R,nk',ne',w)) (hR:R2=R) (hE:E=es++w) (h40:E.length≤40):
  bD ck nr nt nk ne ac rs es c (mk c.2.2.2.2.2.2.2.1 nr nt nk' ne' ac R2 E) (jZ (ofNat 0) d (ofNat 0)):=by
 subst hR hE;exact⟨.tick l d R2 nk' ne' w hk hf (by omega) (by simp only [aF]at h2;omega) hl hs hN,h40⟩
theorem ZQ {ck nr nt nk ne ac:Int} {rs:List aj} {es:List aC} (h:SOk (mk ck nr nt nk ne ac rs es)) (hr:∀r∈rs,bG r) (hR:isEmpty rs=false) (hE:isEmpty es=false) (c:bi) (hfr:Fresh nr nt nk ne) (hk:c.1=7):
  ∃t r,yr ((mk ck nr nt nk ne ac rs es),c,())=some (t,r,())∧bD ck nr nt nk ne ac rs es c t r:=by
 have h25:=aZ h
 have hf:=h.fine
 have he:=h.ev40
 have hck:0≤ck∧ck≤1099511627776:=h.ck
 have hsx:=iL h
 simp only [mk]at h25 hf he
 have h32:=hf.1
 have E:=oH h hR hE
 simp only [mk]at E
 simp only [yr,mk,h25,bind_some,hR,hE,isEmpty_nil,cond_false,zero_add,Nat.le_refl,decide_true,cond_true,bm,ce,E]
 by_cases c1:c.2.2.2.2.2.2.2.1<ck
 ·rw [decide_eq_true c1,cond_true];exact⟨_,_,rfl,ao h 1 (lv hk fun _ h1 h2 _=>by first|omega|(simp only [aF]at*;omega))⟩
 rw [decide_eq_false c1,cond_false]
 by_cases c2:c.2.2.2.2.2.2.2.1>ofNat 1099511627776
 ·rw [decide_eq_true c2,cond_true];exact⟨_,_,rfl,ao h 1 (lv hk fun _ h1 h2 _=>by first|omega|(simp only [aF]at*;omega))⟩
 rw [decide_eq_false c2,cond_false]
 have hTo:bU c.2.2.2.2.2.2.2.1:=⟨by omega,by simp only [aF]at c2;omega⟩
 obtain⟨l,e,hdue,hperm,hsrt⟩:=zj rs (by omega) hr hf c.2.2.2.2.2.2.2.1 hTo
 simp only [hdue,bind_some]
 have h0:eC (.inl (ofNat 0,0,ofNat 0,es,rs,c.2.2.2.2.2.2.2.1,nr,nt,nk,ne,ac,rs.length,es.length,ofNat 0,ofNat 0,ofNat 0,ofNat 0,ofNat 0,({data:= #[]}:ByteArray),ofNat 0,()))=some (.inl (ofNat 0,es,rs,c.2.2.2.2.2.2.2.1,nr,nt,nk,ne,ac,rs.length,es.length,ofNat 0,ofNat 0,ofNat 0,ofNat 0,ofNat 0,({data:= #[]}:ByteArray),ofNat 0,())):=by
  rw [eC,cB]
  rfl
 by_cases hl:l= []
 ·subst hl
  simp only [isEmpty_nil,cond_true,h0,bind_some]
  by_cases c40:(((es.length:Nat):Int)>ofNat 40)
  ·rw [decide_eq_true c40,cond_true];exact⟨_,_,rfl,ao h 8 (lv hk fun _ _ _ h24=>by first|(simp only [aF]at c40;omega)|(have:=(gT hsx2 _ _ hN (by simp only;have:=hfr.nk;omega) (by simp only;have:=hfr.ne;omega)).2.2.2.2.2;simp only [length_append,length_nil,aF]at this c40 h24;omega))⟩
  ·rw [decide_eq_false c40,cond_false]
   try simp only [cond_false,zero_add,Nat.le_refl,decide_true,cond_true,drop_zero,take_length]
   exact⟨_,_,rfl,ja hk hfr c1 c2 hperm hsrt TkN.zero (by first|rfl|simp|exact hRR) (by simp) (by simp only [aF]at c40;omega)⟩
 ·have hle:isEmpty l=false:=by cases l with
   |nil=>exact absurd rfl hl
   |cons a m=>rfl
  have hmin:(if ofNat 16<((l.length:Nat):Int)then ofNat 16 else((l.length:Nat):Int))=((min 16 l.length:Nat):Int):=by
   simp only [aF]
   split<;>omega
  have hwi:ai (0:Int) ((min 16 l.length:Nat):Int) ((l.length:Nat):Int)=true:=by
   simp only [ai,Bool.and_eq_true,decide_eq_true_eq];omega
  have hsx2:SX c.2.2.2.2.2.2.2.1 nr nt nk ne ac rs (es++ []):=by
   rw [append_nil]
   exact⟨hsx.fine,hTo,hsx.nrI,hsx.nkI,hsx.ntI,hsx.neI,hsx.ack,hsx.elen,hsx.late,hsx.evs⟩
  obtain⟨y,hy,d,R,nk',ne',w,hN,hyq⟩:=ads (min 16 l.length) rs es l c.2.2.2.2.2.2.2.1 nr nt ac (by omega) (by omega) nk ne hsx2 hfr.nk hfr.ne he (fun p hp=>hperm.subset hp)
  have hy:eC (.inr (.inl (ofNat 0,min 16 l.length,((min 16 l.length:Nat):Int),ofNat 0,es,rs,c.2.2.2.2.2.2.2.1,nr,nt,nk,ne,ac,rs.length,es.length,ofNat 0,ofNat 0,ofNat 0,ofNat 0,ofNat 0,({data:= #[]}:ByteArray),ofNat 0,l,())))=some y:=hy
  simp only [hle,hmin,hwi,toNat_natCast,sub_zero,cond_true,cond_false,hy,bind_some]
  have hs:=(lx _ _ hN).1
  simp only at hs
  have hlR:rs.length≤R.length:=by rw [hs.len];omega
  have hRR:take rs.length R=R:=take_of_length_le (by rw [hs.len];omega)
  rcases hyq with⟨rfl,rfl⟩|rfl
  ·simp only []
   by_cases c40:(((es.length:Nat):Int)>ofNat 40)
   ·rw [decide_eq_true c40,cond_true];exact⟨_,_,rfl,ao h 8 (lv hk fun _ _ _ h24=>by first|(simp only [aF]at c40;omega)|(have:=(gT hsx2 _ _ hN (by simp only;have:=hfr.nk;omega) (by simp only;have:=hfr.ne;omega)).2.2.2.2.2;simp only [length_append,length_nil,aF]at this c40 h24;omega))⟩
   ·rw [decide_eq_false c40,cond_false]
    try simp only [cond_false,zero_add,Nat.le_refl,decide_true,cond_true,drop_zero,take_length,decide_eq_true hlR,hRR]
    exact⟨_,_,rfl,ja hk hfr c1 c2 hperm hsrt hN (by first|rfl|simp|exact hRR) (by simp) (by simp only [aF]at c40;omega)⟩
  ·simp only []
   by_cases c40:((((es++w).length:Nat):Int)>ofNat 40)
   ·rw [decide_eq_true c40,cond_true];exact⟨_,_,rfl,ao h 8 (lv hk fun _ _ _ h24=>by first|(simp only [aF]at c40;omega)|(have:=(gT hsx2 _ _ hN (by simp only;have:=hfr.nk;omega) (by simp only;have:=hfr.ne;omega)).2.2.2.2.2;simp only [length_append,length_nil,aF]at this c40 h24;omega))⟩
   ·rw [decide_eq_false c40,cond_false]
    try simp only [cond_false,zero_add,Nat.le_refl,decide_true,cond_true,drop_zero,take_length,decide_eq_true hlR,hRR]
    exact⟨_,_,rfl,ja hk hfr c1 c2 hperm hsrt hN (by first|rfl|simp|exact hRR) (by simp) (by simp only [aF]at c40;omega)⟩
theorem ZR {ck nr nt nk ne ac:Int} {rs:List aj} (h:SOk (mk ck nr nt nk ne ac rs [])) (hr:∀r∈rs,bG r) (hR:isEmpty rs=false) (c:bi) (hfr:Fresh nr nt nk ne) (hk:c.1=7):
  ∃t r,yC ((mk ck nr nt nk ne ac rs []),c,())=some (t,r,())∧bD ck nr nt nk ne ac rs [] c t r:=by
 have h25:=aZ h
 have hf:=h.fine
 have he:=h.ev40
 have hck:0≤ck∧ck≤1099511627776:=h.ck
 have hsx:=iL h
 simp only [mk]at h25 hf he
 have h32:=hf.1
 have E:=oI h hR
 simp only [mk]at E
 simp only [yC,mk,h25,bind_some,hR,isEmpty_nil,cond_false,zero_add,Nat.le_refl,decide_true,cond_true,bm,ce,E]
 by_cases c1:c.2.2.2.2.2.2.2.1<ck
 ·rw [decide_eq_true c1,cond_true];exact⟨_,_,rfl,ao h 1 (lv hk fun _ h1 h2 _=>by first|omega|(simp only [aF]at*;omega))⟩
 rw [decide_eq_false c1,cond_false]
 by_cases c2:c.2.2.2.2.2.2.2.1>ofNat 1099511627776
 ·rw [decide_eq_true c2,cond_true];exact⟨_,_,rfl,ao h 1 (lv hk fun _ h1 h2 _=>by first|omega|(simp only [aF]at*;omega))⟩
 rw [decide_eq_false c2,cond_false]
 have hTo:bU c.2.2.2.2.2.2.2.1:=⟨by omega,by simp only [aF]at c2;omega⟩
 obtain⟨l,e,hdue,hperm,hsrt⟩:=zj rs (by omega) hr hf c.2.2.2.2.2.2.2.1 hTo
 simp only [hdue,bind_some]
 have h0:eD (.inl (ofNat 0,0,ofNat 0,rs,c.2.2.2.2.2.2.2.1,nr,nt,nk,ne,ac,rs.length,ofNat 0,ofNat 0,ofNat 0,ofNat 0,ofNat 0,({data:= #[]}:ByteArray),ofNat 0,()))=some (.inl (ofNat 0,rs,c.2.2.2.2.2.2.2.1,nr,nt,nk,ne,ac,rs.length,ofNat 0,ofNat 0,ofNat 0,ofNat 0,ofNat 0,({data:= #[]}:ByteArray),ofNat 0,())):=by
  rw [eD,cB]
  rfl
 by_cases hl:l= []
 ·subst hl
  simp only [isEmpty_nil,cond_true,h0,bind_some]
  try simp only [cond_false,zero_add,Nat.le_refl,decide_true,cond_true,drop_zero,take_length]
  exact⟨_,_,rfl,ja hk hfr c1 c2 hperm hsrt TkN.zero (by first|rfl|simp|exact hRR) (by simp) (by simp)⟩
 ·have hle:isEmpty l=false:=by cases l with
   |nil=>exact absurd rfl hl
   |cons a m=>rfl
  have hmin:(if ofNat 16<((l.length:Nat):Int)then ofNat 16 else((l.length:Nat):Int))=((min 16 l.length:Nat):Int):=by
   simp only [aF]
   split<;>omega
  have hwi:ai (0:Int) ((min 16 l.length:Nat):Int) ((l.length:Nat):Int)=true:=by
   simp only [ai,Bool.and_eq_true,decide_eq_true_eq];omega
  have hsx2:SX c.2.2.2.2.2.2.2.1 nr nt nk ne ac rs ([]++ []):=by
   rw [append_nil]
   exact⟨hsx.fine,hTo,hsx.nrI,hsx.nkI,hsx.ntI,hsx.neI,hsx.ack,hsx.elen,hsx.late,hsx.evs⟩
  obtain⟨y,hy,d,R,nk',ne',w,hN,hyq⟩:=adt (min 16 l.length) rs l c.2.2.2.2.2.2.2.1 nr nt ac (by omega) (by omega) nk ne hsx2 hfr.nk hfr.ne (fun p hp=>hperm.subset hp)
  have hy:eD (.inr (.inl (ofNat 0,min 16 l.length,((min 16 l.length:Nat):Int),ofNat 0,rs,c.2.2.2.2.2.2.2.1,nr,nt,nk,ne,ac,rs.length,ofNat 0,ofNat 0,ofNat 0,ofNat 0,ofNat 0,({data:= #[]}:ByteArray),ofNat 0,l,())))=some y:=hy
  simp only [hle,hmin,hwi,toNat_natCast,sub_zero,cond_true,cond_false,hy,bind_some]
  have hs:=(lx _ _ hN).1
  simp only at hs
  have hlR:rs.length≤R.length:=by rw [hs.len];omega
  have hRR:take rs.length R=R:=take_of_length_le (by rw [hs.len];omega)
  rcases hyq with⟨rfl,rfl⟩|rfl
  ·simp only []
   try simp only [cond_false,zero_add,Nat.le_refl,decide_true,cond_true,drop_zero,take_length,decide_eq_true hlR,hRR]
   exact⟨_,_,rfl,ja hk hfr c1 c2 hperm hsrt hN (by first|rfl|simp|exact hRR) (by simp) (by simp)⟩
  ·simp only []
   by_cases c40:(((w.length:Nat):Int)>ofNat 40)
   ·rw [decide_eq_true c40,cond_true];exact⟨_,_,rfl,ao h 8 (lv hk fun _ _ _ h24=>by first|(simp only [aF]at c40;omega)|(have:=(gT hsx2 _ _ hN (by simp only;have:=hfr.nk;omega) (by simp only;have:=hfr.ne;omega)).2.2.2.2.2;simp only [length_append,length_nil,aF]at this c40 h24;omega))⟩
   ·rw [decide_eq_false c40,cond_false]
    try simp only [cond_false,zero_add,Nat.le_refl,decide_true,cond_true,drop_zero,take_length,decide_eq_true hlR,hRR]
    exact⟨_,_,rfl,ja hk hfr c1 c2 hperm hsrt hN (by first|rfl|simp|exact hRR) (by simp) (by simp only [aF]at c40;omega)⟩
theorem ZS {ck nr nt nk ne ac:Int} {es:List aC} (h:SOk (mk ck nr nt nk ne ac [] es)) (hr:∀r∈([]:List aj),bG r) (hE:isEmpty es=false) (c:bi) (hfr:Fresh nr nt nk ne) (hk:c.1=7):
  ∃t r,yM ((mk ck nr nt nk ne ac [] es),c,())=some (t,r,())∧bD ck nr nt nk ne ac [] es c t r:=by
 have h25:=aZ h
 have hf:=h.fine
 have he:=h.ev40
 have hck:0≤ck∧ck≤1099511627776:=h.ck
 have hsx:=iL h
 simp only [mk]at h25 hf he
 have h32:=hf.1
 have E:=oJ h hE
 simp only [mk]at E
 simp only [yM,mk,h25,bind_some,hE,isEmpty_nil,cond_false,zero_add,Nat.le_refl,decide_true,cond_true,bm,ce,E]
 by_cases c1:c.2.2.2.2.2.2.2.1<ck
 ·rw [decide_eq_true c1,cond_true];exact⟨_,_,rfl,ao h 1 (lv hk fun _ h1 h2 _=>by first|omega|(simp only [aF]at*;omega))⟩
 rw [decide_eq_false c1,cond_false]
 by_cases c2:c.2.2.2.2.2.2.2.1>ofNat 1099511627776
 ·rw [decide_eq_true c2,cond_true];exact⟨_,_,rfl,ao h 1 (lv hk fun _ h1 h2 _=>by first|omega|(simp only [aF]at*;omega))⟩
 rw [decide_eq_false c2,cond_false]
 have hTo:bU c.2.2.2.2.2.2.2.1:=⟨by omega,by simp only [aF]at c2;omega⟩
 obtain⟨l,e,hdue,hperm,hsrt⟩:=zj ([]:List aj) (by omega) hr hf c.2.2.2.2.2.2.2.1 hTo
 simp only [hdue,bind_some]
 have h0:gO (.inl (ofNat 0,0,ofNat 0,es,c.2.2.2.2.2.2.2.1,nr,nt,nk,ne,ac,es.length,ofNat 0,ofNat 0,ofNat 0,ofNat 0,ofNat 0,({data:= #[]}:ByteArray),ofNat 0,()))=some (.inl (ofNat 0,es,c.2.2.2.2.2.2.2.1,nr,nt,nk,ne,ac,es.length,ofNat 0,ofNat 0,ofNat 0,ofNat 0,ofNat 0,({data:= #[]}:ByteArray),ofNat 0,())):=by
  rw [gO,cB]
  rfl
 obtain rfl:l= []:=hperm.eq_nil
 simp only [isEmpty_nil,cond_true,h0,bind_some]
 by_cases c40:(((es.length:Nat):Int)>ofNat 40)
 ·rw [decide_eq_true c40,cond_true];exact⟨_,_,rfl,ao h 8 (lv hk fun _ _ _ h24=>by first|(simp only [aF]at c40;omega)|(have:=(gT hsx2 _ _ hN (by simp only;have:=hfr.nk;omega) (by simp only;have:=hfr.ne;omega)).2.2.2.2.2;simp only [length_append,length_nil,aF]at this c40 h24;omega))⟩
 ·rw [decide_eq_false c40,cond_false]
  try simp only [cond_false,zero_add,Nat.le_refl,decide_true,cond_true,drop_zero,take_length]
  exact⟨_,_,rfl,ja hk hfr c1 c2 hperm hsrt TkN.zero (by first|rfl|simp|exact hRR) (by simp) (by simp only [aF]at c40;omega)⟩
theorem ZT {ck nr nt nk ne ac:Int} (h:SOk (mk ck nr nt nk ne ac [] [])) (hr:∀r∈([]:List aj),bG r) (c:bi) (hfr:Fresh nr nt nk ne) (hk:c.1=7):
  ∃t r,yV ((mk ck nr nt nk ne ac [] []),c,())=some (t,r,())∧bD ck nr nt nk ne ac [] [] c t r:=by
 have h25:=aZ h
 have hf:=h.fine
 have he:=h.ev40
 have hck:0≤ck∧ck≤1099511627776:=h.ck
 have hsx:=iL h
 simp only [mk]at h25 hf he
 have h32:=hf.1
 have E:=oK h
 simp only [mk]at E
 simp only [yV,mk,h25,bind_some,isEmpty_nil,cond_false,zero_add,Nat.le_refl,decide_true,cond_true,bm,ce,E]
 by_cases c1:c.2.2.2.2.2.2.2.1<ck
 ·rw [decide_eq_true c1,cond_true];exact⟨_,_,rfl,ao h 1 (lv hk fun _ h1 h2 _=>by first|omega|(simp only [aF]at*;omega))⟩
 rw [decide_eq_false c1,cond_false]
 by_cases c2:c.2.2.2.2.2.2.2.1>ofNat 1099511627776
 ·rw [decide_eq_true c2,cond_true];exact⟨_,_,rfl,ao h 1 (lv hk fun _ h1 h2 _=>by first|omega|(simp only [aF]at*;omega))⟩
 rw [decide_eq_false c2,cond_false]
 have hTo:bU c.2.2.2.2.2.2.2.1:=⟨by omega,by simp only [aF]at c2;omega⟩
 obtain⟨l,e,hdue,hperm,hsrt⟩:=zj ([]:List aj) (by omega) hr hf c.2.2.2.2.2.2.2.1 hTo
 simp only [hdue,bind_some]
 have h0:gP (.inl (ofNat 0,0,ofNat 0,c.2.2.2.2.2.2.2.1,nr,nt,nk,ne,ac,ofNat 0,ofNat 0,ofNat 0,ofNat 0,ofNat 0,({data:= #[]}:ByteArray),ofNat 0,()))=some (.inl (ofNat 0,c.2.2.2.2.2.2.2.1,nr,nt,nk,ne,ac,ofNat 0,ofNat 0,ofNat 0,ofNat 0,ofNat 0,({data:= #[]}:ByteArray),ofNat 0,())):=by
  rw [gP,cB]
  rfl
 obtain rfl:l= []:=hperm.eq_nil
 simp only [isEmpty_nil,cond_true,h0,bind_some]
 try simp only [cond_false,zero_add,Nat.le_refl,decide_true,cond_true,drop_zero,take_length]
 exact⟨_,_,rfl,ja hk hfr c1 c2 hperm hsrt TkN.zero (by first|rfl|simp|exact hRR) (by simp) (by simp)⟩
theorem aip {ck nr nt nk ne ac:Int} {rs:List aj} {es:List aC} (h:SOk (mk ck nr nt nk ne ac rs es)) (hr:∀r∈rs,bG r) (hR:isEmpty rs=false) (hE:isEmpty es=false) (c:bi) (hcl:∀nd∈c.2.2.1.1,nd.1.length≤9223372036854775807):
  ∃t r,pG ((mk ck nr nt nk ne ac rs es),c,())=some (t,r,())∧bD ck nr nt nk ne ac rs es c t r:=by
 obtain⟨v,hv,hc⟩:=fI (mk ck nr nt nk ne ac rs es) (by have:=h.fine.1;simp only [mk]at this⊢;omega) hr
 obtain rfl:v=0:=by
  rcases hc with⟨h1,_⟩|⟨_,hc⟩
  ·exact h1
  ·exact absurd h hc
 have E:=oH h hR hE
 have Eg:=fun n=>ao (c:=c) h n
 simp only [pG,hv,bind_some,iY,cond_false]
 by_cases k1:c.1=1
 ·rw [show(c.1==ofNat 1)=true by rw [k1];rfl,cond_true]
  exact bP _ (fun f=>ZM h hr hR hE c hcl (f (decide_eq_true (by rw [k1];decide))) k1) fun hb hnf=>⟨_,_,E 9,Eg 8 (cw (of_decide_eq_true hb) hnf)⟩
 rw [show(c.1==ofNat 1)=false by simpa using k1,cond_false]
 by_cases k2:c.1=2
 ·rw [show(c.1==ofNat 2)=true by rw [k2];rfl,cond_true]
  exact bP _ (fun f=>ZI h hr hR hE c (f (decide_eq_true (by rw [k2];decide))) k2) fun hb hnf=>⟨_,_,E 9,Eg 8 (cw (of_decide_eq_true hb) hnf)⟩
 rw [show(c.1==ofNat 2)=false by simpa using k2,cond_false]
 by_cases k3:c.1=3
 ·rw [show(c.1==ofNat 3)=true by rw [k3];rfl,cond_true]
  exact bP _ (fun f=>Zs h hr hR hE c (f (decide_eq_true (by rw [k3];decide))) k3) fun hb hnf=>⟨_,_,E 9,Eg 8 (cw (of_decide_eq_true hb) hnf)⟩
 rw [show(c.1==ofNat 3)=false by simpa using k3,cond_false]
 by_cases k4:c.1=4
 ·rw [show(c.1==ofNat 4)=true by rw [k4];rfl,cond_true]
  exact bP _ (fun f=>Zo h hr hR hE c (f (decide_eq_true (by rw [k4];decide))) k4) fun hb hnf=>⟨_,_,E 9,Eg 8 (cw (of_decide_eq_true hb) hnf)⟩
 rw [show(c.1==ofNat 4)=false by simpa using k4,cond_false]
 by_cases k5:c.1=5
 ·rw [show(c.1==ofNat 5)=true by rw [k5];rfl,cond_true]
  exact bP _ (fun f=>ZE h hr hR hE c (f (decide_eq_true (by rw [k5];decide))) k5) fun hb hnf=>⟨_,_,E 9,Eg 8 (cw (of_decide_eq_true hb) hnf)⟩
 rw [show(c.1==ofNat 5)=false by simpa using k5,cond_false]
 by_cases k6:c.1=6
 ·rw [show(c.1==ofNat 6)=true by rw [k6];rfl,cond_true]
  exact bP _ (fun f=>Zk h hr hR hE c (f (decide_eq_true (by rw [k6];decide))) k6) fun hb hnf=>⟨_,_,E 9,Eg 8 (cw (of_decide_eq_true hb) hnf)⟩
 rw [show(c.1==ofNat 6)=false by simpa using k6,cond_false]
 by_cases k7:c.1=7
 ·rw [show(c.1==ofNat 7)=true by rw [k7];rfl,cond_true]
  exact bP _ (fun f=>ZQ h hr hR hE c (f (decide_eq_true (by rw [k7];decide))) k7) fun hb hnf=>⟨_,_,E 9,Eg 8 (cw (of_decide_eq_true hb) hnf)⟩
 rw [show(c.1==ofNat 7)=false by simpa using k7,cond_false]
 by_cases k8:c.1=8
 ·rw [show(c.1==ofNat 8)=true by rw [k8];rfl,cond_true]
  exact bP _ (fun f=>Zw h hr hR hE c k8) fun hb hnf=>⟨_,_,E 9,Eg 8 (cw (of_decide_eq_true hb) hnf)⟩
 rw [show(c.1==ofNat 8)=false by simpa using k8,cond_false]
 by_cases k9:c.1=9
 ·rw [show(c.1==ofNat 9)=true by rw [k9];rfl,cond_true]
  exact bP _ (fun f=>ZA h hr hR hE c k9) fun hb hnf=>⟨_,_,E 9,Eg 8 (cw (of_decide_eq_true hb) hnf)⟩
 rw [show(c.1==ofNat 9)=false by simpa using k9,cond_false]
 by_cases k10:c.1=10
 ·rw [show(c.1==ofNat 10)=true by rw [k10];rfl,cond_true]
  exact bP _ (fun f=>Te h hr hR hE c k10) fun hb hnf=>⟨_,_,E 9,Eg 8 (cw (of_decide_eq_true hb) hnf)⟩
 rw [show(c.1==ofNat 10)=false by simpa using k10,cond_false]
 exact⟨_,_,E 2,Eg 1 (dF k2 k3 k7 k10)⟩
theorem aiq {ck nr nt nk ne ac:Int} {rs:List aj} (h:SOk (mk ck nr nt nk ne ac rs [])) (hr:∀r∈rs,bG r) (hR:isEmpty rs=false) (c:bi) (hcl:∀nd∈c.2.2.1.1,nd.1.length≤9223372036854775807):
  ∃t r,Av ((mk ck nr nt nk ne ac rs []),c,())=some (t,r,())∧bD ck nr nt nk ne ac rs [] c t r:=by
 obtain⟨v,hv,hc⟩:=fI (mk ck nr nt nk ne ac rs []) (by have:=h.fine.1;simp only [mk]at this⊢;omega) hr
 obtain rfl:v=0:=by
  rcases hc with⟨h1,_⟩|⟨_,hc⟩
  ·exact h1
  ·exact absurd h hc
 have E:=oI h hR
 have Eg:=fun n=>ao (c:=c) h n
 simp only [Av,hv,bind_some,iY,cond_false]
 by_cases k1:c.1=1
 ·rw [show(c.1==ofNat 1)=true by rw [k1];rfl,cond_true]
  exact bP _ (fun f=>ZN h hr hR c hcl (f (decide_eq_true (by rw [k1];decide))) k1) fun hb hnf=>⟨_,_,E 9,Eg 8 (cw (of_decide_eq_true hb) hnf)⟩
 rw [show(c.1==ofNat 1)=false by simpa using k1,cond_false]
 by_cases k2:c.1=2
 ·rw [show(c.1==ofNat 2)=true by rw [k2];rfl,cond_true]
  exact bP _ (fun f=>ZJ h hr hR c (f (decide_eq_true (by rw [k2];decide))) k2) fun hb hnf=>⟨_,_,E 9,Eg 8 (cw (of_decide_eq_true hb) hnf)⟩
 rw [show(c.1==ofNat 2)=false by simpa using k2,cond_false]
 by_cases k3:c.1=3
 ·rw [show(c.1==ofNat 3)=true by rw [k3];rfl,cond_true]
  exact bP _ (fun f=>Zt h hr hR c (f (decide_eq_true (by rw [k3];decide))) k3) fun hb hnf=>⟨_,_,E 9,Eg 8 (cw (of_decide_eq_true hb) hnf)⟩
 rw [show(c.1==ofNat 3)=false by simpa using k3,cond_false]
 by_cases k4:c.1=4
 ·rw [show(c.1==ofNat 4)=true by rw [k4];rfl,cond_true]
  exact bP _ (fun f=>Zp h hr hR c (f (decide_eq_true (by rw [k4];decide))) k4) fun hb hnf=>⟨_,_,E 9,Eg 8 (cw (of_decide_eq_true hb) hnf)⟩
 rw [show(c.1==ofNat 4)=false by simpa using k4,cond_false]
 by_cases k5:c.1=5
 ·rw [show(c.1==ofNat 5)=true by rw [k5];rfl,cond_true]
  exact bP _ (fun f=>ZF h hr hR c (f (decide_eq_true (by rw [k5];decide))) k5) fun hb hnf=>⟨_,_,E 9,Eg 8 (cw (of_decide_eq_true hb) hnf)⟩
 rw [show(c.1==ofNat 5)=false by simpa using k5,cond_false]
 by_cases k6:c.1=6
 ·rw [show(c.1==ofNat 6)=true by rw [k6];rfl,cond_true]
  exact bP _ (fun f=>Zl h hr hR c (f (decide_eq_true (by rw [k6];decide))) k6) fun hb hnf=>⟨_,_,E 9,Eg 8 (cw (of_decide_eq_true hb) hnf)⟩
 rw [show(c.1==ofNat 6)=false by simpa using k6,cond_false]
 by_cases k7:c.1=7
 ·rw [show(c.1==ofNat 7)=true by rw [k7];rfl,cond_true]
  exact bP _ (fun f=>ZR h hr hR c (f (decide_eq_true (by rw [k7];decide))) k7) fun hb hnf=>⟨_,_,E 9,Eg 8 (cw (of_decide_eq_true hb) hnf)⟩
 rw [show(c.1==ofNat 7)=false by simpa using k7,cond_false]
 by_cases k8:c.1=8
 ·rw [show(c.1==ofNat 8)=true by rw [k8];rfl,cond_true]
  exact bP _ (fun f=>Zx h hr hR c k8) fun hb hnf=>⟨_,_,E 9,Eg 8 (cw (of_decide_eq_true hb) hnf)⟩
 rw [show(c.1==ofNat 8)=false by simpa using k8,cond_false]
 by_cases k9:c.1=9
 ·rw [show(c.1==ofNat 9)=true by rw [k9];rfl,cond_true]
  exact bP _ (fun f=>ZB h hr hR c k9) fun hb hnf=>⟨_,_,E 9,Eg 8 (cw (of_decide_eq_true hb) hnf)⟩
 rw [show(c.1==ofNat 9)=false by simpa using k9,cond_false]
 by_cases k10:c.1=10
 ·rw [show(c.1==ofNat 10)=true by rw [k10];rfl,cond_true]
  exact bP _ (fun f=>Tf h hr hR c k10) fun hb hnf=>⟨_,_,E 9,Eg 8 (cw (of_decide_eq_true hb) hnf)⟩
 rw [show(c.1==ofNat 10)=false by simpa using k10,cond_false]
 exact⟨_,_,E 2,Eg 1 (dF k2 k3 k7 k10)⟩
theorem air {ck nr nt nk ne ac:Int} {es:List aC} (h:SOk (mk ck nr nt nk ne ac [] es)) (hr:∀r∈([]:List aj),bG r) (hE:isEmpty es=false) (c:bi) (hcl:∀nd∈c.2.2.1.1,nd.1.length≤9223372036854775807):
  ∃t r,Ay ((mk ck nr nt nk ne ac [] es),c,())=some (t,r,())∧bD ck nr nt nk ne ac [] es c t r:=by
 obtain⟨v,hv,hc⟩:=fI (mk ck nr nt nk ne ac [] es) (by have:=h.fine.1;simp only [mk]at this⊢;omega) hr
 obtain rfl:v=0:=by
  rcases hc with⟨h1,_⟩|⟨_,hc⟩
  ·exact h1
  ·exact absurd h hc
 have E:=oJ h hE
 have Eg:=fun n=>ao (c:=c) h n
 simp only [Ay,hv,bind_some,iY,cond_false]
 by_cases k1:c.1=1
 ·rw [show(c.1==ofNat 1)=true by rw [k1];rfl,cond_true]
  exact bP _ (fun f=>ZO h hr hE c hcl (f (decide_eq_true (by rw [k1];decide))) k1) fun hb hnf=>⟨_,_,E 9,Eg 8 (cw (of_decide_eq_true hb) hnf)⟩
 rw [show(c.1==ofNat 1)=false by simpa using k1,cond_false]
 by_cases k2:c.1=2
 ·rw [show(c.1==ofNat 2)=true by rw [k2];rfl,cond_true]
  exact bP _ (fun f=>ZK h hr hE c (f (decide_eq_true (by rw [k2];decide))) k2) fun hb hnf=>⟨_,_,E 9,Eg 8 (cw (of_decide_eq_true hb) hnf)⟩
 rw [show(c.1==ofNat 2)=false by simpa using k2,cond_false]
 by_cases k3:c.1=3
 ·rw [show(c.1==ofNat 3)=true by rw [k3];rfl,cond_true]
  exact bP _ (fun f=>Zu h hr hE c (f (decide_eq_true (by rw [k3];decide))) k3) fun hb hnf=>⟨_,_,E 9,Eg 8 (cw (of_decide_eq_true hb) hnf)⟩
 rw [show(c.1==ofNat 3)=false by simpa using k3,cond_false]
 by_cases k4:c.1=4
 ·rw [show(c.1==ofNat 4)=true by rw [k4];rfl,cond_true]
  exact bP _ (fun f=>Zq h hr hE c (f (decide_eq_true (by rw [k4];decide))) k4) fun hb hnf=>⟨_,_,E 9,Eg 8 (cw (of_decide_eq_true hb) hnf)⟩
 rw [show(c.1==ofNat 4)=false by simpa using k4,cond_false]
 by_cases k5:c.1=5
 ·rw [show(c.1==ofNat 5)=true by rw [k5];rfl,cond_true]
  exact bP _ (fun f=>ZG h hr hE c (f (decide_eq_true (by rw [k5];decide))) k5) fun hb hnf=>⟨_,_,E 9,Eg 8 (cw (of_decide_eq_true hb) hnf)⟩
 rw [show(c.1==ofNat 5)=false by simpa using k5,cond_false]
 by_cases k6:c.1=6
 ·rw [show(c.1==ofNat 6)=true by rw [k6];rfl,cond_true]
  exact bP _ (fun f=>Zm h hr hE c (f (decide_eq_true (by rw [k6];decide))) k6) fun hb hnf=>⟨_,_,E 9,Eg 8 (cw (of_decide_eq_true hb) hnf)⟩
 rw [show(c.1==ofNat 6)=false by simpa using k6,cond_false]
 by_cases k7:c.1=7
 ·rw [show(c.1==ofNat 7)=true by rw [k7];rfl,cond_true]
  exact bP _ (fun f=>ZS h hr hE c (f (decide_eq_true (by rw [k7];decide))) k7) fun hb hnf=>⟨_,_,E 9,Eg 8 (cw (of_decide_eq_true hb) hnf)⟩
 rw [show(c.1==ofNat 7)=false by simpa using k7,cond_false]
 by_cases k8:c.1=8
 ·rw [show(c.1==ofNat 8)=true by rw [k8];rfl,cond_true]
  exact bP _ (fun f=>Zy h hr hE c k8) fun hb hnf=>⟨_,_,E 9,Eg 8 (cw (of_decide_eq_true hb) hnf)⟩
 rw [show(c.1==ofNat 8)=false by simpa using k8,cond_false]
 by_cases k9:c.1=9
 ·rw [show(c.1==ofNat 9)=true by rw [k9];rfl,cond_true]
  exact bP _ (fun f=>ZC h hr hE c k9) fun hb hnf=>⟨_,_,E 9,Eg 8 (cw (of_decide_eq_true hb) hnf)⟩
 rw [show(c.1==ofNat 9)=false by simpa using k9,cond_false]
 by_cases k10:c.1=10
 ·rw [show(c.1==ofNat 10)=true by rw [k10];rfl,cond_true]
  exact bP _ (fun f=>Tg h hr hE c k10) fun hb hnf=>⟨_,_,E 9,Eg 8 (cw (of_decide_eq_true hb) hnf)⟩
 rw [show(c.1==ofNat 10)=false by simpa using k10,cond_false]
 exact⟨_,_,E 2,Eg 1 (dF k2 k3 k7 k10)⟩
theorem ais {ck nr nt nk ne ac:Int} (h:SOk (mk ck nr nt nk ne ac [] [])) (hr:∀r∈([]:List aj),bG r) (c:bi) (hcl:∀nd∈c.2.2.1.1,nd.1.length≤9223372036854775807):
  ∃t r,vf ((mk ck nr nt nk ne ac [] []),c,())=some (t,r,())∧bD ck nr nt nk ne ac [] [] c t r:=by
 obtain⟨v,hv,hc⟩:=fI (mk ck nr nt nk ne ac [] []) (by have:=h.fine.1;simp only [mk]at this⊢;omega) hr
 obtain rfl:v=0:=by
  rcases hc with⟨h1,_⟩|⟨_,hc⟩
  ·exact h1
  ·exact absurd h hc
 have E:=oK h
 have Eg:=fun n=>ao (c:=c) h n
 simp only [vf,hv,bind_some,iY,cond_false]
 by_cases k1:c.1=1
 ·rw [show(c.1==ofNat 1)=true by rw [k1];rfl,cond_true]
  exact bP _ (fun f=>ZP h hr c hcl (f (decide_eq_true (by rw [k1];decide))) k1) fun hb hnf=>⟨_,_,E 9,Eg 8 (cw (of_decide_eq_true hb) hnf)⟩
 rw [show(c.1==ofNat 1)=false by simpa using k1,cond_false]
 by_cases k2:c.1=2
 ·rw [show(c.1==ofNat 2)=true by rw [k2];rfl,cond_true]
  exact bP _ (fun f=>ZL h hr c (f (decide_eq_true (by rw [k2];decide))) k2) fun hb hnf=>⟨_,_,E 9,Eg 8 (cw (of_decide_eq_true hb) hnf)⟩
 rw [show(c.1==ofNat 2)=false by simpa using k2,cond_false]
 by_cases k3:c.1=3
 ·rw [show(c.1==ofNat 3)=true by rw [k3];rfl,cond_true]
  exact bP _ (fun f=>Zv h hr c (f (decide_eq_true (by rw [k3];decide))) k3) fun hb hnf=>⟨_,_,E 9,Eg 8 (cw (of_decide_eq_true hb) hnf)⟩
 rw [show(c.1==ofNat 3)=false by simpa using k3,cond_false]
 by_cases k4:c.1=4
 ·rw [show(c.1==ofNat 4)=true by rw [k4];rfl,cond_true]
  exact bP _ (fun f=>Zr h hr c (f (decide_eq_true (by rw [k4];decide))) k4) fun hb hnf=>⟨_,_,E 9,Eg 8 (cw (of_decide_eq_true hb) hnf)⟩
 rw [show(c.1==ofNat 4)=false by simpa using k4,cond_false]
 by_cases k5:c.1=5
 ·rw [show(c.1==ofNat 5)=true by rw [k5];rfl,cond_true]
  exact bP _ (fun f=>ZH h hr c (f (decide_eq_true (by rw [k5];decide))) k5) fun hb hnf=>⟨_,_,E 9,Eg 8 (cw (of_decide_eq_true hb) hnf)⟩
 rw [show(c.1==ofNat 5)=false by simpa using k5,cond_false]
 by_cases k6:c.1=6
 ·rw [show(c.1==ofNat 6)=true by rw [k6];rfl,cond_true]
  exact bP _ (fun f=>Zn h hr c (f (decide_eq_true (by rw [k6];decide))) k6) fun hb hnf=>⟨_,_,E 9,Eg 8 (cw (of_decide_eq_true hb) hnf)⟩
 rw [show(c.1==ofNat 6)=false by simpa using k6,cond_false]
 by_cases k7:c.1=7
 ·rw [show(c.1==ofNat 7)=true by rw [k7];rfl,cond_true]
  exact bP _ (fun f=>ZT h hr c (f (decide_eq_true (by rw [k7];decide))) k7) fun hb hnf=>⟨_,_,E 9,Eg 8 (cw (of_decide_eq_true hb) hnf)⟩
 rw [show(c.1==ofNat 7)=false by simpa using k7,cond_false]
 by_cases k8:c.1=8
 ·rw [show(c.1==ofNat 8)=true by rw [k8];rfl,cond_true]
  exact bP _ (fun f=>Zz h hr c k8) fun hb hnf=>⟨_,_,E 9,Eg 8 (cw (of_decide_eq_true hb) hnf)⟩
 rw [show(c.1==ofNat 8)=false by simpa using k8,cond_false]
 by_cases k9:c.1=9
 ·rw [show(c.1==ofNat 9)=true by rw [k9];rfl,cond_true]
  exact bP _ (fun f=>ZD h hr c k9) fun hb hnf=>⟨_,_,E 9,Eg 8 (cw (of_decide_eq_true hb) hnf)⟩
 rw [show(c.1==ofNat 9)=false by simpa using k9,cond_false]
 by_cases k10:c.1=10
 ·rw [show(c.1==ofNat 10)=true by rw [k10];rfl,cond_true]
  exact bP _ (fun f=>Th h hr c k10) fun hb hnf=>⟨_,_,E 9,Eg 8 (cw (of_decide_eq_true hb) hnf)⟩
 rw [show(c.1==ofNat 10)=false by simpa using k10,cond_false]
 exact⟨_,_,E 2,Eg 1 (dF k2 k3 k7 k10)⟩
abbrev zS:bC:=(ofNat 0,ofNat 0,ofNat 0,ofNat 0,ofNat 0,ofNat 0,[],[],())
theorem Rc (s:bC) (c:bi) (hm:s.2.2.2.2.2.2.1.length≤9223372036854775807) (hr:∀r∈s.2.2.2.2.2.2.1,bG r) (hcl:∀nd∈c.2.2.1.1,nd.1.length≤9223372036854775807):
  ∃v,tj (s,())=some (v,())∧∃t r,eE (s,c,())=some (t,r,())∧((v=0∧SOk s∧bD s.1 s.2.1 s.2.2.1 s.2.2.2.1 s.2.2.2.2.1 s.2.2.2.2.2.1 s.2.2.2.2.2.2.1 s.2.2.2.2.2.2.2.1 c t r)∨((∃n:Nat,v=ofNat (n+1))∧¬SOk s∧t=zS∧r=oG v)):=by
 obtain⟨v,hv,hc⟩:=fI s hm hr
 refine⟨v,hv,?_⟩
 rcases hc with⟨rfl,h⟩|⟨⟨n,rfl⟩,h⟩
 ·have:∃t r,eE (s,c,())=some (t,r,())∧bD s.1 s.2.1 s.2.2.1 s.2.2.2.1 s.2.2.2.2.1 s.2.2.2.2.2.1 s.2.2.2.2.2.2.1 s.2.2.2.2.2.2.2.1 c t r:=by
   obtain⟨ck,nr,nt,nk,ne,ac,rs,es,_⟩:=s
   cases rs with
   |nil=>
    cases es with
    |nil=>exact ais h hr c hcl
    |cons e es=>exact air h hr rfl c hcl
   |cons r rs=>
    cases es with
    |nil=>exact aiq h hr rfl c hcl
    |cons e es=>exact aip h hr rfl rfl c hcl
  obtain⟨t,r,h1,h2⟩:=this
  exact⟨t,r,h1,.inl ⟨rfl,h,h2⟩⟩
 ·have c0:(ofNat (n+1) !=ofNat 0)=true:=by simp;omega
  refine⟨zS,oG (ofNat (n+1)),?_,.inr ⟨⟨n,rfl⟩,h,rfl,rfl⟩⟩
  have ha:pG (s,c,())=some (zS,oG (ofNat (n+1)),()):=by simp only [pG,hv,bind_some,c0,cond_true]
  have hb:Av (s,c,())=some (zS,oG (ofNat (n+1)),()):=by simp only [Av,hv,bind_some,c0,cond_true]
  have hcc:Ay (s,c,())=some (zS,oG (ofNat (n+1)),()):=by simp only [Ay,hv,bind_some,c0,cond_true]
  have hd:vf (s,c,())=some (zS,oG (ofNat (n+1)),()):=by simp only [vf,hv,bind_some,c0,cond_true]
  simp only [eE,ha,hb,hcc,hd]
  cases isEmpty s.2.2.2.2.2.2.1<;>cases isEmpty s.2.2.2.2.2.2.2.1<;>rfl
abbrev zk:bC:=(ofNat 0,ofNat 0,ofNat 1,ofNat 0,ofNat 1,ofNat 0,[],[],())
abbrev n1:aO:=([],ofNat 2,ofNat 3,())
abbrev ky:ByteArray:={data:= #[97]}
abbrev u1:an:=(ofNat 1,ofNat 0,ofNat 0,ofNat 0,ofNat 0,())
abbrev u2:an:=(ofNat 2,ofNat 1,ofNat 10,ofNat 1,ofNat 0,())
abbrev rn (t:an):aj:=(ofNat 0,ky,([n1],()),ofNat 1,[t],())
abbrev ev1:aC:=(ofNat 1,ofNat 1,ofNat 0,ofNat 0,())
abbrev gU (nt:Int) (t:an):bC:=mk (ofNat 0) (ofNat 1) nt (ofNat 1) (ofNat 2) (ofNat 0) [rn t] [ev1]
abbrev ZU:bi:=(ofNat 1,{data:= #[97]},([n1],()),ofNat 0,ofNat 0,ofNat 0,ofNat 0,ofNat 0,())
abbrev ZV:bi:=(ofNat 2,{data:= #[]},([],()),ofNat 0,ofNat 0,ofNat 0,ofNat 10,ofNat 0,())
theorem ZW:bU (ofNat 1):=by decide
theorem mI {i:Nat} (h:i<1):i=0:=by omega
theorem nd1:dX n1:=by constructor<;>constructor<;>decide
theorem NQ:qf [n1]:=by
 refine⟨⟨by decide,by decide⟩,fun i h=> ?_,fun i h hr=> ?_⟩
 ·obtain rfl:=mI h
  exact⟨by constructor<;>decide,by constructor<;>decide,fun j h=>absurd h (not_lt_zero _)⟩
 ·have:∀{a b:Nat},¬tG [n1] a b:=fun {a b} ⟨h1,h2⟩=>by
   obtain rfl:=mI h1
   exact(not_mem_nil h2).elim
  rcases hr with h|⟨h,_⟩
  ·exact this h
  ·exact this h
theorem Rd:cg n1 u1:=by
 refine⟨by decide,by decide,by decide,by decide,fun _=>rfl,fun h=>absurd rfl h,⟨fun h=>absurd rfl h,fun h=>absurd h (by decide)⟩,.inr (.inl ⟨rfl,by decide⟩)⟩
theorem zl:cg n1 u2:=by
 refine⟨by decide,by decide,by decide,by decide,fun h=>absurd rfl h,fun _=>.inl rfl,⟨fun _=>rfl,fun _=>by decide⟩,.inr (.inr (.inl ⟨rfl,by decide⟩))⟩
theorem NR {t:an} (ht:cg n1 t) (h:t.1=1∨t.1=2):ROk (rn t):=by
 refine⟨dM,show 1≤ky.size∧ky.size≤24 by decide,NQ,rfl,fun i h=> ?_,.inl ⟨rfl,fun i h=> ?_,fun h4=> ?_,fun⟨x,hx,h4⟩=> ?_⟩⟩
 ·obtain rfl:=mI h
  exact ht
 ·obtain rfl:=mI h
  exact⟨fun _=>by show t.1≠0;omega,fun _ v hv=>(not_mem_nil hv).elim⟩
 ·have:=h4 t (List.mem_singleton.2 rfl);omega
 ·rw [List.mem_singleton.1 hx]at h4;omega
theorem NS {t:an} (h:0≤t.1):∀r∈ [rn t],bG r:=fun r hr=>by
 rw [List.mem_singleton.1 hr]
 exact⟨fun nd hnd=>by rw [List.mem_singleton.1 hnd];decide,show 1≤9223372036854775807 by decide,fun x hx=>by rw [List.mem_singleton.1 hx];exact h⟩
theorem adu {t:an} (ht:cg n1 t) (h:t.1=1∨t.1=2):eF [rn t]:=
 ⟨show 1≤32 by decide,fun a b h1 h2=>by have:=mI h2;omega,fun a b h1 h2=>by have:=mI h2;omega,fun a h1=>by
  obtain rfl:=mI h1
  exact NR ht h,List.pairwise_singleton _ _⟩
theorem NT {nt:Int} {t:an} (hn:1≤nt∧nt≤1099511627776) (ht:cg n1 t) (h:t.1=1∨t.1=2) (hl:cX nt 1 t):SOk (gU nt t):=
 ⟨adu ht h,show 1≤40 by decide,dM,ZW,ZW,hn,show 1≤ofNat 2∧ofNat 2≤1099511627776 by decide,show 0≤ofNat 0∧ofNat 0<ofNat 2 by decide,rfl,fun j hj=>by
  obtain rfl:=mI hj
  exact⟨by show(ofNat 0)<ofNat 1;decide,fun x hx=>by rw [List.mem_singleton.1 hx];exact hl⟩,fun j hj=>by
  obtain rfl:=mI hj
  exact⟨rfl,show 1≤ofNat 1∧ofNat 1≤6 by decide,show 0≤ofNat 0∧ofNat 0<ofNat 1 by decide,show 0≤ofNat 0∧ofNat 0<12 by decide,.inl rfl⟩⟩
theorem sok0:SOk zk:=
 ⟨⟨by decide,fun a b h1 h2=>absurd h2 (not_lt_zero _),fun a b h1 h2=>absurd h2 (not_lt_zero _),fun a h1=>absurd h1 (not_lt_zero _),.nil⟩,by decide,by decide,by decide,by decide,by decide,by decide,by decide,rfl,fun j hj=>absurd hj (not_lt_zero _),fun j hj=>absurd hj (not_lt_zero _)⟩
theorem JM {s:bC} (h:SOk s) (hm:s.2.2.2.2.2.2.1.length≤9223372036854775807) (hr:∀r∈s.2.2.2.2.2.2.1,bG r):tj (s,())=some (0,()):=by
 obtain⟨v,hv,hc⟩:=fI s hm hr
 rcases hc with⟨rfl,_⟩|⟨_,hc⟩
 ·exact hv
 ·exact absurd h hc
theorem do1:eE (zk,ZU,())=some (gU (ofNat 1) u1,(ofNat 0,ofNat 0,ofNat 0,ofNat 0,aK,[],()),()):=by
 have hc:=JM sok0 (show 0≤9223372036854775807 by decide) (fun r h=>(not_mem_nil h).elim)
 have EL:cS (zk,())=some (false,()):=rfl
 have h25:cE (zk,())=some (zk,()):=aZ sok0
 have hln:∀nd∈ [n1],nd.1.length≤9223372036854775807:=fun nd h=>by rw [List.mem_singleton.1 h];decide
 have pH:jy (([n1],()),())=some (0,()):=by
  obtain⟨v,hv,h⟩:=f114 [n1] hln
  rcases h with⟨rfl,_⟩|⟨_,h⟩
  ·exact hv
  ·exact absurd NQ h
 have AL:∃i,oe ([],ky,())=some (i,false,0,()):=by
  obtain⟨i,b,e,hv,h⟩:=oz [] (show 0≤9223372036854775807 by decide) (fun r h=>(not_mem_nil h).elim) ky
  rcases h with⟨_,_,h⟩|⟨rfl,_,⟨_,n,h,_⟩|⟨rfl,_⟩⟩
  ·exact absurd sok0.fine h
  ·exact absurd h (not_lt_zero _)
  ·exact⟨i,hv⟩
 obtain⟨i,AL⟩:=AL
 have Jn:qY (ofNat 0,ky,([n1],()),ofNat 0,())=some (rn u1,ofNat 1,0,()):=by
  obtain⟨r',rk',e,hv,h⟩:=Fv (ofNat 0) ky [n1] hln (ofNat 0)
  rcases h with⟨rfl,_,_,_,_,rfl,rfl⟩|⟨_,h⟩
  ·have ho:opn [n1] (ofNat 0,replicate [n1].length t0) [n1].length=(ofNat 1,[u1]):=by
    show opn [n1] (ofNat 0,[t0]) (0+1)=_
    have hm:gj [t0] n1:=fun v h=>(not_mem_nil h).elim
    have ht:cg n1 t0:=⟨by decide,by decide,by decide,by decide,fun h=>absurd rfl h,fun h=>absurd rfl h,⟨fun h=>absurd rfl h,fun h=>absurd h (by decide)⟩,.inl ⟨rfl,rfl⟩⟩
    rw [opn,if_pos ⟨rfl,hm⟩,if_pos ⟨dM,ht⟩]
    rfl
   rw [hv,ho]
  ·exact absurd ⟨dM,by decide,NQ,by decide,by decide⟩ h
 have hF:eE (zk,ZU,())=vf (zk,ZU,()):=rfl
 rw [hF]
 simp only [vf,hc,bind_some,iY,cond_false,beq_self_eq_true,cond_true,EL]
 have h115':oe ([],{data:= #[97]},())=some (i,false,0,()):=AL
 simp only [ve,h25,bind_some,isEmpty_nil,cond_true,cond_false,decide_eq_false (show¬((ByteArray.size {data:= #[97]}:Nat):Int)<ofNat 1 by decide),decide_eq_false (show¬((ByteArray.size {data:= #[97]}:Nat):Int)>ofNat 24 by decide),pH,cM,h115',Jn,bm,ce]
 rfl
theorem do2:eE (gU (ofNat 1) u1,ZV,())=some (gU (ofNat 2) u2,(ofNat 0,ofNat 0,ofNat 0,ofNat 1,aK,[],()),()):=by
 have hr:=NS (t:=u1) (by decide)
 have hs:SOk (gU (ofNat 1) u1):=NT (by decide) Rd (.inl rfl) ⟨by decide,fun _=>by decide⟩
 have hc:=JM hs (show 1≤9223372036854775807 by decide) hr
 have EL:cS (gU (ofNat 1) u1,())=some (false,()):=rfl
 have h25:=aZ hs
 have Nd:me (ofNat 10,())=some (true,()):=rfl
 have EZ:om ([rn u1],())=some ((ofNat 0,ofNat 0,ofNat 0,()),true,0,()):=by
  obtain⟨p,b,e,hv,h⟩:=mY [rn u1] (show 1≤9223372036854775807 by decide) hr
  rcases h with⟨_,_,h⟩|⟨rfl,_,rfl,rfl,_⟩
  ·exact absurd hs.fine h
  ·exact hv
 have AN:cI ([rn u1],ofNat 0,())=some (ofNat 0,true,0,()):=by
  obtain⟨i,b,e,hv,h⟩:=bX [rn u1] (show 1≤9223372036854775807 by decide) hr (ofNat 0)
  rcases h with⟨_,_,h⟩|⟨rfl,_,⟨rfl,n,rfl,h,_⟩|⟨_,h⟩⟩
  ·exact absurd hs.fine h
  ·obtain rfl:=mI h
   exact hv
  ·exact absurd rfl (h 0 (by decide))
 have JA:xj (rn u1,ofNat 0,ofNat 1,ofNat 10,())=some (rn u2,0,()):=by
  obtain⟨r',e',hv,h⟩:=lu (rn u1) (hr _ (List.mem_singleton.2 rfl)) (ofNat 0) (fun nd t=>uG (nd,t,ofNat 1,ofNat 10,())) (fun nd t h1 h2 h3=>xu (f167 nd t (ofNat 1) (ofNat 10) h1 h2) fun _=>natCast_nonneg 2)
  rw [←Ft]at hv
  have h167:uG (n1,u1,ofNat 1,ofNat 10,())=some (u2,0,()):=by
   rcases f167 n1 u1 (ofNat 1) (ofNat 10) nd1 (by decide)with⟨_,h⟩|⟨h,_⟩
   ·exact h
   ·exact absurd ⟨by decide,by decide,by decide,Rd,rfl⟩ h
  rcases h with⟨rfl,_,_,k,t',hk,hkl,hD,ht⟩|⟨_,_,h⟩
  ·obtain rfl:=mI hkl
   have h2:some (u2,(0:Int),())=some (t',0,()):=h167.symm.trans hD
   obtain rfl:u2=t':=by injection h2 with h2;exact(Prod.mk.inj h2).1
   obtain⟨i1,i2,i3,_,_,i4⟩:=ht
   rcases i4 with⟨h5,_⟩|⟨_,i5,⟨h4,_⟩|⟨_,i6⟩⟩
   ·exact absurd h5 (by decide)
   ·exact absurd (h4 u2 (List.mem_singleton.2 rfl)) (by decide)
   ·obtain⟨q1,q2,q3,q4,q5,_⟩:=r'
    simp only at i1 i2 i3 i5 i6
    subst i1 i2 i3 i5 i6
    exact hv
  ·exact absurd ⟨NR Rd (.inl rfl),rfl,0,u2,rfl,by decide,h167⟩ h
 have hF:eE (gU (ofNat 1) u1,ZV,())=pG (gU (ofNat 1) u1,ZV,()):=rfl
 rw [hF]
 simp only [pG,hc,bind_some,iY,cond_false,show(ofNat 2==ofNat 1)=false from rfl,beq_self_eq_true,cond_true,EL]
 simp only [gU,mk]at h25
 simp only [vc,gU,mk,h25,bind_some,isEmpty_cons,cond_true,cond_false,Nd,Bool.not_true,length_singleton,zero_add,Nat.le_refl,decide_true,bm,EZ,AN]
 show Option.bind (xj (rn u1,ofNat 0,ofNat 1,ofNat 10,())) _=_
 rw [JA,bind_some]
 rfl
def bI (f:Nat→Int):Nat→Int
 |0=>0
 |n+1=>bI f n+f n
theorem pg {f g:Nat→Int}:∀n:Nat,(∀i,i<n→f i=g i)→bI f n=bI g n
 |0,_=>rfl
 |n+1,h=>by rw [bI,bI,pg n fun i hi=>h i (by omega),h n (lt_succ_self n)]
theorem FD {f g:Nat→Int}:∀n:Nat,(∀i,i<n→f i≤g i)→bI f n≤bI g n
 |0,_=>le_refl _
 |n+1,h=>by
  have:=FD n fun i hi=>h i (by omega)
  have:=h n (lt_succ_self n)
  simp only [bI];omega
theorem FE {f:Nat→Int} {b:Int}:∀n:Nat,(∀i,i<n→0≤f i∧f i≤b)→0≤bI f n∧bI f n≤b*n
 |0,_=>⟨le_refl _,by simp [bI]⟩
 |n+1,h=>by
  have:=FE n fun i hi=>h i (by omega)
  have:=h n (lt_succ_self n)
  have e:b*((n+1:Nat):Int)=b*n+b:=by rw [Int.natCast_succ,Int.mul_add,Int.mul_one]
  rw [e]
  simp only [bI];omega
theorem AY {f g:Nat→Int} {k:Nat}:∀n:Nat,k<n→(∀i,i<n→i≠k→g i≤f i)→bI g n≤bI f n-f k+g k
 |0,h,_=>absurd h (not_lt_zero _)
 |n+1,hk,h=>by
  simp only [bI]
  by_cases c:k=n
  ·subst c
   have:=FD (f:=g) (g:=f) k fun i hi=>h i (by omega) (by omega)
   omega
  ·have:=AY (k:=k) n (by omega) fun i hi hn=>h i (by omega) hn
   have:=h n (lt_succ_self n) (by omega)
   omega
theorem Hj {f g:Nat→Int} {k:Nat}:∀n:Nat,k<n→(∀i,i<n→i≠k→g i=f i)→bI g n=bI f n-f k+g k
 |0,h,_=>absurd h (not_lt_zero _)
 |n+1,hk,h=>by
  simp only [bI]
  by_cases c:k=n
  ·subst c
   have:=pg (f:=g) (g:=f) k fun i hi=>h i (by omega) (by omega)
   omega
  ·have:=Hj (k:=k) n (by omega) fun i hi hn=>h i (by omega) hn
   have:=h n (lt_succ_self n) (by omega)
   omega
theorem qm {f:Nat→Int} {k:Nat}:∀n:Nat,k<n→(∀i,i<n→0≤f i)→f k≤bI f n
 |0,h,_=>absurd h (not_lt_zero _)
 |n+1,hk,h=>by
  simp only [bI]
  have h0:=(FD (f:=fun _=>0) (g:=f) n fun i hi=>h i (by omega))
  have hz:∀m:Nat,bI (fun _=>0) m=0:=fun m=>by
   induction m with
   |zero=>rfl
   |succ m ih=>rw [bI,ih];rfl
  rw [hz]at h0
  by_cases c:k=n
  ·subst c;omega
  ·have:=qm (k:=k) n (by omega) fun i hi=>h i (by omega)
   have:=h n (lt_succ_self n)
   omega
def wT (nd:aO) (t:an):Int:=if t.1=2 then 3*(nd.2.1-t.2.1)+2 else if t.1=3 then 3*(nd.2.1-t.2.1)+1 else if t.1=0∨t.1=1 then 3*(nd.2.1-t.2.1)else 0
theorem Re {nd:aO} {t:an} (hn:dX nd) (ht:cg nd t):0≤wT nd t∧wT nd t≤17:=by
 have:=ht.1
 have:=hn.1
 unfold wT
 split
 ·omega
 split
 ·omega
 split<;>omega
theorem f95 {nd:aO} {t:an} (hn:dX nd) (ht:cg nd t):Pj (t,IntKind.i64.wrap (nd.2.1-t.2.1),())=some (wT nd t,()):=by
 have h1:=ht.1
 have h2:=hn.1
 have h3:=zd ht
 have e1:IntKind.i64.wrap (nd.2.1-t.2.1)=nd.2.1-t.2.1:=by rw [IntKind.wrap_i64];omega
 have e2:IntKind.i64.wrap (ofNat 3*(nd.2.1-t.2.1))=3*(nd.2.1-t.2.1):=by rw [IntKind.wrap_i64];simp only [aF];omega
 have e3:IntKind.i64.wrap (3*(nd.2.1-t.2.1)+ofNat 2)=3*(nd.2.1-t.2.1)+2:=by rw [IntKind.wrap_i64];simp only [aF];omega
 have e4:IntKind.i64.wrap (3*(nd.2.1-t.2.1)+ofNat 1)=3*(nd.2.1-t.2.1)+1:=by rw [IntKind.wrap_i64];simp only [aF];omega
 simp only [Pj,e1,e2,e3,e4]
 have hc:t.1=0∨t.1=1∨t.1=2∨t.1=3∨t.1=4∨t.1=5∨t.1=6:=by omega
 unfold wT
 rcases hc with h|h|h|h|h|h|h<;>rw [h]<;>rfl
noncomputable abbrev wF (r:aj) (j:Nat):Int:=wT (bM r j) (bh r j)
noncomputable def wR (r:aj):Int:=if r.2.2.2.1=1 then bI (wF r) r.2.2.2.2.1.length else 0
noncomputable def W (rs:List aj):Int:=bI (fun a=>wR (rs.getD a (aa ab))) rs.length
theorem zm {r:aj} (h:ROk r) {j:Nat} (hj:j<r.2.2.2.2.1.length):0≤wF r j∧wF r j≤17:=Re (iM h hj) (h.tks j hj)
theorem Hk {r:aj} (h:ROk r) (n:Nat) (hn:n≤r.2.2.2.2.1.length):0≤bI (wF r) n∧bI (wF r) n≤204:=by
 have h1:=FE (f:=wF r) (b:=17) n fun i hi=>zm h (by omega)
 have h2:=h.len
 have h3:=h.dag.1.2
 omega
theorem JN {r:aj} (h:ROk r):0≤wR r∧wR r≤204:=by
 unfold wR
 split
 ·exact Hk h _ (Nat.le_refl _)
 ·exact⟨by decide,by decide⟩
theorem mG {rs:List aj} (hf:eF rs) (n:Nat) (hn:n≤rs.length):0≤bI (fun a=>wR (rs.getD a (aa ab))) n∧bI (fun a=>wR (rs.getD a (aa ab))) n≤6528:=by
 have h1:=FE (f:=fun a=>wR (rs.getD a (aa ab))) (b:=204) n fun i hi=>JN (hf.2.chk i (by omega))
 have:=hf.1
 omega
theorem l57 {r:aj} (h:ROk r) (acc:Int) (rs:List aj) (l i:Int) (hacc:0≤acc∧acc≤10000):px (acc,rs,l,i,r.2.2.2.2.1,(r.2.2.2.2.1.length:Int),ofNat 0,r.1,r.2.1,r.2.2.1.1,r.2.2.2.1,r.2.2.2.2.1,())=some (acc+bI (wF r) r.2.2.2.2.1.length,rs,l,i,r.1,r.2.1,r.2.2.1.1,r.2.2.2.1,r.2.2.2.2.1,()):=by
 obtain⟨y,hy,rfl⟩:=bc (st:=gC) r.2.2.2.2.1.length (fun j (a:Int)=>(a,rs,l,i,r.2.2.2.2.1,(r.2.2.2.2.1.length:Int),(j:Int),r.1,r.2.1,r.2.2.1.1,r.2.2.2.1,r.2.2.2.2.1,())) (fun j a=>a=acc+bI (wF r) j)
  (fun y=>y=(acc+bI (wF r) r.2.2.2.2.1.length,rs,l,i,r.1,r.2.1,r.2.2.1.1,r.2.2.2.1,r.2.2.2.2.1,())) (fun j a hj ha=>by
   have hjn:j<r.2.2.1.1.length:=by have:=h.len;omega
   have h12:r.2.2.2.2.1.length≤12:=by have:=h.len;have:=h.dag.1.2;omega
   have h1:=f95 (iM h hj) (h.tks j hj)
   have b1:=Hk h j (by omega)
   have b2:=zm h hj
   have e:IntKind.i64.wrap (a+wT (bM r j) (bh r j))=acc+bI (wF r) (j+1):=by
    rw [IntKind.wrap_i64,ha]
    simp only [bI,wF]at*
    omega
   simp only [bh,bM]at h1 e
   simp only [gC,mq,bA hj,aQ hj,aJ hj,aQ hjn,aJ hjn,cond_true,toNat_natCast,h1,bind_some,e]
   rw [aW (by omega)]
   exact .inl ⟨_,rfl,rfl⟩) (fun a ha=>⟨(acc+bI (wF r) r.2.2.2.2.1.length,rs,l,i,r.1,r.2.1,r.2.2.1.1,r.2.2.2.1,r.2.2.2.2.1,()),by subst ha;simp only [gC,mq,bu,cond_false],rfl⟩) acc (by simp [bI])
 exact hy
theorem f57 (s:bC) (hf:eF s.2.2.2.2.2.2.1):Pl (s,())=some (W s.2.2.2.2.2.2.1,()):=by
 generalize hrs:s.2.2.2.2.2.2.1=rs at hf
 obtain⟨y,hy,rfl⟩:=bc (st:=gD) rs.length (fun j (a:Int)=>(a,rs,(rs.length:Int),(j:Int),())) (fun j a=>a=bI (fun a=>wR (rs.getD a (aa ab))) j) (fun y=>y=(W rs,())) (fun j a hj ha=>by
   have hr:=hf.2.chk j hj
   have b1:=mG hf j (by omega)
   have h32:=hf.1
   simp only [gD,mr,bA hj,aQ hj,aJ hj,cond_true,toNat_natCast]
   by_cases c:(rs.getD j (aa ab)).2.2.2.1=1
   ·have h1:=l57 hr a rs rs.length j (by omega)
    have e:a+bI (wF (rs.getD j (aa ab))) (rs.getD j (aa ab)).2.2.2.2.1.length=bI (fun a=>wR (rs.getD a (aa ab))) (j+1):=by
     simp only [bI,wR,if_pos c]
     rw [ha]
     rfl
    rw [e]at h1
    rw [show((rs.getD j (aa ab)).2.2.2.1 !=ofNat 1)=false by rw [c];rfl,cond_false]
    simp only [h1,bind_some]
    rw [aW (by omega)]
    exact .inl ⟨_,rfl,rfl⟩
   ·rw [show((rs.getD j (aa ab)).2.2.2.1 !=ofNat 1)=true by simpa using c,cond_true,aW (by omega)]
    refine .inl ⟨_,rfl,?_⟩
    simp only [bI,wR,if_neg c]
    rw [ha,Int.add_zero]
    rfl) (fun a ha=>⟨(W rs,()),by subst ha;simp only [gD,mr,bu,cond_false];rfl,rfl⟩) 0 rfl
 have hy':py (ofNat 0,rs,(rs.length:Int),ofNat 0,())=some (W rs,()):=hy
 simp only [Pl,hrs,hy',bind_some]
theorem f22 {s:bC} (h:SOk s):qc (s,())=some (W s.2.2.2.2.2.2.1,ofNat 0,()):=by
 have hc0:=JM h (by have:=h.fine.1;omega) fun r hr=>by
  obtain⟨j,hj,rfl⟩:=List.mem_iff_getElem.1 hr
  rw [←bB hj (aa ab)]
  exact mZ (h.fine.2.chk j hj)
 simp only [qc,hc0,bind_some,iY,cond_false,f57 s h.fine]
theorem ph {rs:List aj} {n:Nat} {r':aj} (hn:n<rs.length):W (rs.set n r')=W rs-wR (rs.getD n (aa ab))+wR r':=by
 unfold W
 rw [length_set]
 have h:=Hj (f:=fun a=>wR (rs.getD a (aa ab))) (g:=fun a=>wR ((rs.set n r').getD a (aa ab))) (k:=n) rs.length hn fun i hi hne=>by
  simp only [dB hn,if_neg hne]
 rw [h]
 simp only [dB hn,if_pos]
theorem adv {rs:List aj} {r':aj}:W (rs++ [r'])=W rs+wR r':=by
 unfold W
 rw [length_append,length_singleton,bI]
 rw [cR rs.length (by simp),if_pos rfl]
 congr 1
 exact pg _ fun i hi=>by rw [cR i (by simp;omega),if_neg (by omega)]
theorem vw {r r':aj} {k:Nat} {t':an} (h:ROk r) (h1:r.2.2.2.1=1) (hk:k<r.2.2.2.2.1.length) (ht:cg (bM r k) t') (hT:Turn r k t' r'):wR r'≤wR r-wT (bM r k) (bh r k)+wT (bM r k) t':=by
 have b0:=fun i (hi:i<r.2.2.2.2.1.length)=>(zm h hi).1
 have b1:=qm (f:=wF r) (k:=k) _ hk b0
 have b2:=(Re (iM h hk) ht).1
 have e0:wR r=bI (wF r) r.2.2.2.2.1.length:=if_pos h1
 rcases hT.how with⟨c5,h3,_⟩|⟨c5,h3,⟨_,h4⟩|⟨_,h4⟩⟩
 ·rw [e0,show wR r'=0 from if_neg (by rw [h3];decide)]
  simp only [wF]at b1
  omega
 ·rw [e0,show wR r'=0 from if_neg (by rw [h4];decide)]
  simp only [wF]at b1
  omega
 ·rw [e0,show wR r'=bI (wF r') r'.2.2.2.2.1.length from if_pos h4,hT.len]
  have:=AY (f:=wF r) (g:=wF r') (k:=k) _ hk fun i hi hne=>by
   simp only [wF,bM,bh,hT.ns,h3,bq hk,if_neg hne]
   exact le_refl _
  have e:wF r' k=wT (bM r k) t':=by simp only [wF,bM,bh,hT.ns,h3,bq hk,if_pos]
  rw [e]at this
  exact this
theorem ZX {nd:aO} {t t':an} {now:Int} (hn:dX nd) (ht:cg nd t) (h2:t.1=2) (hf:tH nd t now t'):wT nd t'+1≤wT nd t:=by
 have:=ht.1
 rcases hf with⟨e,rfl⟩|⟨e,u,_,rfl⟩
 ·simp only [wT,h2,if_pos]
  rw [if_neg (ba rfl),if_neg (ba rfl),if_neg (by rintro(h|h)<;>exact absurd h (ba rfl))]
  omega
 ·simp only [wT,h2,if_pos]
  rw [if_neg (ba rfl),if_pos (show ofNat 3=3 from rfl)]
  omega
theorem adw {now nr nt ac:Int} {es:List aC} {p:bY} {x y:jY} (h:Tk1 now p x y) (hx:SX now nr nt x.2.2.1 x.2.2.2.1 ac x.2.1 (es++x.2.2.2.2)):W y.2.1+y.1≤W x.2.1+x.1:=by
 cases h with
 |skip d R nk ne w h=>exact le_refl _
 |wake d R nk ne w n k r' hn hid hp hk hd h3 hT=>
  have hx:SX now nr nt nk ne ac R (es++w):=hx
  have hro:=hx.rok hn
  have htk:=hro.tks k hk
  have h3':(bh (R.getD n (aa ab)) k).1=3:=h3
  have hst:=cY hro hk (by rw [h3'];decide)
  have hg:=htk
  obtain⟨g1,g2,g3,g4,g5,g6,g7,g8⟩:=hg
  simp only [bh]at h3'
  have ht:cg (bM (R.getD n (aa ab)) k) (ofNat 1,((aP R n).getD k (aa ae)).2.1,ofNat 0,ofNat 0,nk,()):=
   ⟨g1,dM,dM,hx.nkI,fun _=>rfl,fun h=>absurd rfl h,⟨fun h=>absurd rfl h,fun h=>absurd h (ba rfl)⟩,.inr (.inl ⟨rfl,by simp only [aP,bM];omega⟩)⟩
  have h4:=vw hro hst hk ht hT
  have e1:wT (bM (R.getD n (aa ab)) k) (bh (R.getD n (aa ab)) k)=3*((bM (R.getD n (aa ab)) k).2.1-(bh (R.getD n (aa ab)) k).2.1)+1:=by
   unfold wT
   rw [if_neg (by rw [bh,h3'];decide),if_pos h3']
  have e2:wT (bM (R.getD n (aa ab)) k) (ofNat 1,((aP R n).getD k (aa ae)).2.1,ofNat 0,ofNat 0,nk,())=3*((bM (R.getD n (aa ab)) k).2.1-(bh (R.getD n (aa ab)) k).2.1):=by
   unfold wT
   rw [if_neg (ba rfl),if_neg (ba rfl),if_pos (.inr rfl)]
  rw [e1,e2]at h4
  simp only [ph hn]
  omega
 |lapse d R nk ne w n k t' r' hn hid hp hk hd h2 hf hT=>
  have hx:SX now nr nt nk ne ac R (es++w):=hx
  have hro:=hx.rok hn
  have htk:=hro.tks k hk
  have h2':(bh (R.getD n (aa ab)) k).1=2:=h2
  have hst:=cY hro hk (by rw [h2'];decide)
  have htr:1≤((aP R n).getD k (aa ae)).2.1:=by
   obtain⟨g1,g2,g3,g4,g5,g6,g7,g8⟩:=htk
   simp only [bh]at h2'
   simp only [aP];omega
  have h4:=vw hro hst hk (vZ htk htr hf).1 hT
  have h5:=ZX (iM hro hk) htk h2' hf
  simp only [ph hn]
  simp only [bh,bM]at h4 h5
  omega
theorem Rf {now nr nt ac:Int} {es:List aC} {P:List bY} {x:jY} (hx:SX now nr nt x.2.2.1 x.2.2.2.1 ac x.2.1 (es++x.2.2.2.2)):∀(i:Nat) (y:jY),TkN now P x i y→x.2.2.1+i≤1099511627776→x.2.2.2.1+i≤1099511627776→W y.2.1+y.1≤W x.2.1+x.1
 |_,_,.zero,_,_=>le_refl _
 |_,z,.step i y _ hy h,h1,h2=>by
  have:=gT hx i y hy (by omega) (by omega)
  have h3:=adw h this.1
  have h4:=Rf hx i y hy (by omega) (by omega)
  omega
theorem Rg {ns:List aO} {rk:Int} {ts:List an} {j:Nat} {S:Int×List an} (h:OpnP ns rk ts j S) (i:Nat) (hi:i<ts.length) (ht:cg (ns.getD i (aa af)) (ts.getD i (aa ae))):wT (ns.getD i (aa af)) (S.2.getD i (aa ae))=wT (ns.getD i (aa af)) (ts.getD i (aa ae)):=by
 rcases h.is i hi with⟨_,h2⟩|⟨⟨_,h0,_⟩,ρ,h2,_⟩
 ·rw [h2]
 ·have h3:(ts.getD i (aa ae)).2.1=0:=by
   obtain⟨g1,g2,g3,g4,g5,g6,g7,g8⟩:=ht
   omega
  rw [h2]
  unfold wT
  rw [if_neg (ba rfl),if_neg (ba rfl),if_pos (.inr rfl),if_neg (by rw [h0];decide),if_neg (by rw [h0];decide),if_pos (.inl h0),h3]
  rfl
abbrev bp (t:bC):List aj:=t.2.2.2.2.2.2.1
theorem JO {ck nr nt nk ne ac:Int} {rs:List aj} {es:List aC} {c:bi} {t:bC} {r:gr} (h:SX ck nr nt nk ne ac rs es) (hs:Stp ck nr nt nk ne ac rs es c t r):
  (r.1≠0∧bp t=rs)∨(r.1=0∧((c.1=1∧(bp t=rs∨((bp t).length=rs.length+1∧qf c.2.2.1.1∧W (bp t)=W rs+bI (fun i=>3*(c.2.2.1.1.getD i (aa af)).2.1) c.2.2.1.1.length)))∨
   (c.1≠1∧W (bp t)≤W rs∧((c.1=2∨c.1=3∨c.1=4)→W (bp t)<W rs)∧(c.1=7→W (bp t)+r.2.2.1≤W rs)))):=by
 cases hs with
 |err n=>exact .inl ⟨ba rfl,rfl⟩
 |known n hk hn hkey=>exact .inr ⟨rfl,.inl ⟨hk,.inl rfl⟩⟩
 |query n hk=>exact .inr ⟨rfl,.inr ⟨by omega,le_refl _,fun h=>by omega,fun h=>by omega⟩⟩
 |drain m hk=>exact .inr ⟨rfl,.inr ⟨by omega,le_refl _,fun h=>by omega,fun h=>by omega⟩⟩
 |ack hk h1 h2=>exact .inr ⟨rfl,.inr ⟨by omega,le_refl _,fun h=>by omega,fun h=>by omega⟩⟩
 |new hk hf hno h32 hkey hd hrk=>
  refine .inr ⟨rfl,.inl ⟨hk,.inr ⟨by simp [bp],hd,?_⟩⟩⟩
  obtain⟨ho,hop⟩:=BR (id:=nr) h.nrI hkey hd hrk
  have hlen:(eX c.2.2.1.1 nk).2.length=c.2.2.1.1.length:=hop.len.trans (List.length_replicate ..)
  simp only [bp,ec,adv]
  congr 1
  have e:wR (nr,c.2.1,c.2.2.1,ofNat 1,(eX c.2.2.1.1 nk).2,())=bI (wF (nr,c.2.1,c.2.2.1,ofNat 1,(eX c.2.2.1.1 nk).2,())) (eX c.2.2.1.1 nk).2.length:=if_pos rfl
  rw [e,hlen]
  refine pg _ fun i hi=> ?_
  have hi':i<(replicate c.2.2.1.1.length t0).length:=by rw [List.length_replicate];exact hi
  have e0:(replicate c.2.2.1.1.length t0).getD i (aa ae)=t0:=List.eq_of_mem_replicate (aD hi' _)
  have ht:cg (c.2.2.1.1.getD i (aa af)) ((replicate c.2.2.1.1.length t0).getD i (aa ae)):=by
   rw [e0]
   have:=(jP hd.2.1 hi).1.1
   exact⟨⟨dM.1,by simp only [aF];omega⟩,dM,dM,dM,fun h=>absurd rfl h,fun h=>absurd rfl h,⟨fun h=>absurd rfl h,fun h=>absurd h (ba rfl)⟩,.inl ⟨rfl,rfl⟩⟩
  have h1:=Rg hop i hi' ht
  rw [e0]at h1
  refine Eq.trans h1 ?_
  unfold wT
  rw [if_neg (ba rfl),if_neg (ba rfl),if_pos (.inl rfl)]
  simp only [aF]
  omega
 |poll n k un r' hk hf hn hkl h1 hun hT=>
  have hro:=h.rok hn
  have htk:=hro.tks k hkl
  have h1':(bh (rs.getD n (aa ab)) k).1=1:=h1
  have hst:=cY hro hkl (by rw [h1'];decide)
  have hg:=htk
  obtain⟨g1,g2,g3,g4,g5,g6,g7,g8⟩:=hg
  simp only [bh]at h1'
  have hnt:=h.ntI
  have ht:cg (bM (rs.getD n (aa ab)) k) (ofNat 2,((aP rs n).getD k (aa ae)).2.1+1,un,nt,ofNat 0,()):=
   ⟨⟨by simp only [aP,bM];omega,by simp only [aP,bM];omega⟩,hun,⟨by simp only;omega,by simp only;omega⟩,dM,fun h=>absurd rfl h,fun _=>.inl rfl,⟨fun _=>rfl,fun _=>by simp only;omega⟩,.inr (.inr (.inl ⟨rfl,by simp only [aP,bM];omega⟩))⟩
  have h4:=vw hro hst hkl ht hT
  have e1:wT (bM (rs.getD n (aa ab)) k) (bh (rs.getD n (aa ab)) k)=3*((bM (rs.getD n (aa ab)) k).2.1-(bh (rs.getD n (aa ab)) k).2.1):=by
   unfold wT
   rw [if_neg (by rw [bh,h1'];decide),if_neg (by rw [bh,h1'];decide),if_pos (.inr h1')]
  have e2:wT (bM (rs.getD n (aa ab)) k) (ofNat 2,((aP rs n).getD k (aa ae)).2.1+1,un,nt,ofNat 0,())=3*((bM (rs.getD n (aa ab)) k).2.1-((bh (rs.getD n (aa ab)) k).2.1+1))+2:=if_pos rfl
  rw [e1,e2]at h4
  have:W (rs.set n r')<W rs:=by rw [ph hn];omega
  exact .inr ⟨rfl,.inr ⟨by omega,by simp only [bp,ec];omega,fun _=>this,fun h=>by omega⟩⟩
 |complete n k r' rk' w hk hf hn hid hi hkl hrk hh hC hw=>
  have hro:=h.rok hn
  have hkl:k<(rs.getD n (aa ab)).2.2.2.2.1.length:=hkl
  have hh2:=hh
  obtain⟨htk,_,_,c2,_⟩:=hh2
  have c2':(bh (rs.getD n (aa ab)) k).1=2:=c2
  have hst:=cY hro hkl (by rw [c2'];decide)
  obtain⟨hok,hop⟩:=oB hro hst hkl hrk hh hC
  have b0:=fun i (hi:i<(rs.getD n (aa ab)).2.2.2.2.1.length)=>(zm hro hi).1
  have b1:=qm (f:=wF (rs.getD n (aa ab))) (k:=k) _ hkl b0
  have e0:wR (rs.getD n (aa ab))=bI (wF (rs.getD n (aa ab))) (rs.getD n (aa ab)).2.2.2.2.1.length:=if_pos hst
  have b2:2≤wF (rs.getD n (aa ab)) k:=by
   have:=htk.1
   simp only [wF,wT,c2',if_pos]
   simp only [bh,bM,aP]at*
   omega
  have:wR r'<wR (rs.getD n (aa ab)):=by
   by_cases h1:r'.2.2.2.1=1
   ·rw [e0,show wR r'=bI (wF r') r'.2.2.2.2.1.length from if_pos h1,hC.len]
    have hset:∀i:Nat,i<(rs.getD n (aa ab)).2.2.2.2.1.length→cg ((rs.getD n (aa ab)).2.2.1.1.getD i (aa af)) (((rs.getD n (aa ab)).2.2.2.2.1.set k (ofNat 4,(bh (rs.getD n (aa ab)) k).2.1,ofNat 0,ofNat 0,ofNat 0,())).getD i (aa ae)):=fun i hi=>by
     rw [bq hkl]
     split
     ·rename_i ck
      subst ck
      obtain⟨g1,g2,g3,g4,g5,g6,g7,g8⟩:=htk
      exact⟨g1,dM,dM,dM,fun h=>absurd rfl h,fun h=>absurd rfl h,⟨fun h=>absurd rfl h,fun h=>absurd h (ba rfl)⟩,.inr (.inr (.inr (.inr (.inl ⟨rfl,by simp only [bh,aP,bM]at*;omega⟩))))⟩
     ·exact hro.tks i hi
    have hwi:∀i:Nat,i<(rs.getD n (aa ab)).2.2.2.2.1.length→wF r' i=wT ((rs.getD n (aa ab)).2.2.1.1.getD i (aa af)) (((rs.getD n (aa ab)).2.2.2.2.1.set k (ofNat 4,(bh (rs.getD n (aa ab)) k).2.1,ofNat 0,ofNat 0,ofNat 0,())).getD i (aa ae)):=fun i hi=>by
     have:=Rg hop i (by rw [length_set];exact hi) (hset i hi)
     simp only at this
     rw [←this]
     simp only [wF,bM,bh,hC.ns]
    have h5:=AY (f:=wF (rs.getD n (aa ab))) (g:=wF r') (k:=k) _ hkl fun i hi hne=>by
     rw [hwi i hi,bq hkl,if_neg hne]
     exact le_refl _
    have h6:wF r' k=0:=by
     rw [hwi k hkl,bq hkl,if_pos rfl]
     unfold wT
     rw [if_neg (ba rfl),if_neg (ba rfl),if_neg (by rintro(h|h)<;>exact absurd h (ba rfl))]
    omega
   ·rw [show wR r'=0 from if_neg h1];omega
  have h7:W (rs.set n r')<W rs:=by rw [ph hn];omega
  exact .inr ⟨rfl,.inr ⟨by omega,by simp only [bp,ec];omega,fun _=>h7,fun h=>by omega⟩⟩
 |fail n k t' r' hk hf hn hid hi hkl hh hfl hT=>
  have hro:=h.rok hn
  obtain⟨htk,_,_,c2,_⟩:=hh
  have c2':(bh (rs.getD n (aa ab)) k).1=2:=c2
  have hst:=cY hro hkl (by rw [c2'];decide)
  have htr:1≤((aP rs n).getD k (aa ae)).2.1:=by
   obtain⟨g1,g2,g3,g4,g5,g6,g7,g8⟩:=htk
   simp only [aP,bM,bh]at*;omega
  have h4:=vw hro hst hkl (vZ htk htr hfl).1 hT
  have h5:=ZX (iM hro hkl) htk c2' hfl
  have h7:W (rs.set n r')<W rs:=by
   rw [ph hn]
   simp only [bh,bM,aP]at h4 h5
   omega
  exact .inr ⟨rfl,.inr ⟨by omega,by simp only [bp,ec];omega,fun _=>h7,fun h=>by omega⟩⟩
 |beat n k un r' hk hf hn hid hi hkl hh hun hT=>
  have hro:=h.rok hn
  obtain⟨htk,_,_,c2,_⟩:=hh
  have c2':(bh (rs.getD n (aa ab)) k).1=2:=c2
  have hst:=cY hro hkl (by rw [c2'];decide)
  obtain⟨g1,g2,g3,g4,g5,g6,g7,g8⟩:=htk
  have ht:cg (bM (rs.getD n (aa ab)) k) (((aP rs n).getD k (aa ae)).1,((aP rs n).getD k (aa ae)).2.1,un,((aP rs n).getD k (aa ae)).2.2.2.1,((aP rs n).getD k (aa ae)).2.2.2.2.1,()):=
   ⟨g1,hun,g3,g4,g5,fun _=>.inl c2,g7,g8⟩
  have h4:=vw hro hst hkl ht hT
  have e:wT (bM (rs.getD n (aa ab)) k) (((aP rs n).getD k (aa ae)).1,((aP rs n).getD k (aa ae)).2.1,un,((aP rs n).getD k (aa ae)).2.2.2.1,((aP rs n).getD k (aa ae)).2.2.2.2.1,())=wT (bM (rs.getD n (aa ab)) k) (bh (rs.getD n (aa ab)) k):=rfl
  rw [e]at h4
  have h7:W (rs.set n r')≤W rs:=by rw [ph hn];omega
  exact .inr ⟨rfl,.inr ⟨by omega,h7,fun h=>by omega,fun h=>by omega⟩⟩
 |cancel n r' hk hf hn hid h1 e1 e2 e3 e4 hd=>
  have h7:W (rs.set n r')≤W rs:=by
   have:=(JN (h.rok hn)).1
   rw [ph hn,show wR r'=0 from if_neg (by rw [e4];decide)]
   omega
  exact .inr ⟨rfl,.inr ⟨by omega,h7,fun h=>by omega,fun h=>by omega⟩⟩
 |tick l d R nk' ne' w hk hf h1 h2 hl hs' hN=>
  obtain⟨f1,f2,f3,f4⟩:=hf
  have hx:SX c.2.2.2.2.2.2.2.1 nr nt nk ne ac rs (es++ []):=by
   rw [append_nil]
   exact⟨h.fine,⟨by have:=h.ckI.1;omega,h2⟩,h.nrI,h.nkI,h.ntI,h.neI,h.ack,h.elen,h.late,h.evs⟩
  have h3:=Rf (x:=(ofNat 0,rs,nk,ne,[])) hx _ _ hN (by simp only;omega) (by simp only;omega)
  have h4:=(lx _ _ hN).2.1
  simp only [aF]at h3 h4
  exact .inr ⟨rfl,.inr ⟨by omega,by simp only [bp,ec];omega,fun h=>by omega,fun _=>by simp only [bp,ec];omega⟩⟩
abbrev LB:bi:=(ofNat 4,{data:= #[]},([],()),ofNat 0,ofNat 0,ofNat 1,ofNat 0,ofNat 0,())
theorem NU:SOk (gU (ofNat 2) u2):=NT (by decide) zl (.inr rfl) ⟨by decide,fun h=>absurd h (by decide)⟩
theorem adx:SOk (gU (ofNat 1) u1):=NT (by decide) Rd (.inl rfl) ⟨by decide,fun _=>by decide⟩
theorem do4:∃T R,eE (gU (ofNat 2) u2,LB,())=some (T,R,())∧R.1=0:=by
 have hr:=NS (t:=u2) (by decide)
 have hs:=NU
 have hc:=JM hs (show 1≤9223372036854775807 by decide) hr
 have EL:cS (gU (ofNat 2) u2,())=some (false,()):=rfl
 have h25:=aZ hs
 have AN:cI ([rn u2],ofNat 0,())=some (ofNat 0,true,0,()):=by
  obtain⟨i,b,e,hv,h⟩:=bX [rn u2] (show 1≤9223372036854775807 by decide) hr (ofNat 0)
  rcases h with⟨_,_,h⟩|⟨rfl,_,⟨rfl,n,rfl,h,_⟩|⟨_,h⟩⟩
  ·exact absurd hs.fine h
  ·obtain rfl:=mI h
   exact hv
  ·exact absurd rfl (h 0 (by decide))
 have AJ:∃r',uL (rn u2,ofNat 0,ofNat 1,ofNat 0,())=some (r',0,()):=by
  obtain⟨r',e',hv,h⟩:=lu (rn u2) (hr _ (List.mem_singleton.2 rfl)) (ofNat 0) (fun nd t=>xg (nd,t,ofNat 1,ofNat 0,())) (fun nd t h1 h2 h3=>by
   obtain⟨t',h,h4⟩:=f171 nd t (ofNat 1) (ofNat 0) h1 h2
   exact xu h fun hp=>AX (h4 hp))
  rw [←GW]at hv
  rcases h with⟨rfl,_⟩|⟨_,_,h⟩
  ·exact⟨r',hv⟩
  ·obtain⟨t',h2,_⟩:=f171 n1 u2 (ofNat 1) (ofNat 0) nd1 (by decide)
   rcases h2 with⟨_,h2⟩|⟨h2,_⟩
   ·exact absurd ⟨NR zl (.inr rfl),rfl,0,t',rfl,by decide,h2⟩ h
   ·exact absurd ⟨dM,zl,by decide,ZW,rfl,rfl⟩ h2
 obtain⟨r',AJ⟩:=AJ
 have hF:eE (gU (ofNat 2) u2,LB,())=pG (gU (ofNat 2) u2,LB,()):=rfl
 rw [hF]
 simp only [pG,hc,bind_some,iY,cond_false,show(ofNat 4==ofNat 1)=false from rfl,show(ofNat 4==ofNat 2)=false from rfl,show(ofNat 4==ofNat 3)=false from rfl,beq_self_eq_true,cond_true,EL]
 simp only [gU,mk]at h25
 simp only [vd,gU,mk,h25,bind_some,isEmpty_cons,cond_true,cond_false,Bool.not_true,length_singleton,zero_add,Nat.le_refl,decide_true,bm,AN]
 have h124':uL (rn u2,ofNat 0,ofNat 1,ofNat 0,())=some (r',0,()):=AJ
 show∃(T:bC) (R:gr),Option.bind (uL (rn u2,ofNat 0,ofNat 1,ofNat 0,())) _=some (T,R,())∧R.1=0
 rw [h124',bind_some,cM]
 cases r'.2.2.2.1==ofNat 3 with
 |true=>exact⟨_,_,rfl,rfl⟩
 |false=>exact⟨_,_,rfl,rfl⟩
theorem w1:W [rn u1]=6:=rfl
theorem w2:W [rn u2]=5:=rfl
theorem ait:∃t r,eE (gU (ofNat 2) u2,LB,())=some (t,r,())∧r.1=0∧SOk t∧W (bp t)=4:=by
 obtain⟨T,R,h1,h2⟩:=do4
 obtain⟨v,hv,t,r,hdo,hq⟩:=Rc (gU (ofNat 2) u2) LB (show 1≤9223372036854775807 by decide) (NS (t:=u2) (by decide)) (fun nd hnd=>(not_mem_nil hnd).elim)
 rw [h1]at hdo
 injection hdo with hdo
 obtain⟨rfl,hR⟩:=Prod.mk.inj hdo
 obtain⟨rfl,_⟩:=Prod.mk.inj hR
 rcases hq with⟨_,hso,hst,h40⟩|⟨_,h,_⟩
 ·have hsx:=iL hso
  have hto:=Lx (Ly hsx hst).1 h40
  refine⟨T,R,h1,h2,hto,?_⟩
  cases hst with
  |err n=>exact absurd h2 (ba rfl)
  |fail n k t' r' hk hf hn hid hi hkl hh hfl hT=>
   obtain rfl:=mI hn
   obtain rfl:=mI hkl
   have ht:tH n1 u2 (ofNat 0) t':=hfl
   rcases ht with⟨h,_⟩|⟨_,u,hu,rfl⟩
   ·exact absurd h (by decide)
   ·have e:W ([rn u2].set 0 r')=W [rn u2]-wR (rn u2)+wR r':=ph (rs:=[rn u2]) (by decide)
    have e2:wR (rn u2)=5:=rfl
    simp only [bp,ec]
    refine Eq.trans e ?_
    rw [w2,e2]
    rcases hT.how with⟨h,_⟩|⟨_,h3,⟨h,_⟩|⟨_,h4⟩⟩
    ·exact absurd h (ba rfl)
    ·have:=h _ (mem_set (by decide) _)
     exact absurd this (ba rfl)
    ·have e3:wR r'=bI (wF r') r'.2.2.2.2.1.length:=if_pos h4
     have hl:r'.2.2.2.2.1.length=1:=hT.len
     rw [e3,hl]
     have e4:wF r' 0=4:=by
      simp only [wF,bM,bh,hT.ns,h3]
      rfl
     simp only [bI,e4]
     rfl
  |known n hk=>exact absurd hk (ba rfl)
  |new hk=>exact absurd hk (ba rfl)
  |poll n k un r' hk=>exact absurd hk (ba rfl)
  |complete n k r' rk' w hk=>exact absurd hk (ba rfl)
  |beat n k un r' hk=>exact absurd hk (ba rfl)
  |cancel n r' hk=>exact absurd hk (ba rfl)
  |tick l d R nk' ne' w hk=>exact absurd hk (ba rfl)
  |query n hk=>exact absurd hk (ba rfl)
  |drain m hk=>exact absurd hk (ba rfl)
  |ack hk=>exact absurd hk (ba rfl)
 ·exact absurd NU h
theorem alive:Pq ()=some (true,()):=by
 have Lh:VA ()=some (zk,()):=rfl
 have YS:Lf ()=some (gU (ofNat 1) u1,()):=by
  simp only [Lf,Lh,bind_some]
  have:eE (zk,(ofNat 1,{data:= #[97]},(take ((replicate 1 (gi Int,ofNat 0,ofNat 0,())).set 0 (gi Int,ofNat 2,ofNat 3,())).length (drop 0 ((replicate 1 (gi Int,ofNat 0,ofNat 0,())).set 0 (gi Int,ofNat 2,ofNat 3,()))),()),ofNat 0,ofNat 0,ofNat 0,ofNat 0,ofNat 0,()),())=_:=do1
  rw [this]
  rfl
 obtain⟨t,r,hd4,hr0,hto,hw⟩:=ait
 have h1:=f22 adx
 have h2:=f22 NU
 have h3:=f22 hto
 have h1:qc (gU (ofNat 1) u1,())=some (6,ofNat 0,()):=h1
 have h2:qc (gU (ofNat 2) u2,())=some (5,ofNat 0,()):=h2
 simp only [bp]at hw
 rw [hw]at h3
 simp only [Pq,YS,h1,do2,h2,hd4,h3,bind_some,hr0]
 rfl
theorem f94 (r:aj) (hn:r.2.2.1.1.length≤9223372036854775807):∃b,Pk (r,())=some (b,()):=by
 obtain⟨b,hb,_⟩:=f45 r.2.2.1.1 hn
 have hb':Le (r.2.2.1,())=some (b,()):=hb
 simp only [Pk,hb',bind_some]
 cases b with
 |true=>exact⟨_,rfl⟩
 |false=>
  simp only [cond_false]
  cases decide (((r.2.2.2.2.1.length:Nat):Int)>ofNat 60)with
  |true=>exact⟨_,rfl⟩
  |false=>exact⟨_,rfl⟩
theorem f56 (rs:List aj) (hl:rs.length≤9223372036854775807) (hr:∀r∈rs,r.2.2.1.1.length≤9223372036854775807):∃b,Pm (rs,())=some (b,()):=by
 simp only [Pm]
 cases decide (((rs.length:Nat):Int)>ofNat 60)with
 |true=>exact⟨_,rfl⟩
 |false=>
  obtain⟨y,hy,hq⟩:=bc (st:=gE) rs.length (fun i (_:Unit)=>(rs,(i:Int),())) (fun _ _=>True) (fun y=>y= .inr ()∨y= .inl (true,())) (fun i _ h _=>by
   obtain⟨b,hb⟩:=f94 (rs.getD i (aa ab)) (hr _ (aD h _))
   simp only [gE,mt,bA h,aQ h,aJ h,cond_true,toNat_natCast,hb,bind_some]
   cases b with
   |true=>exact .inr ⟨_,rfl,.inr rfl⟩
   |false=>
    rw [aW (by omega)]
    exact .inl ⟨(),rfl,trivial⟩) (fun _ _=>⟨.inr (),by simp only [gE,mt,bu,cond_false],.inl rfl⟩) () trivial
  have hy':pA (rs,ofNat 0,())=some y:=hy
  simp only [cond_false,hy',bind_some]
  rcases hq with rfl|rfl
  ·exact⟨_,rfl⟩
  ·exact⟨_,rfl⟩
theorem f21 (s:bC) (hl:s.2.2.2.2.2.2.1.length≤9223372036854775807) (hr:∀r∈s.2.2.2.2.2.2.1,r.2.2.1.1.length≤9223372036854775807):∃b,Pn (s,())=some (b,()):=by
 obtain⟨b,hb⟩:=f56 s.2.2.2.2.2.2.1 hl hr
 simp only [Pn,hb,bind_some]
 cases b with
 |true=>exact⟨_,rfl⟩
 |false=>exact⟨_,rfl⟩
theorem Rh {r:aj} (h:rz ab r):bG r∧r.2.2.1.1.length≤9223372036854775807:=by
 obtain⟨_,_,⟨⟨hn,hns⟩,_⟩,_,⟨ht,hts⟩,_⟩:=h
 refine⟨⟨fun nd hnd=>(hns nd hnd).1.1,ht,fun t h=> ?_⟩,hn⟩
 have h1:(Lit.int .u8 t.1).wf=true:=(hts t h).1
 simp only [Lit.wf,Bool.and_eq_true,decide_eq_true_eq]at h1
 exact h1.1
abbrev FF (rs:List aj):Prop:=∀n k:Nat,n<rs.length→k<(aP rs n).length→((aP rs n).getD k (aa ae)).1≠1
abbrev cA (z:Int):bi:=(ofNat 10,{data:= #[]},([],()),ofNat 0,ofNat 0,ofNat 0,ofNat 0,z,())
abbrev cT (z:Int):bi:=(ofNat 7,{data:= #[]},([],()),ofNat 0,ofNat 0,ofNat 0,ofNat 0,z,())
abbrev cP:bi:=(ofNat 2,{data:= #[]},([],()),ofNat 0,ofNat 0,ofNat 0,ofNat 1048576,ofNat 0,())
abbrev cK (k a b d:Int):bi:=(k,{data:= #[]},([],()),a,b,d,ofNat 0,ofNat 0,())
structure Cap (B:Int) (s:bC):Prop where
 nr:s.2.1≤B
 nt:s.2.2.1≤B
 nk:s.2.2.2.1≤B
 ne:s.2.2.2.2.1≤B
theorem Cap.mono {A B:Int} {s:bC} (h:Cap A s) (hl:A≤B):Cap B s:=⟨le_trans h.nr hl,le_trans h.nt hl,le_trans h.nk hl,le_trans h.ne hl⟩
theorem Cap.fresh {B:Int} {s:bC} (h:Cap B s) (hB:B≤1099511627676):Fresh s.2.1 s.2.2.1 s.2.2.2.1 s.2.2.2.2.1:=⟨le_trans h.nr hB,le_trans h.nt hB,le_trans h.nk hB,le_trans h.ne hB⟩
theorem we {s:bC} (h:SOk s):∀r∈s.2.2.2.2.2.2.1,bG r:=fun r hr=>by
 obtain⟨j,hj,rfl⟩:=List.mem_iff_getElem.1 hr
 rw [←bB hj (aa ab)]
 exact mZ (h.fine.2.chk j hj)
section
variable {ck nr nt nk ne ac:Int} {rs:List aj} {es:List aC} {c:bi} {t:bC} {r:gr}
theorem zn (h:SOk (mk ck nr nt nk ne ac rs es)) (c:bi) (hc:c.2.2.1.1= []):∃t r,eE (mk ck nr nt nk ne ac rs es,c,())=some (t,r,())∧SOk t∧Stp ck nr nt nk ne ac rs es c t r:=by
 obtain⟨v,hv,t,r,hdo,hq⟩:=Rc (mk ck nr nt nk ne ac rs es) c (by have:=h.fine.1;simp only [mk]at this⊢;omega) (we h) (by rw [hc];exact fun _ h=>absurd h not_mem_nil)
 rcases hq with⟨_,_,hst,h40⟩|⟨_,hn,_⟩
 ·have hsx:=iL h
  obtain⟨hsx2,_⟩:=Ly hsx hst
  exact⟨t,r,hdo,Lx hsx2 h40,hst⟩
 ·exact absurd h hn
theorem AZ (h:SX ck nr nt nk ne ac rs es) (hs:Stp ck nr nt nk ne ac rs es c t r) (h1:c.1≠1) {B:Int} (hB:Cap B (mk ck nr nt nk ne ac rs es)):Cap (B+16) t:=by
 obtain⟨b1,b2,b3,b4⟩:=hB
 simp only [mk]at b1 b2 b3 b4
 cases hs with
 |new hk=>exact absurd hk h1
 |known n hk=>exact absurd hk h1
 |complete n k r' rk' w hk hf hn hid hi hkl hrk hh hC hw=>
  have hro:=h.rok hn
  have hh2:=hh
  obtain⟨_,_,_,c2,_⟩:=hh2
  have c2':(bh (rs.getD n (aa ab)) k).1=2:=c2
  have hst:=cY hro hkl (by rw [c2'];decide)
  obtain⟨hok,hop⟩:=oB hro hst hkl hrk hh hC
  have hhi:=hop.hi
  simp only at hhi
  have h12:=hro.dag.1.2
  have hwl:w.length≤2:=by rcases hw with⟨_,rfl⟩|⟨_,rfl⟩<;>simp
  exact⟨by simp only;omega,by simp only;omega,by simp only;omega,by simp only;omega⟩
 |tick l d R nk' ne' w hk hf h1 h2 hl hs' hN=>
  obtain⟨f1,f2,f3,f4⟩:=hf
  have hx:SX c.2.2.2.2.2.2.2.1 nr nt nk ne ac rs (es++ []):=by
   rw [append_nil]
   exact⟨h.fine,⟨by have:=h.ckI.1;omega,h2⟩,h.nrI,h.nkI,h.ntI,h.neI,h.ack,h.elen,h.late,h.evs⟩
  obtain⟨q1,q2,q3,q4,q5,q6⟩:=gT (x:=(ofNat 0,rs,nk,ne,[])) hx _ _ hN (by simp only;omega) (by simp only;omega)
  simp only at q2 q3 q4 q5
  exact⟨by simp only;omega,by simp only;omega,by simp only;omega,by simp only;omega⟩
 |_=>exact⟨by simp only [ec];omega,by simp only [ec];omega,by simp only [ec];omega,by simp only [ec];omega⟩
theorem LC (h:SOk (mk ck nr nt nk ne ac rs es)):∃r,eE (mk ck nr nt nk ne ac rs es,cA (IntKind.i64.wrap (ne-ofNat 1)),())=some (mk ck nr nt nk ne (ne-1) rs [],r,())∧SOk (mk ck nr nt nk ne (ne-1) rs []):=by
 have hne:1≤ne∧ne≤1099511627776:=h.ne
 have hac:0≤ac∧ac<ne:=h.ack
 have hel:(es.length:Int)=ne-1-ac:=h.elen
 have e:IntKind.i64.wrap (ne-ofNat 1)=ne-1:=by rw [IntKind.wrap_i64];simp only [aF];omega
 rw [e]
 obtain⟨t,r,hdo,hok,hst⟩:=zn h (cA (ne-1)) rfl
 cases hst with
 |err n hw=>exact absurd (hw.2.2.2 rfl (by simp only;omega) (by simp only;omega)) id
 |ack hk h1 h2=>
  have e2:es.drop ((cA (ne-1)).2.2.2.2.2.2.2.1-ac).toNat= []:=List.drop_eq_nil_of_le (by simp only;omega)
  rw [e2]at hdo hok
  exact⟨_,hdo,hok⟩
 |known n hk=>exact absurd hk (ba rfl)
 |new hk=>exact absurd hk (ba rfl)
 |poll n k un r' hk=>exact absurd hk (ba rfl)
 |complete n k r' rk' w hk=>exact absurd hk (ba rfl)
 |fail n k t' r' hk=>exact absurd hk (ba rfl)
 |beat n k un r' hk=>exact absurd hk (ba rfl)
 |cancel n r' hk=>exact absurd hk (ba rfl)
 |tick l d R nk' ne' w hk=>exact absurd hk (ba rfl)
 |query n hk=>exact absurd hk (ba rfl)
 |drain m hk=>exact absurd hk (ba rfl)
theorem Ti (h:SOk (mk ck nr nt nk ne ac rs es)) (hF:Fresh nr nt nk ne):∃t r,eE (mk ck nr nt nk ne ac rs es,cP,())=some (t,r,())∧SOk t∧((r.1≠0∧t=mk ck nr nt nk ne ac rs es∧FF rs)∨(r.1=0∧W (bp t)<W rs∧r.2.2.2.1=nt∧t.1=ck∧Stp ck nr nt nk ne ac rs es cP t r)):=by
 obtain⟨t,r,hdo,hok,hst⟩:=zn h cP rfl
 refine⟨t,r,hdo,hok,?_⟩
 have hw:=JO (iL h) hst
 have hst2:=hst
 cases hst with
 |err n hy=>exact .inl ⟨ba rfl,rfl,hy.1 rfl hF (by decide) (by decide)⟩
 |poll n k un r' hk hf hn hkl h1 hun hT=>
  rcases hw with⟨h0,_⟩|⟨_,⟨h0,_⟩|⟨_,_,h3,_⟩⟩
  ·exact absurd rfl h0
  ·exact absurd h0 (ba rfl)
  ·exact .inr ⟨rfl,h3 (.inl rfl),rfl,rfl,hst2⟩
 |known n hk=>exact absurd hk (ba rfl)
 |new hk=>exact absurd hk (ba rfl)
 |ack hk=>exact absurd hk (ba rfl)
 |complete n k r' rk' w hk=>exact absurd hk (ba rfl)
 |fail n k t' r' hk=>exact absurd hk (ba rfl)
 |beat n k un r' hk=>exact absurd hk (ba rfl)
 |cancel n r' hk=>exact absurd hk (ba rfl)
 |tick l d R nk' ne' w hk=>exact absurd hk (ba rfl)
 |query n hk=>exact absurd hk (ba rfl)
 |drain m hk=>exact absurd hk (ba rfl)
theorem FH {now:Int} {p:bY} {y z:jY} (h:Tk1 now p y z):y.1≤z.1∧(z.1=y.1→z.2.1=y.2.1):=by
 cases h with
 |skip=>exact⟨le_refl _,fun _=>rfl⟩
 |wake d=>exact⟨by simp only;omega,fun h=>by simp only at h;omega⟩
 |lapse d=>exact⟨by simp only;omega,fun h=>by simp only at h;omega⟩
theorem FI {now:Int} {P:List bY} {x:jY}:∀(i:Nat) (y:jY),TkN now P x i y→x.1≤y.1∧(y.1=x.1→y.2.1=x.2.1)
 |_,_,.zero=>⟨le_refl _,fun _=>rfl⟩
 |_,z,.step i y _ hy h=>by
  obtain⟨a,b⟩:=FI i y hy
  obtain⟨a2,b2⟩:=FH h
  exact⟨by omega,fun e=>by rw [b2 (by omega),b (by omega)]⟩
theorem Hl {now:Int} {P:List bY} {x:jY} (h1:∀z,Tk1 now (P.getD 0 (aa au)) x z→x.1+1≤z.1):∀(i:Nat) (y:jY),TkN now P x (i+1) y→x.1+1≤y.1
 |0,_,.step _ y _ hy h=>by
  cases hy
  exact h1 _ h
 |i+1,_,.step _ y _ hy h=>by
  have:=Hl h1 i y hy
  have:=(FH h).1
  omega
theorem Tj (h:SOk (mk ck nr nt nk ne (ne-1) rs [])) (hF:Fresh nr nt nk ne) {z:Int} (h1:ck≤z) (h2:z≤1099511627776):∃t r,eE (mk ck nr nt nk ne (ne-1) rs [],cT z,())=some (t,r,())∧SOk t∧t.1=z∧Stp ck nr nt nk ne (ne-1) rs [] (cT z) t r∧W (bp t)≤W rs∧(W (bp t)<W rs∨bp t=rs)∧(pl rs z≠ []→W (bp t)<W rs):=by
 obtain⟨t,r,hdo,hok,hst⟩:=zn h (cT z) rfl
 refine⟨t,r,hdo,hok,?_⟩
 have hw:=JO (iL h) hst
 have hst2:=hst
 cases hst with
 |err n hy=>exact absurd (hy.2.2.1 rfl hF h1 h2 (by decide)) id
 |tick l d R nk' ne' w hk hf h1' h2' hl hs' hN=>
  rcases hw with⟨h0,_⟩|⟨_,⟨h0,_⟩|⟨_,h3,_,h4⟩⟩
  ·exact absurd rfl h0
  ·exact absurd h0 (ba rfl)
  have h4:=h4 rfl
  have hm:=FI _ _ hN
  simp only [bp,ec]at h3 h4 hm
  simp only [aF]at hm
  refine⟨rfl,hst2,h3,?_,fun hp=> ?_⟩
  ·by_cases c:d=0
   ·exact .inr (hm.2 c)
   ·exact .inl (by simp only [bp,ec];omega)
  ·have hl0:0<l.length:=by
    cases l with
    |nil=>exact absurd (List.nil_perm.1 hl) hp
    |cons a m=>simp
   obtain⟨i,hi⟩:∃i,min 16 l.length=i+1:=⟨min 16 l.length-1,by omega⟩
   rw [hi]at hN
   have hone:=Hl (fun y hy=>by
    obtain⟨a,j,ha,hj,hd,e⟩:=Lq (hl.subset (aD hl0 (aa au)))
    cases hy with
    |skip d R nk ne w h=>
     have:=h a j ha (by rw [e]) (by rw [e]) hj
     rw [show((aP rs a).getD j (aa ae))=((rs.getD a (aa ab)).2.2.2.2.1.getD j (aa ae))from rfl]at this
     rw [show dx ((rs.getD a (aa ab)).2.2.2.2.1.getD j (aa ae)) (cT z).2.2.2.2.2.2.2.1=true from hd]at this
     exact nomatch this
    |wake d=>exact le_refl _
    |lapse d=>exact le_refl _) i _ hN
   simp only [aF]at hone
   simp only [bp,ec]
   omega
 |known n hk=>exact absurd hk (ba rfl)
 |new hk=>exact absurd hk (ba rfl)
 |ack hk=>exact absurd hk (ba rfl)
 |poll n k un r' hk=>exact absurd hk (ba rfl)
 |complete n k r' rk' w hk=>exact absurd hk (ba rfl)
 |fail n k t' r' hk=>exact absurd hk (ba rfl)
 |beat n k un r' hk=>exact absurd hk (ba rfl)
 |cancel n r' hk=>exact absurd hk (ba rfl)
 |query n hk=>exact absurd hk (ba rfl)
 |drain m hk=>exact absurd hk (ba rfl)
theorem ZY (h:SOk (mk ck nr nt nk ne ac rs es)) (c:bi) (hc:c.2.2.1.1= []) (hk:c.1=3∨c.1=4):∃t r,eE (mk ck nr nt nk ne ac rs es,c,())=some (t,r,())∧SOk t∧t.1=ck∧W (bp t)≤W rs∧Stp ck nr nt nk ne ac rs es c t r:=by
 obtain⟨t,r,hdo,hok,hst⟩:=zn h c hc
 have hw:=JO (iL h) hst
 have e:t.1=ck:=by
  cases hst with
  |tick l d R nk' ne' w hk7=>exact absurd hk7 (by omega)
  |_=>rfl
 refine⟨t,r,hdo,hok,e,?_,hst⟩
 rcases hw with⟨_,h0⟩|⟨_,⟨h0,_⟩|⟨_,h3,_⟩⟩
 ·rw [h0];exact le_refl _
 ·omega
 ·exact h3
end
theorem ZZ {r:aj} (h:ROk r) (h1:r.2.2.2.1=1):∃k:Nat,k<r.2.2.2.2.1.length∧((bh r k).1=1∨(bh r k).1=2∨(bh r k).1=3):=by
 have hlen:=h.len
 rcases h.st with⟨_,hm,hn4,hn56⟩|⟨hs,_⟩|⟨hs,_⟩|⟨hs,_⟩
 ·have hU:(List.range r.2.2.2.2.1.length).filter (fun i=>decide ((bh r i).1≠4))≠ []:=fun he=>hn4 fun t ht=>by
   obtain⟨j,hj,rfl⟩:=ze ht
   by_cases c:(r.2.2.2.2.1.getD j (aa ae)).1=4
   ·exact c
   ·have:j∈(List.range r.2.2.2.2.1.length).filter (fun i=>decide ((bh r i).1≠4)):=List.mem_filter.2 ⟨List.mem_range.2 hj,decide_eq_true c⟩
    rw [he]at this
    exact absurd this not_mem_nil
  obtain⟨u,hu,hs⟩:=ND (n:=r.2.2.1.1.length) (R:=iX (tG r.2.2.1.1) r.2.2.1.1.length) (fun i m j hm a b=>lY _ _ hm a b) _ hU fun u hu=>by
   have:=List.mem_range.1 (List.mem_filter.1 hu).1
   exact⟨by omega,h.dag.2.2 u (by omega)⟩
  obtain⟨hu1,hu2⟩:=List.mem_filter.1 hu
  have hul:=List.mem_range.1 hu1
  have hu4:(bh r u).1≠4:=of_decide_eq_true hu2
  have hmet:gj r.2.2.2.2.1 (r.2.2.1.1.getD u (aa af)):=fun v hv=>by
   obtain⟨v0,v1⟩:=vp (h.dag.2.1 u (by omega)) v hv
   have he:tG r.2.2.1.1 u v.toNat:=⟨by omega,by rw [Int.toNat_of_nonneg v0];exact hv⟩
   by_cases c:(r.2.2.2.2.1.getD v.toNat (aa ae)).1=4
   ·exact c
   ·exact absurd (xr _ _ he) (hs _ (List.mem_filter.2 ⟨List.mem_range.2 (by omega),decide_eq_true c⟩))
  have h0:=(hm u (by omega)).1 hmet
  have hb:=zd (h.tks u hul)
  have Xg:¬((bh r u).1=5∨(bh r u).1=6):=fun e=>hn56 ⟨_,aD hul _,e⟩
  refine⟨u,hul,?_⟩
  simp only [bh]at*
  omega
 ·rw [h1]at hs;exact absurd hs (ba rfl)
 ·rw [h1]at hs;exact absurd hs (ba rfl)
 ·rw [h1]at hs;exact absurd hs (ba rfl)
theorem aaa {r:aj} (h:ROk r) (h1:r.2.2.2.1=1):1≤wR r:=by
 obtain⟨k,hk,hst⟩:=ZZ h h1
 have e:wR r=bI (wF r) r.2.2.2.2.1.length:=if_pos h1
 rw [e]
 have:=qm (f:=wF r) (k:=k) _ hk fun i hi=>(zm h hi).1
 have htk:=h.tks k hk
 obtain⟨g1,g2,g3,g4,g5,g6,g7,g8⟩:=htk
 have hb:1≤wF r k:=by
  simp only [wF,wT,bh,bM]at*
  split
  ·omega
  ·split
   ·omega
   ·rw [if_pos (by omega)];omega
 omega
theorem Ri {rs:List aj} (hf:eF rs) {n:Nat} (hn:n<rs.length) (h1:(rs.getD n (aa ab)).2.2.2.1=1):1≤W rs:=by
 have:=qm (f:=fun a=>wR (rs.getD a (aa ab))) (k:=n) rs.length hn fun i hi=>(JN (hf.2.chk i hi)).1
 have:=aaa (hf.2.chk n hn) h1
 unfold W
 omega
theorem LD {rs:List aj} (h:∀n:Nat,n<rs.length→(rs.getD n (aa ab)).2.2.2.1≠1):W rs=0:=by
 unfold W
 have:∀m:Nat,m≤rs.length→bI (fun a=>wR (rs.getD a (aa ab))) m=0:=fun m=>by
  induction m with
  |zero=>intro _;rfl
  |succ m ih=>intro hm;show bI _ m+wR (rs.getD m (aa ab))=0;rw [ih (by omega),wR,if_neg (h m (by omega))];rfl
 exact this _ (Nat.le_refl _)
theorem LE {id now:Int}:∀(ts:List an) (k j:Nat),j<ts.length→dx (ts.getD j (aa ae)) now=true→gR id now k ts≠ []
 | [],_,_,h,_=>absurd h (not_lt_zero _)
 |t::ts,k,0,_,hd=>by
  have hd:dx t now=true:=hd
  simp only [gR,hd,cond_true]
  exact fun h=>by simp at h
 |t::ts,k,j+1,h,hd=>fun he=>by
  simp only [gR,List.append_eq_nil_iff]at he
  exact LE ts (k+1) j (by simpa using h) (by simpa using hd) he.2
theorem Rj {rs:List aj} {now:Int} {n k:Nat} (hn:n<rs.length) (hk:k<(aP rs n).length) (hd:dx ((aP rs n).getD k (aa ae)) now=true):pl rs now≠ []:=fun he=>by
 have h:∀r∈rs,gR r.1 now 0 r.2.2.2.2.1= []:=fun r hr=>by
  have:=List.flatMap_eq_nil_iff.1 he r hr
  exact this
 exact LE _ 0 k hk hd (h _ (aD hn (aa ab)))
theorem LF {ck nr nt nk ne ac:Int} {rs:List aj} {es:List aC} (h:SOk (mk ck nr nt nk ne ac rs es)):∃z,As (mk ck nr nt nk ne ac rs es,())=some (z,())∧ck≤z∧z≤1099511627776∧(FF rs→∀n k:Nat,n<rs.length→k<(aP rs n).length→(((aP rs n).getD k (aa ae)).1=2∨((aP rs n).getD k (aa ae)).1=3)→pl rs z≠ []):=by
 have hf:eF rs:=h.fine
 have hck:0≤ck∧ck≤1099511627776:=h.ck
 have hr:∀r∈rs,bG r:=we h
 obtain⟨v,hv,hc⟩:=f51 rs (by have:=hf.1;omega) hr
 rcases hc with⟨h1,_⟩|⟨_,h2,_⟩|⟨_,rfl⟩
 ·have:=hf.1;omega
 ·exact absurd hf.2 h2
 obtain⟨S,h1,h2,h3⟩:=f175 rs 1099511627776 hf.1 (Zf hf)
 have h1:Ad (rs,ofNat 1099511627776,())=some (S,()):=h1
 obtain⟨p,b,e,hnx,hq⟩:=mY rs (by have:=hf.1;omega) hr
 rcases hq with⟨_,_,hq⟩|⟨_,_,_,_,hex⟩
 ·exact absurd hf hq
 have hin:∀n k:Nat,n<rs.length→k<(aP rs n).length→(((aP rs n).getD k (aa ae)).1=2∨((aP rs n).getD k (aa ae)).1=3)→pl rs 1099511627776≠ []:=fun n k hn hk hs=>by
  refine Rj hn hk ?_
  rw [show(aP rs n).getD k (aa ae)=(rs.getD n (aa ab)).2.2.2.2.1.getD k (aa ae)from rfl]at hs⊢
  rw [SY ((hf.2.chk n hn).tks k hk)]
  rcases hs with hs|hs
  ·rw [hs];rfl
  ·rw [hs];rfl
 cases S with
 |nil=>
  have AO:Ar (rs,())=some (ofNat 0,false,ofNat 0,()):=by
   simp only [Ar,hv,bind_some,iY,cond_false,h1,isEmpty_nil,cond_true]
  refine⟨ck,by simp only [As,mk,AO,hnx,bind_some,Bool.not_false,cond_true],le_refl _,hck.2,fun _ n k hn hk hs=>absurd (List.nil_perm.1 h2) (hin n k hn hk hs)⟩
 |cons a m=>
  have AO:Ar (rs,())=some (a.2.2.1,true,ofNat 0,()):=by
   have hg:((((a::m).length:Nat):Int)==ofNat 0)=false:=by simp;omega
   have hw:ai 0 (ofNat 0) ((((a::m).length:Nat):Int)-1)=true:=by simp only [ai,length_cons,aF,Bool.and_eq_true,decide_eq_true_eq];omega
   have hd:decide (0+(ofNat 0).toNat<(a::m).length)=true:=by simp
   simp only [Ar,hv,bind_some,iY,cond_false,h1,isEmpty_cons,hg,hw,hd,cond_true]
   rfl
  obtain⟨i,j,hi,hj,hd,ea⟩:=Lq (h2.subset (List.mem_cons_self (a:=a) (l:=m)))
  have hu:=(qj hd).2
  have hun:a.2.2.1=(getD (rs.getD i (aa ab)).2.2.2.2.1 j (aa ae)).2.2.1:=by rw [ea]
  cases b with
  |true=>
   refine⟨ck,by simp only [As,mk,AO,hnx,bind_some,Bool.not_true,cond_true,cond_false],le_refl _,hck.2,fun hno=> ?_⟩
   obtain⟨n,k,hn,hk,h1,_⟩:=hex rfl
   exact absurd h1 (hno n k hn hk)
  |false=>
   refine⟨if a.2.2.1>ck then a.2.2.1 else ck,by simp only [As,mk,AO,hnx,bind_some,Bool.not_true,cond_false],by split<;>omega,by split<;>omega,fun _ n k hn hk hs=>Rj hi hj ?_⟩
   have hst:=(qj hd).1
   have:(getD (rs.getD i (aa ab)).2.2.2.2.1 j (aa ae)).2.2.1≤if a.2.2.1>ck then a.2.2.1 else ck:=by split<;>omega
   show dx (getD (rs.getD i (aa ab)).2.2.2.2.1 j (aa ae)) _=true
   unfold dx
   rw [decide_eq_true this]
   rcases hst with hst|hst
   ·rw [hst];rfl
   ·rw [hst];rfl
theorem f73 (s:bC) (hl:s.2.2.2.2.2.2.1.length≤32):∃b,wx (s,())=some (b,())∧(b=true↔∀n:Nat,n<(bp s).length→((bp s).getD n (aa ab)).2.2.2.1≠1):=by
 obtain⟨ck,nr,nt,nk,ne,ac,rs,es,_⟩:=s
 simp only at hl
 obtain⟨y,hy,hq⟩:=bc (st:=gB) rs.length (fun i (_:Unit)=>(rs,(rs.length:Int),(i:Int),())) (fun i _=>∀n:Nat,n<i→(rs.getD n (aa ab)).2.2.2.1≠1)
   (fun y=>(∃n:Nat,n<rs.length∧(rs.getD n (aa ab)).2.2.2.1=1∧∃z,y= .inl (false,z))∨(y= .inr ()∧∀n:Nat,n<rs.length→(rs.getD n (aa ab)).2.2.2.1≠1)) (fun i _ h hx=>by
    simp only [gB,mh,bA h,aQ h,aJ h,cond_true,toNat_natCast]
    by_cases hk:(rs.getD i (aa ab)).2.2.2.1=1
    ·rw [show((rs.getD i (aa ab)).2.2.2.1==ofNat 1)=true from by simpa using hk,cond_true]
     exact .inr ⟨_,rfl,.inl ⟨i,h,hk,_,rfl⟩⟩
    ·rw [show((rs.getD i (aa ab)).2.2.2.1==ofNat 1)=false from by simpa using hk,cond_false,aW (by omega)]
     exact .inl ⟨(),rfl,dI hx hk⟩) (fun _ hx=>⟨.inr (),by simp only [gB,mh,bu,cond_false],.inr ⟨rfl,hx⟩⟩) () (fun n h=>absurd h (not_lt_zero _))
 have hy':pu (rs,(rs.length:Int),ofNat 0,())=some y:=hy
 simp only [wx,hy',bind_some]
 rcases hq with⟨n,h1,h2,z,rfl⟩|⟨rfl,h⟩
 ·exact⟨false,rfl,⟨fun h=>(nomatch h),fun h=>absurd h2 (h n h1)⟩⟩
 ·exact⟨true,rfl,⟨fun _=>h,fun _=>rfl⟩⟩
abbrev JP:Type:=(Nat×Int×Int×Int×Int×Int×ByteArray×List aM×Int×List aY×List aN×Int×Int×Int×Int×Int×Int×List aV×List aN×Int×Int×Int×Int×Int×Int×List aV×List aN×Nat×Int×Int×Int×Int×Int×ByteArray×List aM×Int×List aY×List aN×Int×Int×Int×Int×Int×Int×List aV×List aN×List lX×Int×Int×Int×Int×Int×ByteArray×List aM×Int×List aY×List aN×Int×ByteArray×Int×Int×Int×Int×Int×Int×Int×Int×Int×Int×ByteArray×List aM×Int×List aY×List aN×Int×Int×Int×Int×Int×Int×List aV×List aN×List lX×List lX×Int×Int×Int×Int×Int×ByteArray×List aM×Int×List aY×List aN×Int×ByteArray×Int×Int×Int×Int×Int×Unit)
abbrev stE (e:JP):bC:=(e.2.2.2.2.2.2.2.2.2.2.2.2.2.2.2.2.2.2.2.1,e.2.2.2.2.2.2.2.2.2.2.2.2.2.2.2.2.2.2.2.2.1,e.2.2.2.2.2.2.2.2.2.2.2.2.2.2.2.2.2.2.2.2.2.1,e.2.2.2.2.2.2.2.2.2.2.2.2.2.2.2.2.2.2.2.2.2.2.1,e.2.2.2.2.2.2.2.2.2.2.2.2.2.2.2.2.2.2.2.2.2.2.2.1,e.2.2.2.2.2.2.2.2.2.2.2.2.2.2.2.2.2.2.2.2.2.2.2.2.1,e.2.2.2.2.2.2.2.2.2.2.2.2.2.2.2.2.2.2.2.2.2.2.2.2.2.1,e.2.2.2.2.2.2.2.2.2.2.2.2.2.2.2.2.2.2.2.2.2.2.2.2.2.2.1,())
abbrev LG (e:JP):List bi:=e.2.2.2.2.2.2.2.2.2.2.2.2.2.2.2.2.2.2.2.2.2.2.2.2.2.2.2.2.2.2.2.2.2.2.2.2.2.2.2.2.2.2.2.2.2.2.2.2.2.2.2.2.2.2.2.2.2.2.2.2.2.2.2.2.2.2.2.2.2.2.2.2.2.2.2.2.2.2.2.2.2.2.1
theorem NV (z:Int):AB z= [cA (IntKind.i64.wrap (z-ofNat 1))]:=rfl
theorem aab:Iz= [cP]:=rfl
theorem aiu (k a b c:Int):lh k a b c= [cK k a b c]:=rfl
theorem aac (z:Int) (l:List bi):qZ z l.length l=l++ [cA (IntKind.i64.wrap (z-ofNat 1))]:=by unfold qZ;rw [cU,NV]
theorem aiv (z:Int) (l:List bi):dA z l.length l=l++ [cA (IntKind.i64.wrap (z-ofNat 1))]++ [cP]:=by unfold dA;rw [bm,aac,aab]
theorem aad {n:Nat} (h:n≤900):(decide ((n+1)*88≤bf) && decide (n+1≤bf))=true:=pc (by omega) (by omega)
theorem Hm {n:Nat} (h:n≤900):(decide ((n+1)*88≤2^46) && decide (n+1≤2^46))=true:=pc (by omega) (by omega)
abbrev FJ (s:bC) (c:bi) (t:bC) (r:gr):Prop:=Stp s.1 s.2.1 s.2.2.1 s.2.2.2.1 s.2.2.2.2.1 s.2.2.2.2.2.1 s.2.2.2.2.2.2.1 s.2.2.2.2.2.2.2.1 c t r
abbrev BW (fails:List Bool) (s:bC) (l:List bi):=(fails,s.1,s.2.1,s.2.2.1,s.2.2.2.1,s.2.2.2.2.1,s.2.2.2.2.2.1,s.2.2.2.2.2.2.1,s.2.2.2.2.2.2.2.1,ofNat 0,ofNat 0,ofNat 0,ofNat 0,ofNat 0,ofNat 0,l.length,l,())
structure In72 (J:List aj→Prop) (B K W0:Int) (rs0:List aj) (s:bC) (l:List bi):Prop where
 ok:SOk s
 cap:Cap (B+16*l.length) s
 len:(l.length:Int)+3*W (bp s)≤K
 less:W (bp s)<W0∨bp s=rs0
 le:W (bp s)≤W0
 j:J (bp s)
section
variable (fails:List Bool) (J:List aj→Prop) (hJ:∀(s t t3:bC) (r r3:gr) (k:Int),SOk s→s.2.2.2.2.2.2.2.1= []→J (bp s)→FJ s cP t r→r.1=0→SOk t→Fresh t.2.1 t.2.2.1 t.2.2.2.1 t.2.2.2.2.1→(k=3∨(k=4∧fails≠ []))→FJ t (cK k r.2.1 r.2.2.1 r.2.2.2.1) t3 r3→J (bp t3))
 (B K W0:Int) (rs0:List aj) (hK:K≤800) (hB:B+16*(K+10)≤1099511627676)
include hJ hK hB
abbrev aae (e:JP):Prop:=∃s' l',e.1=l'.length∧LG e=l'∧stE e=s'∧In72 J B (K+2) W0 rs0 s' l'∧FF (bp s')
set_option maxHeartbeats 1000000 in
theorem LH (s:bC) (l:List bi) (hi:In72 J B K W0 rs0 s l):
  (∃e,gQ (BW fails s l)=some (.inr e)∧aae J B K W0 rs0 e)∨∃t3 l3,gQ (BW fails s l)=some (.inl (BW fails t3 l3))∧In72 J B K W0 rs0 t3 l3∧W (bp t3)<W (bp s):=by
 obtain⟨hok,hcap,hlen,hless,hle,hj⟩:=hi
 obtain⟨ck,nr,nt,nk,ne,ac,rs,es,_⟩:=s
 have hw0:=(mG hok.fine _ (Nat.le_refl _)).1
 simp only [bp]at hlen hless hle hj hw0
 have hw0:0≤W rs:=hw0
 obtain⟨r1,hd1,hok1⟩:=LC hok
 have hcap1:Cap (B+16*l.length) (mk ck nr nt nk ne (ne-1) rs []):=⟨hcap.nr,hcap.nt,hcap.nk,hcap.ne⟩
 obtain⟨t2,r2,hd2,hok2,hq⟩:=Ti hok1 (hcap.fresh (by omega))
 have g0:decide (l.length≤l.length)=true:=decide_eq_true (Nat.le_refl _)
 have g1:=aad (n:=l.length) (by omega)
 have g2:=Hm (n:=l.length+1) (by omega)
 simp only [mk,cA,cP]at hd1 hd2
 simp only [gQ,tF,qd,BW,zero_add,cU,bm,ce,NV,aac,aiv,aab,aiu,length_append,length_singleton,decide_true,Nat.le_refl,cond_true,g1,g2,hd1,hd2,bind_some]
 rcases hq with⟨h0,rfl,hno⟩|⟨h0,hlt,htok,hck,hst⟩
 ·rw [show(r2.1 !=ofNat 0)=true by simpa using h0,cond_true]
  refine .inl ⟨_,rfl,mk ck nr nt nk ne (ne-1) rs [],l++ [cA (IntKind.i64.wrap (ne-ofNat 1))]++ [cP],by simp,rfl,rfl,⟨hok1,hcap1.mono ?_,?_,hless,hle,hj⟩,hno⟩
  ·simp only [length_append,length_singleton];omega
  ·simp only [length_append,length_singleton,bp,mk];omega
 ·refine .inr ?_
  rw [show(r2.1 !=ofNat 0)=false by rw [h0];rfl,cond_false]
  have hsx1:=iL hok1
  have hcap2:=AZ hsx1 hst (ba rfl) hcap1
  obtain⟨ck2,nr2,nt2,nk2,ne2,ac2,rs2,es2,_⟩:=t2
  have hsx2:=iL hok2
  have hnt1:1≤nt:=hok1.nt.1
  have two:∀k:Int,(k=3∨(k=4∧fails≠ []))→∃t3 r3,eE (mk ck2 nr2 nt2 nk2 ne2 ac2 rs2 es2,cK k r2.2.1 r2.2.2.1 r2.2.2.2.1,())=some (t3,r3,())∧In72 J B K W0 rs0 t3 (l++ [cA (IntKind.i64.wrap (ne-ofNat 1))]++ [cP]++ [cK k r2.2.1 r2.2.2.1 r2.2.2.2.1])∧W (bp t3)<W rs:=fun k hk=>by
   obtain⟨t3,r3,hd3,hok3,hck3,hle3,hst3⟩:=ZY hok2 (cK k r2.2.1 r2.2.2.1 r2.2.2.2.1) rfl (by rcases hk with hk|⟨hk,_⟩;exact .inl hk;exact .inr hk)
   have hj3:=hJ (mk ck nr nt nk ne (ne-1) rs []) (mk ck2 nr2 nt2 nk2 ne2 ac2 rs2 es2) t3 r2 r3 k hok1 rfl hj hst h0 hok2 (hcap2.fresh (by omega)) hk hst3
   have hcap3:=AZ hsx2 hst3 (show k≠1 by rcases hk with hk|⟨hk,_⟩<;>omega) hcap2
   simp only [bp]at hlt
   refine⟨t3,r3,hd3,⟨hok3,hcap3.mono ?_,?_,.inl ?_,?_,hj3⟩,?_⟩
   ·simp only [length_append,length_singleton];omega
   ·simp only [length_append,length_singleton];omega
   ·omega
   ·omega
   ·omega
  have g3:=Hm (n:=l.length+1+1) (by omega)
  by_cases hl0:0<fails.length
  ·have hne0:fails≠ []:=fun e=>by rw [e]at hl0;exact absurd hl0 (Nat.lt_irrefl _)
   have hm0:0≤tmod r2.2.2.2.1 (fails.length:Int):=Int.tmod_nonneg _ (by rw [htok];omega)
   have hm1:tmod r2.2.2.2.1 (fails.length:Int)<(fails.length:Int):=Int.tmod_lt_of_pos _ (by omega)
   have w1:ai 0 (tmod r2.2.2.2.1 (fails.length:Int)) ((fails.length:Int)-1)=true:=by simp only [ai,Bool.and_eq_true,decide_eq_true_eq];omega
   have w2:decide ((tmod r2.2.2.2.1 (fails.length:Int)).toNat<fails.length)=true:=decide_eq_true (by omega)
   have w3:decide ((fails.length:Int)>ofNat 0)=true:=decide_eq_true (by simp only [aF];omega)
   have w4:decide ((fails.length:Int)=0)=false:=decide_eq_false (by omega)
   simp only [w1,w2,w3,w4,cond_true,cond_false,g3]
   cases fails.getD (tmod r2.2.2.2.1 (fails.length:Int)).toNat (aa Sh.b)with
   |true=>
    obtain⟨t3,r3,hd3,hin,hlt3⟩:=two 4 (.inr ⟨rfl,hne0⟩)
    simp only [mk,cK]at hd3
    simp only [cond_true]
    rw [show eE ((ck2,nr2,nt2,nk2,ne2,ac2,rs2,es2,()),(ofNat 4,{data:= #[]},([],()),r2.2.1,r2.2.2.1,r2.2.2.2.1,ofNat 0,ofNat 0,()),())=some (t3,r3,())from hd3,bind_some]
    exact⟨t3,_,by simp only [BW,length_append,length_singleton];try rfl,hin,hlt3⟩
   |false=>
    obtain⟨t3,r3,hd3,hin,hlt3⟩:=two 3 (.inl rfl)
    simp only [mk,cK]at hd3
    simp only [cond_false]
    rw [show eE ((ck2,nr2,nt2,nk2,ne2,ac2,rs2,es2,()),(ofNat 3,{data:= #[]},([],()),r2.2.1,r2.2.2.1,r2.2.2.2.1,ofNat 0,ofNat 0,()),())=some (t3,r3,())from hd3,bind_some]
    exact⟨t3,_,by simp only [BW,length_append,length_singleton];try rfl,hin,hlt3⟩
  ·have w3:decide ((fails.length:Int)>ofNat 0)=false:=decide_eq_false (by simp only [aF];omega)
   simp only [w3,cond_false,g3,cond_true]
   obtain⟨t3,r3,hd3,hin,hlt3⟩:=two 3 (.inl rfl)
   simp only [mk,cK]at hd3
   rw [show eE ((ck2,nr2,nt2,nk2,ne2,ac2,rs2,es2,()),(ofNat 3,{data:= #[]},([],()),r2.2.1,r2.2.2.1,r2.2.2.2.1,ofNat 0,ofNat 0,()),())=some (t3,r3,())from hd3,bind_some]
   exact⟨t3,_,by simp only [BW,length_append,length_singleton];try rfl,hin,hlt3⟩
theorem aaf:∀(m:Nat) (s:bC) (l:List bi),In72 J B K W0 rs0 s l→(W (bp s)).toNat≤m→∃e,fc (BW fails s l)=some e∧aae J B K W0 rs0 e:=fun m=>by
 induction m with
 |zero=>
  intro s l hi hm
  rcases LH fails J hJ B K W0 rs0 hK hB s l hi with⟨e,he,hE⟩|⟨t3,l3,he,hi3,hlt⟩
  ·exact⟨e,by rw [fc,cB,he],hE⟩
  ·have:0≤W (bp t3):=(mG hi3.ok.fine _ (Nat.le_refl _)).1
   omega
 |succ m ih=>
  intro s l hi hm
  rcases LH fails J hJ B K W0 rs0 hK hB s l hi with⟨e,he,hE⟩|⟨t3,l3,he,hi3,hlt⟩
  ·exact⟨e,by rw [fc,cB,he],hE⟩
  ·have:0≤W (bp t3):=(mG hi3.ok.fine _ (Nat.le_refl _)).1
   obtain⟨e,h2,hE⟩:=ih t3 l3 hi3 (by omega)
   refine⟨e,?_,hE⟩
   rw [fc,cB,he]
   exact h2
end
abbrev Rk:Type:=Vz
noncomputable def zo (y270:Rk):Option (bC×Int×Int×Unit):=(match y270 with| .inl a271=>some ((a271.2.2.2.2.2.2.2.2.2.1,a271.2.2.2.2.2.2.2.2.2.2.1,a271.2.2.2.2.2.2.2.2.2.2.2.1,a271.2.2.2.2.2.2.2.2.2.2.2.2.1,a271.2.2.2.2.2.2.2.2.2.2.2.2.2.1,a271.2.2.2.2.2.2.2.2.2.2.2.2.2.2.1,a271.2.2.2.2.2.2.2.2.2.2.2.2.2.2.2.1,a271.2.2.2.2.2.2.2.2.2.2.2.2.2.2.2.2.1,()),a271.1,ofNat 0,())| .inr b271=>(match b271 with| .inl a273=>some ((a273.2.1,a273.2.2.1,a273.2.2.2.1,a273.2.2.2.2.1,a273.2.2.2.2.2.1,a273.2.2.2.2.2.2.1,[],[],()),a273.1,ofNat 0,())| .inr b273=>(match b273 with| .inl a275=>some ((a275.2.1,a275.2.2.1,a275.2.2.2.1,a275.2.2.2.2.1,a275.2.2.2.2.2.1,a275.2.2.2.2.2.2.1,a275.2.2.2.2.2.2.2.1,a275.2.2.2.2.2.2.2.2.1,()),a275.1,ofNat 0,())| .inr b275=>(match b275 with| .inl a277=>some ((a277.2.2.2.2.2.2.2.2.2.1,a277.2.2.2.2.2.2.2.2.2.2.1,a277.2.2.2.2.2.2.2.2.2.2.2.1,a277.2.2.2.2.2.2.2.2.2.2.2.2.1,a277.2.2.2.2.2.2.2.2.2.2.2.2.2.1,a277.2.2.2.2.2.2.2.2.2.2.2.2.2.2.1,a277.2.2.2.2.2.2.2.2.2.2.2.2.2.2.2.1,a277.2.2.2.2.2.2.2.2.2.2.2.2.2.2.2.2.1,()),a277.1,ofNat 0,())| .inr b277=>(match b277 with| .inl a279=>bif decide (0+a279.2.2.2.2.2.2.2.1≤a279.2.2.2.2.2.2.2.2.1.length)then(some ((a279.2.1,a279.2.2.1,a279.2.2.2.1,a279.2.2.2.2.1,a279.2.2.2.2.2.1,a279.2.2.2.2.2.2.1,[],take a279.2.2.2.2.2.2.2.1 (drop 0 a279.2.2.2.2.2.2.2.2.1),()),a279.1,ofNat 0,()))else none| .inr b279=>(match b279 with| .inl a281=>bif decide (0+a281.2.2.2.2.2.2.2.1≤a281.2.2.2.2.2.2.2.2.1.length)then(some ((a281.2.1,a281.2.2.1,a281.2.2.2.1,a281.2.2.2.2.1,a281.2.2.2.2.2.1,a281.2.2.2.2.2.2.1,take a281.2.2.2.2.2.2.2.1 (drop 0 a281.2.2.2.2.2.2.2.2.1),[],()),a281.1,ofNat 0,()))else none| .inr b281=>(match b281 with| .inl a283=>some ((a283.2.2.2.2.2.2.2.2.2.1,a283.2.2.2.2.2.2.2.2.2.2.1,a283.2.2.2.2.2.2.2.2.2.2.2.1,a283.2.2.2.2.2.2.2.2.2.2.2.2.1,a283.2.2.2.2.2.2.2.2.2.2.2.2.2.1,a283.2.2.2.2.2.2.2.2.2.2.2.2.2.2.1,a283.2.2.2.2.2.2.2.2.2.2.2.2.2.2.2.1,a283.2.2.2.2.2.2.2.2.2.2.2.2.2.2.2.2.1,()),a283.1,ofNat 0,())| .inr b283=>bif decide (0+b283.2.2.2.2.2.2.2.1≤b283.2.2.2.2.2.2.2.2.2.1.length)then(bif decide (0+b283.2.2.2.2.2.2.2.2.1≤b283.2.2.2.2.2.2.2.2.2.2.1.length)then(some ((b283.2.1,b283.2.2.1,b283.2.2.2.1,b283.2.2.2.2.1,b283.2.2.2.2.2.1,b283.2.2.2.2.2.2.1,take b283.2.2.2.2.2.2.2.1 (drop 0 b283.2.2.2.2.2.2.2.2.2.1),take b283.2.2.2.2.2.2.2.2.1 (drop 0 b283.2.2.2.2.2.2.2.2.2.2.1),()),b283.1,ofNat 0,()))else none)else none)))))))
theorem f108 (s:bC):∃b,MV (s,())=some (b,())∧(b=true↔Cap 1099511527776 s):=by
 refine⟨_,rfl,⟨fun h=> ?_,fun h=>decide_eq_true ?_⟩⟩
 ·have h:=of_decide_eq_true h
  simp only [aF]at h
  constructor<;>(split at h<;>split at h<;>split at h<;>omega)
 ·obtain⟨h1,h2,h3,h4⟩:=h
  simp only [aF]
  split<;>split<;>split<;>omega
section
variable (fails:List Bool) (J:List aj→Prop) (hJ:∀(s t t3:bC) (r r3:gr) (k:Int),SOk s→s.2.2.2.2.2.2.2.1= []→J (bp s)→FJ s cP t r→r.1=0→SOk t→Fresh t.2.1 t.2.2.1 t.2.2.2.1 t.2.2.2.2.1→(k=3∨(k=4∧fails≠ []))→FJ t (cK k r.2.1 r.2.2.1 r.2.2.2.1) t3 r3→J (bp t3))
 (hT:∀(s t:bC) (z:Int) (r:gr),SOk s→J (bp s)→FJ s (cT z) t r→J (bp t))
include hJ hT
theorem NW {ck nr nt nk ne ac:Int} {rs:List aj} {es:List aC} (h:SOk (mk ck nr nt nk ne ac rs es)) (hj:J rs) {B:Int} (hc:Cap B (mk ck nr nt nk ne ac rs es)) (hW:W rs≤150) (hB:B+16000≤1099511627676):
  ∃t l,yY (mk ck nr nt nk ne ac rs es,fails,())=some (t,l,())∧SOk t∧W (bp t)≤W rs∧(1≤W rs→W (bp t)<W rs)∧(l.length:Int)≤4+3*(W rs-W (bp t))∧Cap (B+16*l.length) t∧J (bp t)∧FF (bp t):=by
 obtain⟨r1,hd1,hok1⟩:=LC h
 obtain⟨z,hz,hz1,hz2,hz3⟩:=LF hok1
 have hc1:Cap B (mk ck nr nt nk ne (ne-1) rs []):=⟨hc.nr,hc.nt,hc.nk,hc.ne⟩
 obtain⟨t2,r2,hd2,hok2,_,hst2,hle2,hor2,hlt2⟩:=Tj hok1 (hc1.fresh (by omega)) hz1 hz2
 have hcap2:=AZ (iL hok1) hst2 (ba rfl) hc1
 have hw2:0≤W (bp t2):=(mG hok2.fine _ (Nat.le_refl _)).1
 have hj2:=hT (mk ck nr nt nk ne (ne-1) rs []) t2 z r2 hok1 hj hst2
 obtain⟨e,hL,s',l',h1,h2,h3,hin,hno⟩:=aaf fails J hJ B (2+3*W (bp t2)) (W (bp t2)) (bp t2) (by omega) (by omega) (W (bp t2)).toNat t2 ([cA (IntKind.i64.wrap (ne-ofNat 1))]++ [cT z]) ⟨hok2,hcap2.mono (by simp only [length_append,length_singleton];omega),by simp only [length_append,length_singleton];omega,.inr rfl,le_refl _,hj2⟩ (Nat.le_refl _)
 have hle:e.1≤(LG e).length:=by rw [h1,h2];exact Nat.le_refl _
 have htk:take e.1 (drop 0 (LG e))=l':=by rw [h1,h2,cU]
 refine⟨stE e,take e.1 (drop 0 (LG e)),?_,?_⟩
 ·simp only [mk,cA,cT]at hd1 hd2 hz hL
  simp only [LG]at hle
  simp only [yY,mk,hd1,bind_some,hz,hd2,bm,ce,NV]
  rw [show fc _=some e from hL]
  simp only [bind_some,zero_add,decide_eq_true hle,cond_true]
 ·rw [htk,h3]
  obtain⟨i1,i2,i3,i4,i5,i6⟩:=hin
  refine⟨i1,by omega,fun hp=> ?_,by omega,i2,i6,hno⟩
  rcases i4 with i4|i4
  ·omega
  ·rcases hor2 with h|h
   ·omega
   ·rw [i4,h]at hno
    refine Classical.byContradiction fun hn=> ?_
    have hnp:pl rs z= []:=Classical.byContradiction fun c=>hn (by have:=hlt2 c;omega)
    have hng:∀n:Nat,n<rs.length→(rs.getD n (aa ab)).2.2.2.1≠1:=fun n hn1 hg=>by
     obtain⟨k,hk,hs⟩:=ZZ (h.symm▸(hok1.fine.2.chk n hn1):ROk (rs.getD n (aa ab))) hg
     have h1:=hno n k hn1 hk
     exact hz3 hno n k hn1 hk (by simp only [bh,aP]at*;omega) hnp
    have:=LD hng
    omega
abbrev T36 (n w i:Int) (s:bC):=(fails,n,w,i,s.1,s.2.1,s.2.2.1,s.2.2.2.1,s.2.2.2.2.1,s.2.2.2.2.2.1,s.2.2.2.2.2.2.1,s.2.2.2.2.2.2.2.1,ofNat 0,ofNat 0,ofNat 0,ofNat 0,ofNat 0,ofNat 0,())
structure P36 (w i n:Int) (s:bC):Prop where
 ok:SOk s
 cap:Cap (1099511527776+16*n) s
 n0:0≤n
 n9:n+9*W (bp s)≤9*w
 wi:W (bp s)≤w-i
 w1:1≤W (bp s)
 i0:0≤i
 j:J (bp s)
abbrev LI (w:Int) (e:Rk):Prop:=∃t n,zo e=some (t,n,ofNat 0,())∧SOk t∧W (bp t)=0∧0≤n∧n≤9*w∧J (bp t)∧((1≤w→FF (bp t)))
theorem zp {w i n:Int} (hw:w≤150) {ck nr nt nk ne ac:Int} {rs:List aj} {es:List aC} (h:P36 J w i n (mk ck nr nt nk ne ac rs es)):
  ∃t l b,yY (mk ck nr nt nk ne ac rs es,fails,())=some (t,l,())∧wx (t,())=some (b,())∧i<w∧IntKind.i64.wrap (n+(l.length:Int))=n+l.length∧IntKind.i64.wrap (i+ofNat 1)=i+1∧W (bp t)<W rs∧SOk t∧J (bp t)∧FF (bp t)∧0≤n+(l.length:Int)∧n+(l.length:Int)≤9*w∧((b=true∧W (bp t)=0)∨(b=false∧P36 J w (i+1) (n+l.length) t)):=by
 obtain⟨ok,cap,n0,n9,wi,w1,i0,hj⟩:=h
 simp only [bp,mk]at n9 wi w1 hj
 obtain⟨t,l,hF,hok,hle,hlt,hl,hcap,hj2,hno⟩:=NW fails J hJ hT ok hj cap (by omega) (by omega)
 obtain⟨b,hb,hbq⟩:=f73 t hok.fine.1
 have hlt:=hlt w1
 have hw0:0≤W (bp t):=(mG hok.fine _ (Nat.le_refl _)).1
 refine⟨t,l,b,hF,hb,by omega,by rw [IntKind.wrap_i64];omega,by rw [IntKind.wrap_i64];simp only [aF];omega,hlt,hok,hj2,hno,by omega,by omega,?_⟩
 cases b with
 |true=>exact .inl ⟨rfl,LD (hbq.1 rfl)⟩
 |false=>
  refine .inr ⟨rfl,hok,hcap.mono (by omega),by omega,by omega,by omega,?_,by omega,hj2⟩
  refine Classical.byContradiction fun hn=> ?_
  exact nomatch (hbq.2 fun n hn1 hg=>hn (Ri hok.fine hn1 hg))
theorem CV (w:Int) (hw:w≤150):∀(m:Nat) (i n:Int) (s:bC),P36 J w i n s→(W (bp s)).toNat≤m→∃e,ch (.inr (.inl (T36 fails n w i s)))=some e∧LI J w e:=fun m=>by
 induction m with
 |zero=>
  intro i n s h hm
  have:=h.w1
  omega
 |succ m ih=>
  intro i n s h hm
  obtain⟨ck,nr,nt,nk,ne,ac,rs,es,_⟩:=s
  obtain⟨t,l,b,hF,hb,hi,e1,e2,hlt,hok,hj,hno,n1,n2,hq⟩:=zp fails J hJ hT hw h
  simp only [mk]at hF
  rw [ch,cB]
  rcases hq with⟨rfl,hz⟩|⟨rfl,hP⟩
  ·simp only [bT,mE,ll,T36,decide_eq_true hi,cond_true,hF,hb,bind_some,e1]
   exact⟨_,rfl,t,n+l.length,rfl,hok,hz,n1,n2,hj,fun _=>hno⟩
  ·simp only [bT,mE,ll,T36,decide_eq_true hi,cond_true,hF,hb,bind_some,e1,e2,cond_false]
   have h1:=hP.w1
   have hm2:(W rs).toNat≤m+1:=hm
   exact ih (i+1) (n+l.length) t hP (by omega)
theorem aag {ck nr nt nk ne ac:Int} {w:Int} (h:SOk (mk ck nr nt nk ne ac [] [])) (hj:J ([]:List aj)) (hc:Cap 1099511527776 (mk ck nr nt nk ne ac [] [])) (hw:W ([]:List aj)=w) (hw2:w≤150):
  ∃e,ch (.inl (fails,ofNat 0,w,ofNat 0,ck,nr,nt,nk,ne,ac,ofNat 0,ofNat 0,ofNat 0,ofNat 0,ofNat 0,ofNat 0,()))=some e∧LI J w e:=by
 have hw0:0≤W ([]:List aj):=(mG h.fine _ (Nat.le_refl _)).1
 rw [ch,cB]
 by_cases c:ofNat 0<w
 ·have hP:P36 J w (ofNat 0) (ofNat 0) (mk ck nr nt nk ne ac [] []):=⟨h,hc.mono (by simp only [aF];omega),le_refl _,by simp only [bp,mk,aF];omega,by simp only [bp,mk,aF];omega,by simp only [bp,mk,aF]at*;omega,le_refl _,hj⟩
  obtain⟨t,l,b,hF,hb,hi,e1,e2,hlt,hok,hj,hno,n1,n2,hq⟩:=zp fails J hJ hT hw2 hP
  simp only [mk]at hF
  rcases hq with⟨rfl,hz⟩|⟨rfl,hP⟩
  ·simp only [bT,iH,hG,decide_eq_true c,cond_true,zero_add,Nat.le_refl,decide_true,cU,hF,hb,bind_some,e1]
   exact⟨_,rfl,t,ofNat 0+l.length,rfl,hok,hz,n1,n2,hj,fun _=>hno⟩
  ·simp only [bT,iH,hG,decide_eq_true c,cond_true,zero_add,Nat.le_refl,decide_true,cU,hF,hb,bind_some,e1,e2,cond_false]
   exact CV fails J hJ hT w hw2 _ (ofNat 0+1) (ofNat 0+l.length) t hP (Nat.le_refl _)
 ·simp only [bT,iH,hG,decide_eq_false c,cond_false]
  refine⟨_,rfl,mk ck nr nt nk ne ac [] [],ofNat 0,?_,h,by simp only [bp,mk,aF]at*;omega,le_refl _,by simp only [aF]at*;omega,hj,fun h1=>by simp only [aF]at*;omega⟩
  simp only [zo,zero_add,Nat.le_refl,decide_true,cond_true,cU]
theorem aah {ck nr nt nk ne ac:Int} {es:List aC} {w:Int} (h:SOk (mk ck nr nt nk ne ac [] es)) (hj:J ([]:List aj)) (hc:Cap 1099511527776 (mk ck nr nt nk ne ac [] es)) (hw:W ([]:List aj)=w) (hw2:w≤150):
  ∃e,ch (.inr (.inr (.inl (fails,ofNat 0,w,ofNat 0,ck,nr,nt,nk,ne,ac,es.length,es,ofNat 0,ofNat 0,ofNat 0,ofNat 0,ofNat 0,ofNat 0,()))))=some e∧LI J w e:=by
 have hw0:0≤W ([]:List aj):=(mG h.fine _ (Nat.le_refl _)).1
 rw [ch,cB]
 by_cases c:ofNat 0<w
 ·have hP:P36 J w (ofNat 0) (ofNat 0) (mk ck nr nt nk ne ac [] es):=⟨h,hc.mono (by simp only [aF];omega),le_refl _,by simp only [bp,mk,aF];omega,by simp only [bp,mk,aF];omega,by simp only [bp,mk,aF]at*;omega,le_refl _,hj⟩
  obtain⟨t,l,b,hF,hb,hi,e1,e2,hlt,hok,hj,hno,n1,n2,hq⟩:=zp fails J hJ hT hw2 hP
  simp only [mk]at hF
  rcases hq with⟨rfl,hz⟩|⟨rfl,hP⟩
  ·simp only [bT,iI,hZ,decide_eq_true c,cond_true,zero_add,Nat.le_refl,decide_true,cU,hF,hb,bind_some,e1]
   exact⟨_,rfl,t,ofNat 0+l.length,rfl,hok,hz,n1,n2,hj,fun _=>hno⟩
  ·simp only [bT,iI,hZ,decide_eq_true c,cond_true,zero_add,Nat.le_refl,decide_true,cU,hF,hb,bind_some,e1,e2,cond_false]
   exact CV fails J hJ hT w hw2 _ (ofNat 0+1) (ofNat 0+l.length) t hP (Nat.le_refl _)
 ·simp only [bT,iI,hZ,decide_eq_false c,cond_false]
  refine⟨_,rfl,mk ck nr nt nk ne ac [] es,ofNat 0,?_,h,by simp only [bp,mk,aF]at*;omega,le_refl _,by simp only [aF]at*;omega,hj,fun h1=>by simp only [aF]at*;omega⟩
  simp only [zo,zero_add,Nat.le_refl,decide_true,cond_true,cU]
theorem aai {ck nr nt nk ne ac:Int} {rs:List aj} {w:Int} (h:SOk (mk ck nr nt nk ne ac rs [])) (hj:J rs) (hc:Cap 1099511527776 (mk ck nr nt nk ne ac rs [])) (hw:W rs=w) (hw2:w≤150):
  ∃e,ch (.inr (.inr (.inr (.inl (fails,ofNat 0,w,ofNat 0,ck,nr,nt,nk,ne,ac,rs.length,rs,ofNat 0,ofNat 0,ofNat 0,ofNat 0,ofNat 0,ofNat 0,())))))=some e∧LI J w e:=by
 have hw0:0≤W rs:=(mG h.fine _ (Nat.le_refl _)).1
 rw [ch,cB]
 by_cases c:ofNat 0<w
 ·have hP:P36 J w (ofNat 0) (ofNat 0) (mk ck nr nt nk ne ac rs []):=⟨h,hc.mono (by simp only [aF];omega),le_refl _,by simp only [bp,mk,aF];omega,by simp only [bp,mk,aF];omega,by simp only [bp,mk,aF]at*;omega,le_refl _,hj⟩
  obtain⟨t,l,b,hF,hb,hi,e1,e2,hlt,hok,hj,hno,n1,n2,hq⟩:=zp fails J hJ hT hw2 hP
  simp only [mk]at hF
  rcases hq with⟨rfl,hz⟩|⟨rfl,hP⟩
  ·simp only [bT,iJ,ic,decide_eq_true c,cond_true,zero_add,Nat.le_refl,decide_true,cU,hF,hb,bind_some,e1]
   exact⟨_,rfl,t,ofNat 0+l.length,rfl,hok,hz,n1,n2,hj,fun _=>hno⟩
  ·simp only [bT,iJ,ic,decide_eq_true c,cond_true,zero_add,Nat.le_refl,decide_true,cU,hF,hb,bind_some,e1,e2,cond_false]
   exact CV fails J hJ hT w hw2 _ (ofNat 0+1) (ofNat 0+l.length) t hP (Nat.le_refl _)
 ·simp only [bT,iJ,ic,decide_eq_false c,cond_false]
  refine⟨_,rfl,mk ck nr nt nk ne ac rs [],ofNat 0,?_,h,by simp only [bp,mk,aF]at*;omega,le_refl _,by simp only [aF]at*;omega,hj,fun h1=>by simp only [aF]at*;omega⟩
  simp only [zo,zero_add,Nat.le_refl,decide_true,cond_true,cU]
theorem aaj {ck nr nt nk ne ac:Int} {rs:List aj} {es:List aC} {w:Int} (h:SOk (mk ck nr nt nk ne ac rs es)) (hj:J rs) (hc:Cap 1099511527776 (mk ck nr nt nk ne ac rs es)) (hw:W rs=w) (hw2:w≤150):
  ∃e,ch (.inr (.inr (.inr (.inr (fails,ofNat 0,w,ofNat 0,ck,nr,nt,nk,ne,ac,rs.length,es.length,rs,es,ofNat 0,ofNat 0,ofNat 0,ofNat 0,ofNat 0,ofNat 0,())))))=some e∧LI J w e:=by
 have hw0:0≤W rs:=(mG h.fine _ (Nat.le_refl _)).1
 rw [ch,cB]
 by_cases c:ofNat 0<w
 ·have hP:P36 J w (ofNat 0) (ofNat 0) (mk ck nr nt nk ne ac rs es):=⟨h,hc.mono (by simp only [aF];omega),le_refl _,by simp only [bp,mk,aF];omega,by simp only [bp,mk,aF];omega,by simp only [bp,mk,aF]at*;omega,le_refl _,hj⟩
  obtain⟨t,l,b,hF,hb,hi,e1,e2,hlt,hok,hj,hno,n1,n2,hq⟩:=zp fails J hJ hT hw2 hP
  simp only [mk]at hF
  rcases hq with⟨rfl,hz⟩|⟨rfl,hP⟩
  ·simp only [bT,iK,ig,decide_eq_true c,cond_true,zero_add,Nat.le_refl,decide_true,cU,hF,hb,bind_some,e1]
   exact⟨_,rfl,t,ofNat 0+l.length,rfl,hok,hz,n1,n2,hj,fun _=>hno⟩
  ·simp only [bT,iK,ig,decide_eq_true c,cond_true,zero_add,Nat.le_refl,decide_true,cU,hF,hb,bind_some,e1,e2,cond_false]
   exact CV fails J hJ hT w hw2 _ (ofNat 0+1) (ofNat 0+l.length) t hP (Nat.le_refl _)
 ·simp only [bT,iK,ig,decide_eq_false c,cond_false]
  refine⟨_,rfl,mk ck nr nt nk ne ac rs es,ofNat 0,?_,h,by simp only [bp,mk,aF]at*;omega,le_refl _,by simp only [aF]at*;omega,hj,fun h1=>by simp only [aF]at*;omega⟩
  simp only [zo,zero_add,Nat.le_refl,decide_true,cond_true,cU]
theorem Tk {ck nr nt nk ne ac:Int} {rs:List aj} {es:List aC} {w:Int} (h:SOk (mk ck nr nt nk ne ac rs es)) (hj:J rs) (hw:W rs=w) (hw2:w≤150):
  (¬Cap 1099511527776 (mk ck nr nt nk ne ac rs es)∧GH (mk ck nr nt nk ne ac rs es,fails,w,())=some (zS,ofNat 0,ofNat 9,()))∨∃t n,GH (mk ck nr nt nk ne ac rs es,fails,w,())=some (t,n,ofNat 0,())∧SOk t∧W (bp t)=0∧0≤n∧n≤9*w∧J (bp t)∧(1≤w→FF (bp t)):=by
 obtain⟨v,hv,hc⟩:=fI (mk ck nr nt nk ne ac rs es) (by have:=h.fine.1;simp only [mk]at this⊢;omega) (we h)
 obtain rfl:v=0:=by
  rcases hc with⟨h1,_⟩|⟨_,hc⟩
  ·exact h1
  ·exact absurd h hc
 have hw0:0≤W rs:=(mG h.fine _ (Nat.le_refl _)).1
 obtain⟨b,hb,hbq⟩:=f108 (mk ck nr nt nk ne ac rs es)
 cases b with
 |false=>
  have Fj:GG (mk ck nr nt nk ne ac rs es,())=some (ofNat 9,()):=by simp only [GG,hv,hb,bind_some,iY,cond_false,Bool.not_false,cond_true]
  refine .inl ⟨fun hcap=>(nomatch hbq.2 hcap),?_⟩
  simp only [mk]at Fj
  simp only [GH,mk,Fj,bind_some]
  rfl
 |true=>
  have Fj:GG (mk ck nr nt nk ne ac rs es,())=some (ofNat 0,()):=by simp only [GG,hv,hb,bind_some,iY,cond_false,Bool.not_true]
  have hcap:=hbq.1 rfl
  have h25:=aZ h
  refine .inr ?_
  simp only [mk]at Fj h25
  simp only [GH,mk,Fj,h25,bind_some,NI,cond_false,decide_eq_false (show¬w<ofNat 0 by simp only [aF];omega),decide_eq_false (show¬w>ofNat 2000 by simp only [aF];omega)]
  cases rs with
  |nil=>
   cases es with
   |nil=>
    obtain⟨e,he,t,n,hf,hq⟩:=aag fails J hJ hT h hj hcap hw hw2
    simp only [isEmpty_nil,cond_true,he,bind_some]
    exact⟨t,n,hf,hq⟩
   |cons e0 es=>
    obtain⟨e,he,t,n,hf,hq⟩:=aah fails J hJ hT h hj hcap hw hw2
    simp only [isEmpty_nil,isEmpty_cons,cond_true,cond_false,he,bind_some]
    exact⟨t,n,hf,hq⟩
  |cons r0 rs=>
   cases es with
   |nil=>
    obtain⟨e,he,t,n,hf,hq⟩:=aai fails J hJ hT h hj hcap hw hw2
    simp only [isEmpty_nil,isEmpty_cons,cond_true,cond_false,he,bind_some]
    exact⟨t,n,hf,hq⟩
   |cons e0 es=>
    obtain⟨e,he,t,n,hf,hq⟩:=aaj fails J hJ hT h hj hcap hw hw2
    simp only [isEmpty_cons,cond_false,he,bind_some]
    exact⟨t,n,hf,hq⟩
end
theorem f35 (s:bC) (fails:List Bool) (hl:s.2.2.2.2.2.2.1.length≤9223372036854775807) (hr:∀r∈s.2.2.2.2.2.2.1,r.2.2.1.1.length≤9223372036854775807):∃b,Po (s,fails,())=some (b,()):=by
 obtain⟨b,hb⟩:=f21 s hl hr
 simp only [Po,hb,bind_some]
 cases b with
 |true=>exact⟨_,rfl⟩
 |false=>
  simp only [cond_false]
  cases decide (((fails.length:Nat):Int)>ofNat 1000)with
  |true=>exact⟨_,rfl⟩
  |false=>
   simp only [cond_false]
   cases decide (((s.2.2.2.2.2.2.1.length:Nat):Int)>ofNat 8)with
   |true=>exact⟨_,rfl⟩
   |false=>exact⟨_,rfl⟩
theorem f9 (s:bC) (fails:List Bool) (hm:s.2.2.2.2.2.2.1.length≤9223372036854775807) (hr:∀r∈s.2.2.2.2.2.2.1,bG r) (hrn:∀r∈s.2.2.2.2.2.2.1,r.2.2.1.1.length≤9223372036854775807):F9 (s,fails,())=some (true,()):=by
 obtain⟨b1,hb1⟩:=f35 s fails hm hrn
 obtain⟨v,hv,hc⟩:=fI s hm hr
 simp only [F9,alive,hb1,bind_some]
 cases b1 with
 |true=>rfl
 |false=>
 simp only [cond_false,Bool.not_true]
 rcases hc with⟨rfl,h⟩|⟨⟨n,rfl⟩,_⟩
 ·obtain⟨ck,nr,nt,nk,ne,ac,rs,es,_⟩:=s
  have Fi:qc (mk ck nr nt nk ne ac rs es,())=some (W rs,ofNat 0,()):=f22 h
  simp only [mk]at Fi
  have hw0:0≤W rs:=(mG h.fine _ (Nat.le_refl _)).1
  obtain⟨w,hw⟩:∃w,W rs=w:=⟨_,rfl⟩
  rw [hw]at Fi
  rw [hw]at hw0
  simp only [Fi,bind_some,NI,cond_false]
  by_cases c:w>ofNat 150
  ·rw [decide_eq_true c,cond_true]
  rw [decide_eq_false c,cond_false]
  rcases Tk fails (fun _=>True) (fun _ _ _ _ _ _ _ _ _ _ _ _ _ _ _=>trivial) (fun _ _ _ _ _ _ _=>trivial) h trivial hw (by simp only [aF]at c;omega)with⟨_,hp⟩|⟨t,n,hp,hok,hz,n0,n9,_⟩
  ·simp only [mk]at hp
   simp only [hp,bind_some]
   rfl
  ·simp only [mk]at hp
   simp only [hp,bind_some,NI,cond_false]
   obtain⟨v,hv,hc⟩:=fI t (by have:=hok.fine.1;omega) (we hok)
   obtain rfl:v=0:=by
    rcases hc with⟨h1,_⟩|⟨_,hc⟩
    ·exact h1
    ·exact absurd hok hc
   obtain⟨b,hb,hbq⟩:=f73 t hok.fine.1
   have hbt:b=true:=hbq.2 fun n hn hg=>by
    have h1:=Ri hok.fine hn hg
    have h2:W t.2.2.2.2.2.2.1=0:=hz
    omega
   subst hbt
   have YD:Pp (t,())=some (true,ofNat 0,()):=by simp only [Pp,hv,hb,bind_some,iY,cond_false]
   have h22t:=f22 hok
   rw [show W t.2.2.2.2.2.2.1=0 from hz]at h22t
   have e9:IntKind.i64.wrap (ofNat 9*w)=9*w:=by rw [IntKind.wrap_i64];simp only [aF]at*;omega
   simp only [YD,h22t,bind_some,e9,decide_eq_true n9]
   rfl
 ·have c0:(ofNat (n+1) !=ofNat 0)=true:=by simp;omega
  have Fi:qc (s,())=some (ofNat 0,ofNat (n+1),()):=by simp only [qc,hv,bind_some,c0,cond_true]
  simp only [Fi,bind_some,c0,cond_true]
theorem pure:∀x:aI (.cons cn (.cons (.row .b) .nil)),rz (.cons cn (.cons (.row .b) .nil)) x→∃y,F9 x=some y∧y.1=true:=by
 intro x hx
 obtain⟨s,fails,_⟩:=x
 obtain⟨⟨_,_,_,_,_,_,⟨hm,hrs⟩,_,_⟩,_⟩:=hx
 exact⟨_,f9 s fails hm (fun r h=>(Rh (hrs r h)).1) (fun r h=>(Rh (hrs r h)).2),rfl⟩
end Go.Proofs.YtbkjflfbgknagaaGreat.fairEnds.Code
