import Derived.Test.YtbkjflfbgknagaaGreatPureFairWell0
set_option maxRecDepth 100000
set_option linter.unusedVariables false
set_option linter.unusedSimpArgs false
set_option linter.constructorNameAsVariable false
namespace Go.Proofs.YtbkjflfbgknagaaGreat.fairWell.Code
open Go Go.Am
open List (length_set mem_set replicate length_append length_singleton append_nil length_drop take take_of_length_le take_length isEmpty isEmpty_nil length_cons length_nil drop_zero drop getD isEmpty_cons not_mem_nil)
open Option (bind_some)
open Int (ofNat le_refl natCast_nonneg toNat_natCast le_trans tmod)
open Nat (not_lt_zero lt_succ_self zero_add lt_trichotomy sub_zero)
abbrev bg (r:aj) (j:Nat):an:=r.2.2.2.2.1.getD j (aa ae)
abbrev bK (r:aj) (j:Nat):aT:=r.2.2.1.1.getD j (aa af)
theorem aK {a b:Int} (h:decide (a=b)=false):¬a=b:=of_decide_eq_false h
theorem dN:bV (ofNat 0):=by decide
theorem ZA {nd:aT} {t:an} (h:ch nd t):ch nd (dr t):=
 ⟨h.1,dN,dN,dN,fun h=>absurd rfl h,fun h=>absurd rfl h,⟨fun h=>absurd rfl h,fun h=>absurd h (aK rfl)⟩,.inr (.inr (.inr (.inr (.inr (.inr rfl)))))⟩
theorem zx {nd:aT} {t:an} (h:ch nd t):0≤t.1∧t.1≤6:=by
 obtain⟨_,_,_,_,_,_,_,h⟩:=h
 omega
theorem vG {A B:List an} {nd:aT} (h:∀j:Nat,(A.getD j (aa ae)).1=4↔(B.getD j (aa ae)).1=4):gk A nd↔gk B nd:=
 ⟨fun h2 v hv=>(h _).1 (h2 v hv),fun h2 v hv=>(h _).2 (h2 v hv)⟩
theorem zy {l:List an} {t:an} (h:t∈l):∃j:Nat,j<l.length∧l.getD j (aa ae)=t:=by
 obtain⟨j,hj,rfl⟩:=List.getElem_of_mem h
 exact⟨j,hj,bD hj _⟩
theorem cO {r:aj} (h:ROk r) {k:Nat} (hk:k<r.2.2.2.2.1.length) (hs:(bg r k).1≤3):r.2.2.2.1=1:=by
 have hm:=aD hk (aa ae)
 unfold bg at hs
 rcases h.st with⟨h1,_⟩|⟨_,h2⟩|⟨_,_,h2⟩|⟨_,_,h2⟩
 ·exact h1
 ·have:=h2 _ hm;omega
 ·have:=h2 _ hm;omega
 ·have:=h2 _ hm;omega
theorem Hv {ns:List aT} {ts ts':List an} (hl:ts.length=ns.length) (ht:∀i:Nat,i<ts.length→ch (ns.getD i (aa af)) (ts.getD i (aa ae))) (h:lN ns ts ts'):∀i:Nat,i<ts'.length→ch (ns.getD i (aa af)) (ts'.getD i (aa ae))∧((ts'.getD i (aa ae)).1=4∨(ts'.getD i (aa ae)).1=5∨(ts'.getD i (aa ae)).1=6):=fun i hi=>by
 rw [h.1]at hi
 rcases h.2 i hi with⟨h1,h2⟩|⟨h1,h2⟩
 ·rw [h2]
  refine⟨ht i hi,?_⟩
  by_cases c4:(ts.getD i (aa ae)).1=4
  ·exact .inl c4
  by_cases c5:(ts.getD i (aa ae)).1=5
  ·exact .inr (.inl c5)
  by_cases c6:(ts.getD i (aa ae)).1=6
  ·exact .inr (.inr c6)
  exact absurd ⟨ht i hi,c4,c5,c6⟩ h1
 ·rw [h2]
  exact⟨ZA h1.1,.inr (.inr rfl)⟩
theorem oJ {r r':aj} {k:Nat} {t':an} (h:ROk r) (h1:r.2.2.2.1=1) (hk:k<r.2.2.2.2.1.length) (h0:(bg r k).1≠0) (h4:(bg r k).1≠4) (ht:ch (bK r k) t') (n0:t'.1≠0) (n4:t'.1≠4) (n6:t'.1≠6) (hT:Turn r k t' r'):ROk r':=by
 obtain⟨id,key,⟨ns,_⟩,st,ts,_⟩:=r
 obtain⟨id',key',ns',st',ts',_⟩:=r'
 obtain⟨e1,e2,e3,e4,_,how⟩:=hT
 simp only at e1 e2 e3 e4 how h1 hk
 subst e1 e2 e3 h1
 obtain⟨q1,q2,q3,q4,q5,q6⟩:=h
 simp only at q1 q2 q3 q4 q5 q6
 simp only [bg,bK]at h0 h4 ht
 have hset:∀i:Nat,i<(ts.set k t').length→ch (ns.getD i (aa af)) ((ts.set k t').getD i (aa ae)):=fun i hi=>by
  rw [length_set]at hi
  rw [bm hk]
  split
  ·rename_i c;rw [c];exact ht
  ·exact q5 i hi
 rcases how with⟨c5,rfl,hd⟩|⟨c5,rfl,how⟩
 ·have hts:=Hv (by rw [length_set];exact q4) hset hd
  refine⟨q1,q2,q3,by simp only;omega,fun i hi=>(hts i hi).1,.inr (.inr (.inl ⟨rfl,⟨t',?_,c5⟩,gS fun i hi=>(hts i hi).2⟩))⟩
  rcases hd.2 k (by rw [length_set];exact hk)with⟨_,h2⟩|⟨h2,_⟩
  ·rw [bm hk,if_pos rfl]at h2
   rw [←h2]
   exact aD (by rw [hd.1,length_set];exact hk) _
  ·rw [bm hk,if_pos rfl]at h2
   exact absurd c5 h2.2.2.1
 ·have hmem:t'∈ts.set k t':=mem_set hk t'
  rcases how with⟨h2,_⟩|⟨h2,rfl⟩
  ·exact absurd (h2 t' hmem) n4
  ·rcases q6 with⟨_,hm,_,hn⟩|⟨h3,_⟩|⟨h3,_⟩|⟨h3,_⟩
   ·refine⟨q1,q2,q3,by simp only;rw [length_set];exact q4,hset,.inl ⟨rfl,fun i hi=> ?_,h2,fun⟨t,ht,h5⟩=> ?_⟩⟩
    ·rw [vG (B:=ts) fun j=>by
      rw [bm hk]
      split
      ·rename_i c;rw [c];exact⟨fun h=>absurd h n4,fun h=>absurd h h4⟩
      ·exact Iff.rfl]
     rw [hm i hi,bm hk]
     split
     ·rename_i c;rw [c];exact⟨fun _=>n0,fun _=>h0⟩
     ·exact Iff.rfl
    ·rcases List.mem_or_eq_of_mem_set ht with h6|rfl
     ·exact hn ⟨t,h6,h5⟩
     ·omega
   ·exact absurd h3 (aK rfl)
   ·exact absurd h3 (aK rfl)
   ·exact absurd h3 (aK rfl)
theorem Kh {r r':aj} (h:ROk r) (h1:r.2.2.2.1=1) (e1:r'.1=r.1) (e2:r'.2.1=r.2.1) (e3:r'.2.2.1=r.2.2.1) (e4:r'.2.2.2.1=4) (hd:lN r.2.2.1.1 r.2.2.2.2.1 r'.2.2.2.2.1):ROk r':=by
 obtain⟨id,key,⟨ns,_⟩,st,ts,_⟩:=r
 obtain⟨id',key',ns',st',ts',_⟩:=r'
 simp only at e1 e2 e3 e4 hd h1
 subst e1 e2 e3 e4 h1
 obtain⟨q1,q2,q3,q4,q5,q6⟩:=h
 simp only at q1 q2 q3 q4 q5 q6
 have hts:=Hv q4 q5 hd
 rcases q6 with⟨_,hm,h4,hn⟩|⟨h3,_⟩|⟨h3,_⟩|⟨h3,_⟩
 ·refine⟨q1,q2,q3,by rw [←q4];exact hd.1,fun i hi=>(hts i hi).1,.inr (.inr (.inr ⟨rfl,?_,gS fun i hi=> ?_⟩))⟩
  ·obtain⟨k,hk,h5⟩:∃k:Nat,k<ts.length∧(ts.getD k (aa ae)).1≠4:=Classical.byContradiction fun hc=>h4 (gS fun j hj=>Classical.byContradiction fun h=>hc ⟨j,hj,h⟩)
   have hk':k<ts'.length:=by rw [hd.1];exact hk
   refine⟨_,aD hk' (aa ae),?_⟩
   rcases hd.2 k hk with⟨_,h2⟩|⟨_,h2⟩
   ·rw [h2]
    have h6:=(hts k hk').2
    rw [h2]at h6
    have:¬(ts.getD k (aa ae)).1=5:=fun h=>hn ⟨_,aD hk _,.inl h⟩
    omega
   ·rw [h2];rfl
  ·have h6:=(hts i hi).2
   rw [hd.1]at hi
   rcases hd.2 i hi with⟨_,h2⟩|⟨_,h2⟩
   ·rw [h2]at h6⊢
    have:¬(ts.getD i (aa ae)).1=5:=fun h=>hn ⟨_,aD hi _,.inl h⟩
    omega
   ·rw [h2];exact .inr rfl
 ·exact absurd h3 (aK rfl)
 ·exact absurd h3 (aK rfl)
 ·exact absurd h3 (aK rfl)
structure OpnP (ns:List aT) (rk:Int) (ts:List an) (j:Nat) (S:Int×List an):Prop where
 lo:rk≤S.1
 hi:S.1≤rk+j
 len:S.2.length=ts.length
 is:∀i:Nat,i<ts.length→(¬(i<j∧(ts.getD i (aa ae)).1=0∧gk ts (ns.getD i (aa af)))∧S.2.getD i (aa ae)=ts.getD i (aa ae))∨((i<j∧(ts.getD i (aa ae)).1=0∧gk ts (ns.getD i (aa af)))∧∃ρ:Int,S.2.getD i (aa ae)=(ofNat 1,ofNat 0,ofNat 0,ofNat 0,ρ,())∧rk≤ρ∧ρ<S.1)
 up:∀i i':Nat,i<i'→i'<ts.length→(ts.getD i (aa ae)).1=0→(S.2.getD i (aa ae)).1=1→(ts.getD i' (aa ae)).1=0→(S.2.getD i' (aa ae)).1=1→dL (S.2.getD i (aa ae))<dL (S.2.getD i' (aa ae))
theorem OpnP.four {ns:List aT} {rk:Int} {ts:List an} {j:Nat} {S:Int×List an} (h:OpnP ns rk ts j S) (i:Nat):(S.2.getD i (aa ae)).1=4↔(ts.getD i (aa ae)).1=4:=by
 by_cases hi:i<ts.length
 ·rcases h.is i hi with⟨_,h2⟩|⟨⟨_,h0,_⟩,ρ,h2,_⟩
  ·rw [h2]
  ·rw [h2,h0];exact⟨fun h=>absurd h (aK rfl),fun h=>absurd h (aK rfl)⟩
 ·have h1:S.2.length≤i:=by have:=h.len;omega
  rw [List.getD_eq_getElem?_getD,List.getElem?_eq_none h1,List.getD_eq_getElem?_getD,List.getElem?_eq_none (by omega)]
theorem FS {ns:List aT} {rk:Int} {ts:List an} (hl:ts.length=ns.length) (h0:0≤rk) (h1:rk+ns.length≤1099511627776) (ht:∀i:Nat,i<ts.length→ch (ns.getD i (aa af)) (ts.getD i (aa ae))):∀j:Nat,j≤ns.length→OpnP ns rk ts j (opn ns (rk,ts) j)
 |0,_=>⟨le_refl _,by simp only [opn];omega,rfl,fun i hi=>.inl ⟨fun h=>absurd h.1 (not_lt_zero _),rfl⟩,fun i i' _ _ h1 h2=>by
   simp only [opn]at h2;omega⟩
 |j+1,hj=>by
  have ih:=FS hl h0 h1 ht j (by omega)
  rw [opn]
  generalize hS:opn ns (rk,ts) j=S at ih
  have hjt:j<ts.length:=by omega
  have hSj:S.2.getD j (aa ae)=ts.getD j (aa ae):=by
   rcases ih.is j hjt with⟨_,h2⟩|⟨⟨h2,_⟩,_⟩
   ·exact h2
   ·exact absurd h2 (Nat.lt_irrefl _)
  have hmet:gk S.2 (ns.getD j (aa af))↔gk ts (ns.getD j (aa af)):=vG ih.four
  rw [hSj,hmet]
  have hlo:=ih.lo
  have hhi:=ih.hi
  have hjS:j<S.2.length:=by rw [ih.len];exact hjt
  by_cases c:(ts.getD j (aa ae)).1=0∧gk ts (ns.getD j (aa af))
  ·have hc:bV S.1:=⟨by omega,by omega⟩
   have hw:IntKind.i64.wrap (S.1+ofNat 1)=S.1+1:=by rw [IntKind.wrap_i64];simp only [aF];omega
   rw [if_pos c,if_pos ⟨hc,ht j hjt⟩,hw]
   refine⟨by simp only;omega,by simp only;omega,by simp only;rw [length_set];exact ih.len,fun i hi=> ?_,fun i i' hii hi' z1 z2 z3 z4=> ?_⟩
   ·simp only
    rw [bm hjS]
    by_cases e:i=j
    ·subst e
     rw [if_pos rfl]
     exact .inr ⟨⟨lt_succ_self _,c⟩,_,rfl,hlo,by omega⟩
    ·rw [if_neg e]
     rcases ih.is i hi with⟨h2,h3⟩|⟨⟨h2,h3⟩,ρ,h4,h5,h6⟩
     ·exact .inl ⟨fun h=>h2 ⟨by omega,h.2⟩,h3⟩
     ·exact .inr ⟨⟨by omega,h3⟩,ρ,h4,h5,by omega⟩
   ·simp only at z2 z4⊢
    rw [bm hjS]at z2 z4⊢
    rw [bm hjS]
    have far:∀a:Nat,a<ts.length→(ts.getD a (aa ae)).1=0→(S.2.getD a (aa ae)).1=1→a<j∧dL (S.2.getD a (aa ae))<S.1:=fun a ha y1 y2=>by
     rcases ih.is a ha with⟨h2,h3⟩|⟨⟨h2,h3⟩,ρ,h4,h5,h6⟩
     ·rw [h3,y1]at y2;exact absurd y2 (aK rfl)
     ·rw [h4];exact⟨h2,h6⟩
    by_cases e:i=j
    ·subst e
     rw [if_neg (by omega)]at z4
     have:=(far i' hi' z3 z4).1
     omega
    ·rw [if_neg e]at z2⊢
     by_cases e':i'=j
     ·subst e'
      rw [if_pos rfl]
      exact(far i (by omega) z1 z2).2
     ·rw [if_neg e']at z4⊢
      exact ih.up i i' hii hi' z1 z2 z3 z4
  ·rw [if_neg c]
   refine⟨hlo,by omega,ih.len,fun i hi=> ?_,ih.up⟩
   rcases ih.is i hi with⟨h2,h3⟩|⟨⟨h2,h3⟩,h4⟩
   ·refine .inl ⟨fun h=> ?_,h3⟩
    by_cases e:i=j
    ·subst e;exact c h.2
    ·exact h2 ⟨by omega,h.2⟩
   ·exact .inr ⟨⟨by omega,h3⟩,h4⟩
theorem Hw {ns:List aT} {rk:Int} {ts:List an} {S:Int×List an} (hn:∀i:Nat,i<ns.length→dZ (ns.getD i (aa af))) (hl:ts.length=ns.length) (h0:0≤rk) (h1:rk+ns.length≤1099511627776) (ht:∀i:Nat,i<ts.length→ch (ns.getD i (aa af)) (ts.getD i (aa ae))) (h:OpnP ns rk ts ns.length S):∀i:Nat,i<S.2.length→ch (ns.getD i (aa af)) (S.2.getD i (aa ae)):=fun i hi=>by
 rw [h.len]at hi
 rcases h.is i hi with⟨_,h3⟩|⟨h2,ρ,h4,h5,h6⟩
 ·rw [h3];exact ht i hi
 ·rw [h4]
  have:=h.hi
  have:=(hn i (by omega)).1.1
  exact⟨⟨dN.1,by simp only [aF];omega⟩,dN,dN,⟨by simp only;omega,by simp only;omega⟩,fun _=>rfl,fun h=>absurd rfl h,⟨fun h=>absurd rfl h,fun h=>absurd h (aK rfl)⟩,.inr (.inl ⟨rfl,by simp only [aF];omega⟩)⟩
theorem LP {ns:List aT} {rk:Int} {ts:List an} {S:Int×List an} (hl:ts.length=ns.length) (hm:∀i:Nat,i<ns.length→(ts.getD i (aa ae)).1≠0→gk ts (ns.getD i (aa af))) (h4:¬∀t∈ts,t.1=4) (hn:¬∃t∈ts,t.1=5∨t.1=6) (h:OpnP ns rk ts ns.length S):Hm ns S.2 1:=by
 refine .inl ⟨rfl,fun i hi=> ?_,fun hc=>h4 (gS fun j hj=>(h.four j).1 (hc _ (aD (by rw [h.len];exact hj) _))),fun⟨t,ht,h5⟩=> ?_⟩
 ·rw [vG h.four]
  rcases h.is i (by omega)with⟨h2,h3⟩|⟨⟨_,h2,h3⟩,ρ,h5,_⟩
  ·rw [h3]
   exact⟨fun h5 h6=>h2 ⟨hi,h6,h5⟩,hm i hi⟩
  ·rw [h5]
   exact⟨fun _=>aK rfl,fun _=>h3⟩
 ·obtain⟨j,hj,rfl⟩:=zy ht
  rw [h.len]at hj
  rcases h.is j hj with⟨_,h3⟩|⟨_,ρ,h6,_⟩
  ·rw [h3]at h5;exact hn ⟨_,aD hj _,h5⟩
  ·rw [h6]at h5;rcases h5 with h5|h5<;>exact absurd h5 (aK rfl)
theorem jW {r r':aj} {k:Nat} {rk rk' tk:Int} (h:ROk r) (h1:r.2.2.2.1=1) (hk:k<r.2.2.2.2.1.length) (hrk:kh rk) (hh:iH (bK r k) (bg r k) tk) (hC:Cmpl r k rk r' rk'):ROk r'∧OpnP r.2.2.1.1 rk (r.2.2.2.2.1.set k (ofNat 4,(bg r k).2.1,ofNat 0,ofNat 0,ofNat 0,())) r.2.2.1.1.length (rk',r'.2.2.2.2.1):=by
 obtain⟨id,key,⟨ns,_⟩,st,ts,_⟩:=r
 obtain⟨id',key',ns',st',ts',_⟩:=r'
 obtain⟨e1,e2,e3,e4,e5,hst,e6,_⟩:=hC
 simp only at e1 e2 e3 e4 e5 e6 hst h1 hk
 subst e1 e2 e3 h1
 obtain⟨q1,q2,q3,q4,q5,q6⟩:=h
 simp only at q1 q2 q3 q4 q5 q6
 simp only [bg,bK]at hh⊢
 generalize hte:(ts.getD k (aa ae))=t at hh e4 e5 hst⊢
 obtain⟨⟨g1,g2,g3,g4,g5,g6,g7,g8⟩,_,_,c2,_⟩:=hh
 have h12:=q3.1.2
 have hrk1:rk+ns.length≤1099511627776:=by have:=hrk.2;omega
 have ht4:ch (ns.getD k (aa af)) (ofNat 4,t.2.1,ofNat 0,ofNat 0,ofNat 0,()):=
  ⟨g1,dN,dN,dN,fun h=>absurd rfl h,fun h=>absurd rfl h,⟨fun h=>absurd rfl h,fun h=>absurd h (aK rfl)⟩,.inr (.inr (.inr (.inr (.inl ⟨rfl,by simp only;omega⟩))))⟩
 generalize hq4:((ofNat 4,t.2.1,ofNat 0,ofNat 0,ofNat 0,()):an)=t4 at ht4 e4 e5 hst⊢
 have c4:t4.1=4:=by rw [←hq4];rfl
 have hset:∀i:Nat,i<(ts.set k t4).length→ch (ns.getD i (aa af)) ((ts.set k t4).getD i (aa ae)):=fun i hi=>by
  rw [length_set]at hi
  rw [bm hk]
  split
  ·rename_i c;rw [c];exact ht4
  ·exact q5 i hi
 have hl:(ts.set k t4).length=ns.length:=by rw [length_set];exact q4
 have ho:=FS hl hrk.1 hrk1 hset ns.length (Nat.le_refl _)
 have heq:opn ns (rk,ts.set k t4) ns.length=(rk',ts'):=Prod.ext e5.symm e4.symm
 rw [heq]at ho
 refine⟨?_,ho⟩
 have htk:=Hw (fun i hi=>jT q3.2.1 hi) hl hrk.1 hrk1 hset ho
 have hsl:=ho.len
 simp only at hsl htk
 rcases q6 with⟨_,hm,hn4,hn⟩|⟨h3,_⟩|⟨h3,_⟩|⟨h3,_⟩
 ·have hmono:∀j:Nat,(ts.getD j (aa ae)).1=4→((ts.set k t4).getD j (aa ae)).1=4:=fun j hj=>by
   rw [bm hk]
   split
   ·exact c4
   ·exact hj
  rcases hst with⟨hall,rfl⟩|⟨hall,rfl⟩
  ·refine⟨q1,q2,q3,by simp only;omega,htk,.inr (.inl ⟨rfl,gS fun j hj=>(ho.four j).2 (hall _ (aD (by rw [←hsl];exact hj) _))⟩)⟩
  ·refine⟨q1,q2,q3,by simp only;omega,htk,LP hl (fun i hi h0 v hv=> ?_) hall (fun⟨t,ht,h5⟩=> ?_) ho⟩
   ·refine hmono _ ((hm i hi).2 ?_ v hv)
    rw [bm hk]at h0
    split at h0
    ·rename_i c;rw [c,hte,c2];decide
    ·exact h0
   ·rcases List.mem_or_eq_of_mem_set ht with h6|rfl
    ·exact hn ⟨t,h6,h5⟩
    ·omega
 ·exact absurd h3 (aK rfl)
 ·exact absurd h3 (aK rfl)
 ·exact absurd h3 (aK rfl)
theorem Cl {id:Int} {key:ByteArray} {ns:List aT} {rk:Int} (h1:bV id) (h2:1≤key.size∧key.size≤24) (hd:qp ns) (hrk:kh rk):ROk (id,key,(ns,()),ofNat 1,(opn ns (rk,replicate ns.length t0) ns.length).2,())∧OpnP ns rk (replicate ns.length t0) ns.length (opn ns (rk,replicate ns.length t0) ns.length):=by
 have h12:=hd.1
 have hrk1:rk+ns.length≤1099511627776:=by have:=hrk.2;omega
 have hl:(replicate ns.length t0).length=ns.length:=List.length_replicate ..
 have h0:∀i:Nat,i<(replicate ns.length t0).length→(replicate ns.length t0).getD i (aa ae)=t0:=fun i hi=>List.eq_of_mem_replicate (aD hi _)
 have ht:∀i:Nat,i<(replicate ns.length t0).length→ch (ns.getD i (aa af)) ((replicate ns.length t0).getD i (aa ae)):=fun i hi=>by
  rw [h0 i hi]
  have:=(jT hd.2.1 (i:=i) (by omega)).1.1
  exact⟨⟨dN.1,by simp only [aF];omega⟩,dN,dN,dN,fun h=>absurd rfl h,fun h=>absurd rfl h,⟨fun h=>absurd rfl h,fun h=>absurd h (aK rfl)⟩,.inl ⟨rfl,rfl⟩⟩
 have ho:=FS hl hrk.1 hrk1 ht ns.length (Nat.le_refl _)
 refine⟨⟨h1,h2,hd,ho.len.trans hl,Hw (fun i hi=>jT hd.2.1 hi) hl hrk.1 hrk1 ht ho,LP hl (fun i hi h=>absurd (by rw [h0 i (by rw [hl];exact hi)];rfl) h) (fun h=> ?_) (fun⟨t,ht,h5⟩=> ?_) ho⟩,ho⟩
 ·have:=h t0 (List.mem_replicate.2 ⟨by omega,rfl⟩)
  exact absurd this (aK rfl)
 ·rw [List.eq_of_mem_replicate ht]at h5
  rcases h5 with h5|h5<;>exact absurd h5 (aK rfl)
theorem nn {r:aj} (h:ROk r):bH r:=by
 have h12:=h.dag.1
 refine⟨fun nd hnd=> ?_,by have:=h.len;omega,gS fun j hj=>(zx (h.tks j hj)).1⟩
 obtain⟨j,hj,rfl⟩:=List.getElem_of_mem hnd
 have:=FP (h.dag.2.1 j hj).2.2
 rw [bD hj]at this
 omega
structure Rel (nt nk nt' nk':Int) (ts ts':List an):Prop where
 len:ts'.length=ts.length
 tk:∀j:Nat,j<ts.length→(ts'.getD j (aa ae)).1=2→((ts.getD j (aa ae)).1=2∧dW (ts'.getD j (aa ae))=dW (ts.getD j (aa ae)))∨(nt≤dW (ts'.getD j (aa ae))∧dW (ts'.getD j (aa ae))<nt')
 rk:∀j:Nat,j<ts.length→(ts'.getD j (aa ae)).1=1→((ts.getD j (aa ae)).1=1∧dL (ts'.getD j (aa ae))=dL (ts.getD j (aa ae)))∨(nk≤dL (ts'.getD j (aa ae))∧dL (ts'.getD j (aa ae))<nk')
 tu:∀i j:Nat,i<j→j<ts.length→(ts'.getD i (aa ae)).1=2→(ts'.getD j (aa ae)).1=2→nt≤dW (ts'.getD i (aa ae))→nt≤dW (ts'.getD j (aa ae))→dW (ts'.getD i (aa ae))≠dW (ts'.getD j (aa ae))
 ru:∀i j:Nat,i<j→j<ts.length→(ts'.getD i (aa ae)).1=1→(ts'.getD j (aa ae)).1=1→nk≤dL (ts'.getD i (aa ae))→nk≤dL (ts'.getD j (aa ae))→dL (ts'.getD i (aa ae))≠dL (ts'.getD j (aa ae))
def oK (nt nk:Int) (t:an):Prop:=(t.1=2→dW t<nt)∧(t.1=1→dL t<nk)
theorem LQ {l:List an}:l.Pairwise NC↔∀i j:Nat,i<j→j<l.length→NC (l.getD i (aa ae)) (l.getD j (aa ae)):=by
 rw [List.pairwise_iff_getElem]
 constructor
 ·intro h i j hij hj
  rw [bD (by omega:i<l.length),bD hj]
  exact h i j (by omega) hj hij
 ·intro h i j hi hj hij
  have:=h i j hij hj
  rwa [bD hi,bD hj]at this
theorem FU {nt nk nt' nk':Int} {ts ts':List an} (h:ts.Pairwise NC) (hl:∀t∈ts,oK nt nk t) (hr:Rel nt nk nt' nk' ts ts'):ts'.Pairwise NC:=by
 rw [LQ]at h⊢
 intro i j hij hj
 rw [hr.len]at hj
 have h1:=h i j hij hj
 have li:=hl _ (aD (show i<ts.length by omega) (aa ae))
 have lj:=hl _ (aD hj (aa ae))
 refine⟨fun⟨a,b,c⟩=> ?_,fun⟨a,b,c⟩=> ?_⟩
 ·rcases hr.tk i (by omega) a with⟨a1,a2⟩|⟨a1,a2⟩<;>rcases hr.tk j hj b with⟨b1,b2⟩|⟨b1,b2⟩
  ·exact h1.1 ⟨a1,b1,by omega⟩
  ·have:=li.1 a1;omega
  ·have:=lj.1 b1;omega
  ·exact hr.tu i j hij hj a b a1 b1 c
 ·rcases hr.rk i (by omega) a with⟨a1,a2⟩|⟨a1,a2⟩<;>rcases hr.rk j hj b with⟨b1,b2⟩|⟨b1,b2⟩
  ·exact h1.2 ⟨a1,b1,by omega⟩
  ·have:=li.2 a1;omega
  ·have:=lj.2 b1;omega
  ·exact hr.ru i j hij hj a b a1 b1 c
theorem Ki {nt nk nt' nk':Int} {ts ts':List an} {y:an} (hy:oK nt nk y) (h:∀x∈ts,NC x y) (hr:Rel nt nk nt' nk' ts ts'):∀x∈ts',NC x y:=fun x hx=>by
 obtain⟨j,hj,rfl⟩:=zy hx
 rw [hr.len]at hj
 have h1:=h _ (aD hj (aa ae))
 refine⟨fun⟨a,b,c⟩=> ?_,fun⟨a,b,c⟩=> ?_⟩
 ·rcases hr.tk j hj a with⟨a1,a2⟩|⟨a1,a2⟩
  ·exact h1.1 ⟨a1,b,by omega⟩
  ·have:=hy.1 b;omega
 ·rcases hr.rk j hj a with⟨a1,a2⟩|⟨a1,a2⟩
  ·exact h1.2 ⟨a1,b,by omega⟩
  ·have:=hy.2 b;omega
theorem Hx {nt nk nt' nk':Int} {ts ts':List an} (h1:nt≤nt') (h2:nk≤nk') (hl:∀t∈ts,oK nt nk t) (hr:Rel nt nk nt' nk' ts ts'):∀t∈ts',oK nt' nk' t:=gS fun j hj=>by
 rw [hr.len]at hj
 have lj:=hl _ (aD hj (aa ae))
 refine⟨fun a=> ?_,fun a=> ?_⟩
 ·rcases hr.tk j hj a with⟨a1,a2⟩|⟨a1,a2⟩
  ·have:=lj.1 a1;omega
  ·exact a2
 ·rcases hr.rk j hj a with⟨a1,a2⟩|⟨a1,a2⟩
  ·have:=lj.2 a1;omega
  ·exact a2
theorem Oh {nt nk:Int} {t:an} (h:da nt nk t):oK nt nk t:=⟨fun _=>h.1,h.2⟩
theorem Oi {nd:aT} {nt nk:Int} {t:an} (hn:1≤nt) (ht:ch nd t) (h:oK nt nk t):da nt nk t:=by
 refine⟨?_,h.2⟩
 by_cases c:t.1=2
 ·exact h.1 c
 ·have:dW t=0:=Classical.byContradiction fun h2=>c (ht.2.2.2.2.2.2.1.1 h2)
  omega
theorem nu {nt nk nt' nk':Int} {ts:List an} {k:Nat} {t:an} (hk:k<ts.length) (ht:t.1=2→((ts.getD k (aa ae)).1=2∧dW t=dW (ts.getD k (aa ae)))∨(nt≤dW t∧dW t<nt')) (hr:t.1=1→((ts.getD k (aa ae)).1=1∧dL t=dL (ts.getD k (aa ae)))∨(nk≤dL t∧dL t<nk')) (hl:∀t∈ts,oK nt nk t):Rel nt nk nt' nk' ts (ts.set k t):=by
 refine⟨length_set,fun j hj h=> ?_,fun j hj h=> ?_,fun i j hij hj h1 h2 h3 h4=> ?_,fun i j hij hj h1 h2 h3 h4=> ?_⟩
 ·rw [bm hk]at h⊢
  split
  ·rename_i c;subst c;rw [if_pos rfl]at h;exact ht h
  ·rename_i c;rw [if_neg c]at h;exact .inl ⟨h,rfl⟩
 ·rw [bm hk]at h⊢
  split
  ·rename_i c;subst c;rw [if_pos rfl]at h;exact hr h
  ·rename_i c;rw [if_neg c]at h;exact .inl ⟨h,rfl⟩
 ·rw [bm hk]at h1 h2 h3 h4
  have li:=(hl _ (aD (show i<ts.length by omega) (aa ae))).1
  have lj:=(hl _ (aD hj (aa ae))).1
  by_cases ci:i=k
  ·rw [if_neg (show¬j=k by omega)]at h2 h4
   have:=lj h2;omega
  ·rw [if_neg ci]at h1 h3
   have:=li h1;omega
 ·rw [bm hk]at h1 h2 h3 h4
  have li:=(hl _ (aD (show i<ts.length by omega) (aa ae))).2
  have lj:=(hl _ (aD hj (aa ae))).2
  by_cases ci:i=k
  ·rw [if_neg (show¬j=k by omega)]at h2 h4
   have:=lj h2;omega
  ·rw [if_neg ci]at h1 h3
   have:=li h1;omega
theorem Hy {nt nk nt' nk':Int} {ns:List aT} {ts ts1 ts':List an} (h:Rel nt nk nt' nk' ts ts1) (hd:lN ns ts1 ts'):Rel nt nk nt' nk' ts ts':=by
 have key:∀j:Nat,j<ts.length→∀s:Int,s≠6→(ts'.getD j (aa ae)).1=s→ts'.getD j (aa ae)=ts1.getD j (aa ae):=fun j hj s hs e=>by
  rcases hd.2 j (by rw [h.len];exact hj)with⟨_,h2⟩|⟨_,h2⟩
  ·exact h2
  ·rw [h2]at e;exact absurd e.symm hs
 refine⟨hd.1.trans h.len,fun j hj e=> ?_,fun j hj e=> ?_,fun i j hij hj e1 e2=> ?_,fun i j hij hj e1 e2=> ?_⟩
 ·have q:=key j hj 2 (by decide) e;rw [q]at e⊢;exact h.tk j hj e
 ·have q:=key j hj 1 (by decide) e;rw [q]at e⊢;exact h.rk j hj e
 ·have q:=key i (by omega) 2 (by decide) e1;have q2:=key j hj 2 (by decide) e2;rw [q]at e1⊢;rw [q2]at e2⊢;exact h.tu i j hij hj e1 e2
 ·have q:=key i (by omega) 1 (by decide) e1;have q2:=key j hj 1 (by decide) e2;rw [q]at e1⊢;rw [q2]at e2⊢;exact h.ru i j hij hj e1 e2
theorem FV {nt nk nt' nk':Int} {ts:List an} (hl:∀t∈ts,oK nt nk t):Rel nt nk nt' nk' ts ts:=by
 refine⟨rfl,fun j hj h=>.inl ⟨h,rfl⟩,fun j hj h=>.inl ⟨h,rfl⟩,fun i j hij hj h1 h2 h3 h4=> ?_,fun i j hij hj h1 h2 h3 h4=> ?_⟩
 ·have:=(hl _ (aD hj (aa ae))).1 h2;omega
 ·have:=(hl _ (aD hj (aa ae))).2 h2;omega
theorem Hz {nt nk nk':Int} {ns:List aT} {ts ts1 ts':List an} (h:Rel nt nk nt nk ts ts1) (hl:∀t∈ts,oK nt nk t) (ho:OpnP ns nk ts1 ns.length (nk',ts')):Rel nt nk nt nk' ts ts':=by
 have h2':∀j:Nat,j<ts.length→(ts'.getD j (aa ae)).1=2→ts'.getD j (aa ae)=ts1.getD j (aa ae):=fun j hj e=>by
  rcases ho.is j (by rw [h.len];exact hj)with⟨_,h2⟩|⟨_,ρ,h2,_⟩
  ·exact h2
  ·simp only at h2;rw [h2]at e;exact absurd e (aK rfl)
 have h1':∀j:Nat,j<ts.length→(ts'.getD j (aa ae)).1=1→(ts'.getD j (aa ae)=ts1.getD j (aa ae))∨((ts1.getD j (aa ae)).1=0∧nk≤dL (ts'.getD j (aa ae))∧dL (ts'.getD j (aa ae))<nk'):=fun j hj e=>by
  rcases ho.is j (by rw [h.len];exact hj)with⟨_,h2⟩|⟨⟨_,h0,_⟩,ρ,h2,h3,h4⟩
  ·exact .inl h2
  ·simp only at h2 h4;rw [h2];exact .inr ⟨h0,h3,h4⟩
 refine⟨ho.len.trans h.len,fun j hj e=> ?_,fun j hj e=> ?_,fun i j hij hj e1 e2=> ?_,fun i j hij hj e1 e2 e3 e4=> ?_⟩
 ·have q:=h2' j hj e;rw [q]at e⊢;exact h.tk j hj e
 ·rcases h1' j hj e with h3|⟨_,h3⟩
  ·rw [h3]at e⊢
   rcases h.rk j hj e with h4|⟨h4,h5⟩
   ·exact .inl h4
   ·omega
  ·exact .inr h3
 ·have q:=h2' i (by omega) e1;have q2:=h2' j hj e2;rw [q]at e1⊢;rw [q2]at e2⊢;exact h.tu i j hij hj e1 e2
 ·have old:∀a:Nat,a<ts.length→(ts'.getD a (aa ae)).1=1→nk≤dL (ts'.getD a (aa ae))→(ts1.getD a (aa ae)).1=0:=fun a ha b c=>by
   rcases h1' a ha b with h3|⟨h3,_⟩
   ·rw [h3]at b c
    rcases h.rk a ha b with⟨h4,h5⟩|⟨h4,h5⟩
    ·have:=(hl _ (aD ha (aa ae))).2 h4;omega
    ·omega
   ·exact h3
  have:=ho.up i j hij (by rw [h.len];exact hj) (old i (by omega) e1 e3) e1 (old j hj e2 e4) e2
  simp only at this
  omega
theorem cH {l:List aj} {i:Nat} (h:i<l.length) (v:aj) (j:Nat):(l.set i v).getD j (aa ab)=if j=i then v else l.getD j (aa ab):=by
 simp only [List.getD_eq_getElem?_getD,List.getElem?_set]
 by_cases e:i=j
 ·subst e;simp [h]
 ·rw [if_neg e,if_neg (fun h=>e h.symm)]
abbrev aN (rs:List aj) (a:Nat):List an:=(rs.getD a (aa ab)).2.2.2.2.1
theorem zA (rs:List aj):(FT rs).Pairwise NC↔(∀a:Nat,a<rs.length→(aN rs a).Pairwise NC)∧∀a b:Nat,a<b→b<rs.length→∀x∈aN rs a,∀y∈aN rs b,NC x y:=by
 unfold FT
 rw [List.pairwise_flatMap,List.pairwise_iff_getElem]
 constructor
 ·intro⟨h1,h2⟩
  refine⟨fun a ha=>h1 _ (aD ha _),fun a b hab hb=> ?_⟩
  have:=h2 a b (by omega) hb hab
  rwa [←bD (by omega:a<rs.length) (aa ab),←bD hb (aa ab)]at this
 ·intro⟨h1,h2⟩
  refine⟨fun r hr=> ?_,fun a b ha hb hab=> ?_⟩
  ·obtain⟨a,ha,rfl⟩:=List.getElem_of_mem hr
   have:=h1 a ha
   rwa [aN,bD ha]at this
  ·have:=h2 a b hab hb
   rwa [aN,aN,bD ha,bD hb]at this
theorem Oj {rs:List aj} {n:Nat} {r':aj} {nt nk nt' nk':Int} (hf:eG rs) (hn:n<rs.length) (hl:∀a:Nat,a<rs.length→∀t∈aN rs a,oK nt nk t) (e1:r'.1=(rs.getD n (aa ab)).1) (e2:r'.2.1=(rs.getD n (aa ab)).2.1) (ho:ROk r') (hr:Rel nt nk nt' nk' (aN rs n) r'.2.2.2.2.1):eG (rs.set n r'):=by
 obtain⟨h32,up,keys,chk,ap⟩:=hf
 have G:=cH hn r'
 have idA:∀a:Nat,((rs.set n r').getD a (aa ab)).1=(rs.getD a (aa ab)).1:=fun a=>by
  rw [G];split
  ·rename_i c;rw [c];exact e1
  ·rfl
 have keyA:∀a:Nat,cU ((rs.set n r').getD a (aa ab))=cU (rs.getD a (aa ab)):=fun a=>by
  rw [G];split
  ·rename_i c;rw [c,cU,e2]
  ·rfl
 rw [zA]at ap
 refine⟨by rw [length_set];exact h32,fun a b hab hb=> ?_,fun a b hab hb=> ?_,fun a ha=> ?_,?_⟩
 ·rw [idA,idA];rw [length_set]at hb;exact up a b hab hb
 ·rw [keyA,keyA];rw [length_set]at hb;exact keys a b hab hb
 ·rw [length_set]at ha;rw [G];split
  ·exact ho
  ·exact chk a ha
 ·rw [zA]
  refine⟨fun a ha=> ?_,fun a b hab hb=> ?_⟩
  ·rw [length_set]at ha
   unfold aN
   rw [G];split
   ·exact FU (ap.1 n hn) (hl n hn) hr
   ·exact ap.1 a ha
  ·rw [length_set]at hb
   unfold aN
   rw [G,G]
   by_cases ca:a=n
   ·rw [if_pos ca,if_neg (by omega)]
    subst ca
    exact fun x hx y hy=>Ki (hl b hb y hy) (fun x hx=>ap.2 a b hab hb x hx y hy) hr x hx
   ·rw [if_neg ca]
    by_cases cb:b=n
    ·rw [if_pos cb]
     subst cb
     exact fun x hx y hy=>(Ki (hl a (by omega) x hx) (fun y hy=>(ap.2 a b hab hb x hx y hy).symm) hr y hy).symm
    ·rw [if_neg cb]
     exact ap.2 a b hab hb
theorem cV {l:List aj} {v:aj} (j:Nat) (h:j<(l++ [v]).length):(l++ [v]).getD j (aa ab)=if j=l.length then v else l.getD j (aa ab):=by
 rw [length_append,length_singleton]at h
 by_cases e:j=l.length
 ·subst e
  rw [if_pos rfl,List.getD_eq_getElem?_getD,List.getElem?_append_right (Nat.le_refl _),Nat.sub_self]
  rfl
 ·rw [if_neg e,List.getD_eq_getElem?_getD,List.getElem?_append_left (by omega),←List.getD_eq_getElem?_getD]
theorem Ok {rs:List aj} {r':aj} {ts:List an} {nt nk nt' nk':Int} (hf:eG rs) (h32:rs.length<32) (hl:∀a:Nat,a<rs.length→∀t∈aN rs a,oK nt nk t) (hid:∀a:Nat,a<rs.length→(rs.getD a (aa ab)).1<r'.1) (hk:∀a:Nat,a<rs.length→cU (rs.getD a (aa ab))≠cU r') (ho:ROk r') (h0:∀t∈ts,t.1=0) (hr:Rel nt nk nt' nk' ts r'.2.2.2.2.1):eG (rs++ [r']):=by
 obtain⟨_,up,keys,chk,ap⟩:=hf
 have hlen:(rs++ [r']).length=rs.length+1:=by rw [length_append,length_singleton]
 have hnc:∀t∈ts,∀y:an,NC t y:=fun t ht y=>by
  have:=h0 t ht
  exact⟨fun⟨a,_⟩=>by omega,fun⟨a,_⟩=>by omega⟩
 have hlow:∀t∈ts,oK nt nk t:=fun t ht=>by
  have:=h0 t ht
  exact⟨fun a=>by omega,fun a=>by omega⟩
 rw [zA]at ap
 refine⟨by omega,fun a b hab hb=> ?_,fun a b hab hb=> ?_,fun a ha=> ?_,?_⟩
 ·rw [cV b hb,cV a (by omega),if_neg (by omega)]
  split
  ·exact hid a (by omega)
  ·exact up a b hab (by omega)
 ·rw [cV b hb,cV a (by omega),if_neg (by omega)]
  split
  ·exact hk a (by omega)
  ·exact keys a b hab (by omega)
 ·rw [cV a ha]
  split
  ·exact ho
  ·exact chk a (by omega)
 ·rw [zA]
  refine⟨fun a ha=> ?_,fun a b hab hb=> ?_⟩
  ·unfold aN
   rw [cV a ha]
   split
   ·exact FU (LQ.2 fun i j hij hj=>hnc _ (aD (by omega) _) _) hlow hr
   ·exact ap.1 a (by omega)
  ·unfold aN
   rw [cV b hb,cV a (by omega),if_neg (by omega)]
   split
   ·exact fun x hx y hy=>(Ki (hl a (by omega) x hx) (fun y hy=>hnc y hy x) hr y hy).symm
   ·exact ap.2 a b hab (by omega)
abbrev dO (ck nr nt nk ne ac:Int) (rs:List aj) (es:List aC):bB:=(ck,nr,nt,nk,ne,ac,rs,es,())
structure SX (ck nr nt nk ne ac:Int) (rs:List aj) (es:List aC):Prop where
 fine:eG rs
 ckI:bV ck
 nrI:bV nr
 nkI:bV nk
 ntI:1≤nt∧nt≤1099511627776
 neI:1≤ne∧ne≤1099511627776
 ack:0≤ac∧ac<ne
 elen:(es.length:Int)=ne-1-ac
 late:∀j:Nat,j<rs.length→(rs.getD j (aa ab)).1<nr∧∀t∈(rs.getD j (aa ab)).2.2.2.2.1,da nt nk t
 evs:∀j:Nat,j<es.length→(es.getD j (aa aw)).1=ac+1+j∧jV nr (es.getD j (aa aw))
theorem ij {ck nr nt nk ne ac:Int} {rs:List aj} {es:List aC} (h:SOk (dO ck nr nt nk ne ac rs es)):SX ck nr nt nk ne ac rs es:=
 ⟨h.fine,h.ck,h.nr,h.nk,h.nt,h.ne,h.ack,h.elen,h.late,h.evs⟩
theorem LR {ck nr nt nk ne ac:Int} {rs:List aj} {es:List aC} (h:SX ck nr nt nk ne ac rs es) (he:es.length≤40):SOk (dO ck nr nt nk ne ac rs es):=
 ⟨h.fine,he,h.ckI,h.nrI,h.nkI,h.ntI,h.neI,h.ack,h.elen,h.late,h.evs⟩
def jX (ne nr:Int) (new:List aC):Prop:=∀j:Nat,j<new.length→(new.getD j (aa aw)).1=ne+j∧jV nr (new.getD j (aa aw))
theorem TA {nr nr':Int} {x:aC} (h:nr≤nr') (he:jV nr x):jV nr' x:=⟨he.1,⟨he.2.1.1,by have:=he.2.1.2;omega⟩,he.2.2⟩
theorem HA {nr nr' ne ac:Int} {es new:List aC} (hl:(es.length:Int)=ne-1-ac) (h:∀j:Nat,j<es.length→(es.getD j (aa aw)).1=ac+1+j∧jV nr (es.getD j (aa aw))) (hn:nr≤nr') (hw:jX ne nr' new):∀j:Nat,j<(es++new).length→((es++new).getD j (aa aw)).1=ac+1+j∧jV nr' ((es++new).getD j (aa aw)):=fun j hj=>by
 rw [length_append]at hj
 by_cases c:j<es.length
 ·rw [List.getD_eq_getElem?_getD,List.getElem?_append_left c,←List.getD_eq_getElem?_getD]
  exact⟨(h j c).1,TA hn (h j c).2⟩
 ·rw [List.getD_eq_getElem?_getD,List.getElem?_append_right (by omega),←List.getD_eq_getElem?_getD]
  have:=hw (j-es.length) (by omega)
  exact⟨by omega,this.2⟩
theorem jY {ne nr kind id i:Int} (h1:1≤kind∧kind≤6) (h2:0≤id∧id<nr) (h3:0≤i∧i<12) (h4:i=0∨kind=2∨kind=3):jX ne nr [(ne,kind,id,i,())]:=fun j hj=>by
 obtain rfl:j=0:=by simp only [length_singleton]at hj;omega
 exact⟨by show ne=ne+((0:Nat):Int);omega,h1,h2,h3,h4⟩
theorem ZB {ne nr:Int} {a b:List aC} (ha:jX ne nr a) (hb:jX (ne+a.length) nr b):jX ne nr (a++b):=fun j hj=>by
 rw [length_append]at hj
 by_cases c:j<a.length
 ·rw [List.getD_eq_getElem?_getD,List.getElem?_append_left c,←List.getD_eq_getElem?_getD]
  exact ha j c
 ·rw [List.getD_eq_getElem?_getD,List.getElem?_append_right (by omega),←List.getD_eq_getElem?_getD]
  have:=hb (j-a.length) (by omega)
  exact⟨by omega,this.2⟩
section
variable {ck nr nt nk ne ac:Int} {rs:List aj} {es:List aC}
theorem SX.low (h:SX ck nr nt nk ne ac rs es):∀a:Nat,a<rs.length→∀t∈aN rs a,oK nt nk t:=fun a ha t ht=>Oh ((h.late a ha).2 t ht)
theorem SX.rok (h:SX ck nr nt nk ne ac rs es) {n:Nat} (hn:n<rs.length):ROk (rs.getD n (aa ab)):=h.fine.2.chk n hn
theorem SX.id (h:SX ck nr nt nk ne ac rs es) {n:Nat} (hn:n<rs.length):0≤(rs.getD n (aa ab)).1∧(rs.getD n (aa ab)).1<nr:=⟨(h.rok hn).id.1,(h.late n hn).1⟩
theorem SX.task (h:SX ck nr nt nk ne ac rs es) {n k:Nat} (hn:n<rs.length) (hk:k<(aN rs n).length):0≤(k:Int)∧(k:Int)<12:=by
 have h1:=(h.rok hn).len
 have h2:=(h.rok hn).dag.1.2
 unfold aN at hk
 omega
theorem HB {nt nk:Int} {r:aj} (hn:1≤nt) (ho:ROk r) (h:∀t∈r.2.2.2.2.1,oK nt nk t):∀t∈r.2.2.2.2.1,da nt nk t:=fun t ht=>by
 obtain⟨j,hj,rfl⟩:=zy ht
 exact Oi hn (ho.tks j hj) (h _ ht)
theorem oL {ck' nt' nk' ne':Int} {new:List aC} (h:SX ck nr nt nk ne ac rs es) {n:Nat} {r':aj} (hn:n<rs.length) (e1:r'.1=(rs.getD n (aa ab)).1) (e2:r'.2.1=(rs.getD n (aa ab)).2.1) (ho:ROk r') (hr:Rel nt nk nt' nk' (aN rs n) r'.2.2.2.2.1)
  (hck:bV ck') (hnt:nt≤nt'∧nt'≤1099511627776) (hnk:nk≤nk'∧nk'≤1099511627776) (hne:ne'=ne+new.length) (hne2:ne'≤1099511627776) (hev:jX ne nr new):SX ck' nr nt' nk' ne' ac (rs.set n r') (es++new):=by
 subst hne
 have hnt1:=h.ntI.1
 have hne1:=h.neI.1
 have hack:=h.ack
 refine⟨Oj h.fine hn h.low e1 e2 ho hr,hck,h.nrI,⟨by have:=h.nkI.1;omega,hnk.2⟩,⟨by omega,hnt.2⟩,⟨by omega,hne2⟩,⟨hack.1,by omega⟩,by rw [length_append];have:=h.elen;omega,fun j hj=> ?_,HA h.elen h.evs (le_refl _) hev⟩
 rw [length_set]at hj
 rw [cH hn]
 split
 ·rename_i c
  subst c
  exact⟨by rw [e1];exact(h.late _ hj).1,HB (by omega) ho (Hx hnt.1 hnk.1 (h.low _ hj) hr)⟩
 ·refine⟨(h.late _ hj).1,fun t ht=> ?_⟩
  obtain⟨a,b⟩:=(h.late _ hj).2 t ht
  exact⟨by omega,fun c=>by have:=b c;omega⟩
theorem ZC {nk':Int} (h:SX ck nr nt nk ne ac rs es) (h32:rs.length<32) {r':aj} {ts:List an} (e1:r'.1=nr) (hk:∀a:Nat,a<rs.length→cU (rs.getD a (aa ab))≠cU r') (ho:ROk r') (h0:∀t∈ts,t.1=0) (hr:Rel nt nk nt nk' ts r'.2.2.2.2.1)
  (hnr:nr+1≤1099511627776) (hnk:nk≤nk'∧nk'≤1099511627776) (hne2:ne+1≤1099511627776):SX ck (nr+1) nt nk' (ne+1) ac (rs++ [r']) (es++ [(ne,ofNat 1,nr,ofNat 0,())]):=by
 have hnr0:=h.nrI.1
 have hack:=h.ack
 have hne1:=h.neI.1
 refine⟨Ok h.fine h32 h.low (fun a ha=>by rw [e1];exact(h.late a ha).1) hk ho h0 hr,h.ckI,⟨by omega,hnr⟩,⟨by have:=h.nkI.1;omega,hnk.2⟩,h.ntI,⟨by omega,hne2⟩,⟨hack.1,by omega⟩,by rw [length_append,length_singleton];have:=h.elen;omega,fun j hj=> ?_,HA h.elen h.evs (by omega) (jY (by decide) ⟨hnr0,by omega⟩ (by decide) (.inl rfl))⟩
 rw [cV j hj]
 rw [length_append,length_singleton]at hj
 split
 ·refine⟨by omega,HB h.ntI.1 ho (Hx (le_refl _) hnk.1 (fun t ht=> ?_) hr)⟩
  have:=h0 t ht
  exact⟨fun a=>by omega,fun a=>by omega⟩
 ·have hj':j<rs.length:=by omega
  refine⟨by have:=(h.late j hj').1;omega,fun t ht=> ?_⟩
  obtain⟨a,b⟩:=(h.late j hj').2 t ht
  exact⟨a,fun c=>by have:=b c;omega⟩
end
theorem oN {nt nk nt' nk':Int} {r r':aj} {k:Nat} {t':an} (hT:Turn r k t' r') (h:Rel nt nk nt' nk' r.2.2.2.2.1 (r.2.2.2.2.1.set k t')):Rel nt nk nt' nk' r.2.2.2.2.1 r'.2.2.2.2.1:=by
 rcases hT.how with⟨_,_,hd⟩|⟨_,he,_⟩
 ·exact Hy h hd
 ·rw [he];exact h
theorem wu {nd:aT} {t t':an} {now:Int} (h:ch nd t) (h1:1≤t.2.1) (hf:tT nd t now t'):ch nd t'∧t'.1≠0∧t'.1≠4∧t'.1≠6∧t'.1≠1∧t'.1≠2:=by
 rcases hf with⟨e,rfl⟩|⟨e,u,hu,rfl⟩
 ·exact⟨⟨h.1,dN,dN,dN,fun h=>absurd rfl h,fun h=>absurd rfl h,⟨fun h=>absurd rfl h,fun h=>absurd h (aK rfl)⟩,.inr (.inr (.inr (.inr (.inr (.inl ⟨rfl,e⟩)))))⟩,aK rfl,aK rfl,aK rfl,aK rfl,aK rfl⟩
 ·exact⟨⟨h.1,hu,dN,dN,fun h=>absurd rfl h,fun _=>.inr rfl,⟨fun h=>absurd rfl h,fun h=>absurd h (aK rfl)⟩,.inr (.inr (.inr (.inl ⟨rfl,h1,by have:=h.1.2;simp only;omega⟩)))⟩,aK rfl,aK rfl,aK rfl,aK rfl,aK rfl⟩
abbrev dw (ne:Int) (r':aj) (k:Nat):aC:=if r'.2.2.2.1=3 then(ne,ofNat 5,r'.1,ofNat 0,())else(ne,ofNat 3,r'.1,(k:Int),())
abbrev ki:=Int×List aj×Int×Int×List aC
inductive Tk1 (now:Int) (p:bY):ki→ki→Prop
 |skip (d:Int) (R:List aj) (nk ne:Int) (w:List aC) (h:∀n k:Nat,n<R.length→(R.getD n (aa ab)).1=p.1→p.2.1=k→k<(aN R n).length→dA ((aN R n).getD k (aa ae)) now=false):Tk1 now p (d,R,nk,ne,w) (d,R,nk,ne,w)
 |wake (d:Int) (R:List aj) (nk ne:Int) (w:List aC) (n k:Nat) (r':aj) (hn:n<R.length) (hid:(R.getD n (aa ab)).1=p.1) (hp:p.2.1=k) (hk:k<(aN R n).length) (hd:dA ((aN R n).getD k (aa ae)) now=true) (h3:((aN R n).getD k (aa ae)).1=3) (hT:Turn (R.getD n (aa ab)) k (ofNat 1,((aN R n).getD k (aa ae)).2.1,ofNat 0,ofNat 0,nk,()) r'):
   Tk1 now p (d,R,nk,ne,w) (d+1,R.set n r',nk+1,ne,w)
 |lapse (d:Int) (R:List aj) (nk ne:Int) (w:List aC) (n k:Nat) (t':an) (r':aj) (hn:n<R.length) (hid:(R.getD n (aa ab)).1=p.1) (hp:p.2.1=k) (hk:k<(aN R n).length) (hd:dA ((aN R n).getD k (aa ae)) now=true) (h2:((aN R n).getD k (aa ae)).1=2) (hf:tT (bK (R.getD n (aa ab)) k) ((aN R n).getD k (aa ae)) now t') (hT:Turn (R.getD n (aa ab)) k t' r'):
   Tk1 now p (d,R,nk,ne,w) (d+1,R.set n r',nk,ne+1,w++ [dw ne r' k])
inductive TkN (now:Int) (P:List bY) (x:ki):Nat→ki→Prop
 |zero:TkN now P x 0 x
 |step (i:Nat) (y z:ki):TkN now P x i y→Tk1 now (P.getD i (aa au)) y z→TkN now P x (i+1) z
theorem oO {t:an} {now:Int} (h:dA t now=true):(t.1=2∨t.1=3)∧t.2.2.1≤now:=by
 unfold dA at h
 simp only [Bool.and_eq_true,Bool.or_eq_true,beq_iff_eq,decide_eq_true_eq]at h
 exact h
section
variable {now nr nt ac:Int} {es:List aC}
theorem ZD {p:bY} {x y:ki} (h:Tk1 now p x y) (hx:SX now nr nt x.2.2.1 x.2.2.2.1 ac x.2.1 (es++x.2.2.2.2)) (h1:x.2.2.1+1≤1099511627776) (h2:x.2.2.2.1+1≤1099511627776):
  SX now nr nt y.2.2.1 y.2.2.2.1 ac y.2.1 (es++y.2.2.2.2)∧x.2.2.1≤y.2.2.1∧y.2.2.1≤x.2.2.1+1∧x.2.2.2.1≤y.2.2.2.1∧y.2.2.2.1≤x.2.2.2.1+1∧y.2.2.2.2.length≤x.2.2.2.2.length+1:=by
 cases h with
 |skip d R nk ne w h=>exact⟨hx,by simp only;omega,by simp only;omega,by simp only;omega,by simp only;omega,by omega⟩
 |wake d R nk ne w n k r' hn hid hp hk hd h3 hT=>
  simp only at hx h1 h2
  have hro:=hx.rok hn
  have htk:=hro.tks k hk
  obtain⟨g1,g2,g3,g4,g5,g6,g7,g8⟩:=htk
  have hst:=cO hro hk (show(bg _ k).1≤3 by simp only [bg];simp only [aN]at h3;omega)
  have hnk:=hx.nkI
  have h3':(bg (R.getD n (aa ab)) k).1=3:=h3
  simp only [bg]at h3'
  have ht:ch (bK (R.getD n (aa ab)) k) (ofNat 1,((aN R n).getD k (aa ae)).2.1,ofNat 0,ofNat 0,nk,()):=
   ⟨g1,dN,dN,hnk,fun _=>rfl,fun h=>absurd rfl h,⟨fun h=>absurd rfl h,fun h=>absurd h (aK rfl)⟩,.inr (.inl ⟨rfl,by simp only [aN,bK];omega⟩)⟩
  have hok:=oJ hro hst hk (by rw [bg,h3'];decide) (by rw [bg,h3'];decide) ht (aK rfl) (aK rfl) (aK rfl) hT
  have:=oL (new:=[]) (nt':=nt) (nk':=nk+1) (ne':=ne) hx hn hT.id hT.key hok (oN hT (nu hk (fun h=>absurd h (aK rfl)) (fun _=>.inr ⟨le_refl _,by simp only [dL];omega⟩) (hx.low n hn))) hx.ckI ⟨le_refl _,hx.ntI.2⟩ ⟨by omega,h1⟩ (by simp) hx.neI.2 (fun j hj=>absurd hj (not_lt_zero _))
  rw [append_nil]at this
  exact⟨this,by simp only;omega,by simp only;omega,by simp only;omega,by simp only;omega,by simp only;omega⟩
 |lapse d R nk ne w n k t' r' hn hid hp hk hd h3 hf hT=>
  simp only at hx h1 h2
  have hro:=hx.rok hn
  have htk:=hro.tks k hk
  have h3':(bg (R.getD n (aa ab)) k).1=2:=h3
  simp only [bg]at h3'
  have hst:=cO hro hk (show(bg _ k).1≤3 by simp only [bg];omega)
  have htr:1≤((aN R n).getD k (aa ae)).2.1:=by
   obtain⟨g1,g2,g3,g4,g5,g6,g7,g8⟩:=htk
   simp only [aN];omega
  obtain⟨q1,q2,q3,q4,q5,q6⟩:=wu htk htr hf
  have hok:=oJ hro hst hk (by rw [bg,h3'];decide) (by rw [bg,h3'];decide) q1 q2 q3 q4 hT
  have hid:=hx.id hn
  have hkk:=hx.task hn hk
  have hev:jX ne nr [dw ne r' k]:=by
   unfold dw
   rw [hT.id]
   split
   ·exact jY (by decide) hid (by decide) (.inl rfl)
   ·exact jY (by decide) hid hkk (.inr (.inr rfl))
  have:=oL (new:=[dw ne r' k]) (nt':=nt) (nk':=nk) (ne':=ne+1) hx hn hT.id hT.key hok (oN hT (nu hk (fun h=>absurd h q6) (fun h=>absurd h q5) (hx.low n hn))) hx.ckI ⟨le_refl _,hx.ntI.2⟩ ⟨le_refl _,hx.nkI.2⟩ rfl h2 hev
  rw [List.append_assoc]at this
  exact⟨this,by simp only;omega,by simp only;omega,by simp only;omega,by simp only;omega,by simp only [length_append,length_singleton];omega⟩
theorem gU {P:List bY} {x:ki} (hx:SX now nr nt x.2.2.1 x.2.2.2.1 ac x.2.1 (es++x.2.2.2.2)):∀(i:Nat) (y:ki),TkN now P x i y→x.2.2.1+i≤1099511627776→x.2.2.2.1+i≤1099511627776→
  SX now nr nt y.2.2.1 y.2.2.2.1 ac y.2.1 (es++y.2.2.2.2)∧x.2.2.1≤y.2.2.1∧y.2.2.1≤x.2.2.1+i∧x.2.2.2.1≤y.2.2.2.1∧y.2.2.2.1≤x.2.2.2.1+i∧y.2.2.2.2.length≤x.2.2.2.2.length+i
 |_,_,.zero,h1,h2=>⟨hx,by omega,by omega,by omega,by omega,by omega⟩
 |_,z,.step i y _ hy h,h1,h2=>by
  obtain⟨q1,q2,q3,q4,q5,q6⟩:=gU hx i y hy (by omega) (by omega)
  obtain⟨p1,p2,p3,p4,p5,p6⟩:=ZD h q1 (by omega) (by omega)
  exact⟨p1,by omega,by omega,by omega,by omega,by omega⟩
end
abbrev kj (a b d:Int):fj:=(ofNat 0,a,b,d,aM,[],())
structure Fresh (nr nt nk ne:Int):Prop where
 nr:nr≤1099511627676
 nt:nt≤1099511627676
 nk:nk≤1099511627676
 ne:ne≤1099511627676
noncomputable abbrev eY (ns:List aT) (nk:Int):Int×List an:=opn ns (nk,replicate ns.length t0) ns.length
def eh (ck nr nt nk ne ac:Int) (rs:List aj) (es:List aC) (c:bj):Prop:=(c.1=2→Fresh nr nt nk ne→1≤c.2.2.2.2.2.2.1→c.2.2.2.2.2.2.1≤1048576→∀n k:Nat,n<rs.length→k<(aN rs n).length→((aN rs n).getD k (aa ae)).1≠1)∧(c.1=3→Fresh nr nt nk ne→es.length≤38→∀n k:Nat,n<rs.length→(rs.getD n (aa ab)).1=c.2.2.2.1→c.2.2.2.2.1=k→k<(aN rs n).length→kh nk→iH (bK (rs.getD n (aa ab)) k) ((aN rs n).getD k (aa ae)) c.2.2.2.2.2.1→False)∧(c.1=7→Fresh nr nt nk ne→ck≤c.2.2.2.2.2.2.2.1→c.2.2.2.2.2.2.2.1≤1099511627776→es.length≤24→False)∧(c.1=10→ac≤c.2.2.2.2.2.2.2.1→c.2.2.2.2.2.2.2.1<ne→False)
section
variable {ck nr nt nk ne ac:Int} {rs:List aj} {es:List aC} {c:bj}
theorem dH (h2:c.1≠2) (h3:c.1≠3) (h7:c.1≠7) (h10:c.1≠10):eh ck nr nt nk ne ac rs es c:=⟨fun h=>absurd h h2,fun h=>absurd h h3,fun h=>absurd h h7,fun h=>absurd h h10⟩
theorem oP (hk:c.1=2) (h:Fresh nr nt nk ne→1≤c.2.2.2.2.2.2.1→c.2.2.2.2.2.2.1≤1048576→∀n k:Nat,n<rs.length→k<(aN rs n).length→((aN rs n).getD k (aa ae)).1≠1):eh ck nr nt nk ne ac rs es c:=⟨fun _=>h,fun h=>by rw [hk]at h;exact absurd h (by decide),fun h=>by rw [hk]at h;exact absurd h (by decide),fun h=>by rw [hk]at h;exact absurd h (by decide)⟩
theorem vH (hk:c.1=3) (h:Fresh nr nt nk ne→es.length≤38→∀n k:Nat,n<rs.length→(rs.getD n (aa ab)).1=c.2.2.2.1→c.2.2.2.2.1=k→k<(aN rs n).length→kh nk→iH (bK (rs.getD n (aa ab)) k) ((aN rs n).getD k (aa ae)) c.2.2.2.2.2.1→False):eh ck nr nt nk ne ac rs es c:=⟨fun h=>by rw [hk]at h;exact absurd h (by decide),fun _=>h,fun h=>by rw [hk]at h;exact absurd h (by decide),fun h=>by rw [hk]at h;exact absurd h (by decide)⟩
theorem lB (hk:c.1=7) (h:Fresh nr nt nk ne→ck≤c.2.2.2.2.2.2.2.1→c.2.2.2.2.2.2.2.1≤1099511627776→es.length≤24→False):eh ck nr nt nk ne ac rs es c:=⟨fun h=>by rw [hk]at h;exact absurd h (by decide),fun h=>by rw [hk]at h;exact absurd h (by decide),fun _=>h,fun h=>by rw [hk]at h;exact absurd h (by decide)⟩
theorem pt (hk:c.1=10) (h:ac≤c.2.2.2.2.2.2.2.1→c.2.2.2.2.2.2.2.1<ne→False):eh ck nr nt nk ne ac rs es c:=⟨fun h=>by rw [hk]at h;exact absurd h (by decide),fun h=>by rw [hk]at h;exact absurd h (by decide),fun h=>by rw [hk]at h;exact absurd h (by decide),fun _=>h⟩
theorem cz (hk:c.1<ofNat 8) (h:¬Fresh nr nt nk ne):eh ck nr nt nk ne ac rs es c:=⟨fun _ hf=>absurd hf h,fun _ hf=>absurd hf h,fun _ hf=>absurd hf h,fun h=>by rw [h]at hk;exact absurd hk (by decide)⟩
end
inductive Stp (ck nr nt nk ne ac:Int) (rs:List aj) (es:List aC) (c:bj):bB→fj→Prop
 |err (n:Nat) (hw:eh ck nr nt nk ne ac rs es c):Stp ck nr nt nk ne ac rs es c (dO ck nr nt nk ne ac rs es) (ofNat (n+1),ofNat 0,ofNat 0,ofNat 0,aM,[],())
 |known (n:Nat) (hk:c.1=1) (hn:n<rs.length) (hkey:cU (rs.getD n (aa ab))=c.2.1.toList):Stp ck nr nt nk ne ac rs es c (dO ck nr nt nk ne ac rs es) (kj (rs.getD n (aa ab)).1 (ofNat 0) (ofNat 0))
 |new (hk:c.1=1) (hf:Fresh nr nt nk ne) (hno:∀n:Nat,n<rs.length→cU (rs.getD n (aa ab))≠c.2.1.toList) (h32:rs.length<32) (hkey:1≤c.2.1.size∧c.2.1.size≤24) (hd:qp c.2.2.1.1) (hrk:kh nk):
   Stp ck nr nt nk ne ac rs es c (dO ck (nr+1) nt (eY c.2.2.1.1 nk).1 (ne+1) ac (rs++ [(nr,c.2.1,c.2.2.1,ofNat 1,(eY c.2.2.1.1 nk).2,())]) (es++ [(ne,ofNat 1,nr,ofNat 0,())])) (kj nr (ofNat 0) (ofNat 0))
 |poll (n k:Nat) (un:Int) (r':aj) (hk:c.1=2) (hf:Fresh nr nt nk ne) (hn:n<rs.length) (hkl:k<(aN rs n).length) (h1:((aN rs n).getD k (aa ae)).1=1) (hun:bV un) (hT:Turn (rs.getD n (aa ab)) k (ofNat 2,((aN rs n).getD k (aa ae)).2.1+1,un,nt,ofNat 0,()) r'):
   Stp ck nr nt nk ne ac rs es c (dO ck nr (nt+1) nk ne ac (rs.set n r') es) (kj (rs.getD n (aa ab)).1 (k:Int) nt)
 |complete (n k:Nat) (r':aj) (rk':Int) (w:List aC) (hk:c.1=3) (hf:Fresh nr nt nk ne) (hn:n<rs.length) (hid:(rs.getD n (aa ab)).1=c.2.2.2.1) (hi:c.2.2.2.2.1=k) (hkl:k<(aN rs n).length) (hrk:kh nk) (hh:iH (bK (rs.getD n (aa ab)) k) ((aN rs n).getD k (aa ae)) c.2.2.2.2.2.1) (hC:Cmpl (rs.getD n (aa ab)) k nk r' rk')
   (hw:(r'.2.2.2.1≠2∧w= [(ne,ofNat 2,r'.1,(k:Int),())])∨(r'.2.2.2.1=2∧w= [(ne,ofNat 2,r'.1,(k:Int),()),(ne+1,ofNat 4,r'.1,ofNat 0,())])):
   Stp ck nr nt nk ne ac rs es c (dO ck nr nt rk' (ne+w.length) ac (rs.set n r') (es++w)) (kj (ofNat 0) (ofNat 0) (ofNat 0))
 |fail (n k:Nat) (t':an) (r':aj) (hk:c.1=4) (hf:Fresh nr nt nk ne) (hn:n<rs.length) (hid:(rs.getD n (aa ab)).1=c.2.2.2.1) (hi:c.2.2.2.2.1=k) (hkl:k<(aN rs n).length) (hh:iH (bK (rs.getD n (aa ab)) k) ((aN rs n).getD k (aa ae)) c.2.2.2.2.2.1) (hfl:tT (bK (rs.getD n (aa ab)) k) ((aN rs n).getD k (aa ae)) ck t') (hT:Turn (rs.getD n (aa ab)) k t' r'):
   Stp ck nr nt nk ne ac rs es c (dO ck nr nt nk (ne+1) ac (rs.set n r') (es++ [dw ne r' k])) (kj (ofNat 0) (ofNat 0) (ofNat 0))
 |beat (n k:Nat) (un:Int) (r':aj) (hk:c.1=5) (hf:Fresh nr nt nk ne) (hn:n<rs.length) (hid:(rs.getD n (aa ab)).1=c.2.2.2.1) (hi:c.2.2.2.2.1=k) (hkl:k<(aN rs n).length) (hh:iH (bK (rs.getD n (aa ab)) k) ((aN rs n).getD k (aa ae)) c.2.2.2.2.2.1) (hun:bV un)
   (hT:Turn (rs.getD n (aa ab)) k (((aN rs n).getD k (aa ae)).1,((aN rs n).getD k (aa ae)).2.1,un,((aN rs n).getD k (aa ae)).2.2.2.1,((aN rs n).getD k (aa ae)).2.2.2.2.1,()) r'):
   Stp ck nr nt nk ne ac rs es c (dO ck nr nt nk ne ac (rs.set n r') es) (kj (ofNat 0) (ofNat 0) (ofNat 0))
 |cancel (n:Nat) (r':aj) (hk:c.1=6) (hf:Fresh nr nt nk ne) (hn:n<rs.length) (hid:(rs.getD n (aa ab)).1=c.2.2.2.1) (h1:(rs.getD n (aa ab)).2.2.2.1=1) (e1:r'.1=(rs.getD n (aa ab)).1) (e2:r'.2.1=(rs.getD n (aa ab)).2.1) (e3:r'.2.2.1=(rs.getD n (aa ab)).2.2.1) (e4:r'.2.2.2.1=4) (hd:lN (rs.getD n (aa ab)).2.2.1.1 (aN rs n) r'.2.2.2.2.1):
   Stp ck nr nt nk ne ac rs es c (dO ck nr nt nk (ne+1) ac (rs.set n r') (es++ [(ne,ofNat 6,r'.1,ofNat 0,())])) (kj (ofNat 0) (ofNat 0) (ofNat 0))
 |tick (l:List bY) (d:Int) (R:List aj) (nk' ne':Int) (w:List aC) (hk:c.1=7) (hf:Fresh nr nt nk ne) (h1:ck≤c.2.2.2.2.2.2.2.1) (h2:c.2.2.2.2.2.2.2.1≤1099511627776) (hl:l.Perm (pl rs c.2.2.2.2.2.2.2.1)) (hs:Ru l) (hN:TkN c.2.2.2.2.2.2.2.1 l (ofNat 0,rs,nk,ne,[]) (min 16 l.length) (d,R,nk',ne',w)):
   Stp ck nr nt nk ne ac rs es c (dO c.2.2.2.2.2.2.2.1 nr nt nk' ne' ac R (es++w)) (kj (ofNat 0) d (ofNat 0))
 |query (n:Nat) (hk:c.1=8) (hn:n<rs.length) (hid:(rs.getD n (aa ab)).1=c.2.2.2.1):Stp ck nr nt nk ne ac rs es c (dO ck nr nt nk ne ac rs es) (ofNat 0,ofNat 0,ofNat 0,ofNat 0,rs.getD n (aa ab),[],())
 |drain (m:Nat) (hk:c.1=9):Stp ck nr nt nk ne ac rs es c (dO ck nr nt nk ne ac rs es) (ofNat 0,ofNat 0,ofNat 0,ofNat 0,aM,es.take m,())
 |ack (hk:c.1=10) (h1:ac≤c.2.2.2.2.2.2.2.1) (h2:c.2.2.2.2.2.2.2.1<ne):Stp ck nr nt nk ne ac rs es c (dO ck nr nt nk ne c.2.2.2.2.2.2.2.1 rs (es.drop (c.2.2.2.2.2.2.2.1-ac).toNat)) (kj (ofNat 0) (ofNat 0) (ofNat 0))
structure Grow (ck nr nt nk ne ac:Int) (t:bB):Prop where
 ck:ck≤t.1
 nr:nr≤t.2.1
 nt:nt≤t.2.2.1
 nk:nk≤t.2.2.2.1
 ne:ne≤t.2.2.2.2.1
 ac:ac≤t.2.2.2.2.2.1
theorem LS {ck nr nt nk ne ac:Int} {rs:List aj} {es:List aC} {c:bj} {t:bB} {r:fj} (h:SX ck nr nt nk ne ac rs es) (hs:Stp ck nr nt nk ne ac rs es c t r):SX t.1 t.2.1 t.2.2.1 t.2.2.2.1 t.2.2.2.2.1 t.2.2.2.2.2.1 t.2.2.2.2.2.2.1 t.2.2.2.2.2.2.2.1∧Grow ck nr nt nk ne ac t:=by
 have refl:∀z:Int,z≤z:=le_refl
 have hnil:∀z,jX ne z []:=fun z j hj=>absurd hj (not_lt_zero _)
 cases hs with
 |err n=>exact⟨h,refl _,refl _,refl _,refl _,refl _,refl _⟩
 |known n=>exact⟨h,refl _,refl _,refl _,refl _,refl _,refl _⟩
 |query n=>exact⟨h,refl _,refl _,refl _,refl _,refl _,refl _⟩
 |drain m=>exact⟨h,refl _,refl _,refl _,refl _,refl _,refl _⟩
 |new hk hf hno h32 hkey hd hrk=>
  obtain⟨f1,f2,f3,f4⟩:=hf
  have h12:=hd.1
  obtain⟨ho,hop⟩:=Cl (id:=nr) h.nrI hkey hd hrk
  have h0:∀t∈replicate c.2.2.1.1.length t0,t.1=0:=fun t ht=>by rw [List.eq_of_mem_replicate ht];rfl
  have hlow:∀t∈replicate c.2.2.1.1.length t0,oK nt nk t:=fun t ht=>by
   have:=h0 t ht
   exact⟨fun a=>by omega,fun a=>by omega⟩
  have hlo:=hop.lo
  have hhi:=hop.hi
  have hrel:=Hz (nk':=(eY c.2.2.1.1 nk).1) (ts':=(eY c.2.2.1.1 nk).2) (FV hlow) hlow hop
  exact⟨ZC (r':=(nr,c.2.1,c.2.2.1,ofNat 1,(eY c.2.2.1.1 nk).2,())) h h32 rfl hno ho h0 hrel (by omega) ⟨hlo,by simp only [dO,eY];omega⟩ (by omega),refl _,by simp only;omega,refl _,hlo,by simp only;omega,refl _⟩
 |poll n k un r' hk hf hn hkl h1 hun hT=>
  obtain⟨f1,f2,f3,f4⟩:=hf
  have hro:=h.rok hn
  obtain⟨g1,g2,g3,g4,g5,g6,g7,g8⟩:=hro.tks k hkl
  have h1':(bg (rs.getD n (aa ab)) k).1=1:=h1
  simp only [bg]at h1'
  have hst:=cO hro hkl (show(bg _ k).1≤3 by simp only [bg];omega)
  have hnt:=h.ntI
  have ht:ch (bK (rs.getD n (aa ab)) k) (ofNat 2,((aN rs n).getD k (aa ae)).2.1+1,un,nt,ofNat 0,()):=
   ⟨⟨by simp only [aN,bK];omega,by simp only [aN,bK];omega⟩,hun,⟨by simp only;omega,by simp only;omega⟩,dN,fun h=>absurd rfl h,fun _=>.inl rfl,⟨fun _=>rfl,fun _=>by simp only;omega⟩,.inr (.inr (.inl ⟨rfl,by simp only [aN,bK];omega⟩))⟩
  have hok:=oJ hro hst hkl (by rw [bg,h1'];decide) (by rw [bg,h1'];decide) ht (aK rfl) (aK rfl) (aK rfl) hT
  have:=oL (new:=[]) (nt':=nt+1) (nk':=nk) (ne':=ne) h hn hT.id hT.key hok (oN hT (nu hkl (fun _=>.inr ⟨le_refl _,by simp only [dW];omega⟩) (fun h=>absurd h (aK rfl)) (h.low n hn))) h.ckI ⟨by omega,by omega⟩ ⟨refl _,h.nkI.2⟩ (by simp) h.neI.2 (hnil _)
  rw [append_nil]at this
  exact⟨this,refl _,refl _,by simp only;omega,refl _,refl _,refl _⟩
 |complete n k r' rk' w hk hf hn hid hi hkl hrk hh hC hw=>
  obtain⟨f1,f2,f3,f4⟩:=hf
  have hro:=h.rok hn
  have hh2:=hh
  obtain⟨_,_,_,c2,_⟩:=hh2
  have c2':(bg (rs.getD n (aa ab)) k).1=2:=c2
  have hst:=cO hro hkl (by rw [c2'];decide)
  obtain⟨hok,hop⟩:=jW hro hst hkl hrk hh hC
  have hlo:=hop.lo
  have hhi:=hop.hi
  simp only at hlo hhi
  have h12:=hro.dag.1.2
  have hrel:=Hz (nu (k:=k) (nt':=nt) (nk':=nk) (t:=(ofNat 4,(bg (rs.getD n (aa ab)) k).2.1,ofNat 0,ofNat 0,ofNat 0,())) hkl (fun h=>absurd h (aK rfl)) (fun h=>absurd h (aK rfl)) (h.low n hn)) (h.low n hn) hop
  have hid':=h.id hn
  have hkk:=h.task hn hkl
  have hwl:w.length≤2:=by rcases hw with⟨_,rfl⟩|⟨_,rfl⟩<;>simp
  have hev:jX ne nr w:=by
   rw [hC.id]at hw
   rcases hw with⟨_,rfl⟩|⟨_,rfl⟩
   ·exact jY (by decide) hid' hkk (.inr (.inl rfl))
   ·exact ZB (a:=[_]) (b:=[_]) (jY (by decide) hid' hkk (.inr (.inl rfl))) (jY (by decide) hid' (by decide) (.inl rfl))
  exact⟨oL h hn hC.id hC.key hok hrel h.ckI ⟨refl _,h.ntI.2⟩ ⟨hlo,by simp only [dO];omega⟩ rfl (by simp only [dO];omega) hev,refl _,refl _,refl _,hlo,by simp only;omega,refl _⟩
 |fail n k t' r' hk hf hn hid hi hkl hh hfl hT=>
  obtain⟨f1,f2,f3,f4⟩:=hf
  have hro:=h.rok hn
  obtain⟨htk,_,_,c2,_⟩:=hh
  have c2':(bg (rs.getD n (aa ab)) k).1=2:=c2
  have hst:=cO hro hkl (by rw [c2'];decide)
  have htr:1≤((aN rs n).getD k (aa ae)).2.1:=by
   obtain⟨g1,g2,g3,g4,g5,g6,g7,g8⟩:=htk
   simp only [aN,bK]at*;omega
  obtain⟨q1,q2,q3,q4,q5,q6⟩:=wu htk htr hfl
  have hok:=oJ hro hst hkl (by rw [c2'];decide) (by rw [c2'];decide) q1 q2 q3 q4 hT
  have hid':=h.id hn
  have hkk:=h.task hn hkl
  have hev:jX ne nr [dw ne r' k]:=by
   unfold dw
   rw [hT.id]
   split
   ·exact jY (by decide) hid' (by decide) (.inl rfl)
   ·exact jY (by decide) hid' hkk (.inr (.inr rfl))
  exact⟨oL h hn hT.id hT.key hok (oN hT (nu hkl (fun h=>absurd h q6) (fun h=>absurd h q5) (h.low n hn))) h.ckI ⟨refl _,h.ntI.2⟩ ⟨refl _,h.nkI.2⟩ rfl (by simp only [dO];omega) hev,refl _,refl _,refl _,refl _,by simp only;omega,refl _⟩
 |beat n k un r' hk hf hn hid hi hkl hh hun hT=>
  obtain⟨f1,f2,f3,f4⟩:=hf
  have hro:=h.rok hn
  obtain⟨htk,_,_,c2,_⟩:=hh
  have c2':(bg (rs.getD n (aa ab)) k).1=2:=c2
  have hst:=cO hro hkl (by rw [c2'];decide)
  obtain⟨g1,g2,g3,g4,g5,g6,g7,g8⟩:=htk
  have ht:ch (bK (rs.getD n (aa ab)) k) (((aN rs n).getD k (aa ae)).1,((aN rs n).getD k (aa ae)).2.1,un,((aN rs n).getD k (aa ae)).2.2.2.1,((aN rs n).getD k (aa ae)).2.2.2.2.1,()):=
   ⟨g1,hun,g3,g4,g5,fun _=>.inl c2,g7,g8⟩
  have hok:=oJ hro hst hkl (by rw [c2'];decide) (by rw [c2'];decide) ht (by rw [c2];decide) (by rw [c2];decide) (by rw [c2];decide) hT
  have:=oL (new:=[]) (nt':=nt) (nk':=nk) (ne':=ne) h hn hT.id hT.key hok (oN hT (nu hkl (fun _=>.inl ⟨c2,rfl⟩) (fun h=>by simp only at h;rw [c2]at h;exact absurd h (aK rfl)) (h.low n hn))) h.ckI ⟨refl _,h.ntI.2⟩ ⟨refl _,h.nkI.2⟩ (by simp) h.neI.2 (hnil _)
  rw [append_nil]at this
  exact⟨this,refl _,refl _,refl _,refl _,refl _,refl _⟩
 |cancel n r' hk hf hn hid h1 e1 e2 e3 e4 hd=>
  obtain⟨f1,f2,f3,f4⟩:=hf
  have hro:=h.rok hn
  have hok:=Kh hro h1 e1 e2 e3 e4 hd
  have hev:jX ne nr [(ne,ofNat 6,r'.1,ofNat 0,())]:=by
   rw [e1]
   exact jY (by decide) (h.id hn) (by decide) (.inl rfl)
  exact⟨oL (nt':=nt) (nk':=nk) h hn e1 e2 hok (Hy (FV (h.low n hn)) hd) h.ckI ⟨refl _,h.ntI.2⟩ ⟨refl _,h.nkI.2⟩ rfl (by simp only [dO];omega) hev,refl _,refl _,refl _,refl _,by simp only;omega,refl _⟩
 |tick l d R nk' ne' w hk hf h1 h2 hl hs' hN=>
  obtain⟨f1,f2,f3,f4⟩:=hf
  have hx:SX c.2.2.2.2.2.2.2.1 nr nt nk ne ac rs (es++ []):=by
   rw [append_nil]
   exact⟨h.fine,⟨by have:=h.ckI.1;omega,h2⟩,h.nrI,h.nkI,h.ntI,h.neI,h.ack,h.elen,h.late,h.evs⟩
  obtain⟨q1,q2,q3,q4,q5,q6⟩:=gU (x:=(ofNat 0,rs,nk,ne,[])) hx _ _ hN (by simp only;omega) (by simp only;omega)
  exact⟨q1,h1,refl _,refl _,q2,q4,refl _⟩
 |ack hk h1 h2=>
  have hel:=h.elen
  have hack:=h.ack
  refine⟨⟨h.fine,h.ckI,h.nrI,h.nkI,h.ntI,h.neI,⟨by simp only;omega,h2⟩,by rw [length_drop];simp only;omega,h.late,fun j hj=> ?_⟩,refl _,refl _,refl _,refl _,refl _,h1⟩
  simp only [length_drop]at hj⊢
  have:=h.evs ((c.2.2.2.2.2.2.2.1-ac).toNat+j) (by omega)
  rw [List.getD_eq_getElem?_getD,List.getElem?_drop,←List.getD_eq_getElem?_getD]
  exact⟨by omega,this.2⟩
abbrev oQ (v:Int):fj:=(v,ofNat 0,ofNat 0,ofNat 0,aM,[],())
abbrev mk (ck nr nt nk ne ac:Int) (rs:List aj) (es:List aC):bB:=(ck,nr,nt,nk,ne,ac,rs,es,())
theorem tr_ok {P:Prop} {F:Option (an×Int×Unit)} {t t':an} (h:lz F P t) (he:F=some (t',0,())):P∧t'=t:=by
 rcases h with⟨hp,h⟩|⟨_,n,h⟩
 ·rw [he]at h
  injection h with h
  exact⟨hp,(Prod.mk.inj h).1⟩
 ·rw [he]at h
  injection h with h
  have:=(Prod.mk.inj (Prod.mk.inj h).2).1
  simp only [aF]at this
  omega
theorem xM {P:Prop} {F:Option (an×Int×Unit)} {t:an} (h:lz F P t) (ht:P→0≤t.1):(∃t',F=some (t',0,())∧0≤t'.1)∨∃n:Nat,F=some (t0,ofNat (n+1),()):=by
 rcases h with⟨hp,h⟩|⟨_,h⟩
 ·exact .inl ⟨t,h,ht hp⟩
 ·exact .inr h
theorem Bp {nd:aT} {t t':an} {now:Int} (h:tT nd t now t'):0≤t'.1:=by
 rcases h with⟨_,rfl⟩|⟨_,u,_,rfl⟩
 ·exact natCast_nonneg 5
 ·exact natCast_nonneg 3
theorem iQ {r:aj} (h:ROk r) {k:Nat} (hk:k<r.2.2.2.2.1.length):dZ (bK r k):=jT h.dag.2.1 (by have:=h.len;omega)
theorem qt {r:aj} (h:ROk r) {k:Nat} (hk:k<r.2.2.2.2.1.length):0≤(bg r k).1:=(zx (h.tks k hk)).1
section
variable {S R:Type} {G:S→R→Prop}
theorem zB {K:aj×Int×Unit→Option (S×R×Unit)} (r:aj) (hr:bH r) (i tk un:Int) (hok:∀(r':aj) (k:Nat),i=k→k<r.2.2.2.2.1.length→(bg r k).1=1→bV un→Turn r k (ofNat 2,(bg r k).2.1+1,un,tk,ofNat 0,()) r'→∃t q,K (r',0,())=some (t,q,())∧G t q) (herr:(ROk r→¬(∃k:Nat,i=k∧k<r.2.2.2.2.1.length∧(bg r k).1=1∧bV un∧1≤tk∧bV tk))→∀n:Nat,∃t q,K (aM,ofNat (n+1),())=some (t,q,())∧G t q):
  ∃t q,(xD (r,i,tk,un,())).bind K=some (t,q,())∧G t q:=by
 obtain⟨r',e',hc,hq⟩:=lA r hr i (fun nd t=>uS (nd,t,tk,un,())) (fun nd t h1 h2 h3=>xM (f167 nd t tk un h1 h2) fun _=>natCast_nonneg 2)
 rw [←FO]at hc
 rw [hc]
 rcases hq with⟨rfl,hro,_,k,t',hi,hk,hD,ht⟩|⟨⟨m,rfl⟩,rfl,hno⟩
 ·obtain⟨⟨_,_,hun,htk,h1⟩,rfl⟩:=tr_ok (f167 _ _ tk un (iQ hro hk) (qt hro hk)) hD
  have h5:=FN (iQ hro hk) htk
  have h0:=htk.1.1
  have e:IntKind.i64.wrap ((bg r k).2.1+ofNat 1)=(bg r k).2.1+1:=by rw [IntKind.wrap_i64];simp only [aF];omega
  rw [e]at ht
  exact hok r' k hi hk h1 hun ht
 ·refine herr (fun hro ⟨k,hi,hk,h1,hun,htk,htk2⟩=>hno ⟨hro,cO hro hk (by rw [h1];decide),k,(ofNat 2,IntKind.i64.wrap ((bg r k).2.1+ofNat 1),un,tk,ofNat 0,()),hi,hk,?_⟩) m
  rcases f167 (bK r k) (bg r k) tk un (iQ hro hk) (qt hro hk)with⟨_,hP⟩|⟨hP,_⟩
  ·exact hP
  ·exact absurd ⟨htk,htk2,hun,hro.tks k hk,h1⟩ hP
theorem Cm {K:aj×Int×Unit→Option (S×R×Unit)} (r:aj) (hr:bH r) (i tk un:Int) (hok:∀(r':aj) (k:Nat),i=k→k<r.2.2.2.2.1.length→iH (bK r k) (bg r k) tk→bV un→Turn r k ((bg r k).1,(bg r k).2.1,un,(bg r k).2.2.2.1,(bg r k).2.2.2.2.1,()) r'→∃t q,K (r',0,())=some (t,q,())∧G t q) (herr:∀n:Nat,∃t q,K (aM,ofNat (n+1),())=some (t,q,())∧G t q):
  ∃t q,(EZ (r,i,tk,un,())).bind K=some (t,q,())∧G t q:=by
 obtain⟨r',e',hc,hq⟩:=lA r hr i (fun nd t=>Az (nd,t,tk,un,())) (fun nd t h1 h2 h3=>xM (f173 nd t tk un h1 h2) fun _=>h2)
 rw [←Tv]at hc
 rw [hc]
 rcases hq with⟨rfl,hro,_,k,t',hi,hk,hD,ht⟩|⟨⟨m,rfl⟩,rfl,_⟩
 ·obtain⟨⟨hun,hh⟩,rfl⟩:=tr_ok (f173 _ _ tk un (iQ hro hk) (qt hro hk)) hD
  exact hok r' k hi hk hh hun ht
 ·exact herr m
theorem Cn {K:aj×Int×Unit→Option (S×R×Unit)} (r:aj) (hr:bH r) (i tk now:Int) (hok:∀(r':aj) (k:Nat) (t':an),i=k→k<r.2.2.2.2.1.length→iH (bK r k) (bg r k) tk→tT (bK r k) (bg r k) now t'→Turn r k t' r'→∃t q,K (r',0,())=some (t,q,())∧G t q) (herr:∀n:Nat,∃t q,K (aM,ofNat (n+1),())=some (t,q,())∧G t q):
  ∃t q,(uX (r,i,tk,now,())).bind K=some (t,q,())∧G t q:=by
 obtain⟨r',e',hc,hq⟩:=lA r hr i (fun nd t=>xA (nd,t,tk,now,())) (fun nd t h1 h2 h3=>by
  obtain⟨t',h,h4⟩:=f171 nd t tk now h1 h2
  exact xM h fun hp=>Bp (h4 hp))
 rw [←Hr]at hc
 rw [hc]
 rcases hq with⟨rfl,hro,_,k,t',hi,hk,hD,ht⟩|⟨⟨m,rfl⟩,rfl,_⟩
 ·obtain⟨t2,h2,h3⟩:=f171 (bK r k) (bg r k) tk now (iQ hro hk) (qt hro hk)
  obtain⟨hp,rfl⟩:=tr_ok h2 hD
  exact hok r' k t' hi hk hp.2 (h3 hp) ht
 ·exact herr m
theorem wV {K:aj×Int×Unit→Option (S×R×Unit)} (r:aj) (hr:bH r) (hok:∀r':aj,r.2.2.2.1=1→r'.1=r.1→r'.2.1=r.2.1→r'.2.2.1=r.2.2.1→r'.2.2.2.1=4→lN r.2.2.1.1 r.2.2.2.2.1 r'.2.2.2.2.1→∃t q,K (r',0,())=some (t,q,())∧G t q) (herr:∀n:Nat,∃t q,K (aM,ofNat (n+1),())=some (t,q,())∧G t q):
  ∃t q,(xC (r,())).bind K=some (t,q,())∧G t q:=by
 obtain⟨r',e',hc,hq⟩:=LO r hr
 rw [hc]
 rcases hq with⟨rfl,hro,h1,h2,h3,h4,h5,h6,_⟩|⟨⟨m,rfl⟩,rfl,_⟩
 ·exact hok r' h1 h2 h3 h4 h5 h6
 ·exact herr m
theorem tU {K:aj×Int×Int×Unit→Option (S×R×Unit)} (r:aj) (hr:bH r) (i tk rk:Int) (hok:∀(r':aj) (rk':Int) (k:Nat),i=k→k<r.2.2.2.2.1.length→kh rk→iH (bK r k) (bg r k) tk→Cmpl r k rk r' rk'→∃t q,K (r',rk',0,())=some (t,q,())∧G t q) (herr:(ROk r→¬(r.2.2.2.1=1∧kh rk∧∃k:Nat,i=k∧k<r.2.2.2.2.1.length∧iH (bK r k) (bg r k) tk))→∀r' rk' (n:Nat),∃t q,K (r',rk',ofNat (n+1),())=some (t,q,())∧G t q):
  ∃t q,(xB (r,i,tk,rk,())).bind K=some (t,q,())∧G t q:=by
 obtain⟨r',rk',e',hc,hq⟩:=Gr r hr i tk rk
 rw [hc]
 rcases hq with⟨rfl,hro,_,hrk,k,hi,hk,hh,ht⟩|⟨⟨m,rfl⟩,hno⟩
 ·exact hok r' rk' k hi hk hrk hh ht
 ·exact herr (fun hro h=>hno ⟨hro,h⟩) r' rk' m
theorem mZ {K:aj×Int×Int×Unit→Option (S×R×Unit)} (id:Int) (key:ByteArray) (sp:List aT×Unit) (hln:∀nd∈sp.1,nd.1.length≤9223372036854775807) (rk:Int) (hok:1≤key.size∧key.size≤24→qp sp.1→kh rk→∃t q,K ((id,key,sp,ofNat 1,(eY sp.1 rk).2,()),(eY sp.1 rk).1,0,())=some (t,q,())∧G t q) (herr:∀r' rk' (n:Nat),∃t q,K (r',rk',ofNat (n+1),())=some (t,q,())∧G t q):
  ∃t q,(rv (id,key,sp,rk,())).bind K=some (t,q,())∧G t q:=by
 obtain⟨ns,_⟩:=sp
 obtain⟨r',rk',e,hc,hq⟩:=FQ id key ns hln rk
 rw [hc]
 rcases hq with⟨rfl,_,h1,hd,hk,rfl,rfl⟩|⟨⟨m,rfl⟩,_⟩
 ·exact hok h1 hd hk
 ·exact herr r' rk' m
end
theorem wv (r:aj) (h:ROk r) (k:Nat) (rk now:Int) (hk:k<r.2.2.2.2.1.length) (h3:(bg r k).1=3) (hd:dA (bg r k) now=true) (hrk:bV rk) (hnow:bV now):∃r',om (r,(k:Int),rk,now,())=some (r',0,())∧Turn r k (ofNat 1,(bg r k).2.1,ofNat 0,ofNat 0,rk,()) r':=by
 have f:=fun nd t h1 h2=>f216 nd t rk now h1 h2
 obtain⟨r',e',hc,hq⟩:=lA r (nn h) k (fun nd t=>AA (nd,t,rk,now,())) (fun nd t h1 h2 h3=>xM (f nd t h1 h2) fun _=>natCast_nonneg 1)
 rw [←Tw]at hc
 have hP:=f (bK r k) (bg r k) (iQ h hk) (qt h hk)
 rcases hq with⟨rfl,hro,_,k',t',hi,_,hD,ht⟩|⟨_,_,hno⟩
 ·obtain rfl:k=k':=by omega
  obtain⟨_,rfl⟩:=tr_ok hP hD
  exact⟨r',hc,ht⟩
 ·refine absurd ⟨h,cO h hk (by rw [h3];decide),k,(ofNat 1,(bg r k).2.1,ofNat 0,ofNat 0,rk,()),rfl,hk,?_⟩ hno
  rcases hP with⟨_,hP⟩|⟨hP,_⟩
  ·exact hP
  ·exact absurd ⟨hrk,hnow,h.tks k hk,h3,hd⟩ hP
theorem rH (r:aj) (h:ROk r) (k:Nat) (now:Int) (hk:k<r.2.2.2.2.1.length) (h2:(bg r k).1=2) (hd:dA (bg r k) now=true) (hnow:bV now):∃r' t',oq (r,(k:Int),now,())=some (r',0,())∧tT (bK r k) (bg r k) now t'∧Turn r k t' r':=by
 obtain⟨r',e',hc,hq⟩:=lA r (nn h) k (fun nd t=>AB (nd,t,now,())) (fun nd t h1 h2 h3=>by
  obtain⟨t',h,h4⟩:=f218 nd t now h1 h2
  exact xM h fun hp=>Bp (h4 hp))
 rw [←Of]at hc
 obtain⟨t2,hP,hf⟩:=f218 (bK r k) (bg r k) now (iQ h hk) (qt h hk)
 rcases hq with⟨rfl,hro,_,k',t',hi,_,hD,ht⟩|⟨_,_,hno⟩
 ·obtain rfl:k=k':=by omega
  obtain⟨hp,rfl⟩:=tr_ok hP hD
  exact⟨r',t',hc,hf hp,ht⟩
 ·refine absurd ⟨h,cO h hk (by rw [h2];decide),k,t2,rfl,hk,?_⟩ hno
  rcases hP with⟨_,hP⟩|⟨hP,_⟩
  ·exact hP
  ·exact absurd ⟨hnow,h.tks k hk,h2,hd⟩ hP
def bE (ck nr nt nk ne ac:Int) (rs:List aj) (es:List aC) (c:bj) (t:bB) (r:fj):Prop:=Stp ck nr nt nk ne ac rs es c t r∧t.2.2.2.2.2.2.2.1.length≤40
theorem fy {z:Int} (h0:0≤z) (h:z≤1099511627776):IntKind.i64.wrap (z+ofNat 1)=z+1:=by rw [IntKind.wrap_i64];simp only [aF];omega
theorem wr2 {z:Int} (h0:0≤z) (h:z≤1099511627776):IntKind.i64.wrap (IntKind.i64.wrap (z+ofNat 1)+ofNat 1)=z+2:=by rw [fy h0 h,IntKind.wrap_i64];simp only [aF];omega
theorem wrm {z:Int} (h0:0≤z) (h:z≤1099511627776):IntKind.i64.wrap (IntKind.i64.wrap (z+ofNat 1)-ofNat 1)=z:=by rw [fy h0 h,IntKind.wrap_i64];simp only [aF];omega
theorem jZ {rs:List aj} (n:Nat) (r':aj):take rs.length (rs.set n r')=rs.set n r':=take_of_length_le (by rw [length_set];exact Nat.le_refl _)
theorem f48 (ck nr nt nk ne ac:Int) (rs:List aj) (es:List aC):∃b,cW (mk ck nr nt nk ne ac rs es,())=some (b,())∧(b=false→Fresh nr nt nk ne)∧(b=true→¬Fresh nr nt nk ne):=by
 refine⟨_,rfl,fun h=> ?_,fun h hf=> ?_⟩
 ·have h:=of_decide_eq_false h
  simp only [aF]at h
  constructor<;>(split at h<;>split at h<;>split at h<;>omega)
 ·have h:=of_decide_eq_true h
  simp only [aF]at h
  obtain⟨f1,f2,f3,f4⟩:=hf
  split at h<;>split at h<;>split at h<;>omega
section
variable {ck nr nt nk ne ac:Int} {rs:List aj} {es:List aC} {c:bj} {ck' nr' nt' nk' ne' ac':Int} {R:List aj} {E:List aC} {a b d:Int}
theorem ao (h:SOk (mk ck nr nt nk ne ac rs es)) (n:Nat) (hw:eh ck nr nt nk ne ac rs es c):bE ck nr nt nk ne ac rs es c (mk ck nr nt nk ne ac rs es) (oQ (ofNat (n+1))):=⟨.err n hw,h.ev40⟩
theorem FW (h:SOk (mk ck nr nt nk ne ac rs es)) {n:Nat} (hk:c.1=1) (hn:n<rs.length) (hkey:cU (rs.getD n (aa ab))=c.2.1.toList) (ha:(rs.getD n (aa ab)).1=a):bE ck nr nt nk ne ac rs es c (mk ck nr nt nk ne ac rs es) (kj a (ofNat 0) (ofNat 0)):=by
 subst ha;exact⟨.known n hk hn hkey,h.ev40⟩
theorem zC (hk:c.1=1) (hf:Fresh nr nt nk ne) (hno:∀n:Nat,n<rs.length→cU (rs.getD n (aa ab))≠c.2.1.toList) (h32:rs.length<32) (hkey:1≤c.2.1.size∧c.2.1.size≤24) (hd:qp c.2.2.1.1) (hrk:kh nk) (hnr:nr'=nr+1) (hne:ne'=ne+1) (hR:R=rs++ [(nr,c.2.1,c.2.2.1,ofNat 1,(eY c.2.2.1.1 nk).2,())]) (hE:E=es++ [(ne,ofNat 1,nr,ofNat 0,())]) (h40:E.length≤40):
  bE ck nr nt nk ne ac rs es c (mk ck nr' nt (eY c.2.2.1.1 nk).1 ne' ac R E) (kj nr (ofNat 0) (ofNat 0)):=by
 subst hnr hne hR hE;exact⟨.new hk hf hno h32 hkey hd hrk,h40⟩
theorem HC (h:SOk (mk ck nr nt nk ne ac rs es)) {n k:Nat} {un:Int} {r':aj} (hk:c.1=2) (hf:Fresh nr nt nk ne) (hn:n<rs.length) (hkl:k<(aN rs n).length) (h1:((aN rs n).getD k (aa ae)).1=1) (hun:bV un) (hT:Turn (rs.getD n (aa ab)) k (ofNat 2,((aN rs n).getD k (aa ae)).2.1+1,un,nt,ofNat 0,()) r') (ha:(rs.getD n (aa ab)).1=a) (hb:b=k) (hd:d=nt) (hnt:nt'=nt+1) (hR:R=rs.set n r'):
  bE ck nr nt nk ne ac rs es c (mk ck nr nt' nk ne ac R es) (kj a b d):=by
 subst ha hb hnt hR;rw [hd];exact⟨.poll n k un r' hk hf hn hkl h1 hun hT,h.ev40⟩
theorem lO {n k:Nat} {r':aj} {rk':Int} {w:List aC} (hk:c.1=3) (hf:Fresh nr nt nk ne) (hn:n<rs.length) (hid:(rs.getD n (aa ab)).1=c.2.2.2.1) (hi:c.2.2.2.2.1=k) (hkl:k<(aN rs n).length) (hrk:kh nk) (hh:iH (bK (rs.getD n (aa ab)) k) ((aN rs n).getD k (aa ae)) c.2.2.2.2.2.1) (hC:Cmpl (rs.getD n (aa ab)) k nk r' rk')
  (hw:(r'.2.2.2.1≠2∧w= [(ne,ofNat 2,r'.1,(k:Int),())])∨(r'.2.2.2.1=2∧w= [(ne,ofNat 2,r'.1,(k:Int),()),(ne+1,ofNat 4,r'.1,ofNat 0,())])) (hne:ne'=ne+w.length) (hR:R=rs.set n r') (hE:E=es++w) (h40:E.length≤40):
  bE ck nr nt nk ne ac rs es c (mk ck nr nt rk' ne' ac R E) (kj (ofNat 0) (ofNat 0) (ofNat 0)):=by
 subst hne hR hE;exact⟨.complete n k r' rk' w hk hf hn hid hi hkl hrk hh hC hw,h40⟩
theorem ww {n k:Nat} {t':an} {r':aj} (hk:c.1=4) (hf:Fresh nr nt nk ne) (hn:n<rs.length) (hid:(rs.getD n (aa ab)).1=c.2.2.2.1) (hi:c.2.2.2.2.1=k) (hkl:k<(aN rs n).length) (hh:iH (bK (rs.getD n (aa ab)) k) ((aN rs n).getD k (aa ae)) c.2.2.2.2.2.1) (hfl:tT (bK (rs.getD n (aa ab)) k) ((aN rs n).getD k (aa ae)) ck t') (hT:Turn (rs.getD n (aa ab)) k t' r') (hne:ne'=ne+1) (hR:R=rs.set n r') (hE:E=es++ [dw ne r' k]) (h40:E.length≤40):
  bE ck nr nt nk ne ac rs es c (mk ck nr nt nk ne' ac R E) (kj (ofNat 0) (ofNat 0) (ofNat 0)):=by
 subst hne hR hE;exact⟨.fail n k t' r' hk hf hn hid hi hkl hh hfl hT,h40⟩
theorem HD (h:SOk (mk ck nr nt nk ne ac rs es)) {n k:Nat} {un:Int} {r':aj} (hk:c.1=5) (hf:Fresh nr nt nk ne) (hn:n<rs.length) (hid:(rs.getD n (aa ab)).1=c.2.2.2.1) (hi:c.2.2.2.2.1=k) (hkl:k<(aN rs n).length) (hh:iH (bK (rs.getD n (aa ab)) k) ((aN rs n).getD k (aa ae)) c.2.2.2.2.2.1) (hun:bV un)
  (hT:Turn (rs.getD n (aa ab)) k (((aN rs n).getD k (aa ae)).1,((aN rs n).getD k (aa ae)).2.1,un,((aN rs n).getD k (aa ae)).2.2.2.1,((aN rs n).getD k (aa ae)).2.2.2.2.1,()) r') (hR:R=rs.set n r'):
  bE ck nr nt nk ne ac rs es c (mk ck nr nt nk ne ac R es) (kj (ofNat 0) (ofNat 0) (ofNat 0)):=by
 subst hR;exact⟨.beat n k un r' hk hf hn hid hi hkl hh hun hT,h.ev40⟩
theorem Co {n:Nat} {r':aj} (hk:c.1=6) (hf:Fresh nr nt nk ne) (hn:n<rs.length) (hid:(rs.getD n (aa ab)).1=c.2.2.2.1) (h1:(rs.getD n (aa ab)).2.2.2.1=1) (e1:r'.1=(rs.getD n (aa ab)).1) (e2:r'.2.1=(rs.getD n (aa ab)).2.1) (e3:r'.2.2.1=(rs.getD n (aa ab)).2.2.1) (e4:r'.2.2.2.1=4) (hd:lN (rs.getD n (aa ab)).2.2.1.1 (aN rs n) r'.2.2.2.2.1) (hne:ne'=ne+1) (hR:R=rs.set n r') (hE:E=es++ [(ne,ofNat 6,r'.1,ofNat 0,())]) (h40:E.length≤40):
  bE ck nr nt nk ne ac rs es c (mk ck nr nt nk ne' ac R E) (kj (ofNat 0) (ofNat 0) (ofNat 0)):=by
 subst hne hR hE;exact⟨.cancel n r' hk hf hn hid h1 e1 e2 e3 e4 hd,h40⟩
theorem FX (h:SOk (mk ck nr nt nk ne ac rs es)) {n:Nat} (hk:c.1=8) (hn:n<rs.length) (hid:(rs.getD n (aa ab)).1=c.2.2.2.1):bE ck nr nt nk ne ac rs es c (mk ck nr nt nk ne ac rs es) (ofNat 0,ofNat 0,ofNat 0,ofNat 0,rs.getD n (aa ab),[],()):=⟨.query n hk hn hid,h.ev40⟩
theorem lC (h:SOk (mk ck nr nt nk ne ac rs es)) (hk:c.1=9) (m:Nat) (hE:E=es.take m):bE ck nr nt nk ne ac rs es c (mk ck nr nt nk ne ac rs es) (ofNat 0,ofNat 0,ofNat 0,ofNat 0,aM,E,()):=by
 subst hE;exact⟨.drain m hk,h.ev40⟩
theorem qw (h:SOk (mk ck nr nt nk ne ac rs es)) (hk:c.1=10) (h1:ac≤c.2.2.2.2.2.2.2.1) (h2:c.2.2.2.2.2.2.2.1<ne) (hE:E=es.drop (c.2.2.2.2.2.2.2.1-ac).toNat):bE ck nr nt nk ne ac rs es c (mk ck nr nt nk ne c.2.2.2.2.2.2.2.1 rs E) (kj (ofNat 0) (ofNat 0) (ofNat 0)):=by
 subst hE;exact⟨.ack hk h1 h2,by have:=h.ev40;simp only [length_drop,mk]at*;omega⟩
end
theorem bQ {G:bB→fj→Prop} {M E:Option (bB×fj×Unit)} {ck nr nt nk ne ac:Int} {rs:List aj} {es:List aC} (b:Bool) (hM:(b=true→Fresh nr nt nk ne)→∃t r,M=some (t,r,())∧G t r) (hE:b=true→¬Fresh nr nt nk ne→∃t r,E=some (t,r,())∧G t r):
  ∃t r,((cW (mk ck nr nt nk ne ac rs es,())).bind fun y=>bif y.1 then(bif b then E else M)else M)=some (t,r,())∧G t r:=by
 obtain⟨b',hb,hf,hg⟩:=f48 ck nr nt nk ne ac rs es
 rw [hb,bind_some]
 cases b' with
 |true=>
  cases b with
  |true=>exact hE rfl (hg rfl)
  |false=>exact hM fun h=>nomatch h
 |false=>exact hM fun _=>hf rfl
theorem LU {n:Nat} (h:n≤60):(decide ((n+1)*80≤2^46) && decide (n+1≤2^46))=true:=Dn (by omega) (by omega)
theorem f118 (n:Int):∃b,mq (n,())=some (b,())∧(b=false→¬(1≤n∧n≤1048576))∧(b=true→1≤n∧n≤1048576):=by
 simp only [mq]
 by_cases c:n≥ofNat 1
 ·rw [decide_eq_true c,cond_true]
  exact⟨_,rfl,fun h=>by have:=of_decide_eq_false h;simp only [aF]at*;omega,fun h=>by have:=of_decide_eq_true h;simp only [aF]at*;omega⟩
 ·rw [decide_eq_false c,cond_false]
  exact⟨_,rfl,fun _=>by simp only [aF]at*;omega,fun h=>nomatch h⟩
theorem Ry {z:Int} (h:0≤z) (d:Decidable (ofNat 1099511627776<z)):bV (Decidable.rec (fun _=>z) (fun _=>ofNat 1099511627776) d):=by
 cases d with
 |isFalse hn=>exact(⟨h,by simp only [aF]at hn;omega⟩:bV z)
 |isTrue hn=>exact(⟨by decide,by decide⟩:bV (ofNat 1099511627776))
theorem LV {a b:Int} (h1:0≤a) (h2:a≤1099511627776) (h3:1≤b) (h4:b≤1048576):0≤IntKind.i64.wrap (a+b):=by rw [IntKind.wrap_i64];omega
theorem Cp (r:aj):∀(j:Nat) (s:wS),j≤r.2.2.2.2.1.length→(dy (dM r) 0 (r.2.2.2.2.1.take j) s).2.1=false→s.2.1=false∧∀k,k<j→(r.2.2.2.2.1.getD k (aa ae)).1≠1
 |0,s,_,h=>by rw [List.take_zero]at h;exact⟨h,fun k hk=>absurd hk (not_lt_zero _)⟩
 |j+1,s,hj,h=>by
  rw [rF _ hj]at h
  have ih:=Cp r j s (by omega)
  generalize dy (dM r) 0 (r.2.2.2.2.1.take j) s=s2 at h ih
  unfold dM at h
  by_cases c:(r.2.2.2.2.1.getD j (aa ae)).1=1
  ·rw [show((r.2.2.2.2.1.getD j (aa ae)).1==ofNat 1)=true from by simpa using c,cond_true]at h
   cases h2:s2.2.1 with
   |false=>rw [h2]at h;exact nomatch h
   |true=>
    rw [h2,Bool.not_true,cond_false]at h
    cases hd:decide ((r.2.2.2.2.1.getD j (aa ae)).2.2.2.2.1<s2.1)with
    |true=>rw [hd]at h;exact nomatch h
    |false=>rw [hd,cond_false,h2]at h;exact nomatch h
  ·rw [show((r.2.2.2.2.1.getD j (aa ae)).1==ofNat 1)=false from by simpa using c,cond_false]at h
   obtain⟨a,b⟩:=ih h
   refine⟨a,fun k hk=> ?_⟩
   by_cases e:k=j
   ·rw [e];exact c
   ·exact b k (by omega)
theorem kc (rs:List aj):∀j:Nat,j≤rs.length→(ef dM (rs.take j) mg).2.1=false→∀n k:Nat,n<j→k<(aN rs n).length→((aN rs n).getD k (aa ae)).1≠1
 |0,_,_=>fun n k hn=>absurd hn (not_lt_zero _)
 |j+1,hj,h=>fun n k hn hk=>by
  rw [rG _ hj]at h
  obtain⟨a,b⟩:=Cp (rs.getD j (aa ab)) _ _ (Nat.le_refl _) (by rw [take_length];exact h)
  by_cases e:n=j
  ·subst e;exact b k hk
  ·exact kc rs j (by omega) a n k (by omega) hk
theorem cq {n k:Nat} (h:n≤60) (hk:k≤60):(decide ((n+k)*32≤2^46) && decide (n+k≤2^46))=true:=Dn (by omega) (by omega)
section
variable {ck nr nt nk ne ac:Int} {rs:List aj} {es:List aC}
theorem oR (h:SOk (mk ck nr nt nk ne ac rs es)) (hR:isEmpty rs=false) (hE:isEmpty es=false) (v:Int):bF (mk ck nr nt nk ne ac rs es) v=some (mk ck nr nt nk ne ac rs es,oQ v,()):=by
 have h25:=bf h
 simp only [mk]at h25
 simp only [bF,mk,h25,bind_some,hR,hE,cond_false,zero_add,Nat.le_refl,decide_true,cond_true,bq]
theorem oS (h:SOk (mk ck nr nt nk ne ac rs [])) (hR:isEmpty rs=false) (v:Int):cu (mk ck nr nt nk ne ac rs []) v=some (mk ck nr nt nk ne ac rs [],oQ v,()):=by
 have h25:=bf h
 simp only [mk]at h25
 simp only [cu,mk,h25,bind_some,hR,isEmpty_nil,cond_false,zero_add,Nat.le_refl,decide_true,cond_true,bq]
theorem oT (h:SOk (mk ck nr nt nk ne ac [] es)) (hE:isEmpty es=false) (v:Int):cw (mk ck nr nt nk ne ac [] es) v=some (mk ck nr nt nk ne ac [] es,oQ v,()):=by
 have h25:=bf h
 simp only [mk]at h25
 simp only [cw,mk,h25,bind_some,hE,isEmpty_nil,cond_false,zero_add,Nat.le_refl,decide_true,cond_true,bq]
theorem oU (h:SOk (mk ck nr nt nk ne ac [] [])) (v:Int):dc (mk ck nr nt nk ne ac [] []) v=some (mk ck nr nt nk ne ac [] [],oQ v,()):=by
 have h25:=bf h
 simp only [mk]at h25
 simp only [dc,mk,h25,bind_some,isEmpty_nil,cond_false,zero_add,Nat.le_refl,decide_true,cond_true,bq]
end
theorem ZE {ck nr nt nk ne ac:Int} {rs:List aj} {es:List aC} (h:SOk (mk ck nr nt nk ne ac rs es)) (hr:∀r∈rs,bH r) (hR:isEmpty rs=false) (hE:isEmpty es=false) (c:bj) (hfr:Fresh nr nt nk ne) (hk:c.1=6):
  ∃t r,yK ((mk ck nr nt nk ne ac rs es),c,())=some (t,r,())∧bE ck nr nt nk ne ac rs es c t r:=by
 have h25:=bf h
 have hf:=h.fine
 have he:=h.ev40
 have hne:=h.ne
 simp only [mk]at h25 hf he hne
 have h32:=hf.1
 have E:=oR h hR hE
 have hwy:eh ck nr nt nk ne ac rs es c:=dH (by rw [hk];decide) (by rw [hk];decide) (by rw [hk];decide) (by rw [hk];decide)
 simp only [mk]at E
 simp only [yK,mk,h25,bind_some,hR,hE,cond_false,zero_add,Nat.le_refl,decide_true,cond_true,bq,cg,E]
 obtain⟨i,b,e,hfi,hq⟩:=bZ rs (by omega) hr c.2.2.2.1
 simp only [hfi,bind_some]
 rcases hq with⟨_,_,hq⟩|⟨rfl,_,⟨rfl,n,rfl,hn,hid⟩|⟨rfl,_⟩⟩
 ·exact absurd hf hq
 ·simp only [Bool.not_true,cond_false,aP hn,aH hn,cond_true,toNat_natCast]
  refine wV (rs.getD n (aa ab)) (hr _ (aD hn _)) (fun r' h1 e1 e2 e3 e4 hd=> ?_) (fun m=> ?_)
  ·simp only [cQ]
   try simp only [length_cons,length_nil,zero_add,cq (show es.length≤60 by omega) (show 1≤60 by omega),cq (show es.length+1≤60 by omega) (show 1≤60 by omega),decide_true,cond_true,length_append,length_set,Nat.le_refl,drop_zero]
   by_cases c40:(((es.length+1:Nat):Int)>ofNat 40)
   ·rw [decide_eq_true c40,cond_true];exact⟨_,_,rfl,ao h 8 hwy⟩
   ·rw [decide_eq_false c40,cond_false]
    exact⟨_,_,rfl,Co hk hfr hn hid h1 e1 e2 e3 e4 hd (fy (by omega) (by omega)) (jZ n r') (by simp) (by simp only [length_append,length_cons,length_nil,aF]at c40⊢;omega)⟩
  ·simp only [eX]
   exact⟨_,_,rfl,ao h m hwy⟩
 ·exact⟨_,_,rfl,ao h 5 hwy⟩
theorem ZF {ck nr nt nk ne ac:Int} {rs:List aj} (h:SOk (mk ck nr nt nk ne ac rs [])) (hr:∀r∈rs,bH r) (hR:isEmpty rs=false) (c:bj) (hfr:Fresh nr nt nk ne) (hk:c.1=6):
  ∃t r,yT ((mk ck nr nt nk ne ac rs []),c,())=some (t,r,())∧bE ck nr nt nk ne ac rs [] c t r:=by
 have h25:=bf h
 have hf:=h.fine
 have he:=h.ev40
 have hne:=h.ne
 simp only [mk]at h25 hf he hne
 have h32:=hf.1
 have E:=oS h hR
 have hwy:eh ck nr nt nk ne ac rs ([]:List aC) c:=dH (by rw [hk];decide) (by rw [hk];decide) (by rw [hk];decide) (by rw [hk];decide)
 simp only [mk]at E
 simp only [yT,mk,h25,bind_some,hR,isEmpty_nil,cond_false,zero_add,Nat.le_refl,decide_true,cond_true,bq,cg,E]
 obtain⟨i,b,e,hfi,hq⟩:=bZ rs (by omega) hr c.2.2.2.1
 simp only [hfi,bind_some]
 rcases hq with⟨_,_,hq⟩|⟨rfl,_,⟨rfl,n,rfl,hn,hid⟩|⟨rfl,_⟩⟩
 ·exact absurd hf hq
 ·simp only [Bool.not_true,cond_false,aP hn,aH hn,cond_true,toNat_natCast]
  refine wV (rs.getD n (aa ab)) (hr _ (aD hn _)) (fun r' h1 e1 e2 e3 e4 hd=> ?_) (fun m=> ?_)
  ·simp only [cQ]
   try simp only [length_set,Nat.le_refl,decide_true,cond_true,drop_zero]
   exact⟨_,_,rfl,Co hk hfr hn hid h1 e1 e2 e3 e4 hd (fy (by omega) (by omega)) (jZ n r') (by simp) (by simp only [length_cons,length_nil];omega)⟩
  ·simp only [eX]
   exact⟨_,_,rfl,ao h m hwy⟩
 ·exact⟨_,_,rfl,ao h 5 hwy⟩
theorem ZG {ck nr nt nk ne ac:Int} {es:List aC} (h:SOk (mk ck nr nt nk ne ac [] es)) (hr:∀r∈([]:List aj),bH r) (hE:isEmpty es=false) (c:bj) (hfr:Fresh nr nt nk ne) (hk:c.1=6):
  ∃t r,zd ((mk ck nr nt nk ne ac [] es),c,())=some (t,r,())∧bE ck nr nt nk ne ac [] es c t r:=by
 have h25:=bf h
 have hf:=h.fine
 have he:=h.ev40
 have hne:=h.ne
 simp only [mk]at h25 hf he hne
 have h32:=hf.1
 have E:=oT h hE
 have hwy:eh ck nr nt nk ne ac ([]:List aj) es c:=dH (by rw [hk];decide) (by rw [hk];decide) (by rw [hk];decide) (by rw [hk];decide)
 simp only [mk]at E
 simp only [zd,mk,h25,bind_some,hE,isEmpty_nil,cond_false,zero_add,Nat.le_refl,decide_true,cond_true,bq,cg,E]
 obtain⟨i,b,e,hfi,hq⟩:=bZ ([]:List aj) (by omega) hr c.2.2.2.1
 simp only [hfi,bind_some]
 rcases hq with⟨_,_,hq⟩|⟨rfl,_,⟨rfl,n,rfl,hn,hid⟩|⟨rfl,_⟩⟩
 ·exact absurd hf hq
 ·exact absurd hn (not_lt_zero _)
 ·exact⟨_,_,rfl,ao h 5 hwy⟩
theorem ZH {ck nr nt nk ne ac:Int} (h:SOk (mk ck nr nt nk ne ac [] [])) (hr:∀r∈([]:List aj),bH r) (c:bj) (hfr:Fresh nr nt nk ne) (hk:c.1=6):
  ∃t r,zm ((mk ck nr nt nk ne ac [] []),c,())=some (t,r,())∧bE ck nr nt nk ne ac [] [] c t r:=by
 have h25:=bf h
 have hf:=h.fine
 have he:=h.ev40
 have hne:=h.ne
 simp only [mk]at h25 hf he hne
 have h32:=hf.1
 have E:=oU h
 have hwy:eh ck nr nt nk ne ac ([]:List aj) ([]:List aC) c:=dH (by rw [hk];decide) (by rw [hk];decide) (by rw [hk];decide) (by rw [hk];decide)
 simp only [mk]at E
 simp only [zm,mk,h25,bind_some,isEmpty_nil,cond_false,zero_add,Nat.le_refl,decide_true,cond_true,bq,cg,E]
 obtain⟨i,b,e,hfi,hq⟩:=bZ ([]:List aj) (by omega) hr c.2.2.2.1
 simp only [hfi,bind_some]
 rcases hq with⟨_,_,hq⟩|⟨rfl,_,⟨rfl,n,rfl,hn,hid⟩|⟨rfl,_⟩⟩
 ·exact absurd hf hq
 ·exact absurd hn (not_lt_zero _)
 ·exact⟨_,_,rfl,ao h 5 hwy⟩
theorem ZI {ck nr nt nk ne ac:Int} {rs:List aj} {es:List aC} (h:SOk (mk ck nr nt nk ne ac rs es)) (hr:∀r∈rs,bH r) (hR:isEmpty rs=false) (hE:isEmpty es=false) (c:bj) (hfr:Fresh nr nt nk ne) (hk:c.1=4):
  ∃t r,vp ((mk ck nr nt nk ne ac rs es),c,())=some (t,r,())∧bE ck nr nt nk ne ac rs es c t r:=by
 have h25:=bf h
 have hf:=h.fine
 have he:=h.ev40
 have hne:=h.ne
 simp only [mk]at h25 hf he hne
 have h32:=hf.1
 have E:=oR h hR hE
 have hwy:eh ck nr nt nk ne ac rs es c:=dH (by rw [hk];decide) (by rw [hk];decide) (by rw [hk];decide) (by rw [hk];decide)
 simp only [mk]at E
 simp only [vp,mk,h25,bind_some,hR,hE,cond_false,zero_add,Nat.le_refl,decide_true,cond_true,bq,cg,E]
 obtain⟨i,b,e,hfi,hq⟩:=bZ rs (by omega) hr c.2.2.2.1
 simp only [hfi,bind_some]
 rcases hq with⟨_,_,hq⟩|⟨rfl,_,⟨rfl,n,rfl,hn,hid⟩|⟨rfl,_⟩⟩
 ·exact absurd hf hq
 ·simp only [Bool.not_true,cond_false,aP hn,aH hn,cond_true,toNat_natCast]
  refine Cn (rs.getD n (aa ab)) (hr _ (aD hn _)) _ _ _ (fun r' k t' hi hkl hh hfl hT=> ?_) (fun m=> ?_)
  ·simp only [cQ]
   by_cases c3:r'.2.2.2.1=3
   ·rw [show(r'.2.2.2.1==ofNat 3)=true by simpa using c3,cond_true]
    try simp only [length_cons,length_nil,zero_add,cq (show es.length≤60 by omega) (show 1≤60 by omega),cq (show es.length+1≤60 by omega) (show 1≤60 by omega),decide_true,cond_true,length_append,length_set,Nat.le_refl,drop_zero]
    by_cases c40:(((es.length+1:Nat):Int)>ofNat 40)
    ·rw [decide_eq_true c40,cond_true];exact⟨_,_,rfl,ao h 8 hwy⟩
    ·rw [decide_eq_false c40,cond_false]
     exact⟨_,_,rfl,ww hk hfr hn hid hi hkl hh hfl hT (fy (by omega) (by omega)) (jZ n r') (by simp [dw,c3,hi]) (by simp only [length_append,length_cons,length_nil,aF]at c40⊢;omega)⟩
   ·rw [show(r'.2.2.2.1==ofNat 3)=false by simpa using c3,cond_false]
    try simp only [length_cons,length_nil,zero_add,cq (show es.length≤60 by omega) (show 1≤60 by omega),cq (show es.length+1≤60 by omega) (show 1≤60 by omega),decide_true,cond_true,length_append,length_set,Nat.le_refl,drop_zero]
    by_cases c40:(((es.length+1:Nat):Int)>ofNat 40)
    ·rw [decide_eq_true c40,cond_true];exact⟨_,_,rfl,ao h 8 hwy⟩
    ·rw [decide_eq_false c40,cond_false]
     exact⟨_,_,rfl,ww hk hfr hn hid hi hkl hh hfl hT (fy (by omega) (by omega)) (jZ n r') (by simp [dw,c3,hi]) (by simp only [length_append,length_cons,length_nil,aF]at c40⊢;omega)⟩
  ·simp only [eX]
   exact⟨_,_,rfl,ao h m hwy⟩
 ·exact⟨_,_,rfl,ao h 5 hwy⟩
theorem ZJ {ck nr nt nk ne ac:Int} {rs:List aj} (h:SOk (mk ck nr nt nk ne ac rs [])) (hr:∀r∈rs,bH r) (hR:isEmpty rs=false) (c:bj) (hfr:Fresh nr nt nk ne) (hk:c.1=4):
  ∃t r,yR ((mk ck nr nt nk ne ac rs []),c,())=some (t,r,())∧bE ck nr nt nk ne ac rs [] c t r:=by
 have h25:=bf h
 have hf:=h.fine
 have he:=h.ev40
 have hne:=h.ne
 simp only [mk]at h25 hf he hne
 have h32:=hf.1
 have E:=oS h hR
 have hwy:eh ck nr nt nk ne ac rs ([]:List aC) c:=dH (by rw [hk];decide) (by rw [hk];decide) (by rw [hk];decide) (by rw [hk];decide)
 simp only [mk]at E
 simp only [yR,mk,h25,bind_some,hR,isEmpty_nil,cond_false,zero_add,Nat.le_refl,decide_true,cond_true,bq,cg,E]
 obtain⟨i,b,e,hfi,hq⟩:=bZ rs (by omega) hr c.2.2.2.1
 simp only [hfi,bind_some]
 rcases hq with⟨_,_,hq⟩|⟨rfl,_,⟨rfl,n,rfl,hn,hid⟩|⟨rfl,_⟩⟩
 ·exact absurd hf hq
 ·simp only [Bool.not_true,cond_false,aP hn,aH hn,cond_true,toNat_natCast]
  refine Cn (rs.getD n (aa ab)) (hr _ (aD hn _)) _ _ _ (fun r' k t' hi hkl hh hfl hT=> ?_) (fun m=> ?_)
  ·simp only [cQ]
   by_cases c3:r'.2.2.2.1=3
   ·rw [show(r'.2.2.2.1==ofNat 3)=true by simpa using c3,cond_true]
    try simp only [length_set,Nat.le_refl,decide_true,cond_true,drop_zero]
    exact⟨_,_,rfl,ww hk hfr hn hid hi hkl hh hfl hT (fy (by omega) (by omega)) (jZ n r') (by simp [dw,c3,hi]) (by simp only [length_cons,length_nil];omega)⟩
   ·rw [show(r'.2.2.2.1==ofNat 3)=false by simpa using c3,cond_false]
    try simp only [length_set,Nat.le_refl,decide_true,cond_true,drop_zero]
    exact⟨_,_,rfl,ww hk hfr hn hid hi hkl hh hfl hT (fy (by omega) (by omega)) (jZ n r') (by simp [dw,c3,hi]) (by simp only [length_cons,length_nil];omega)⟩
  ·simp only [eX]
   exact⟨_,_,rfl,ao h m hwy⟩
 ·exact⟨_,_,rfl,ao h 5 hwy⟩
theorem ZK {ck nr nt nk ne ac:Int} {es:List aC} (h:SOk (mk ck nr nt nk ne ac [] es)) (hr:∀r∈([]:List aj),bH r) (hE:isEmpty es=false) (c:bj) (hfr:Fresh nr nt nk ne) (hk:c.1=4):
  ∃t r,zb ((mk ck nr nt nk ne ac [] es),c,())=some (t,r,())∧bE ck nr nt nk ne ac [] es c t r:=by
 have h25:=bf h
 have hf:=h.fine
 have he:=h.ev40
 have hne:=h.ne
 simp only [mk]at h25 hf he hne
 have h32:=hf.1
 have E:=oT h hE
 have hwy:eh ck nr nt nk ne ac ([]:List aj) es c:=dH (by rw [hk];decide) (by rw [hk];decide) (by rw [hk];decide) (by rw [hk];decide)
 simp only [mk]at E
 simp only [zb,mk,h25,bind_some,hE,isEmpty_nil,cond_false,zero_add,Nat.le_refl,decide_true,cond_true,bq,cg,E]
 obtain⟨i,b,e,hfi,hq⟩:=bZ ([]:List aj) (by omega) hr c.2.2.2.1
 simp only [hfi,bind_some]
 rcases hq with⟨_,_,hq⟩|⟨rfl,_,⟨rfl,n,rfl,hn,hid⟩|⟨rfl,_⟩⟩
 ·exact absurd hf hq
 ·exact absurd hn (not_lt_zero _)
 ·exact⟨_,_,rfl,ao h 5 hwy⟩
theorem ZL {ck nr nt nk ne ac:Int} (h:SOk (mk ck nr nt nk ne ac [] [])) (hr:∀r∈([]:List aj),bH r) (c:bj) (hfr:Fresh nr nt nk ne) (hk:c.1=4):
  ∃t r,zk ((mk ck nr nt nk ne ac [] []),c,())=some (t,r,())∧bE ck nr nt nk ne ac [] [] c t r:=by
 have h25:=bf h
 have hf:=h.fine
 have he:=h.ev40
 have hne:=h.ne
 simp only [mk]at h25 hf he hne
 have h32:=hf.1
 have E:=oU h
 have hwy:eh ck nr nt nk ne ac ([]:List aj) ([]:List aC) c:=dH (by rw [hk];decide) (by rw [hk];decide) (by rw [hk];decide) (by rw [hk];decide)
 simp only [mk]at E
 simp only [zk,mk,h25,bind_some,isEmpty_nil,cond_false,zero_add,Nat.le_refl,decide_true,cond_true,bq,cg,E]
 obtain⟨i,b,e,hfi,hq⟩:=bZ ([]:List aj) (by omega) hr c.2.2.2.1
 simp only [hfi,bind_some]
 rcases hq with⟨_,_,hq⟩|⟨rfl,_,⟨rfl,n,rfl,hn,hid⟩|⟨rfl,_⟩⟩
 ·exact absurd hf hq
 ·exact absurd hn (not_lt_zero _)
 ·exact⟨_,_,rfl,ao h 5 hwy⟩
theorem ZM {ck nr nt nk ne ac:Int} {rs:List aj} {es:List aC} (h:SOk (mk ck nr nt nk ne ac rs es)) (hr:∀r∈rs,bH r) (hR:isEmpty rs=false) (hE:isEmpty es=false) (c:bj) (hfr:Fresh nr nt nk ne) (hk:c.1=3):
  ∃t r,yI ((mk ck nr nt nk ne ac rs es),c,())=some (t,r,())∧bE ck nr nt nk ne ac rs es c t r:=by
 have h25:=bf h
 have hf:=h.fine
 have he:=h.ev40
 have hne:=h.ne
 simp only [mk]at h25 hf he hne
 have h32:=hf.1
 have E:=oR h hR hE
 simp only [mk]at E
 simp only [yI,mk,h25,bind_some,hR,hE,cond_false,zero_add,Nat.le_refl,decide_true,cond_true,bq,cg,E]
 obtain⟨i,b,e,hfi,hq⟩:=bZ rs (by omega) hr c.2.2.2.1
 simp only [hfi,bind_some]
 rcases hq with⟨_,_,hq⟩|⟨rfl,_,⟨rfl,n,rfl,hn,hid⟩|⟨rfl,hno⟩⟩
 ·exact absurd hf hq
 ·simp only [Bool.not_true,cond_false,aP hn,aH hn,cond_true,toNat_natCast]
  refine tU (rs.getD n (aa ab)) (hr _ (aD hn _)) _ _ _ (fun r' rk' k hi hkl hrk hh hC=> ?_) (fun hwl _ _ m=> ?_)
  ·simp only [cQ]
   try simp only [decide_true,cond_true,length_cons,length_nil,zero_add,cq (show es.length≤60 by omega) (show 1≤60 by omega),cq (show es.length+1≤60 by omega) (show 1≤60 by omega),aH hn]
   by_cases c2:r'.2.2.2.1=2
   ·rw [show(r'.2.2.2.1==ofNat 2)=true by simpa using c2,cond_true]
    try simp only [length_cons,length_nil,zero_add,cq (show es.length≤60 by omega) (show 1≤60 by omega),cq (show es.length+1≤60 by omega) (show 1≤60 by omega),decide_true,cond_true,length_append,length_set,Nat.le_refl,drop_zero]
    by_cases c40:(((es.length+1+1:Nat):Int)>ofNat 40)
    ·rw [decide_eq_true c40,cond_true];exact⟨_,_,rfl,ao h 8 (vH hk fun _ _=>by simp only [aF]at c40;omega)⟩
    ·rw [decide_eq_false c40,cond_false]
     exact⟨_,_,rfl,lO hk hfr hn hid hi hkl hrk hh hC (.inr ⟨c2,rfl⟩) (wr2 (z:=ne) (by omega) (by omega)) (jZ n r') (by simp [hi];rw [IntKind.wrap_i64];omega) (by simp only [length_append,length_cons,length_nil,aF]at c40⊢;omega)⟩
   ·rw [show(r'.2.2.2.1==ofNat 2)=false by simpa using c2,cond_false]
    try simp only [length_cons,length_nil,zero_add,cq (show es.length≤60 by omega) (show 1≤60 by omega),cq (show es.length+1≤60 by omega) (show 1≤60 by omega),decide_true,cond_true,length_append,length_set,Nat.le_refl,drop_zero]
    by_cases c40:(((es.length+1:Nat):Int)>ofNat 40)
    ·rw [decide_eq_true c40,cond_true];exact⟨_,_,rfl,ao h 8 (vH hk fun _ _=>by simp only [aF]at c40;omega)⟩
    ·rw [decide_eq_false c40,cond_false]
     exact⟨_,_,rfl,lO hk hfr hn hid hi hkl hrk hh hC (.inl ⟨c2,rfl⟩) (fy (by omega) (by omega)) (jZ n r') (by simp [hi]) (by simp only [length_append,length_cons,length_nil,aF]at c40⊢;omega)⟩
  ·simp only [eX]
   exact⟨_,_,rfl,ao h m (vH hk fun _ _ n2 k hn2 hid2 hi hkl hrk hh=>by
    have hnn:n=n2:=by
     rcases lt_trichotomy n n2 with q|q|q
     ·have:=hf.2.up n n2 q hn2;omega
     ·exact q
     ·have:=hf.2.up n2 n q hn;omega
    subst hnn
    exact hwl (hf.2.chk n hn) ⟨cO (hf.2.chk n hn) hkl (by rw [show(bg _ k).1=2 from hh.2.2.2.1];decide),hrk,k,hi,hkl,hh⟩)⟩
 ·exact⟨_,_,rfl,ao h 5 (vH hk fun _ _ n k hn hid _ _ _ _=>hno n hn hid)⟩
theorem ZN {ck nr nt nk ne ac:Int} {rs:List aj} (h:SOk (mk ck nr nt nk ne ac rs [])) (hr:∀r∈rs,bH r) (hR:isEmpty rs=false) (c:bj) (hfr:Fresh nr nt nk ne) (hk:c.1=3):
  ∃t r,yQ ((mk ck nr nt nk ne ac rs []),c,())=some (t,r,())∧bE ck nr nt nk ne ac rs [] c t r:=by
 have h25:=bf h
 have hf:=h.fine
 have he:=h.ev40
 have hne:=h.ne
 simp only [mk]at h25 hf he hne
 have h32:=hf.1
 have E:=oS h hR
 simp only [mk]at E
 simp only [yQ,mk,h25,bind_some,hR,isEmpty_nil,cond_false,zero_add,Nat.le_refl,decide_true,cond_true,bq,cg,E]
 obtain⟨i,b,e,hfi,hq⟩:=bZ rs (by omega) hr c.2.2.2.1
 simp only [hfi,bind_some]
 rcases hq with⟨_,_,hq⟩|⟨rfl,_,⟨rfl,n,rfl,hn,hid⟩|⟨rfl,hno⟩⟩
 ·exact absurd hf hq
 ·simp only [Bool.not_true,cond_false,aP hn,aH hn,cond_true,toNat_natCast]
  refine tU (rs.getD n (aa ab)) (hr _ (aD hn _)) _ _ _ (fun r' rk' k hi hkl hrk hh hC=> ?_) (fun hwl _ _ m=> ?_)
  ·simp only [cQ]
   try simp only [decide_true,cond_true,length_cons,length_nil,zero_add,aH hn]
   by_cases c2:r'.2.2.2.1=2
   ·rw [show(r'.2.2.2.1==ofNat 2)=true by simpa using c2,cond_true]
    try simp only [length_cons,length_nil,zero_add,decide_true,cond_true,length_append,length_set,Nat.le_refl,drop_zero,List.cons_append,List.nil_append,Nat.reduceAdd,Nat.reduceMul,Nat.reducePow,Nat.reduceLeDiff,Bool.and_self]
    exact⟨_,_,rfl,lO hk hfr hn hid hi hkl hrk hh hC (.inr ⟨c2,rfl⟩) (wr2 (z:=ne) (by omega) (by omega)) (jZ n r') (by simp [hi];rw [IntKind.wrap_i64];omega) (by simp only [length_cons,length_nil];omega)⟩
   ·rw [show(r'.2.2.2.1==ofNat 2)=false by simpa using c2,cond_false]
    try simp only [length_set,Nat.le_refl,decide_true,cond_true,drop_zero]
    exact⟨_,_,rfl,lO hk hfr hn hid hi hkl hrk hh hC (.inl ⟨c2,rfl⟩) (fy (by omega) (by omega)) (jZ n r') (by simp [hi]) (by simp only [length_cons,length_nil];omega)⟩
  ·simp only [eX]
   exact⟨_,_,rfl,ao h m (vH hk fun _ _ n2 k hn2 hid2 hi hkl hrk hh=>by
    have hnn:n=n2:=by
     rcases lt_trichotomy n n2 with q|q|q
     ·have:=hf.2.up n n2 q hn2;omega
     ·exact q
     ·have:=hf.2.up n2 n q hn;omega
    subst hnn
    exact hwl (hf.2.chk n hn) ⟨cO (hf.2.chk n hn) hkl (by rw [show(bg _ k).1=2 from hh.2.2.2.1];decide),hrk,k,hi,hkl,hh⟩)⟩
 ·exact⟨_,_,rfl,ao h 5 (vH hk fun _ _ n k hn hid _ _ _ _=>hno n hn hid)⟩
theorem ZO {ck nr nt nk ne ac:Int} {es:List aC} (h:SOk (mk ck nr nt nk ne ac [] es)) (hr:∀r∈([]:List aj),bH r) (hE:isEmpty es=false) (c:bj) (hfr:Fresh nr nt nk ne) (hk:c.1=3):
  ∃t r,za ((mk ck nr nt nk ne ac [] es),c,())=some (t,r,())∧bE ck nr nt nk ne ac [] es c t r:=by
 have h25:=bf h
 have hf:=h.fine
 have he:=h.ev40
 have hne:=h.ne
 simp only [mk]at h25 hf he hne
 have h32:=hf.1
 have E:=oT h hE
 simp only [mk]at E
 simp only [za,mk,h25,bind_some,hE,isEmpty_nil,cond_false,zero_add,Nat.le_refl,decide_true,cond_true,bq,cg,E]
 obtain⟨i,b,e,hfi,hq⟩:=bZ ([]:List aj) (by omega) hr c.2.2.2.1
 simp only [hfi,bind_some]
 rcases hq with⟨_,_,hq⟩|⟨rfl,_,⟨rfl,n,rfl,hn,hid⟩|⟨rfl,_⟩⟩
 ·exact absurd hf hq
 ·exact absurd hn (not_lt_zero _)
 ·exact⟨_,_,rfl,ao h 5 (vH hk fun _ _ n k hn _ _ _ _ _=>absurd hn (not_lt_zero _))⟩
theorem ZP {ck nr nt nk ne ac:Int} (h:SOk (mk ck nr nt nk ne ac [] [])) (hr:∀r∈([]:List aj),bH r) (c:bj) (hfr:Fresh nr nt nk ne) (hk:c.1=3):
  ∃t r,zj ((mk ck nr nt nk ne ac [] []),c,())=some (t,r,())∧bE ck nr nt nk ne ac [] [] c t r:=by
 have h25:=bf h
 have hf:=h.fine
 have he:=h.ev40
 have hne:=h.ne
 simp only [mk]at h25 hf he hne
 have h32:=hf.1
 have E:=oU h
 simp only [mk]at E
 simp only [zj,mk,h25,bind_some,isEmpty_nil,cond_false,zero_add,Nat.le_refl,decide_true,cond_true,bq,cg,E]
 obtain⟨i,b,e,hfi,hq⟩:=bZ ([]:List aj) (by omega) hr c.2.2.2.1
 simp only [hfi,bind_some]
 rcases hq with⟨_,_,hq⟩|⟨rfl,_,⟨rfl,n,rfl,hn,hid⟩|⟨rfl,_⟩⟩
 ·exact absurd hf hq
 ·exact absurd hn (not_lt_zero _)
 ·exact⟨_,_,rfl,ao h 5 (vH hk fun _ _ n k hn _ _ _ _ _=>absurd hn (not_lt_zero _))⟩
theorem ZQ {ck nr nt nk ne ac:Int} {rs:List aj} {es:List aC} (h:SOk (mk ck nr nt nk ne ac rs es)) (hr:∀r∈rs,bH r) (hR:isEmpty rs=false) (hE:isEmpty es=false) (c:bj) (hk:c.1=8):
  ∃t r,yM ((mk ck nr nt nk ne ac rs es),c,())=some (t,r,())∧bE ck nr nt nk ne ac rs es c t r:=by
 have h25:=bf h
 have hf:=h.fine
 have he:=h.ev40
 have hne:=h.ne
 simp only [mk]at h25 hf he hne
 have h32:=hf.1
 have E:=oR h hR hE
 have hwy:eh ck nr nt nk ne ac rs es c:=dH (by rw [hk];decide) (by rw [hk];decide) (by rw [hk];decide) (by rw [hk];decide)
 simp only [mk]at E
 simp only [yM,mk,h25,bind_some,hR,hE,cond_false,zero_add,Nat.le_refl,decide_true,cond_true,bq,cg,E]
 obtain⟨i,b,e,hfi,hq⟩:=bZ rs (by omega) hr c.2.2.2.1
 simp only [hfi,bind_some]
 rcases hq with⟨_,_,hq⟩|⟨rfl,_,⟨rfl,n,rfl,hn,hid⟩|⟨rfl,_⟩⟩
 ·exact absurd hf hq
 ·simp only [Bool.not_true,cond_false,aP hn,aH hn,cond_true,toNat_natCast]
  have ik:=f62 (rs.getD n (aa ab)) (qr (hf.2.chk n hn))
  simp only [ik,bind_some]
  try simp only [length_cons,length_nil,zero_add,cq (show es.length≤60 by omega) (show 1≤60 by omega),cq (show es.length+1≤60 by omega) (show 1≤60 by omega),decide_true,cond_true,length_append,length_set,Nat.le_refl,drop_zero]
  by_cases c40:(((es.length:Nat):Int)>ofNat 40)
  ·rw [decide_eq_true c40,cond_true];exact⟨_,_,rfl,ao h 8 hwy⟩
  ·rw [decide_eq_false c40,cond_false]
   exact⟨_,_,rfl,FX h hk hn hid⟩
 ·exact⟨_,_,rfl,ao h 5 hwy⟩
theorem ZR {ck nr nt nk ne ac:Int} {rs:List aj} (h:SOk (mk ck nr nt nk ne ac rs [])) (hr:∀r∈rs,bH r) (hR:isEmpty rs=false) (c:bj) (hk:c.1=8):
  ∃t r,yV ((mk ck nr nt nk ne ac rs []),c,())=some (t,r,())∧bE ck nr nt nk ne ac rs [] c t r:=by
 have h25:=bf h
 have hf:=h.fine
 have he:=h.ev40
 have hne:=h.ne
 simp only [mk]at h25 hf he hne
 have h32:=hf.1
 have E:=oS h hR
 have hwy:eh ck nr nt nk ne ac rs ([]:List aC) c:=dH (by rw [hk];decide) (by rw [hk];decide) (by rw [hk];decide) (by rw [hk];decide)
 simp only [mk]at E
 simp only [yV,mk,h25,bind_some,hR,isEmpty_nil,cond_false,zero_add,Nat.le_refl,decide_true,cond_true,bq,cg,E]
 obtain⟨i,b,e,hfi,hq⟩:=bZ rs (by omega) hr c.2.2.2.1
 simp only [hfi,bind_some]
 rcases hq with⟨_,_,hq⟩|⟨rfl,_,⟨rfl,n,rfl,hn,hid⟩|⟨rfl,_⟩⟩
 ·exact absurd hf hq
 ·simp only [Bool.not_true,cond_false,aP hn,aH hn,cond_true,toNat_natCast]
  have ik:=f62 (rs.getD n (aa ab)) (qr (hf.2.chk n hn))
  simp only [ik,bind_some]
  try simp only [length_set,Nat.le_refl,decide_true,cond_true,drop_zero]
  exact⟨_,_,rfl,FX h hk hn hid⟩
 ·exact⟨_,_,rfl,ao h 5 hwy⟩
theorem ZS {ck nr nt nk ne ac:Int} {es:List aC} (h:SOk (mk ck nr nt nk ne ac [] es)) (hr:∀r∈([]:List aj),bH r) (hE:isEmpty es=false) (c:bj) (hk:c.1=8):
  ∃t r,zf ((mk ck nr nt nk ne ac [] es),c,())=some (t,r,())∧bE ck nr nt nk ne ac [] es c t r:=by
 have h25:=bf h
 have hf:=h.fine
 have he:=h.ev40
 have hne:=h.ne
 simp only [mk]at h25 hf he hne
 have h32:=hf.1
 have E:=oT h hE
 have hwy:eh ck nr nt nk ne ac ([]:List aj) es c:=dH (by rw [hk];decide) (by rw [hk];decide) (by rw [hk];decide) (by rw [hk];decide)
 simp only [mk]at E
 simp only [zf,mk,h25,bind_some,hE,isEmpty_nil,cond_false,zero_add,Nat.le_refl,decide_true,cond_true,bq,cg,E]
 obtain⟨i,b,e,hfi,hq⟩:=bZ ([]:List aj) (by omega) hr c.2.2.2.1
 simp only [hfi,bind_some]
 rcases hq with⟨_,_,hq⟩|⟨rfl,_,⟨rfl,n,rfl,hn,hid⟩|⟨rfl,_⟩⟩
 ·exact absurd hf hq
 ·exact absurd hn (not_lt_zero _)
 ·exact⟨_,_,rfl,ao h 5 hwy⟩
theorem ZT {ck nr nt nk ne ac:Int} (h:SOk (mk ck nr nt nk ne ac [] [])) (hr:∀r∈([]:List aj),bH r) (c:bj) (hk:c.1=8):
  ∃t r,zo ((mk ck nr nt nk ne ac [] []),c,())=some (t,r,())∧bE ck nr nt nk ne ac [] [] c t r:=by
 have h25:=bf h
 have hf:=h.fine
 have he:=h.ev40
 have hne:=h.ne
 simp only [mk]at h25 hf he hne
 have h32:=hf.1
 have E:=oU h
 have hwy:eh ck nr nt nk ne ac ([]:List aj) ([]:List aC) c:=dH (by rw [hk];decide) (by rw [hk];decide) (by rw [hk];decide) (by rw [hk];decide)
 simp only [mk]at E
 simp only [zo,mk,h25,bind_some,isEmpty_nil,cond_false,zero_add,Nat.le_refl,decide_true,cond_true,bq,cg,E]
 obtain⟨i,b,e,hfi,hq⟩:=bZ ([]:List aj) (by omega) hr c.2.2.2.1
 simp only [hfi,bind_some]
 rcases hq with⟨_,_,hq⟩|⟨rfl,_,⟨rfl,n,rfl,hn,hid⟩|⟨rfl,_⟩⟩
 ·exact absurd hf hq
 ·exact absurd hn (not_lt_zero _)
 ·exact⟨_,_,rfl,ao h 5 hwy⟩
theorem ZU {ck nr nt nk ne ac:Int} {rs:List aj} {es:List aC} (h:SOk (mk ck nr nt nk ne ac rs es)) (hr:∀r∈rs,bH r) (hR:isEmpty rs=false) (hE:isEmpty es=false) (c:bj) (hk:c.1=9):
  ∃t r,yN ((mk ck nr nt nk ne ac rs es),c,())=some (t,r,())∧bE ck nr nt nk ne ac rs es c t r:=by
 have h25:=bf h
 have hf:=h.fine
 have he:=h.ev40
 have hne:=h.ne
 simp only [mk]at h25 hf he hne
 have h32:=hf.1
 have E:=oR h hR hE
 have hwy:eh ck nr nt nk ne ac rs es c:=dH (by rw [hk];decide) (by rw [hk];decide) (by rw [hk];decide) (by rw [hk];decide)
 simp only [mk]at E
 simp only [yN,mk,h25,bind_some,hR,hE,cond_false,zero_add,Nat.le_refl,decide_true,cond_true,bq,cg,E]
 by_cases c1:c.2.2.2.2.2.2.2.1<ofNat 1
 ·rw [decide_eq_true c1,cond_true];exact⟨_,_,rfl,ao h 1 hwy⟩
 rw [decide_eq_false c1,cond_false]
 by_cases c2:c.2.2.2.2.2.2.2.1>ofNat 40
 ·rw [decide_eq_true c2,cond_true];exact⟨_,_,rfl,ao h 1 hwy⟩
 rw [decide_eq_false c2,cond_false]
 simp only [aF]at c1 c2
 obtain⟨m,hm,hml⟩:∃m:Nat,(if(es.length:Int)<c.2.2.2.2.2.2.2.1 then(es.length:Int)else c.2.2.2.2.2.2.2.1)=(m:Int)∧m≤es.length:=by
  split
  ·exact⟨es.length,rfl,Nat.le_refl _⟩
  ·exact⟨c.2.2.2.2.2.2.2.1.toNat,by omega,by omega⟩
 have hw:∀z:Int,z=0→ah z (m:Int) (es.length:Int)=true:=fun z hz=>by subst hz;simp only [ah,Bool.and_eq_true,decide_eq_true_eq];omega
 have ja:=f61 (es.take m) (by rw [List.length_take];omega)
 simp only [hm,hw 0 rfl,hw ((0:Nat):Int) rfl,cond_true,toNat_natCast,sub_zero,Nat.add_zero,zero_add,drop_zero,decide_eq_true hml,ja,bind_some,bq]
 generalize decide ((es.length:Int)>ofNat 40)=b40
 cases hem:isEmpty (take m es)with
 |true=>
  cases b40 with
  |true=>exact⟨_,_,rfl,ao h 8 hwy⟩
  |false=>exact⟨_,_,rfl,lC h hk 0 rfl⟩
 |false=>
  cases b40 with
  |true=>exact⟨_,_,rfl,ao h 8 hwy⟩
  |false=>exact⟨_,_,rfl,lC h hk m rfl⟩
theorem ZV {ck nr nt nk ne ac:Int} {rs:List aj} (h:SOk (mk ck nr nt nk ne ac rs [])) (hr:∀r∈rs,bH r) (hR:isEmpty rs=false) (c:bj) (hk:c.1=9):
  ∃t r,yW ((mk ck nr nt nk ne ac rs []),c,())=some (t,r,())∧bE ck nr nt nk ne ac rs [] c t r:=by
 have h25:=bf h
 have hf:=h.fine
 have he:=h.ev40
 have hne:=h.ne
 simp only [mk]at h25 hf he hne
 have h32:=hf.1
 have E:=oS h hR
 have hwy:eh ck nr nt nk ne ac rs ([]:List aC) c:=dH (by rw [hk];decide) (by rw [hk];decide) (by rw [hk];decide) (by rw [hk];decide)
 simp only [mk]at E
 simp only [yW,mk,h25,bind_some,hR,isEmpty_nil,cond_false,zero_add,Nat.le_refl,decide_true,cond_true,bq,cg,E]
 by_cases c1:c.2.2.2.2.2.2.2.1<ofNat 1
 ·rw [decide_eq_true c1,cond_true];exact⟨_,_,rfl,ao h 1 hwy⟩
 rw [decide_eq_false c1,cond_false]
 by_cases c2:c.2.2.2.2.2.2.2.1>ofNat 40
 ·rw [decide_eq_true c2,cond_true];exact⟨_,_,rfl,ao h 1 hwy⟩
 rw [decide_eq_false c2,cond_false]
 simp only [aF]at c1 c2
 have hm:(if(0:Int)<c.2.2.2.2.2.2.2.1 then(0:Int)else c.2.2.2.2.2.2.2.1)=0:=if_pos (by omega)
 have hw:∀z y:Int,z=0→y=0→ah z 0 y=true:=fun z y hz hy=>by subst hz;subst hy;rfl
 have ja:=f61 [] (by decide)
 simp only [hm,hw 0 0 rfl rfl,hw ((0:Nat):Int) ((0:Nat):Int) rfl rfl,cond_true,ja,bind_some,isEmpty_nil]
 exact⟨_,_,rfl,lC h hk 0 rfl⟩
theorem ZW {ck nr nt nk ne ac:Int} {es:List aC} (h:SOk (mk ck nr nt nk ne ac [] es)) (hr:∀r∈([]:List aj),bH r) (hE:isEmpty es=false) (c:bj) (hk:c.1=9):
  ∃t r,zg ((mk ck nr nt nk ne ac [] es),c,())=some (t,r,())∧bE ck nr nt nk ne ac [] es c t r:=by
 have h25:=bf h
 have hf:=h.fine
 have he:=h.ev40
 have hne:=h.ne
 simp only [mk]at h25 hf he hne
 have h32:=hf.1
 have E:=oT h hE
 have hwy:eh ck nr nt nk ne ac ([]:List aj) es c:=dH (by rw [hk];decide) (by rw [hk];decide) (by rw [hk];decide) (by rw [hk];decide)
 simp only [mk]at E
 simp only [zg,mk,h25,bind_some,hE,isEmpty_nil,cond_false,zero_add,Nat.le_refl,decide_true,cond_true,bq,cg,E]
 by_cases c1:c.2.2.2.2.2.2.2.1<ofNat 1
 ·rw [decide_eq_true c1,cond_true];exact⟨_,_,rfl,ao h 1 hwy⟩
 rw [decide_eq_false c1,cond_false]
 by_cases c2:c.2.2.2.2.2.2.2.1>ofNat 40
 ·rw [decide_eq_true c2,cond_true];exact⟨_,_,rfl,ao h 1 hwy⟩
 rw [decide_eq_false c2,cond_false]
 simp only [aF]at c1 c2
 obtain⟨m,hm,hml⟩:∃m:Nat,(if(es.length:Int)<c.2.2.2.2.2.2.2.1 then(es.length:Int)else c.2.2.2.2.2.2.2.1)=(m:Int)∧m≤es.length:=by
  split
  ·exact⟨es.length,rfl,Nat.le_refl _⟩
  ·exact⟨c.2.2.2.2.2.2.2.1.toNat,by omega,by omega⟩
 have hw:∀z:Int,z=0→ah z (m:Int) (es.length:Int)=true:=fun z hz=>by subst hz;simp only [ah,Bool.and_eq_true,decide_eq_true_eq];omega
 have ja:=f61 (es.take m) (by rw [List.length_take];omega)
 simp only [hm,hw 0 rfl,hw ((0:Nat):Int) rfl,cond_true,toNat_natCast,sub_zero,Nat.add_zero,zero_add,drop_zero,decide_eq_true hml,ja,bind_some,bq]
 generalize decide ((es.length:Int)>ofNat 40)=b40
 cases hem:isEmpty (take m es)with
 |true=>
  cases b40 with
  |true=>exact⟨_,_,rfl,ao h 8 hwy⟩
  |false=>exact⟨_,_,rfl,lC h hk 0 rfl⟩
 |false=>
  cases b40 with
  |true=>exact⟨_,_,rfl,ao h 8 hwy⟩
  |false=>exact⟨_,_,rfl,lC h hk m rfl⟩
theorem ZX {ck nr nt nk ne ac:Int} (h:SOk (mk ck nr nt nk ne ac [] [])) (hr:∀r∈([]:List aj),bH r) (c:bj) (hk:c.1=9):
  ∃t r,zp ((mk ck nr nt nk ne ac [] []),c,())=some (t,r,())∧bE ck nr nt nk ne ac [] [] c t r:=by
 have h25:=bf h
 have hf:=h.fine
 have he:=h.ev40
 have hne:=h.ne
 simp only [mk]at h25 hf he hne
 have h32:=hf.1
 have E:=oU h
 have hwy:eh ck nr nt nk ne ac ([]:List aj) ([]:List aC) c:=dH (by rw [hk];decide) (by rw [hk];decide) (by rw [hk];decide) (by rw [hk];decide)
 simp only [mk]at E
 simp only [zp,mk,h25,bind_some,isEmpty_nil,cond_false,zero_add,Nat.le_refl,decide_true,cond_true,bq,cg,E]
 by_cases c1:c.2.2.2.2.2.2.2.1<ofNat 1
 ·rw [decide_eq_true c1,cond_true];exact⟨_,_,rfl,ao h 1 hwy⟩
 rw [decide_eq_false c1,cond_false]
 by_cases c2:c.2.2.2.2.2.2.2.1>ofNat 40
 ·rw [decide_eq_true c2,cond_true];exact⟨_,_,rfl,ao h 1 hwy⟩
 rw [decide_eq_false c2,cond_false]
 simp only [aF]at c1 c2
 have hm:(if(0:Int)<c.2.2.2.2.2.2.2.1 then(0:Int)else c.2.2.2.2.2.2.2.1)=0:=if_pos (by omega)
 have hw:∀z y:Int,z=0→y=0→ah z 0 y=true:=fun z y hz hy=>by subst hz;subst hy;rfl
 have ja:=f61 [] (by decide)
 simp only [hm,hw 0 0 rfl rfl,hw ((0:Nat):Int) ((0:Nat):Int) rfl rfl,cond_true,ja,bind_some,isEmpty_nil]
 exact⟨_,_,rfl,lC h hk 0 rfl⟩
theorem TB {ck nr nt nk ne ac:Int} {rs:List aj} {es:List aC} (h:SOk (mk ck nr nt nk ne ac rs es)) (hr:∀r∈rs,bH r) (hR:isEmpty rs=false) (hE:isEmpty es=false) (c:bj) (hk:c.1=10):
  ∃t r,wh ((mk ck nr nt nk ne ac rs es),c,())=some (t,r,())∧bE ck nr nt nk ne ac rs es c t r:=by
 have h25:=bf h
 have hf:=h.fine
 have he:=h.ev40
 have hne:=h.ne
 simp only [mk]at h25 hf he hne
 have h32:=hf.1
 have E:=oR h hR hE
 simp only [mk]at E
 simp only [wh,mk,h25,bind_some,hR,hE,cond_false,zero_add,Nat.le_refl,decide_true,cond_true,bq,cg,E]
 by_cases c1:c.2.2.2.2.2.2.2.1<ac
 ·rw [decide_eq_true c1,cond_true];exact⟨_,_,rfl,ao h 1 (pt hk fun h1 h2=>by omega)⟩
 rw [decide_eq_false c1,cond_false]
 by_cases c2:c.2.2.2.2.2.2.2.1≥ne
 ·rw [decide_eq_true c2,cond_true];exact⟨_,_,rfl,ao h 1 (pt hk fun h1 h2=>by omega)⟩
 rw [decide_eq_false c2,cond_false]
 have hac:=h.ack
 have hel:=h.elen
 simp only [mk]at hac hel
 obtain⟨m,hm⟩:∃m:Nat,c.2.2.2.2.2.2.2.1-ac=(m:Int):=⟨(c.2.2.2.2.2.2.2.1-ac).toNat,by omega⟩
 have hml:m≤es.length:=by omega
 have hwr:IntKind.i64.wrap (c.2.2.2.2.2.2.2.1-ac)=(m:Int):=by rw [IntKind.wrap_i64];omega
 have htn:(c.2.2.2.2.2.2.2.1-ac).toNat=m:=by omega
 have hw:∀z:Int,z=0→ah z (m:Int) (es.length:Int)=true:=fun z hz=>by subst hz;simp only [ah,Bool.and_eq_true,decide_eq_true_eq];omega
 have htk:take (es.length-m) (drop m es)=drop m es:=take_of_length_le (by rw [length_drop];omega)
 have ja:=f61 (es.drop m) (by rw [length_drop];omega)
 have hd:decide (m+(es.length-m)≤es.length)=true:=decide_eq_true (by omega)
 simp only [hwr,hw 0 rfl,hw ((0:Nat):Int) rfl,cond_true,toNat_natCast,zero_add,htk,hd,ja,bind_some,bq]
 cases hem:isEmpty (drop m es)with
 |true=>exact⟨_,_,rfl,qw h hk (by omega) (by omega) (by rw [htn];exact(show es.drop m= [] by simpa using hem).symm)⟩
 |false=>
  rw [decide_eq_false (show¬(((drop m es).length:Int)>ofNat 40) by rw [length_drop];simp only [aF];omega),cond_false]
  exact⟨_,_,rfl,qw h hk (by omega) (by omega) (by rw [htn])⟩
theorem TC {ck nr nt nk ne ac:Int} {rs:List aj} (h:SOk (mk ck nr nt nk ne ac rs [])) (hr:∀r∈rs,bH r) (hR:isEmpty rs=false) (c:bj) (hk:c.1=10):
  ∃t r,wj ((mk ck nr nt nk ne ac rs []),c,())=some (t,r,())∧bE ck nr nt nk ne ac rs [] c t r:=by
 have h25:=bf h
 have hf:=h.fine
 have he:=h.ev40
 have hne:=h.ne
 simp only [mk]at h25 hf he hne
 have h32:=hf.1
 have E:=oS h hR
 simp only [mk]at E
 simp only [wj,mk,h25,bind_some,hR,isEmpty_nil,cond_false,zero_add,Nat.le_refl,decide_true,cond_true,bq,cg,E]
 by_cases c1:c.2.2.2.2.2.2.2.1<ac
 ·rw [decide_eq_true c1,cond_true];exact⟨_,_,rfl,ao h 1 (pt hk fun h1 h2=>by omega)⟩
 rw [decide_eq_false c1,cond_false]
 by_cases c2:c.2.2.2.2.2.2.2.1≥ne
 ·rw [decide_eq_true c2,cond_true];exact⟨_,_,rfl,ao h 1 (pt hk fun h1 h2=>by omega)⟩
 rw [decide_eq_false c2,cond_false]
 have hac:=h.ack
 have hel:=h.elen
 simp only [mk]at hac hel
 have hto:c.2.2.2.2.2.2.2.1=ac:=by simp only [length_nil]at hel;omega
 have hwr:IntKind.i64.wrap (c.2.2.2.2.2.2.2.1-ac)=0:=by rw [IntKind.wrap_i64];omega
 have hw:∀z y:Int,z=0→y=0→ah z 0 y=true:=fun z y hz hy=>by subst hz;subst hy;rfl
 have ja:=f61 [] (by decide)
 simp only [hwr,hw 0 0 rfl rfl,hw ((0:Nat):Int) ((0:Nat):Int) rfl rfl,cond_true,ja,bind_some,isEmpty_nil]
 exact⟨_,_,rfl,qw h hk (by omega) (by omega) (by simp)⟩
theorem TD {ck nr nt nk ne ac:Int} {es:List aC} (h:SOk (mk ck nr nt nk ne ac [] es)) (hr:∀r∈([]:List aj),bH r) (hE:isEmpty es=false) (c:bj) (hk:c.1=10):
  ∃t r,wk ((mk ck nr nt nk ne ac [] es),c,())=some (t,r,())∧bE ck nr nt nk ne ac [] es c t r:=by
 have h25:=bf h
 have hf:=h.fine
 have he:=h.ev40
 have hne:=h.ne
 simp only [mk]at h25 hf he hne
 have h32:=hf.1
 have E:=oT h hE
 simp only [mk]at E
 simp only [wk,mk,h25,bind_some,hE,isEmpty_nil,cond_false,zero_add,Nat.le_refl,decide_true,cond_true,bq,cg,E]
 by_cases c1:c.2.2.2.2.2.2.2.1<ac
 ·rw [decide_eq_true c1,cond_true];exact⟨_,_,rfl,ao h 1 (pt hk fun h1 h2=>by omega)⟩
 rw [decide_eq_false c1,cond_false]
 by_cases c2:c.2.2.2.2.2.2.2.1≥ne
 ·rw [decide_eq_true c2,cond_true];exact⟨_,_,rfl,ao h 1 (pt hk fun h1 h2=>by omega)⟩
 rw [decide_eq_false c2,cond_false]
 have hac:=h.ack
 have hel:=h.elen
 simp only [mk]at hac hel
 obtain⟨m,hm⟩:∃m:Nat,c.2.2.2.2.2.2.2.1-ac=(m:Int):=⟨(c.2.2.2.2.2.2.2.1-ac).toNat,by omega⟩
 have hml:m≤es.length:=by omega
 have hwr:IntKind.i64.wrap (c.2.2.2.2.2.2.2.1-ac)=(m:Int):=by rw [IntKind.wrap_i64];omega
 have htn:(c.2.2.2.2.2.2.2.1-ac).toNat=m:=by omega
 have hw:∀z:Int,z=0→ah z (m:Int) (es.length:Int)=true:=fun z hz=>by subst hz;simp only [ah,Bool.and_eq_true,decide_eq_true_eq];omega
 have htk:take (es.length-m) (drop m es)=drop m es:=take_of_length_le (by rw [length_drop];omega)
 have ja:=f61 (es.drop m) (by rw [length_drop];omega)
 have hd:decide (m+(es.length-m)≤es.length)=true:=decide_eq_true (by omega)
 simp only [hwr,hw 0 rfl,hw ((0:Nat):Int) rfl,cond_true,toNat_natCast,zero_add,htk,hd,ja,bind_some,bq]
 cases hem:isEmpty (drop m es)with
 |true=>exact⟨_,_,rfl,qw h hk (by omega) (by omega) (by rw [htn];exact(show es.drop m= [] by simpa using hem).symm)⟩
 |false=>
  rw [decide_eq_false (show¬(((drop m es).length:Int)>ofNat 40) by rw [length_drop];simp only [aF];omega),cond_false]
  exact⟨_,_,rfl,qw h hk (by omega) (by omega) (by rw [htn])⟩
theorem TE {ck nr nt nk ne ac:Int} (h:SOk (mk ck nr nt nk ne ac [] [])) (hr:∀r∈([]:List aj),bH r) (c:bj) (hk:c.1=10):
  ∃t r,wm ((mk ck nr nt nk ne ac [] []),c,())=some (t,r,())∧bE ck nr nt nk ne ac [] [] c t r:=by
 have h25:=bf h
 have hf:=h.fine
 have he:=h.ev40
 have hne:=h.ne
 simp only [mk]at h25 hf he hne
 have h32:=hf.1
 have E:=oU h
 simp only [mk]at E
 simp only [wm,mk,h25,bind_some,isEmpty_nil,cond_false,zero_add,Nat.le_refl,decide_true,cond_true,bq,cg,E]
 by_cases c1:c.2.2.2.2.2.2.2.1<ac
 ·rw [decide_eq_true c1,cond_true];exact⟨_,_,rfl,ao h 1 (pt hk fun h1 h2=>by omega)⟩
 rw [decide_eq_false c1,cond_false]
 by_cases c2:c.2.2.2.2.2.2.2.1≥ne
 ·rw [decide_eq_true c2,cond_true];exact⟨_,_,rfl,ao h 1 (pt hk fun h1 h2=>by omega)⟩
 rw [decide_eq_false c2,cond_false]
 have hac:=h.ack
 have hel:=h.elen
 simp only [mk]at hac hel
 have hto:c.2.2.2.2.2.2.2.1=ac:=by simp only [length_nil]at hel;omega
 have hwr:IntKind.i64.wrap (c.2.2.2.2.2.2.2.1-ac)=0:=by rw [IntKind.wrap_i64];omega
 have hw:∀z y:Int,z=0→y=0→ah z 0 y=true:=fun z y hz hy=>by subst hz;subst hy;rfl
 have ja:=f61 [] (by decide)
 simp only [hwr,hw 0 0 rfl rfl,hw ((0:Nat):Int) ((0:Nat):Int) rfl rfl,cond_true,ja,bind_some,isEmpty_nil]
 exact⟨_,_,rfl,qw h hk (by omega) (by omega) (by simp)⟩
theorem ZY {ck nr nt nk ne ac:Int} {rs:List aj} {es:List aC} (h:SOk (mk ck nr nt nk ne ac rs es)) (hr:∀r∈rs,bH r) (hR:isEmpty rs=false) (hE:isEmpty es=false) (c:bj) (hfr:Fresh nr nt nk ne) (hk:c.1=5):
  ∃t r,yJ ((mk ck nr nt nk ne ac rs es),c,())=some (t,r,())∧bE ck nr nt nk ne ac rs es c t r:=by
 have h25:=bf h
 have hf:=h.fine
 have he:=h.ev40
 have hne:=h.ne
 simp only [mk]at h25 hf he hne
 have h32:=hf.1
 have E:=oR h hR hE
 have hwy:eh ck nr nt nk ne ac rs es c:=dH (by rw [hk];decide) (by rw [hk];decide) (by rw [hk];decide) (by rw [hk];decide)
 simp only [mk]at E
 obtain⟨bs,hbs,hsF,hsT⟩:=f118 c.2.2.2.2.2.2.1
 simp only [yJ,mk,h25,bind_some,hR,hE,cond_false,zero_add,Nat.le_refl,decide_true,cond_true,bq,cg,E,hbs]
 cases bs with
 |false=>exact⟨_,_,rfl,ao h 1 hwy⟩
 |true=>
 simp only [Bool.not_true,cond_false]
 obtain⟨i,b,e,hfi,hq⟩:=bZ rs (by omega) hr c.2.2.2.1
 simp only [hfi,bind_some]
 rcases hq with⟨_,_,hq⟩|⟨rfl,_,⟨rfl,n,rfl,hn,hid⟩|⟨rfl,_⟩⟩
 ·exact absurd hf hq
 ·simp only [Bool.not_true,cond_false,aP hn,aH hn,cond_true,toNat_natCast]
  refine Cm (rs.getD n (aa ab)) (hr _ (aD hn _)) _ _ _ (fun r' k hi hkl hh hun hT=> ?_) (fun m=> ?_)
  ·simp only [cQ]
   try simp only [length_cons,length_nil,zero_add,cq (show es.length≤60 by omega) (show 1≤60 by omega),cq (show es.length+1≤60 by omega) (show 1≤60 by omega),decide_true,cond_true,length_append,length_set,Nat.le_refl,drop_zero]
   by_cases c40:(((es.length:Nat):Int)>ofNat 40)
   ·rw [decide_eq_true c40,cond_true];exact⟨_,_,rfl,ao h 8 hwy⟩
   ·rw [decide_eq_false c40,cond_false]
    exact⟨_,_,rfl,HD h hk hfr hn hid hi hkl hh hun hT (jZ n r')⟩
  ·simp only [eX]
   exact⟨_,_,rfl,ao h m hwy⟩
 ·exact⟨_,_,rfl,ao h 5 hwy⟩
theorem ZZ {ck nr nt nk ne ac:Int} {rs:List aj} (h:SOk (mk ck nr nt nk ne ac rs [])) (hr:∀r∈rs,bH r) (hR:isEmpty rs=false) (c:bj) (hfr:Fresh nr nt nk ne) (hk:c.1=5):
  ∃t r,yS ((mk ck nr nt nk ne ac rs []),c,())=some (t,r,())∧bE ck nr nt nk ne ac rs [] c t r:=by
 have h25:=bf h
 have hf:=h.fine
 have he:=h.ev40
 have hne:=h.ne
 simp only [mk]at h25 hf he hne
 have h32:=hf.1
 have E:=oS h hR
 have hwy:eh ck nr nt nk ne ac rs ([]:List aC) c:=dH (by rw [hk];decide) (by rw [hk];decide) (by rw [hk];decide) (by rw [hk];decide)
 simp only [mk]at E
 obtain⟨bs,hbs,hsF,hsT⟩:=f118 c.2.2.2.2.2.2.1
 simp only [yS,mk,h25,bind_some,hR,isEmpty_nil,cond_false,zero_add,Nat.le_refl,decide_true,cond_true,bq,cg,E,hbs]
 cases bs with
 |false=>exact⟨_,_,rfl,ao h 1 hwy⟩
 |true=>
 simp only [Bool.not_true,cond_false]
 obtain⟨i,b,e,hfi,hq⟩:=bZ rs (by omega) hr c.2.2.2.1
 simp only [hfi,bind_some]
 rcases hq with⟨_,_,hq⟩|⟨rfl,_,⟨rfl,n,rfl,hn,hid⟩|⟨rfl,_⟩⟩
 ·exact absurd hf hq
 ·simp only [Bool.not_true,cond_false,aP hn,aH hn,cond_true,toNat_natCast]
  refine Cm (rs.getD n (aa ab)) (hr _ (aD hn _)) _ _ _ (fun r' k hi hkl hh hun hT=> ?_) (fun m=> ?_)
  ·simp only [cQ]
   try simp only [length_set,Nat.le_refl,decide_true,cond_true,drop_zero]
   exact⟨_,_,rfl,HD h hk hfr hn hid hi hkl hh hun hT (jZ n r')⟩
  ·simp only [eX]
   exact⟨_,_,rfl,ao h m hwy⟩
 ·exact⟨_,_,rfl,ao h 5 hwy⟩
theorem aaa {ck nr nt nk ne ac:Int} {es:List aC} (h:SOk (mk ck nr nt nk ne ac [] es)) (hr:∀r∈([]:List aj),bH r) (hE:isEmpty es=false) (c:bj) (hfr:Fresh nr nt nk ne) (hk:c.1=5):
  ∃t r,zc ((mk ck nr nt nk ne ac [] es),c,())=some (t,r,())∧bE ck nr nt nk ne ac [] es c t r:=by
 have h25:=bf h
 have hf:=h.fine
 have he:=h.ev40
 have hne:=h.ne
 simp only [mk]at h25 hf he hne
 have h32:=hf.1
 have E:=oT h hE
 have hwy:eh ck nr nt nk ne ac ([]:List aj) es c:=dH (by rw [hk];decide) (by rw [hk];decide) (by rw [hk];decide) (by rw [hk];decide)
 simp only [mk]at E
 obtain⟨bs,hbs,hsF,hsT⟩:=f118 c.2.2.2.2.2.2.1
 simp only [zc,mk,h25,bind_some,hE,isEmpty_nil,cond_false,zero_add,Nat.le_refl,decide_true,cond_true,bq,cg,E,hbs]
 cases bs with
 |false=>exact⟨_,_,rfl,ao h 1 hwy⟩
 |true=>
 simp only [Bool.not_true,cond_false]
 obtain⟨i,b,e,hfi,hq⟩:=bZ ([]:List aj) (by omega) hr c.2.2.2.1
 simp only [hfi,bind_some]
 rcases hq with⟨_,_,hq⟩|⟨rfl,_,⟨rfl,n,rfl,hn,hid⟩|⟨rfl,_⟩⟩
 ·exact absurd hf hq
 ·exact absurd hn (not_lt_zero _)
 ·exact⟨_,_,rfl,ao h 5 hwy⟩
theorem aab {ck nr nt nk ne ac:Int} (h:SOk (mk ck nr nt nk ne ac [] [])) (hr:∀r∈([]:List aj),bH r) (c:bj) (hfr:Fresh nr nt nk ne) (hk:c.1=5):
  ∃t r,zl ((mk ck nr nt nk ne ac [] []),c,())=some (t,r,())∧bE ck nr nt nk ne ac [] [] c t r:=by
 have h25:=bf h
 have hf:=h.fine
 have he:=h.ev40
 have hne:=h.ne
 simp only [mk]at h25 hf he hne
 have h32:=hf.1
 have E:=oU h
 have hwy:eh ck nr nt nk ne ac ([]:List aj) ([]:List aC) c:=dH (by rw [hk];decide) (by rw [hk];decide) (by rw [hk];decide) (by rw [hk];decide)
 simp only [mk]at E
 obtain⟨bs,hbs,hsF,hsT⟩:=f118 c.2.2.2.2.2.2.1
 simp only [zl,mk,h25,bind_some,isEmpty_nil,cond_false,zero_add,Nat.le_refl,decide_true,cond_true,bq,cg,E,hbs]
 cases bs with
 |false=>exact⟨_,_,rfl,ao h 1 hwy⟩
 |true=>
 simp only [Bool.not_true,cond_false]
 obtain⟨i,b,e,hfi,hq⟩:=bZ ([]:List aj) (by omega) hr c.2.2.2.1
 simp only [hfi,bind_some]
 rcases hq with⟨_,_,hq⟩|⟨rfl,_,⟨rfl,n,rfl,hn,hid⟩|⟨rfl,_⟩⟩
 ·exact absurd hf hq
 ·exact absurd hn (not_lt_zero _)
 ·exact⟨_,_,rfl,ao h 5 hwy⟩
theorem aac {ck nr nt nk ne ac:Int} {rs:List aj} {es:List aC} (h:SOk (mk ck nr nt nk ne ac rs es)) (hr:∀r∈rs,bH r) (hR:isEmpty rs=false) (hE:isEmpty es=false) (c:bj) (hfr:Fresh nr nt nk ne) (hk:c.1=2):
  ∃t r,vo ((mk ck nr nt nk ne ac rs es),c,())=some (t,r,())∧bE ck nr nt nk ne ac rs es c t r:=by
 have h25:=bf h
 have hf:=h.fine
 have he:=h.ev40
 have hne:=h.ne
 simp only [mk]at h25 hf he hne
 have h32:=hf.1
 have E:=oR h hR hE
 simp only [mk]at E
 have hnt:=h.nt
 simp only [mk]at hnt
 obtain⟨bs,hbs,hsF,hsT⟩:=f118 c.2.2.2.2.2.2.1
 simp only [vo,mk,h25,bind_some,hR,hE,cond_false,zero_add,Nat.le_refl,decide_true,cond_true,bq,cg,E,hbs]
 cases bs with
 |false=>exact⟨_,_,rfl,ao h 1 (oP hk fun _ h1 h2=>absurd ⟨h1,h2⟩ (hsF rfl))⟩
 |true=>
 simp only [Bool.not_true,cond_false]
 obtain⟨p,b,e,hnx,hq⟩:=nj rs (by omega) hr
 simp only [hnx,bind_some]
 rcases hq with⟨_,_,hq⟩|⟨rfl,_,hfb,_,hex⟩
 ·exact absurd hf hq
 cases b with
 |false=>exact⟨_,_,rfl,ao h 5 (oP hk fun _ _ _ n k hn hkk=>kc rs rs.length (Nat.le_refl _) (by rw [take_length];exact hfb.symm) n k hn hkk)⟩
 |true=>
 obtain⟨n0,k0,hn0,hk0,h10,hp,hp2⟩:=hex rfl
 simp only [Bool.not_true,cond_false]
 obtain⟨i,b,e,hfi,hq⟩:=bZ rs (by omega) hr p.1
 simp only [hfi,bind_some]
 rcases hq with⟨_,_,hq⟩|⟨rfl,_,⟨rfl,n,rfl,hn,hid⟩|⟨rfl,hno⟩⟩
 ·exact absurd hf hq
 ·simp only [Bool.not_true,cond_false,aP hn,aH hn,cond_true,toNat_natCast]
  refine zB (rs.getD n (aa ab)) (hr _ (aD hn _)) _ _ _ (fun r' k hi hkl h1 hun hT=> ?_) (fun hwl m=> ?_)
  ·simp only [cQ]
   try simp only [length_cons,length_nil,zero_add,cq (show es.length≤60 by omega) (show 1≤60 by omega),cq (show es.length+1≤60 by omega) (show 1≤60 by omega),decide_true,cond_true,length_append,length_set,Nat.le_refl,drop_zero]
   by_cases c40:(((es.length:Nat):Int)>ofNat 40)
   ·rw [decide_eq_true c40,cond_true];exact⟨_,_,rfl,ao h 8 (oP hk fun _ _ _=>by simp only [aF]at c40;omega)⟩
   ·rw [decide_eq_false c40,cond_false]
    exact⟨_,_,rfl,HC h hk hfr hn hkl h1 hun hT hid hi (wrm (by omega) (by omega)) (fy (by omega) (by omega)) (jZ n r')⟩
  ·simp only [eX]
   exact⟨_,_,rfl,ao h m (oP hk fun _ h1 h2=>by
    have hnn:n=n0:=by
     rcases lt_trichotomy n n0 with q|q|q
     ·have:=hf.2.up n n0 q hn0;omega
     ·exact q
     ·have:=hf.2.up n0 n q hn;omega
    subst hnn
    have hckI:0≤ck∧ck≤1099511627776:=h.ck
    exact absurd ⟨k0,hp2,hk0,h10,Ry (LV hckI.1 hckI.2 h1 h2) _,hnt.1,by omega,hnt.2⟩ (hwl (hf.2.chk n hn)))⟩
 ·exact absurd hp.symm (hno n0 hn0)
theorem aad {ck nr nt nk ne ac:Int} {rs:List aj} (h:SOk (mk ck nr nt nk ne ac rs [])) (hr:∀r∈rs,bH r) (hR:isEmpty rs=false) (c:bj) (hfr:Fresh nr nt nk ne) (hk:c.1=2):
  ∃t r,yP ((mk ck nr nt nk ne ac rs []),c,())=some (t,r,())∧bE ck nr nt nk ne ac rs [] c t r:=by
 have h25:=bf h
 have hf:=h.fine
 have he:=h.ev40
 have hne:=h.ne
 simp only [mk]at h25 hf he hne
 have h32:=hf.1
 have E:=oS h hR
 simp only [mk]at E
 have hnt:=h.nt
 simp only [mk]at hnt
 obtain⟨bs,hbs,hsF,hsT⟩:=f118 c.2.2.2.2.2.2.1
 simp only [yP,mk,h25,bind_some,hR,isEmpty_nil,cond_false,zero_add,Nat.le_refl,decide_true,cond_true,bq,cg,E,hbs]
 cases bs with
 |false=>exact⟨_,_,rfl,ao h 1 (oP hk fun _ h1 h2=>absurd ⟨h1,h2⟩ (hsF rfl))⟩
 |true=>
 simp only [Bool.not_true,cond_false]
 obtain⟨p,b,e,hnx,hq⟩:=nj rs (by omega) hr
 simp only [hnx,bind_some]
 rcases hq with⟨_,_,hq⟩|⟨rfl,_,hfb,_,hex⟩
 ·exact absurd hf hq
 cases b with
 |false=>exact⟨_,_,rfl,ao h 5 (oP hk fun _ _ _ n k hn hkk=>kc rs rs.length (Nat.le_refl _) (by rw [take_length];exact hfb.symm) n k hn hkk)⟩
 |true=>
 obtain⟨n0,k0,hn0,hk0,h10,hp,hp2⟩:=hex rfl
 simp only [Bool.not_true,cond_false]
 obtain⟨i,b,e,hfi,hq⟩:=bZ rs (by omega) hr p.1
 simp only [hfi,bind_some]
 rcases hq with⟨_,_,hq⟩|⟨rfl,_,⟨rfl,n,rfl,hn,hid⟩|⟨rfl,hno⟩⟩
 ·exact absurd hf hq
 ·simp only [Bool.not_true,cond_false,aP hn,aH hn,cond_true,toNat_natCast]
  refine zB (rs.getD n (aa ab)) (hr _ (aD hn _)) _ _ _ (fun r' k hi hkl h1 hun hT=> ?_) (fun hwl m=> ?_)
  ·simp only [cQ]
   try simp only [length_set,Nat.le_refl,decide_true,cond_true,drop_zero]
   exact⟨_,_,rfl,HC h hk hfr hn hkl h1 hun hT hid hi (wrm (by omega) (by omega)) (fy (by omega) (by omega)) (jZ n r')⟩
  ·simp only [eX]
   exact⟨_,_,rfl,ao h m (oP hk fun _ h1 h2=>by
    have hnn:n=n0:=by
     rcases lt_trichotomy n n0 with q|q|q
     ·have:=hf.2.up n n0 q hn0;omega
     ·exact q
     ·have:=hf.2.up n0 n q hn;omega
    subst hnn
    have hckI:0≤ck∧ck≤1099511627776:=h.ck
    exact absurd ⟨k0,hp2,hk0,h10,Ry (LV hckI.1 hckI.2 h1 h2) _,hnt.1,by omega,hnt.2⟩ (hwl (hf.2.chk n hn)))⟩
 ·exact absurd hp.symm (hno n0 hn0)
theorem aae {ck nr nt nk ne ac:Int} {es:List aC} (h:SOk (mk ck nr nt nk ne ac [] es)) (hr:∀r∈([]:List aj),bH r) (hE:isEmpty es=false) (c:bj) (hfr:Fresh nr nt nk ne) (hk:c.1=2):
  ∃t r,yZ ((mk ck nr nt nk ne ac [] es),c,())=some (t,r,())∧bE ck nr nt nk ne ac [] es c t r:=by
 have h25:=bf h
 have hf:=h.fine
 have he:=h.ev40
 have hne:=h.ne
 simp only [mk]at h25 hf he hne
 have h32:=hf.1
 have E:=oT h hE
 simp only [mk]at E
 have hnt:=h.nt
 simp only [mk]at hnt
 obtain⟨bs,hbs,hsF,hsT⟩:=f118 c.2.2.2.2.2.2.1
 simp only [yZ,mk,h25,bind_some,hE,isEmpty_nil,cond_false,zero_add,Nat.le_refl,decide_true,cond_true,bq,cg,E,hbs]
 cases bs with
 |false=>exact⟨_,_,rfl,ao h 1 (oP hk fun _ h1 h2=>absurd ⟨h1,h2⟩ (hsF rfl))⟩
 |true=>
 simp only [Bool.not_true,cond_false]
 obtain⟨p,b,e,hnx,hq⟩:=nj ([]:List aj) (by omega) hr
 simp only [hnx,bind_some]
 rcases hq with⟨_,_,hq⟩|⟨rfl,_,hfb,_,hex⟩
 ·exact absurd hf hq
 cases b with
 |false=>exact⟨_,_,rfl,ao h 5 (oP hk fun _ _ _ n k hn hkk=>kc ([]:List aj) ([]:List aj).length (Nat.le_refl _) (by rw [take_length];exact hfb.symm) n k hn hkk)⟩
 |true=>
 obtain⟨n0,k0,hn0,_,_,hp,_⟩:=hex rfl
 exact absurd hn0 (not_lt_zero _)
theorem aaf {ck nr nt nk ne ac:Int} (h:SOk (mk ck nr nt nk ne ac [] [])) (hr:∀r∈([]:List aj),bH r) (c:bj) (hfr:Fresh nr nt nk ne) (hk:c.1=2):
  ∃t r,zi ((mk ck nr nt nk ne ac [] []),c,())=some (t,r,())∧bE ck nr nt nk ne ac [] [] c t r:=by
 have h25:=bf h
 have hf:=h.fine
 have he:=h.ev40
 have hne:=h.ne
 simp only [mk]at h25 hf he hne
 have h32:=hf.1
 have E:=oU h
 simp only [mk]at E
 have hnt:=h.nt
 simp only [mk]at hnt
 obtain⟨bs,hbs,hsF,hsT⟩:=f118 c.2.2.2.2.2.2.1
 simp only [zi,mk,h25,bind_some,isEmpty_nil,cond_false,zero_add,Nat.le_refl,decide_true,cond_true,bq,cg,E,hbs]
 cases bs with
 |false=>exact⟨_,_,rfl,ao h 1 (oP hk fun _ h1 h2=>absurd ⟨h1,h2⟩ (hsF rfl))⟩
 |true=>
 simp only [Bool.not_true,cond_false]
 obtain⟨p,b,e,hnx,hq⟩:=nj ([]:List aj) (by omega) hr
 simp only [hnx,bind_some]
 rcases hq with⟨_,_,hq⟩|⟨rfl,_,hfb,_,hex⟩
 ·exact absurd hf hq
 cases b with
 |false=>exact⟨_,_,rfl,ao h 5 (oP hk fun _ _ _ n k hn hkk=>kc ([]:List aj) ([]:List aj).length (Nat.le_refl _) (by rw [take_length];exact hfb.symm) n k hn hkk)⟩
 |true=>
 obtain⟨n0,k0,hn0,_,_,hp,_⟩:=hex rfl
 exact absurd hn0 (not_lt_zero _)
theorem aag {ck nr nt nk ne ac:Int} {rs:List aj} {es:List aC} (h:SOk (mk ck nr nt nk ne ac rs es)) (hr:∀r∈rs,bH r) (hR:isEmpty rs=false) (hE:isEmpty es=false) (c:bj) (hcl:∀nd∈c.2.2.1.1,nd.1.length≤9223372036854775807) (hfr:Fresh nr nt nk ne) (hk:c.1=1):
  ∃t r,yH ((mk ck nr nt nk ne ac rs es),c,())=some (t,r,())∧bE ck nr nt nk ne ac rs es c t r:=by
 have h25:=bf h
 have hf:=h.fine
 have he:=h.ev40
 have hne:=h.ne
 simp only [mk]at h25 hf he hne
 have h32:=hf.1
 have E:=oR h hR hE
 have hwy:eh ck nr nt nk ne ac rs es c:=dH (by rw [hk];decide) (by rw [hk];decide) (by rw [hk];decide) (by rw [hk];decide)
 simp only [mk]at E
 have hnr:0≤nr∧nr≤1099511627776:=h.nr
 simp only [yH,mk,h25,bind_some,hR,hE,cond_false,zero_add,Nat.le_refl,decide_true,cond_true,bq,cg,E]
 by_cases c1:((c.2.1.size:Nat):Int)<ofNat 1
 ·rw [decide_eq_true c1,cond_true];exact⟨_,_,rfl,ao h 2 hwy⟩
 rw [decide_eq_false c1,cond_false]
 by_cases c2:((c.2.1.size:Nat):Int)>ofNat 24
 ·rw [decide_eq_true c2,cond_true];exact⟨_,_,rfl,ao h 2 hwy⟩
 rw [decide_eq_false c2,cond_false]
 obtain⟨v,hv,hc⟩:=f114 c.2.2.1.1 hcl
 have hv':jC (c.2.2.1,())=some (v,()):=hv
 simp only [hv',bind_some]
 rcases hc with⟨rfl,hdag⟩|⟨rfl,_⟩
 ·simp only [cQ]
  obtain⟨i,b,e,hkn,hq⟩:=oI rs (by omega) hr c.2.1
  simp only [hkn,bind_some]
  rcases hq with⟨_,_,hq⟩|⟨rfl,_,⟨rfl,n,hn,hid,hkey⟩|⟨rfl,hno⟩⟩
  ·exact absurd hf hq
  ·simp only [cond_true]
   try simp only [length_cons,length_nil,zero_add,cq (show es.length≤60 by omega) (show 1≤60 by omega),cq (show es.length+1≤60 by omega) (show 1≤60 by omega),decide_true,cond_true,length_append,length_set,Nat.le_refl,drop_zero]
   by_cases c40:(((es.length:Nat):Int)>ofNat 40)
   ·rw [decide_eq_true c40,cond_true];exact⟨_,_,rfl,ao h 8 hwy⟩
   ·rw [decide_eq_false c40,cond_false]
    exact⟨_,_,rfl,FW h hk hn hkey hid⟩
  ·simp only [cond_false]
   by_cases c32:((rs.length:Nat):Int)=32
   ·rw [show(((rs.length:Nat):Int)==ofNat 32)=true by rw [c32];rfl,cond_true];exact⟨_,_,rfl,ao h 8 hwy⟩
   ·rw [show(((rs.length:Nat):Int)==ofNat 32)=false by simpa using c32,cond_false]
    refine mZ _ _ _ hcl _ (fun hkey hd hrk=> ?_) (fun r' rk' m=> ?_)
    ·simp only [cQ]
     try simp only [vC,cg,bq,length_cons,length_nil,zero_add,LU (show rs.length≤60 by omega),cq (show es.length≤60 by omega) (show 1≤60 by omega),cq (show es.length+1≤60 by omega) (show 1≤60 by omega),decide_true,cond_true,length_append,Nat.le_refl,drop_zero]
     by_cases c40:(((es.length+1:Nat):Int)>ofNat 40)
     ·rw [decide_eq_true c40,cond_true];exact⟨_,_,rfl,ao h 8 hwy⟩
     ·rw [decide_eq_false c40,cond_false]
      exact⟨_,_,rfl,zC hk hfr hno (by omega) hkey hd hrk (fy (by omega) (by omega)) (fy (by omega) (by omega)) (by simp) (by simp) (by simp only [length_append,length_cons,length_nil,aF]at c40⊢;omega)⟩
    ·simp only [eX]
     exact⟨_,_,rfl,ao h m hwy⟩
 ·exact⟨_,_,rfl,ao h 229 hwy⟩
theorem aah {ck nr nt nk ne ac:Int} {rs:List aj} (h:SOk (mk ck nr nt nk ne ac rs [])) (hr:∀r∈rs,bH r) (hR:isEmpty rs=false) (c:bj) (hcl:∀nd∈c.2.2.1.1,nd.1.length≤9223372036854775807) (hfr:Fresh nr nt nk ne) (hk:c.1=1):
  ∃t r,yO ((mk ck nr nt nk ne ac rs []),c,())=some (t,r,())∧bE ck nr nt nk ne ac rs [] c t r:=by
 have h25:=bf h
 have hf:=h.fine
 have he:=h.ev40
 have hne:=h.ne
 simp only [mk]at h25 hf he hne
 have h32:=hf.1
 have E:=oS h hR
 have hwy:eh ck nr nt nk ne ac rs ([]:List aC) c:=dH (by rw [hk];decide) (by rw [hk];decide) (by rw [hk];decide) (by rw [hk];decide)
 simp only [mk]at E
 have hnr:0≤nr∧nr≤1099511627776:=h.nr
 simp only [yO,mk,h25,bind_some,hR,isEmpty_nil,cond_false,zero_add,Nat.le_refl,decide_true,cond_true,bq,cg,E]
 by_cases c1:((c.2.1.size:Nat):Int)<ofNat 1
 ·rw [decide_eq_true c1,cond_true];exact⟨_,_,rfl,ao h 2 hwy⟩
 rw [decide_eq_false c1,cond_false]
 by_cases c2:((c.2.1.size:Nat):Int)>ofNat 24
 ·rw [decide_eq_true c2,cond_true];exact⟨_,_,rfl,ao h 2 hwy⟩
 rw [decide_eq_false c2,cond_false]
 obtain⟨v,hv,hc⟩:=f114 c.2.2.1.1 hcl
 have hv':jC (c.2.2.1,())=some (v,()):=hv
 simp only [hv',bind_some]
 rcases hc with⟨rfl,hdag⟩|⟨rfl,_⟩
 ·simp only [cQ]
  obtain⟨i,b,e,hkn,hq⟩:=oI rs (by omega) hr c.2.1
  simp only [hkn,bind_some]
  rcases hq with⟨_,_,hq⟩|⟨rfl,_,⟨rfl,n,hn,hid,hkey⟩|⟨rfl,hno⟩⟩
  ·exact absurd hf hq
  ·simp only [cond_true]
   try simp only [length_set,Nat.le_refl,decide_true,cond_true,drop_zero]
   exact⟨_,_,rfl,FW h hk hn hkey hid⟩
  ·simp only [cond_false]
   by_cases c32:((rs.length:Nat):Int)=32
   ·rw [show(((rs.length:Nat):Int)==ofNat 32)=true by rw [c32];rfl,cond_true];exact⟨_,_,rfl,ao h 8 hwy⟩
   ·rw [show(((rs.length:Nat):Int)==ofNat 32)=false by simpa using c32,cond_false]
    refine mZ _ _ _ hcl _ (fun hkey hd hrk=> ?_) (fun r' rk' m=> ?_)
    ·simp only [cQ]
     try simp only [vC,cg,bq,length_cons,length_nil,zero_add,LU (show rs.length≤60 by omega),decide_true,cond_true,length_append,Nat.le_refl,drop_zero]
     exact⟨_,_,rfl,zC hk hfr hno (by omega) hkey hd hrk (fy (by omega) (by omega)) (fy (by omega) (by omega)) (by simp) (by simp) (by simp only [length_cons,length_nil];omega)⟩
    ·simp only [eX]
     exact⟨_,_,rfl,ao h m hwy⟩
 ·exact⟨_,_,rfl,ao h 229 hwy⟩
theorem aai {ck nr nt nk ne ac:Int} {es:List aC} (h:SOk (mk ck nr nt nk ne ac [] es)) (hr:∀r∈([]:List aj),bH r) (hE:isEmpty es=false) (c:bj) (hcl:∀nd∈c.2.2.1.1,nd.1.length≤9223372036854775807) (hfr:Fresh nr nt nk ne) (hk:c.1=1):
  ∃t r,yY ((mk ck nr nt nk ne ac [] es),c,())=some (t,r,())∧bE ck nr nt nk ne ac [] es c t r:=by
 have h25:=bf h
 have hf:=h.fine
 have he:=h.ev40
 have hne:=h.ne
 simp only [mk]at h25 hf he hne
 have h32:=hf.1
 have E:=oT h hE
 have hwy:eh ck nr nt nk ne ac ([]:List aj) es c:=dH (by rw [hk];decide) (by rw [hk];decide) (by rw [hk];decide) (by rw [hk];decide)
 simp only [mk]at E
 have hnr:0≤nr∧nr≤1099511627776:=h.nr
 simp only [yY,mk,h25,bind_some,hE,isEmpty_nil,cond_false,zero_add,Nat.le_refl,decide_true,cond_true,bq,cg,E]
 by_cases c1:((c.2.1.size:Nat):Int)<ofNat 1
 ·rw [decide_eq_true c1,cond_true];exact⟨_,_,rfl,ao h 2 hwy⟩
 rw [decide_eq_false c1,cond_false]
 by_cases c2:((c.2.1.size:Nat):Int)>ofNat 24
 ·rw [decide_eq_true c2,cond_true];exact⟨_,_,rfl,ao h 2 hwy⟩
 rw [decide_eq_false c2,cond_false]
 obtain⟨v,hv,hc⟩:=f114 c.2.2.1.1 hcl
 have hv':jC (c.2.2.1,())=some (v,()):=hv
 simp only [hv',bind_some]
 rcases hc with⟨rfl,hdag⟩|⟨rfl,_⟩
 ·simp only [cQ]
  obtain⟨i,b,e,hkn,hq⟩:=oI ([]:List aj) (by omega) hr c.2.1
  simp only [hkn,bind_some]
  rcases hq with⟨_,_,hq⟩|⟨rfl,_,⟨rfl,n,hn,hid,hkey⟩|⟨rfl,hno⟩⟩
  ·exact absurd hf hq
  ·exact absurd hn (not_lt_zero _)
  ·simp only [cond_false]
   refine mZ _ _ _ hcl _ (fun hkey hd hrk=> ?_) (fun r' rk' m=> ?_)
   ·simp only [cQ]
    try simp only [vC,cg,bq,length_cons,length_nil,zero_add,cq (show es.length≤60 by omega) (show 1≤60 by omega),cq (show es.length+1≤60 by omega) (show 1≤60 by omega),decide_true,cond_true,length_append,Nat.le_refl,drop_zero]
    by_cases c40:(((es.length+1:Nat):Int)>ofNat 40)
    ·rw [decide_eq_true c40,cond_true];exact⟨_,_,rfl,ao h 8 hwy⟩
    ·rw [decide_eq_false c40,cond_false]
     exact⟨_,_,rfl,zC hk hfr hno (by simp only [length_nil];omega) hkey hd hrk (fy (by omega) (by omega)) (fy (by omega) (by omega)) (by simp) (by simp) (by simp only [length_append,length_cons,length_nil,aF]at c40⊢;omega)⟩
   ·simp only [eX]
    exact⟨_,_,rfl,ao h m hwy⟩
 ·exact⟨_,_,rfl,ao h 229 hwy⟩
theorem aaj {ck nr nt nk ne ac:Int} (h:SOk (mk ck nr nt nk ne ac [] [])) (hr:∀r∈([]:List aj),bH r) (c:bj) (hcl:∀nd∈c.2.2.1.1,nd.1.length≤9223372036854775807) (hfr:Fresh nr nt nk ne) (hk:c.1=1):
  ∃t r,vq ((mk ck nr nt nk ne ac [] []),c,())=some (t,r,())∧bE ck nr nt nk ne ac [] [] c t r:=by
 have h25:=bf h
 have hf:=h.fine
 have he:=h.ev40
 have hne:=h.ne
 simp only [mk]at h25 hf he hne
 have h32:=hf.1
 have E:=oU h
 have hwy:eh ck nr nt nk ne ac ([]:List aj) ([]:List aC) c:=dH (by rw [hk];decide) (by rw [hk];decide) (by rw [hk];decide) (by rw [hk];decide)
 simp only [mk]at E
 have hnr:0≤nr∧nr≤1099511627776:=h.nr
 simp only [vq,mk,h25,bind_some,isEmpty_nil,cond_false,zero_add,Nat.le_refl,decide_true,cond_true,bq,cg,E]
 by_cases c1:((c.2.1.size:Nat):Int)<ofNat 1
 ·rw [decide_eq_true c1,cond_true];exact⟨_,_,rfl,ao h 2 hwy⟩
 rw [decide_eq_false c1,cond_false]
 by_cases c2:((c.2.1.size:Nat):Int)>ofNat 24
 ·rw [decide_eq_true c2,cond_true];exact⟨_,_,rfl,ao h 2 hwy⟩
 rw [decide_eq_false c2,cond_false]
 obtain⟨v,hv,hc⟩:=f114 c.2.2.1.1 hcl
 have hv':jC (c.2.2.1,())=some (v,()):=hv
 simp only [hv',bind_some]
 rcases hc with⟨rfl,hdag⟩|⟨rfl,_⟩
 ·simp only [cQ]
  obtain⟨i,b,e,hkn,hq⟩:=oI ([]:List aj) (by omega) hr c.2.1
  simp only [hkn,bind_some]
  rcases hq with⟨_,_,hq⟩|⟨rfl,_,⟨rfl,n,hn,hid,hkey⟩|⟨rfl,hno⟩⟩
  ·exact absurd hf hq
  ·exact absurd hn (not_lt_zero _)
  ·simp only [cond_false]
   refine mZ _ _ _ hcl _ (fun hkey hd hrk=> ?_) (fun r' rk' m=> ?_)
   ·simp only [cQ]
    try simp only [vC,cg,bq,length_cons,length_nil,zero_add,decide_true,cond_true,length_append,Nat.le_refl,drop_zero]
    exact⟨_,_,rfl,zC hk hfr hno (by simp only [length_nil];omega) hkey hd hrk (fy (by omega) (by omega)) (fy (by omega) (by omega)) (by simp) (by simp) (by simp only [length_cons,length_nil];omega)⟩
   ·simp only [eX]
    exact⟨_,_,rfl,ao h m hwy⟩
 ·exact⟨_,_,rfl,ao h 229 hwy⟩
abbrev Dom {α β:Type} (f:α→β):Type:=α
structure SameI (rs R:List aj):Prop where
 len:R.length=rs.length
 is:∀j:Nat,j<rs.length→(R.getD j (aa ab)).1=(rs.getD j (aa ab)).1∧(aN R j).length=(aN rs j).length
theorem FY {rs R:List aj} (hs:SameI rs R) {n:Nat} (hn:n<R.length) {r':aj} (h1:r'.1=(R.getD n (aa ab)).1) (h2:r'.2.2.2.2.1.length=(aN R n).length):SameI rs (R.set n r'):=by
 refine⟨by rw [length_set];exact hs.len,fun j hj=> ?_⟩
 unfold aN
 rw [cH hn]
 split
 ·rename_i c
  subst c
  exact⟨h1.trans (hs.is _ hj).1,h2.trans (hs.is _ hj).2⟩
 ·exact hs.is j hj
theorem lD {now:Int} {P:List bY} {x:ki}:∀(i:Nat) (y:ki),TkN now P x i y→SameI x.2.1 y.2.1∧x.1≤y.1∧y.1≤x.1+i
 |_,_,.zero=>⟨⟨rfl,fun _ _=>⟨rfl,rfl⟩⟩,by omega,by omega⟩
 |_,z,.step i y _ hy h=>by
  obtain⟨q,q1,q2⟩:=lD i y hy
  cases h with
  |skip d R nk ne w h=>exact⟨q,by simp only at*;omega,by simp only at*;omega⟩
  |wake d R nk ne w n k r' hn hid hp hk hd h3 hT=>exact⟨FY q hn hT.id hT.len,by simp only at*;omega,by simp only at*;omega⟩
  |lapse d R nk ne w n k t' r' hn hid hp hk hd h2 hf hT=>exact⟨FY q hn hT.id hT.len,by simp only at*;omega,by simp only at*;omega⟩
theorem wx {rs R:List aj} {now:Int} {p:bY} (hs:SameI rs R) (hf:eG rs) (hp:p∈pl rs now) {n:Nat} (hn:n<R.length) (hid:(R.getD n (aa ab)).1=p.1):
  ∃k:Nat,p.2.1=k∧k<(R.getD n (aa ab)).2.2.2.2.1.length:=by
 obtain⟨r,hr,hp⟩:=List.mem_flatMap.1 hp
 obtain⟨j,hj,_,rfl⟩:=Bm hp
 obtain⟨m,hm,rfl⟩:=List.mem_iff_getElem.1 hr
 rw [←bD hm (aa ab)]at hj hid
 have hn':n<rs.length:=hs.len▸hn
 obtain⟨h1,h2⟩:=hs.is n hn'
 have hnm:n=m:=by
  rw [h1]at hid
  simp only at hid
  rcases lt_trichotomy n m with h|h|h
  ·have:=hf.2.up n m h hm;omega
  ·exact h
  ·have:=hf.2.up m n h hn';omega
 subst hnm
 exact⟨j,by simp only;omega,by unfold aN at h2;rw [h2];exact hj⟩
theorem zD {R:List aj} (hf:eG R) {n m:Nat} (hn:n<R.length) (hm:m<R.length) (h:(R.getD n (aa ab)).1=(R.getD m (aa ab)).1):n=m:=by
 rcases lt_trichotomy n m with c|c|c
 ·have:=hf.2.up n m c hm;omega
 ·exact c
 ·have:=hf.2.up m n c hn;omega
section
variable (np:Nat) (rs:List aj) (es:List aC) (P:List bY) (now nr nt ac:Int)
abbrev ta1 (i d:Int) (R:List aj) (nk ne:Int):=(d,np,(np:Int),i,es,R,now,nr,nt,nk,ne,ac,rs.length,es.length,ofNat 0,ofNat 0,ofNat 0,ofNat 0,ofNat 0,({data:= #[]}:ByteArray),ofNat 0,P,())
abbrev ta2 (i d:Int) (R:List aj) (nk ne:Int) (E:List aC):=(d,np,(np:Int),i,R,now,nr,nt,nk,ne,ac,rs.length,E.length,ofNat 0,ofNat 0,ofNat 0,ofNat 0,ofNat 0,({data:= #[]}:ByteArray),ofNat 0,P,E,())
abbrev ena (i:Int) (x:Int×List aj×Int×Int×Option (List aC)):Dom dE:=match x with
 |(d,R,nk,ne,none)=>.inr (.inl (ta1 np rs es P now nr nt ac i d R nk ne))
 |(d,R,nk,ne,some E)=>.inr (.inr (ta2 np rs P now nr nt ac i d R nk ne E))
def Iva (nk ne:Int) (i:Nat) (x:Int×List aj×Int×Int×Option (List aC)):Prop:=∃w,TkN now P (ofNat 0,rs,nk,ne,[]) i (x.1,x.2.1,x.2.2.1,x.2.2.2.1,w)∧((w= []∧x.2.2.2.2=none)∨x.2.2.2.2=some (es++w))
theorem adL (hnp:np≤16) (hP:np≤P.length) (nk ne:Int) (hx:SX now nr nt nk ne ac rs (es++ [])) (hk:nk≤1099511627676) (he:ne≤1099511627676) (he4:es.length≤40) (hp:∀p∈P,p∈pl rs now):
  ∃y,eD (ena np rs es P now nr nt ac ((0:Nat):Int) (ofNat 0,rs,nk,ne,none))=some y∧∃d R nk' ne' w,TkN now P (ofNat 0,rs,nk,ne,[]) np (d,R,nk',ne',w)∧((w= []∧y= .inr (.inl (d,es,R,now,nr,nt,nk',ne',ac,rs.length,es.length,ofNat 0,ofNat 0,ofNat 0,ofNat 0,ofNat 0,({data:= #[]}:ByteArray),ofNat 0,P,())))∨y= .inr (.inr (d,R,now,nr,nt,nk',ne',ac,rs.length,(es++w).length,ofNat 0,ofNat 0,ofNat 0,ofNat 0,ofNat 0,({data:= #[]}:ByteArray),ofNat 0,P,(es++w),()))):=by
 have h32:=hx.fine.1
 have hf:=hx.fine
 refine ba (st:=dE) np (fun i (x:Int×List aj×Int×Int×Option (List aC))=>ena np rs es P now nr nt ac (i:Int) x) (Iva rs es P now nk ne) (fun y=>∃d R nk' ne' w,TkN now P (ofNat 0,rs,nk,ne,[]) np (d,R,nk',ne',w)∧((w= []∧y= .inr (.inl (d,es,R,now,nr,nt,nk',ne',ac,rs.length,es.length,ofNat 0,ofNat 0,ofNat 0,ofNat 0,ofNat 0,({data:= #[]}:ByteArray),ofNat 0,P,())))∨y= .inr (.inr (d,R,now,nr,nt,nk',ne',ac,rs.length,(es++w).length,ofNat 0,ofNat 0,ofNat 0,ofNat 0,ofNat 0,({data:= #[]}:ByteArray),ofNat 0,P,(es++w),())))) (fun i x h hx2=>.inl ?_) (fun x hx2=> ?_) (ofNat 0,rs,nk,ne,none) ⟨[],.zero,.inl ⟨rfl,rfl⟩⟩
 ·obtain⟨d,R,nk1,ne1,o⟩:=x
  obtain⟨w,hN,ho⟩:=hx2
  simp only at hN ho
  obtain⟨q1,q2,q3,q4,q5,q6⟩:=gU (es:=es) (x:=(ofNat 0,rs,nk,ne,[])) hx i _ hN (by simp only;omega) (by simp only;omega)
  obtain⟨hs,q7,q8⟩:=lD i _ hN
  simp only [length_nil,aF]at q1 q2 q3 q4 q5 q6 hs q7 q8
  have hg:=q1.fine
  have hPi:i<P.length:=by omega
  have hpp:=hp _ (aD hPi (aa au))
  have hT:take rs.length (drop 0 R)=R:=by rw [←hs.len];exact cX R
  have hle:rs.length≤R.length:=by rw [hs.len];omega
  have ek:IntKind.i64.wrap ((i:Int)+ofNat 1)=((i+1:Nat):Int):=uB (by omega) (by omega)
  have hwd:IntKind.i64.wrap (d+ofNat 1)=d+1:=fy (by omega) (by omega)
  have hwk:IntKind.i64.wrap (nk1+ofNat 1)=nk1+1:=fy q1.nkI.1 q1.nkI.2
  have hwe:IntKind.i64.wrap (ne1+ofNat 1)=ne1+1:=fy (by have:=q1.neI.1;omega) q1.neI.2
  have hok:∀r∈R,bH r:=fun r hr=>by
   obtain⟨j,hj,rfl⟩:=List.mem_iff_getElem.1 hr
   rw [←bD hj (aa ab)]
   exact nn (q1.rok hj)
  obtain⟨fi,b,e,hfi,hq⟩:=bZ R (by rw [hs.len];omega) hok (P.getD i (aa au)).1
  have stp:=fun z=>TkN.step (now:=now) (P:=P) (x:=(ofNat 0,rs,nk,ne,[])) i (d,R,nk1,ne1,w) z hN
  generalize hgp:P.getD i (aa au)=p at hfi hq hpp stp
  have skipN:(∀n k:Nat,n<R.length→(R.getD n (aa ab)).1=p.1→p.2.1=k→k<(aN R n).length→dA ((aN R n).getD k (aa ae)) now=false)→Iva rs es P now nk ne (i+1) (d,R,nk1,ne1,o):=fun hsk=>⟨w,stp _ (.skip d R nk1 ne1 w hsk),ho⟩
  cases o with
  |none=>
   obtain rfl:w= []:=by
    rcases ho with⟨h,_⟩|h
    ·exact h
    ·cases h
   have hT2:=cX es
   simp only [dE,lm,jO,bz h,aP h,cond_true,zero_add,toNat_natCast,decide_eq_true hPi,decide_eq_true hle,hT,hgp,hfi,bind_some]
   rcases hq with⟨_,_,hq⟩|⟨_,_,⟨rfl,n,rfl,hn,hid⟩|⟨rfl,hno⟩⟩
   ·exact absurd hg hq
   ·obtain⟨k,hk,hkl⟩:=wx hs hf hpp hn hid
    have hn':n<rs.length:=hs.len▸hn
    simp only [Bool.not_true,cond_false,aP hn',aH hn,cond_true,toNat_natCast,zero_add,hk,aP hkl,aH hkl,f176,bind_some,length_set,ek]
    cases hdu:dA (getD (R.getD n (aa ab)).2.2.2.2.1 k (aa ae)) now with
    |false=>
     simp only [Bool.not_false,cond_true]
     exact⟨(d,R,nk1,ne1,none),rfl,skipN fun n2 k2 hn2 hid2 hk2 hkl2=>by
      obtain rfl:=zD hg hn hn2 (hid.trans hid2.symm)
      obtain rfl:k=k2:=by omega
      exact hdu⟩
    |true=>
     simp only [Bool.not_true,cond_false]
     by_cases h3:(getD (R.getD n (aa ab)).2.2.2.2.1 k (aa ae)).1=3
     ·obtain⟨r',hw,hT3⟩:=wv (R.getD n (aa ab)) (q1.rok hn) k nk1 now hkl h3 hdu q1.nkI q1.ckI
      have hw:om (((R.getD n (aa ab)).1,(R.getD n (aa ab)).2.1,(R.getD n (aa ab)).2.2.1,(R.getD n (aa ab)).2.2.2.1,(R.getD n (aa ab)).2.2.2.2.1,()),(k:Int),nk1,now,())=some (r',0,()):=hw
      rw [show((getD (R.getD n (aa ab)).2.2.2.2.1 k (aa ae)).1==ofNat 3)=true by rw [h3];rfl,cond_true]
      simp only [hw,bind_some,hwd,hwk,length_set]
      exact⟨(d+1,R.set n r',nk1+1,ne1,none),rfl,_,stp _ (.wake d R nk1 ne1 _ n k r' hn hid hk hkl hdu h3 hT3),ho⟩
     ·have h2:(getD (R.getD n (aa ab)).2.2.2.2.1 k (aa ae)).1=2:=by
       have:=(oO hdu).1
       omega
      obtain⟨r',t',hl,hfl,hT3⟩:=rH (R.getD n (aa ab)) (q1.rok hn) k now hkl h2 hdu q1.ckI
      have hl:oq (((R.getD n (aa ab)).1,(R.getD n (aa ab)).2.1,(R.getD n (aa ab)).2.2.1,(R.getD n (aa ab)).2.2.2.1,(R.getD n (aa ab)).2.2.2.2.1,()),(k:Int),now,())=some (r',0,()):=hl
      rw [show((getD (R.getD n (aa ab)).2.2.2.2.1 k (aa ae)).1==ofNat 3)=false by rw [h2];rfl,cond_false]
      have hgd:(R.set n r').getD n (aa ab)=r':=by rw [cH hn,if_pos rfl]
      have h1:=cq (show es.length≤60 by omega) (show 1≤60 by omega)
      simp only [hl,bind_some,length_set,hgd,aH hn,cond_true]
      by_cases c3:r'.2.2.2.1=3
      ·rw [show(r'.2.2.2.1==ofNat 3)=true by simpa using c3]
       simp only [Nat.le_refl,decide_true,cond_true,hT2,bq,cg,length_singleton,h1,cond_true,hwd,hwe]
       exact⟨(d+1,R.set n r',nk1,ne1+1,some (es++ [(ne1,ofNat 5,r'.1,ofNat 0,())])),rfl,_,stp _ (.lapse d R nk1 ne1 _ n k t' r' hn hid hk hkl hdu h2 hfl hT3),.inr (by simp [dw,c3])⟩
      ·rw [show(r'.2.2.2.1==ofNat 3)=false by simpa using c3]
       simp only [Nat.le_refl,decide_true,cond_true,hT2,bq,cg,length_singleton,h1,cond_false,hwd,hwe]
       exact⟨(d+1,R.set n r',nk1,ne1+1,some (es++ [(ne1,ofNat 3,r'.1,(k:Int),())])),rfl,_,stp _ (.lapse d R nk1 ne1 _ n k t' r' hn hid hk hkl hdu h2 hfl hT3),.inr (by simp [dw,c3])⟩
   ·simp only [Bool.not_false,cond_true,ek]
    exact⟨(d,R,nk1,ne1,none),rfl,skipN fun n2 k2 hn2 hid2 _ _=>absurd hid2 (hno n2 hn2)⟩
  |some E=>
   obtain rfl:E=(es++w):=by
    rcases ho with⟨_,h⟩|h
    ·cases h
    ·exact Option.some.inj h
   have hT2:=cX (es++w)
   simp only [dE,lq,jP,bz h,aP h,cond_true,zero_add,toNat_natCast,decide_eq_true hPi,decide_eq_true hle,hT,hgp,hfi,bind_some]
   rcases hq with⟨_,_,hq⟩|⟨_,_,⟨rfl,n,rfl,hn,hid⟩|⟨rfl,hno⟩⟩
   ·exact absurd hg hq
   ·obtain⟨k,hk,hkl⟩:=wx hs hf hpp hn hid
    have hn':n<rs.length:=hs.len▸hn
    simp only [Bool.not_true,cond_false,aP hn',aH hn,cond_true,toNat_natCast,zero_add,hk,aP hkl,aH hkl,f176,bind_some,length_set,ek]
    cases hdu:dA (getD (R.getD n (aa ab)).2.2.2.2.1 k (aa ae)) now with
    |false=>
     simp only [Bool.not_false,cond_true]
     exact⟨(d,R,nk1,ne1,some (es++w)),rfl,skipN fun n2 k2 hn2 hid2 hk2 hkl2=>by
      obtain rfl:=zD hg hn hn2 (hid.trans hid2.symm)
      obtain rfl:k=k2:=by omega
      exact hdu⟩
    |true=>
     simp only [Bool.not_true,cond_false]
     by_cases h3:(getD (R.getD n (aa ab)).2.2.2.2.1 k (aa ae)).1=3
     ·obtain⟨r',hw,hT3⟩:=wv (R.getD n (aa ab)) (q1.rok hn) k nk1 now hkl h3 hdu q1.nkI q1.ckI
      have hw:om (((R.getD n (aa ab)).1,(R.getD n (aa ab)).2.1,(R.getD n (aa ab)).2.2.1,(R.getD n (aa ab)).2.2.2.1,(R.getD n (aa ab)).2.2.2.2.1,()),(k:Int),nk1,now,())=some (r',0,()):=hw
      rw [show((getD (R.getD n (aa ab)).2.2.2.2.1 k (aa ae)).1==ofNat 3)=true by rw [h3];rfl,cond_true]
      simp only [hw,bind_some,hwd,hwk,length_set]
      exact⟨(d+1,R.set n r',nk1+1,ne1,some (es++w)),rfl,_,stp _ (.wake d R nk1 ne1 _ n k r' hn hid hk hkl hdu h3 hT3),ho⟩
     ·have h2:(getD (R.getD n (aa ab)).2.2.2.2.1 k (aa ae)).1=2:=by
       have:=(oO hdu).1
       omega
      obtain⟨r',t',hl,hfl,hT3⟩:=rH (R.getD n (aa ab)) (q1.rok hn) k now hkl h2 hdu q1.ckI
      have hl:oq (((R.getD n (aa ab)).1,(R.getD n (aa ab)).2.1,(R.getD n (aa ab)).2.2.1,(R.getD n (aa ab)).2.2.2.1,(R.getD n (aa ab)).2.2.2.2.1,()),(k:Int),now,())=some (r',0,()):=hl
      rw [show((getD (R.getD n (aa ab)).2.2.2.2.1 k (aa ae)).1==ofNat 3)=false by rw [h2];rfl,cond_false]
      have hgd:(R.set n r').getD n (aa ab)=r':=by rw [cH hn,if_pos rfl]
      have h1:=cq (show(es++w).length≤60 by rw [length_append];omega) (show 1≤60 by omega)
      simp only [hl,bind_some,length_set,hgd,aH hn,cond_true]
      by_cases c3:r'.2.2.2.1=3
      ·rw [show(r'.2.2.2.1==ofNat 3)=true by simpa using c3]
       simp only [Nat.le_refl,decide_true,cond_true,hT2,bq,cg,length_singleton,h1,cond_true,hwd,hwe]
       exact⟨(d+1,R.set n r',nk1,ne1+1,some ((es++w)++ [(ne1,ofNat 5,r'.1,ofNat 0,())])),rfl,_,stp _ (.lapse d R nk1 ne1 _ n k t' r' hn hid hk hkl hdu h2 hfl hT3),.inr (by simp [dw,c3])⟩
      ·rw [show(r'.2.2.2.1==ofNat 3)=false by simpa using c3]
       simp only [Nat.le_refl,decide_true,cond_true,hT2,bq,cg,length_singleton,h1,cond_false,hwd,hwe]
       exact⟨(d+1,R.set n r',nk1,ne1+1,some ((es++w)++ [(ne1,ofNat 3,r'.1,(k:Int),())])),rfl,_,stp _ (.lapse d R nk1 ne1 _ n k t' r' hn hid hk hkl hdu h2 hfl hT3),.inr (by simp [dw,c3])⟩
   ·simp only [Bool.not_false,cond_true,ek]
    exact⟨(d,R,nk1,ne1,some (es++w)),rfl,skipN fun n2 k2 hn2 hid2 _ _=>absurd hid2 (hno n2 hn2)⟩
 ·obtain⟨d,R,nk1,ne1,o⟩:=x
  obtain⟨w,hN,ho⟩:=hx2
  simp only at hN ho
  cases o with
  |none=>
   rcases ho with⟨hw,_⟩|h
   ·exact⟨.inr (.inl (d,es,R,now,nr,nt,nk1,ne1,ac,rs.length,es.length,ofNat 0,ofNat 0,ofNat 0,ofNat 0,ofNat 0,({data:= #[]}:ByteArray),ofNat 0,P,())),by simp only [dE,lm,jO,bu,cond_false],d,R,nk1,ne1,w,hN,.inl ⟨hw,rfl⟩⟩
   ·cases h
  |some E=>
   obtain rfl:E=(es++w):=by
    rcases ho with⟨_,h⟩|h
    ·cases h
    ·exact Option.some.inj h
   exact⟨.inr (.inr (d,R,now,nr,nt,nk1,ne1,ac,rs.length,(es++w).length,ofNat 0,ofNat 0,ofNat 0,ofNat 0,ofNat 0,({data:= #[]}:ByteArray),ofNat 0,P,(es++w),())),by simp only [dE,lq,jP,bu,cond_false],d,R,nk1,ne1,w,hN,.inr rfl⟩
end
section
variable (np:Nat) (rs:List aj) (P:List bY) (now nr nt ac:Int)
abbrev tb1 (i d:Int) (R:List aj) (nk ne:Int):=(d,np,(np:Int),i,R,now,nr,nt,nk,ne,ac,rs.length,ofNat 0,ofNat 0,ofNat 0,ofNat 0,ofNat 0,({data:= #[]}:ByteArray),ofNat 0,P,())
abbrev tb2 (i d:Int) (R:List aj) (nk ne:Int) (E:List aC):=(d,np,(np:Int),i,R,now,nr,nt,nk,ne,ac,rs.length,E.length,ofNat 0,ofNat 0,ofNat 0,ofNat 0,ofNat 0,({data:= #[]}:ByteArray),ofNat 0,P,E,())
abbrev enb (i:Int) (x:Int×List aj×Int×Int×Option (List aC)):Dom dF:=match x with
 |(d,R,nk,ne,none)=>.inr (.inl (tb1 np rs P now nr nt ac i d R nk ne))
 |(d,R,nk,ne,some E)=>.inr (.inr (tb2 np rs P now nr nt ac i d R nk ne E))
def Ivb (nk ne:Int) (i:Nat) (x:Int×List aj×Int×Int×Option (List aC)):Prop:=∃w,TkN now P (ofNat 0,rs,nk,ne,[]) i (x.1,x.2.1,x.2.2.1,x.2.2.2.1,w)∧((w= []∧x.2.2.2.2=none)∨x.2.2.2.2=some w)
theorem adM (hnp:np≤16) (hP:np≤P.length) (nk ne:Int) (hx:SX now nr nt nk ne ac rs (([]:List aC)++ [])) (hk:nk≤1099511627676) (he:ne≤1099511627676) (hp:∀p∈P,p∈pl rs now):
  ∃y,eE (enb np rs P now nr nt ac ((0:Nat):Int) (ofNat 0,rs,nk,ne,none))=some y∧∃d R nk' ne' w,TkN now P (ofNat 0,rs,nk,ne,[]) np (d,R,nk',ne',w)∧((w= []∧y= .inr (.inl (d,R,now,nr,nt,nk',ne',ac,rs.length,ofNat 0,ofNat 0,ofNat 0,ofNat 0,ofNat 0,({data:= #[]}:ByteArray),ofNat 0,P,())))∨y= .inr (.inr (d,R,now,nr,nt,nk',ne',ac,rs.length,w.length,ofNat 0,ofNat 0,ofNat 0,ofNat 0,ofNat 0,({data:= #[]}:ByteArray),ofNat 0,P,w,()))):=by
 have h32:=hx.fine.1
 have hf:=hx.fine
 refine ba (st:=dF) np (fun i (x:Int×List aj×Int×Int×Option (List aC))=>enb np rs P now nr nt ac (i:Int) x) (Ivb rs P now nk ne) (fun y=>∃d R nk' ne' w,TkN now P (ofNat 0,rs,nk,ne,[]) np (d,R,nk',ne',w)∧((w= []∧y= .inr (.inl (d,R,now,nr,nt,nk',ne',ac,rs.length,ofNat 0,ofNat 0,ofNat 0,ofNat 0,ofNat 0,({data:= #[]}:ByteArray),ofNat 0,P,())))∨y= .inr (.inr (d,R,now,nr,nt,nk',ne',ac,rs.length,w.length,ofNat 0,ofNat 0,ofNat 0,ofNat 0,ofNat 0,({data:= #[]}:ByteArray),ofNat 0,P,w,())))) (fun i x h hx2=>.inl ?_) (fun x hx2=> ?_) (ofNat 0,rs,nk,ne,none) ⟨[],.zero,.inl ⟨rfl,rfl⟩⟩
 ·obtain⟨d,R,nk1,ne1,o⟩:=x
  obtain⟨w,hN,ho⟩:=hx2
  simp only at hN ho
  obtain⟨q1,q2,q3,q4,q5,q6⟩:=gU (es:=([]:List aC)) (x:=(ofNat 0,rs,nk,ne,[])) hx i _ hN (by simp only;omega) (by simp only;omega)
  obtain⟨hs,q7,q8⟩:=lD i _ hN
  simp only [length_nil,aF]at q1 q2 q3 q4 q5 q6 hs q7 q8
  have hg:=q1.fine
  have hPi:i<P.length:=by omega
  have hpp:=hp _ (aD hPi (aa au))
  have hT:take rs.length (drop 0 R)=R:=by rw [←hs.len];exact cX R
  have hle:rs.length≤R.length:=by rw [hs.len];omega
  have ek:IntKind.i64.wrap ((i:Int)+ofNat 1)=((i+1:Nat):Int):=uB (by omega) (by omega)
  have hwd:IntKind.i64.wrap (d+ofNat 1)=d+1:=fy (by omega) (by omega)
  have hwk:IntKind.i64.wrap (nk1+ofNat 1)=nk1+1:=fy q1.nkI.1 q1.nkI.2
  have hwe:IntKind.i64.wrap (ne1+ofNat 1)=ne1+1:=fy (by have:=q1.neI.1;omega) q1.neI.2
  have hok:∀r∈R,bH r:=fun r hr=>by
   obtain⟨j,hj,rfl⟩:=List.mem_iff_getElem.1 hr
   rw [←bD hj (aa ab)]
   exact nn (q1.rok hj)
  obtain⟨fi,b,e,hfi,hq⟩:=bZ R (by rw [hs.len];omega) hok (P.getD i (aa au)).1
  have stp:=fun z=>TkN.step (now:=now) (P:=P) (x:=(ofNat 0,rs,nk,ne,[])) i (d,R,nk1,ne1,w) z hN
  generalize hgp:P.getD i (aa au)=p at hfi hq hpp stp
  have skipN:(∀n k:Nat,n<R.length→(R.getD n (aa ab)).1=p.1→p.2.1=k→k<(aN R n).length→dA ((aN R n).getD k (aa ae)) now=false)→Ivb rs P now nk ne (i+1) (d,R,nk1,ne1,o):=fun hsk=>⟨w,stp _ (.skip d R nk1 ne1 w hsk),ho⟩
  cases o with
  |none=>
   obtain rfl:w= []:=by
    rcases ho with⟨h,_⟩|h
    ·exact h
    ·cases h
   simp only [dF,lr,jQ,bz h,aP h,cond_true,zero_add,toNat_natCast,decide_eq_true hPi,decide_eq_true hle,hT,hgp,hfi,bind_some]
   rcases hq with⟨_,_,hq⟩|⟨_,_,⟨rfl,n,rfl,hn,hid⟩|⟨rfl,hno⟩⟩
   ·exact absurd hg hq
   ·obtain⟨k,hk,hkl⟩:=wx hs hf hpp hn hid
    have hn':n<rs.length:=hs.len▸hn
    simp only [Bool.not_true,cond_false,aP hn',aH hn,cond_true,toNat_natCast,zero_add,hk,aP hkl,aH hkl,f176,bind_some,length_set,ek]
    cases hdu:dA (getD (R.getD n (aa ab)).2.2.2.2.1 k (aa ae)) now with
    |false=>
     simp only [Bool.not_false,cond_true]
     exact⟨(d,R,nk1,ne1,none),rfl,skipN fun n2 k2 hn2 hid2 hk2 hkl2=>by
      obtain rfl:=zD hg hn hn2 (hid.trans hid2.symm)
      obtain rfl:k=k2:=by omega
      exact hdu⟩
    |true=>
     simp only [Bool.not_true,cond_false]
     by_cases h3:(getD (R.getD n (aa ab)).2.2.2.2.1 k (aa ae)).1=3
     ·obtain⟨r',hw,hT3⟩:=wv (R.getD n (aa ab)) (q1.rok hn) k nk1 now hkl h3 hdu q1.nkI q1.ckI
      have hw:om (((R.getD n (aa ab)).1,(R.getD n (aa ab)).2.1,(R.getD n (aa ab)).2.2.1,(R.getD n (aa ab)).2.2.2.1,(R.getD n (aa ab)).2.2.2.2.1,()),(k:Int),nk1,now,())=some (r',0,()):=hw
      rw [show((getD (R.getD n (aa ab)).2.2.2.2.1 k (aa ae)).1==ofNat 3)=true by rw [h3];rfl,cond_true]
      simp only [hw,bind_some,hwd,hwk,length_set]
      exact⟨(d+1,R.set n r',nk1+1,ne1,none),rfl,_,stp _ (.wake d R nk1 ne1 _ n k r' hn hid hk hkl hdu h3 hT3),ho⟩
     ·have h2:(getD (R.getD n (aa ab)).2.2.2.2.1 k (aa ae)).1=2:=by
       have:=(oO hdu).1
       omega
      obtain⟨r',t',hl,hfl,hT3⟩:=rH (R.getD n (aa ab)) (q1.rok hn) k now hkl h2 hdu q1.ckI
      have hl:oq (((R.getD n (aa ab)).1,(R.getD n (aa ab)).2.1,(R.getD n (aa ab)).2.2.1,(R.getD n (aa ab)).2.2.2.1,(R.getD n (aa ab)).2.2.2.2.1,()),(k:Int),now,())=some (r',0,()):=hl
      rw [show((getD (R.getD n (aa ab)).2.2.2.2.1 k (aa ae)).1==ofNat 3)=false by rw [h2];rfl,cond_false]
      have hgd:(R.set n r').getD n (aa ab)=r':=by rw [cH hn,if_pos rfl]
      simp only [hl,bind_some,length_set,hgd,aH hn,cond_true]
      by_cases c3:r'.2.2.2.1=3
      ·rw [show(r'.2.2.2.1==ofNat 3)=true by simpa using c3]
       simp only [bq,cg,length_singleton,cond_true,hwd,hwe]
       exact⟨(d+1,R.set n r',nk1,ne1+1,some ([(ne1,ofNat 5,r'.1,ofNat 0,())])),rfl,_,stp _ (.lapse d R nk1 ne1 _ n k t' r' hn hid hk hkl hdu h2 hfl hT3),.inr (by simp [dw,c3])⟩
      ·rw [show(r'.2.2.2.1==ofNat 3)=false by simpa using c3]
       simp only [bq,cg,length_singleton,cond_false,hwd,hwe]
       exact⟨(d+1,R.set n r',nk1,ne1+1,some ([(ne1,ofNat 3,r'.1,(k:Int),())])),rfl,_,stp _ (.lapse d R nk1 ne1 _ n k t' r' hn hid hk hkl hdu h2 hfl hT3),.inr (by simp [dw,c3])⟩
   ·simp only [Bool.not_false,cond_true,ek]
    exact⟨(d,R,nk1,ne1,none),rfl,skipN fun n2 k2 hn2 hid2 _ _=>absurd hid2 (hno n2 hn2)⟩
  |some E=>
   obtain rfl:w=E:=by
    rcases ho with⟨_,h⟩|h
    ·cases h
    ·exact(Option.some.inj h).symm
   have hT2:=cX w
   simp only [dF,lu,jR,bz h,aP h,cond_true,zero_add,toNat_natCast,decide_eq_true hPi,decide_eq_true hle,hT,hgp,hfi,bind_some]
   rcases hq with⟨_,_,hq⟩|⟨_,_,⟨rfl,n,rfl,hn,hid⟩|⟨rfl,hno⟩⟩
   ·exact absurd hg hq
   ·obtain⟨k,hk,hkl⟩:=wx hs hf hpp hn hid
    have hn':n<rs.length:=hs.len▸hn
    simp only [Bool.not_true,cond_false,aP hn',aH hn,cond_true,toNat_natCast,zero_add,hk,aP hkl,aH hkl,f176,bind_some,length_set,ek]
    cases hdu:dA (getD (R.getD n (aa ab)).2.2.2.2.1 k (aa ae)) now with
    |false=>
     simp only [Bool.not_false,cond_true]
     exact⟨(d,R,nk1,ne1,some w),rfl,skipN fun n2 k2 hn2 hid2 hk2 hkl2=>by
      obtain rfl:=zD hg hn hn2 (hid.trans hid2.symm)
      obtain rfl:k=k2:=by omega
      exact hdu⟩
    |true=>
     simp only [Bool.not_true,cond_false]
     by_cases h3:(getD (R.getD n (aa ab)).2.2.2.2.1 k (aa ae)).1=3
     ·obtain⟨r',hw,hT3⟩:=wv (R.getD n (aa ab)) (q1.rok hn) k nk1 now hkl h3 hdu q1.nkI q1.ckI
      have hw:om (((R.getD n (aa ab)).1,(R.getD n (aa ab)).2.1,(R.getD n (aa ab)).2.2.1,(R.getD n (aa ab)).2.2.2.1,(R.getD n (aa ab)).2.2.2.2.1,()),(k:Int),nk1,now,())=some (r',0,()):=hw
      rw [show((getD (R.getD n (aa ab)).2.2.2.2.1 k (aa ae)).1==ofNat 3)=true by rw [h3];rfl,cond_true]
      simp only [hw,bind_some,hwd,hwk,length_set]
      exact⟨(d+1,R.set n r',nk1+1,ne1,some w),rfl,_,stp _ (.wake d R nk1 ne1 _ n k r' hn hid hk hkl hdu h3 hT3),ho⟩
     ·have h2:(getD (R.getD n (aa ab)).2.2.2.2.1 k (aa ae)).1=2:=by
       have:=(oO hdu).1
       omega
      obtain⟨r',t',hl,hfl,hT3⟩:=rH (R.getD n (aa ab)) (q1.rok hn) k now hkl h2 hdu q1.ckI
      have hl:oq (((R.getD n (aa ab)).1,(R.getD n (aa ab)).2.1,(R.getD n (aa ab)).2.2.1,(R.getD n (aa ab)).2.2.2.1,(R.getD n (aa ab)).2.2.2.2.1,()),(k:Int),now,())=some (r',0,()):=hl
      rw [show((getD (R.getD n (aa ab)).2.2.2.2.1 k (aa ae)).1==ofNat 3)=false by rw [h2];rfl,cond_false]
      have hgd:(R.set n r').getD n (aa ab)=r':=by rw [cH hn,if_pos rfl]
      have h1:=cq (show w.length≤60 by omega) (show 1≤60 by omega)
      simp only [hl,bind_some,length_set,hgd,aH hn,cond_true]
      by_cases c3:r'.2.2.2.1=3
      ·rw [show(r'.2.2.2.1==ofNat 3)=true by simpa using c3]
       simp only [Nat.le_refl,decide_true,cond_true,hT2,bq,cg,length_singleton,h1,cond_true,hwd,hwe]
       exact⟨(d+1,R.set n r',nk1,ne1+1,some (w++ [(ne1,ofNat 5,r'.1,ofNat 0,())])),rfl,_,stp _ (.lapse d R nk1 ne1 _ n k t' r' hn hid hk hkl hdu h2 hfl hT3),.inr (by simp [dw,c3])⟩
      ·rw [show(r'.2.2.2.1==ofNat 3)=false by simpa using c3]
       simp only [Nat.le_refl,decide_true,cond_true,hT2,bq,cg,length_singleton,h1,cond_false,hwd,hwe]
       exact⟨(d+1,R.set n r',nk1,ne1+1,some (w++ [(ne1,ofNat 3,r'.1,(k:Int),())])),rfl,_,stp _ (.lapse d R nk1 ne1 _ n k t' r' hn hid hk hkl hdu h2 hfl hT3),.inr (by simp [dw,c3])⟩
   ·simp only [Bool.not_false,cond_true,ek]
    exact⟨(d,R,nk1,ne1,some w),rfl,skipN fun n2 k2 hn2 hid2 _ _=>absurd hid2 (hno n2 hn2)⟩
 ·obtain⟨d,R,nk1,ne1,o⟩:=x
  obtain⟨w,hN,ho⟩:=hx2
  simp only at hN ho
  cases o with
  |none=>
   rcases ho with⟨hw,_⟩|h
   ·exact⟨.inr (.inl (d,R,now,nr,nt,nk1,ne1,ac,rs.length,ofNat 0,ofNat 0,ofNat 0,ofNat 0,ofNat 0,({data:= #[]}:ByteArray),ofNat 0,P,())),by simp only [dF,lr,jQ,bu,cond_false],d,R,nk1,ne1,w,hN,.inl ⟨hw,rfl⟩⟩
   ·cases h
  |some E=>
   obtain rfl:w=E:=by
    rcases ho with⟨_,h⟩|h
    ·cases h
    ·exact(Option.some.inj h).symm
   exact⟨.inr (.inr (d,R,now,nr,nt,nk1,ne1,ac,rs.length,w.length,ofNat 0,ofNat 0,ofNat 0,ofNat 0,ofNat 0,({data:= #[]}:ByteArray),ofNat 0,P,w,())),by simp only [dF,lu,jR,bu,cond_false],d,R,nk1,ne1,w,hN,.inr rfl⟩
end
theorem zF (rs:List aj) (hm:rs.length≤9223372036854775807) (hr:∀r∈rs,bH r) (hf:eG rs) (now:Int) (hn:bV now):
  ∃(l:List bY) (e:Int),xE (rs,now,())=some (l,e,())∧l.Perm (pl rs now)∧Ru l:=by
 obtain⟨v,hv,hc⟩:=f51 rs hm hr
 rcases hc with⟨h1,_⟩|⟨_,h2,_⟩|⟨_,rfl⟩
 ·have:=hf.1;omega
 ·exact absurd hf.2 h2
 ·obtain⟨S,h1,h2,h3⟩:=f175 rs now hf.1 (Zz hf)
  obtain⟨n1,n2⟩:=hn
  simp only [xE,hv,bind_some,jU,cond_false,decide_eq_false (show¬now<ofNat 0 by simp only [aF];omega),decide_eq_false (show¬now>ofNat 1099511627776 by simp only [aF];omega),h1]
  cases S with
  |nil=>exact⟨_,_,rfl,h2,h3⟩
  |cons a m=>
   simp only [isEmpty_cons,cond_false,cX,zero_add,Nat.le_refl,decide_true,cond_true]
   exact⟨_,_,rfl,h2,h3⟩
theorem jc {ck nr nt nk ne ac:Int} {rs:List aj} {es:List aC} {c:bj} {R2:List aj} {E:List aC} {l:List bY} {d:Int} {R:List aj} {nk' ne':Int} {w:List aC} (hk:c.1=7) (hf:Fresh nr nt nk ne) (h1:¬c.2.2.2.2.2.2.2.1<ck) (h2:¬c.2.2.2.2.2.2.2.1>ofNat 1099511627776) (hl:l.Perm (pl rs c.2.2.2.2.2.2.2.1)) (hs:Ru l) (hN:TkN c.2.2.2.2.2.2.2.1 l (ofNat 0,rs,nk,ne,[]) (min 16 l.length) (d,R,nk',ne',w)) (hR:R2=R) (hE:E=es++w) (h40:E.length≤40):
  bE ck nr nt nk ne ac rs es c (mk c.2.2.2.2.2.2.2.1 nr nt nk' ne' ac R2 E) (kj (ofNat 0) d (ofNat 0)):=by
 subst hR hE;exact⟨.tick l d R2 nk' ne' w hk hf (by omega) (by simp only [aF]at h2;omega) hl hs hN,h40⟩
theorem aak {ck nr nt nk ne ac:Int} {rs:List aj} {es:List aC} (h:SOk (mk ck nr nt nk ne ac rs es)) (hr:∀r∈rs,bH r) (hR:isEmpty rs=false) (hE:isEmpty es=false) (c:bj) (hfr:Fresh nr nt nk ne) (hk:c.1=7):
  ∃t r,yL ((mk ck nr nt nk ne ac rs es),c,())=some (t,r,())∧bE ck nr nt nk ne ac rs es c t r:=by
 have h25:=bf h
 have hf:=h.fine
 have he:=h.ev40
 have hck:0≤ck∧ck≤1099511627776:=h.ck
 have hsx:=ij h
 simp only [mk]at h25 hf he
 have h32:=hf.1
 have E:=oR h hR hE
 simp only [mk]at E
 simp only [yL,mk,h25,bind_some,hR,hE,isEmpty_nil,cond_false,zero_add,Nat.le_refl,decide_true,cond_true,bq,cg,E]
 by_cases c1:c.2.2.2.2.2.2.2.1<ck
 ·rw [decide_eq_true c1,cond_true];exact⟨_,_,rfl,ao h 1 (lB hk fun _ h1 h2 _=>by first|omega|(simp only [aF]at*;omega))⟩
 rw [decide_eq_false c1,cond_false]
 by_cases c2:c.2.2.2.2.2.2.2.1>ofNat 1099511627776
 ·rw [decide_eq_true c2,cond_true];exact⟨_,_,rfl,ao h 1 (lB hk fun _ h1 h2 _=>by first|omega|(simp only [aF]at*;omega))⟩
 rw [decide_eq_false c2,cond_false]
 have hTo:bV c.2.2.2.2.2.2.2.1:=⟨by omega,by simp only [aF]at c2;omega⟩
 obtain⟨l,e,hdue,hperm,hsrt⟩:=zF rs (by omega) hr hf c.2.2.2.2.2.2.2.1 hTo
 simp only [hdue,bind_some]
 have h0:eD (.inl (ofNat 0,0,ofNat 0,es,rs,c.2.2.2.2.2.2.2.1,nr,nt,nk,ne,ac,rs.length,es.length,ofNat 0,ofNat 0,ofNat 0,ofNat 0,ofNat 0,({data:= #[]}:ByteArray),ofNat 0,()))=some (.inl (ofNat 0,es,rs,c.2.2.2.2.2.2.2.1,nr,nt,nk,ne,ac,rs.length,es.length,ofNat 0,ofNat 0,ofNat 0,ofNat 0,ofNat 0,({data:= #[]}:ByteArray),ofNat 0,())):=by
  rw [eD,cC]
  rfl
 by_cases hl:l= []
 ·subst hl
  simp only [isEmpty_nil,cond_true,h0,bind_some]
  by_cases c40:(((es.length:Nat):Int)>ofNat 40)
  ·rw [decide_eq_true c40,cond_true];exact⟨_,_,rfl,ao h 8 (lB hk fun _ _ _ h24=>by first|(simp only [aF]at c40;omega)|(have:=(gU hsx2 _ _ hN (by simp only;have:=hfr.nk;omega) (by simp only;have:=hfr.ne;omega)).2.2.2.2.2;simp only [length_append,length_nil,aF]at this c40 h24;omega))⟩
  ·rw [decide_eq_false c40,cond_false]
   try simp only [cond_false,zero_add,Nat.le_refl,decide_true,cond_true,drop_zero,take_length]
   exact⟨_,_,rfl,jc hk hfr c1 c2 hperm hsrt TkN.zero (by first|rfl|simp|exact hRR) (by simp) (by simp only [aF]at c40;omega)⟩
 ·have hle:isEmpty l=false:=by cases l with
   |nil=>exact absurd rfl hl
   |cons a m=>rfl
  have hmin:(if ofNat 16<((l.length:Nat):Int)then ofNat 16 else((l.length:Nat):Int))=((min 16 l.length:Nat):Int):=by
   simp only [aF]
   split<;>omega
  have hwi:ah (0:Int) ((min 16 l.length:Nat):Int) ((l.length:Nat):Int)=true:=by
   simp only [ah,Bool.and_eq_true,decide_eq_true_eq];omega
  have hsx2:SX c.2.2.2.2.2.2.2.1 nr nt nk ne ac rs (es++ []):=by
   rw [append_nil]
   exact⟨hsx.fine,hTo,hsx.nrI,hsx.nkI,hsx.ntI,hsx.neI,hsx.ack,hsx.elen,hsx.late,hsx.evs⟩
  obtain⟨y,hy,d,R,nk',ne',w,hN,hyq⟩:=adL (min 16 l.length) rs es l c.2.2.2.2.2.2.2.1 nr nt ac (by omega) (by omega) nk ne hsx2 hfr.nk hfr.ne he (fun p hp=>hperm.subset hp)
  have hy:eD (.inr (.inl (ofNat 0,min 16 l.length,((min 16 l.length:Nat):Int),ofNat 0,es,rs,c.2.2.2.2.2.2.2.1,nr,nt,nk,ne,ac,rs.length,es.length,ofNat 0,ofNat 0,ofNat 0,ofNat 0,ofNat 0,({data:= #[]}:ByteArray),ofNat 0,l,())))=some y:=hy
  simp only [hle,hmin,hwi,toNat_natCast,sub_zero,cond_true,cond_false,hy,bind_some]
  have hs:=(lD _ _ hN).1
  simp only at hs
  have hlR:rs.length≤R.length:=by rw [hs.len];omega
  have hRR:take rs.length R=R:=take_of_length_le (by rw [hs.len];omega)
  rcases hyq with⟨rfl,rfl⟩|rfl
  ·simp only []
   by_cases c40:(((es.length:Nat):Int)>ofNat 40)
   ·rw [decide_eq_true c40,cond_true];exact⟨_,_,rfl,ao h 8 (lB hk fun _ _ _ h24=>by first|(simp only [aF]at c40;omega)|(have:=(gU hsx2 _ _ hN (by simp only;have:=hfr.nk;omega) (by simp only;have:=hfr.ne;omega)).2.2.2.2.2;simp only [length_append,length_nil,aF]at this c40 h24;omega))⟩
   ·rw [decide_eq_false c40,cond_false]
    try simp only [cond_false,zero_add,Nat.le_refl,decide_true,cond_true,drop_zero,take_length,decide_eq_true hlR,hRR]
    exact⟨_,_,rfl,jc hk hfr c1 c2 hperm hsrt hN (by first|rfl|simp|exact hRR) (by simp) (by simp only [aF]at c40;omega)⟩
  ·simp only []
   by_cases c40:((((es++w).length:Nat):Int)>ofNat 40)
   ·rw [decide_eq_true c40,cond_true];exact⟨_,_,rfl,ao h 8 (lB hk fun _ _ _ h24=>by first|(simp only [aF]at c40;omega)|(have:=(gU hsx2 _ _ hN (by simp only;have:=hfr.nk;omega) (by simp only;have:=hfr.ne;omega)).2.2.2.2.2;simp only [length_append,length_nil,aF]at this c40 h24;omega))⟩
   ·rw [decide_eq_false c40,cond_false]
    try simp only [cond_false,zero_add,Nat.le_refl,decide_true,cond_true,drop_zero,take_length,decide_eq_true hlR,hRR]
    exact⟨_,_,rfl,jc hk hfr c1 c2 hperm hsrt hN (by first|rfl|simp|exact hRR) (by simp) (by simp only [aF]at c40;omega)⟩
theorem aal {ck nr nt nk ne ac:Int} {rs:List aj} (h:SOk (mk ck nr nt nk ne ac rs [])) (hr:∀r∈rs,bH r) (hR:isEmpty rs=false) (c:bj) (hfr:Fresh nr nt nk ne) (hk:c.1=7):
  ∃t r,yU ((mk ck nr nt nk ne ac rs []),c,())=some (t,r,())∧bE ck nr nt nk ne ac rs [] c t r:=by
 have h25:=bf h
 have hf:=h.fine
 have he:=h.ev40
 have hck:0≤ck∧ck≤1099511627776:=h.ck
 have hsx:=ij h
 simp only [mk]at h25 hf he
 have h32:=hf.1
 have E:=oS h hR
 simp only [mk]at E
 simp only [yU,mk,h25,bind_some,hR,isEmpty_nil,cond_false,zero_add,Nat.le_refl,decide_true,cond_true,bq,cg,E]
 by_cases c1:c.2.2.2.2.2.2.2.1<ck
 ·rw [decide_eq_true c1,cond_true];exact⟨_,_,rfl,ao h 1 (lB hk fun _ h1 h2 _=>by first|omega|(simp only [aF]at*;omega))⟩
 rw [decide_eq_false c1,cond_false]
 by_cases c2:c.2.2.2.2.2.2.2.1>ofNat 1099511627776
 ·rw [decide_eq_true c2,cond_true];exact⟨_,_,rfl,ao h 1 (lB hk fun _ h1 h2 _=>by first|omega|(simp only [aF]at*;omega))⟩
 rw [decide_eq_false c2,cond_false]
 have hTo:bV c.2.2.2.2.2.2.2.1:=⟨by omega,by simp only [aF]at c2;omega⟩
 obtain⟨l,e,hdue,hperm,hsrt⟩:=zF rs (by omega) hr hf c.2.2.2.2.2.2.2.1 hTo
 simp only [hdue,bind_some]
 have h0:eE (.inl (ofNat 0,0,ofNat 0,rs,c.2.2.2.2.2.2.2.1,nr,nt,nk,ne,ac,rs.length,ofNat 0,ofNat 0,ofNat 0,ofNat 0,ofNat 0,({data:= #[]}:ByteArray),ofNat 0,()))=some (.inl (ofNat 0,rs,c.2.2.2.2.2.2.2.1,nr,nt,nk,ne,ac,rs.length,ofNat 0,ofNat 0,ofNat 0,ofNat 0,ofNat 0,({data:= #[]}:ByteArray),ofNat 0,())):=by
  rw [eE,cC]
  rfl
 by_cases hl:l= []
 ·subst hl
  simp only [isEmpty_nil,cond_true,h0,bind_some]
  try simp only [cond_false,zero_add,Nat.le_refl,decide_true,cond_true,drop_zero,take_length]
  exact⟨_,_,rfl,jc hk hfr c1 c2 hperm hsrt TkN.zero (by first|rfl|simp|exact hRR) (by simp) (by simp)⟩
 ·have hle:isEmpty l=false:=by cases l with
   |nil=>exact absurd rfl hl
   |cons a m=>rfl
  have hmin:(if ofNat 16<((l.length:Nat):Int)then ofNat 16 else((l.length:Nat):Int))=((min 16 l.length:Nat):Int):=by
   simp only [aF]
   split<;>omega
  have hwi:ah (0:Int) ((min 16 l.length:Nat):Int) ((l.length:Nat):Int)=true:=by
   simp only [ah,Bool.and_eq_true,decide_eq_true_eq];omega
  have hsx2:SX c.2.2.2.2.2.2.2.1 nr nt nk ne ac rs ([]++ []):=by
   rw [append_nil]
   exact⟨hsx.fine,hTo,hsx.nrI,hsx.nkI,hsx.ntI,hsx.neI,hsx.ack,hsx.elen,hsx.late,hsx.evs⟩
  obtain⟨y,hy,d,R,nk',ne',w,hN,hyq⟩:=adM (min 16 l.length) rs l c.2.2.2.2.2.2.2.1 nr nt ac (by omega) (by omega) nk ne hsx2 hfr.nk hfr.ne (fun p hp=>hperm.subset hp)
  have hy:eE (.inr (.inl (ofNat 0,min 16 l.length,((min 16 l.length:Nat):Int),ofNat 0,rs,c.2.2.2.2.2.2.2.1,nr,nt,nk,ne,ac,rs.length,ofNat 0,ofNat 0,ofNat 0,ofNat 0,ofNat 0,({data:= #[]}:ByteArray),ofNat 0,l,())))=some y:=hy
  simp only [hle,hmin,hwi,toNat_natCast,sub_zero,cond_true,cond_false,hy,bind_some]
  have hs:=(lD _ _ hN).1
  simp only at hs
  have hlR:rs.length≤R.length:=by rw [hs.len];omega
  have hRR:take rs.length R=R:=take_of_length_le (by rw [hs.len];omega)
  rcases hyq with⟨rfl,rfl⟩|rfl
  ·simp only []
   try simp only [cond_false,zero_add,Nat.le_refl,decide_true,cond_true,drop_zero,take_length,decide_eq_true hlR,hRR]
   exact⟨_,_,rfl,jc hk hfr c1 c2 hperm hsrt hN (by first|rfl|simp|exact hRR) (by simp) (by simp)⟩
  ·simp only []
   by_cases c40:(((w.length:Nat):Int)>ofNat 40)
   ·rw [decide_eq_true c40,cond_true];exact⟨_,_,rfl,ao h 8 (lB hk fun _ _ _ h24=>by first|(simp only [aF]at c40;omega)|(have:=(gU hsx2 _ _ hN (by simp only;have:=hfr.nk;omega) (by simp only;have:=hfr.ne;omega)).2.2.2.2.2;simp only [length_append,length_nil,aF]at this c40 h24;omega))⟩
   ·rw [decide_eq_false c40,cond_false]
    try simp only [cond_false,zero_add,Nat.le_refl,decide_true,cond_true,drop_zero,take_length,decide_eq_true hlR,hRR]
    exact⟨_,_,rfl,jc hk hfr c1 c2 hperm hsrt hN (by first|rfl|simp|exact hRR) (by simp) (by simp only [aF]at c40;omega)⟩
theorem aam {ck nr nt nk ne ac:Int} {es:List aC} (h:SOk (mk ck nr nt nk ne ac [] es)) (hr:∀r∈([]:List aj),bH r) (hE:isEmpty es=false) (c:bj) (hfr:Fresh nr nt nk ne) (hk:c.1=7):
  ∃t r,ze ((mk ck nr nt nk ne ac [] es),c,())=some (t,r,())∧bE ck nr nt nk ne ac [] es c t r:=by
 have h25:=bf h
 have hf:=h.fine
 have he:=h.ev40
 have hck:0≤ck∧ck≤1099511627776:=h.ck
 have hsx:=ij h
 simp only [mk]at h25 hf he
 have h32:=hf.1
 have E:=oT h hE
 simp only [mk]at E
 simp only [ze,mk,h25,bind_some,hE,isEmpty_nil,cond_false,zero_add,Nat.le_refl,decide_true,cond_true,bq,cg,E]
 by_cases c1:c.2.2.2.2.2.2.2.1<ck
 ·rw [decide_eq_true c1,cond_true];exact⟨_,_,rfl,ao h 1 (lB hk fun _ h1 h2 _=>by first|omega|(simp only [aF]at*;omega))⟩
 rw [decide_eq_false c1,cond_false]
 by_cases c2:c.2.2.2.2.2.2.2.1>ofNat 1099511627776
 ·rw [decide_eq_true c2,cond_true];exact⟨_,_,rfl,ao h 1 (lB hk fun _ h1 h2 _=>by first|omega|(simp only [aF]at*;omega))⟩
 rw [decide_eq_false c2,cond_false]
 have hTo:bV c.2.2.2.2.2.2.2.1:=⟨by omega,by simp only [aF]at c2;omega⟩
 obtain⟨l,e,hdue,hperm,hsrt⟩:=zF ([]:List aj) (by omega) hr hf c.2.2.2.2.2.2.2.1 hTo
 simp only [hdue,bind_some]
 have h0:gO (.inl (ofNat 0,0,ofNat 0,es,c.2.2.2.2.2.2.2.1,nr,nt,nk,ne,ac,es.length,ofNat 0,ofNat 0,ofNat 0,ofNat 0,ofNat 0,({data:= #[]}:ByteArray),ofNat 0,()))=some (.inl (ofNat 0,es,c.2.2.2.2.2.2.2.1,nr,nt,nk,ne,ac,es.length,ofNat 0,ofNat 0,ofNat 0,ofNat 0,ofNat 0,({data:= #[]}:ByteArray),ofNat 0,())):=by
  rw [gO,cC]
  rfl
 obtain rfl:l= []:=hperm.eq_nil
 simp only [isEmpty_nil,cond_true,h0,bind_some]
 by_cases c40:(((es.length:Nat):Int)>ofNat 40)
 ·rw [decide_eq_true c40,cond_true];exact⟨_,_,rfl,ao h 8 (lB hk fun _ _ _ h24=>by first|(simp only [aF]at c40;omega)|(have:=(gU hsx2 _ _ hN (by simp only;have:=hfr.nk;omega) (by simp only;have:=hfr.ne;omega)).2.2.2.2.2;simp only [length_append,length_nil,aF]at this c40 h24;omega))⟩
 ·rw [decide_eq_false c40,cond_false]
  try simp only [cond_false,zero_add,Nat.le_refl,decide_true,cond_true,drop_zero,take_length]
  exact⟨_,_,rfl,jc hk hfr c1 c2 hperm hsrt TkN.zero (by first|rfl|simp|exact hRR) (by simp) (by simp only [aF]at c40;omega)⟩
theorem aan {ck nr nt nk ne ac:Int} (h:SOk (mk ck nr nt nk ne ac [] [])) (hr:∀r∈([]:List aj),bH r) (c:bj) (hfr:Fresh nr nt nk ne) (hk:c.1=7):
  ∃t r,zn ((mk ck nr nt nk ne ac [] []),c,())=some (t,r,())∧bE ck nr nt nk ne ac [] [] c t r:=by
 have h25:=bf h
 have hf:=h.fine
 have he:=h.ev40
 have hck:0≤ck∧ck≤1099511627776:=h.ck
 have hsx:=ij h
 simp only [mk]at h25 hf he
 have h32:=hf.1
 have E:=oU h
 simp only [mk]at E
 simp only [zn,mk,h25,bind_some,isEmpty_nil,cond_false,zero_add,Nat.le_refl,decide_true,cond_true,bq,cg,E]
 by_cases c1:c.2.2.2.2.2.2.2.1<ck
 ·rw [decide_eq_true c1,cond_true];exact⟨_,_,rfl,ao h 1 (lB hk fun _ h1 h2 _=>by first|omega|(simp only [aF]at*;omega))⟩
 rw [decide_eq_false c1,cond_false]
 by_cases c2:c.2.2.2.2.2.2.2.1>ofNat 1099511627776
 ·rw [decide_eq_true c2,cond_true];exact⟨_,_,rfl,ao h 1 (lB hk fun _ h1 h2 _=>by first|omega|(simp only [aF]at*;omega))⟩
 rw [decide_eq_false c2,cond_false]
 have hTo:bV c.2.2.2.2.2.2.2.1:=⟨by omega,by simp only [aF]at c2;omega⟩
 obtain⟨l,e,hdue,hperm,hsrt⟩:=zF ([]:List aj) (by omega) hr hf c.2.2.2.2.2.2.2.1 hTo
 simp only [hdue,bind_some]
 have h0:gP (.inl (ofNat 0,0,ofNat 0,c.2.2.2.2.2.2.2.1,nr,nt,nk,ne,ac,ofNat 0,ofNat 0,ofNat 0,ofNat 0,ofNat 0,({data:= #[]}:ByteArray),ofNat 0,()))=some (.inl (ofNat 0,c.2.2.2.2.2.2.2.1,nr,nt,nk,ne,ac,ofNat 0,ofNat 0,ofNat 0,ofNat 0,ofNat 0,({data:= #[]}:ByteArray),ofNat 0,())):=by
  rw [gP,cC]
  rfl
 obtain rfl:l= []:=hperm.eq_nil
 simp only [isEmpty_nil,cond_true,h0,bind_some]
 try simp only [cond_false,zero_add,Nat.le_refl,decide_true,cond_true,drop_zero,take_length]
 exact⟨_,_,rfl,jc hk hfr c1 c2 hperm hsrt TkN.zero (by first|rfl|simp|exact hRR) (by simp) (by simp)⟩
theorem aiP {ck nr nt nk ne ac:Int} {rs:List aj} {es:List aC} (h:SOk (mk ck nr nt nk ne ac rs es)) (hr:∀r∈rs,bH r) (hR:isEmpty rs=false) (hE:isEmpty es=false) (c:bj) (hcl:∀nd∈c.2.2.1.1,nd.1.length≤9223372036854775807):
  ∃t r,pQ ((mk ck nr nt nk ne ac rs es),c,())=some (t,r,())∧bE ck nr nt nk ne ac rs es c t r:=by
 obtain⟨v,hv,hc⟩:=gT (mk ck nr nt nk ne ac rs es) (by have:=h.fine.1;simp only [mk]at this⊢;omega) hr
 obtain rfl:v=0:=by
  rcases hc with⟨h1,_⟩|⟨_,hc⟩
  ·exact h1
  ·exact absurd h hc
 have E:=oR h hR hE
 have Eg:=fun n=>ao (c:=c) h n
 simp only [pQ,hv,bind_some,jU,cond_false]
 by_cases k1:c.1=1
 ·rw [show(c.1==ofNat 1)=true by rw [k1];rfl,cond_true]
  exact bQ _ (fun f=>aag h hr hR hE c hcl (f (decide_eq_true (by rw [k1];decide))) k1) fun hb hnf=>⟨_,_,E 9,Eg 8 (cz (of_decide_eq_true hb) hnf)⟩
 rw [show(c.1==ofNat 1)=false by simpa using k1,cond_false]
 by_cases k2:c.1=2
 ·rw [show(c.1==ofNat 2)=true by rw [k2];rfl,cond_true]
  exact bQ _ (fun f=>aac h hr hR hE c (f (decide_eq_true (by rw [k2];decide))) k2) fun hb hnf=>⟨_,_,E 9,Eg 8 (cz (of_decide_eq_true hb) hnf)⟩
 rw [show(c.1==ofNat 2)=false by simpa using k2,cond_false]
 by_cases k3:c.1=3
 ·rw [show(c.1==ofNat 3)=true by rw [k3];rfl,cond_true]
  exact bQ _ (fun f=>ZM h hr hR hE c (f (decide_eq_true (by rw [k3];decide))) k3) fun hb hnf=>⟨_,_,E 9,Eg 8 (cz (of_decide_eq_true hb) hnf)⟩
 rw [show(c.1==ofNat 3)=false by simpa using k3,cond_false]
 by_cases k4:c.1=4
 ·rw [show(c.1==ofNat 4)=true by rw [k4];rfl,cond_true]
  exact bQ _ (fun f=>ZI h hr hR hE c (f (decide_eq_true (by rw [k4];decide))) k4) fun hb hnf=>⟨_,_,E 9,Eg 8 (cz (of_decide_eq_true hb) hnf)⟩
 rw [show(c.1==ofNat 4)=false by simpa using k4,cond_false]
 by_cases k5:c.1=5
 ·rw [show(c.1==ofNat 5)=true by rw [k5];rfl,cond_true]
  exact bQ _ (fun f=>ZY h hr hR hE c (f (decide_eq_true (by rw [k5];decide))) k5) fun hb hnf=>⟨_,_,E 9,Eg 8 (cz (of_decide_eq_true hb) hnf)⟩
 rw [show(c.1==ofNat 5)=false by simpa using k5,cond_false]
 by_cases k6:c.1=6
 ·rw [show(c.1==ofNat 6)=true by rw [k6];rfl,cond_true]
  exact bQ _ (fun f=>ZE h hr hR hE c (f (decide_eq_true (by rw [k6];decide))) k6) fun hb hnf=>⟨_,_,E 9,Eg 8 (cz (of_decide_eq_true hb) hnf)⟩
 rw [show(c.1==ofNat 6)=false by simpa using k6,cond_false]
 by_cases k7:c.1=7
 ·rw [show(c.1==ofNat 7)=true by rw [k7];rfl,cond_true]
  exact bQ _ (fun f=>aak h hr hR hE c (f (decide_eq_true (by rw [k7];decide))) k7) fun hb hnf=>⟨_,_,E 9,Eg 8 (cz (of_decide_eq_true hb) hnf)⟩
 rw [show(c.1==ofNat 7)=false by simpa using k7,cond_false]
 by_cases k8:c.1=8
 ·rw [show(c.1==ofNat 8)=true by rw [k8];rfl,cond_true]
  exact bQ _ (fun f=>ZQ h hr hR hE c k8) fun hb hnf=>⟨_,_,E 9,Eg 8 (cz (of_decide_eq_true hb) hnf)⟩
 rw [show(c.1==ofNat 8)=false by simpa using k8,cond_false]
 by_cases k9:c.1=9
 ·rw [show(c.1==ofNat 9)=true by rw [k9];rfl,cond_true]
  exact bQ _ (fun f=>ZU h hr hR hE c k9) fun hb hnf=>⟨_,_,E 9,Eg 8 (cz (of_decide_eq_true hb) hnf)⟩
 rw [show(c.1==ofNat 9)=false by simpa using k9,cond_false]
 by_cases k10:c.1=10
 ·rw [show(c.1==ofNat 10)=true by rw [k10];rfl,cond_true]
  exact bQ _ (fun f=>TB h hr hR hE c k10) fun hb hnf=>⟨_,_,E 9,Eg 8 (cz (of_decide_eq_true hb) hnf)⟩
 rw [show(c.1==ofNat 10)=false by simpa using k10,cond_false]
 exact⟨_,_,E 2,Eg 1 (dH k2 k3 k7 k10)⟩
theorem aiQ {ck nr nt nk ne ac:Int} {rs:List aj} (h:SOk (mk ck nr nt nk ne ac rs [])) (hr:∀r∈rs,bH r) (hR:isEmpty rs=false) (c:bj) (hcl:∀nd∈c.2.2.1.1,nd.1.length≤9223372036854775807):
  ∃t r,AO ((mk ck nr nt nk ne ac rs []),c,())=some (t,r,())∧bE ck nr nt nk ne ac rs [] c t r:=by
 obtain⟨v,hv,hc⟩:=gT (mk ck nr nt nk ne ac rs []) (by have:=h.fine.1;simp only [mk]at this⊢;omega) hr
 obtain rfl:v=0:=by
  rcases hc with⟨h1,_⟩|⟨_,hc⟩
  ·exact h1
  ·exact absurd h hc
 have E:=oS h hR
 have Eg:=fun n=>ao (c:=c) h n
 simp only [AO,hv,bind_some,jU,cond_false]
 by_cases k1:c.1=1
 ·rw [show(c.1==ofNat 1)=true by rw [k1];rfl,cond_true]
  exact bQ _ (fun f=>aah h hr hR c hcl (f (decide_eq_true (by rw [k1];decide))) k1) fun hb hnf=>⟨_,_,E 9,Eg 8 (cz (of_decide_eq_true hb) hnf)⟩
 rw [show(c.1==ofNat 1)=false by simpa using k1,cond_false]
 by_cases k2:c.1=2
 ·rw [show(c.1==ofNat 2)=true by rw [k2];rfl,cond_true]
  exact bQ _ (fun f=>aad h hr hR c (f (decide_eq_true (by rw [k2];decide))) k2) fun hb hnf=>⟨_,_,E 9,Eg 8 (cz (of_decide_eq_true hb) hnf)⟩
 rw [show(c.1==ofNat 2)=false by simpa using k2,cond_false]
 by_cases k3:c.1=3
 ·rw [show(c.1==ofNat 3)=true by rw [k3];rfl,cond_true]
  exact bQ _ (fun f=>ZN h hr hR c (f (decide_eq_true (by rw [k3];decide))) k3) fun hb hnf=>⟨_,_,E 9,Eg 8 (cz (of_decide_eq_true hb) hnf)⟩
 rw [show(c.1==ofNat 3)=false by simpa using k3,cond_false]
 by_cases k4:c.1=4
 ·rw [show(c.1==ofNat 4)=true by rw [k4];rfl,cond_true]
  exact bQ _ (fun f=>ZJ h hr hR c (f (decide_eq_true (by rw [k4];decide))) k4) fun hb hnf=>⟨_,_,E 9,Eg 8 (cz (of_decide_eq_true hb) hnf)⟩
 rw [show(c.1==ofNat 4)=false by simpa using k4,cond_false]
 by_cases k5:c.1=5
 ·rw [show(c.1==ofNat 5)=true by rw [k5];rfl,cond_true]
  exact bQ _ (fun f=>ZZ h hr hR c (f (decide_eq_true (by rw [k5];decide))) k5) fun hb hnf=>⟨_,_,E 9,Eg 8 (cz (of_decide_eq_true hb) hnf)⟩
 rw [show(c.1==ofNat 5)=false by simpa using k5,cond_false]
 by_cases k6:c.1=6
 ·rw [show(c.1==ofNat 6)=true by rw [k6];rfl,cond_true]
  exact bQ _ (fun f=>ZF h hr hR c (f (decide_eq_true (by rw [k6];decide))) k6) fun hb hnf=>⟨_,_,E 9,Eg 8 (cz (of_decide_eq_true hb) hnf)⟩
 rw [show(c.1==ofNat 6)=false by simpa using k6,cond_false]
 by_cases k7:c.1=7
 ·rw [show(c.1==ofNat 7)=true by rw [k7];rfl,cond_true]
  exact bQ _ (fun f=>aal h hr hR c (f (decide_eq_true (by rw [k7];decide))) k7) fun hb hnf=>⟨_,_,E 9,Eg 8 (cz (of_decide_eq_true hb) hnf)⟩
 rw [show(c.1==ofNat 7)=false by simpa using k7,cond_false]
 by_cases k8:c.1=8
 ·rw [show(c.1==ofNat 8)=true by rw [k8];rfl,cond_true]
  exact bQ _ (fun f=>ZR h hr hR c k8) fun hb hnf=>⟨_,_,E 9,Eg 8 (cz (of_decide_eq_true hb) hnf)⟩
 rw [show(c.1==ofNat 8)=false by simpa using k8,cond_false]
 by_cases k9:c.1=9
 ·rw [show(c.1==ofNat 9)=true by rw [k9];rfl,cond_true]
  exact bQ _ (fun f=>ZV h hr hR c k9) fun hb hnf=>⟨_,_,E 9,Eg 8 (cz (of_decide_eq_true hb) hnf)⟩
 rw [show(c.1==ofNat 9)=false by simpa using k9,cond_false]
 by_cases k10:c.1=10
 ·rw [show(c.1==ofNat 10)=true by rw [k10];rfl,cond_true]
  exact bQ _ (fun f=>TC h hr hR c k10) fun hb hnf=>⟨_,_,E 9,Eg 8 (cz (of_decide_eq_true hb) hnf)⟩
 rw [show(c.1==ofNat 10)=false by simpa using k10,cond_false]
 exact⟨_,_,E 2,Eg 1 (dH k2 k3 k7 k10)⟩
theorem aiR {ck nr nt nk ne ac:Int} {es:List aC} (h:SOk (mk ck nr nt nk ne ac [] es)) (hr:∀r∈([]:List aj),bH r) (hE:isEmpty es=false) (c:bj) (hcl:∀nd∈c.2.2.1.1,nd.1.length≤9223372036854775807):
  ∃t r,AR ((mk ck nr nt nk ne ac [] es),c,())=some (t,r,())∧bE ck nr nt nk ne ac [] es c t r:=by
 obtain⟨v,hv,hc⟩:=gT (mk ck nr nt nk ne ac [] es) (by have:=h.fine.1;simp only [mk]at this⊢;omega) hr
 obtain rfl:v=0:=by
  rcases hc with⟨h1,_⟩|⟨_,hc⟩
  ·exact h1
  ·exact absurd h hc
 have E:=oT h hE
 have Eg:=fun n=>ao (c:=c) h n
 simp only [AR,hv,bind_some,jU,cond_false]
 by_cases k1:c.1=1
 ·rw [show(c.1==ofNat 1)=true by rw [k1];rfl,cond_true]
  exact bQ _ (fun f=>aai h hr hE c hcl (f (decide_eq_true (by rw [k1];decide))) k1) fun hb hnf=>⟨_,_,E 9,Eg 8 (cz (of_decide_eq_true hb) hnf)⟩
 rw [show(c.1==ofNat 1)=false by simpa using k1,cond_false]
 by_cases k2:c.1=2
 ·rw [show(c.1==ofNat 2)=true by rw [k2];rfl,cond_true]
  exact bQ _ (fun f=>aae h hr hE c (f (decide_eq_true (by rw [k2];decide))) k2) fun hb hnf=>⟨_,_,E 9,Eg 8 (cz (of_decide_eq_true hb) hnf)⟩
 rw [show(c.1==ofNat 2)=false by simpa using k2,cond_false]
 by_cases k3:c.1=3
 ·rw [show(c.1==ofNat 3)=true by rw [k3];rfl,cond_true]
  exact bQ _ (fun f=>ZO h hr hE c (f (decide_eq_true (by rw [k3];decide))) k3) fun hb hnf=>⟨_,_,E 9,Eg 8 (cz (of_decide_eq_true hb) hnf)⟩
 rw [show(c.1==ofNat 3)=false by simpa using k3,cond_false]
 by_cases k4:c.1=4
 ·rw [show(c.1==ofNat 4)=true by rw [k4];rfl,cond_true]
  exact bQ _ (fun f=>ZK h hr hE c (f (decide_eq_true (by rw [k4];decide))) k4) fun hb hnf=>⟨_,_,E 9,Eg 8 (cz (of_decide_eq_true hb) hnf)⟩
 rw [show(c.1==ofNat 4)=false by simpa using k4,cond_false]
 by_cases k5:c.1=5
 ·rw [show(c.1==ofNat 5)=true by rw [k5];rfl,cond_true]
  exact bQ _ (fun f=>aaa h hr hE c (f (decide_eq_true (by rw [k5];decide))) k5) fun hb hnf=>⟨_,_,E 9,Eg 8 (cz (of_decide_eq_true hb) hnf)⟩
 rw [show(c.1==ofNat 5)=false by simpa using k5,cond_false]
 by_cases k6:c.1=6
 ·rw [show(c.1==ofNat 6)=true by rw [k6];rfl,cond_true]
  exact bQ _ (fun f=>ZG h hr hE c (f (decide_eq_true (by rw [k6];decide))) k6) fun hb hnf=>⟨_,_,E 9,Eg 8 (cz (of_decide_eq_true hb) hnf)⟩
 rw [show(c.1==ofNat 6)=false by simpa using k6,cond_false]
 by_cases k7:c.1=7
 ·rw [show(c.1==ofNat 7)=true by rw [k7];rfl,cond_true]
  exact bQ _ (fun f=>aam h hr hE c (f (decide_eq_true (by rw [k7];decide))) k7) fun hb hnf=>⟨_,_,E 9,Eg 8 (cz (of_decide_eq_true hb) hnf)⟩
 rw [show(c.1==ofNat 7)=false by simpa using k7,cond_false]
 by_cases k8:c.1=8
 ·rw [show(c.1==ofNat 8)=true by rw [k8];rfl,cond_true]
  exact bQ _ (fun f=>ZS h hr hE c k8) fun hb hnf=>⟨_,_,E 9,Eg 8 (cz (of_decide_eq_true hb) hnf)⟩
 rw [show(c.1==ofNat 8)=false by simpa using k8,cond_false]
 by_cases k9:c.1=9
 ·rw [show(c.1==ofNat 9)=true by rw [k9];rfl,cond_true]
  exact bQ _ (fun f=>ZW h hr hE c k9) fun hb hnf=>⟨_,_,E 9,Eg 8 (cz (of_decide_eq_true hb) hnf)⟩
 rw [show(c.1==ofNat 9)=false by simpa using k9,cond_false]
 by_cases k10:c.1=10
 ·rw [show(c.1==ofNat 10)=true by rw [k10];rfl,cond_true]
  exact bQ _ (fun f=>TD h hr hE c k10) fun hb hnf=>⟨_,_,E 9,Eg 8 (cz (of_decide_eq_true hb) hnf)⟩
 rw [show(c.1==ofNat 10)=false by simpa using k10,cond_false]
 exact⟨_,_,E 2,Eg 1 (dH k2 k3 k7 k10)⟩
theorem aiS {ck nr nt nk ne ac:Int} (h:SOk (mk ck nr nt nk ne ac [] [])) (hr:∀r∈([]:List aj),bH r) (c:bj) (hcl:∀nd∈c.2.2.1.1,nd.1.length≤9223372036854775807):
  ∃t r,vt ((mk ck nr nt nk ne ac [] []),c,())=some (t,r,())∧bE ck nr nt nk ne ac [] [] c t r:=by
 obtain⟨v,hv,hc⟩:=gT (mk ck nr nt nk ne ac [] []) (by have:=h.fine.1;simp only [mk]at this⊢;omega) hr
 obtain rfl:v=0:=by
  rcases hc with⟨h1,_⟩|⟨_,hc⟩
  ·exact h1
  ·exact absurd h hc
 have E:=oU h
 have Eg:=fun n=>ao (c:=c) h n
 simp only [vt,hv,bind_some,jU,cond_false]
 by_cases k1:c.1=1
 ·rw [show(c.1==ofNat 1)=true by rw [k1];rfl,cond_true]
  exact bQ _ (fun f=>aaj h hr c hcl (f (decide_eq_true (by rw [k1];decide))) k1) fun hb hnf=>⟨_,_,E 9,Eg 8 (cz (of_decide_eq_true hb) hnf)⟩
 rw [show(c.1==ofNat 1)=false by simpa using k1,cond_false]
 by_cases k2:c.1=2
 ·rw [show(c.1==ofNat 2)=true by rw [k2];rfl,cond_true]
  exact bQ _ (fun f=>aaf h hr c (f (decide_eq_true (by rw [k2];decide))) k2) fun hb hnf=>⟨_,_,E 9,Eg 8 (cz (of_decide_eq_true hb) hnf)⟩
 rw [show(c.1==ofNat 2)=false by simpa using k2,cond_false]
 by_cases k3:c.1=3
 ·rw [show(c.1==ofNat 3)=true by rw [k3];rfl,cond_true]
  exact bQ _ (fun f=>ZP h hr c (f (decide_eq_true (by rw [k3];decide))) k3) fun hb hnf=>⟨_,_,E 9,Eg 8 (cz (of_decide_eq_true hb) hnf)⟩
 rw [show(c.1==ofNat 3)=false by simpa using k3,cond_false]
 by_cases k4:c.1=4
 ·rw [show(c.1==ofNat 4)=true by rw [k4];rfl,cond_true]
  exact bQ _ (fun f=>ZL h hr c (f (decide_eq_true (by rw [k4];decide))) k4) fun hb hnf=>⟨_,_,E 9,Eg 8 (cz (of_decide_eq_true hb) hnf)⟩
 rw [show(c.1==ofNat 4)=false by simpa using k4,cond_false]
 by_cases k5:c.1=5
 ·rw [show(c.1==ofNat 5)=true by rw [k5];rfl,cond_true]
  exact bQ _ (fun f=>aab h hr c (f (decide_eq_true (by rw [k5];decide))) k5) fun hb hnf=>⟨_,_,E 9,Eg 8 (cz (of_decide_eq_true hb) hnf)⟩
 rw [show(c.1==ofNat 5)=false by simpa using k5,cond_false]
 by_cases k6:c.1=6
 ·rw [show(c.1==ofNat 6)=true by rw [k6];rfl,cond_true]
  exact bQ _ (fun f=>ZH h hr c (f (decide_eq_true (by rw [k6];decide))) k6) fun hb hnf=>⟨_,_,E 9,Eg 8 (cz (of_decide_eq_true hb) hnf)⟩
 rw [show(c.1==ofNat 6)=false by simpa using k6,cond_false]
 by_cases k7:c.1=7
 ·rw [show(c.1==ofNat 7)=true by rw [k7];rfl,cond_true]
  exact bQ _ (fun f=>aan h hr c (f (decide_eq_true (by rw [k7];decide))) k7) fun hb hnf=>⟨_,_,E 9,Eg 8 (cz (of_decide_eq_true hb) hnf)⟩
 rw [show(c.1==ofNat 7)=false by simpa using k7,cond_false]
 by_cases k8:c.1=8
 ·rw [show(c.1==ofNat 8)=true by rw [k8];rfl,cond_true]
  exact bQ _ (fun f=>ZT h hr c k8) fun hb hnf=>⟨_,_,E 9,Eg 8 (cz (of_decide_eq_true hb) hnf)⟩
 rw [show(c.1==ofNat 8)=false by simpa using k8,cond_false]
 by_cases k9:c.1=9
 ·rw [show(c.1==ofNat 9)=true by rw [k9];rfl,cond_true]
  exact bQ _ (fun f=>ZX h hr c k9) fun hb hnf=>⟨_,_,E 9,Eg 8 (cz (of_decide_eq_true hb) hnf)⟩
 rw [show(c.1==ofNat 9)=false by simpa using k9,cond_false]
 by_cases k10:c.1=10
 ·rw [show(c.1==ofNat 10)=true by rw [k10];rfl,cond_true]
  exact bQ _ (fun f=>TE h hr c k10) fun hb hnf=>⟨_,_,E 9,Eg 8 (cz (of_decide_eq_true hb) hnf)⟩
 rw [show(c.1==ofNat 10)=false by simpa using k10,cond_false]
 exact⟨_,_,E 2,Eg 1 (dH k2 k3 k7 k10)⟩
abbrev zS:bB:=(ofNat 0,ofNat 0,ofNat 0,ofNat 0,ofNat 0,ofNat 0,[],[],())
theorem Rz (s:bB) (c:bj) (hm:s.2.2.2.2.2.2.1.length≤9223372036854775807) (hr:∀r∈s.2.2.2.2.2.2.1,bH r) (hcl:∀nd∈c.2.2.1.1,nd.1.length≤9223372036854775807):
  ∃v,tF (s,())=some (v,())∧∃t r,eF (s,c,())=some (t,r,())∧((v=0∧SOk s∧bE s.1 s.2.1 s.2.2.1 s.2.2.2.1 s.2.2.2.2.1 s.2.2.2.2.2.1 s.2.2.2.2.2.2.1 s.2.2.2.2.2.2.2.1 c t r)∨((∃n:Nat,v=ofNat (n+1))∧¬SOk s∧t=zS∧r=oQ v)):=by
 obtain⟨v,hv,hc⟩:=gT s hm hr
 refine⟨v,hv,?_⟩
 rcases hc with⟨rfl,h⟩|⟨⟨n,rfl⟩,h⟩
 ·have:∃t r,eF (s,c,())=some (t,r,())∧bE s.1 s.2.1 s.2.2.1 s.2.2.2.1 s.2.2.2.2.1 s.2.2.2.2.2.1 s.2.2.2.2.2.2.1 s.2.2.2.2.2.2.2.1 c t r:=by
   obtain⟨ck,nr,nt,nk,ne,ac,rs,es,_⟩:=s
   cases rs with
   |nil=>
    cases es with
    |nil=>exact aiS h hr c hcl
    |cons e es=>exact aiR h hr rfl c hcl
   |cons r rs=>
    cases es with
    |nil=>exact aiQ h hr rfl c hcl
    |cons e es=>exact aiP h hr rfl rfl c hcl
  obtain⟨t,r,h1,h2⟩:=this
  exact⟨t,r,h1,.inl ⟨rfl,h,h2⟩⟩
 ·have c0:(ofNat (n+1) !=ofNat 0)=true:=by simp;omega
  refine⟨zS,oQ (ofNat (n+1)),?_,.inr ⟨⟨n,rfl⟩,h,rfl,rfl⟩⟩
  have ha:pQ (s,c,())=some (zS,oQ (ofNat (n+1)),()):=by simp only [pQ,hv,bind_some,c0,cond_true]
  have hb:AO (s,c,())=some (zS,oQ (ofNat (n+1)),()):=by simp only [AO,hv,bind_some,c0,cond_true]
  have hcc:AR (s,c,())=some (zS,oQ (ofNat (n+1)),()):=by simp only [AR,hv,bind_some,c0,cond_true]
  have hd:vt (s,c,())=some (zS,oQ (ofNat (n+1)),()):=by simp only [vt,hv,bind_some,c0,cond_true]
  simp only [eF,ha,hb,hcc,hd]
  cases isEmpty s.2.2.2.2.2.2.1<;>cases isEmpty s.2.2.2.2.2.2.2.1<;>rfl
abbrev zG:bB:=(ofNat 0,ofNat 0,ofNat 1,ofNat 0,ofNat 1,ofNat 0,[],[],())
abbrev n1:aT:=([],ofNat 2,ofNat 3,())
abbrev ky:ByteArray:={data:= #[97]}
abbrev u1:an:=(ofNat 1,ofNat 0,ofNat 0,ofNat 0,ofNat 0,())
abbrev u2:an:=(ofNat 2,ofNat 1,ofNat 10,ofNat 1,ofNat 0,())
abbrev rn (t:an):aj:=(ofNat 0,ky,([n1],()),ofNat 1,[t],())
abbrev ev1:aC:=(ofNat 1,ofNat 1,ofNat 0,ofNat 0,())
abbrev gV (nt:Int) (t:an):bB:=mk (ofNat 0) (ofNat 1) nt (ofNat 1) (ofNat 2) (ofNat 0) [rn t] [ev1]
abbrev c1_:bj:=(ofNat 1,{data:= #[97]},([n1],()),ofNat 0,ofNat 0,ofNat 0,ofNat 0,ofNat 0,())
abbrev c2_:bj:=(ofNat 2,{data:= #[]},([],()),ofNat 0,ofNat 0,ofNat 0,ofNat 10,ofNat 0,())
theorem in1:bV (ofNat 1):=by decide
theorem pu {i:Nat} (h:i<1):i=0:=by omega
theorem nd1:dZ n1:=by constructor<;>constructor<;>decide
theorem Ol:qp [n1]:=by
 refine⟨⟨by decide,by decide⟩,fun i h=> ?_,fun i h hr=> ?_⟩
 ·obtain rfl:=pu h
  exact⟨by constructor<;>decide,by constructor<;>decide,fun j h=>absurd h (not_lt_zero _)⟩
 ·have:∀{a b:Nat},¬tS [n1] a b:=fun {a b} ⟨h1,h2⟩=>by
   obtain rfl:=pu h1
   exact(not_mem_nil h2).elim
  rcases hr with h|⟨h,_⟩
  ·exact this h
  ·exact this h
theorem RA:ch n1 u1:=by
 refine⟨by decide,by decide,by decide,by decide,fun _=>rfl,fun h=>absurd rfl h,⟨fun h=>absurd rfl h,fun h=>absurd h (by decide)⟩,.inr (.inl ⟨rfl,by decide⟩)⟩
theorem zH:ch n1 u2:=by
 refine⟨by decide,by decide,by decide,by decide,fun h=>absurd rfl h,fun _=>.inl rfl,⟨fun _=>rfl,fun _=>by decide⟩,.inr (.inr (.inl ⟨rfl,by decide⟩))⟩
theorem Om {t:an} (ht:ch n1 t) (h:t.1=1∨t.1=2):ROk (rn t):=by
 refine⟨dN,show 1≤ky.size∧ky.size≤24 by decide,Ol,rfl,fun i h=> ?_,.inl ⟨rfl,fun i h=> ?_,fun h4=> ?_,fun⟨x,hx,h4⟩=> ?_⟩⟩
 ·obtain rfl:=pu h
  exact ht
 ·obtain rfl:=pu h
  exact⟨fun _=>by show t.1≠0;omega,fun _ v hv=>(not_mem_nil hv).elim⟩
 ·have:=h4 t (List.mem_singleton.2 rfl);omega
 ·rw [List.mem_singleton.1 hx]at h4;omega
theorem On {t:an} (h:0≤t.1):∀r∈ [rn t],bH r:=fun r hr=>by
 rw [List.mem_singleton.1 hr]
 exact⟨fun nd hnd=>by rw [List.mem_singleton.1 hnd];decide,show 1≤9223372036854775807 by decide,fun x hx=>by rw [List.mem_singleton.1 hx];exact h⟩
theorem adN {t:an} (ht:ch n1 t) (h:t.1=1∨t.1=2):eG [rn t]:=
 ⟨show 1≤32 by decide,fun a b h1 h2=>by have:=pu h2;omega,fun a b h1 h2=>by have:=pu h2;omega,fun a h1=>by
  obtain rfl:=pu h1
  exact Om ht h,List.pairwise_singleton _ _⟩
theorem Oo {nt:Int} {t:an} (hn:1≤nt∧nt≤1099511627776) (ht:ch n1 t) (h:t.1=1∨t.1=2) (hl:da nt 1 t):SOk (gV nt t):=
 ⟨adN ht h,show 1≤40 by decide,dN,in1,in1,hn,show 1≤ofNat 2∧ofNat 2≤1099511627776 by decide,show 0≤ofNat 0∧ofNat 0<ofNat 2 by decide,rfl,fun j hj=>by
  obtain rfl:=pu hj
  exact⟨by show(ofNat 0)<ofNat 1;decide,fun x hx=>by rw [List.mem_singleton.1 hx];exact hl⟩,fun j hj=>by
  obtain rfl:=pu hj
  exact⟨rfl,show 1≤ofNat 1∧ofNat 1≤6 by decide,show 0≤ofNat 0∧ofNat 0<ofNat 1 by decide,show 0≤ofNat 0∧ofNat 0<12 by decide,.inl rfl⟩⟩
theorem sok0:SOk zG:=
 ⟨⟨by decide,fun a b h1 h2=>absurd h2 (not_lt_zero _),fun a b h1 h2=>absurd h2 (not_lt_zero _),fun a h1=>absurd h1 (not_lt_zero _),.nil⟩,by decide,by decide,by decide,by decide,by decide,by decide,by decide,rfl,fun j hj=>absurd hj (not_lt_zero _),fun j hj=>absurd hj (not_lt_zero _)⟩
theorem Kj {s:bB} (h:SOk s) (hm:s.2.2.2.2.2.2.1.length≤9223372036854775807) (hr:∀r∈s.2.2.2.2.2.2.1,bH r):tF (s,())=some (0,()):=by
 obtain⟨v,hv,hc⟩:=gT s hm hr
 rcases hc with⟨rfl,_⟩|⟨_,hc⟩
 ·exact hv
 ·exact absurd h hc
theorem do1:eF (zG,c1_,())=some (gV (ofNat 1) u1,(ofNat 0,ofNat 0,ofNat 0,ofNat 0,aM,[],()),()):=by
 have hc:=Kj sok0 (show 0≤9223372036854775807 by decide) (fun r h=>(not_mem_nil h).elim)
 have Fh:cW (zG,())=some (false,()):=rfl
 have h25:cF (zG,())=some (zG,()):=bf sok0
 have hln:∀nd∈ [n1],nd.1.length≤9223372036854775807:=fun nd h=>by rw [List.mem_singleton.1 h];decide
 have pR:jC (([n1],()),())=some (0,()):=by
  obtain⟨v,hv,h⟩:=f114 [n1] hln
  rcases h with⟨rfl,_⟩|⟨_,h⟩
  ·exact hv
  ·exact absurd Ol h
 have Bf:∃i,ov ([],ky,())=some (i,false,0,()):=by
  obtain⟨i,b,e,hv,h⟩:=oI [] (show 0≤9223372036854775807 by decide) (fun r h=>(not_mem_nil h).elim) ky
  rcases h with⟨_,_,h⟩|⟨rfl,_,⟨_,n,h,_⟩|⟨rfl,_⟩⟩
  ·exact absurd sok0.fine h
  ·exact absurd h (not_lt_zero _)
  ·exact⟨i,hv⟩
 obtain⟨i,Bf⟩:=Bf
 have JI:rv (ofNat 0,ky,([n1],()),ofNat 0,())=some (rn u1,ofNat 1,0,()):=by
  obtain⟨r',rk',e,hv,h⟩:=FQ (ofNat 0) ky [n1] hln (ofNat 0)
  rcases h with⟨rfl,_,_,_,_,rfl,rfl⟩|⟨_,h⟩
  ·have ho:opn [n1] (ofNat 0,replicate [n1].length t0) [n1].length=(ofNat 1,[u1]):=by
    show opn [n1] (ofNat 0,[t0]) (0+1)=_
    have hm:gk [t0] n1:=fun v h=>(not_mem_nil h).elim
    have ht:ch n1 t0:=⟨by decide,by decide,by decide,by decide,fun h=>absurd rfl h,fun h=>absurd rfl h,⟨fun h=>absurd rfl h,fun h=>absurd h (by decide)⟩,.inl ⟨rfl,rfl⟩⟩
    rw [opn,if_pos ⟨rfl,hm⟩,if_pos ⟨dN,ht⟩]
    rfl
   rw [hv,ho]
  ·exact absurd ⟨dN,by decide,Ol,by decide,by decide⟩ h
 have hF:eF (zG,c1_,())=vt (zG,c1_,()):=rfl
 rw [hF]
 simp only [vt,hc,bind_some,jU,cond_false,beq_self_eq_true,cond_true,Fh]
 have h115':ov ([],{data:= #[97]},())=some (i,false,0,()):=Bf
 simp only [vq,h25,bind_some,isEmpty_nil,cond_true,cond_false,decide_eq_false (show¬((ByteArray.size {data:= #[97]}:Nat):Int)<ofNat 1 by decide),decide_eq_false (show¬((ByteArray.size {data:= #[97]}:Nat):Int)>ofNat 24 by decide),pR,cQ,h115',JI,bq,cg]
 rfl
theorem do2:eF (gV (ofNat 1) u1,c2_,())=some (gV (ofNat 2) u2,(ofNat 0,ofNat 0,ofNat 0,ofNat 1,aM,[],()),()):=by
 have hr:=On (t:=u1) (by decide)
 have hs:SOk (gV (ofNat 1) u1):=Oo (by decide) RA (.inl rfl) ⟨by decide,fun _=>by decide⟩
 have hc:=Kj hs (show 1≤9223372036854775807 by decide) hr
 have Fh:cW (gV (ofNat 1) u1,())=some (false,()):=rfl
 have h25:=bf hs
 have NB:mq (ofNat 10,())=some (true,()):=rfl
 have Fu:oB ([rn u1],())=some ((ofNat 0,ofNat 0,ofNat 0,()),true,0,()):=by
  obtain⟨p,b,e,hv,h⟩:=nj [rn u1] (show 1≤9223372036854775807 by decide) hr
  rcases h with⟨_,_,h⟩|⟨rfl,_,rfl,rfl,_⟩
  ·exact absurd hs.fine h
  ·exact hv
 have Bh:cM ([rn u1],ofNat 0,())=some (ofNat 0,true,0,()):=by
  obtain⟨i,b,e,hv,h⟩:=bZ [rn u1] (show 1≤9223372036854775807 by decide) hr (ofNat 0)
  rcases h with⟨_,_,h⟩|⟨rfl,_,⟨rfl,n,rfl,h,_⟩|⟨_,h⟩⟩
  ·exact absurd hs.fine h
  ·obtain rfl:=pu h
   exact hv
  ·exact absurd rfl (h 0 (by decide))
 have JV:xD (rn u1,ofNat 0,ofNat 1,ofNat 10,())=some (rn u2,0,()):=by
  obtain⟨r',e',hv,h⟩:=lA (rn u1) (hr _ (List.mem_singleton.2 rfl)) (ofNat 0) (fun nd t=>uS (nd,t,ofNat 1,ofNat 10,())) (fun nd t h1 h2 h3=>xM (f167 nd t (ofNat 1) (ofNat 10) h1 h2) fun _=>natCast_nonneg 2)
  rw [←FO]at hv
  have h167:uS (n1,u1,ofNat 1,ofNat 10,())=some (u2,0,()):=by
   rcases f167 n1 u1 (ofNat 1) (ofNat 10) nd1 (by decide)with⟨_,h⟩|⟨h,_⟩
   ·exact h
   ·exact absurd ⟨by decide,by decide,by decide,RA,rfl⟩ h
  rcases h with⟨rfl,_,_,k,t',hk,hkl,hD,ht⟩|⟨_,_,h⟩
  ·obtain rfl:=pu hkl
   have h2:some (u2,(0:Int),())=some (t',0,()):=h167.symm.trans hD
   obtain rfl:u2=t':=by injection h2 with h2;exact(Prod.mk.inj h2).1
   obtain⟨i1,i2,i3,_,_,i4⟩:=ht
   rcases i4 with⟨h5,_⟩|⟨_,i5,⟨h4,_⟩|⟨_,i6⟩⟩
   ·exact absurd h5 (by decide)
   ·exact absurd (h4 u2 (List.mem_singleton.2 rfl)) (by decide)
   ·obtain⟨q1,q2,q3,q4,q5,_⟩:=r'
    simp only at i1 i2 i3 i5 i6
    subst i1 i2 i3 i5 i6
    exact hv
  ·exact absurd ⟨Om RA (.inl rfl),rfl,0,u2,rfl,by decide,h167⟩ h
 have hF:eF (gV (ofNat 1) u1,c2_,())=pQ (gV (ofNat 1) u1,c2_,()):=rfl
 rw [hF]
 simp only [pQ,hc,bind_some,jU,cond_false,show(ofNat 2==ofNat 1)=false from rfl,beq_self_eq_true,cond_true,Fh]
 simp only [gV,mk]at h25
 simp only [vo,gV,mk,h25,bind_some,isEmpty_cons,cond_true,cond_false,NB,Bool.not_true,length_singleton,zero_add,Nat.le_refl,decide_true,bq,Fu,Bh]
 show Option.bind (xD (rn u1,ofNat 0,ofNat 1,ofNat 10,())) _=_
 rw [JV,bind_some]
 rfl
def bL (f:Nat→Int):Nat→Int
 |0=>0
 |n+1=>bL f n+f n
theorem pv {f g:Nat→Int}:∀n:Nat,(∀i,i<n→f i=g i)→bL f n=bL g n
 |0,_=>rfl
 |n+1,h=>by rw [bL,bL,pv n fun i hi=>h i (by omega),h n (lt_succ_self n)]
theorem FZ {f g:Nat→Int}:∀n:Nat,(∀i,i<n→f i≤g i)→bL f n≤bL g n
 |0,_=>le_refl _
 |n+1,h=>by
  have:=FZ n fun i hi=>h i (by omega)
  have:=h n (lt_succ_self n)
  simp only [bL];omega
theorem Ga {f:Nat→Int} {b:Int}:∀n:Nat,(∀i,i<n→0≤f i∧f i≤b)→0≤bL f n∧bL f n≤b*n
 |0,_=>⟨le_refl _,by simp [bL]⟩
 |n+1,h=>by
  have:=Ga n fun i hi=>h i (by omega)
  have:=h n (lt_succ_self n)
  have e:b*((n+1:Nat):Int)=b*n+b:=by rw [Int.natCast_succ,Int.mul_add,Int.mul_one]
  rw [e]
  simp only [bL];omega
theorem Bq {f g:Nat→Int} {k:Nat}:∀n:Nat,k<n→(∀i,i<n→i≠k→g i≤f i)→bL g n≤bL f n-f k+g k
 |0,h,_=>absurd h (not_lt_zero _)
 |n+1,hk,h=>by
  simp only [bL]
  by_cases c:k=n
  ·subst c
   have:=FZ (f:=g) (g:=f) k fun i hi=>h i (by omega) (by omega)
   omega
  ·have:=Bq (k:=k) n (by omega) fun i hi hn=>h i (by omega) hn
   have:=h n (lt_succ_self n) (by omega)
   omega
theorem HE {f g:Nat→Int} {k:Nat}:∀n:Nat,k<n→(∀i,i<n→i≠k→g i=f i)→bL g n=bL f n-f k+g k
 |0,h,_=>absurd h (not_lt_zero _)
 |n+1,hk,h=>by
  simp only [bL]
  by_cases c:k=n
  ·subst c
   have:=pv (f:=g) (g:=f) k fun i hi=>h i (by omega) (by omega)
   omega
  ·have:=HE (k:=k) n (by omega) fun i hi hn=>h i (by omega) hn
   have:=h n (lt_succ_self n) (by omega)
   omega
theorem qx {f:Nat→Int} {k:Nat}:∀n:Nat,k<n→(∀i,i<n→0≤f i)→f k≤bL f n
 |0,h,_=>absurd h (not_lt_zero _)
 |n+1,hk,h=>by
  simp only [bL]
  have h0:=(FZ (f:=fun _=>0) (g:=f) n fun i hi=>h i (by omega))
  have hz:∀m:Nat,bL (fun _=>0) m=0:=fun m=>by
   induction m with
   |zero=>rfl
   |succ m ih=>rw [bL,ih];rfl
  rw [hz]at h0
  by_cases c:k=n
  ·subst c;omega
  ·have:=qx (k:=k) n (by omega) fun i hi=>h i (by omega)
   have:=h n (lt_succ_self n)
   omega
def wT (nd:aT) (t:an):Int:=if t.1=2 then 3*(nd.2.1-t.2.1)+2 else if t.1=3 then 3*(nd.2.1-t.2.1)+1 else if t.1=0∨t.1=1 then 3*(nd.2.1-t.2.1)else 0
theorem RD {nd:aT} {t:an} (hn:dZ nd) (ht:ch nd t):0≤wT nd t∧wT nd t≤17:=by
 have:=ht.1
 have:=hn.1
 unfold wT
 split
 ·omega
 split
 ·omega
 split<;>omega
theorem f95 {nd:aT} {t:an} (hn:dZ nd) (ht:ch nd t):PG (t,IntKind.i64.wrap (nd.2.1-t.2.1),())=some (wT nd t,()):=by
 have h1:=ht.1
 have h2:=hn.1
 have h3:=zx ht
 have e1:IntKind.i64.wrap (nd.2.1-t.2.1)=nd.2.1-t.2.1:=by rw [IntKind.wrap_i64];omega
 have e2:IntKind.i64.wrap (ofNat 3*(nd.2.1-t.2.1))=3*(nd.2.1-t.2.1):=by rw [IntKind.wrap_i64];simp only [aF];omega
 have e3:IntKind.i64.wrap (3*(nd.2.1-t.2.1)+ofNat 2)=3*(nd.2.1-t.2.1)+2:=by rw [IntKind.wrap_i64];simp only [aF];omega
 have e4:IntKind.i64.wrap (3*(nd.2.1-t.2.1)+ofNat 1)=3*(nd.2.1-t.2.1)+1:=by rw [IntKind.wrap_i64];simp only [aF];omega
 simp only [PG,e1,e2,e3,e4]
 have hc:t.1=0∨t.1=1∨t.1=2∨t.1=3∨t.1=4∨t.1=5∨t.1=6:=by omega
 unfold wT
 rcases hc with h|h|h|h|h|h|h<;>rw [h]<;>rfl
noncomputable abbrev wF (r:aj) (j:Nat):Int:=wT (bK r j) (bg r j)
noncomputable def wR (r:aj):Int:=if r.2.2.2.1=1 then bL (wF r) r.2.2.2.2.1.length else 0
noncomputable def W (rs:List aj):Int:=bL (fun a=>wR (rs.getD a (aa ab))) rs.length
theorem zI {r:aj} (h:ROk r) {j:Nat} (hj:j<r.2.2.2.2.1.length):0≤wF r j∧wF r j≤17:=RD (iQ h hj) (h.tks j hj)
theorem HF {r:aj} (h:ROk r) (n:Nat) (hn:n≤r.2.2.2.2.1.length):0≤bL (wF r) n∧bL (wF r) n≤204:=by
 have h1:=Ga (f:=wF r) (b:=17) n fun i hi=>zI h (by omega)
 have h2:=h.len
 have h3:=h.dag.1.2
 omega
theorem Kk {r:aj} (h:ROk r):0≤wR r∧wR r≤204:=by
 unfold wR
 split
 ·exact HF h _ (Nat.le_refl _)
 ·exact⟨by decide,by decide⟩
theorem mN {rs:List aj} (hf:eG rs) (n:Nat) (hn:n≤rs.length):0≤bL (fun a=>wR (rs.getD a (aa ab))) n∧bL (fun a=>wR (rs.getD a (aa ab))) n≤6528:=by
 have h1:=Ga (f:=fun a=>wR (rs.getD a (aa ab))) (b:=204) n fun i hi=>Kk (hf.2.chk i (by omega))
 have:=hf.1
 omega
theorem l57 {r:aj} (h:ROk r) (acc:Int) (rs:List aj) (l i:Int) (hacc:0≤acc∧acc≤10000):pI (acc,rs,l,i,r.2.2.2.2.1,(r.2.2.2.2.1.length:Int),ofNat 0,r.1,r.2.1,r.2.2.1.1,r.2.2.2.1,r.2.2.2.2.1,())=some (acc+bL (wF r) r.2.2.2.2.1.length,rs,l,i,r.1,r.2.1,r.2.2.1.1,r.2.2.2.1,r.2.2.2.2.1,()):=by
 obtain⟨y,hy,rfl⟩:=ba (st:=gC) r.2.2.2.2.1.length (fun j (a:Int)=>(a,rs,l,i,r.2.2.2.2.1,(r.2.2.2.2.1.length:Int),(j:Int),r.1,r.2.1,r.2.2.1.1,r.2.2.2.1,r.2.2.2.2.1,())) (fun j a=>a=acc+bL (wF r) j)
  (fun y=>y=(acc+bL (wF r) r.2.2.2.2.1.length,rs,l,i,r.1,r.2.1,r.2.2.1.1,r.2.2.2.1,r.2.2.2.2.1,())) (fun j a hj ha=>by
   have hjn:j<r.2.2.1.1.length:=by have:=h.len;omega
   have h12:r.2.2.2.2.1.length≤12:=by have:=h.len;have:=h.dag.1.2;omega
   have h1:=f95 (iQ h hj) (h.tks j hj)
   have b1:=HF h j (by omega)
   have b2:=zI h hj
   have e:IntKind.i64.wrap (a+wT (bK r j) (bg r j))=acc+bL (wF r) (j+1):=by
    rw [IntKind.wrap_i64,ha]
    simp only [bL,wF]at*
    omega
   simp only [bg,bK]at h1 e
   simp only [gC,mz,bz hj,aP hj,aH hj,aP hjn,aH hjn,cond_true,toNat_natCast,h1,bind_some,e]
   rw [aX (by omega)]
   exact .inl ⟨_,rfl,rfl⟩) (fun a ha=>⟨(acc+bL (wF r) r.2.2.2.2.1.length,rs,l,i,r.1,r.2.1,r.2.2.1.1,r.2.2.2.1,r.2.2.2.2.1,()),by subst ha;simp only [gC,mz,bu,cond_false],rfl⟩) acc (by simp [bL])
 exact hy
theorem f57 (s:bB) (hf:eG s.2.2.2.2.2.2.1):PI (s,())=some (W s.2.2.2.2.2.2.1,()):=by
 generalize hrs:s.2.2.2.2.2.2.1=rs at hf
 obtain⟨y,hy,rfl⟩:=ba (st:=gD) rs.length (fun j (a:Int)=>(a,rs,(rs.length:Int),(j:Int),())) (fun j a=>a=bL (fun a=>wR (rs.getD a (aa ab))) j) (fun y=>y=(W rs,())) (fun j a hj ha=>by
   have hr:=hf.2.chk j hj
   have b1:=mN hf j (by omega)
   have h32:=hf.1
   simp only [gD,mA,bz hj,aP hj,aH hj,cond_true,toNat_natCast]
   by_cases c:(rs.getD j (aa ab)).2.2.2.1=1
   ·have h1:=l57 hr a rs rs.length j (by omega)
    have e:a+bL (wF (rs.getD j (aa ab))) (rs.getD j (aa ab)).2.2.2.2.1.length=bL (fun a=>wR (rs.getD a (aa ab))) (j+1):=by
     simp only [bL,wR,if_pos c]
     rw [ha]
     rfl
    rw [e]at h1
    rw [show((rs.getD j (aa ab)).2.2.2.1 !=ofNat 1)=false by rw [c];rfl,cond_false]
    simp only [h1,bind_some]
    rw [aX (by omega)]
    exact .inl ⟨_,rfl,rfl⟩
   ·rw [show((rs.getD j (aa ab)).2.2.2.1 !=ofNat 1)=true by simpa using c,cond_true,aX (by omega)]
    refine .inl ⟨_,rfl,?_⟩
    simp only [bL,wR,if_neg c]
    rw [ha,Int.add_zero]
    rfl) (fun a ha=>⟨(W rs,()),by subst ha;simp only [gD,mA,bu,cond_false];rfl,rfl⟩) 0 rfl
 have hy':pJ (ofNat 0,rs,(rs.length:Int),ofNat 0,())=some (W rs,()):=hy
 simp only [PI,hrs,hy',bind_some]
theorem f22 {s:bB} (h:SOk s):tG (s,())=some (W s.2.2.2.2.2.2.1,ofNat 0,()):=by
 have hc0:=Kj h (by have:=h.fine.1;omega) fun r hr=>by
  obtain⟨j,hj,rfl⟩:=List.mem_iff_getElem.1 hr
  rw [←bD hj (aa ab)]
  exact nn (h.fine.2.chk j hj)
 simp only [tG,hc0,bind_some,jU,cond_false,f57 s h.fine]
theorem pw {rs:List aj} {n:Nat} {r':aj} (hn:n<rs.length):W (rs.set n r')=W rs-wR (rs.getD n (aa ab))+wR r':=by
 unfold W
 rw [length_set]
 have h:=HE (f:=fun a=>wR (rs.getD a (aa ab))) (g:=fun a=>wR ((rs.set n r').getD a (aa ab))) (k:=n) rs.length hn fun i hi hne=>by
  simp only [cH hn,if_neg hne]
 rw [h]
 simp only [cH hn,if_pos]
theorem adO {rs:List aj} {r':aj}:W (rs++ [r'])=W rs+wR r':=by
 unfold W
 rw [length_append,length_singleton,bL]
 rw [cV rs.length (by simp),if_pos rfl]
 congr 1
 exact pv _ fun i hi=>by rw [cV i (by simp;omega),if_neg (by omega)]
theorem vI {r r':aj} {k:Nat} {t':an} (h:ROk r) (h1:r.2.2.2.1=1) (hk:k<r.2.2.2.2.1.length) (ht:ch (bK r k) t') (hT:Turn r k t' r'):wR r'≤wR r-wT (bK r k) (bg r k)+wT (bK r k) t':=by
 have b0:=fun i (hi:i<r.2.2.2.2.1.length)=>(zI h hi).1
 have b1:=qx (f:=wF r) (k:=k) _ hk b0
 have b2:=(RD (iQ h hk) ht).1
 have e0:wR r=bL (wF r) r.2.2.2.2.1.length:=if_pos h1
 rcases hT.how with⟨c5,h3,_⟩|⟨c5,h3,⟨_,h4⟩|⟨_,h4⟩⟩
 ·rw [e0,show wR r'=0 from if_neg (by rw [h3];decide)]
  simp only [wF]at b1
  omega
 ·rw [e0,show wR r'=0 from if_neg (by rw [h4];decide)]
  simp only [wF]at b1
  omega
 ·rw [e0,show wR r'=bL (wF r') r'.2.2.2.2.1.length from if_pos h4,hT.len]
  have:=Bq (f:=wF r) (g:=wF r') (k:=k) _ hk fun i hi hne=>by
   simp only [wF,bK,bg,hT.ns,h3,bm hk,if_neg hne]
   exact le_refl _
  have e:wF r' k=wT (bK r k) t':=by simp only [wF,bK,bg,hT.ns,h3,bm hk,if_pos]
  rw [e]at this
  exact this
theorem aao {nd:aT} {t t':an} {now:Int} (hn:dZ nd) (ht:ch nd t) (h2:t.1=2) (hf:tT nd t now t'):wT nd t'+1≤wT nd t:=by
 have:=ht.1
 rcases hf with⟨e,rfl⟩|⟨e,u,_,rfl⟩
 ·simp only [wT,h2,if_pos]
  rw [if_neg (aK rfl),if_neg (aK rfl),if_neg (by rintro(h|h)<;>exact absurd h (aK rfl))]
  omega
 ·simp only [wT,h2,if_pos]
  rw [if_neg (aK rfl),if_pos (show ofNat 3=3 from rfl)]
  omega
theorem adP {now nr nt ac:Int} {es:List aC} {p:bY} {x y:ki} (h:Tk1 now p x y) (hx:SX now nr nt x.2.2.1 x.2.2.2.1 ac x.2.1 (es++x.2.2.2.2)):W y.2.1+y.1≤W x.2.1+x.1:=by
 cases h with
 |skip d R nk ne w h=>exact le_refl _
 |wake d R nk ne w n k r' hn hid hp hk hd h3 hT=>
  have hx:SX now nr nt nk ne ac R (es++w):=hx
  have hro:=hx.rok hn
  have htk:=hro.tks k hk
  have h3':(bg (R.getD n (aa ab)) k).1=3:=h3
  have hst:=cO hro hk (by rw [h3'];decide)
  have hg:=htk
  obtain⟨g1,g2,g3,g4,g5,g6,g7,g8⟩:=hg
  simp only [bg]at h3'
  have ht:ch (bK (R.getD n (aa ab)) k) (ofNat 1,((aN R n).getD k (aa ae)).2.1,ofNat 0,ofNat 0,nk,()):=
   ⟨g1,dN,dN,hx.nkI,fun _=>rfl,fun h=>absurd rfl h,⟨fun h=>absurd rfl h,fun h=>absurd h (aK rfl)⟩,.inr (.inl ⟨rfl,by simp only [aN,bK];omega⟩)⟩
  have h4:=vI hro hst hk ht hT
  have e1:wT (bK (R.getD n (aa ab)) k) (bg (R.getD n (aa ab)) k)=3*((bK (R.getD n (aa ab)) k).2.1-(bg (R.getD n (aa ab)) k).2.1)+1:=by
   unfold wT
   rw [if_neg (by rw [bg,h3'];decide),if_pos h3']
  have e2:wT (bK (R.getD n (aa ab)) k) (ofNat 1,((aN R n).getD k (aa ae)).2.1,ofNat 0,ofNat 0,nk,())=3*((bK (R.getD n (aa ab)) k).2.1-(bg (R.getD n (aa ab)) k).2.1):=by
   unfold wT
   rw [if_neg (aK rfl),if_neg (aK rfl),if_pos (.inr rfl)]
  rw [e1,e2]at h4
  simp only [pw hn]
  omega
 |lapse d R nk ne w n k t' r' hn hid hp hk hd h2 hf hT=>
  have hx:SX now nr nt nk ne ac R (es++w):=hx
  have hro:=hx.rok hn
  have htk:=hro.tks k hk
  have h2':(bg (R.getD n (aa ab)) k).1=2:=h2
  have hst:=cO hro hk (by rw [h2'];decide)
  have htr:1≤((aN R n).getD k (aa ae)).2.1:=by
   obtain⟨g1,g2,g3,g4,g5,g6,g7,g8⟩:=htk
   simp only [bg]at h2'
   simp only [aN];omega
  have h4:=vI hro hst hk (wu htk htr hf).1 hT
  have h5:=aao (iQ hro hk) htk h2' hf
  simp only [pw hn]
  simp only [bg,bK]at h4 h5
  omega
theorem RI {now nr nt ac:Int} {es:List aC} {P:List bY} {x:ki} (hx:SX now nr nt x.2.2.1 x.2.2.2.1 ac x.2.1 (es++x.2.2.2.2)):∀(i:Nat) (y:ki),TkN now P x i y→x.2.2.1+i≤1099511627776→x.2.2.2.1+i≤1099511627776→W y.2.1+y.1≤W x.2.1+x.1
 |_,_,.zero,_,_=>le_refl _
 |_,z,.step i y _ hy h,h1,h2=>by
  have:=gU hx i y hy (by omega) (by omega)
  have h3:=adP h this.1
  have h4:=RI hx i y hy (by omega) (by omega)
  omega
theorem RJ {ns:List aT} {rk:Int} {ts:List an} {j:Nat} {S:Int×List an} (h:OpnP ns rk ts j S) (i:Nat) (hi:i<ts.length) (ht:ch (ns.getD i (aa af)) (ts.getD i (aa ae))):wT (ns.getD i (aa af)) (S.2.getD i (aa ae))=wT (ns.getD i (aa af)) (ts.getD i (aa ae)):=by
 rcases h.is i hi with⟨_,h2⟩|⟨⟨_,h0,_⟩,ρ,h2,_⟩
 ·rw [h2]
 ·have h3:(ts.getD i (aa ae)).2.1=0:=by
   obtain⟨g1,g2,g3,g4,g5,g6,g7,g8⟩:=ht
   omega
  rw [h2]
  unfold wT
  rw [if_neg (aK rfl),if_neg (aK rfl),if_pos (.inr rfl),if_neg (by rw [h0];decide),if_neg (by rw [h0];decide),if_pos (.inl h0),h3]
  rfl
abbrev bo (t:bB):List aj:=t.2.2.2.2.2.2.1
theorem Kl {ck nr nt nk ne ac:Int} {rs:List aj} {es:List aC} {c:bj} {t:bB} {r:fj} (h:SX ck nr nt nk ne ac rs es) (hs:Stp ck nr nt nk ne ac rs es c t r):
  (r.1≠0∧bo t=rs)∨(r.1=0∧((c.1=1∧(bo t=rs∨((bo t).length=rs.length+1∧qp c.2.2.1.1∧W (bo t)=W rs+bL (fun i=>3*(c.2.2.1.1.getD i (aa af)).2.1) c.2.2.1.1.length)))∨
   (c.1≠1∧W (bo t)≤W rs∧((c.1=2∨c.1=3∨c.1=4)→W (bo t)<W rs)∧(c.1=7→W (bo t)+r.2.2.1≤W rs)))):=by
 cases hs with
 |err n=>exact .inl ⟨aK rfl,rfl⟩
 |known n hk hn hkey=>exact .inr ⟨rfl,.inl ⟨hk,.inl rfl⟩⟩
 |query n hk=>exact .inr ⟨rfl,.inr ⟨by omega,le_refl _,fun h=>by omega,fun h=>by omega⟩⟩
 |drain m hk=>exact .inr ⟨rfl,.inr ⟨by omega,le_refl _,fun h=>by omega,fun h=>by omega⟩⟩
 |ack hk h1 h2=>exact .inr ⟨rfl,.inr ⟨by omega,le_refl _,fun h=>by omega,fun h=>by omega⟩⟩
 |new hk hf hno h32 hkey hd hrk=>
  refine .inr ⟨rfl,.inl ⟨hk,.inr ⟨by simp [bo],hd,?_⟩⟩⟩
  obtain⟨ho,hop⟩:=Cl (id:=nr) h.nrI hkey hd hrk
  have hlen:(eY c.2.2.1.1 nk).2.length=c.2.2.1.1.length:=hop.len.trans (List.length_replicate ..)
  simp only [bo,dO,adO]
  congr 1
  have e:wR (nr,c.2.1,c.2.2.1,ofNat 1,(eY c.2.2.1.1 nk).2,())=bL (wF (nr,c.2.1,c.2.2.1,ofNat 1,(eY c.2.2.1.1 nk).2,())) (eY c.2.2.1.1 nk).2.length:=if_pos rfl
  rw [e,hlen]
  refine pv _ fun i hi=> ?_
  have hi':i<(replicate c.2.2.1.1.length t0).length:=by rw [List.length_replicate];exact hi
  have e0:(replicate c.2.2.1.1.length t0).getD i (aa ae)=t0:=List.eq_of_mem_replicate (aD hi' _)
  have ht:ch (c.2.2.1.1.getD i (aa af)) ((replicate c.2.2.1.1.length t0).getD i (aa ae)):=by
   rw [e0]
   have:=(jT hd.2.1 hi).1.1
   exact⟨⟨dN.1,by simp only [aF];omega⟩,dN,dN,dN,fun h=>absurd rfl h,fun h=>absurd rfl h,⟨fun h=>absurd rfl h,fun h=>absurd h (aK rfl)⟩,.inl ⟨rfl,rfl⟩⟩
  have h1:=RJ hop i hi' ht
  rw [e0]at h1
  refine Eq.trans h1 ?_
  unfold wT
  rw [if_neg (aK rfl),if_neg (aK rfl),if_pos (.inl rfl)]
  simp only [aF]
  omega
 |poll n k un r' hk hf hn hkl h1 hun hT=>
  have hro:=h.rok hn
  have htk:=hro.tks k hkl
  have h1':(bg (rs.getD n (aa ab)) k).1=1:=h1
  have hst:=cO hro hkl (by rw [h1'];decide)
  have hg:=htk
  obtain⟨g1,g2,g3,g4,g5,g6,g7,g8⟩:=hg
  simp only [bg]at h1'
  have hnt:=h.ntI
  have ht:ch (bK (rs.getD n (aa ab)) k) (ofNat 2,((aN rs n).getD k (aa ae)).2.1+1,un,nt,ofNat 0,()):=
   ⟨⟨by simp only [aN,bK];omega,by simp only [aN,bK];omega⟩,hun,⟨by simp only;omega,by simp only;omega⟩,dN,fun h=>absurd rfl h,fun _=>.inl rfl,⟨fun _=>rfl,fun _=>by simp only;omega⟩,.inr (.inr (.inl ⟨rfl,by simp only [aN,bK];omega⟩))⟩
  have h4:=vI hro hst hkl ht hT
  have e1:wT (bK (rs.getD n (aa ab)) k) (bg (rs.getD n (aa ab)) k)=3*((bK (rs.getD n (aa ab)) k).2.1-(bg (rs.getD n (aa ab)) k).2.1):=by
   unfold wT
   rw [if_neg (by rw [bg,h1'];decide),if_neg (by rw [bg,h1'];decide),if_pos (.inr h1')]
  have e2:wT (bK (rs.getD n (aa ab)) k) (ofNat 2,((aN rs n).getD k (aa ae)).2.1+1,un,nt,ofNat 0,())=3*((bK (rs.getD n (aa ab)) k).2.1-((bg (rs.getD n (aa ab)) k).2.1+1))+2:=if_pos rfl
  rw [e1,e2]at h4
  have:W (rs.set n r')<W rs:=by rw [pw hn];omega
  exact .inr ⟨rfl,.inr ⟨by omega,by simp only [bo,dO];omega,fun _=>this,fun h=>by omega⟩⟩
 |complete n k r' rk' w hk hf hn hid hi hkl hrk hh hC hw=>
  have hro:=h.rok hn
  have hkl:k<(rs.getD n (aa ab)).2.2.2.2.1.length:=hkl
  have hh2:=hh
  obtain⟨htk,_,_,c2,_⟩:=hh2
  have c2':(bg (rs.getD n (aa ab)) k).1=2:=c2
  have hst:=cO hro hkl (by rw [c2'];decide)
  obtain⟨hok,hop⟩:=jW hro hst hkl hrk hh hC
  have b0:=fun i (hi:i<(rs.getD n (aa ab)).2.2.2.2.1.length)=>(zI hro hi).1
  have b1:=qx (f:=wF (rs.getD n (aa ab))) (k:=k) _ hkl b0
  have e0:wR (rs.getD n (aa ab))=bL (wF (rs.getD n (aa ab))) (rs.getD n (aa ab)).2.2.2.2.1.length:=if_pos hst
  have b2:2≤wF (rs.getD n (aa ab)) k:=by
   have:=htk.1
   simp only [wF,wT,c2',if_pos]
   simp only [bg,bK,aN]at*
   omega
  have:wR r'<wR (rs.getD n (aa ab)):=by
   by_cases h1:r'.2.2.2.1=1
   ·rw [e0,show wR r'=bL (wF r') r'.2.2.2.2.1.length from if_pos h1,hC.len]
    have hset:∀i:Nat,i<(rs.getD n (aa ab)).2.2.2.2.1.length→ch ((rs.getD n (aa ab)).2.2.1.1.getD i (aa af)) (((rs.getD n (aa ab)).2.2.2.2.1.set k (ofNat 4,(bg (rs.getD n (aa ab)) k).2.1,ofNat 0,ofNat 0,ofNat 0,())).getD i (aa ae)):=fun i hi=>by
     rw [bm hkl]
     split
     ·rename_i ck
      subst ck
      obtain⟨g1,g2,g3,g4,g5,g6,g7,g8⟩:=htk
      exact⟨g1,dN,dN,dN,fun h=>absurd rfl h,fun h=>absurd rfl h,⟨fun h=>absurd rfl h,fun h=>absurd h (aK rfl)⟩,.inr (.inr (.inr (.inr (.inl ⟨rfl,by simp only [bg,aN,bK]at*;omega⟩))))⟩
     ·exact hro.tks i hi
    have hwi:∀i:Nat,i<(rs.getD n (aa ab)).2.2.2.2.1.length→wF r' i=wT ((rs.getD n (aa ab)).2.2.1.1.getD i (aa af)) (((rs.getD n (aa ab)).2.2.2.2.1.set k (ofNat 4,(bg (rs.getD n (aa ab)) k).2.1,ofNat 0,ofNat 0,ofNat 0,())).getD i (aa ae)):=fun i hi=>by
     have:=RJ hop i (by rw [length_set];exact hi) (hset i hi)
     simp only at this
     rw [←this]
     simp only [wF,bK,bg,hC.ns]
    have h5:=Bq (f:=wF (rs.getD n (aa ab))) (g:=wF r') (k:=k) _ hkl fun i hi hne=>by
     rw [hwi i hi,bm hkl,if_neg hne]
     exact le_refl _
    have h6:wF r' k=0:=by
     rw [hwi k hkl,bm hkl,if_pos rfl]
     unfold wT
     rw [if_neg (aK rfl),if_neg (aK rfl),if_neg (by rintro(h|h)<;>exact absurd h (aK rfl))]
    omega
   ·rw [show wR r'=0 from if_neg h1];omega
  have h7:W (rs.set n r')<W rs:=by rw [pw hn];omega
  exact .inr ⟨rfl,.inr ⟨by omega,by simp only [bo,dO];omega,fun _=>h7,fun h=>by omega⟩⟩
 |fail n k t' r' hk hf hn hid hi hkl hh hfl hT=>
  have hro:=h.rok hn
  obtain⟨htk,_,_,c2,_⟩:=hh
  have c2':(bg (rs.getD n (aa ab)) k).1=2:=c2
  have hst:=cO hro hkl (by rw [c2'];decide)
  have htr:1≤((aN rs n).getD k (aa ae)).2.1:=by
   obtain⟨g1,g2,g3,g4,g5,g6,g7,g8⟩:=htk
   simp only [aN,bK,bg]at*;omega
  have h4:=vI hro hst hkl (wu htk htr hfl).1 hT
  have h5:=aao (iQ hro hkl) htk c2' hfl
  have h7:W (rs.set n r')<W rs:=by
   rw [pw hn]
   simp only [bg,bK,aN]at h4 h5
   omega
  exact .inr ⟨rfl,.inr ⟨by omega,by simp only [bo,dO];omega,fun _=>h7,fun h=>by omega⟩⟩
 |beat n k un r' hk hf hn hid hi hkl hh hun hT=>
  have hro:=h.rok hn
  obtain⟨htk,_,_,c2,_⟩:=hh
  have c2':(bg (rs.getD n (aa ab)) k).1=2:=c2
  have hst:=cO hro hkl (by rw [c2'];decide)
  obtain⟨g1,g2,g3,g4,g5,g6,g7,g8⟩:=htk
  have ht:ch (bK (rs.getD n (aa ab)) k) (((aN rs n).getD k (aa ae)).1,((aN rs n).getD k (aa ae)).2.1,un,((aN rs n).getD k (aa ae)).2.2.2.1,((aN rs n).getD k (aa ae)).2.2.2.2.1,()):=
   ⟨g1,hun,g3,g4,g5,fun _=>.inl c2,g7,g8⟩
  have h4:=vI hro hst hkl ht hT
  have e:wT (bK (rs.getD n (aa ab)) k) (((aN rs n).getD k (aa ae)).1,((aN rs n).getD k (aa ae)).2.1,un,((aN rs n).getD k (aa ae)).2.2.2.1,((aN rs n).getD k (aa ae)).2.2.2.2.1,())=wT (bK (rs.getD n (aa ab)) k) (bg (rs.getD n (aa ab)) k):=rfl
  rw [e]at h4
  have h7:W (rs.set n r')≤W rs:=by rw [pw hn];omega
  exact .inr ⟨rfl,.inr ⟨by omega,h7,fun h=>by omega,fun h=>by omega⟩⟩
 |cancel n r' hk hf hn hid h1 e1 e2 e3 e4 hd=>
  have h7:W (rs.set n r')≤W rs:=by
   have:=(Kk (h.rok hn)).1
   rw [pw hn,show wR r'=0 from if_neg (by rw [e4];decide)]
   omega
  exact .inr ⟨rfl,.inr ⟨by omega,h7,fun h=>by omega,fun h=>by omega⟩⟩
 |tick l d R nk' ne' w hk hf h1 h2 hl hs' hN=>
  obtain⟨f1,f2,f3,f4⟩:=hf
  have hx:SX c.2.2.2.2.2.2.2.1 nr nt nk ne ac rs (es++ []):=by
   rw [append_nil]
   exact⟨h.fine,⟨by have:=h.ckI.1;omega,h2⟩,h.nrI,h.nkI,h.ntI,h.neI,h.ack,h.elen,h.late,h.evs⟩
  have h3:=RI (x:=(ofNat 0,rs,nk,ne,[])) hx _ _ hN (by simp only;omega) (by simp only;omega)
  have h4:=(lD _ _ hN).2.1
  simp only [aF]at h3 h4
  exact .inr ⟨rfl,.inr ⟨by omega,by simp only [bo,dO];omega,fun h=>by omega,fun _=>by simp only [bo,dO];omega⟩⟩
abbrev LW:bj:=(ofNat 4,{data:= #[]},([],()),ofNat 0,ofNat 0,ofNat 1,ofNat 0,ofNat 0,())
theorem Oq:SOk (gV (ofNat 2) u2):=Oo (by decide) zH (.inr rfl) ⟨by decide,fun h=>absurd h (by decide)⟩
theorem adQ:SOk (gV (ofNat 1) u1):=Oo (by decide) RA (.inl rfl) ⟨by decide,fun _=>by decide⟩
theorem do4:∃T R,eF (gV (ofNat 2) u2,LW,())=some (T,R,())∧R.1=0:=by
 have hr:=On (t:=u2) (by decide)
 have hs:=Oq
 have hc:=Kj hs (show 1≤9223372036854775807 by decide) hr
 have Fh:cW (gV (ofNat 2) u2,())=some (false,()):=rfl
 have h25:=bf hs
 have Bh:cM ([rn u2],ofNat 0,())=some (ofNat 0,true,0,()):=by
  obtain⟨i,b,e,hv,h⟩:=bZ [rn u2] (show 1≤9223372036854775807 by decide) hr (ofNat 0)
  rcases h with⟨_,_,h⟩|⟨rfl,_,⟨rfl,n,rfl,h,_⟩|⟨_,h⟩⟩
  ·exact absurd hs.fine h
  ·obtain rfl:=pu h
   exact hv
  ·exact absurd rfl (h 0 (by decide))
 have Bd:∃r',uX (rn u2,ofNat 0,ofNat 1,ofNat 0,())=some (r',0,()):=by
  obtain⟨r',e',hv,h⟩:=lA (rn u2) (hr _ (List.mem_singleton.2 rfl)) (ofNat 0) (fun nd t=>xA (nd,t,ofNat 1,ofNat 0,())) (fun nd t h1 h2 h3=>by
   obtain⟨t',h,h4⟩:=f171 nd t (ofNat 1) (ofNat 0) h1 h2
   exact xM h fun hp=>Bp (h4 hp))
  rw [←Hr]at hv
  rcases h with⟨rfl,_⟩|⟨_,_,h⟩
  ·exact⟨r',hv⟩
  ·obtain⟨t',h2,_⟩:=f171 n1 u2 (ofNat 1) (ofNat 0) nd1 (by decide)
   rcases h2 with⟨_,h2⟩|⟨h2,_⟩
   ·exact absurd ⟨Om zH (.inr rfl),rfl,0,t',rfl,by decide,h2⟩ h
   ·exact absurd ⟨dN,zH,by decide,in1,rfl,rfl⟩ h2
 obtain⟨r',Bd⟩:=Bd
 have hF:eF (gV (ofNat 2) u2,LW,())=pQ (gV (ofNat 2) u2,LW,()):=rfl
 rw [hF]
 simp only [pQ,hc,bind_some,jU,cond_false,show(ofNat 4==ofNat 1)=false from rfl,show(ofNat 4==ofNat 2)=false from rfl,show(ofNat 4==ofNat 3)=false from rfl,beq_self_eq_true,cond_true,Fh]
 simp only [gV,mk]at h25
 simp only [vp,gV,mk,h25,bind_some,isEmpty_cons,cond_true,cond_false,Bool.not_true,length_singleton,zero_add,Nat.le_refl,decide_true,bq,Bh]
 have h124':uX (rn u2,ofNat 0,ofNat 1,ofNat 0,())=some (r',0,()):=Bd
 show∃(T:bB) (R:fj),Option.bind (uX (rn u2,ofNat 0,ofNat 1,ofNat 0,())) _=some (T,R,())∧R.1=0
 rw [h124',bind_some,cQ]
 cases r'.2.2.2.1==ofNat 3 with
 |true=>exact⟨_,_,rfl,rfl⟩
 |false=>exact⟨_,_,rfl,rfl⟩
theorem w1:W [rn u1]=6:=rfl
theorem w2:W [rn u2]=5:=rfl
theorem aiT:∃t r,eF (gV (ofNat 2) u2,LW,())=some (t,r,())∧r.1=0∧SOk t∧W (bo t)=4:=by
 obtain⟨T,R,h1,h2⟩:=do4
 obtain⟨v,hv,t,r,hdo,hq⟩:=Rz (gV (ofNat 2) u2) LW (show 1≤9223372036854775807 by decide) (On (t:=u2) (by decide)) (fun nd hnd=>(not_mem_nil hnd).elim)
 rw [h1]at hdo
 injection hdo with hdo
 obtain⟨rfl,hR⟩:=Prod.mk.inj hdo
 obtain⟨rfl,_⟩:=Prod.mk.inj hR
 rcases hq with⟨_,hso,hst,h40⟩|⟨_,h,_⟩
 ·have hsx:=ij hso
  have hto:=LR (LS hsx hst).1 h40
  refine⟨T,R,h1,h2,hto,?_⟩
  cases hst with
  |err n=>exact absurd h2 (aK rfl)
  |fail n k t' r' hk hf hn hid hi hkl hh hfl hT=>
   obtain rfl:=pu hn
   obtain rfl:=pu hkl
   have ht:tT n1 u2 (ofNat 0) t':=hfl
   rcases ht with⟨h,_⟩|⟨_,u,hu,rfl⟩
   ·exact absurd h (by decide)
   ·have e:W ([rn u2].set 0 r')=W [rn u2]-wR (rn u2)+wR r':=pw (rs:=[rn u2]) (by decide)
    have e2:wR (rn u2)=5:=rfl
    simp only [bo,dO]
    refine Eq.trans e ?_
    rw [w2,e2]
    rcases hT.how with⟨h,_⟩|⟨_,h3,⟨h,_⟩|⟨_,h4⟩⟩
    ·exact absurd h (aK rfl)
    ·have:=h _ (mem_set (by decide) _)
     exact absurd this (aK rfl)
    ·have e3:wR r'=bL (wF r') r'.2.2.2.2.1.length:=if_pos h4
     have hl:r'.2.2.2.2.1.length=1:=hT.len
     rw [e3,hl]
     have e4:wF r' 0=4:=by
      simp only [wF,bK,bg,hT.ns,h3]
      rfl
     simp only [bL,e4]
     rfl
  |known n hk=>exact absurd hk (aK rfl)
  |new hk=>exact absurd hk (aK rfl)
  |poll n k un r' hk=>exact absurd hk (aK rfl)
  |complete n k r' rk' w hk=>exact absurd hk (aK rfl)
  |beat n k un r' hk=>exact absurd hk (aK rfl)
  |cancel n r' hk=>exact absurd hk (aK rfl)
  |tick l d R nk' ne' w hk=>exact absurd hk (aK rfl)
  |query n hk=>exact absurd hk (aK rfl)
  |drain m hk=>exact absurd hk (aK rfl)
  |ack hk=>exact absurd hk (aK rfl)
 ·exact absurd Oq h
theorem alive:PM ()=some (true,()):=by
 have LC:VW ()=some (zG,()):=rfl
 have Zn:LA ()=some (gV (ofNat 1) u1,()):=by
  simp only [LA,LC,bind_some]
  have:eF (zG,(ofNat 1,{data:= #[97]},(take ((replicate 1 (ft Int,ofNat 0,ofNat 0,())).set 0 (ft Int,ofNat 2,ofNat 3,())).length (drop 0 ((replicate 1 (ft Int,ofNat 0,ofNat 0,())).set 0 (ft Int,ofNat 2,ofNat 3,()))),()),ofNat 0,ofNat 0,ofNat 0,ofNat 0,ofNat 0,()),())=_:=do1
  rw [this]
  rfl
 obtain⟨t,r,hd4,hr0,hto,hw⟩:=aiT
 have h1:=f22 adQ
 have h2:=f22 Oq
 have h3:=f22 hto
 have h1:tG (gV (ofNat 1) u1,())=some (6,ofNat 0,()):=h1
 have h2:tG (gV (ofNat 2) u2,())=some (5,ofNat 0,()):=h2
 simp only [bo]at hw
 rw [hw]at h3
 simp only [PM,Zn,h1,do2,h2,hd4,h3,bind_some,hr0]
 rfl
theorem f94 (r:aj) (hn:r.2.2.1.1.length≤9223372036854775807):∃b,PH (r,())=some (b,()):=by
 obtain⟨b,hb,_⟩:=f45 r.2.2.1.1 hn
 have hb':Lz (r.2.2.1,())=some (b,()):=hb
 simp only [PH,hb',bind_some]
 cases b with
 |true=>exact⟨_,rfl⟩
 |false=>
  simp only [cond_false]
  cases decide (((r.2.2.2.2.1.length:Nat):Int)>ofNat 60)with
  |true=>exact⟨_,rfl⟩
  |false=>exact⟨_,rfl⟩
theorem f56 (rs:List aj) (hl:rs.length≤9223372036854775807) (hr:∀r∈rs,r.2.2.1.1.length≤9223372036854775807):∃b,PJ (rs,())=some (b,()):=by
 simp only [PJ]
 cases decide (((rs.length:Nat):Int)>ofNat 60)with
 |true=>exact⟨_,rfl⟩
 |false=>
  obtain⟨y,hy,hq⟩:=ba (st:=gE) rs.length (fun i (_:Unit)=>(rs,(i:Int),())) (fun _ _=>True) (fun y=>y= .inr ()∨y= .inl (true,())) (fun i _ h _=>by
   obtain⟨b,hb⟩:=f94 (rs.getD i (aa ab)) (hr _ (aD h _))
   simp only [gE,mB,bz h,aP h,aH h,cond_true,toNat_natCast,hb,bind_some]
   cases b with
   |true=>exact .inr ⟨_,rfl,.inr rfl⟩
   |false=>
    rw [aX (by omega)]
    exact .inl ⟨(),rfl,trivial⟩) (fun _ _=>⟨.inr (),by simp only [gE,mB,bu,cond_false],.inl rfl⟩) () trivial
  have hy':pK (rs,ofNat 0,())=some y:=hy
  simp only [cond_false,hy',bind_some]
  rcases hq with rfl|rfl
  ·exact⟨_,rfl⟩
  ·exact⟨_,rfl⟩
theorem f21 (s:bB) (hl:s.2.2.2.2.2.2.1.length≤9223372036854775807) (hr:∀r∈s.2.2.2.2.2.2.1,r.2.2.1.1.length≤9223372036854775807):∃b,PK (s,())=some (b,()):=by
 obtain⟨b,hb⟩:=f56 s.2.2.2.2.2.2.1 hl hr
 simp only [PK,hb,bind_some]
 cases b with
 |true=>exact⟨_,rfl⟩
 |false=>exact⟨_,rfl⟩
theorem RK {r:aj} (h:rL ab r):bH r∧r.2.2.1.1.length≤9223372036854775807:=by
 obtain⟨_,_,⟨⟨hn,hns⟩,_⟩,_,⟨ht,hts⟩,_⟩:=h
 refine⟨⟨fun nd hnd=>(hns nd hnd).1.1,ht,fun t h=> ?_⟩,hn⟩
 have h1:(Lit.int .u8 t.1).wf=true:=(hts t h).1
 simp only [Lit.wf,Bool.and_eq_true,decide_eq_true_eq]at h1
 exact h1.1
abbrev Gb (rs:List aj):Prop:=∀n k:Nat,n<rs.length→k<(aN rs n).length→((aN rs n).getD k (aa ae)).1≠1
abbrev cA (z:Int):bj:=(ofNat 10,{data:= #[]},([],()),ofNat 0,ofNat 0,ofNat 0,ofNat 0,z,())
abbrev cT (z:Int):bj:=(ofNat 7,{data:= #[]},([],()),ofNat 0,ofNat 0,ofNat 0,ofNat 0,z,())
abbrev cP:bj:=(ofNat 2,{data:= #[]},([],()),ofNat 0,ofNat 0,ofNat 0,ofNat 1048576,ofNat 0,())
abbrev cK (k a b d:Int):bj:=(k,{data:= #[]},([],()),a,b,d,ofNat 0,ofNat 0,())
structure Cap (B:Int) (s:bB):Prop where
 nr:s.2.1≤B
 nt:s.2.2.1≤B
 nk:s.2.2.2.1≤B
 ne:s.2.2.2.2.1≤B
theorem Cap.mono {A B:Int} {s:bB} (h:Cap A s) (hl:A≤B):Cap B s:=⟨le_trans h.nr hl,le_trans h.nt hl,le_trans h.nk hl,le_trans h.ne hl⟩
theorem Cap.fresh {B:Int} {s:bB} (h:Cap B s) (hB:B≤1099511627676):Fresh s.2.1 s.2.2.1 s.2.2.2.1 s.2.2.2.2.1:=⟨le_trans h.nr hB,le_trans h.nt hB,le_trans h.nk hB,le_trans h.ne hB⟩
theorem Br {s:bB} (h:SOk s):∀r∈s.2.2.2.2.2.2.1,bH r:=fun r hr=>by
 obtain⟨j,hj,rfl⟩:=List.mem_iff_getElem.1 hr
 rw [←bD hj (aa ab)]
 exact nn (h.fine.2.chk j hj)
section
variable {ck nr nt nk ne ac:Int} {rs:List aj} {es:List aC} {c:bj} {t:bB} {r:fj}
theorem zJ (h:SOk (mk ck nr nt nk ne ac rs es)) (c:bj) (hc:c.2.2.1.1= []):∃t r,eF (mk ck nr nt nk ne ac rs es,c,())=some (t,r,())∧SOk t∧Stp ck nr nt nk ne ac rs es c t r:=by
 obtain⟨v,hv,t,r,hdo,hq⟩:=Rz (mk ck nr nt nk ne ac rs es) c (by have:=h.fine.1;simp only [mk]at this⊢;omega) (Br h) (by rw [hc];exact fun _ h=>absurd h not_mem_nil)
 rcases hq with⟨_,_,hst,h40⟩|⟨_,hn,_⟩
 ·have hsx:=ij h
  obtain⟨hsx2,_⟩:=LS hsx hst
  exact⟨t,r,hdo,LR hsx2 h40,hst⟩
 ·exact absurd h hn
theorem Bs (h:SX ck nr nt nk ne ac rs es) (hs:Stp ck nr nt nk ne ac rs es c t r) (h1:c.1≠1) {B:Int} (hB:Cap B (mk ck nr nt nk ne ac rs es)):Cap (B+16) t:=by
 obtain⟨b1,b2,b3,b4⟩:=hB
 simp only [mk]at b1 b2 b3 b4
 cases hs with
 |new hk=>exact absurd hk h1
 |known n hk=>exact absurd hk h1
 |complete n k r' rk' w hk hf hn hid hi hkl hrk hh hC hw=>
  have hro:=h.rok hn
  have hh2:=hh
  obtain⟨_,_,_,c2,_⟩:=hh2
  have c2':(bg (rs.getD n (aa ab)) k).1=2:=c2
  have hst:=cO hro hkl (by rw [c2'];decide)
  obtain⟨hok,hop⟩:=jW hro hst hkl hrk hh hC
  have hhi:=hop.hi
  simp only at hhi
  have h12:=hro.dag.1.2
  have hwl:w.length≤2:=by rcases hw with⟨_,rfl⟩|⟨_,rfl⟩<;>simp
  exact⟨by simp only;omega,by simp only;omega,by simp only;omega,by simp only;omega⟩
 |tick l d R nk' ne' w hk hf h1 h2 hl hs' hN=>
  obtain⟨f1,f2,f3,f4⟩:=hf
  have hx:SX c.2.2.2.2.2.2.2.1 nr nt nk ne ac rs (es++ []):=by
   rw [append_nil]
   exact⟨h.fine,⟨by have:=h.ckI.1;omega,h2⟩,h.nrI,h.nkI,h.ntI,h.neI,h.ack,h.elen,h.late,h.evs⟩
  obtain⟨q1,q2,q3,q4,q5,q6⟩:=gU (x:=(ofNat 0,rs,nk,ne,[])) hx _ _ hN (by simp only;omega) (by simp only;omega)
  simp only at q2 q3 q4 q5
  exact⟨by simp only;omega,by simp only;omega,by simp only;omega,by simp only;omega⟩
 |_=>exact⟨by simp only [dO];omega,by simp only [dO];omega,by simp only [dO];omega,by simp only [dO];omega⟩
theorem LX (h:SOk (mk ck nr nt nk ne ac rs es)):∃r,eF (mk ck nr nt nk ne ac rs es,cA (IntKind.i64.wrap (ne-ofNat 1)),())=some (mk ck nr nt nk ne (ne-1) rs [],r,())∧SOk (mk ck nr nt nk ne (ne-1) rs []):=by
 have hne:1≤ne∧ne≤1099511627776:=h.ne
 have hac:0≤ac∧ac<ne:=h.ack
 have hel:(es.length:Int)=ne-1-ac:=h.elen
 have e:IntKind.i64.wrap (ne-ofNat 1)=ne-1:=by rw [IntKind.wrap_i64];simp only [aF];omega
 rw [e]
 obtain⟨t,r,hdo,hok,hst⟩:=zJ h (cA (ne-1)) rfl
 cases hst with
 |err n hw=>exact absurd (hw.2.2.2 rfl (by simp only;omega) (by simp only;omega)) id
 |ack hk h1 h2=>
  have e2:es.drop ((cA (ne-1)).2.2.2.2.2.2.2.1-ac).toNat= []:=List.drop_eq_nil_of_le (by simp only;omega)
  rw [e2]at hdo hok
  exact⟨_,hdo,hok⟩
 |known n hk=>exact absurd hk (aK rfl)
 |new hk=>exact absurd hk (aK rfl)
 |poll n k un r' hk=>exact absurd hk (aK rfl)
 |complete n k r' rk' w hk=>exact absurd hk (aK rfl)
 |fail n k t' r' hk=>exact absurd hk (aK rfl)
 |beat n k un r' hk=>exact absurd hk (aK rfl)
 |cancel n r' hk=>exact absurd hk (aK rfl)
 |tick l d R nk' ne' w hk=>exact absurd hk (aK rfl)
 |query n hk=>exact absurd hk (aK rfl)
 |drain m hk=>exact absurd hk (aK rfl)
theorem TF (h:SOk (mk ck nr nt nk ne ac rs es)) (hF:Fresh nr nt nk ne):∃t r,eF (mk ck nr nt nk ne ac rs es,cP,())=some (t,r,())∧SOk t∧((r.1≠0∧t=mk ck nr nt nk ne ac rs es∧Gb rs)∨(r.1=0∧W (bo t)<W rs∧r.2.2.2.1=nt∧t.1=ck∧Stp ck nr nt nk ne ac rs es cP t r)):=by
 obtain⟨t,r,hdo,hok,hst⟩:=zJ h cP rfl
 refine⟨t,r,hdo,hok,?_⟩
 have hw:=Kl (ij h) hst
 have hst2:=hst
 cases hst with
 |err n hy=>exact .inl ⟨aK rfl,rfl,hy.1 rfl hF (by decide) (by decide)⟩
 |poll n k un r' hk hf hn hkl h1 hun hT=>
  rcases hw with⟨h0,_⟩|⟨_,⟨h0,_⟩|⟨_,_,h3,_⟩⟩
  ·exact absurd rfl h0
  ·exact absurd h0 (aK rfl)
  ·exact .inr ⟨rfl,h3 (.inl rfl),rfl,rfl,hst2⟩
 |known n hk=>exact absurd hk (aK rfl)
 |new hk=>exact absurd hk (aK rfl)
 |ack hk=>exact absurd hk (aK rfl)
 |complete n k r' rk' w hk=>exact absurd hk (aK rfl)
 |fail n k t' r' hk=>exact absurd hk (aK rfl)
 |beat n k un r' hk=>exact absurd hk (aK rfl)
 |cancel n r' hk=>exact absurd hk (aK rfl)
 |tick l d R nk' ne' w hk=>exact absurd hk (aK rfl)
 |query n hk=>exact absurd hk (aK rfl)
 |drain m hk=>exact absurd hk (aK rfl)
theorem Gc {now:Int} {p:bY} {y z:ki} (h:Tk1 now p y z):y.1≤z.1∧(z.1=y.1→z.2.1=y.2.1):=by
 cases h with
 |skip=>exact⟨le_refl _,fun _=>rfl⟩
 |wake d=>exact⟨by simp only;omega,fun h=>by simp only at h;omega⟩
 |lapse d=>exact⟨by simp only;omega,fun h=>by simp only at h;omega⟩
theorem Gd {now:Int} {P:List bY} {x:ki}:∀(i:Nat) (y:ki),TkN now P x i y→x.1≤y.1∧(y.1=x.1→y.2.1=x.2.1)
 |_,_,.zero=>⟨le_refl _,fun _=>rfl⟩
 |_,z,.step i y _ hy h=>by
  obtain⟨a,b⟩:=Gd i y hy
  obtain⟨a2,b2⟩:=Gc h
  exact⟨by omega,fun e=>by rw [b2 (by omega),b (by omega)]⟩
theorem HG {now:Int} {P:List bY} {x:ki} (h1:∀z,Tk1 now (P.getD 0 (aa au)) x z→x.1+1≤z.1):∀(i:Nat) (y:ki),TkN now P x (i+1) y→x.1+1≤y.1
 |0,_,.step _ y _ hy h=>by
  cases hy
  exact h1 _ h
 |i+1,_,.step _ y _ hy h=>by
  have:=HG h1 i y hy
  have:=(Gc h).1
  omega
theorem TH (h:SOk (mk ck nr nt nk ne (ne-1) rs [])) (hF:Fresh nr nt nk ne) {z:Int} (h1:ck≤z) (h2:z≤1099511627776):∃t r,eF (mk ck nr nt nk ne (ne-1) rs [],cT z,())=some (t,r,())∧SOk t∧t.1=z∧Stp ck nr nt nk ne (ne-1) rs [] (cT z) t r∧W (bo t)≤W rs∧(W (bo t)<W rs∨bo t=rs)∧(pl rs z≠ []→W (bo t)<W rs):=by
 obtain⟨t,r,hdo,hok,hst⟩:=zJ h (cT z) rfl
 refine⟨t,r,hdo,hok,?_⟩
 have hw:=Kl (ij h) hst
 have hst2:=hst
 cases hst with
 |err n hy=>exact absurd (hy.2.2.1 rfl hF h1 h2 (by decide)) id
 |tick l d R nk' ne' w hk hf h1' h2' hl hs' hN=>
  rcases hw with⟨h0,_⟩|⟨_,⟨h0,_⟩|⟨_,h3,_,h4⟩⟩
  ·exact absurd rfl h0
  ·exact absurd h0 (aK rfl)
  have h4:=h4 rfl
  have hm:=Gd _ _ hN
  simp only [bo,dO]at h3 h4 hm
  simp only [aF]at hm
  refine⟨rfl,hst2,h3,?_,fun hp=> ?_⟩
  ·by_cases c:d=0
   ·exact .inr (hm.2 c)
   ·exact .inl (by simp only [bo,dO];omega)
  ·have hl0:0<l.length:=by
    cases l with
    |nil=>exact absurd (List.nil_perm.1 hl) hp
    |cons a m=>simp
   obtain⟨i,hi⟩:∃i,min 16 l.length=i+1:=⟨min 16 l.length-1,by omega⟩
   rw [hi]at hN
   have hone:=HG (fun y hy=>by
    obtain⟨a,j,ha,hj,hd,e⟩:=FJ (hl.subset (aD hl0 (aa au)))
    cases hy with
    |skip d R nk ne w h=>
     have:=h a j ha (by rw [e]) (by rw [e]) hj
     rw [show((aN rs a).getD j (aa ae))=((rs.getD a (aa ab)).2.2.2.2.1.getD j (aa ae))from rfl]at this
     rw [show dA ((rs.getD a (aa ab)).2.2.2.2.1.getD j (aa ae)) (cT z).2.2.2.2.2.2.2.1=true from hd]at this
     exact nomatch this
    |wake d=>exact le_refl _
    |lapse d=>exact le_refl _) i _ hN
   simp only [aF]at hone
   simp only [bo,dO]
   omega
 |known n hk=>exact absurd hk (aK rfl)
 |new hk=>exact absurd hk (aK rfl)
 |ack hk=>exact absurd hk (aK rfl)
 |poll n k un r' hk=>exact absurd hk (aK rfl)
 |complete n k r' rk' w hk=>exact absurd hk (aK rfl)
 |fail n k t' r' hk=>exact absurd hk (aK rfl)
 |beat n k un r' hk=>exact absurd hk (aK rfl)
 |cancel n r' hk=>exact absurd hk (aK rfl)
 |query n hk=>exact absurd hk (aK rfl)
 |drain m hk=>exact absurd hk (aK rfl)
theorem aap (h:SOk (mk ck nr nt nk ne ac rs es)) (c:bj) (hc:c.2.2.1.1= []) (hk:c.1=3∨c.1=4):∃t r,eF (mk ck nr nt nk ne ac rs es,c,())=some (t,r,())∧SOk t∧t.1=ck∧W (bo t)≤W rs∧Stp ck nr nt nk ne ac rs es c t r:=by
 obtain⟨t,r,hdo,hok,hst⟩:=zJ h c hc
 have hw:=Kl (ij h) hst
 have e:t.1=ck:=by
  cases hst with
  |tick l d R nk' ne' w hk7=>exact absurd hk7 (by omega)
  |_=>rfl
 refine⟨t,r,hdo,hok,e,?_,hst⟩
 rcases hw with⟨_,h0⟩|⟨_,⟨h0,_⟩|⟨_,h3,_⟩⟩
 ·rw [h0];exact le_refl _
 ·omega
 ·exact h3
end
theorem aaq {r:aj} (h:ROk r) (h1:r.2.2.2.1=1):∃k:Nat,k<r.2.2.2.2.1.length∧((bg r k).1=1∨(bg r k).1=2∨(bg r k).1=3):=by
 have hlen:=h.len
 rcases h.st with⟨_,hm,hn4,hn56⟩|⟨hs,_⟩|⟨hs,_⟩|⟨hs,_⟩
 ·have hU:(List.range r.2.2.2.2.1.length).filter (fun i=>decide ((bg r i).1≠4))≠ []:=fun he=>hn4 fun t ht=>by
   obtain⟨j,hj,rfl⟩:=zy ht
   by_cases c:(r.2.2.2.2.1.getD j (aa ae)).1=4
   ·exact c
   ·have:j∈(List.range r.2.2.2.2.1.length).filter (fun i=>decide ((bg r i).1≠4)):=List.mem_filter.2 ⟨List.mem_range.2 hj,decide_eq_true c⟩
    rw [he]at this
    exact absurd this not_mem_nil
  obtain⟨u,hu,hs⟩:=NY (n:=r.2.2.1.1.length) (R:=jb (tS r.2.2.1.1) r.2.2.1.1.length) (fun i m j hm a b=>me _ _ hm a b) _ hU fun u hu=>by
   have:=List.mem_range.1 (List.mem_filter.1 hu).1
   exact⟨by omega,h.dag.2.2 u (by omega)⟩
  obtain⟨hu1,hu2⟩:=List.mem_filter.1 hu
  have hul:=List.mem_range.1 hu1
  have hu4:(bg r u).1≠4:=of_decide_eq_true hu2
  have hmet:gk r.2.2.2.2.1 (r.2.2.1.1.getD u (aa af)):=fun v hv=>by
   obtain⟨v0,v1⟩:=vD (h.dag.2.1 u (by omega)) v hv
   have he:tS r.2.2.1.1 u v.toNat:=⟨by omega,by rw [Int.toNat_of_nonneg v0];exact hv⟩
   by_cases c:(r.2.2.2.2.1.getD v.toNat (aa ae)).1=4
   ·exact c
   ·exact absurd (xL _ _ he) (hs _ (List.mem_filter.2 ⟨List.mem_range.2 (by omega),decide_eq_true c⟩))
  have h0:=(hm u (by omega)).1 hmet
  have hb:=zx (h.tks u hul)
  have XC:¬((bg r u).1=5∨(bg r u).1=6):=fun e=>hn56 ⟨_,aD hul _,e⟩
  refine⟨u,hul,?_⟩
  simp only [bg]at*
  omega
 ·rw [h1]at hs;exact absurd hs (aK rfl)
 ·rw [h1]at hs;exact absurd hs (aK rfl)
 ·rw [h1]at hs;exact absurd hs (aK rfl)
theorem aar {r:aj} (h:ROk r) (h1:r.2.2.2.1=1):1≤wR r:=by
 obtain⟨k,hk,hst⟩:=aaq h h1
 have e:wR r=bL (wF r) r.2.2.2.2.1.length:=if_pos h1
 rw [e]
 have:=qx (f:=wF r) (k:=k) _ hk fun i hi=>(zI h hi).1
 have htk:=h.tks k hk
 obtain⟨g1,g2,g3,g4,g5,g6,g7,g8⟩:=htk
 have hb:1≤wF r k:=by
  simp only [wF,wT,bg,bK]at*
  split
  ·omega
  ·split
   ·omega
   ·rw [if_pos (by omega)];omega
 omega
theorem RN {rs:List aj} (hf:eG rs) {n:Nat} (hn:n<rs.length) (h1:(rs.getD n (aa ab)).2.2.2.1=1):1≤W rs:=by
 have:=qx (f:=fun a=>wR (rs.getD a (aa ab))) (k:=n) rs.length hn fun i hi=>(Kk (hf.2.chk i hi)).1
 have:=aar (hf.2.chk n hn) h1
 unfold W
 omega
theorem LY {rs:List aj} (h:∀n:Nat,n<rs.length→(rs.getD n (aa ab)).2.2.2.1≠1):W rs=0:=by
 unfold W
 have:∀m:Nat,m≤rs.length→bL (fun a=>wR (rs.getD a (aa ab))) m=0:=fun m=>by
  induction m with
  |zero=>intro _;rfl
  |succ m ih=>intro hm;show bL _ m+wR (rs.getD m (aa ab))=0;rw [ih (by omega),wR,if_neg (h m (by omega))];rfl
 exact this _ (Nat.le_refl _)
theorem LZ {id now:Int}:∀(ts:List an) (k j:Nat),j<ts.length→dA (ts.getD j (aa ae)) now=true→gR id now k ts≠ []
 | [],_,_,h,_=>absurd h (not_lt_zero _)
 |t::ts,k,0,_,hd=>by
  have hd:dA t now=true:=hd
  simp only [gR,hd,cond_true]
  exact fun h=>by simp at h
 |t::ts,k,j+1,h,hd=>fun he=>by
  simp only [gR,List.append_eq_nil_iff]at he
  exact LZ ts (k+1) j (by simpa using h) (by simpa using hd) he.2
theorem RP {rs:List aj} {now:Int} {n k:Nat} (hn:n<rs.length) (hk:k<(aN rs n).length) (hd:dA ((aN rs n).getD k (aa ae)) now=true):pl rs now≠ []:=fun he=>by
 have h:∀r∈rs,gR r.1 now 0 r.2.2.2.2.1= []:=fun r hr=>by
  have:=List.flatMap_eq_nil_iff.1 he r hr
  exact this
 exact LZ _ 0 k hk hd (h _ (aD hn (aa ab)))
theorem Ma {ck nr nt nk ne ac:Int} {rs:List aj} {es:List aC} (h:SOk (mk ck nr nt nk ne ac rs es)):∃z,AL (mk ck nr nt nk ne ac rs es,())=some (z,())∧ck≤z∧z≤1099511627776∧(Gb rs→∀n k:Nat,n<rs.length→k<(aN rs n).length→(((aN rs n).getD k (aa ae)).1=2∨((aN rs n).getD k (aa ae)).1=3)→pl rs z≠ []):=by
 have hf:eG rs:=h.fine
 have hck:0≤ck∧ck≤1099511627776:=h.ck
 have hr:∀r∈rs,bH r:=Br h
 obtain⟨v,hv,hc⟩:=f51 rs (by have:=hf.1;omega) hr
 rcases hc with⟨h1,_⟩|⟨_,h2,_⟩|⟨_,rfl⟩
 ·have:=hf.1;omega
 ·exact absurd hf.2 h2
 obtain⟨S,h1,h2,h3⟩:=f175 rs 1099511627776 hf.1 (Zz hf)
 have h1:Aw (rs,ofNat 1099511627776,())=some (S,()):=h1
 obtain⟨p,b,e,hnx,hq⟩:=nj rs (by have:=hf.1;omega) hr
 rcases hq with⟨_,_,hq⟩|⟨_,_,_,_,hex⟩
 ·exact absurd hf hq
 have hin:∀n k:Nat,n<rs.length→k<(aN rs n).length→(((aN rs n).getD k (aa ae)).1=2∨((aN rs n).getD k (aa ae)).1=3)→pl rs 1099511627776≠ []:=fun n k hn hk hs=>by
  refine RP hn hk ?_
  rw [show(aN rs n).getD k (aa ae)=(rs.getD n (aa ab)).2.2.2.2.1.getD k (aa ae)from rfl]at hs⊢
  rw [Tu ((hf.2.chk n hn).tks k hk)]
  rcases hs with hs|hs
  ·rw [hs];rfl
  ·rw [hs];rfl
 cases S with
 |nil=>
  have Bi:AK (rs,())=some (ofNat 0,false,ofNat 0,()):=by
   simp only [AK,hv,bind_some,jU,cond_false,h1,isEmpty_nil,cond_true]
  refine⟨ck,by simp only [AL,mk,Bi,hnx,bind_some,Bool.not_false,cond_true],le_refl _,hck.2,fun _ n k hn hk hs=>absurd (List.nil_perm.1 h2) (hin n k hn hk hs)⟩
 |cons a m=>
  have Bi:AK (rs,())=some (a.2.2.1,true,ofNat 0,()):=by
   have hg:((((a::m).length:Nat):Int)==ofNat 0)=false:=by simp;omega
   have hw:ah 0 (ofNat 0) ((((a::m).length:Nat):Int)-1)=true:=by simp only [ah,length_cons,aF,Bool.and_eq_true,decide_eq_true_eq];omega
   have hd:decide (0+(ofNat 0).toNat<(a::m).length)=true:=by simp
   simp only [AK,hv,bind_some,jU,cond_false,h1,isEmpty_cons,hg,hw,hd,cond_true]
   rfl
  obtain⟨i,j,hi,hj,hd,ea⟩:=FJ (h2.subset (List.mem_cons_self (a:=a) (l:=m)))
  have hu:=(oO hd).2
  have hun:a.2.2.1=(getD (rs.getD i (aa ab)).2.2.2.2.1 j (aa ae)).2.2.1:=by rw [ea]
  cases b with
  |true=>
   refine⟨ck,by simp only [AL,mk,Bi,hnx,bind_some,Bool.not_true,cond_true,cond_false],le_refl _,hck.2,fun hno=> ?_⟩
   obtain⟨n,k,hn,hk,h1,_⟩:=hex rfl
   exact absurd h1 (hno n k hn hk)
  |false=>
   refine⟨if a.2.2.1>ck then a.2.2.1 else ck,by simp only [AL,mk,Bi,hnx,bind_some,Bool.not_true,cond_false],by split<;>omega,by split<;>omega,fun _ n k hn hk hs=>RP hi hj ?_⟩
   have hst:=(oO hd).1
   have:(getD (rs.getD i (aa ab)).2.2.2.2.1 j (aa ae)).2.2.1≤if a.2.2.1>ck then a.2.2.1 else ck:=by split<;>omega
   show dA (getD (rs.getD i (aa ab)).2.2.2.2.1 j (aa ae)) _=true
   unfold dA
   rw [decide_eq_true this]
   rcases hst with hst|hst
   ·rw [hst];rfl
   ·rw [hst];rfl
theorem f73 (s:bB) (hl:s.2.2.2.2.2.2.1.length≤32):∃b,wK (s,())=some (b,())∧(b=true↔∀n:Nat,n<(bo s).length→((bo s).getD n (aa ab)).2.2.2.1≠1):=by
 obtain⟨ck,nr,nt,nk,ne,ac,rs,es,_⟩:=s
 simp only at hl
 obtain⟨y,hy,hq⟩:=ba (st:=gB) rs.length (fun i (_:Unit)=>(rs,(rs.length:Int),(i:Int),())) (fun i _=>∀n:Nat,n<i→(rs.getD n (aa ab)).2.2.2.1≠1)
   (fun y=>(∃n:Nat,n<rs.length∧(rs.getD n (aa ab)).2.2.2.1=1∧∃z,y= .inl (false,z))∨(y= .inr ()∧∀n:Nat,n<rs.length→(rs.getD n (aa ab)).2.2.2.1≠1)) (fun i _ h hx=>by
    simp only [gB,mt,bz h,aP h,aH h,cond_true,toNat_natCast]
    by_cases hk:(rs.getD i (aa ab)).2.2.2.1=1
    ·rw [show((rs.getD i (aa ab)).2.2.2.1==ofNat 1)=true from by simpa using hk,cond_true]
     exact .inr ⟨_,rfl,.inl ⟨i,h,hk,_,rfl⟩⟩
    ·rw [show((rs.getD i (aa ab)).2.2.2.1==ofNat 1)=false from by simpa using hk,cond_false,aX (by omega)]
     exact .inl ⟨(),rfl,dm hx hk⟩) (fun _ hx=>⟨.inr (),by simp only [gB,mt,bu,cond_false],.inr ⟨rfl,hx⟩⟩) () (fun n h=>absurd h (not_lt_zero _))
 have hy':pF (rs,(rs.length:Int),ofNat 0,())=some y:=hy
 simp only [wK,hy',bind_some]
 rcases hq with⟨n,h1,h2,z,rfl⟩|⟨rfl,h⟩
 ·exact⟨false,rfl,⟨fun h=>(nomatch h),fun h=>absurd h2 (h n h1)⟩⟩
 ·exact⟨true,rfl,⟨fun _=>h,fun _=>rfl⟩⟩
abbrev Km:Type:=(Nat×Int×Int×Int×Int×Int×ByteArray×List aR×Int×List bc×List aI×Int×Int×Int×Int×Int×Int×List aO×List aI×Int×Int×Int×Int×Int×Int×List aO×List aI×Nat×Int×Int×Int×Int×Int×ByteArray×List aR×Int×List bc×List aI×Int×Int×Int×Int×Int×Int×List aO×List aI×List md×Int×Int×Int×Int×Int×ByteArray×List aR×Int×List bc×List aI×Int×ByteArray×Int×Int×Int×Int×Int×Int×Int×Int×Int×Int×ByteArray×List aR×Int×List bc×List aI×Int×Int×Int×Int×Int×Int×List aO×List aI×List md×List md×Int×Int×Int×Int×Int×ByteArray×List aR×Int×List bc×List aI×Int×ByteArray×Int×Int×Int×Int×Int×Unit)
abbrev stE (e:Km):bB:=(e.2.2.2.2.2.2.2.2.2.2.2.2.2.2.2.2.2.2.2.1,e.2.2.2.2.2.2.2.2.2.2.2.2.2.2.2.2.2.2.2.2.1,e.2.2.2.2.2.2.2.2.2.2.2.2.2.2.2.2.2.2.2.2.2.1,e.2.2.2.2.2.2.2.2.2.2.2.2.2.2.2.2.2.2.2.2.2.2.1,e.2.2.2.2.2.2.2.2.2.2.2.2.2.2.2.2.2.2.2.2.2.2.2.1,e.2.2.2.2.2.2.2.2.2.2.2.2.2.2.2.2.2.2.2.2.2.2.2.2.1,e.2.2.2.2.2.2.2.2.2.2.2.2.2.2.2.2.2.2.2.2.2.2.2.2.2.1,e.2.2.2.2.2.2.2.2.2.2.2.2.2.2.2.2.2.2.2.2.2.2.2.2.2.2.1,())
abbrev Mb (e:Km):List bj:=e.2.2.2.2.2.2.2.2.2.2.2.2.2.2.2.2.2.2.2.2.2.2.2.2.2.2.2.2.2.2.2.2.2.2.2.2.2.2.2.2.2.2.2.2.2.2.2.2.2.2.2.2.2.2.2.2.2.2.2.2.2.2.2.2.2.2.2.2.2.2.2.2.2.2.2.2.2.2.2.2.2.2.1
theorem Ot (z:Int):AW z= [cA (IntKind.i64.wrap (z-ofNat 1))]:=rfl
theorem aas:IY= [cP]:=rfl
theorem aiU (k a b c:Int):lv k a b c= [cK k a b c]:=rfl
theorem aat (z:Int) (l:List bj):ry z l.length l=l++ [cA (IntKind.i64.wrap (z-ofNat 1))]:=by unfold ry;rw [cX,Ot]
theorem aiV (z:Int) (l:List bj):dD z l.length l=l++ [cA (IntKind.i64.wrap (z-ofNat 1))]++ [cP]:=by unfold dD;rw [bq,aat,aas]
theorem aau {n:Nat} (h:n≤900):(decide ((n+1)*88≤bh) && decide (n+1≤bh))=true:=pp (by omega) (by omega)
theorem HH {n:Nat} (h:n≤900):(decide ((n+1)*88≤2^46) && decide (n+1≤2^46))=true:=pp (by omega) (by omega)
abbrev vJ (s:bB) (c:bj) (t:bB) (r:fj):Prop:=Stp s.1 s.2.1 s.2.2.1 s.2.2.2.1 s.2.2.2.2.1 s.2.2.2.2.2.1 s.2.2.2.2.2.2.1 s.2.2.2.2.2.2.2.1 c t r
abbrev Cq (fails:List Bool) (s:bB) (l:List bj):=(fails,s.1,s.2.1,s.2.2.1,s.2.2.2.1,s.2.2.2.2.1,s.2.2.2.2.2.1,s.2.2.2.2.2.2.1,s.2.2.2.2.2.2.2.1,ofNat 0,ofNat 0,ofNat 0,ofNat 0,ofNat 0,ofNat 0,l.length,l,())
structure In72 (J:List aj→Prop) (B K W0:Int) (rs0:List aj) (s:bB) (l:List bj):Prop where
 ok:SOk s
 cap:Cap (B+16*l.length) s
 len:(l.length:Int)+3*W (bo s)≤K
 less:W (bo s)<W0∨bo s=rs0
 le:W (bo s)≤W0
 j:J (bo s)
section
variable (fails:List Bool) (J:List aj→Prop) (hJ:∀(s t t3:bB) (r r3:fj) (k:Int),SOk s→s.2.2.2.2.2.2.2.1= []→J (bo s)→vJ s cP t r→r.1=0→SOk t→Fresh t.2.1 t.2.2.1 t.2.2.2.1 t.2.2.2.2.1→(k=3∨(k=4∧fails≠ []))→vJ t (cK k r.2.1 r.2.2.1 r.2.2.2.1) t3 r3→J (bo t3))
 (B K W0:Int) (rs0:List aj) (hK:K≤800) (hB:B+16*(K+10)≤1099511627676)
include hJ hK hB
abbrev aav (e:Km):Prop:=∃s' l',e.1=l'.length∧Mb e=l'∧stE e=s'∧In72 J B (K+2) W0 rs0 s' l'∧Gb (bo s')
set_option maxHeartbeats 1000000 in
theorem Mc (s:bB) (l:List bj) (hi:In72 J B K W0 rs0 s l):
  (∃e,gQ (Cq fails s l)=some (.inr e)∧aav J B K W0 rs0 e)∨∃t3 l3,gQ (Cq fails s l)=some (.inl (Cq fails t3 l3))∧In72 J B K W0 rs0 t3 l3∧W (bo t3)<W (bo s):=by
 obtain⟨hok,hcap,hlen,hless,hle,hj⟩:=hi
 obtain⟨ck,nr,nt,nk,ne,ac,rs,es,_⟩:=s
 have hw0:=(mN hok.fine _ (Nat.le_refl _)).1
 simp only [bo]at hlen hless hle hj hw0
 have hw0:0≤W rs:=hw0
 obtain⟨r1,hd1,hok1⟩:=LX hok
 have hcap1:Cap (B+16*l.length) (mk ck nr nt nk ne (ne-1) rs []):=⟨hcap.nr,hcap.nt,hcap.nk,hcap.ne⟩
 obtain⟨t2,r2,hd2,hok2,hq⟩:=TF hok1 (hcap.fresh (by omega))
 have g0:decide (l.length≤l.length)=true:=decide_eq_true (Nat.le_refl _)
 have g1:=aau (n:=l.length) (by omega)
 have g2:=HH (n:=l.length+1) (by omega)
 simp only [mk,cA,cP]at hd1 hd2
 simp only [gQ,tR,qn,Cq,zero_add,cX,bq,cg,Ot,aat,aiV,aas,aiU,length_append,length_singleton,decide_true,Nat.le_refl,cond_true,g1,g2,hd1,hd2,bind_some]
 rcases hq with⟨h0,rfl,hno⟩|⟨h0,hlt,htok,hck,hst⟩
 ·rw [show(r2.1 !=ofNat 0)=true by simpa using h0,cond_true]
  refine .inl ⟨_,rfl,mk ck nr nt nk ne (ne-1) rs [],l++ [cA (IntKind.i64.wrap (ne-ofNat 1))]++ [cP],by simp,rfl,rfl,⟨hok1,hcap1.mono ?_,?_,hless,hle,hj⟩,hno⟩
  ·simp only [length_append,length_singleton];omega
  ·simp only [length_append,length_singleton,bo,mk];omega
 ·refine .inr ?_
  rw [show(r2.1 !=ofNat 0)=false by rw [h0];rfl,cond_false]
  have hsx1:=ij hok1
  have hcap2:=Bs hsx1 hst (aK rfl) hcap1
  obtain⟨ck2,nr2,nt2,nk2,ne2,ac2,rs2,es2,_⟩:=t2
  have hsx2:=ij hok2
  have hnt1:1≤nt:=hok1.nt.1
  have two:∀k:Int,(k=3∨(k=4∧fails≠ []))→∃t3 r3,eF (mk ck2 nr2 nt2 nk2 ne2 ac2 rs2 es2,cK k r2.2.1 r2.2.2.1 r2.2.2.2.1,())=some (t3,r3,())∧In72 J B K W0 rs0 t3 (l++ [cA (IntKind.i64.wrap (ne-ofNat 1))]++ [cP]++ [cK k r2.2.1 r2.2.2.1 r2.2.2.2.1])∧W (bo t3)<W rs:=fun k hk=>by
   obtain⟨t3,r3,hd3,hok3,hck3,hle3,hst3⟩:=aap hok2 (cK k r2.2.1 r2.2.2.1 r2.2.2.2.1) rfl (by rcases hk with hk|⟨hk,_⟩;exact .inl hk;exact .inr hk)
   have hj3:=hJ (mk ck nr nt nk ne (ne-1) rs []) (mk ck2 nr2 nt2 nk2 ne2 ac2 rs2 es2) t3 r2 r3 k hok1 rfl hj hst h0 hok2 (hcap2.fresh (by omega)) hk hst3
   have hcap3:=Bs hsx2 hst3 (show k≠1 by rcases hk with hk|⟨hk,_⟩<;>omega) hcap2
   simp only [bo]at hlt
   refine⟨t3,r3,hd3,⟨hok3,hcap3.mono ?_,?_,.inl ?_,?_,hj3⟩,?_⟩
   ·simp only [length_append,length_singleton];omega
   ·simp only [length_append,length_singleton];omega
   ·omega
   ·omega
   ·omega
  have g3:=HH (n:=l.length+1+1) (by omega)
  by_cases hl0:0<fails.length
  ·have hne0:fails≠ []:=fun e=>by rw [e]at hl0;exact absurd hl0 (Nat.lt_irrefl _)
   have hm0:0≤tmod r2.2.2.2.1 (fails.length:Int):=Int.tmod_nonneg _ (by rw [htok];omega)
   have hm1:tmod r2.2.2.2.1 (fails.length:Int)<(fails.length:Int):=Int.tmod_lt_of_pos _ (by omega)
   have w1:ah 0 (tmod r2.2.2.2.1 (fails.length:Int)) ((fails.length:Int)-1)=true:=by simp only [ah,Bool.and_eq_true,decide_eq_true_eq];omega
   have w2:decide ((tmod r2.2.2.2.1 (fails.length:Int)).toNat<fails.length)=true:=decide_eq_true (by omega)
   have w3:decide ((fails.length:Int)>ofNat 0)=true:=decide_eq_true (by simp only [aF];omega)
   have w4:decide ((fails.length:Int)=0)=false:=decide_eq_false (by omega)
   simp only [w1,w2,w3,w4,cond_true,cond_false,g3]
   cases fails.getD (tmod r2.2.2.2.1 (fails.length:Int)).toNat (aa Sh.b)with
   |true=>
    obtain⟨t3,r3,hd3,hin,hlt3⟩:=two 4 (.inr ⟨rfl,hne0⟩)
    simp only [mk,cK]at hd3
    simp only [cond_true]
    rw [show eF ((ck2,nr2,nt2,nk2,ne2,ac2,rs2,es2,()),(ofNat 4,{data:= #[]},([],()),r2.2.1,r2.2.2.1,r2.2.2.2.1,ofNat 0,ofNat 0,()),())=some (t3,r3,())from hd3,bind_some]
    exact⟨t3,_,by simp only [Cq,length_append,length_singleton];try rfl,hin,hlt3⟩
   |false=>
    obtain⟨t3,r3,hd3,hin,hlt3⟩:=two 3 (.inl rfl)
    simp only [mk,cK]at hd3
    simp only [cond_false]
    rw [show eF ((ck2,nr2,nt2,nk2,ne2,ac2,rs2,es2,()),(ofNat 3,{data:= #[]},([],()),r2.2.1,r2.2.2.1,r2.2.2.2.1,ofNat 0,ofNat 0,()),())=some (t3,r3,())from hd3,bind_some]
    exact⟨t3,_,by simp only [Cq,length_append,length_singleton];try rfl,hin,hlt3⟩
  ·have w3:decide ((fails.length:Int)>ofNat 0)=false:=decide_eq_false (by simp only [aF];omega)
   simp only [w3,cond_false,g3,cond_true]
   obtain⟨t3,r3,hd3,hin,hlt3⟩:=two 3 (.inl rfl)
   simp only [mk,cK]at hd3
   rw [show eF ((ck2,nr2,nt2,nk2,ne2,ac2,rs2,es2,()),(ofNat 3,{data:= #[]},([],()),r2.2.1,r2.2.2.1,r2.2.2.2.1,ofNat 0,ofNat 0,()),())=some (t3,r3,())from hd3,bind_some]
   exact⟨t3,_,by simp only [Cq,length_append,length_singleton];try rfl,hin,hlt3⟩
theorem aaw:∀(m:Nat) (s:bB) (l:List bj),In72 J B K W0 rs0 s l→(W (bo s)).toNat≤m→∃e,fe (Cq fails s l)=some e∧aav J B K W0 rs0 e:=fun m=>by
 induction m with
 |zero=>
  intro s l hi hm
  rcases Mc fails J hJ B K W0 rs0 hK hB s l hi with⟨e,he,hE⟩|⟨t3,l3,he,hi3,hlt⟩
  ·exact⟨e,by rw [fe,cC,he],hE⟩
  ·have:0≤W (bo t3):=(mN hi3.ok.fine _ (Nat.le_refl _)).1
   omega
 |succ m ih=>
  intro s l hi hm
  rcases Mc fails J hJ B K W0 rs0 hK hB s l hi with⟨e,he,hE⟩|⟨t3,l3,he,hi3,hlt⟩
  ·exact⟨e,by rw [fe,cC,he],hE⟩
  ·have:0≤W (bo t3):=(mN hi3.ok.fine _ (Nat.le_refl _)).1
   obtain⟨e,h2,hE⟩:=ih t3 l3 hi3 (by omega)
   refine⟨e,?_,hE⟩
   rw [fe,cC,he]
   exact h2
end
abbrev RQ:Type:=VV
noncomputable def zK (y270:RQ):Option (bB×Int×Int×Unit):=(match y270 with| .inl a271=>some ((a271.2.2.2.2.2.2.2.2.2.1,a271.2.2.2.2.2.2.2.2.2.2.1,a271.2.2.2.2.2.2.2.2.2.2.2.1,a271.2.2.2.2.2.2.2.2.2.2.2.2.1,a271.2.2.2.2.2.2.2.2.2.2.2.2.2.1,a271.2.2.2.2.2.2.2.2.2.2.2.2.2.2.1,a271.2.2.2.2.2.2.2.2.2.2.2.2.2.2.2.1,a271.2.2.2.2.2.2.2.2.2.2.2.2.2.2.2.2.1,()),a271.1,ofNat 0,())| .inr b271=>(match b271 with| .inl a273=>some ((a273.2.1,a273.2.2.1,a273.2.2.2.1,a273.2.2.2.2.1,a273.2.2.2.2.2.1,a273.2.2.2.2.2.2.1,[],[],()),a273.1,ofNat 0,())| .inr b273=>(match b273 with| .inl a275=>some ((a275.2.1,a275.2.2.1,a275.2.2.2.1,a275.2.2.2.2.1,a275.2.2.2.2.2.1,a275.2.2.2.2.2.2.1,a275.2.2.2.2.2.2.2.1,a275.2.2.2.2.2.2.2.2.1,()),a275.1,ofNat 0,())| .inr b275=>(match b275 with| .inl a277=>some ((a277.2.2.2.2.2.2.2.2.2.1,a277.2.2.2.2.2.2.2.2.2.2.1,a277.2.2.2.2.2.2.2.2.2.2.2.1,a277.2.2.2.2.2.2.2.2.2.2.2.2.1,a277.2.2.2.2.2.2.2.2.2.2.2.2.2.1,a277.2.2.2.2.2.2.2.2.2.2.2.2.2.2.1,a277.2.2.2.2.2.2.2.2.2.2.2.2.2.2.2.1,a277.2.2.2.2.2.2.2.2.2.2.2.2.2.2.2.2.1,()),a277.1,ofNat 0,())| .inr b277=>(match b277 with| .inl a279=>bif decide (0+a279.2.2.2.2.2.2.2.1≤a279.2.2.2.2.2.2.2.2.1.length)then(some ((a279.2.1,a279.2.2.1,a279.2.2.2.1,a279.2.2.2.2.1,a279.2.2.2.2.2.1,a279.2.2.2.2.2.2.1,[],take a279.2.2.2.2.2.2.2.1 (drop 0 a279.2.2.2.2.2.2.2.2.1),()),a279.1,ofNat 0,()))else none| .inr b279=>(match b279 with| .inl a281=>bif decide (0+a281.2.2.2.2.2.2.2.1≤a281.2.2.2.2.2.2.2.2.1.length)then(some ((a281.2.1,a281.2.2.1,a281.2.2.2.1,a281.2.2.2.2.1,a281.2.2.2.2.2.1,a281.2.2.2.2.2.2.1,take a281.2.2.2.2.2.2.2.1 (drop 0 a281.2.2.2.2.2.2.2.2.1),[],()),a281.1,ofNat 0,()))else none| .inr b281=>(match b281 with| .inl a283=>some ((a283.2.2.2.2.2.2.2.2.2.1,a283.2.2.2.2.2.2.2.2.2.2.1,a283.2.2.2.2.2.2.2.2.2.2.2.1,a283.2.2.2.2.2.2.2.2.2.2.2.2.1,a283.2.2.2.2.2.2.2.2.2.2.2.2.2.1,a283.2.2.2.2.2.2.2.2.2.2.2.2.2.2.1,a283.2.2.2.2.2.2.2.2.2.2.2.2.2.2.2.1,a283.2.2.2.2.2.2.2.2.2.2.2.2.2.2.2.2.1,()),a283.1,ofNat 0,())| .inr b283=>bif decide (0+b283.2.2.2.2.2.2.2.1≤b283.2.2.2.2.2.2.2.2.2.1.length)then(bif decide (0+b283.2.2.2.2.2.2.2.2.1≤b283.2.2.2.2.2.2.2.2.2.2.1.length)then(some ((b283.2.1,b283.2.2.1,b283.2.2.2.1,b283.2.2.2.2.1,b283.2.2.2.2.2.1,b283.2.2.2.2.2.2.1,take b283.2.2.2.2.2.2.2.1 (drop 0 b283.2.2.2.2.2.2.2.2.2.1),take b283.2.2.2.2.2.2.2.2.1 (drop 0 b283.2.2.2.2.2.2.2.2.2.2.1),()),b283.1,ofNat 0,()))else none)else none)))))))
theorem f108 (s:bB):∃b,Nt (s,())=some (b,())∧(b=true↔Cap 1099511527776 s):=by
 refine⟨_,rfl,⟨fun h=> ?_,fun h=>decide_eq_true ?_⟩⟩
 ·have h:=of_decide_eq_true h
  simp only [aF]at h
  constructor<;>(split at h<;>split at h<;>split at h<;>omega)
 ·obtain⟨h1,h2,h3,h4⟩:=h
  simp only [aF]
  split<;>split<;>split<;>omega
section
variable (fails:List Bool) (J:List aj→Prop) (hJ:∀(s t t3:bB) (r r3:fj) (k:Int),SOk s→s.2.2.2.2.2.2.2.1= []→J (bo s)→vJ s cP t r→r.1=0→SOk t→Fresh t.2.1 t.2.2.1 t.2.2.2.1 t.2.2.2.2.1→(k=3∨(k=4∧fails≠ []))→vJ t (cK k r.2.1 r.2.2.1 r.2.2.2.1) t3 r3→J (bo t3))
 (hT:∀(s t:bB) (z:Int) (r:fj),SOk s→J (bo s)→vJ s (cT z) t r→J (bo t))
include hJ hT
theorem Ou {ck nr nt nk ne ac:Int} {rs:List aj} {es:List aC} (h:SOk (mk ck nr nt nk ne ac rs es)) (hj:J rs) {B:Int} (hc:Cap B (mk ck nr nt nk ne ac rs es)) (hW:W rs≤150) (hB:B+16000≤1099511627676):
  ∃t l,zq (mk ck nr nt nk ne ac rs es,fails,())=some (t,l,())∧SOk t∧W (bo t)≤W rs∧(1≤W rs→W (bo t)<W rs)∧(l.length:Int)≤4+3*(W rs-W (bo t))∧Cap (B+16*l.length) t∧J (bo t)∧Gb (bo t):=by
 obtain⟨r1,hd1,hok1⟩:=LX h
 obtain⟨z,hz,hz1,hz2,hz3⟩:=Ma hok1
 have hc1:Cap B (mk ck nr nt nk ne (ne-1) rs []):=⟨hc.nr,hc.nt,hc.nk,hc.ne⟩
 obtain⟨t2,r2,hd2,hok2,_,hst2,hle2,hor2,hlt2⟩:=TH hok1 (hc1.fresh (by omega)) hz1 hz2
 have hcap2:=Bs (ij hok1) hst2 (aK rfl) hc1
 have hw2:0≤W (bo t2):=(mN hok2.fine _ (Nat.le_refl _)).1
 have hj2:=hT (mk ck nr nt nk ne (ne-1) rs []) t2 z r2 hok1 hj hst2
 obtain⟨e,hL,s',l',h1,h2,h3,hin,hno⟩:=aaw fails J hJ B (2+3*W (bo t2)) (W (bo t2)) (bo t2) (by omega) (by omega) (W (bo t2)).toNat t2 ([cA (IntKind.i64.wrap (ne-ofNat 1))]++ [cT z]) ⟨hok2,hcap2.mono (by simp only [length_append,length_singleton];omega),by simp only [length_append,length_singleton];omega,.inr rfl,le_refl _,hj2⟩ (Nat.le_refl _)
 have hle:e.1≤(Mb e).length:=by rw [h1,h2];exact Nat.le_refl _
 have htk:take e.1 (drop 0 (Mb e))=l':=by rw [h1,h2,cX]
 refine⟨stE e,take e.1 (drop 0 (Mb e)),?_,?_⟩
 ·simp only [mk,cA,cT]at hd1 hd2 hz hL
  simp only [Mb]at hle
  simp only [zq,mk,hd1,bind_some,hz,hd2,bq,cg,Ot]
  rw [show fe _=some e from hL]
  simp only [bind_some,zero_add,decide_eq_true hle,cond_true]
 ·rw [htk,h3]
  obtain⟨i1,i2,i3,i4,i5,i6⟩:=hin
  refine⟨i1,by omega,fun hp=> ?_,by omega,i2,i6,hno⟩
  rcases i4 with i4|i4
  ·omega
  ·rcases hor2 with h|h
   ·omega
   ·rw [i4,h]at hno
    refine Classical.byContradiction fun hn=> ?_
    have hnp:pl rs z= []:=Classical.byContradiction fun c=>hn (by have:=hlt2 c;omega)
    have hng:∀n:Nat,n<rs.length→(rs.getD n (aa ab)).2.2.2.1≠1:=fun n hn1 hg=>by
     obtain⟨k,hk,hs⟩:=aaq (h.symm▸(hok1.fine.2.chk n hn1):ROk (rs.getD n (aa ab))) hg
     have h1:=hno n k hn1 hk
     exact hz3 hno n k hn1 hk (by simp only [bg,aN]at*;omega) hnp
    have:=LY hng
    omega
abbrev T36 (n w i:Int) (s:bB):=(fails,n,w,i,s.1,s.2.1,s.2.2.1,s.2.2.2.1,s.2.2.2.2.1,s.2.2.2.2.2.1,s.2.2.2.2.2.2.1,s.2.2.2.2.2.2.2.1,ofNat 0,ofNat 0,ofNat 0,ofNat 0,ofNat 0,ofNat 0,())
structure P36 (w i n:Int) (s:bB):Prop where
 ok:SOk s
 cap:Cap (1099511527776+16*n) s
 n0:0≤n
 n9:n+9*W (bo s)≤9*w
 wi:W (bo s)≤w-i
 w1:1≤W (bo s)
 i0:0≤i
 j:J (bo s)
abbrev Md (w:Int) (e:RQ):Prop:=∃t n,zK e=some (t,n,ofNat 0,())∧SOk t∧W (bo t)=0∧0≤n∧n≤9*w∧J (bo t)∧((1≤w→Gb (bo t)))
theorem zL {w i n:Int} (hw:w≤150) {ck nr nt nk ne ac:Int} {rs:List aj} {es:List aC} (h:P36 J w i n (mk ck nr nt nk ne ac rs es)):
  ∃t l b,zq (mk ck nr nt nk ne ac rs es,fails,())=some (t,l,())∧wK (t,())=some (b,())∧i<w∧IntKind.i64.wrap (n+(l.length:Int))=n+l.length∧IntKind.i64.wrap (i+ofNat 1)=i+1∧W (bo t)<W rs∧SOk t∧J (bo t)∧Gb (bo t)∧0≤n+(l.length:Int)∧n+(l.length:Int)≤9*w∧((b=true∧W (bo t)=0)∨(b=false∧P36 J w (i+1) (n+l.length) t)):=by
 obtain⟨ok,cap,n0,n9,wi,w1,i0,hj⟩:=h
 simp only [bo,mk]at n9 wi w1 hj
 obtain⟨t,l,hF,hok,hle,hlt,hl,hcap,hj2,hno⟩:=Ou fails J hJ hT ok hj cap (by omega) (by omega)
 obtain⟨b,hb,hbq⟩:=f73 t hok.fine.1
 have hlt:=hlt w1
 have hw0:0≤W (bo t):=(mN hok.fine _ (Nat.le_refl _)).1
 refine⟨t,l,b,hF,hb,by omega,by rw [IntKind.wrap_i64];omega,by rw [IntKind.wrap_i64];simp only [aF];omega,hlt,hok,hj2,hno,by omega,by omega,?_⟩
 cases b with
 |true=>exact .inl ⟨rfl,LY (hbq.1 rfl)⟩
 |false=>
  refine .inr ⟨rfl,hok,hcap.mono (by omega),by omega,by omega,by omega,?_,by omega,hj2⟩
  refine Classical.byContradiction fun hn=> ?_
  exact nomatch (hbq.2 fun n hn1 hg=>hn (RN hok.fine hn1 hg))
theorem Do (w:Int) (hw:w≤150):∀(m:Nat) (i n:Int) (s:bB),P36 J w i n s→(W (bo s)).toNat≤m→∃e,cj (.inr (.inl (T36 fails n w i s)))=some e∧Md J w e:=fun m=>by
 induction m with
 |zero=>
  intro i n s h hm
  have:=h.w1
  omega
 |succ m ih=>
  intro i n s h hm
  obtain⟨ck,nr,nt,nk,ne,ac,rs,es,_⟩:=s
  obtain⟨t,l,b,hF,hb,hi,e1,e2,hlt,hok,hj,hno,n1,n2,hq⟩:=zL fails J hJ hT hw h
  simp only [mk]at hF
  rw [cj,cC]
  rcases hq with⟨rfl,hz⟩|⟨rfl,hP⟩
  ·simp only [bU,mJ,lw,T36,decide_eq_true hi,cond_true,hF,hb,bind_some,e1]
   exact⟨_,rfl,t,n+l.length,rfl,hok,hz,n1,n2,hj,fun _=>hno⟩
  ·simp only [bU,mJ,lw,T36,decide_eq_true hi,cond_true,hF,hb,bind_some,e1,e2,cond_false]
   have h1:=hP.w1
   have hm2:(W rs).toNat≤m+1:=hm
   exact ih (i+1) (n+l.length) t hP (by omega)
theorem aax {ck nr nt nk ne ac:Int} {w:Int} (h:SOk (mk ck nr nt nk ne ac [] [])) (hj:J ([]:List aj)) (hc:Cap 1099511527776 (mk ck nr nt nk ne ac [] [])) (hw:W ([]:List aj)=w) (hw2:w≤150):
  ∃e,cj (.inl (fails,ofNat 0,w,ofNat 0,ck,nr,nt,nk,ne,ac,ofNat 0,ofNat 0,ofNat 0,ofNat 0,ofNat 0,ofNat 0,()))=some e∧Md J w e:=by
 have hw0:0≤W ([]:List aj):=(mN h.fine _ (Nat.le_refl _)).1
 rw [cj,cC]
 by_cases c:ofNat 0<w
 ·have hP:P36 J w (ofNat 0) (ofNat 0) (mk ck nr nt nk ne ac [] []):=⟨h,hc.mono (by simp only [aF];omega),le_refl _,by simp only [bo,mk,aF];omega,by simp only [bo,mk,aF];omega,by simp only [bo,mk,aF]at*;omega,le_refl _,hj⟩
  obtain⟨t,l,b,hF,hb,hi,e1,e2,hlt,hok,hj,hno,n1,n2,hq⟩:=zL fails J hJ hT hw2 hP
  simp only [mk]at hF
  rcases hq with⟨rfl,hz⟩|⟨rfl,hP⟩
  ·simp only [bU,iM,hZ,decide_eq_true c,cond_true,zero_add,Nat.le_refl,decide_true,cX,hF,hb,bind_some,e1]
   exact⟨_,rfl,t,ofNat 0+l.length,rfl,hok,hz,n1,n2,hj,fun _=>hno⟩
  ·simp only [bU,iM,hZ,decide_eq_true c,cond_true,zero_add,Nat.le_refl,decide_true,cX,hF,hb,bind_some,e1,e2,cond_false]
   exact Do fails J hJ hT w hw2 _ (ofNat 0+1) (ofNat 0+l.length) t hP (Nat.le_refl _)
 ·simp only [bU,iM,hZ,decide_eq_false c,cond_false]
  refine⟨_,rfl,mk ck nr nt nk ne ac [] [],ofNat 0,?_,h,by simp only [bo,mk,aF]at*;omega,le_refl _,by simp only [aF]at*;omega,hj,fun h1=>by simp only [aF]at*;omega⟩
  simp only [zK,zero_add,Nat.le_refl,decide_true,cond_true,cX]
theorem aay {ck nr nt nk ne ac:Int} {es:List aC} {w:Int} (h:SOk (mk ck nr nt nk ne ac [] es)) (hj:J ([]:List aj)) (hc:Cap 1099511527776 (mk ck nr nt nk ne ac [] es)) (hw:W ([]:List aj)=w) (hw2:w≤150):
  ∃e,cj (.inr (.inr (.inl (fails,ofNat 0,w,ofNat 0,ck,nr,nt,nk,ne,ac,es.length,es,ofNat 0,ofNat 0,ofNat 0,ofNat 0,ofNat 0,ofNat 0,()))))=some e∧Md J w e:=by
 have hw0:0≤W ([]:List aj):=(mN h.fine _ (Nat.le_refl _)).1
 rw [cj,cC]
 by_cases c:ofNat 0<w
 ·have hP:P36 J w (ofNat 0) (ofNat 0) (mk ck nr nt nk ne ac [] es):=⟨h,hc.mono (by simp only [aF];omega),le_refl _,by simp only [bo,mk,aF];omega,by simp only [bo,mk,aF];omega,by simp only [bo,mk,aF]at*;omega,le_refl _,hj⟩
  obtain⟨t,l,b,hF,hb,hi,e1,e2,hlt,hok,hj,hno,n1,n2,hq⟩:=zL fails J hJ hT hw2 hP
  simp only [mk]at hF
  rcases hq with⟨rfl,hz⟩|⟨rfl,hP⟩
  ·simp only [bU,iN,ic,decide_eq_true c,cond_true,zero_add,Nat.le_refl,decide_true,cX,hF,hb,bind_some,e1]
   exact⟨_,rfl,t,ofNat 0+l.length,rfl,hok,hz,n1,n2,hj,fun _=>hno⟩
  ·simp only [bU,iN,ic,decide_eq_true c,cond_true,zero_add,Nat.le_refl,decide_true,cX,hF,hb,bind_some,e1,e2,cond_false]
   exact Do fails J hJ hT w hw2 _ (ofNat 0+1) (ofNat 0+l.length) t hP (Nat.le_refl _)
 ·simp only [bU,iN,ic,decide_eq_false c,cond_false]
  refine⟨_,rfl,mk ck nr nt nk ne ac [] es,ofNat 0,?_,h,by simp only [bo,mk,aF]at*;omega,le_refl _,by simp only [aF]at*;omega,hj,fun h1=>by simp only [aF]at*;omega⟩
  simp only [zK,zero_add,Nat.le_refl,decide_true,cond_true,cX]
theorem aaz {ck nr nt nk ne ac:Int} {rs:List aj} {w:Int} (h:SOk (mk ck nr nt nk ne ac rs [])) (hj:J rs) (hc:Cap 1099511527776 (mk ck nr nt nk ne ac rs [])) (hw:W rs=w) (hw2:w≤150):
  ∃e,cj (.inr (.inr (.inr (.inl (fails,ofNat 0,w,ofNat 0,ck,nr,nt,nk,ne,ac,rs.length,rs,ofNat 0,ofNat 0,ofNat 0,ofNat 0,ofNat 0,ofNat 0,())))))=some e∧Md J w e:=by
 have hw0:0≤W rs:=(mN h.fine _ (Nat.le_refl _)).1
 rw [cj,cC]
 by_cases c:ofNat 0<w
 ·have hP:P36 J w (ofNat 0) (ofNat 0) (mk ck nr nt nk ne ac rs []):=⟨h,hc.mono (by simp only [aF];omega),le_refl _,by simp only [bo,mk,aF];omega,by simp only [bo,mk,aF];omega,by simp only [bo,mk,aF]at*;omega,le_refl _,hj⟩
  obtain⟨t,l,b,hF,hb,hi,e1,e2,hlt,hok,hj,hno,n1,n2,hq⟩:=zL fails J hJ hT hw2 hP
  simp only [mk]at hF
  rcases hq with⟨rfl,hz⟩|⟨rfl,hP⟩
  ·simp only [bU,iO,ig,decide_eq_true c,cond_true,zero_add,Nat.le_refl,decide_true,cX,hF,hb,bind_some,e1]
   exact⟨_,rfl,t,ofNat 0+l.length,rfl,hok,hz,n1,n2,hj,fun _=>hno⟩
  ·simp only [bU,iO,ig,decide_eq_true c,cond_true,zero_add,Nat.le_refl,decide_true,cX,hF,hb,bind_some,e1,e2,cond_false]
   exact Do fails J hJ hT w hw2 _ (ofNat 0+1) (ofNat 0+l.length) t hP (Nat.le_refl _)
 ·simp only [bU,iO,ig,decide_eq_false c,cond_false]
  refine⟨_,rfl,mk ck nr nt nk ne ac rs [],ofNat 0,?_,h,by simp only [bo,mk,aF]at*;omega,le_refl _,by simp only [aF]at*;omega,hj,fun h1=>by simp only [aF]at*;omega⟩
  simp only [zK,zero_add,Nat.le_refl,decide_true,cond_true,cX]
theorem aaA {ck nr nt nk ne ac:Int} {rs:List aj} {es:List aC} {w:Int} (h:SOk (mk ck nr nt nk ne ac rs es)) (hj:J rs) (hc:Cap 1099511527776 (mk ck nr nt nk ne ac rs es)) (hw:W rs=w) (hw2:w≤150):
  ∃e,cj (.inr (.inr (.inr (.inr (fails,ofNat 0,w,ofNat 0,ck,nr,nt,nk,ne,ac,rs.length,es.length,rs,es,ofNat 0,ofNat 0,ofNat 0,ofNat 0,ofNat 0,ofNat 0,())))))=some e∧Md J w e:=by
 have hw0:0≤W rs:=(mN h.fine _ (Nat.le_refl _)).1
 rw [cj,cC]
 by_cases c:ofNat 0<w
 ·have hP:P36 J w (ofNat 0) (ofNat 0) (mk ck nr nt nk ne ac rs es):=⟨h,hc.mono (by simp only [aF];omega),le_refl _,by simp only [bo,mk,aF];omega,by simp only [bo,mk,aF];omega,by simp only [bo,mk,aF]at*;omega,le_refl _,hj⟩
  obtain⟨t,l,b,hF,hb,hi,e1,e2,hlt,hok,hj,hno,n1,n2,hq⟩:=zL fails J hJ hT hw2 hP
  simp only [mk]at hF
  rcases hq with⟨rfl,hz⟩|⟨rfl,hP⟩
  ·simp only [bU,iP,ii,decide_eq_true c,cond_true,zero_add,Nat.le_refl,decide_true,cX,hF,hb,bind_some,e1]
   exact⟨_,rfl,t,ofNat 0+l.length,rfl,hok,hz,n1,n2,hj,fun _=>hno⟩
  ·simp only [bU,iP,ii,decide_eq_true c,cond_true,zero_add,Nat.le_refl,decide_true,cX,hF,hb,bind_some,e1,e2,cond_false]
   exact Do fails J hJ hT w hw2 _ (ofNat 0+1) (ofNat 0+l.length) t hP (Nat.le_refl _)
 ·simp only [bU,iP,ii,decide_eq_false c,cond_false]
  refine⟨_,rfl,mk ck nr nt nk ne ac rs es,ofNat 0,?_,h,by simp only [bo,mk,aF]at*;omega,le_refl _,by simp only [aF]at*;omega,hj,fun h1=>by simp only [aF]at*;omega⟩
  simp only [zK,zero_add,Nat.le_refl,decide_true,cond_true,cX]
theorem TI {ck nr nt nk ne ac:Int} {rs:List aj} {es:List aC} {w:Int} (h:SOk (mk ck nr nt nk ne ac rs es)) (hj:J rs) (hw:W rs=w) (hw2:w≤150):
  (¬Cap 1099511527776 (mk ck nr nt nk ne ac rs es)∧Hb (mk ck nr nt nk ne ac rs es,fails,w,())=some (zS,ofNat 0,ofNat 9,()))∨∃t n,Hb (mk ck nr nt nk ne ac rs es,fails,w,())=some (t,n,ofNat 0,())∧SOk t∧W (bo t)=0∧0≤n∧n≤9*w∧J (bo t)∧(1≤w→Gb (bo t)):=by
 obtain⟨v,hv,hc⟩:=gT (mk ck nr nt nk ne ac rs es) (by have:=h.fine.1;simp only [mk]at this⊢;omega) (Br h)
 obtain rfl:v=0:=by
  rcases hc with⟨h1,_⟩|⟨_,hc⟩
  ·exact h1
  ·exact absurd h hc
 have hw0:0≤W rs:=(mN h.fine _ (Nat.le_refl _)).1
 obtain⟨b,hb,hbq⟩:=f108 (mk ck nr nt nk ne ac rs es)
 cases b with
 |false=>
  have FC:Ha (mk ck nr nt nk ne ac rs es,())=some (ofNat 9,()):=by simp only [Ha,hv,hb,bind_some,jU,cond_false,Bool.not_false,cond_true]
  refine .inl ⟨fun hcap=>(nomatch hbq.2 hcap),?_⟩
  simp only [mk]at FC
  simp only [Hb,mk,FC,bind_some]
  rfl
 |true=>
  have FC:Ha (mk ck nr nt nk ne ac rs es,())=some (ofNat 0,()):=by simp only [Ha,hv,hb,bind_some,jU,cond_false,Bool.not_true]
  have hcap:=hbq.1 rfl
  have h25:=bf h
  refine .inr ?_
  simp only [mk]at FC h25
  simp only [Hb,mk,FC,h25,bind_some,Od,cond_false,decide_eq_false (show¬w<ofNat 0 by simp only [aF];omega),decide_eq_false (show¬w>ofNat 2000 by simp only [aF];omega)]
  cases rs with
  |nil=>
   cases es with
   |nil=>
    obtain⟨e,he,t,n,hf,hq⟩:=aax fails J hJ hT h hj hcap hw hw2
    simp only [isEmpty_nil,cond_true,he,bind_some]
    exact⟨t,n,hf,hq⟩
   |cons e0 es=>
    obtain⟨e,he,t,n,hf,hq⟩:=aay fails J hJ hT h hj hcap hw hw2
    simp only [isEmpty_nil,isEmpty_cons,cond_true,cond_false,he,bind_some]
    exact⟨t,n,hf,hq⟩
  |cons r0 rs=>
   cases es with
   |nil=>
    obtain⟨e,he,t,n,hf,hq⟩:=aaz fails J hJ hT h hj hcap hw hw2
    simp only [isEmpty_nil,isEmpty_cons,cond_true,cond_false,he,bind_some]
    exact⟨t,n,hf,hq⟩
   |cons e0 es=>
    obtain⟨e,he,t,n,hf,hq⟩:=aaA fails J hJ hT h hj hcap hw hw2
    simp only [isEmpty_cons,cond_false,he,bind_some]
    exact⟨t,n,hf,hq⟩
end
structure JW (rs0 rs:List aj):Prop where
 len:rs.length=rs0.length
 id:∀n:Nat,n<rs.length→(rs.getD n (aa ab)).1=(rs0.getD n (aa ab)).1
 st:∀n:Nat,n<rs.length→(rs.getD n (aa ab)).2.2.2.1=(rs0.getD n (aa ab)).2.2.2.1∨((rs0.getD n (aa ab)).2.2.2.1=1∧(rs.getD n (aa ab)).2.2.2.1=2)
 no:∀n k:Nat,n<rs.length→k<(aN rs n).length→((aN rs n).getD k (aa ae)).1≠2∧((aN rs n).getD k (aa ae)).1≠3
theorem aaB {rs0:List aj} (s t t3:bB) (r r3:fj) (k:Int) (h:SOk s) (he:s.2.2.2.2.2.2.2.1= []) (hj:JW rs0 (bo s)) (hst:vJ s cP t r) (h0:r.1=0) (ht:SOk t) (hf:Fresh t.2.1 t.2.2.1 t.2.2.2.1 t.2.2.2.2.1) (hk:k=3∨(k=4∧([]:List Bool)≠ [])) (hst3:vJ t (cK k r.2.1 r.2.2.1 r.2.2.2.1) t3 r3):JW rs0 (bo t3):=by
 obtain rfl:k=3:=by
  rcases hk with h|⟨_,h⟩
  ·exact h
  ·exact absurd rfl h
 obtain⟨ck,nr,nt,nk,ne,ac,rs,es,_⟩:=s
 simp only at he
 subst he
 have hsx:=ij h
 cases hst with
 |err n hw=>exact absurd h0 (aK rfl)
 |known n hk=>exact absurd hk (aK rfl)
 |new hk=>exact absurd hk (aK rfl)
 |complete n k r' rk' w hk=>exact absurd hk (aK rfl)
 |fail n k t' r' hk=>exact absurd hk (aK rfl)
 |beat n k un r' hk=>exact absurd hk (aK rfl)
 |cancel n r' hk=>exact absurd hk (aK rfl)
 |tick l d R nk' ne' w hk=>exact absurd hk (aK rfl)
 |query n hk=>exact absurd hk (aK rfl)
 |drain m hk=>exact absurd hk (aK rfl)
 |ack hk=>exact absurd hk (aK rfl)
 |poll n i un r' hk2 hf2 hn hil h1 hun hT=>
  have hro:=hsx.rok hn
  have hgo:=cO hro hil (show(bg (rs.getD n (aa ab)) i).1≤3 by have h1':(bg (rs.getD n (aa ab)) i).1=1:=h1;omega)
  have hnt:=hsx.ntI
  have hn':n<(rs.set n r').length:=by rw [length_set];exact hn
  have hself:(rs.set n r').getD n (aa ab)=r':=by rw [cH hn,if_pos rfl]
  have hro':ROk r':=by have:=ht.fine.2.chk n hn';rw [hself]at this;exact this
  have hts:r'.2.2.2.2.1=(aN rs n).set i (ofNat 2,((aN rs n).getD i (aa ae)).2.1+1,un,nt,ofNat 0,()):=by
   rcases hT.how with⟨h5,_⟩|⟨_,h,_⟩
   ·exact absurd h5 (aK rfl)
   ·exact h
  have hil':i<r'.2.2.2.2.1.length:=by rw [hT.len];exact hil
  have hti:r'.2.2.2.2.1.getD i (aa ae)=(ofNat 2,((aN rs n).getD i (aa ae)).2.1+1,un,nt,ofNat 0,()):=by rw [hts,bm hil,if_pos rfl]
  have hgo':=cO hro' hil' (show(bg r' i).1≤3 by show(r'.2.2.2.2.1.getD i (aa ae)).1≤3;rw [hti];exact(by decide:(ofNat 2:Int)≤3))
  have hrk:kh nk:=by have:=hsx.nkI;have:=hf.nk;simp only [dO]at this;unfold bV at*;exact⟨by omega,by omega⟩
  have hst0:(rs0.getD n (aa ab)).2.2.2.1=1:=by
   have hjs:=hj.st n hn
   simp only [bo]at hjs
   rcases hjs with h|⟨h,_⟩
   ·rw [←h];exact hgo
   ·exact h
  have hold:iH (bK ((rs.set n r').getD n (aa ab)) i) ((aN (rs.set n r') n).getD i (aa ae)) nt:=by
   simp only [aN,bK]
   rw [hself]
   refine⟨hro'.tks i hil',by omega,⟨by omega,by omega⟩,?_,?_⟩
   ·rw [hti];rfl
   ·rw [hti];rfl
  cases hst3 with
  |err m hw=>exact absurd hold fun hh=>hw.2.1 rfl hf (Nat.zero_le 38) n i hn' (by rw [hself];exact hT.id) rfl (by simp only [aN];rw [hself];exact hil') hrk hh
  |known n hk=>exact absurd hk (aK rfl)
  |new hk=>exact absurd hk (aK rfl)
  |poll n k un r' hk=>exact absurd hk (aK rfl)
  |fail n k t' r' hk=>exact absurd hk (aK rfl)
  |beat n k un r' hk=>exact absurd hk (aK rfl)
  |cancel n r' hk=>exact absurd hk (aK rfl)
  |tick l d R nk' ne' w hk=>exact absurd hk (aK rfl)
  |query n hk=>exact absurd hk (aK rfl)
  |drain m hk=>exact absurd hk (aK rfl)
  |ack hk=>exact absurd hk (aK rfl)
  |complete n2 k2 r2 rk' w hk3 hf3 hn2 hid2 hi2 hkl2 hrk2 hh2 hC hw2=>
   have hid2:((rs.set n r').getD n2 (aa ab)).1=(rs.getD n (aa ab)).1:=hid2
   obtain rfl:n2=n:=by
    rcases lt_trichotomy n2 n with c|c|c
    ·have:=ht.fine.2.up n2 n c hn'
     rw [hself,hT.id]at this
     have hid2:(getD (rs.set n r') n2 (aa ab)).1=(rs.getD n (aa ab)).1:=hid2
     simp only [dO]at this
     omega
    ·exact c
    ·have:=ht.fine.2.up n n2 c hn2
     rw [hself,hT.id]at this
     have hid2:(getD (rs.set n r') n2 (aa ab)).1=(rs.getD n (aa ab)).1:=hid2
     simp only [dO]at this
     omega
   have hi2:(i:Int)=k2:=hi2
   obtain rfl:i=k2:=by omega
   rw [hself]at hC
   obtain⟨hok2,hop⟩:=jW (tk:=nt) hro' hgo' hil' hrk2 (by simp only [aN,bK]at hold;rw [hself]at hold;exact hold) hC
   have hget:∀m:Nat,((rs.set n2 r').set n2 r2).getD m (aa ab)=if m=n2 then r2 else rs.getD m (aa ab):=fun m=>by
    rw [cH hn',cH hn]
    split<;>rfl
   show JW rs0 ((rs.set n2 r').set n2 r2)
   refine⟨by rw [length_set,length_set];exact hj.len,fun m hm=> ?_,fun m hm=> ?_,fun m k hm hk=> ?_⟩
   ·rw [length_set,length_set]at hm
    rw [hget]
    split
    ·next e=>subst e;rw [hC.id,hT.id];exact hj.id m hm
    ·exact hj.id m hm
   ·rw [length_set,length_set]at hm
    rw [hget]
    split
    ·next e=>
     subst e
     rcases hC.st with⟨_,h⟩|⟨_,h⟩
     ·exact .inr ⟨hst0,h⟩
     ·left;rw [h,hst0]
    ·exact hj.st m hm
   ·rw [length_set,length_set]at hm
    simp only [aN]at hk⊢
    rw [hget]at hk⊢
    split
    ·next e=>
     subst e
     rw [if_pos rfl,hC.len]at hk
     have hset:=bm hil' (ofNat 4,(bg r' i).2.1,ofNat 0,ofNat 0,ofNat 0,()) k
     rcases hop.is k (by rw [length_set];exact hk)with⟨_,h⟩|⟨_,ρ,h,_⟩
     ·simp only at h
      rw [h,hset]
      split
      ·exact⟨aK rfl,aK rfl⟩
      ·next e=>
       rw [hts,bm hil,if_neg e]
       exact hj.no m k hm (by rw [hT.len]at hk;exact hk)
     ·simp only at h
      rw [h]
      exact⟨aK rfl,aK rfl⟩
    ·next e=>
     rw [if_neg e]at hk
     exact hj.no m k hm hk
theorem TJ {rs0:List aj} (s t:bB) (z:Int) (r:fj) (h:SOk s) (hj:JW rs0 (bo s)) (hst:vJ s (cT z) t r):JW rs0 (bo t):=by
 obtain⟨ck,nr,nt,nk,ne,ac,rs,es,_⟩:=s
 cases hst with
 |err n hw=>exact hj
 |known n hk=>exact absurd hk (aK rfl)
 |new hk=>exact absurd hk (aK rfl)
 |poll n k un r' hk=>exact absurd hk (aK rfl)
 |complete n k r' rk' w hk=>exact absurd hk (aK rfl)
 |fail n k t' r' hk=>exact absurd hk (aK rfl)
 |beat n k un r' hk=>exact absurd hk (aK rfl)
 |cancel n r' hk=>exact absurd hk (aK rfl)
 |query n hk=>exact absurd hk (aK rfl)
 |drain m hk=>exact absurd hk (aK rfl)
 |ack hk=>exact absurd hk (aK rfl)
 |tick l d R nk' ne' w hk hf h1 h2 hl hs hN=>
  have hp:pl rs z= []:=List.eq_nil_iff_forall_not_mem.2 fun p hp=>by
   obtain⟨a,j,ha,hja,hd,_⟩:=FJ hp
   have h1:=hj.no a j ha hja
   have h2:=(oO hd).1
   simp only [aN,bo]at h1
   omega
  have hl:l.Perm (pl rs z):=hl
  rw [hp]at hl
  obtain rfl:=hl.eq_nil
  rw [show min 16 ([]:List bY).length=0 from rfl]at hN
  cases hN
  exact hj
abbrev Ge (rs:List aj) (n:Nat):Prop:=∀k:Nat,k<(rs.getD n (aa ab)).2.2.2.2.1.length→((rs.getD n (aa ab)).2.2.2.2.1.getD k (aa ae)).1≠2∧((rs.getD n (aa ab)).2.2.2.2.1.getD k (aa ae)).1≠3
section
variable (w ck nr nt nk ne ac:Int) (rs:List aj) (es:List aC)
theorem l8b (i:Nat) (hi:i<rs.length) (hl:(rs.getD i (aa ab)).2.2.2.2.1.length≤12):
  ∃y,rA (w,(i:Int),ofNat 0,ck,nr,nt,nk,ne,ac,rs,es,())=some y∧((∃z,y= .inl (true,z))∨(y= .inr (w,(i:Int),ck,nr,nt,nk,ne,ac,rs,es,())∧Ge rs i)):=by
 obtain⟨y,hy,hq⟩:=ba (st:=iE) (rs.getD i (aa ab)).2.2.2.2.1.length (fun k (_:Unit)=>(w,(i:Int),(k:Int),ck,nr,nt,nk,ne,ac,rs,es,())) (fun k _=>∀j:Nat,j<k→((rs.getD i (aa ab)).2.2.2.2.1.getD j (aa ae)).1≠2∧((rs.getD i (aa ab)).2.2.2.2.1.getD j (aa ae)).1≠3)
  (fun y=>(∃z,y= .inl (true,z))∨(y= .inr (w,(i:Int),ck,nr,nt,nk,ne,ac,rs,es,())∧Ge rs i)) (fun k _ h hx=>by
   simp only [iE,oE,mL,aP hi,aH hi,bz h,aP h,aH h,cond_true,toNat_natCast]
   by_cases c2:((rs.getD i (aa ab)).2.2.2.2.1.getD k (aa ae)).1=2
   ·rw [show(((rs.getD i (aa ab)).2.2.2.2.1.getD k (aa ae)).1==ofNat 2)=true from by simpa using c2,cond_true]
    exact .inr ⟨_,rfl,.inl ⟨_,rfl⟩⟩
   ·rw [show(((rs.getD i (aa ab)).2.2.2.2.1.getD k (aa ae)).1==ofNat 2)=false from by simpa using c2,cond_false]
    by_cases c3:((rs.getD i (aa ab)).2.2.2.2.1.getD k (aa ae)).1=3
    ·rw [show(((rs.getD i (aa ab)).2.2.2.2.1.getD k (aa ae)).1==ofNat 3)=true from by simpa using c3,cond_true]
     exact .inr ⟨_,rfl,.inl ⟨_,rfl⟩⟩
    ·rw [show(((rs.getD i (aa ab)).2.2.2.2.1.getD k (aa ae)).1==ofNat 3)=false from by simpa using c3,cond_false,aX (by omega)]
     exact .inl ⟨(),rfl,dm hx ⟨c2,c3⟩⟩) (fun _ hx=>⟨_,by simp only [iE,oE,mL,aP hi,aH hi,toNat_natCast,bu,cond_true,cond_false],.inr ⟨rfl,hx⟩⟩) () (fun n h=>absurd h (not_lt_zero _))
 exact⟨y,hy,hq⟩
theorem l8a (hn:rs.length≤32) (hl:∀i:Nat,i<rs.length→(rs.getD i (aa ab)).2.2.2.2.1.length≤12):
  ∃y,rB (w,ofNat 0,ck,nr,nt,nk,ne,ac,rs,es,())=some y∧((∃z,y= .inl (true,z))∨(y= .inr (w,ck,nr,nt,nk,ne,ac,rs,es,())∧∀n:Nat,n<rs.length→Ge rs n)):=by
 obtain⟨y,hy,hq⟩:=ba (st:=iF) rs.length (fun i (_:Unit)=>(w,(i:Int),ck,nr,nt,nk,ne,ac,rs,es,())) (fun i _=>∀j:Nat,j<i→Ge rs j)
  (fun y=>(∃z,y= .inl (true,z))∨(y= .inr (w,ck,nr,nt,nk,ne,ac,rs,es,())∧∀n:Nat,n<rs.length→Ge rs n)) (fun i _ h hx=>by
   obtain⟨y,hy,hq⟩:=l8b w ck nr nt nk ne ac rs es i h (hl i h)
   simp only [iF,oF,bz h,cond_true,hy,bind_some]
   rcases hq with⟨z,rfl⟩|⟨rfl,ho⟩
   ·exact .inr ⟨_,rfl,.inl ⟨_,rfl⟩⟩
   ·simp only
    rw [aX (by omega)]
    exact .inl ⟨(),rfl,dm hx ho⟩) (fun _ hx=>⟨_,by simp only [iF,oF,bu,cond_false],.inr ⟨rfl,hx⟩⟩) () (fun n h=>absurd h (not_lt_zero _))
 exact⟨y,hy,hq⟩
theorem l8c (ck2 nr2 nt2 nk2 ne2 ac2:Int) (rs2:List aj) (es2:List aC) (hn:rs.length≤32) (hl:rs2.length=rs.length) (h:∀n:Nat,n<rs.length→(rs2.getD n (aa ab)).1=(rs.getD n (aa ab)).1∧((rs.getD n (aa ab)).2.2.2.1=1→(rs2.getD n (aa ab)).2.2.2.1=2)∧((rs.getD n (aa ab)).2.2.2.1≠1→(rs2.getD n (aa ab)).2.2.2.1=(rs.getD n (aa ab)).2.2.2.1)):
  ∃z,rz (ofNat 0,ck,nr,nt,nk,ne,ac,rs,es,ck2,nr2,nt2,nk2,ne2,ac2,rs2,es2,())=some (.inr z):=by
 obtain⟨y,hy,z,rfl⟩:=ba (st:=iD) rs.length (fun i (_:Unit)=>((i:Int),ck,nr,nt,nk,ne,ac,rs,es,ck2,nr2,nt2,nk2,ne2,ac2,rs2,es2,())) (fun i _=>True) (fun y=>∃z,y= .inr z) (fun i _ hi hx=>by
   have hi2:i<rs2.length:=by omega
   obtain⟨h1,h2,h3⟩:=h i hi
   have e1:((rs2.getD i (aa ab)).1 !=(rs.getD i (aa ab)).1)=false:=by rw [h1];simp
   simp only [iD,oD,mK,bz hi,aP hi,aH hi,aP hi2,aH hi2,cond_true,toNat_natCast,e1,cond_false]
   rw [aX (by omega)]
   by_cases c:(rs.getD i (aa ab)).2.2.2.1=1
   ·rw [show((rs.getD i (aa ab)).2.2.2.1==ofNat 1)=true from by simpa using c,cond_true,show((rs2.getD i (aa ab)).2.2.2.1 !=ofNat 2)=false from by rw [h2 c];rfl,cond_false]
    exact .inl ⟨(),rfl,trivial⟩
   ·rw [show((rs.getD i (aa ab)).2.2.2.1==ofNat 1)=false from by simpa using c,cond_false,show((rs2.getD i (aa ab)).2.2.2.1 !=(rs.getD i (aa ab)).2.2.2.1)=false from by rw [h3 c];simp,cond_false]
    exact .inl ⟨(),rfl,trivial⟩) (fun _ hx=>⟨_,by simp only [iD,oD,mK,bu,cond_false];rfl,_,rfl⟩) () trivial
 exact⟨z,hy⟩
end
theorem f35 (s:bB) (fails:List Bool) (hl:s.2.2.2.2.2.2.1.length≤9223372036854775807) (hr:∀r∈s.2.2.2.2.2.2.1,r.2.2.1.1.length≤9223372036854775807):∃b,PL (s,fails,())=some (b,()):=by
 obtain⟨b,hb⟩:=f21 s hl hr
 simp only [PL,hb,bind_some]
 cases b with
 |true=>exact⟨_,rfl⟩
 |false=>
  simp only [cond_false]
  cases decide (((fails.length:Nat):Int)>ofNat 1000)with
  |true=>exact⟨_,rfl⟩
  |false=>
   simp only [cond_false]
   cases decide (((s.2.2.2.2.2.2.1.length:Nat):Int)>ofNat 8)with
   |true=>exact⟨_,rfl⟩
   |false=>exact⟨_,rfl⟩
theorem f8 (s:bB) (hm:s.2.2.2.2.2.2.1.length≤9223372036854775807) (hr:∀r∈s.2.2.2.2.2.2.1,bH r) (hrn:∀r∈s.2.2.2.2.2.2.1,r.2.2.1.1.length≤9223372036854775807):F8 (s,())=some (true,()):=by
 obtain⟨b1,hb1⟩:=f35 s [] hm hrn
 obtain⟨v,hv,hc⟩:=gT s hm hr
 simp only [F8,alive,hb1,bind_some]
 cases b1 with
 |true=>rfl
 |false=>
 simp only [cond_false,Bool.not_true]
 rcases hc with⟨rfl,h⟩|⟨⟨n,rfl⟩,_⟩
 ·obtain⟨ck,nr,nt,nk,ne,ac,rs,es,_⟩:=s
  have FB:tG (mk ck nr nt nk ne ac rs es,())=some (W rs,ofNat 0,()):=f22 h
  simp only [mk]at FB
  have hw0:0≤W rs:=(mN h.fine _ (Nat.le_refl _)).1
  obtain⟨w,hw⟩:∃w,W rs=w:=⟨_,rfl⟩
  rw [hw]at FB
  rw [hw]at hw0
  simp only [FB,bind_some,Od,cond_false]
  by_cases c:w>ofNat 150
  ·rw [decide_eq_true c,cond_true]
  rw [decide_eq_false c,cond_false]
  have h32:rs.length≤32:=h.fine.1
  obtain⟨y,hy,hq⟩:=l8a w ck nr nt nk ne ac rs es h32 (fun i hi=>by
   have hro:ROk (rs.getD i (aa ab)):=h.fine.2.chk i hi
   have h1:=hro.len
   have h2:=hro.dag.1.2
   omega)
  simp only [hy,bind_some]
  rcases hq with⟨z,rfl⟩|⟨rfl,ho⟩
  ·rfl
  simp only
  have hj0:JW rs rs:=⟨rfl,fun _ _=>rfl,fun _ _=>.inl rfl,fun n k hn hk=>ho n hn k hk⟩
  rcases TI [] (JW rs) aaB TJ h hj0 hw (by simp only [aF]at c;omega)with⟨_,hp⟩|⟨t,n,hp,hok,hz,n0,n9,hj,_⟩
  ·simp only [mk]at hp
   simp only [hp,bind_some]
   rfl
  ·simp only [mk]at hp
   obtain⟨ck2,nr2,nt2,nk2,ne2,ac2,rs2,es2,_⟩:=t
   have hlen:rs2.length=rs.length:=hj.len
   have hln:(((rs2.length:Nat):Int) !=((rs.length:Nat):Int))=false:=by rw [hlen];simp
   have hng:∀n:Nat,n<rs2.length→(rs2.getD n (aa ab)).2.2.2.1≠1:=fun n hn hg=>by
    have h1:=RN hok.fine hn hg
    have h2:W rs2=0:=hz
    simp only at h1
    omega
   obtain⟨z,hL⟩:=l8c ck nr nt nk ne ac rs es ck2 nr2 nt2 nk2 ne2 ac2 rs2 es2 h32 hlen (fun n hn=>by
    have hn2:n<rs2.length:=by omega
    have h1:(rs2.getD n (aa ab)).1=(rs.getD n (aa ab)).1:=hj.id n hn2
    have h2:(rs2.getD n (aa ab)).2.2.2.1=(rs.getD n (aa ab)).2.2.2.1∨((rs.getD n (aa ab)).2.2.2.1=1∧(rs2.getD n (aa ab)).2.2.2.1=2):=hj.st n hn2
    have h3:=hng n hn2
    exact⟨h1,fun e=>by omega,fun e=>by omega⟩)
   simp only [hp,bind_some,Od,hln,hL,cond_false]
 ·have c0:(ofNat (n+1) !=ofNat 0)=true:=by simp;omega
  have FB:tG (s,())=some (ofNat 0,ofNat (n+1),()):=by simp only [tG,hv,bind_some,c0,cond_true]
  simp only [FB,bind_some,c0,cond_true]
theorem pure:∀x:aL (.cons co .nil),rL (.cons co .nil) x→∃y,F8 x=some y∧y.1=true:=by
 intro x hx
 obtain⟨s,_⟩:=x
 obtain⟨⟨_,_,_,_,_,_,⟨hm,hrs⟩,_,_⟩,_⟩:=hx
 exact⟨_,f8 s hm (fun r h=>(RK (hrs r h)).1) (fun r h=>(RK (hrs r h)).2),rfl⟩
end Go.Proofs.YtbkjflfbgknagaaGreat.fairWell.Code
