import Derived.Test.YtbkjflfbgknagaaGreatPureModelStays0
set_option maxRecDepth 100000
set_option linter.unusedVariables false
set_option linter.unusedSimpArgs false
set_option linter.constructorNameAsVariable false
namespace Go.Proofs.YtbkjflfbgknagaaGreat.modelStays.Code
open Go Go.Am
open List (length_set getD_eq_getElem?_getD replicate length_append length_singleton append_nil length_drop take take_of_length_le isEmpty isEmpty_nil length_cons length_nil drop_zero drop getD isEmpty_cons take_length not_mem_nil)
open Option (bind_some)
open Int (ofNat le_refl natCast_nonneg toNat_natCast)
open Nat (not_lt_zero zero_add sub_zero)
abbrev tkA (r:Run) (j:Nat):Task:=r.2.2.2.2.1.getD j (dft sTask)
abbrev ndA (r:Run) (j:Nat):Node:=r.2.2.1.1.getD j (dft sNode)
theorem neD {a b:Int} (h:decide (a=b)=false):¬a=b:=of_decide_eq_false h
theorem in0:InC (ofNat 0):=by decide
theorem tkt_dr {nd:Node} {t:Task} (h:TkT nd t):TkT nd (dr t):=
 ⟨h.1,in0,in0,in0,fun h=>absurd rfl h,fun h=>absurd rfl h,⟨fun h=>absurd rfl h,fun h=>absurd h (neD rfl)⟩,.inr (.inr (.inr (.inr (.inr (.inr rfl)))))⟩
theorem tkt_st {nd:Node} {t:Task} (h:TkT nd t):0≤t.1∧t.1≤6:=by
 obtain⟨_,_,_,_,_,_,_,h⟩:=h
 omega
theorem met_congr {A B:List Task} {nd:Node} (h:∀j:Nat,(A.getD j (dft sTask)).1=4↔(B.getD j (dft sTask)).1=4):MetP A nd↔MetP B nd:=
 ⟨fun h2 v hv=>(h _).1 (h2 v hv),fun h2 v hv=>(h _).2 (h2 v hv)⟩
theorem mem_is {l:List Task} {t:Task} (h:t∈l):∃j:Nat,j<l.length∧l.getD j (dft sTask)=t:=by
 obtain⟨j,hj,rfl⟩:=List.getElem_of_mem h
 exact⟨j,hj,getD_get hj _⟩
theorem goes_of {r:Run} (h:ROk r) {k:Nat} (hk:k<r.2.2.2.2.1.length) (hs:(tkA r k).1≤3):r.2.2.2.1=1:=by
 have hm:=getD_mem hk (dft sTask)
 unfold tkA at hs
 rcases h.st with⟨h1,_⟩|⟨_,h2⟩|⟨_,_,h2⟩|⟨_,_,h2⟩
 ·exact h1
 ·have:=h2 _ hm;omega
 ·have:=h2 _ hm;omega
 ·have:=h2 _ hm;omega
theorem drp_tks {ns:List Node} {ts ts':List Task} (hl:ts.length=ns.length) (ht:∀i:Nat,i<ts.length→TkT (ns.getD i (dft sNode)) (ts.getD i (dft sTask))) (h:DrpOk ns ts ts'):∀i:Nat,i<ts'.length→TkT (ns.getD i (dft sNode)) (ts'.getD i (dft sTask))∧((ts'.getD i (dft sTask)).1=4∨(ts'.getD i (dft sTask)).1=5∨(ts'.getD i (dft sTask)).1=6):=fun i hi=>by
 rw [h.1]at hi
 rcases h.2 i hi with⟨h1,h2⟩|⟨h1,h2⟩
 ·rw [h2]
  refine⟨ht i hi,?_⟩
  by_cases c4:(ts.getD i (dft sTask)).1=4
  ·exact .inl c4
  by_cases c5:(ts.getD i (dft sTask)).1=5
  ·exact .inr (.inl c5)
  by_cases c6:(ts.getD i (dft sTask)).1=6
  ·exact .inr (.inr c6)
  exact absurd ⟨ht i hi,c4,c5,c6⟩ h1
 ·rw [h2]
  exact⟨tkt_dr h1.1,.inr (.inr rfl)⟩
theorem turn_rok {r r':Run} {k:Nat} {t':Task} (h:ROk r) (h1:r.2.2.2.1=1) (hk:k<r.2.2.2.2.1.length) (h0:(tkA r k).1≠0) (h4:(tkA r k).1≠4) (ht:TkT (ndA r k) t') (n0:t'.1≠0) (n4:t'.1≠4) (n6:t'.1≠6) (hT:Turn r k t' r'):ROk r':=by
 obtain⟨id,key,⟨ns,_⟩,st,ts,_⟩:=r
 obtain⟨id',key',ns',st',ts',_⟩:=r'
 obtain⟨e1,e2,e3,e4,_,how⟩:=hT
 simp only at e1 e2 e3 e4 how h1 hk
 subst e1 e2 e3 h1
 obtain⟨q1,q2,q3,q4,q5,q6⟩:=h
 simp only at q1 q2 q3 q4 q5 q6
 simp only [tkA,ndA]at h0 h4 ht
 have hset:∀i:Nat,i<(ts.set k t').length→TkT (ns.getD i (dft sNode)) ((ts.set k t').getD i (dft sTask)):=fun i hi=>by
  rw [length_set]at hi
  rw [getD_set_eq hk]
  split
  ·rename_i c;rw [c];exact ht
  ·exact q5 i hi
 rcases how with⟨c5,rfl,hd⟩|⟨c5,rfl,how⟩
 ·have hts:=drp_tks (by rw [length_set];exact q4) hset hd
  refine⟨q1,q2,q3,by simp only;omega,fun i hi=>(hts i hi).1,.inr (.inr (.inl ⟨rfl,⟨t',?_,c5⟩,mem_getD fun i hi=>(hts i hi).2⟩))⟩
  rcases hd.2 k (by rw [length_set];exact hk)with⟨_,h2⟩|⟨h2,_⟩
  ·rw [getD_set_eq hk,if_pos rfl]at h2
   rw [←h2]
   exact getD_mem (by rw [hd.1,length_set];exact hk) _
  ·rw [getD_set_eq hk,if_pos rfl]at h2
   exact absurd c5 h2.2.2.1
 ·have hmem:t'∈ts.set k t':=List.mem_set hk t'
  rcases how with⟨h2,_⟩|⟨h2,rfl⟩
  ·exact absurd (h2 t' hmem) n4
  ·rcases q6 with⟨_,hm,_,hn⟩|⟨h3,_⟩|⟨h3,_⟩|⟨h3,_⟩
   ·refine⟨q1,q2,q3,by simp only;rw [length_set];exact q4,hset,.inl ⟨rfl,fun i hi=> ?_,h2,fun⟨t,ht,h5⟩=> ?_⟩⟩
    ·rw [met_congr (B:=ts) fun j=>by
      rw [getD_set_eq hk]
      split
      ·rename_i c;rw [c];exact⟨fun h=>absurd h n4,fun h=>absurd h h4⟩
      ·exact Iff.rfl]
     rw [hm i hi,getD_set_eq hk]
     split
     ·rename_i c;rw [c];exact⟨fun _=>n0,fun _=>h0⟩
     ·exact Iff.rfl
    ·rcases List.mem_or_eq_of_mem_set ht with h6|rfl
     ·exact hn ⟨t,h6,h5⟩
     ·omega
   ·exact absurd h3 (neD rfl)
   ·exact absurd h3 (neD rfl)
   ·exact absurd h3 (neD rfl)
theorem cancel_rok {r r':Run} (h:ROk r) (h1:r.2.2.2.1=1) (e1:r'.1=r.1) (e2:r'.2.1=r.2.1) (e3:r'.2.2.1=r.2.2.1) (e4:r'.2.2.2.1=4) (hd:DrpOk r.2.2.1.1 r.2.2.2.2.1 r'.2.2.2.2.1):ROk r':=by
 obtain⟨id,key,⟨ns,_⟩,st,ts,_⟩:=r
 obtain⟨id',key',ns',st',ts',_⟩:=r'
 simp only at e1 e2 e3 e4 hd h1
 subst e1 e2 e3 e4 h1
 obtain⟨q1,q2,q3,q4,q5,q6⟩:=h
 simp only at q1 q2 q3 q4 q5 q6
 have hts:=drp_tks q4 q5 hd
 rcases q6 with⟨_,hm,h4,hn⟩|⟨h3,_⟩|⟨h3,_⟩|⟨h3,_⟩
 ·refine⟨q1,q2,q3,by rw [←q4];exact hd.1,fun i hi=>(hts i hi).1,.inr (.inr (.inr ⟨rfl,?_,mem_getD fun i hi=> ?_⟩))⟩
  ·obtain⟨k,hk,h5⟩:∃k:Nat,k<ts.length∧(ts.getD k (dft sTask)).1≠4:=Classical.byContradiction fun hc=>h4 (mem_getD fun j hj=>Classical.byContradiction fun h=>hc ⟨j,hj,h⟩)
   have hk':k<ts'.length:=by rw [hd.1];exact hk
   refine⟨_,getD_mem hk' (dft sTask),?_⟩
   rcases hd.2 k hk with⟨_,h2⟩|⟨_,h2⟩
   ·rw [h2]
    have h6:=(hts k hk').2
    rw [h2]at h6
    have:¬(ts.getD k (dft sTask)).1=5:=fun h=>hn ⟨_,getD_mem hk _,.inl h⟩
    omega
   ·rw [h2];rfl
  ·have h6:=(hts i hi).2
   rw [hd.1]at hi
   rcases hd.2 i hi with⟨_,h2⟩|⟨_,h2⟩
   ·rw [h2]at h6⊢
    have:¬(ts.getD i (dft sTask)).1=5:=fun h=>hn ⟨_,getD_mem hi _,.inl h⟩
    omega
   ·rw [h2];exact .inr rfl
 ·exact absurd h3 (neD rfl)
 ·exact absurd h3 (neD rfl)
 ·exact absurd h3 (neD rfl)
structure OpnP (ns:List Node) (rk:Int) (ts:List Task) (j:Nat) (S:Int×List Task):Prop where
 lo:rk≤S.1
 hi:S.1≤rk+j
 len:S.2.length=ts.length
 is:∀i:Nat,i<ts.length→(¬(i<j∧(ts.getD i (dft sTask)).1=0∧MetP ts (ns.getD i (dft sNode)))∧S.2.getD i (dft sTask)=ts.getD i (dft sTask))∨((i<j∧(ts.getD i (dft sTask)).1=0∧MetP ts (ns.getD i (dft sNode)))∧∃ρ:Int,S.2.getD i (dft sTask)=(ofNat 1,ofNat 0,ofNat 0,ofNat 0,ρ,())∧rk≤ρ∧ρ<S.1)
 up:∀i i':Nat,i<i'→i'<ts.length→(ts.getD i (dft sTask)).1=0→(S.2.getD i (dft sTask)).1=1→(ts.getD i' (dft sTask)).1=0→(S.2.getD i' (dft sTask)).1=1→rnk (S.2.getD i (dft sTask))<rnk (S.2.getD i' (dft sTask))
theorem OpnP.four {ns:List Node} {rk:Int} {ts:List Task} {j:Nat} {S:Int×List Task} (h:OpnP ns rk ts j S) (i:Nat):(S.2.getD i (dft sTask)).1=4↔(ts.getD i (dft sTask)).1=4:=by
 by_cases hi:i<ts.length
 ·rcases h.is i hi with⟨_,h2⟩|⟨⟨_,h0,_⟩,ρ,h2,_⟩
  ·rw [h2]
  ·rw [h2,h0];exact⟨fun h=>absurd h (neD rfl),fun h=>absurd h (neD rfl)⟩
 ·have h1:S.2.length≤i:=by have:=h.len;omega
  rw [getD_eq_getElem?_getD,List.getElem?_eq_none h1,getD_eq_getElem?_getD,List.getElem?_eq_none (by omega)]
theorem opn_is {ns:List Node} {rk:Int} {ts:List Task} (hl:ts.length=ns.length) (h0:0≤rk) (h1:rk+ns.length≤1099511627776) (ht:∀i:Nat,i<ts.length→TkT (ns.getD i (dft sNode)) (ts.getD i (dft sTask))):∀j:Nat,j≤ns.length→OpnP ns rk ts j (opn ns (rk,ts) j)
 |0,_=>⟨le_refl _,by simp only [opn];omega,rfl,fun i hi=>.inl ⟨fun h=>absurd h.1 (not_lt_zero _),rfl⟩,fun i i' _ _ h1 h2=>by
   simp only [opn]at h2;omega⟩
 |j+1,hj=>by
  have ih:=opn_is hl h0 h1 ht j (by omega)
  rw [opn]
  generalize hS:opn ns (rk,ts) j=S at ih
  have hjt:j<ts.length:=by omega
  have hSj:S.2.getD j (dft sTask)=ts.getD j (dft sTask):=by
   rcases ih.is j hjt with⟨_,h2⟩|⟨⟨h2,_⟩,_⟩
   ·exact h2
   ·exact absurd h2 (Nat.lt_irrefl _)
  have hmet:MetP S.2 (ns.getD j (dft sNode))↔MetP ts (ns.getD j (dft sNode)):=met_congr ih.four
  rw [hSj,hmet]
  have hlo:=ih.lo
  have hhi:=ih.hi
  have hjS:j<S.2.length:=by rw [ih.len];exact hjt
  by_cases c:(ts.getD j (dft sTask)).1=0∧MetP ts (ns.getD j (dft sNode))
  ·have hc:InC S.1:=⟨by omega,by omega⟩
   have hw:IntKind.i64.wrap (S.1+ofNat 1)=S.1+1:=by rw [IntKind.wrap_i64];simp only [ofN];omega
   rw [if_pos c,if_pos ⟨hc,ht j hjt⟩,hw]
   refine⟨by simp only;omega,by simp only;omega,by simp only;rw [length_set];exact ih.len,fun i hi=> ?_,fun i i' hii hi' z1 z2 z3 z4=> ?_⟩
   ·simp only
    rw [getD_set_eq hjS]
    by_cases e:i=j
    ·subst e
     rw [if_pos rfl]
     exact .inr ⟨⟨Nat.lt_succ_self _,c⟩,_,rfl,hlo,by omega⟩
    ·rw [if_neg e]
     rcases ih.is i hi with⟨h2,h3⟩|⟨⟨h2,h3⟩,ρ,h4,h5,h6⟩
     ·exact .inl ⟨fun h=>h2 ⟨by omega,h.2⟩,h3⟩
     ·exact .inr ⟨⟨by omega,h3⟩,ρ,h4,h5,by omega⟩
   ·simp only at z2 z4⊢
    rw [getD_set_eq hjS]at z2 z4⊢
    rw [getD_set_eq hjS]
    have far:∀a:Nat,a<ts.length→(ts.getD a (dft sTask)).1=0→(S.2.getD a (dft sTask)).1=1→a<j∧rnk (S.2.getD a (dft sTask))<S.1:=fun a ha y1 y2=>by
     rcases ih.is a ha with⟨h2,h3⟩|⟨⟨h2,h3⟩,ρ,h4,h5,h6⟩
     ·rw [h3,y1]at y2;exact absurd y2 (neD rfl)
     ·rw [h4];exact⟨h2,h6⟩
    by_cases e:i=j
    ·subst e
     rw [if_neg (by omega)]at z4
     have:=(far i' hi' z3 z4).1
     omega
    ·rw [if_neg e]at z2⊢
     by_cases e':i'=j
     ·subst e'
      rw [if_pos rfl]
      exact(far i (by omega) z1 z2).2
     ·rw [if_neg e']at z4⊢
      exact ih.up i i' hii hi' z1 z2 z3 z4
  ·rw [if_neg c]
   refine⟨hlo,by omega,ih.len,fun i hi=> ?_,ih.up⟩
   rcases ih.is i hi with⟨h2,h3⟩|⟨⟨h2,h3⟩,h4⟩
   ·refine .inl ⟨fun h=> ?_,h3⟩
    by_cases e:i=j
    ·subst e;exact c h.2
    ·exact h2 ⟨by omega,h.2⟩
   ·exact .inr ⟨⟨by omega,h3⟩,h4⟩
theorem opn_tks {ns:List Node} {rk:Int} {ts:List Task} {S:Int×List Task} (hn:∀i:Nat,i<ns.length→NdOk (ns.getD i (dft sNode))) (hl:ts.length=ns.length) (h0:0≤rk) (h1:rk+ns.length≤1099511627776) (ht:∀i:Nat,i<ts.length→TkT (ns.getD i (dft sNode)) (ts.getD i (dft sTask))) (h:OpnP ns rk ts ns.length S):∀i:Nat,i<S.2.length→TkT (ns.getD i (dft sNode)) (S.2.getD i (dft sTask)):=fun i hi=>by
 rw [h.len]at hi
 rcases h.is i hi with⟨_,h3⟩|⟨h2,ρ,h4,h5,h6⟩
 ·rw [h3];exact ht i hi
 ·rw [h4]
  have:=h.hi
  have:=(hn i (by omega)).1.1
  exact⟨⟨in0.1,by simp only [ofN];omega⟩,in0,in0,⟨by simp only;omega,by simp only;omega⟩,fun _=>rfl,fun h=>absurd rfl h,⟨fun h=>absurd rfl h,fun h=>absurd h (neD rfl)⟩,.inr (.inl ⟨rfl,by simp only [ofN];omega⟩)⟩
theorem opn_st {ns:List Node} {rk:Int} {ts:List Task} {S:Int×List Task} (hl:ts.length=ns.length) (hm:∀i:Nat,i<ns.length→(ts.getD i (dft sTask)).1≠0→MetP ts (ns.getD i (dft sNode))) (h4:¬∀t∈ts,t.1=4) (hn:¬∃t∈ts,t.1=5∨t.1=6) (h:OpnP ns rk ts ns.length S):StP ns S.2 1:=by
 refine .inl ⟨rfl,fun i hi=> ?_,fun hc=>h4 (mem_getD fun j hj=>(h.four j).1 (hc _ (getD_mem (by rw [h.len];exact hj) _))),fun⟨t,ht,h5⟩=> ?_⟩
 ·rw [met_congr h.four]
  rcases h.is i (by omega)with⟨h2,h3⟩|⟨⟨_,h2,h3⟩,ρ,h5,_⟩
  ·rw [h3]
   exact⟨fun h5 h6=>h2 ⟨hi,h6,h5⟩,hm i hi⟩
  ·rw [h5]
   exact⟨fun _=>neD rfl,fun _=>h3⟩
 ·obtain⟨j,hj,rfl⟩:=mem_is ht
  rw [h.len]at hj
  rcases h.is j hj with⟨_,h3⟩|⟨_,ρ,h6,_⟩
  ·rw [h3]at h5;exact hn ⟨_,getD_mem hj _,h5⟩
  ·rw [h6]at h5;rcases h5 with h5|h5<;>exact absurd h5 (neD rfl)
theorem complete_rok {r r':Run} {k:Nat} {rk rk' tk:Int} (h:ROk r) (h1:r.2.2.2.1=1) (hk:k<r.2.2.2.2.1.length) (hrk:Rkd rk) (hh:Hld (ndA r k) (tkA r k) tk) (hC:Cmpl r k rk r' rk'):ROk r'∧OpnP r.2.2.1.1 rk (r.2.2.2.2.1.set k (ofNat 4,(tkA r k).2.1,ofNat 0,ofNat 0,ofNat 0,())) r.2.2.1.1.length (rk',r'.2.2.2.2.1):=by
 obtain⟨id,key,⟨ns,_⟩,st,ts,_⟩:=r
 obtain⟨id',key',ns',st',ts',_⟩:=r'
 obtain⟨e1,e2,e3,e4,e5,hst,e6,_⟩:=hC
 simp only at e1 e2 e3 e4 e5 e6 hst h1 hk
 subst e1 e2 e3 h1
 obtain⟨q1,q2,q3,q4,q5,q6⟩:=h
 simp only at q1 q2 q3 q4 q5 q6
 simp only [tkA,ndA]at hh⊢
 generalize hte:(ts.getD k (dft sTask))=t at hh e4 e5 hst⊢
 obtain⟨⟨g1,g2,g3,g4,g5,g6,g7,g8⟩,_,_,c2,_⟩:=hh
 have h12:=q3.1.2
 have hrk1:rk+ns.length≤1099511627776:=by have:=hrk.2;omega
 have ht4:TkT (ns.getD k (dft sNode)) (ofNat 4,t.2.1,ofNat 0,ofNat 0,ofNat 0,()):=
  ⟨g1,in0,in0,in0,fun h=>absurd rfl h,fun h=>absurd rfl h,⟨fun h=>absurd rfl h,fun h=>absurd h (neD rfl)⟩,.inr (.inr (.inr (.inr (.inl ⟨rfl,by simp only;omega⟩))))⟩
 generalize hq4:((ofNat 4,t.2.1,ofNat 0,ofNat 0,ofNat 0,()):Task)=t4 at ht4 e4 e5 hst⊢
 have c4:t4.1=4:=by rw [←hq4];rfl
 have hset:∀i:Nat,i<(ts.set k t4).length→TkT (ns.getD i (dft sNode)) ((ts.set k t4).getD i (dft sTask)):=fun i hi=>by
  rw [length_set]at hi
  rw [getD_set_eq hk]
  split
  ·rename_i c;rw [c];exact ht4
  ·exact q5 i hi
 have hl:(ts.set k t4).length=ns.length:=by rw [length_set];exact q4
 have ho:=opn_is hl hrk.1 hrk1 hset ns.length (Nat.le_refl _)
 have heq:opn ns (rk,ts.set k t4) ns.length=(rk',ts'):=Prod.ext e5.symm e4.symm
 rw [heq]at ho
 refine⟨?_,ho⟩
 have htk:=opn_tks (fun i hi=>sh_nd q3.2.1 hi) hl hrk.1 hrk1 hset ho
 have hsl:=ho.len
 simp only at hsl htk
 rcases q6 with⟨_,hm,hn4,hn⟩|⟨h3,_⟩|⟨h3,_⟩|⟨h3,_⟩
 ·have hmono:∀j:Nat,(ts.getD j (dft sTask)).1=4→((ts.set k t4).getD j (dft sTask)).1=4:=fun j hj=>by
   rw [getD_set_eq hk]
   split
   ·exact c4
   ·exact hj
  rcases hst with⟨hall,rfl⟩|⟨hall,rfl⟩
  ·refine⟨q1,q2,q3,by simp only;omega,htk,.inr (.inl ⟨rfl,mem_getD fun j hj=>(ho.four j).2 (hall _ (getD_mem (by rw [←hsl];exact hj) _))⟩)⟩
  ·refine⟨q1,q2,q3,by simp only;omega,htk,opn_st hl (fun i hi h0 v hv=> ?_) hall (fun⟨t,ht,h5⟩=> ?_) ho⟩
   ·refine hmono _ ((hm i hi).2 ?_ v hv)
    rw [getD_set_eq hk]at h0
    split at h0
    ·rename_i c;rw [c,hte,c2];decide
    ·exact h0
   ·rcases List.mem_or_eq_of_mem_set ht with h6|rfl
    ·exact hn ⟨t,h6,h5⟩
    ·omega
 ·exact absurd h3 (neD rfl)
 ·exact absurd h3 (neD rfl)
 ·exact absurd h3 (neD rfl)
theorem start_rok {id:Int} {key:ByteArray} {ns:List Node} {rk:Int} (h1:InC id) (h2:1≤key.size∧key.size≤24) (hd:Dag ns) (hrk:Rkd rk):ROk (id,key,(ns,()),ofNat 1,(opn ns (rk,replicate ns.length t0) ns.length).2,())∧OpnP ns rk (replicate ns.length t0) ns.length (opn ns (rk,replicate ns.length t0) ns.length):=by
 have h12:=hd.1
 have hrk1:rk+ns.length≤1099511627776:=by have:=hrk.2;omega
 have hl:(replicate ns.length t0).length=ns.length:=List.length_replicate ..
 have h0:∀i:Nat,i<(replicate ns.length t0).length→(replicate ns.length t0).getD i (dft sTask)=t0:=fun i hi=>List.eq_of_mem_replicate (getD_mem hi _)
 have ht:∀i:Nat,i<(replicate ns.length t0).length→TkT (ns.getD i (dft sNode)) ((replicate ns.length t0).getD i (dft sTask)):=fun i hi=>by
  rw [h0 i hi]
  have:=(sh_nd hd.2.1 (i:=i) (by omega)).1.1
  exact⟨⟨in0.1,by simp only [ofN];omega⟩,in0,in0,in0,fun h=>absurd rfl h,fun h=>absurd rfl h,⟨fun h=>absurd rfl h,fun h=>absurd h (neD rfl)⟩,.inl ⟨rfl,rfl⟩⟩
 have ho:=opn_is hl hrk.1 hrk1 ht ns.length (Nat.le_refl _)
 refine⟨⟨h1,h2,hd,ho.len.trans hl,opn_tks (fun i hi=>sh_nd hd.2.1 hi) hl hrk.1 hrk1 ht ho,opn_st hl (fun i hi h=>absurd (by rw [h0 i (by rw [hl];exact hi)];rfl) h) (fun h=> ?_) (fun⟨t,ht,h5⟩=> ?_) ho⟩,ho⟩
 ·have:=h t0 (List.mem_replicate.2 ⟨by omega,rfl⟩)
  exact absurd this (neD rfl)
 ·rw [List.eq_of_mem_replicate ht]at h5
  rcases h5 with h5|h5<;>exact absurd h5 (neD rfl)
theorem rok_okr {r:Run} (h:ROk r):OkR r:=by
 have h12:=h.dag.1
 refine⟨fun nd hnd=> ?_,by have:=h.len;omega,mem_getD fun j hj=>(tkt_st (h.tks j hj)).1⟩
 obtain⟨j,hj,rfl⟩:=List.getElem_of_mem hnd
 have:=need_len (h.dag.2.1 j hj).2.2
 rw [getD_get hj]at this
 omega
structure Rel (nt nk nt' nk':Int) (ts ts':List Task):Prop where
 len:ts'.length=ts.length
 tk:∀j:Nat,j<ts.length→(ts'.getD j (dft sTask)).1=2→((ts.getD j (dft sTask)).1=2∧tok (ts'.getD j (dft sTask))=tok (ts.getD j (dft sTask)))∨(nt≤tok (ts'.getD j (dft sTask))∧tok (ts'.getD j (dft sTask))<nt')
 rk:∀j:Nat,j<ts.length→(ts'.getD j (dft sTask)).1=1→((ts.getD j (dft sTask)).1=1∧rnk (ts'.getD j (dft sTask))=rnk (ts.getD j (dft sTask)))∨(nk≤rnk (ts'.getD j (dft sTask))∧rnk (ts'.getD j (dft sTask))<nk')
 tu:∀i j:Nat,i<j→j<ts.length→(ts'.getD i (dft sTask)).1=2→(ts'.getD j (dft sTask)).1=2→nt≤tok (ts'.getD i (dft sTask))→nt≤tok (ts'.getD j (dft sTask))→tok (ts'.getD i (dft sTask))≠tok (ts'.getD j (dft sTask))
 ru:∀i j:Nat,i<j→j<ts.length→(ts'.getD i (dft sTask)).1=1→(ts'.getD j (dft sTask)).1=1→nk≤rnk (ts'.getD i (dft sTask))→nk≤rnk (ts'.getD j (dft sTask))→rnk (ts'.getD i (dft sTask))≠rnk (ts'.getD j (dft sTask))
def Low (nt nk:Int) (t:Task):Prop:=(t.1=2→tok t<nt)∧(t.1=1→rnk t<nk)
theorem pw_get {l:List Task}:l.Pairwise NC↔∀i j:Nat,i<j→j<l.length→NC (l.getD i (dft sTask)) (l.getD j (dft sTask)):=by
 rw [List.pairwise_iff_getElem]
 constructor
 ·intro h i j hij hj
  rw [getD_get (by omega:i<l.length),getD_get hj]
  exact h i j (by omega) hj hij
 ·intro h i j hi hj hij
  have:=h i j hij hj
  rwa [getD_get hi,getD_get hj]at this
theorem rel_pair {nt nk nt' nk':Int} {ts ts':List Task} (h:ts.Pairwise NC) (hl:∀t∈ts,Low nt nk t) (hr:Rel nt nk nt' nk' ts ts'):ts'.Pairwise NC:=by
 rw [pw_get]at h⊢
 intro i j hij hj
 rw [hr.len]at hj
 have h1:=h i j hij hj
 have li:=hl _ (getD_mem (show i<ts.length by omega) (dft sTask))
 have lj:=hl _ (getD_mem hj (dft sTask))
 refine⟨fun⟨a,b,c⟩=> ?_,fun⟨a,b,c⟩=> ?_⟩
 ·rcases hr.tk i (by omega) a with⟨a1,a2⟩|⟨a1,a2⟩<;>rcases hr.tk j hj b with⟨b1,b2⟩|⟨b1,b2⟩
  ·exact h1.1 ⟨a1,b1,by omega⟩
  ·have:=li.1 a1;omega
  ·have:=lj.1 b1;omega
  ·exact hr.tu i j hij hj a b a1 b1 c
 ·rcases hr.rk i (by omega) a with⟨a1,a2⟩|⟨a1,a2⟩<;>rcases hr.rk j hj b with⟨b1,b2⟩|⟨b1,b2⟩
  ·exact h1.2 ⟨a1,b1,by omega⟩
  ·have:=li.2 a1;omega
  ·have:=lj.2 b1;omega
  ·exact hr.ru i j hij hj a b a1 b1 c
theorem rel_x {nt nk nt' nk':Int} {ts ts':List Task} {y:Task} (hy:Low nt nk y) (h:∀x∈ts,NC x y) (hr:Rel nt nk nt' nk' ts ts'):∀x∈ts',NC x y:=fun x hx=>by
 obtain⟨j,hj,rfl⟩:=mem_is hx
 rw [hr.len]at hj
 have h1:=h _ (getD_mem hj (dft sTask))
 refine⟨fun⟨a,b,c⟩=> ?_,fun⟨a,b,c⟩=> ?_⟩
 ·rcases hr.tk j hj a with⟨a1,a2⟩|⟨a1,a2⟩
  ·exact h1.1 ⟨a1,b,by omega⟩
  ·have:=hy.1 b;omega
 ·rcases hr.rk j hj a with⟨a1,a2⟩|⟨a1,a2⟩
  ·exact h1.2 ⟨a1,b,by omega⟩
  ·have:=hy.2 b;omega
theorem rel_low {nt nk nt' nk':Int} {ts ts':List Task} (h1:nt≤nt') (h2:nk≤nk') (hl:∀t∈ts,Low nt nk t) (hr:Rel nt nk nt' nk' ts ts'):∀t∈ts',Low nt' nk' t:=mem_getD fun j hj=>by
 rw [hr.len]at hj
 have lj:=hl _ (getD_mem hj (dft sTask))
 refine⟨fun a=> ?_,fun a=> ?_⟩
 ·rcases hr.tk j hj a with⟨a1,a2⟩|⟨a1,a2⟩
  ·have:=lj.1 a1;omega
  ·exact a2
 ·rcases hr.rk j hj a with⟨a1,a2⟩|⟨a1,a2⟩
  ·have:=lj.2 a1;omega
  ·exact a2
theorem late_low {nt nk:Int} {t:Task} (h:NotLate nt nk t):Low nt nk t:=⟨fun _=>h.1,h.2⟩
theorem low_late {nd:Node} {nt nk:Int} {t:Task} (hn:1≤nt) (ht:TkT nd t) (h:Low nt nk t):NotLate nt nk t:=by
 refine⟨?_,h.2⟩
 by_cases c:t.1=2
 ·exact h.1 c
 ·have:tok t=0:=Classical.byContradiction fun h2=>c (ht.2.2.2.2.2.2.1.1 h2)
  omega
theorem rel_set {nt nk nt' nk':Int} {ts:List Task} {k:Nat} {t:Task} (hk:k<ts.length) (ht:t.1=2→((ts.getD k (dft sTask)).1=2∧tok t=tok (ts.getD k (dft sTask)))∨(nt≤tok t∧tok t<nt')) (hr:t.1=1→((ts.getD k (dft sTask)).1=1∧rnk t=rnk (ts.getD k (dft sTask)))∨(nk≤rnk t∧rnk t<nk')) (hl:∀t∈ts,Low nt nk t):Rel nt nk nt' nk' ts (ts.set k t):=by
 refine⟨length_set,fun j hj h=> ?_,fun j hj h=> ?_,fun i j hij hj h1 h2 h3 h4=> ?_,fun i j hij hj h1 h2 h3 h4=> ?_⟩
 ·rw [getD_set_eq hk]at h⊢
  split
  ·rename_i c;subst c;rw [if_pos rfl]at h;exact ht h
  ·rename_i c;rw [if_neg c]at h;exact .inl ⟨h,rfl⟩
 ·rw [getD_set_eq hk]at h⊢
  split
  ·rename_i c;subst c;rw [if_pos rfl]at h;exact hr h
  ·rename_i c;rw [if_neg c]at h;exact .inl ⟨h,rfl⟩
 ·rw [getD_set_eq hk]at h1 h2 h3 h4
  have li:=(hl _ (getD_mem (show i<ts.length by omega) (dft sTask))).1
  have lj:=(hl _ (getD_mem hj (dft sTask))).1
  by_cases ci:i=k
  ·rw [if_neg (show¬j=k by omega)]at h2 h4
   have:=lj h2;omega
  ·rw [if_neg ci]at h1 h3
   have:=li h1;omega
 ·rw [getD_set_eq hk]at h1 h2 h3 h4
  have li:=(hl _ (getD_mem (show i<ts.length by omega) (dft sTask))).2
  have lj:=(hl _ (getD_mem hj (dft sTask))).2
  by_cases ci:i=k
  ·rw [if_neg (show¬j=k by omega)]at h2 h4
   have:=lj h2;omega
  ·rw [if_neg ci]at h1 h3
   have:=li h1;omega
theorem rel_drp {nt nk nt' nk':Int} {ns:List Node} {ts ts1 ts':List Task} (h:Rel nt nk nt' nk' ts ts1) (hd:DrpOk ns ts1 ts'):Rel nt nk nt' nk' ts ts':=by
 have key:∀j:Nat,j<ts.length→∀s:Int,s≠6→(ts'.getD j (dft sTask)).1=s→ts'.getD j (dft sTask)=ts1.getD j (dft sTask):=fun j hj s hs e=>by
  rcases hd.2 j (by rw [h.len];exact hj)with⟨_,h2⟩|⟨_,h2⟩
  ·exact h2
  ·rw [h2]at e;exact absurd e.symm hs
 refine⟨hd.1.trans h.len,fun j hj e=> ?_,fun j hj e=> ?_,fun i j hij hj e1 e2=> ?_,fun i j hij hj e1 e2=> ?_⟩
 ·have q:=key j hj 2 (by decide) e;rw [q]at e⊢;exact h.tk j hj e
 ·have q:=key j hj 1 (by decide) e;rw [q]at e⊢;exact h.rk j hj e
 ·have q:=key i (by omega) 2 (by decide) e1;have q2:=key j hj 2 (by decide) e2;rw [q]at e1⊢;rw [q2]at e2⊢;exact h.tu i j hij hj e1 e2
 ·have q:=key i (by omega) 1 (by decide) e1;have q2:=key j hj 1 (by decide) e2;rw [q]at e1⊢;rw [q2]at e2⊢;exact h.ru i j hij hj e1 e2
theorem rel_same {nt nk nt' nk':Int} {ts:List Task} (hl:∀t∈ts,Low nt nk t):Rel nt nk nt' nk' ts ts:=by
 refine⟨rfl,fun j hj h=>.inl ⟨h,rfl⟩,fun j hj h=>.inl ⟨h,rfl⟩,fun i j hij hj h1 h2 h3 h4=> ?_,fun i j hij hj h1 h2 h3 h4=> ?_⟩
 ·have:=(hl _ (getD_mem hj (dft sTask))).1 h2;omega
 ·have:=(hl _ (getD_mem hj (dft sTask))).2 h2;omega
theorem rel_opn {nt nk nk':Int} {ns:List Node} {ts ts1 ts':List Task} (h:Rel nt nk nt nk ts ts1) (hl:∀t∈ts,Low nt nk t) (ho:OpnP ns nk ts1 ns.length (nk',ts')):Rel nt nk nt nk' ts ts':=by
 have h2':∀j:Nat,j<ts.length→(ts'.getD j (dft sTask)).1=2→ts'.getD j (dft sTask)=ts1.getD j (dft sTask):=fun j hj e=>by
  rcases ho.is j (by rw [h.len];exact hj)with⟨_,h2⟩|⟨_,ρ,h2,_⟩
  ·exact h2
  ·simp only at h2;rw [h2]at e;exact absurd e (neD rfl)
 have h1':∀j:Nat,j<ts.length→(ts'.getD j (dft sTask)).1=1→(ts'.getD j (dft sTask)=ts1.getD j (dft sTask))∨((ts1.getD j (dft sTask)).1=0∧nk≤rnk (ts'.getD j (dft sTask))∧rnk (ts'.getD j (dft sTask))<nk'):=fun j hj e=>by
  rcases ho.is j (by rw [h.len];exact hj)with⟨_,h2⟩|⟨⟨_,h0,_⟩,ρ,h2,h3,h4⟩
  ·exact .inl h2
  ·simp only at h2 h4;rw [h2];exact .inr ⟨h0,h3,h4⟩
 refine⟨ho.len.trans h.len,fun j hj e=> ?_,fun j hj e=> ?_,fun i j hij hj e1 e2=> ?_,fun i j hij hj e1 e2 e3 e4=> ?_⟩
 ·have q:=h2' j hj e;rw [q]at e⊢;exact h.tk j hj e
 ·rcases h1' j hj e with h3|⟨_,h3⟩
  ·rw [h3]at e⊢
   rcases h.rk j hj e with h4|⟨h4,h5⟩
   ·exact .inl h4
   ·omega
  ·exact .inr h3
 ·have q:=h2' i (by omega) e1;have q2:=h2' j hj e2;rw [q]at e1⊢;rw [q2]at e2⊢;exact h.tu i j hij hj e1 e2
 ·have old:∀a:Nat,a<ts.length→(ts'.getD a (dft sTask)).1=1→nk≤rnk (ts'.getD a (dft sTask))→(ts1.getD a (dft sTask)).1=0:=fun a ha b c=>by
   rcases h1' a ha b with h3|⟨h3,_⟩
   ·rw [h3]at b c
    rcases h.rk a ha b with⟨h4,h5⟩|⟨h4,h5⟩
    ·have:=(hl _ (getD_mem ha (dft sTask))).2 h4;omega
    ·omega
   ·exact h3
  have:=ho.up i j hij (by rw [h.len];exact hj) (old i (by omega) e1 e3) e1 (old j hj e2 e4) e2
  simp only at this
  omega
theorem getD_set_run {l:List Run} {i:Nat} (h:i<l.length) (v:Run) (j:Nat):(l.set i v).getD j (dft sRun)=if j=i then v else l.getD j (dft sRun):=by
 simp only [getD_eq_getElem?_getD,List.getElem?_set]
 by_cases e:i=j
 ·subst e;simp [h]
 ·rw [if_neg e,if_neg (fun h=>e h.symm)]
abbrev tsA (rs:List Run) (a:Nat):List Task:=(rs.getD a (dft sRun)).2.2.2.2.1
theorem ap_iff (rs:List Run):(FT rs).Pairwise NC↔(∀a:Nat,a<rs.length→(tsA rs a).Pairwise NC)∧∀a b:Nat,a<b→b<rs.length→∀x∈tsA rs a,∀y∈tsA rs b,NC x y:=by
 unfold FT
 rw [List.pairwise_flatMap,List.pairwise_iff_getElem]
 constructor
 ·intro⟨h1,h2⟩
  refine⟨fun a ha=>h1 _ (getD_mem ha _),fun a b hab hb=> ?_⟩
  have:=h2 a b (by omega) hb hab
  rwa [←getD_get (by omega:a<rs.length) (dft sRun),←getD_get hb (dft sRun)]at this
 ·intro⟨h1,h2⟩
  refine⟨fun r hr=> ?_,fun a b ha hb hab=> ?_⟩
  ·obtain⟨a,ha,rfl⟩:=List.getElem_of_mem hr
   have:=h1 a ha
   rwa [tsA,getD_get ha]at this
  ·have:=h2 a b hab hb
   rwa [tsA,tsA,getD_get ha,getD_get hb]at this
theorem fine_set {rs:List Run} {n:Nat} {r':Run} {nt nk nt' nk':Int} (hf:Fine rs) (hn:n<rs.length) (hl:∀a:Nat,a<rs.length→∀t∈tsA rs a,Low nt nk t) (e1:r'.1=(rs.getD n (dft sRun)).1) (e2:r'.2.1=(rs.getD n (dft sRun)).2.1) (ho:ROk r') (hr:Rel nt nk nt' nk' (tsA rs n) r'.2.2.2.2.1):Fine (rs.set n r'):=by
 obtain⟨h32,up,keys,chk,ap⟩:=hf
 have G:=getD_set_run hn r'
 have idA:∀a:Nat,((rs.set n r').getD a (dft sRun)).1=(rs.getD a (dft sRun)).1:=fun a=>by
  rw [G];split
  ·rename_i c;rw [c];exact e1
  ·rfl
 have keyA:∀a:Nat,keyL ((rs.set n r').getD a (dft sRun))=keyL (rs.getD a (dft sRun)):=fun a=>by
  rw [G];split
  ·rename_i c;rw [c,keyL,e2]
  ·rfl
 rw [ap_iff]at ap
 refine⟨by rw [length_set];exact h32,fun a b hab hb=> ?_,fun a b hab hb=> ?_,fun a ha=> ?_,?_⟩
 ·rw [idA,idA];rw [length_set]at hb;exact up a b hab hb
 ·rw [keyA,keyA];rw [length_set]at hb;exact keys a b hab hb
 ·rw [length_set]at ha;rw [G];split
  ·exact ho
  ·exact chk a ha
 ·rw [ap_iff]
  refine⟨fun a ha=> ?_,fun a b hab hb=> ?_⟩
  ·rw [length_set]at ha
   unfold tsA
   rw [G];split
   ·exact rel_pair (ap.1 n hn) (hl n hn) hr
   ·exact ap.1 a ha
  ·rw [length_set]at hb
   unfold tsA
   rw [G,G]
   by_cases ca:a=n
   ·rw [if_pos ca,if_neg (by omega)]
    subst ca
    exact fun x hx y hy=>rel_x (hl b hb y hy) (fun x hx=>ap.2 a b hab hb x hx y hy) hr x hx
   ·rw [if_neg ca]
    by_cases cb:b=n
    ·rw [if_pos cb]
     subst cb
     exact fun x hx y hy=>(rel_x (hl a (by omega) x hx) (fun y hy=>(ap.2 a b hab hb x hx y hy).symm) hr y hy).symm
    ·rw [if_neg cb]
     exact ap.2 a b hab hb
theorem getD_app_run {l:List Run} {v:Run} (j:Nat) (h:j<(l++ [v]).length):(l++ [v]).getD j (dft sRun)=if j=l.length then v else l.getD j (dft sRun):=by
 rw [length_append,length_singleton]at h
 by_cases e:j=l.length
 ·subst e
  rw [if_pos rfl,getD_eq_getElem?_getD,List.getElem?_append_right (Nat.le_refl _),Nat.sub_self]
  rfl
 ·rw [if_neg e,getD_eq_getElem?_getD,List.getElem?_append_left (by omega),←getD_eq_getElem?_getD]
theorem fine_app {rs:List Run} {r':Run} {ts:List Task} {nt nk nt' nk':Int} (hf:Fine rs) (h32:rs.length<32) (hl:∀a:Nat,a<rs.length→∀t∈tsA rs a,Low nt nk t) (hid:∀a:Nat,a<rs.length→(rs.getD a (dft sRun)).1<r'.1) (hk:∀a:Nat,a<rs.length→keyL (rs.getD a (dft sRun))≠keyL r') (ho:ROk r') (h0:∀t∈ts,t.1=0) (hr:Rel nt nk nt' nk' ts r'.2.2.2.2.1):Fine (rs++ [r']):=by
 obtain⟨_,up,keys,chk,ap⟩:=hf
 have hlen:(rs++ [r']).length=rs.length+1:=by rw [length_append,length_singleton]
 have hnc:∀t∈ts,∀y:Task,NC t y:=fun t ht y=>by
  have:=h0 t ht
  exact⟨fun⟨a,_⟩=>by omega,fun⟨a,_⟩=>by omega⟩
 have hlow:∀t∈ts,Low nt nk t:=fun t ht=>by
  have:=h0 t ht
  exact⟨fun a=>by omega,fun a=>by omega⟩
 rw [ap_iff]at ap
 refine⟨by omega,fun a b hab hb=> ?_,fun a b hab hb=> ?_,fun a ha=> ?_,?_⟩
 ·rw [getD_app_run b hb,getD_app_run a (by omega),if_neg (by omega)]
  split
  ·exact hid a (by omega)
  ·exact up a b hab (by omega)
 ·rw [getD_app_run b hb,getD_app_run a (by omega),if_neg (by omega)]
  split
  ·exact hk a (by omega)
  ·exact keys a b hab (by omega)
 ·rw [getD_app_run a ha]
  split
  ·exact ho
  ·exact chk a (by omega)
 ·rw [ap_iff]
  refine⟨fun a ha=> ?_,fun a b hab hb=> ?_⟩
  ·unfold tsA
   rw [getD_app_run a ha]
   split
   ·exact rel_pair (pw_get.2 fun i j hij hj=>hnc _ (getD_mem (by omega) _) _) hlow hr
   ·exact ap.1 a (by omega)
  ·unfold tsA
   rw [getD_app_run b hb,getD_app_run a (by omega),if_neg (by omega)]
   split
   ·exact fun x hx y hy=>(rel_x (hl a (by omega) x hx) (fun y hy=>hnc y hy x) hr y hy).symm
   ·exact ap.2 a b hab (by omega)
abbrev mkS (ck nr nt nk ne ac:Int) (rs:List Run) (es:List Event):State:=(ck,nr,nt,nk,ne,ac,rs,es,())
structure SX (ck nr nt nk ne ac:Int) (rs:List Run) (es:List Event):Prop where
 fine:Fine rs
 ckI:InC ck
 nrI:InC nr
 nkI:InC nk
 ntI:1≤nt∧nt≤1099511627776
 neI:1≤ne∧ne≤1099511627776
 ack:0≤ac∧ac<ne
 elen:(es.length:Int)=ne-1-ac
 late:∀j:Nat,j<rs.length→(rs.getD j (dft sRun)).1<nr∧∀t∈(rs.getD j (dft sRun)).2.2.2.2.1,NotLate nt nk t
 evs:∀j:Nat,j<es.length→(es.getD j (dft sEvent)).1=ac+1+j∧EvOk nr (es.getD j (dft sEvent))
theorem sx_of {ck nr nt nk ne ac:Int} {rs:List Run} {es:List Event} (h:SOk (mkS ck nr nt nk ne ac rs es)):SX ck nr nt nk ne ac rs es:=
 ⟨h.fine,h.ck,h.nr,h.nk,h.nt,h.ne,h.ack,h.elen,h.late,h.evs⟩
theorem sok_of {ck nr nt nk ne ac:Int} {rs:List Run} {es:List Event} (h:SX ck nr nt nk ne ac rs es) (he:es.length≤40):SOk (mkS ck nr nt nk ne ac rs es):=
 ⟨h.fine,he,h.ckI,h.nrI,h.nkI,h.ntI,h.neI,h.ack,h.elen,h.late,h.evs⟩
def NewEv (ne nr:Int) (new:List Event):Prop:=∀j:Nat,j<new.length→(new.getD j (dft sEvent)).1=ne+j∧EvOk nr (new.getD j (dft sEvent))
theorem ev_mono {nr nr':Int} {x:Event} (h:nr≤nr') (he:EvOk nr x):EvOk nr' x:=⟨he.1,⟨he.2.1.1,by have:=he.2.1.2;omega⟩,he.2.2⟩
theorem evs_app {nr nr' ne ac:Int} {es new:List Event} (hl:(es.length:Int)=ne-1-ac) (h:∀j:Nat,j<es.length→(es.getD j (dft sEvent)).1=ac+1+j∧EvOk nr (es.getD j (dft sEvent))) (hn:nr≤nr') (hw:NewEv ne nr' new):∀j:Nat,j<(es++new).length→((es++new).getD j (dft sEvent)).1=ac+1+j∧EvOk nr' ((es++new).getD j (dft sEvent)):=fun j hj=>by
 rw [length_append]at hj
 by_cases c:j<es.length
 ·rw [getD_eq_getElem?_getD,List.getElem?_append_left c,←getD_eq_getElem?_getD]
  exact⟨(h j c).1,ev_mono hn (h j c).2⟩
 ·rw [getD_eq_getElem?_getD,List.getElem?_append_right (by omega),←getD_eq_getElem?_getD]
  have:=hw (j-es.length) (by omega)
  exact⟨by omega,this.2⟩
theorem ev_one {ne nr kind id i:Int} (h1:1≤kind∧kind≤6) (h2:0≤id∧id<nr) (h3:0≤i∧i<12) (h4:i=0∨kind=2∨kind=3):NewEv ne nr [(ne,kind,id,i,())]:=fun j hj=>by
 obtain rfl:j=0:=by simp only [length_singleton]at hj;omega
 exact⟨by show ne=ne+((0:Nat):Int);omega,h1,h2,h3,h4⟩
theorem ev_app {ne nr:Int} {a b:List Event} (ha:NewEv ne nr a) (hb:NewEv (ne+a.length) nr b):NewEv ne nr (a++b):=fun j hj=>by
 rw [length_append]at hj
 by_cases c:j<a.length
 ·rw [getD_eq_getElem?_getD,List.getElem?_append_left c,←getD_eq_getElem?_getD]
  exact ha j c
 ·rw [getD_eq_getElem?_getD,List.getElem?_append_right (by omega),←getD_eq_getElem?_getD]
  have:=hb (j-a.length) (by omega)
  exact⟨by omega,this.2⟩
section
variable {ck nr nt nk ne ac:Int} {rs:List Run} {es:List Event}
theorem SX.low (h:SX ck nr nt nk ne ac rs es):∀a:Nat,a<rs.length→∀t∈tsA rs a,Low nt nk t:=fun a ha t ht=>late_low ((h.late a ha).2 t ht)
theorem SX.rok (h:SX ck nr nt nk ne ac rs es) {n:Nat} (hn:n<rs.length):ROk (rs.getD n (dft sRun)):=h.fine.2.chk n hn
theorem SX.id (h:SX ck nr nt nk ne ac rs es) {n:Nat} (hn:n<rs.length):0≤(rs.getD n (dft sRun)).1∧(rs.getD n (dft sRun)).1<nr:=⟨(h.rok hn).id.1,(h.late n hn).1⟩
theorem SX.task (h:SX ck nr nt nk ne ac rs es) {n k:Nat} (hn:n<rs.length) (hk:k<(tsA rs n).length):0≤(k:Int)∧(k:Int)<12:=by
 have h1:=(h.rok hn).len
 have h2:=(h.rok hn).dag.1.2
 unfold tsA at hk
 omega
theorem late_of {nt nk:Int} {r:Run} (hn:1≤nt) (ho:ROk r) (h:∀t∈r.2.2.2.2.1,Low nt nk t):∀t∈r.2.2.2.2.1,NotLate nt nk t:=fun t ht=>by
 obtain⟨j,hj,rfl⟩:=mem_is ht
 exact low_late hn (ho.tks j hj) (h _ ht)
theorem sx_set {ck' nt' nk' ne':Int} {new:List Event} (h:SX ck nr nt nk ne ac rs es) {n:Nat} {r':Run} (hn:n<rs.length) (e1:r'.1=(rs.getD n (dft sRun)).1) (e2:r'.2.1=(rs.getD n (dft sRun)).2.1) (ho:ROk r') (hr:Rel nt nk nt' nk' (tsA rs n) r'.2.2.2.2.1)
  (hck:InC ck') (hnt:nt≤nt'∧nt'≤1099511627776) (hnk:nk≤nk'∧nk'≤1099511627776) (hne:ne'=ne+new.length) (hne2:ne'≤1099511627776) (hev:NewEv ne nr new):SX ck' nr nt' nk' ne' ac (rs.set n r') (es++new):=by
 subst hne
 have hnt1:=h.ntI.1
 have hne1:=h.neI.1
 have hack:=h.ack
 refine⟨fine_set h.fine hn h.low e1 e2 ho hr,hck,h.nrI,⟨by have:=h.nkI.1;omega,hnk.2⟩,⟨by omega,hnt.2⟩,⟨by omega,hne2⟩,⟨hack.1,by omega⟩,by rw [length_append];have:=h.elen;omega,fun j hj=> ?_,evs_app h.elen h.evs (le_refl _) hev⟩
 rw [length_set]at hj
 rw [getD_set_run hn]
 split
 ·rename_i c
  subst c
  exact⟨by rw [e1];exact(h.late _ hj).1,late_of (by omega) ho (rel_low hnt.1 hnk.1 (h.low _ hj) hr)⟩
 ·refine⟨(h.late _ hj).1,fun t ht=> ?_⟩
  obtain⟨a,b⟩:=(h.late _ hj).2 t ht
  exact⟨by omega,fun c=>by have:=b c;omega⟩
theorem sx_new {nk':Int} (h:SX ck nr nt nk ne ac rs es) (h32:rs.length<32) {r':Run} {ts:List Task} (e1:r'.1=nr) (hk:∀a:Nat,a<rs.length→keyL (rs.getD a (dft sRun))≠keyL r') (ho:ROk r') (h0:∀t∈ts,t.1=0) (hr:Rel nt nk nt nk' ts r'.2.2.2.2.1)
  (hnr:nr+1≤1099511627776) (hnk:nk≤nk'∧nk'≤1099511627776) (hne2:ne+1≤1099511627776):SX ck (nr+1) nt nk' (ne+1) ac (rs++ [r']) (es++ [(ne,ofNat 1,nr,ofNat 0,())]):=by
 have hnr0:=h.nrI.1
 have hack:=h.ack
 have hne1:=h.neI.1
 refine⟨fine_app h.fine h32 h.low (fun a ha=>by rw [e1];exact(h.late a ha).1) hk ho h0 hr,h.ckI,⟨by omega,hnr⟩,⟨by have:=h.nkI.1;omega,hnk.2⟩,h.ntI,⟨by omega,hne2⟩,⟨hack.1,by omega⟩,by rw [length_append,length_singleton];have:=h.elen;omega,fun j hj=> ?_,evs_app h.elen h.evs (by omega) (ev_one (by decide) ⟨hnr0,by omega⟩ (by decide) (.inl rfl))⟩
 rw [getD_app_run j hj]
 rw [length_append,length_singleton]at hj
 split
 ·refine⟨by omega,late_of h.ntI.1 ho (rel_low (le_refl _) hnk.1 (fun t ht=> ?_) hr)⟩
  have:=h0 t ht
  exact⟨fun a=>by omega,fun a=>by omega⟩
 ·have hj':j<rs.length:=by omega
  refine⟨by have:=(h.late j hj').1;omega,fun t ht=> ?_⟩
  obtain⟨a,b⟩:=(h.late j hj').2 t ht
  exact⟨a,fun c=>by have:=b c;omega⟩
end
theorem turn_rel {nt nk nt' nk':Int} {r r':Run} {k:Nat} {t':Task} (hT:Turn r k t' r') (h:Rel nt nk nt' nk' r.2.2.2.2.1 (r.2.2.2.2.1.set k t')):Rel nt nk nt' nk' r.2.2.2.2.1 r'.2.2.2.2.1:=by
 rcases hT.how with⟨_,_,hd⟩|⟨_,he,_⟩
 ·exact rel_drp h hd
 ·rw [he];exact h
theorem flt_tkt {nd:Node} {t t':Task} {now:Int} (h:TkT nd t) (h1:1≤t.2.1) (hf:FlT nd t now t'):TkT nd t'∧t'.1≠0∧t'.1≠4∧t'.1≠6∧t'.1≠1∧t'.1≠2:=by
 rcases hf with⟨e,rfl⟩|⟨e,u,hu,rfl⟩
 ·exact⟨⟨h.1,in0,in0,in0,fun h=>absurd rfl h,fun h=>absurd rfl h,⟨fun h=>absurd rfl h,fun h=>absurd h (neD rfl)⟩,.inr (.inr (.inr (.inr (.inr (.inl ⟨rfl,e⟩)))))⟩,neD rfl,neD rfl,neD rfl,neD rfl,neD rfl⟩
 ·exact⟨⟨h.1,hu,in0,in0,fun h=>absurd rfl h,fun _=>.inr rfl,⟨fun h=>absurd rfl h,fun h=>absurd h (neD rfl)⟩,.inr (.inr (.inr (.inl ⟨rfl,h1,by have:=h.1.2;simp only;omega⟩)))⟩,neD rfl,neD rfl,neD rfl,neD rfl,neD rfl⟩
abbrev failEv (ne:Int) (r':Run) (k:Nat):Event:=if r'.2.2.2.1=3 then(ne,ofNat 5,r'.1,ofNat 0,())else(ne,ofNat 3,r'.1,(k:Int),())
abbrev TkS:=Int×List Run×Int×Int×List Event
inductive Tk1 (now:Int) (p:Place):TkS→TkS→Prop
 |skip (d:Int) (R:List Run) (nk ne:Int) (w:List Event) (h:∀n k:Nat,n<R.length→(R.getD n (dft sRun)).1=p.1→p.2.1=k→k<(tsA R n).length→due ((tsA R n).getD k (dft sTask)) now=false):Tk1 now p (d,R,nk,ne,w) (d,R,nk,ne,w)
 |wake (d:Int) (R:List Run) (nk ne:Int) (w:List Event) (n k:Nat) (r':Run) (hn:n<R.length) (hid:(R.getD n (dft sRun)).1=p.1) (hp:p.2.1=k) (hk:k<(tsA R n).length) (hd:due ((tsA R n).getD k (dft sTask)) now=true) (h3:((tsA R n).getD k (dft sTask)).1=3) (hT:Turn (R.getD n (dft sRun)) k (ofNat 1,((tsA R n).getD k (dft sTask)).2.1,ofNat 0,ofNat 0,nk,()) r'):
   Tk1 now p (d,R,nk,ne,w) (d+1,R.set n r',nk+1,ne,w)
 |lapse (d:Int) (R:List Run) (nk ne:Int) (w:List Event) (n k:Nat) (t':Task) (r':Run) (hn:n<R.length) (hid:(R.getD n (dft sRun)).1=p.1) (hp:p.2.1=k) (hk:k<(tsA R n).length) (hd:due ((tsA R n).getD k (dft sTask)) now=true) (h2:((tsA R n).getD k (dft sTask)).1=2) (hf:FlT (ndA (R.getD n (dft sRun)) k) ((tsA R n).getD k (dft sTask)) now t') (hT:Turn (R.getD n (dft sRun)) k t' r'):
   Tk1 now p (d,R,nk,ne,w) (d+1,R.set n r',nk,ne+1,w++ [failEv ne r' k])
inductive TkN (now:Int) (P:List Place) (x:TkS):Nat→TkS→Prop
 |zero:TkN now P x 0 x
 |step (i:Nat) (y z:TkS):TkN now P x i y→Tk1 now (P.getD i (dft sPlace)) y z→TkN now P x (i+1) z
theorem due_st {t:Task} {now:Int} (h:due t now=true):(t.1=2∨t.1=3)∧t.2.2.1≤now:=by
 unfold due at h
 simp only [Bool.and_eq_true,Bool.or_eq_true,beq_iff_eq,decide_eq_true_eq]at h
 exact h
section
variable {now nr nt ac:Int} {es:List Event}
theorem tk1_sx {p:Place} {x y:TkS} (h:Tk1 now p x y) (hx:SX now nr nt x.2.2.1 x.2.2.2.1 ac x.2.1 (es++x.2.2.2.2)) (h1:x.2.2.1+1≤1099511627776) (h2:x.2.2.2.1+1≤1099511627776):
  SX now nr nt y.2.2.1 y.2.2.2.1 ac y.2.1 (es++y.2.2.2.2)∧x.2.2.1≤y.2.2.1∧y.2.2.1≤x.2.2.1+1∧x.2.2.2.1≤y.2.2.2.1∧y.2.2.2.1≤x.2.2.2.1+1∧y.2.2.2.2.length≤x.2.2.2.2.length+1:=by
 cases h with
 |skip d R nk ne w h=>exact⟨hx,by simp only;omega,by simp only;omega,by simp only;omega,by simp only;omega,by omega⟩
 |wake d R nk ne w n k r' hn hid hp hk hd h3 hT=>
  simp only at hx h1 h2
  have hro:=hx.rok hn
  have htk:=hro.tks k hk
  obtain⟨g1,g2,g3,g4,g5,g6,g7,g8⟩:=htk
  have hst:=goes_of hro hk (show(tkA _ k).1≤3 by simp only [tkA];simp only [tsA]at h3;omega)
  have hnk:=hx.nkI
  have h3':(tkA (R.getD n (dft sRun)) k).1=3:=h3
  simp only [tkA]at h3'
  have ht:TkT (ndA (R.getD n (dft sRun)) k) (ofNat 1,((tsA R n).getD k (dft sTask)).2.1,ofNat 0,ofNat 0,nk,()):=
   ⟨g1,in0,in0,hnk,fun _=>rfl,fun h=>absurd rfl h,⟨fun h=>absurd rfl h,fun h=>absurd h (neD rfl)⟩,.inr (.inl ⟨rfl,by simp only [tsA,ndA];omega⟩)⟩
  have hok:=turn_rok hro hst hk (by rw [tkA,h3'];decide) (by rw [tkA,h3'];decide) ht (neD rfl) (neD rfl) (neD rfl) hT
  have:=sx_set (new:=[]) (nt':=nt) (nk':=nk+1) (ne':=ne) hx hn hT.id hT.key hok (turn_rel hT (rel_set hk (fun h=>absurd h (neD rfl)) (fun _=>.inr ⟨le_refl _,by simp only [rnk];omega⟩) (hx.low n hn))) hx.ckI ⟨le_refl _,hx.ntI.2⟩ ⟨by omega,h1⟩ (by simp) hx.neI.2 (fun j hj=>absurd hj (not_lt_zero _))
  rw [append_nil]at this
  exact⟨this,by simp only;omega,by simp only;omega,by simp only;omega,by simp only;omega,by simp only;omega⟩
 |lapse d R nk ne w n k t' r' hn hid hp hk hd h3 hf hT=>
  simp only at hx h1 h2
  have hro:=hx.rok hn
  have htk:=hro.tks k hk
  have h3':(tkA (R.getD n (dft sRun)) k).1=2:=h3
  simp only [tkA]at h3'
  have hst:=goes_of hro hk (show(tkA _ k).1≤3 by simp only [tkA];omega)
  have htr:1≤((tsA R n).getD k (dft sTask)).2.1:=by
   obtain⟨g1,g2,g3,g4,g5,g6,g7,g8⟩:=htk
   simp only [tsA];omega
  obtain⟨q1,q2,q3,q4,q5,q6⟩:=flt_tkt htk htr hf
  have hok:=turn_rok hro hst hk (by rw [tkA,h3'];decide) (by rw [tkA,h3'];decide) q1 q2 q3 q4 hT
  have hid:=hx.id hn
  have hkk:=hx.task hn hk
  have hev:NewEv ne nr [failEv ne r' k]:=by
   unfold failEv
   rw [hT.id]
   split
   ·exact ev_one (by decide) hid (by decide) (.inl rfl)
   ·exact ev_one (by decide) hid hkk (.inr (.inr rfl))
  have:=sx_set (new:=[failEv ne r' k]) (nt':=nt) (nk':=nk) (ne':=ne+1) hx hn hT.id hT.key hok (turn_rel hT (rel_set hk (fun h=>absurd h q6) (fun h=>absurd h q5) (hx.low n hn))) hx.ckI ⟨le_refl _,hx.ntI.2⟩ ⟨le_refl _,hx.nkI.2⟩ rfl h2 hev
  rw [List.append_assoc]at this
  exact⟨this,by simp only;omega,by simp only;omega,by simp only;omega,by simp only;omega,by simp only [length_append,length_singleton];omega⟩
theorem tkn_sx {P:List Place} {x:TkS} (hx:SX now nr nt x.2.2.1 x.2.2.2.1 ac x.2.1 (es++x.2.2.2.2)):∀(i:Nat) (y:TkS),TkN now P x i y→x.2.2.1+i≤1099511627776→x.2.2.2.1+i≤1099511627776→
  SX now nr nt y.2.2.1 y.2.2.2.1 ac y.2.1 (es++y.2.2.2.2)∧x.2.2.1≤y.2.2.1∧y.2.2.1≤x.2.2.1+i∧x.2.2.2.1≤y.2.2.2.1∧y.2.2.2.1≤x.2.2.2.1+i∧y.2.2.2.2.length≤x.2.2.2.2.length+i
 |_,_,.zero,h1,h2=>⟨hx,by omega,by omega,by omega,by omega,by omega⟩
 |_,z,.step i y _ hy h,h1,h2=>by
  obtain⟨q1,q2,q3,q4,q5,q6⟩:=tkn_sx hx i y hy (by omega) (by omega)
  obtain⟨p1,p2,p3,p4,p5,p6⟩:=tk1_sx h q1 (by omega) (by omega)
  exact⟨p1,by omega,by omega,by omega,by omega,by omega⟩
end
abbrev rpl (a b d:Int):Reply:=(ofNat 0,a,b,d,r0_,[],())
structure Fresh (nr nt nk ne:Int):Prop where
 nr:nr≤1099511627676
 nt:nt≤1099511627676
 nk:nk≤1099511627676
 ne:ne≤1099511627676
noncomputable abbrev startS (ns:List Node) (nk:Int):Int×List Task:=opn ns (nk,replicate ns.length t0) ns.length
inductive Stp (ck nr nt nk ne ac:Int) (rs:List Run) (es:List Event) (c:Call):State→Reply→Prop
 |err (n:Nat):Stp ck nr nt nk ne ac rs es c (mkS ck nr nt nk ne ac rs es) (ofNat (n+1),ofNat 0,ofNat 0,ofNat 0,r0_,[],())
 |known (n:Nat) (hk:c.1=1) (hn:n<rs.length) (hkey:keyL (rs.getD n (dft sRun))=c.2.1.toList):Stp ck nr nt nk ne ac rs es c (mkS ck nr nt nk ne ac rs es) (rpl (rs.getD n (dft sRun)).1 (ofNat 0) (ofNat 0))
 |new (hk:c.1=1) (hf:Fresh nr nt nk ne) (hno:∀n:Nat,n<rs.length→keyL (rs.getD n (dft sRun))≠c.2.1.toList) (h32:rs.length<32) (hkey:1≤c.2.1.size∧c.2.1.size≤24) (hd:Dag c.2.2.1.1) (hrk:Rkd nk):
   Stp ck nr nt nk ne ac rs es c (mkS ck (nr+1) nt (startS c.2.2.1.1 nk).1 (ne+1) ac (rs++ [(nr,c.2.1,c.2.2.1,ofNat 1,(startS c.2.2.1.1 nk).2,())]) (es++ [(ne,ofNat 1,nr,ofNat 0,())])) (rpl nr (ofNat 0) (ofNat 0))
 |poll (n k:Nat) (un:Int) (r':Run) (hk:c.1=2) (hf:Fresh nr nt nk ne) (hn:n<rs.length) (hkl:k<(tsA rs n).length) (h1:((tsA rs n).getD k (dft sTask)).1=1) (hun:InC un) (hT:Turn (rs.getD n (dft sRun)) k (ofNat 2,((tsA rs n).getD k (dft sTask)).2.1+1,un,nt,ofNat 0,()) r'):
   Stp ck nr nt nk ne ac rs es c (mkS ck nr (nt+1) nk ne ac (rs.set n r') es) (rpl (rs.getD n (dft sRun)).1 (k:Int) nt)
 |complete (n k:Nat) (r':Run) (rk':Int) (w:List Event) (hk:c.1=3) (hf:Fresh nr nt nk ne) (hn:n<rs.length) (hid:(rs.getD n (dft sRun)).1=c.2.2.2.1) (hi:c.2.2.2.2.1=k) (hkl:k<(tsA rs n).length) (hrk:Rkd nk) (hh:Hld (ndA (rs.getD n (dft sRun)) k) ((tsA rs n).getD k (dft sTask)) c.2.2.2.2.2.1) (hC:Cmpl (rs.getD n (dft sRun)) k nk r' rk')
   (hw:(r'.2.2.2.1≠2∧w= [(ne,ofNat 2,r'.1,(k:Int),())])∨(r'.2.2.2.1=2∧w= [(ne,ofNat 2,r'.1,(k:Int),()),(ne+1,ofNat 4,r'.1,ofNat 0,())])):
   Stp ck nr nt nk ne ac rs es c (mkS ck nr nt rk' (ne+w.length) ac (rs.set n r') (es++w)) (rpl (ofNat 0) (ofNat 0) (ofNat 0))
 |fail (n k:Nat) (t':Task) (r':Run) (hk:c.1=4) (hf:Fresh nr nt nk ne) (hn:n<rs.length) (hid:(rs.getD n (dft sRun)).1=c.2.2.2.1) (hi:c.2.2.2.2.1=k) (hkl:k<(tsA rs n).length) (hh:Hld (ndA (rs.getD n (dft sRun)) k) ((tsA rs n).getD k (dft sTask)) c.2.2.2.2.2.1) (hfl:FlT (ndA (rs.getD n (dft sRun)) k) ((tsA rs n).getD k (dft sTask)) ck t') (hT:Turn (rs.getD n (dft sRun)) k t' r'):
   Stp ck nr nt nk ne ac rs es c (mkS ck nr nt nk (ne+1) ac (rs.set n r') (es++ [failEv ne r' k])) (rpl (ofNat 0) (ofNat 0) (ofNat 0))
 |beat (n k:Nat) (un:Int) (r':Run) (hk:c.1=5) (hf:Fresh nr nt nk ne) (hn:n<rs.length) (hid:(rs.getD n (dft sRun)).1=c.2.2.2.1) (hi:c.2.2.2.2.1=k) (hkl:k<(tsA rs n).length) (hh:Hld (ndA (rs.getD n (dft sRun)) k) ((tsA rs n).getD k (dft sTask)) c.2.2.2.2.2.1) (hun:InC un)
   (hT:Turn (rs.getD n (dft sRun)) k (((tsA rs n).getD k (dft sTask)).1,((tsA rs n).getD k (dft sTask)).2.1,un,((tsA rs n).getD k (dft sTask)).2.2.2.1,((tsA rs n).getD k (dft sTask)).2.2.2.2.1,()) r'):
   Stp ck nr nt nk ne ac rs es c (mkS ck nr nt nk ne ac (rs.set n r') es) (rpl (ofNat 0) (ofNat 0) (ofNat 0))
 |cancel (n:Nat) (r':Run) (hk:c.1=6) (hf:Fresh nr nt nk ne) (hn:n<rs.length) (hid:(rs.getD n (dft sRun)).1=c.2.2.2.1) (h1:(rs.getD n (dft sRun)).2.2.2.1=1) (e1:r'.1=(rs.getD n (dft sRun)).1) (e2:r'.2.1=(rs.getD n (dft sRun)).2.1) (e3:r'.2.2.1=(rs.getD n (dft sRun)).2.2.1) (e4:r'.2.2.2.1=4) (hd:DrpOk (rs.getD n (dft sRun)).2.2.1.1 (tsA rs n) r'.2.2.2.2.1):
   Stp ck nr nt nk ne ac rs es c (mkS ck nr nt nk (ne+1) ac (rs.set n r') (es++ [(ne,ofNat 6,r'.1,ofNat 0,())])) (rpl (ofNat 0) (ofNat 0) (ofNat 0))
 |tick (l:List Place) (d:Int) (R:List Run) (nk' ne':Int) (w:List Event) (hk:c.1=7) (hf:Fresh nr nt nk ne) (h1:ck≤c.2.2.2.2.2.2.2.1) (h2:c.2.2.2.2.2.2.2.1≤1099511627776) (hl:l.Perm (pl rs c.2.2.2.2.2.2.2.1)) (hs:Srt l) (hN:TkN c.2.2.2.2.2.2.2.1 l (ofNat 0,rs,nk,ne,[]) (min 16 l.length) (d,R,nk',ne',w)):
   Stp ck nr nt nk ne ac rs es c (mkS c.2.2.2.2.2.2.2.1 nr nt nk' ne' ac R (es++w)) (rpl (ofNat 0) d (ofNat 0))
 |query (n:Nat) (hk:c.1=8) (hn:n<rs.length) (hid:(rs.getD n (dft sRun)).1=c.2.2.2.1):Stp ck nr nt nk ne ac rs es c (mkS ck nr nt nk ne ac rs es) (ofNat 0,ofNat 0,ofNat 0,ofNat 0,rs.getD n (dft sRun),[],())
 |drain (m:Nat) (hk:c.1=9):Stp ck nr nt nk ne ac rs es c (mkS ck nr nt nk ne ac rs es) (ofNat 0,ofNat 0,ofNat 0,ofNat 0,r0_,es.take m,())
 |ack (hk:c.1=10) (h1:ac≤c.2.2.2.2.2.2.2.1) (h2:c.2.2.2.2.2.2.2.1<ne):Stp ck nr nt nk ne ac rs es c (mkS ck nr nt nk ne c.2.2.2.2.2.2.2.1 rs (es.drop (c.2.2.2.2.2.2.2.1-ac).toNat)) (rpl (ofNat 0) (ofNat 0) (ofNat 0))
structure Grow (ck nr nt nk ne ac:Int) (t:State):Prop where
 ck:ck≤t.1
 nr:nr≤t.2.1
 nt:nt≤t.2.2.1
 nk:nk≤t.2.2.2.1
 ne:ne≤t.2.2.2.2.1
 ac:ac≤t.2.2.2.2.2.1
theorem stp_sx {ck nr nt nk ne ac:Int} {rs:List Run} {es:List Event} {c:Call} {t:State} {r:Reply} (h:SX ck nr nt nk ne ac rs es) (hs:Stp ck nr nt nk ne ac rs es c t r):SX t.1 t.2.1 t.2.2.1 t.2.2.2.1 t.2.2.2.2.1 t.2.2.2.2.2.1 t.2.2.2.2.2.2.1 t.2.2.2.2.2.2.2.1∧Grow ck nr nt nk ne ac t:=by
 have refl:∀z:Int,z≤z:=le_refl
 have hnil:∀z,NewEv ne z []:=fun z j hj=>absurd hj (not_lt_zero _)
 cases hs with
 |err n=>exact⟨h,refl _,refl _,refl _,refl _,refl _,refl _⟩
 |known n=>exact⟨h,refl _,refl _,refl _,refl _,refl _,refl _⟩
 |query n=>exact⟨h,refl _,refl _,refl _,refl _,refl _,refl _⟩
 |drain m=>exact⟨h,refl _,refl _,refl _,refl _,refl _,refl _⟩
 |new hk hf hno h32 hkey hd hrk=>
  obtain⟨f1,f2,f3,f4⟩:=hf
  have h12:=hd.1
  obtain⟨ho,hop⟩:=start_rok (id:=nr) h.nrI hkey hd hrk
  have h0:∀t∈replicate c.2.2.1.1.length t0,t.1=0:=fun t ht=>by rw [List.eq_of_mem_replicate ht];rfl
  have hlow:∀t∈replicate c.2.2.1.1.length t0,Low nt nk t:=fun t ht=>by
   have:=h0 t ht
   exact⟨fun a=>by omega,fun a=>by omega⟩
  have hlo:=hop.lo
  have hhi:=hop.hi
  have hrel:=rel_opn (nk':=(startS c.2.2.1.1 nk).1) (ts':=(startS c.2.2.1.1 nk).2) (rel_same hlow) hlow hop
  exact⟨sx_new (r':=(nr,c.2.1,c.2.2.1,ofNat 1,(startS c.2.2.1.1 nk).2,())) h h32 rfl hno ho h0 hrel (by omega) ⟨hlo,by simp only [mkS,startS];omega⟩ (by omega),refl _,by simp only;omega,refl _,hlo,by simp only;omega,refl _⟩
 |poll n k un r' hk hf hn hkl h1 hun hT=>
  obtain⟨f1,f2,f3,f4⟩:=hf
  have hro:=h.rok hn
  obtain⟨g1,g2,g3,g4,g5,g6,g7,g8⟩:=hro.tks k hkl
  have h1':(tkA (rs.getD n (dft sRun)) k).1=1:=h1
  simp only [tkA]at h1'
  have hst:=goes_of hro hkl (show(tkA _ k).1≤3 by simp only [tkA];omega)
  have hnt:=h.ntI
  have ht:TkT (ndA (rs.getD n (dft sRun)) k) (ofNat 2,((tsA rs n).getD k (dft sTask)).2.1+1,un,nt,ofNat 0,()):=
   ⟨⟨by simp only [tsA,ndA];omega,by simp only [tsA,ndA];omega⟩,hun,⟨by simp only;omega,by simp only;omega⟩,in0,fun h=>absurd rfl h,fun _=>.inl rfl,⟨fun _=>rfl,fun _=>by simp only;omega⟩,.inr (.inr (.inl ⟨rfl,by simp only [tsA,ndA];omega⟩))⟩
  have hok:=turn_rok hro hst hkl (by rw [tkA,h1'];decide) (by rw [tkA,h1'];decide) ht (neD rfl) (neD rfl) (neD rfl) hT
  have:=sx_set (new:=[]) (nt':=nt+1) (nk':=nk) (ne':=ne) h hn hT.id hT.key hok (turn_rel hT (rel_set hkl (fun _=>.inr ⟨le_refl _,by simp only [tok];omega⟩) (fun h=>absurd h (neD rfl)) (h.low n hn))) h.ckI ⟨by omega,by omega⟩ ⟨refl _,h.nkI.2⟩ (by simp) h.neI.2 (hnil _)
  rw [append_nil]at this
  exact⟨this,refl _,refl _,by simp only;omega,refl _,refl _,refl _⟩
 |complete n k r' rk' w hk hf hn hid hi hkl hrk hh hC hw=>
  obtain⟨f1,f2,f3,f4⟩:=hf
  have hro:=h.rok hn
  have hh2:=hh
  obtain⟨_,_,_,c2,_⟩:=hh2
  have c2':(tkA (rs.getD n (dft sRun)) k).1=2:=c2
  have hst:=goes_of hro hkl (by rw [c2'];decide)
  obtain⟨hok,hop⟩:=complete_rok hro hst hkl hrk hh hC
  have hlo:=hop.lo
  have hhi:=hop.hi
  simp only at hlo hhi
  have h12:=hro.dag.1.2
  have hrel:=rel_opn (rel_set (k:=k) (nt':=nt) (nk':=nk) (t:=(ofNat 4,(tkA (rs.getD n (dft sRun)) k).2.1,ofNat 0,ofNat 0,ofNat 0,())) hkl (fun h=>absurd h (neD rfl)) (fun h=>absurd h (neD rfl)) (h.low n hn)) (h.low n hn) hop
  have hid':=h.id hn
  have hkk:=h.task hn hkl
  have hwl:w.length≤2:=by rcases hw with⟨_,rfl⟩|⟨_,rfl⟩<;>simp
  have hev:NewEv ne nr w:=by
   rw [hC.id]at hw
   rcases hw with⟨_,rfl⟩|⟨_,rfl⟩
   ·exact ev_one (by decide) hid' hkk (.inr (.inl rfl))
   ·exact ev_app (a:=[_]) (b:=[_]) (ev_one (by decide) hid' hkk (.inr (.inl rfl))) (ev_one (by decide) hid' (by decide) (.inl rfl))
  exact⟨sx_set h hn hC.id hC.key hok hrel h.ckI ⟨refl _,h.ntI.2⟩ ⟨hlo,by simp only [mkS];omega⟩ rfl (by simp only [mkS];omega) hev,refl _,refl _,refl _,hlo,by simp only;omega,refl _⟩
 |fail n k t' r' hk hf hn hid hi hkl hh hfl hT=>
  obtain⟨f1,f2,f3,f4⟩:=hf
  have hro:=h.rok hn
  obtain⟨htk,_,_,c2,_⟩:=hh
  have c2':(tkA (rs.getD n (dft sRun)) k).1=2:=c2
  have hst:=goes_of hro hkl (by rw [c2'];decide)
  have htr:1≤((tsA rs n).getD k (dft sTask)).2.1:=by
   obtain⟨g1,g2,g3,g4,g5,g6,g7,g8⟩:=htk
   simp only [tsA,ndA]at*;omega
  obtain⟨q1,q2,q3,q4,q5,q6⟩:=flt_tkt htk htr hfl
  have hok:=turn_rok hro hst hkl (by rw [c2'];decide) (by rw [c2'];decide) q1 q2 q3 q4 hT
  have hid':=h.id hn
  have hkk:=h.task hn hkl
  have hev:NewEv ne nr [failEv ne r' k]:=by
   unfold failEv
   rw [hT.id]
   split
   ·exact ev_one (by decide) hid' (by decide) (.inl rfl)
   ·exact ev_one (by decide) hid' hkk (.inr (.inr rfl))
  exact⟨sx_set h hn hT.id hT.key hok (turn_rel hT (rel_set hkl (fun h=>absurd h q6) (fun h=>absurd h q5) (h.low n hn))) h.ckI ⟨refl _,h.ntI.2⟩ ⟨refl _,h.nkI.2⟩ rfl (by simp only [mkS];omega) hev,refl _,refl _,refl _,refl _,by simp only;omega,refl _⟩
 |beat n k un r' hk hf hn hid hi hkl hh hun hT=>
  obtain⟨f1,f2,f3,f4⟩:=hf
  have hro:=h.rok hn
  obtain⟨htk,_,_,c2,_⟩:=hh
  have c2':(tkA (rs.getD n (dft sRun)) k).1=2:=c2
  have hst:=goes_of hro hkl (by rw [c2'];decide)
  obtain⟨g1,g2,g3,g4,g5,g6,g7,g8⟩:=htk
  have ht:TkT (ndA (rs.getD n (dft sRun)) k) (((tsA rs n).getD k (dft sTask)).1,((tsA rs n).getD k (dft sTask)).2.1,un,((tsA rs n).getD k (dft sTask)).2.2.2.1,((tsA rs n).getD k (dft sTask)).2.2.2.2.1,()):=
   ⟨g1,hun,g3,g4,g5,fun _=>.inl c2,g7,g8⟩
  have hok:=turn_rok hro hst hkl (by rw [c2'];decide) (by rw [c2'];decide) ht (by rw [c2];decide) (by rw [c2];decide) (by rw [c2];decide) hT
  have:=sx_set (new:=[]) (nt':=nt) (nk':=nk) (ne':=ne) h hn hT.id hT.key hok (turn_rel hT (rel_set hkl (fun _=>.inl ⟨c2,rfl⟩) (fun h=>by simp only at h;rw [c2]at h;exact absurd h (neD rfl)) (h.low n hn))) h.ckI ⟨refl _,h.ntI.2⟩ ⟨refl _,h.nkI.2⟩ (by simp) h.neI.2 (hnil _)
  rw [append_nil]at this
  exact⟨this,refl _,refl _,refl _,refl _,refl _,refl _⟩
 |cancel n r' hk hf hn hid h1 e1 e2 e3 e4 hd=>
  obtain⟨f1,f2,f3,f4⟩:=hf
  have hro:=h.rok hn
  have hok:=cancel_rok hro h1 e1 e2 e3 e4 hd
  have hev:NewEv ne nr [(ne,ofNat 6,r'.1,ofNat 0,())]:=by
   rw [e1]
   exact ev_one (by decide) (h.id hn) (by decide) (.inl rfl)
  exact⟨sx_set (nt':=nt) (nk':=nk) h hn e1 e2 hok (rel_drp (rel_same (h.low n hn)) hd) h.ckI ⟨refl _,h.ntI.2⟩ ⟨refl _,h.nkI.2⟩ rfl (by simp only [mkS];omega) hev,refl _,refl _,refl _,refl _,by simp only;omega,refl _⟩
 |tick l d R nk' ne' w hk hf h1 h2 hl hs' hN=>
  obtain⟨f1,f2,f3,f4⟩:=hf
  have hx:SX c.2.2.2.2.2.2.2.1 nr nt nk ne ac rs (es++ []):=by
   rw [append_nil]
   exact⟨h.fine,⟨by have:=h.ckI.1;omega,h2⟩,h.nrI,h.nkI,h.ntI,h.neI,h.ack,h.elen,h.late,h.evs⟩
  obtain⟨q1,q2,q3,q4,q5,q6⟩:=tkn_sx (x:=(ofNat 0,rs,nk,ne,[])) hx _ _ hN (by simp only;omega) (by simp only;omega)
  exact⟨q1,h1,refl _,refl _,q2,q4,refl _⟩
 |ack hk h1 h2=>
  have hel:=h.elen
  have hack:=h.ack
  refine⟨⟨h.fine,h.ckI,h.nrI,h.nkI,h.ntI,h.neI,⟨by simp only;omega,h2⟩,by rw [length_drop];simp only;omega,h.late,fun j hj=> ?_⟩,refl _,refl _,refl _,refl _,refl _,h1⟩
  simp only [length_drop]at hj⊢
  have:=h.evs ((c.2.2.2.2.2.2.2.1-ac).toNat+j) (by omega)
  rw [getD_eq_getElem?_getD,List.getElem?_drop,←getD_eq_getElem?_getD]
  exact⟨by omega,this.2⟩
abbrev errR (v:Int):Reply:=(v,ofNat 0,ofNat 0,ofNat 0,r0_,[],())
abbrev mk (ck nr nt nk ne ac:Int) (rs:List Run) (es:List Event):State:=(ck,nr,nt,nk,ne,ac,rs,es,())
theorem tr_ok {P:Prop} {F:Option (Task×Int×Unit)} {t t':Task} (h:TRes F P t) (he:F=some (t',0,())):P∧t'=t:=by
 rcases h with⟨hp,h⟩|⟨_,n,h⟩
 ·rw [he]at h
  injection h with h
  exact⟨hp,(Prod.mk.inj h).1⟩
 ·rw [he]at h
  injection h with h
  have:=(Prod.mk.inj (Prod.mk.inj h).2).1
  simp only [ofN]at this
  omega
theorem tr_D {P:Prop} {F:Option (Task×Int×Unit)} {t:Task} (h:TRes F P t) (ht:P→0≤t.1):(∃t',F=some (t',0,())∧0≤t'.1)∨∃n:Nat,F=some (t0,ofNat (n+1),()):=by
 rcases h with⟨hp,h⟩|⟨_,h⟩
 ·exact .inl ⟨t,h,ht hp⟩
 ·exact .inr h
theorem flt_pos {nd:Node} {t t':Task} {now:Int} (h:FlT nd t now t'):0≤t'.1:=by
 rcases h with⟨_,rfl⟩|⟨_,u,_,rfl⟩
 ·exact natCast_nonneg 5
 ·exact natCast_nonneg 3
theorem nd_ok {r:Run} (h:ROk r) {k:Nat} (hk:k<r.2.2.2.2.1.length):NdOk (ndA r k):=sh_nd h.dag.2.1 (by have:=h.len;omega)
theorem tk_pos {r:Run} (h:ROk r) {k:Nat} (hk:k<r.2.2.2.2.1.length):0≤(tkA r k).1:=(tkt_st (h.tks k hk)).1
section
variable {S R:Type} {G:S→R→Prop}
theorem lease_step {K:Run×Int×Unit→Option (S×R×Unit)} (r:Run) (hr:OkR r) (i tk un:Int) (hok:∀(r':Run) (k:Nat),i=k→k<r.2.2.2.2.1.length→(tkA r k).1=1→InC un→Turn r k (ofNat 2,(tkA r k).2.1+1,un,tk,ofNat 0,()) r'→∃t q,K (r',0,())=some (t,q,())∧G t q) (herr:∀n:Nat,∃t q,K (r0_,ofNat (n+1),())=some (t,q,())∧G t q):
  ∃t q,(F121 (r,i,tk,un,())).bind K=some (t,q,())∧G t q:=by
 obtain⟨r',e',hc,hq⟩:=turn_ok r hr i (fun nd t=>F167 (nd,t,tk,un,())) (fun nd t h1 h2 h3=>tr_D (f167 nd t tk un h1 h2) fun _=>natCast_nonneg 2)
 rw [←lease_eq]at hc
 rw [hc]
 rcases hq with⟨rfl,hro,_,k,t',hi,hk,hD,ht⟩|⟨⟨m,rfl⟩,rfl,_⟩
 ·obtain⟨⟨_,_,hun,htk,h1⟩,rfl⟩:=tr_ok (f167 _ _ tk un (nd_ok hro hk) (tk_pos hro hk)) hD
  have h5:=tries5 (nd_ok hro hk) htk
  have h0:=htk.1.1
  have e:IntKind.i64.wrap ((tkA r k).2.1+ofNat 1)=(tkA r k).2.1+1:=by rw [IntKind.wrap_i64];simp only [ofN];omega
  rw [e]at ht
  exact hok r' k hi hk h1 hun ht
 ·exact herr m
theorem beat_step {K:Run×Int×Unit→Option (S×R×Unit)} (r:Run) (hr:OkR r) (i tk un:Int) (hok:∀(r':Run) (k:Nat),i=k→k<r.2.2.2.2.1.length→Hld (ndA r k) (tkA r k) tk→InC un→Turn r k ((tkA r k).1,(tkA r k).2.1,un,(tkA r k).2.2.2.1,(tkA r k).2.2.2.2.1,()) r'→∃t q,K (r',0,())=some (t,q,())∧G t q) (herr:∀n:Nat,∃t q,K (r0_,ofNat (n+1),())=some (t,q,())∧G t q):
  ∃t q,(F126 (r,i,tk,un,())).bind K=some (t,q,())∧G t q:=by
 obtain⟨r',e',hc,hq⟩:=turn_ok r hr i (fun nd t=>F173 (nd,t,tk,un,())) (fun nd t h1 h2 h3=>tr_D (f173 nd t tk un h1 h2) fun _=>h2)
 rw [←beat_eq]at hc
 rw [hc]
 rcases hq with⟨rfl,hro,_,k,t',hi,hk,hD,ht⟩|⟨⟨m,rfl⟩,rfl,_⟩
 ·obtain⟨⟨hun,hh⟩,rfl⟩:=tr_ok (f173 _ _ tk un (nd_ok hro hk) (tk_pos hro hk)) hD
  exact hok r' k hi hk hh hun ht
 ·exact herr m
theorem fail_step {K:Run×Int×Unit→Option (S×R×Unit)} (r:Run) (hr:OkR r) (i tk now:Int) (hok:∀(r':Run) (k:Nat) (t':Task),i=k→k<r.2.2.2.2.1.length→Hld (ndA r k) (tkA r k) tk→FlT (ndA r k) (tkA r k) now t'→Turn r k t' r'→∃t q,K (r',0,())=some (t,q,())∧G t q) (herr:∀n:Nat,∃t q,K (r0_,ofNat (n+1),())=some (t,q,())∧G t q):
  ∃t q,(F124 (r,i,tk,now,())).bind K=some (t,q,())∧G t q:=by
 obtain⟨r',e',hc,hq⟩:=turn_ok r hr i (fun nd t=>F171 (nd,t,tk,now,())) (fun nd t h1 h2 h3=>by
  obtain⟨t',h,h4⟩:=f171 nd t tk now h1 h2
  exact tr_D h fun hp=>flt_pos (h4 hp))
 rw [←fail_eq]at hc
 rw [hc]
 rcases hq with⟨rfl,hro,_,k,t',hi,hk,hD,ht⟩|⟨⟨m,rfl⟩,rfl,_⟩
 ·obtain⟨t2,h2,h3⟩:=f171 (ndA r k) (tkA r k) tk now (nd_ok hro hk) (tk_pos hro hk)
  obtain⟨hp,rfl⟩:=tr_ok h2 hD
  exact hok r' k t' hi hk hp.2 (h3 hp) ht
 ·exact herr m
theorem cancel_step {K:Run×Int×Unit→Option (S×R×Unit)} (r:Run) (hr:OkR r) (hok:∀r':Run,r.2.2.2.1=1→r'.1=r.1→r'.2.1=r.2.1→r'.2.2.1=r.2.2.1→r'.2.2.2.1=4→DrpOk r.2.2.1.1 r.2.2.2.2.1 r'.2.2.2.2.1→∃t q,K (r',0,())=some (t,q,())∧G t q) (herr:∀n:Nat,∃t q,K (r0_,ofNat (n+1),())=some (t,q,())∧G t q):
  ∃t q,(F127 (r,())).bind K=some (t,q,())∧G t q:=by
 obtain⟨r',e',hc,hq⟩:=cancel_ok r hr
 rw [hc]
 rcases hq with⟨rfl,hro,h1,h2,h3,h4,h5,h6,_⟩|⟨⟨m,rfl⟩,rfl,_⟩
 ·exact hok r' h1 h2 h3 h4 h5 h6
 ·exact herr m
theorem complete_step {K:Run×Int×Int×Unit→Option (S×R×Unit)} (r:Run) (hr:OkR r) (i tk rk:Int) (hok:∀(r':Run) (rk':Int) (k:Nat),i=k→k<r.2.2.2.2.1.length→Rkd rk→Hld (ndA r k) (tkA r k) tk→Cmpl r k rk r' rk'→∃t q,K (r',rk',0,())=some (t,q,())∧G t q) (herr:∀r' rk' (n:Nat),∃t q,K (r',rk',ofNat (n+1),())=some (t,q,())∧G t q):
  ∃t q,(F123 (r,i,tk,rk,())).bind K=some (t,q,())∧G t q:=by
 obtain⟨r',rk',e',hc,hq⟩:=complete_ok r hr i tk rk
 rw [hc]
 rcases hq with⟨rfl,hro,_,hrk,k,hi,hk,hh,ht⟩|⟨m,rfl⟩
 ·exact hok r' rk' k hi hk hrk hh ht
 ·exact herr r' rk' m
theorem start_step {K:Run×Int×Int×Unit→Option (S×R×Unit)} (id:Int) (key:ByteArray) (sp:List Node×Unit) (hln:∀nd∈sp.1,nd.1.length≤9223372036854775807) (rk:Int) (hok:1≤key.size∧key.size≤24→Dag sp.1→Rkd rk→∃t q,K ((id,key,sp,ofNat 1,(startS sp.1 rk).2,()),(startS sp.1 rk).1,0,())=some (t,q,())∧G t q) (herr:∀r' rk' (n:Nat),∃t q,K (r',rk',ofNat (n+1),())=some (t,q,())∧G t q):
  ∃t q,(F116 (id,key,sp,rk,())).bind K=some (t,q,())∧G t q:=by
 obtain⟨ns,_⟩:=sp
 obtain⟨r',rk',e,hc,hq⟩:=start_ok id key ns hln rk
 rw [hc]
 rcases hq with⟨rfl,_,h1,hd,hk,rfl,rfl⟩|⟨⟨m,rfl⟩,_⟩
 ·exact hok h1 hd hk
 ·exact herr r' rk' m
end
theorem wake_ok (r:Run) (h:ROk r) (k:Nat) (rk now:Int) (hk:k<r.2.2.2.2.1.length) (h3:(tkA r k).1=3) (hd:due (tkA r k) now=true) (hrk:InC rk) (hnow:InC now):∃r',F177 (r,(k:Int),rk,now,())=some (r',0,())∧Turn r k (ofNat 1,(tkA r k).2.1,ofNat 0,ofNat 0,rk,()) r':=by
 have f:=fun nd t h1 h2=>f216 nd t rk now h1 h2
 obtain⟨r',e',hc,hq⟩:=turn_ok r (rok_okr h) k (fun nd t=>F216 (nd,t,rk,now,())) (fun nd t h1 h2 h3=>tr_D (f nd t h1 h2) fun _=>natCast_nonneg 1)
 rw [←wake_eq]at hc
 have hP:=f (ndA r k) (tkA r k) (nd_ok h hk) (tk_pos h hk)
 rcases hq with⟨rfl,hro,_,k',t',hi,_,hD,ht⟩|⟨_,_,hno⟩
 ·obtain rfl:k=k':=by omega
  obtain⟨_,rfl⟩:=tr_ok hP hD
  exact⟨r',hc,ht⟩
 ·refine absurd ⟨h,goes_of h hk (by rw [h3];decide),k,(ofNat 1,(tkA r k).2.1,ofNat 0,ofNat 0,rk,()),rfl,hk,?_⟩ hno
  rcases hP with⟨_,hP⟩|⟨hP,_⟩
  ·exact hP
  ·exact absurd ⟨hrk,hnow,h.tks k hk,h3,hd⟩ hP
theorem lapse_ok (r:Run) (h:ROk r) (k:Nat) (now:Int) (hk:k<r.2.2.2.2.1.length) (h2:(tkA r k).1=2) (hd:due (tkA r k) now=true) (hnow:InC now):∃r' t',F178 (r,(k:Int),now,())=some (r',0,())∧FlT (ndA r k) (tkA r k) now t'∧Turn r k t' r':=by
 obtain⟨r',e',hc,hq⟩:=turn_ok r (rok_okr h) k (fun nd t=>F218 (nd,t,now,())) (fun nd t h1 h2 h3=>by
  obtain⟨t',h,h4⟩:=f218 nd t now h1 h2
  exact tr_D h fun hp=>flt_pos (h4 hp))
 rw [←lapse_eq]at hc
 obtain⟨t2,hP,hf⟩:=f218 (ndA r k) (tkA r k) now (nd_ok h hk) (tk_pos h hk)
 rcases hq with⟨rfl,hro,_,k',t',hi,_,hD,ht⟩|⟨_,_,hno⟩
 ·obtain rfl:k=k':=by omega
  obtain⟨hp,rfl⟩:=tr_ok hP hD
  exact⟨r',t',hc,hf hp,ht⟩
 ·refine absurd ⟨h,goes_of h hk (by rw [h2];decide),k,t2,rfl,hk,?_⟩ hno
  rcases hP with⟨_,hP⟩|⟨hP,_⟩
  ·exact hP
  ·exact absurd ⟨hnow,h.tks k hk,h2,hd⟩ hP
def Done (ck nr nt nk ne ac:Int) (rs:List Run) (es:List Event) (c:Call) (t:State) (r:Reply):Prop:=Stp ck nr nt nk ne ac rs es c t r∧t.2.2.2.2.2.2.2.1.length≤40
theorem wr1 {z:Int} (h0:0≤z) (h:z≤1099511627776):IntKind.i64.wrap (z+ofNat 1)=z+1:=by rw [IntKind.wrap_i64];simp only [ofN];omega
theorem wr2 {z:Int} (h0:0≤z) (h:z≤1099511627776):IntKind.i64.wrap (IntKind.i64.wrap (z+ofNat 1)+ofNat 1)=z+2:=by rw [wr1 h0 h,IntKind.wrap_i64];simp only [ofN];omega
theorem wrm {z:Int} (h0:0≤z) (h:z≤1099511627776):IntKind.i64.wrap (IntKind.i64.wrap (z+ofNat 1)-ofNat 1)=z:=by rw [wr1 h0 h,IntKind.wrap_i64];simp only [ofN];omega
theorem tset {rs:List Run} (n:Nat) (r':Run):take rs.length (rs.set n r')=rs.set n r':=take_of_length_le (by rw [length_set];exact Nat.le_refl _)
theorem f48 (ck nr nt nk ne ac:Int) (rs:List Run) (es:List Event):∃b,F48 (mk ck nr nt nk ne ac rs es,())=some (b,())∧(b=false→Fresh nr nt nk ne):=by
 refine⟨_,rfl,fun h=> ?_⟩
 have h:=of_decide_eq_false h
 simp only [ofN]at h
 constructor<;>(split at h<;>split at h<;>split at h<;>omega)
section
variable {ck nr nt nk ne ac:Int} {rs:List Run} {es:List Event} {c:Call} {ck' nr' nt' nk' ne' ac':Int} {R:List Run} {E:List Event} {a b d:Int}
theorem dn_err (h:SOk (mk ck nr nt nk ne ac rs es)) (n:Nat):Done ck nr nt nk ne ac rs es c (mk ck nr nt nk ne ac rs es) (errR (ofNat (n+1))):=⟨.err n,h.ev40⟩
theorem dn_known (h:SOk (mk ck nr nt nk ne ac rs es)) {n:Nat} (hk:c.1=1) (hn:n<rs.length) (hkey:keyL (rs.getD n (dft sRun))=c.2.1.toList) (ha:(rs.getD n (dft sRun)).1=a):Done ck nr nt nk ne ac rs es c (mk ck nr nt nk ne ac rs es) (rpl a (ofNat 0) (ofNat 0)):=by
 subst ha;exact⟨.known n hk hn hkey,h.ev40⟩
theorem dn_new (hk:c.1=1) (hf:Fresh nr nt nk ne) (hno:∀n:Nat,n<rs.length→keyL (rs.getD n (dft sRun))≠c.2.1.toList) (h32:rs.length<32) (hkey:1≤c.2.1.size∧c.2.1.size≤24) (hd:Dag c.2.2.1.1) (hrk:Rkd nk) (hnr:nr'=nr+1) (hne:ne'=ne+1) (hR:R=rs++ [(nr,c.2.1,c.2.2.1,ofNat 1,(startS c.2.2.1.1 nk).2,())]) (hE:E=es++ [(ne,ofNat 1,nr,ofNat 0,())]) (h40:E.length≤40):
  Done ck nr nt nk ne ac rs es c (mk ck nr' nt (startS c.2.2.1.1 nk).1 ne' ac R E) (rpl nr (ofNat 0) (ofNat 0)):=by
 subst hnr hne hR hE;exact⟨.new hk hf hno h32 hkey hd hrk,h40⟩
theorem dn_poll (h:SOk (mk ck nr nt nk ne ac rs es)) {n k:Nat} {un:Int} {r':Run} (hk:c.1=2) (hf:Fresh nr nt nk ne) (hn:n<rs.length) (hkl:k<(tsA rs n).length) (h1:((tsA rs n).getD k (dft sTask)).1=1) (hun:InC un) (hT:Turn (rs.getD n (dft sRun)) k (ofNat 2,((tsA rs n).getD k (dft sTask)).2.1+1,un,nt,ofNat 0,()) r') (ha:(rs.getD n (dft sRun)).1=a) (hb:b=k) (hd:d=nt) (hnt:nt'=nt+1) (hR:R=rs.set n r'):
  Done ck nr nt nk ne ac rs es c (mk ck nr nt' nk ne ac R es) (rpl a b d):=by
 subst ha hb hnt hR;rw [hd];exact⟨.poll n k un r' hk hf hn hkl h1 hun hT,h.ev40⟩
theorem dn_complete {n k:Nat} {r':Run} {rk':Int} {w:List Event} (hk:c.1=3) (hf:Fresh nr nt nk ne) (hn:n<rs.length) (hid:(rs.getD n (dft sRun)).1=c.2.2.2.1) (hi:c.2.2.2.2.1=k) (hkl:k<(tsA rs n).length) (hrk:Rkd nk) (hh:Hld (ndA (rs.getD n (dft sRun)) k) ((tsA rs n).getD k (dft sTask)) c.2.2.2.2.2.1) (hC:Cmpl (rs.getD n (dft sRun)) k nk r' rk')
  (hw:(r'.2.2.2.1≠2∧w= [(ne,ofNat 2,r'.1,(k:Int),())])∨(r'.2.2.2.1=2∧w= [(ne,ofNat 2,r'.1,(k:Int),()),(ne+1,ofNat 4,r'.1,ofNat 0,())])) (hne:ne'=ne+w.length) (hR:R=rs.set n r') (hE:E=es++w) (h40:E.length≤40):
  Done ck nr nt nk ne ac rs es c (mk ck nr nt rk' ne' ac R E) (rpl (ofNat 0) (ofNat 0) (ofNat 0)):=by
 subst hne hR hE;exact⟨.complete n k r' rk' w hk hf hn hid hi hkl hrk hh hC hw,h40⟩
theorem dn_fail {n k:Nat} {t':Task} {r':Run} (hk:c.1=4) (hf:Fresh nr nt nk ne) (hn:n<rs.length) (hid:(rs.getD n (dft sRun)).1=c.2.2.2.1) (hi:c.2.2.2.2.1=k) (hkl:k<(tsA rs n).length) (hh:Hld (ndA (rs.getD n (dft sRun)) k) ((tsA rs n).getD k (dft sTask)) c.2.2.2.2.2.1) (hfl:FlT (ndA (rs.getD n (dft sRun)) k) ((tsA rs n).getD k (dft sTask)) ck t') (hT:Turn (rs.getD n (dft sRun)) k t' r') (hne:ne'=ne+1) (hR:R=rs.set n r') (hE:E=es++ [failEv ne r' k]) (h40:E.length≤40):
  Done ck nr nt nk ne ac rs es c (mk ck nr nt nk ne' ac R E) (rpl (ofNat 0) (ofNat 0) (ofNat 0)):=by
 subst hne hR hE;exact⟨.fail n k t' r' hk hf hn hid hi hkl hh hfl hT,h40⟩
theorem dn_beat (h:SOk (mk ck nr nt nk ne ac rs es)) {n k:Nat} {un:Int} {r':Run} (hk:c.1=5) (hf:Fresh nr nt nk ne) (hn:n<rs.length) (hid:(rs.getD n (dft sRun)).1=c.2.2.2.1) (hi:c.2.2.2.2.1=k) (hkl:k<(tsA rs n).length) (hh:Hld (ndA (rs.getD n (dft sRun)) k) ((tsA rs n).getD k (dft sTask)) c.2.2.2.2.2.1) (hun:InC un)
  (hT:Turn (rs.getD n (dft sRun)) k (((tsA rs n).getD k (dft sTask)).1,((tsA rs n).getD k (dft sTask)).2.1,un,((tsA rs n).getD k (dft sTask)).2.2.2.1,((tsA rs n).getD k (dft sTask)).2.2.2.2.1,()) r') (hR:R=rs.set n r'):
  Done ck nr nt nk ne ac rs es c (mk ck nr nt nk ne ac R es) (rpl (ofNat 0) (ofNat 0) (ofNat 0)):=by
 subst hR;exact⟨.beat n k un r' hk hf hn hid hi hkl hh hun hT,h.ev40⟩
theorem dn_cancel {n:Nat} {r':Run} (hk:c.1=6) (hf:Fresh nr nt nk ne) (hn:n<rs.length) (hid:(rs.getD n (dft sRun)).1=c.2.2.2.1) (h1:(rs.getD n (dft sRun)).2.2.2.1=1) (e1:r'.1=(rs.getD n (dft sRun)).1) (e2:r'.2.1=(rs.getD n (dft sRun)).2.1) (e3:r'.2.2.1=(rs.getD n (dft sRun)).2.2.1) (e4:r'.2.2.2.1=4) (hd:DrpOk (rs.getD n (dft sRun)).2.2.1.1 (tsA rs n) r'.2.2.2.2.1) (hne:ne'=ne+1) (hR:R=rs.set n r') (hE:E=es++ [(ne,ofNat 6,r'.1,ofNat 0,())]) (h40:E.length≤40):
  Done ck nr nt nk ne ac rs es c (mk ck nr nt nk ne' ac R E) (rpl (ofNat 0) (ofNat 0) (ofNat 0)):=by
 subst hne hR hE;exact⟨.cancel n r' hk hf hn hid h1 e1 e2 e3 e4 hd,h40⟩
theorem dn_query (h:SOk (mk ck nr nt nk ne ac rs es)) {n:Nat} (hk:c.1=8) (hn:n<rs.length) (hid:(rs.getD n (dft sRun)).1=c.2.2.2.1):Done ck nr nt nk ne ac rs es c (mk ck nr nt nk ne ac rs es) (ofNat 0,ofNat 0,ofNat 0,ofNat 0,rs.getD n (dft sRun),[],()):=⟨.query n hk hn hid,h.ev40⟩
theorem dn_drain (h:SOk (mk ck nr nt nk ne ac rs es)) (hk:c.1=9) (m:Nat) (hE:E=es.take m):Done ck nr nt nk ne ac rs es c (mk ck nr nt nk ne ac rs es) (ofNat 0,ofNat 0,ofNat 0,ofNat 0,r0_,E,()):=by
 subst hE;exact⟨.drain m hk,h.ev40⟩
theorem dn_ack (h:SOk (mk ck nr nt nk ne ac rs es)) (hk:c.1=10) (h1:ac≤c.2.2.2.2.2.2.2.1) (h2:c.2.2.2.2.2.2.2.1<ne) (hE:E=es.drop (c.2.2.2.2.2.2.2.1-ac).toNat):Done ck nr nt nk ne ac rs es c (mk ck nr nt nk ne c.2.2.2.2.2.2.2.1 rs E) (rpl (ofNat 0) (ofNat 0) (ofNat 0)):=by
 subst hE;exact⟨.ack hk h1 h2,by have:=h.ev40;simp only [length_drop,mk]at*;omega⟩
end
theorem kstep {G:State→Reply→Prop} {M E:Option (State×Reply×Unit)} {ck nr nt nk ne ac:Int} {rs:List Run} {es:List Event} (b:Bool) (hM:(b=true→Fresh nr nt nk ne)→∃t r,M=some (t,r,())∧G t r) (hE:∃t r,E=some (t,r,())∧G t r):
  ∃t r,((F48 (mk ck nr nt nk ne ac rs es,())).bind fun y=>bif y.1 then(bif b then E else M)else M)=some (t,r,())∧G t r:=by
 obtain⟨b',hb,hf⟩:=f48 ck nr nt nk ne ac rs es
 rw [hb,bind_some]
 cases b' with
 |true=>
  cases b with
  |true=>exact hE
  |false=>exact hM fun h=>nomatch h
 |false=>exact hM fun _=>hf rfl
theorem room80 {n:Nat} (h:n≤60):(decide ((n+1)*80≤2^46) && decide (n+1≤2^46))=true:=room2 (by omega) (by omega)
theorem f118 (n:Int):∃b,F118 (n,())=some (b,()):=by
 simp only [F118]
 cases decide (n≥ofNat 1)with
 |true=>exact⟨_,rfl⟩
 |false=>exact⟨_,rfl⟩
theorem room32 {n k:Nat} (h:n≤60) (hk:k≤60):(decide ((n+k)*32≤2^46) && decide (n+k≤2^46))=true:=room2 (by omega) (by omega)
section
variable {ck nr nt nk ne ac:Int} {rs:List Run} {es:List Event}
theorem e15a (h:SOk (mk ck nr nt nk ne ac rs es)) (hR:isEmpty rs=false) (hE:isEmpty es=false) (v:Int):E15a (mk ck nr nt nk ne ac rs es) v=some (mk ck nr nt nk ne ac rs es,errR v,()):=by
 have h25:=twin_ok h
 simp only [mk]at h25
 simp only [E15a,mk,h25,bind_some,hR,hE,cond_false,zero_add,Nat.le_refl,decide_true,cond_true,allE]
theorem e15b (h:SOk (mk ck nr nt nk ne ac rs [])) (hR:isEmpty rs=false) (v:Int):E15b (mk ck nr nt nk ne ac rs []) v=some (mk ck nr nt nk ne ac rs [],errR v,()):=by
 have h25:=twin_ok h
 simp only [mk]at h25
 simp only [E15b,mk,h25,bind_some,hR,isEmpty_nil,cond_false,zero_add,Nat.le_refl,decide_true,cond_true,allE]
theorem e15c (h:SOk (mk ck nr nt nk ne ac [] es)) (hE:isEmpty es=false) (v:Int):E15c (mk ck nr nt nk ne ac [] es) v=some (mk ck nr nt nk ne ac [] es,errR v,()):=by
 have h25:=twin_ok h
 simp only [mk]at h25
 simp only [E15c,mk,h25,bind_some,hE,isEmpty_nil,cond_false,zero_add,Nat.le_refl,decide_true,cond_true,allE]
theorem e15d (h:SOk (mk ck nr nt nk ne ac [] [])) (v:Int):E15d (mk ck nr nt nk ne ac [] []) v=some (mk ck nr nt nk ne ac [] [],errR v,()):=by
 have h25:=twin_ok h
 simp only [mk]at h25
 simp only [E15d,mk,h25,bind_some,isEmpty_nil,cond_false,zero_add,Nat.le_refl,decide_true,cond_true,allE]
end
theorem m15a_6 {ck nr nt nk ne ac:Int} {rs:List Run} {es:List Event} (h:SOk (mk ck nr nt nk ne ac rs es)) (hr:∀r∈rs,OkR r) (hR:isEmpty rs=false) (hE:isEmpty es=false) (c:Call) (hfr:Fresh nr nt nk ne) (hk:c.1=6):
  ∃t r,M15a_6 ((mk ck nr nt nk ne ac rs es),c,())=some (t,r,())∧Done ck nr nt nk ne ac rs es c t r:=by
 have h25:=twin_ok h
 have hf:=h.fine
 have he:=h.ev40
 have hne:=h.ne
 simp only [mk]at h25 hf he hne
 have h32:=hf.1
 have E:=e15a h hR hE
 simp only [mk]at E
 simp only [M15a_6,mk,h25,bind_some,hR,hE,cond_false,zero_add,Nat.le_refl,decide_true,cond_true,allE,sgE,E]
 obtain⟨i,b,e,hfi,hq⟩:=find_ok rs (by omega) hr c.2.2.2.1
 simp only [hfi,bind_some]
 rcases hq with⟨_,_,hq⟩|⟨rfl,_,⟨rfl,n,rfl,hn,hid⟩|⟨rfl,_⟩⟩
 ·exact absurd hf hq
 ·simp only [Bool.not_true,cond_false,rg_in hn,rg_ltn hn,cond_true,toNat_natCast]
  refine cancel_step (rs.getD n (dft sRun)) (hr _ (getD_mem hn _)) (fun r' h1 e1 e2 e3 e4 hd=> ?_) (fun m=> ?_)
  ·simp only [sp2_0]
   try simp only [length_cons,length_nil,zero_add,room32 (show es.length≤60 by omega) (show 1≤60 by omega),room32 (show es.length+1≤60 by omega) (show 1≤60 by omega),decide_true,cond_true,length_append,length_set,Nat.le_refl,drop_zero]
   by_cases c40:(((es.length+1:Nat):Int)>ofNat 40)
   ·rw [decide_eq_true c40,cond_true];exact⟨_,_,rfl,dn_err h 8⟩
   ·rw [decide_eq_false c40,cond_false]
    exact⟨_,_,rfl,dn_cancel hk hfr hn hid h1 e1 e2 e3 e4 hd (wr1 (by omega) (by omega)) (tset n r') (by simp) (by simp only [length_append,length_cons,length_nil,ofN]at c40⊢;omega)⟩
  ·simp only [sp2_s]
   exact⟨_,_,rfl,dn_err h m⟩
 ·exact⟨_,_,rfl,dn_err h 5⟩
theorem m15b_6 {ck nr nt nk ne ac:Int} {rs:List Run} (h:SOk (mk ck nr nt nk ne ac rs [])) (hr:∀r∈rs,OkR r) (hR:isEmpty rs=false) (c:Call) (hfr:Fresh nr nt nk ne) (hk:c.1=6):
  ∃t r,M15b_6 ((mk ck nr nt nk ne ac rs []),c,())=some (t,r,())∧Done ck nr nt nk ne ac rs [] c t r:=by
 have h25:=twin_ok h
 have hf:=h.fine
 have he:=h.ev40
 have hne:=h.ne
 simp only [mk]at h25 hf he hne
 have h32:=hf.1
 have E:=e15b h hR
 simp only [mk]at E
 simp only [M15b_6,mk,h25,bind_some,hR,isEmpty_nil,cond_false,zero_add,Nat.le_refl,decide_true,cond_true,allE,sgE,E]
 obtain⟨i,b,e,hfi,hq⟩:=find_ok rs (by omega) hr c.2.2.2.1
 simp only [hfi,bind_some]
 rcases hq with⟨_,_,hq⟩|⟨rfl,_,⟨rfl,n,rfl,hn,hid⟩|⟨rfl,_⟩⟩
 ·exact absurd hf hq
 ·simp only [Bool.not_true,cond_false,rg_in hn,rg_ltn hn,cond_true,toNat_natCast]
  refine cancel_step (rs.getD n (dft sRun)) (hr _ (getD_mem hn _)) (fun r' h1 e1 e2 e3 e4 hd=> ?_) (fun m=> ?_)
  ·simp only [sp2_0]
   try simp only [length_set,Nat.le_refl,decide_true,cond_true,drop_zero]
   exact⟨_,_,rfl,dn_cancel hk hfr hn hid h1 e1 e2 e3 e4 hd (wr1 (by omega) (by omega)) (tset n r') (by simp) (by simp only [length_cons,length_nil];omega)⟩
  ·simp only [sp2_s]
   exact⟨_,_,rfl,dn_err h m⟩
 ·exact⟨_,_,rfl,dn_err h 5⟩
theorem m15c_6 {ck nr nt nk ne ac:Int} {es:List Event} (h:SOk (mk ck nr nt nk ne ac [] es)) (hr:∀r∈([]:List Run),OkR r) (hE:isEmpty es=false) (c:Call) (hfr:Fresh nr nt nk ne) (hk:c.1=6):
  ∃t r,M15c_6 ((mk ck nr nt nk ne ac [] es),c,())=some (t,r,())∧Done ck nr nt nk ne ac [] es c t r:=by
 have h25:=twin_ok h
 have hf:=h.fine
 have he:=h.ev40
 have hne:=h.ne
 simp only [mk]at h25 hf he hne
 have h32:=hf.1
 have E:=e15c h hE
 simp only [mk]at E
 simp only [M15c_6,mk,h25,bind_some,hE,isEmpty_nil,cond_false,zero_add,Nat.le_refl,decide_true,cond_true,allE,sgE,E]
 obtain⟨i,b,e,hfi,hq⟩:=find_ok ([]:List Run) (by omega) hr c.2.2.2.1
 simp only [hfi,bind_some]
 rcases hq with⟨_,_,hq⟩|⟨rfl,_,⟨rfl,n,rfl,hn,hid⟩|⟨rfl,_⟩⟩
 ·exact absurd hf hq
 ·exact absurd hn (not_lt_zero _)
 ·exact⟨_,_,rfl,dn_err h 5⟩
theorem m15d_6 {ck nr nt nk ne ac:Int} (h:SOk (mk ck nr nt nk ne ac [] [])) (hr:∀r∈([]:List Run),OkR r) (c:Call) (hfr:Fresh nr nt nk ne) (hk:c.1=6):
  ∃t r,M15d_6 ((mk ck nr nt nk ne ac [] []),c,())=some (t,r,())∧Done ck nr nt nk ne ac [] [] c t r:=by
 have h25:=twin_ok h
 have hf:=h.fine
 have he:=h.ev40
 have hne:=h.ne
 simp only [mk]at h25 hf he hne
 have h32:=hf.1
 have E:=e15d h
 simp only [mk]at E
 simp only [M15d_6,mk,h25,bind_some,isEmpty_nil,cond_false,zero_add,Nat.le_refl,decide_true,cond_true,allE,sgE,E]
 obtain⟨i,b,e,hfi,hq⟩:=find_ok ([]:List Run) (by omega) hr c.2.2.2.1
 simp only [hfi,bind_some]
 rcases hq with⟨_,_,hq⟩|⟨rfl,_,⟨rfl,n,rfl,hn,hid⟩|⟨rfl,_⟩⟩
 ·exact absurd hf hq
 ·exact absurd hn (not_lt_zero _)
 ·exact⟨_,_,rfl,dn_err h 5⟩
theorem m15a_4 {ck nr nt nk ne ac:Int} {rs:List Run} {es:List Event} (h:SOk (mk ck nr nt nk ne ac rs es)) (hr:∀r∈rs,OkR r) (hR:isEmpty rs=false) (hE:isEmpty es=false) (c:Call) (hfr:Fresh nr nt nk ne) (hk:c.1=4):
  ∃t r,M15a_4 ((mk ck nr nt nk ne ac rs es),c,())=some (t,r,())∧Done ck nr nt nk ne ac rs es c t r:=by
 have h25:=twin_ok h
 have hf:=h.fine
 have he:=h.ev40
 have hne:=h.ne
 simp only [mk]at h25 hf he hne
 have h32:=hf.1
 have E:=e15a h hR hE
 simp only [mk]at E
 simp only [M15a_4,mk,h25,bind_some,hR,hE,cond_false,zero_add,Nat.le_refl,decide_true,cond_true,allE,sgE,E]
 obtain⟨i,b,e,hfi,hq⟩:=find_ok rs (by omega) hr c.2.2.2.1
 simp only [hfi,bind_some]
 rcases hq with⟨_,_,hq⟩|⟨rfl,_,⟨rfl,n,rfl,hn,hid⟩|⟨rfl,_⟩⟩
 ·exact absurd hf hq
 ·simp only [Bool.not_true,cond_false,rg_in hn,rg_ltn hn,cond_true,toNat_natCast]
  refine fail_step (rs.getD n (dft sRun)) (hr _ (getD_mem hn _)) _ _ _ (fun r' k t' hi hkl hh hfl hT=> ?_) (fun m=> ?_)
  ·simp only [sp2_0]
   by_cases c3:r'.2.2.2.1=3
   ·rw [show(r'.2.2.2.1==ofNat 3)=true by simpa using c3,cond_true]
    try simp only [length_cons,length_nil,zero_add,room32 (show es.length≤60 by omega) (show 1≤60 by omega),room32 (show es.length+1≤60 by omega) (show 1≤60 by omega),decide_true,cond_true,length_append,length_set,Nat.le_refl,drop_zero]
    by_cases c40:(((es.length+1:Nat):Int)>ofNat 40)
    ·rw [decide_eq_true c40,cond_true];exact⟨_,_,rfl,dn_err h 8⟩
    ·rw [decide_eq_false c40,cond_false]
     exact⟨_,_,rfl,dn_fail hk hfr hn hid hi hkl hh hfl hT (wr1 (by omega) (by omega)) (tset n r') (by simp [failEv,c3,hi]) (by simp only [length_append,length_cons,length_nil,ofN]at c40⊢;omega)⟩
   ·rw [show(r'.2.2.2.1==ofNat 3)=false by simpa using c3,cond_false]
    try simp only [length_cons,length_nil,zero_add,room32 (show es.length≤60 by omega) (show 1≤60 by omega),room32 (show es.length+1≤60 by omega) (show 1≤60 by omega),decide_true,cond_true,length_append,length_set,Nat.le_refl,drop_zero]
    by_cases c40:(((es.length+1:Nat):Int)>ofNat 40)
    ·rw [decide_eq_true c40,cond_true];exact⟨_,_,rfl,dn_err h 8⟩
    ·rw [decide_eq_false c40,cond_false]
     exact⟨_,_,rfl,dn_fail hk hfr hn hid hi hkl hh hfl hT (wr1 (by omega) (by omega)) (tset n r') (by simp [failEv,c3,hi]) (by simp only [length_append,length_cons,length_nil,ofN]at c40⊢;omega)⟩
  ·simp only [sp2_s]
   exact⟨_,_,rfl,dn_err h m⟩
 ·exact⟨_,_,rfl,dn_err h 5⟩
theorem m15b_4 {ck nr nt nk ne ac:Int} {rs:List Run} (h:SOk (mk ck nr nt nk ne ac rs [])) (hr:∀r∈rs,OkR r) (hR:isEmpty rs=false) (c:Call) (hfr:Fresh nr nt nk ne) (hk:c.1=4):
  ∃t r,M15b_4 ((mk ck nr nt nk ne ac rs []),c,())=some (t,r,())∧Done ck nr nt nk ne ac rs [] c t r:=by
 have h25:=twin_ok h
 have hf:=h.fine
 have he:=h.ev40
 have hne:=h.ne
 simp only [mk]at h25 hf he hne
 have h32:=hf.1
 have E:=e15b h hR
 simp only [mk]at E
 simp only [M15b_4,mk,h25,bind_some,hR,isEmpty_nil,cond_false,zero_add,Nat.le_refl,decide_true,cond_true,allE,sgE,E]
 obtain⟨i,b,e,hfi,hq⟩:=find_ok rs (by omega) hr c.2.2.2.1
 simp only [hfi,bind_some]
 rcases hq with⟨_,_,hq⟩|⟨rfl,_,⟨rfl,n,rfl,hn,hid⟩|⟨rfl,_⟩⟩
 ·exact absurd hf hq
 ·simp only [Bool.not_true,cond_false,rg_in hn,rg_ltn hn,cond_true,toNat_natCast]
  refine fail_step (rs.getD n (dft sRun)) (hr _ (getD_mem hn _)) _ _ _ (fun r' k t' hi hkl hh hfl hT=> ?_) (fun m=> ?_)
  ·simp only [sp2_0]
   by_cases c3:r'.2.2.2.1=3
   ·rw [show(r'.2.2.2.1==ofNat 3)=true by simpa using c3,cond_true]
    try simp only [length_set,Nat.le_refl,decide_true,cond_true,drop_zero]
    exact⟨_,_,rfl,dn_fail hk hfr hn hid hi hkl hh hfl hT (wr1 (by omega) (by omega)) (tset n r') (by simp [failEv,c3,hi]) (by simp only [length_cons,length_nil];omega)⟩
   ·rw [show(r'.2.2.2.1==ofNat 3)=false by simpa using c3,cond_false]
    try simp only [length_set,Nat.le_refl,decide_true,cond_true,drop_zero]
    exact⟨_,_,rfl,dn_fail hk hfr hn hid hi hkl hh hfl hT (wr1 (by omega) (by omega)) (tset n r') (by simp [failEv,c3,hi]) (by simp only [length_cons,length_nil];omega)⟩
  ·simp only [sp2_s]
   exact⟨_,_,rfl,dn_err h m⟩
 ·exact⟨_,_,rfl,dn_err h 5⟩
theorem m15c_4 {ck nr nt nk ne ac:Int} {es:List Event} (h:SOk (mk ck nr nt nk ne ac [] es)) (hr:∀r∈([]:List Run),OkR r) (hE:isEmpty es=false) (c:Call) (hfr:Fresh nr nt nk ne) (hk:c.1=4):
  ∃t r,M15c_4 ((mk ck nr nt nk ne ac [] es),c,())=some (t,r,())∧Done ck nr nt nk ne ac [] es c t r:=by
 have h25:=twin_ok h
 have hf:=h.fine
 have he:=h.ev40
 have hne:=h.ne
 simp only [mk]at h25 hf he hne
 have h32:=hf.1
 have E:=e15c h hE
 simp only [mk]at E
 simp only [M15c_4,mk,h25,bind_some,hE,isEmpty_nil,cond_false,zero_add,Nat.le_refl,decide_true,cond_true,allE,sgE,E]
 obtain⟨i,b,e,hfi,hq⟩:=find_ok ([]:List Run) (by omega) hr c.2.2.2.1
 simp only [hfi,bind_some]
 rcases hq with⟨_,_,hq⟩|⟨rfl,_,⟨rfl,n,rfl,hn,hid⟩|⟨rfl,_⟩⟩
 ·exact absurd hf hq
 ·exact absurd hn (not_lt_zero _)
 ·exact⟨_,_,rfl,dn_err h 5⟩
theorem m15d_4 {ck nr nt nk ne ac:Int} (h:SOk (mk ck nr nt nk ne ac [] [])) (hr:∀r∈([]:List Run),OkR r) (c:Call) (hfr:Fresh nr nt nk ne) (hk:c.1=4):
  ∃t r,M15d_4 ((mk ck nr nt nk ne ac [] []),c,())=some (t,r,())∧Done ck nr nt nk ne ac [] [] c t r:=by
 have h25:=twin_ok h
 have hf:=h.fine
 have he:=h.ev40
 have hne:=h.ne
 simp only [mk]at h25 hf he hne
 have h32:=hf.1
 have E:=e15d h
 simp only [mk]at E
 simp only [M15d_4,mk,h25,bind_some,isEmpty_nil,cond_false,zero_add,Nat.le_refl,decide_true,cond_true,allE,sgE,E]
 obtain⟨i,b,e,hfi,hq⟩:=find_ok ([]:List Run) (by omega) hr c.2.2.2.1
 simp only [hfi,bind_some]
 rcases hq with⟨_,_,hq⟩|⟨rfl,_,⟨rfl,n,rfl,hn,hid⟩|⟨rfl,_⟩⟩
 ·exact absurd hf hq
 ·exact absurd hn (not_lt_zero _)
 ·exact⟨_,_,rfl,dn_err h 5⟩
theorem m15a_3 {ck nr nt nk ne ac:Int} {rs:List Run} {es:List Event} (h:SOk (mk ck nr nt nk ne ac rs es)) (hr:∀r∈rs,OkR r) (hR:isEmpty rs=false) (hE:isEmpty es=false) (c:Call) (hfr:Fresh nr nt nk ne) (hk:c.1=3):
  ∃t r,M15a_3 ((mk ck nr nt nk ne ac rs es),c,())=some (t,r,())∧Done ck nr nt nk ne ac rs es c t r:=by
 have h25:=twin_ok h
 have hf:=h.fine
 have he:=h.ev40
 have hne:=h.ne
 simp only [mk]at h25 hf he hne
 have h32:=hf.1
 have E:=e15a h hR hE
 simp only [mk]at E
 simp only [M15a_3,mk,h25,bind_some,hR,hE,cond_false,zero_add,Nat.le_refl,decide_true,cond_true,allE,sgE,E]
 obtain⟨i,b,e,hfi,hq⟩:=find_ok rs (by omega) hr c.2.2.2.1
 simp only [hfi,bind_some]
 rcases hq with⟨_,_,hq⟩|⟨rfl,_,⟨rfl,n,rfl,hn,hid⟩|⟨rfl,_⟩⟩
 ·exact absurd hf hq
 ·simp only [Bool.not_true,cond_false,rg_in hn,rg_ltn hn,cond_true,toNat_natCast]
  refine complete_step (rs.getD n (dft sRun)) (hr _ (getD_mem hn _)) _ _ _ (fun r' rk' k hi hkl hrk hh hC=> ?_) (fun _ _ m=> ?_)
  ·simp only [sp2_0]
   try simp only [decide_true,cond_true,length_cons,length_nil,zero_add,room32 (show es.length≤60 by omega) (show 1≤60 by omega),room32 (show es.length+1≤60 by omega) (show 1≤60 by omega),rg_ltn hn]
   by_cases c2:r'.2.2.2.1=2
   ·rw [show(r'.2.2.2.1==ofNat 2)=true by simpa using c2,cond_true]
    try simp only [length_cons,length_nil,zero_add,room32 (show es.length≤60 by omega) (show 1≤60 by omega),room32 (show es.length+1≤60 by omega) (show 1≤60 by omega),decide_true,cond_true,length_append,length_set,Nat.le_refl,drop_zero]
    by_cases c40:(((es.length+1+1:Nat):Int)>ofNat 40)
    ·rw [decide_eq_true c40,cond_true];exact⟨_,_,rfl,dn_err h 8⟩
    ·rw [decide_eq_false c40,cond_false]
     exact⟨_,_,rfl,dn_complete hk hfr hn hid hi hkl hrk hh hC (.inr ⟨c2,rfl⟩) (wr2 (z:=ne) (by omega) (by omega)) (tset n r') (by simp [hi];rw [IntKind.wrap_i64];omega) (by simp only [length_append,length_cons,length_nil,ofN]at c40⊢;omega)⟩
   ·rw [show(r'.2.2.2.1==ofNat 2)=false by simpa using c2,cond_false]
    try simp only [length_cons,length_nil,zero_add,room32 (show es.length≤60 by omega) (show 1≤60 by omega),room32 (show es.length+1≤60 by omega) (show 1≤60 by omega),decide_true,cond_true,length_append,length_set,Nat.le_refl,drop_zero]
    by_cases c40:(((es.length+1:Nat):Int)>ofNat 40)
    ·rw [decide_eq_true c40,cond_true];exact⟨_,_,rfl,dn_err h 8⟩
    ·rw [decide_eq_false c40,cond_false]
     exact⟨_,_,rfl,dn_complete hk hfr hn hid hi hkl hrk hh hC (.inl ⟨c2,rfl⟩) (wr1 (by omega) (by omega)) (tset n r') (by simp [hi]) (by simp only [length_append,length_cons,length_nil,ofN]at c40⊢;omega)⟩
  ·simp only [sp2_s]
   exact⟨_,_,rfl,dn_err h m⟩
 ·exact⟨_,_,rfl,dn_err h 5⟩
theorem m15b_3 {ck nr nt nk ne ac:Int} {rs:List Run} (h:SOk (mk ck nr nt nk ne ac rs [])) (hr:∀r∈rs,OkR r) (hR:isEmpty rs=false) (c:Call) (hfr:Fresh nr nt nk ne) (hk:c.1=3):
  ∃t r,M15b_3 ((mk ck nr nt nk ne ac rs []),c,())=some (t,r,())∧Done ck nr nt nk ne ac rs [] c t r:=by
 have h25:=twin_ok h
 have hf:=h.fine
 have he:=h.ev40
 have hne:=h.ne
 simp only [mk]at h25 hf he hne
 have h32:=hf.1
 have E:=e15b h hR
 simp only [mk]at E
 simp only [M15b_3,mk,h25,bind_some,hR,isEmpty_nil,cond_false,zero_add,Nat.le_refl,decide_true,cond_true,allE,sgE,E]
 obtain⟨i,b,e,hfi,hq⟩:=find_ok rs (by omega) hr c.2.2.2.1
 simp only [hfi,bind_some]
 rcases hq with⟨_,_,hq⟩|⟨rfl,_,⟨rfl,n,rfl,hn,hid⟩|⟨rfl,_⟩⟩
 ·exact absurd hf hq
 ·simp only [Bool.not_true,cond_false,rg_in hn,rg_ltn hn,cond_true,toNat_natCast]
  refine complete_step (rs.getD n (dft sRun)) (hr _ (getD_mem hn _)) _ _ _ (fun r' rk' k hi hkl hrk hh hC=> ?_) (fun _ _ m=> ?_)
  ·simp only [sp2_0]
   try simp only [decide_true,cond_true,length_cons,length_nil,zero_add,rg_ltn hn]
   by_cases c2:r'.2.2.2.1=2
   ·rw [show(r'.2.2.2.1==ofNat 2)=true by simpa using c2,cond_true]
    try simp only [length_cons,length_nil,zero_add,decide_true,cond_true,length_append,length_set,Nat.le_refl,drop_zero,List.cons_append,List.nil_append,Nat.reduceAdd,Nat.reduceMul,Nat.reducePow,Nat.reduceLeDiff,Bool.and_self]
    exact⟨_,_,rfl,dn_complete hk hfr hn hid hi hkl hrk hh hC (.inr ⟨c2,rfl⟩) (wr2 (z:=ne) (by omega) (by omega)) (tset n r') (by simp [hi];rw [IntKind.wrap_i64];omega) (by simp only [length_cons,length_nil];omega)⟩
   ·rw [show(r'.2.2.2.1==ofNat 2)=false by simpa using c2,cond_false]
    try simp only [length_set,Nat.le_refl,decide_true,cond_true,drop_zero]
    exact⟨_,_,rfl,dn_complete hk hfr hn hid hi hkl hrk hh hC (.inl ⟨c2,rfl⟩) (wr1 (by omega) (by omega)) (tset n r') (by simp [hi]) (by simp only [length_cons,length_nil];omega)⟩
  ·simp only [sp2_s]
   exact⟨_,_,rfl,dn_err h m⟩
 ·exact⟨_,_,rfl,dn_err h 5⟩
theorem m15c_3 {ck nr nt nk ne ac:Int} {es:List Event} (h:SOk (mk ck nr nt nk ne ac [] es)) (hr:∀r∈([]:List Run),OkR r) (hE:isEmpty es=false) (c:Call) (hfr:Fresh nr nt nk ne) (hk:c.1=3):
  ∃t r,M15c_3 ((mk ck nr nt nk ne ac [] es),c,())=some (t,r,())∧Done ck nr nt nk ne ac [] es c t r:=by
 have h25:=twin_ok h
 have hf:=h.fine
 have he:=h.ev40
 have hne:=h.ne
 simp only [mk]at h25 hf he hne
 have h32:=hf.1
 have E:=e15c h hE
 simp only [mk]at E
 simp only [M15c_3,mk,h25,bind_some,hE,isEmpty_nil,cond_false,zero_add,Nat.le_refl,decide_true,cond_true,allE,sgE,E]
 obtain⟨i,b,e,hfi,hq⟩:=find_ok ([]:List Run) (by omega) hr c.2.2.2.1
 simp only [hfi,bind_some]
 rcases hq with⟨_,_,hq⟩|⟨rfl,_,⟨rfl,n,rfl,hn,hid⟩|⟨rfl,_⟩⟩
 ·exact absurd hf hq
 ·exact absurd hn (not_lt_zero _)
 ·exact⟨_,_,rfl,dn_err h 5⟩
theorem m15d_3 {ck nr nt nk ne ac:Int} (h:SOk (mk ck nr nt nk ne ac [] [])) (hr:∀r∈([]:List Run),OkR r) (c:Call) (hfr:Fresh nr nt nk ne) (hk:c.1=3):
  ∃t r,M15d_3 ((mk ck nr nt nk ne ac [] []),c,())=some (t,r,())∧Done ck nr nt nk ne ac [] [] c t r:=by
 have h25:=twin_ok h
 have hf:=h.fine
 have he:=h.ev40
 have hne:=h.ne
 simp only [mk]at h25 hf he hne
 have h32:=hf.1
 have E:=e15d h
 simp only [mk]at E
 simp only [M15d_3,mk,h25,bind_some,isEmpty_nil,cond_false,zero_add,Nat.le_refl,decide_true,cond_true,allE,sgE,E]
 obtain⟨i,b,e,hfi,hq⟩:=find_ok ([]:List Run) (by omega) hr c.2.2.2.1
 simp only [hfi,bind_some]
 rcases hq with⟨_,_,hq⟩|⟨rfl,_,⟨rfl,n,rfl,hn,hid⟩|⟨rfl,_⟩⟩
 ·exact absurd hf hq
 ·exact absurd hn (not_lt_zero _)
 ·exact⟨_,_,rfl,dn_err h 5⟩
theorem m15a_8 {ck nr nt nk ne ac:Int} {rs:List Run} {es:List Event} (h:SOk (mk ck nr nt nk ne ac rs es)) (hr:∀r∈rs,OkR r) (hR:isEmpty rs=false) (hE:isEmpty es=false) (c:Call) (hk:c.1=8):
  ∃t r,M15a_8 ((mk ck nr nt nk ne ac rs es),c,())=some (t,r,())∧Done ck nr nt nk ne ac rs es c t r:=by
 have h25:=twin_ok h
 have hf:=h.fine
 have he:=h.ev40
 have hne:=h.ne
 simp only [mk]at h25 hf he hne
 have h32:=hf.1
 have E:=e15a h hR hE
 simp only [mk]at E
 simp only [M15a_8,mk,h25,bind_some,hR,hE,cond_false,zero_add,Nat.le_refl,decide_true,cond_true,allE,sgE,E]
 obtain⟨i,b,e,hfi,hq⟩:=find_ok rs (by omega) hr c.2.2.2.1
 simp only [hfi,bind_some]
 rcases hq with⟨_,_,hq⟩|⟨rfl,_,⟨rfl,n,rfl,hn,hid⟩|⟨rfl,_⟩⟩
 ·exact absurd hf hq
 ·simp only [Bool.not_true,cond_false,rg_in hn,rg_ltn hn,cond_true,toNat_natCast]
  have h62:=f62 (rs.getD n (dft sRun)) (smT_of (hf.2.chk n hn))
  simp only [h62,bind_some]
  try simp only [length_cons,length_nil,zero_add,room32 (show es.length≤60 by omega) (show 1≤60 by omega),room32 (show es.length+1≤60 by omega) (show 1≤60 by omega),decide_true,cond_true,length_append,length_set,Nat.le_refl,drop_zero]
  by_cases c40:(((es.length:Nat):Int)>ofNat 40)
  ·rw [decide_eq_true c40,cond_true];exact⟨_,_,rfl,dn_err h 8⟩
  ·rw [decide_eq_false c40,cond_false]
   exact⟨_,_,rfl,dn_query h hk hn hid⟩
 ·exact⟨_,_,rfl,dn_err h 5⟩
theorem m15b_8 {ck nr nt nk ne ac:Int} {rs:List Run} (h:SOk (mk ck nr nt nk ne ac rs [])) (hr:∀r∈rs,OkR r) (hR:isEmpty rs=false) (c:Call) (hk:c.1=8):
  ∃t r,M15b_8 ((mk ck nr nt nk ne ac rs []),c,())=some (t,r,())∧Done ck nr nt nk ne ac rs [] c t r:=by
 have h25:=twin_ok h
 have hf:=h.fine
 have he:=h.ev40
 have hne:=h.ne
 simp only [mk]at h25 hf he hne
 have h32:=hf.1
 have E:=e15b h hR
 simp only [mk]at E
 simp only [M15b_8,mk,h25,bind_some,hR,isEmpty_nil,cond_false,zero_add,Nat.le_refl,decide_true,cond_true,allE,sgE,E]
 obtain⟨i,b,e,hfi,hq⟩:=find_ok rs (by omega) hr c.2.2.2.1
 simp only [hfi,bind_some]
 rcases hq with⟨_,_,hq⟩|⟨rfl,_,⟨rfl,n,rfl,hn,hid⟩|⟨rfl,_⟩⟩
 ·exact absurd hf hq
 ·simp only [Bool.not_true,cond_false,rg_in hn,rg_ltn hn,cond_true,toNat_natCast]
  have h62:=f62 (rs.getD n (dft sRun)) (smT_of (hf.2.chk n hn))
  simp only [h62,bind_some]
  try simp only [length_set,Nat.le_refl,decide_true,cond_true,drop_zero]
  exact⟨_,_,rfl,dn_query h hk hn hid⟩
 ·exact⟨_,_,rfl,dn_err h 5⟩
theorem m15c_8 {ck nr nt nk ne ac:Int} {es:List Event} (h:SOk (mk ck nr nt nk ne ac [] es)) (hr:∀r∈([]:List Run),OkR r) (hE:isEmpty es=false) (c:Call) (hk:c.1=8):
  ∃t r,M15c_8 ((mk ck nr nt nk ne ac [] es),c,())=some (t,r,())∧Done ck nr nt nk ne ac [] es c t r:=by
 have h25:=twin_ok h
 have hf:=h.fine
 have he:=h.ev40
 have hne:=h.ne
 simp only [mk]at h25 hf he hne
 have h32:=hf.1
 have E:=e15c h hE
 simp only [mk]at E
 simp only [M15c_8,mk,h25,bind_some,hE,isEmpty_nil,cond_false,zero_add,Nat.le_refl,decide_true,cond_true,allE,sgE,E]
 obtain⟨i,b,e,hfi,hq⟩:=find_ok ([]:List Run) (by omega) hr c.2.2.2.1
 simp only [hfi,bind_some]
 rcases hq with⟨_,_,hq⟩|⟨rfl,_,⟨rfl,n,rfl,hn,hid⟩|⟨rfl,_⟩⟩
 ·exact absurd hf hq
 ·exact absurd hn (not_lt_zero _)
 ·exact⟨_,_,rfl,dn_err h 5⟩
theorem m15d_8 {ck nr nt nk ne ac:Int} (h:SOk (mk ck nr nt nk ne ac [] [])) (hr:∀r∈([]:List Run),OkR r) (c:Call) (hk:c.1=8):
  ∃t r,M15d_8 ((mk ck nr nt nk ne ac [] []),c,())=some (t,r,())∧Done ck nr nt nk ne ac [] [] c t r:=by
 have h25:=twin_ok h
 have hf:=h.fine
 have he:=h.ev40
 have hne:=h.ne
 simp only [mk]at h25 hf he hne
 have h32:=hf.1
 have E:=e15d h
 simp only [mk]at E
 simp only [M15d_8,mk,h25,bind_some,isEmpty_nil,cond_false,zero_add,Nat.le_refl,decide_true,cond_true,allE,sgE,E]
 obtain⟨i,b,e,hfi,hq⟩:=find_ok ([]:List Run) (by omega) hr c.2.2.2.1
 simp only [hfi,bind_some]
 rcases hq with⟨_,_,hq⟩|⟨rfl,_,⟨rfl,n,rfl,hn,hid⟩|⟨rfl,_⟩⟩
 ·exact absurd hf hq
 ·exact absurd hn (not_lt_zero _)
 ·exact⟨_,_,rfl,dn_err h 5⟩
theorem m15a_9 {ck nr nt nk ne ac:Int} {rs:List Run} {es:List Event} (h:SOk (mk ck nr nt nk ne ac rs es)) (hr:∀r∈rs,OkR r) (hR:isEmpty rs=false) (hE:isEmpty es=false) (c:Call) (hk:c.1=9):
  ∃t r,M15a_9 ((mk ck nr nt nk ne ac rs es),c,())=some (t,r,())∧Done ck nr nt nk ne ac rs es c t r:=by
 have h25:=twin_ok h
 have hf:=h.fine
 have he:=h.ev40
 have hne:=h.ne
 simp only [mk]at h25 hf he hne
 have h32:=hf.1
 have E:=e15a h hR hE
 simp only [mk]at E
 simp only [M15a_9,mk,h25,bind_some,hR,hE,cond_false,zero_add,Nat.le_refl,decide_true,cond_true,allE,sgE,E]
 by_cases c1:c.2.2.2.2.2.2.2.1<ofNat 1
 ·rw [decide_eq_true c1,cond_true];exact⟨_,_,rfl,dn_err h 1⟩
 rw [decide_eq_false c1,cond_false]
 by_cases c2:c.2.2.2.2.2.2.2.1>ofNat 40
 ·rw [decide_eq_true c2,cond_true];exact⟨_,_,rfl,dn_err h 1⟩
 rw [decide_eq_false c2,cond_false]
 simp only [ofN]at c1 c2
 obtain⟨m,hm,hml⟩:∃m:Nat,(if(es.length:Int)<c.2.2.2.2.2.2.2.1 then(es.length:Int)else c.2.2.2.2.2.2.2.1)=(m:Int)∧m≤es.length:=by
  split
  ·exact⟨es.length,rfl,Nat.le_refl _⟩
  ·exact⟨c.2.2.2.2.2.2.2.1.toNat,by omega,by omega⟩
 have hw:∀z:Int,z=0→within z (m:Int) (es.length:Int)=true:=fun z hz=>by subst hz;simp only [within,Bool.and_eq_true,decide_eq_true_eq];omega
 have h61:=f61 (es.take m) (by rw [List.length_take];omega)
 simp only [hm,hw 0 rfl,hw ((0:Nat):Int) rfl,cond_true,toNat_natCast,sub_zero,Nat.add_zero,zero_add,drop_zero,decide_eq_true hml,h61,bind_some,allE]
 generalize decide ((es.length:Int)>ofNat 40)=b40
 cases hem:isEmpty (take m es)with
 |true=>
  cases b40 with
  |true=>exact⟨_,_,rfl,dn_err h 8⟩
  |false=>exact⟨_,_,rfl,dn_drain h hk 0 rfl⟩
 |false=>
  cases b40 with
  |true=>exact⟨_,_,rfl,dn_err h 8⟩
  |false=>exact⟨_,_,rfl,dn_drain h hk m rfl⟩
theorem m15b_9 {ck nr nt nk ne ac:Int} {rs:List Run} (h:SOk (mk ck nr nt nk ne ac rs [])) (hr:∀r∈rs,OkR r) (hR:isEmpty rs=false) (c:Call) (hk:c.1=9):
  ∃t r,M15b_9 ((mk ck nr nt nk ne ac rs []),c,())=some (t,r,())∧Done ck nr nt nk ne ac rs [] c t r:=by
 have h25:=twin_ok h
 have hf:=h.fine
 have he:=h.ev40
 have hne:=h.ne
 simp only [mk]at h25 hf he hne
 have h32:=hf.1
 have E:=e15b h hR
 simp only [mk]at E
 simp only [M15b_9,mk,h25,bind_some,hR,isEmpty_nil,cond_false,zero_add,Nat.le_refl,decide_true,cond_true,allE,sgE,E]
 by_cases c1:c.2.2.2.2.2.2.2.1<ofNat 1
 ·rw [decide_eq_true c1,cond_true];exact⟨_,_,rfl,dn_err h 1⟩
 rw [decide_eq_false c1,cond_false]
 by_cases c2:c.2.2.2.2.2.2.2.1>ofNat 40
 ·rw [decide_eq_true c2,cond_true];exact⟨_,_,rfl,dn_err h 1⟩
 rw [decide_eq_false c2,cond_false]
 simp only [ofN]at c1 c2
 have hm:(if(0:Int)<c.2.2.2.2.2.2.2.1 then(0:Int)else c.2.2.2.2.2.2.2.1)=0:=if_pos (by omega)
 have hw:∀z y:Int,z=0→y=0→within z 0 y=true:=fun z y hz hy=>by subst hz;subst hy;rfl
 have h61:=f61 [] (by decide)
 simp only [hm,hw 0 0 rfl rfl,hw ((0:Nat):Int) ((0:Nat):Int) rfl rfl,cond_true,h61,bind_some,isEmpty_nil]
 exact⟨_,_,rfl,dn_drain h hk 0 rfl⟩
theorem m15c_9 {ck nr nt nk ne ac:Int} {es:List Event} (h:SOk (mk ck nr nt nk ne ac [] es)) (hr:∀r∈([]:List Run),OkR r) (hE:isEmpty es=false) (c:Call) (hk:c.1=9):
  ∃t r,M15c_9 ((mk ck nr nt nk ne ac [] es),c,())=some (t,r,())∧Done ck nr nt nk ne ac [] es c t r:=by
 have h25:=twin_ok h
 have hf:=h.fine
 have he:=h.ev40
 have hne:=h.ne
 simp only [mk]at h25 hf he hne
 have h32:=hf.1
 have E:=e15c h hE
 simp only [mk]at E
 simp only [M15c_9,mk,h25,bind_some,hE,isEmpty_nil,cond_false,zero_add,Nat.le_refl,decide_true,cond_true,allE,sgE,E]
 by_cases c1:c.2.2.2.2.2.2.2.1<ofNat 1
 ·rw [decide_eq_true c1,cond_true];exact⟨_,_,rfl,dn_err h 1⟩
 rw [decide_eq_false c1,cond_false]
 by_cases c2:c.2.2.2.2.2.2.2.1>ofNat 40
 ·rw [decide_eq_true c2,cond_true];exact⟨_,_,rfl,dn_err h 1⟩
 rw [decide_eq_false c2,cond_false]
 simp only [ofN]at c1 c2
 obtain⟨m,hm,hml⟩:∃m:Nat,(if(es.length:Int)<c.2.2.2.2.2.2.2.1 then(es.length:Int)else c.2.2.2.2.2.2.2.1)=(m:Int)∧m≤es.length:=by
  split
  ·exact⟨es.length,rfl,Nat.le_refl _⟩
  ·exact⟨c.2.2.2.2.2.2.2.1.toNat,by omega,by omega⟩
 have hw:∀z:Int,z=0→within z (m:Int) (es.length:Int)=true:=fun z hz=>by subst hz;simp only [within,Bool.and_eq_true,decide_eq_true_eq];omega
 have h61:=f61 (es.take m) (by rw [List.length_take];omega)
 simp only [hm,hw 0 rfl,hw ((0:Nat):Int) rfl,cond_true,toNat_natCast,sub_zero,Nat.add_zero,zero_add,drop_zero,decide_eq_true hml,h61,bind_some,allE]
 generalize decide ((es.length:Int)>ofNat 40)=b40
 cases hem:isEmpty (take m es)with
 |true=>
  cases b40 with
  |true=>exact⟨_,_,rfl,dn_err h 8⟩
  |false=>exact⟨_,_,rfl,dn_drain h hk 0 rfl⟩
 |false=>
  cases b40 with
  |true=>exact⟨_,_,rfl,dn_err h 8⟩
  |false=>exact⟨_,_,rfl,dn_drain h hk m rfl⟩
theorem m15d_9 {ck nr nt nk ne ac:Int} (h:SOk (mk ck nr nt nk ne ac [] [])) (hr:∀r∈([]:List Run),OkR r) (c:Call) (hk:c.1=9):
  ∃t r,M15d_9 ((mk ck nr nt nk ne ac [] []),c,())=some (t,r,())∧Done ck nr nt nk ne ac [] [] c t r:=by
 have h25:=twin_ok h
 have hf:=h.fine
 have he:=h.ev40
 have hne:=h.ne
 simp only [mk]at h25 hf he hne
 have h32:=hf.1
 have E:=e15d h
 simp only [mk]at E
 simp only [M15d_9,mk,h25,bind_some,isEmpty_nil,cond_false,zero_add,Nat.le_refl,decide_true,cond_true,allE,sgE,E]
 by_cases c1:c.2.2.2.2.2.2.2.1<ofNat 1
 ·rw [decide_eq_true c1,cond_true];exact⟨_,_,rfl,dn_err h 1⟩
 rw [decide_eq_false c1,cond_false]
 by_cases c2:c.2.2.2.2.2.2.2.1>ofNat 40
 ·rw [decide_eq_true c2,cond_true];exact⟨_,_,rfl,dn_err h 1⟩
 rw [decide_eq_false c2,cond_false]
 simp only [ofN]at c1 c2
 have hm:(if(0:Int)<c.2.2.2.2.2.2.2.1 then(0:Int)else c.2.2.2.2.2.2.2.1)=0:=if_pos (by omega)
 have hw:∀z y:Int,z=0→y=0→within z 0 y=true:=fun z y hz hy=>by subst hz;subst hy;rfl
 have h61:=f61 [] (by decide)
 simp only [hm,hw 0 0 rfl rfl,hw ((0:Nat):Int) ((0:Nat):Int) rfl rfl,cond_true,h61,bind_some,isEmpty_nil]
 exact⟨_,_,rfl,dn_drain h hk 0 rfl⟩
theorem m15a_10 {ck nr nt nk ne ac:Int} {rs:List Run} {es:List Event} (h:SOk (mk ck nr nt nk ne ac rs es)) (hr:∀r∈rs,OkR r) (hR:isEmpty rs=false) (hE:isEmpty es=false) (c:Call) (hk:c.1=10):
  ∃t r,M15a_10 ((mk ck nr nt nk ne ac rs es),c,())=some (t,r,())∧Done ck nr nt nk ne ac rs es c t r:=by
 have h25:=twin_ok h
 have hf:=h.fine
 have he:=h.ev40
 have hne:=h.ne
 simp only [mk]at h25 hf he hne
 have h32:=hf.1
 have E:=e15a h hR hE
 simp only [mk]at E
 simp only [M15a_10,mk,h25,bind_some,hR,hE,cond_false,zero_add,Nat.le_refl,decide_true,cond_true,allE,sgE,E]
 by_cases c1:c.2.2.2.2.2.2.2.1<ac
 ·rw [decide_eq_true c1,cond_true];exact⟨_,_,rfl,dn_err h 1⟩
 rw [decide_eq_false c1,cond_false]
 by_cases c2:c.2.2.2.2.2.2.2.1≥ne
 ·rw [decide_eq_true c2,cond_true];exact⟨_,_,rfl,dn_err h 1⟩
 rw [decide_eq_false c2,cond_false]
 have hac:=h.ack
 have hel:=h.elen
 simp only [mk]at hac hel
 obtain⟨m,hm⟩:∃m:Nat,c.2.2.2.2.2.2.2.1-ac=(m:Int):=⟨(c.2.2.2.2.2.2.2.1-ac).toNat,by omega⟩
 have hml:m≤es.length:=by omega
 have hwr:IntKind.i64.wrap (c.2.2.2.2.2.2.2.1-ac)=(m:Int):=by rw [IntKind.wrap_i64];omega
 have htn:(c.2.2.2.2.2.2.2.1-ac).toNat=m:=by omega
 have hw:∀z:Int,z=0→within z (m:Int) (es.length:Int)=true:=fun z hz=>by subst hz;simp only [within,Bool.and_eq_true,decide_eq_true_eq];omega
 have htk:take (es.length-m) (drop m es)=drop m es:=take_of_length_le (by rw [length_drop];omega)
 have h61:=f61 (es.drop m) (by rw [length_drop];omega)
 have hd:decide (m+(es.length-m)≤es.length)=true:=decide_eq_true (by omega)
 simp only [hwr,hw 0 rfl,hw ((0:Nat):Int) rfl,cond_true,toNat_natCast,zero_add,htk,hd,h61,bind_some,allE]
 cases hem:isEmpty (drop m es)with
 |true=>exact⟨_,_,rfl,dn_ack h hk (by omega) (by omega) (by rw [htn];exact(show es.drop m= [] by simpa using hem).symm)⟩
 |false=>
  generalize decide (((drop m es).length:Int)>ofNat 40)=b40
  cases b40 with
  |true=>exact⟨_,_,rfl,dn_err h 8⟩
  |false=>exact⟨_,_,rfl,dn_ack h hk (by omega) (by omega) (by rw [htn])⟩
theorem m15b_10 {ck nr nt nk ne ac:Int} {rs:List Run} (h:SOk (mk ck nr nt nk ne ac rs [])) (hr:∀r∈rs,OkR r) (hR:isEmpty rs=false) (c:Call) (hk:c.1=10):
  ∃t r,M15b_10 ((mk ck nr nt nk ne ac rs []),c,())=some (t,r,())∧Done ck nr nt nk ne ac rs [] c t r:=by
 have h25:=twin_ok h
 have hf:=h.fine
 have he:=h.ev40
 have hne:=h.ne
 simp only [mk]at h25 hf he hne
 have h32:=hf.1
 have E:=e15b h hR
 simp only [mk]at E
 simp only [M15b_10,mk,h25,bind_some,hR,isEmpty_nil,cond_false,zero_add,Nat.le_refl,decide_true,cond_true,allE,sgE,E]
 by_cases c1:c.2.2.2.2.2.2.2.1<ac
 ·rw [decide_eq_true c1,cond_true];exact⟨_,_,rfl,dn_err h 1⟩
 rw [decide_eq_false c1,cond_false]
 by_cases c2:c.2.2.2.2.2.2.2.1≥ne
 ·rw [decide_eq_true c2,cond_true];exact⟨_,_,rfl,dn_err h 1⟩
 rw [decide_eq_false c2,cond_false]
 have hac:=h.ack
 have hel:=h.elen
 simp only [mk]at hac hel
 have hto:c.2.2.2.2.2.2.2.1=ac:=by simp only [length_nil]at hel;omega
 have hwr:IntKind.i64.wrap (c.2.2.2.2.2.2.2.1-ac)=0:=by rw [IntKind.wrap_i64];omega
 have hw:∀z y:Int,z=0→y=0→within z 0 y=true:=fun z y hz hy=>by subst hz;subst hy;rfl
 have h61:=f61 [] (by decide)
 simp only [hwr,hw 0 0 rfl rfl,hw ((0:Nat):Int) ((0:Nat):Int) rfl rfl,cond_true,h61,bind_some,isEmpty_nil]
 exact⟨_,_,rfl,dn_ack h hk (by omega) (by omega) (by simp)⟩
theorem m15c_10 {ck nr nt nk ne ac:Int} {es:List Event} (h:SOk (mk ck nr nt nk ne ac [] es)) (hr:∀r∈([]:List Run),OkR r) (hE:isEmpty es=false) (c:Call) (hk:c.1=10):
  ∃t r,M15c_10 ((mk ck nr nt nk ne ac [] es),c,())=some (t,r,())∧Done ck nr nt nk ne ac [] es c t r:=by
 have h25:=twin_ok h
 have hf:=h.fine
 have he:=h.ev40
 have hne:=h.ne
 simp only [mk]at h25 hf he hne
 have h32:=hf.1
 have E:=e15c h hE
 simp only [mk]at E
 simp only [M15c_10,mk,h25,bind_some,hE,isEmpty_nil,cond_false,zero_add,Nat.le_refl,decide_true,cond_true,allE,sgE,E]
 by_cases c1:c.2.2.2.2.2.2.2.1<ac
 ·rw [decide_eq_true c1,cond_true];exact⟨_,_,rfl,dn_err h 1⟩
 rw [decide_eq_false c1,cond_false]
 by_cases c2:c.2.2.2.2.2.2.2.1≥ne
 ·rw [decide_eq_true c2,cond_true];exact⟨_,_,rfl,dn_err h 1⟩
 rw [decide_eq_false c2,cond_false]
 have hac:=h.ack
 have hel:=h.elen
 simp only [mk]at hac hel
 obtain⟨m,hm⟩:∃m:Nat,c.2.2.2.2.2.2.2.1-ac=(m:Int):=⟨(c.2.2.2.2.2.2.2.1-ac).toNat,by omega⟩
 have hml:m≤es.length:=by omega
 have hwr:IntKind.i64.wrap (c.2.2.2.2.2.2.2.1-ac)=(m:Int):=by rw [IntKind.wrap_i64];omega
 have htn:(c.2.2.2.2.2.2.2.1-ac).toNat=m:=by omega
 have hw:∀z:Int,z=0→within z (m:Int) (es.length:Int)=true:=fun z hz=>by subst hz;simp only [within,Bool.and_eq_true,decide_eq_true_eq];omega
 have htk:take (es.length-m) (drop m es)=drop m es:=take_of_length_le (by rw [length_drop];omega)
 have h61:=f61 (es.drop m) (by rw [length_drop];omega)
 have hd:decide (m+(es.length-m)≤es.length)=true:=decide_eq_true (by omega)
 simp only [hwr,hw 0 rfl,hw ((0:Nat):Int) rfl,cond_true,toNat_natCast,zero_add,htk,hd,h61,bind_some,allE]
 cases hem:isEmpty (drop m es)with
 |true=>exact⟨_,_,rfl,dn_ack h hk (by omega) (by omega) (by rw [htn];exact(show es.drop m= [] by simpa using hem).symm)⟩
 |false=>
  generalize decide (((drop m es).length:Int)>ofNat 40)=b40
  cases b40 with
  |true=>exact⟨_,_,rfl,dn_err h 8⟩
  |false=>exact⟨_,_,rfl,dn_ack h hk (by omega) (by omega) (by rw [htn])⟩
theorem m15d_10 {ck nr nt nk ne ac:Int} (h:SOk (mk ck nr nt nk ne ac [] [])) (hr:∀r∈([]:List Run),OkR r) (c:Call) (hk:c.1=10):
  ∃t r,M15d_10 ((mk ck nr nt nk ne ac [] []),c,())=some (t,r,())∧Done ck nr nt nk ne ac [] [] c t r:=by
 have h25:=twin_ok h
 have hf:=h.fine
 have he:=h.ev40
 have hne:=h.ne
 simp only [mk]at h25 hf he hne
 have h32:=hf.1
 have E:=e15d h
 simp only [mk]at E
 simp only [M15d_10,mk,h25,bind_some,isEmpty_nil,cond_false,zero_add,Nat.le_refl,decide_true,cond_true,allE,sgE,E]
 by_cases c1:c.2.2.2.2.2.2.2.1<ac
 ·rw [decide_eq_true c1,cond_true];exact⟨_,_,rfl,dn_err h 1⟩
 rw [decide_eq_false c1,cond_false]
 by_cases c2:c.2.2.2.2.2.2.2.1≥ne
 ·rw [decide_eq_true c2,cond_true];exact⟨_,_,rfl,dn_err h 1⟩
 rw [decide_eq_false c2,cond_false]
 have hac:=h.ack
 have hel:=h.elen
 simp only [mk]at hac hel
 have hto:c.2.2.2.2.2.2.2.1=ac:=by simp only [length_nil]at hel;omega
 have hwr:IntKind.i64.wrap (c.2.2.2.2.2.2.2.1-ac)=0:=by rw [IntKind.wrap_i64];omega
 have hw:∀z y:Int,z=0→y=0→within z 0 y=true:=fun z y hz hy=>by subst hz;subst hy;rfl
 have h61:=f61 [] (by decide)
 simp only [hwr,hw 0 0 rfl rfl,hw ((0:Nat):Int) ((0:Nat):Int) rfl rfl,cond_true,h61,bind_some,isEmpty_nil]
 exact⟨_,_,rfl,dn_ack h hk (by omega) (by omega) (by simp)⟩
theorem m15a_5 {ck nr nt nk ne ac:Int} {rs:List Run} {es:List Event} (h:SOk (mk ck nr nt nk ne ac rs es)) (hr:∀r∈rs,OkR r) (hR:isEmpty rs=false) (hE:isEmpty es=false) (c:Call) (hfr:Fresh nr nt nk ne) (hk:c.1=5):
  ∃t r,M15a_5 ((mk ck nr nt nk ne ac rs es),c,())=some (t,r,())∧Done ck nr nt nk ne ac rs es c t r:=by
 have h25:=twin_ok h
 have hf:=h.fine
 have he:=h.ev40
 have hne:=h.ne
 simp only [mk]at h25 hf he hne
 have h32:=hf.1
 have E:=e15a h hR hE
 simp only [mk]at E
 obtain⟨bs,hbs⟩:=f118 c.2.2.2.2.2.2.1
 simp only [M15a_5,mk,h25,bind_some,hR,hE,cond_false,zero_add,Nat.le_refl,decide_true,cond_true,allE,sgE,E,hbs]
 cases bs with
 |false=>exact⟨_,_,rfl,dn_err h 1⟩
 |true=>
 simp only [Bool.not_true,cond_false]
 obtain⟨i,b,e,hfi,hq⟩:=find_ok rs (by omega) hr c.2.2.2.1
 simp only [hfi,bind_some]
 rcases hq with⟨_,_,hq⟩|⟨rfl,_,⟨rfl,n,rfl,hn,hid⟩|⟨rfl,_⟩⟩
 ·exact absurd hf hq
 ·simp only [Bool.not_true,cond_false,rg_in hn,rg_ltn hn,cond_true,toNat_natCast]
  refine beat_step (rs.getD n (dft sRun)) (hr _ (getD_mem hn _)) _ _ _ (fun r' k hi hkl hh hun hT=> ?_) (fun m=> ?_)
  ·simp only [sp2_0]
   try simp only [length_cons,length_nil,zero_add,room32 (show es.length≤60 by omega) (show 1≤60 by omega),room32 (show es.length+1≤60 by omega) (show 1≤60 by omega),decide_true,cond_true,length_append,length_set,Nat.le_refl,drop_zero]
   by_cases c40:(((es.length:Nat):Int)>ofNat 40)
   ·rw [decide_eq_true c40,cond_true];exact⟨_,_,rfl,dn_err h 8⟩
   ·rw [decide_eq_false c40,cond_false]
    exact⟨_,_,rfl,dn_beat h hk hfr hn hid hi hkl hh hun hT (tset n r')⟩
  ·simp only [sp2_s]
   exact⟨_,_,rfl,dn_err h m⟩
 ·exact⟨_,_,rfl,dn_err h 5⟩
theorem m15b_5 {ck nr nt nk ne ac:Int} {rs:List Run} (h:SOk (mk ck nr nt nk ne ac rs [])) (hr:∀r∈rs,OkR r) (hR:isEmpty rs=false) (c:Call) (hfr:Fresh nr nt nk ne) (hk:c.1=5):
  ∃t r,M15b_5 ((mk ck nr nt nk ne ac rs []),c,())=some (t,r,())∧Done ck nr nt nk ne ac rs [] c t r:=by
 have h25:=twin_ok h
 have hf:=h.fine
 have he:=h.ev40
 have hne:=h.ne
 simp only [mk]at h25 hf he hne
 have h32:=hf.1
 have E:=e15b h hR
 simp only [mk]at E
 obtain⟨bs,hbs⟩:=f118 c.2.2.2.2.2.2.1
 simp only [M15b_5,mk,h25,bind_some,hR,isEmpty_nil,cond_false,zero_add,Nat.le_refl,decide_true,cond_true,allE,sgE,E,hbs]
 cases bs with
 |false=>exact⟨_,_,rfl,dn_err h 1⟩
 |true=>
 simp only [Bool.not_true,cond_false]
 obtain⟨i,b,e,hfi,hq⟩:=find_ok rs (by omega) hr c.2.2.2.1
 simp only [hfi,bind_some]
 rcases hq with⟨_,_,hq⟩|⟨rfl,_,⟨rfl,n,rfl,hn,hid⟩|⟨rfl,_⟩⟩
 ·exact absurd hf hq
 ·simp only [Bool.not_true,cond_false,rg_in hn,rg_ltn hn,cond_true,toNat_natCast]
  refine beat_step (rs.getD n (dft sRun)) (hr _ (getD_mem hn _)) _ _ _ (fun r' k hi hkl hh hun hT=> ?_) (fun m=> ?_)
  ·simp only [sp2_0]
   try simp only [length_set,Nat.le_refl,decide_true,cond_true,drop_zero]
   exact⟨_,_,rfl,dn_beat h hk hfr hn hid hi hkl hh hun hT (tset n r')⟩
  ·simp only [sp2_s]
   exact⟨_,_,rfl,dn_err h m⟩
 ·exact⟨_,_,rfl,dn_err h 5⟩
theorem m15c_5 {ck nr nt nk ne ac:Int} {es:List Event} (h:SOk (mk ck nr nt nk ne ac [] es)) (hr:∀r∈([]:List Run),OkR r) (hE:isEmpty es=false) (c:Call) (hfr:Fresh nr nt nk ne) (hk:c.1=5):
  ∃t r,M15c_5 ((mk ck nr nt nk ne ac [] es),c,())=some (t,r,())∧Done ck nr nt nk ne ac [] es c t r:=by
 have h25:=twin_ok h
 have hf:=h.fine
 have he:=h.ev40
 have hne:=h.ne
 simp only [mk]at h25 hf he hne
 have h32:=hf.1
 have E:=e15c h hE
 simp only [mk]at E
 obtain⟨bs,hbs⟩:=f118 c.2.2.2.2.2.2.1
 simp only [M15c_5,mk,h25,bind_some,hE,isEmpty_nil,cond_false,zero_add,Nat.le_refl,decide_true,cond_true,allE,sgE,E,hbs]
 cases bs with
 |false=>exact⟨_,_,rfl,dn_err h 1⟩
 |true=>
 simp only [Bool.not_true,cond_false]
 obtain⟨i,b,e,hfi,hq⟩:=find_ok ([]:List Run) (by omega) hr c.2.2.2.1
 simp only [hfi,bind_some]
 rcases hq with⟨_,_,hq⟩|⟨rfl,_,⟨rfl,n,rfl,hn,hid⟩|⟨rfl,_⟩⟩
 ·exact absurd hf hq
 ·exact absurd hn (not_lt_zero _)
 ·exact⟨_,_,rfl,dn_err h 5⟩
theorem m15d_5 {ck nr nt nk ne ac:Int} (h:SOk (mk ck nr nt nk ne ac [] [])) (hr:∀r∈([]:List Run),OkR r) (c:Call) (hfr:Fresh nr nt nk ne) (hk:c.1=5):
  ∃t r,M15d_5 ((mk ck nr nt nk ne ac [] []),c,())=some (t,r,())∧Done ck nr nt nk ne ac [] [] c t r:=by
 have h25:=twin_ok h
 have hf:=h.fine
 have he:=h.ev40
 have hne:=h.ne
 simp only [mk]at h25 hf he hne
 have h32:=hf.1
 have E:=e15d h
 simp only [mk]at E
 obtain⟨bs,hbs⟩:=f118 c.2.2.2.2.2.2.1
 simp only [M15d_5,mk,h25,bind_some,isEmpty_nil,cond_false,zero_add,Nat.le_refl,decide_true,cond_true,allE,sgE,E,hbs]
 cases bs with
 |false=>exact⟨_,_,rfl,dn_err h 1⟩
 |true=>
 simp only [Bool.not_true,cond_false]
 obtain⟨i,b,e,hfi,hq⟩:=find_ok ([]:List Run) (by omega) hr c.2.2.2.1
 simp only [hfi,bind_some]
 rcases hq with⟨_,_,hq⟩|⟨rfl,_,⟨rfl,n,rfl,hn,hid⟩|⟨rfl,_⟩⟩
 ·exact absurd hf hq
 ·exact absurd hn (not_lt_zero _)
 ·exact⟨_,_,rfl,dn_err h 5⟩
theorem m15a_2 {ck nr nt nk ne ac:Int} {rs:List Run} {es:List Event} (h:SOk (mk ck nr nt nk ne ac rs es)) (hr:∀r∈rs,OkR r) (hR:isEmpty rs=false) (hE:isEmpty es=false) (c:Call) (hfr:Fresh nr nt nk ne) (hk:c.1=2):
  ∃t r,M15a_2 ((mk ck nr nt nk ne ac rs es),c,())=some (t,r,())∧Done ck nr nt nk ne ac rs es c t r:=by
 have h25:=twin_ok h
 have hf:=h.fine
 have he:=h.ev40
 have hne:=h.ne
 simp only [mk]at h25 hf he hne
 have h32:=hf.1
 have E:=e15a h hR hE
 simp only [mk]at E
 have hnt:=h.nt
 simp only [mk]at hnt
 obtain⟨bs,hbs⟩:=f118 c.2.2.2.2.2.2.1
 simp only [M15a_2,mk,h25,bind_some,hR,hE,cond_false,zero_add,Nat.le_refl,decide_true,cond_true,allE,sgE,E,hbs]
 cases bs with
 |false=>exact⟨_,_,rfl,dn_err h 1⟩
 |true=>
 simp only [Bool.not_true,cond_false]
 obtain⟨p,b,e,hnx,hq⟩:=next_ok rs (by omega) hr
 simp only [hnx,bind_some]
 rcases hq with⟨_,_,hq⟩|⟨rfl,_,_,_,hex⟩
 ·exact absurd hf hq
 cases b with
 |false=>exact⟨_,_,rfl,dn_err h 5⟩
 |true=>
 obtain⟨n0,k0,hn0,_,_,hp,_⟩:=hex rfl
 simp only [Bool.not_true,cond_false]
 obtain⟨i,b,e,hfi,hq⟩:=find_ok rs (by omega) hr p.1
 simp only [hfi,bind_some]
 rcases hq with⟨_,_,hq⟩|⟨rfl,_,⟨rfl,n,rfl,hn,hid⟩|⟨rfl,hno⟩⟩
 ·exact absurd hf hq
 ·simp only [Bool.not_true,cond_false,rg_in hn,rg_ltn hn,cond_true,toNat_natCast]
  refine lease_step (rs.getD n (dft sRun)) (hr _ (getD_mem hn _)) _ _ _ (fun r' k hi hkl h1 hun hT=> ?_) (fun m=> ?_)
  ·simp only [sp2_0]
   try simp only [length_cons,length_nil,zero_add,room32 (show es.length≤60 by omega) (show 1≤60 by omega),room32 (show es.length+1≤60 by omega) (show 1≤60 by omega),decide_true,cond_true,length_append,length_set,Nat.le_refl,drop_zero]
   by_cases c40:(((es.length:Nat):Int)>ofNat 40)
   ·rw [decide_eq_true c40,cond_true];exact⟨_,_,rfl,dn_err h 8⟩
   ·rw [decide_eq_false c40,cond_false]
    exact⟨_,_,rfl,dn_poll h hk hfr hn hkl h1 hun hT hid hi (wrm (by omega) (by omega)) (wr1 (by omega) (by omega)) (tset n r')⟩
  ·simp only [sp2_s]
   exact⟨_,_,rfl,dn_err h m⟩
 ·exact absurd hp.symm (hno n0 hn0)
theorem m15b_2 {ck nr nt nk ne ac:Int} {rs:List Run} (h:SOk (mk ck nr nt nk ne ac rs [])) (hr:∀r∈rs,OkR r) (hR:isEmpty rs=false) (c:Call) (hfr:Fresh nr nt nk ne) (hk:c.1=2):
  ∃t r,M15b_2 ((mk ck nr nt nk ne ac rs []),c,())=some (t,r,())∧Done ck nr nt nk ne ac rs [] c t r:=by
 have h25:=twin_ok h
 have hf:=h.fine
 have he:=h.ev40
 have hne:=h.ne
 simp only [mk]at h25 hf he hne
 have h32:=hf.1
 have E:=e15b h hR
 simp only [mk]at E
 have hnt:=h.nt
 simp only [mk]at hnt
 obtain⟨bs,hbs⟩:=f118 c.2.2.2.2.2.2.1
 simp only [M15b_2,mk,h25,bind_some,hR,isEmpty_nil,cond_false,zero_add,Nat.le_refl,decide_true,cond_true,allE,sgE,E,hbs]
 cases bs with
 |false=>exact⟨_,_,rfl,dn_err h 1⟩
 |true=>
 simp only [Bool.not_true,cond_false]
 obtain⟨p,b,e,hnx,hq⟩:=next_ok rs (by omega) hr
 simp only [hnx,bind_some]
 rcases hq with⟨_,_,hq⟩|⟨rfl,_,_,_,hex⟩
 ·exact absurd hf hq
 cases b with
 |false=>exact⟨_,_,rfl,dn_err h 5⟩
 |true=>
 obtain⟨n0,k0,hn0,_,_,hp,_⟩:=hex rfl
 simp only [Bool.not_true,cond_false]
 obtain⟨i,b,e,hfi,hq⟩:=find_ok rs (by omega) hr p.1
 simp only [hfi,bind_some]
 rcases hq with⟨_,_,hq⟩|⟨rfl,_,⟨rfl,n,rfl,hn,hid⟩|⟨rfl,hno⟩⟩
 ·exact absurd hf hq
 ·simp only [Bool.not_true,cond_false,rg_in hn,rg_ltn hn,cond_true,toNat_natCast]
  refine lease_step (rs.getD n (dft sRun)) (hr _ (getD_mem hn _)) _ _ _ (fun r' k hi hkl h1 hun hT=> ?_) (fun m=> ?_)
  ·simp only [sp2_0]
   try simp only [length_set,Nat.le_refl,decide_true,cond_true,drop_zero]
   exact⟨_,_,rfl,dn_poll h hk hfr hn hkl h1 hun hT hid hi (wrm (by omega) (by omega)) (wr1 (by omega) (by omega)) (tset n r')⟩
  ·simp only [sp2_s]
   exact⟨_,_,rfl,dn_err h m⟩
 ·exact absurd hp.symm (hno n0 hn0)
theorem m15c_2 {ck nr nt nk ne ac:Int} {es:List Event} (h:SOk (mk ck nr nt nk ne ac [] es)) (hr:∀r∈([]:List Run),OkR r) (hE:isEmpty es=false) (c:Call) (hfr:Fresh nr nt nk ne) (hk:c.1=2):
  ∃t r,M15c_2 ((mk ck nr nt nk ne ac [] es),c,())=some (t,r,())∧Done ck nr nt nk ne ac [] es c t r:=by
 have h25:=twin_ok h
 have hf:=h.fine
 have he:=h.ev40
 have hne:=h.ne
 simp only [mk]at h25 hf he hne
 have h32:=hf.1
 have E:=e15c h hE
 simp only [mk]at E
 have hnt:=h.nt
 simp only [mk]at hnt
 obtain⟨bs,hbs⟩:=f118 c.2.2.2.2.2.2.1
 simp only [M15c_2,mk,h25,bind_some,hE,isEmpty_nil,cond_false,zero_add,Nat.le_refl,decide_true,cond_true,allE,sgE,E,hbs]
 cases bs with
 |false=>exact⟨_,_,rfl,dn_err h 1⟩
 |true=>
 simp only [Bool.not_true,cond_false]
 obtain⟨p,b,e,hnx,hq⟩:=next_ok ([]:List Run) (by omega) hr
 simp only [hnx,bind_some]
 rcases hq with⟨_,_,hq⟩|⟨rfl,_,_,_,hex⟩
 ·exact absurd hf hq
 cases b with
 |false=>exact⟨_,_,rfl,dn_err h 5⟩
 |true=>
 obtain⟨n0,k0,hn0,_,_,hp,_⟩:=hex rfl
 exact absurd hn0 (not_lt_zero _)
theorem m15d_2 {ck nr nt nk ne ac:Int} (h:SOk (mk ck nr nt nk ne ac [] [])) (hr:∀r∈([]:List Run),OkR r) (c:Call) (hfr:Fresh nr nt nk ne) (hk:c.1=2):
  ∃t r,M15d_2 ((mk ck nr nt nk ne ac [] []),c,())=some (t,r,())∧Done ck nr nt nk ne ac [] [] c t r:=by
 have h25:=twin_ok h
 have hf:=h.fine
 have he:=h.ev40
 have hne:=h.ne
 simp only [mk]at h25 hf he hne
 have h32:=hf.1
 have E:=e15d h
 simp only [mk]at E
 have hnt:=h.nt
 simp only [mk]at hnt
 obtain⟨bs,hbs⟩:=f118 c.2.2.2.2.2.2.1
 simp only [M15d_2,mk,h25,bind_some,isEmpty_nil,cond_false,zero_add,Nat.le_refl,decide_true,cond_true,allE,sgE,E,hbs]
 cases bs with
 |false=>exact⟨_,_,rfl,dn_err h 1⟩
 |true=>
 simp only [Bool.not_true,cond_false]
 obtain⟨p,b,e,hnx,hq⟩:=next_ok ([]:List Run) (by omega) hr
 simp only [hnx,bind_some]
 rcases hq with⟨_,_,hq⟩|⟨rfl,_,_,_,hex⟩
 ·exact absurd hf hq
 cases b with
 |false=>exact⟨_,_,rfl,dn_err h 5⟩
 |true=>
 obtain⟨n0,k0,hn0,_,_,hp,_⟩:=hex rfl
 exact absurd hn0 (not_lt_zero _)
theorem m15a_1 {ck nr nt nk ne ac:Int} {rs:List Run} {es:List Event} (h:SOk (mk ck nr nt nk ne ac rs es)) (hr:∀r∈rs,OkR r) (hR:isEmpty rs=false) (hE:isEmpty es=false) (c:Call) (hcl:∀nd∈c.2.2.1.1,nd.1.length≤9223372036854775807) (hfr:Fresh nr nt nk ne) (hk:c.1=1):
  ∃t r,M15a_1 ((mk ck nr nt nk ne ac rs es),c,())=some (t,r,())∧Done ck nr nt nk ne ac rs es c t r:=by
 have h25:=twin_ok h
 have hf:=h.fine
 have he:=h.ev40
 have hne:=h.ne
 simp only [mk]at h25 hf he hne
 have h32:=hf.1
 have E:=e15a h hR hE
 simp only [mk]at E
 have hnr:0≤nr∧nr≤1099511627776:=h.nr
 simp only [M15a_1,mk,h25,bind_some,hR,hE,cond_false,zero_add,Nat.le_refl,decide_true,cond_true,allE,sgE,E]
 by_cases c1:((c.2.1.size:Nat):Int)<ofNat 1
 ·rw [decide_eq_true c1,cond_true];exact⟨_,_,rfl,dn_err h 2⟩
 rw [decide_eq_false c1,cond_false]
 by_cases c2:((c.2.1.size:Nat):Int)>ofNat 24
 ·rw [decide_eq_true c2,cond_true];exact⟨_,_,rfl,dn_err h 2⟩
 rw [decide_eq_false c2,cond_false]
 obtain⟨v,hv,hc⟩:=f114 c.2.2.1.1 hcl
 have hv':F114 (c.2.2.1,())=some (v,()):=hv
 simp only [hv',bind_some]
 rcases hc with⟨rfl,hdag⟩|⟨rfl,_⟩
 ·simp only [sp2_0]
  obtain⟨i,b,e,hkn,hq⟩:=known_ok rs (by omega) hr c.2.1
  simp only [hkn,bind_some]
  rcases hq with⟨_,_,hq⟩|⟨rfl,_,⟨rfl,n,hn,hid,hkey⟩|⟨rfl,hno⟩⟩
  ·exact absurd hf hq
  ·simp only [cond_true]
   try simp only [length_cons,length_nil,zero_add,room32 (show es.length≤60 by omega) (show 1≤60 by omega),room32 (show es.length+1≤60 by omega) (show 1≤60 by omega),decide_true,cond_true,length_append,length_set,Nat.le_refl,drop_zero]
   by_cases c40:(((es.length:Nat):Int)>ofNat 40)
   ·rw [decide_eq_true c40,cond_true];exact⟨_,_,rfl,dn_err h 8⟩
   ·rw [decide_eq_false c40,cond_false]
    exact⟨_,_,rfl,dn_known h hk hn hkey hid⟩
  ·simp only [cond_false]
   by_cases c32:((rs.length:Nat):Int)=32
   ·rw [show(((rs.length:Nat):Int)==ofNat 32)=true by rw [c32];rfl,cond_true];exact⟨_,_,rfl,dn_err h 8⟩
   ·rw [show(((rs.length:Nat):Int)==ofNat 32)=false by simpa using c32,cond_false]
    refine start_step _ _ _ hcl _ (fun hkey hd hrk=> ?_) (fun r' rk' m=> ?_)
    ·simp only [sp2_0]
     try simp only [one1,sgE,allE,length_cons,length_nil,zero_add,room80 (show rs.length≤60 by omega),room32 (show es.length≤60 by omega) (show 1≤60 by omega),room32 (show es.length+1≤60 by omega) (show 1≤60 by omega),decide_true,cond_true,length_append,Nat.le_refl,drop_zero]
     by_cases c40:(((es.length+1:Nat):Int)>ofNat 40)
     ·rw [decide_eq_true c40,cond_true];exact⟨_,_,rfl,dn_err h 8⟩
     ·rw [decide_eq_false c40,cond_false]
      exact⟨_,_,rfl,dn_new hk hfr hno (by omega) hkey hd hrk (wr1 (by omega) (by omega)) (wr1 (by omega) (by omega)) (by simp) (by simp) (by simp only [length_append,length_cons,length_nil,ofN]at c40⊢;omega)⟩
    ·simp only [sp2_s]
     exact⟨_,_,rfl,dn_err h m⟩
 ·exact⟨_,_,rfl,dn_err h 229⟩
theorem m15b_1 {ck nr nt nk ne ac:Int} {rs:List Run} (h:SOk (mk ck nr nt nk ne ac rs [])) (hr:∀r∈rs,OkR r) (hR:isEmpty rs=false) (c:Call) (hcl:∀nd∈c.2.2.1.1,nd.1.length≤9223372036854775807) (hfr:Fresh nr nt nk ne) (hk:c.1=1):
  ∃t r,M15b_1 ((mk ck nr nt nk ne ac rs []),c,())=some (t,r,())∧Done ck nr nt nk ne ac rs [] c t r:=by
 have h25:=twin_ok h
 have hf:=h.fine
 have he:=h.ev40
 have hne:=h.ne
 simp only [mk]at h25 hf he hne
 have h32:=hf.1
 have E:=e15b h hR
 simp only [mk]at E
 have hnr:0≤nr∧nr≤1099511627776:=h.nr
 simp only [M15b_1,mk,h25,bind_some,hR,isEmpty_nil,cond_false,zero_add,Nat.le_refl,decide_true,cond_true,allE,sgE,E]
 by_cases c1:((c.2.1.size:Nat):Int)<ofNat 1
 ·rw [decide_eq_true c1,cond_true];exact⟨_,_,rfl,dn_err h 2⟩
 rw [decide_eq_false c1,cond_false]
 by_cases c2:((c.2.1.size:Nat):Int)>ofNat 24
 ·rw [decide_eq_true c2,cond_true];exact⟨_,_,rfl,dn_err h 2⟩
 rw [decide_eq_false c2,cond_false]
 obtain⟨v,hv,hc⟩:=f114 c.2.2.1.1 hcl
 have hv':F114 (c.2.2.1,())=some (v,()):=hv
 simp only [hv',bind_some]
 rcases hc with⟨rfl,hdag⟩|⟨rfl,_⟩
 ·simp only [sp2_0]
  obtain⟨i,b,e,hkn,hq⟩:=known_ok rs (by omega) hr c.2.1
  simp only [hkn,bind_some]
  rcases hq with⟨_,_,hq⟩|⟨rfl,_,⟨rfl,n,hn,hid,hkey⟩|⟨rfl,hno⟩⟩
  ·exact absurd hf hq
  ·simp only [cond_true]
   try simp only [length_set,Nat.le_refl,decide_true,cond_true,drop_zero]
   exact⟨_,_,rfl,dn_known h hk hn hkey hid⟩
  ·simp only [cond_false]
   by_cases c32:((rs.length:Nat):Int)=32
   ·rw [show(((rs.length:Nat):Int)==ofNat 32)=true by rw [c32];rfl,cond_true];exact⟨_,_,rfl,dn_err h 8⟩
   ·rw [show(((rs.length:Nat):Int)==ofNat 32)=false by simpa using c32,cond_false]
    refine start_step _ _ _ hcl _ (fun hkey hd hrk=> ?_) (fun r' rk' m=> ?_)
    ·simp only [sp2_0]
     try simp only [one1,sgE,allE,length_cons,length_nil,zero_add,room80 (show rs.length≤60 by omega),decide_true,cond_true,length_append,Nat.le_refl,drop_zero]
     exact⟨_,_,rfl,dn_new hk hfr hno (by omega) hkey hd hrk (wr1 (by omega) (by omega)) (wr1 (by omega) (by omega)) (by simp) (by simp) (by simp only [length_cons,length_nil];omega)⟩
    ·simp only [sp2_s]
     exact⟨_,_,rfl,dn_err h m⟩
 ·exact⟨_,_,rfl,dn_err h 229⟩
theorem m15c_1 {ck nr nt nk ne ac:Int} {es:List Event} (h:SOk (mk ck nr nt nk ne ac [] es)) (hr:∀r∈([]:List Run),OkR r) (hE:isEmpty es=false) (c:Call) (hcl:∀nd∈c.2.2.1.1,nd.1.length≤9223372036854775807) (hfr:Fresh nr nt nk ne) (hk:c.1=1):
  ∃t r,M15c_1 ((mk ck nr nt nk ne ac [] es),c,())=some (t,r,())∧Done ck nr nt nk ne ac [] es c t r:=by
 have h25:=twin_ok h
 have hf:=h.fine
 have he:=h.ev40
 have hne:=h.ne
 simp only [mk]at h25 hf he hne
 have h32:=hf.1
 have E:=e15c h hE
 simp only [mk]at E
 have hnr:0≤nr∧nr≤1099511627776:=h.nr
 simp only [M15c_1,mk,h25,bind_some,hE,isEmpty_nil,cond_false,zero_add,Nat.le_refl,decide_true,cond_true,allE,sgE,E]
 by_cases c1:((c.2.1.size:Nat):Int)<ofNat 1
 ·rw [decide_eq_true c1,cond_true];exact⟨_,_,rfl,dn_err h 2⟩
 rw [decide_eq_false c1,cond_false]
 by_cases c2:((c.2.1.size:Nat):Int)>ofNat 24
 ·rw [decide_eq_true c2,cond_true];exact⟨_,_,rfl,dn_err h 2⟩
 rw [decide_eq_false c2,cond_false]
 obtain⟨v,hv,hc⟩:=f114 c.2.2.1.1 hcl
 have hv':F114 (c.2.2.1,())=some (v,()):=hv
 simp only [hv',bind_some]
 rcases hc with⟨rfl,hdag⟩|⟨rfl,_⟩
 ·simp only [sp2_0]
  obtain⟨i,b,e,hkn,hq⟩:=known_ok ([]:List Run) (by omega) hr c.2.1
  simp only [hkn,bind_some]
  rcases hq with⟨_,_,hq⟩|⟨rfl,_,⟨rfl,n,hn,hid,hkey⟩|⟨rfl,hno⟩⟩
  ·exact absurd hf hq
  ·exact absurd hn (not_lt_zero _)
  ·simp only [cond_false]
   refine start_step _ _ _ hcl _ (fun hkey hd hrk=> ?_) (fun r' rk' m=> ?_)
   ·simp only [sp2_0]
    try simp only [one1,sgE,allE,length_cons,length_nil,zero_add,room32 (show es.length≤60 by omega) (show 1≤60 by omega),room32 (show es.length+1≤60 by omega) (show 1≤60 by omega),decide_true,cond_true,length_append,Nat.le_refl,drop_zero]
    by_cases c40:(((es.length+1:Nat):Int)>ofNat 40)
    ·rw [decide_eq_true c40,cond_true];exact⟨_,_,rfl,dn_err h 8⟩
    ·rw [decide_eq_false c40,cond_false]
     exact⟨_,_,rfl,dn_new hk hfr hno (by simp only [length_nil];omega) hkey hd hrk (wr1 (by omega) (by omega)) (wr1 (by omega) (by omega)) (by simp) (by simp) (by simp only [length_append,length_cons,length_nil,ofN]at c40⊢;omega)⟩
   ·simp only [sp2_s]
    exact⟨_,_,rfl,dn_err h m⟩
 ·exact⟨_,_,rfl,dn_err h 229⟩
theorem m15d_1 {ck nr nt nk ne ac:Int} (h:SOk (mk ck nr nt nk ne ac [] [])) (hr:∀r∈([]:List Run),OkR r) (c:Call) (hcl:∀nd∈c.2.2.1.1,nd.1.length≤9223372036854775807) (hfr:Fresh nr nt nk ne) (hk:c.1=1):
  ∃t r,M15d_1 ((mk ck nr nt nk ne ac [] []),c,())=some (t,r,())∧Done ck nr nt nk ne ac [] [] c t r:=by
 have h25:=twin_ok h
 have hf:=h.fine
 have he:=h.ev40
 have hne:=h.ne
 simp only [mk]at h25 hf he hne
 have h32:=hf.1
 have E:=e15d h
 simp only [mk]at E
 have hnr:0≤nr∧nr≤1099511627776:=h.nr
 simp only [M15d_1,mk,h25,bind_some,isEmpty_nil,cond_false,zero_add,Nat.le_refl,decide_true,cond_true,allE,sgE,E]
 by_cases c1:((c.2.1.size:Nat):Int)<ofNat 1
 ·rw [decide_eq_true c1,cond_true];exact⟨_,_,rfl,dn_err h 2⟩
 rw [decide_eq_false c1,cond_false]
 by_cases c2:((c.2.1.size:Nat):Int)>ofNat 24
 ·rw [decide_eq_true c2,cond_true];exact⟨_,_,rfl,dn_err h 2⟩
 rw [decide_eq_false c2,cond_false]
 obtain⟨v,hv,hc⟩:=f114 c.2.2.1.1 hcl
 have hv':F114 (c.2.2.1,())=some (v,()):=hv
 simp only [hv',bind_some]
 rcases hc with⟨rfl,hdag⟩|⟨rfl,_⟩
 ·simp only [sp2_0]
  obtain⟨i,b,e,hkn,hq⟩:=known_ok ([]:List Run) (by omega) hr c.2.1
  simp only [hkn,bind_some]
  rcases hq with⟨_,_,hq⟩|⟨rfl,_,⟨rfl,n,hn,hid,hkey⟩|⟨rfl,hno⟩⟩
  ·exact absurd hf hq
  ·exact absurd hn (not_lt_zero _)
  ·simp only [cond_false]
   refine start_step _ _ _ hcl _ (fun hkey hd hrk=> ?_) (fun r' rk' m=> ?_)
   ·simp only [sp2_0]
    try simp only [one1,sgE,allE,length_cons,length_nil,zero_add,decide_true,cond_true,length_append,Nat.le_refl,drop_zero]
    exact⟨_,_,rfl,dn_new hk hfr hno (by simp only [length_nil];omega) hkey hd hrk (wr1 (by omega) (by omega)) (wr1 (by omega) (by omega)) (by simp) (by simp) (by simp only [length_cons,length_nil];omega)⟩
   ·simp only [sp2_s]
    exact⟨_,_,rfl,dn_err h m⟩
 ·exact⟨_,_,rfl,dn_err h 229⟩
abbrev Dom {α β:Type} (f:α→β):Type:=α
structure SameI (rs R:List Run):Prop where
 len:R.length=rs.length
 is:∀j:Nat,j<rs.length→(R.getD j (dft sRun)).1=(rs.getD j (dft sRun)).1∧(tsA R j).length=(tsA rs j).length
theorem same_set {rs R:List Run} (hs:SameI rs R) {n:Nat} (hn:n<R.length) {r':Run} (h1:r'.1=(R.getD n (dft sRun)).1) (h2:r'.2.2.2.2.1.length=(tsA R n).length):SameI rs (R.set n r'):=by
 refine⟨by rw [length_set];exact hs.len,fun j hj=> ?_⟩
 unfold tsA
 rw [getD_set_run hn]
 split
 ·rename_i c
  subst c
  exact⟨h1.trans (hs.is _ hj).1,h2.trans (hs.is _ hj).2⟩
 ·exact hs.is j hj
theorem tkn_same {now:Int} {P:List Place} {x:TkS}:∀(i:Nat) (y:TkS),TkN now P x i y→SameI x.2.1 y.2.1∧x.1≤y.1∧y.1≤x.1+i
 |_,_,.zero=>⟨⟨rfl,fun _ _=>⟨rfl,rfl⟩⟩,by omega,by omega⟩
 |_,z,.step i y _ hy h=>by
  obtain⟨q,q1,q2⟩:=tkn_same i y hy
  cases h with
  |skip d R nk ne w h=>exact⟨q,by simp only at*;omega,by simp only at*;omega⟩
  |wake d R nk ne w n k r' hn hid hp hk hd h3 hT=>exact⟨same_set q hn hT.id hT.len,by simp only at*;omega,by simp only at*;omega⟩
  |lapse d R nk ne w n k t' r' hn hid hp hk hd h2 hf hT=>exact⟨same_set q hn hT.id hT.len,by simp only at*;omega,by simp only at*;omega⟩
theorem same_in {rs R:List Run} {now:Int} {p:Place} (hs:SameI rs R) (hf:Fine rs) (hp:p∈pl rs now) {n:Nat} (hn:n<R.length) (hid:(R.getD n (dft sRun)).1=p.1):
  ∃k:Nat,p.2.1=k∧k<(R.getD n (dft sRun)).2.2.2.2.1.length:=by
 obtain⟨r,hr,hp⟩:=List.mem_flatMap.1 hp
 obtain⟨j,hj,_,rfl⟩:=plT_mem hp
 obtain⟨m,hm,rfl⟩:=List.mem_iff_getElem.1 hr
 rw [←getD_get hm (dft sRun)]at hj hid
 have hn':n<rs.length:=hs.len▸hn
 obtain⟨h1,h2⟩:=hs.is n hn'
 have hnm:n=m:=by
  rw [h1]at hid
  simp only at hid
  rcases Nat.lt_trichotomy n m with h|h|h
  ·have:=hf.2.up n m h hm;omega
  ·exact h
  ·have:=hf.2.up m n h hn';omega
 subst hnm
 exact⟨j,by simp only;omega,by unfold tsA at h2;rw [h2];exact hj⟩
theorem id_one {R:List Run} (hf:Fine R) {n m:Nat} (hn:n<R.length) (hm:m<R.length) (h:(R.getD n (dft sRun)).1=(R.getD m (dft sRun)).1):n=m:=by
 rcases Nat.lt_trichotomy n m with c|c|c
 ·have:=hf.2.up n m c hm;omega
 ·exact c
 ·have:=hf.2.up m n c hn;omega
section
variable (np:Nat) (rs:List Run) (es:List Event) (P:List Place) (now nr nt ac:Int)
abbrev ta1 (i d:Int) (R:List Run) (nk ne:Int):=(d,np,(np:Int),i,es,R,now,nr,nt,nk,ne,ac,rs.length,es.length,ofNat 0,ofNat 0,ofNat 0,ofNat 0,ofNat 0,({data:= #[]}:ByteArray),ofNat 0,P,())
abbrev ta2 (i d:Int) (R:List Run) (nk ne:Int) (E:List Event):=(d,np,(np:Int),i,R,now,nr,nt,nk,ne,ac,rs.length,E.length,ofNat 0,ofNat 0,ofNat 0,ofNat 0,ofNat 0,({data:= #[]}:ByteArray),ofNat 0,P,E,())
abbrev ena (i:Int) (x:Int×List Run×Int×Int×Option (List Event)):Dom L15a_1005440t:=match x with
 |(d,R,nk,ne,none)=>.inr (.inl (ta1 np rs es P now nr nt ac i d R nk ne))
 |(d,R,nk,ne,some E)=>.inr (.inr (ta2 np rs P now nr nt ac i d R nk ne E))
def Iva (nk ne:Int) (i:Nat) (x:Int×List Run×Int×Int×Option (List Event)):Prop:=∃w,TkN now P (ofNat 0,rs,nk,ne,[]) i (x.1,x.2.1,x.2.2.1,x.2.2.2.1,w)∧((w= []∧x.2.2.2.2=none)∨x.2.2.2.2=some (es++w))
theorem loopa (hnp:np≤16) (hP:np≤P.length) (nk ne:Int) (hx:SX now nr nt nk ne ac rs (es++ [])) (hk:nk≤1099511627676) (he:ne≤1099511627676) (he4:es.length≤40) (hp:∀p∈P,p∈pl rs now):
  ∃y,L15a_1005440 (ena np rs es P now nr nt ac ((0:Nat):Int) (ofNat 0,rs,nk,ne,none))=some y∧∃d R nk' ne' w,TkN now P (ofNat 0,rs,nk,ne,[]) np (d,R,nk',ne',w)∧((w= []∧y= .inr (.inl (d,es,R,now,nr,nt,nk',ne',ac,rs.length,es.length,ofNat 0,ofNat 0,ofNat 0,ofNat 0,ofNat 0,({data:= #[]}:ByteArray),ofNat 0,P,())))∨y= .inr (.inr (d,R,now,nr,nt,nk',ne',ac,rs.length,(es++w).length,ofNat 0,ofNat 0,ofNat 0,ofNat 0,ofNat 0,({data:= #[]}:ByteArray),ofNat 0,P,(es++w),()))):=by
 have h32:=hx.fine.1
 have hf:=hx.fine
 refine rng_hoare (st:=L15a_1005440t) np (fun i (x:Int×List Run×Int×Int×Option (List Event))=>ena np rs es P now nr nt ac (i:Int) x) (Iva rs es P now nk ne) (fun y=>∃d R nk' ne' w,TkN now P (ofNat 0,rs,nk,ne,[]) np (d,R,nk',ne',w)∧((w= []∧y= .inr (.inl (d,es,R,now,nr,nt,nk',ne',ac,rs.length,es.length,ofNat 0,ofNat 0,ofNat 0,ofNat 0,ofNat 0,({data:= #[]}:ByteArray),ofNat 0,P,())))∨y= .inr (.inr (d,R,now,nr,nt,nk',ne',ac,rs.length,(es++w).length,ofNat 0,ofNat 0,ofNat 0,ofNat 0,ofNat 0,({data:= #[]}:ByteArray),ofNat 0,P,(es++w),())))) (fun i x h hx2=>.inl ?_) (fun x hx2=> ?_) (ofNat 0,rs,nk,ne,none) ⟨[],.zero,.inl ⟨rfl,rfl⟩⟩
 ·obtain⟨d,R,nk1,ne1,o⟩:=x
  obtain⟨w,hN,ho⟩:=hx2
  simp only at hN ho
  obtain⟨q1,q2,q3,q4,q5,q6⟩:=tkn_sx (es:=es) (x:=(ofNat 0,rs,nk,ne,[])) hx i _ hN (by simp only;omega) (by simp only;omega)
  obtain⟨hs,q7,q8⟩:=tkn_same i _ hN
  simp only [length_nil,ofN]at q1 q2 q3 q4 q5 q6 hs q7 q8
  have hg:=q1.fine
  have hPi:i<P.length:=by omega
  have hpp:=hp _ (getD_mem hPi (dft sPlace))
  have hT:take rs.length (drop 0 R)=R:=by rw [←hs.len];exact all1 R
  have hle:rs.length≤R.length:=by rw [hs.len];omega
  have ek:IntKind.i64.wrap ((i:Int)+ofNat 1)=((i+1:Nat):Int):=wrap_add1 (by omega) (by omega)
  have hwd:IntKind.i64.wrap (d+ofNat 1)=d+1:=wr1 (by omega) (by omega)
  have hwk:IntKind.i64.wrap (nk1+ofNat 1)=nk1+1:=wr1 q1.nkI.1 q1.nkI.2
  have hwe:IntKind.i64.wrap (ne1+ofNat 1)=ne1+1:=wr1 (by have:=q1.neI.1;omega) q1.neI.2
  have hok:∀r∈R,OkR r:=fun r hr=>by
   obtain⟨j,hj,rfl⟩:=List.mem_iff_getElem.1 hr
   rw [←getD_get hj (dft sRun)]
   exact rok_okr (q1.rok hj)
  obtain⟨fi,b,e,hfi,hq⟩:=find_ok R (by rw [hs.len];omega) hok (P.getD i (dft sPlace)).1
  have stp:=fun z=>TkN.step (now:=now) (P:=P) (x:=(ofNat 0,rs,nk,ne,[])) i (d,R,nk1,ne1,w) z hN
  generalize hgp:P.getD i (dft sPlace)=p at hfi hq hpp stp
  have skipN:(∀n k:Nat,n<R.length→(R.getD n (dft sRun)).1=p.1→p.2.1=k→k<(tsA R n).length→due ((tsA R n).getD k (dft sTask)) now=false)→Iva rs es P now nk ne (i+1) (d,R,nk1,ne1,o):=fun hsk=>⟨w,stp _ (.skip d R nk1 ne1 w hsk),ho⟩
  cases o with
  |none=>
   obtain rfl:w= []:=by
    rcases ho with⟨h,_⟩|h
    ·exact h
    ·cases h
   have hT2:=all1 es
   simp only [L15a_1005440t,L15a_1005440s1,L15a_1005440s1r,rg_lt h,rg_in h,cond_true,zero_add,toNat_natCast,decide_eq_true hPi,decide_eq_true hle,hT,hgp,hfi,bind_some]
   rcases hq with⟨_,_,hq⟩|⟨_,_,⟨rfl,n,rfl,hn,hid⟩|⟨rfl,hno⟩⟩
   ·exact absurd hg hq
   ·obtain⟨k,hk,hkl⟩:=same_in hs hf hpp hn hid
    have hn':n<rs.length:=hs.len▸hn
    simp only [Bool.not_true,cond_false,rg_in hn',rg_ltn hn,cond_true,toNat_natCast,zero_add,hk,rg_in hkl,rg_ltn hkl,f176,bind_some,length_set,ek]
    cases hdu:due (getD (R.getD n (dft sRun)).2.2.2.2.1 k (dft sTask)) now with
    |false=>
     simp only [Bool.not_false,cond_true]
     exact⟨(d,R,nk1,ne1,none),rfl,skipN fun n2 k2 hn2 hid2 hk2 hkl2=>by
      obtain rfl:=id_one hg hn hn2 (hid.trans hid2.symm)
      obtain rfl:k=k2:=by omega
      exact hdu⟩
    |true=>
     simp only [Bool.not_true,cond_false]
     by_cases h3:(getD (R.getD n (dft sRun)).2.2.2.2.1 k (dft sTask)).1=3
     ·obtain⟨r',hw,hT3⟩:=wake_ok (R.getD n (dft sRun)) (q1.rok hn) k nk1 now hkl h3 hdu q1.nkI q1.ckI
      have hw:F177 (((R.getD n (dft sRun)).1,(R.getD n (dft sRun)).2.1,(R.getD n (dft sRun)).2.2.1,(R.getD n (dft sRun)).2.2.2.1,(R.getD n (dft sRun)).2.2.2.2.1,()),(k:Int),nk1,now,())=some (r',0,()):=hw
      rw [show((getD (R.getD n (dft sRun)).2.2.2.2.1 k (dft sTask)).1==ofNat 3)=true by rw [h3];rfl,cond_true]
      simp only [hw,bind_some,hwd,hwk,length_set]
      exact⟨(d+1,R.set n r',nk1+1,ne1,none),rfl,_,stp _ (.wake d R nk1 ne1 _ n k r' hn hid hk hkl hdu h3 hT3),ho⟩
     ·have h2:(getD (R.getD n (dft sRun)).2.2.2.2.1 k (dft sTask)).1=2:=by
       have:=(due_st hdu).1
       omega
      obtain⟨r',t',hl,hfl,hT3⟩:=lapse_ok (R.getD n (dft sRun)) (q1.rok hn) k now hkl h2 hdu q1.ckI
      have hl:F178 (((R.getD n (dft sRun)).1,(R.getD n (dft sRun)).2.1,(R.getD n (dft sRun)).2.2.1,(R.getD n (dft sRun)).2.2.2.1,(R.getD n (dft sRun)).2.2.2.2.1,()),(k:Int),now,())=some (r',0,()):=hl
      rw [show((getD (R.getD n (dft sRun)).2.2.2.2.1 k (dft sTask)).1==ofNat 3)=false by rw [h2];rfl,cond_false]
      have hgd:(R.set n r').getD n (dft sRun)=r':=by rw [getD_set_run hn,if_pos rfl]
      have h1:=room32 (show es.length≤60 by omega) (show 1≤60 by omega)
      simp only [hl,bind_some,length_set,hgd,rg_ltn hn,cond_true]
      by_cases c3:r'.2.2.2.1=3
      ·rw [show(r'.2.2.2.1==ofNat 3)=true by simpa using c3]
       simp only [Nat.le_refl,decide_true,cond_true,hT2,allE,sgE,length_singleton,h1,cond_true,hwd,hwe]
       exact⟨(d+1,R.set n r',nk1,ne1+1,some (es++ [(ne1,ofNat 5,r'.1,ofNat 0,())])),rfl,_,stp _ (.lapse d R nk1 ne1 _ n k t' r' hn hid hk hkl hdu h2 hfl hT3),.inr (by simp [failEv,c3])⟩
      ·rw [show(r'.2.2.2.1==ofNat 3)=false by simpa using c3]
       simp only [Nat.le_refl,decide_true,cond_true,hT2,allE,sgE,length_singleton,h1,cond_false,hwd,hwe]
       exact⟨(d+1,R.set n r',nk1,ne1+1,some (es++ [(ne1,ofNat 3,r'.1,(k:Int),())])),rfl,_,stp _ (.lapse d R nk1 ne1 _ n k t' r' hn hid hk hkl hdu h2 hfl hT3),.inr (by simp [failEv,c3])⟩
   ·simp only [Bool.not_false,cond_true,ek]
    exact⟨(d,R,nk1,ne1,none),rfl,skipN fun n2 k2 hn2 hid2 _ _=>absurd hid2 (hno n2 hn2)⟩
  |some E=>
   obtain rfl:E=(es++w):=by
    rcases ho with⟨_,h⟩|h
    ·cases h
    ·exact Option.some.inj h
   have hT2:=all1 (es++w)
   simp only [L15a_1005440t,L15a_1005440s2,L15a_1005440s2r,rg_lt h,rg_in h,cond_true,zero_add,toNat_natCast,decide_eq_true hPi,decide_eq_true hle,hT,hgp,hfi,bind_some]
   rcases hq with⟨_,_,hq⟩|⟨_,_,⟨rfl,n,rfl,hn,hid⟩|⟨rfl,hno⟩⟩
   ·exact absurd hg hq
   ·obtain⟨k,hk,hkl⟩:=same_in hs hf hpp hn hid
    have hn':n<rs.length:=hs.len▸hn
    simp only [Bool.not_true,cond_false,rg_in hn',rg_ltn hn,cond_true,toNat_natCast,zero_add,hk,rg_in hkl,rg_ltn hkl,f176,bind_some,length_set,ek]
    cases hdu:due (getD (R.getD n (dft sRun)).2.2.2.2.1 k (dft sTask)) now with
    |false=>
     simp only [Bool.not_false,cond_true]
     exact⟨(d,R,nk1,ne1,some (es++w)),rfl,skipN fun n2 k2 hn2 hid2 hk2 hkl2=>by
      obtain rfl:=id_one hg hn hn2 (hid.trans hid2.symm)
      obtain rfl:k=k2:=by omega
      exact hdu⟩
    |true=>
     simp only [Bool.not_true,cond_false]
     by_cases h3:(getD (R.getD n (dft sRun)).2.2.2.2.1 k (dft sTask)).1=3
     ·obtain⟨r',hw,hT3⟩:=wake_ok (R.getD n (dft sRun)) (q1.rok hn) k nk1 now hkl h3 hdu q1.nkI q1.ckI
      have hw:F177 (((R.getD n (dft sRun)).1,(R.getD n (dft sRun)).2.1,(R.getD n (dft sRun)).2.2.1,(R.getD n (dft sRun)).2.2.2.1,(R.getD n (dft sRun)).2.2.2.2.1,()),(k:Int),nk1,now,())=some (r',0,()):=hw
      rw [show((getD (R.getD n (dft sRun)).2.2.2.2.1 k (dft sTask)).1==ofNat 3)=true by rw [h3];rfl,cond_true]
      simp only [hw,bind_some,hwd,hwk,length_set]
      exact⟨(d+1,R.set n r',nk1+1,ne1,some (es++w)),rfl,_,stp _ (.wake d R nk1 ne1 _ n k r' hn hid hk hkl hdu h3 hT3),ho⟩
     ·have h2:(getD (R.getD n (dft sRun)).2.2.2.2.1 k (dft sTask)).1=2:=by
       have:=(due_st hdu).1
       omega
      obtain⟨r',t',hl,hfl,hT3⟩:=lapse_ok (R.getD n (dft sRun)) (q1.rok hn) k now hkl h2 hdu q1.ckI
      have hl:F178 (((R.getD n (dft sRun)).1,(R.getD n (dft sRun)).2.1,(R.getD n (dft sRun)).2.2.1,(R.getD n (dft sRun)).2.2.2.1,(R.getD n (dft sRun)).2.2.2.2.1,()),(k:Int),now,())=some (r',0,()):=hl
      rw [show((getD (R.getD n (dft sRun)).2.2.2.2.1 k (dft sTask)).1==ofNat 3)=false by rw [h2];rfl,cond_false]
      have hgd:(R.set n r').getD n (dft sRun)=r':=by rw [getD_set_run hn,if_pos rfl]
      have h1:=room32 (show(es++w).length≤60 by rw [length_append];omega) (show 1≤60 by omega)
      simp only [hl,bind_some,length_set,hgd,rg_ltn hn,cond_true]
      by_cases c3:r'.2.2.2.1=3
      ·rw [show(r'.2.2.2.1==ofNat 3)=true by simpa using c3]
       simp only [Nat.le_refl,decide_true,cond_true,hT2,allE,sgE,length_singleton,h1,cond_true,hwd,hwe]
       exact⟨(d+1,R.set n r',nk1,ne1+1,some ((es++w)++ [(ne1,ofNat 5,r'.1,ofNat 0,())])),rfl,_,stp _ (.lapse d R nk1 ne1 _ n k t' r' hn hid hk hkl hdu h2 hfl hT3),.inr (by simp [failEv,c3])⟩
      ·rw [show(r'.2.2.2.1==ofNat 3)=false by simpa using c3]
       simp only [Nat.le_refl,decide_true,cond_true,hT2,allE,sgE,length_singleton,h1,cond_false,hwd,hwe]
       exact⟨(d+1,R.set n r',nk1,ne1+1,some ((es++w)++ [(ne1,ofNat 3,r'.1,(k:Int),())])),rfl,_,stp _ (.lapse d R nk1 ne1 _ n k t' r' hn hid hk hkl hdu h2 hfl hT3),.inr (by simp [failEv,c3])⟩
   ·simp only [Bool.not_false,cond_true,ek]
    exact⟨(d,R,nk1,ne1,some (es++w)),rfl,skipN fun n2 k2 hn2 hid2 _ _=>absurd hid2 (hno n2 hn2)⟩
 ·obtain⟨d,R,nk1,ne1,o⟩:=x
  obtain⟨w,hN,ho⟩:=hx2
  simp only at hN ho
  cases o with
  |none=>
   rcases ho with⟨hw,_⟩|h
   ·exact⟨.inr (.inl (d,es,R,now,nr,nt,nk1,ne1,ac,rs.length,es.length,ofNat 0,ofNat 0,ofNat 0,ofNat 0,ofNat 0,({data:= #[]}:ByteArray),ofNat 0,P,())),by simp only [L15a_1005440t,L15a_1005440s1,L15a_1005440s1r,rg_end,cond_false],d,R,nk1,ne1,w,hN,.inl ⟨hw,rfl⟩⟩
   ·cases h
  |some E=>
   obtain rfl:E=(es++w):=by
    rcases ho with⟨_,h⟩|h
    ·cases h
    ·exact Option.some.inj h
   exact⟨.inr (.inr (d,R,now,nr,nt,nk1,ne1,ac,rs.length,(es++w).length,ofNat 0,ofNat 0,ofNat 0,ofNat 0,ofNat 0,({data:= #[]}:ByteArray),ofNat 0,P,(es++w),())),by simp only [L15a_1005440t,L15a_1005440s2,L15a_1005440s2r,rg_end,cond_false],d,R,nk1,ne1,w,hN,.inr rfl⟩
end
section
variable (np:Nat) (rs:List Run) (P:List Place) (now nr nt ac:Int)
abbrev tb1 (i d:Int) (R:List Run) (nk ne:Int):=(d,np,(np:Int),i,R,now,nr,nt,nk,ne,ac,rs.length,ofNat 0,ofNat 0,ofNat 0,ofNat 0,ofNat 0,({data:= #[]}:ByteArray),ofNat 0,P,())
abbrev tb2 (i d:Int) (R:List Run) (nk ne:Int) (E:List Event):=(d,np,(np:Int),i,R,now,nr,nt,nk,ne,ac,rs.length,E.length,ofNat 0,ofNat 0,ofNat 0,ofNat 0,ofNat 0,({data:= #[]}:ByteArray),ofNat 0,P,E,())
abbrev enb (i:Int) (x:Int×List Run×Int×Int×Option (List Event)):Dom L15b_1005440t:=match x with
 |(d,R,nk,ne,none)=>.inr (.inl (tb1 np rs P now nr nt ac i d R nk ne))
 |(d,R,nk,ne,some E)=>.inr (.inr (tb2 np rs P now nr nt ac i d R nk ne E))
def Ivb (nk ne:Int) (i:Nat) (x:Int×List Run×Int×Int×Option (List Event)):Prop:=∃w,TkN now P (ofNat 0,rs,nk,ne,[]) i (x.1,x.2.1,x.2.2.1,x.2.2.2.1,w)∧((w= []∧x.2.2.2.2=none)∨x.2.2.2.2=some w)
theorem loopb (hnp:np≤16) (hP:np≤P.length) (nk ne:Int) (hx:SX now nr nt nk ne ac rs (([]:List Event)++ [])) (hk:nk≤1099511627676) (he:ne≤1099511627676) (hp:∀p∈P,p∈pl rs now):
  ∃y,L15b_1005440 (enb np rs P now nr nt ac ((0:Nat):Int) (ofNat 0,rs,nk,ne,none))=some y∧∃d R nk' ne' w,TkN now P (ofNat 0,rs,nk,ne,[]) np (d,R,nk',ne',w)∧((w= []∧y= .inr (.inl (d,R,now,nr,nt,nk',ne',ac,rs.length,ofNat 0,ofNat 0,ofNat 0,ofNat 0,ofNat 0,({data:= #[]}:ByteArray),ofNat 0,P,())))∨y= .inr (.inr (d,R,now,nr,nt,nk',ne',ac,rs.length,w.length,ofNat 0,ofNat 0,ofNat 0,ofNat 0,ofNat 0,({data:= #[]}:ByteArray),ofNat 0,P,w,()))):=by
 have h32:=hx.fine.1
 have hf:=hx.fine
 refine rng_hoare (st:=L15b_1005440t) np (fun i (x:Int×List Run×Int×Int×Option (List Event))=>enb np rs P now nr nt ac (i:Int) x) (Ivb rs P now nk ne) (fun y=>∃d R nk' ne' w,TkN now P (ofNat 0,rs,nk,ne,[]) np (d,R,nk',ne',w)∧((w= []∧y= .inr (.inl (d,R,now,nr,nt,nk',ne',ac,rs.length,ofNat 0,ofNat 0,ofNat 0,ofNat 0,ofNat 0,({data:= #[]}:ByteArray),ofNat 0,P,())))∨y= .inr (.inr (d,R,now,nr,nt,nk',ne',ac,rs.length,w.length,ofNat 0,ofNat 0,ofNat 0,ofNat 0,ofNat 0,({data:= #[]}:ByteArray),ofNat 0,P,w,())))) (fun i x h hx2=>.inl ?_) (fun x hx2=> ?_) (ofNat 0,rs,nk,ne,none) ⟨[],.zero,.inl ⟨rfl,rfl⟩⟩
 ·obtain⟨d,R,nk1,ne1,o⟩:=x
  obtain⟨w,hN,ho⟩:=hx2
  simp only at hN ho
  obtain⟨q1,q2,q3,q4,q5,q6⟩:=tkn_sx (es:=([]:List Event)) (x:=(ofNat 0,rs,nk,ne,[])) hx i _ hN (by simp only;omega) (by simp only;omega)
  obtain⟨hs,q7,q8⟩:=tkn_same i _ hN
  simp only [length_nil,ofN]at q1 q2 q3 q4 q5 q6 hs q7 q8
  have hg:=q1.fine
  have hPi:i<P.length:=by omega
  have hpp:=hp _ (getD_mem hPi (dft sPlace))
  have hT:take rs.length (drop 0 R)=R:=by rw [←hs.len];exact all1 R
  have hle:rs.length≤R.length:=by rw [hs.len];omega
  have ek:IntKind.i64.wrap ((i:Int)+ofNat 1)=((i+1:Nat):Int):=wrap_add1 (by omega) (by omega)
  have hwd:IntKind.i64.wrap (d+ofNat 1)=d+1:=wr1 (by omega) (by omega)
  have hwk:IntKind.i64.wrap (nk1+ofNat 1)=nk1+1:=wr1 q1.nkI.1 q1.nkI.2
  have hwe:IntKind.i64.wrap (ne1+ofNat 1)=ne1+1:=wr1 (by have:=q1.neI.1;omega) q1.neI.2
  have hok:∀r∈R,OkR r:=fun r hr=>by
   obtain⟨j,hj,rfl⟩:=List.mem_iff_getElem.1 hr
   rw [←getD_get hj (dft sRun)]
   exact rok_okr (q1.rok hj)
  obtain⟨fi,b,e,hfi,hq⟩:=find_ok R (by rw [hs.len];omega) hok (P.getD i (dft sPlace)).1
  have stp:=fun z=>TkN.step (now:=now) (P:=P) (x:=(ofNat 0,rs,nk,ne,[])) i (d,R,nk1,ne1,w) z hN
  generalize hgp:P.getD i (dft sPlace)=p at hfi hq hpp stp
  have skipN:(∀n k:Nat,n<R.length→(R.getD n (dft sRun)).1=p.1→p.2.1=k→k<(tsA R n).length→due ((tsA R n).getD k (dft sTask)) now=false)→Ivb rs P now nk ne (i+1) (d,R,nk1,ne1,o):=fun hsk=>⟨w,stp _ (.skip d R nk1 ne1 w hsk),ho⟩
  cases o with
  |none=>
   obtain rfl:w= []:=by
    rcases ho with⟨h,_⟩|h
    ·exact h
    ·cases h
   simp only [L15b_1005440t,L15b_1005440s1,L15b_1005440s1r,rg_lt h,rg_in h,cond_true,zero_add,toNat_natCast,decide_eq_true hPi,decide_eq_true hle,hT,hgp,hfi,bind_some]
   rcases hq with⟨_,_,hq⟩|⟨_,_,⟨rfl,n,rfl,hn,hid⟩|⟨rfl,hno⟩⟩
   ·exact absurd hg hq
   ·obtain⟨k,hk,hkl⟩:=same_in hs hf hpp hn hid
    have hn':n<rs.length:=hs.len▸hn
    simp only [Bool.not_true,cond_false,rg_in hn',rg_ltn hn,cond_true,toNat_natCast,zero_add,hk,rg_in hkl,rg_ltn hkl,f176,bind_some,length_set,ek]
    cases hdu:due (getD (R.getD n (dft sRun)).2.2.2.2.1 k (dft sTask)) now with
    |false=>
     simp only [Bool.not_false,cond_true]
     exact⟨(d,R,nk1,ne1,none),rfl,skipN fun n2 k2 hn2 hid2 hk2 hkl2=>by
      obtain rfl:=id_one hg hn hn2 (hid.trans hid2.symm)
      obtain rfl:k=k2:=by omega
      exact hdu⟩
    |true=>
     simp only [Bool.not_true,cond_false]
     by_cases h3:(getD (R.getD n (dft sRun)).2.2.2.2.1 k (dft sTask)).1=3
     ·obtain⟨r',hw,hT3⟩:=wake_ok (R.getD n (dft sRun)) (q1.rok hn) k nk1 now hkl h3 hdu q1.nkI q1.ckI
      have hw:F177 (((R.getD n (dft sRun)).1,(R.getD n (dft sRun)).2.1,(R.getD n (dft sRun)).2.2.1,(R.getD n (dft sRun)).2.2.2.1,(R.getD n (dft sRun)).2.2.2.2.1,()),(k:Int),nk1,now,())=some (r',0,()):=hw
      rw [show((getD (R.getD n (dft sRun)).2.2.2.2.1 k (dft sTask)).1==ofNat 3)=true by rw [h3];rfl,cond_true]
      simp only [hw,bind_some,hwd,hwk,length_set]
      exact⟨(d+1,R.set n r',nk1+1,ne1,none),rfl,_,stp _ (.wake d R nk1 ne1 _ n k r' hn hid hk hkl hdu h3 hT3),ho⟩
     ·have h2:(getD (R.getD n (dft sRun)).2.2.2.2.1 k (dft sTask)).1=2:=by
       have:=(due_st hdu).1
       omega
      obtain⟨r',t',hl,hfl,hT3⟩:=lapse_ok (R.getD n (dft sRun)) (q1.rok hn) k now hkl h2 hdu q1.ckI
      have hl:F178 (((R.getD n (dft sRun)).1,(R.getD n (dft sRun)).2.1,(R.getD n (dft sRun)).2.2.1,(R.getD n (dft sRun)).2.2.2.1,(R.getD n (dft sRun)).2.2.2.2.1,()),(k:Int),now,())=some (r',0,()):=hl
      rw [show((getD (R.getD n (dft sRun)).2.2.2.2.1 k (dft sTask)).1==ofNat 3)=false by rw [h2];rfl,cond_false]
      have hgd:(R.set n r').getD n (dft sRun)=r':=by rw [getD_set_run hn,if_pos rfl]
      simp only [hl,bind_some,length_set,hgd,rg_ltn hn,cond_true]
      by_cases c3:r'.2.2.2.1=3
      ·rw [show(r'.2.2.2.1==ofNat 3)=true by simpa using c3]
       simp only [allE,sgE,length_singleton,cond_true,hwd,hwe]
       exact⟨(d+1,R.set n r',nk1,ne1+1,some ([(ne1,ofNat 5,r'.1,ofNat 0,())])),rfl,_,stp _ (.lapse d R nk1 ne1 _ n k t' r' hn hid hk hkl hdu h2 hfl hT3),.inr (by simp [failEv,c3])⟩
      ·rw [show(r'.2.2.2.1==ofNat 3)=false by simpa using c3]
       simp only [allE,sgE,length_singleton,cond_false,hwd,hwe]
       exact⟨(d+1,R.set n r',nk1,ne1+1,some ([(ne1,ofNat 3,r'.1,(k:Int),())])),rfl,_,stp _ (.lapse d R nk1 ne1 _ n k t' r' hn hid hk hkl hdu h2 hfl hT3),.inr (by simp [failEv,c3])⟩
   ·simp only [Bool.not_false,cond_true,ek]
    exact⟨(d,R,nk1,ne1,none),rfl,skipN fun n2 k2 hn2 hid2 _ _=>absurd hid2 (hno n2 hn2)⟩
  |some E=>
   obtain rfl:w=E:=by
    rcases ho with⟨_,h⟩|h
    ·cases h
    ·exact(Option.some.inj h).symm
   have hT2:=all1 w
   simp only [L15b_1005440t,L15b_1005440s2,L15b_1005440s2r,rg_lt h,rg_in h,cond_true,zero_add,toNat_natCast,decide_eq_true hPi,decide_eq_true hle,hT,hgp,hfi,bind_some]
   rcases hq with⟨_,_,hq⟩|⟨_,_,⟨rfl,n,rfl,hn,hid⟩|⟨rfl,hno⟩⟩
   ·exact absurd hg hq
   ·obtain⟨k,hk,hkl⟩:=same_in hs hf hpp hn hid
    have hn':n<rs.length:=hs.len▸hn
    simp only [Bool.not_true,cond_false,rg_in hn',rg_ltn hn,cond_true,toNat_natCast,zero_add,hk,rg_in hkl,rg_ltn hkl,f176,bind_some,length_set,ek]
    cases hdu:due (getD (R.getD n (dft sRun)).2.2.2.2.1 k (dft sTask)) now with
    |false=>
     simp only [Bool.not_false,cond_true]
     exact⟨(d,R,nk1,ne1,some w),rfl,skipN fun n2 k2 hn2 hid2 hk2 hkl2=>by
      obtain rfl:=id_one hg hn hn2 (hid.trans hid2.symm)
      obtain rfl:k=k2:=by omega
      exact hdu⟩
    |true=>
     simp only [Bool.not_true,cond_false]
     by_cases h3:(getD (R.getD n (dft sRun)).2.2.2.2.1 k (dft sTask)).1=3
     ·obtain⟨r',hw,hT3⟩:=wake_ok (R.getD n (dft sRun)) (q1.rok hn) k nk1 now hkl h3 hdu q1.nkI q1.ckI
      have hw:F177 (((R.getD n (dft sRun)).1,(R.getD n (dft sRun)).2.1,(R.getD n (dft sRun)).2.2.1,(R.getD n (dft sRun)).2.2.2.1,(R.getD n (dft sRun)).2.2.2.2.1,()),(k:Int),nk1,now,())=some (r',0,()):=hw
      rw [show((getD (R.getD n (dft sRun)).2.2.2.2.1 k (dft sTask)).1==ofNat 3)=true by rw [h3];rfl,cond_true]
      simp only [hw,bind_some,hwd,hwk,length_set]
      exact⟨(d+1,R.set n r',nk1+1,ne1,some w),rfl,_,stp _ (.wake d R nk1 ne1 _ n k r' hn hid hk hkl hdu h3 hT3),ho⟩
     ·have h2:(getD (R.getD n (dft sRun)).2.2.2.2.1 k (dft sTask)).1=2:=by
       have:=(due_st hdu).1
       omega
      obtain⟨r',t',hl,hfl,hT3⟩:=lapse_ok (R.getD n (dft sRun)) (q1.rok hn) k now hkl h2 hdu q1.ckI
      have hl:F178 (((R.getD n (dft sRun)).1,(R.getD n (dft sRun)).2.1,(R.getD n (dft sRun)).2.2.1,(R.getD n (dft sRun)).2.2.2.1,(R.getD n (dft sRun)).2.2.2.2.1,()),(k:Int),now,())=some (r',0,()):=hl
      rw [show((getD (R.getD n (dft sRun)).2.2.2.2.1 k (dft sTask)).1==ofNat 3)=false by rw [h2];rfl,cond_false]
      have hgd:(R.set n r').getD n (dft sRun)=r':=by rw [getD_set_run hn,if_pos rfl]
      have h1:=room32 (show w.length≤60 by omega) (show 1≤60 by omega)
      simp only [hl,bind_some,length_set,hgd,rg_ltn hn,cond_true]
      by_cases c3:r'.2.2.2.1=3
      ·rw [show(r'.2.2.2.1==ofNat 3)=true by simpa using c3]
       simp only [Nat.le_refl,decide_true,cond_true,hT2,allE,sgE,length_singleton,h1,cond_true,hwd,hwe]
       exact⟨(d+1,R.set n r',nk1,ne1+1,some (w++ [(ne1,ofNat 5,r'.1,ofNat 0,())])),rfl,_,stp _ (.lapse d R nk1 ne1 _ n k t' r' hn hid hk hkl hdu h2 hfl hT3),.inr (by simp [failEv,c3])⟩
      ·rw [show(r'.2.2.2.1==ofNat 3)=false by simpa using c3]
       simp only [Nat.le_refl,decide_true,cond_true,hT2,allE,sgE,length_singleton,h1,cond_false,hwd,hwe]
       exact⟨(d+1,R.set n r',nk1,ne1+1,some (w++ [(ne1,ofNat 3,r'.1,(k:Int),())])),rfl,_,stp _ (.lapse d R nk1 ne1 _ n k t' r' hn hid hk hkl hdu h2 hfl hT3),.inr (by simp [failEv,c3])⟩
   ·simp only [Bool.not_false,cond_true,ek]
    exact⟨(d,R,nk1,ne1,some w),rfl,skipN fun n2 k2 hn2 hid2 _ _=>absurd hid2 (hno n2 hn2)⟩
 ·obtain⟨d,R,nk1,ne1,o⟩:=x
  obtain⟨w,hN,ho⟩:=hx2
  simp only at hN ho
  cases o with
  |none=>
   rcases ho with⟨hw,_⟩|h
   ·exact⟨.inr (.inl (d,R,now,nr,nt,nk1,ne1,ac,rs.length,ofNat 0,ofNat 0,ofNat 0,ofNat 0,ofNat 0,({data:= #[]}:ByteArray),ofNat 0,P,())),by simp only [L15b_1005440t,L15b_1005440s1,L15b_1005440s1r,rg_end,cond_false],d,R,nk1,ne1,w,hN,.inl ⟨hw,rfl⟩⟩
   ·cases h
  |some E=>
   obtain rfl:w=E:=by
    rcases ho with⟨_,h⟩|h
    ·cases h
    ·exact(Option.some.inj h).symm
   exact⟨.inr (.inr (d,R,now,nr,nt,nk1,ne1,ac,rs.length,w.length,ofNat 0,ofNat 0,ofNat 0,ofNat 0,ofNat 0,({data:= #[]}:ByteArray),ofNat 0,P,w,())),by simp only [L15b_1005440t,L15b_1005440s2,L15b_1005440s2r,rg_end,cond_false],d,R,nk1,ne1,w,hN,.inr rfl⟩
end
theorem due_ex (rs:List Run) (hm:rs.length≤9223372036854775807) (hr:∀r∈rs,OkR r) (hf:Fine rs) (now:Int) (hn:InC now):
  ∃(l:List Place) (e:Int),F128 (rs,now,())=some (l,e,())∧l.Perm (pl rs now)∧Srt l:=by
 obtain⟨v,hv,hc⟩:=f51 rs hm hr
 rcases hc with⟨h1,_⟩|⟨_,h2,_⟩|⟨_,rfl⟩
 ·have:=hf.1;omega
 ·exact absurd hf.2 h2
 ·obtain⟨S,h1,h2,h3⟩:=f175 rs now hf.1 (tk12 hf)
  obtain⟨n1,n2⟩:=hn
  simp only [F128,hv,bind_some,n00,cond_false,decide_eq_false (show¬now<ofNat 0 by simp only [ofN];omega),decide_eq_false (show¬now>ofNat 1099511627776 by simp only [ofN];omega),h1]
  cases S with
  |nil=>exact⟨_,_,rfl,h2,h3⟩
  |cons a m=>
   simp only [isEmpty_cons,cond_false,all1,zero_add,Nat.le_refl,decide_true,cond_true]
   exact⟨_,_,rfl,h2,h3⟩
theorem dn_tick {ck nr nt nk ne ac:Int} {rs:List Run} {es:List Event} {c:Call} {R2:List Run} {E:List Event} {l:List Place} {d:Int} {R:List Run} {nk' ne':Int} {w:List Event} (hk:c.1=7) (hf:Fresh nr nt nk ne) (h1:¬c.2.2.2.2.2.2.2.1<ck) (h2:¬c.2.2.2.2.2.2.2.1>ofNat 1099511627776) (hl:l.Perm (pl rs c.2.2.2.2.2.2.2.1)) (hs:Srt l) (hN:TkN c.2.2.2.2.2.2.2.1 l (ofNat 0,rs,nk,ne,[]) (min 16 l.length) (d,R,nk',ne',w)) (hR:R2=R) (hE:E=es++w) (h40:E.length≤40):
  Done ck nr nt nk ne ac rs es c (mk c.2.2.2.2.2.2.2.1 nr nt nk' ne' ac R2 E) (rpl (ofNat 0) d (ofNat 0)):=by
 subst hR hE;exact⟨.tick l d R2 nk' ne' w hk hf (by omega) (by simp only [ofN]at h2;omega) hl hs hN,h40⟩
theorem m15a_7 {ck nr nt nk ne ac:Int} {rs:List Run} {es:List Event} (h:SOk (mk ck nr nt nk ne ac rs es)) (hr:∀r∈rs,OkR r) (hR:isEmpty rs=false) (hE:isEmpty es=false) (c:Call) (hfr:Fresh nr nt nk ne) (hk:c.1=7):
  ∃t r,M15a_7 ((mk ck nr nt nk ne ac rs es),c,())=some (t,r,())∧Done ck nr nt nk ne ac rs es c t r:=by
 have h25:=twin_ok h
 have hf:=h.fine
 have he:=h.ev40
 have hck:0≤ck∧ck≤1099511627776:=h.ck
 have hsx:=sx_of h
 simp only [mk]at h25 hf he
 have h32:=hf.1
 have E:=e15a h hR hE
 simp only [mk]at E
 simp only [M15a_7,mk,h25,bind_some,hR,hE,isEmpty_nil,cond_false,zero_add,Nat.le_refl,decide_true,cond_true,allE,sgE,E]
 by_cases c1:c.2.2.2.2.2.2.2.1<ck
 ·rw [decide_eq_true c1,cond_true];exact⟨_,_,rfl,dn_err h 1⟩
 rw [decide_eq_false c1,cond_false]
 by_cases c2:c.2.2.2.2.2.2.2.1>ofNat 1099511627776
 ·rw [decide_eq_true c2,cond_true];exact⟨_,_,rfl,dn_err h 1⟩
 rw [decide_eq_false c2,cond_false]
 have hTo:InC c.2.2.2.2.2.2.2.1:=⟨by omega,by simp only [ofN]at c2;omega⟩
 obtain⟨l,e,hdue,hperm,hsrt⟩:=due_ex rs (by omega) hr hf c.2.2.2.2.2.2.2.1 hTo
 simp only [hdue,bind_some]
 have h0:L15a_1005440 (.inl (ofNat 0,0,ofNat 0,es,rs,c.2.2.2.2.2.2.2.1,nr,nt,nk,ne,ac,rs.length,es.length,ofNat 0,ofNat 0,ofNat 0,ofNat 0,ofNat 0,({data:= #[]}:ByteArray),ofNat 0,()))=some (.inl (ofNat 0,es,rs,c.2.2.2.2.2.2.2.1,nr,nt,nk,ne,ac,rs.length,es.length,ofNat 0,ofNat 0,ofNat 0,ofNat 0,ofNat 0,({data:= #[]}:ByteArray),ofNat 0,())):=by
  rw [L15a_1005440,loopF_eq]
  rfl
 by_cases hl:l= []
 ·subst hl
  simp only [isEmpty_nil,cond_true,h0,bind_some]
  by_cases c40:(((es.length:Nat):Int)>ofNat 40)
  ·rw [decide_eq_true c40,cond_true];exact⟨_,_,rfl,dn_err h 8⟩
  ·rw [decide_eq_false c40,cond_false]
   try simp only [cond_false,zero_add,Nat.le_refl,decide_true,cond_true,drop_zero,take_length]
   exact⟨_,_,rfl,dn_tick hk hfr c1 c2 hperm hsrt TkN.zero (by first|rfl|simp|exact hRR) (by simp) (by simp only [ofN]at c40;omega)⟩
 ·have hle:isEmpty l=false:=by cases l with
   |nil=>exact absurd rfl hl
   |cons a m=>rfl
  have hmin:(if ofNat 16<((l.length:Nat):Int)then ofNat 16 else((l.length:Nat):Int))=((min 16 l.length:Nat):Int):=by
   simp only [ofN]
   split<;>omega
  have hwi:within (0:Int) ((min 16 l.length:Nat):Int) ((l.length:Nat):Int)=true:=by
   simp only [within,Bool.and_eq_true,decide_eq_true_eq];omega
  have hsx2:SX c.2.2.2.2.2.2.2.1 nr nt nk ne ac rs (es++ []):=by
   rw [append_nil]
   exact⟨hsx.fine,hTo,hsx.nrI,hsx.nkI,hsx.ntI,hsx.neI,hsx.ack,hsx.elen,hsx.late,hsx.evs⟩
  obtain⟨y,hy,d,R,nk',ne',w,hN,hyq⟩:=loopa (min 16 l.length) rs es l c.2.2.2.2.2.2.2.1 nr nt ac (by omega) (by omega) nk ne hsx2 hfr.nk hfr.ne he (fun p hp=>hperm.subset hp)
  have hy:L15a_1005440 (.inr (.inl (ofNat 0,min 16 l.length,((min 16 l.length:Nat):Int),ofNat 0,es,rs,c.2.2.2.2.2.2.2.1,nr,nt,nk,ne,ac,rs.length,es.length,ofNat 0,ofNat 0,ofNat 0,ofNat 0,ofNat 0,({data:= #[]}:ByteArray),ofNat 0,l,())))=some y:=hy
  simp only [hle,hmin,hwi,toNat_natCast,sub_zero,cond_true,cond_false,hy,bind_some]
  have hs:=(tkn_same _ _ hN).1
  simp only at hs
  have hlR:rs.length≤R.length:=by rw [hs.len];omega
  have hRR:take rs.length R=R:=take_of_length_le (by rw [hs.len];omega)
  rcases hyq with⟨rfl,rfl⟩|rfl
  ·simp only []
   by_cases c40:(((es.length:Nat):Int)>ofNat 40)
   ·rw [decide_eq_true c40,cond_true];exact⟨_,_,rfl,dn_err h 8⟩
   ·rw [decide_eq_false c40,cond_false]
    try simp only [cond_false,zero_add,Nat.le_refl,decide_true,cond_true,drop_zero,take_length,decide_eq_true hlR,hRR]
    exact⟨_,_,rfl,dn_tick hk hfr c1 c2 hperm hsrt hN (by first|rfl|simp|exact hRR) (by simp) (by simp only [ofN]at c40;omega)⟩
  ·simp only []
   by_cases c40:((((es++w).length:Nat):Int)>ofNat 40)
   ·rw [decide_eq_true c40,cond_true];exact⟨_,_,rfl,dn_err h 8⟩
   ·rw [decide_eq_false c40,cond_false]
    try simp only [cond_false,zero_add,Nat.le_refl,decide_true,cond_true,drop_zero,take_length,decide_eq_true hlR,hRR]
    exact⟨_,_,rfl,dn_tick hk hfr c1 c2 hperm hsrt hN (by first|rfl|simp|exact hRR) (by simp) (by simp only [ofN]at c40;omega)⟩
theorem m15b_7 {ck nr nt nk ne ac:Int} {rs:List Run} (h:SOk (mk ck nr nt nk ne ac rs [])) (hr:∀r∈rs,OkR r) (hR:isEmpty rs=false) (c:Call) (hfr:Fresh nr nt nk ne) (hk:c.1=7):
  ∃t r,M15b_7 ((mk ck nr nt nk ne ac rs []),c,())=some (t,r,())∧Done ck nr nt nk ne ac rs [] c t r:=by
 have h25:=twin_ok h
 have hf:=h.fine
 have he:=h.ev40
 have hck:0≤ck∧ck≤1099511627776:=h.ck
 have hsx:=sx_of h
 simp only [mk]at h25 hf he
 have h32:=hf.1
 have E:=e15b h hR
 simp only [mk]at E
 simp only [M15b_7,mk,h25,bind_some,hR,isEmpty_nil,cond_false,zero_add,Nat.le_refl,decide_true,cond_true,allE,sgE,E]
 by_cases c1:c.2.2.2.2.2.2.2.1<ck
 ·rw [decide_eq_true c1,cond_true];exact⟨_,_,rfl,dn_err h 1⟩
 rw [decide_eq_false c1,cond_false]
 by_cases c2:c.2.2.2.2.2.2.2.1>ofNat 1099511627776
 ·rw [decide_eq_true c2,cond_true];exact⟨_,_,rfl,dn_err h 1⟩
 rw [decide_eq_false c2,cond_false]
 have hTo:InC c.2.2.2.2.2.2.2.1:=⟨by omega,by simp only [ofN]at c2;omega⟩
 obtain⟨l,e,hdue,hperm,hsrt⟩:=due_ex rs (by omega) hr hf c.2.2.2.2.2.2.2.1 hTo
 simp only [hdue,bind_some]
 have h0:L15b_1005440 (.inl (ofNat 0,0,ofNat 0,rs,c.2.2.2.2.2.2.2.1,nr,nt,nk,ne,ac,rs.length,ofNat 0,ofNat 0,ofNat 0,ofNat 0,ofNat 0,({data:= #[]}:ByteArray),ofNat 0,()))=some (.inl (ofNat 0,rs,c.2.2.2.2.2.2.2.1,nr,nt,nk,ne,ac,rs.length,ofNat 0,ofNat 0,ofNat 0,ofNat 0,ofNat 0,({data:= #[]}:ByteArray),ofNat 0,())):=by
  rw [L15b_1005440,loopF_eq]
  rfl
 by_cases hl:l= []
 ·subst hl
  simp only [isEmpty_nil,cond_true,h0,bind_some]
  try simp only [cond_false,zero_add,Nat.le_refl,decide_true,cond_true,drop_zero,take_length]
  exact⟨_,_,rfl,dn_tick hk hfr c1 c2 hperm hsrt TkN.zero (by first|rfl|simp|exact hRR) (by simp) (by simp)⟩
 ·have hle:isEmpty l=false:=by cases l with
   |nil=>exact absurd rfl hl
   |cons a m=>rfl
  have hmin:(if ofNat 16<((l.length:Nat):Int)then ofNat 16 else((l.length:Nat):Int))=((min 16 l.length:Nat):Int):=by
   simp only [ofN]
   split<;>omega
  have hwi:within (0:Int) ((min 16 l.length:Nat):Int) ((l.length:Nat):Int)=true:=by
   simp only [within,Bool.and_eq_true,decide_eq_true_eq];omega
  have hsx2:SX c.2.2.2.2.2.2.2.1 nr nt nk ne ac rs ([]++ []):=by
   rw [append_nil]
   exact⟨hsx.fine,hTo,hsx.nrI,hsx.nkI,hsx.ntI,hsx.neI,hsx.ack,hsx.elen,hsx.late,hsx.evs⟩
  obtain⟨y,hy,d,R,nk',ne',w,hN,hyq⟩:=loopb (min 16 l.length) rs l c.2.2.2.2.2.2.2.1 nr nt ac (by omega) (by omega) nk ne hsx2 hfr.nk hfr.ne (fun p hp=>hperm.subset hp)
  have hy:L15b_1005440 (.inr (.inl (ofNat 0,min 16 l.length,((min 16 l.length:Nat):Int),ofNat 0,rs,c.2.2.2.2.2.2.2.1,nr,nt,nk,ne,ac,rs.length,ofNat 0,ofNat 0,ofNat 0,ofNat 0,ofNat 0,({data:= #[]}:ByteArray),ofNat 0,l,())))=some y:=hy
  simp only [hle,hmin,hwi,toNat_natCast,sub_zero,cond_true,cond_false,hy,bind_some]
  have hs:=(tkn_same _ _ hN).1
  simp only at hs
  have hlR:rs.length≤R.length:=by rw [hs.len];omega
  have hRR:take rs.length R=R:=take_of_length_le (by rw [hs.len];omega)
  rcases hyq with⟨rfl,rfl⟩|rfl
  ·simp only []
   try simp only [cond_false,zero_add,Nat.le_refl,decide_true,cond_true,drop_zero,take_length,decide_eq_true hlR,hRR]
   exact⟨_,_,rfl,dn_tick hk hfr c1 c2 hperm hsrt hN (by first|rfl|simp|exact hRR) (by simp) (by simp)⟩
  ·simp only []
   by_cases c40:(((w.length:Nat):Int)>ofNat 40)
   ·rw [decide_eq_true c40,cond_true];exact⟨_,_,rfl,dn_err h 8⟩
   ·rw [decide_eq_false c40,cond_false]
    try simp only [cond_false,zero_add,Nat.le_refl,decide_true,cond_true,drop_zero,take_length,decide_eq_true hlR,hRR]
    exact⟨_,_,rfl,dn_tick hk hfr c1 c2 hperm hsrt hN (by first|rfl|simp|exact hRR) (by simp) (by simp only [ofN]at c40;omega)⟩
theorem m15c_7 {ck nr nt nk ne ac:Int} {es:List Event} (h:SOk (mk ck nr nt nk ne ac [] es)) (hr:∀r∈([]:List Run),OkR r) (hE:isEmpty es=false) (c:Call) (hfr:Fresh nr nt nk ne) (hk:c.1=7):
  ∃t r,M15c_7 ((mk ck nr nt nk ne ac [] es),c,())=some (t,r,())∧Done ck nr nt nk ne ac [] es c t r:=by
 have h25:=twin_ok h
 have hf:=h.fine
 have he:=h.ev40
 have hck:0≤ck∧ck≤1099511627776:=h.ck
 have hsx:=sx_of h
 simp only [mk]at h25 hf he
 have h32:=hf.1
 have E:=e15c h hE
 simp only [mk]at E
 simp only [M15c_7,mk,h25,bind_some,hE,isEmpty_nil,cond_false,zero_add,Nat.le_refl,decide_true,cond_true,allE,sgE,E]
 by_cases c1:c.2.2.2.2.2.2.2.1<ck
 ·rw [decide_eq_true c1,cond_true];exact⟨_,_,rfl,dn_err h 1⟩
 rw [decide_eq_false c1,cond_false]
 by_cases c2:c.2.2.2.2.2.2.2.1>ofNat 1099511627776
 ·rw [decide_eq_true c2,cond_true];exact⟨_,_,rfl,dn_err h 1⟩
 rw [decide_eq_false c2,cond_false]
 have hTo:InC c.2.2.2.2.2.2.2.1:=⟨by omega,by simp only [ofN]at c2;omega⟩
 obtain⟨l,e,hdue,hperm,hsrt⟩:=due_ex ([]:List Run) (by omega) hr hf c.2.2.2.2.2.2.2.1 hTo
 simp only [hdue,bind_some]
 have h0:L15c_1005440 (.inl (ofNat 0,0,ofNat 0,es,c.2.2.2.2.2.2.2.1,nr,nt,nk,ne,ac,es.length,ofNat 0,ofNat 0,ofNat 0,ofNat 0,ofNat 0,({data:= #[]}:ByteArray),ofNat 0,()))=some (.inl (ofNat 0,es,c.2.2.2.2.2.2.2.1,nr,nt,nk,ne,ac,es.length,ofNat 0,ofNat 0,ofNat 0,ofNat 0,ofNat 0,({data:= #[]}:ByteArray),ofNat 0,())):=by
  rw [L15c_1005440,loopF_eq]
  rfl
 obtain rfl:l= []:=hperm.eq_nil
 simp only [isEmpty_nil,cond_true,h0,bind_some]
 by_cases c40:(((es.length:Nat):Int)>ofNat 40)
 ·rw [decide_eq_true c40,cond_true];exact⟨_,_,rfl,dn_err h 8⟩
 ·rw [decide_eq_false c40,cond_false]
  try simp only [cond_false,zero_add,Nat.le_refl,decide_true,cond_true,drop_zero,take_length]
  exact⟨_,_,rfl,dn_tick hk hfr c1 c2 hperm hsrt TkN.zero (by first|rfl|simp|exact hRR) (by simp) (by simp only [ofN]at c40;omega)⟩
theorem m15d_7 {ck nr nt nk ne ac:Int} (h:SOk (mk ck nr nt nk ne ac [] [])) (hr:∀r∈([]:List Run),OkR r) (c:Call) (hfr:Fresh nr nt nk ne) (hk:c.1=7):
  ∃t r,M15d_7 ((mk ck nr nt nk ne ac [] []),c,())=some (t,r,())∧Done ck nr nt nk ne ac [] [] c t r:=by
 have h25:=twin_ok h
 have hf:=h.fine
 have he:=h.ev40
 have hck:0≤ck∧ck≤1099511627776:=h.ck
 have hsx:=sx_of h
 simp only [mk]at h25 hf he
 have h32:=hf.1
 have E:=e15d h
 simp only [mk]at E
 simp only [M15d_7,mk,h25,bind_some,isEmpty_nil,cond_false,zero_add,Nat.le_refl,decide_true,cond_true,allE,sgE,E]
 by_cases c1:c.2.2.2.2.2.2.2.1<ck
 ·rw [decide_eq_true c1,cond_true];exact⟨_,_,rfl,dn_err h 1⟩
 rw [decide_eq_false c1,cond_false]
 by_cases c2:c.2.2.2.2.2.2.2.1>ofNat 1099511627776
 ·rw [decide_eq_true c2,cond_true];exact⟨_,_,rfl,dn_err h 1⟩
 rw [decide_eq_false c2,cond_false]
 have hTo:InC c.2.2.2.2.2.2.2.1:=⟨by omega,by simp only [ofN]at c2;omega⟩
 obtain⟨l,e,hdue,hperm,hsrt⟩:=due_ex ([]:List Run) (by omega) hr hf c.2.2.2.2.2.2.2.1 hTo
 simp only [hdue,bind_some]
 have h0:L15d_1005440 (.inl (ofNat 0,0,ofNat 0,c.2.2.2.2.2.2.2.1,nr,nt,nk,ne,ac,ofNat 0,ofNat 0,ofNat 0,ofNat 0,ofNat 0,({data:= #[]}:ByteArray),ofNat 0,()))=some (.inl (ofNat 0,c.2.2.2.2.2.2.2.1,nr,nt,nk,ne,ac,ofNat 0,ofNat 0,ofNat 0,ofNat 0,ofNat 0,({data:= #[]}:ByteArray),ofNat 0,())):=by
  rw [L15d_1005440,loopF_eq]
  rfl
 obtain rfl:l= []:=hperm.eq_nil
 simp only [isEmpty_nil,cond_true,h0,bind_some]
 try simp only [cond_false,zero_add,Nat.le_refl,decide_true,cond_true,drop_zero,take_length]
 exact⟨_,_,rfl,dn_tick hk hfr c1 c2 hperm hsrt TkN.zero (by first|rfl|simp|exact hRR) (by simp) (by simp)⟩
theorem do_a {ck nr nt nk ne ac:Int} {rs:List Run} {es:List Event} (h:SOk (mk ck nr nt nk ne ac rs es)) (hr:∀r∈rs,OkR r) (hR:isEmpty rs=false) (hE:isEmpty es=false) (c:Call) (hcl:∀nd∈c.2.2.1.1,nd.1.length≤9223372036854775807):
  ∃t r,F15a ((mk ck nr nt nk ne ac rs es),c,())=some (t,r,())∧Done ck nr nt nk ne ac rs es c t r:=by
 obtain⟨v,hv,hc⟩:=check_ok (mk ck nr nt nk ne ac rs es) (by have:=h.fine.1;simp only [mk]at this⊢;omega) hr
 obtain rfl:v=0:=by
  rcases hc with⟨h1,_⟩|⟨_,hc⟩
  ·exact h1
  ·exact absurd h hc
 have E:=e15a h hR hE
 have Eg:=fun n=>dn_err (c:=c) h n
 simp only [F15a,hv,bind_some,n00,cond_false]
 by_cases k1:c.1=1
 ·rw [show(c.1==ofNat 1)=true by rw [k1];rfl,cond_true]
  exact kstep _ (fun f=>m15a_1 h hr hR hE c hcl (f (decide_eq_true (by rw [k1];decide))) k1) ⟨_,_,E 9,Eg 8⟩
 rw [show(c.1==ofNat 1)=false by simpa using k1,cond_false]
 by_cases k2:c.1=2
 ·rw [show(c.1==ofNat 2)=true by rw [k2];rfl,cond_true]
  exact kstep _ (fun f=>m15a_2 h hr hR hE c (f (decide_eq_true (by rw [k2];decide))) k2) ⟨_,_,E 9,Eg 8⟩
 rw [show(c.1==ofNat 2)=false by simpa using k2,cond_false]
 by_cases k3:c.1=3
 ·rw [show(c.1==ofNat 3)=true by rw [k3];rfl,cond_true]
  exact kstep _ (fun f=>m15a_3 h hr hR hE c (f (decide_eq_true (by rw [k3];decide))) k3) ⟨_,_,E 9,Eg 8⟩
 rw [show(c.1==ofNat 3)=false by simpa using k3,cond_false]
 by_cases k4:c.1=4
 ·rw [show(c.1==ofNat 4)=true by rw [k4];rfl,cond_true]
  exact kstep _ (fun f=>m15a_4 h hr hR hE c (f (decide_eq_true (by rw [k4];decide))) k4) ⟨_,_,E 9,Eg 8⟩
 rw [show(c.1==ofNat 4)=false by simpa using k4,cond_false]
 by_cases k5:c.1=5
 ·rw [show(c.1==ofNat 5)=true by rw [k5];rfl,cond_true]
  exact kstep _ (fun f=>m15a_5 h hr hR hE c (f (decide_eq_true (by rw [k5];decide))) k5) ⟨_,_,E 9,Eg 8⟩
 rw [show(c.1==ofNat 5)=false by simpa using k5,cond_false]
 by_cases k6:c.1=6
 ·rw [show(c.1==ofNat 6)=true by rw [k6];rfl,cond_true]
  exact kstep _ (fun f=>m15a_6 h hr hR hE c (f (decide_eq_true (by rw [k6];decide))) k6) ⟨_,_,E 9,Eg 8⟩
 rw [show(c.1==ofNat 6)=false by simpa using k6,cond_false]
 by_cases k7:c.1=7
 ·rw [show(c.1==ofNat 7)=true by rw [k7];rfl,cond_true]
  exact kstep _ (fun f=>m15a_7 h hr hR hE c (f (decide_eq_true (by rw [k7];decide))) k7) ⟨_,_,E 9,Eg 8⟩
 rw [show(c.1==ofNat 7)=false by simpa using k7,cond_false]
 by_cases k8:c.1=8
 ·rw [show(c.1==ofNat 8)=true by rw [k8];rfl,cond_true]
  exact kstep _ (fun f=>m15a_8 h hr hR hE c k8) ⟨_,_,E 9,Eg 8⟩
 rw [show(c.1==ofNat 8)=false by simpa using k8,cond_false]
 by_cases k9:c.1=9
 ·rw [show(c.1==ofNat 9)=true by rw [k9];rfl,cond_true]
  exact kstep _ (fun f=>m15a_9 h hr hR hE c k9) ⟨_,_,E 9,Eg 8⟩
 rw [show(c.1==ofNat 9)=false by simpa using k9,cond_false]
 by_cases k10:c.1=10
 ·rw [show(c.1==ofNat 10)=true by rw [k10];rfl,cond_true]
  exact kstep _ (fun f=>m15a_10 h hr hR hE c k10) ⟨_,_,E 9,Eg 8⟩
 rw [show(c.1==ofNat 10)=false by simpa using k10,cond_false]
 exact⟨_,_,E 2,Eg 1⟩
theorem do_b {ck nr nt nk ne ac:Int} {rs:List Run} (h:SOk (mk ck nr nt nk ne ac rs [])) (hr:∀r∈rs,OkR r) (hR:isEmpty rs=false) (c:Call) (hcl:∀nd∈c.2.2.1.1,nd.1.length≤9223372036854775807):
  ∃t r,F15b ((mk ck nr nt nk ne ac rs []),c,())=some (t,r,())∧Done ck nr nt nk ne ac rs [] c t r:=by
 obtain⟨v,hv,hc⟩:=check_ok (mk ck nr nt nk ne ac rs []) (by have:=h.fine.1;simp only [mk]at this⊢;omega) hr
 obtain rfl:v=0:=by
  rcases hc with⟨h1,_⟩|⟨_,hc⟩
  ·exact h1
  ·exact absurd h hc
 have E:=e15b h hR
 have Eg:=fun n=>dn_err (c:=c) h n
 simp only [F15b,hv,bind_some,n00,cond_false]
 by_cases k1:c.1=1
 ·rw [show(c.1==ofNat 1)=true by rw [k1];rfl,cond_true]
  exact kstep _ (fun f=>m15b_1 h hr hR c hcl (f (decide_eq_true (by rw [k1];decide))) k1) ⟨_,_,E 9,Eg 8⟩
 rw [show(c.1==ofNat 1)=false by simpa using k1,cond_false]
 by_cases k2:c.1=2
 ·rw [show(c.1==ofNat 2)=true by rw [k2];rfl,cond_true]
  exact kstep _ (fun f=>m15b_2 h hr hR c (f (decide_eq_true (by rw [k2];decide))) k2) ⟨_,_,E 9,Eg 8⟩
 rw [show(c.1==ofNat 2)=false by simpa using k2,cond_false]
 by_cases k3:c.1=3
 ·rw [show(c.1==ofNat 3)=true by rw [k3];rfl,cond_true]
  exact kstep _ (fun f=>m15b_3 h hr hR c (f (decide_eq_true (by rw [k3];decide))) k3) ⟨_,_,E 9,Eg 8⟩
 rw [show(c.1==ofNat 3)=false by simpa using k3,cond_false]
 by_cases k4:c.1=4
 ·rw [show(c.1==ofNat 4)=true by rw [k4];rfl,cond_true]
  exact kstep _ (fun f=>m15b_4 h hr hR c (f (decide_eq_true (by rw [k4];decide))) k4) ⟨_,_,E 9,Eg 8⟩
 rw [show(c.1==ofNat 4)=false by simpa using k4,cond_false]
 by_cases k5:c.1=5
 ·rw [show(c.1==ofNat 5)=true by rw [k5];rfl,cond_true]
  exact kstep _ (fun f=>m15b_5 h hr hR c (f (decide_eq_true (by rw [k5];decide))) k5) ⟨_,_,E 9,Eg 8⟩
 rw [show(c.1==ofNat 5)=false by simpa using k5,cond_false]
 by_cases k6:c.1=6
 ·rw [show(c.1==ofNat 6)=true by rw [k6];rfl,cond_true]
  exact kstep _ (fun f=>m15b_6 h hr hR c (f (decide_eq_true (by rw [k6];decide))) k6) ⟨_,_,E 9,Eg 8⟩
 rw [show(c.1==ofNat 6)=false by simpa using k6,cond_false]
 by_cases k7:c.1=7
 ·rw [show(c.1==ofNat 7)=true by rw [k7];rfl,cond_true]
  exact kstep _ (fun f=>m15b_7 h hr hR c (f (decide_eq_true (by rw [k7];decide))) k7) ⟨_,_,E 9,Eg 8⟩
 rw [show(c.1==ofNat 7)=false by simpa using k7,cond_false]
 by_cases k8:c.1=8
 ·rw [show(c.1==ofNat 8)=true by rw [k8];rfl,cond_true]
  exact kstep _ (fun f=>m15b_8 h hr hR c k8) ⟨_,_,E 9,Eg 8⟩
 rw [show(c.1==ofNat 8)=false by simpa using k8,cond_false]
 by_cases k9:c.1=9
 ·rw [show(c.1==ofNat 9)=true by rw [k9];rfl,cond_true]
  exact kstep _ (fun f=>m15b_9 h hr hR c k9) ⟨_,_,E 9,Eg 8⟩
 rw [show(c.1==ofNat 9)=false by simpa using k9,cond_false]
 by_cases k10:c.1=10
 ·rw [show(c.1==ofNat 10)=true by rw [k10];rfl,cond_true]
  exact kstep _ (fun f=>m15b_10 h hr hR c k10) ⟨_,_,E 9,Eg 8⟩
 rw [show(c.1==ofNat 10)=false by simpa using k10,cond_false]
 exact⟨_,_,E 2,Eg 1⟩
theorem do_c {ck nr nt nk ne ac:Int} {es:List Event} (h:SOk (mk ck nr nt nk ne ac [] es)) (hr:∀r∈([]:List Run),OkR r) (hE:isEmpty es=false) (c:Call) (hcl:∀nd∈c.2.2.1.1,nd.1.length≤9223372036854775807):
  ∃t r,F15c ((mk ck nr nt nk ne ac [] es),c,())=some (t,r,())∧Done ck nr nt nk ne ac [] es c t r:=by
 obtain⟨v,hv,hc⟩:=check_ok (mk ck nr nt nk ne ac [] es) (by have:=h.fine.1;simp only [mk]at this⊢;omega) hr
 obtain rfl:v=0:=by
  rcases hc with⟨h1,_⟩|⟨_,hc⟩
  ·exact h1
  ·exact absurd h hc
 have E:=e15c h hE
 have Eg:=fun n=>dn_err (c:=c) h n
 simp only [F15c,hv,bind_some,n00,cond_false]
 by_cases k1:c.1=1
 ·rw [show(c.1==ofNat 1)=true by rw [k1];rfl,cond_true]
  exact kstep _ (fun f=>m15c_1 h hr hE c hcl (f (decide_eq_true (by rw [k1];decide))) k1) ⟨_,_,E 9,Eg 8⟩
 rw [show(c.1==ofNat 1)=false by simpa using k1,cond_false]
 by_cases k2:c.1=2
 ·rw [show(c.1==ofNat 2)=true by rw [k2];rfl,cond_true]
  exact kstep _ (fun f=>m15c_2 h hr hE c (f (decide_eq_true (by rw [k2];decide))) k2) ⟨_,_,E 9,Eg 8⟩
 rw [show(c.1==ofNat 2)=false by simpa using k2,cond_false]
 by_cases k3:c.1=3
 ·rw [show(c.1==ofNat 3)=true by rw [k3];rfl,cond_true]
  exact kstep _ (fun f=>m15c_3 h hr hE c (f (decide_eq_true (by rw [k3];decide))) k3) ⟨_,_,E 9,Eg 8⟩
 rw [show(c.1==ofNat 3)=false by simpa using k3,cond_false]
 by_cases k4:c.1=4
 ·rw [show(c.1==ofNat 4)=true by rw [k4];rfl,cond_true]
  exact kstep _ (fun f=>m15c_4 h hr hE c (f (decide_eq_true (by rw [k4];decide))) k4) ⟨_,_,E 9,Eg 8⟩
 rw [show(c.1==ofNat 4)=false by simpa using k4,cond_false]
 by_cases k5:c.1=5
 ·rw [show(c.1==ofNat 5)=true by rw [k5];rfl,cond_true]
  exact kstep _ (fun f=>m15c_5 h hr hE c (f (decide_eq_true (by rw [k5];decide))) k5) ⟨_,_,E 9,Eg 8⟩
 rw [show(c.1==ofNat 5)=false by simpa using k5,cond_false]
 by_cases k6:c.1=6
 ·rw [show(c.1==ofNat 6)=true by rw [k6];rfl,cond_true]
  exact kstep _ (fun f=>m15c_6 h hr hE c (f (decide_eq_true (by rw [k6];decide))) k6) ⟨_,_,E 9,Eg 8⟩
 rw [show(c.1==ofNat 6)=false by simpa using k6,cond_false]
 by_cases k7:c.1=7
 ·rw [show(c.1==ofNat 7)=true by rw [k7];rfl,cond_true]
  exact kstep _ (fun f=>m15c_7 h hr hE c (f (decide_eq_true (by rw [k7];decide))) k7) ⟨_,_,E 9,Eg 8⟩
 rw [show(c.1==ofNat 7)=false by simpa using k7,cond_false]
 by_cases k8:c.1=8
 ·rw [show(c.1==ofNat 8)=true by rw [k8];rfl,cond_true]
  exact kstep _ (fun f=>m15c_8 h hr hE c k8) ⟨_,_,E 9,Eg 8⟩
 rw [show(c.1==ofNat 8)=false by simpa using k8,cond_false]
 by_cases k9:c.1=9
 ·rw [show(c.1==ofNat 9)=true by rw [k9];rfl,cond_true]
  exact kstep _ (fun f=>m15c_9 h hr hE c k9) ⟨_,_,E 9,Eg 8⟩
 rw [show(c.1==ofNat 9)=false by simpa using k9,cond_false]
 by_cases k10:c.1=10
 ·rw [show(c.1==ofNat 10)=true by rw [k10];rfl,cond_true]
  exact kstep _ (fun f=>m15c_10 h hr hE c k10) ⟨_,_,E 9,Eg 8⟩
 rw [show(c.1==ofNat 10)=false by simpa using k10,cond_false]
 exact⟨_,_,E 2,Eg 1⟩
theorem do_d {ck nr nt nk ne ac:Int} (h:SOk (mk ck nr nt nk ne ac [] [])) (hr:∀r∈([]:List Run),OkR r) (c:Call) (hcl:∀nd∈c.2.2.1.1,nd.1.length≤9223372036854775807):
  ∃t r,F15d ((mk ck nr nt nk ne ac [] []),c,())=some (t,r,())∧Done ck nr nt nk ne ac [] [] c t r:=by
 obtain⟨v,hv,hc⟩:=check_ok (mk ck nr nt nk ne ac [] []) (by have:=h.fine.1;simp only [mk]at this⊢;omega) hr
 obtain rfl:v=0:=by
  rcases hc with⟨h1,_⟩|⟨_,hc⟩
  ·exact h1
  ·exact absurd h hc
 have E:=e15d h
 have Eg:=fun n=>dn_err (c:=c) h n
 simp only [F15d,hv,bind_some,n00,cond_false]
 by_cases k1:c.1=1
 ·rw [show(c.1==ofNat 1)=true by rw [k1];rfl,cond_true]
  exact kstep _ (fun f=>m15d_1 h hr c hcl (f (decide_eq_true (by rw [k1];decide))) k1) ⟨_,_,E 9,Eg 8⟩
 rw [show(c.1==ofNat 1)=false by simpa using k1,cond_false]
 by_cases k2:c.1=2
 ·rw [show(c.1==ofNat 2)=true by rw [k2];rfl,cond_true]
  exact kstep _ (fun f=>m15d_2 h hr c (f (decide_eq_true (by rw [k2];decide))) k2) ⟨_,_,E 9,Eg 8⟩
 rw [show(c.1==ofNat 2)=false by simpa using k2,cond_false]
 by_cases k3:c.1=3
 ·rw [show(c.1==ofNat 3)=true by rw [k3];rfl,cond_true]
  exact kstep _ (fun f=>m15d_3 h hr c (f (decide_eq_true (by rw [k3];decide))) k3) ⟨_,_,E 9,Eg 8⟩
 rw [show(c.1==ofNat 3)=false by simpa using k3,cond_false]
 by_cases k4:c.1=4
 ·rw [show(c.1==ofNat 4)=true by rw [k4];rfl,cond_true]
  exact kstep _ (fun f=>m15d_4 h hr c (f (decide_eq_true (by rw [k4];decide))) k4) ⟨_,_,E 9,Eg 8⟩
 rw [show(c.1==ofNat 4)=false by simpa using k4,cond_false]
 by_cases k5:c.1=5
 ·rw [show(c.1==ofNat 5)=true by rw [k5];rfl,cond_true]
  exact kstep _ (fun f=>m15d_5 h hr c (f (decide_eq_true (by rw [k5];decide))) k5) ⟨_,_,E 9,Eg 8⟩
 rw [show(c.1==ofNat 5)=false by simpa using k5,cond_false]
 by_cases k6:c.1=6
 ·rw [show(c.1==ofNat 6)=true by rw [k6];rfl,cond_true]
  exact kstep _ (fun f=>m15d_6 h hr c (f (decide_eq_true (by rw [k6];decide))) k6) ⟨_,_,E 9,Eg 8⟩
 rw [show(c.1==ofNat 6)=false by simpa using k6,cond_false]
 by_cases k7:c.1=7
 ·rw [show(c.1==ofNat 7)=true by rw [k7];rfl,cond_true]
  exact kstep _ (fun f=>m15d_7 h hr c (f (decide_eq_true (by rw [k7];decide))) k7) ⟨_,_,E 9,Eg 8⟩
 rw [show(c.1==ofNat 7)=false by simpa using k7,cond_false]
 by_cases k8:c.1=8
 ·rw [show(c.1==ofNat 8)=true by rw [k8];rfl,cond_true]
  exact kstep _ (fun f=>m15d_8 h hr c k8) ⟨_,_,E 9,Eg 8⟩
 rw [show(c.1==ofNat 8)=false by simpa using k8,cond_false]
 by_cases k9:c.1=9
 ·rw [show(c.1==ofNat 9)=true by rw [k9];rfl,cond_true]
  exact kstep _ (fun f=>m15d_9 h hr c k9) ⟨_,_,E 9,Eg 8⟩
 rw [show(c.1==ofNat 9)=false by simpa using k9,cond_false]
 by_cases k10:c.1=10
 ·rw [show(c.1==ofNat 10)=true by rw [k10];rfl,cond_true]
  exact kstep _ (fun f=>m15d_10 h hr c k10) ⟨_,_,E 9,Eg 8⟩
 rw [show(c.1==ofNat 10)=false by simpa using k10,cond_false]
 exact⟨_,_,E 2,Eg 1⟩
abbrev zS:State:=(ofNat 0,ofNat 0,ofNat 0,ofNat 0,ofNat 0,ofNat 0,[],[],())
theorem do_ok (s:State) (c:Call) (hm:s.2.2.2.2.2.2.1.length≤9223372036854775807) (hr:∀r∈s.2.2.2.2.2.2.1,OkR r) (hcl:∀nd∈c.2.2.1.1,nd.1.length≤9223372036854775807):
  ∃v,F19 (s,())=some (v,())∧∃t r,F15 (s,c,())=some (t,r,())∧((v=0∧SOk s∧Done s.1 s.2.1 s.2.2.1 s.2.2.2.1 s.2.2.2.2.1 s.2.2.2.2.2.1 s.2.2.2.2.2.2.1 s.2.2.2.2.2.2.2.1 c t r)∨((∃n:Nat,v=ofNat (n+1))∧¬SOk s∧t=zS∧r=errR v)):=by
 obtain⟨v,hv,hc⟩:=check_ok s hm hr
 refine⟨v,hv,?_⟩
 rcases hc with⟨rfl,h⟩|⟨⟨n,rfl⟩,h⟩
 ·have:∃t r,F15 (s,c,())=some (t,r,())∧Done s.1 s.2.1 s.2.2.1 s.2.2.2.1 s.2.2.2.2.1 s.2.2.2.2.2.1 s.2.2.2.2.2.2.1 s.2.2.2.2.2.2.2.1 c t r:=by
   obtain⟨ck,nr,nt,nk,ne,ac,rs,es,_⟩:=s
   cases rs with
   |nil=>
    cases es with
    |nil=>exact do_d h hr c hcl
    |cons e es=>exact do_c h hr rfl c hcl
   |cons r rs=>
    cases es with
    |nil=>exact do_b h hr rfl c hcl
    |cons e es=>exact do_a h hr rfl rfl c hcl
  obtain⟨t,r,h1,h2⟩:=this
  exact⟨t,r,h1,.inl ⟨rfl,h,h2⟩⟩
 ·have c0:(ofNat (n+1) !=ofNat 0)=true:=by simp;omega
  refine⟨zS,errR (ofNat (n+1)),?_,.inr ⟨⟨n,rfl⟩,h,rfl,rfl⟩⟩
  have ha:F15a (s,c,())=some (zS,errR (ofNat (n+1)),()):=by simp only [F15a,hv,bind_some,c0,cond_true]
  have hb:F15b (s,c,())=some (zS,errR (ofNat (n+1)),()):=by simp only [F15b,hv,bind_some,c0,cond_true]
  have hcc:F15c (s,c,())=some (zS,errR (ofNat (n+1)),()):=by simp only [F15c,hv,bind_some,c0,cond_true]
  have hd:F15d (s,c,())=some (zS,errR (ofNat (n+1)),()):=by simp only [F15d,hv,bind_some,c0,cond_true]
  simp only [F15,ha,hb,hcc,hd]
  cases isEmpty s.2.2.2.2.2.2.1<;>cases isEmpty s.2.2.2.2.2.2.2.1<;>rfl
abbrev nwS:State:=(ofNat 0,ofNat 0,ofNat 1,ofNat 0,ofNat 1,ofNat 0,[],[],())
abbrev n1:Node:=([],ofNat 2,ofNat 3,())
abbrev ky:ByteArray:={data:= #[97]}
abbrev u1:Task:=(ofNat 1,ofNat 0,ofNat 0,ofNat 0,ofNat 0,())
abbrev u2:Task:=(ofNat 2,ofNat 1,ofNat 10,ofNat 1,ofNat 0,())
abbrev rn (t:Task):Run:=(ofNat 0,ky,([n1],()),ofNat 1,[t],())
abbrev ev1:Event:=(ofNat 1,ofNat 1,ofNat 0,ofNat 0,())
abbrev st1 (nt:Int) (t:Task):State:=mk (ofNat 0) (ofNat 1) nt (ofNat 1) (ofNat 2) (ofNat 0) [rn t] [ev1]
abbrev c1_:Call:=(ofNat 1,{data:= #[97]},([n1],()),ofNat 0,ofNat 0,ofNat 0,ofNat 0,ofNat 0,())
abbrev c2_:Call:=(ofNat 2,{data:= #[]},([],()),ofNat 0,ofNat 0,ofNat 0,ofNat 10,ofNat 0,())
theorem in1:InC (ofNat 1):=by decide
theorem lt1 {i:Nat} (h:i<1):i=0:=by omega
theorem nd1:NdOk n1:=by constructor<;>constructor<;>decide
theorem dag1:Dag [n1]:=by
 refine⟨⟨by decide,by decide⟩,fun i h=> ?_,fun i h hr=> ?_⟩
 ·obtain rfl:=lt1 h
  exact⟨by constructor<;>decide,by constructor<;>decide,fun j h=>absurd h (not_lt_zero _)⟩
 ·have:∀{a b:Nat},¬EdG [n1] a b:=fun {a b} ⟨h1,h2⟩=>by
   obtain rfl:=lt1 h1
   exact(not_mem_nil h2).elim
  rcases hr with h|⟨h,_⟩
  ·exact this h
  ·exact this h
theorem tk1:TkT n1 u1:=by
 refine⟨by decide,by decide,by decide,by decide,fun _=>rfl,fun h=>absurd rfl h,⟨fun h=>absurd rfl h,fun h=>absurd h (by decide)⟩,.inr (.inl ⟨rfl,by decide⟩)⟩
theorem tk2:TkT n1 u2:=by
 refine⟨by decide,by decide,by decide,by decide,fun h=>absurd rfl h,fun _=>.inl rfl,⟨fun _=>rfl,fun _=>by decide⟩,.inr (.inr (.inl ⟨rfl,by decide⟩))⟩
theorem rok1 {t:Task} (ht:TkT n1 t) (h:t.1=1∨t.1=2):ROk (rn t):=by
 refine⟨in0,show 1≤ky.size∧ky.size≤24 by decide,dag1,rfl,fun i h=> ?_,.inl ⟨rfl,fun i h=> ?_,fun h4=> ?_,fun⟨x,hx,h4⟩=> ?_⟩⟩
 ·obtain rfl:=lt1 h
  exact ht
 ·obtain rfl:=lt1 h
  exact⟨fun _=>by show t.1≠0;omega,fun _ v hv=>(not_mem_nil hv).elim⟩
 ·have:=h4 t (List.mem_singleton.2 rfl);omega
 ·rw [List.mem_singleton.1 hx]at h4;omega
theorem okr1 {t:Task} (h:0≤t.1):∀r∈ [rn t],OkR r:=fun r hr=>by
 rw [List.mem_singleton.1 hr]
 exact⟨fun nd hnd=>by rw [List.mem_singleton.1 hnd];decide,show 1≤9223372036854775807 by decide,fun x hx=>by rw [List.mem_singleton.1 hx];exact h⟩
theorem fine1 {t:Task} (ht:TkT n1 t) (h:t.1=1∨t.1=2):Fine [rn t]:=
 ⟨show 1≤32 by decide,fun a b h1 h2=>by have:=lt1 h2;omega,fun a b h1 h2=>by have:=lt1 h2;omega,fun a h1=>by
  obtain rfl:=lt1 h1
  exact rok1 ht h,List.pairwise_singleton _ _⟩
theorem sok1 {nt:Int} {t:Task} (hn:1≤nt∧nt≤1099511627776) (ht:TkT n1 t) (h:t.1=1∨t.1=2) (hl:NotLate nt 1 t):SOk (st1 nt t):=
 ⟨fine1 ht h,show 1≤40 by decide,in0,in1,in1,hn,show 1≤ofNat 2∧ofNat 2≤1099511627776 by decide,show 0≤ofNat 0∧ofNat 0<ofNat 2 by decide,rfl,fun j hj=>by
  obtain rfl:=lt1 hj
  exact⟨by show(ofNat 0)<ofNat 1;decide,fun x hx=>by rw [List.mem_singleton.1 hx];exact hl⟩,fun j hj=>by
  obtain rfl:=lt1 hj
  exact⟨rfl,show 1≤ofNat 1∧ofNat 1≤6 by decide,show 0≤ofNat 0∧ofNat 0<ofNat 1 by decide,show 0≤ofNat 0∧ofNat 0<12 by decide,.inl rfl⟩⟩
theorem sok0:SOk nwS:=
 ⟨⟨by decide,fun a b h1 h2=>absurd h2 (not_lt_zero _),fun a b h1 h2=>absurd h2 (not_lt_zero _),fun a h1=>absurd h1 (not_lt_zero _),.nil⟩,by decide,by decide,by decide,by decide,by decide,by decide,by decide,rfl,fun j hj=>absurd hj (not_lt_zero _),fun j hj=>absurd hj (not_lt_zero _)⟩
theorem chk0 {s:State} (h:SOk s) (hm:s.2.2.2.2.2.2.1.length≤9223372036854775807) (hr:∀r∈s.2.2.2.2.2.2.1,OkR r):F19 (s,())=some (0,()):=by
 obtain⟨v,hv,hc⟩:=check_ok s hm hr
 rcases hc with⟨rfl,_⟩|⟨_,hc⟩
 ·exact hv
 ·exact absurd h hc
theorem do1:F15 (nwS,c1_,())=some (st1 (ofNat 1) u1,(ofNat 0,ofNat 0,ofNat 0,ofNat 0,r0_,[],()),()):=by
 have hc:=chk0 sok0 (show 0≤9223372036854775807 by decide) (fun r h=>(not_mem_nil h).elim)
 have h48:F48 (nwS,())=some (false,()):=rfl
 have h25:F25 (nwS,())=some (nwS,()):=twin_ok sok0
 have hln:∀nd∈ [n1],nd.1.length≤9223372036854775807:=fun nd h=>by rw [List.mem_singleton.1 h];decide
 have h114:F114 (([n1],()),())=some (0,()):=by
  obtain⟨v,hv,h⟩:=f114 [n1] hln
  rcases h with⟨rfl,_⟩|⟨_,h⟩
  ·exact hv
  ·exact absurd dag1 h
 have h115:∃i,F115 ([],ky,())=some (i,false,0,()):=by
  obtain⟨i,b,e,hv,h⟩:=known_ok [] (show 0≤9223372036854775807 by decide) (fun r h=>(not_mem_nil h).elim) ky
  rcases h with⟨_,_,h⟩|⟨rfl,_,⟨_,n,h,_⟩|⟨rfl,_⟩⟩
  ·exact absurd sok0.fine h
  ·exact absurd h (not_lt_zero _)
  ·exact⟨i,hv⟩
 obtain⟨i,h115⟩:=h115
 have h116:F116 (ofNat 0,ky,([n1],()),ofNat 0,())=some (rn u1,ofNat 1,0,()):=by
  obtain⟨r',rk',e,hv,h⟩:=start_ok (ofNat 0) ky [n1] hln (ofNat 0)
  rcases h with⟨rfl,_,_,_,_,rfl,rfl⟩|⟨_,h⟩
  ·have ho:opn [n1] (ofNat 0,replicate [n1].length t0) [n1].length=(ofNat 1,[u1]):=by
    show opn [n1] (ofNat 0,[t0]) (0+1)=_
    have hm:MetP [t0] n1:=fun v h=>(not_mem_nil h).elim
    have ht:TkT n1 t0:=⟨by decide,by decide,by decide,by decide,fun h=>absurd rfl h,fun h=>absurd rfl h,⟨fun h=>absurd rfl h,fun h=>absurd h (by decide)⟩,.inl ⟨rfl,rfl⟩⟩
    rw [opn,if_pos ⟨rfl,hm⟩,if_pos ⟨in0,ht⟩]
    rfl
   rw [hv,ho]
  ·exact absurd ⟨in0,by decide,dag1,by decide,by decide⟩ h
 have hF:F15 (nwS,c1_,())=F15d (nwS,c1_,()):=rfl
 rw [hF]
 simp only [F15d,hc,bind_some,n00,cond_false,beq_self_eq_true,cond_true,h48]
 have h115':F115 ([],{data:= #[97]},())=some (i,false,0,()):=h115
 simp only [M15d_1,h25,bind_some,isEmpty_nil,cond_true,cond_false,decide_eq_false (show¬((ByteArray.size {data:= #[97]}:Nat):Int)<ofNat 1 by decide),decide_eq_false (show¬((ByteArray.size {data:= #[97]}:Nat):Int)>ofNat 24 by decide),h114,sp2_0,h115',h116,allE,sgE]
 rfl
theorem do2:F15 (st1 (ofNat 1) u1,c2_,())=some (st1 (ofNat 2) u2,(ofNat 0,ofNat 0,ofNat 0,ofNat 1,r0_,[],()),()):=by
 have hr:=okr1 (t:=u1) (by decide)
 have hs:SOk (st1 (ofNat 1) u1):=sok1 (by decide) tk1 (.inl rfl) ⟨by decide,fun _=>by decide⟩
 have hc:=chk0 hs (show 1≤9223372036854775807 by decide) hr
 have h48:F48 (st1 (ofNat 1) u1,())=some (false,()):=rfl
 have h25:=twin_ok hs
 have h118:F118 (ofNat 10,())=some (true,()):=rfl
 have h119:F119 ([rn u1],())=some ((ofNat 0,ofNat 0,ofNat 0,()),true,0,()):=by
  obtain⟨p,b,e,hv,h⟩:=next_ok [rn u1] (show 1≤9223372036854775807 by decide) hr
  rcases h with⟨_,_,h⟩|⟨rfl,_,rfl,rfl,_⟩
  ·exact absurd hs.fine h
  ·exact hv
 have h164:F164 ([rn u1],ofNat 0,())=some (ofNat 0,true,0,()):=by
  obtain⟨i,b,e,hv,h⟩:=find_ok [rn u1] (show 1≤9223372036854775807 by decide) hr (ofNat 0)
  rcases h with⟨_,_,h⟩|⟨rfl,_,⟨rfl,n,rfl,h,_⟩|⟨_,h⟩⟩
  ·exact absurd hs.fine h
  ·obtain rfl:=lt1 h
   exact hv
  ·exact absurd rfl (h 0 (by decide))
 have h121:F121 (rn u1,ofNat 0,ofNat 1,ofNat 10,())=some (rn u2,0,()):=by
  obtain⟨r',e',hv,h⟩:=turn_ok (rn u1) (hr _ (List.mem_singleton.2 rfl)) (ofNat 0) (fun nd t=>F167 (nd,t,ofNat 1,ofNat 10,())) (fun nd t h1 h2 h3=>tr_D (f167 nd t (ofNat 1) (ofNat 10) h1 h2) fun _=>natCast_nonneg 2)
  rw [←lease_eq]at hv
  have h167:F167 (n1,u1,ofNat 1,ofNat 10,())=some (u2,0,()):=by
   rcases f167 n1 u1 (ofNat 1) (ofNat 10) nd1 (by decide)with⟨_,h⟩|⟨h,_⟩
   ·exact h
   ·exact absurd ⟨by decide,by decide,by decide,tk1,rfl⟩ h
  rcases h with⟨rfl,_,_,k,t',hk,hkl,hD,ht⟩|⟨_,_,h⟩
  ·obtain rfl:=lt1 hkl
   have h2:some (u2,(0:Int),())=some (t',0,()):=h167.symm.trans hD
   obtain rfl:u2=t':=by injection h2 with h2;exact(Prod.mk.inj h2).1
   obtain⟨i1,i2,i3,_,_,i4⟩:=ht
   rcases i4 with⟨h5,_⟩|⟨_,i5,⟨h4,_⟩|⟨_,i6⟩⟩
   ·exact absurd h5 (by decide)
   ·exact absurd (h4 u2 (List.mem_singleton.2 rfl)) (by decide)
   ·obtain⟨q1,q2,q3,q4,q5,_⟩:=r'
    simp only at i1 i2 i3 i5 i6
    subst i1 i2 i3 i5 i6
    exact hv
  ·exact absurd ⟨rok1 tk1 (.inl rfl),rfl,0,u2,rfl,by decide,h167⟩ h
 have hF:F15 (st1 (ofNat 1) u1,c2_,())=F15a (st1 (ofNat 1) u1,c2_,()):=rfl
 rw [hF]
 simp only [F15a,hc,bind_some,n00,cond_false,show(ofNat 2==ofNat 1)=false from rfl,beq_self_eq_true,cond_true,h48]
 simp only [st1,mk]at h25
 simp only [M15a_2,st1,mk,h25,bind_some,isEmpty_cons,cond_true,cond_false,h118,Bool.not_true,length_singleton,zero_add,Nat.le_refl,decide_true,allE,h119,h164]
 show Option.bind (F121 (rn u1,ofNat 0,ofNat 1,ofNat 10,())) _=_
 rw [h121,bind_some]
 rfl
theorem do3:F15 (st1 (ofNat 2) u2,c2_,())=some (st1 (ofNat 2) u2,errR (ofNat 6),()):=by
 have hr:=okr1 (t:=u2) (by decide)
 have hs:SOk (st1 (ofNat 2) u2):=sok1 (by decide) tk2 (.inr rfl) ⟨by decide,fun h=>absurd h (by decide)⟩
 have hc:=chk0 hs (show 1≤9223372036854775807 by decide) hr
 have h48:F48 (st1 (ofNat 2) u2,())=some (false,()):=rfl
 have h25:=twin_ok hs
 have h118:F118 (ofNat 10,())=some (true,()):=rfl
 have h119:F119 ([rn u2],())=some ((ofNat 0,ofNat 0,ofNat 0,()),false,0,()):=by
  obtain⟨p,b,e,hv,h⟩:=next_ok [rn u2] (show 1≤9223372036854775807 by decide) hr
  rcases h with⟨_,_,h⟩|⟨rfl,_,rfl,rfl,_⟩
  ·exact absurd hs.fine h
  ·exact hv
 have hF:F15 (st1 (ofNat 2) u2,c2_,())=F15a (st1 (ofNat 2) u2,c2_,()):=rfl
 have E:=e15a hs rfl rfl (ofNat 6)
 rw [hF]
 simp only [F15a,hc,bind_some,n00,cond_false,show(ofNat 2==ofNat 1)=false from rfl,beq_self_eq_true,cond_true,h48]
 simp only [st1,mk]at h25 E
 simp only [M15a_2,st1,mk,h25,bind_some,isEmpty_cons,cond_true,cond_false,h118,Bool.not_true,length_singleton,zero_add,Nat.le_refl,decide_true,allE,h119,Bool.not_false,E]
theorem alive:F12 ()=some (true,()):=by
 have h14:F14 ()=some (nwS,()):=rfl
 have h78:F78 ()=some (([n1],()),()):=rfl
 have h44:F44 ()=some (st1 (ofNat 1) u1,true,()):=by
  simp only [F44,h14,h78,bind_some,do1]
  rfl
 simp only [F12,h44,bind_some,do2,do3]
 rfl
theorem f156 (l:List Int) (hl:l.length≤9223372036854775807):F156 (l,l,())=some (true,()):=by
 obtain⟨y,hy,rfl⟩:=rng_hoare (st:=L156_1009984t) l.length (fun i (_:Unit)=>(l,l,(l.length:Int),(i:Int),())) (fun _ _=>True) (fun y=>y= .inr ()) (fun i _ h _=>by
  simp only [L156_1009984t,L156_1009984s0,rg_lt h,rg_in h,rg_ltn h,cond_true,toNat_natCast,bne_self_eq_false,cond_false]
  rw [rg_wrap (by omega)]
  exact .inl ⟨(),rfl,trivial⟩) (fun _ _=>⟨.inr (),by simp only [L156_1009984t,L156_1009984s0,rg_end,cond_false],rfl⟩) () trivial
 have hy':L156_1009984 (l,l,(l.length:Int),ofNat 0,())=some (.inr ()):=hy
 simp only [F156,bne_self_eq_false,cond_false,hy',bind_some]
theorem f104 (l:List Task) (hl:l.length≤9223372036854775807):F104 (l,l,())=some (true,()):=by
 obtain⟨y,hy,rfl⟩:=rng_hoare (st:=L104_1006656t) l.length (fun i (_:Unit)=>(l,l,(l.length:Int),(i:Int),())) (fun _ _=>True) (fun y=>y= .inr ()) (fun i _ h _=>by
  simp only [L104_1006656t,L104_1006656s0,L104_1006656s0r,rg_lt h,rg_in h,rg_ltn h,cond_true,toNat_natCast,if_true,beq_self_eq_true,Bool.and_self,Bool.not_true,cond_false]
  rw [rg_wrap (by omega)]
  exact .inl ⟨(),rfl,trivial⟩) (fun _ _=>⟨.inr (),by simp only [L104_1006656t,L104_1006656s0,L104_1006656s0r,rg_end,cond_false],rfl⟩) () trivial
 have hy':L104_1006656 (l,l,(l.length:Int),ofNat 0,())=some (.inr ()):=hy
 simp only [F104,bne_self_eq_false,cond_false,hy',bind_some]
theorem f65 (l:List Event) (hl:l.length≤9223372036854775807):F65 (l,l,())=some (true,()):=by
 obtain⟨y,hy,rfl⟩:=rng_hoare (st:=L65_1004160t) l.length (fun i (_:Unit)=>(l,l,(l.length:Int),(i:Int),())) (fun _ _=>True) (fun y=>y= .inr ()) (fun i _ h _=>by
  simp only [L65_1004160t,L65_1004160s0,L65_1004160s0r,rg_lt h,rg_in h,rg_ltn h,cond_true,toNat_natCast,if_true,beq_self_eq_true,Bool.and_self,Bool.not_true,cond_false]
  rw [rg_wrap (by omega)]
  exact .inl ⟨(),rfl,trivial⟩) (fun _ _=>⟨.inr (),by simp only [L65_1004160t,L65_1004160s0,L65_1004160s0r,rg_end,cond_false],rfl⟩) () trivial
 have hy':L65_1004160 (l,l,(l.length:Int),ofNat 0,())=some (.inr ()):=hy
 simp only [F65,bne_self_eq_false,cond_false,hy',bind_some]
theorem f103 (l:List Node) (hl:SmN l):F103 ((l,()),(l,()),())=some (true,()):=by
 obtain⟨y,hy,rfl⟩:=rng_hoare (st:=L103_1009856t) l.length (fun i (_:Unit)=>(l,l,(l.length:Int),(i:Int),())) (fun _ _=>True) (fun y=>y= .inr ()) (fun i _ h _=>by
  have h1:=f156 (l.getD i (dft sNode)).1 (by have:=hl.2 i h;omega)
  simp only [L103_1009856t,L103_1009856s0,L103_1009856s0r,rg_lt h,rg_in h,rg_ltn h,cond_true,toNat_natCast,beq_self_eq_true,h1,bind_some,Bool.not_true,cond_false]
  rw [rg_wrap (by have:=hl.1;omega)]
  exact .inl ⟨(),rfl,trivial⟩) (fun _ _=>⟨.inr (),by simp only [L103_1009856t,L103_1009856s0,L103_1009856s0r,rg_end,cond_false],rfl⟩) () trivial
 have hy':L103_1009856 (l,l,(l.length:Int),ofNat 0,())=some (.inr ()):=hy
 simp only [F103,bne_self_eq_false,cond_false,hy',bind_some]
theorem f64 (r:Run) (hr:SmR r):F64 (r,r,())=some (true,()):=by
 obtain⟨id,key,⟨ns,_⟩,st,ts,_⟩:=r
 have h1:=f103 ns hr.1
 have h2:=f104 ts (by have:=hr.2;simp only at this;omega)
 simp only [F64,beq_self_eq_true,cond_true,h1,h2,bind_some]
theorem f26 (ck nr nt nk ne ac:Int) (rs:List Run) (es:List Event) (hl:rs.length≤60) (hr:∀i:Nat,i<rs.length→SmR (rs.getD i (dft sRun))) (he:es.length≤60):F26 (mk ck nr nt nk ne ac rs es,mk ck nr nt nk ne ac rs es,())=some (true,()):=by
 obtain⟨y,hy,rfl⟩:=rng_hoare (st:=L26_1004032t) rs.length (fun i (_:Unit)=>(rs,rs,(rs.length:Int),(i:Int),())) (fun _ _=>True) (fun y=>y= .inr ()) (fun i _ h _=>by
  have h1:=f64 _ (hr i h)
  simp only [L26_1004032t,L26_1004032s0,rg_lt h,rg_in h,rg_ltn h,cond_true,toNat_natCast,h1,bind_some,Bool.not_true,cond_false]
  rw [rg_wrap (by omega)]
  exact .inl ⟨(),rfl,trivial⟩) (fun _ _=>⟨.inr (),by simp only [L26_1004032t,L26_1004032s0,rg_end,cond_false],rfl⟩) () trivial
 have hy':L26_1004032 (rs,rs,(rs.length:Int),ofNat 0,())=some (.inr ()):=hy
 have h2:=f65 es (by omega)
 simp only [F26,mk,beq_self_eq_true,cond_true,bne_self_eq_false,cond_false,hy',h2,bind_some]
theorem sm_r0:SmR r0_:=⟨⟨by decide,fun i h=>absurd h (not_lt_zero _)⟩,by decide⟩
theorem f29 (v:Int):F29 (errR v,errR v,())=some (true,()):=by
 have h1:F64 ((ofNat 0,{data:= #[]},([],()),ofNat 0,[],()),(ofNat 0,{data:= #[]},([],()),ofNat 0,[],()),())=some (true,()):=f64 _ sm_r0
 have h2:=f65 [] (by decide)
 simp only [F29,errR,beq_self_eq_true,cond_true,h1,h2,bind_some]
theorem f94 (r:Run) (hn:r.2.2.1.1.length≤9223372036854775807):∃b,F94 (r,())=some (b,()):=by
 obtain⟨b,hb,_⟩:=f45 r.2.2.1.1 hn
 have hb':F45 (r.2.2.1,())=some (b,()):=hb
 simp only [F94,hb',bind_some]
 cases b with
 |true=>exact⟨_,rfl⟩
 |false=>
  simp only [cond_false]
  cases decide (((r.2.2.2.2.1.length:Nat):Int)>ofNat 60)with
  |true=>exact⟨_,rfl⟩
  |false=>exact⟨_,rfl⟩
theorem f56 (rs:List Run) (hl:rs.length≤9223372036854775807) (hr:∀r∈rs,r.2.2.1.1.length≤9223372036854775807):∃b,F56 (rs,())=some (b,()):=by
 simp only [F56]
 cases decide (((rs.length:Nat):Int)>ofNat 60)with
 |true=>exact⟨_,rfl⟩
 |false=>
  obtain⟨y,hy,hq⟩:=rng_hoare (st:=L56_1003584t) rs.length (fun i (_:Unit)=>(rs,(i:Int),())) (fun _ _=>True) (fun y=>y= .inr ()∨y= .inl (true,())) (fun i _ h _=>by
   obtain⟨b,hb⟩:=f94 (rs.getD i (dft sRun)) (hr _ (getD_mem h _))
   simp only [L56_1003584t,L56_1003584s0,rg_lt h,rg_in h,rg_ltn h,cond_true,toNat_natCast,hb,bind_some]
   cases b with
   |true=>exact .inr ⟨_,rfl,.inr rfl⟩
   |false=>
    rw [rg_wrap (by omega)]
    exact .inl ⟨(),rfl,trivial⟩) (fun _ _=>⟨.inr (),by simp only [L56_1003584t,L56_1003584s0,rg_end,cond_false],.inl rfl⟩) () trivial
  have hy':L56_1003584 (rs,ofNat 0,())=some y:=hy
  simp only [cond_false,hy',bind_some]
  rcases hq with rfl|rfl
  ·exact⟨_,rfl⟩
  ·exact⟨_,rfl⟩
theorem f21 (s:State) (hl:s.2.2.2.2.2.2.1.length≤9223372036854775807) (hr:∀r∈s.2.2.2.2.2.2.1,r.2.2.1.1.length≤9223372036854775807):∃b,F21 (s,())=some (b,()):=by
 obtain⟨b,hb⟩:=f56 s.2.2.2.2.2.2.1 hl hr
 simp only [F21,hb,bind_some]
 cases b with
 |true=>exact⟨_,rfl⟩
 |false=>exact⟨_,rfl⟩
theorem f13 (c:Call) (hn:c.2.2.1.1.length≤9223372036854775807):∃b,F13 ([c],ofNat 1,())=some (b,()):=by
 obtain⟨b,hb,_⟩:=f45 c.2.2.1.1 hn
 have hb':F45 (c.2.2.1,())=some (b,()):=hb
 simp only [F13]
 rw [decide_eq_false (show¬((([c]:List Call).length:Nat):Int)>ofNat 1 by simp),cond_false]
 obtain⟨y,hy,hq⟩:=rng_hoare (st:=L13_1000832t) 1 (fun i (_:Unit)=>([c],(i:Int),())) (fun _ _=>True) (fun y=>y= .inr ()∨y= .inl (true,())) (fun i _ h _=>by
   obtain rfl:i=0:=by omega
   have h:0<([c]:List Call).length:=by simp
   have hg:([c]:List Call).getD 0 (dft sCall)=c:=rfl
   simp only [L13_1000832t,L13_1000832s0,rg_lt h,rg_in h,rg_ltn h,cond_true,toNat_natCast,hg,hb',bind_some]
   cases b with
   |true=>exact .inr ⟨_,rfl,.inr rfl⟩
   |false=>
    simp only [cond_false]
    cases decide (((c.2.1.size:Nat):Int)>ofNat 1000)with
    |true=>exact .inr ⟨_,rfl,.inr rfl⟩
    |false=>
     rw [rg_wrap (by simp)]
     exact .inl ⟨(),rfl,trivial⟩) (fun _ _=>⟨.inr (),by simp only [L13_1000832t,L13_1000832s0];rfl,.inl rfl⟩) () trivial
 have hy':L13_1000832 ([c],ofNat 0,())=some y:=hy
 simp only [hy',bind_some]
 rcases hq with rfl|rfl
 ·exact⟨_,rfl⟩
 ·exact⟨_,rfl⟩
theorem okr_d {r:Run} (h:OkD sRun r):OkR r∧r.2.2.1.1.length≤9223372036854775807:=by
 obtain⟨_,_,⟨⟨hn,hns⟩,_⟩,_,⟨ht,hts⟩,_⟩:=h
 refine⟨⟨fun nd hnd=>(hns nd hnd).1.1,ht,fun t h=> ?_⟩,hn⟩
 have h1:(Lit.int .u8 t.1).wf=true:=(hts t h).1
 simp only [Lit.wf,Bool.and_eq_true,decide_eq_true_eq]at h1
 exact h1.1
theorem sok_sm {s:State} (h:SOk s):s.2.2.2.2.2.2.1.length≤60∧(∀i:Nat,i<s.2.2.2.2.2.2.1.length→SmR (s.2.2.2.2.2.2.1.getD i (dft sRun)))∧s.2.2.2.2.2.2.2.1.length≤60:=
 ⟨by have:=h.fine.1;omega,fun i hi=>(smT_of (h.fine.2.chk i hi)).1,by have:=h.ev40;omega⟩
theorem same_s {s:State} (h:SOk s):F26 (s,s,())=some (true,()):=by
 obtain⟨h1,h2,h3⟩:=sok_sm h
 exact f26 _ _ _ _ _ _ _ _ h1 h2 h3
theorem same_z:F26 (zS,zS,())=some (true,()):=f26 _ _ _ _ _ _ _ _ (by decide) (fun i hi=>absurd hi (not_lt_zero _)) (by decide)
theorem pure:∀x:Den (.cons sState (.cons sCall .nil)),OkD (.cons sState (.cons sCall .nil)) x→∃y,F7 x=some y∧y.1=true:=by
 intro x hx
 obtain⟨s,c,_⟩:=x
 obtain⟨hs,hc,_⟩:=hx
 obtain⟨_,_,_,_,_,_,⟨hm,hrs⟩,_,_⟩:=hs
 obtain⟨_,_,⟨⟨hcn,hcs⟩,_⟩,_⟩:=hc
 have hr:∀r∈s.2.2.2.2.2.2.1,OkR r:=fun r h=>(okr_d (hrs r h)).1
 obtain⟨b1,hb1⟩:=f21 s hm fun r h=>(okr_d (hrs r h)).2
 obtain⟨b2,hb2⟩:=f13 c hcn
 obtain⟨v,hv,t,r,hdo,hq⟩:=do_ok s c hm hr fun nd hnd=>(hcs nd hnd).1.1
 have hA:all_ (sg_ (ofNat 0,{data:= #[]},([],()),ofNat 0,ofNat 0,ofNat 0,ofNat 0,ofNat 0,()) c)= [c]:=rfl
 have hx:F15 (s,c,())=F15 (s,c,PUnit.unit):=rfl
 refine⟨(true,()),?_,rfl⟩
 simp only [F7,alive,hb1,bind_some]
 cases b1 with
 |true=>rfl
 |false=>
 simp only [cond_false,hA,hb2,bind_some]
 cases b2 with
 |true=>rfl
 |false=>
 have hdo':F15 (s,c,PUnit.unit)=some (t,r,()):=hdo
 simp only [cond_false,Bool.not_true,hdo',hv,bind_some]
 rcases hq with⟨rfl,hso,hst,h40⟩|⟨⟨n,rfl⟩,_,rfl,rfl⟩
 ·rw [n00,cond_false]
  obtain⟨hsx,hg⟩:=stp_sx (sx_of hso) hst
  have hto:SOk t:=sok_of hsx h40
  by_cases hr0:r.1=0
  ·have hc0:=chk0 hto (by have:=hto.fine.1;omega) fun r h=>by
    obtain⟨j,hj,rfl⟩:=List.mem_iff_getElem.1 h
    rw [←getD_get hj (dft sRun)]
    exact rok_okr (hto.fine.2.chk j hj)
   rw [show(r.1 !=ofNat 0)=false by rw [hr0];rfl,cond_false]
   simp only [hc0,bind_some]
   rw [decide_eq_true hg.ck,decide_eq_true hg.nr,decide_eq_true hg.nt,decide_eq_true hg.nk,decide_eq_true hg.ne,decide_eq_true hg.ac]
   rfl
  ·rw [show(r.1 !=ofNat 0)=true by simpa using hr0,cond_true]
   have:t=s∧r=errR r.1:=by
    cases hst with
    |err n=>exact⟨rfl,rfl⟩
    |_=>exact absurd rfl hr0
   obtain⟨rfl,hre⟩:=this
   rw [same_s hso,bind_some,cond_true]
   have:=f29 r.1
   rw [←hre]at this
   have h29:F29 (r,(r.1,ofNat 0,ofNat 0,ofNat 0,r0_,[],()),())=some (true,()):=by
    have h3:=f29 r.1
    rw [show(r,(r.1,ofNat 0,ofNat 0,ofNat 0,r0_,[],()),())=(errR r.1,errR r.1,()) by rw [←hre];exact Prod.ext rfl (Prod.ext hre.symm rfl)]
    exact h3
   rw [h29,bind_some]
 ·have c0:(ofNat (n+1) !=ofNat 0)=true:=by simp;omega
  simp only [c0,cond_true,errR,beq_self_eq_true]
  have:=same_z
  simp only [zS]at this
  simp only [this,bind_some]
end Go.Proofs.YtbkjflfbgknagaaGreat.modelStays.Code
