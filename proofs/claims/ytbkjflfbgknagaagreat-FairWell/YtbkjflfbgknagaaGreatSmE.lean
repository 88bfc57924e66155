import Derived.Test.YtbkjflfbgknagaaGreatSmD
import Derived.Shelf.SlSortCmp.NoneTotal
import Derived.Shelf.SlicesE.Clone
set_option linter.constructorNameAsVariable false
set_option linter.unusedVariables false
set_option linter.unusedSimpArgs false
namespace Go.Am
section
variable {I:Nat→Prop} {M:MU} {w w':World} {h:List (Nat×BK)} {nx:Nat}
theorem Lm {rb o b:Nat} (hM:M b=some (some (rb,o))) {arr arr':Array Value} {t:TypeId} {fr:Nat×Nat} (hh:w.heap[rb]? =some (.cells arr t fr)) (hh':w'.heap[rb]? =some (.cells arr' t fr)) (hsz:arr'.size=arr.size)
  (e1:w'.os=w.os) (e2:w'.tape=w.tape) (e3:w'.output=w.output) (e4:w.heap.size≤w'.heap.size) (e6:w.drawn≤w'.drawn) (e5:∀b':Nat,b'≠rb→b'<w.heap.size→w'.heap[b']? =w.heap[b']?):Ev I M w I M w':=
 ⟨e1,e2,e3,e4,fun _ h=>h,fun _ h=>.inl h,fun b' hb ho=>e5 b' (fun e=>ho (e▸⟨b,o,hM⟩)) hb,fun b' hb=>by
  by_cases e:b'=rb
  ·subst e
   simp [World.shape?,hh,hh',hsz]
  ·simp [World.shape?,e5 b' e hb],fun _ _ h=>.inl h,fun _ h=>.inl h,e6⟩
theorem Is (hs:SimH I M h nx w) {rb o b sz:Nat} {es es':List (List AV)} {t':TypeId} (hk:aU h b= .rw false sz es t') (hM:M b=some (some (rb,o))) {arr arr':Array Value} {t:TypeId} {lo hi:Nat}
  (hh:w.heap[rb]? =some (.cells arr t (lo,hi))) (hh':w'.heap[rb]? =some (.cells arr' t (lo,hi))) (hsz:arr'.size=arr.size)
  (e4:w.heap.size≤w'.heap.size) (e5:∀b':Nat,b'≠rb→b'<w.heap.size→w'.heap[b']? =w.heap[b']?) (hev:Ev I M w I M w')
  (hl:∀e∈es',e.length=sz) (hc:∀(i:Nat) (e:List AV) (j:Nat) (c:AV),es'[i]? =some e→e[j]? =some c→∃u,arr'[o+i*sz+j]? =some u∧Rp I M0 w c u):SimH I M (put h b (.rw false sz es' t')) nx w':=by
 refine⟨fun b'=> ?_,hs.inj,hs.sep,fun rb' ho=>Nat.lt_of_lt_of_le (hs.bnd rb' ho) e4,fun b' hb=>Nat.lt_of_lt_of_le (hs.ibd b' hb) e4,hs.fr⟩
 rw [gW]
 by_cases eb:b=b'
 ·subst eb
  rw [if_pos rfl]
  obtain⟨rb',o',arr1,t1,lo1,hi1,g1,g2,g3,g4,g5,g6⟩:=(dS hs hk).row
  rw [hM]at g1
  simp only [Option.some.injEq,Prod.mk.injEq]at g1
  obtain⟨rfl,rfl⟩:=g1
  rw [hh]at g2
  simp only [Option.some.injEq,Obj.cells.injEq,Prod.mk.injEq]at g2
  obtain⟨rfl,rfl,rfl,rfl⟩:=g2
  refine⟨rb,o,arr',t,lo,hi,hM,hh',by rw [hsz];exact g3,fun hv=>(by cases hv),hl,fun i e j c hi' hj=> ?_⟩
  obtain⟨u,hu,hr⟩:=hc i e j c hi' hj
  exact⟨u,hu,hs.rp0 hev _ _ hr⟩
 ·rw [if_neg eb]
  refine(hs.blks b').go hs hev rfl fun rb' o' hb'=>e5 rb' (fun e1=>eb (hs.inj b b' rb o o' hM (e1▸hb'))) (hs.bnd rb' ⟨b',o',hb'⟩)
end
def cr:(s:Sh)→aL s→List AV
 | .i k,n=>[.int k n]
 | .b,x=>[.bl x]
 | .s,x=>[.st x]
 | .row _,_=>[]
 | .nil,_=>[]
 | .cons a c,x=>cr a x.1++cr c x.2
def dG:(s:Sh)→aL s→List Value
 | .i k,n=>[.int k n]
 | .b,x=>[.bool x]
 | .s,x=>[.string x]
 | .row _,_=>[]
 | .nil,_=>[]
 | .cons a c,x=>dG a x.1++dG c x.2
theorem qi:∀{s:Sh} (x:aL s),bX s=true→RE s x (cr s x)
 | .i k,n,_=>rfl
 | .b,n,_=>rfl
 | .s,n,_=>rfl
 | .row _,_,h=>by simp [bX]at h
 | .nil,_,_=>rfl
 | .cons a c,x,h=>by
  simp only [bX,Bool.and_eq_true]at h
  exact⟨cr a x.1,cr c x.2,rfl,qi x.1 h.1,qi x.2 h.2⟩
theorem An:∀{s:Sh} {x:aL s} {cs:List AV},bX s=true→RE s x cs→cs=cr s x
 | .i k,n,cs,_,h=>h
 | .b,n,cs,_,h=>h
 | .s,n,cs,_,h=>h
 | .row _,_,_,h,_=>by simp [bX]at h
 | .nil,_,cs,_,h=>h
 | .cons a c,x,cs,h,h2=>by
  simp only [bX,Bool.and_eq_true]at h
  obtain⟨l1,l2,rfl,h3,h4⟩:=h2
  rw [An h.1 h3,An h.2 h4]
  rfl
theorem fJ:∀{s:Sh} (x:aL s),bX s=true→(cr s x).length=s.sz
 | .i k,n,_=>rfl
 | .b,n,_=>rfl
 | .s,n,_=>rfl
 | .row _,_,h=>by simp [bX]at h
 | .nil,_,_=>rfl
 | .cons a c,x,h=>by
  simp only [bX,Bool.and_eq_true]at h
  simp [cr,Sh.sz,fJ x.1 h.1,fJ x.2 h.2]
theorem nK {I:Nat→Prop} {M:MU} {w:World}:∀{s:Sh} (x:aL s),bX s=true→All2 (Rp I M w) (cr s x) (dG s x)
 | .i k,n,_=>.cons (.int k n) .nil
 | .b,n,_=>.cons (.bl n) .nil
 | .s,n,_=>.cons (.st n) .nil
 | .row _,_,h=>by simp [bX]at h
 | .nil,_,_=>.nil
 | .cons a c,x,h=>by
  simp only [bX,Bool.and_eq_true]at h
  exact(nK x.1 h.1).append (nK x.2 h.2)
theorem yx {α β:Type} {R:α→β→Prop}:∀{l0 cs:List α} {bs:List β},All2 R (l0++cs) bs→∃l1 l2,bs=l1++l2∧All2 R l0 l1∧All2 R cs l2
 | [],_,bs,h=>⟨[],bs,rfl,.nil,h⟩
 |_::l0,_,_,h=>by
  cases h with
  |cons h1 h2=>
   obtain⟨l1,l2,rfl,h3,h4⟩:=yx h2
   exact⟨_::l1,l2,rfl,.cons h1 h3,h4⟩
theorem EM {I:Nat→Prop} {M:MU} {w:World}:∀{s:Sh} {x:aL s} {vs:List Value},bX s=true→All2 (Rp I M w) (cr s x) vs→vs=dG s x
 | .i k,n,vs,_,h=>by cases h with|cons h1 h2=>cases h2;cases h1;rfl
 | .b,n,vs,_,h=>by cases h with|cons h1 h2=>cases h2;cases h1;rfl
 | .s,n,vs,_,h=>by cases h with|cons h1 h2=>cases h2;cases h1;rfl
 | .row _,_,_,h,_=>by simp [bX]at h
 | .nil,_,vs,_,h=>by cases h;rfl
 | .cons a c,x,vs,h,h2=>by
  simp only [bX,Bool.and_eq_true]at h
  obtain⟨l1,l2,rfl,h3,h4⟩:=yx h2
  rw [EM h.1 h3,EM h.2 h4]
  rfl
theorem xy:∀{s:Sh} (x:aL s),∀v∈dG s x,v.oneCell'=true
 | .i k,n,v,h=>by simp [dG]at h;subst h;rfl
 | .b,n,v,h=>by simp [dG]at h;subst h;rfl
 | .s,n,v,h=>by simp [dG]at h;subst h;rfl
 | .row _,_,v,h=>by simp [dG]at h
 | .nil,_,v,h=>by simp [dG]at h
 | .cons a c,x,v,h=>by
  simp only [dG,List.mem_append]at h
  rcases h with h|h
  ·exact xy x.1 v h
  ·exact xy x.2 v h
open Go.Proofs Go.Shelf Go.RowKit Go.Lib Go.Sort
instance (s:Sh):Inhabited (aL s):=⟨aa s⟩
abbrev Us (s:Sh) (F:aL (.cons s (.cons s .nil))→Option (aL (.cons (.i .i64) .nil))):Ctr:=
 ⟨.cons s (.cons s .nil),.cons (.i .i64) .nil,[(true,s.sz),(true,s.sz)],[(false,1)],[],F⟩
theorem It {w w':World} (h1:w'.os=w.os) (h2:w'.tape=w.tape) (h3:w'.output=w.output) (h4:w.heap.size≤w'.heap.size) (h5:∀b:Nat,b<w.heap.size→w'.heap[b]? =w.heap[b]?) (h6:w.drawn≤w'.drawn):
  ∃q os',w'=grow (w.drewN q) os':=by
 refine⟨w'.drawn-w.drawn,w'.heap.extract w.heap.size w'.heap.size,?_⟩
 obtain⟨hp,tp,dr,os,ou⟩:=w'
 simp only at h1 h2 h3 h4 h5 h6
 subst h1 h2 h3
 unfold grow World.drewN
 simp only [World.mk.injEq,true_and,and_true]
 refine⟨?_,by omega⟩
 apply Array.ext_getElem?
 intro k
 rw [Array.getElem?_append]
 split
 ·rename_i hk
  exact h5 k hk
 ·rename_i hk
  rw [Array.getElem?_extract]
  split
  ·congr 1;omega
  ·rw [Array.getElem?_eq_none];omega
theorem Nc {P:Program} {c:FuncId} {s:Sh} (hsc:bX s=true) {F:aL (.cons s (.cons s .nil))→Option (aL (.cons (.i .i64) .nil))} (hc:az P c (Us s F)) (cf:aL s→aL s→Int) (hF:∀x y,F (x,y,())=some (cf x y,()))
  (rb off size:Nat) (w:World):CmpLays P c #[] (dG s) s.sz cf rb off size w:=by
 intro m os dk _ x y
 generalize sortWorldK (dG s) s.sz w rb off m dk os=W
 obtain⟨_,r,hr,hrr⟩:=hc [.ag (cr s x),.ag (cr s y)] (x,y,()) (cf x y,()) (by simp [bC,fJ x hsc,fJ y hsc]) ⟨cr s x,_,rfl,qi x hsc,cr s y,[],rfl,qi y hsc,rfl⟩ (hF x y)
 obtain⟨v,hv,hk⟩:=hrr SV [] (fun v=>some v) (.a (.int .i64 (cf x y))) rfl
 injection hk with hk
 subst hk
 have hw2:r= .int .i64 (cf x y):=hv.1.1.symm
 subst hw2
 refine(hr (iW W) W _ (fun _ h=>h) (.cons (?_:RpV (iW W) M0 W (.ag (cr s x)) (.agg (dG s x).toArray)) (.cons (?_:RpV (iW W) M0 W (.ag (cr s y)) (.agg (dG s y).toArray)) .nil))).mono fun e W' he=> ?_
 ·exact⟨_,rfl,nK x hsc⟩
 ·exact⟨_,rfl,nK y hsc⟩
 cases e with
 |returned v=>
  obtain⟨I',h1,h2,h3,h4,h5,h6,h7,h8,h9⟩:=he
  obtain⟨Mn,_,_,_,hr⟩:=h8 0
  have hr':Rp I' Mn W' (.int .i64 (cf x y)) v:=hr
  cases hr'
  exact⟨rfl,It h1 h2 h3 h4 h5 h9⟩
 |panicked c=>exact he.elim
 |outgrown=>exact he.elim
theorem Ao {I:Nat→Prop} {M:MU} {w:World}:∀{s:Sh} {x:aL s} {q:Nat} {c:AV} {u:Value},bX s=true→(cr s x)[q]? =some c→Rp I M w c u→(dG s x)[q]? =some u
 | .i k,n,q,c,u,_,h,hr=>by
  cases q with
  |zero=>simp [cr]at h;subst h;cases hr;rfl
  |succ q=>simp [cr]at h
 | .b,n,q,c,u,_,h,hr=>by
  cases q with
  |zero=>simp [cr]at h;subst h;cases hr;rfl
  |succ q=>simp [cr]at h
 | .s,n,q,c,u,_,h,hr=>by
  cases q with
  |zero=>simp [cr]at h;subst h;cases hr;rfl
  |succ q=>simp [cr]at h
 | .row _,_,_,_,_,h,_,_=>by simp [bX]at h
 | .nil,_,q,c,u,_,h,_=>by simp [cr]at h
 | .cons a d,x,q,c,u,h,h2,hr=>by
  simp only [bX,Bool.and_eq_true]at h
  simp only [cr,dG]at h2⊢
  have hl:(cr a x.1).length=(dG a x.1).length:=(nK (I:=I) (M:=M) (w:=w) x.1 h.1).length
  rw [List.getElem?_append]at h2⊢
  rw [←hl]
  split at h2
  ·rename_i hq
   rw [if_pos hq]
   exact Ao h.1 h2 hr
  ·rename_i hq
   rw [if_neg hq]
   exact Ao h.2 h2 hr
theorem Nd {s:Sh} (x:aL s) (hsc:bX s=true):(dG s x).length=s.sz:=by
 rw [←(nK (I:=fun _=>False) (M:=M0) (w:=⟨#[],fun _ _=>0,0,default,#[]⟩) x hsc).length,fJ x hsc]
theorem Ln {s:Sh} (hsc:bX s=true):∀{ts:List (aL s)} {es:List (List AV)},All2 (RE s) ts es→es=ts.map (cr s)
 | [],_,h=>by cases h;rfl
 |t::ts,_,h=>by
  cases h with
  |cons h1 h2=>rw [An hsc h1,Ln hsc h2];rfl
theorem Lo {s:Sh} (hsc:bX s=true):∀(ts:List (aL s)),All2 (RE s) ts (ts.map (cr s))
 | []=>.nil
 |t::ts=>.cons (qi t hsc) (Lo hsc ts)
def Ap {s:Sh} (F:aL (.cons s (.cons s .nil))→Option (aL (.cons (.i .i64) .nil))) (x y:aL s):Int:=match F (x,y,())with
 |some r=>r.1
 |none=>0
def rm {s:Sh} (cf:aL s→aL s→Int) (ts:List (aL s)):Option (List (aL s)):=
 if ts.length<4611686018427387904 then some (pdq (ltOf cf) ts.toArray 0 ts.toArray.size (Lib.bitLen ts.toArray.size) true true).toList else none
section
variable {I:Nat→Prop} {M:MU} {w:World} {h:List (Nat×BK)} {nx:Nat}
theorem row_holds (hs:SimH I M h nx w) {s:Sh} (hsc:bX s=true) {b rb o:Nat} {t:TypeId} {ts:List (aL s)} (hk:aU h b= .rw false s.sz (ts.map (cr s)) t) (hM:M b=some (some (rb,o))):
  HoldsK (dG s) s.sz w rb o ts.toArray:=by
 obtain⟨rb',o',arr,t',lo,hi,g1,g2,g3,g4,g5,g6⟩:=(dS hs hk).row
 rw [hM]at g1
 simp only [Option.some.injEq,Prod.mk.injEq]at g1
 obtain⟨rfl,rfl⟩:=g1
 intro j hj
 rw [size_flatK]at hj
 simp only [List.size_toArray]at hj
 have hk0:0<s.sz:=by
  rcases Nat.eq_zero_or_pos s.sz with h0|h0
  ·rw [h0]at hj;omega
  ·exact h0
 have hi1:j/s.sz<ts.length:=Nat.div_lt_of_lt_mul (by rwa [Nat.mul_comm])
 have hq:j % s.sz<s.sz:=Nat.mod_lt _ hk0
 have he:(ts.map (cr s))[j/s.sz]? =some (cr s ts[j/s.sz]):=by simp [hi1]
 have hql:j % s.sz<(cr s ts[j/s.sz]).length:=by rw [fJ _ hsc];exact hq
 obtain⟨u,hu,hr⟩:=g6 _ _ (j % s.sz) _ he (List.getElem?_eq_getElem hql)
 have hidx:o+j/s.sz*s.sz+j % s.sz=o+j:=by
  have:=Nat.div_add_mod j s.sz
  rw [Nat.mul_comm]at this
  omega
 rw [hidx]at hu
 have hw:=Ao hsc (List.getElem?_eq_getElem hql) hr
 have hsz:o+j<arr.size:=(Array.getElem?_eq_some_iff.1 hu).1
 refine⟨?_,?_⟩
 ·simp only [World.cell?,g2]
  rw [get_flatK _ _ _ _ (by simpa using hj)]
  simp only [Option.isSome_none,Bool.false_eq_true,if_false,hu,id]
  have e1:ts.toArray[j/s.sz]! =ts[j/s.sz]:=by simp [hi1]
  rw [e1]
  congr 1
  obtain⟨hlt,hv⟩:=List.getElem?_eq_some_iff.1 hw
  rw [←hv,List.getElem!_eq_getElem?_getD,List.getElem?_eq_getElem hlt]
  rfl
 ·simp only [World.frozen?,g2]
  rcases g3 with g3|g3
  ·simp;omega
  ·simp;omega
theorem Iu (hs:SimH I M h nx w) {s:Sh} (hsc:bX s=true) {b rb o:Nat} {t:TypeId} {ts ts':List (aL s)} (hlen:ts'.length=ts.length) (hk:aU h b= .rw false s.sz (ts.map (cr s)) t) (hM:M b=some (some (rb,o))) (n:Nat) (os:Array Obj):
  Did I M nx w ⟨.tp [],put h b (.rw false s.sz (ts'.map (cr s)) t),nx⟩ false (.tuple #[]) I M (sortWorldK (dG s) s.sz w rb o n ts'.toArray os):=by
 obtain⟨rb',o',arr,t',lo,hi,g1,g2,g3,g4,g5,g6⟩:=(dS hs hk).row
 rw [hM]at g1
 simp only [Option.some.injEq,Prod.mk.injEq]at g1
 obtain⟨rfl,rfl⟩:=g1
 have hrb:rb<w.heap.size:=(Array.getElem?_eq_some_iff.1 g2).1
 have hself:(sortWorldK (dG s) s.sz w rb o n ts'.toArray os).heap[rb]? =some (.cells (putCells id o (flatK (dG s) s.sz ts'.toArray) arr) t' (lo,hi)):=by
  simp only [sortWorldK,grow,putRowK,putRow,mapBlock,Sort.ahead]
  rw [Array.getElem?_append,if_pos (by simpa using hrb),Array.getElem?_modify,if_pos rfl,g2]
  rfl
 have hoth:∀b':Nat,b'≠rb→b'<w.heap.size→(sortWorldK (dG s) s.sz w rb o n ts'.toArray os).heap[b']? =w.heap[b']? :=fun b' hb hl=>by
  simp only [sortWorldK,grow,putRowK,putRow,mapBlock,Sort.ahead]
  rw [Array.getElem?_append,if_pos (by simpa using hl),Array.getElem?_modify,if_neg (Ne.symm hb)]
 have hsize:w.heap.size≤(sortWorldK (dG s) s.sz w rb o n ts'.toArray os).heap.size:=by
  simp [sortWorldK,grow,putRowK,putRow,mapBlock,Sort.ahead]
 have hps:(putCells id o (flatK (dG s) s.sz ts'.toArray) arr).size=arr.size:=by simp [putCells]
 have hev:Ev I M w I M (sortWorldK (dG s) s.sz w rb o n ts'.toArray os):=Lm hM g2 hself hps rfl rfl rfl hsize (by show w.drawn≤w.drawn+n;omega) hoth
 refine⟨hev,Is hs hk hM g2 hself hps hsize hoth hev (fun e he=> ?_) (fun i e j c he hj=> ?_),⟨#[],rfl,.nil⟩,fun h=>by cases h⟩
 ·obtain⟨x,_,rfl⟩:=List.mem_map.1 he
  exact fJ x hsc
 ·rw [List.getElem?_map]at he
  obtain⟨x,hx,rfl⟩:=Option.map_eq_some_iff.1 he
  have hi1:i<ts'.length:=(List.getElem?_eq_some_iff.1 hx).1
  have hjl:j<s.sz:=by
   have:=(List.getElem?_eq_some_iff.1 hj).1
   rwa [fJ x hsc]at this
  have hk0:0<s.sz:=by omega
  obtain⟨u,hu,hr⟩:=(nK (I:=I) (M:=M0) (w:=w) x hsc).get _ _ hj
  have he2:(ts.map (cr s))[i]? =some (cr s (ts[i]'(by omega))):=by simp [show i<ts.length by omega]
  have hql:j<(cr s (ts[i]'(by omega))).length:=by rw [fJ _ hsc];exact hjl
  obtain⟨u0,hu0,_⟩:=g6 _ _ j _ he2 (List.getElem?_eq_getElem hql)
  refine⟨u,?_,hr⟩
  have hlt2:i*s.sz+j<ts'.length*s.sz:=by
   have:=Nat.mul_le_mul_right s.sz (show i+1≤ts'.length from hi1)
   rw [Nat.add_mul]at this;omega
  simp only [putCells,Array.getElem?_mapIdx,hu0,Option.map_some]
  rw [if_pos ⟨by omega,by rw [size_flatK];simp only [List.size_toArray];omega⟩]
  rw [show o+i*s.sz+j-o=i*s.sz+j by omega,get_flatK _ _ _ _ (by simpa using hlt2)]
  have e1:(i*s.sz+j)/s.sz=i:=by rw [Nat.mul_comm,Nat.mul_add_div hk0,Nat.div_eq_of_lt hjl];rfl
  have e2:(i*s.sz+j) % s.sz=j:=by rw [Nat.mul_comm,Nat.mul_add_mod,Nat.mod_eq_of_lt hjl]
  rw [e1,e2]
  have e3:ts'.toArray[i]! =x:=by
   obtain⟨h1,h2⟩:=List.getElem?_eq_some_iff.1 hx
   simp [h1,h2]
  rw [e3]
  obtain⟨hlt,hv⟩:=List.getElem?_eq_some_iff.1 hu
  rw [List.getElem!_eq_getElem?_getD,List.getElem?_eq_getElem hlt,←hv]
  rfl
end
theorem SO {s:Sh} {cf:aL s→aL s→Int} (hO:SWO (ltOf cf)) {ts ts':List (aL s)} (h:rm cf ts=some ts'):ts'.length=ts.length:=by
 unfold rm at h
 split at h
 ·injection h with h
  subst h
  have:=(pdq_sorts (ltOf cf) hO ts.toArray 0 ts.toArray.size (Lib.bitLen ts.toArray.size) true true (Nat.zero_le _) (Nat.le_refl _) (Or.inl rfl)).1.1
  simpa using this
 ·cases h
theorem SP {P:Program} {ρ:Ren} (L:SlLaysF0.n6 P ρ) (he:mO P (ρ.f 6)) {s:Sh} (hsc:bX s=true) (aE:∀w,(isAgg (ρ.t 24)).run P w= .ok true w) (zE:∀w,(Go.sizeOf (ρ.t 24)).run P w= .ok s.sz w)
  (cf:aL s→aL s→Int) (hO:SWO (ltOf cf)) {c:FuncId} (hcB:c<nw) (eg:∀args w,(callFunc c args).run P w= .ok (.enter c args) w)
  {F:aL (.cons s (.cons s .nil))→Option (aL (.cons (.i .i64) .nil))} (hc:az P c (Us s F)) (hF:∀x y,F (x,y,())=some (cf x y,())):StOk P (ρ.f 6) ⟨s,c,rm cf⟩ where
 row:=by
  intro h nx b t ts es ts' hb hts hsort
  refine⟨ts'.map (cr s),Lo hsc ts',?_⟩
  obtain rfl:=Ln hsc hts
  have hlen:=SO hO hsort
  intro I M w vals hs ha
  refine⟨he,fun R hR=> ?_⟩
  obtain⟨v0,vr,hv0,ha1,ha2⟩:∃v0 vr,vals.toList=v0::vr∧RpV I M w (.sl s.sz b 0 (ts.map (cr s)).length) v0∧All2 (RpV I M w) [.fn c []] vr:=by
   generalize vals.toList=l at ha
   cases ha with
   |cons h1 h2=>exact⟨_,_,rfl,h1,h2⟩
  obtain⟨v1,rfl,ha3⟩:∃v1,vr= [v1]∧RpV I M w (.fn c []) v1:=by
   cases ha2 with
   |cons h1 h2=>cases h2;exact⟨_,rfl,h1⟩
  obtain rfl:vals= #[v0,v1]:=by
   cases vals;simp at hv0;simp [hv0]
  obtain⟨rb,o,arr,t',lo,hi,g1,g2,g3,g4,g5,g6⟩:=(dS hs hb).row
  have ha1':Rp I M w (.sl s.sz b 0 (ts.map (cr s)).length) v0:=ha1
  have ha3':Rp I M w (.fn c []) v1:=ha3
  obtain rfl:v1= .func (.func c) #[] #[]:=by
   cases ha3' with
   |fn f caps vs hl hr f' fs us hk=>
    have hvs:vs= #[]:=by
     obtain⟨l⟩:=vs
     have hl:0=l.length:=hl
     rw [List.eq_nil_of_length_eq_zero hl.symm]
    subst hvs
    rcases hk with⟨_,rfl,rfl,rfl⟩|⟨h,_⟩
    ·rfl
    ·exact absurd (Nat.lt_of_lt_of_le hcB h) (Nat.lt_irrefl _)
  rw [List.length_map]at ha1'
  cases ha1' with
  |slD _ _ _ _ _ hM hv=>rw [g1]at hM;simp at hM
  |sl sz b lo len rb' o' cap ad t'' n hM hlc had hsh hn=>
   rw [g1]at hM
   simp only [Option.some.injEq,Prod.mk.injEq]at hM
   obtain⟨rfl,rfl⟩:=hM
   have hsort:rm cf ts=some ts':=hsort
   unfold rm at hsort
   split at hsort
   ·rename_i hsz
    injection hsort with hsort
    rcases Nat.eq_zero_or_pos ts.length with h0|h0
    ·rw [h0]
     have ht0:ts= []:=List.eq_nil_of_length_eq_zero h0
     have ht1:ts'= []:=List.eq_nil_of_length_eq_zero (by rw [hlen,h0])
     refine(AnyF.slices_SortFunc_none L (some ad) cap (.func (.func c) #[] #[]) w).mono fun e w' ⟨h1,h2⟩=> ?_
     subst h1
     rw [h2]
     refine hR _ I M w ⟨Ev.refl I M w,?_,⟨#[],rfl,.nil⟩,fun h=>by cases h⟩
     refine⟨fun b'=> ?_,hs.inj,hs.sep,hs.bnd,hs.ibd,hs.fr⟩
     rw [gW]
     by_cases eb:b=b'
     ·subst eb;rw [if_pos rfl,ht1];rw [ht0]at hb;exact dS hs hb
     ·rw [if_neg eb];exact hs.blks b'
    ·rw [had (by omega)]
     have hH:=row_holds hs hsc hb g1
     have hS:=AnyQ.slices_SortFunc_eq L s.sz aE zE (dG s) (fun x=>Nd x hsc) xy cf hO c #[] rb o cap ts.toArray w eg (Nc hsc hc cf hF rb o ts.toArray.size w) hH (Array.getElem?_eq_some_iff.1 g2).1 (by simpa using hsz)
     rw [Nat.zero_mul,Nat.add_zero]
     refine Calls.mono (by simpa using hS) fun e w' h1=> ?_
     obtain⟨h1,n,os,h2⟩:=h1
     subst h1
     have hD:=Iu hs hsc hlen hb g1 n os
     rw [←hsort]at hD
     refine hR _ I M w' ?_
     rw [h2]
     rw [←hsort]
     simpa using hD
   ·cases hsort
 nor:=by
  intro h nx I M w vals hs ha
  refine⟨he,fun R hR=> ?_⟩
  obtain⟨v0,v1,hv,ha1⟩:∃v0 v1,vals.toList= [v0,v1]∧RpV I M w .ns v0:=by
   generalize vals.toList=l at ha
   cases ha with
   |cons h1 h2=>
    cases h2 with
    |cons h3 h4=>cases h4;exact⟨_,_,rfl,h1⟩
  obtain rfl:vals= #[v0,v1]:=by cases vals;simp at hv;simp [hv]
  have ha1':Rp I M w .ns v0:=ha1
  cases ha1'
  refine(AnyF.slices_SortFunc_none L none 0 v1 w).mono fun e w' ⟨h1,h2⟩=> ?_
  subst h1
  rw [h2]
  exact hR _ I M w ⟨Ev.refl I M w,hs,⟨#[],rfl,.nil⟩,fun h=>by cases h⟩
section
open Go.Sort Go.Proofs
theorem Lp {s:Sh} {cf:aL s→aL s→Int} (hO:SWO (ltOf cf)) (ts:List (aL s)) (hl:ts.length<4611686018427387904):
  ∃ts',rm cf ts=some ts'∧ts'.Perm ts∧ts'.Pairwise (fun x y=>ltOf cf y x=false):=by
 have h:=pdq_sorts (ltOf cf) hO ts.toArray 0 ts.toArray.size (Lib.bitLen ts.toArray.size) true true (Nat.zero_le _) (Nat.le_refl _) (Or.inl rfl)
 refine⟨_,if_pos hl,?_,?_⟩
 ·have h1:=h.1.2.2
  have hs:=h.1.1
  have e1:(pdq (ltOf cf) ts.toArray 0 ts.toArray.size (Lib.bitLen ts.toArray.size) true true).extract 0 ts.toArray.size=pdq (ltOf cf) ts.toArray 0 ts.toArray.size (Lib.bitLen ts.toArray.size) true true:=by
   have:∀a:Array (aL s),a.size=ts.toArray.size→a.extract 0 ts.toArray.size=a:=fun a ha=>by rw [←ha];simp
   exact this _ hs
  rw [e1]at h1
  simpa using h1
 ·have h2:=h.2
  have hs:=h.1.1
  generalize pdq (ltOf cf) ts.toArray 0 ts.toArray.size (Lib.bitLen ts.toArray.size) true true=d at h2 hs
  rw [List.pairwise_iff_getElem]
  intro i j hi hj hij
  have:=h2 i j (Nat.zero_le _) hij (by rw [←hs];simpa using hj)
  have g:∀k (hk:k<d.toList.length),d[k]! =d.toList[k]:=fun k hk=>by
   rw [getElem!_pos d k (by simpa using hk)];rfl
  rw [g _ hi,g _ hj]at this
  exact this
end
section
variable {X Y:Type} {st:X→Option (X⊕Y)}
theorem wG (m:X→Nat) (Inv:X→Prop) (Q:Y→Prop) (h:∀x,Inv x→(∃x',st x=some (.inl x')∧Inv x'∧m x'<m x)∨(∃y,st x=some (.inr y)∧Q y)):∀x,Inv x→∃y,aZ st x=some y∧Q y:=by
 intro x
 generalize hn:m x=n
 induction n using Nat.strongRecOn generalizing x with
 |_ n ih=>
  intro hx
  rcases h x hx with⟨x',h1,h2,h3⟩|⟨y,h1,h2⟩
  ·obtain⟨y,h4,h5⟩:=ih (m x') (by omega) x' rfl h2
   exact⟨y,by rw [cC,h1];exact h4,h5⟩
  ·exact⟨y,by rw [cC,h1],h2⟩
variable {T A:Type}
def lJ (g:Nat→T→A→A⊕Y) (fin:A→Y):Nat→List T→A→Y
 |_,[],a=>fin a
 |i,t::ts,a=>match g i t a with
  | .inl a'=>lJ g fin (i+1) ts a'
  | .inr y=>y
theorem yy (ts:List T) (d:T) (mk:Nat→A→X) (fin:A→Y) (g:Nat→T→A→A⊕Y)
  (h1:∀i a,i<ts.length→st (mk i a)=some (match g i (ts.getD i d) a with| .inl a'=>.inl (mk (i+1) a')| .inr y=>.inr y))
  (h2:∀a,st (mk ts.length a)=some (.inr (fin a))):∀(n i:Nat) (a:A),i+n=ts.length→aZ st (mk i a)=some (lJ g fin i (ts.drop i) a)
 |0,i,a,h=>by
  have:i=ts.length:=by omega
  subst this
  rw [cC,h2,List.drop_length]
  rfl
 |n+1,i,a,h=>by
  have hi:i<ts.length:=by omega
  rw [cC,h1 i a hi,List.drop_eq_getElem_cons hi]
  have hd:ts.getD i d=ts[i]:=by rw [List.getD_eq_getElem?_getD,List.getElem?_eq_getElem hi];rfl
  rw [hd]
  simp only [lJ]
  cases hg:g i ts[i] a with
  |inl a'=>simp only;exact yy ts d mk fin g h1 h2 n (i+1) a' (by omega)
  |inr y=>rfl
theorem wH (ts:List T) (d:T) (mk:Nat→A→X) (fin:A→Y) (g:Nat→T→A→A⊕Y)
  (h1:∀i a,i<ts.length→st (mk i a)=some (match g i (ts.getD i d) a with| .inl a'=>.inl (mk (i+1) a')| .inr y=>.inr y))
  (h2:∀a,st (mk ts.length a)=some (.inr (fin a))) (a:A):aZ st (mk 0 a)=some (lJ g fin 0 ts a):=by
 have:=yy ts d mk fin g h1 h2 ts.length 0 a (by omega)
 rwa [List.drop_zero]at this
end
theorem bz {i n:Nat} (h:i<n):decide ((i:Int)<(n:Int))=true:=by simp [h]
theorem bu {n:Nat}:decide ((n:Int)<(n:Int))=false:=by simp
theorem aP {i n:Nat} (h:i<n):ah 0 (i:Int) ((n:Int)-1)=true:=by simp [ah];omega
theorem Lq {i n:Nat} (h:i<n):decide ((i:Int).toNat<n)=true:=by simp [h]
theorem uB {a:Int} (h1: -9223372036854775808≤a) (h2:a<9223372036854775807):IntKind.i64.wrap (a+Int.ofNat 1)=a+1:=by
 unfold IntKind.wrap
 simp [IntKind.bits,IntKind.signed]
 omega
theorem aX {i:Nat} (h:i<9223372036854775807):IntKind.i64.wrap ((i:Int)+Int.ofNat 1)=((i+1:Nat):Int):=by
 rw [uB (by omega) (by omega)];rfl
theorem aH {i n:Nat} (h:i<n):decide (i<n)=true:=decide_eq_true h
theorem aF (n:Nat):Int.ofNat n=(n:Int):=rfl
theorem EN {X Y A:Type} (b:Bool) (f:A→X) (a1 a2:A⊕Y) {p q:Option (X⊕Y)} (h1:b=true→p=some (match a1 with| .inl a'=>.inl (f a')| .inr y=>.inr y)) (h2:b=false→q=some (match a2 with| .inl a'=>.inl (f a')| .inr y=>.inr y)):
  (bif b then p else q)=some (match (bif b then a1 else a2)with| .inl a'=>.inl (f a')| .inr y=>.inr y):=by
 cases b
 ·exact h2 rfl
 ·exact h1 rfl
theorem ba {X Y A:Type} {st:X→Option (X⊕Y)} (n:Nat) (mk:Nat→A→X) (Inv:Nat→A→Prop) (Q:Y→Prop)
  (h1:∀i a,i<n→Inv i a→(∃a',st (mk i a)=some (.inl (mk (i+1) a'))∧Inv (i+1) a')∨(∃y,st (mk i a)=some (.inr y)∧Q y))
  (h2:∀a,Inv n a→∃y,st (mk n a)=some (.inr y)∧Q y) (a:A) (h:Inv 0 a):∃y,aZ st (mk 0 a)=some y∧Q y:=by
 have go:∀(m i:Nat) (a:A),i+m=n→Inv i a→∃y,aZ st (mk i a)=some y∧Q y:=by
  intro m
  induction m with
  |zero=>
   intro i a hi hv
   have:i=n:=by omega
   subst this
   obtain⟨y,h3,h4⟩:=h2 a hv
   exact⟨y,by rw [cC,h3],h4⟩
  |succ m ih=>
   intro i a hi hv
   rcases h1 i a (by omega) hv with⟨a',h3,h4⟩|⟨y,h3,h4⟩
   ·obtain⟨y,h5,h6⟩:=ih (i+1) a' (by omega) h4
    exact⟨y,by rw [cC,h3];exact h5,h6⟩
   ·exact⟨y,by rw [cC,h3],h4⟩
 exact go n 0 a (by omega) h
theorem aD {α:Type} {l:List α} {i:Nat} (h:i<l.length) (d:α):l.getD i d∈l:=by
 rw [List.getD_eq_getElem?_getD,List.getElem?_eq_getElem h];exact List.getElem_mem h
theorem bD {α:Type} {l:List α} {i:Nat} (h:i<l.length) (d:α):l.getD i d=l[i]:=by
 rw [List.getD_eq_getElem?_getD,List.getElem?_eq_getElem h];rfl
theorem iK {α:Type} {l:List α} {i:Nat} (h:i<l.length) (d:α) {t:α} (ht:t∈l.take (i+1)):t∈l.take i∨t=l.getD i d:=by
 rw [List.take_succ_eq_append_getElem h]at ht
 rcases List.mem_append.1 ht with ht|ht
 ·exact .inl ht
 ·exact .inr (by rw [bD h];simpa using ht)
end Go.Am
namespace Go.Proofs
open Go.Shelf Go.RowKit Go.Lib
variable {P:Program} {ρ:Ren}
theorem Aq (w:World) {o:Oper} {a:Act} {K:Act→World→Prop} {Q:Exit→Act→World→Prop} (d s:Operand) (t t':TypeId)
  (ho:o.op= .call {callee:=.builtin .append,args:= #[d,s],argTypes:= #[t,t']}) (v u:Value) (hd:a.eval d=v) (hs:a.eval s=u) {v':Value} {w':World}
  (hr:(Builtin.append_ #[t,t'] o.type #[v,u]).run P w= .ok v' w') (h:K (a.put o.dst v') w'):o.wp P a w K Q:=by
 unfold Oper.wp execOp
 simp only [ho,resolve,invoke,builtin,Sem.run_bind,Sem.run_pure,Result.andThen_ok,List.map_toArray,List.map_cons,List.map_nil,hd,hs,hr]
 exact h
theorem uC (w:World) {ops:Array Oper} {rest:List Oper} {o:Oper} {a:Act} {Q:Exit→Act→World→Prop} (hgd:o.guard=none) (d s:Operand) (t t':TypeId)
  (ho:o.op= .call {callee:=.builtin .append,args:= #[d,s],argTypes:= #[t,t']}) (v u:Value) (hd:a.eval d=v) (hs:a.eval s=u) {v':Value} {w':World}
  (hr:(Builtin.append_ #[t,t'] o.type #[v,u]).run P w= .ok v' w') (h:wpList P ops Q rest (a.put o.dst v') w'):wpList P ops Q (o::rest) a w:=
 wpList_plain hgd fun _ hK=>Aq w d s t t' ho v u hd hs hr (hK _ _ h)
set_option maxHeartbeats 2000000 in
set_option maxRecDepth 100000 in
theorem AnyE.slices_Clone_zero (L:SlLaysE0.n41 P ρ) (i0:TypeInfo) (hi:P.info? (ρ.t 23)=some i0) (size:Nat) (z23:∀w,(Go.sizeOf (ρ.t 23)).run P w= .ok size w) (a:Addr) (c:Nat) (w:World):
  Calls P (ρ.f 41) #[.slice (some a) 0 c] w fun e w'=>(∃g,e= .returned (.slice (some g) 0 0))∧w'=w.alloc (Obj.cells #[] (ρ.t 23)):=by
 have mixed:=L.mixed;have t4:=L.t4;have a4:=L.a4;have z4:=L.z4;have v4:=L.v4;have t22:=L.t22;have a22:=L.a22;have z22:=L.z22;have v22:=L.v22
 have q22:∀(w:World) (a:Option Addr) (n c n' c':Nat),(binOp .eql (ρ.t 22) (.slice a n c) (.slice none n' c')).run P w= .ok (.bool a.isNone) w:=fun w a n c n' c'=>Lib.run_eql_slice_nil w _ _ a n c n' c' L.t22
 have u22:∀w,Sem.run P (underlying (ρ.t 22)) w= .ok (TypeDesc.slice (ρ.t 23)) w:=run_underlying t22
 have happ:∀(W:World) (g:Addr) (ty:TypeId),(Builtin.append_ #[ρ.t 22,ρ.t 22] ty #[.slice (some g) 0 0,.slice (some a) 0 c]).run P W= .ok (.slice (some g) (0+0) 0) W:=fun W g ty=>
  Go.Am.append_room (n:=0) (us:=[]) t22 t22 (fun k=>by simp) hi (by simp [Builtin.lenOf]) (by simp [Builtin.firstCells,loadCells,loadCellsFrom]) (by omega) (fun ad _=>by simp [storeCells]) (fun h=>by cases h)
 obtain⟨_,_,FG⟩:=L.f41
 go_enter FG,SlBodyN.n41_ntmps ρ
 go_wp2_with (at_builtin;refine uC _ rfl _ _ (ρ.t 22) (ρ.t 22) rfl _ _ rfl rfl (happ _ _ _) ?_)
 go_wp2
 go_ret
 exact⟨⟨_,rfl⟩,rfl⟩
end Go.Proofs
namespace Go.Am
def nL (P:Program) (f:FuncId):Prop:=
 (∀w:World,Go.Calls P f #[.slice none 0 0] w fun e w'=>e= .returned (.slice none 0 0)∧w'=w)∧
 (∀(A:Addr) (c:Nat) (w:World),Go.Calls P f #[.slice (some A) 0 c] w fun e w'=>(∃g,e= .returned (.slice (some g) 0 0))∧∃t,w'=w.alloc (Obj.cells #[] t))
theorem Lr {I:Nat→Prop} {w:World} (hb:∀b,I b→b<w.heap.size) (A:Option Addr) (t:TypeId):wB I w .ez (.slice A 0 0) (w.alloc (Obj.cells #[] t)):=by
 have hsz:w.heap.size≤(w.alloc (Obj.cells #[] t)).heap.size:=by show w.heap.size≤(w.heap.push _).size;rw [Array.size_push];omega
 refine⟨I,rfl,rfl,rfl,hsz,fun b hb=> ?_,fun b h=>h,fun b h=>.inl h,fun nx=>⟨M0,pX fun b h=>Nat.lt_of_lt_of_le (hb b h) hsz,fun _ _=>rfl,fun rb h=> ?_,.ez A⟩,Nat.le_refl _⟩
 ·show(w.heap.push _)[b]? =w.heap[b]?
  rw [Array.getElem?_push,if_neg (by omega)]
 ·obtain⟨b,o,h⟩:=h
  cases h
theorem EO {I:Nat→Prop} {w:World} (hb:∀b,I b→b<w.heap.size) {r:AV} {v:Value} (hr:dU 0 r=(r,[],0)∧∀nx,dU nx r=(r,[],nx)) (h:RpV I M0 w r v):wB I w r v w:=by
 refine⟨I,rfl,rfl,rfl,Nat.le_refl _,fun b _=>rfl,fun b h=>h,fun b h=>.inl h,fun nx=>⟨M0,?_,fun _ _=>rfl,fun rb h=> ?_,?_⟩,Nat.le_refl _⟩
 ·rw [hr.2 nx];exact pX hb
 ·obtain⟨b,o,h⟩:=h
  cases h
 ·rw [hr.2 nx];exact h
theorem wg {P:Program} {f:FuncId} {s t:Sh} {gs rs:List (Bool×Nat)} {own:List (Nat×Bool)} {Fa Fb:aL s→Option (aL t)} (c:aL s→Bool) (ha:az P f ⟨s,t,gs,rs,own,Fa⟩) (hb:az P f ⟨s,t,gs,rs,own,Fb⟩):
  az P f ⟨s,t,gs,rs,own,fun x=>bif c x then Fa x else Fb x⟩:=fun ws x y h1 h2 h3=>by
 have h3:(bif c x then Fa x else Fb x)=some y:=h3
 cases hc:c x with
 |true=>rw [hc]at h3;exact ha ws x y h1 h2 h3
 |false=>rw [hc]at h3;exact hb ws x y h1 h2 h3
theorem Ut {P:Program} {f:FuncId} {s:Sh} {Fold:aL (.cons (.row s) .nil)→Option (aL (.cons (.row s) .nil))} (hk:az P f ⟨.cons (.row s) .nil,.cons (.row s) .nil,[(false,1)],[(false,1)],[],Fold⟩) (he:mO P f) (hl:nL P f):
  az P f ⟨.cons (.row s) .nil,.cons (.row s) .nil,[(false,1)],[(false,1)],[],fun x=>bif x.1.isEmpty then some ([],())else Fold x⟩:=by
 intro ws x y hsh hre hF
 obtain⟨ts,u⟩:=x
 cases ts with
 |cons a l=>exact hk ws _ y hsh hre hF
 |nil=>
  have hF:some (([],()):List (aL s)×Unit)=some y:=hF
  injection hF with hF
  subst hF
  obtain⟨w,rfl⟩:∃w,ws= [w]:=by
   cases ws with
   |nil=>simp [bC]at hsh
   |cons w l=>
    cases l with
    |nil=>exact⟨w,rfl⟩
    |cons w2 l=>cases w<;>cases w2<;>simp [bC]at hsh
  have hag:∀cs,w≠ .ag cs:=fun cs e=>by subst e;simp [bC]at hsh
  obtain⟨c1,c2,e1,⟨w',rfl,h⟩,e2⟩:=hre
  have hcw:cn w= [w]:=by cases w<;>first|rfl|exact absurd rfl (hag _)
  simp only [List.flatMap_cons,List.flatMap_nil,List.append_nil,hcw]at e1
  subst e2
  simp only [List.append_nil,List.cons.injEq,and_true]at e1
  subst e1
  have rr:∀r:AV,(r= .ns∨r= .ez)→RR ⟨.cons (.row s) .nil,.cons (.row s) .nil,[(false,1)],[(false,1)],[],fun x=>bif x.1.isEmpty then some ([],())else Fold x⟩ (([],()):List (aL s)×Unit) r:=fun r hr=>by
   intro ρ pr k r' hk'
   exact⟨.ls s [],⟨.inr ⟨rfl,hr⟩,rfl⟩,hk'⟩
  have pz:∀w:AV,(∀I M (W:World) v,RpV I M W w v→∃A c,v= .slice A 0 c∧(A=none→c=0))→fM P f [w] .ez:=fun w hw I W vals hb ha=>by
   obtain⟨v,hv⟩:∃v,vals= #[v]∧RpV I M0 W w v:=by
    obtain⟨l⟩:=vals
    cases ha with
    |cons a1 a2=>cases a2;exact⟨_,rfl,a1⟩
   obtain⟨rfl,hv⟩:=hv
   obtain⟨A,c,rfl,hc⟩:=hw _ _ _ _ hv
   cases A with
   |none=>
    rw [hc rfl]
    refine(hl.1 W).mono fun e w' ⟨h1,h2⟩=> ?_
    subst h1 h2
    exact EO hb ⟨rfl,fun _=>rfl⟩ (.ez none)
   |some A=>
    refine(hl.2 A c W).mono fun e w' ⟨⟨g,h1⟩,t,h2⟩=> ?_
    subst h1 h2
    exact Lr hb (some g) t
  rcases h with⟨es,rfl,h2⟩|⟨_,rfl|rfl⟩
  ·cases h2
   exact⟨he,.ez,pz _ fun I M W v hv=>(by cases hv with|lsN sz A cap=>exact⟨some A,cap,rfl,fun h=>by cases h⟩|ls sz es ib io cap u hne=>exact absurd rfl hne),rr _ (.inr rfl)⟩
  ·exact⟨he,.ez,pz _ fun I M W v hv=>(by cases hv;exact⟨none,0,rfl,fun _=>rfl⟩),rr _ (.inr rfl)⟩
  ·exact⟨he,.ez,pz _ fun I M W v hv=>(by cases hv with|ez A=>exact⟨A,0,rfl,fun _=>rfl⟩),rr _ (.inr rfl)⟩
theorem Ls {P:Program} {f:FuncId} {s:Sh} {Fold:aL (.cons (.row s) .nil)→Option (aL (.cons (.row s) .nil))} (hk:az P f ⟨.cons (.row s) .nil,.cons (.row s) .nil,[(false,1)],[(false,1)],[(0,true)],Fold⟩) (he:mO P f) (hl:nL P f):
  az P f ⟨.cons (.row s) .nil,.cons (.row s) .nil,[(false,1)],[(false,1)],[(0,true)],fun x=>bif x.1.isEmpty then some ([],())else Fold x⟩:=by
 intro ws x y hsh hre hF
 obtain⟨ts,u⟩:=x
 cases ts with
 |cons a l=>exact hk ws _ y hsh hre hF
 |nil=>
  have hF:some (([],()):List (aL s)×Unit)=some y:=hF
  injection hF with hF
  subst hF
  obtain⟨w,rfl⟩:∃w,ws= [w]:=by
   cases ws with
   |nil=>simp [bC]at hsh
   |cons w l=>
    cases l with
    |nil=>exact⟨w,rfl⟩
    |cons w2 l=>cases w<;>cases w2<;>simp [bC]at hsh
  have hag:∀cs,w≠ .ag cs:=fun cs e=>by subst e;simp [bC]at hsh
  obtain⟨c1,c2,e1,⟨w',rfl,h⟩,e2⟩:=hre
  have hcw:cn w= [w]:=by cases w<;>first|rfl|exact absurd rfl (hag _)
  simp only [List.flatMap_cons,List.flatMap_nil,List.append_nil,hcw]at e1
  subst e2
  simp only [List.append_nil,List.cons.injEq,and_true]at e1
  subst e1
  have rr:∀r:AV,(r= .ns∨r= .ez)→RR ⟨.cons (.row s) .nil,.cons (.row s) .nil,[(false,1)],[(false,1)],[(0,true)],fun x=>bif x.1.isEmpty then some ([],())else Fold x⟩ (([],()):List (aL s)×Unit) r:=fun r hr=>by
   intro ρ pr k r' hk'
   exact⟨.nz,⟨hr,rfl⟩,xw hk'⟩
  have pz:∀w:AV,(∀I M (W:World) v,RpV I M W w v→∃A c,v= .slice A 0 c∧(A=none→c=0))→fM P f [w] .ez:=fun w hw I W vals hb ha=>by
   obtain⟨v,hv⟩:∃v,vals= #[v]∧RpV I M0 W w v:=by
    obtain⟨l⟩:=vals
    cases ha with
    |cons a1 a2=>cases a2;exact⟨_,rfl,a1⟩
   obtain⟨rfl,hv⟩:=hv
   obtain⟨A,c,rfl,hc⟩:=hw _ _ _ _ hv
   cases A with
   |none=>
    rw [hc rfl]
    refine(hl.1 W).mono fun e w' ⟨h1,h2⟩=> ?_
    subst h1 h2
    exact EO hb ⟨rfl,fun _=>rfl⟩ (.ez none)
   |some A=>
    refine(hl.2 A c W).mono fun e w' ⟨⟨g,h1⟩,t,h2⟩=> ?_
    subst h1 h2
    exact Lr hb (some g) t
  rcases h with⟨es,rfl,h2⟩|⟨_,rfl|rfl⟩
  ·cases h2
   exact⟨he,.ez,pz _ fun I M W v hv=>(by cases hv with|lsN sz A cap=>exact⟨some A,cap,rfl,fun h=>by cases h⟩|ls sz es ib io cap u hne=>exact absurd rfl hne),rr _ (.inr rfl)⟩
  ·exact⟨he,.ez,pz _ fun I M W v hv=>(by cases hv;exact⟨none,0,rfl,fun _=>rfl⟩),rr _ (.inr rfl)⟩
  ·exact⟨he,.ez,pz _ fun I M W v hv=>(by cases hv with|ez A=>exact⟨A,0,rfl,fun _=>rfl⟩),rr _ (.inr rfl)⟩
end Go.Am
