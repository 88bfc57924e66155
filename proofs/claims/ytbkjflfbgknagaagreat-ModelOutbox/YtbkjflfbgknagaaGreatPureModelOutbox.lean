import Derived.Test.YtbkjflfbgknagaaGreatPureModelOutbox0
set_option maxRecDepth 100000
set_option linter.unusedVariables false
set_option linter.unusedSimpArgs false
set_option linter.constructorNameAsVariable false
namespace Go.Proofs.YtbkjflfbgknagaaGreat.modelOutbox.Code
open Go Go.Am
open Int (ofNat)
abbrev errR (v:Int):Reply:=(v,ofNat 0,ofNat 0,ofNat 0,r0_,[],())
def Good (s:State) (c:Call) (t:State) (r:Reply):Prop:=
  (∀x∈t.2.2.2.2.2.2.1,OkR x)∧t.2.2.2.2.2.2.1.length≤100∧
  (((∃n:Nat,r.1=ofNat (n+1))∧t=s)∨(r.1=0∧
    ((c.1=10∧s.2.2.2.2.2.1≤c.2.2.2.2.2.2.2.1∧c.2.2.2.2.2.2.2.1<s.2.2.2.2.1∧t.2.2.2.2.2.1=c.2.2.2.2.2.2.2.1∧t.2.2.2.2.2.2.2.1=s.2.2.2.2.2.2.2.1.drop (c.2.2.2.2.2.2.2.1-s.2.2.2.2.2.1).toNat∧r.2.2.2.2.2.1= [])∨
     (c.1≠10∧t.2.2.2.2.2.1=s.2.2.2.2.2.1∧(∃new,t.2.2.2.2.2.2.2.1=s.2.2.2.2.2.2.2.1++new)∧∃n,r.2.2.2.2.2.1=s.2.2.2.2.2.2.2.1.take n))))
section
variable {ck nr nt nk ne ac:Int} {rs:List Run} {es:List Event}
abbrev mk (ck nr nt nk ne ac:Int) (rs:List Run) (es:List Event):State:=(ck,nr,nt,nk,ne,ac,rs,es,())
theorem good_err (h:SOk (mk ck nr nt nk ne ac rs es)) (hr:∀r∈rs,OkR r) (c:Call) (n:Nat):Good (mk ck nr nt nk ne ac rs es) c (mk ck nr nt nk ne ac rs es) (errR (ofNat (n+1))):=
 ⟨hr,by have:=h.fine.1;simp only at this⊢;omega,.inl ⟨⟨n,rfl⟩,rfl⟩⟩
theorem e15a (h:SOk (mk ck nr nt nk ne ac rs es)) (hR:List.isEmpty rs=false) (hE:List.isEmpty es=false) (v:Int):E15a (mk ck nr nt nk ne ac rs es) v=some (mk ck nr nt nk ne ac rs es,errR v,()):=by
 have h25:=twin_ok h
 simp only [mk]at h25
 simp only [E15a,mk,h25,Option.bind_some,hR,hE,cond_false,Nat.zero_add,Nat.le_refl,decide_true,cond_true,allE]
theorem e15b (h:SOk (mk ck nr nt nk ne ac rs [])) (hR:List.isEmpty rs=false) (v:Int):E15b (mk ck nr nt nk ne ac rs []) v=some (mk ck nr nt nk ne ac rs [],errR v,()):=by
 have h25:=twin_ok h
 simp only [mk]at h25
 simp only [E15b,mk,h25,Option.bind_some,hR,List.isEmpty_nil,cond_false,Nat.zero_add,Nat.le_refl,decide_true,cond_true,allE]
theorem e15c (h:SOk (mk ck nr nt nk ne ac [] es)) (hE:List.isEmpty es=false) (v:Int):E15c (mk ck nr nt nk ne ac [] es) v=some (mk ck nr nt nk ne ac [] es,errR v,()):=by
 have h25:=twin_ok h
 simp only [mk]at h25
 simp only [E15c,mk,h25,Option.bind_some,hE,List.isEmpty_nil,cond_false,Nat.zero_add,Nat.le_refl,decide_true,cond_true,allE]
theorem e15d (h:SOk (mk ck nr nt nk ne ac [] [])) (v:Int):E15d (mk ck nr nt nk ne ac [] []) v=some (mk ck nr nt nk ne ac [] [],errR v,()):=by
 have h25:=twin_ok h
 simp only [mk]at h25
 simp only [E15d,mk,h25,Option.bind_some,List.isEmpty_nil,cond_false,Nat.zero_add,Nat.le_refl,decide_true,cond_true,allE]
theorem okr_set {rs:List Run} (hr:∀r∈rs,OkR r) {n:Nat} {r:Run} (h:OkR r):∀x∈rs.set n r,OkR x:=fun x hx=>by
 rcases List.mem_or_eq_of_mem_set hx with h1|rfl
 ·exact hr x h1
 ·exact h
theorem okr_of {r r':Run} (h:OkR r) (hn:r'.2.2.1=r.2.2.1) (hl:r'.2.2.2.2.1.length=r.2.2.2.2.1.length) (hp:∀t∈r'.2.2.2.2.1,0≤t.1):OkR r':=⟨by rw [hn];exact h.ln,by rw [hl];exact h.tl,hp⟩
theorem room32 {n k:Nat} (h:n≤60) (hk:k≤60):(decide ((n+k)*32≤2^46) && decide (n+k≤2^46))=true:=room2 (by omega) (by omega)
theorem good_app (hl:rs.length≤100) (hr:∀r∈rs,OkR r) {s:State} {c:Call} {ck' nr' nt' nk' ne' ac':Int} {es':List Event} {a b d:Int} {w:Run} {l:List Event} (hc:c.1≠10) (ha:ac'=s.2.2.2.2.2.1) (he:∃new,es'=s.2.2.2.2.2.2.2.1++new) (hw:∃n,l=s.2.2.2.2.2.2.2.1.take n):
  Good s c (mk ck' nr' nt' nk' ne' ac' rs es') (ofNat 0,a,b,d,w,l,()):=⟨hr,hl,.inr ⟨rfl,.inr ⟨hc,ha,he,hw⟩⟩⟩
end
theorem dFail {nd:Node} {t:Task} {tk now:Int} (h1:NdOk nd) (h2:0≤t.1):(∃t',F171 (nd,t,tk,now,())=some (t',0,())∧0≤t'.1)∨∃n:Nat,F171 (nd,t,tk,now,())=some (t0,ofNat (n+1),()):=by
 obtain⟨t',h,h3⟩:=f171 nd t tk now h1 h2
 rcases h with⟨hp,h⟩|⟨hp,h⟩
 ·refine .inl ⟨t',h,?_⟩
  rcases h3 hp with⟨_,rfl⟩|⟨_,u,_,rfl⟩
  ·exact Int.natCast_nonneg 5
  ·exact Int.natCast_nonneg 3
 ·exact .inr h
theorem dLapse {nd:Node} {t:Task} {now:Int} (h1:NdOk nd) (h2:0≤t.1):(∃t',F218 (nd,t,now,())=some (t',0,())∧0≤t'.1)∨∃n:Nat,F218 (nd,t,now,())=some (t0,ofNat (n+1),()):=by
 obtain⟨t',h,h3⟩:=f218 nd t now h1 h2
 rcases h with⟨hp,h⟩|⟨hp,h⟩
 ·refine .inl ⟨t',h,?_⟩
  rcases h3 hp with⟨_,rfl⟩|⟨_,u,_,rfl⟩
  ·exact Int.natCast_nonneg 5
  ·exact Int.natCast_nonneg 3
 ·exact .inr h
theorem dBeat {nd:Node} {t:Task} {tk un:Int} (h1:NdOk nd) (h2:0≤t.1):(∃t',F173 (nd,t,tk,un,())=some (t',0,())∧0≤t'.1)∨∃n:Nat,F173 (nd,t,tk,un,())=some (t0,ofNat (n+1),()):=by
 rcases f173 nd t tk un h1 h2 with⟨hp,h⟩|⟨hp,h⟩
 ·exact .inl ⟨_,h,h2⟩
 ·exact .inr h
theorem dWake {nd:Node} {t:Task} {rk now:Int} (h1:NdOk nd) (h2:0≤t.1):(∃t',F216 (nd,t,rk,now,())=some (t',0,())∧0≤t'.1)∨∃n:Nat,F216 (nd,t,rk,now,())=some (t0,ofNat (n+1),()):=by
 rcases f216 nd t rk now h1 h2 with⟨hp,h⟩|⟨hp,h⟩
 ·exact .inl ⟨_,h,Int.natCast_nonneg 1⟩
 ·exact .inr h
theorem dLease {nd:Node} {t:Task} {tk un:Int} (h1:NdOk nd) (h2:0≤t.1):(∃t',F167 (nd,t,tk,un,())=some (t',0,())∧0≤t'.1)∨∃n:Nat,F167 (nd,t,tk,un,())=some (t0,ofNat (n+1),()):=by
 rcases f167 nd t tk un h1 h2 with⟨hp,h⟩|⟨hp,h⟩
 ·exact .inl ⟨_,h,Int.natCast_nonneg 2⟩
 ·exact .inr h
theorem m15a_6 {ck nr nt nk ne ac:Int} {rs:List Run} {es:List Event} (h:SOk (mk ck nr nt nk ne ac rs es)) (hr:∀r∈rs,OkR r) (hR:List.isEmpty rs=false) (hE:List.isEmpty es=false) (c:Call) (hk:c.1=6):
    ∃t r,M15a_6 ((mk ck nr nt nk ne ac rs es),c,())=some (t,r,())∧Good (mk ck nr nt nk ne ac rs es) c t r:=by
  have h25:=twin_ok h
  have hf:=h.fine
  have he:=h.ev40
  simp only [mk]at h25 hf he
  have h32:=hf.1
  have E:=e15a h hR hE
  simp only [mk]at E
  simp only [M15a_6,mk,h25,Option.bind_some,hR,hE,cond_false,Nat.zero_add,Nat.le_refl,decide_true,cond_true,allE,sgE,E]
  obtain⟨i,b,e,hfi,hq⟩:=find_ok rs (by omega) hr c.2.2.2.1
  simp only [hfi,Option.bind_some]
  rcases hq with⟨_,_,hq⟩|⟨rfl,_,⟨rfl,n,rfl,hn,hid⟩|⟨rfl,_⟩⟩
  · exact absurd hf hq
  · simp only [Bool.not_true,cond_false,rg_in hn,rg_ltn hn,cond_true,Int.toNat_natCast]
    obtain⟨r',e',hc,hq⟩:=cancel_ok (rs.getD n (dft sRun)) (hr _ (getD_mem hn _))
    simp only [hc,Option.bind_some]
    rcases hq with⟨rfl,hro,_,_,_,hns,_,hd,hp⟩|⟨⟨m,rfl⟩,_⟩
    · have hok:=okr_of (hr _ (getD_mem hn (dft sRun))) hns hd.1 hp
      rw [sp2_0]
      try simp only [List.length_cons,List.length_nil,Nat.zero_add,room32 (show es.length≤60 by omega) (show 1≤60 by omega),room32 (show es.length+1≤60 by omega) (show 1≤60 by omega),decide_true,cond_true,List.length_append,List.length_set,Nat.le_refl,List.drop_zero]
      generalize decide (((es.length+1:Nat):Int)>ofNat 40)=b40
      cases b40 with
      |true=>exact⟨_,_,rfl,good_err h hr c 8⟩
      | false=>
        simp only [cond_false]
        exact⟨_,_,rfl,good_app (by rw [List.length_take,List.length_set];omega) (fun x hx=>okr_set hr hok x (List.mem_of_mem_take hx)) (by omega) rfl ⟨_,rfl⟩ ⟨0,by simp⟩⟩
    · rw [sp2_s]
      exact⟨_,_,rfl,good_err h hr c m⟩
  · exact⟨_,_,rfl,good_err h hr c 5⟩
theorem m15b_6 {ck nr nt nk ne ac:Int} {rs:List Run} (h:SOk (mk ck nr nt nk ne ac rs [])) (hr:∀r∈rs,OkR r) (hR:List.isEmpty rs=false) (c:Call) (hk:c.1=6):
  ∃t r,M15b_6 ((mk ck nr nt nk ne ac rs []),c,())=some (t,r,())∧Good (mk ck nr nt nk ne ac rs []) c t r:=by
 have h25:=twin_ok h
 have hf:=h.fine
 have he:=h.ev40
 simp only [mk]at h25 hf he
 have h32:=hf.1
 have E:=e15b h hR
 simp only [mk]at E
 simp only [M15b_6,mk,h25,Option.bind_some,hR,List.isEmpty_nil,cond_false,Nat.zero_add,Nat.le_refl,decide_true,cond_true,allE,sgE,E]
 obtain⟨i,b,e,hfi,hq⟩:=find_ok rs (by omega) hr c.2.2.2.1
 simp only [hfi,Option.bind_some]
 rcases hq with⟨_,_,hq⟩|⟨rfl,_,⟨rfl,n,rfl,hn,hid⟩|⟨rfl,_⟩⟩
 ·exact absurd hf hq
 ·simp only [Bool.not_true,cond_false,rg_in hn,rg_ltn hn,cond_true,Int.toNat_natCast]
  obtain⟨r',e',hc,hq⟩:=cancel_ok (rs.getD n (dft sRun)) (hr _ (getD_mem hn _))
  simp only [hc,Option.bind_some]
  rcases hq with⟨rfl,hro,_,_,_,hns,_,hd,hp⟩|⟨⟨m,rfl⟩,_⟩
  ·have hok:=okr_of (hr _ (getD_mem hn (dft sRun))) hns hd.1 hp
   rw [sp2_0]
   try simp only [List.length_set,Nat.le_refl,decide_true,cond_true,List.drop_zero]
   exact⟨_,_,rfl,good_app (by rw [List.length_take,List.length_set];omega) (fun x hx=>okr_set hr hok x (List.mem_of_mem_take hx)) (by omega) rfl ⟨_,rfl⟩ ⟨0,by simp⟩⟩
  ·rw [sp2_s]
   exact⟨_,_,rfl,good_err h hr c m⟩
 ·exact⟨_,_,rfl,good_err h hr c 5⟩
theorem m15c_6 {ck nr nt nk ne ac:Int} {es:List Event} (h:SOk (mk ck nr nt nk ne ac [] es)) (hr:∀r∈([]:List Run),OkR r) (hE:List.isEmpty es=false) (c:Call) (hk:c.1=6):
  ∃t r,M15c_6 ((mk ck nr nt nk ne ac [] es),c,())=some (t,r,())∧Good (mk ck nr nt nk ne ac [] es) c t r:=by
 have h25:=twin_ok h
 have hf:=h.fine
 have he:=h.ev40
 simp only [mk]at h25 hf he
 have h32:=hf.1
 have E:=e15c h hE
 simp only [mk]at E
 simp only [M15c_6,mk,h25,Option.bind_some,hE,List.isEmpty_nil,cond_false,Nat.zero_add,Nat.le_refl,decide_true,cond_true,allE,sgE,E]
 obtain⟨i,b,e,hfi,hq⟩:=find_ok ([]:List Run) (by omega) hr c.2.2.2.1
 simp only [hfi,Option.bind_some]
 rcases hq with⟨_,_,hq⟩|⟨rfl,_,⟨rfl,n,rfl,hn,hid⟩|⟨rfl,_⟩⟩
 ·exact absurd hf hq
 ·exact absurd hn (Nat.not_lt_zero _)
 ·exact⟨_,_,rfl,good_err h hr c 5⟩
theorem m15d_6 {ck nr nt nk ne ac:Int} (h:SOk (mk ck nr nt nk ne ac [] [])) (hr:∀r∈([]:List Run),OkR r) (c:Call) (hk:c.1=6):
  ∃t r,M15d_6 ((mk ck nr nt nk ne ac [] []),c,())=some (t,r,())∧Good (mk ck nr nt nk ne ac [] []) c t r:=by
 have h25:=twin_ok h
 have hf:=h.fine
 have he:=h.ev40
 simp only [mk]at h25 hf he
 have h32:=hf.1
 have E:=e15d h
 simp only [mk]at E
 simp only [M15d_6,mk,h25,Option.bind_some,List.isEmpty_nil,cond_false,Nat.zero_add,Nat.le_refl,decide_true,cond_true,allE,sgE,E]
 obtain⟨i,b,e,hfi,hq⟩:=find_ok ([]:List Run) (by omega) hr c.2.2.2.1
 simp only [hfi,Option.bind_some]
 rcases hq with⟨_,_,hq⟩|⟨rfl,_,⟨rfl,n,rfl,hn,hid⟩|⟨rfl,_⟩⟩
 ·exact absurd hf hq
 ·exact absurd hn (Nat.not_lt_zero _)
 ·exact⟨_,_,rfl,good_err h hr c 5⟩
theorem m15a_4 {ck nr nt nk ne ac:Int} {rs:List Run} {es:List Event} (h:SOk (mk ck nr nt nk ne ac rs es)) (hr:∀r∈rs,OkR r) (hR:List.isEmpty rs=false) (hE:List.isEmpty es=false) (c:Call) (hk:c.1=4):
    ∃t r,M15a_4 ((mk ck nr nt nk ne ac rs es),c,())=some (t,r,())∧Good (mk ck nr nt nk ne ac rs es) c t r:=by
  have h25:=twin_ok h
  have hf:=h.fine
  have he:=h.ev40
  simp only [mk]at h25 hf he
  have h32:=hf.1
  have E:=e15a h hR hE
  simp only [mk]at E
  simp only [M15a_4,mk,h25,Option.bind_some,hR,hE,cond_false,Nat.zero_add,Nat.le_refl,decide_true,cond_true,allE,sgE,E]
  obtain⟨i,b,e,hfi,hq⟩:=find_ok rs (by omega) hr c.2.2.2.1
  simp only [hfi,Option.bind_some]
  rcases hq with⟨_,_,hq⟩|⟨rfl,_,⟨rfl,n,rfl,hn,hid⟩|⟨rfl,_⟩⟩
  · exact absurd hf hq
  · simp only [Bool.not_true,cond_false,rg_in hn,rg_ltn hn,cond_true,Int.toNat_natCast]
    obtain⟨r',e',hc,hq⟩:=turn_ok (rs.getD n (dft sRun)) (hr _ (getD_mem hn _)) c.2.2.2.2.1 (fun nd t=>F171 (nd,t,c.2.2.2.2.2.1,ck,())) (fun nd t h1 h2 h3=>dFail h1 h2)
    rw [←fail_eq]at hc
    simp only [hc,Option.bind_some]
    rcases hq with⟨rfl,hro,_,k,t',_,_,_,ht⟩|⟨⟨m,rfl⟩,_⟩
    · have hok:=okr_of (hr _ (getD_mem hn (dft sRun))) ht.ns ht.len ht.pos
      rw [sp2_0]
      cases (r'.2.2.2.1==ofNat 3)with
      | true=>
        simp only [cond_true]
        try simp only [List.length_cons,List.length_nil,Nat.zero_add,room32 (show es.length≤60 by omega) (show 1≤60 by omega),room32 (show es.length+1≤60 by omega) (show 1≤60 by omega),decide_true,cond_true,List.length_append,List.length_set,Nat.le_refl,List.drop_zero]
        generalize decide (((es.length+1:Nat):Int)>ofNat 40)=b40
        cases b40 with
        |true=>exact⟨_,_,rfl,good_err h hr c 8⟩
        | false=>
          simp only [cond_false]
          exact⟨_,_,rfl,good_app (by rw [List.length_take,List.length_set];omega) (fun x hx=>okr_set hr hok x (List.mem_of_mem_take hx)) (by omega) rfl ⟨_,rfl⟩ ⟨0,by simp⟩⟩
      | false=>
        simp only [cond_false]
        try simp only [List.length_cons,List.length_nil,Nat.zero_add,room32 (show es.length≤60 by omega) (show 1≤60 by omega),room32 (show es.length+1≤60 by omega) (show 1≤60 by omega),decide_true,cond_true,List.length_append,List.length_set,Nat.le_refl,List.drop_zero]
        generalize decide (((es.length+1:Nat):Int)>ofNat 40)=b40
        cases b40 with
        |true=>exact⟨_,_,rfl,good_err h hr c 8⟩
        | false=>
          simp only [cond_false]
          exact⟨_,_,rfl,good_app (by rw [List.length_take,List.length_set];omega) (fun x hx=>okr_set hr hok x (List.mem_of_mem_take hx)) (by omega) rfl ⟨_,rfl⟩ ⟨0,by simp⟩⟩
    · rw [sp2_s]
      exact⟨_,_,rfl,good_err h hr c m⟩
  · exact⟨_,_,rfl,good_err h hr c 5⟩
theorem m15b_4 {ck nr nt nk ne ac:Int} {rs:List Run} (h:SOk (mk ck nr nt nk ne ac rs [])) (hr:∀r∈rs,OkR r) (hR:List.isEmpty rs=false) (c:Call) (hk:c.1=4):
    ∃t r,M15b_4 ((mk ck nr nt nk ne ac rs []),c,())=some (t,r,())∧Good (mk ck nr nt nk ne ac rs []) c t r:=by
  have h25:=twin_ok h
  have hf:=h.fine
  have he:=h.ev40
  simp only [mk]at h25 hf he
  have h32:=hf.1
  have E:=e15b h hR
  simp only [mk]at E
  simp only [M15b_4,mk,h25,Option.bind_some,hR,List.isEmpty_nil,cond_false,Nat.zero_add,Nat.le_refl,decide_true,cond_true,allE,sgE,E]
  obtain⟨i,b,e,hfi,hq⟩:=find_ok rs (by omega) hr c.2.2.2.1
  simp only [hfi,Option.bind_some]
  rcases hq with⟨_,_,hq⟩|⟨rfl,_,⟨rfl,n,rfl,hn,hid⟩|⟨rfl,_⟩⟩
  · exact absurd hf hq
  · simp only [Bool.not_true,cond_false,rg_in hn,rg_ltn hn,cond_true,Int.toNat_natCast]
    obtain⟨r',e',hc,hq⟩:=turn_ok (rs.getD n (dft sRun)) (hr _ (getD_mem hn _)) c.2.2.2.2.1 (fun nd t=>F171 (nd,t,c.2.2.2.2.2.1,ck,())) (fun nd t h1 h2 h3=>dFail h1 h2)
    rw [←fail_eq]at hc
    simp only [hc,Option.bind_some]
    rcases hq with⟨rfl,hro,_,k,t',_,_,_,ht⟩|⟨⟨m,rfl⟩,_⟩
    · have hok:=okr_of (hr _ (getD_mem hn (dft sRun))) ht.ns ht.len ht.pos
      rw [sp2_0]
      cases (r'.2.2.2.1==ofNat 3)with
      | true=>
        simp only [cond_true]
        try simp only [List.length_set,Nat.le_refl,decide_true,cond_true,List.drop_zero]
        exact⟨_,_,rfl,good_app (by rw [List.length_take,List.length_set];omega) (fun x hx=>okr_set hr hok x (List.mem_of_mem_take hx)) (by omega) rfl ⟨_,rfl⟩ ⟨0,by simp⟩⟩
      | false=>
        simp only [cond_false]
        try simp only [List.length_set,Nat.le_refl,decide_true,cond_true,List.drop_zero]
        exact⟨_,_,rfl,good_app (by rw [List.length_take,List.length_set];omega) (fun x hx=>okr_set hr hok x (List.mem_of_mem_take hx)) (by omega) rfl ⟨_,rfl⟩ ⟨0,by simp⟩⟩
    · rw [sp2_s]
      exact⟨_,_,rfl,good_err h hr c m⟩
  · exact⟨_,_,rfl,good_err h hr c 5⟩
theorem m15c_4 {ck nr nt nk ne ac:Int} {es:List Event} (h:SOk (mk ck nr nt nk ne ac [] es)) (hr:∀r∈([]:List Run),OkR r) (hE:List.isEmpty es=false) (c:Call) (hk:c.1=4):
  ∃t r,M15c_4 ((mk ck nr nt nk ne ac [] es),c,())=some (t,r,())∧Good (mk ck nr nt nk ne ac [] es) c t r:=by
 have h25:=twin_ok h
 have hf:=h.fine
 have he:=h.ev40
 simp only [mk]at h25 hf he
 have h32:=hf.1
 have E:=e15c h hE
 simp only [mk]at E
 simp only [M15c_4,mk,h25,Option.bind_some,hE,List.isEmpty_nil,cond_false,Nat.zero_add,Nat.le_refl,decide_true,cond_true,allE,sgE,E]
 obtain⟨i,b,e,hfi,hq⟩:=find_ok ([]:List Run) (by omega) hr c.2.2.2.1
 simp only [hfi,Option.bind_some]
 rcases hq with⟨_,_,hq⟩|⟨rfl,_,⟨rfl,n,rfl,hn,hid⟩|⟨rfl,_⟩⟩
 ·exact absurd hf hq
 ·exact absurd hn (Nat.not_lt_zero _)
 ·exact⟨_,_,rfl,good_err h hr c 5⟩
theorem m15d_4 {ck nr nt nk ne ac:Int} (h:SOk (mk ck nr nt nk ne ac [] [])) (hr:∀r∈([]:List Run),OkR r) (c:Call) (hk:c.1=4):
  ∃t r,M15d_4 ((mk ck nr nt nk ne ac [] []),c,())=some (t,r,())∧Good (mk ck nr nt nk ne ac [] []) c t r:=by
 have h25:=twin_ok h
 have hf:=h.fine
 have he:=h.ev40
 simp only [mk]at h25 hf he
 have h32:=hf.1
 have E:=e15d h
 simp only [mk]at E
 simp only [M15d_4,mk,h25,Option.bind_some,List.isEmpty_nil,cond_false,Nat.zero_add,Nat.le_refl,decide_true,cond_true,allE,sgE,E]
 obtain⟨i,b,e,hfi,hq⟩:=find_ok ([]:List Run) (by omega) hr c.2.2.2.1
 simp only [hfi,Option.bind_some]
 rcases hq with⟨_,_,hq⟩|⟨rfl,_,⟨rfl,n,rfl,hn,hid⟩|⟨rfl,_⟩⟩
 ·exact absurd hf hq
 ·exact absurd hn (Nat.not_lt_zero _)
 ·exact⟨_,_,rfl,good_err h hr c 5⟩
theorem m15a_3 {ck nr nt nk ne ac:Int} {rs:List Run} {es:List Event} (h:SOk (mk ck nr nt nk ne ac rs es)) (hr:∀r∈rs,OkR r) (hR:List.isEmpty rs=false) (hE:List.isEmpty es=false) (c:Call) (hk:c.1=3):
    ∃t r,M15a_3 ((mk ck nr nt nk ne ac rs es),c,())=some (t,r,())∧Good (mk ck nr nt nk ne ac rs es) c t r:=by
  have h25:=twin_ok h
  have hf:=h.fine
  have he:=h.ev40
  simp only [mk]at h25 hf he
  have h32:=hf.1
  have E:=e15a h hR hE
  simp only [mk]at E
  simp only [M15a_3,mk,h25,Option.bind_some,hR,hE,cond_false,Nat.zero_add,Nat.le_refl,decide_true,cond_true,allE,sgE,E]
  obtain⟨i,b,e,hfi,hq⟩:=find_ok rs (by omega) hr c.2.2.2.1
  simp only [hfi,Option.bind_some]
  rcases hq with⟨_,_,hq⟩|⟨rfl,_,⟨rfl,n,rfl,hn,hid⟩|⟨rfl,_⟩⟩
  · exact absurd hf hq
  · simp only [Bool.not_true,cond_false,rg_in hn,rg_ltn hn,cond_true,Int.toNat_natCast]
    obtain⟨r',rk',e',hc,hq⟩:=complete_ok (rs.getD n (dft sRun)) (hr _ (getD_mem hn _)) c.2.2.2.2.1 c.2.2.2.2.2.1 nk
    simp only [hc,Option.bind_some]
    rcases hq with⟨rfl,hro,_,_,k,_,_,_,ht⟩|⟨m,rfl⟩
    · have hok:=okr_of (hr _ (getD_mem hn (dft sRun))) ht.ns ht.len ht.pos
      rw [sp2_0]
      try simp only [decide_true,cond_true,List.length_cons,List.length_nil,Nat.zero_add,room32 (show es.length≤60 by omega) (show 1≤60 by omega),room32 (show es.length+1≤60 by omega) (show 1≤60 by omega),rg_ltn hn]
      cases (r'.2.2.2.1==ofNat 2)with
      | true=>
        simp only [cond_true]
        try simp only [List.length_cons,List.length_nil,Nat.zero_add,room32 (show es.length≤60 by omega) (show 1≤60 by omega),room32 (show es.length+1≤60 by omega) (show 1≤60 by omega),decide_true,cond_true,List.length_append,List.length_set,Nat.le_refl,List.drop_zero]
        generalize decide (((es.length+1+1:Nat):Int)>ofNat 40)=b40
        cases b40 with
        |true=>exact⟨_,_,rfl,good_err h hr c 8⟩
        | false=>
          simp only [cond_false]
          exact⟨_,_,rfl,good_app (by rw [List.length_take,List.length_set];omega) (fun x hx=>okr_set hr hok x (List.mem_of_mem_take hx)) (by omega) rfl ⟨_,List.append_assoc _ _ _⟩ ⟨0,by simp⟩⟩
      | false=>
        simp only [cond_false]
        try simp only [List.length_cons,List.length_nil,Nat.zero_add,room32 (show es.length≤60 by omega) (show 1≤60 by omega),room32 (show es.length+1≤60 by omega) (show 1≤60 by omega),decide_true,cond_true,List.length_append,List.length_set,Nat.le_refl,List.drop_zero]
        generalize decide (((es.length+1:Nat):Int)>ofNat 40)=b40
        cases b40 with
        |true=>exact⟨_,_,rfl,good_err h hr c 8⟩
        | false=>
          simp only [cond_false]
          exact⟨_,_,rfl,good_app (by rw [List.length_take,List.length_set];omega) (fun x hx=>okr_set hr hok x (List.mem_of_mem_take hx)) (by omega) rfl ⟨_,rfl⟩ ⟨0,by simp⟩⟩
    · rw [sp2_s]
      exact⟨_,_,rfl,good_err h hr c m⟩
  · exact⟨_,_,rfl,good_err h hr c 5⟩
theorem m15b_3 {ck nr nt nk ne ac:Int} {rs:List Run} (h:SOk (mk ck nr nt nk ne ac rs [])) (hr:∀r∈rs,OkR r) (hR:List.isEmpty rs=false) (c:Call) (hk:c.1=3):
    ∃t r,M15b_3 ((mk ck nr nt nk ne ac rs []),c,())=some (t,r,())∧Good (mk ck nr nt nk ne ac rs []) c t r:=by
  have h25:=twin_ok h
  have hf:=h.fine
  have he:=h.ev40
  simp only [mk]at h25 hf he
  have h32:=hf.1
  have E:=e15b h hR
  simp only [mk]at E
  simp only [M15b_3,mk,h25,Option.bind_some,hR,List.isEmpty_nil,cond_false,Nat.zero_add,Nat.le_refl,decide_true,cond_true,allE,sgE,E]
  obtain⟨i,b,e,hfi,hq⟩:=find_ok rs (by omega) hr c.2.2.2.1
  simp only [hfi,Option.bind_some]
  rcases hq with⟨_,_,hq⟩|⟨rfl,_,⟨rfl,n,rfl,hn,hid⟩|⟨rfl,_⟩⟩
  · exact absurd hf hq
  · simp only [Bool.not_true,cond_false,rg_in hn,rg_ltn hn,cond_true,Int.toNat_natCast]
    obtain⟨r',rk',e',hc,hq⟩:=complete_ok (rs.getD n (dft sRun)) (hr _ (getD_mem hn _)) c.2.2.2.2.1 c.2.2.2.2.2.1 nk
    simp only [hc,Option.bind_some]
    rcases hq with⟨rfl,hro,_,_,k,_,_,_,ht⟩|⟨m,rfl⟩
    · have hok:=okr_of (hr _ (getD_mem hn (dft sRun))) ht.ns ht.len ht.pos
      rw [sp2_0]
      try simp only [decide_true,cond_true,List.length_cons,List.length_nil,Nat.zero_add,rg_ltn hn]
      cases (r'.2.2.2.1==ofNat 2)with
      | true=>
        simp only [cond_true]
        try simp only [List.length_cons,List.length_nil,Nat.zero_add,decide_true,cond_true,List.length_append,List.length_set,Nat.le_refl,List.drop_zero,List.cons_append,List.nil_append,Nat.reduceAdd,Nat.reduceMul,Nat.reducePow,Nat.reduceLeDiff,Bool.and_self]
        exact⟨_,_,rfl,good_app (by rw [List.length_take,List.length_set];omega) (fun x hx=>okr_set hr hok x (List.mem_of_mem_take hx)) (by omega) rfl ⟨_,rfl⟩ ⟨0,by simp⟩⟩
      | false=>
        simp only [cond_false]
        try simp only [List.length_set,Nat.le_refl,decide_true,cond_true,List.drop_zero]
        exact⟨_,_,rfl,good_app (by rw [List.length_take,List.length_set];omega) (fun x hx=>okr_set hr hok x (List.mem_of_mem_take hx)) (by omega) rfl ⟨_,rfl⟩ ⟨0,by simp⟩⟩
    · rw [sp2_s]
      exact⟨_,_,rfl,good_err h hr c m⟩
  · exact⟨_,_,rfl,good_err h hr c 5⟩
theorem m15c_3 {ck nr nt nk ne ac:Int} {es:List Event} (h:SOk (mk ck nr nt nk ne ac [] es)) (hr:∀r∈([]:List Run),OkR r) (hE:List.isEmpty es=false) (c:Call) (hk:c.1=3):
  ∃t r,M15c_3 ((mk ck nr nt nk ne ac [] es),c,())=some (t,r,())∧Good (mk ck nr nt nk ne ac [] es) c t r:=by
 have h25:=twin_ok h
 have hf:=h.fine
 have he:=h.ev40
 simp only [mk]at h25 hf he
 have h32:=hf.1
 have E:=e15c h hE
 simp only [mk]at E
 simp only [M15c_3,mk,h25,Option.bind_some,hE,List.isEmpty_nil,cond_false,Nat.zero_add,Nat.le_refl,decide_true,cond_true,allE,sgE,E]
 obtain⟨i,b,e,hfi,hq⟩:=find_ok ([]:List Run) (by omega) hr c.2.2.2.1
 simp only [hfi,Option.bind_some]
 rcases hq with⟨_,_,hq⟩|⟨rfl,_,⟨rfl,n,rfl,hn,hid⟩|⟨rfl,_⟩⟩
 ·exact absurd hf hq
 ·exact absurd hn (Nat.not_lt_zero _)
 ·exact⟨_,_,rfl,good_err h hr c 5⟩
theorem m15d_3 {ck nr nt nk ne ac:Int} (h:SOk (mk ck nr nt nk ne ac [] [])) (hr:∀r∈([]:List Run),OkR r) (c:Call) (hk:c.1=3):
  ∃t r,M15d_3 ((mk ck nr nt nk ne ac [] []),c,())=some (t,r,())∧Good (mk ck nr nt nk ne ac [] []) c t r:=by
 have h25:=twin_ok h
 have hf:=h.fine
 have he:=h.ev40
 simp only [mk]at h25 hf he
 have h32:=hf.1
 have E:=e15d h
 simp only [mk]at E
 simp only [M15d_3,mk,h25,Option.bind_some,List.isEmpty_nil,cond_false,Nat.zero_add,Nat.le_refl,decide_true,cond_true,allE,sgE,E]
 obtain⟨i,b,e,hfi,hq⟩:=find_ok ([]:List Run) (by omega) hr c.2.2.2.1
 simp only [hfi,Option.bind_some]
 rcases hq with⟨_,_,hq⟩|⟨rfl,_,⟨rfl,n,rfl,hn,hid⟩|⟨rfl,_⟩⟩
 ·exact absurd hf hq
 ·exact absurd hn (Nat.not_lt_zero _)
 ·exact⟨_,_,rfl,good_err h hr c 5⟩
theorem m15a_8 {ck nr nt nk ne ac:Int} {rs:List Run} {es:List Event} (h:SOk (mk ck nr nt nk ne ac rs es)) (hr:∀r∈rs,OkR r) (hR:List.isEmpty rs=false) (hE:List.isEmpty es=false) (c:Call) (hk:c.1=8):
    ∃t r,M15a_8 ((mk ck nr nt nk ne ac rs es),c,())=some (t,r,())∧Good (mk ck nr nt nk ne ac rs es) c t r:=by
  have h25:=twin_ok h
  have hf:=h.fine
  have he:=h.ev40
  simp only [mk]at h25 hf he
  have h32:=hf.1
  have E:=e15a h hR hE
  simp only [mk]at E
  simp only [M15a_8,mk,h25,Option.bind_some,hR,hE,cond_false,Nat.zero_add,Nat.le_refl,decide_true,cond_true,allE,sgE,E]
  obtain⟨i,b,e,hfi,hq⟩:=find_ok rs (by omega) hr c.2.2.2.1
  simp only [hfi,Option.bind_some]
  rcases hq with⟨_,_,hq⟩|⟨rfl,_,⟨rfl,n,rfl,hn,hid⟩|⟨rfl,_⟩⟩
  · exact absurd hf hq
  · simp only [Bool.not_true,cond_false,rg_in hn,rg_ltn hn,cond_true,Int.toNat_natCast]
    have h62:=f62 (rs.getD n (dft sRun)) (smT_of (hf.2.chk n hn))
    simp only [h62,Option.bind_some]
    try simp only [List.length_cons,List.length_nil,Nat.zero_add,room32 (show es.length≤60 by omega) (show 1≤60 by omega),room32 (show es.length+1≤60 by omega) (show 1≤60 by omega),decide_true,cond_true,List.length_append,List.length_set,Nat.le_refl,List.drop_zero]
    generalize decide (((es.length:Nat):Int)>ofNat 40)=b40
    cases b40 with
    |true=>exact⟨_,_,rfl,good_err h hr c 8⟩
    | false=>
      simp only [cond_false]
      exact⟨_,_,rfl,good_app (by omega) (hr) (by omega) rfl ⟨[],by simp⟩ ⟨0,by simp⟩⟩
  · exact⟨_,_,rfl,good_err h hr c 5⟩
theorem m15b_8 {ck nr nt nk ne ac:Int} {rs:List Run} (h:SOk (mk ck nr nt nk ne ac rs [])) (hr:∀r∈rs,OkR r) (hR:List.isEmpty rs=false) (c:Call) (hk:c.1=8):
  ∃t r,M15b_8 ((mk ck nr nt nk ne ac rs []),c,())=some (t,r,())∧Good (mk ck nr nt nk ne ac rs []) c t r:=by
 have h25:=twin_ok h
 have hf:=h.fine
 have he:=h.ev40
 simp only [mk]at h25 hf he
 have h32:=hf.1
 have E:=e15b h hR
 simp only [mk]at E
 simp only [M15b_8,mk,h25,Option.bind_some,hR,List.isEmpty_nil,cond_false,Nat.zero_add,Nat.le_refl,decide_true,cond_true,allE,sgE,E]
 obtain⟨i,b,e,hfi,hq⟩:=find_ok rs (by omega) hr c.2.2.2.1
 simp only [hfi,Option.bind_some]
 rcases hq with⟨_,_,hq⟩|⟨rfl,_,⟨rfl,n,rfl,hn,hid⟩|⟨rfl,_⟩⟩
 ·exact absurd hf hq
 ·simp only [Bool.not_true,cond_false,rg_in hn,rg_ltn hn,cond_true,Int.toNat_natCast]
  have h62:=f62 (rs.getD n (dft sRun)) (smT_of (hf.2.chk n hn))
  simp only [h62,Option.bind_some]
  try simp only [List.length_set,Nat.le_refl,decide_true,cond_true,List.drop_zero]
  exact⟨_,_,rfl,good_app (by omega) (hr) (by omega) rfl ⟨[],by simp⟩ ⟨0,by simp⟩⟩
 ·exact⟨_,_,rfl,good_err h hr c 5⟩
theorem m15c_8 {ck nr nt nk ne ac:Int} {es:List Event} (h:SOk (mk ck nr nt nk ne ac [] es)) (hr:∀r∈([]:List Run),OkR r) (hE:List.isEmpty es=false) (c:Call) (hk:c.1=8):
  ∃t r,M15c_8 ((mk ck nr nt nk ne ac [] es),c,())=some (t,r,())∧Good (mk ck nr nt nk ne ac [] es) c t r:=by
 have h25:=twin_ok h
 have hf:=h.fine
 have he:=h.ev40
 simp only [mk]at h25 hf he
 have h32:=hf.1
 have E:=e15c h hE
 simp only [mk]at E
 simp only [M15c_8,mk,h25,Option.bind_some,hE,List.isEmpty_nil,cond_false,Nat.zero_add,Nat.le_refl,decide_true,cond_true,allE,sgE,E]
 obtain⟨i,b,e,hfi,hq⟩:=find_ok ([]:List Run) (by omega) hr c.2.2.2.1
 simp only [hfi,Option.bind_some]
 rcases hq with⟨_,_,hq⟩|⟨rfl,_,⟨rfl,n,rfl,hn,hid⟩|⟨rfl,_⟩⟩
 ·exact absurd hf hq
 ·exact absurd hn (Nat.not_lt_zero _)
 ·exact⟨_,_,rfl,good_err h hr c 5⟩
theorem m15d_8 {ck nr nt nk ne ac:Int} (h:SOk (mk ck nr nt nk ne ac [] [])) (hr:∀r∈([]:List Run),OkR r) (c:Call) (hk:c.1=8):
  ∃t r,M15d_8 ((mk ck nr nt nk ne ac [] []),c,())=some (t,r,())∧Good (mk ck nr nt nk ne ac [] []) c t r:=by
 have h25:=twin_ok h
 have hf:=h.fine
 have he:=h.ev40
 simp only [mk]at h25 hf he
 have h32:=hf.1
 have E:=e15d h
 simp only [mk]at E
 simp only [M15d_8,mk,h25,Option.bind_some,List.isEmpty_nil,cond_false,Nat.zero_add,Nat.le_refl,decide_true,cond_true,allE,sgE,E]
 obtain⟨i,b,e,hfi,hq⟩:=find_ok ([]:List Run) (by omega) hr c.2.2.2.1
 simp only [hfi,Option.bind_some]
 rcases hq with⟨_,_,hq⟩|⟨rfl,_,⟨rfl,n,rfl,hn,hid⟩|⟨rfl,_⟩⟩
 ·exact absurd hf hq
 ·exact absurd hn (Nat.not_lt_zero _)
 ·exact⟨_,_,rfl,good_err h hr c 5⟩
theorem good_ack {ck nr nt nk ne ac ck' nr' nt' nk' ne':Int} {rs rs':List Run} {es es':List Event} {c:Call} {a b d:Int} {w:Run} (hl:rs'.length≤100) (hr:∀r∈rs',OkR r) (hc:c.1=10) (h1:ac≤c.2.2.2.2.2.2.2.1) (h2:c.2.2.2.2.2.2.2.1<ne) (he:es'=es.drop (c.2.2.2.2.2.2.2.1-ac).toNat):
  Good (mk ck nr nt nk ne ac rs es) c (mk ck' nr' nt' nk' ne' c.2.2.2.2.2.2.2.1 rs' es') (ofNat 0,a,b,d,w,[],()):=⟨hr,hl,.inr ⟨rfl,.inl ⟨hc,h1,h2,rfl,he,rfl⟩⟩⟩
theorem m15a_9 {ck nr nt nk ne ac:Int} {rs:List Run} {es:List Event} (h:SOk (mk ck nr nt nk ne ac rs es)) (hr:∀r∈rs,OkR r) (hR:List.isEmpty rs=false) (hE:List.isEmpty es=false) (c:Call) (hk:c.1=9):
    ∃t r,M15a_9 ((mk ck nr nt nk ne ac rs es),c,())=some (t,r,())∧Good (mk ck nr nt nk ne ac rs es) c t r:=by
  have h25:=twin_ok h
  have hf:=h.fine
  have he:=h.ev40
  simp only [mk]at h25 hf he
  have h32:=hf.1
  have E:=e15a h hR hE
  simp only [mk]at E
  simp only [M15a_9,mk,h25,Option.bind_some,hR,hE,cond_false,Nat.zero_add,Nat.le_refl,decide_true,cond_true,allE,sgE,E]
  by_cases c1:c.2.2.2.2.2.2.2.1<ofNat 1
  · rw [decide_eq_true c1,cond_true];exact⟨_,_,rfl,good_err h hr c 1⟩
  rw [decide_eq_false c1,cond_false]
  by_cases c2:c.2.2.2.2.2.2.2.1>ofNat 40
  · rw [decide_eq_true c2,cond_true];exact⟨_,_,rfl,good_err h hr c 1⟩
  rw [decide_eq_false c2,cond_false]
  simp only [ofN]at c1 c2
  obtain⟨m,hm,hml⟩:∃m:Nat,(if(es.length:Int)<c.2.2.2.2.2.2.2.1 then(es.length:Int)else c.2.2.2.2.2.2.2.1)=(m:Int)∧m≤es.length:=by
    split
    · exact⟨es.length,rfl,Nat.le_refl _⟩
    · exact⟨c.2.2.2.2.2.2.2.1.toNat,by omega,by omega⟩
  have hw:∀z:Int,z=0→within z (m:Int) (es.length:Int)=true:=fun z hz=>by subst hz;simp only [within,Bool.and_eq_true,decide_eq_true_eq];omega
  have h61:=f61 (es.take m) (by rw [List.length_take];omega)
  simp only [hm,hw 0 rfl,hw ((0:Nat):Int) rfl,cond_true,Int.toNat_natCast,Nat.sub_zero,Nat.add_zero,Nat.zero_add,List.drop_zero,decide_eq_true hml,h61,Option.bind_some,allE]
  generalize decide ((es.length:Int)>ofNat 40)=b40
  cases hem:List.isEmpty (List.take m es)with
  | true=>
    cases b40 with
    |true=>exact⟨_,_,rfl,good_err h hr c 8⟩
    |false=>exact⟨_,_,rfl,good_app (by omega) hr (by omega) rfl ⟨[],(List.append_nil _).symm⟩ ⟨0,rfl⟩⟩
  | false=>
    cases b40 with
    |true=>exact⟨_,_,rfl,good_err h hr c 8⟩
    |false=>exact⟨_,_,rfl,good_app (by omega) hr (by omega) rfl ⟨[],(List.append_nil _).symm⟩ ⟨m,rfl⟩⟩
theorem m15b_9 {ck nr nt nk ne ac:Int} {rs:List Run} (h:SOk (mk ck nr nt nk ne ac rs [])) (hr:∀r∈rs,OkR r) (hR:List.isEmpty rs=false) (c:Call) (hk:c.1=9):
  ∃t r,M15b_9 ((mk ck nr nt nk ne ac rs []),c,())=some (t,r,())∧Good (mk ck nr nt nk ne ac rs []) c t r:=by
 have h25:=twin_ok h
 have hf:=h.fine
 have he:=h.ev40
 simp only [mk]at h25 hf he
 have h32:=hf.1
 have E:=e15b h hR
 simp only [mk]at E
 simp only [M15b_9,mk,h25,Option.bind_some,hR,List.isEmpty_nil,cond_false,Nat.zero_add,Nat.le_refl,decide_true,cond_true,allE,sgE,E]
 by_cases c1:c.2.2.2.2.2.2.2.1<ofNat 1
 ·rw [decide_eq_true c1,cond_true];exact⟨_,_,rfl,good_err h hr c 1⟩
 rw [decide_eq_false c1,cond_false]
 by_cases c2:c.2.2.2.2.2.2.2.1>ofNat 40
 ·rw [decide_eq_true c2,cond_true];exact⟨_,_,rfl,good_err h hr c 1⟩
 rw [decide_eq_false c2,cond_false]
 simp only [ofN]at c1 c2
 have hm:(if(0:Int)<c.2.2.2.2.2.2.2.1 then(0:Int)else c.2.2.2.2.2.2.2.1)=0:=if_pos (by omega)
 have hw:∀z y:Int,z=0→y=0→within z 0 y=true:=fun z y hz hy=>by subst hz;subst hy;rfl
 have h61:=f61 [] (by decide)
 simp only [hm,hw 0 0 rfl rfl,hw ((0:Nat):Int) ((0:Nat):Int) rfl rfl,cond_true,h61,Option.bind_some,List.isEmpty_nil]
 exact⟨_,_,rfl,good_app (by omega) hr (by omega) rfl ⟨[],rfl⟩ ⟨0,rfl⟩⟩
theorem m15c_9 {ck nr nt nk ne ac:Int} {es:List Event} (h:SOk (mk ck nr nt nk ne ac [] es)) (hr:∀r∈([]:List Run),OkR r) (hE:List.isEmpty es=false) (c:Call) (hk:c.1=9):
    ∃t r,M15c_9 ((mk ck nr nt nk ne ac [] es),c,())=some (t,r,())∧Good (mk ck nr nt nk ne ac [] es) c t r:=by
  have h25:=twin_ok h
  have hf:=h.fine
  have he:=h.ev40
  simp only [mk]at h25 hf he
  have h32:=hf.1
  have E:=e15c h hE
  simp only [mk]at E
  simp only [M15c_9,mk,h25,Option.bind_some,hE,List.isEmpty_nil,cond_false,Nat.zero_add,Nat.le_refl,decide_true,cond_true,allE,sgE,E]
  by_cases c1:c.2.2.2.2.2.2.2.1<ofNat 1
  · rw [decide_eq_true c1,cond_true];exact⟨_,_,rfl,good_err h hr c 1⟩
  rw [decide_eq_false c1,cond_false]
  by_cases c2:c.2.2.2.2.2.2.2.1>ofNat 40
  · rw [decide_eq_true c2,cond_true];exact⟨_,_,rfl,good_err h hr c 1⟩
  rw [decide_eq_false c2,cond_false]
  simp only [ofN]at c1 c2
  obtain⟨m,hm,hml⟩:∃m:Nat,(if(es.length:Int)<c.2.2.2.2.2.2.2.1 then(es.length:Int)else c.2.2.2.2.2.2.2.1)=(m:Int)∧m≤es.length:=by
    split
    · exact⟨es.length,rfl,Nat.le_refl _⟩
    · exact⟨c.2.2.2.2.2.2.2.1.toNat,by omega,by omega⟩
  have hw:∀z:Int,z=0→within z (m:Int) (es.length:Int)=true:=fun z hz=>by subst hz;simp only [within,Bool.and_eq_true,decide_eq_true_eq];omega
  have h61:=f61 (es.take m) (by rw [List.length_take];omega)
  simp only [hm,hw 0 rfl,hw ((0:Nat):Int) rfl,cond_true,Int.toNat_natCast,Nat.sub_zero,Nat.add_zero,Nat.zero_add,List.drop_zero,decide_eq_true hml,h61,Option.bind_some,allE]
  generalize decide ((es.length:Int)>ofNat 40)=b40
  cases hem:List.isEmpty (List.take m es)with
  | true=>
    cases b40 with
    |true=>exact⟨_,_,rfl,good_err h hr c 8⟩
    |false=>exact⟨_,_,rfl,good_app (by simp only [List.length_nil];omega) hr (by omega) rfl ⟨[],(List.append_nil _).symm⟩ ⟨0,rfl⟩⟩
  | false=>
    cases b40 with
    |true=>exact⟨_,_,rfl,good_err h hr c 8⟩
    |false=>exact⟨_,_,rfl,good_app (by simp only [List.length_nil];omega) hr (by omega) rfl ⟨[],(List.append_nil _).symm⟩ ⟨m,rfl⟩⟩
theorem m15d_9 {ck nr nt nk ne ac:Int} (h:SOk (mk ck nr nt nk ne ac [] [])) (hr:∀r∈([]:List Run),OkR r) (c:Call) (hk:c.1=9):
  ∃t r,M15d_9 ((mk ck nr nt nk ne ac [] []),c,())=some (t,r,())∧Good (mk ck nr nt nk ne ac [] []) c t r:=by
 have h25:=twin_ok h
 have hf:=h.fine
 have he:=h.ev40
 simp only [mk]at h25 hf he
 have h32:=hf.1
 have E:=e15d h
 simp only [mk]at E
 simp only [M15d_9,mk,h25,Option.bind_some,List.isEmpty_nil,cond_false,Nat.zero_add,Nat.le_refl,decide_true,cond_true,allE,sgE,E]
 by_cases c1:c.2.2.2.2.2.2.2.1<ofNat 1
 ·rw [decide_eq_true c1,cond_true];exact⟨_,_,rfl,good_err h hr c 1⟩
 rw [decide_eq_false c1,cond_false]
 by_cases c2:c.2.2.2.2.2.2.2.1>ofNat 40
 ·rw [decide_eq_true c2,cond_true];exact⟨_,_,rfl,good_err h hr c 1⟩
 rw [decide_eq_false c2,cond_false]
 simp only [ofN]at c1 c2
 have hm:(if(0:Int)<c.2.2.2.2.2.2.2.1 then(0:Int)else c.2.2.2.2.2.2.2.1)=0:=if_pos (by omega)
 have hw:∀z y:Int,z=0→y=0→within z 0 y=true:=fun z y hz hy=>by subst hz;subst hy;rfl
 have h61:=f61 [] (by decide)
 simp only [hm,hw 0 0 rfl rfl,hw ((0:Nat):Int) ((0:Nat):Int) rfl rfl,cond_true,h61,Option.bind_some,List.isEmpty_nil]
 exact⟨_,_,rfl,good_app (by simp only [List.length_nil];omega) hr (by omega) rfl ⟨[],rfl⟩ ⟨0,rfl⟩⟩
theorem m15a_10 {ck nr nt nk ne ac:Int} {rs:List Run} {es:List Event} (h:SOk (mk ck nr nt nk ne ac rs es)) (hr:∀r∈rs,OkR r) (hR:List.isEmpty rs=false) (hE:List.isEmpty es=false) (c:Call) (hk:c.1=10):
    ∃t r,M15a_10 ((mk ck nr nt nk ne ac rs es),c,())=some (t,r,())∧Good (mk ck nr nt nk ne ac rs es) c t r:=by
  have h25:=twin_ok h
  have hf:=h.fine
  have he:=h.ev40
  simp only [mk]at h25 hf he
  have h32:=hf.1
  have E:=e15a h hR hE
  simp only [mk]at E
  simp only [M15a_10,mk,h25,Option.bind_some,hR,hE,cond_false,Nat.zero_add,Nat.le_refl,decide_true,cond_true,allE,sgE,E]
  by_cases c1:c.2.2.2.2.2.2.2.1<ac
  · rw [decide_eq_true c1,cond_true];exact⟨_,_,rfl,good_err h hr c 1⟩
  rw [decide_eq_false c1,cond_false]
  by_cases c2:c.2.2.2.2.2.2.2.1≥ne
  · rw [decide_eq_true c2,cond_true];exact⟨_,_,rfl,good_err h hr c 1⟩
  rw [decide_eq_false c2,cond_false]
  have hac:=h.ack
  have hne:=h.ne
  have hel:=h.elen
  simp only [mk]at hac hne hel
  obtain⟨m,hm⟩:∃m:Nat,c.2.2.2.2.2.2.2.1-ac=(m:Int):=⟨(c.2.2.2.2.2.2.2.1-ac).toNat,by omega⟩
  have hml:m≤es.length:=by omega
  have hwr:IntKind.i64.wrap (c.2.2.2.2.2.2.2.1-ac)=(m:Int):=by rw [IntKind.wrap_i64];omega
  have htn:(c.2.2.2.2.2.2.2.1-ac).toNat=m:=by omega
  have hw:∀z:Int,z=0→within z (m:Int) (es.length:Int)=true:=fun z hz=>by subst hz;simp only [within,Bool.and_eq_true,decide_eq_true_eq];omega
  have htk:List.take (es.length-m) (List.drop m es)=List.drop m es:=List.take_of_length_le (by rw [List.length_drop];omega)
  have h61:=f61 (es.drop m) (by rw [List.length_drop];omega)
  have hd:decide (m+(es.length-m)≤es.length)=true:=decide_eq_true (by omega)
  simp only [hwr,hw 0 rfl,hw ((0:Nat):Int) rfl,cond_true,Int.toNat_natCast,Nat.zero_add,htk,hd,h61,Option.bind_some,allE]
  cases hem:List.isEmpty (List.drop m es)with
  |true=>exact⟨_,_,rfl,good_ack (by omega) hr hk (by omega) (by omega) (by rw [htn];exact(show es.drop m= [] by simpa using hem).symm)⟩
  | false=>
    generalize decide (((List.drop m es).length:Int)>ofNat 40)=b40
    cases b40 with
    |true=>exact⟨_,_,rfl,good_err h hr c 8⟩
    |false=>exact⟨_,_,rfl,good_ack (by omega) hr hk (by omega) (by omega) (by rw [htn])⟩
theorem m15b_10 {ck nr nt nk ne ac:Int} {rs:List Run} (h:SOk (mk ck nr nt nk ne ac rs [])) (hr:∀r∈rs,OkR r) (hR:List.isEmpty rs=false) (c:Call) (hk:c.1=10):
  ∃t r,M15b_10 ((mk ck nr nt nk ne ac rs []),c,())=some (t,r,())∧Good (mk ck nr nt nk ne ac rs []) c t r:=by
 have h25:=twin_ok h
 have hf:=h.fine
 have he:=h.ev40
 simp only [mk]at h25 hf he
 have h32:=hf.1
 have E:=e15b h hR
 simp only [mk]at E
 simp only [M15b_10,mk,h25,Option.bind_some,hR,List.isEmpty_nil,cond_false,Nat.zero_add,Nat.le_refl,decide_true,cond_true,allE,sgE,E]
 by_cases c1:c.2.2.2.2.2.2.2.1<ac
 ·rw [decide_eq_true c1,cond_true];exact⟨_,_,rfl,good_err h hr c 1⟩
 rw [decide_eq_false c1,cond_false]
 by_cases c2:c.2.2.2.2.2.2.2.1≥ne
 ·rw [decide_eq_true c2,cond_true];exact⟨_,_,rfl,good_err h hr c 1⟩
 rw [decide_eq_false c2,cond_false]
 have hac:=h.ack
 have hne:=h.ne
 have hel:=h.elen
 simp only [mk]at hac hne hel
 have hto:c.2.2.2.2.2.2.2.1=ac:=by simp only [List.length_nil]at hel;omega
 have hwr:IntKind.i64.wrap (c.2.2.2.2.2.2.2.1-ac)=0:=by rw [IntKind.wrap_i64];omega
 have hw:∀z y:Int,z=0→y=0→within z 0 y=true:=fun z y hz hy=>by subst hz;subst hy;rfl
 have h61:=f61 [] (by decide)
 simp only [hwr,hw 0 0 rfl rfl,hw ((0:Nat):Int) ((0:Nat):Int) rfl rfl,cond_true,h61,Option.bind_some,List.isEmpty_nil]
 exact⟨_,_,rfl,good_ack (by omega) hr hk (by omega) (by omega) (by simp)⟩
theorem m15c_10 {ck nr nt nk ne ac:Int} {es:List Event} (h:SOk (mk ck nr nt nk ne ac [] es)) (hr:∀r∈([]:List Run),OkR r) (hE:List.isEmpty es=false) (c:Call) (hk:c.1=10):
    ∃t r,M15c_10 ((mk ck nr nt nk ne ac [] es),c,())=some (t,r,())∧Good (mk ck nr nt nk ne ac [] es) c t r:=by
  have h25:=twin_ok h
  have hf:=h.fine
  have he:=h.ev40
  simp only [mk]at h25 hf he
  have h32:=hf.1
  have E:=e15c h hE
  simp only [mk]at E
  simp only [M15c_10,mk,h25,Option.bind_some,hE,List.isEmpty_nil,cond_false,Nat.zero_add,Nat.le_refl,decide_true,cond_true,allE,sgE,E]
  by_cases c1:c.2.2.2.2.2.2.2.1<ac
  · rw [decide_eq_true c1,cond_true];exact⟨_,_,rfl,good_err h hr c 1⟩
  rw [decide_eq_false c1,cond_false]
  by_cases c2:c.2.2.2.2.2.2.2.1≥ne
  · rw [decide_eq_true c2,cond_true];exact⟨_,_,rfl,good_err h hr c 1⟩
  rw [decide_eq_false c2,cond_false]
  have hac:=h.ack
  have hne:=h.ne
  have hel:=h.elen
  simp only [mk]at hac hne hel
  obtain⟨m,hm⟩:∃m:Nat,c.2.2.2.2.2.2.2.1-ac=(m:Int):=⟨(c.2.2.2.2.2.2.2.1-ac).toNat,by omega⟩
  have hml:m≤es.length:=by omega
  have hwr:IntKind.i64.wrap (c.2.2.2.2.2.2.2.1-ac)=(m:Int):=by rw [IntKind.wrap_i64];omega
  have htn:(c.2.2.2.2.2.2.2.1-ac).toNat=m:=by omega
  have hw:∀z:Int,z=0→within z (m:Int) (es.length:Int)=true:=fun z hz=>by subst hz;simp only [within,Bool.and_eq_true,decide_eq_true_eq];omega
  have htk:List.take (es.length-m) (List.drop m es)=List.drop m es:=List.take_of_length_le (by rw [List.length_drop];omega)
  have h61:=f61 (es.drop m) (by rw [List.length_drop];omega)
  have hd:decide (m+(es.length-m)≤es.length)=true:=decide_eq_true (by omega)
  simp only [hwr,hw 0 rfl,hw ((0:Nat):Int) rfl,cond_true,Int.toNat_natCast,Nat.zero_add,htk,hd,h61,Option.bind_some,allE]
  cases hem:List.isEmpty (List.drop m es)with
  |true=>exact⟨_,_,rfl,good_ack (by simp only [List.length_nil];omega) hr hk (by omega) (by omega) (by rw [htn];exact(show es.drop m= [] by simpa using hem).symm)⟩
  | false=>
    generalize decide (((List.drop m es).length:Int)>ofNat 40)=b40
    cases b40 with
    |true=>exact⟨_,_,rfl,good_err h hr c 8⟩
    |false=>exact⟨_,_,rfl,good_ack (by simp only [List.length_nil];omega) hr hk (by omega) (by omega) (by rw [htn])⟩
theorem m15d_10 {ck nr nt nk ne ac:Int} (h:SOk (mk ck nr nt nk ne ac [] [])) (hr:∀r∈([]:List Run),OkR r) (c:Call) (hk:c.1=10):
  ∃t r,M15d_10 ((mk ck nr nt nk ne ac [] []),c,())=some (t,r,())∧Good (mk ck nr nt nk ne ac [] []) c t r:=by
 have h25:=twin_ok h
 have hf:=h.fine
 have he:=h.ev40
 simp only [mk]at h25 hf he
 have h32:=hf.1
 have E:=e15d h
 simp only [mk]at E
 simp only [M15d_10,mk,h25,Option.bind_some,List.isEmpty_nil,cond_false,Nat.zero_add,Nat.le_refl,decide_true,cond_true,allE,sgE,E]
 by_cases c1:c.2.2.2.2.2.2.2.1<ac
 ·rw [decide_eq_true c1,cond_true];exact⟨_,_,rfl,good_err h hr c 1⟩
 rw [decide_eq_false c1,cond_false]
 by_cases c2:c.2.2.2.2.2.2.2.1≥ne
 ·rw [decide_eq_true c2,cond_true];exact⟨_,_,rfl,good_err h hr c 1⟩
 rw [decide_eq_false c2,cond_false]
 have hac:=h.ack
 have hne:=h.ne
 have hel:=h.elen
 simp only [mk]at hac hne hel
 have hto:c.2.2.2.2.2.2.2.1=ac:=by simp only [List.length_nil]at hel;omega
 have hwr:IntKind.i64.wrap (c.2.2.2.2.2.2.2.1-ac)=0:=by rw [IntKind.wrap_i64];omega
 have hw:∀z y:Int,z=0→y=0→within z 0 y=true:=fun z y hz hy=>by subst hz;subst hy;rfl
 have h61:=f61 [] (by decide)
 simp only [hwr,hw 0 0 rfl rfl,hw ((0:Nat):Int) ((0:Nat):Int) rfl rfl,cond_true,h61,Option.bind_some,List.isEmpty_nil]
 exact⟨_,_,rfl,good_ack (by simp only [List.length_nil];omega) hr hk (by omega) (by omega) (by simp)⟩
theorem f118 (n:Int):∃b,F118 (n,())=some (b,()):=by
 simp only [F118]
 cases decide (n≥ofNat 1)with
 |true=>exact⟨_,rfl⟩
 |false=>exact⟨_,rfl⟩
section
variable {S R:Type} {G:S→R→Prop}
theorem beat_step {K:Run×Int×Unit→Option (S×R×Unit)} (r:Run) (hr:OkR r) (i tk un:Int) (hok:∀r',OkR r'→∃t q,K (r',0,())=some (t,q,())∧G t q) (herr:∀n:Nat,∃t q,K (r0_,ofNat (n+1),())=some (t,q,())∧G t q):
  ∃t q,(F126 (r,i,tk,un,())).bind K=some (t,q,())∧G t q:=by
 obtain⟨r',e',hc,hq⟩:=turn_ok r hr i (fun nd t=>F173 (nd,t,tk,un,())) (fun nd t h1 h2 h3=>dBeat h1 h2)
 rw [←beat_eq]at hc
 rw [hc]
 rcases hq with⟨rfl,hro,_,k,t',_,_,_,ht⟩|⟨⟨m,rfl⟩,rfl,_⟩
 ·exact hok r' (okr_of hr ht.ns ht.len ht.pos)
 ·exact herr m
theorem lease_step {K:Run×Int×Unit→Option (S×R×Unit)} (r:Run) (hr:OkR r) (i tk un:Int) (hok:∀r',OkR r'→∃t q,K (r',0,())=some (t,q,())∧G t q) (herr:∀n:Nat,∃t q,K (r0_,ofNat (n+1),())=some (t,q,())∧G t q):
  ∃t q,(F121 (r,i,tk,un,())).bind K=some (t,q,())∧G t q:=by
 obtain⟨r',e',hc,hq⟩:=turn_ok r hr i (fun nd t=>F167 (nd,t,tk,un,())) (fun nd t h1 h2 h3=>dLease h1 h2)
 rw [←lease_eq]at hc
 rw [hc]
 rcases hq with⟨rfl,hro,_,k,t',_,_,_,ht⟩|⟨⟨m,rfl⟩,rfl,_⟩
 ·exact hok r' (okr_of hr ht.ns ht.len ht.pos)
 ·exact herr m
theorem start_step {K:Run×Int×Int×Unit→Option (S×R×Unit)} (id:Int) (key:ByteArray) (sp:List Node×Unit) (hln:∀nd∈sp.1,nd.1.length≤9223372036854775807) (rk:Int) (hok:∀r' rk',OkR r'→∃t q,K (r',rk',0,())=some (t,q,())∧G t q) (herr:∀r' rk' (n:Nat),∃t q,K (r',rk',ofNat (n+1),())=some (t,q,())∧G t q):
  ∃t q,(F116 (id,key,sp,rk,())).bind K=some (t,q,())∧G t q:=by
 obtain⟨ns,_⟩:=sp
 obtain⟨r',rk',e,hc,hq⟩:=start_ok id key ns hln rk
 rw [hc]
 rcases hq with⟨rfl,_,_,hd,_,rfl,rfl⟩|⟨⟨m,rfl⟩,_⟩
 ·refine hok _ _ ⟨hln,?_,?_⟩
  ·have:=opn_len ns (rk,List.replicate ns.length t0) ns.length
   have:=hd.1.2
   simp only [List.length_replicate]at*
   omega
  ·exact opn_pos ns _ (fun t ht=>by rw [List.eq_of_mem_replicate ht];exact Int.natCast_nonneg 0) _
 ·exact herr r' rk' m
end
theorem m15a_5 {ck nr nt nk ne ac:Int} {rs:List Run} {es:List Event} (h:SOk (mk ck nr nt nk ne ac rs es)) (hr:∀r∈rs,OkR r) (hR:List.isEmpty rs=false) (hE:List.isEmpty es=false) (c:Call) (hk:c.1=5):
    ∃t r,M15a_5 ((mk ck nr nt nk ne ac rs es),c,())=some (t,r,())∧Good (mk ck nr nt nk ne ac rs es) c t r:=by
  have h25:=twin_ok h
  have hf:=h.fine
  have he:=h.ev40
  simp only [mk]at h25 hf he
  have h32:=hf.1
  have E:=e15a h hR hE
  simp only [mk]at E
  obtain⟨bs,hbs⟩:=f118 c.2.2.2.2.2.2.1
  simp only [M15a_5,mk,h25,Option.bind_some,hR,hE,cond_false,Nat.zero_add,Nat.le_refl,decide_true,cond_true,allE,sgE,E,hbs]
  cases bs with
  |false=>exact⟨_,_,rfl,good_err h hr c 1⟩
  |true=>
  simp only [Bool.not_true,cond_false]
  obtain⟨i,b,e,hfi,hq⟩:=find_ok rs (by omega) hr c.2.2.2.1
  simp only [hfi,Option.bind_some]
  rcases hq with⟨_,_,hq⟩|⟨rfl,_,⟨rfl,n,rfl,hn,hid⟩|⟨rfl,_⟩⟩
  · exact absurd hf hq
  · simp only [Bool.not_true,cond_false,rg_in hn,rg_ltn hn,cond_true,Int.toNat_natCast]
    refine beat_step _ (hr _ (getD_mem hn _)) _ _ _ (fun r' hok=> ?_) (fun m=> ?_)
    · simp only [sp2_0]
      try simp only [List.length_cons,List.length_nil,Nat.zero_add,room32 (show es.length≤60 by omega) (show 1≤60 by omega),room32 (show es.length+1≤60 by omega) (show 1≤60 by omega),decide_true,cond_true,List.length_append,List.length_set,Nat.le_refl,List.drop_zero]
      generalize decide (((es.length:Nat):Int)>ofNat 40)=b40
      cases b40 with
      |true=>exact⟨_,_,rfl,good_err h hr c 8⟩
      | false=>
        simp only [cond_false]
        exact⟨_,_,rfl,good_app (by rw [List.length_take,List.length_set];omega) (fun x hx=>okr_set hr hok x (List.mem_of_mem_take hx)) (by omega) rfl ⟨[],by simp⟩ ⟨0,by simp⟩⟩
    · simp only [sp2_s]
      exact⟨_,_,rfl,good_err h hr c m⟩
  · exact⟨_,_,rfl,good_err h hr c 5⟩
theorem m15b_5 {ck nr nt nk ne ac:Int} {rs:List Run} (h:SOk (mk ck nr nt nk ne ac rs [])) (hr:∀r∈rs,OkR r) (hR:List.isEmpty rs=false) (c:Call) (hk:c.1=5):
  ∃t r,M15b_5 ((mk ck nr nt nk ne ac rs []),c,())=some (t,r,())∧Good (mk ck nr nt nk ne ac rs []) c t r:=by
 have h25:=twin_ok h
 have hf:=h.fine
 have he:=h.ev40
 simp only [mk]at h25 hf he
 have h32:=hf.1
 have E:=e15b h hR
 simp only [mk]at E
 obtain⟨bs,hbs⟩:=f118 c.2.2.2.2.2.2.1
 simp only [M15b_5,mk,h25,Option.bind_some,hR,List.isEmpty_nil,cond_false,Nat.zero_add,Nat.le_refl,decide_true,cond_true,allE,sgE,E,hbs]
 cases bs with
 |false=>exact⟨_,_,rfl,good_err h hr c 1⟩
 |true=>
 simp only [Bool.not_true,cond_false]
 obtain⟨i,b,e,hfi,hq⟩:=find_ok rs (by omega) hr c.2.2.2.1
 simp only [hfi,Option.bind_some]
 rcases hq with⟨_,_,hq⟩|⟨rfl,_,⟨rfl,n,rfl,hn,hid⟩|⟨rfl,_⟩⟩
 ·exact absurd hf hq
 ·simp only [Bool.not_true,cond_false,rg_in hn,rg_ltn hn,cond_true,Int.toNat_natCast]
  refine beat_step _ (hr _ (getD_mem hn _)) _ _ _ (fun r' hok=> ?_) (fun m=> ?_)
  ·simp only [sp2_0]
   try simp only [List.length_set,Nat.le_refl,decide_true,cond_true,List.drop_zero]
   exact⟨_,_,rfl,good_app (by rw [List.length_take,List.length_set];omega) (fun x hx=>okr_set hr hok x (List.mem_of_mem_take hx)) (by omega) rfl ⟨[],by simp⟩ ⟨0,by simp⟩⟩
  ·simp only [sp2_s]
   exact⟨_,_,rfl,good_err h hr c m⟩
 ·exact⟨_,_,rfl,good_err h hr c 5⟩
theorem m15c_5 {ck nr nt nk ne ac:Int} {es:List Event} (h:SOk (mk ck nr nt nk ne ac [] es)) (hr:∀r∈([]:List Run),OkR r) (hE:List.isEmpty es=false) (c:Call) (hk:c.1=5):
  ∃t r,M15c_5 ((mk ck nr nt nk ne ac [] es),c,())=some (t,r,())∧Good (mk ck nr nt nk ne ac [] es) c t r:=by
 have h25:=twin_ok h
 have hf:=h.fine
 have he:=h.ev40
 simp only [mk]at h25 hf he
 have h32:=hf.1
 have E:=e15c h hE
 simp only [mk]at E
 obtain⟨bs,hbs⟩:=f118 c.2.2.2.2.2.2.1
 simp only [M15c_5,mk,h25,Option.bind_some,hE,List.isEmpty_nil,cond_false,Nat.zero_add,Nat.le_refl,decide_true,cond_true,allE,sgE,E,hbs]
 cases bs with
 |false=>exact⟨_,_,rfl,good_err h hr c 1⟩
 |true=>
 simp only [Bool.not_true,cond_false]
 obtain⟨i,b,e,hfi,hq⟩:=find_ok ([]:List Run) (by omega) hr c.2.2.2.1
 simp only [hfi,Option.bind_some]
 rcases hq with⟨_,_,hq⟩|⟨rfl,_,⟨rfl,n,rfl,hn,hid⟩|⟨rfl,_⟩⟩
 ·exact absurd hf hq
 ·exact absurd hn (Nat.not_lt_zero _)
 ·exact⟨_,_,rfl,good_err h hr c 5⟩
theorem m15d_5 {ck nr nt nk ne ac:Int} (h:SOk (mk ck nr nt nk ne ac [] [])) (hr:∀r∈([]:List Run),OkR r) (c:Call) (hk:c.1=5):
  ∃t r,M15d_5 ((mk ck nr nt nk ne ac [] []),c,())=some (t,r,())∧Good (mk ck nr nt nk ne ac [] []) c t r:=by
 have h25:=twin_ok h
 have hf:=h.fine
 have he:=h.ev40
 simp only [mk]at h25 hf he
 have h32:=hf.1
 have E:=e15d h
 simp only [mk]at E
 obtain⟨bs,hbs⟩:=f118 c.2.2.2.2.2.2.1
 simp only [M15d_5,mk,h25,Option.bind_some,List.isEmpty_nil,cond_false,Nat.zero_add,Nat.le_refl,decide_true,cond_true,allE,sgE,E,hbs]
 cases bs with
 |false=>exact⟨_,_,rfl,good_err h hr c 1⟩
 |true=>
 simp only [Bool.not_true,cond_false]
 obtain⟨i,b,e,hfi,hq⟩:=find_ok ([]:List Run) (by omega) hr c.2.2.2.1
 simp only [hfi,Option.bind_some]
 rcases hq with⟨_,_,hq⟩|⟨rfl,_,⟨rfl,n,rfl,hn,hid⟩|⟨rfl,_⟩⟩
 ·exact absurd hf hq
 ·exact absurd hn (Nat.not_lt_zero _)
 ·exact⟨_,_,rfl,good_err h hr c 5⟩
theorem m15a_2 {ck nr nt nk ne ac:Int} {rs:List Run} {es:List Event} (h:SOk (mk ck nr nt nk ne ac rs es)) (hr:∀r∈rs,OkR r) (hR:List.isEmpty rs=false) (hE:List.isEmpty es=false) (c:Call) (hk:c.1=2):
    ∃t r,M15a_2 ((mk ck nr nt nk ne ac rs es),c,())=some (t,r,())∧Good (mk ck nr nt nk ne ac rs es) c t r:=by
  have h25:=twin_ok h
  have hf:=h.fine
  have he:=h.ev40
  simp only [mk]at h25 hf he
  have h32:=hf.1
  have E:=e15a h hR hE
  simp only [mk]at E
  obtain⟨bs,hbs⟩:=f118 c.2.2.2.2.2.2.1
  simp only [M15a_2,mk,h25,Option.bind_some,hR,hE,cond_false,Nat.zero_add,Nat.le_refl,decide_true,cond_true,allE,sgE,E,hbs]
  cases bs with
  |false=>exact⟨_,_,rfl,good_err h hr c 1⟩
  |true=>
  simp only [Bool.not_true,cond_false]
  obtain⟨p,b,e,hnx,hq⟩:=next_ok rs (by omega) hr
  simp only [hnx,Option.bind_some]
  rcases hq with⟨_,_,hq⟩|⟨rfl,_,_,_,hex⟩
  · exact absurd hf hq
  cases b with
  |false=>exact⟨_,_,rfl,good_err h hr c 5⟩
  |true=>
  obtain⟨n0,k0,hn0,_,_,hp,_⟩:=hex rfl
  simp only [Bool.not_true,cond_false]
  obtain⟨i,b,e,hfi,hq⟩:=find_ok rs (by omega) hr p.1
  simp only [hfi,Option.bind_some]
  rcases hq with⟨_,_,hq⟩|⟨rfl,_,⟨rfl,n,rfl,hn,hid⟩|⟨rfl,hno⟩⟩
  · exact absurd hf hq
  · simp only [Bool.not_true,cond_false,rg_in hn,rg_ltn hn,cond_true,Int.toNat_natCast]
    refine lease_step _ (hr _ (getD_mem hn _)) _ _ _ (fun r' hok=> ?_) (fun m=> ?_)
    · simp only [sp2_0]
      try simp only [List.length_cons,List.length_nil,Nat.zero_add,room32 (show es.length≤60 by omega) (show 1≤60 by omega),room32 (show es.length+1≤60 by omega) (show 1≤60 by omega),decide_true,cond_true,List.length_append,List.length_set,Nat.le_refl,List.drop_zero]
      generalize decide (((es.length:Nat):Int)>ofNat 40)=b40
      cases b40 with
      |true=>exact⟨_,_,rfl,good_err h hr c 8⟩
      | false=>
        simp only [cond_false]
        exact⟨_,_,rfl,good_app (by rw [List.length_take,List.length_set];omega) (fun x hx=>okr_set hr hok x (List.mem_of_mem_take hx)) (by omega) rfl ⟨[],by simp⟩ ⟨0,by simp⟩⟩
    · simp only [sp2_s]
      exact⟨_,_,rfl,good_err h hr c m⟩
  · exact absurd hp.symm (hno n0 hn0)
theorem m15b_2 {ck nr nt nk ne ac:Int} {rs:List Run} (h:SOk (mk ck nr nt nk ne ac rs [])) (hr:∀r∈rs,OkR r) (hR:List.isEmpty rs=false) (c:Call) (hk:c.1=2):
  ∃t r,M15b_2 ((mk ck nr nt nk ne ac rs []),c,())=some (t,r,())∧Good (mk ck nr nt nk ne ac rs []) c t r:=by
 have h25:=twin_ok h
 have hf:=h.fine
 have he:=h.ev40
 simp only [mk]at h25 hf he
 have h32:=hf.1
 have E:=e15b h hR
 simp only [mk]at E
 obtain⟨bs,hbs⟩:=f118 c.2.2.2.2.2.2.1
 simp only [M15b_2,mk,h25,Option.bind_some,hR,List.isEmpty_nil,cond_false,Nat.zero_add,Nat.le_refl,decide_true,cond_true,allE,sgE,E,hbs]
 cases bs with
 |false=>exact⟨_,_,rfl,good_err h hr c 1⟩
 |true=>
 simp only [Bool.not_true,cond_false]
 obtain⟨p,b,e,hnx,hq⟩:=next_ok rs (by omega) hr
 simp only [hnx,Option.bind_some]
 rcases hq with⟨_,_,hq⟩|⟨rfl,_,_,_,hex⟩
 ·exact absurd hf hq
 cases b with
 |false=>exact⟨_,_,rfl,good_err h hr c 5⟩
 |true=>
 obtain⟨n0,k0,hn0,_,_,hp,_⟩:=hex rfl
 simp only [Bool.not_true,cond_false]
 obtain⟨i,b,e,hfi,hq⟩:=find_ok rs (by omega) hr p.1
 simp only [hfi,Option.bind_some]
 rcases hq with⟨_,_,hq⟩|⟨rfl,_,⟨rfl,n,rfl,hn,hid⟩|⟨rfl,hno⟩⟩
 ·exact absurd hf hq
 ·simp only [Bool.not_true,cond_false,rg_in hn,rg_ltn hn,cond_true,Int.toNat_natCast]
  refine lease_step _ (hr _ (getD_mem hn _)) _ _ _ (fun r' hok=> ?_) (fun m=> ?_)
  ·simp only [sp2_0]
   try simp only [List.length_set,Nat.le_refl,decide_true,cond_true,List.drop_zero]
   exact⟨_,_,rfl,good_app (by rw [List.length_take,List.length_set];omega) (fun x hx=>okr_set hr hok x (List.mem_of_mem_take hx)) (by omega) rfl ⟨[],by simp⟩ ⟨0,by simp⟩⟩
  ·simp only [sp2_s]
   exact⟨_,_,rfl,good_err h hr c m⟩
 ·exact absurd hp.symm (hno n0 hn0)
theorem m15c_2 {ck nr nt nk ne ac:Int} {es:List Event} (h:SOk (mk ck nr nt nk ne ac [] es)) (hr:∀r∈([]:List Run),OkR r) (hE:List.isEmpty es=false) (c:Call) (hk:c.1=2):
  ∃t r,M15c_2 ((mk ck nr nt nk ne ac [] es),c,())=some (t,r,())∧Good (mk ck nr nt nk ne ac [] es) c t r:=by
 have h25:=twin_ok h
 have hf:=h.fine
 have he:=h.ev40
 simp only [mk]at h25 hf he
 have h32:=hf.1
 have E:=e15c h hE
 simp only [mk]at E
 obtain⟨bs,hbs⟩:=f118 c.2.2.2.2.2.2.1
 simp only [M15c_2,mk,h25,Option.bind_some,hE,List.isEmpty_nil,cond_false,Nat.zero_add,Nat.le_refl,decide_true,cond_true,allE,sgE,E,hbs]
 cases bs with
 |false=>exact⟨_,_,rfl,good_err h hr c 1⟩
 |true=>
 simp only [Bool.not_true,cond_false]
 obtain⟨p,b,e,hnx,hq⟩:=next_ok ([]:List Run) (by omega) hr
 simp only [hnx,Option.bind_some]
 rcases hq with⟨_,_,hq⟩|⟨rfl,_,_,_,hex⟩
 ·exact absurd hf hq
 cases b with
 |false=>exact⟨_,_,rfl,good_err h hr c 5⟩
 |true=>
 obtain⟨n0,k0,hn0,_,_,hp,_⟩:=hex rfl
 exact absurd hn0 (Nat.not_lt_zero _)
theorem m15d_2 {ck nr nt nk ne ac:Int} (h:SOk (mk ck nr nt nk ne ac [] [])) (hr:∀r∈([]:List Run),OkR r) (c:Call) (hk:c.1=2):
  ∃t r,M15d_2 ((mk ck nr nt nk ne ac [] []),c,())=some (t,r,())∧Good (mk ck nr nt nk ne ac [] []) c t r:=by
 have h25:=twin_ok h
 have hf:=h.fine
 have he:=h.ev40
 simp only [mk]at h25 hf he
 have h32:=hf.1
 have E:=e15d h
 simp only [mk]at E
 obtain⟨bs,hbs⟩:=f118 c.2.2.2.2.2.2.1
 simp only [M15d_2,mk,h25,Option.bind_some,List.isEmpty_nil,cond_false,Nat.zero_add,Nat.le_refl,decide_true,cond_true,allE,sgE,E,hbs]
 cases bs with
 |false=>exact⟨_,_,rfl,good_err h hr c 1⟩
 |true=>
 simp only [Bool.not_true,cond_false]
 obtain⟨p,b,e,hnx,hq⟩:=next_ok ([]:List Run) (by omega) hr
 simp only [hnx,Option.bind_some]
 rcases hq with⟨_,_,hq⟩|⟨rfl,_,_,_,hex⟩
 ·exact absurd hf hq
 cases b with
 |false=>exact⟨_,_,rfl,good_err h hr c 5⟩
 |true=>
 obtain⟨n0,k0,hn0,_,_,hp,_⟩:=hex rfl
 exact absurd hn0 (Nat.not_lt_zero _)
theorem room80 {n:Nat} (h:n≤60):(decide ((n+1)*80≤2^46) && decide (n+1≤2^46))=true:=room2 (by omega) (by omega)
theorem m15a_1 {ck nr nt nk ne ac:Int} {rs:List Run} {es:List Event} (h:SOk (mk ck nr nt nk ne ac rs es)) (hr:∀r∈rs,OkR r) (hR:List.isEmpty rs=false) (hE:List.isEmpty es=false) (c:Call) (hcl:∀nd∈c.2.2.1.1,nd.1.length≤9223372036854775807) (hk:c.1=1):
    ∃t r,M15a_1 ((mk ck nr nt nk ne ac rs es),c,())=some (t,r,())∧Good (mk ck nr nt nk ne ac rs es) c t r:=by
  have h25:=twin_ok h
  have hf:=h.fine
  have he:=h.ev40
  simp only [mk]at h25 hf he
  have h32:=hf.1
  have E:=e15a h hR hE
  simp only [mk]at E
  simp only [M15a_1,mk,h25,Option.bind_some,hR,hE,cond_false,Nat.zero_add,Nat.le_refl,decide_true,cond_true,allE,sgE,E]
  by_cases c1:((c.2.1.size:Nat):Int)<ofNat 1
  · rw [decide_eq_true c1,cond_true];exact⟨_,_,rfl,good_err h hr c 2⟩
  rw [decide_eq_false c1,cond_false]
  by_cases c2:((c.2.1.size:Nat):Int)>ofNat 24
  · rw [decide_eq_true c2,cond_true];exact⟨_,_,rfl,good_err h hr c 2⟩
  rw [decide_eq_false c2,cond_false]
  obtain⟨v,hv,hc⟩:=f114 c.2.2.1.1 hcl
  have hv':F114 (c.2.2.1,())=some (v,()):=hv
  simp only [hv',Option.bind_some]
  rcases hc with⟨rfl,hdag⟩|⟨rfl,_⟩
  · simp only [sp2_0]
    obtain⟨i,b,e,hkn,hq⟩:=known_ok rs (by omega) hr c.2.1
    simp only [hkn,Option.bind_some]
    rcases hq with⟨_,_,hq⟩|⟨rfl,_,_⟩
    · exact absurd hf hq
    cases b with
    | true=>
      simp only [cond_true]
      try simp only [List.length_cons,List.length_nil,Nat.zero_add,room32 (show es.length≤60 by omega) (show 1≤60 by omega),room32 (show es.length+1≤60 by omega) (show 1≤60 by omega),decide_true,cond_true,List.length_append,List.length_set,Nat.le_refl,List.drop_zero]
      generalize decide (((es.length:Nat):Int)>ofNat 40)=b40
      cases b40 with
      |true=>exact⟨_,_,rfl,good_err h hr c 8⟩
      | false=>
        simp only [cond_false]
        exact⟨_,_,rfl,good_app (by first|omega|decide) (hr) (by omega) rfl ⟨[],by simp⟩ ⟨0,by simp⟩⟩
    | false=>
      simp only [cond_false]
      by_cases c32:((rs.length:Nat):Int)=32
      · rw [show(((rs.length:Nat):Int)==ofNat 32)=true by rw [c32];rfl,cond_true];exact⟨_,_,rfl,good_err h hr c 8⟩
      · rw [show(((rs.length:Nat):Int)==ofNat 32)=false by simpa using c32,cond_false]
        refine start_step _ _ _ hcl _ (fun r' rk' hok=> ?_) (fun r' rk' m=> ?_)
        · simp only [sp2_0]
          try simp only [one1,sgE,allE,List.length_cons,List.length_nil,Nat.zero_add,room80 (show rs.length≤60 by omega),room32 (show es.length≤60 by omega) (show 1≤60 by omega),room32 (show es.length+1≤60 by omega) (show 1≤60 by omega),decide_true,cond_true,List.length_append,Nat.le_refl,List.drop_zero]
          generalize decide (((es.length+1:Nat):Int)>ofNat 40)=b40
          cases b40 with
          |true=>exact⟨_,_,rfl,good_err h hr c 8⟩
          | false=>
            simp only [cond_false]
            exact⟨_,_,rfl,good_app (by rw [List.length_append];simp only [List.length_cons,List.length_nil];omega) (fun x hx=>(List.mem_append.1 hx).elim (hr x) fun h=>by rw [List.mem_singleton.1 h];exact hok) (by omega) rfl ⟨_,rfl⟩ ⟨0,by simp⟩⟩
        · simp only [sp2_s]
          exact⟨_,_,rfl,good_err h hr c m⟩
  · exact⟨_,_,rfl,good_err h hr c 229⟩
theorem m15b_1 {ck nr nt nk ne ac:Int} {rs:List Run} (h:SOk (mk ck nr nt nk ne ac rs [])) (hr:∀r∈rs,OkR r) (hR:List.isEmpty rs=false) (c:Call) (hcl:∀nd∈c.2.2.1.1,nd.1.length≤9223372036854775807) (hk:c.1=1):
    ∃t r,M15b_1 ((mk ck nr nt nk ne ac rs []),c,())=some (t,r,())∧Good (mk ck nr nt nk ne ac rs []) c t r:=by
  have h25:=twin_ok h
  have hf:=h.fine
  have he:=h.ev40
  simp only [mk]at h25 hf he
  have h32:=hf.1
  have E:=e15b h hR
  simp only [mk]at E
  simp only [M15b_1,mk,h25,Option.bind_some,hR,List.isEmpty_nil,cond_false,Nat.zero_add,Nat.le_refl,decide_true,cond_true,allE,sgE,E]
  by_cases c1:((c.2.1.size:Nat):Int)<ofNat 1
  · rw [decide_eq_true c1,cond_true];exact⟨_,_,rfl,good_err h hr c 2⟩
  rw [decide_eq_false c1,cond_false]
  by_cases c2:((c.2.1.size:Nat):Int)>ofNat 24
  · rw [decide_eq_true c2,cond_true];exact⟨_,_,rfl,good_err h hr c 2⟩
  rw [decide_eq_false c2,cond_false]
  obtain⟨v,hv,hc⟩:=f114 c.2.2.1.1 hcl
  have hv':F114 (c.2.2.1,())=some (v,()):=hv
  simp only [hv',Option.bind_some]
  rcases hc with⟨rfl,hdag⟩|⟨rfl,_⟩
  · simp only [sp2_0]
    obtain⟨i,b,e,hkn,hq⟩:=known_ok rs (by omega) hr c.2.1
    simp only [hkn,Option.bind_some]
    rcases hq with⟨_,_,hq⟩|⟨rfl,_,_⟩
    · exact absurd hf hq
    cases b with
    | true=>
      simp only [cond_true]
      try simp only [List.length_set,Nat.le_refl,decide_true,cond_true,List.drop_zero]
      exact⟨_,_,rfl,good_app (by first|omega|decide) (hr) (by omega) rfl ⟨[],by simp⟩ ⟨0,by simp⟩⟩
    | false=>
      simp only [cond_false]
      by_cases c32:((rs.length:Nat):Int)=32
      · rw [show(((rs.length:Nat):Int)==ofNat 32)=true by rw [c32];rfl,cond_true];exact⟨_,_,rfl,good_err h hr c 8⟩
      · rw [show(((rs.length:Nat):Int)==ofNat 32)=false by simpa using c32,cond_false]
        refine start_step _ _ _ hcl _ (fun r' rk' hok=> ?_) (fun r' rk' m=> ?_)
        · simp only [sp2_0]
          try simp only [one1,sgE,allE,List.length_cons,List.length_nil,Nat.zero_add,room80 (show rs.length≤60 by omega),decide_true,cond_true,List.length_append,Nat.le_refl,List.drop_zero]
          exact⟨_,_,rfl,good_app (by rw [List.length_append];simp only [List.length_cons,List.length_nil];omega) (fun x hx=>(List.mem_append.1 hx).elim (hr x) fun h=>by rw [List.mem_singleton.1 h];exact hok) (by omega) rfl ⟨_,rfl⟩ ⟨0,by simp⟩⟩
        · simp only [sp2_s]
          exact⟨_,_,rfl,good_err h hr c m⟩
  · exact⟨_,_,rfl,good_err h hr c 229⟩
theorem m15c_1 {ck nr nt nk ne ac:Int} {es:List Event} (h:SOk (mk ck nr nt nk ne ac [] es)) (hr:∀r∈([]:List Run),OkR r) (hE:List.isEmpty es=false) (c:Call) (hcl:∀nd∈c.2.2.1.1,nd.1.length≤9223372036854775807) (hk:c.1=1):
    ∃t r,M15c_1 ((mk ck nr nt nk ne ac [] es),c,())=some (t,r,())∧Good (mk ck nr nt nk ne ac [] es) c t r:=by
  have h25:=twin_ok h
  have hf:=h.fine
  have he:=h.ev40
  simp only [mk]at h25 hf he
  have h32:=hf.1
  have E:=e15c h hE
  simp only [mk]at E
  simp only [M15c_1,mk,h25,Option.bind_some,hE,List.isEmpty_nil,cond_false,Nat.zero_add,Nat.le_refl,decide_true,cond_true,allE,sgE,E]
  by_cases c1:((c.2.1.size:Nat):Int)<ofNat 1
  · rw [decide_eq_true c1,cond_true];exact⟨_,_,rfl,good_err h hr c 2⟩
  rw [decide_eq_false c1,cond_false]
  by_cases c2:((c.2.1.size:Nat):Int)>ofNat 24
  · rw [decide_eq_true c2,cond_true];exact⟨_,_,rfl,good_err h hr c 2⟩
  rw [decide_eq_false c2,cond_false]
  obtain⟨v,hv,hc⟩:=f114 c.2.2.1.1 hcl
  have hv':F114 (c.2.2.1,())=some (v,()):=hv
  simp only [hv',Option.bind_some]
  rcases hc with⟨rfl,hdag⟩|⟨rfl,_⟩
  · simp only [sp2_0]
    obtain⟨i,b,e,hkn,hq⟩:=known_ok ([]:List Run) (by omega) hr c.2.1
    simp only [hkn,Option.bind_some]
    rcases hq with⟨_,_,hq⟩|⟨rfl,_,_⟩
    · exact absurd hf hq
    cases b with
    | true=>
      simp only [cond_true]
      try simp only [List.length_cons,List.length_nil,Nat.zero_add,room32 (show es.length≤60 by omega) (show 1≤60 by omega),room32 (show es.length+1≤60 by omega) (show 1≤60 by omega),decide_true,cond_true,List.length_append,List.length_set,Nat.le_refl,List.drop_zero]
      generalize decide (((es.length:Nat):Int)>ofNat 40)=b40
      cases b40 with
      |true=>exact⟨_,_,rfl,good_err h hr c 8⟩
      | false=>
        simp only [cond_false]
        exact⟨_,_,rfl,good_app (by first|omega|decide) (hr) (by omega) rfl ⟨[],by simp⟩ ⟨0,by simp⟩⟩
    | false=>
      simp only [cond_false]
      refine start_step _ _ _ hcl _ (fun r' rk' hok=> ?_) (fun r' rk' m=> ?_)
      · simp only [sp2_0]
        try simp only [one1,sgE,allE,List.length_cons,List.length_nil,Nat.zero_add,room32 (show es.length≤60 by omega) (show 1≤60 by omega),room32 (show es.length+1≤60 by omega) (show 1≤60 by omega),decide_true,cond_true,List.length_append,Nat.le_refl,List.drop_zero]
        generalize decide (((es.length+1:Nat):Int)>ofNat 40)=b40
        cases b40 with
        |true=>exact⟨_,_,rfl,good_err h hr c 8⟩
        | false=>
          simp only [cond_false]
          exact⟨_,_,rfl,good_app (by simp only [List.length_cons,List.length_nil];omega) (fun x hx=>by rw [List.mem_singleton.1 hx];exact hok) (by omega) rfl ⟨_,rfl⟩ ⟨0,by simp⟩⟩
      · simp only [sp2_s]
        exact⟨_,_,rfl,good_err h hr c m⟩
  · exact⟨_,_,rfl,good_err h hr c 229⟩
theorem m15d_1 {ck nr nt nk ne ac:Int} (h:SOk (mk ck nr nt nk ne ac [] [])) (hr:∀r∈([]:List Run),OkR r) (c:Call) (hcl:∀nd∈c.2.2.1.1,nd.1.length≤9223372036854775807) (hk:c.1=1):
    ∃t r,M15d_1 ((mk ck nr nt nk ne ac [] []),c,())=some (t,r,())∧Good (mk ck nr nt nk ne ac [] []) c t r:=by
  have h25:=twin_ok h
  have hf:=h.fine
  have he:=h.ev40
  simp only [mk]at h25 hf he
  have h32:=hf.1
  have E:=e15d h
  simp only [mk]at E
  simp only [M15d_1,mk,h25,Option.bind_some,List.isEmpty_nil,cond_false,Nat.zero_add,Nat.le_refl,decide_true,cond_true,allE,sgE,E]
  by_cases c1:((c.2.1.size:Nat):Int)<ofNat 1
  · rw [decide_eq_true c1,cond_true];exact⟨_,_,rfl,good_err h hr c 2⟩
  rw [decide_eq_false c1,cond_false]
  by_cases c2:((c.2.1.size:Nat):Int)>ofNat 24
  · rw [decide_eq_true c2,cond_true];exact⟨_,_,rfl,good_err h hr c 2⟩
  rw [decide_eq_false c2,cond_false]
  obtain⟨v,hv,hc⟩:=f114 c.2.2.1.1 hcl
  have hv':F114 (c.2.2.1,())=some (v,()):=hv
  simp only [hv',Option.bind_some]
  rcases hc with⟨rfl,hdag⟩|⟨rfl,_⟩
  · simp only [sp2_0]
    obtain⟨i,b,e,hkn,hq⟩:=known_ok ([]:List Run) (by omega) hr c.2.1
    simp only [hkn,Option.bind_some]
    rcases hq with⟨_,_,hq⟩|⟨rfl,_,_⟩
    · exact absurd hf hq
    cases b with
    | true=>
      simp only [cond_true]
      try simp only [List.length_set,Nat.le_refl,decide_true,cond_true,List.drop_zero]
      exact⟨_,_,rfl,good_app (by first|omega|decide) (hr) (by omega) rfl ⟨[],by simp⟩ ⟨0,by simp⟩⟩
    | false=>
      simp only [cond_false]
      refine start_step _ _ _ hcl _ (fun r' rk' hok=> ?_) (fun r' rk' m=> ?_)
      · simp only [sp2_0]
        try simp only [one1,sgE,allE,List.length_cons,List.length_nil,Nat.zero_add,decide_true,cond_true,List.length_append,Nat.le_refl,List.drop_zero]
        exact⟨_,_,rfl,good_app (by simp only [List.length_cons,List.length_nil];omega) (fun x hx=>by rw [List.mem_singleton.1 hx];exact hok) (by omega) rfl ⟨_,rfl⟩ ⟨0,by simp⟩⟩
      · simp only [sp2_s]
        exact⟨_,_,rfl,good_err h hr c m⟩
  · exact⟨_,_,rfl,good_err h hr c 229⟩
def Trn (r r':Run):Prop:=OkR r'∧(r'=r0_∨(r'.1=r.1∧r'.2.2.2.2.1.length=r.2.2.2.2.1.length))
theorem okr_0:OkR r0_:=⟨fun _ h=>(List.not_mem_nil h).elim,by simp only [List.length_nil];omega,fun _ h=>(List.not_mem_nil h).elim⟩
theorem wake_step (r:Run) (hr:OkR r) (i rk now:Int):∃r' e,F177 (r,i,rk,now,())=some (r',e,())∧Trn r r':=by
 obtain⟨r',e',hc,hq⟩:=turn_ok r hr i (fun nd t=>F216 (nd,t,rk,now,())) (fun nd t h1 h2 h3=>dWake h1 h2)
 rw [←wake_eq]at hc
 refine⟨r',e',hc,?_⟩
 rcases hq with⟨_,hro,_,k,t',_,_,_,ht⟩|⟨_,rfl,_⟩
 ·exact⟨okr_of hr ht.ns ht.len ht.pos,.inr ⟨ht.id,ht.len⟩⟩
 ·exact⟨okr_0,.inl rfl⟩
theorem lapse_step (r:Run) (hr:OkR r) (i now:Int):∃r' e,F178 (r,i,now,())=some (r',e,())∧Trn r r':=by
 obtain⟨r',e',hc,hq⟩:=turn_ok r hr i (fun nd t=>F218 (nd,t,now,())) (fun nd t h1 h2 h3=>dLapse h1 h2)
 rw [←lapse_eq]at hc
 refine⟨r',e',hc,?_⟩
 rcases hq with⟨_,hro,_,k,t',_,_,_,ht⟩|⟨_,rfl,_⟩
 ·exact⟨okr_of hr ht.ns ht.len ht.pos,.inr ⟨ht.id,ht.len⟩⟩
 ·exact⟨okr_0,.inl rfl⟩
structure Same (rs R:List Run):Prop where
 len:R.length=rs.length
 ok:∀r∈R,OkR r
 is:∀j,j<rs.length→R.getD j (dft sRun)=r0_∨((R.getD j (dft sRun)).1=(rs.getD j (dft sRun)).1∧(R.getD j (dft sRun)).2.2.2.2.1.length=(rs.getD j (dft sRun)).2.2.2.2.1.length)
theorem same0 {rs:List Run} (hr:∀r∈rs,OkR r):Same rs rs:=⟨rfl,hr,fun _ _=>.inr ⟨rfl,rfl⟩⟩
theorem not_r0 {R:List Run} (hf:Fine R) {n:Nat} (hn:n<R.length):R.getD n (dft sRun)≠r0_:=fun h=>by
 have h1:=(hf.2.chk n hn).key.1
 rw [h]at h1
 exact absurd h1 (by decide)
theorem same_in {rs R:List Run} {now:Int} {p:Place} (hs:Same rs R) (hf:Fine rs) (hg:Fine R) (hp:p∈pl rs now) {n:Nat} (hn:n<R.length) (hid:(R.getD n (dft sRun)).1=p.1):
  ∃k:Nat,p.2.1=k∧k<(R.getD n (dft sRun)).2.2.2.2.1.length:=by
 obtain⟨r,hr,hp⟩:=List.mem_flatMap.1 hp
 obtain⟨j,hj,_,rfl⟩:=plT_mem hp
 obtain⟨m,hm,rfl⟩:=List.mem_iff_getElem.1 hr
 rw [←getD_get hm (dft sRun)]at hj hid
 rcases hs.is n (hs.len▸hn)with h|⟨h1,h2⟩
 ·exact absurd h (not_r0 hg hn)
 ·have hnm:n=m:=by
   rw [h1]at hid
   simp only at hid
   have hn':n<rs.length:=hs.len▸hn
   rcases Nat.lt_trichotomy n m with h|h|h
   ·have:=hf.2.up n m h hm;omega
   ·exact h
   ·have:=hf.2.up m n h hn';omega
  subst hnm
  exact⟨j,by simp only;omega,by rw [h2];exact hj⟩
theorem same_set {rs R:List Run} (hs:Same rs R) (hg:Fine R) {n:Nat} (hn:n<R.length) {r':Run} (h:Trn (R.getD n (dft sRun)) r'):Same rs (R.set n r'):=by
 have hn':n<rs.length:=hs.len▸hn
 refine⟨by rw [List.length_set];exact hs.len,okr_set hs.ok h.1,fun j hj=> ?_⟩
 rw [List.getD_eq_getElem?_getD (l:=R.set n r'),List.getElem?_set]
 by_cases c:n=j
 ·subst c
  rw [if_pos rfl,if_pos hn]
  rcases h.2 with h|⟨h1,h2⟩
  ·exact .inl h
  ·rcases hs.is n hn' with h3|⟨h3,h4⟩
   ·exact absurd h3 (not_r0 hg hn)
   ·exact .inr ⟨h1.trans h3,h2.trans h4⟩
 ·rw [if_neg c,←List.getD_eq_getElem?_getD]
  exact hs.is j hj
section
variable (np:Nat) (rs:List Run) (es:List Event) (P:List Place) (now nr nt ac:Int)
abbrev ta1 (i d:Int) (R:List Run) (nk ne:Int):=(d,np,(np:Int),i,es,R,now,nr,nt,nk,ne,ac,rs.length,es.length,ofNat 0,ofNat 0,ofNat 0,ofNat 0,ofNat 0,({data:= #[]}:ByteArray),ofNat 0,P,())
abbrev ta2 (i d:Int) (R:List Run) (nk ne:Int) (E:List Event):=(d,np,(np:Int),i,R,now,nr,nt,nk,ne,ac,rs.length,E.length,ofNat 0,ofNat 0,ofNat 0,ofNat 0,ofNat 0,({data:= #[]}:ByteArray),ofNat 0,P,E,())
abbrev ena (i:Int) (x:Int×List Run×Int×Int×Option (List Event)):((Int×Int×Int×List dEvent×List dRun×Int×Int×Int×Int×Int×Int×Nat×Nat×Int×Int×Int×Int×Int×ByteArray×Int×Unit)⊕((Int×Nat×Int×Int×List dEvent×List dRun×Int×Int×Int×Int×Int×Int×Nat×Nat×Int×Int×Int×Int×Int×ByteArray×Int×List dPlace×Unit)⊕(Int×Nat×Int×Int×List dRun×Int×Int×Int×Int×Int×Int×Nat×Nat×Int×Int×Int×Int×Int×ByteArray×Int×List dPlace×List dEvent×Unit))):=match x with
 |(d,R,nk,ne,none)=>.inr (.inl (ta1 np rs es P now nr nt ac i d R nk ne))
 |(d,R,nk,ne,some E)=>.inr (.inr (ta2 np rs P now nr nt ac i d R nk ne E))
def Iva (i:Nat) (x:Int×List Run×Int×Int×Option (List Event)):Prop:=Same rs x.2.1∧∀E,x.2.2.2.2=some E→∃new,E=es++new∧new.length≤i
theorem loopa (hnp:np≤16) (hP:np≤P.length) (hr:∀r∈rs,OkR r) (hf:Fine rs) (he:es.length≤40) (hp:∀p∈P,p∈pl rs now) (nk ne:Int):
    ∃y,L15a_1005440 (ena np rs es P now nr nt ac ((0:Nat):Int) (ofNat 0,rs,nk,ne,none))=some y∧∃d R nk' ne',Same rs R∧(y= .inr (.inl (d,es,R,now,nr,nt,nk',ne',ac,rs.length,es.length,ofNat 0,ofNat 0,ofNat 0,ofNat 0,ofNat 0,({data:= #[]}:ByteArray),ofNat 0,P,()))∨∃new:List Event,new.length≤16∧y= .inr (.inr (d,R,now,nr,nt,nk',ne',ac,rs.length,(es++new).length,ofNat 0,ofNat 0,ofNat 0,ofNat 0,ofNat 0,({data:= #[]}:ByteArray),ofNat 0,P,(es++new),()))):=by
  have h32:=hf.1
  refine rng_hoare (st:=L15a_1005440t) np (fun i (x:Int×List Run×Int×Int×Option (List Event))=>ena np rs es P now nr nt ac (i:Int) x) (Iva rs es) (fun y=>∃d R nk' ne',Same rs R∧(y= .inr (.inl (d,es,R,now,nr,nt,nk',ne',ac,rs.length,es.length,ofNat 0,ofNat 0,ofNat 0,ofNat 0,ofNat 0,({data:= #[]}:ByteArray),ofNat 0,P,()))∨∃new:List Event,new.length≤16∧y= .inr (.inr (d,R,now,nr,nt,nk',ne',ac,rs.length,(es++new).length,ofNat 0,ofNat 0,ofNat 0,ofNat 0,ofNat 0,({data:= #[]}:ByteArray),ofNat 0,P,(es++new),())))) (fun i x h hx=>.inl ?_) (fun x hx=> ?_) (ofNat 0,rs,nk,ne,none) ⟨same0 hr,fun E h=>nomatch h⟩
  · obtain⟨d,R,nk,ne,o⟩:=x
    obtain⟨hs,hE⟩:=hx
    simp only at hs hE
    have hPi:i<P.length:=by omega
    have hpp:=hp _ (getD_mem hPi (dft sPlace))
    have hT:List.take rs.length (List.drop 0 R)=R:=by rw [←hs.len];exact all1 R
    have hle:rs.length≤R.length:=by rw [hs.len];omega
    have ek:IntKind.i64.wrap ((i:Int)+ofNat 1)=((i+1:Nat):Int):=wrap_add1 (by omega) (by omega)
    obtain⟨fi,b,e,hfi,hq⟩:=find_ok R (by rw [hs.len];omega) hs.ok (P.getD i (dft sPlace)).1
    generalize hgp:P.getD i (dft sPlace)=p at hfi hq hpp
    have hE':∀E,o=some E→∃new,E=es++new∧new.length≤i+1:=fun E h=>by
      obtain⟨new,h1,h2⟩:=hE E h
      exact⟨new,h1,by omega⟩
    cases o with
    | none=>
      have hT2:=all1 es
      simp only [L15a_1005440t,L15a_1005440s1,L15a_1005440s1r,rg_lt h,rg_in h,cond_true,Nat.zero_add,Int.toNat_natCast,decide_eq_true hPi,decide_eq_true hle,hT,hgp,hfi,Option.bind_some]
      rcases hq with⟨_,rfl,_⟩|⟨_,hg,⟨rfl,n,rfl,hn,hid⟩|⟨rfl,_⟩⟩
      · simp only [Bool.not_false,cond_true,ek]
        exact⟨(d,R,nk,ne,none),rfl,hs,hE'⟩
      · obtain⟨k,hk,hkl⟩:=same_in hs hf hg hpp hn hid
        have hn':n<rs.length:=hs.len▸hn
        obtain⟨rw_,ew,hw,hw2⟩:=wake_step (R.getD n (dft sRun)) (hs.ok _ (getD_mem hn _)) k nk now
        obtain⟨rl_,el,hl,hl2⟩:=lapse_step (R.getD n (dft sRun)) (hs.ok _ (getD_mem hn _)) k now
        have hw:F177 (((R.getD n (dft sRun)).1,(R.getD n (dft sRun)).2.1,(R.getD n (dft sRun)).2.2.1,(R.getD n (dft sRun)).2.2.2.1,(R.getD n (dft sRun)).2.2.2.2.1,()),(k:Int),nk,now,())=some (rw_,ew,()):=hw
        have hl:F178 (((R.getD n (dft sRun)).1,(R.getD n (dft sRun)).2.1,(R.getD n (dft sRun)).2.2.1,(R.getD n (dft sRun)).2.2.2.1,(R.getD n (dft sRun)).2.2.2.2.1,()),(k:Int),now,())=some (rl_,el,()):=hl
        simp only [Bool.not_true,cond_false,rg_in hn',rg_ltn hn,cond_true,Int.toNat_natCast,Nat.zero_add,hk,rg_in hkl,rg_ltn hkl,f176,Option.bind_some,hw,hl,List.length_set,ek]
        cases due (List.getD (R.getD n (dft sRun)).2.2.2.2.1 k (dft sTask)) now with
        | false=>
          simp only [Bool.not_false,cond_true]
          exact⟨(d,R,nk,ne,none),rfl,hs,hE'⟩
        | true=>
          simp only [Bool.not_true,cond_false]
          cases (List.getD (R.getD n (dft sRun)).2.2.2.2.1 k (dft sTask)).1==ofNat 3 with
          |true=>exact⟨(IntKind.i64.wrap (d+ofNat 1),R.set n rw_,IntKind.i64.wrap (nk+ofNat 1),ne,none),rfl,same_set hs hg hn hw2,hE'⟩
          | false=>
            simp only [cond_false]
            generalize (R.set n rl_).getD n (dft sRun)=w
            have h1:=room32 (show es.length≤60 by omega) (show 1≤60 by omega)
            cases w.2.2.2.1==ofNat 3 with
            | true=>
              simp only [Nat.le_refl,decide_true,cond_true,hT2,allE,sgE,List.length_singleton,h1,cond_true]
              exact⟨(IntKind.i64.wrap (d+ofNat 1),R.set n rl_,nk,IntKind.i64.wrap (ne+ofNat 1),some (es++ [(ne,ofNat 5,w.1,ofNat 0,())])),rfl,same_set hs hg hn hl2,fun E h=>by
                obtain rfl:=Option.some.inj h
                exact⟨[(ne,ofNat 5,w.1,ofNat 0,())],rfl,by simp only [List.length_singleton];omega⟩⟩
            | false=>
              simp only [Nat.le_refl,decide_true,cond_true,hT2,allE,sgE,List.length_singleton,h1,cond_false]
              exact⟨(IntKind.i64.wrap (d+ofNat 1),R.set n rl_,nk,IntKind.i64.wrap (ne+ofNat 1),some (es++ [(ne,ofNat 3,w.1,(k:Int),())])),rfl,same_set hs hg hn hl2,fun E h=>by
                obtain rfl:=Option.some.inj h
                exact⟨[(ne,ofNat 3,w.1,(k:Int),())],rfl,by simp only [List.length_singleton];omega⟩⟩
      · simp only [Bool.not_false,cond_true,ek]
        exact⟨(d,R,nk,ne,none),rfl,hs,hE'⟩
    | some E=>
      obtain⟨new,rfl,hnew⟩:=hE E rfl
      have hT2:=all1 (es++new)
      simp only [L15a_1005440t,L15a_1005440s2,L15a_1005440s2r,rg_lt h,rg_in h,cond_true,Nat.zero_add,Int.toNat_natCast,decide_eq_true hPi,decide_eq_true hle,hT,hgp,hfi,Option.bind_some]
      rcases hq with⟨_,rfl,_⟩|⟨_,hg,⟨rfl,n,rfl,hn,hid⟩|⟨rfl,_⟩⟩
      · simp only [Bool.not_false,cond_true,ek]
        exact⟨(d,R,nk,ne,some (es++new)),rfl,hs,hE'⟩
      · obtain⟨k,hk,hkl⟩:=same_in hs hf hg hpp hn hid
        have hn':n<rs.length:=hs.len▸hn
        obtain⟨rw_,ew,hw,hw2⟩:=wake_step (R.getD n (dft sRun)) (hs.ok _ (getD_mem hn _)) k nk now
        obtain⟨rl_,el,hl,hl2⟩:=lapse_step (R.getD n (dft sRun)) (hs.ok _ (getD_mem hn _)) k now
        have hw:F177 (((R.getD n (dft sRun)).1,(R.getD n (dft sRun)).2.1,(R.getD n (dft sRun)).2.2.1,(R.getD n (dft sRun)).2.2.2.1,(R.getD n (dft sRun)).2.2.2.2.1,()),(k:Int),nk,now,())=some (rw_,ew,()):=hw
        have hl:F178 (((R.getD n (dft sRun)).1,(R.getD n (dft sRun)).2.1,(R.getD n (dft sRun)).2.2.1,(R.getD n (dft sRun)).2.2.2.1,(R.getD n (dft sRun)).2.2.2.2.1,()),(k:Int),now,())=some (rl_,el,()):=hl
        simp only [Bool.not_true,cond_false,rg_in hn',rg_ltn hn,cond_true,Int.toNat_natCast,Nat.zero_add,hk,rg_in hkl,rg_ltn hkl,f176,Option.bind_some,hw,hl,List.length_set,ek]
        cases due (List.getD (R.getD n (dft sRun)).2.2.2.2.1 k (dft sTask)) now with
        | false=>
          simp only [Bool.not_false,cond_true]
          exact⟨(d,R,nk,ne,some (es++new)),rfl,hs,hE'⟩
        | true=>
          simp only [Bool.not_true,cond_false]
          cases (List.getD (R.getD n (dft sRun)).2.2.2.2.1 k (dft sTask)).1==ofNat 3 with
          |true=>exact⟨(IntKind.i64.wrap (d+ofNat 1),R.set n rw_,IntKind.i64.wrap (nk+ofNat 1),ne,some (es++new)),rfl,same_set hs hg hn hw2,hE'⟩
          | false=>
            simp only [cond_false]
            generalize (R.set n rl_).getD n (dft sRun)=w
            have h1:=room32 (show(es++new).length≤60 by rw [List.length_append];omega) (show 1≤60 by omega)
            cases w.2.2.2.1==ofNat 3 with
            | true=>
              simp only [Nat.le_refl,decide_true,cond_true,hT2,allE,sgE,List.length_singleton,h1,cond_true]
              exact⟨(IntKind.i64.wrap (d+ofNat 1),R.set n rl_,nk,IntKind.i64.wrap (ne+ofNat 1),some ((es++new)++ [(ne,ofNat 5,w.1,ofNat 0,())])),rfl,same_set hs hg hn hl2,fun E h=>by
                obtain rfl:=Option.some.inj h
                exact⟨new++ [(ne,ofNat 5,w.1,ofNat 0,())],List.append_assoc ..,by rw [List.length_append,List.length_singleton];omega⟩⟩
            | false=>
              simp only [Nat.le_refl,decide_true,cond_true,hT2,allE,sgE,List.length_singleton,h1,cond_false]
              exact⟨(IntKind.i64.wrap (d+ofNat 1),R.set n rl_,nk,IntKind.i64.wrap (ne+ofNat 1),some ((es++new)++ [(ne,ofNat 3,w.1,(k:Int),())])),rfl,same_set hs hg hn hl2,fun E h=>by
                obtain rfl:=Option.some.inj h
                exact⟨new++ [(ne,ofNat 3,w.1,(k:Int),())],List.append_assoc ..,by rw [List.length_append,List.length_singleton];omega⟩⟩
      · simp only [Bool.not_false,cond_true,ek]
        exact⟨(d,R,nk,ne,some (es++new)),rfl,hs,hE'⟩
  · obtain⟨d,R,nk,ne,o⟩:=x
    obtain⟨hs,hE⟩:=hx
    simp only at hs hE
    cases o with
    |none=>exact⟨.inr (.inl (d,es,R,now,nr,nt,nk,ne,ac,rs.length,es.length,ofNat 0,ofNat 0,ofNat 0,ofNat 0,ofNat 0,({data:= #[]}:ByteArray),ofNat 0,P,())),by simp only [L15a_1005440t,L15a_1005440s1,L15a_1005440s1r,rg_end,cond_false],d,R,nk,ne,hs,.inl rfl⟩
    | some E=>
      obtain⟨new,rfl,hnew⟩:=hE E rfl
      exact⟨.inr (.inr (d,R,now,nr,nt,nk,ne,ac,rs.length,(es++new).length,ofNat 0,ofNat 0,ofNat 0,ofNat 0,ofNat 0,({data:= #[]}:ByteArray),ofNat 0,P,(es++new),())),by simp only [L15a_1005440t,L15a_1005440s2,L15a_1005440s2r,rg_end,cond_false],d,R,nk,ne,hs,.inr ⟨new,by omega,rfl⟩⟩
end
section
variable (np:Nat) (rs:List Run) (P:List Place) (now nr nt ac:Int)
abbrev tb1 (i d:Int) (R:List Run) (nk ne:Int):=(d,np,(np:Int),i,R,now,nr,nt,nk,ne,ac,rs.length,ofNat 0,ofNat 0,ofNat 0,ofNat 0,ofNat 0,({data:= #[]}:ByteArray),ofNat 0,P,())
abbrev tb2 (i d:Int) (R:List Run) (nk ne:Int) (E:List Event):=(d,np,(np:Int),i,R,now,nr,nt,nk,ne,ac,rs.length,E.length,ofNat 0,ofNat 0,ofNat 0,ofNat 0,ofNat 0,({data:= #[]}:ByteArray),ofNat 0,P,E,())
abbrev enb (i:Int) (x:Int×List Run×Int×Int×Option (List Event)):((Int×Int×Int×List dRun×Int×Int×Int×Int×Int×Int×Nat×Int×Int×Int×Int×Int×ByteArray×Int×Unit)⊕((Int×Nat×Int×Int×List dRun×Int×Int×Int×Int×Int×Int×Nat×Int×Int×Int×Int×Int×ByteArray×Int×List dPlace×Unit)⊕(Int×Nat×Int×Int×List dRun×Int×Int×Int×Int×Int×Int×Nat×Nat×Int×Int×Int×Int×Int×ByteArray×Int×List dPlace×List dEvent×Unit))):=match x with
 |(d,R,nk,ne,none)=>.inr (.inl (tb1 np rs P now nr nt ac i d R nk ne))
 |(d,R,nk,ne,some E)=>.inr (.inr (tb2 np rs P now nr nt ac i d R nk ne E))
def Ivb (i:Nat) (x:Int×List Run×Int×Int×Option (List Event)):Prop:=Same rs x.2.1∧∀E,x.2.2.2.2=some E→E.length≤i
theorem loopb (hnp:np≤16) (hP:np≤P.length) (hr:∀r∈rs,OkR r) (hf:Fine rs) (hp:∀p∈P,p∈pl rs now) (nk ne:Int):
    ∃y,L15b_1005440 (enb np rs P now nr nt ac ((0:Nat):Int) (ofNat 0,rs,nk,ne,none))=some y∧∃d R nk' ne',Same rs R∧(y= .inr (.inl (d,R,now,nr,nt,nk',ne',ac,rs.length,ofNat 0,ofNat 0,ofNat 0,ofNat 0,ofNat 0,({data:= #[]}:ByteArray),ofNat 0,P,()))∨∃new:List Event,new.length≤16∧y= .inr (.inr (d,R,now,nr,nt,nk',ne',ac,rs.length,new.length,ofNat 0,ofNat 0,ofNat 0,ofNat 0,ofNat 0,({data:= #[]}:ByteArray),ofNat 0,P,new,()))):=by
  have h32:=hf.1
  refine rng_hoare (st:=L15b_1005440t) np (fun i (x:Int×List Run×Int×Int×Option (List Event))=>enb np rs P now nr nt ac (i:Int) x) (Ivb rs) (fun y=>∃d R nk' ne',Same rs R∧(y= .inr (.inl (d,R,now,nr,nt,nk',ne',ac,rs.length,ofNat 0,ofNat 0,ofNat 0,ofNat 0,ofNat 0,({data:= #[]}:ByteArray),ofNat 0,P,()))∨∃new:List Event,new.length≤16∧y= .inr (.inr (d,R,now,nr,nt,nk',ne',ac,rs.length,new.length,ofNat 0,ofNat 0,ofNat 0,ofNat 0,ofNat 0,({data:= #[]}:ByteArray),ofNat 0,P,new,())))) (fun i x h hx=>.inl ?_) (fun x hx=> ?_) (ofNat 0,rs,nk,ne,none) ⟨same0 hr,fun E h=>nomatch h⟩
  · obtain⟨d,R,nk,ne,o⟩:=x
    obtain⟨hs,hE⟩:=hx
    simp only at hs hE
    have hPi:i<P.length:=by omega
    have hpp:=hp _ (getD_mem hPi (dft sPlace))
    have hT:List.take rs.length (List.drop 0 R)=R:=by rw [←hs.len];exact all1 R
    have hle:rs.length≤R.length:=by rw [hs.len];omega
    have ek:IntKind.i64.wrap ((i:Int)+ofNat 1)=((i+1:Nat):Int):=wrap_add1 (by omega) (by omega)
    obtain⟨fi,b,e,hfi,hq⟩:=find_ok R (by rw [hs.len];omega) hs.ok (P.getD i (dft sPlace)).1
    generalize hgp:P.getD i (dft sPlace)=p at hfi hq hpp
    have hE':∀E,o=some E→E.length≤i+1:=fun E h=>by
      have:=hE E h
      omega
    cases o with
    | none=>
      simp only [L15b_1005440t,L15b_1005440s1,L15b_1005440s1r,rg_lt h,rg_in h,cond_true,Nat.zero_add,Int.toNat_natCast,decide_eq_true hPi,decide_eq_true hle,hT,hgp,hfi,Option.bind_some]
      rcases hq with⟨_,rfl,_⟩|⟨_,hg,⟨rfl,n,rfl,hn,hid⟩|⟨rfl,_⟩⟩
      · simp only [Bool.not_false,cond_true,ek]
        exact⟨(d,R,nk,ne,none),rfl,hs,hE'⟩
      · obtain⟨k,hk,hkl⟩:=same_in hs hf hg hpp hn hid
        have hn':n<rs.length:=hs.len▸hn
        obtain⟨rw_,ew,hw,hw2⟩:=wake_step (R.getD n (dft sRun)) (hs.ok _ (getD_mem hn _)) k nk now
        obtain⟨rl_,el,hl,hl2⟩:=lapse_step (R.getD n (dft sRun)) (hs.ok _ (getD_mem hn _)) k now
        have hw:F177 (((R.getD n (dft sRun)).1,(R.getD n (dft sRun)).2.1,(R.getD n (dft sRun)).2.2.1,(R.getD n (dft sRun)).2.2.2.1,(R.getD n (dft sRun)).2.2.2.2.1,()),(k:Int),nk,now,())=some (rw_,ew,()):=hw
        have hl:F178 (((R.getD n (dft sRun)).1,(R.getD n (dft sRun)).2.1,(R.getD n (dft sRun)).2.2.1,(R.getD n (dft sRun)).2.2.2.1,(R.getD n (dft sRun)).2.2.2.2.1,()),(k:Int),now,())=some (rl_,el,()):=hl
        simp only [Bool.not_true,cond_false,rg_in hn',rg_ltn hn,cond_true,Int.toNat_natCast,Nat.zero_add,hk,rg_in hkl,rg_ltn hkl,f176,Option.bind_some,hw,hl,List.length_set,ek]
        cases due (List.getD (R.getD n (dft sRun)).2.2.2.2.1 k (dft sTask)) now with
        | false=>
          simp only [Bool.not_false,cond_true]
          exact⟨(d,R,nk,ne,none),rfl,hs,hE'⟩
        | true=>
          simp only [Bool.not_true,cond_false]
          cases (List.getD (R.getD n (dft sRun)).2.2.2.2.1 k (dft sTask)).1==ofNat 3 with
          |true=>exact⟨(IntKind.i64.wrap (d+ofNat 1),R.set n rw_,IntKind.i64.wrap (nk+ofNat 1),ne,none),rfl,same_set hs hg hn hw2,hE'⟩
          | false=>
            simp only [cond_false]
            generalize (R.set n rl_).getD n (dft sRun)=w
            cases w.2.2.2.1==ofNat 3 with
            | true=>
              simp only [allE,sgE,List.length_singleton,cond_true]
              exact⟨(IntKind.i64.wrap (d+ofNat 1),R.set n rl_,nk,IntKind.i64.wrap (ne+ofNat 1),some [(ne,ofNat 5,w.1,ofNat 0,())]),rfl,same_set hs hg hn hl2,fun E h=>by
                obtain rfl:=Option.some.inj h
                exact Nat.succ_le_succ (Nat.zero_le _)⟩
            | false=>
              simp only [allE,sgE,List.length_singleton,cond_false]
              exact⟨(IntKind.i64.wrap (d+ofNat 1),R.set n rl_,nk,IntKind.i64.wrap (ne+ofNat 1),some [(ne,ofNat 3,w.1,(k:Int),())]),rfl,same_set hs hg hn hl2,fun E h=>by
                obtain rfl:=Option.some.inj h
                exact Nat.succ_le_succ (Nat.zero_le _)⟩
      · simp only [Bool.not_false,cond_true,ek]
        exact⟨(d,R,nk,ne,none),rfl,hs,hE'⟩
    | some new=>
      have hnew:=hE new rfl
      have hT2:=all1 new
      simp only [L15b_1005440t,L15b_1005440s2,L15b_1005440s2r,rg_lt h,rg_in h,cond_true,Nat.zero_add,Int.toNat_natCast,decide_eq_true hPi,decide_eq_true hle,hT,hgp,hfi,Option.bind_some]
      rcases hq with⟨_,rfl,_⟩|⟨_,hg,⟨rfl,n,rfl,hn,hid⟩|⟨rfl,_⟩⟩
      · simp only [Bool.not_false,cond_true,ek]
        exact⟨(d,R,nk,ne,some new),rfl,hs,hE'⟩
      · obtain⟨k,hk,hkl⟩:=same_in hs hf hg hpp hn hid
        have hn':n<rs.length:=hs.len▸hn
        obtain⟨rw_,ew,hw,hw2⟩:=wake_step (R.getD n (dft sRun)) (hs.ok _ (getD_mem hn _)) k nk now
        obtain⟨rl_,el,hl,hl2⟩:=lapse_step (R.getD n (dft sRun)) (hs.ok _ (getD_mem hn _)) k now
        have hw:F177 (((R.getD n (dft sRun)).1,(R.getD n (dft sRun)).2.1,(R.getD n (dft sRun)).2.2.1,(R.getD n (dft sRun)).2.2.2.1,(R.getD n (dft sRun)).2.2.2.2.1,()),(k:Int),nk,now,())=some (rw_,ew,()):=hw
        have hl:F178 (((R.getD n (dft sRun)).1,(R.getD n (dft sRun)).2.1,(R.getD n (dft sRun)).2.2.1,(R.getD n (dft sRun)).2.2.2.1,(R.getD n (dft sRun)).2.2.2.2.1,()),(k:Int),now,())=some (rl_,el,()):=hl
        simp only [Bool.not_true,cond_false,rg_in hn',rg_ltn hn,cond_true,Int.toNat_natCast,Nat.zero_add,hk,rg_in hkl,rg_ltn hkl,f176,Option.bind_some,hw,hl,List.length_set,ek]
        cases due (List.getD (R.getD n (dft sRun)).2.2.2.2.1 k (dft sTask)) now with
        | false=>
          simp only [Bool.not_false,cond_true]
          exact⟨(d,R,nk,ne,some new),rfl,hs,hE'⟩
        | true=>
          simp only [Bool.not_true,cond_false]
          cases (List.getD (R.getD n (dft sRun)).2.2.2.2.1 k (dft sTask)).1==ofNat 3 with
          |true=>exact⟨(IntKind.i64.wrap (d+ofNat 1),R.set n rw_,IntKind.i64.wrap (nk+ofNat 1),ne,some new),rfl,same_set hs hg hn hw2,hE'⟩
          | false=>
            simp only [cond_false]
            generalize (R.set n rl_).getD n (dft sRun)=w
            have h1:=room32 (show new.length≤60 by omega) (show 1≤60 by omega)
            cases w.2.2.2.1==ofNat 3 with
            | true=>
              simp only [Nat.le_refl,decide_true,cond_true,hT2,allE,sgE,List.length_singleton,h1,cond_true]
              exact⟨(IntKind.i64.wrap (d+ofNat 1),R.set n rl_,nk,IntKind.i64.wrap (ne+ofNat 1),some (new++ [(ne,ofNat 5,w.1,ofNat 0,())])),rfl,same_set hs hg hn hl2,fun E h=>by
                obtain rfl:=Option.some.inj h
                exact(by rw [List.length_append,List.length_singleton];omega)⟩
            | false=>
              simp only [Nat.le_refl,decide_true,cond_true,hT2,allE,sgE,List.length_singleton,h1,cond_false]
              exact⟨(IntKind.i64.wrap (d+ofNat 1),R.set n rl_,nk,IntKind.i64.wrap (ne+ofNat 1),some (new++ [(ne,ofNat 3,w.1,(k:Int),())])),rfl,same_set hs hg hn hl2,fun E h=>by
                obtain rfl:=Option.some.inj h
                exact(by rw [List.length_append,List.length_singleton];omega)⟩
      · simp only [Bool.not_false,cond_true,ek]
        exact⟨(d,R,nk,ne,some new),rfl,hs,hE'⟩
  · obtain⟨d,R,nk,ne,o⟩:=x
    obtain⟨hs,hE⟩:=hx
    simp only at hs hE
    cases o with
    |none=>exact⟨.inr (.inl (d,R,now,nr,nt,nk,ne,ac,rs.length,ofNat 0,ofNat 0,ofNat 0,ofNat 0,ofNat 0,({data:= #[]}:ByteArray),ofNat 0,P,())),by simp only [L15b_1005440t,L15b_1005440s1,L15b_1005440s1r,rg_end,cond_false],d,R,nk,ne,hs,.inl rfl⟩
    | some new=>
      have hnew:=hE new rfl
      exact⟨.inr (.inr (d,R,now,nr,nt,nk,ne,ac,rs.length,new.length,ofNat 0,ofNat 0,ofNat 0,ofNat 0,ofNat 0,({data:= #[]}:ByteArray),ofNat 0,P,new,())),by simp only [L15b_1005440t,L15b_1005440s2,L15b_1005440s2r,rg_end,cond_false],d,R,nk,ne,hs,.inr ⟨new,by omega,rfl⟩⟩
end
theorem m15a_7 {ck nr nt nk ne ac:Int} {rs:List Run} {es:List Event} (h:SOk (mk ck nr nt nk ne ac rs es)) (hr:∀r∈rs,OkR r) (hR:List.isEmpty rs=false) (hE:List.isEmpty es=false) (c:Call) (hk:c.1=7):
    ∃t r,M15a_7 ((mk ck nr nt nk ne ac rs es),c,())=some (t,r,())∧Good (mk ck nr nt nk ne ac rs es) c t r:=by
  have h25:=twin_ok h
  have hf:=h.fine
  have he:=h.ev40
  simp only [mk]at h25 hf he
  have h32:=hf.1
  have E:=e15a h hR hE
  simp only [mk]at E
  have h7:c.1≠10:=by omega
  simp only [M15a_7,mk,h25,Option.bind_some,hR,hE,List.isEmpty_nil,cond_false,Nat.zero_add,Nat.le_refl,decide_true,cond_true,allE,sgE,E]
  cases decide (c.2.2.2.2.2.2.2.1<ck)with
  |true=>exact⟨_,_,rfl,good_err h hr c 1⟩
  |false=>
  rw [cond_false]
  cases decide (c.2.2.2.2.2.2.2.1>ofNat 1099511627776)with
  |true=>exact⟨_,_,rfl,good_err h hr c 1⟩
  |false=>
  rw [cond_false]
  obtain⟨l,e,hdue,hq⟩:=due_ok rs (by omega) hr c.2.2.2.2.2.2.2.1
  simp only [hdue,Option.bind_some]
  have h0:L15a_1005440 (.inl (ofNat 0,0,ofNat 0,es,rs,c.2.2.2.2.2.2.2.1,nr,nt,nk,ne,ac,rs.length,es.length,ofNat 0,ofNat 0,ofNat 0,ofNat 0,ofNat 0,({data:= #[]}:ByteArray),ofNat 0,()))=some (.inl (ofNat 0,es,rs,c.2.2.2.2.2.2.2.1,nr,nt,nk,ne,ac,rs.length,es.length,ofNat 0,ofNat 0,ofNat 0,ofNat 0,ofNat 0,({data:= #[]}:ByteArray),ofNat 0,())):=by
    rw [L15a_1005440,loopF_eq]
    rfl
  by_cases hl:l= []
  · subst hl
    simp only [List.isEmpty_nil,cond_true,h0,Option.bind_some]
    generalize decide (((es.length:Nat):Int)>ofNat 40)=b40
    cases b40 with
    |true=>exact⟨_,_,rfl,good_err h hr c 8⟩
    | false=>
      simp only [cond_false,Nat.zero_add,Nat.le_refl,decide_true,cond_true]
      exact⟨_,_,rfl,good_app (by rw [List.length_take];omega) (fun x hx=>hr x (List.mem_of_mem_take hx)) h7 rfl ⟨[],by simp⟩ ⟨0,by simp⟩⟩
  · rcases hq with hq|⟨_,_,hperm,_⟩
    · exact absurd hq hl
    have hle:List.isEmpty l=false:=by cases l with
      |nil=>exact absurd rfl hl
      |cons a m=>rfl
    have hmin:(if ofNat 16<((l.length:Nat):Int)then ofNat 16 else((l.length:Nat):Int))=((min 16 l.length:Nat):Int):=by
      simp only [ofN]
      split<;>omega
    have hwi:within (0:Int) ((min 16 l.length:Nat):Int) ((l.length:Nat):Int)=true:=by
      simp only [within,Bool.and_eq_true,decide_eq_true_eq];omega
    obtain⟨y,hy,d,R,nk',ne',hs,hyq⟩:=loopa (min 16 l.length) rs es l c.2.2.2.2.2.2.2.1 nr nt ac (by omega) (by omega) hr hf he (fun p hp=>hperm.subset hp) nk ne
    have hy:L15a_1005440 (.inr (.inl (ofNat 0,min 16 l.length,((min 16 l.length:Nat):Int),ofNat 0,es,rs,c.2.2.2.2.2.2.2.1,nr,nt,nk,ne,ac,rs.length,es.length,ofNat 0,ofNat 0,ofNat 0,ofNat 0,ofNat 0,({data:= #[]}:ByteArray),ofNat 0,l,())))=some y:=hy
    simp only [hle,hmin,hwi,Int.toNat_natCast,Nat.sub_zero,cond_true,cond_false,hy,Option.bind_some]
    have hlR:rs.length≤R.length:=by rw [hs.len];omega
    have lR:(List.take rs.length (List.drop 0 R)).length≤100:=by rw [List.length_take];omega
    have oR:∀x∈List.take rs.length (List.drop 0 R),OkR x:=fun x hx=>hs.ok x (List.mem_of_mem_take hx)
    rcases hyq with rfl|⟨new,hnew,rfl⟩
    · simp only []
      generalize decide (((es.length:Nat):Int)>ofNat 40)=b40
      cases b40 with
      |true=>exact⟨_,_,rfl,good_err h hr c 8⟩
      | false=>
        simp only [cond_false,Nat.zero_add,Nat.le_refl,decide_true,cond_true,decide_eq_true hlR]
        exact⟨_,_,rfl,good_app lR oR h7 rfl ⟨[],by simp⟩ ⟨0,by simp⟩⟩
    · simp only []
      generalize decide ((((es++new).length:Nat):Int)>ofNat 40)=b40
      cases b40 with
      |true=>exact⟨_,_,rfl,good_err h hr c 8⟩
      | false=>
        simp only [cond_false,Nat.zero_add,Nat.le_refl,decide_true,cond_true,decide_eq_true hlR]
        exact⟨_,_,rfl,good_app lR oR h7 rfl ⟨new,all1 _⟩ ⟨0,by simp⟩⟩
theorem m15b_7 {ck nr nt nk ne ac:Int} {rs:List Run} (h:SOk (mk ck nr nt nk ne ac rs [])) (hr:∀r∈rs,OkR r) (hR:List.isEmpty rs=false) (c:Call) (hk:c.1=7):
    ∃t r,M15b_7 ((mk ck nr nt nk ne ac rs []),c,())=some (t,r,())∧Good (mk ck nr nt nk ne ac rs []) c t r:=by
  have h25:=twin_ok h
  have hf:=h.fine
  have he:=h.ev40
  simp only [mk]at h25 hf he
  have h32:=hf.1
  have E:=e15b h hR
  simp only [mk]at E
  have h7:c.1≠10:=by omega
  simp only [M15b_7,mk,h25,Option.bind_some,hR,List.isEmpty_nil,cond_false,Nat.zero_add,Nat.le_refl,decide_true,cond_true,allE,sgE,E]
  cases decide (c.2.2.2.2.2.2.2.1<ck)with
  |true=>exact⟨_,_,rfl,good_err h hr c 1⟩
  |false=>
  rw [cond_false]
  cases decide (c.2.2.2.2.2.2.2.1>ofNat 1099511627776)with
  |true=>exact⟨_,_,rfl,good_err h hr c 1⟩
  |false=>
  rw [cond_false]
  obtain⟨l,e,hdue,hq⟩:=due_ok rs (by omega) hr c.2.2.2.2.2.2.2.1
  simp only [hdue,Option.bind_some]
  have h0:L15b_1005440 (.inl (ofNat 0,0,ofNat 0,rs,c.2.2.2.2.2.2.2.1,nr,nt,nk,ne,ac,rs.length,ofNat 0,ofNat 0,ofNat 0,ofNat 0,ofNat 0,({data:= #[]}:ByteArray),ofNat 0,()))=some (.inl (ofNat 0,rs,c.2.2.2.2.2.2.2.1,nr,nt,nk,ne,ac,rs.length,ofNat 0,ofNat 0,ofNat 0,ofNat 0,ofNat 0,({data:= #[]}:ByteArray),ofNat 0,())):=by
    rw [L15b_1005440,loopF_eq]
    rfl
  by_cases hl:l= []
  · subst hl
    simp only [List.isEmpty_nil,cond_true,h0,Option.bind_some]
    try simp only [cond_false,Nat.zero_add,Nat.le_refl,decide_true,cond_true]
    exact⟨_,_,rfl,good_app (by rw [List.length_take];omega) (fun x hx=>hr x (List.mem_of_mem_take hx)) h7 rfl ⟨[],by simp⟩ ⟨0,by simp⟩⟩
  · rcases hq with hq|⟨_,_,hperm,_⟩
    · exact absurd hq hl
    have hle:List.isEmpty l=false:=by cases l with
      |nil=>exact absurd rfl hl
      |cons a m=>rfl
    have hmin:(if ofNat 16<((l.length:Nat):Int)then ofNat 16 else((l.length:Nat):Int))=((min 16 l.length:Nat):Int):=by
      simp only [ofN]
      split<;>omega
    have hwi:within (0:Int) ((min 16 l.length:Nat):Int) ((l.length:Nat):Int)=true:=by
      simp only [within,Bool.and_eq_true,decide_eq_true_eq];omega
    obtain⟨y,hy,d,R,nk',ne',hs,hyq⟩:=loopb (min 16 l.length) rs l c.2.2.2.2.2.2.2.1 nr nt ac (by omega) (by omega) hr hf (fun p hp=>hperm.subset hp) nk ne
    have hy:L15b_1005440 (.inr (.inl (ofNat 0,min 16 l.length,((min 16 l.length:Nat):Int),ofNat 0,rs,c.2.2.2.2.2.2.2.1,nr,nt,nk,ne,ac,rs.length,ofNat 0,ofNat 0,ofNat 0,ofNat 0,ofNat 0,({data:= #[]}:ByteArray),ofNat 0,l,())))=some y:=hy
    simp only [hle,hmin,hwi,Int.toNat_natCast,Nat.sub_zero,cond_true,cond_false,hy,Option.bind_some]
    have hlR:rs.length≤R.length:=by rw [hs.len];omega
    have lR:(List.take rs.length (List.drop 0 R)).length≤100:=by rw [List.length_take];omega
    have oR:∀x∈List.take rs.length (List.drop 0 R),OkR x:=fun x hx=>hs.ok x (List.mem_of_mem_take hx)
    rcases hyq with rfl|⟨new,hnew,rfl⟩
    · simp only []
      try simp only [cond_false,Nat.zero_add,Nat.le_refl,decide_true,cond_true,decide_eq_true hlR]
      exact⟨_,_,rfl,good_app lR oR h7 rfl ⟨[],by simp⟩ ⟨0,by simp⟩⟩
    · simp only []
      generalize decide (((new.length:Nat):Int)>ofNat 40)=b40
      cases b40 with
      |true=>exact⟨_,_,rfl,good_err h hr c 8⟩
      | false=>
        simp only [cond_false,Nat.zero_add,Nat.le_refl,decide_true,cond_true,decide_eq_true hlR]
        exact⟨_,_,rfl,good_app lR oR h7 rfl ⟨new,all1 _⟩ ⟨0,by simp⟩⟩
theorem m15c_7 {ck nr nt nk ne ac:Int} {es:List Event} (h:SOk (mk ck nr nt nk ne ac [] es)) (hr:∀r∈([]:List Run),OkR r) (hE:List.isEmpty es=false) (c:Call) (hk:c.1=7):
    ∃t r,M15c_7 ((mk ck nr nt nk ne ac [] es),c,())=some (t,r,())∧Good (mk ck nr nt nk ne ac [] es) c t r:=by
  have h25:=twin_ok h
  have hf:=h.fine
  have he:=h.ev40
  simp only [mk]at h25 hf he
  have h32:=hf.1
  have E:=e15c h hE
  simp only [mk]at E
  have h7:c.1≠10:=by omega
  simp only [M15c_7,mk,h25,Option.bind_some,hE,List.isEmpty_nil,cond_false,Nat.zero_add,Nat.le_refl,decide_true,cond_true,allE,sgE,E]
  cases decide (c.2.2.2.2.2.2.2.1<ck)with
  |true=>exact⟨_,_,rfl,good_err h hr c 1⟩
  |false=>
  rw [cond_false]
  cases decide (c.2.2.2.2.2.2.2.1>ofNat 1099511627776)with
  |true=>exact⟨_,_,rfl,good_err h hr c 1⟩
  |false=>
  rw [cond_false]
  obtain⟨l,e,hdue,hq⟩:=due_ok ([]:List Run) (by omega) hr c.2.2.2.2.2.2.2.1
  simp only [hdue,Option.bind_some]
  have h0:L15c_1005440 (.inl (ofNat 0,0,ofNat 0,es,c.2.2.2.2.2.2.2.1,nr,nt,nk,ne,ac,es.length,ofNat 0,ofNat 0,ofNat 0,ofNat 0,ofNat 0,({data:= #[]}:ByteArray),ofNat 0,()))=some (.inl (ofNat 0,es,c.2.2.2.2.2.2.2.1,nr,nt,nk,ne,ac,es.length,ofNat 0,ofNat 0,ofNat 0,ofNat 0,ofNat 0,({data:= #[]}:ByteArray),ofNat 0,())):=by
    rw [L15c_1005440,loopF_eq]
    rfl
  obtain rfl:l= []:=by
    rcases hq with hq|⟨_,_,hq,_⟩
    · exact hq
    · exact hq.eq_nil
  simp only [List.isEmpty_nil,cond_true,h0,Option.bind_some]
  generalize decide (((es.length:Nat):Int)>ofNat 40)=b40
  cases b40 with
  |true=>exact⟨_,_,rfl,good_err h hr c 8⟩
  | false=>
    simp only [cond_false,Nat.zero_add,Nat.le_refl,decide_true,cond_true]
    exact⟨_,_,rfl,good_app (by simp) hr h7 rfl ⟨[],by simp⟩ ⟨0,by simp⟩⟩
theorem m15d_7 {ck nr nt nk ne ac:Int} (h:SOk (mk ck nr nt nk ne ac [] [])) (hr:∀r∈([]:List Run),OkR r) (c:Call) (hk:c.1=7):
  ∃t r,M15d_7 ((mk ck nr nt nk ne ac [] []),c,())=some (t,r,())∧Good (mk ck nr nt nk ne ac [] []) c t r:=by
 have h25:=twin_ok h
 have hf:=h.fine
 have he:=h.ev40
 simp only [mk]at h25 hf he
 have h32:=hf.1
 have E:=e15d h
 simp only [mk]at E
 have h7:c.1≠10:=by omega
 simp only [M15d_7,mk,h25,Option.bind_some,List.isEmpty_nil,cond_false,Nat.zero_add,Nat.le_refl,decide_true,cond_true,allE,sgE,E]
 cases decide (c.2.2.2.2.2.2.2.1<ck)with
 |true=>exact⟨_,_,rfl,good_err h hr c 1⟩
 |false=>
 rw [cond_false]
 cases decide (c.2.2.2.2.2.2.2.1>ofNat 1099511627776)with
 |true=>exact⟨_,_,rfl,good_err h hr c 1⟩
 |false=>
 rw [cond_false]
 obtain⟨l,e,hdue,hq⟩:=due_ok ([]:List Run) (by omega) hr c.2.2.2.2.2.2.2.1
 simp only [hdue,Option.bind_some]
 have h0:L15d_1005440 (.inl (ofNat 0,0,ofNat 0,c.2.2.2.2.2.2.2.1,nr,nt,nk,ne,ac,ofNat 0,ofNat 0,ofNat 0,ofNat 0,ofNat 0,({data:= #[]}:ByteArray),ofNat 0,()))=some (.inl (ofNat 0,c.2.2.2.2.2.2.2.1,nr,nt,nk,ne,ac,ofNat 0,ofNat 0,ofNat 0,ofNat 0,ofNat 0,({data:= #[]}:ByteArray),ofNat 0,())):=by
  rw [L15d_1005440,loopF_eq]
  rfl
 obtain rfl:l= []:=by
  rcases hq with hq|⟨_,_,hq,_⟩
  ·exact hq
  ·exact hq.eq_nil
 simp only [List.isEmpty_nil,cond_true,h0,Option.bind_some]
 try simp only [cond_false,Nat.zero_add,Nat.le_refl,decide_true,cond_true]
 exact⟨_,_,rfl,good_app (by simp) hr h7 rfl ⟨[],by simp⟩ ⟨0,by simp⟩⟩
theorem kstep {G:State→Reply→Prop} {M E:Option (State×Reply×Unit)} (x:State) (b:Bool) (hM:∃t r,M=some (t,r,())∧G t r) (hE:∃t r,E=some (t,r,())∧G t r):
    ∃t r,((F48 (x,())).bind fun y=>bif y.1 then(bif b then E else M)else M)=some (t,r,())∧G t r:=by
  obtain⟨b',hb⟩:∃b',F48 (x,())=some (b',()):=⟨_,rfl⟩
  rw [hb,Option.bind_some]
  cases b' with
  | true=>
    cases b with
    |true=>exact hE
    |false=>exact hM
  |false=>exact hM
theorem do_a {ck nr nt nk ne ac:Int} {rs:List Run} {es:List Event} (h:SOk (mk ck nr nt nk ne ac rs es)) (hr:∀r∈rs,OkR r) (hR:List.isEmpty rs=false) (hE:List.isEmpty es=false) (c:Call) (hcl:∀nd∈c.2.2.1.1,nd.1.length≤9223372036854775807):
  ∃t r,F15a ((mk ck nr nt nk ne ac rs es),c,())=some (t,r,())∧Good (mk ck nr nt nk ne ac rs es) c t r:=by
 obtain⟨v,hv,hc⟩:=check_ok (mk ck nr nt nk ne ac rs es) (by have:=h.fine.1;simp only [mk]at this⊢;omega) hr
 obtain rfl:v=0:=by
  rcases hc with⟨h1,_⟩|⟨_,hc⟩
  ·exact h1
  ·exact absurd h hc
 have E:=e15a h hR hE
 have Eg:=good_err h hr c
 simp only [F15a,hv,Option.bind_some,n00,cond_false]
 by_cases k1:c.1=1
 ·rw [show(c.1==ofNat 1)=true by rw [k1];rfl,cond_true]
  exact kstep _ _ (m15a_1 h hr hR hE c hcl k1) ⟨_,_,E 9,Eg 8⟩
 rw [show(c.1==ofNat 1)=false by simpa using k1,cond_false]
 by_cases k2:c.1=2
 ·rw [show(c.1==ofNat 2)=true by rw [k2];rfl,cond_true]
  exact kstep _ _ (m15a_2 h hr hR hE c k2) ⟨_,_,E 9,Eg 8⟩
 rw [show(c.1==ofNat 2)=false by simpa using k2,cond_false]
 by_cases k3:c.1=3
 ·rw [show(c.1==ofNat 3)=true by rw [k3];rfl,cond_true]
  exact kstep _ _ (m15a_3 h hr hR hE c k3) ⟨_,_,E 9,Eg 8⟩
 rw [show(c.1==ofNat 3)=false by simpa using k3,cond_false]
 by_cases k4:c.1=4
 ·rw [show(c.1==ofNat 4)=true by rw [k4];rfl,cond_true]
  exact kstep _ _ (m15a_4 h hr hR hE c k4) ⟨_,_,E 9,Eg 8⟩
 rw [show(c.1==ofNat 4)=false by simpa using k4,cond_false]
 by_cases k5:c.1=5
 ·rw [show(c.1==ofNat 5)=true by rw [k5];rfl,cond_true]
  exact kstep _ _ (m15a_5 h hr hR hE c k5) ⟨_,_,E 9,Eg 8⟩
 rw [show(c.1==ofNat 5)=false by simpa using k5,cond_false]
 by_cases k6:c.1=6
 ·rw [show(c.1==ofNat 6)=true by rw [k6];rfl,cond_true]
  exact kstep _ _ (m15a_6 h hr hR hE c k6) ⟨_,_,E 9,Eg 8⟩
 rw [show(c.1==ofNat 6)=false by simpa using k6,cond_false]
 by_cases k7:c.1=7
 ·rw [show(c.1==ofNat 7)=true by rw [k7];rfl,cond_true]
  exact kstep _ _ (m15a_7 h hr hR hE c k7) ⟨_,_,E 9,Eg 8⟩
 rw [show(c.1==ofNat 7)=false by simpa using k7,cond_false]
 by_cases k8:c.1=8
 ·rw [show(c.1==ofNat 8)=true by rw [k8];rfl,cond_true]
  exact kstep _ _ (m15a_8 h hr hR hE c k8) ⟨_,_,E 9,Eg 8⟩
 rw [show(c.1==ofNat 8)=false by simpa using k8,cond_false]
 by_cases k9:c.1=9
 ·rw [show(c.1==ofNat 9)=true by rw [k9];rfl,cond_true]
  exact kstep _ _ (m15a_9 h hr hR hE c k9) ⟨_,_,E 9,Eg 8⟩
 rw [show(c.1==ofNat 9)=false by simpa using k9,cond_false]
 by_cases k10:c.1=10
 ·rw [show(c.1==ofNat 10)=true by rw [k10];rfl,cond_true]
  exact kstep _ _ (m15a_10 h hr hR hE c k10) ⟨_,_,E 9,Eg 8⟩
 rw [show(c.1==ofNat 10)=false by simpa using k10,cond_false]
 exact⟨_,_,E 2,Eg 1⟩
theorem do_b {ck nr nt nk ne ac:Int} {rs:List Run} (h:SOk (mk ck nr nt nk ne ac rs [])) (hr:∀r∈rs,OkR r) (hR:List.isEmpty rs=false) (c:Call) (hcl:∀nd∈c.2.2.1.1,nd.1.length≤9223372036854775807):
  ∃t r,F15b ((mk ck nr nt nk ne ac rs []),c,())=some (t,r,())∧Good (mk ck nr nt nk ne ac rs []) c t r:=by
 obtain⟨v,hv,hc⟩:=check_ok (mk ck nr nt nk ne ac rs []) (by have:=h.fine.1;simp only [mk]at this⊢;omega) hr
 obtain rfl:v=0:=by
  rcases hc with⟨h1,_⟩|⟨_,hc⟩
  ·exact h1
  ·exact absurd h hc
 have E:=e15b h hR
 have Eg:=good_err h hr c
 simp only [F15b,hv,Option.bind_some,n00,cond_false]
 by_cases k1:c.1=1
 ·rw [show(c.1==ofNat 1)=true by rw [k1];rfl,cond_true]
  exact kstep _ _ (m15b_1 h hr hR c hcl k1) ⟨_,_,E 9,Eg 8⟩
 rw [show(c.1==ofNat 1)=false by simpa using k1,cond_false]
 by_cases k2:c.1=2
 ·rw [show(c.1==ofNat 2)=true by rw [k2];rfl,cond_true]
  exact kstep _ _ (m15b_2 h hr hR c k2) ⟨_,_,E 9,Eg 8⟩
 rw [show(c.1==ofNat 2)=false by simpa using k2,cond_false]
 by_cases k3:c.1=3
 ·rw [show(c.1==ofNat 3)=true by rw [k3];rfl,cond_true]
  exact kstep _ _ (m15b_3 h hr hR c k3) ⟨_,_,E 9,Eg 8⟩
 rw [show(c.1==ofNat 3)=false by simpa using k3,cond_false]
 by_cases k4:c.1=4
 ·rw [show(c.1==ofNat 4)=true by rw [k4];rfl,cond_true]
  exact kstep _ _ (m15b_4 h hr hR c k4) ⟨_,_,E 9,Eg 8⟩
 rw [show(c.1==ofNat 4)=false by simpa using k4,cond_false]
 by_cases k5:c.1=5
 ·rw [show(c.1==ofNat 5)=true by rw [k5];rfl,cond_true]
  exact kstep _ _ (m15b_5 h hr hR c k5) ⟨_,_,E 9,Eg 8⟩
 rw [show(c.1==ofNat 5)=false by simpa using k5,cond_false]
 by_cases k6:c.1=6
 ·rw [show(c.1==ofNat 6)=true by rw [k6];rfl,cond_true]
  exact kstep _ _ (m15b_6 h hr hR c k6) ⟨_,_,E 9,Eg 8⟩
 rw [show(c.1==ofNat 6)=false by simpa using k6,cond_false]
 by_cases k7:c.1=7
 ·rw [show(c.1==ofNat 7)=true by rw [k7];rfl,cond_true]
  exact kstep _ _ (m15b_7 h hr hR c k7) ⟨_,_,E 9,Eg 8⟩
 rw [show(c.1==ofNat 7)=false by simpa using k7,cond_false]
 by_cases k8:c.1=8
 ·rw [show(c.1==ofNat 8)=true by rw [k8];rfl,cond_true]
  exact kstep _ _ (m15b_8 h hr hR c k8) ⟨_,_,E 9,Eg 8⟩
 rw [show(c.1==ofNat 8)=false by simpa using k8,cond_false]
 by_cases k9:c.1=9
 ·rw [show(c.1==ofNat 9)=true by rw [k9];rfl,cond_true]
  exact kstep _ _ (m15b_9 h hr hR c k9) ⟨_,_,E 9,Eg 8⟩
 rw [show(c.1==ofNat 9)=false by simpa using k9,cond_false]
 by_cases k10:c.1=10
 ·rw [show(c.1==ofNat 10)=true by rw [k10];rfl,cond_true]
  exact kstep _ _ (m15b_10 h hr hR c k10) ⟨_,_,E 9,Eg 8⟩
 rw [show(c.1==ofNat 10)=false by simpa using k10,cond_false]
 exact⟨_,_,E 2,Eg 1⟩
theorem do_c {ck nr nt nk ne ac:Int} {es:List Event} (h:SOk (mk ck nr nt nk ne ac [] es)) (hr:∀r∈([]:List Run),OkR r) (hE:List.isEmpty es=false) (c:Call) (hcl:∀nd∈c.2.2.1.1,nd.1.length≤9223372036854775807):
  ∃t r,F15c ((mk ck nr nt nk ne ac [] es),c,())=some (t,r,())∧Good (mk ck nr nt nk ne ac [] es) c t r:=by
 obtain⟨v,hv,hc⟩:=check_ok (mk ck nr nt nk ne ac [] es) (by have:=h.fine.1;simp only [mk]at this⊢;omega) hr
 obtain rfl:v=0:=by
  rcases hc with⟨h1,_⟩|⟨_,hc⟩
  ·exact h1
  ·exact absurd h hc
 have E:=e15c h hE
 have Eg:=good_err h hr c
 simp only [F15c,hv,Option.bind_some,n00,cond_false]
 by_cases k1:c.1=1
 ·rw [show(c.1==ofNat 1)=true by rw [k1];rfl,cond_true]
  exact kstep _ _ (m15c_1 h hr hE c hcl k1) ⟨_,_,E 9,Eg 8⟩
 rw [show(c.1==ofNat 1)=false by simpa using k1,cond_false]
 by_cases k2:c.1=2
 ·rw [show(c.1==ofNat 2)=true by rw [k2];rfl,cond_true]
  exact kstep _ _ (m15c_2 h hr hE c k2) ⟨_,_,E 9,Eg 8⟩
 rw [show(c.1==ofNat 2)=false by simpa using k2,cond_false]
 by_cases k3:c.1=3
 ·rw [show(c.1==ofNat 3)=true by rw [k3];rfl,cond_true]
  exact kstep _ _ (m15c_3 h hr hE c k3) ⟨_,_,E 9,Eg 8⟩
 rw [show(c.1==ofNat 3)=false by simpa using k3,cond_false]
 by_cases k4:c.1=4
 ·rw [show(c.1==ofNat 4)=true by rw [k4];rfl,cond_true]
  exact kstep _ _ (m15c_4 h hr hE c k4) ⟨_,_,E 9,Eg 8⟩
 rw [show(c.1==ofNat 4)=false by simpa using k4,cond_false]
 by_cases k5:c.1=5
 ·rw [show(c.1==ofNat 5)=true by rw [k5];rfl,cond_true]
  exact kstep _ _ (m15c_5 h hr hE c k5) ⟨_,_,E 9,Eg 8⟩
 rw [show(c.1==ofNat 5)=false by simpa using k5,cond_false]
 by_cases k6:c.1=6
 ·rw [show(c.1==ofNat 6)=true by rw [k6];rfl,cond_true]
  exact kstep _ _ (m15c_6 h hr hE c k6) ⟨_,_,E 9,Eg 8⟩
 rw [show(c.1==ofNat 6)=false by simpa using k6,cond_false]
 by_cases k7:c.1=7
 ·rw [show(c.1==ofNat 7)=true by rw [k7];rfl,cond_true]
  exact kstep _ _ (m15c_7 h hr hE c k7) ⟨_,_,E 9,Eg 8⟩
 rw [show(c.1==ofNat 7)=false by simpa using k7,cond_false]
 by_cases k8:c.1=8
 ·rw [show(c.1==ofNat 8)=true by rw [k8];rfl,cond_true]
  exact kstep _ _ (m15c_8 h hr hE c k8) ⟨_,_,E 9,Eg 8⟩
 rw [show(c.1==ofNat 8)=false by simpa using k8,cond_false]
 by_cases k9:c.1=9
 ·rw [show(c.1==ofNat 9)=true by rw [k9];rfl,cond_true]
  exact kstep _ _ (m15c_9 h hr hE c k9) ⟨_,_,E 9,Eg 8⟩
 rw [show(c.1==ofNat 9)=false by simpa using k9,cond_false]
 by_cases k10:c.1=10
 ·rw [show(c.1==ofNat 10)=true by rw [k10];rfl,cond_true]
  exact kstep _ _ (m15c_10 h hr hE c k10) ⟨_,_,E 9,Eg 8⟩
 rw [show(c.1==ofNat 10)=false by simpa using k10,cond_false]
 exact⟨_,_,E 2,Eg 1⟩
theorem do_d {ck nr nt nk ne ac:Int} (h:SOk (mk ck nr nt nk ne ac [] [])) (hr:∀r∈([]:List Run),OkR r) (c:Call) (hcl:∀nd∈c.2.2.1.1,nd.1.length≤9223372036854775807):
  ∃t r,F15d ((mk ck nr nt nk ne ac [] []),c,())=some (t,r,())∧Good (mk ck nr nt nk ne ac [] []) c t r:=by
 obtain⟨v,hv,hc⟩:=check_ok (mk ck nr nt nk ne ac [] []) (by have:=h.fine.1;simp only [mk]at this⊢;omega) hr
 obtain rfl:v=0:=by
  rcases hc with⟨h1,_⟩|⟨_,hc⟩
  ·exact h1
  ·exact absurd h hc
 have E:=e15d h
 have Eg:=good_err h hr c
 simp only [F15d,hv,Option.bind_some,n00,cond_false]
 by_cases k1:c.1=1
 ·rw [show(c.1==ofNat 1)=true by rw [k1];rfl,cond_true]
  exact kstep _ _ (m15d_1 h hr c hcl k1) ⟨_,_,E 9,Eg 8⟩
 rw [show(c.1==ofNat 1)=false by simpa using k1,cond_false]
 by_cases k2:c.1=2
 ·rw [show(c.1==ofNat 2)=true by rw [k2];rfl,cond_true]
  exact kstep _ _ (m15d_2 h hr c k2) ⟨_,_,E 9,Eg 8⟩
 rw [show(c.1==ofNat 2)=false by simpa using k2,cond_false]
 by_cases k3:c.1=3
 ·rw [show(c.1==ofNat 3)=true by rw [k3];rfl,cond_true]
  exact kstep _ _ (m15d_3 h hr c k3) ⟨_,_,E 9,Eg 8⟩
 rw [show(c.1==ofNat 3)=false by simpa using k3,cond_false]
 by_cases k4:c.1=4
 ·rw [show(c.1==ofNat 4)=true by rw [k4];rfl,cond_true]
  exact kstep _ _ (m15d_4 h hr c k4) ⟨_,_,E 9,Eg 8⟩
 rw [show(c.1==ofNat 4)=false by simpa using k4,cond_false]
 by_cases k5:c.1=5
 ·rw [show(c.1==ofNat 5)=true by rw [k5];rfl,cond_true]
  exact kstep _ _ (m15d_5 h hr c k5) ⟨_,_,E 9,Eg 8⟩
 rw [show(c.1==ofNat 5)=false by simpa using k5,cond_false]
 by_cases k6:c.1=6
 ·rw [show(c.1==ofNat 6)=true by rw [k6];rfl,cond_true]
  exact kstep _ _ (m15d_6 h hr c k6) ⟨_,_,E 9,Eg 8⟩
 rw [show(c.1==ofNat 6)=false by simpa using k6,cond_false]
 by_cases k7:c.1=7
 ·rw [show(c.1==ofNat 7)=true by rw [k7];rfl,cond_true]
  exact kstep _ _ (m15d_7 h hr c k7) ⟨_,_,E 9,Eg 8⟩
 rw [show(c.1==ofNat 7)=false by simpa using k7,cond_false]
 by_cases k8:c.1=8
 ·rw [show(c.1==ofNat 8)=true by rw [k8];rfl,cond_true]
  exact kstep _ _ (m15d_8 h hr c k8) ⟨_,_,E 9,Eg 8⟩
 rw [show(c.1==ofNat 8)=false by simpa using k8,cond_false]
 by_cases k9:c.1=9
 ·rw [show(c.1==ofNat 9)=true by rw [k9];rfl,cond_true]
  exact kstep _ _ (m15d_9 h hr c k9) ⟨_,_,E 9,Eg 8⟩
 rw [show(c.1==ofNat 9)=false by simpa using k9,cond_false]
 by_cases k10:c.1=10
 ·rw [show(c.1==ofNat 10)=true by rw [k10];rfl,cond_true]
  exact kstep _ _ (m15d_10 h hr c k10) ⟨_,_,E 9,Eg 8⟩
 rw [show(c.1==ofNat 10)=false by simpa using k10,cond_false]
 exact⟨_,_,E 2,Eg 1⟩
theorem roomL {n:Nat} (h:n≤30000):(decide ((n+1)*32≤maxRoom) && decide (n+1≤maxRoom))=true:=by
 have:maxRoom=70368744177664:=by decide
 rw [this]
 simp;omega
abbrev none_:Event:=(Int.negSucc 0,ofNat 0,ofNat 0,ofNat 0,())
section
variable (cs:List Call) (ac i:Int) (ck nr nt nk ne a:Int) (rs:List Run) (es:List Event)
def enB:List Event→(List Call×Int×Int×Int×Int×Int×Int×Int×Int×List Run×List Event×Unit)⊕(List Call×Int×Nat×Int×Int×Int×Int×Int×Int×Int×List Run×List Event×List Event×Unit)
 | []=>.inl (cs,ac,i,ck,nr,nt,nk,ne,a,rs,es,())
 |x::l=>.inr (cs,ac,(x::l).length,i,ck,nr,nt,nk,ne,a,rs,es,x::l,())
def lenB:(List Call×Int×Int×Int×Int×Int×Int×Int×Int×List Run×List Event×Unit)⊕(List Call×Int×Nat×Int×Int×Int×Int×Int×Int×Int×List Run×List Event×List Event×Unit)→Nat
 | .inl _=>0
 | .inr y=>y.2.2.1
theorem lenB_en (s:List Event):lenB (enB cs ac i ck nr nt nk ne a rs es s)=s.length:=by cases s<;>rfl
theorem l258 (seen:List Event) (hac:0≤ac∧ac≤20000) (hs:seen.length≤25000):
    ∃pad:List Event,L4_1000258 (enB cs ac i ck nr nt nk ne a rs es seen)=some (enB cs ac i ck nr nt nk ne a rs es (seen++pad))∧(ac≤seen.length→pad= [])∧((seen.length:Int)<ac→((seen++pad).length:Int)=ac):=by
  obtain⟨y,hy,pad,rfl,h1,h2⟩:=loopF_hoare (st:=L4_1000258t) (fun x=>(ac-lenB x).toNat) (fun x=>∃pad:List Event,x=enB cs ac i ck nr nt nk ne a rs es (seen++pad)∧(ac≤seen.length→pad= [])∧((seen.length:Int)<ac→((seen++pad).length:Int)≤ac))
    (fun y=>∃pad:List Event,y=enB cs ac i ck nr nt nk ne a rs es (seen++pad)∧(ac≤seen.length→pad= [])∧((seen.length:Int)<ac→((seen++pad).length:Int)=ac)) (fun x hx=>by
      obtain⟨pad,rfl,h1,h2⟩:=hx
      by_cases c:((seen++pad).length:Int)<ac
      · have hlt:(seen.length:Int)<ac:=by rw [List.length_append]at c;omega
        refine .inl ⟨enB cs ac i ck nr nt nk ne a rs es ((seen++pad)++ [none_]),?_,⟨pad++ [none_],by rw [List.append_assoc],fun h=>absurd h (by omega),fun _=> ?_⟩,?_⟩
        · generalize hS:seen++pad=S at c
          cases S with
          | nil=>
            simp only [List.length_nil]at c
            simp only [enB,L4_1000258t,L4_1000258s0,decide_eq_true (show(0:Int)<ac by omega),cond_true,sgE,allE]
            rfl
          | cons x l=>
            have e1:decide ((x::l).length≤(x::l).length)=true:=decide_eq_true (Nat.le_refl _)
            have e2:decide ((x::l).length=(x::l).length)=true:=decide_eq_true rfl
            have e3:=roomL (n:=(x::l).length) (by omega)
            simp only [enB,L4_1000258t,L4_1000258s1,decide_eq_true c,cond_true,sgE,allE,all1,Nat.zero_add,e1,e2,List.length_singleton,e3]
            simp only [List.length_append,List.length_singleton,decide_true,cond_true,List.cons_append,List.length_cons]
        · rw [←List.append_assoc,List.length_append];simp only [List.length_singleton];omega
        · rw [lenB_en,lenB_en,List.length_append (bs:=[none_])];simp only [List.length_singleton];omega
      · refine .inr ⟨enB cs ac i ck nr nt nk ne a rs es (seen++pad),?_,pad,rfl,h1,fun h=>by have:=h2 h;omega⟩
        generalize hS:seen++pad=S at c
        cases S with
        | nil=>
          simp only [List.length_nil]at c
          simp only [enB,L4_1000258t,L4_1000258s0,decide_eq_false (show¬(0:Int)<ac by omega),cond_false]
        |cons x l=>simp only [enB,L4_1000258t,L4_1000258s1,decide_eq_false c,cond_false]) (enB cs ac i ck nr nt nk ne a rs es seen) ⟨[],by rw [List.append_nil],fun _=>rfl,fun h=>by rw [List.append_nil];omega⟩
  exact⟨pad,hy,h1,h2⟩
variable (r:Reply)
def enA (k:Int):List Event→(List Call×Int×Int×Int×Int×Int×Int×Int×Int×Int×List Run×List Event×Int×Int×Int×Int×Int×ByteArray×List Node×Int×List Task×List Event×Unit)⊕(List Call×Int×Nat×Int×Int×Int×Int×Int×Int×Int×Int×List Run×List Event×List Event×Int×Int×Int×Int×Int×ByteArray×List Node×Int×List Task×List Event×Unit)
 | []=>.inl (cs,ac,i,k,ck,nr,nt,nk,ne,a,rs,es,r.1,r.2.1,r.2.2.1,r.2.2.2.1,r.2.2.2.2.1.1,r.2.2.2.2.1.2.1,r.2.2.2.2.1.2.2.1.1,r.2.2.2.2.1.2.2.2.1,r.2.2.2.2.1.2.2.2.2.1,r.2.2.2.2.2.1,())
 |x::l=>.inr (cs,ac,(x::l).length,i,k,ck,nr,nt,nk,ne,a,rs,es,x::l,r.1,r.2.1,r.2.2.1,r.2.2.2.1,r.2.2.2.2.1.1,r.2.2.2.2.1.2.1,r.2.2.2.2.1.2.2.1.1,r.2.2.2.2.1.2.2.2.1,r.2.2.2.2.1.2.2.2.2.1,r.2.2.2.2.2.1,())
theorem l257 (seen:List Event) (hac:0≤ac∧ac≤20000) (hs:seen.length≤20000) (hr:r.2.2.2.2.2.1.length≤40) (hnum:∀j:Nat,j<r.2.2.2.2.2.1.length→(r.2.2.2.2.2.1.getD j (dft sEvent)).1=ac+1+j)
    (hlo:0<r.2.2.2.2.2.1.length→ac≤seen.length) (hse:∀j:Nat,j<r.2.2.2.2.2.1.length→ac+j<seen.length→seen.getD (ac.toNat+j) (dft sEvent)=r.2.2.2.2.2.1.getD j (dft sEvent)):
    ∃seen' z,(L4_1000257 (enA cs ac i ck nr nt nk ne a rs es r (ofNat 0) seen)=some z)∧((seen'= []∧z= .inr (.inl (cs,ac,i,ck,nr,nt,nk,ne,a,rs,es,r.1,r.2.1,r.2.2.1,r.2.2.2.1,r.2.2.2.2.1.1,r.2.2.2.2.1.2.1,r.2.2.2.2.1.2.2.1.1,r.2.2.2.2.1.2.2.2.1,r.2.2.2.2.1.2.2.2.2.1,r.2.2.2.2.2.1,())))∨
      (seen'≠ []∧z= .inr (.inr (.inr (cs,ac,seen'.length,i,ck,nr,nt,nk,ne,a,rs,es,seen',r.1,r.2.1,r.2.2.1,r.2.2.2.1,r.2.2.2.2.1.1,r.2.2.2.2.1.2.1,r.2.2.2.2.1.2.2.1.1,r.2.2.2.2.1.2.2.2.1,r.2.2.2.2.1.2.2.2.2.1,r.2.2.2.2.2.1,())))))∧
      (∃more,seen'=seen++more)∧(seen'.length:Int)≤max (seen.length:Int) (ac+r.2.2.2.2.2.1.length)∧(∀j:Nat,j<r.2.2.2.2.2.1.length→ac+j<seen'.length→seen'.getD (ac.toNat+j) (dft sEvent)=r.2.2.2.2.2.1.getD j (dft sEvent))∧(r.2.2.2.2.2.1.length=0→seen'=seen):=by
  generalize hev:r.2.2.2.2.2.1=evs at hr hnum hse hlo⊢
  obtain⟨z,hz,seen',hq⟩:=rng_hoare (st:=L4_1000257t) evs.length (fun k (S:List Event)=>enA cs ac i ck nr nt nk ne a rs es r (k:Int) S)
    (fun k S=>(∃more,S=seen++more)∧(S.length:Int)≤max (seen.length:Int) (ac+k)∧(0<evs.length→ac+k≤S.length)∧(∀j:Nat,j<evs.length→ac+j<S.length→S.getD (ac.toNat+j) (dft sEvent)=evs.getD j (dft sEvent))∧(evs.length=0→S=seen))
    (fun z=>∃seen':List Event,((seen'= []∧z= .inr (.inl (cs,ac,i,ck,nr,nt,nk,ne,a,rs,es,r.1,r.2.1,r.2.2.1,r.2.2.2.1,r.2.2.2.2.1.1,r.2.2.2.2.1.2.1,r.2.2.2.2.1.2.2.1.1,r.2.2.2.2.1.2.2.2.1,r.2.2.2.2.1.2.2.2.2.1,evs,())))∨
      (seen'≠ []∧z= .inr (.inr (.inr (cs,ac,seen'.length,i,ck,nr,nt,nk,ne,a,rs,es,seen',r.1,r.2.1,r.2.2.1,r.2.2.2.1,r.2.2.2.2.1.1,r.2.2.2.2.1.2.1,r.2.2.2.2.1.2.2.1.1,r.2.2.2.2.1.2.2.2.1,r.2.2.2.2.1.2.2.2.2.1,evs,())))))∧
      (∃more,seen'=seen++more)∧(seen'.length:Int)≤max (seen.length:Int) (ac+evs.length)∧(∀j:Nat,j<evs.length→ac+j<seen'.length→seen'.getD (ac.toNat+j) (dft sEvent)=evs.getD j (dft sEvent))∧(evs.length=0→seen'=seen)) (fun k S h hx=>by
      obtain⟨⟨more,hmore⟩,h2,h3,h4,h5⟩:=hx
      have h3:=h3 (by omega)
      have hg:=hnum k h
      have happ:S.length=(ac+k)→(∃more,S++ [evs.getD k (dft sEvent)]=seen++more)∧((S++ [evs.getD k (dft sEvent)]).length:Int)≤max (seen.length:Int) (ac+((k+1:Nat):Int))∧(0<evs.length→ac+((k+1:Nat):Int)≤(S++ [evs.getD k (dft sEvent)]).length)∧(∀j:Nat,j<evs.length→ac+j<(S++ [evs.getD k (dft sEvent)]).length→(S++ [evs.getD k (dft sEvent)]).getD (ac.toNat+j) (dft sEvent)=evs.getD j (dft sEvent))∧(evs.length=0→S++ [evs.getD k (dft sEvent)]=seen):=fun hl=>by
        refine⟨⟨more++ [evs.getD k (dft sEvent)],by rw [hmore,List.append_assoc]⟩,?_,fun _=> ?_,fun j hj hj2=> ?_,fun h=>by omega⟩
        · rw [List.length_append,List.length_singleton];omega
        · rw [List.length_append,List.length_singleton];omega
        · rw [List.length_append,List.length_singleton]at hj2
          rw [List.getD_eq_getElem?_getD]
          rcases Nat.lt_or_ge (ac.toNat+j) S.length with h6|h6
          · rw [List.getElem?_append_left h6,←List.getD_eq_getElem?_getD]
            exact h4 j hj (by omega)
          · have:j=k:=by omega
            subst this
            rw [List.getElem?_append_right h6,show ac.toNat+j-S.length=0 by omega]
            rfl
      obtain⟨g,hgd⟩:∃g,evs.getD k (dft sEvent)=g:=⟨_,rfl⟩
      rw [hgd]at hg happ
      have e0:IntKind.i64.wrap (IntKind.i64.wrap (ac+ofNat 1)+(k:Int))=ac+1+k:=by
        rw [show IntKind.i64.wrap (ac+ofNat 1)=ac+1 by rw [IntKind.wrap_i64];simp only [ofN];omega,IntKind.wrap_i64];omega
      have c1:(g.1 !=ac+1+(k:Int))=false:=by rw [hg];simp
      have ek:IntKind.i64.wrap ((k:Int)+ofNat 1)=((k+1:Nat):Int):=by rw [IntKind.wrap_i64];simp only [ofN];omega
      cases S with
      | nil=>
        simp only [List.length_nil]at h3
        have c2:decide (g.1≤0)=false:=decide_eq_false (by omega)
        have c3:(g.1==IntKind.i64.wrap (0+ofNat 1))=true:=by rw [show g.1=1 by omega];rfl
        refine .inl ⟨[]++ [g],?_,happ (by simp only [List.length_nil];omega)⟩
        simp only [enA,L4_1000257t,L4_1000257s0,L4_1000257s0r,hev,rg_lt h,rg_in h,rg_ltn h,cond_true,cond_false,Int.toNat_natCast,hgd,e0,c1,c2,c3,allE,sgE,ek]
        rfl
      | cons x l=>
        generalize hS:x::l=S at h2 h3 h4 happ hmore
        have hSl:S.length=(x::l).length:=by rw [←hS]
        have ew:IntKind.i64.wrap ((S.length:Int)+ofNat 1)=(S.length:Int)+1:=by rw [IntKind.wrap_i64];simp only [ofN];omega
        by_cases c:g.1≤(S.length:Int)
        · have e5:IntKind.i64.wrap (g.1-ofNat 1)=((ac.toNat+k:Nat):Int):=by rw [IntKind.wrap_i64];simp only [ofN];omega
          have hw:within 0 ((ac.toNat+k:Nat):Int) ((S.length:Int)-1)=true:=by simp only [within,Bool.and_eq_true,decide_eq_true_eq];omega
          have hd:decide (ac.toNat+k<S.length)=true:=decide_eq_true (by omega)
          have hSg:=h4 k h (by omega)
          rw [hgd]at hSg
          have c4:(g.1==(S.length:Int)+1)=false:=by simp;omega
          refine .inl ⟨S,?_,⟨more,hmore⟩,by omega,fun _=>by omega,h4,fun h=>by omega⟩
          subst hS
          simp only [enA,L4_1000257t,L4_1000257s1,L4_1000257s1r,hev,rg_lt h,rg_in h,rg_ltn h,cond_true,cond_false,Int.toNat_natCast,hgd,e0,c1,decide_eq_true c,e5,hw,Nat.zero_add,hd,hSg,beq_self_eq_true,Bool.and_self,Bool.not_true,if_true,ew,c4,ek]
        · have c4:(g.1==(S.length:Int)+1)=true:=by rw [show g.1=(S.length:Int)+1 by omega];simp
          have e1:decide (S.length≤S.length)=true:=decide_eq_true (Nat.le_refl _)
          have e2:decide (S.length=S.length)=true:=decide_eq_true rfl
          have e3:=roomL (n:=S.length) (by omega)
          refine .inl ⟨S++ [g],?_,happ (by omega)⟩
          subst hS
          simp only [enA,L4_1000257t,L4_1000257s1,L4_1000257s1r,hev,rg_lt h,rg_in h,rg_ltn h,cond_true,cond_false,Int.toNat_natCast,hgd,e0,c1,decide_eq_false c,ew,c4,ek,Nat.zero_add,e1,e2,allE,sgE,all1,List.length_singleton,e3]
          simp only [List.length_append,List.length_singleton,decide_true,cond_true,List.cons_append,List.length_cons]) (fun S hx=>by
      obtain⟨h1,h2,h3,h4,h5⟩:=hx
      cases S with
      |nil=>exact⟨.inr (.inl (cs,ac,i,ck,nr,nt,nk,ne,a,rs,es,r.1,r.2.1,r.2.2.1,r.2.2.2.1,r.2.2.2.2.1.1,r.2.2.2.2.1.2.1,r.2.2.2.2.1.2.2.1.1,r.2.2.2.2.1.2.2.2.1,r.2.2.2.2.1.2.2.2.2.1,evs,())),by simp only [enA,L4_1000257t,L4_1000257s0,L4_1000257s0r,hev,rg_end,cond_false],[],.inl ⟨rfl,rfl⟩,h1,h2,h4,h5⟩
      |cons x l=>exact⟨.inr (.inr (.inr (cs,ac,(x::l).length,i,ck,nr,nt,nk,ne,a,rs,es,x::l,r.1,r.2.1,r.2.2.1,r.2.2.2.1,r.2.2.2.2.1.1,r.2.2.2.2.1.2.1,r.2.2.2.2.1.2.2.1.1,r.2.2.2.2.1.2.2.2.1,r.2.2.2.2.1.2.2.2.2.1,evs,()))),by simp only [enA,L4_1000257t,L4_1000257s1,L4_1000257s1r,hev,rg_end,cond_false],x::l,.inr ⟨by simp,rfl⟩,h1,h2,h4,h5⟩) seen ⟨⟨[],(List.append_nil _).symm⟩,by omega,fun h=>by have:=hlo h;omega,fun j hj h=>hse j hj h,fun _=>rfl⟩
  exact⟨seen',z,hz,hq⟩
end
abbrev zS:State:=(ofNat 0,ofNat 0,ofNat 0,ofNat 0,ofNat 0,ofNat 0,[],[],())
def DoOk:Prop:=∀(s:State) (c:Call),s.2.2.2.2.2.2.1.length≤9223372036854775807→(∀r∈s.2.2.2.2.2.2.1,OkR r)→(∀nd∈c.2.2.1.1,nd.1.length≤9223372036854775807)→
 ∃t r,F15 (s,c,())=some (t,r,())∧((SOk s∧Good s c t r)∨(¬SOk s∧(∃n:Nat,r.1=ofNat (n+1))∧t=zS))
structure Kept (n:Nat) (ac:Int) (s:State) (seen:List Event):Prop where
 ok:∀r∈s.2.2.2.2.2.2.1,OkR r
 len:s.2.2.2.2.2.2.1.length≤100
 pos:0≤ac∧ac≤40*n
 sl:seen.length≤40*n+40
 at_:SOk s→s.2.2.2.2.2.1=ac∧ac≤seen.length∧(seen.length:Int)≤ac+s.2.2.2.2.2.2.2.1.length∧∀j:Nat,j<s.2.2.2.2.2.2.2.1.length→ac+j<seen.length→seen.getD (ac.toNat+j) (dft sEvent)=s.2.2.2.2.2.2.2.1.getD j (dft sEvent)
theorem not_zS:¬SOk zS:=fun h=>by have:=h.nt.1;simp only [ofN]at this;omega
theorem evTake {l:List Event} {n j:Nat} (h:j<(l.take n).length):(l.take n).getD j (dft sEvent)=l.getD j (dft sEvent):=by
 rw [List.length_take]at h
 rw [List.getD_eq_getElem?_getD,List.getD_eq_getElem?_getD,List.getElem?_take,if_pos (by omega)]
theorem evApp {l m:List Event} {j:Nat} (h:j<l.length):(l++m).getD j (dft sEvent)=l.getD j (dft sEvent):=by
 rw [List.getD_eq_getElem?_getD,List.getD_eq_getElem?_getD,List.getElem?_append_left h]
theorem evDrop {l:List Event} {m j:Nat}:(l.drop m).getD j (dft sEvent)=l.getD (m+j) (dft sEvent):=by
 rw [List.getD_eq_getElem?_getD,List.getD_eq_getElem?_getD,List.getElem?_drop]
theorem kept_next {n:Nat} (hn:n≤250) {ac:Int} {s t:State} {seen:List Event} {c:Call} {r:Reply} (hk:Kept n ac s seen) (hs:SOk s) (hg:Good s c t r) (hr0:r.1=0):
  let ac':=if c.1=10 then c.2.2.2.2.2.2.2.1 else ac
  (0≤ac'∧ac'≤20000)∧seen.length≤20000∧r.2.2.2.2.2.1.length≤40∧(∀j:Nat,j<r.2.2.2.2.2.1.length→(r.2.2.2.2.2.1.getD j (dft sEvent)).1=ac'+1+j)∧(0<r.2.2.2.2.2.1.length→ac'≤seen.length)∧
  (∀j:Nat,j<r.2.2.2.2.2.1.length→ac'+j<seen.length→seen.getD (ac'.toNat+j) (dft sEvent)=r.2.2.2.2.2.1.getD j (dft sEvent))∧
  ∀seen' pad:List Event,(∃more,seen'=seen++more)→(seen'.length:Int)≤max (seen.length:Int) (ac'+r.2.2.2.2.2.1.length)→(∀j:Nat,j<r.2.2.2.2.2.1.length→ac'+j<seen'.length→seen'.getD (ac'.toNat+j) (dft sEvent)=r.2.2.2.2.2.1.getD j (dft sEvent))→(r.2.2.2.2.2.1.length=0→seen'=seen)→
   (ac'≤seen'.length→pad= [])→((seen'.length:Int)<ac'→((seen'++pad).length:Int)=ac')→Kept (n+1) ac' t (seen'++pad):=by
 obtain⟨h1,h2,h3,h4⟩:=hk.at_ hs
 have hel:=hs.elen
 have h40:=hs.ev40
 have hp:=hk.pos
 have hsl:=hk.sl
 obtain⟨g1,g2,g3⟩:=hg
 rcases g3 with⟨⟨m,hm⟩,_⟩|⟨_,g3⟩
 ·rw [hr0]at hm;simp only [ofN]at hm;omega
 rcases g3 with⟨hc,g4,g5,g6,g7,g8⟩|⟨hc,g4,⟨new,g5⟩,⟨m,g6⟩⟩
 ·simp only [if_pos hc,g8,List.length_nil]
  refine⟨by omega,by omega,by omega,fun j h=>absurd h (Nat.not_lt_zero _),fun h=>absurd h (Nat.lt_irrefl _),fun j h=>absurd h (Nat.not_lt_zero _),fun seen' pad _ _ _ h5 h6 h7=> ?_⟩
  have h5:seen'=seen:=h5 trivial
  rw [h5]at h6 h7⊢
  by_cases c1:c.2.2.2.2.2.2.2.1≤seen.length
  ·rw [h6 c1,List.append_nil]
   refine⟨g1,g2,by omega,by omega,fun _=>⟨g6,c1,by rw [g7,List.length_drop];omega,fun j hj hj2=> ?_⟩⟩
   rw [g7,evDrop]
   rw [g7,List.length_drop]at hj
   rw [←h4 _ (by omega) (by omega)]
   congr 1
   omega
  ·have h8:=h7 (by omega)
   refine⟨g1,g2,by omega,by omega,fun _=>⟨g6,by omega,by omega,fun j hj hj2=>absurd hj2 (by omega)⟩⟩
 ·simp only [if_neg hc]
  have hl:r.2.2.2.2.2.1.length≤s.2.2.2.2.2.2.2.1.length:=by rw [g6,List.length_take];omega
  refine⟨by omega,by omega,by omega,fun j h=> ?_,fun _=>h2,fun j h h5=> ?_,fun seen' pad h5 h6 h7 h8 h9 h10=> ?_⟩
  ·have hj:j<s.2.2.2.2.2.2.2.1.length:=by omega
   rw [g6]at h⊢
   rw [evTake h,(hs.evs j hj).1,h1]
  ·rw [h4 j (by omega) h5]
   rw [g6]at h⊢
   exact(evTake h).symm
  ·obtain⟨more,rfl⟩:=h5
   have hl2:(seen++more).length=seen.length+more.length:=List.length_append
   rw [h9 (by omega),List.append_nil]
   refine⟨g1,g2,by omega,by have:=Int.max_def (seen.length:Int) (ac+r.2.2.2.2.2.1.length);split at this<;>omega,fun _=>⟨g4.trans h1,by omega,by rw [g5,@List.length_append _ s.2.2.2.2.2.2.2.1];have:=Int.max_def (seen.length:Int) (ac+r.2.2.2.2.2.1.length);split at this<;>omega,fun j hj hj2=> ?_⟩⟩
   have hjs:j<s.2.2.2.2.2.2.2.1.length:=by omega
   rw [g5,evApp hjs]
   by_cases c1:j<r.2.2.2.2.2.1.length
   ·rw [h7 j c1 hj2]
    rw [g6]at c1⊢
    exact evTake c1
   ·have:ac+j<seen.length:=by omega
    rw [evApp (by omega)]
    exact h4 j hjs this
theorem kept_err {n:Nat} {ac:Int} {s:State} {seen:List Event} (hk:Kept n ac s seen):Kept (n+1) ac s seen:=
 ⟨hk.ok,hk.len,by have:=hk.pos;omega,by have:=hk.sl;omega,hk.at_⟩
theorem kept_z {n:Nat} {ac:Int} {s:State} {seen:List Event} (hk:Kept n ac s seen):Kept (n+1) ac zS seen:=
 ⟨fun _ h=>absurd h (by simp [zS]),by simp [zS],by have:=hk.pos;omega,by have:=hk.sl;omega,fun h=>absurd h not_zS⟩
abbrev enS (cs:List Call) (k:Int) (x:Int×State×List Event):=enB cs x.1 k x.2.1.1 x.2.1.2.1 x.2.1.2.2.1 x.2.1.2.2.2.1 x.2.1.2.2.2.2.1 x.2.1.2.2.2.2.2.1 x.2.1.2.2.2.2.2.2.1 x.2.1.2.2.2.2.2.2.2.1 x.2.2
theorem l256_step (hD:DoOk) {cs:List Call} (hcs:cs.length≤250) (hnd:∀c∈cs,∀nd∈c.2.2.1.1,nd.1.length≤9223372036854775807) {k:Nat} (h:k<cs.length) {ac:Int} {s:State} {seen:List Event} (hk:Kept k ac s seen):
    ∃ac' s' seen',L4_1000256t (enS cs k (ac,s,seen))=some (.inl (enS cs ((k+1:Nat):Int) (ac',s',seen')))∧Kept (k+1) ac' s' seen':=by
  obtain⟨c,hc⟩:∃c,cs.getD k (dft sCall)=c:=⟨_,rfl⟩
  have hm:c∈cs:=by
    rw [←hc,List.getD_eq_getElem?_getD,List.getElem?_eq_getElem h];exact List.getElem_mem h
  obtain⟨t,r,hF,hcase⟩:=hD s c (by have:=hk.len;omega) hk.ok (hnd c hm)
  have hF:F15 ((s.1,s.2.1,s.2.2.1,s.2.2.2.1,s.2.2.2.2.1,s.2.2.2.2.2.1,s.2.2.2.2.2.2.1,s.2.2.2.2.2.2.2.1,()),(c.1,c.2.1,c.2.2.1,c.2.2.2.1,c.2.2.2.2.1,c.2.2.2.2.2.1,c.2.2.2.2.2.2.1,c.2.2.2.2.2.2.2.1,()),())=some (t,r,()):=hF
  have ek:IntKind.i64.wrap ((k:Int)+ofNat 1)=((k+1:Nat):Int):=wrap_add1 (by omega) (by omega)
  have e0:=rg_in h
  have e1:=rg_ltn h
  have e2:=rg_lt h
  have herr:(∃n:Nat,r.1=ofNat (n+1))→L4_1000256t (enS cs k (ac,s,seen))=some (.inl (enS cs ((k+1:Nat):Int) (ac,t,seen))):=fun⟨n,hr⟩=>by
    have c0:(r.1 !=ofNat 0)=true:=by rw [hr];rfl
    cases seen with
    |nil=>simp only [enS,enB,L4_1000256t,L4_1000256s0,e0,e1,e2,cond_true,Int.toNat_natCast,hc,hF,Option.bind_some,c0,ek]
    |cons x l=>simp only [enS,enB,L4_1000256t,L4_1000256s1,e0,e1,e2,cond_true,Int.toNat_natCast,hc,hF,Option.bind_some,c0,ek]
  rcases hcase with⟨hs,hg⟩|⟨hs,he,ht⟩
  · by_cases hr0:r.1=0
    · obtain⟨g1,g2,g3,g4,g5,g6,g7⟩:=kept_next (by omega) hk hs hg hr0
      have c0:(r.1 !=ofNat 0)=false:=by rw [hr0];rfl
      generalize hac:(if c.1=10 then c.2.2.2.2.2.2.2.1 else ac)=ac' at g1 g4 g5 g6 g7
      obtain⟨seen',z,h7,hz,m1,m2,m3,m4⟩:=l257 cs ac' k t.1 t.2.1 t.2.2.1 t.2.2.2.1 t.2.2.2.2.1 t.2.2.2.2.2.1 t.2.2.2.2.2.2.1 t.2.2.2.2.2.2.2.1 r seen g1 g2 g3 g4 g5 g6
      obtain⟨pad,h8,p1,p2⟩:=l258 cs ac' k t.1 t.2.1 t.2.2.1 t.2.2.2.1 t.2.2.2.2.1 t.2.2.2.2.2.1 t.2.2.2.2.2.2.1 t.2.2.2.2.2.2.2.1 seen' g1 (by have:=Int.max_def (seen.length:Int) (ac'+r.2.2.2.2.2.1.length);split at this<;>omega)
      refine⟨ac',t,seen'++pad,?_,g7 seen' pad m1 m2 m3 m4 p1 p2⟩
      clear g7 m1 m2 m3 m4 p1 p2 g4 g5 g6
      by_cases hc10:c.1=10
      · have c1:(c.1==ofNat 10)=true:=by rw [hc10];rfl
        rw [if_pos hc10]at hac
        subst hac
        cases seen with
        | nil=>
          simp only [enA]at h7
          rcases hz with⟨rfl,rfl⟩|⟨hne,rfl⟩
          · rw [List.nil_append]at h8⊢
            simp only [enB]at h8
            cases pad with
            | nil=>
              simp only [enB]at h8
              simp only [enS,enB,L4_1000256t,L4_1000256s0,e0,e1,e2,cond_true,cond_false,Int.toNat_natCast,hc,hF,Option.bind_some,c0,c1,ek,h7,h8]
            | cons y m=>
              simp only [enB]at h8
              simp only [enS,enB,L4_1000256t,L4_1000256s0,e0,e1,e2,cond_true,cond_false,Int.toNat_natCast,hc,hF,Option.bind_some,c0,c1,ek,h7,h8]
          · obtain⟨y,m,rfl⟩:=List.exists_cons_of_ne_nil hne
            rw [List.cons_append]at h8⊢
            simp only [enB]at h8
            simp only [enS,enB,L4_1000256t,L4_1000256s0,e0,e1,e2,cond_true,cond_false,Int.toNat_natCast,hc,hF,Option.bind_some,c0,c1,ek,h7,h8]
        | cons x l=>
          simp only [enA]at h7
          rcases hz with⟨rfl,rfl⟩|⟨hne,rfl⟩
          · rw [List.nil_append]at h8⊢
            simp only [enB]at h8
            cases pad with
            | nil=>
              simp only [enB]at h8
              simp only [enS,enB,L4_1000256t,L4_1000256s1,e0,e1,e2,cond_true,cond_false,Int.toNat_natCast,hc,hF,Option.bind_some,c0,c1,ek,h7,h8]
            | cons y m=>
              simp only [enB]at h8
              simp only [enS,enB,L4_1000256t,L4_1000256s1,e0,e1,e2,cond_true,cond_false,Int.toNat_natCast,hc,hF,Option.bind_some,c0,c1,ek,h7,h8]
          · obtain⟨y,m,rfl⟩:=List.exists_cons_of_ne_nil hne
            rw [List.cons_append]at h8⊢
            simp only [enB]at h8
            simp only [enS,enB,L4_1000256t,L4_1000256s1,e0,e1,e2,cond_true,cond_false,Int.toNat_natCast,hc,hF,Option.bind_some,c0,c1,ek,h7,h8]
      · have c1:(c.1==ofNat 10)=false:=by
          rw [beq_eq_false_iff_ne];exact hc10
        rw [if_neg hc10]at hac
        subst hac
        cases seen with
        | nil=>
          simp only [enA]at h7
          rcases hz with⟨rfl,rfl⟩|⟨hne,rfl⟩
          · rw [List.nil_append]at h8⊢
            simp only [enB]at h8
            cases pad with
            | nil=>
              simp only [enB]at h8
              simp only [enS,enB,L4_1000256t,L4_1000256s0,e0,e1,e2,cond_true,cond_false,Int.toNat_natCast,hc,hF,Option.bind_some,c0,c1,ek,h7,h8]
            | cons y m=>
              simp only [enB]at h8
              simp only [enS,enB,L4_1000256t,L4_1000256s0,e0,e1,e2,cond_true,cond_false,Int.toNat_natCast,hc,hF,Option.bind_some,c0,c1,ek,h7,h8]
          · obtain⟨y,m,rfl⟩:=List.exists_cons_of_ne_nil hne
            rw [List.cons_append]at h8⊢
            simp only [enB]at h8
            simp only [enS,enB,L4_1000256t,L4_1000256s0,e0,e1,e2,cond_true,cond_false,Int.toNat_natCast,hc,hF,Option.bind_some,c0,c1,ek,h7,h8]
        | cons x l=>
          simp only [enA]at h7
          rcases hz with⟨rfl,rfl⟩|⟨hne,rfl⟩
          · rw [List.nil_append]at h8⊢
            simp only [enB]at h8
            cases pad with
            | nil=>
              simp only [enB]at h8
              simp only [enS,enB,L4_1000256t,L4_1000256s1,e0,e1,e2,cond_true,cond_false,Int.toNat_natCast,hc,hF,Option.bind_some,c0,c1,ek,h7,h8]
            | cons y m=>
              simp only [enB]at h8
              simp only [enS,enB,L4_1000256t,L4_1000256s1,e0,e1,e2,cond_true,cond_false,Int.toNat_natCast,hc,hF,Option.bind_some,c0,c1,ek,h7,h8]
          · obtain⟨y,m,rfl⟩:=List.exists_cons_of_ne_nil hne
            rw [List.cons_append]at h8⊢
            simp only [enB]at h8
            simp only [enS,enB,L4_1000256t,L4_1000256s1,e0,e1,e2,cond_true,cond_false,Int.toNat_natCast,hc,hF,Option.bind_some,c0,c1,ek,h7,h8]
    · rcases hg.2.2 with⟨he,ht⟩|⟨hr,_⟩
      · exact⟨ac,t,seen,herr he,by rw [ht];exact kept_err hk⟩
      · exact absurd hr hr0
  · exact⟨ac,t,seen,herr he,by rw [ht];exact kept_z hk⟩
abbrev nwS:State:=(ofNat 0,ofNat 0,ofNat 1,ofNat 0,ofNat 1,ofNat 0,[],[],())
theorem kept0:Kept 0 0 nwS []:=
 ⟨fun _ h=>(List.not_mem_nil h).elim,by simp only [nwS,List.length_nil];omega,by omega,by simp only [List.length_nil];omega,fun _=>⟨rfl,by simp only [List.length_nil];omega,by simp only [nwS,List.length_nil];omega,fun j h=>absurd h (Nat.not_lt_zero _)⟩⟩
theorem f13 (cs:List Call) (hn:∀c∈cs,c.2.2.1.1.length≤9223372036854775807):∃b,F13 (cs,ofNat 250,())=some (b,())∧(b=false→cs.length≤250∧∀i,i<cs.length→SmN (cs.getD i (dft sCall)).2.2.1.1):=by
  simp only [F13]
  by_cases c1:((cs.length:Nat):Int)>ofNat 250
  · rw [decide_eq_true c1];exact⟨_,rfl,fun h=>nomatch h⟩
  · rw [decide_eq_false c1]
    obtain⟨y,hy,hq⟩:=rng_hoare (st:=L13_1000832t) cs.length (fun i (_:Unit)=>(cs,(i:Int),())) (fun m _=>∀i,i<m→SmN (cs.getD i (dft sCall)).2.2.1.1)
      (fun y=>(∃z,y= .inl (true,z))∨((∃z,y= .inr z)∧∀i,i<cs.length→SmN (cs.getD i (dft sCall)).2.2.1.1)) (fun i _ h hx=>by
        obtain⟨b,hb,hb2⟩:=f45 (cs.getD i (dft sCall)).2.2.1.1 (hn _ (by rw [List.getD_eq_getElem?_getD,List.getElem?_eq_getElem h];exact List.getElem_mem h))
        have hb':F45 ((cs.getD i (dft sCall)).2.2.1,())=some (b,()):=hb
        simp only [L13_1000832t,L13_1000832s0,rg_lt h,rg_in h,rg_ltn h,cond_true,Int.toNat_natCast,hb',Option.bind_some]
        cases b with
        |true=>exact .inr ⟨_,rfl,.inl ⟨_,rfl⟩⟩
        | false=>
          simp only [cond_false]
          rw [rg_wrap (by simp only [ofN]at c1;omega)]
          by_cases c:((ByteArray.size (cs.getD i (dft sCall)).2.1:Nat):Int)>ofNat 1000
          · rw [decide_eq_true c];exact .inr ⟨_,rfl,.inl ⟨_,rfl⟩⟩
          · rw [decide_eq_false c];exact .inl ⟨(),rfl,all_succ hx (hb2 rfl)⟩) (fun _ hx=>⟨.inr (),by simp only [L13_1000832t,L13_1000832s0,rg_end,cond_false],.inr ⟨⟨_,rfl⟩,hx⟩⟩) () (fun k h=>absurd h (Nat.not_lt_zero _))
    have hy':L13_1000832 (cs,ofNat 0,())=some y:=hy
    simp only [cond_false,hy',Option.bind_some]
    rcases hq with⟨z,rfl⟩|⟨⟨z,rfl⟩,hq⟩
    · exact⟨_,rfl,fun h=>nomatch h⟩
    · exact⟨_,rfl,fun _=>⟨by simp only [ofN]at c1;omega,hq⟩⟩
theorem l256 (hD:DoOk) {cs:List Call} (hcs:cs.length≤250) (hnd:∀c∈cs,∀nd∈c.2.2.1.1,nd.1.length≤9223372036854775807):
  ∃y,L4_1000256 (enS cs ((0:Nat):Int) (0,nwS,[]))=some y∧∃z,y= .inr (.inr z):=by
 refine rng_hoare (st:=L4_1000256t) cs.length (fun k (x:Int×State×List Event)=>enS cs (k:Int) x) (fun k x=>Kept k x.1 x.2.1 x.2.2) (fun y=>∃z,y= .inr (.inr z)) (fun k x h hx=> ?_) (fun x hx=> ?_) (0,nwS,[]) kept0
 ·obtain⟨ac',s',seen',h1,h2⟩:=l256_step hD hcs hnd h hx
  exact .inl ⟨(ac',s',seen'),h1,h2⟩
 ·obtain⟨ac,s,seen⟩:=x
  cases seen with
  |nil=>exact⟨.inr (.inr (.inl (s.1,s.2.1,s.2.2.1,s.2.2.2.1,s.2.2.2.2.1,s.2.2.2.2.2.1,s.2.2.2.2.2.2.1,s.2.2.2.2.2.2.2.1,()))),by simp only [enS,enB,L4_1000256t,L4_1000256s0,rg_end,cond_false],_,rfl⟩
  |cons x l=>exact⟨.inr (.inr (.inr (s.1,s.2.1,s.2.2.1,s.2.2.2.1,s.2.2.2.2.1,s.2.2.2.2.2.1,s.2.2.2.2.2.2.1,s.2.2.2.2.2.2.2.1,x::l,()))),by simp only [enS,enB,L4_1000256t,L4_1000256s1,rg_end,cond_false],_,rfl⟩
theorem f4 (hD:DoOk) (hA:F12 ()=some (true,())) (cs:List Call) (hn:∀c∈cs,c.2.2.1.1.length≤9223372036854775807∧∀nd∈c.2.2.1.1,nd.1.length≤9223372036854775807):F4 (cs,())=some (true,()):=by
  obtain⟨b,hb,hb2⟩:=f13 cs fun c hc=>(hn c hc).1
  simp only [F4,hA,hb,Option.bind_some,Bool.not_true,cond_false]
  cases b with
  |true=>rfl
  | false=>
    obtain⟨y,hy,z,rfl⟩:=l256 hD (hb2 rfl).1 fun c hc=>(hn c hc).2
    have hy':L4_1000256 (.inl (cs,ofNat 0,ofNat 0,ofNat 0,ofNat 0,ofNat 1,ofNat 0,ofNat 1,ofNat 0,[],[],()))=some (.inr (.inr z)):=hy
    simp only [cond_false,F14,Option.bind_some,hy']
    cases z<;>rfl
theorem do_ok:DoOk:=fun s c hm hr hcl=>by
  by_cases h:SOk s
  · have:∃t r,F15 (s,c,())=some (t,r,())∧Good s c t r:=by
      obtain⟨ck,nr,nt,nk,ne,ac,rs,es,_⟩:=s
      cases rs with
      | nil=>
        cases es with
        |nil=>exact do_d h hr c hcl
        |cons e es=>exact do_c h hr rfl c hcl
      | cons r rs=>
        cases es with
        |nil=>exact do_b h hr rfl c hcl
        |cons e es=>exact do_a h hr rfl rfl c hcl
    obtain⟨t,r,h1,h2⟩:=this
    exact⟨t,r,h1,.inl ⟨h,h2⟩⟩
  · obtain⟨v,hv,hc⟩:=check_ok s hm hr
    rcases hc with⟨_,hc⟩|⟨⟨n,rfl⟩,_⟩
    · exact absurd hc h
    · have c0:(ofNat (n+1) !=ofNat 0)=true:=by simp;omega
      refine⟨zS,(ofNat (n+1),ofNat 0,ofNat 0,ofNat 0,r0_,[],()),?_,.inr ⟨h,⟨n,rfl⟩,rfl⟩⟩
      have ha:F15a (s,c,())=some (zS,(ofNat (n+1),ofNat 0,ofNat 0,ofNat 0,r0_,[],()),()):=by simp only [F15a,hv,Option.bind_some,c0,cond_true]
      have hb:F15b (s,c,())=some (zS,(ofNat (n+1),ofNat 0,ofNat 0,ofNat 0,r0_,[],()),()):=by simp only [F15b,hv,Option.bind_some,c0,cond_true]
      have hcc:F15c (s,c,())=some (zS,(ofNat (n+1),ofNat 0,ofNat 0,ofNat 0,r0_,[],()),()):=by simp only [F15c,hv,Option.bind_some,c0,cond_true]
      have hd:F15d (s,c,())=some (zS,(ofNat (n+1),ofNat 0,ofNat 0,ofNat 0,r0_,[],()),()):=by simp only [F15d,hv,Option.bind_some,c0,cond_true]
      simp only [F15,ha,hb,hcc,hd]
      cases List.isEmpty s.2.2.2.2.2.2.1<;>cases List.isEmpty s.2.2.2.2.2.2.2.1<;>rfl
abbrev n1:Node:=([],ofNat 2,ofNat 3,())
abbrev ky:ByteArray:={data:= #[97]}
abbrev u1:Task:=(ofNat 1,ofNat 0,ofNat 0,ofNat 0,ofNat 0,())
abbrev u2:Task:=(ofNat 2,ofNat 1,ofNat 10,ofNat 1,ofNat 0,())
abbrev rn (t:Task):Run:=(ofNat 0,ky,([n1],()),ofNat 1,[t],())
abbrev ev1:Event:=(ofNat 1,ofNat 1,ofNat 0,ofNat 0,())
abbrev st1 (nt:Int) (t:Task):State:=mk (ofNat 0) (ofNat 1) nt (ofNat 1) (ofNat 2) (ofNat 0) [rn t] [ev1]
abbrev c1_:Call:=(ofNat 1,{data:= #[97]},([n1],()),ofNat 0,ofNat 0,ofNat 0,ofNat 0,ofNat 0,())
abbrev c2_:Call:=(ofNat 2,{data:= #[]},([],()),ofNat 0,ofNat 0,ofNat 0,ofNat 10,ofNat 0,())
theorem in0:InC (ofNat 0):=by decide
theorem in1:InC (ofNat 1):=by decide
theorem lt1 {i:Nat} (h:i<1):i=0:=by omega
theorem nd1:NdOk n1:=by constructor<;>constructor<;>decide
theorem dag1:Dag [n1]:=by
 refine⟨⟨by decide,by decide⟩,fun i h=> ?_,fun i h hr=> ?_⟩
 ·obtain rfl:=lt1 h
  exact⟨by constructor<;>decide,by constructor<;>decide,fun j h=>absurd h (Nat.not_lt_zero _)⟩
 ·have:∀{a b:Nat},¬EdG [n1] a b:=fun {a b} ⟨h1,h2⟩=>by
   obtain rfl:=lt1 h1
   exact(List.not_mem_nil h2).elim
  rcases hr with h|⟨h,_⟩
  ·exact this h
  ·exact this h
theorem tk1:TkT n1 u1:=by
 refine⟨by decide,by decide,by decide,by decide,fun _=>rfl,fun h=>absurd rfl h,⟨fun h=>absurd rfl h,fun h=>absurd h (by decide)⟩,.inr (.inl ⟨rfl,by decide⟩)⟩
theorem tk2:TkT n1 u2:=by
 refine⟨by decide,by decide,by decide,by decide,fun h=>absurd rfl h,fun _=>.inl rfl,⟨fun _=>rfl,fun _=>by decide⟩,.inr (.inr (.inl ⟨rfl,by decide⟩))⟩
theorem rok1 {t:Task} (ht:TkT n1 t) (h:t.1=1∨t.1=2):ROk (rn t):=by
 refine⟨in0,show 1≤ky.size∧ky.size≤24 by decide,dag1,rfl,fun i h=> ?_,.inl ⟨rfl,fun i h=> ?_,fun h4=> ?_,fun⟨x,hx,h4⟩=> ?_⟩⟩
 ·obtain rfl:=lt1 h
  exact ht
 ·obtain rfl:=lt1 h
  exact⟨fun _=>by show t.1≠0;omega,fun _ v hv=>(List.not_mem_nil hv).elim⟩
 ·have:=h4 t (List.mem_singleton.2 rfl);omega
 ·rw [List.mem_singleton.1 hx]at h4;omega
theorem okr1 {t:Task} (h:0≤t.1):∀r∈ [rn t],OkR r:=fun r hr=>by
 rw [List.mem_singleton.1 hr]
 exact⟨fun nd hnd=>by rw [List.mem_singleton.1 hnd];decide,show 1≤9223372036854775807 by decide,fun x hx=>by rw [List.mem_singleton.1 hx];exact h⟩
theorem fine1 {t:Task} (ht:TkT n1 t) (h:t.1=1∨t.1=2):Fine [rn t]:=
 ⟨show 1≤32 by decide,fun a b h1 h2=>by have:=lt1 h2;omega,fun a b h1 h2=>by have:=lt1 h2;omega,fun a h1=>by
  obtain rfl:=lt1 h1
  exact rok1 ht h,List.pairwise_singleton _ _⟩
theorem sok1 {nt:Int} {t:Task} (hn:1≤nt∧nt≤1099511627776) (ht:TkT n1 t) (h:t.1=1∨t.1=2) (hl:NotLate nt 1 t):SOk (st1 nt t):=
 ⟨fine1 ht h,show 1≤40 by decide,in0,in1,in1,hn,show 1≤ofNat 2∧ofNat 2≤1099511627776 by decide,show 0≤ofNat 0∧ofNat 0<ofNat 2 by decide,rfl,fun j hj=>by
  obtain rfl:=lt1 hj
  exact⟨by show(ofNat 0)<ofNat 1;decide,fun x hx=>by rw [List.mem_singleton.1 hx];exact hl⟩,fun j hj=>by
  obtain rfl:=lt1 hj
  exact⟨rfl,show 1≤ofNat 1∧ofNat 1≤6 by decide,show 0≤ofNat 0∧ofNat 0<ofNat 1 by decide,show 0≤ofNat 0∧ofNat 0<12 by decide,.inl rfl⟩⟩
theorem sok0:SOk nwS:=
 ⟨⟨by decide,fun a b h1 h2=>absurd h2 (Nat.not_lt_zero _),fun a b h1 h2=>absurd h2 (Nat.not_lt_zero _),fun a h1=>absurd h1 (Nat.not_lt_zero _),.nil⟩,by decide,by decide,by decide,by decide,by decide,by decide,by decide,rfl,fun j hj=>absurd hj (Nat.not_lt_zero _),fun j hj=>absurd hj (Nat.not_lt_zero _)⟩
theorem chk0 {s:State} (h:SOk s) (hm:s.2.2.2.2.2.2.1.length≤9223372036854775807) (hr:∀r∈s.2.2.2.2.2.2.1,OkR r):F19 (s,())=some (0,()):=by
 obtain⟨v,hv,hc⟩:=check_ok s hm hr
 rcases hc with⟨rfl,_⟩|⟨_,hc⟩
 ·exact hv
 ·exact absurd h hc
theorem do1:F15 (nwS,c1_,())=some (st1 (ofNat 1) u1,(ofNat 0,ofNat 0,ofNat 0,ofNat 0,r0_,[],()),()):=by
 have hc:=chk0 sok0 (show 0≤9223372036854775807 by decide) (fun r h=>(List.not_mem_nil h).elim)
 have h48:F48 (nwS,())=some (false,()):=rfl
 have h25:F25 (nwS,())=some (nwS,()):=twin_ok sok0
 have hln:∀nd∈ [n1],nd.1.length≤9223372036854775807:=fun nd h=>by rw [List.mem_singleton.1 h];decide
 have h114:F114 (([n1],()),())=some (0,()):=by
  obtain⟨v,hv,h⟩:=f114 [n1] hln
  rcases h with⟨rfl,_⟩|⟨_,h⟩
  ·exact hv
  ·exact absurd dag1 h
 have h115:∃i,F115 ([],ky,())=some (i,false,0,()):=by
  obtain⟨i,b,e,hv,h⟩:=known_ok [] (show 0≤9223372036854775807 by decide) (fun r h=>(List.not_mem_nil h).elim) ky
  rcases h with⟨_,_,h⟩|⟨rfl,_,⟨_,n,h,_⟩|⟨rfl,_⟩⟩
  ·exact absurd sok0.fine h
  ·exact absurd h (Nat.not_lt_zero _)
  ·exact⟨i,hv⟩
 obtain⟨i,h115⟩:=h115
 have h116:F116 (ofNat 0,ky,([n1],()),ofNat 0,())=some (rn u1,ofNat 1,0,()):=by
  obtain⟨r',rk',e,hv,h⟩:=start_ok (ofNat 0) ky [n1] hln (ofNat 0)
  rcases h with⟨rfl,_,_,_,_,rfl,rfl⟩|⟨_,h⟩
  ·have ho:opn [n1] (ofNat 0,List.replicate [n1].length t0) [n1].length=(ofNat 1,[u1]):=by
    show opn [n1] (ofNat 0,[t0]) (0+1)=_
    have hm:MetP [t0] n1:=fun v h=>(List.not_mem_nil h).elim
    have ht:TkT n1 t0:=⟨by decide,by decide,by decide,by decide,fun h=>absurd rfl h,fun h=>absurd rfl h,⟨fun h=>absurd rfl h,fun h=>absurd h (by decide)⟩,.inl ⟨rfl,rfl⟩⟩
    rw [opn,if_pos ⟨rfl,hm⟩,if_pos ⟨in0,ht⟩]
    rfl
   rw [hv,ho]
  ·exact absurd ⟨in0,by decide,dag1,by decide,by decide⟩ h
 have hF:F15 (nwS,c1_,())=F15d (nwS,c1_,()):=rfl
 rw [hF]
 simp only [F15d,hc,Option.bind_some,n00,cond_false,beq_self_eq_true,cond_true,h48]
 have h115':F115 ([],{data:= #[97]},())=some (i,false,0,()):=h115
 simp only [M15d_1,h25,Option.bind_some,List.isEmpty_nil,cond_true,cond_false,decide_eq_false (show¬((ByteArray.size {data:= #[97]}:Nat):Int)<ofNat 1 by decide),decide_eq_false (show¬((ByteArray.size {data:= #[97]}:Nat):Int)>ofNat 24 by decide),h114,sp2_0,h115',h116,allE,sgE]
 rfl
theorem do2:F15 (st1 (ofNat 1) u1,c2_,())=some (st1 (ofNat 2) u2,(ofNat 0,ofNat 0,ofNat 0,ofNat 1,r0_,[],()),()):=by
 have hr:=okr1 (t:=u1) (by decide)
 have hs:SOk (st1 (ofNat 1) u1):=sok1 (by decide) tk1 (.inl rfl) ⟨by decide,fun _=>by decide⟩
 have hc:=chk0 hs (show 1≤9223372036854775807 by decide) hr
 have h48:F48 (st1 (ofNat 1) u1,())=some (false,()):=rfl
 have h25:=twin_ok hs
 have h118:F118 (ofNat 10,())=some (true,()):=rfl
 have h119:F119 ([rn u1],())=some ((ofNat 0,ofNat 0,ofNat 0,()),true,0,()):=by
  obtain⟨p,b,e,hv,h⟩:=next_ok [rn u1] (show 1≤9223372036854775807 by decide) hr
  rcases h with⟨_,_,h⟩|⟨rfl,_,rfl,rfl,_⟩
  ·exact absurd hs.fine h
  ·exact hv
 have h164:F164 ([rn u1],ofNat 0,())=some (ofNat 0,true,0,()):=by
  obtain⟨i,b,e,hv,h⟩:=find_ok [rn u1] (show 1≤9223372036854775807 by decide) hr (ofNat 0)
  rcases h with⟨_,_,h⟩|⟨rfl,_,⟨rfl,n,rfl,h,_⟩|⟨_,h⟩⟩
  ·exact absurd hs.fine h
  ·obtain rfl:=lt1 h
   exact hv
  ·exact absurd rfl (h 0 (by decide))
 have h121:F121 (rn u1,ofNat 0,ofNat 1,ofNat 10,())=some (rn u2,0,()):=by
  obtain⟨r',e',hv,h⟩:=turn_ok (rn u1) (hr _ (List.mem_singleton.2 rfl)) (ofNat 0) (fun nd t=>F167 (nd,t,ofNat 1,ofNat 10,())) (fun nd t h1 h2 h3=>dLease h1 h2)
  rw [←lease_eq]at hv
  have h167:F167 (n1,u1,ofNat 1,ofNat 10,())=some (u2,0,()):=by
   rcases f167 n1 u1 (ofNat 1) (ofNat 10) nd1 (by decide)with⟨_,h⟩|⟨h,_⟩
   ·exact h
   ·exact absurd ⟨by decide,by decide,by decide,tk1,rfl⟩ h
  rcases h with⟨rfl,_,_,k,t',hk,hkl,hD,ht⟩|⟨_,_,h⟩
  ·obtain rfl:=lt1 hkl
   have h2:some (u2,(0:Int),())=some (t',0,()):=h167.symm.trans hD
   obtain rfl:u2=t':=by injection h2 with h2;exact(Prod.mk.inj h2).1
   obtain⟨i1,i2,i3,_,_,i4⟩:=ht
   rcases i4 with⟨h5,_⟩|⟨_,i5,⟨h4,_⟩|⟨_,i6⟩⟩
   ·exact absurd h5 (by decide)
   ·exact absurd (h4 u2 (List.mem_singleton.2 rfl)) (by decide)
   ·obtain⟨q1,q2,q3,q4,q5,_⟩:=r'
    simp only at i1 i2 i3 i5 i6
    subst i1 i2 i3 i5 i6
    exact hv
  ·exact absurd ⟨rok1 tk1 (.inl rfl),rfl,0,u2,rfl,by decide,h167⟩ h
 have hF:F15 (st1 (ofNat 1) u1,c2_,())=F15a (st1 (ofNat 1) u1,c2_,()):=rfl
 rw [hF]
 simp only [F15a,hc,Option.bind_some,n00,cond_false,show(ofNat 2==ofNat 1)=false from rfl,beq_self_eq_true,cond_true,h48]
 simp only [st1,mk]at h25
 simp only [M15a_2,st1,mk,h25,Option.bind_some,List.isEmpty_cons,cond_true,cond_false,h118,Bool.not_true,List.length_singleton,Nat.zero_add,Nat.le_refl,decide_true,allE,h119,h164]
 show Option.bind (F121 (rn u1,ofNat 0,ofNat 1,ofNat 10,())) _=_
 rw [h121,Option.bind_some]
 rfl
theorem do3:F15 (st1 (ofNat 2) u2,c2_,())=some (st1 (ofNat 2) u2,errR (ofNat 6),()):=by
 have hr:=okr1 (t:=u2) (by decide)
 have hs:SOk (st1 (ofNat 2) u2):=sok1 (by decide) tk2 (.inr rfl) ⟨by decide,fun h=>absurd h (by decide)⟩
 have hc:=chk0 hs (show 1≤9223372036854775807 by decide) hr
 have h48:F48 (st1 (ofNat 2) u2,())=some (false,()):=rfl
 have h25:=twin_ok hs
 have h118:F118 (ofNat 10,())=some (true,()):=rfl
 have h119:F119 ([rn u2],())=some ((ofNat 0,ofNat 0,ofNat 0,()),false,0,()):=by
  obtain⟨p,b,e,hv,h⟩:=next_ok [rn u2] (show 1≤9223372036854775807 by decide) hr
  rcases h with⟨_,_,h⟩|⟨rfl,_,rfl,rfl,_⟩
  ·exact absurd hs.fine h
  ·exact hv
 have hF:F15 (st1 (ofNat 2) u2,c2_,())=F15a (st1 (ofNat 2) u2,c2_,()):=rfl
 have E:=e15a hs rfl rfl (ofNat 6)
 rw [hF]
 simp only [F15a,hc,Option.bind_some,n00,cond_false,show(ofNat 2==ofNat 1)=false from rfl,beq_self_eq_true,cond_true,h48]
 simp only [st1,mk]at h25 E
 simp only [M15a_2,st1,mk,h25,Option.bind_some,List.isEmpty_cons,cond_true,cond_false,h118,Bool.not_true,List.length_singleton,Nat.zero_add,Nat.le_refl,decide_true,allE,h119,Bool.not_false,E]
theorem alive:F12 ()=some (true,()):=by
 have h14:F14 ()=some (nwS,()):=rfl
 have h78:F78 ()=some (([n1],()),()):=rfl
 have h44:F44 ()=some (st1 (ofNat 1) u1,true,()):=by
  simp only [F44,h14,h78,Option.bind_some,do1]
  rfl
 simp only [F12,h44,Option.bind_some,do2,do3]
 rfl
theorem pure:∀x:Den (.cons (.row sCall) .nil),OkD (.cons (.row sCall) .nil) x→∃y,F4 x=some y∧y.1=true:=by
 intro x hx
 obtain⟨cs,_⟩:=x
 obtain⟨⟨h1,h2⟩,_⟩:=hx
 refine⟨_,f4 do_ok alive cs fun c hc=> ?_,rfl⟩
 obtain⟨_,_,⟨⟨h3,h4⟩,_⟩,_⟩:=h2 c hc
 exact⟨h3,fun nd hnd=>(h4 nd hnd).1.1⟩
end Go.Proofs.YtbkjflfbgknagaaGreat.modelOutbox.Code
