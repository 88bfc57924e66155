import Derived.Test.YtbkjflfbgknagaaGreatDefFairLighter1
import Derived.KernelRfl
set_option maxRecDepth 100000
set_option linter.unusedVariables false
set_option linter.constructorNameAsVariable false
namespace Go.Proofs
open Go.Shelf Go.RowKit Go.Lib Go.Sort Tryz
def Tryz.sort212_ren : Go.Shelf.Ren:=⟨fun|6=>212|15=>238|14=>237|28=>251|29=>252|20=>243|21=>244|22=>245|23=>246|24=>247|25=>248|26=>249|27=>250|46=>254|47=>255|48=>256|49=>257|50=>258|57=>259|n=>n,fun|22=>155|24=>143|25=>221|3=>3|39=>231|0=>0|53=>246|55=>248|4=>4|46=>240|45=>239|50=>164|5=>5|9=>9|66=>250|70=>254|76=>256|77=>82|n=>n,fun|n=>n⟩
theorem Tryz.sort212 : SlLaysF0.n6 Tryz.prog Tryz.sort212_ren:={
 mixed:=by kernel_rfl,f6:=⟨f212.name,by decide,func212.trans (congrArg some (by kernel_rfl))⟩,f14:=⟨f237.name,by decide,func237.trans (congrArg some (by kernel_rfl))⟩,f15:=func238.trans (congrArg some (by kernel_rfl)),f20:=⟨f243.name,by decide,func243.trans (congrArg some (by kernel_rfl))⟩,f21:=⟨f244.name,by decide,func244.trans (congrArg some (by kernel_rfl))⟩,f22:=⟨f245.name,by decide,func245.trans (congrArg some (by kernel_rfl))⟩,f23:=⟨f246.name,by decide,func246.trans (congrArg some (by kernel_rfl))⟩,f24:=⟨f247.name,by decide,func247.trans (congrArg some (by kernel_rfl))⟩,f25:=⟨f248.name,by decide,func248.trans (congrArg some (by kernel_rfl))⟩,f26:=⟨f249.name,by decide,func249.trans (congrArg some (by kernel_rfl))⟩,f27:=⟨f250.name,by decide,func250.trans (congrArg some (by kernel_rfl))⟩,f28:=func251.trans (congrArg some (by kernel_rfl)),f29:=func252.trans (congrArg some (by kernel_rfl)),f46:=⟨f254.name,by decide,func254.trans (congrArg some (by kernel_rfl))⟩,f47:=func255.trans (congrArg some (by kernel_rfl)),f48:=func256.trans (congrArg some (by kernel_rfl)),f49:=⟨f257.name,by decide,func257.trans (congrArg some (by kernel_rfl))⟩,f50:=⟨f258.name,by decide,func258.trans (congrArg some (by kernel_rfl))⟩,f57:=⟨f259.name,by decide,func259.trans (congrArg some (by kernel_rfl))⟩,t0:=underlying0,a0:=isAgg0,z0:=sizeOf0,v0:=zeroValue0,t3:=underlying3,a3:=isAgg3,z3:=sizeOf3,v3:=zeroValue3,t4:=underlying4,a4:=isAgg4,z4:=sizeOf4,v4:=zeroValue4,t5:=underlying5,a5:=isAgg5,z5:=sizeOf5,
 v5:=zeroValue5,t9:=underlying9,a9:=isAgg9,z9:=sizeOf9,v9:=zeroValue9,t22:=underlying155,a22:=isAgg155,z22:=sizeOf155,v22:=zeroValue155,t25:=underlying221,a25:=isAgg221,z25:=sizeOf221,v25:=zeroValue221,t39:=underlying231,a39:=isAgg231,z39:=sizeOf231,v39:=zeroValue231,t45:=underlying239,a45:=isAgg239,z45:=sizeOf239,v45:=zeroValue239,t46:=underlying240,a46:=isAgg240,z46:=sizeOf240,v46:=zeroValue240,t50:=underlying164,a50:=isAgg164,z50:=sizeOf164,v50:=zeroValue164,t53:=underlying246,a53:=isAgg246,z53:=sizeOf246,v53:=zeroValue246,t55:=underlying248,a55:=isAgg248,z55:=sizeOf248,v55:=zeroValue248,t66:=underlying250,a66:=isAgg250,z66:=sizeOf250,v66:=zeroValue250,t70:=underlying254,a70:=isAgg254,z70:=sizeOf254,v70:=zeroValue254,t76:=underlying256,a76:=isAgg256,z76:=sizeOf256,v76:=zeroValue256,t77:=underlying82,a77:=isAgg82,z77:=sizeOf82,v77:=zeroValue82}
def Tryz.clone101_ren : Go.Shelf.Ren:=⟨fun|41=>101|n=>n,fun|22=>38|23=>73|4=>4|n=>n,fun|n=>n⟩
theorem Tryz.clone101 : SlLaysE0.n41 Tryz.prog Tryz.clone101_ren:={
 mixed:=by kernel_rfl,f41:=⟨f101.name,by decide,func101.trans (congrArg some (by kernel_rfl))⟩,t4:=underlying4,a4:=isAgg4,z4:=sizeOf4,v4:=zeroValue4,t22:=underlying38,a22:=isAgg38,z22:=sizeOf38,v22:=zeroValue38}
def Tryz.clone102_ren : Go.Shelf.Ren:=⟨fun|41=>102|n=>n,fun|22=>59|23=>3|4=>4|n=>n,fun|n=>n⟩
theorem Tryz.clone102 : SlLaysE0.n41 Tryz.prog Tryz.clone102_ren:={
 mixed:=by kernel_rfl,f41:=⟨f102.name,by decide,func102.trans (congrArg some (by kernel_rfl))⟩,t4:=underlying4,a4:=isAgg4,z4:=sizeOf4,v4:=zeroValue4,t22:=underlying59,a22:=isAgg59,z22:=sizeOf59,v22:=zeroValue59}
def Tryz.clone61_ren : Go.Shelf.Ren:=⟨fun|41=>61|n=>n,fun|22=>26|23=>55|4=>4|n=>n,fun|n=>n⟩
theorem Tryz.clone61 : SlLaysE0.n41 Tryz.prog Tryz.clone61_ren:={
 mixed:=by kernel_rfl,f41:=⟨f61.name,by decide,func61.trans (congrArg some (by kernel_rfl))⟩,t4:=underlying4,a4:=isAgg4,z4:=sizeOf4,v4:=zeroValue4,t22:=underlying26,a22:=isAgg26,z22:=sizeOf26,v22:=zeroValue26}
end Go.Proofs
namespace Go.Proofs.YtbkjflfbgknagaaGreat.fairLighter.Code
open Go Go.Am
set_option linter.unusedSimpArgs false
theorem UX (a b:Int):Cmp.F205 (a,b,())=some (if a<b then Int.negSucc 0 else if a>b then Int.ofNat 1 else Int.ofNat 0,()):=by
 simp only [Cmp.F205,Cmp.F234,Option.bind_some]
 rw [show(a !=a)=false by simp,show(b !=b)=false by simp]
 simp only [cond_false]
 by_cases h:a<b
 ·rw [decide_eq_true h,if_pos h];rfl
 ·rw [decide_eq_false h,if_neg h]
  by_cases h2:a>b
  ·rw [decide_eq_true h2,if_pos h2];rfl
  ·rw [decide_eq_false h2,if_neg h2];rfl
theorem ZU (l:List Int) (hl:l.length≤9223372036854775807):Cmp.F214 (l,())=some ((match kP (A:=Unit) (Y:=(Int×Unit)⊕(Int×Unit)) (fun _ t _=>bif t !=Int.ofNat 0 then .inr (.inl (t,()))else .inl ()) (fun _=>.inr (Int.ofNat 0,())) 0 l ()with| .inl a=>a.1| .inr b=>b.1),()):=by
 have hloop:=vK (st:=Cmp.L214_1013696t) l (aa (Sh.i IntKind.i64)) (fun i (_:Unit)=>(Int.ofNat 0,l,(l.length:Int),(i:Int),())) (fun _=>.inr (Int.ofNat 0,())) (fun _ t _=>bif t !=Int.ofNat 0 then .inr (.inl (t,()))else .inl ())
  (fun i a hi=>by
   simp only [Cmp.L214_1013696t,Cmp.L214_1013696s0,bw hi,aM hi,JQ hi,cond_true]
   exact DA _ _ _ _ (fun _=>rfl) (fun _=>by rw [aR (by omega)]))
  (fun a=>by simp only [Cmp.L214_1013696t,Cmp.L214_1013696s0,bt,cond_false]) ()
 have hl0:Cmp.L214_1013696 (Int.ofNat 0,l,(l.length:Int),Int.ofNat 0,())=some _:=hloop
 simp only [Cmp.F214,hl0,Option.bind_some]
 split<;>(rename_i h;simp only [h])
def lM (a b:Int):Int:=if a<b then Int.negSucc 0 else if a>b then Int.ofNat 1 else Int.ofNat 0
def DV (x y:Int×Int×Int×Unit):Int:=
 if lM x.2.2.1 y.2.2.1≠0 then lM x.2.2.1 y.2.2.1 else if lM x.1 y.1≠0 then lM x.1 y.1 else lM x.2.1 y.2.1
theorem f97 (x y:Int×Int×Int×Unit):Cmp.F213 (x,y,())=some (DV x y,()):=by
 simp only [Cmp.F213,UX,Option.bind_some]
 have h:=ZU [lM x.2.2.1 y.2.2.1,lM x.1 y.1,lM x.2.1 y.2.1] (by simp)
 have h':Cmp.F214 (List.take ((((List.replicate 3 (Int.ofNat 0)).set 0 (if x.2.2.1<y.2.2.1 then Int.negSucc 0 else if x.2.2.1>y.2.2.1 then Int.ofNat 1 else Int.ofNat 0)).set 1 (if x.1<y.1 then Int.negSucc 0 else if x.1>y.1 then Int.ofNat 1 else Int.ofNat 0)).set 2 (if x.2.1<y.2.1 then Int.negSucc 0 else if x.2.1>y.2.1 then Int.ofNat 1 else Int.ofNat 0)).length (List.drop 0 ((((List.replicate 3 (Int.ofNat 0)).set 0 (if x.2.2.1<y.2.2.1 then Int.negSucc 0 else if x.2.2.1>y.2.2.1 then Int.ofNat 1 else Int.ofNat 0)).set 1 (if x.1<y.1 then Int.negSucc 0 else if x.1>y.1 then Int.ofNat 1 else Int.ofNat 0)).set 2 (if x.2.1<y.2.1 then Int.negSucc 0 else if x.2.1>y.2.1 then Int.ofNat 1 else Int.ofNat 0))),())=some _:=h
 rw [h']
 simp only [Option.bind_some,kP,DV]
 congr 2
 rcases h1:(lM x.2.2.1 y.2.2.1 !=Int.ofNat 0)with _|_<;>rcases h2:(lM x.1 y.1 !=Int.ofNat 0)with _|_<;>rcases h3:(lM x.2.1 y.2.1 !=Int.ofNat 0)with _|_<;>simp_all
theorem Mh (x y:Int×Int×Int×Unit):zo (s:=aw) Cmp.F213 x y=DV x y:=by
 show(match Cmp.F213 (x,y,())with|some r=>r.1|none=>0)=_
 rw [f97]
theorem UY (x y:aG aw):Cmp.F213 (x,y,())=some (zo (s:=aw) Cmp.F213 x y,()):=by rw [Mh];exact f97 x y
theorem DW (x y:Int×Int×Int×Unit):DV x y<0↔x.2.2.1<y.2.2.1∨x.2.2.1=y.2.2.1∧(x.1<y.1∨x.1=y.1∧x.2.1<y.2.1):=by
 unfold DV lM
 have e1:Int.ofNat 0=0:=rfl
 have e2:Int.ofNat 1=1:=rfl
 have e3:Int.negSucc 0= -1:=rfl
 rw [e1,e2,e3]
 repeat' split
 all_goals omega
theorem adR (a b c d e f g h i:Int) (h1:a<d∨a=d∧(b<e∨b=e∧c<f)) (h2:d<g∨d=g∧(e<h∨e=h∧f<i)):a<g∨a=g∧(b<h∨b=h∧c<i):=by omega
theorem adS (a b c d e f g h i:Int) (h1:¬(a<d∨a=d∧(b<e∨b=e∧c<f))) (h2:¬(d<g∨d=g∧(e<h∨e=h∧f<i))):¬(a<g∨a=g∧(b<h∨b=h∧c<i)):=by omega
open Go.Sort Go.Proofs in
theorem KD:SWO (ltOf (zo (s:=aw) Cmp.F213)):=by
 have h:∀x y,ltOf (zo (s:=aw) Cmp.F213) x y=decide (x.2.2.1<y.2.2.1∨x.2.2.1=y.2.2.1∧(x.1<y.1∨x.1=y.1∧x.2.1<y.2.1)):=fun x y=>by
  unfold ltOf
  rw [Mh]
  exact decide_eq_decide.2 (DW x y)
 refine⟨fun x=> ?_,fun x y z h1 h2=> ?_,fun x y z h1 h2=> ?_⟩
 ·rw [h];simp
 ·rw [h]at*;simp only [decide_eq_true_eq]at*;exact adR _ _ _ _ _ _ _ _ _ h1 h2
 ·rw [h]at*;simp only [decide_eq_false_iff_not]at*;exact adS _ _ _ _ _ _ _ _ _ h1 h2
theorem ZV:∀args w,(callFunc 213 args).run Tryz.prog w= .ok (.enter 213 args) w:=enters_of Tryz.func213 (by kernel_rfl) rfl
theorem UZ:lN Tryz.prog 212:=⟨_,_,Tryz.func212,by kernel_rfl,rfl⟩
theorem ZW:StOk Tryz.prog 212 ⟨aw,213,Hr⟩:=Rc (ρ:=Tryz.sort212_ren) Tryz.sort212 UZ (s:=aw) rfl Tryz.isAgg143 Tryz.sizeOf143 (zo Cmp.F213) KD (by decide) ZV Cmp.k213 UY
noncomputable def bB:List (Nat×Wrt):=[(212,⟨aw,213,Hr⟩)]
theorem ak:qm Tryz.prog bB:=⟨ZW,trivial⟩
theorem ZX:mG Tryz.prog 101:=by
 obtain⟨i0,hi⟩:=Option.isSome_iff_exists.1 (show(Tryz.prog.info? 73).isSome=true by kernel_rfl)
 exact⟨fun w=>AnyE.slices_Clone_nil (ρ:=Tryz.clone101_ren) Tryz.clone101 0 0 w,fun a c w=>(AnyE.slices_Clone_zero (ρ:=Tryz.clone101_ren) Tryz.clone101 i0 hi _ Tryz.sizeOf73 a c w).mono fun e w' h=>⟨h.1,_,h.2⟩⟩
theorem ZY:mG Tryz.prog 102:=by
 obtain⟨i0,hi⟩:=Option.isSome_iff_exists.1 (show(Tryz.prog.info? 3).isSome=true by kernel_rfl)
 exact⟨fun w=>AnyE.slices_Clone_nil (ρ:=Tryz.clone102_ren) Tryz.clone102 0 0 w,fun a c w=>(AnyE.slices_Clone_zero (ρ:=Tryz.clone102_ren) Tryz.clone102 i0 hi _ Tryz.sizeOf3 a c w).mono fun e w' h=>⟨h.1,_,h.2⟩⟩
theorem adT:mG Tryz.prog 61:=by
 obtain⟨i0,hi⟩:=Option.isSome_iff_exists.1 (show(Tryz.prog.info? 55).isSome=true by kernel_rfl)
 exact⟨fun w=>AnyE.slices_Clone_nil (ρ:=Tryz.clone61_ren) Tryz.clone61 0 0 w,fun a c w=>(AnyE.slices_Clone_zero (ρ:=Tryz.clone61_ren) Tryz.clone61 i0 hi _ Tryz.sizeOf55 a c w).mono fun e w' h=>⟨h.1,_,h.2⟩⟩
end Go.Proofs.YtbkjflfbgknagaaGreat.fairLighter.Code
