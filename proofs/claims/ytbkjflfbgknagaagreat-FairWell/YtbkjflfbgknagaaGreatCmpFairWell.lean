import Derived.Test.YtbkjflfbgknagaaGreatTieFairWell
import Derived.KernelRfl
set_option maxRecDepth 100000
set_option linter.unusedVariables false
set_option linter.constructorNameAsVariable false
namespace Go.Proofs.YtbkjflfbgknagaaGreat.fairWell.Code
open Go Go.Am
namespace Cmp
noncomputable def tb234:List (Nat×CF):=[(234,UF)]
theorem td234:aW Tryz.prog tb234:=⟨⟨_,_,Tryz.func234,Vf⟩,trivial⟩
noncomputable def ct234:List (Nat×Ctr):=[]
theorem h234:aJ Tryz.prog ct234:=trivial
noncomputable abbrev gg234:Cfg:=aQ Tryz.prog (look? tb234) (look? ct234) (look? EI) (([]:List (Nat×Bool)).map (·.1)) hn.kl hn.pf
theorem l234_0:am gg234 (ax tb234) []:=trivial
noncomputable def F234 (x:Int×Unit):Option (Bool×Unit):=some (x.1 !=x.1,())
noncomputable def K234:Ctr:=⟨.cons (.i .i64) (.nil),.cons (.b) (.nil),[(false,1)],[(false,1)],[],F234⟩
theorem k234:az Tryz.prog 234 K234:=aA (H:=hn) (n:=60) aB td234 h234 qh l234_0 rfl rfl (fun x=>by kernel_rfl)
noncomputable def tb214:List (Nat×CF):=[(214,Nf)]
theorem td214:aW Tryz.prog tb214:=⟨⟨_,_,Tryz.func214,Vg⟩,trivial⟩
noncomputable def ct214:List (Nat×Ctr):=[]
theorem h214:aJ Tryz.prog ct214:=trivial
noncomputable abbrev gg214:Cfg:=aQ Tryz.prog (look? tb214) (look? ct214) (look? EI) (([]:List (Nat×Bool)).map (·.1)) hn.kl hn.pf
theorem l214_0:am gg214 (ax tb214) []:=trivial
def L214_1013696p:List PS:=[⟨[(3,.c (.hi .i64)),(6,.c (.hl (.i .i64))),(7,.c (.hi .i64)),(8,.c (.hi .i64)),(1013696,.c (.c (.ud)))],[],0,0⟩]
def L214_1013696o:List (EX×PS):=[(.rt,⟨[(2,.c (.hi .i64)),(999999,.uk)],[],0,0⟩),(.xt 0,⟨[(3,.c (.hi .i64)),(999999,.uk)],[],0,0⟩)]
noncomputable def L214_1013696s0 (x:Int×List (Int)×Int×Int×Unit):Option ((Int×List (Int)×Int×Int×Unit)⊕((Int×Unit)⊕(Int×Unit))):=bif decide (x.2.2.2.1<x.2.2.1)then(bif ah 0 x.2.2.2.1 ((↑x.2.1.length:Int)-1)then(bif decide (x.2.2.2.1.toNat<x.2.1.length)then(bif x.2.1.getD x.2.2.2.1.toNat (aa (Sh.i IntKind.i64)) !=x.1 then(some (.inr (.inl (x.2.1.getD x.2.2.2.1.toNat (aa (Sh.i IntKind.i64)),()))))else(some (.inl ((x.1,x.2.1,x.2.2.1,IntKind.i64.wrap (x.2.2.2.1+Int.ofNat 1),())))))else none)else none)else(some (.inr (.inr ((x.1,())))))
noncomputable def L214_1013696t:(Int×List (Int)×Int×Int×Unit)→Option ((Int×List (Int)×Int×Int×Unit)⊕((Int×Unit)⊕(Int×Unit))):=L214_1013696s0
noncomputable def L214_1013696:(Int×List (Int)×Int×Int×Unit)→Option ((Int×Unit)⊕(Int×Unit)):=aZ L214_1013696t
noncomputable abbrev ee214_1:Nat×Lps:=(1013696,⟨L214_1013696p,L214_1013696o,L214_1013696⟩)
theorem l214_1:am gg214 (ax tb214) [ee214_1]:=aS (H:=hn) (n:=60) (live:=[3,6,7,8,1013696]) (b:=Lt) (ps:=L214_1013696p) (os:=L214_1013696o) (st:=L214_1013696t) h214 qh l214_0 (by kernel_rfl) (by kernel_rfl) (fun x=>by kernel_rfl)
noncomputable def F214 (x:(List (Int))×Unit):Option (Int×Unit):=(L214_1013696 (Int.ofNat 0,x.1,(↑(List.length x.1):Int),Int.ofNat 0,())).bind fun y9=>(match y9 with| .inl a10=>some a10| .inr b10=>some b10)
noncomputable def K214:Ctr:=⟨.cons (.row (.i .i64)) (.nil),.cons (.i .i64) (.nil),[(false,1)],[(false,1)],[],F214⟩
theorem k214:az Tryz.prog 214 K214:=aA (H:=hn) (n:=60) aB td214 h214 qh l214_1 rfl rfl (fun x=>by kernel_rfl)
noncomputable def tb205:List (Nat×CF):=[(205,UQ)]
theorem td205:aW Tryz.prog tb205:=⟨⟨_,_,Tryz.func205,Vi⟩,trivial⟩
noncomputable def ct205:List (Nat×Ctr):=[(234,K234)]
theorem h205:aJ Tryz.prog ct205:=⟨k234,trivial⟩
noncomputable abbrev gg205:Cfg:=aQ Tryz.prog (look? tb205) (look? ct205) (look? EI) (([]:List (Nat×Bool)).map (·.1)) hn.kl hn.pf
theorem l205_0:am gg205 (ax tb205) []:=trivial
noncomputable def F205 (x:Int×Int×Unit):Option (Int×Unit):=(F234 (x.1,())).bind fun y18=>(F234 x.2).bind fun y19=>bif y18.1 then(bif y19.1 then(some (Int.ofNat 0,()))else(some (Int.negSucc 0,())))else bif y19.1 then(some (Int.ofNat 1,()))else bif decide (x.1<x.2.1)then(some (Int.negSucc 0,()))else bif decide (x.1>x.2.1)then(some (Int.ofNat 1,()))else(some (Int.ofNat 0,()))
noncomputable def K205:Ctr:=⟨.cons (.i .i64) (.cons (.i .i64) (.nil)),.cons (.i .i64) (.nil),[(false,1),(false,1)],[(false,1)],[],F205⟩
theorem k205:az Tryz.prog 205 K205:=aA (H:=hn) (n:=60) aB td205 h205 qh l205_0 rfl rfl (fun x=>by kernel_rfl)
noncomputable def tb213:List (Nat×CF):=[(213,UR)]
theorem td213:aW Tryz.prog tb213:=⟨⟨_,_,Tryz.func213,Vj⟩,trivial⟩
noncomputable def ct213:List (Nat×Ctr):=[(205,K205),(214,K214)]
theorem h213:aJ Tryz.prog ct213:=⟨k205,k214,trivial⟩
noncomputable abbrev gg213:Cfg:=aQ Tryz.prog (look? tb213) (look? ct213) (look? EI) (([]:List (Nat×Bool)).map (·.1)) hn.kl hn.pf
theorem l213_0:am gg213 (ax tb213) []:=trivial
noncomputable def F213 (x:(Int×Int×Int×Unit)×(Int×Int×Int×Unit)×Unit):Option (Int×Unit):=(F205 (x.1.2.2.1,x.2.1.2.2.1,())).bind fun y27=>(F205 (x.1.1,x.2.1.1,())).bind fun y28=>(F205 (x.1.2.1,x.2.1.2.1,())).bind fun y29=>(F214 (List.take ((((List.replicate 3 (Int.ofNat 0)).set 0 y27.1).set 1 y28.1).set 2 y29.1).length (List.drop 0 ((((List.replicate 3 (Int.ofNat 0)).set 0 y27.1).set 1 y28.1).set 2 y29.1)),())).bind fun y30=>some y30
noncomputable def K213:Ctr:=⟨.cons (au) (.cons (au) (.nil)),.cons (.i .i64) (.nil),[(true,3),(true,3)],[(false,1)],[],F213⟩
theorem k213:az Tryz.prog 213 K213:=aA (H:=hn) (n:=60) aB td213 h213 qh l213_0 rfl rfl (fun x=>by kernel_rfl)
end Cmp
end Go.Proofs.YtbkjflfbgknagaaGreat.fairWell.Code
