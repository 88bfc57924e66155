/- The library functions of the kit, laid at the program. -/
import Derived.Test.YtbkpphmonfeaoaaRows
import Derived.Test.YtbkpphmonfeaoaaDefRowsDiff
import Derived.Shelf.SortM.Plain
import Derived.Shelf.SortM.SortNone
import Derived.KernelRfl
set_option maxRecDepth 100000
set_option linter.unusedVariables false
set_option linter.constructorNameAsVariable false
namespace Go.Proofs
open Go.Shelf Go.RowKit Go.Lib Go.Sort Go.Maps Try
def Try.keys27_ren : Go.Shelf.Ren:=⟨fun|7=>27|10=>38|n=>n,fun|23=>56|26=>9|3=>9|28=>60|0=>0|27=>59|33=>64|4=>4|n=>n,fun|n=>n⟩
theorem Try.keys27 : SlLaysZ.n7 Try.prog Try.keys27_ren:={
 mixed:=by kernel_rfl,f7:=⟨f27.name,by decide,func27.trans (congrArg some (by kernel_rfl))⟩,f10:=⟨f38.name,by decide,func38.trans (congrArg some (by kernel_rfl))⟩,t0:=underlying0,a0:=isAgg0,z0:=sizeOf0,v0:=zeroValue0,t4:=underlying4,a4:=isAgg4,z4:=sizeOf4,v4:=zeroValue4,t23:=underlying56,a23:=isAgg56,z23:=sizeOf56,v23:=zeroValue56,t26:=underlying9,a26:=isAgg9,z26:=sizeOf9,v26:=zeroValue9,t27:=underlying59,a27:=isAgg59,z27:=sizeOf59,v27:=zeroValue59,t28:=underlying60,a28:=isAgg60,z28:=sizeOf60,v28:=zeroValue60,t33:=underlying64,a33:=isAgg64,z33:=sizeOf64,v33:=zeroValue64}
def Try.sorted26_ren : Go.Shelf.Ren:=⟨fun|6=>26|8=>36|9=>37|11=>44|13=>46|12=>45|23=>58|24=>59|14=>49|15=>50|16=>51|17=>52|18=>53|19=>54|20=>55|21=>56|22=>57|25=>61|26=>62|27=>63|28=>64|29=>65|30=>47|31=>66|n=>n,fun|26=>9|28=>60|24=>57|0=>0|3=>3|37=>78|48=>88|50=>90|4=>4|40=>81|39=>80|45=>65|5=>5|9=>9|51=>92|55=>96|57=>98|58=>99|33=>64|n=>n,fun|n=>n⟩
theorem Try.sorted26 : SlLaysZ.n6 Try.prog Try.sorted26_ren:={
 mixed:=by kernel_rfl,f6:=⟨f26.name,by decide,func26.trans (congrArg some (by kernel_rfl))⟩,f8:=⟨f36.name,by decide,func36.trans (congrArg some (by kernel_rfl))⟩,f11:=⟨f44.name,by decide,func44.trans (congrArg some (by kernel_rfl))⟩,t0:=underlying0,a0:=isAgg0,z0:=sizeOf0,v0:=zeroValue0,t24:=underlying57,a24:=isAgg57,z24:=sizeOf57,v24:=zeroValue57,t26:=underlying9,a26:=isAgg9,z26:=sizeOf9,v26:=zeroValue9,t28:=underlying60,a28:=isAgg60,z28:=sizeOf60,v28:=zeroValue60,i26:=by kernel_rfl}
def Try.sort37_ren : Go.Shelf.Ren:=⟨fun|6=>37|8=>46|9=>45|19=>58|20=>59|21=>49|22=>50|23=>51|24=>52|25=>53|26=>54|27=>55|28=>56|29=>57|36=>61|31=>62|32=>63|37=>64|38=>65|39=>47|41=>66|n=>n,fun|27=>57|29=>9|3=>3|32=>78|26=>57|0=>0|44=>88|46=>90|4=>4|36=>81|35=>80|41=>65|5=>5|9=>9|53=>92|57=>96|63=>98|64=>99|n=>n,fun|n=>n⟩
theorem Try.sort37 : SlLaysM.n6 Try.prog Try.sort37_ren:={
 mixed:=by kernel_rfl,f6:=⟨f37.name,by decide,func37.trans (congrArg some (by kernel_rfl))⟩,f8:=func46.trans (congrArg some (by kernel_rfl)),f9:=⟨f45.name,by decide,func45.trans (congrArg some (by kernel_rfl))⟩,f19:=func58.trans (congrArg some (by kernel_rfl)),f20:=func59.trans (congrArg some (by kernel_rfl)),f21:=⟨f49.name,by decide,func49.trans (congrArg some (by kernel_rfl))⟩,f22:=⟨f50.name,by decide,func50.trans (congrArg some (by kernel_rfl))⟩,f23:=⟨f51.name,by decide,func51.trans (congrArg some (by kernel_rfl))⟩,f24:=⟨f52.name,by decide,func52.trans (congrArg some (by kernel_rfl))⟩,f25:=⟨f53.name,by decide,func53.trans (congrArg some (by kernel_rfl))⟩,f26:=⟨f54.name,by decide,func54.trans (congrArg some (by kernel_rfl))⟩,f27:=⟨f55.name,by decide,func55.trans (congrArg some (by kernel_rfl))⟩,f28:=⟨f56.name,by decide,func56.trans (congrArg some (by kernel_rfl))⟩,f29:=⟨f57.name,by decide,func57.trans (congrArg some (by kernel_rfl))⟩,f31:=func62.trans (congrArg some (by kernel_rfl)),f32:=func63.trans (congrArg some (by kernel_rfl)),f36:=⟨f61.name,by decide,func61.trans (congrArg some (by kernel_rfl))⟩,f37:=⟨f64.name,by decide,func64.trans (congrArg some (by kernel_rfl))⟩,f38:=⟨f65.name,by decide,func65.trans (congrArg some (by kernel_rfl))⟩,f39:=⟨f47.name,by decide,func47.trans (congrArg some (by kernel_rfl))⟩,f41:=⟨f66.name,by decide,func66.trans (congrArg some (by kernel_rfl))⟩,t0:=underlying0,a0:=isAgg0,z0:=sizeOf0,v0:=zeroValue0,t3:=underlying3,a3:=isAgg3,z3:=sizeOf3,
 v3:=zeroValue3,t4:=underlying4,a4:=isAgg4,z4:=sizeOf4,v4:=zeroValue4,t5:=underlying5,a5:=isAgg5,z5:=sizeOf5,v5:=zeroValue5,t9:=underlying9,a9:=isAgg9,z9:=sizeOf9,v9:=zeroValue9,t26:=underlying57,a26:=isAgg57,z26:=sizeOf57,v26:=zeroValue57,t27:=underlying57,a27:=isAgg57,z27:=sizeOf57,v27:=zeroValue57,t29:=underlying9,a29:=isAgg9,z29:=sizeOf9,v29:=zeroValue9,t32:=underlying78,a32:=isAgg78,z32:=sizeOf78,v32:=zeroValue78,t35:=underlying80,a35:=isAgg80,z35:=sizeOf80,v35:=zeroValue80,t36:=underlying81,a36:=isAgg81,z36:=sizeOf81,v36:=zeroValue81,t41:=underlying65,a41:=isAgg65,z41:=sizeOf65,v41:=zeroValue65,t44:=underlying88,a44:=isAgg88,z44:=sizeOf88,v44:=zeroValue88,t46:=underlying90,a46:=isAgg90,z46:=sizeOf90,v46:=zeroValue90,t53:=underlying92,a53:=isAgg92,z53:=sizeOf92,v53:=zeroValue92,t57:=underlying96,a57:=isAgg96,z57:=sizeOf96,v57:=zeroValue96,t63:=underlying98,a63:=isAgg98,z63:=sizeOf98,v63:=zeroValue98,t64:=underlying99,a64:=isAgg99,z64:=sizeOf99,v64:=zeroValue99}
end Go.Proofs
namespace Go.Proofs.Ytbkpphmonfeaoaa.rowsDiff.Code
open Go.Shelf Go.RowKit Go.Lib Go.Sort Go.Maps Go.Proofs
open Go Go.Am
theorem sorts37 (m : Nat) : AnyZ.SortsIn Try.prog Try.sorted26_ren Fence.wide m :=
  ⟨fun blk off cap ss W hH hblk hsz => callsIn_wide.2 (AnyM.slices_Sort_string Try.sort37 blk off cap ss W hH hblk hsz), fun p cap W => callsIn_wide.2 (AnyM.slices_Sort_string_none Try.sort37 p cap W)⟩
theorem ent26 : Ent Try.prog 26 := ⟨_, _, Try.func26, by kernel_rfl, rfl⟩
theorem st26 : StOk Try.prog 26 ⟨.s, 0, fun _ => none, some 38⟩ := keys_ok trivial Try.keys27 Try.sorted26 sorts37 ent26 (by decide) (enters_of Try.func37 (by kernel_rfl) rfl) (enters_of Try.func38 (by kernel_rfl) rfl)
noncomputable def wts : List (Nat × Wrt) := [(26, ⟨.s, 0, fun _ => none, some 38⟩)]
theorem wts_ok : WtsOk Try.prog wts := ⟨st26, trivial⟩
end Go.Proofs.Ytbkpphmonfeaoaa.rowsDiff.Code
