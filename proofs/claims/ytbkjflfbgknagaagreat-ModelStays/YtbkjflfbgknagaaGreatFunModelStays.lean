import Derived.Test.YtbkjflfbgknagaaGreatTieModelStays
import Derived.Test.YtbkjflfbgknagaaGreatDefModelStays1
import Derived.KernelRfl
import Derived.Test.YtbkjflfbgknagaaGreatSrtModelStays
set_option maxRecDepth 100000
set_option linter.unusedVariables false
set_option linter.constructorNameAsVariable false
namespace Go.Proofs.YtbkjflfbgknagaaGreat.modelStays.Code
open Go Go.Am
open List (isEmpty)
def tb14:List (Nat×CF):=[(14,c14)]
theorem td14:Tied Tryz.prog tb14:=⟨⟨_,_,Tryz.func14,t14⟩,trivial⟩
noncomputable def ct14:List (Nat×Ctr):=[]
theorem h14:CtsOk Tryz.prog ct14:=trivial
noncomputable abbrev gg14:Cfg:=cfgT Tryz.prog (look? tb14) (look? ct14) (look? wts) (([]:List (Nat×Bool)).map (·.1)) hn.kl hn.pf
theorem l14_0:LpsOk gg14 (allL tb14) []:=trivial
noncomputable def K14:Ctr:=⟨.nil,sengine,[],[(true,8)],[],F14⟩
theorem k14:CtrOk Tryz.prog 14 K14:=addFun (H:=hn) (n:=60) orders td14 h14 wts_ok l14_0 rfl rfl (fun x=>by kernel_rfl)
def tb78:List (Nat×CF):=[(78,c78)]
theorem td78:Tied Tryz.prog tb78:=⟨⟨_,_,Tryz.func78,t78⟩,trivial⟩
noncomputable def ct78:List (Nat×Ctr):=[]
theorem h78:CtsOk Tryz.prog ct78:=trivial
noncomputable abbrev gg78:Cfg:=cfgT Tryz.prog (look? tb78) (look? ct78) (look? wts) (([]:List (Nat×Bool)).map (·.1)) hn.kl hn.pf
theorem l78_0:LpsOk gg78 (allL tb78) []:=trivial
noncomputable def K78:Ctr:=⟨.nil,.cons (sSpec) (.nil),[],[(true,1)],[],F78⟩
theorem k78:CtrOk Tryz.prog 78 K78:=addFun (H:=hn) (n:=60) orders td78 h78 wts_ok l78_0 rfl rfl (fun x=>by kernel_rfl)
def tb50:List (Nat×CF):=[(50,c50)]
theorem td50:Tied Tryz.prog tb50:=⟨⟨_,_,Tryz.func50,t50⟩,trivial⟩
noncomputable def ct50:List (Nat×Ctr):=[]
theorem h50:CtsOk Tryz.prog ct50:=trivial
noncomputable abbrev gg50:Cfg:=cfgT Tryz.prog (look? tb50) (look? ct50) (look? wts) (([]:List (Nat×Bool)).map (·.1)) hn.kl hn.pf
theorem l50_0:LpsOk gg50 (allL tb50) []:=trivial
noncomputable def K50:Ctr:=⟨.cons (.i .i64) (.cons (.i .i64) (.nil)),.cons (.b) (.nil),[(false,1),(false,1)],[(false,1)],[],F50⟩
theorem k50:CtrOk Tryz.prog 50 K50:=addFun (H:=hn) (n:=60) orders td50 h50 wts_ok l50_0 rfl rfl (fun x=>by kernel_rfl)
def tb161:List (Nat×CF):=[(161,c161)]
theorem td161:Tied Tryz.prog tb161:=⟨⟨_,_,Tryz.func161,t161⟩,trivial⟩
noncomputable def ct161:List (Nat×Ctr):=[]
theorem h161:CtsOk Tryz.prog ct161:=trivial
noncomputable abbrev gg161:Cfg:=cfgT Tryz.prog (look? tb161) (look? ct161) (look? wts) (([]:List (Nat×Bool)).map (·.1)) hn.kl hn.pf
theorem l161_0:LpsOk gg161 (allL tb161) []:=trivial
noncomputable abbrev ee161_1:Nat×Lps:=(1010304,⟨L161_1010304p,L161_1010304o,L161_1010304⟩)
theorem l161_1:LpsOk gg161 (allL tb161) [ee161_1]:=addLoop (H:=hn) (n:=60) (live:=[0,1,7,29,30,31,1010304]) (b:=c161L0) (ps:=L161_1010304p) (os:=L161_1010304o) (st:=L161_1010304t) h161 wts_ok l161_0 (by kernel_rfl) (by kernel_rfl) (fun x=>by kernel_rfl)
noncomputable def K161:Ctr:=⟨.cons (.i .i64) (.cons (.i .i64) (.cons (sNode) (.nil))),.cons (.b) (.nil),[(false,1),(false,1),(true,3)],[(false,1)],[],F161⟩
theorem k161:CtrOk Tryz.prog 161 K161:=addFun (H:=hn) (n:=60) orders td161 h161 wts_ok l161_1 rfl rfl (fun x=>by kernel_rfl)
def tb179:List (Nat×CF):=[(179,c179)]
theorem td179:Tied Tryz.prog tb179:=⟨⟨_,_,Tryz.func179,t179⟩,trivial⟩
noncomputable def ct179:List (Nat×Ctr):=[]
theorem h179:CtsOk Tryz.prog ct179:=trivial
noncomputable abbrev gg179:Cfg:=cfgT Tryz.prog (look? tb179) (look? ct179) (look? wts) (([]:List (Nat×Bool)).map (·.1)) hn.kl hn.pf
theorem l179_0:LpsOk gg179 (allL tb179) []:=trivial
noncomputable def K179:Ctr:=⟨.cons (sNode) (.nil),.cons (.b) (.nil),[(true,3)],[(false,1)],[],F179⟩
theorem k179:CtrOk Tryz.prog 179 K179:=addFun (H:=hn) (n:=60) orders td179 h179 wts_ok l179_0 rfl rfl (fun x=>by kernel_rfl)
def tb208:List (Nat×CF):=[(208,c208)]
theorem td208:Tied Tryz.prog tb208:=⟨⟨_,_,Tryz.func208,t208⟩,trivial⟩
noncomputable def ct208:List (Nat×Ctr):=[]
theorem h208:CtsOk Tryz.prog ct208:=trivial
noncomputable abbrev gg208:Cfg:=cfgT Tryz.prog (look? tb208) (look? ct208) (look? wts) (([]:List (Nat×Bool)).map (·.1)) hn.kl hn.pf
theorem l208_0:LpsOk gg208 (allL tb208) []:=trivial
noncomputable def K208:Ctr:=⟨.cons (.i .i64) (.nil),.cons (.b) (.nil),[(false,1)],[(false,1)],[],F208⟩
theorem k208:CtrOk Tryz.prog 208 K208:=addFun (H:=hn) (n:=60) orders td208 h208 wts_ok l208_0 rfl rfl (fun x=>by kernel_rfl)
def tb207:List (Nat×CF):=[(207,c207)]
theorem td207:Tied Tryz.prog tb207:=⟨⟨_,_,Tryz.func207,t207⟩,trivial⟩
noncomputable def ct207:List (Nat×Ctr):=[]
theorem h207:CtsOk Tryz.prog ct207:=trivial
noncomputable abbrev gg207:Cfg:=cfgT Tryz.prog (look? tb207) (look? ct207) (look? wts) (([]:List (Nat×Bool)).map (·.1)) hn.kl hn.pf
theorem l207_0:LpsOk gg207 (allL tb207) []:=trivial
noncomputable def K207:Ctr:=⟨.cons (.i .i64) (.nil),.cons (.b) (.nil),[(false,1)],[(false,1)],[],F207⟩
theorem k207:CtrOk Tryz.prog 207 K207:=addFun (H:=hn) (n:=60) orders td207 h207 wts_ok l207_0 rfl rfl (fun x=>by kernel_rfl)
def tb253:List (Nat×CF):=[(253,c253)]
theorem td253:Tied Tryz.prog tb253:=⟨⟨_,_,Tryz.func253,t253⟩,trivial⟩
noncomputable def ct253:List (Nat×Ctr):=[]
theorem h253:CtsOk Tryz.prog ct253:=trivial
noncomputable abbrev gg253:Cfg:=cfgT Tryz.prog (look? tb253) (look? ct253) (look? wts) (([]:List (Nat×Bool)).map (·.1)) hn.kl hn.pf
theorem l253_0:LpsOk gg253 (allL tb253) []:=trivial
noncomputable abbrev ee253_1:Nat×Lps:=(1016192,⟨L253_1016192p,L253_1016192o,L253_1016192⟩)
theorem l253_1:LpsOk gg253 (allL tb253) [ee253_1]:=addLoop (H:=hn) (n:=60) (live:=[0,1,7,8,1016192]) (b:=c253L0) (ps:=L253_1016192p) (os:=L253_1016192o) (st:=L253_1016192t) h253 wts_ok l253_0 (by kernel_rfl) (by kernel_rfl) (fun x=>by kernel_rfl)
noncomputable def K253:Ctr:=⟨.cons (.row (.i .u8)) (.cons (.i .u8) (.nil)),.cons (.i .i64) (.nil),[(false,1),(false,1)],[(false,1)],[],F253⟩
theorem k253:CtrOk Tryz.prog 253 K253:=addFun (H:=hn) (n:=60) orders td253 h253 wts_ok l253_1 rfl rfl (fun x=>by kernel_rfl)
def tb54:List (Nat×CF):=[(54,c54)]
theorem td54:Tied Tryz.prog tb54:=⟨⟨_,_,Tryz.func54,t54⟩,trivial⟩
noncomputable def ct54:List (Nat×Ctr):=[]
theorem h54:CtsOk Tryz.prog ct54:=trivial
noncomputable abbrev gg54:Cfg:=cfgT Tryz.prog (look? tb54) (look? ct54) (look? wts) (([]:List (Nat×Bool)).map (·.1)) hn.kl hn.pf
theorem l54_0:LpsOk gg54 (allL tb54) []:=trivial
noncomputable def K54:Ctr:=⟨.cons (sState) (.cons (sEvent) (.nil)),.cons (.b) (.nil),[(true,8),(true,4)],[(false,1)],[],F54⟩
theorem k54:CtrOk Tryz.prog 54 K54:=addFun (H:=hn) (n:=60) orders td54 h54 wts_ok l54_0 rfl rfl (fun x=>by kernel_rfl)
def tb162:List (Nat×CF):=[(162,c162)]
theorem td162:Tied Tryz.prog tb162:=⟨⟨_,_,Tryz.func162,t162⟩,trivial⟩
noncomputable def ct162:List (Nat×Ctr):=[]
theorem h162:CtsOk Tryz.prog ct162:=trivial
noncomputable abbrev gg162:Cfg:=cfgT Tryz.prog (look? tb162) (look? ct162) (look? wts) (([]:List (Nat×Bool)).map (·.1)) hn.kl hn.pf
theorem l162_0:LpsOk gg162 (allL tb162) []:=trivial
noncomputable def K162:Ctr:=⟨.cons (.i .i64) (.nil),.cons (.b) (.nil),[(false,1)],[(false,1)],[],F162⟩
theorem k162:CtrOk Tryz.prog 162 K162:=addFun (H:=hn) (n:=60) orders td162 h162 wts_ok l162_0 rfl rfl (fun x=>by kernel_rfl)
def tb101:List (Nat×CF):=[(101,c101)]
theorem td101:Tied Tryz.prog tb101:=⟨⟨_,_,Tryz.func101,t101⟩,trivial⟩
noncomputable def ct101:List (Nat×Ctr):=[]
theorem h101:CtsOk Tryz.prog ct101:=trivial
noncomputable abbrev gg101:Cfg:=cfgT Tryz.prog (look? tb101) (look? ct101) (look? wts) (([(0,true)]:List (Nat×Bool)).map (·.1)) hn.kl hn.pf
theorem l101_0:LpsOk gg101 (allL tb101) []:=trivial
noncomputable def K101o:Ctr:=⟨.cons (.row (sTask)) (.nil),.cons (.row (sTask)) (.nil),[(false,1)],[(false,1)],[(0,true)],F101o⟩
theorem k101o:CtrOk Tryz.prog 101 K101o:=addFun (H:=hn) (n:=60) orders td101 h101 wts_ok l101_0 rfl rfl (fun x=>by kernel_rfl)
noncomputable def K101:Ctr:=⟨.cons (.row (sTask)) (.nil),.cons (.row (sTask)) (.nil),[(false,1)],[(false,1)],[(0,true)],F101⟩
theorem k101:CtrOk Tryz.prog 101 K101:=cloneO k101o ⟨_,_,Tryz.func101,by kernel_rfl,rfl⟩ el101
def tb102:List (Nat×CF):=[(102,c102)]
theorem td102:Tied Tryz.prog tb102:=⟨⟨_,_,Tryz.func102,t102⟩,trivial⟩
noncomputable def ct102:List (Nat×Ctr):=[]
theorem h102:CtsOk Tryz.prog ct102:=trivial
noncomputable abbrev gg102:Cfg:=cfgT Tryz.prog (look? tb102) (look? ct102) (look? wts) (([]:List (Nat×Bool)).map (·.1)) hn.kl hn.pf
theorem l102_0:LpsOk gg102 (allL tb102) []:=trivial
noncomputable def K102o:Ctr:=⟨.cons (.row (.i .i64)) (.nil),.cons (.row (.i .i64)) (.nil),[(false,1)],[(false,1)],[],F102o⟩
theorem k102o:CtrOk Tryz.prog 102 K102o:=addFun (H:=hn) (n:=60) orders td102 h102 wts_ok l102_0 rfl rfl (fun x=>by kernel_rfl)
noncomputable def K102:Ctr:=⟨.cons (.row (.i .i64)) (.nil),.cons (.row (.i .i64)) (.nil),[(false,1)],[(false,1)],[],F102⟩
theorem k102:CtrOk Tryz.prog 102 K102:=cloneK k102o ⟨_,_,Tryz.func102,by kernel_rfl,rfl⟩ el102
def tb118:List (Nat×CF):=[(118,c118)]
theorem td118:Tied Tryz.prog tb118:=⟨⟨_,_,Tryz.func118,t118⟩,trivial⟩
noncomputable def ct118:List (Nat×Ctr):=[]
theorem h118:CtsOk Tryz.prog ct118:=trivial
noncomputable abbrev gg118:Cfg:=cfgT Tryz.prog (look? tb118) (look? ct118) (look? wts) (([]:List (Nat×Bool)).map (·.1)) hn.kl hn.pf
theorem l118_0:LpsOk gg118 (allL tb118) []:=trivial
noncomputable def K118:Ctr:=⟨.cons (.i .i64) (.nil),.cons (.b) (.nil),[(false,1)],[(false,1)],[],F118⟩
theorem k118:CtrOk Tryz.prog 118 K118:=addFun (H:=hn) (n:=60) orders td118 h118 wts_ok l118_0 rfl rfl (fun x=>by kernel_rfl)
def tb234:List (Nat×CF):=[(234,c234)]
theorem td234:Tied Tryz.prog tb234:=⟨⟨_,_,Tryz.func234,t234⟩,trivial⟩
noncomputable def ct234:List (Nat×Ctr):=[]
theorem h234:CtsOk Tryz.prog ct234:=trivial
noncomputable abbrev gg234:Cfg:=cfgT Tryz.prog (look? tb234) (look? ct234) (look? wts) (([]:List (Nat×Bool)).map (·.1)) hn.kl hn.pf
theorem l234_0:LpsOk gg234 (allL tb234) []:=trivial
noncomputable def K234:Ctr:=⟨.cons (.i .i64) (.nil),.cons (.b) (.nil),[(false,1)],[(false,1)],[],F234⟩
theorem k234:CtrOk Tryz.prog 234 K234:=addFun (H:=hn) (n:=60) orders td234 h234 wts_ok l234_0 rfl rfl (fun x=>by kernel_rfl)
def tb236:List (Nat×CF):=[(236,c236)]
theorem td236:Tied Tryz.prog tb236:=⟨⟨_,_,Tryz.func236,t236⟩,trivial⟩
noncomputable def ct236:List (Nat×Ctr):=[]
theorem h236:CtsOk Tryz.prog ct236:=trivial
noncomputable abbrev gg236:Cfg:=cfgT Tryz.prog (look? tb236) (look? ct236) (look? wts) (([]:List (Nat×Bool)).map (·.1)) hn.kl hn.pf
theorem l236_0:LpsOk gg236 (allL tb236) []:=trivial
noncomputable abbrev ee236_1:Nat×Lps:=(1015104,⟨L236_1015104p,L236_1015104o,L236_1015104⟩)
theorem l236_1:LpsOk gg236 (allL tb236) [ee236_1]:=addLoop (H:=hn) (n:=60) (live:=[1,5,6,1015104]) (b:=c236L0) (ps:=L236_1015104p) (os:=L236_1015104o) (st:=L236_1015104t) h236 wts_ok l236_0 (by kernel_rfl) (by kernel_rfl) (fun x=>by kernel_rfl)
noncomputable def K236:Ctr:=⟨.cons (sNode) (.cons (.i .i64) (.nil)),.cons (.i .i64) (.nil),[(true,3),(false,1)],[(false,1)],[],F236⟩
theorem k236:CtrOk Tryz.prog 236 K236:=addFun (H:=hn) (n:=60) orders td236 h236 wts_ok l236_1 rfl rfl (fun x=>by kernel_rfl)
def tb176:List (Nat×CF):=[(176,c176)]
theorem td176:Tied Tryz.prog tb176:=⟨⟨_,_,Tryz.func176,t176⟩,trivial⟩
noncomputable def ct176:List (Nat×Ctr):=[]
theorem h176:CtsOk Tryz.prog ct176:=trivial
noncomputable abbrev gg176:Cfg:=cfgT Tryz.prog (look? tb176) (look? ct176) (look? wts) (([]:List (Nat×Bool)).map (·.1)) hn.kl hn.pf
theorem l176_0:LpsOk gg176 (allL tb176) []:=trivial
noncomputable def K176:Ctr:=⟨.cons (sTask) (.cons (.i .i64) (.nil)),.cons (.b) (.nil),[(true,5),(false,1)],[(false,1)],[],F176⟩
theorem k176:CtrOk Tryz.prog 176 K176:=addFun (H:=hn) (n:=60) orders td176 h176 wts_ok l176_0 rfl rfl (fun x=>by kernel_rfl)
def tb214:List (Nat×CF):=[(214,c214)]
theorem td214:Tied Tryz.prog tb214:=⟨⟨_,_,Tryz.func214,t214⟩,trivial⟩
noncomputable def ct214:List (Nat×Ctr):=[]
theorem h214:CtsOk Tryz.prog ct214:=trivial
noncomputable abbrev gg214:Cfg:=cfgT Tryz.prog (look? tb214) (look? ct214) (look? wts) (([]:List (Nat×Bool)).map (·.1)) hn.kl hn.pf
theorem l214_0:LpsOk gg214 (allL tb214) []:=trivial
noncomputable abbrev ee214_1:Nat×Lps:=(1013696,⟨L214_1013696p,L214_1013696o,L214_1013696⟩)
theorem l214_1:LpsOk gg214 (allL tb214) [ee214_1]:=addLoop (H:=hn) (n:=60) (live:=[3,6,7,8,1013696]) (b:=c214L0) (ps:=L214_1013696p) (os:=L214_1013696o) (st:=L214_1013696t) h214 wts_ok l214_0 (by kernel_rfl) (by kernel_rfl) (fun x=>by kernel_rfl)
noncomputable def K214:Ctr:=⟨.cons (.row (.i .i64)) (.nil),.cons (.i .i64) (.nil),[(false,1)],[(false,1)],[],F214⟩
theorem k214:CtrOk Tryz.prog 214 K214:=addFun (H:=hn) (n:=60) orders td214 h214 wts_ok l214_1 rfl rfl (fun x=>by kernel_rfl)
def tb61:List (Nat×CF):=[(61,c61)]
theorem td61:Tied Tryz.prog tb61:=⟨⟨_,_,Tryz.func61,t61⟩,trivial⟩
noncomputable def ct61:List (Nat×Ctr):=[]
theorem h61:CtsOk Tryz.prog ct61:=trivial
noncomputable abbrev gg61:Cfg:=cfgT Tryz.prog (look? tb61) (look? ct61) (look? wts) (([(0,true)]:List (Nat×Bool)).map (·.1)) hn.kl hn.pf
theorem l61_0:LpsOk gg61 (allL tb61) []:=trivial
noncomputable def K61o:Ctr:=⟨.cons (.row (sEvent)) (.nil),.cons (.row (sEvent)) (.nil),[(false,1)],[(false,1)],[(0,true)],F61o⟩
theorem k61o:CtrOk Tryz.prog 61 K61o:=addFun (H:=hn) (n:=60) orders td61 h61 wts_ok l61_0 rfl rfl (fun x=>by kernel_rfl)
noncomputable def K61:Ctr:=⟨.cons (.row (sEvent)) (.nil),.cons (.row (sEvent)) (.nil),[(false,1)],[(false,1)],[(0,true)],F61⟩
theorem k61:CtrOk Tryz.prog 61 K61:=cloneO k61o ⟨_,_,Tryz.func61,by kernel_rfl,rfl⟩ el61
def tb48:List (Nat×CF):=[(48,c48)]
theorem td48:Tied Tryz.prog tb48:=⟨⟨_,_,Tryz.func48,t48⟩,trivial⟩
noncomputable def ct48:List (Nat×Ctr):=[]
theorem h48:CtsOk Tryz.prog ct48:=trivial
noncomputable abbrev gg48:Cfg:=cfgT Tryz.prog (look? tb48) (look? ct48) (look? wts) (([]:List (Nat×Bool)).map (·.1)) hn.kl hn.pf
theorem l48_0:LpsOk gg48 (allL tb48) []:=trivial
noncomputable def K48:Ctr:=⟨sengine,.cons (.b) (.nil),[(true,8)],[(false,1)],[],F48⟩
theorem k48:CtrOk Tryz.prog 48 K48:=addFun (H:=hn) (n:=60) orders td48 h48 wts_ok l48_0 rfl rfl (fun x=>by kernel_rfl)
def tb45:List (Nat×CF):=[(45,c45)]
theorem td45:Tied Tryz.prog tb45:=⟨⟨_,_,Tryz.func45,t45⟩,trivial⟩
noncomputable def ct45:List (Nat×Ctr):=[]
theorem h45:CtsOk Tryz.prog ct45:=trivial
noncomputable abbrev gg45:Cfg:=cfgT Tryz.prog (look? tb45) (look? ct45) (look? wts) (([]:List (Nat×Bool)).map (·.1)) hn.kl hn.pf
theorem l45_0:LpsOk gg45 (allL tb45) []:=trivial
noncomputable abbrev ee45_1:Nat×Lps:=(1002880,⟨L45_1002880p,L45_1002880o,L45_1002880⟩)
theorem l45_1:LpsOk gg45 (allL tb45) [ee45_1]:=addLoop (H:=hn) (n:=60) (live:=[1,3,1002880]) (b:=c45L0) (ps:=L45_1002880p) (os:=L45_1002880o) (st:=L45_1002880t) h45 wts_ok l45_0 (by kernel_rfl) (by kernel_rfl) (fun x=>by kernel_rfl)
noncomputable def K45:Ctr:=⟨.cons (sSpec) (.nil),.cons (.b) (.nil),[(true,1)],[(false,1)],[],F45⟩
theorem k45:CtrOk Tryz.prog 45 K45:=addFun (H:=hn) (n:=60) orders td45 h45 wts_ok l45_1 rfl rfl (fun x=>by kernel_rfl)
def tb13:List (Nat×CF):=[(13,c13)]
theorem td13:Tied Tryz.prog tb13:=⟨⟨_,_,Tryz.func13,t13⟩,trivial⟩
noncomputable def ct13:List (Nat×Ctr):=[(45,K45)]
theorem h13:CtsOk Tryz.prog ct13:=⟨k45,trivial⟩
noncomputable abbrev gg13:Cfg:=cfgT Tryz.prog (look? tb13) (look? ct13) (look? wts) (([]:List (Nat×Bool)).map (·.1)) hn.kl hn.pf
theorem l13_0:LpsOk gg13 (allL tb13) []:=trivial
noncomputable abbrev ee13_1:Nat×Lps:=(1000832,⟨L13_1000832p,L13_1000832o,L13_1000832⟩)
theorem l13_1:LpsOk gg13 (allL tb13) [ee13_1]:=addLoop (H:=hn) (n:=60) (live:=[0,5,1000832]) (b:=c13L0) (ps:=L13_1000832p) (os:=L13_1000832o) (st:=L13_1000832t) h13 wts_ok l13_0 (by kernel_rfl) (by kernel_rfl) (fun x=>by kernel_rfl)
noncomputable def K13:Ctr:=⟨.cons (.row (sCall)) (.cons (.i .i64) (.nil)),.cons (.b) (.nil),[(false,1),(false,1)],[(false,1)],[],F13⟩
theorem k13:CtrOk Tryz.prog 13 K13:=addFun (H:=hn) (n:=60) orders td13 h13 wts_ok l13_1 rfl rfl (fun x=>by kernel_rfl)
def tb156:List (Nat×CF):=[(156,c156)]
theorem td156:Tied Tryz.prog tb156:=⟨⟨_,_,Tryz.func156,t156⟩,trivial⟩
noncomputable def ct156:List (Nat×Ctr):=[]
theorem h156:CtsOk Tryz.prog ct156:=trivial
noncomputable abbrev gg156:Cfg:=cfgT Tryz.prog (look? tb156) (look? ct156) (look? wts) (([]:List (Nat×Bool)).map (·.1)) hn.kl hn.pf
theorem l156_0:LpsOk gg156 (allL tb156) []:=trivial
noncomputable abbrev ee156_1:Nat×Lps:=(1009984,⟨L156_1009984p,L156_1009984o,L156_1009984⟩)
theorem l156_1:LpsOk gg156 (allL tb156) [ee156_1]:=addLoop (H:=hn) (n:=60) (live:=[0,1,12,13,1009984]) (b:=c156L0) (ps:=L156_1009984p) (os:=L156_1009984o) (st:=L156_1009984t) h156 wts_ok l156_0 (by kernel_rfl) (by kernel_rfl) (fun x=>by kernel_rfl)
noncomputable def K156:Ctr:=⟨.cons (.row (.i .i64)) (.cons (.row (.i .i64)) (.nil)),.cons (.b) (.nil),[(false,1),(false,1)],[(false,1)],[],F156⟩
theorem k156:CtrOk Tryz.prog 156 K156:=addFun (H:=hn) (n:=60) orders td156 h156 wts_ok l156_1 rfl rfl (fun x=>by kernel_rfl)
def tb104:List (Nat×CF):=[(104,c104)]
theorem td104:Tied Tryz.prog tb104:=⟨⟨_,_,Tryz.func104,t104⟩,trivial⟩
noncomputable def ct104:List (Nat×Ctr):=[]
theorem h104:CtsOk Tryz.prog ct104:=trivial
noncomputable abbrev gg104:Cfg:=cfgT Tryz.prog (look? tb104) (look? ct104) (look? wts) (([]:List (Nat×Bool)).map (·.1)) hn.kl hn.pf
theorem l104_0:LpsOk gg104 (allL tb104) []:=trivial
noncomputable abbrev ee104_1:Nat×Lps:=(1006656,⟨L104_1006656p,L104_1006656o,L104_1006656⟩)
theorem l104_1:LpsOk gg104 (allL tb104) [ee104_1]:=addLoop (H:=hn) (n:=60) (live:=[0,1,12,13,1006656]) (b:=c104L0) (ps:=L104_1006656p) (os:=L104_1006656o) (st:=L104_1006656t) h104 wts_ok l104_0 (by kernel_rfl) (by kernel_rfl) (fun x=>by kernel_rfl)
noncomputable def K104:Ctr:=⟨.cons (.row (sTask)) (.cons (.row (sTask)) (.nil)),.cons (.b) (.nil),[(false,1),(false,1)],[(false,1)],[],F104⟩
theorem k104:CtrOk Tryz.prog 104 K104:=addFun (H:=hn) (n:=60) orders td104 h104 wts_ok l104_1 rfl rfl (fun x=>by kernel_rfl)
def tb65:List (Nat×CF):=[(65,c65)]
theorem td65:Tied Tryz.prog tb65:=⟨⟨_,_,Tryz.func65,t65⟩,trivial⟩
noncomputable def ct65:List (Nat×Ctr):=[]
theorem h65:CtsOk Tryz.prog ct65:=trivial
noncomputable abbrev gg65:Cfg:=cfgT Tryz.prog (look? tb65) (look? ct65) (look? wts) (([]:List (Nat×Bool)).map (·.1)) hn.kl hn.pf
theorem l65_0:LpsOk gg65 (allL tb65) []:=trivial
noncomputable abbrev ee65_1:Nat×Lps:=(1004160,⟨L65_1004160p,L65_1004160o,L65_1004160⟩)
theorem l65_1:LpsOk gg65 (allL tb65) [ee65_1]:=addLoop (H:=hn) (n:=60) (live:=[0,1,12,13,1004160]) (b:=c65L0) (ps:=L65_1004160p) (os:=L65_1004160o) (st:=L65_1004160t) h65 wts_ok l65_0 (by kernel_rfl) (by kernel_rfl) (fun x=>by kernel_rfl)
noncomputable def K65:Ctr:=⟨.cons (.row (sEvent)) (.cons (.row (sEvent)) (.nil)),.cons (.b) (.nil),[(false,1),(false,1)],[(false,1)],[],F65⟩
theorem k65:CtrOk Tryz.prog 65 K65:=addFun (H:=hn) (n:=60) orders td65 h65 wts_ok l65_1 rfl rfl (fun x=>by kernel_rfl)
def tb114:List (Nat×CF):=[(114,c114)]
theorem td114:Tied Tryz.prog tb114:=⟨⟨_,_,Tryz.func114,t114⟩,trivial⟩
noncomputable def ct114:List (Nat×Ctr):=[(161,K161)]
theorem h114:CtsOk Tryz.prog ct114:=⟨k161,trivial⟩
noncomputable abbrev gg114:Cfg:=cfgT Tryz.prog (look? tb114) (look? ct114) (look? wts) (([]:List (Nat×Bool)).map (·.1)) hn.kl hn.pf
theorem l114_0:LpsOk gg114 (allL tb114) []:=trivial
noncomputable abbrev ee114_1:Nat×Lps:=(1007302,⟨L114_1007302p,L114_1007302o,L114_1007302⟩)
theorem l114_1:LpsOk gg114 (allL tb114) [ee114_1]:=addLoop (H:=hn) (n:=60) (live:=[6,97,98,1007302]) (b:=c114L6) (ps:=L114_1007302p) (os:=L114_1007302o) (st:=L114_1007302t) h114 wts_ok l114_0 (by kernel_rfl) (by kernel_rfl) (fun x=>by kernel_rfl)
noncomputable abbrev ee114_2:Nat×Lps:=(1007301,⟨L114_1007301p,L114_1007301o,L114_1007301⟩)
theorem l114_2:LpsOk gg114 (allL tb114) [ee114_2,ee114_1]:=addLoop (H:=hn) (n:=60) (live:=[3,6,11,12,59,60,63,64,67,68,1007301]) (b:=c114L3) (ps:=L114_1007301p) (os:=L114_1007301o) (st:=L114_1007301t) h114 wts_ok l114_1 (by kernel_rfl) (by kernel_rfl) (fun x=>by kernel_rfl)
noncomputable abbrev ee114_3:Nat×Lps:=(1007300,⟨L114_1007300p,L114_1007300o,L114_1007300⟩)
theorem l114_3:LpsOk gg114 (allL tb114) [ee114_3,ee114_2,ee114_1]:=addLoop (H:=hn) (n:=60) (live:=[3,6,11,59,60,63,64,1007300]) (b:=c114L4) (ps:=L114_1007300p) (os:=L114_1007300o) (st:=L114_1007300t) h114 wts_ok l114_2 (by kernel_rfl) (by kernel_rfl) (fun x=>by kernel_rfl)
noncomputable abbrev ee114_4:Nat×Lps:=(1007299,⟨L114_1007299p,L114_1007299o,L114_1007299⟩)
theorem l114_4:LpsOk gg114 (allL tb114) [ee114_4,ee114_3,ee114_2,ee114_1]:=addLoop (H:=hn) (n:=60) (live:=[3,6,59,60,1007299]) (b:=c114L5) (ps:=L114_1007299p) (os:=L114_1007299o) (st:=L114_1007299t) h114 wts_ok l114_3 (by kernel_rfl) (by kernel_rfl) (fun x=>by kernel_rfl)
noncomputable abbrev ee114_5:Nat×Lps:=(1007298,⟨L114_1007298p,L114_1007298o,L114_1007298⟩)
theorem l114_5:LpsOk gg114 (allL tb114) [ee114_5,ee114_4,ee114_3,ee114_2,ee114_1]:=addLoop (H:=hn) (n:=60) (live:=[3,6,7,39,40,41,47,48,49,1007298]) (b:=c114L1) (ps:=L114_1007298p) (os:=L114_1007298o) (st:=L114_1007298t) h114 wts_ok l114_4 (by kernel_rfl) (by kernel_rfl) (fun x=>by kernel_rfl)
noncomputable abbrev ee114_6:Nat×Lps:=(1007297,⟨L114_1007297p,L114_1007297o,L114_1007297⟩)
theorem l114_6:LpsOk gg114 (allL tb114) [ee114_6,ee114_5,ee114_4,ee114_3,ee114_2,ee114_1]:=addLoop (H:=hn) (n:=60) (live:=[3,6,39,40,41,1007297]) (b:=c114L2) (ps:=L114_1007297p) (os:=L114_1007297o) (st:=L114_1007297t) h114 wts_ok l114_5 (by kernel_rfl) (by kernel_rfl) (fun x=>by kernel_rfl)
noncomputable abbrev ee114_7:Nat×Lps:=(1007296,⟨L114_1007296p,L114_1007296o,L114_1007296⟩)
theorem l114_7:LpsOk gg114 (allL tb114) [ee114_7,ee114_6,ee114_5,ee114_4,ee114_3,ee114_2,ee114_1]:=addLoop (H:=hn) (n:=60) (live:=[1,3,25,26,27,1007296]) (b:=c114L0) (ps:=L114_1007296p) (os:=L114_1007296o) (st:=L114_1007296t) h114 wts_ok l114_6 (by kernel_rfl) (by kernel_rfl) (fun x=>by kernel_rfl)
noncomputable def K114:Ctr:=⟨.cons (sSpec) (.nil),.cons (.i .i64) (.nil),[(true,1)],[(false,1)],[],F114⟩
theorem k114:CtrOk Tryz.prog 114 K114:=addFun (H:=hn) (n:=60) orders td114 h114 wts_ok l114_7 rfl rfl (fun x=>by kernel_rfl)
def tb180:List (Nat×CF):=[(180,c180)]
theorem td180:Tied Tryz.prog tb180:=⟨⟨_,_,Tryz.func180,t180⟩,trivial⟩
noncomputable def ct180:List (Nat×Ctr):=[(208,K208),(207,K207)]
theorem h180:CtsOk Tryz.prog ct180:=⟨k208,k207,trivial⟩
noncomputable abbrev gg180:Cfg:=cfgT Tryz.prog (look? tb180) (look? ct180) (look? wts) (([]:List (Nat×Bool)).map (·.1)) hn.kl hn.pf
theorem l180_0:LpsOk gg180 (allL tb180) []:=trivial
noncomputable def K180:Ctr:=⟨.cons (sNode) (.cons (sTask) (.nil)),.cons (.b) (.nil),[(true,3),(true,5)],[(false,1)],[],F180⟩
theorem k180:CtrOk Tryz.prog 180 K180:=addFun (H:=hn) (n:=60) orders td180 h180 wts_ok l180_0 rfl rfl (fun x=>by kernel_rfl)
def tb240:List (Nat×CF):=[(240,c240)]
theorem td240:Tied Tryz.prog tb240:=⟨⟨_,_,Tryz.func240,t240⟩,trivial⟩
noncomputable def ct240:List (Nat×Ctr):=[(253,K253)]
theorem h240:CtsOk Tryz.prog ct240:=⟨k253,trivial⟩
noncomputable abbrev gg240:Cfg:=cfgT Tryz.prog (look? tb240) (look? ct240) (look? wts) (([]:List (Nat×Bool)).map (·.1)) hn.kl hn.pf
theorem l240_0:LpsOk gg240 (allL tb240) []:=trivial
noncomputable def K240:Ctr:=⟨.cons (.row (.i .u8)) (.cons (.i .u8) (.nil)),.cons (.b) (.nil),[(false,1),(false,1)],[(false,1)],[],F240⟩
theorem k240:CtrOk Tryz.prog 240 K240:=addFun (H:=hn) (n:=60) orders td240 h240 wts_ok l240_0 rfl rfl (fun x=>by kernel_rfl)
def tb62:List (Nat×CF):=[(62,c62)]
theorem td62:Tied Tryz.prog tb62:=⟨⟨_,_,Tryz.func62,t62⟩,trivial⟩
noncomputable def ct62:List (Nat×Ctr):=[(101,K101),(102,K102)]
theorem h62:CtsOk Tryz.prog ct62:=⟨k101,k102,trivial⟩
noncomputable abbrev gg62:Cfg:=cfgT Tryz.prog (look? tb62) (look? ct62) (look? wts) (([(4,false)]:List (Nat×Bool)).map (·.1)) hn.kl hn.pf
theorem l62_0:LpsOk gg62 (allL tb62) []:=trivial
noncomputable abbrev ee62_1:Nat×Lps:=(1003968,⟨L62_1003968p,L62_1003968o,L62_1003968⟩)
theorem l62_1:LpsOk gg62 (allL tb62) [ee62_1]:=addLoop (H:={hn with pr:=[(101,0,false)]}) (n:=60) (live:=[1,2,15,16,17,1003968]) (b:=c62L0) (ps:=L62_1003968p) (os:=L62_1003968o) (st:=L62_1003968t) h62 wts_ok l62_0 (by kernel_rfl) (by kernel_rfl) (fun x=>match x with| .inl x=>(by kernel_rfl)| .inr (x)=>(by kernel_rfl))
noncomputable def K62:Ctr:=⟨.cons (sRun) (.nil),.cons (sRun) (.nil),[(true,5)],[(true,5)],[(4,false)],F62⟩
theorem k62:CtrOk Tryz.prog 62 K62:=addFun (H:={hn with pr:=[(101,0,false)]}) (n:=60) orders td62 h62 wts_ok l62_1 rfl rfl (fun x=>by kernel_rfl)
def tb205:List (Nat×CF):=[(205,c205)]
theorem td205:Tied Tryz.prog tb205:=⟨⟨_,_,Tryz.func205,t205⟩,trivial⟩
noncomputable def ct205:List (Nat×Ctr):=[(234,K234)]
theorem h205:CtsOk Tryz.prog ct205:=⟨k234,trivial⟩
noncomputable abbrev gg205:Cfg:=cfgT Tryz.prog (look? tb205) (look? ct205) (look? wts) (([]:List (Nat×Bool)).map (·.1)) hn.kl hn.pf
theorem l205_0:LpsOk gg205 (allL tb205) []:=trivial
noncomputable def K205:Ctr:=⟨.cons (.i .i64) (.cons (.i .i64) (.nil)),.cons (.i .i64) (.nil),[(false,1),(false,1)],[(false,1)],[],F205⟩
theorem k205:CtrOk Tryz.prog 205 K205:=addFun (H:=hn) (n:=60) orders td205 h205 wts_ok l205_0 rfl rfl (fun x=>by kernel_rfl)
def tb210:List (Nat×CF):=[(210,c210)]
theorem td210:Tied Tryz.prog tb210:=⟨⟨_,_,Tryz.func210,t210⟩,trivial⟩
noncomputable def ct210:List (Nat×Ctr):=[(236,K236)]
theorem h210:CtsOk Tryz.prog ct210:=⟨k236,trivial⟩
noncomputable abbrev gg210:Cfg:=cfgT Tryz.prog (look? tb210) (look? ct210) (look? wts) (([]:List (Nat×Bool)).map (·.1)) hn.kl hn.pf
theorem l210_0:LpsOk gg210 (allL tb210) []:=trivial
noncomputable def K210:Ctr:=⟨.cons (sNode) (.cons (sTask) (.cons (.i .i64) (.nil))),.cons (sTask) (.nil),[(true,3),(true,5),(false,1)],[(true,5)],[],F210⟩
theorem k210:CtrOk Tryz.prog 210 K210:=addFun (H:=hn) (n:=60) orders td210 h210 wts_ok l210_0 rfl rfl (fun x=>by kernel_rfl)
def tb213:List (Nat×CF):=[(213,c213)]
theorem td213:Tied Tryz.prog tb213:=⟨⟨_,_,Tryz.func213,t213⟩,trivial⟩
noncomputable def ct213:List (Nat×Ctr):=[(205,K205),(214,K214)]
theorem h213:CtsOk Tryz.prog ct213:=⟨k205,k214,trivial⟩
noncomputable abbrev gg213:Cfg:=cfgT Tryz.prog (look? tb213) (look? ct213) (look? wts) (([]:List (Nat×Bool)).map (·.1)) hn.kl hn.pf
theorem l213_0:LpsOk gg213 (allL tb213) []:=trivial
noncomputable def K213:Ctr:=⟨.cons (sPlace) (.cons (sPlace) (.nil)),.cons (.i .i64) (.nil),[(true,3),(true,3)],[(false,1)],[],F213⟩
theorem k213:CtrOk Tryz.prog 213 K213:=addFun (H:=hn) (n:=60) orders td213 h213 wts_ok l213_0 rfl rfl (fun x=>by kernel_rfl)
def tb25a:List (Nat×CF):=[(25,c25)]
theorem td25a:Tied Tryz.prog tb25a:=⟨⟨_,_,Tryz.func25,t25⟩,trivial⟩
noncomputable def ct25a:List (Nat×Ctr):=[(61,K61),(62,K62)]
theorem h25a:CtsOk Tryz.prog ct25a:=⟨k61,k62,trivial⟩
noncomputable abbrev gg25a:Cfg:=cfgT Tryz.prog (look? tb25a) (look? ct25a) (look? wts) (([(6,true),(7,true)]:List (Nat×Bool)).map (·.1)) hn.kl hn.pf
theorem l25a_0:LpsOk gg25a (allL tb25a) []:=trivial
noncomputable abbrev ee25a_1:Nat×Lps:=(1001600,⟨L25a_1001600p,L25a_1001600o,L25a_1001600⟩)
theorem l25a_1:LpsOk gg25a (allL tb25a) [ee25a_1]:=addLoop (H:={hn with pr:=[(61,0,false)]}) (n:=60) (live:=[1,2,13,14,15,1001600]) (b:=c25L0) (ps:=L25a_1001600p) (os:=L25a_1001600o) (st:=L25a_1001600t) h25a wts_ok l25a_0 (by kernel_rfl) (by kernel_rfl) (fun x=>match x with| .inl x=>(by kernel_rfl)| .inr (x)=>(by kernel_rfl))
noncomputable def K25a:Ctr:=⟨sengine,sengine,[(true,8)],[(true,8)],[(6,true),(7,true)],F25a⟩
theorem k25a:CtrOk Tryz.prog 25 K25a:=addFun (H:={hn with pr:=[(61,0,false)]}) (n:=60) orders td25a h25a wts_ok l25a_1 rfl rfl (fun x=>by kernel_rfl)
def tb25b:List (Nat×CF):=[(25,c25)]
theorem td25b:Tied Tryz.prog tb25b:=⟨⟨_,_,Tryz.func25,t25⟩,trivial⟩
noncomputable def ct25b:List (Nat×Ctr):=[(61,K61),(62,K62)]
theorem h25b:CtsOk Tryz.prog ct25b:=⟨k61,k62,trivial⟩
noncomputable abbrev gg25b:Cfg:=cfgT Tryz.prog (look? tb25b) (look? ct25b) (look? wts) (([(6,true),(7,true)]:List (Nat×Bool)).map (·.1)) hn.kl hn.pf
theorem l25b_0:LpsOk gg25b (allL tb25b) []:=trivial
noncomputable abbrev ee25b_1:Nat×Lps:=(1001600,⟨L25b_1001600p,L25b_1001600o,L25b_1001600⟩)
theorem l25b_1:LpsOk gg25b (allL tb25b) [ee25b_1]:=addLoop (H:={hn with pr:=[(61,0,true)]}) (n:=60) (live:=[1,2,13,14,15,1001600]) (b:=c25L0) (ps:=L25b_1001600p) (os:=L25b_1001600o) (st:=L25b_1001600t) h25b wts_ok l25b_0 (by kernel_rfl) (by kernel_rfl) (fun x=>match x with| .inl x=>(by kernel_rfl)| .inr (x)=>(by kernel_rfl))
noncomputable def K25b:Ctr:=⟨sengine,sengine,[(true,8)],[(true,8)],[(6,true),(7,true)],F25b⟩
theorem k25b:CtrOk Tryz.prog 25 K25b:=addFun (H:={hn with pr:=[(61,0,true)]}) (n:=60) orders td25b h25b wts_ok l25b_1 rfl rfl (fun x=>by kernel_rfl)
noncomputable def K25:Ctr:=⟨sengine,sengine,[(true,8)],[(true,8)],[(6,true),(7,true)],F25⟩
theorem k25:CtrOk Tryz.prog 25 K25:=by
 have h:= @ctr_bif Tryz.prog 25 (sengine) (sengine) _ _ _ _ _ (fun x=>isEmpty x.1.2.2.2.2.2.2.2.1) k25b k25a
 exact h
def tb94:List (Nat×CF):=[(94,c94)]
theorem td94:Tied Tryz.prog tb94:=⟨⟨_,_,Tryz.func94,t94⟩,trivial⟩
noncomputable def ct94:List (Nat×Ctr):=[(45,K45)]
theorem h94:CtsOk Tryz.prog ct94:=⟨k45,trivial⟩
noncomputable abbrev gg94:Cfg:=cfgT Tryz.prog (look? tb94) (look? ct94) (look? wts) (([]:List (Nat×Bool)).map (·.1)) hn.kl hn.pf
theorem l94_0:LpsOk gg94 (allL tb94) []:=trivial
noncomputable def K94:Ctr:=⟨.cons (sRun) (.nil),.cons (.b) (.nil),[(true,5)],[(false,1)],[],F94⟩
theorem k94:CtrOk Tryz.prog 94 K94:=addFun (H:=hn) (n:=60) orders td94 h94 wts_ok l94_0 rfl rfl (fun x=>by kernel_rfl)
def tb130:List (Nat×CF):=[(130,c130)]
theorem td130:Tied Tryz.prog tb130:=⟨⟨_,_,Tryz.func130,t130⟩,trivial⟩
noncomputable def ct130:List (Nat×Ctr):=[(179,K179),(180,K180)]
theorem h130:CtsOk Tryz.prog ct130:=⟨k179,k180,trivial⟩
noncomputable abbrev gg130:Cfg:=cfgT Tryz.prog (look? tb130) (look? ct130) (look? wts) (([]:List (Nat×Bool)).map (·.1)) hn.kl hn.pf
theorem l130_0:LpsOk gg130 (allL tb130) []:=trivial
noncomputable def K130:Ctr:=⟨.cons (sNode) (.cons (sTask) (.nil)),.cons (.i .i64) (.nil),[(true,3),(true,5)],[(false,1)],[],F130⟩
theorem k130:CtrOk Tryz.prog 130 K130:=addFun (H:=hn) (n:=60) orders td130 h130 wts_ok l130_0 rfl rfl (fun x=>by kernel_rfl)
def tb181:List (Nat×CF):=[(181,c181),(220,c220),(219,c219),(239,c239)]
theorem td181:Tied Tryz.prog tb181:=⟨⟨_,_,Tryz.func181,t181⟩,⟨_,_,Tryz.func220,t220⟩,⟨_,_,Tryz.func219,t219⟩,⟨_,_,Tryz.func239,t239⟩,trivial⟩
noncomputable def ct181:List (Nat×Ctr):=[]
theorem h181:CtsOk Tryz.prog ct181:=trivial
noncomputable abbrev gg181:Cfg:=cfgT Tryz.prog (look? tb181) (look? ct181) (look? wts) (([]:List (Nat×Bool)).map (·.1)) hn.kl hn.pf
theorem l181_0:LpsOk gg181 (allL tb181) []:=trivial
noncomputable abbrev ee181_1:Nat×Lps:=(1015296,⟨L181_1015296p,L181_1015296o,L181_1015296⟩)
theorem l181_1:LpsOk gg181 (allL tb181) [ee181_1]:=addLoop (H:=hn) (n:=60) (live:=[0,1,7,8,1015296]) (b:=c239L0) (ps:=L181_1015296p) (os:=L181_1015296o) (st:=L181_1015296t) h181 wts_ok l181_0 (by kernel_rfl) (by kernel_rfl) (fun x=>by kernel_rfl)
noncomputable def K181:Ctr:=⟨.cons (sRun) (.cons (sNode) (.nil)),.cons (.b) (.nil),[(true,5),(true,3)],[(false,1)],[],F181⟩
theorem k181:CtrOk Tryz.prog 181 K181:=addFun (H:=hn) (n:=60) orders td181 h181 wts_ok l181_1 rfl rfl (fun x=>by kernel_rfl)
def tb222:List (Nat×CF):=[(222,c222)]
theorem td222:Tied Tryz.prog tb222:=⟨⟨_,_,Tryz.func222,t222⟩,trivial⟩
noncomputable def ct222:List (Nat×Ctr):=[(240,K240)]
theorem h222:CtsOk Tryz.prog ct222:=⟨k240,trivial⟩
noncomputable abbrev gg222:Cfg:=cfgT Tryz.prog (look? tb222) (look? ct222) (look? wts) (([]:List (Nat×Bool)).map (·.1)) hn.kl hn.pf
theorem l222_0:LpsOk gg222 (allL tb222) []:=trivial
noncomputable def K222:Ctr:=⟨.cons (sTask) (.cons (.row (.i .u8)) (.nil)),.cons (.b) (.nil),[(true,5),(false,1)],[(false,1)],[],F222⟩
theorem k222:CtrOk Tryz.prog 222 K222:=addFun (H:=hn) (n:=60) orders td222 h222 wts_ok l222_0 rfl rfl (fun x=>by kernel_rfl)
def tb235:List (Nat×CF):=[(235,c235)]
theorem td235:Tied Tryz.prog tb235:=⟨⟨_,_,Tryz.func235,t235⟩,trivial⟩
noncomputable def ct235:List (Nat×Ctr):=[(130,K130)]
theorem h235:CtsOk Tryz.prog ct235:=⟨k130,trivial⟩
noncomputable abbrev gg235:Cfg:=cfgT Tryz.prog (look? tb235) (look? ct235) (look? wts) (([]:List (Nat×Bool)).map (·.1)) hn.kl hn.pf
theorem l235_0:LpsOk gg235 (allL tb235) []:=trivial
noncomputable def K235:Ctr:=⟨.cons (sNode) (.cons (sTask) (.cons (.b) (.nil))),.cons (.i .i64) (.nil),[(true,3),(true,5),(false,1)],[(false,1)],[],F235⟩
theorem k235:CtrOk Tryz.prog 235 K235:=addFun (H:=hn) (n:=60) orders td235 h235 wts_ok l235_0 rfl rfl (fun x=>by kernel_rfl)
def tb211:List (Nat×CF):=[(211,c211)]
theorem td211:Tied Tryz.prog tb211:=⟨⟨_,_,Tryz.func211,t211⟩,trivial⟩
noncomputable def ct211:List (Nat×Ctr):=[(130,K130)]
theorem h211:CtsOk Tryz.prog ct211:=⟨k130,trivial⟩
noncomputable abbrev gg211:Cfg:=cfgT Tryz.prog (look? tb211) (look? ct211) (look? wts) (([]:List (Nat×Bool)).map (·.1)) hn.kl hn.pf
theorem l211_0:LpsOk gg211 (allL tb211) []:=trivial
noncomputable def K211:Ctr:=⟨.cons (sNode) (.cons (sTask) (.nil)),.cons (sTask) (.cons (.i .i64) (.nil)),[(true,3),(true,5)],[(true,5),(false,1)],[],F211⟩
theorem k211:CtrOk Tryz.prog 211 K211:=addFun (H:=hn) (n:=60) orders td211 h211 wts_ok l211_0 rfl rfl (fun x=>by kernel_rfl)
def tb175:List (Nat×CF):=[(175,c175)]
theorem td175:Tied Tryz.prog tb175:=⟨⟨_,_,Tryz.func175,t175⟩,trivial⟩
noncomputable def ct175:List (Nat×Ctr):=[(176,K176),(213,K213)]
theorem h175:CtsOk Tryz.prog ct175:=⟨k176,k213,trivial⟩
noncomputable abbrev gg175:Cfg:=cfgT Tryz.prog (look? tb175) (look? ct175) (look? wts) (([(0,true)]:List (Nat×Bool)).map (·.1)) hn.kl hn.pf
theorem l175_0:LpsOk gg175 (allL tb175) []:=trivial
noncomputable abbrev ee175_1:Nat×Lps:=(1011201,⟨L175_1011201p,L175_1011201o,L175_1011201⟩)
theorem l175_1:LpsOk gg175 (allL tb175) [ee175_1]:=addLoop (H:=hn) (n:=60) (live:=[1,5,7,10,11,12,17,18,19,1011201]) (b:=c175L0) (ps:=L175_1011201p) (os:=L175_1011201o) (st:=L175_1011201t) h175 wts_ok l175_0 (by kernel_rfl) (by kernel_rfl) (fun x=>match x with| .inl x=>(by kernel_rfl)| .inr (x)=>(by kernel_rfl))
noncomputable abbrev ee175_2:Nat×Lps:=(1011200,⟨L175_1011200p,L175_1011200o,L175_1011200⟩)
theorem l175_2:LpsOk gg175 (allL tb175) [ee175_2,ee175_1]:=addLoop (H:=hn) (n:=60) (live:=[1,5,10,11,12,1011200]) (b:=c175L1) (ps:=L175_1011200p) (os:=L175_1011200o) (st:=L175_1011200t) h175 wts_ok l175_1 (by kernel_rfl) (by kernel_rfl) (fun x=>match x with| .inl x=>(by kernel_rfl)| .inr (x)=>(by kernel_rfl))
noncomputable def K175:Ctr:=⟨.cons (.row (sRun)) (.cons (.i .i64) (.nil)),.cons (.row (sPlace)) (.nil),[(false,1),(false,1)],[(false,1)],[(0,true)],F175⟩
theorem k175:CtrOk Tryz.prog 175 K175:=addFun (H:=hn) (n:=60) orders td175 h175 wts_ok l175_2 rfl rfl (fun x=>by kernel_rfl)
def tb56:List (Nat×CF):=[(56,c56)]
theorem td56:Tied Tryz.prog tb56:=⟨⟨_,_,Tryz.func56,t56⟩,trivial⟩
noncomputable def ct56:List (Nat×Ctr):=[(94,K94)]
theorem h56:CtsOk Tryz.prog ct56:=⟨k94,trivial⟩
noncomputable abbrev gg56:Cfg:=cfgT Tryz.prog (look? tb56) (look? ct56) (look? wts) (([]:List (Nat×Bool)).map (·.1)) hn.kl hn.pf
theorem l56_0:LpsOk gg56 (allL tb56) []:=trivial
noncomputable abbrev ee56_1:Nat×Lps:=(1003584,⟨L56_1003584p,L56_1003584o,L56_1003584⟩)
theorem l56_1:LpsOk gg56 (allL tb56) [ee56_1]:=addLoop (H:=hn) (n:=60) (live:=[0,3,1003584]) (b:=c56L0) (ps:=L56_1003584p) (os:=L56_1003584o) (st:=L56_1003584t) h56 wts_ok l56_0 (by kernel_rfl) (by kernel_rfl) (fun x=>by kernel_rfl)
noncomputable def K56:Ctr:=⟨.cons (.row (sRun)) (.nil),.cons (.b) (.nil),[(false,1)],[(false,1)],[],F56⟩
theorem k56:CtrOk Tryz.prog 56 K56:=addFun (H:=hn) (n:=60) orders td56 h56 wts_ok l56_1 rfl rfl (fun x=>by kernel_rfl)
def tb103:List (Nat×CF):=[(103,c103),(154,c154),(155,c155)]
theorem td103:Tied Tryz.prog tb103:=⟨⟨_,_,Tryz.func103,t103⟩,⟨_,_,Tryz.func154,t154⟩,⟨_,_,Tryz.func155,t155⟩,trivial⟩
noncomputable def ct103:List (Nat×Ctr):=[(156,K156)]
theorem h103:CtsOk Tryz.prog ct103:=⟨k156,trivial⟩
noncomputable abbrev gg103:Cfg:=cfgT Tryz.prog (look? tb103) (look? ct103) (look? wts) (([]:List (Nat×Bool)).map (·.1)) hn.kl hn.pf
theorem l103_0:LpsOk gg103 (allL tb103) []:=trivial
noncomputable abbrev ee103_1:Nat×Lps:=(1009856,⟨L103_1009856p,L103_1009856o,L103_1009856⟩)
theorem l103_1:LpsOk gg103 (allL tb103) [ee103_1]:=addLoop (H:=hn) (n:=60) (live:=[1,2,15,16,17,1009856]) (b:=c154L0) (ps:=L103_1009856p) (os:=L103_1009856o) (st:=L103_1009856t) h103 wts_ok l103_0 (by kernel_rfl) (by kernel_rfl) (fun x=>by kernel_rfl)
noncomputable def K103:Ctr:=⟨.cons (sSpec) (.cons (sSpec) (.nil)),.cons (.b) (.nil),[(true,1),(true,1)],[(false,1)],[],F103⟩
theorem k103:CtrOk Tryz.prog 103 K103:=addFun (H:=hn) (n:=60) orders td103 h103 wts_ok l103_1 rfl rfl (fun x=>by kernel_rfl)
def tb183:List (Nat×CF):=[(183,c183),(223,c223),(53,c53),(93,c93)]
theorem td183:Tied Tryz.prog tb183:=⟨⟨_,_,Tryz.func183,t183⟩,⟨_,_,Tryz.func223,t223⟩,⟨_,_,Tryz.func53,t53⟩,⟨_,_,Tryz.func93,t93⟩,trivial⟩
noncomputable def ct183:List (Nat×Ctr):=[(222,K222)]
theorem h183:CtsOk Tryz.prog ct183:=⟨k222,trivial⟩
noncomputable abbrev gg183:Cfg:=cfgT Tryz.prog (look? tb183) (look? ct183) (look? wts) (([]:List (Nat×Bool)).map (·.1)) hn.kl hn.pf
theorem l183_0:LpsOk gg183 (allL tb183) []:=trivial
noncomputable abbrev ee183_1:Nat×Lps:=(1005952,⟨L183_1005952p,L183_1005952o,L183_1005952⟩)
theorem l183_1:LpsOk gg183 (allL tb183) [ee183_1]:=addLoop (H:=hn) (n:=60) (live:=[0,1,7,8,1005952]) (b:=c93L0) (ps:=L183_1005952p) (os:=L183_1005952o) (st:=L183_1005952t) h183 wts_ok l183_0 (by kernel_rfl) (by kernel_rfl) (fun x=>by kernel_rfl)
noncomputable def K183:Ctr:=⟨.cons (sRun) (.cons (.row (.i .u8)) (.nil)),.cons (.b) (.nil),[(true,5),(false,1)],[(false,1)],[],F183⟩
theorem k183:CtrOk Tryz.prog 183 K183:=addFun (H:=hn) (n:=60) orders td183 h183 wts_ok l183_1 rfl rfl (fun x=>by kernel_rfl)
def tb206:List (Nat×CF):=[(206,c206)]
theorem td206:Tied Tryz.prog tb206:=⟨⟨_,_,Tryz.func206,t206⟩,trivial⟩
noncomputable def ct206:List (Nat×Ctr):=[(235,K235)]
theorem h206:CtsOk Tryz.prog ct206:=⟨k235,trivial⟩
noncomputable abbrev gg206:Cfg:=cfgT Tryz.prog (look? tb206) (look? ct206) (look? wts) (([]:List (Nat×Bool)).map (·.1)) hn.kl hn.pf
theorem l206_0:LpsOk gg206 (allL tb206) []:=trivial
noncomputable def K206:Ctr:=⟨.cons (sNode) (.cons (sTask) (.cons (.b) (.cons (.i .u8) (.nil)))),.cons (.i .i64) (.nil),[(true,3),(true,5),(false,1),(false,1)],[(false,1)],[],F206⟩
theorem k206:CtrOk Tryz.prog 206 K206:=addFun (H:=hn) (n:=60) orders td206 h206 wts_ok l206_0 rfl rfl (fun x=>by kernel_rfl)
def tb167:List (Nat×CF):=[(167,c167)]
theorem td167:Tied Tryz.prog tb167:=⟨⟨_,_,Tryz.func167,t167⟩,trivial⟩
noncomputable def ct167:List (Nat×Ctr):=[(207,K207),(208,K208),(206,K206)]
theorem h167:CtsOk Tryz.prog ct167:=⟨k207,k208,k206,trivial⟩
noncomputable abbrev gg167:Cfg:=cfgT Tryz.prog (look? tb167) (look? ct167) (look? wts) (([]:List (Nat×Bool)).map (·.1)) hn.kl hn.pf
theorem l167_0:LpsOk gg167 (allL tb167) []:=trivial
noncomputable def K167:Ctr:=⟨.cons (sNode) (.cons (sTask) (.cons (.i .i64) (.cons (.i .i64) (.nil)))),.cons (sTask) (.cons (.i .i64) (.nil)),[(true,3),(true,5),(false,1),(false,1)],[(true,5),(false,1)],[],F167⟩
theorem k167:CtrOk Tryz.prog 167 K167:=addFun (H:=hn) (n:=60) orders td167 h167 wts_ok l167_0 rfl rfl (fun x=>by kernel_rfl)
def tb209:List (Nat×CF):=[(209,c209)]
theorem td209:Tied Tryz.prog tb209:=⟨⟨_,_,Tryz.func209,t209⟩,trivial⟩
noncomputable def ct209:List (Nat×Ctr):=[(207,K207),(206,K206)]
theorem h209:CtsOk Tryz.prog ct209:=⟨k207,k206,trivial⟩
noncomputable abbrev gg209:Cfg:=cfgT Tryz.prog (look? tb209) (look? ct209) (look? wts) (([]:List (Nat×Bool)).map (·.1)) hn.kl hn.pf
theorem l209_0:LpsOk gg209 (allL tb209) []:=trivial
noncomputable def K209:Ctr:=⟨.cons (sNode) (.cons (sTask) (.cons (.b) (.cons (.i .i64) (.nil)))),.cons (.i .i64) (.nil),[(true,3),(true,5),(false,1),(false,1)],[(false,1)],[],F209⟩
theorem k209:CtrOk Tryz.prog 209 K209:=addFun (H:=hn) (n:=60) orders td209 h209 wts_ok l209_0 rfl rfl (fun x=>by kernel_rfl)
def tb171:List (Nat×CF):=[(171,c171)]
theorem td171:Tied Tryz.prog tb171:=⟨⟨_,_,Tryz.func171,t171⟩,trivial⟩
noncomputable def ct171:List (Nat×Ctr):=[(208,K208),(209,K209),(210,K210)]
theorem h171:CtsOk Tryz.prog ct171:=⟨k208,k209,k210,trivial⟩
noncomputable abbrev gg171:Cfg:=cfgT Tryz.prog (look? tb171) (look? ct171) (look? wts) (([]:List (Nat×Bool)).map (·.1)) hn.kl hn.pf
theorem l171_0:LpsOk gg171 (allL tb171) []:=trivial
noncomputable def K171:Ctr:=⟨.cons (sNode) (.cons (sTask) (.cons (.i .i64) (.cons (.i .i64) (.nil)))),.cons (sTask) (.cons (.i .i64) (.nil)),[(true,3),(true,5),(false,1),(false,1)],[(true,5),(false,1)],[],F171⟩
theorem k171:CtrOk Tryz.prog 171 K171:=addFun (H:=hn) (n:=60) orders td171 h171 wts_ok l171_0 rfl rfl (fun x=>by kernel_rfl)
def tb173:List (Nat×CF):=[(173,c173)]
theorem td173:Tied Tryz.prog tb173:=⟨⟨_,_,Tryz.func173,t173⟩,trivial⟩
noncomputable def ct173:List (Nat×Ctr):=[(208,K208),(209,K209)]
theorem h173:CtsOk Tryz.prog ct173:=⟨k208,k209,trivial⟩
noncomputable abbrev gg173:Cfg:=cfgT Tryz.prog (look? tb173) (look? ct173) (look? wts) (([]:List (Nat×Bool)).map (·.1)) hn.kl hn.pf
theorem l173_0:LpsOk gg173 (allL tb173) []:=trivial
noncomputable def K173:Ctr:=⟨.cons (sNode) (.cons (sTask) (.cons (.i .i64) (.cons (.i .i64) (.nil)))),.cons (sTask) (.cons (.i .i64) (.nil)),[(true,3),(true,5),(false,1),(false,1)],[(true,5),(false,1)],[],F173⟩
theorem k173:CtrOk Tryz.prog 173 K173:=addFun (H:=hn) (n:=60) orders td173 h173 wts_ok l173_0 rfl rfl (fun x=>by kernel_rfl)
def tb216:List (Nat×CF):=[(216,c216)]
theorem td216:Tied Tryz.prog tb216:=⟨⟨_,_,Tryz.func216,t216⟩,trivial⟩
noncomputable def ct216:List (Nat×Ctr):=[(207,K207),(208,K208),(206,K206),(176,K176)]
theorem h216:CtsOk Tryz.prog ct216:=⟨k207,k208,k206,k176,trivial⟩
noncomputable abbrev gg216:Cfg:=cfgT Tryz.prog (look? tb216) (look? ct216) (look? wts) (([]:List (Nat×Bool)).map (·.1)) hn.kl hn.pf
theorem l216_0:LpsOk gg216 (allL tb216) []:=trivial
noncomputable def K216:Ctr:=⟨.cons (sNode) (.cons (sTask) (.cons (.i .i64) (.cons (.i .i64) (.nil)))),.cons (sTask) (.cons (.i .i64) (.nil)),[(true,3),(true,5),(false,1),(false,1)],[(true,5),(false,1)],[],F216⟩
theorem k216:CtrOk Tryz.prog 216 K216:=addFun (H:=hn) (n:=60) orders td216 h216 wts_ok l216_0 rfl rfl (fun x=>by kernel_rfl)
def tb218:List (Nat×CF):=[(218,c218)]
theorem td218:Tied Tryz.prog tb218:=⟨⟨_,_,Tryz.func218,t218⟩,trivial⟩
noncomputable def ct218:List (Nat×Ctr):=[(208,K208),(206,K206),(176,K176),(210,K210)]
theorem h218:CtsOk Tryz.prog ct218:=⟨k208,k206,k176,k210,trivial⟩
noncomputable abbrev gg218:Cfg:=cfgT Tryz.prog (look? tb218) (look? ct218) (look? wts) (([]:List (Nat×Bool)).map (·.1)) hn.kl hn.pf
theorem l218_0:LpsOk gg218 (allL tb218) []:=trivial
noncomputable def K218:Ctr:=⟨.cons (sNode) (.cons (sTask) (.cons (.i .i64) (.nil))),.cons (sTask) (.cons (.i .i64) (.nil)),[(true,3),(true,5),(false,1)],[(true,5),(false,1)],[],F218⟩
theorem k218:CtrOk Tryz.prog 218 K218:=addFun (H:=hn) (n:=60) orders td218 h218 wts_ok l218_0 rfl rfl (fun x=>by kernel_rfl)
def tb21:List (Nat×CF):=[(21,c21)]
theorem td21:Tied Tryz.prog tb21:=⟨⟨_,_,Tryz.func21,t21⟩,trivial⟩
noncomputable def ct21:List (Nat×Ctr):=[(56,K56)]
theorem h21:CtsOk Tryz.prog ct21:=⟨k56,trivial⟩
noncomputable abbrev gg21:Cfg:=cfgT Tryz.prog (look? tb21) (look? ct21) (look? wts) (([]:List (Nat×Bool)).map (·.1)) hn.kl hn.pf
theorem l21_0:LpsOk gg21 (allL tb21) []:=trivial
noncomputable def K21:Ctr:=⟨sengine,.cons (.b) (.nil),[(true,8)],[(false,1)],[],F21⟩
theorem k21:CtrOk Tryz.prog 21 K21:=addFun (H:=hn) (n:=60) orders td21 h21 wts_ok l21_0 rfl rfl (fun x=>by kernel_rfl)
def tb64:List (Nat×CF):=[(64,c64)]
theorem td64:Tied Tryz.prog tb64:=⟨⟨_,_,Tryz.func64,t64⟩,trivial⟩
noncomputable def ct64:List (Nat×Ctr):=[(103,K103),(104,K104)]
theorem h64:CtsOk Tryz.prog ct64:=⟨k103,k104,trivial⟩
noncomputable abbrev gg64:Cfg:=cfgT Tryz.prog (look? tb64) (look? ct64) (look? wts) (([]:List (Nat×Bool)).map (·.1)) hn.kl hn.pf
theorem l64_0:LpsOk gg64 (allL tb64) []:=trivial
noncomputable def K64:Ctr:=⟨.cons (sRun) (.cons (sRun) (.nil)),.cons (.b) (.nil),[(true,5),(true,5)],[(false,1)],[],F64⟩
theorem k64:CtrOk Tryz.prog 64 K64:=addFun (H:=hn) (n:=60) orders td64 h64 wts_ok l64_0 rfl rfl (fun x=>by kernel_rfl)
def tb29:List (Nat×CF):=[(29,c29)]
theorem td29:Tied Tryz.prog tb29:=⟨⟨_,_,Tryz.func29,t29⟩,trivial⟩
noncomputable def ct29:List (Nat×Ctr):=[(64,K64),(65,K65)]
theorem h29:CtsOk Tryz.prog ct29:=⟨k64,k65,trivial⟩
noncomputable abbrev gg29:Cfg:=cfgT Tryz.prog (look? tb29) (look? ct29) (look? wts) (([]:List (Nat×Bool)).map (·.1)) hn.kl hn.pf
theorem l29_0:LpsOk gg29 (allL tb29) []:=trivial
noncomputable def K29:Ctr:=⟨.cons (sReply) (.cons (sReply) (.nil)),.cons (.b) (.nil),[(true,10),(true,10)],[(false,1)],[],F29⟩
theorem k29:CtrOk Tryz.prog 29 K29:=addFun (H:=hn) (n:=60) orders td29 h29 wts_ok l29_0 rfl rfl (fun x=>by kernel_rfl)
def tb182:List (Nat×CF):=[(182,c182),(221,c221),(53,c53),(93,c93)]
theorem td182:Tied Tryz.prog tb182:=⟨⟨_,_,Tryz.func182,t182⟩,⟨_,_,Tryz.func221,t221⟩,⟨_,_,Tryz.func53,t53⟩,⟨_,_,Tryz.func93,t93⟩,trivial⟩
noncomputable def ct182:List (Nat×Ctr):=[(222,K222)]
theorem h182:CtsOk Tryz.prog ct182:=⟨k222,trivial⟩
noncomputable abbrev gg182:Cfg:=cfgT Tryz.prog (look? tb182) (look? ct182) (look? wts) (([]:List (Nat×Bool)).map (·.1)) hn.kl hn.pf
theorem l182_0:LpsOk gg182 (allL tb182) []:=trivial
noncomputable abbrev ee182_1:Nat×Lps:=(1005952,⟨L182_1005952p,L182_1005952o,L182_1005952⟩)
theorem l182_1:LpsOk gg182 (allL tb182) [ee182_1]:=addLoop (H:=hn) (n:=60) (live:=[0,1,7,8,1005952]) (b:=c93L0) (ps:=L182_1005952p) (os:=L182_1005952o) (st:=L182_1005952t) h182 wts_ok l182_0 (by kernel_rfl) (by kernel_rfl) (fun x=>by kernel_rfl)
noncomputable def K182:Ctr:=⟨.cons (sRun) (.cons (.row (.i .u8)) (.nil)),.cons (.b) (.nil),[(true,5),(false,1)],[(false,1)],[],F182⟩
theorem k182:CtrOk Tryz.prog 182 K182:=addFun (H:=hn) (n:=60) orders td182 h182 wts_ok l182_1 rfl rfl (fun x=>by kernel_rfl)
def tb202:List (Nat×CF):=[(202,c202)]
theorem td202:Tied Tryz.prog tb202:=⟨⟨_,_,Tryz.func202,t202⟩,trivial⟩
noncomputable def ct202:List (Nat×Ctr):=[(207,K207),(206,K206)]
theorem h202:CtsOk Tryz.prog ct202:=⟨k207,k206,trivial⟩
noncomputable abbrev gg202:Cfg:=cfgT Tryz.prog (look? tb202) (look? ct202) (look? wts) (([]:List (Nat×Bool)).map (·.1)) hn.kl hn.pf
theorem l202_0:LpsOk gg202 (allL tb202) []:=trivial
noncomputable def K202:Ctr:=⟨.cons (sNode) (.cons (sTask) (.cons (.i .i64) (.nil))),.cons (sTask) (.cons (.i .i64) (.nil)),[(true,3),(true,5),(false,1)],[(true,5),(false,1)],[],F202⟩
theorem k202:CtrOk Tryz.prog 202 K202:=addFun (H:=hn) (n:=60) orders td202 h202 wts_ok l202_0 rfl rfl (fun x=>by kernel_rfl)
def tb169:List (Nat×CF):=[(169,c169)]
theorem td169:Tied Tryz.prog tb169:=⟨⟨_,_,Tryz.func169,t169⟩,trivial⟩
noncomputable def ct169:List (Nat×Ctr):=[(209,K209)]
theorem h169:CtsOk Tryz.prog ct169:=⟨k209,trivial⟩
noncomputable abbrev gg169:Cfg:=cfgT Tryz.prog (look? tb169) (look? ct169) (look? wts) (([]:List (Nat×Bool)).map (·.1)) hn.kl hn.pf
theorem l169_0:LpsOk gg169 (allL tb169) []:=trivial
noncomputable def K169:Ctr:=⟨.cons (sNode) (.cons (sTask) (.cons (.i .i64) (.nil))),.cons (sTask) (.cons (.i .i64) (.nil)),[(true,3),(true,5),(false,1)],[(true,5),(false,1)],[],F169⟩
theorem k169:CtrOk Tryz.prog 169 K169:=addFun (H:=hn) (n:=60) orders td169 h169 wts_ok l169_0 rfl rfl (fun x=>by kernel_rfl)
def tb26:List (Nat×CF):=[(26,c26),(63,c63)]
theorem td26:Tied Tryz.prog tb26:=⟨⟨_,_,Tryz.func26,t26⟩,⟨_,_,Tryz.func63,t63⟩,trivial⟩
noncomputable def ct26:List (Nat×Ctr):=[(64,K64),(65,K65)]
theorem h26:CtsOk Tryz.prog ct26:=⟨k64,k65,trivial⟩
noncomputable abbrev gg26:Cfg:=cfgT Tryz.prog (look? tb26) (look? ct26) (look? wts) (([]:List (Nat×Bool)).map (·.1)) hn.kl hn.pf
theorem l26_0:LpsOk gg26 (allL tb26) []:=trivial
noncomputable abbrev ee26_1:Nat×Lps:=(1004032,⟨L26_1004032p,L26_1004032o,L26_1004032⟩)
theorem l26_1:LpsOk gg26 (allL tb26) [ee26_1]:=addLoop (H:=hn) (n:=60) (live:=[1,2,15,16,17,1004032]) (b:=c63L0) (ps:=L26_1004032p) (os:=L26_1004032o) (st:=L26_1004032t) h26 wts_ok l26_0 (by kernel_rfl) (by kernel_rfl) (fun x=>by kernel_rfl)
noncomputable def K26:Ctr:=⟨.cons (sState) (sengine),.cons (.b) (.nil),[(true,8),(true,8)],[(false,1)],[],F26⟩
theorem k26:CtrOk Tryz.prog 26 K26:=addFun (H:=hn) (n:=60) orders td26 h26 wts_ok l26_1 rfl rfl (fun x=>by kernel_rfl)
def tb131:List (Nat×CF):=[(131,c131)]
theorem td131:Tied Tryz.prog tb131:=⟨⟨_,_,Tryz.func131,t131⟩,trivial⟩
noncomputable def ct131:List (Nat×Ctr):=[(181,K181),(182,K182),(183,K183)]
theorem h131:CtsOk Tryz.prog ct131:=⟨k181,k182,k183,trivial⟩
noncomputable abbrev gg131:Cfg:=cfgT Tryz.prog (look? tb131) (look? ct131) (look? wts) (([]:List (Nat×Bool)).map (·.1)) hn.kl hn.pf
theorem l131_0:LpsOk gg131 (allL tb131) []:=trivial
noncomputable abbrev ee131_1:Nat×Lps:=(1008384,⟨L131_1008384p,L131_1008384o,L131_1008384⟩)
theorem l131_1:LpsOk gg131 (allL tb131) [ee131_1]:=addLoop (H:=hn) (n:=60) (live:=[1,11,12,13,1008384]) (b:=c131L0) (ps:=L131_1008384p) (os:=L131_1008384o) (st:=L131_1008384t) h131 wts_ok l131_0 (by kernel_rfl) (by kernel_rfl) (fun x=>by kernel_rfl)
noncomputable def K131:Ctr:=⟨.cons (sRun) (.nil),.cons (.b) (.nil),[(true,5)],[(false,1)],[],F131⟩
theorem k131:CtrOk Tryz.prog 131 K131:=addFun (H:=hn) (n:=60) orders td131 h131 wts_ok l131_1 rfl rfl (fun x=>by kernel_rfl)
def tb89:List (Nat×CF):=[(89,c89)]
theorem td89:Tied Tryz.prog tb89:=⟨⟨_,_,Tryz.func89,t89⟩,trivial⟩
noncomputable def ct89:List (Nat×Ctr):=[(114,K114),(130,K130),(131,K131)]
theorem h89:CtsOk Tryz.prog ct89:=⟨k114,k130,k131,trivial⟩
noncomputable abbrev gg89:Cfg:=cfgT Tryz.prog (look? tb89) (look? ct89) (look? wts) (([]:List (Nat×Bool)).map (·.1)) hn.kl hn.pf
theorem l89_0:LpsOk gg89 (allL tb89) []:=trivial
noncomputable abbrev ee89_1:Nat×Lps:=(1005696,⟨L89_1005696p,L89_1005696o,L89_1005696⟩)
theorem l89_1:LpsOk gg89 (allL tb89) [ee89_1]:=addLoop (H:=hn) (n:=60) (live:=[1,43,44,45,1005696]) (b:=c89L0) (ps:=L89_1005696p) (os:=L89_1005696o) (st:=L89_1005696t) h89 wts_ok l89_0 (by kernel_rfl) (by kernel_rfl) (fun x=>by kernel_rfl)
noncomputable def K89:Ctr:=⟨.cons (sRun) (.nil),.cons (.i .i64) (.nil),[(true,5)],[(false,1)],[],F89⟩
theorem k89:CtrOk Tryz.prog 89 K89:=addFun (H:=hn) (n:=60) orders td89 h89 wts_ok l89_1 rfl rfl (fun x=>by kernel_rfl)
def tb116:List (Nat×CF):=[(116,c116),(163,c163)]
theorem td116:Tied Tryz.prog tb116:=⟨⟨_,_,Tryz.func116,t116⟩,⟨_,_,Tryz.func163,t163⟩,trivial⟩
noncomputable def ct116:List (Nat×Ctr):=[(114,K114),(162,K162),(62,K62),(181,K181),(202,K202)]
theorem h116:CtsOk Tryz.prog ct116:=⟨k114,k162,k62,k181,k202,trivial⟩
noncomputable abbrev gg116:Cfg:=cfgT Tryz.prog (look? tb116) (look? ct116) (look? wts) (([]:List (Nat×Bool)).map (·.1)) hn.kl hn.pf
theorem l116_0:LpsOk gg116 (allL tb116) []:=trivial
noncomputable abbrev ee116_1:Nat×Lps:=(1010432,⟨L116_1010432p,L116_1010432o,L116_1010432⟩)
theorem l116_1:LpsOk gg116 (allL tb116) [ee116_1]:=addLoop (H:=hn) (n:=60) (live:=[1,2,9,10,11,1010432]) (b:=c163L0) (ps:=L116_1010432p) (os:=L116_1010432o) (st:=L116_1010432t) h116 wts_ok l116_0 (by kernel_rfl) (by kernel_rfl) (fun x=>by kernel_rfl)
noncomputable def K116:Ctr:=⟨.cons (.i .i64) (.cons (.s) (.cons (sSpec) (.cons (.i .i64) (.nil)))),.cons (sRun) (.cons (.i .i64) (.cons (.i .i64) (.nil))),[(false,1),(false,1),(true,1),(false,1)],[(true,5),(false,1),(false,1)],[],F116⟩
theorem k116:CtrOk Tryz.prog 116 K116:=addFun (H:=hn) (n:=60) orders td116 h116 wts_ok l116_1 rfl rfl (fun x=>by kernel_rfl)
def tb123:List (Nat×CF):=[(123,c123),(168,c168),(165,c165),(174,c174),(163,c163)]
theorem td123:Tied Tryz.prog tb123:=⟨⟨_,_,Tryz.func123,t123⟩,⟨_,_,Tryz.func168,t168⟩,⟨_,_,Tryz.func165,t165⟩,⟨_,_,Tryz.func174,t174⟩,⟨_,_,Tryz.func163,t163⟩,trivial⟩
noncomputable def ct123:List (Nat×Ctr):=[(162,K162),(169,K169),(89,K89),(62,K62),(182,K182),(211,K211),(181,K181),(202,K202)]
theorem h123:CtsOk Tryz.prog ct123:=⟨k162,k169,k89,k62,k182,k211,k181,k202,trivial⟩
noncomputable abbrev gg123:Cfg:=cfgT Tryz.prog (look? tb123) (look? ct123) (look? wts) (([]:List (Nat×Bool)).map (·.1)) hn.kl hn.pf
theorem l123_0:LpsOk gg123 (allL tb123) []:=trivial
noncomputable abbrev ee123_1:Nat×Lps:=(1010432,⟨L123_1010432p,L123_1010432o,L123_1010432⟩)
theorem l123_1:LpsOk gg123 (allL tb123) [ee123_1]:=addLoop (H:=hn) (n:=60) (live:=[1,2,9,10,11,1010432]) (b:=c163L0) (ps:=L123_1010432p) (os:=L123_1010432o) (st:=L123_1010432t) h123 wts_ok l123_0 (by kernel_rfl) (by kernel_rfl) (fun x=>by kernel_rfl)
noncomputable abbrev ee123_2:Nat×Lps:=(1011136,⟨L123_1011136p,L123_1011136o,L123_1011136⟩)
theorem l123_2:LpsOk gg123 (allL tb123) [ee123_2,ee123_1]:=addLoop (H:=hn) (n:=60) (live:=[1,8,9,10,1011136]) (b:=c174L0) (ps:=L123_1011136p) (os:=L123_1011136o) (st:=L123_1011136t) h123 wts_ok l123_1 (by kernel_rfl) (by kernel_rfl) (fun x=>by kernel_rfl)
noncomputable def K123:Ctr:=⟨.cons (sRun) (sPlace),.cons (sRun) (.cons (.i .i64) (.cons (.i .i64) (.nil))),[(true,5),(false,1),(false,1),(false,1)],[(true,5),(false,1),(false,1)],[],F123⟩
theorem k123:CtrOk Tryz.prog 123 K123:=addFun (H:=hn) (n:=60) orders td123 h123 wts_ok l123_2 rfl rfl (fun x=>by kernel_rfl)
def tb124:List (Nat×CF):=[(124,c124),(170,c170),(165,c165),(174,c174)]
theorem td124:Tied Tryz.prog tb124:=⟨⟨_,_,Tryz.func124,t124⟩,⟨_,_,Tryz.func170,t170⟩,⟨_,_,Tryz.func165,t165⟩,⟨_,_,Tryz.func174,t174⟩,trivial⟩
noncomputable def ct124:List (Nat×Ctr):=[(171,K171),(89,K89),(62,K62),(182,K182),(211,K211)]
theorem h124:CtsOk Tryz.prog ct124:=⟨k171,k89,k62,k182,k211,trivial⟩
noncomputable abbrev gg124:Cfg:=cfgT Tryz.prog (look? tb124) (look? ct124) (look? wts) (([]:List (Nat×Bool)).map (·.1)) hn.kl hn.pf
theorem l124_0:LpsOk gg124 (allL tb124) []:=trivial
noncomputable abbrev ee124_1:Nat×Lps:=(1011136,⟨L124_1011136p,L124_1011136o,L124_1011136⟩)
theorem l124_1:LpsOk gg124 (allL tb124) [ee124_1]:=addLoop (H:=hn) (n:=60) (live:=[1,8,9,10,1011136]) (b:=c174L0) (ps:=L124_1011136p) (os:=L124_1011136o) (st:=L124_1011136t) h124 wts_ok l124_0 (by kernel_rfl) (by kernel_rfl) (fun x=>by kernel_rfl)
noncomputable def K124:Ctr:=⟨.cons (sRun) (sPlace),.cons (sRun) (.cons (.i .i64) (.nil)),[(true,5),(false,1),(false,1),(false,1)],[(true,5),(false,1)],[],F124⟩
theorem k124:CtrOk Tryz.prog 124 K124:=addFun (H:=hn) (n:=60) orders td124 h124 wts_ok l124_1 rfl rfl (fun x=>by kernel_rfl)
def tb126:List (Nat×CF):=[(126,c126),(172,c172),(165,c165),(174,c174)]
theorem td126:Tied Tryz.prog tb126:=⟨⟨_,_,Tryz.func126,t126⟩,⟨_,_,Tryz.func172,t172⟩,⟨_,_,Tryz.func165,t165⟩,⟨_,_,Tryz.func174,t174⟩,trivial⟩
noncomputable def ct126:List (Nat×Ctr):=[(173,K173),(89,K89),(62,K62),(182,K182),(211,K211)]
theorem h126:CtsOk Tryz.prog ct126:=⟨k173,k89,k62,k182,k211,trivial⟩
noncomputable abbrev gg126:Cfg:=cfgT Tryz.prog (look? tb126) (look? ct126) (look? wts) (([]:List (Nat×Bool)).map (·.1)) hn.kl hn.pf
theorem l126_0:LpsOk gg126 (allL tb126) []:=trivial
noncomputable abbrev ee126_1:Nat×Lps:=(1011136,⟨L126_1011136p,L126_1011136o,L126_1011136⟩)
theorem l126_1:LpsOk gg126 (allL tb126) [ee126_1]:=addLoop (H:=hn) (n:=60) (live:=[1,8,9,10,1011136]) (b:=c174L0) (ps:=L126_1011136p) (os:=L126_1011136o) (st:=L126_1011136t) h126 wts_ok l126_0 (by kernel_rfl) (by kernel_rfl) (fun x=>by kernel_rfl)
noncomputable def K126:Ctr:=⟨.cons (sRun) (sPlace),.cons (sRun) (.cons (.i .i64) (.nil)),[(true,5),(false,1),(false,1),(false,1)],[(true,5),(false,1)],[],F126⟩
theorem k126:CtrOk Tryz.prog 126 K126:=addFun (H:=hn) (n:=60) orders td126 h126 wts_ok l126_1 rfl rfl (fun x=>by kernel_rfl)
def tb127:List (Nat×CF):=[(127,c127),(174,c174)]
theorem td127:Tied Tryz.prog tb127:=⟨⟨_,_,Tryz.func127,t127⟩,⟨_,_,Tryz.func174,t174⟩,trivial⟩
noncomputable def ct127:List (Nat×Ctr):=[(89,K89),(62,K62),(211,K211)]
theorem h127:CtsOk Tryz.prog ct127:=⟨k89,k62,k211,trivial⟩
noncomputable abbrev gg127:Cfg:=cfgT Tryz.prog (look? tb127) (look? ct127) (look? wts) (([]:List (Nat×Bool)).map (·.1)) hn.kl hn.pf
theorem l127_0:LpsOk gg127 (allL tb127) []:=trivial
noncomputable abbrev ee127_1:Nat×Lps:=(1011136,⟨L127_1011136p,L127_1011136o,L127_1011136⟩)
theorem l127_1:LpsOk gg127 (allL tb127) [ee127_1]:=addLoop (H:=hn) (n:=60) (live:=[1,8,9,10,1011136]) (b:=c174L0) (ps:=L127_1011136p) (os:=L127_1011136o) (st:=L127_1011136t) h127 wts_ok l127_0 (by kernel_rfl) (by kernel_rfl) (fun x=>by kernel_rfl)
noncomputable def K127:Ctr:=⟨.cons (sRun) (.nil),.cons (sRun) (.cons (.i .i64) (.nil)),[(true,5)],[(true,5),(false,1)],[],F127⟩
theorem k127:CtrOk Tryz.prog 127 K127:=addFun (H:=hn) (n:=60) orders td127 h127 wts_ok l127_1 rfl rfl (fun x=>by kernel_rfl)
def tb177:List (Nat×CF):=[(177,c177),(215,c215),(165,c165),(174,c174)]
theorem td177:Tied Tryz.prog tb177:=⟨⟨_,_,Tryz.func177,t177⟩,⟨_,_,Tryz.func215,t215⟩,⟨_,_,Tryz.func165,t165⟩,⟨_,_,Tryz.func174,t174⟩,trivial⟩
noncomputable def ct177:List (Nat×Ctr):=[(216,K216),(89,K89),(62,K62),(182,K182),(211,K211)]
theorem h177:CtsOk Tryz.prog ct177:=⟨k216,k89,k62,k182,k211,trivial⟩
noncomputable abbrev gg177:Cfg:=cfgT Tryz.prog (look? tb177) (look? ct177) (look? wts) (([]:List (Nat×Bool)).map (·.1)) hn.kl hn.pf
theorem l177_0:LpsOk gg177 (allL tb177) []:=trivial
noncomputable abbrev ee177_1:Nat×Lps:=(1011136,⟨L177_1011136p,L177_1011136o,L177_1011136⟩)
theorem l177_1:LpsOk gg177 (allL tb177) [ee177_1]:=addLoop (H:=hn) (n:=60) (live:=[1,8,9,10,1011136]) (b:=c174L0) (ps:=L177_1011136p) (os:=L177_1011136o) (st:=L177_1011136t) h177 wts_ok l177_0 (by kernel_rfl) (by kernel_rfl) (fun x=>by kernel_rfl)
noncomputable def K177:Ctr:=⟨.cons (sRun) (sPlace),.cons (sRun) (.cons (.i .i64) (.nil)),[(true,5),(false,1),(false,1),(false,1)],[(true,5),(false,1)],[],F177⟩
theorem k177:CtrOk Tryz.prog 177 K177:=addFun (H:=hn) (n:=60) orders td177 h177 wts_ok l177_1 rfl rfl (fun x=>by kernel_rfl)
def tb178:List (Nat×CF):=[(178,c178),(217,c217),(165,c165),(174,c174)]
theorem td178:Tied Tryz.prog tb178:=⟨⟨_,_,Tryz.func178,t178⟩,⟨_,_,Tryz.func217,t217⟩,⟨_,_,Tryz.func165,t165⟩,⟨_,_,Tryz.func174,t174⟩,trivial⟩
noncomputable def ct178:List (Nat×Ctr):=[(218,K218),(89,K89),(62,K62),(182,K182),(211,K211)]
theorem h178:CtsOk Tryz.prog ct178:=⟨k218,k89,k62,k182,k211,trivial⟩
noncomputable abbrev gg178:Cfg:=cfgT Tryz.prog (look? tb178) (look? ct178) (look? wts) (([]:List (Nat×Bool)).map (·.1)) hn.kl hn.pf
theorem l178_0:LpsOk gg178 (allL tb178) []:=trivial
noncomputable abbrev ee178_1:Nat×Lps:=(1011136,⟨L178_1011136p,L178_1011136o,L178_1011136⟩)
theorem l178_1:LpsOk gg178 (allL tb178) [ee178_1]:=addLoop (H:=hn) (n:=60) (live:=[1,8,9,10,1011136]) (b:=c174L0) (ps:=L178_1011136p) (os:=L178_1011136o) (st:=L178_1011136t) h178 wts_ok l178_0 (by kernel_rfl) (by kernel_rfl) (fun x=>by kernel_rfl)
noncomputable def K178:Ctr:=⟨.cons (sRun) (.cons (.i .i64) (.cons (.i .i64) (.nil))),.cons (sRun) (.cons (.i .i64) (.nil)),[(true,5),(false,1),(false,1)],[(true,5),(false,1)],[],F178⟩
theorem k178:CtrOk Tryz.prog 178 K178:=addFun (H:=hn) (n:=60) orders td178 h178 wts_ok l178_1 rfl rfl (fun x=>by kernel_rfl)
def tb51:List (Nat×CF):=[(51,c51),(91,c91),(90,c90),(132,c132),(92,c92)]
theorem td51:Tied Tryz.prog tb51:=⟨⟨_,_,Tryz.func51,t51⟩,⟨_,_,Tryz.func91,t91⟩,⟨_,_,Tryz.func90,t90⟩,⟨_,_,Tryz.func132,t132⟩,⟨_,_,Tryz.func92,t92⟩,trivial⟩
noncomputable def ct51:List (Nat×Ctr):=[(89,K89)]
theorem h51:CtsOk Tryz.prog ct51:=⟨k89,trivial⟩
noncomputable abbrev gg51:Cfg:=cfgT Tryz.prog (look? tb51) (look? ct51) (look? wts) (([]:List (Nat×Bool)).map (·.1)) hn.kl hn.pf
theorem l51_0:LpsOk gg51 (allL tb51) []:=trivial
noncomputable abbrev ee51_1:Nat×Lps:=(1003265,⟨L51_1003265p,L51_1003265o,L51_1003265⟩)
theorem l51_1:LpsOk gg51 (allL tb51) [ee51_1]:=addLoop (H:=hn) (n:=60) (live:=[0,3,4,14,15,16,47,48,49,1003265]) (b:=c51L0) (ps:=L51_1003265p) (os:=L51_1003265o) (st:=L51_1003265t) h51 wts_ok l51_0 (by kernel_rfl) (by kernel_rfl) (fun x=>by kernel_rfl)
noncomputable abbrev ee51_2:Nat×Lps:=(1008448,⟨L51_1008448p,L51_1008448o,L51_1008448⟩)
theorem l51_2:LpsOk gg51 (allL tb51) [ee51_2,ee51_1]:=addLoop (H:=hn) (n:=60) (live:=[0,1,7,8,1008448]) (b:=c132L0) (ps:=L51_1008448p) (os:=L51_1008448o) (st:=L51_1008448t) h51 wts_ok l51_1 (by kernel_rfl) (by kernel_rfl) (fun x=>by kernel_rfl)
noncomputable abbrev ee51_3:Nat×Lps:=(1003264,⟨L51_1003264p,L51_1003264o,L51_1003264⟩)
theorem l51_3:LpsOk gg51 (allL tb51) [ee51_3,ee51_2,ee51_1]:=addLoop (H:=hn) (n:=60) (live:=[0,3,4,14,15,16,1003264]) (b:=c51L1) (ps:=L51_1003264p) (os:=L51_1003264o) (st:=L51_1003264t) h51 wts_ok l51_2 (by kernel_rfl) (by kernel_rfl) (fun x=>by kernel_rfl)
noncomputable def K51:Ctr:=⟨.cons (.row (sRun)) (.nil),.cons (.i .i64) (.nil),[(false,1)],[(false,1)],[],F51⟩
theorem k51:CtrOk Tryz.prog 51 K51:=addFun (H:=hn) (n:=60) orders td51 h51 wts_ok l51_3 rfl rfl (fun x=>by kernel_rfl)
def tb115:List (Nat×CF):=[(115,c115)]
theorem td115:Tied Tryz.prog tb115:=⟨⟨_,_,Tryz.func115,t115⟩,trivial⟩
noncomputable def ct115:List (Nat×Ctr):=[(51,K51)]
theorem h115:CtsOk Tryz.prog ct115:=⟨k51,trivial⟩
noncomputable abbrev gg115:Cfg:=cfgT Tryz.prog (look? tb115) (look? ct115) (look? wts) (([]:List (Nat×Bool)).map (·.1)) hn.kl hn.pf
theorem l115_0:LpsOk gg115 (allL tb115) []:=trivial
noncomputable abbrev ee115_1:Nat×Lps:=(1007360,⟨L115_1007360p,L115_1007360o,L115_1007360⟩)
theorem l115_1:LpsOk gg115 (allL tb115) [ee115_1]:=addLoop (H:=hn) (n:=60) (live:=[1,15,16,17,1007360]) (b:=c115L0) (ps:=L115_1007360p) (os:=L115_1007360o) (st:=L115_1007360t) h115 wts_ok l115_0 (by kernel_rfl) (by kernel_rfl) (fun x=>by kernel_rfl)
noncomputable def K115:Ctr:=⟨.cons (.row (sRun)) (.cons (.s) (.nil)),.cons (.i .i64) (.cons (.b) (.cons (.i .i64) (.nil))),[(false,1),(false,1)],[(false,1),(false,1),(false,1)],[],F115⟩
theorem k115:CtrOk Tryz.prog 115 K115:=addFun (H:=hn) (n:=60) orders td115 h115 wts_ok l115_1 rfl rfl (fun x=>by kernel_rfl)
def tb119:List (Nat×CF):=[(119,c119)]
theorem td119:Tied Tryz.prog tb119:=⟨⟨_,_,Tryz.func119,t119⟩,trivial⟩
noncomputable def ct119:List (Nat×Ctr):=[(51,K51)]
theorem h119:CtsOk Tryz.prog ct119:=⟨k51,trivial⟩
noncomputable abbrev gg119:Cfg:=cfgT Tryz.prog (look? tb119) (look? ct119) (look? wts) (([]:List (Nat×Bool)).map (·.1)) hn.kl hn.pf
theorem l119_0:LpsOk gg119 (allL tb119) []:=trivial
noncomputable abbrev ee119_1:Nat×Lps:=(1007617,⟨L119_1007617p,L119_1007617o,L119_1007617⟩)
theorem l119_1:LpsOk gg119 (allL tb119) [ee119_1]:=addLoop (H:=hn) (n:=60) (live:=[2,6,7,8,10,19,20,21,26,27,28,1007617]) (b:=c119L0) (ps:=L119_1007617p) (os:=L119_1007617o) (st:=L119_1007617t) h119 wts_ok l119_0 (by kernel_rfl) (by kernel_rfl) (fun x=>by kernel_rfl)
noncomputable abbrev ee119_2:Nat×Lps:=(1007616,⟨L119_1007616p,L119_1007616o,L119_1007616⟩)
theorem l119_2:LpsOk gg119 (allL tb119) [ee119_2,ee119_1]:=addLoop (H:=hn) (n:=60) (live:=[2,6,7,8,19,20,21,1007616]) (b:=c119L1) (ps:=L119_1007616p) (os:=L119_1007616o) (st:=L119_1007616t) h119 wts_ok l119_1 (by kernel_rfl) (by kernel_rfl) (fun x=>by kernel_rfl)
noncomputable def K119:Ctr:=⟨.cons (.row (sRun)) (.nil),.cons (sPlace) (.cons (.b) (.cons (.i .i64) (.nil))),[(false,1)],[(true,3),(false,1),(false,1)],[],F119⟩
theorem k119:CtrOk Tryz.prog 119 K119:=addFun (H:=hn) (n:=60) orders td119 h119 wts_ok l119_2 rfl rfl (fun x=>by kernel_rfl)
def tb164:List (Nat×CF):=[(164,c164),(203,c203),(204,c204)]
theorem td164:Tied Tryz.prog tb164:=⟨⟨_,_,Tryz.func164,t164⟩,⟨_,_,Tryz.func203,t203⟩,⟨_,_,Tryz.func204,t204⟩,trivial⟩
noncomputable def ct164:List (Nat×Ctr):=[(51,K51),(205,K205)]
theorem h164:CtsOk Tryz.prog ct164:=⟨k51,k205,trivial⟩
noncomputable abbrev gg164:Cfg:=cfgT Tryz.prog (look? tb164) (look? ct164) (look? wts) (([]:List (Nat×Bool)).map (·.1)) hn.kl hn.pf
theorem l164_0:LpsOk gg164 (allL tb164) []:=trivial
noncomputable abbrev ee164_1:Nat×Lps:=(1012992,⟨L164_1012992p,L164_1012992o,L164_1012992⟩)
theorem l164_1:LpsOk gg164 (allL tb164) [ee164_1]:=addLoop (H:=hn) (n:=60) (live:=[0,1,2,8,9,10,1012992]) (b:=c203L0) (ps:=L164_1012992p) (os:=L164_1012992o) (st:=L164_1012992t) h164 wts_ok l164_0 (by kernel_rfl) (by kernel_rfl) (fun x=>by kernel_rfl)
noncomputable def K164:Ctr:=⟨.cons (.row (sRun)) (.cons (.i .i64) (.nil)),.cons (.i .i64) (.cons (.b) (.cons (.i .i64) (.nil))),[(false,1),(false,1)],[(false,1),(false,1),(false,1)],[],F164⟩
theorem k164:CtrOk Tryz.prog 164 K164:=addFun (H:=hn) (n:=60) orders td164 h164 wts_ok l164_1 rfl rfl (fun x=>by kernel_rfl)
def tb121:List (Nat×CF):=[(121,c121),(166,c166),(165,c165),(174,c174)]
theorem td121:Tied Tryz.prog tb121:=⟨⟨_,_,Tryz.func121,t121⟩,⟨_,_,Tryz.func166,t166⟩,⟨_,_,Tryz.func165,t165⟩,⟨_,_,Tryz.func174,t174⟩,trivial⟩
noncomputable def ct121:List (Nat×Ctr):=[(167,K167),(89,K89),(62,K62),(182,K182),(211,K211)]
theorem h121:CtsOk Tryz.prog ct121:=⟨k167,k89,k62,k182,k211,trivial⟩
noncomputable abbrev gg121:Cfg:=cfgT Tryz.prog (look? tb121) (look? ct121) (look? wts) (([]:List (Nat×Bool)).map (·.1)) hn.kl hn.pf
theorem l121_0:LpsOk gg121 (allL tb121) []:=trivial
noncomputable abbrev ee121_1:Nat×Lps:=(1011136,⟨L121_1011136p,L121_1011136o,L121_1011136⟩)
theorem l121_1:LpsOk gg121 (allL tb121) [ee121_1]:=addLoop (H:=hn) (n:=60) (live:=[1,8,9,10,1011136]) (b:=c174L0) (ps:=L121_1011136p) (os:=L121_1011136o) (st:=L121_1011136t) h121 wts_ok l121_0 (by kernel_rfl) (by kernel_rfl) (fun x=>by kernel_rfl)
noncomputable def K121:Ctr:=⟨.cons (sRun) (sPlace),.cons (sRun) (.cons (.i .i64) (.nil)),[(true,5),(false,1),(false,1),(false,1)],[(true,5),(false,1)],[],F121⟩
theorem k121:CtrOk Tryz.prog 121 K121:=addFun (H:=hn) (n:=60) orders td121 h121 wts_ok l121_1 rfl rfl (fun x=>by kernel_rfl)
def tb128:List (Nat×CF):=[(128,c128)]
theorem td128:Tied Tryz.prog tb128:=⟨⟨_,_,Tryz.func128,t128⟩,trivial⟩
noncomputable def ct128:List (Nat×Ctr):=[(51,K51),(175,K175)]
theorem h128:CtsOk Tryz.prog ct128:=⟨k51,k175,trivial⟩
noncomputable abbrev gg128:Cfg:=cfgT Tryz.prog (look? tb128) (look? ct128) (look? wts) (([(0,true)]:List (Nat×Bool)).map (·.1)) hn.kl hn.pf
theorem l128_0:LpsOk gg128 (allL tb128) []:=trivial
noncomputable def K128:Ctr:=⟨.cons (.row (sRun)) (.cons (.i .i64) (.nil)),.cons (.row (sPlace)) (.cons (.i .i64) (.nil)),[(false,1),(false,1)],[(false,1),(false,1)],[(0,true)],F128⟩
theorem k128:CtrOk Tryz.prog 128 K128:=addFun (H:=hn) (n:=60) orders td128 h128 wts_ok l128_0 rfl rfl (fun x=>by kernel_rfl)
def tb19:List (Nat×CF):=[(19,c19),(52,c52),(53,c53),(93,c93)]
theorem td19:Tied Tryz.prog tb19:=⟨⟨_,_,Tryz.func19,t19⟩,⟨_,_,Tryz.func52,t52⟩,⟨_,_,Tryz.func53,t53⟩,⟨_,_,Tryz.func93,t93⟩,trivial⟩
noncomputable def ct19:List (Nat×Ctr):=[(50,K50),(51,K51),(54,K54)]
theorem h19:CtsOk Tryz.prog ct19:=⟨k50,k51,k54,trivial⟩
noncomputable abbrev gg19:Cfg:=cfgT Tryz.prog (look? tb19) (look? ct19) (look? wts) (([]:List (Nat×Bool)).map (·.1)) hn.kl hn.pf
theorem l19_0:LpsOk gg19 (allL tb19) []:=trivial
noncomputable abbrev ee19_1:Nat×Lps:=(1001217,⟨L19_1001217p,L19_1001217o,L19_1001217⟩)
theorem l19_1:LpsOk gg19 (allL tb19) [ee19_1]:=addLoop (H:=hn) (n:=60) (live:=[1,99,100,101,1001217]) (b:=c19L1) (ps:=L19_1001217p) (os:=L19_1001217o) (st:=L19_1001217t) h19 wts_ok l19_0 (by kernel_rfl) (by kernel_rfl) (fun x=>by kernel_rfl)
noncomputable abbrev ee19_2:Nat×Lps:=(1005952,⟨L19_1005952p,L19_1005952o,L19_1005952⟩)
theorem l19_2:LpsOk gg19 (allL tb19) [ee19_2,ee19_1]:=addLoop (H:=hn) (n:=60) (live:=[0,1,7,8,1005952]) (b:=c93L0) (ps:=L19_1005952p) (os:=L19_1005952o) (st:=L19_1005952t) h19 wts_ok l19_1 (by kernel_rfl) (by kernel_rfl) (fun x=>by kernel_rfl)
noncomputable abbrev ee19_3:Nat×Lps:=(1001216,⟨L19_1001216p,L19_1001216o,L19_1001216⟩)
theorem l19_3:LpsOk gg19 (allL tb19) [ee19_3,ee19_2,ee19_1]:=addLoop (H:=hn) (n:=60) (live:=[1,79,80,81,1001216]) (b:=c19L0) (ps:=L19_1001216p) (os:=L19_1001216o) (st:=L19_1001216t) h19 wts_ok l19_2 (by kernel_rfl) (by kernel_rfl) (fun x=>by kernel_rfl)
noncomputable def K19:Ctr:=⟨sengine,.cons (.i .i64) (.nil),[(true,8)],[(false,1)],[],F19⟩
theorem k19:CtrOk Tryz.prog 19 K19:=addFun (H:=hn) (n:=60) orders td19 h19 wts_ok l19_3 rfl rfl (fun x=>by kernel_rfl)
def tb15a:List (Nat×CF):=[(15,c15),(46,c46),(47,c47),(79,c79),(117,c117),(80,c80),(120,c120),(122,c122),(81,c81),(82,c82),(125,c125),(83,c83),(84,c84),(85,c85),(129,c129),(86,c86),(87,c87),(88,c88)]
theorem td15a:Tied Tryz.prog tb15a:=⟨⟨_,_,Tryz.func15,t15⟩,⟨_,_,Tryz.func46,t46⟩,⟨_,_,Tryz.func47,t47⟩,⟨_,_,Tryz.func79,t79⟩,⟨_,_,Tryz.func117,t117⟩,⟨_,_,Tryz.func80,t80⟩,⟨_,_,Tryz.func120,t120⟩,⟨_,_,Tryz.func122,t122⟩,⟨_,_,Tryz.func81,t81⟩,⟨_,_,Tryz.func82,t82⟩,⟨_,_,Tryz.func125,t125⟩,⟨_,_,Tryz.func83,t83⟩,⟨_,_,Tryz.func84,t84⟩,⟨_,_,Tryz.func85,t85⟩,⟨_,_,Tryz.func129,t129⟩,⟨_,_,Tryz.func86,t86⟩,⟨_,_,Tryz.func87,t87⟩,⟨_,_,Tryz.func88,t88⟩,trivial⟩
noncomputable def ct15a:List (Nat×Ctr):=[(19,K19),(25,K25),(48,K48),(114,K114),(115,K115),(116,K116),(118,K118),(119,K119),(121,K121),(164,K164),(123,K123),(124,K124),(126,K126),(127,K127),(128,K128),(176,K176),(177,K177),(178,K178),(62,K62),(61,K61)]
theorem h15a:CtsOk Tryz.prog ct15a:=⟨k19,k25,k48,k114,k115,k116,k118,k119,k121,k164,k123,k124,k126,k127,k128,k176,k177,k178,k62,k61,trivial⟩
noncomputable abbrev gg15a:Cfg:=cfgT Tryz.prog (look? tb15a) (look? ct15a) (look? wts) (([]:List (Nat×Bool)).map (·.1)) hn.kl hn.pf
theorem l15a_0:LpsOk gg15a (allL tb15a) []:=trivial
noncomputable abbrev ee15a_1:Nat×Lps:=(1005440,⟨L15a_1005440p,L15a_1005440o,L15a_1005440⟩)
theorem l15a_1:LpsOk gg15a (allL tb15a) [ee15a_1]:=addLoop (H:={hn with pr:=[(25,6,false),(25,7,false)]}) (n:=60) (live:=[0,4,7,45,46,47,1005440]) (b:=c85L0) (ps:=L15a_1005440p) (os:=L15a_1005440o) (st:=L15a_1005440t) h15a wts_ok l15a_0 (by kernel_rfl) (by kernel_rfl) (fun x=>match x with| .inl x=>(by kernel_rfl)| .inr (.inl x)=>(by kernel_rfl)| .inr (.inr (x))=>(by kernel_rfl))
noncomputable def K15a:Ctr:=⟨.cons (sState) (.cons (sCall) (.nil)),.cons (sState) (.cons (sReply) (.nil)),[(true,8),(true,8)],[(true,8),(true,10)],[],F15a⟩
theorem k15a:CtrOk Tryz.prog 15 K15a:=addFun (H:={hn with pr:=[(25,6,false),(25,7,false)]}) (n:=60) orders td15a h15a wts_ok l15a_1 rfl rfl (fun x=>by kernel_rfl)
def tb15b:List (Nat×CF):=[(15,c15),(46,c46),(47,c47),(79,c79),(117,c117),(80,c80),(120,c120),(122,c122),(81,c81),(82,c82),(125,c125),(83,c83),(84,c84),(85,c85),(129,c129),(86,c86),(87,c87),(88,c88)]
theorem td15b:Tied Tryz.prog tb15b:=⟨⟨_,_,Tryz.func15,t15⟩,⟨_,_,Tryz.func46,t46⟩,⟨_,_,Tryz.func47,t47⟩,⟨_,_,Tryz.func79,t79⟩,⟨_,_,Tryz.func117,t117⟩,⟨_,_,Tryz.func80,t80⟩,⟨_,_,Tryz.func120,t120⟩,⟨_,_,Tryz.func122,t122⟩,⟨_,_,Tryz.func81,t81⟩,⟨_,_,Tryz.func82,t82⟩,⟨_,_,Tryz.func125,t125⟩,⟨_,_,Tryz.func83,t83⟩,⟨_,_,Tryz.func84,t84⟩,⟨_,_,Tryz.func85,t85⟩,⟨_,_,Tryz.func129,t129⟩,⟨_,_,Tryz.func86,t86⟩,⟨_,_,Tryz.func87,t87⟩,⟨_,_,Tryz.func88,t88⟩,trivial⟩
noncomputable def ct15b:List (Nat×Ctr):=[(19,K19),(25,K25),(48,K48),(114,K114),(115,K115),(116,K116),(118,K118),(119,K119),(121,K121),(164,K164),(123,K123),(124,K124),(126,K126),(127,K127),(128,K128),(176,K176),(177,K177),(178,K178),(62,K62),(61,K61)]
theorem h15b:CtsOk Tryz.prog ct15b:=⟨k19,k25,k48,k114,k115,k116,k118,k119,k121,k164,k123,k124,k126,k127,k128,k176,k177,k178,k62,k61,trivial⟩
noncomputable abbrev gg15b:Cfg:=cfgT Tryz.prog (look? tb15b) (look? ct15b) (look? wts) (([]:List (Nat×Bool)).map (·.1)) hn.kl hn.pf
theorem l15b_0:LpsOk gg15b (allL tb15b) []:=trivial
noncomputable abbrev ee15b_1:Nat×Lps:=(1005440,⟨L15b_1005440p,L15b_1005440o,L15b_1005440⟩)
theorem l15b_1:LpsOk gg15b (allL tb15b) [ee15b_1]:=addLoop (H:={hn with pr:=[(25,6,false),(25,7,true)]}) (n:=60) (live:=[0,4,7,45,46,47,1005440]) (b:=c85L0) (ps:=L15b_1005440p) (os:=L15b_1005440o) (st:=L15b_1005440t) h15b wts_ok l15b_0 (by kernel_rfl) (by kernel_rfl) (fun x=>match x with| .inl x=>(by kernel_rfl)| .inr (.inl x)=>(by kernel_rfl)| .inr (.inr (x))=>(by kernel_rfl))
noncomputable def K15b:Ctr:=⟨.cons (sState) (.cons (sCall) (.nil)),.cons (sState) (.cons (sReply) (.nil)),[(true,8),(true,8)],[(true,8),(true,10)],[],F15b⟩
theorem k15b:CtrOk Tryz.prog 15 K15b:=addFun (H:={hn with pr:=[(25,6,false),(25,7,true)]}) (n:=60) orders td15b h15b wts_ok l15b_1 rfl rfl (fun x=>by kernel_rfl)
def tb15c:List (Nat×CF):=[(15,c15),(46,c46),(47,c47),(79,c79),(117,c117),(80,c80),(120,c120),(122,c122),(81,c81),(82,c82),(125,c125),(83,c83),(84,c84),(85,c85),(129,c129),(86,c86),(87,c87),(88,c88)]
theorem td15c:Tied Tryz.prog tb15c:=⟨⟨_,_,Tryz.func15,t15⟩,⟨_,_,Tryz.func46,t46⟩,⟨_,_,Tryz.func47,t47⟩,⟨_,_,Tryz.func79,t79⟩,⟨_,_,Tryz.func117,t117⟩,⟨_,_,Tryz.func80,t80⟩,⟨_,_,Tryz.func120,t120⟩,⟨_,_,Tryz.func122,t122⟩,⟨_,_,Tryz.func81,t81⟩,⟨_,_,Tryz.func82,t82⟩,⟨_,_,Tryz.func125,t125⟩,⟨_,_,Tryz.func83,t83⟩,⟨_,_,Tryz.func84,t84⟩,⟨_,_,Tryz.func85,t85⟩,⟨_,_,Tryz.func129,t129⟩,⟨_,_,Tryz.func86,t86⟩,⟨_,_,Tryz.func87,t87⟩,⟨_,_,Tryz.func88,t88⟩,trivial⟩
noncomputable def ct15c:List (Nat×Ctr):=[(19,K19),(25,K25),(48,K48),(114,K114),(115,K115),(116,K116),(118,K118),(119,K119),(121,K121),(164,K164),(123,K123),(124,K124),(126,K126),(127,K127),(128,K128),(176,K176),(177,K177),(178,K178),(62,K62),(61,K61)]
theorem h15c:CtsOk Tryz.prog ct15c:=⟨k19,k25,k48,k114,k115,k116,k118,k119,k121,k164,k123,k124,k126,k127,k128,k176,k177,k178,k62,k61,trivial⟩
noncomputable abbrev gg15c:Cfg:=cfgT Tryz.prog (look? tb15c) (look? ct15c) (look? wts) (([]:List (Nat×Bool)).map (·.1)) hn.kl hn.pf
theorem l15c_0:LpsOk gg15c (allL tb15c) []:=trivial
noncomputable abbrev ee15c_1:Nat×Lps:=(1005440,⟨L15c_1005440p,L15c_1005440o,L15c_1005440⟩)
theorem l15c_1:LpsOk gg15c (allL tb15c) [ee15c_1]:=addLoop (H:={hn with pr:=[(25,6,true),(25,7,false)]}) (n:=60) (live:=[0,4,7,45,46,47,1005440]) (b:=c85L0) (ps:=L15c_1005440p) (os:=L15c_1005440o) (st:=L15c_1005440t) h15c wts_ok l15c_0 (by kernel_rfl) (by kernel_rfl) (fun x=>match x with| .inl x=>(by kernel_rfl)| .inr (x)=>(by kernel_rfl))
noncomputable def K15c:Ctr:=⟨.cons (sState) (.cons (sCall) (.nil)),.cons (sState) (.cons (sReply) (.nil)),[(true,8),(true,8)],[(true,8),(true,10)],[],F15c⟩
theorem k15c:CtrOk Tryz.prog 15 K15c:=addFun (H:={hn with pr:=[(25,6,true),(25,7,false)]}) (n:=60) orders td15c h15c wts_ok l15c_1 rfl rfl (fun x=>by kernel_rfl)
def tb15d:List (Nat×CF):=[(15,c15),(46,c46),(47,c47),(79,c79),(117,c117),(80,c80),(120,c120),(122,c122),(81,c81),(82,c82),(125,c125),(83,c83),(84,c84),(85,c85),(129,c129),(86,c86),(87,c87),(88,c88)]
theorem td15d:Tied Tryz.prog tb15d:=⟨⟨_,_,Tryz.func15,t15⟩,⟨_,_,Tryz.func46,t46⟩,⟨_,_,Tryz.func47,t47⟩,⟨_,_,Tryz.func79,t79⟩,⟨_,_,Tryz.func117,t117⟩,⟨_,_,Tryz.func80,t80⟩,⟨_,_,Tryz.func120,t120⟩,⟨_,_,Tryz.func122,t122⟩,⟨_,_,Tryz.func81,t81⟩,⟨_,_,Tryz.func82,t82⟩,⟨_,_,Tryz.func125,t125⟩,⟨_,_,Tryz.func83,t83⟩,⟨_,_,Tryz.func84,t84⟩,⟨_,_,Tryz.func85,t85⟩,⟨_,_,Tryz.func129,t129⟩,⟨_,_,Tryz.func86,t86⟩,⟨_,_,Tryz.func87,t87⟩,⟨_,_,Tryz.func88,t88⟩,trivial⟩
noncomputable def ct15d:List (Nat×Ctr):=[(19,K19),(25,K25),(48,K48),(114,K114),(115,K115),(116,K116),(118,K118),(119,K119),(121,K121),(164,K164),(123,K123),(124,K124),(126,K126),(127,K127),(128,K128),(176,K176),(177,K177),(178,K178),(62,K62),(61,K61)]
theorem h15d:CtsOk Tryz.prog ct15d:=⟨k19,k25,k48,k114,k115,k116,k118,k119,k121,k164,k123,k124,k126,k127,k128,k176,k177,k178,k62,k61,trivial⟩
noncomputable abbrev gg15d:Cfg:=cfgT Tryz.prog (look? tb15d) (look? ct15d) (look? wts) (([]:List (Nat×Bool)).map (·.1)) hn.kl hn.pf
theorem l15d_0:LpsOk gg15d (allL tb15d) []:=trivial
noncomputable abbrev ee15d_1:Nat×Lps:=(1005440,⟨L15d_1005440p,L15d_1005440o,L15d_1005440⟩)
theorem l15d_1:LpsOk gg15d (allL tb15d) [ee15d_1]:=addLoop (H:={hn with pr:=[(25,6,true),(25,7,true)]}) (n:=60) (live:=[0,4,7,45,46,47,1005440]) (b:=c85L0) (ps:=L15d_1005440p) (os:=L15d_1005440o) (st:=L15d_1005440t) h15d wts_ok l15d_0 (by kernel_rfl) (by kernel_rfl) (fun x=>match x with| .inl x=>(by kernel_rfl)| .inr (x)=>(by kernel_rfl))
noncomputable def K15d:Ctr:=⟨.cons (sState) (.cons (sCall) (.nil)),.cons (sState) (.cons (sReply) (.nil)),[(true,8),(true,8)],[(true,8),(true,10)],[],F15d⟩
theorem k15d:CtrOk Tryz.prog 15 K15d:=addFun (H:={hn with pr:=[(25,6,true),(25,7,true)]}) (n:=60) orders td15d h15d wts_ok l15d_1 rfl rfl (fun x=>by kernel_rfl)
noncomputable def K15:Ctr:=⟨.cons (sState) (.cons (sCall) (.nil)),.cons (sState) (.cons (sReply) (.nil)),[(true,8),(true,8)],[(true,8),(true,10)],[],F15⟩
theorem k15:CtrOk Tryz.prog 15 K15:=by
 have h:= @ctr_bif Tryz.prog 15 (.cons (sState) (.cons (sCall) (.nil))) (.cons (sState) (.cons (sReply) (.nil))) _ _ _ _ _ (fun x=>isEmpty x.1.2.2.2.2.2.2.1) (@ctr_bif Tryz.prog 15 (.cons (sState) (.cons (sCall) (.nil))) (.cons (sState) (.cons (sReply) (.nil))) _ _ _ _ _ (fun x=>isEmpty x.1.2.2.2.2.2.2.2.1) k15d k15c) (@ctr_bif Tryz.prog 15 (.cons (sState) (.cons (sCall) (.nil))) (.cons (sState) (.cons (sReply) (.nil))) _ _ _ _ _ (fun x=>isEmpty x.1.2.2.2.2.2.2.2.1) k15b k15a)
 exact h
def tb44:List (Nat×CF):=[(44,c44)]
theorem td44:Tied Tryz.prog tb44:=⟨⟨_,_,Tryz.func44,t44⟩,trivial⟩
noncomputable def ct44:List (Nat×Ctr):=[(14,K14),(78,K78),(15,K15)]
theorem h44:CtsOk Tryz.prog ct44:=⟨k14,k78,k15,trivial⟩
noncomputable abbrev gg44:Cfg:=cfgT Tryz.prog (look? tb44) (look? ct44) (look? wts) (([]:List (Nat×Bool)).map (·.1)) hn.kl hn.pf
theorem l44_0:LpsOk gg44 (allL tb44) []:=trivial
noncomputable def K44:Ctr:=⟨.nil,.cons (sState) (.cons (.b) (.nil)),[],[(true,8),(false,1)],[],F44⟩
theorem k44:CtrOk Tryz.prog 44 K44:=addFun (H:=hn) (n:=60) orders td44 h44 wts_ok l44_0 rfl rfl (fun x=>by kernel_rfl)
def tb12:List (Nat×CF):=[(12,c12)]
theorem td12:Tied Tryz.prog tb12:=⟨⟨_,_,Tryz.func12,t12⟩,trivial⟩
noncomputable def ct12:List (Nat×Ctr):=[(44,K44),(15,K15)]
theorem h12:CtsOk Tryz.prog ct12:=⟨k44,k15,trivial⟩
noncomputable abbrev gg12:Cfg:=cfgT Tryz.prog (look? tb12) (look? ct12) (look? wts) (([]:List (Nat×Bool)).map (·.1)) hn.kl hn.pf
theorem l12_0:LpsOk gg12 (allL tb12) []:=trivial
noncomputable def K12:Ctr:=⟨.nil,.cons (.b) (.nil),[],[(false,1)],[],F12⟩
theorem k12:CtrOk Tryz.prog 12 K12:=addFun (H:=hn) (n:=60) orders td12 h12 wts_ok l12_0 rfl rfl (fun x=>by kernel_rfl)
def tb7:List (Nat×CF):=[(7,c7)]
theorem td7:Tied Tryz.prog tb7:=⟨⟨_,_,Tryz.func7,t7⟩,trivial⟩
noncomputable def ct7:List (Nat×Ctr):=[(12,K12),(21,K21),(13,K13),(15,K15),(19,K19),(26,K26),(29,K29)]
theorem h7:CtsOk Tryz.prog ct7:=⟨k12,k21,k13,k15,k19,k26,k29,trivial⟩
noncomputable abbrev gg7:Cfg:=cfgT Tryz.prog (look? tb7) (look? ct7) (look? wts) (([]:List (Nat×Bool)).map (·.1)) hn.kl hn.pf
theorem l7_0:LpsOk gg7 (allL tb7) []:=trivial
noncomputable def K7:Ctr:=⟨.cons (sState) (.cons (sCall) (.nil)),.cons (.b) (.nil),[(true,8),(true,8)],[(false,1)],[],F7⟩
theorem k7:CtrOk Tryz.prog 7 K7:=addFun (H:=hn) (n:=60) orders td7 h7 wts_ok l7_0 rfl rfl (fun x=>by kernel_rfl)
end Go.Proofs.YtbkjflfbgknagaaGreat.modelStays.Code
