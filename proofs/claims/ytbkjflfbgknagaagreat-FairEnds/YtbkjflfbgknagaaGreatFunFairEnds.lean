import Derived.Test.YtbkjflfbgknagaaGreatTieFairEnds
import Derived.Test.YtbkjflfbgknagaaGreatDefFairEnds1
import Derived.KernelRfl
import Derived.Test.YtbkjflfbgknagaaGreatSrtFairEnds
set_option maxRecDepth 100000
set_option linter.unusedVariables false
set_option linter.constructorNameAsVariable false
namespace Go.Proofs.YtbkjflfbgknagaaGreat.fairEnds.Code
open Go Go.Am
open List (isEmpty)
noncomputable def MZ:List (Nat×CF):=[(14,c14)]
theorem agv:aS Tryz.prog MZ:=⟨⟨_,_,Tryz.func14,t14⟩,trivial⟩
noncomputable def VE:List (Nat×Ctr):=[]
theorem Lh:aH Tryz.prog VE:=trivial
noncomputable abbrev agw:Cfg:=aL Tryz.prog (look? MZ) (look? VE) (look? bw) (([]:List (Nat×Bool)).map (·.1)) hn.kl hn.pf
theorem abk:am agw (aw MZ) []:=trivial
noncomputable def K14:Ctr:=⟨.nil,bL,[],[(true,8)],[],VA⟩
theorem k14:az Tryz.prog 14 K14:=aA (H:=hn) (n:=60) aB agv Lh ak abk rfl rfl (fun x=>by kernel_rfl)
noncomputable def Na:List (Nat×CF):=[(50,c50)]
theorem agx:aS Tryz.prog Na:=⟨⟨_,_,Tryz.func50,t50⟩,trivial⟩
noncomputable def VF:List (Nat×Ctr):=[]
theorem h50:aH Tryz.prog VF:=trivial
noncomputable abbrev agy:Cfg:=aL Tryz.prog (look? Na) (look? VF) (look? bw) (([]:List (Nat×Bool)).map (·.1)) hn.kl hn.pf
theorem abl:am agy (aw Na) []:=trivial
noncomputable def K50:Ctr:=⟨.cons (.i .i64) (.cons (.i .i64) (.nil)),.cons (.b) (.nil),[(false,1),(false,1)],[(false,1)],[],Ey⟩
theorem k50:az Tryz.prog 50 K50:=aA (H:=hn) (n:=60) aB agx h50 ak abl rfl rfl (fun x=>by kernel_rfl)
noncomputable def Ct:List (Nat×CF):=[(161,TZ)]
theorem abm:aS Tryz.prog Ct:=⟨⟨_,_,Tryz.func161,ae8⟩,trivial⟩
noncomputable def Pr:List (Nat×Ctr):=[]
theorem VG:aH Tryz.prog Pr:=trivial
noncomputable abbrev Ps:Cfg:=aL Tryz.prog (look? Ct) (look? Pr) (look? bw) (([]:List (Nat×Bool)).map (·.1)) hn.kl hn.pf
theorem VH:am Ps (aw Ct) []:=trivial
noncomputable abbrev Sr:Nat×Lps:=(1010304,⟨rC,rD,nH⟩)
theorem VI:am Ps (aw Ct) [Sr]:=aT (H:=hn) (n:=60) (live:=[0,1,7,29,30,31,1010304]) (b:=Ua) (ps:=rC) (os:=rD) (st:=fL) VG ak VH (by kernel_rfl) (by kernel_rfl) (fun x=>by kernel_rfl)
noncomputable def VJ:Ctr:=⟨.cons (.i .i64) (.cons (.i .i64) (.cons (af) (.nil))),.cons (.b) (.nil),[(false,1),(false,1),(true,3)],[(false,1)],[],Ip⟩
theorem agz:az Tryz.prog 161 VJ:=aA (H:=hn) (n:=60) aB abm VG ak VI rfl rfl (fun x=>by kernel_rfl)
noncomputable def IA:List (Nat×CF):=[(179,aed)]
theorem abn:aS Tryz.prog IA:=⟨⟨_,_,Tryz.func179,ae9⟩,trivial⟩
noncomputable def Pt:List (Nat×Ctr):=[]
theorem agA:aH Tryz.prog Pt:=trivial
noncomputable abbrev abo:Cfg:=aL Tryz.prog (look? IA) (look? Pt) (look? bw) (([]:List (Nat×Bool)).map (·.1)) hn.kl hn.pf
theorem VK:am abo (aw IA) []:=trivial
noncomputable def VL:Ctr:=⟨.cons (af) (.nil),.cons (.b) (.nil),[(true,3)],[(false,1)],[],Iq⟩
theorem agB:az Tryz.prog 179 VL:=aA (H:=hn) (n:=60) aB abn agA ak VK rfl rfl (fun x=>by kernel_rfl)
noncomputable def IB:List (Nat×CF):=[(208,aee)]
theorem abp:aS Tryz.prog IB:=⟨⟨_,_,Tryz.func208,afa⟩,trivial⟩
noncomputable def Pu:List (Nat×Ctr):=[]
theorem agC:aH Tryz.prog Pu:=trivial
noncomputable abbrev abq:Cfg:=aL Tryz.prog (look? IB) (look? Pu) (look? bw) (([]:List (Nat×Bool)).map (·.1)) hn.kl hn.pf
theorem VM:am abq (aw IB) []:=trivial
noncomputable def xm:Ctr:=⟨.cons (.i .i64) (.nil),.cons (.b) (.nil),[(false,1)],[(false,1)],[],qX⟩
theorem AC:az Tryz.prog 208 xm:=aA (H:=hn) (n:=60) aB abp agC ak VM rfl rfl (fun x=>by kernel_rfl)
noncomputable def IC:List (Nat×CF):=[(207,aef)]
theorem abr:aS Tryz.prog IC:=⟨⟨_,_,Tryz.func207,afb⟩,trivial⟩
noncomputable def Pv:List (Nat×Ctr):=[]
theorem agD:aH Tryz.prog Pv:=trivial
noncomputable abbrev abt:Cfg:=aL Tryz.prog (look? IC) (look? Pv) (look? bw) (([]:List (Nat×Bool)).map (·.1)) hn.kl hn.pf
theorem VN:am abt (aw IC) []:=trivial
noncomputable def AD:Ctr:=⟨.cons (.i .i64) (.nil),.cons (.b) (.nil),[(false,1)],[(false,1)],[],ut⟩
theorem EI:az Tryz.prog 207 AD:=aA (H:=hn) (n:=60) aB abr agD ak VN rfl rfl (fun x=>by kernel_rfl)
noncomputable def Cu:List (Nat×CF):=[(253,Ud)]
theorem abu:aS Tryz.prog Cu:=⟨⟨_,_,Tryz.func253,afe⟩,trivial⟩
noncomputable def Pw:List (Nat×Ctr):=[]
theorem VO:aH Tryz.prog Pw:=trivial
noncomputable abbrev Px:Cfg:=aL Tryz.prog (look? Cu) (look? Pw) (look? bw) (([]:List (Nat×Bool)).map (·.1)) hn.kl hn.pf
theorem VP:am Px (aw Cu) []:=trivial
noncomputable abbrev Ss:Nat×Lps:=(1016192,⟨rE,rF,nI⟩)
theorem VQ:am Px (aw Cu) [Ss]:=aT (H:=hn) (n:=60) (live:=[0,1,7,8,1016192]) (b:=Ue) (ps:=rE) (os:=rF) (st:=fM) VO ak VP (by kernel_rfl) (by kernel_rfl) (fun x=>by kernel_rfl)
noncomputable def VR:Ctr:=⟨.cons (.row (.i .u8)) (.cons (.i .u8) (.nil)),.cons (.i .i64) (.nil),[(false,1),(false,1)],[(false,1)],[],MS⟩
theorem agE:az Tryz.prog 253 VR:=aA (H:=hn) (n:=60) aB abu VO ak VQ rfl rfl (fun x=>by kernel_rfl)
noncomputable def Nb:List (Nat×CF):=[(54,c54)]
theorem agF:aS Tryz.prog Nb:=⟨⟨_,_,Tryz.func54,t54⟩,trivial⟩
noncomputable def VS:List (Nat×Ctr):=[]
theorem h54:aH Tryz.prog VS:=trivial
noncomputable abbrev agG:Cfg:=aL Tryz.prog (look? Nb) (look? VS) (look? bw) (([]:List (Nat×Bool)).map (·.1)) hn.kl hn.pf
theorem abv:am agG (aw Nb) []:=trivial
noncomputable def K54:Ctr:=⟨.cons (cn) (.cons (ay) (.nil)),.cons (.b) (.nil),[(true,8),(true,4)],[(false,1)],[],Ph⟩
theorem k54:az Tryz.prog 54 K54:=aA (H:=hn) (n:=60) aB agF h54 ak abv rfl rfl (fun x=>by kernel_rfl)
noncomputable def ID:List (Nat×CF):=[(162,aeh)]
theorem abw:aS Tryz.prog ID:=⟨⟨_,_,Tryz.func162,afg⟩,trivial⟩
noncomputable def Py:List (Nat×Ctr):=[]
theorem agH:aH Tryz.prog Py:=trivial
noncomputable abbrev abx:Cfg:=aL Tryz.prog (look? ID) (look? Py) (look? bw) (([]:List (Nat×Bool)).map (·.1)) hn.kl hn.pf
theorem VT:am abx (aw ID) []:=trivial
noncomputable def Nc:Ctr:=⟨.cons (.i .i64) (.nil),.cons (.b) (.nil),[(false,1)],[(false,1)],[],Ez⟩
theorem VU:az Tryz.prog 162 Nc:=aA (H:=hn) (n:=60) aB abw agH ak VT rfl rfl (fun x=>by kernel_rfl)
noncomputable def IE:List (Nat×CF):=[(101,aei)]
theorem aby:aS Tryz.prog IE:=⟨⟨_,_,Tryz.func101,afh⟩,trivial⟩
noncomputable def Pz:List (Nat×Ctr):=[]
theorem agI:aH Tryz.prog Pz:=trivial
noncomputable abbrev abz:Cfg:=aL Tryz.prog (look? IE) (look? Pz) (look? bw) (([(0,true)]:List (Nat×Bool)).map (·.1)) hn.kl hn.pf
theorem VV:am abz (aw IE) []:=trivial
noncomputable def abA:Ctr:=⟨.cons (.row (ae)) (.nil),.cons (.row (ae)) (.nil),[(false,1)],[(false,1)],[(0,true)],Ir⟩
theorem abB:az Tryz.prog 101 abA:=aA (H:=hn) (n:=60) aB aby agI ak VV rfl rfl (fun x=>by kernel_rfl)
noncomputable def VW:Ctr:=⟨.cons (.row (ae)) (.nil),.cons (.row (ae)) (.nil),[(false,1)],[(false,1)],[(0,true)],Is⟩
theorem agJ:az Tryz.prog 101 VW:=KX abB ⟨_,_,Tryz.func101,by kernel_rfl,rfl⟩ abi
noncomputable def IF:List (Nat×CF):=[(102,aej)]
theorem abC:aS Tryz.prog IF:=⟨⟨_,_,Tryz.func102,afi⟩,trivial⟩
noncomputable def PA:List (Nat×Ctr):=[]
theorem agK:aH Tryz.prog PA:=trivial
noncomputable abbrev abD:Cfg:=aL Tryz.prog (look? IF) (look? PA) (look? bw) (([]:List (Nat×Bool)).map (·.1)) hn.kl hn.pf
theorem VX:am abD (aw IF) []:=trivial
noncomputable def abE:Ctr:=⟨.cons (.row (.i .i64)) (.nil),.cons (.row (.i .i64)) (.nil),[(false,1)],[(false,1)],[],It⟩
theorem abF:az Tryz.prog 102 abE:=aA (H:=hn) (n:=60) aB abC agK ak VX rfl rfl (fun x=>by kernel_rfl)
noncomputable def VY:Ctr:=⟨.cons (.row (.i .i64)) (.nil),.cons (.row (.i .i64)) (.nil),[(false,1)],[(false,1)],[],EA⟩
theorem agL:az Tryz.prog 102 VY:=TX abF ⟨_,_,Tryz.func102,by kernel_rfl,rfl⟩ abj
noncomputable def IG:List (Nat×CF):=[(118,aek)]
theorem abG:aS Tryz.prog IG:=⟨⟨_,_,Tryz.func118,afj⟩,trivial⟩
noncomputable def PD:List (Nat×Ctr):=[]
theorem Nd:aH Tryz.prog PD:=trivial
noncomputable abbrev abH:Cfg:=aL Tryz.prog (look? IG) (look? PD) (look? bw) (([]:List (Nat×Bool)).map (·.1)) hn.kl hn.pf
theorem VZ:am abH (aw IG) []:=trivial
noncomputable def EJ:Ctr:=⟨.cons (.i .i64) (.nil),.cons (.b) (.nil),[(false,1)],[(false,1)],[],me⟩
theorem IH:az Tryz.prog 118 EJ:=aA (H:=hn) (n:=60) aB abG Nd ak VZ rfl rfl (fun x=>by kernel_rfl)
noncomputable def tb234:List (Nat×CF):=[(234,Uj)]
theorem td234:aS Tryz.prog tb234:=⟨⟨_,_,Tryz.func234,UJ⟩,trivial⟩
noncomputable def ct234:List (Nat×Ctr):=[]
theorem h234:aH Tryz.prog ct234:=trivial
noncomputable abbrev gg234:Cfg:=aL Tryz.prog (look? tb234) (look? ct234) (look? bw) (([]:List (Nat×Bool)).map (·.1)) hn.kl hn.pf
theorem l234_0:am gg234 (aw tb234) []:=trivial
noncomputable def K234:Ctr:=⟨.cons (.i .i64) (.nil),.cons (.b) (.nil),[(false,1)],[(false,1)],[],F234⟩
theorem k234:az Tryz.prog 234 K234:=aA (H:=hn) (n:=60) aB td234 h234 ak l234_0 rfl rfl (fun x=>by kernel_rfl)
noncomputable def Cv:List (Nat×CF):=[(236,Uk)]
theorem abI:aS Tryz.prog Cv:=⟨⟨_,_,Tryz.func236,afl⟩,trivial⟩
noncomputable def PE:List (Nat×Ctr):=[]
theorem Wa:aH Tryz.prog PE:=trivial
noncomputable abbrev PF:Cfg:=aL Tryz.prog (look? Cv) (look? PE) (look? bw) (([]:List (Nat×Bool)).map (·.1)) hn.kl hn.pf
theorem Wb:am PF (aw Cv) []:=trivial
noncomputable abbrev Su:Nat×Lps:=(1015104,⟨rG,rH,nJ⟩)
theorem Wc:am PF (aw Cv) [Su]:=aT (H:=hn) (n:=60) (live:=[1,5,6,1015104]) (b:=Ul) (ps:=rG) (os:=rH) (st:=iG) Wa ak Wb (by kernel_rfl) (by kernel_rfl) (fun x=>by kernel_rfl)
noncomputable def Wd:Ctr:=⟨.cons (af) (.cons (.i .i64) (.nil)),.cons (.i .i64) (.nil),[(true,3),(false,1)],[(false,1)],[],Iu⟩
theorem agM:az Tryz.prog 236 Wd:=aA (H:=hn) (n:=60) aB abI Wa ak Wc rfl rfl (fun x=>by kernel_rfl)
noncomputable def II:List (Nat×CF):=[(176,ael)]
theorem abJ:aS Tryz.prog II:=⟨⟨_,_,Tryz.func176,afm⟩,trivial⟩
noncomputable def PG:List (Nat×Ctr):=[]
theorem agN:aH Tryz.prog PG:=trivial
noncomputable abbrev abK:Cfg:=aL Tryz.prog (look? II) (look? PG) (look? bw) (([]:List (Nat×Bool)).map (·.1)) hn.kl hn.pf
theorem We:am abK (aw II) []:=trivial
noncomputable def vk:Ctr:=⟨.cons (ae) (.cons (.i .i64) (.nil)),.cons (.b) (.nil),[(true,5),(false,1)],[(false,1)],[],kv⟩
theorem xn:az Tryz.prog 176 vk:=aA (H:=hn) (n:=60) aB abJ agN ak We rfl rfl (fun x=>by kernel_rfl)
noncomputable def tb214:List (Nat×CF):=[(214,MJ)]
theorem td214:aS Tryz.prog tb214:=⟨⟨_,_,Tryz.func214,UK⟩,trivial⟩
noncomputable def ct214:List (Nat×Ctr):=[]
theorem h214:aH Tryz.prog ct214:=trivial
noncomputable abbrev gg214:Cfg:=aL Tryz.prog (look? tb214) (look? ct214) (look? bw) (([]:List (Nat×Bool)).map (·.1)) hn.kl hn.pf
theorem l214_0:am gg214 (aw tb214) []:=trivial
noncomputable abbrev ee214_1:Nat×Lps:=(1013696,⟨L214_1013696p,L214_1013696o,L214_1013696⟩)
theorem l214_1:am gg214 (aw tb214) [ee214_1]:=aT (H:=hn) (n:=60) (live:=[3,6,7,8,1013696]) (b:=KY) (ps:=L214_1013696p) (os:=L214_1013696o) (st:=L214_1013696t) h214 ak l214_0 (by kernel_rfl) (by kernel_rfl) (fun x=>by kernel_rfl)
noncomputable def K214:Ctr:=⟨.cons (.row (.i .i64)) (.nil),.cons (.i .i64) (.nil),[(false,1)],[(false,1)],[],F214⟩
theorem k214:az Tryz.prog 214 K214:=aA (H:=hn) (n:=60) aB td214 h214 ak l214_1 rfl rfl (fun x=>by kernel_rfl)
noncomputable def Nf:List (Nat×CF):=[(61,c61)]
theorem agO:aS Tryz.prog Nf:=⟨⟨_,_,Tryz.func61,t61⟩,trivial⟩
noncomputable def Wf:List (Nat×Ctr):=[]
theorem iW:aH Tryz.prog Wf:=trivial
noncomputable abbrev agP:Cfg:=aL Tryz.prog (look? Nf) (look? Wf) (look? bw) (([(0,true)]:List (Nat×Bool)).map (·.1)) hn.kl hn.pf
theorem abL:am agP (aw Nf) []:=trivial
noncomputable def agQ:Ctr:=⟨.cons (.row (ay)) (.nil),.cons (.row (ay)) (.nil),[(false,1)],[(false,1)],[(0,true)],MT⟩
theorem agR:az Tryz.prog 61 agQ:=aA (H:=hn) (n:=60) aB agO iW ak abL rfl rfl (fun x=>by kernel_rfl)
noncomputable def EK:Ctr:=⟨.cons (.row (ay)) (.nil),.cons (.row (ay)) (.nil),[(false,1)],[(false,1)],[(0,true)],pZ⟩
theorem GI:az Tryz.prog 61 EK:=KX agR ⟨_,_,Tryz.func61,by kernel_rfl,rfl⟩ agu
noncomputable def Ng:List (Nat×CF):=[(48,c48)]
theorem agS:aS Tryz.prog Ng:=⟨⟨_,_,Tryz.func48,t48⟩,trivial⟩
noncomputable def Wg:List (Nat×Ctr):=[]
theorem EL:aH Tryz.prog Wg:=trivial
noncomputable abbrev agT:Cfg:=aL Tryz.prog (look? Ng) (look? Wg) (look? bw) (([]:List (Nat×Bool)).map (·.1)) hn.kl hn.pf
theorem abM:am agT (aw Ng) []:=trivial
noncomputable def Li:Ctr:=⟨bL,.cons (.b) (.nil),[(true,8)],[(false,1)],[],cS⟩
theorem PH:az Tryz.prog 48 Li:=aA (H:=hn) (n:=60) aB agS EL ak abM rfl rfl (fun x=>by kernel_rfl)
noncomputable def IJ:List (Nat×CF):=[(45,c45)]
theorem agU:aS Tryz.prog IJ:=⟨⟨_,_,Tryz.func45,t45⟩,trivial⟩
noncomputable def Wh:List (Nat×Ctr):=[]
theorem h45:aH Tryz.prog Wh:=trivial
noncomputable abbrev Wi:Cfg:=aL Tryz.prog (look? IJ) (look? Wh) (look? bw) (([]:List (Nat×Bool)).map (·.1)) hn.kl hn.pf
theorem abN:am Wi (aw IJ) []:=trivial
noncomputable abbrev Wj:Nat×Lps:=(1002880,⟨uu,uv,pt⟩)
theorem abO:am Wi (aw IJ) [Wj]:=aT (H:=hn) (n:=60) (live:=[1,3,1002880]) (b:=aa2) (ps:=uu) (os:=uv) (st:=gA) h45 ak abN (by kernel_rfl) (by kernel_rfl) (fun x=>by kernel_rfl)
noncomputable def K45:Ctr:=⟨.cons (qW) (.nil),.cons (.b) (.nil),[(true,1)],[(false,1)],[],Le⟩
theorem k45:az Tryz.prog 45 K45:=aA (H:=hn) (n:=60) aB agU h45 ak abO rfl rfl (fun x=>by kernel_rfl)
noncomputable def IK:List (Nat×CF):=[(108,aeq)]
theorem abP:aS Tryz.prog IK:=⟨⟨_,_,Tryz.func108,afr⟩,trivial⟩
noncomputable def PI:List (Nat×Ctr):=[]
theorem agV:aH Tryz.prog PI:=trivial
noncomputable abbrev abQ:Cfg:=aL Tryz.prog (look? IK) (look? PI) (look? bw) (([]:List (Nat×Bool)).map (·.1)) hn.kl hn.pf
theorem Wk:am abQ (aw IK) []:=trivial
noncomputable def Wl:Ctr:=⟨bL,.cons (.b) (.nil),[(true,8)],[(false,1)],[],MV⟩
theorem agW:az Tryz.prog 108 Wl:=aA (H:=hn) (n:=60) aB abP agV ak Wk rfl rfl (fun x=>by kernel_rfl)
noncomputable def IL:List (Nat×CF):=[(73,c73)]
theorem agX:aS Tryz.prog IL:=⟨⟨_,_,Tryz.func73,t73⟩,trivial⟩
noncomputable def Wm:List (Nat×Ctr):=[]
theorem h73:aH Tryz.prog Wm:=trivial
noncomputable abbrev Wn:Cfg:=aL Tryz.prog (look? IL) (look? Wm) (look? bw) (([]:List (Nat×Bool)).map (·.1)) hn.kl hn.pf
theorem abR:am Wn (aw IL) []:=trivial
noncomputable abbrev Wo:Nat×Lps:=(1004672,⟨uw,ux,pu⟩)
theorem abS:am Wn (aw IL) [Wo]:=aT (H:=hn) (n:=60) (live:=[6,7,8,1004672]) (b:=aa3) (ps:=uw) (os:=ux) (st:=gB) h73 ak abR (by kernel_rfl) (by kernel_rfl) (fun x=>by kernel_rfl)
noncomputable def Wp:Ctr:=⟨bL,.cons (.b) (.nil),[(true,8)],[(false,1)],[],wx⟩
theorem k73:az Tryz.prog 73 Wp:=aA (H:=hn) (n:=60) aB agX h73 ak abS rfl rfl (fun x=>by kernel_rfl)
noncomputable def lF:List (Nat×CF):=[(114,uq)]
theorem abT:aS Tryz.prog lF:=⟨⟨_,_,Tryz.func114,aft⟩,trivial⟩
noncomputable def PJ:List (Nat×Ctr):=[(161,VJ)]
theorem pH:aH Tryz.prog PJ:=⟨agz,trivial⟩
noncomputable abbrev pa:Cfg:=aL Tryz.prog (look? lF) (look? PJ) (look? bw) (([]:List (Nat×Bool)).map (·.1)) hn.kl hn.pf
theorem Wq:am pa (aw lF) []:=trivial
noncomputable abbrev lm:Nat×Lps:=(1007302,⟨rI,rJ,nK⟩)
theorem Wr:am pa (aw lF) [lm]:=aT (H:=hn) (n:=60) (live:=[6,97,98,1007302]) (b:=Us) (ps:=rI) (os:=rJ) (st:=fN) pH ak Wq (by kernel_rfl) (by kernel_rfl) (fun x=>by kernel_rfl)
noncomputable abbrev mX:Nat×Lps:=(1007301,⟨rK,rL,nL⟩)
theorem Ws:am pa (aw lF) [mX,lm]:=aT (H:=hn) (n:=60) (live:=[3,6,11,12,59,60,63,64,67,68,1007301]) (b:=Up) (ps:=rK) (os:=rL) (st:=fO) pH ak Wr (by kernel_rfl) (by kernel_rfl) (fun x=>by kernel_rfl)
noncomputable abbrev qe:Nat×Lps:=(1007300,⟨rM,rN,nM⟩)
theorem Wt:am pa (aw lF) [qe,mX,lm]:=aT (H:=hn) (n:=60) (live:=[3,6,11,59,60,63,64,1007300]) (b:=Uq) (ps:=rM) (os:=rN) (st:=fP) pH ak Ws (by kernel_rfl) (by kernel_rfl) (fun x=>by kernel_rfl)
noncomputable abbrev vW:Nat×Lps:=(1007299,⟨rO,rP,nN⟩)
theorem Wu:am pa (aw lF) [vW,qe,mX,lm]:=aT (H:=hn) (n:=60) (live:=[3,6,59,60,1007299]) (b:=Ur) (ps:=rO) (os:=rP) (st:=fQ) pH ak Wt (by kernel_rfl) (by kernel_rfl) (fun x=>by kernel_rfl)
noncomputable abbrev AE:Nat×Lps:=(1007298,⟨rQ,rR,nO⟩)
theorem Wv:am pa (aw lF) [AE,vW,qe,mX,lm]:=aT (H:=hn) (n:=60) (live:=[3,6,7,39,40,41,47,48,49,1007298]) (b:=Un) (ps:=rQ) (os:=rR) (st:=fR) pH ak Wu (by kernel_rfl) (by kernel_rfl) (fun x=>by kernel_rfl)
noncomputable abbrev GJ:Nat×Lps:=(1007297,⟨rS,rT,nP⟩)
theorem Ww:am pa (aw lF) [GJ,AE,vW,qe,mX,lm]:=aT (H:=hn) (n:=60) (live:=[3,6,39,40,41,1007297]) (b:=Uo) (ps:=rS) (os:=rT) (st:=fS) pH ak Wv (by kernel_rfl) (by kernel_rfl) (fun x=>by kernel_rfl)
noncomputable abbrev Sv:Nat×Lps:=(1007296,⟨rU,rV,nQ⟩)
theorem Wx:am pa (aw lF) [Sv,GJ,AE,vW,qe,mX,lm]:=aT (H:=hn) (n:=60) (live:=[1,3,25,26,27,1007296]) (b:=Um) (ps:=rU) (os:=rV) (st:=fT) pH ak Ww (by kernel_rfl) (by kernel_rfl) (fun x=>by kernel_rfl)
noncomputable def xo:Ctr:=⟨.cons (qW) (.nil),.cons (.i .i64) (.nil),[(true,1)],[(false,1)],[],jy⟩
theorem AF:az Tryz.prog 114 xo:=aA (H:=hn) (n:=60) aB abT pH ak Wx rfl rfl (fun x=>by kernel_rfl)
noncomputable def IM:List (Nat×CF):=[(180,aes)]
theorem abU:aS Tryz.prog IM:=⟨⟨_,_,Tryz.func180,afu⟩,trivial⟩
noncomputable def PK:List (Nat×Ctr):=[(208,xm),(207,AD)]
theorem agY:aH Tryz.prog PK:=⟨AC,EI,trivial⟩
noncomputable abbrev abV:Cfg:=aL Tryz.prog (look? IM) (look? PK) (look? bw) (([]:List (Nat×Bool)).map (·.1)) hn.kl hn.pf
theorem Wy:am abV (aw IM) []:=trivial
noncomputable def Wz:Ctr:=⟨.cons (af) (.cons (ae) (.nil)),.cons (.b) (.nil),[(true,3),(true,5)],[(false,1)],[],EB⟩
theorem agZ:az Tryz.prog 180 Wz:=aA (H:=hn) (n:=60) aB abU agY ak Wy rfl rfl (fun x=>by kernel_rfl)
noncomputable def IP:List (Nat×CF):=[(240,aeu)]
theorem abW:aS Tryz.prog IP:=⟨⟨_,_,Tryz.func240,afw⟩,trivial⟩
noncomputable def PL:List (Nat×Ctr):=[(253,VR)]
theorem ag0:aH Tryz.prog PL:=⟨agE,trivial⟩
noncomputable abbrev abX:Cfg:=aL Tryz.prog (look? IP) (look? PL) (look? bw) (([]:List (Nat×Bool)).map (·.1)) hn.kl hn.pf
theorem WA:am abX (aw IP) []:=trivial
noncomputable def WB:Ctr:=⟨.cons (.row (.i .u8)) (.cons (.i .u8) (.nil)),.cons (.b) (.nil),[(false,1),(false,1)],[(false,1)],[],Iv⟩
theorem ag1:az Tryz.prog 240 WB:=aA (H:=hn) (n:=60) aB abW ag0 ak WA rfl rfl (fun x=>by kernel_rfl)
noncomputable def IQ:List (Nat×CF):=[(62,c62)]
theorem ag2:aS Tryz.prog IQ:=⟨⟨_,_,Tryz.func62,t62⟩,trivial⟩
noncomputable def WC:List (Nat×Ctr):=[(101,VW),(102,VY)]
theorem ii:aH Tryz.prog WC:=⟨agJ,agL,trivial⟩
noncomputable abbrev WD:Cfg:=aL Tryz.prog (look? IQ) (look? WC) (look? bw) (([(4,false)]:List (Nat×Bool)).map (·.1)) hn.kl hn.pf
theorem abY:am WD (aw IQ) []:=trivial
noncomputable abbrev WE:Nat×Lps:=(1003968,⟨uy,uz,pv⟩)
theorem abZ:am WD (aw IQ) [WE]:=aT (H:={hn with pr:=[(101,0,false)]}) (n:=60) (live:=[1,2,15,16,17,1003968]) (b:=aa4) (ps:=uy) (os:=uz) (st:=fp) ii ak abY (by kernel_rfl) (by kernel_rfl) (fun x=>match x with| .inl x=>(by kernel_rfl)| .inr (x)=>(by kernel_rfl))
noncomputable def ot:Ctr:=⟨.cons (ab) (.nil),.cons (ab) (.nil),[(true,5)],[(true,5)],[(4,false)],jX⟩
theorem pb:az Tryz.prog 62 ot:=aA (H:={hn with pr:=[(101,0,false)]}) (n:=60) aB ag2 ii ak abZ rfl rfl (fun x=>by kernel_rfl)
noncomputable def tb205:List (Nat×CF):=[(205,Uu)]
theorem td205:aS Tryz.prog tb205:=⟨⟨_,_,Tryz.func205,UM⟩,trivial⟩
noncomputable def ct205:List (Nat×Ctr):=[(234,K234)]
theorem h205:aH Tryz.prog ct205:=⟨k234,trivial⟩
noncomputable abbrev gg205:Cfg:=aL Tryz.prog (look? tb205) (look? ct205) (look? bw) (([]:List (Nat×Bool)).map (·.1)) hn.kl hn.pf
theorem l205_0:am gg205 (aw tb205) []:=trivial
noncomputable def K205:Ctr:=⟨.cons (.i .i64) (.cons (.i .i64) (.nil)),.cons (.i .i64) (.nil),[(false,1),(false,1)],[(false,1)],[],F205⟩
theorem k205:az Tryz.prog 205 K205:=aA (H:=hn) (n:=60) aB td205 h205 ak l205_0 rfl rfl (fun x=>by kernel_rfl)
noncomputable def IR:List (Nat×CF):=[(210,aev)]
theorem ab0:aS Tryz.prog IR:=⟨⟨_,_,Tryz.func210,afx⟩,trivial⟩
noncomputable def PM:List (Nat×Ctr):=[(236,Wd)]
theorem ag3:aH Tryz.prog PM:=⟨agM,trivial⟩
noncomputable abbrev ab1:Cfg:=aL Tryz.prog (look? IR) (look? PM) (look? bw) (([]:List (Nat×Bool)).map (·.1)) hn.kl hn.pf
theorem WF:am ab1 (aw IR) []:=trivial
noncomputable def Nh:Ctr:=⟨.cons (af) (.cons (ae) (.cons (.i .i64) (.nil))),.cons (ae) (.nil),[(true,3),(true,5),(false,1)],[(true,5)],[],EC⟩
theorem WG:az Tryz.prog 210 Nh:=aA (H:=hn) (n:=60) aB ab0 ag3 ak WF rfl rfl (fun x=>by kernel_rfl)
noncomputable def tb213:List (Nat×CF):=[(213,Uv)]
theorem td213:aS Tryz.prog tb213:=⟨⟨_,_,Tryz.func213,UN⟩,trivial⟩
noncomputable def ct213:List (Nat×Ctr):=[(205,K205),(214,K214)]
theorem h213:aH Tryz.prog ct213:=⟨k205,k214,trivial⟩
noncomputable abbrev gg213:Cfg:=aL Tryz.prog (look? tb213) (look? ct213) (look? bw) (([]:List (Nat×Bool)).map (·.1)) hn.kl hn.pf
theorem l213_0:am gg213 (aw tb213) []:=trivial
noncomputable def K213:Ctr:=⟨.cons (au) (.cons (au) (.nil)),.cons (.i .i64) (.nil),[(true,3),(true,3)],[(false,1)],[],F213⟩
theorem k213:az Tryz.prog 213 K213:=aA (H:=hn) (n:=60) aB td213 h213 ak l213_0 rfl rfl (fun x=>by kernel_rfl)
noncomputable def Cw:List (Nat×CF):=[(25,Uw)]
theorem ab2:aS Tryz.prog Cw:=⟨⟨_,_,Tryz.func25,t25⟩,trivial⟩
noncomputable def PN:List (Nat×Ctr):=[(61,EK),(62,ot)]
theorem WH:aH Tryz.prog PN:=⟨GI,pb,trivial⟩
noncomputable abbrev PO:Cfg:=aL Tryz.prog (look? Cw) (look? PN) (look? bw) (([(6,true),(7,true)]:List (Nat×Bool)).map (·.1)) hn.kl hn.pf
theorem WI:am PO (aw Cw) []:=trivial
noncomputable abbrev Sw:Nat×Lps:=(1001600,⟨rW,rX,nR⟩)
theorem WJ:am PO (aw Cw) [Sw]:=aT (H:={hn with pr:=[(61,0,false)]}) (n:=60) (live:=[1,2,13,14,15,1001600]) (b:=OC) (ps:=rW) (os:=rX) (st:=eJ) WH ak WI (by kernel_rfl) (by kernel_rfl) (fun x=>match x with| .inl x=>(by kernel_rfl)| .inr (x)=>(by kernel_rfl))
noncomputable def ag4:Ctr:=⟨bL,bL,[(true,8)],[(true,8)],[(6,true),(7,true)],MW⟩
theorem ag5:az Tryz.prog 25 ag4:=aA (H:={hn with pr:=[(61,0,false)]}) (n:=60) aB ab2 WH ak WJ rfl rfl (fun x=>by kernel_rfl)
noncomputable def Cx:List (Nat×CF):=[(25,Uw)]
theorem ab3:aS Tryz.prog Cx:=⟨⟨_,_,Tryz.func25,t25⟩,trivial⟩
noncomputable def PP:List (Nat×Ctr):=[(61,EK),(62,ot)]
theorem WK:aH Tryz.prog PP:=⟨GI,pb,trivial⟩
noncomputable abbrev PQ:Cfg:=aL Tryz.prog (look? Cx) (look? PP) (look? bw) (([(6,true),(7,true)]:List (Nat×Bool)).map (·.1)) hn.kl hn.pf
theorem WL:am PQ (aw Cx) []:=trivial
noncomputable abbrev Sx:Nat×Lps:=(1001600,⟨rY,rZ,nS⟩)
theorem WM:am PQ (aw Cx) [Sx]:=aT (H:={hn with pr:=[(61,0,true)]}) (n:=60) (live:=[1,2,13,14,15,1001600]) (b:=OC) (ps:=rY) (os:=rZ) (st:=eK) WK ak WL (by kernel_rfl) (by kernel_rfl) (fun x=>match x with| .inl x=>(by kernel_rfl)| .inr (x)=>(by kernel_rfl))
noncomputable def ag6:Ctr:=⟨bL,bL,[(true,8)],[(true,8)],[(6,true),(7,true)],MX⟩
theorem ag7:az Tryz.prog 25 ag6:=aA (H:={hn with pr:=[(61,0,true)]}) (n:=60) aB ab3 WK ak WM rfl rfl (fun x=>by kernel_rfl)
noncomputable def GK:Ctr:=⟨bL,bL,[(true,8)],[(true,8)],[(6,true),(7,true)],cE⟩
theorem Lj:az Tryz.prog 25 GK:=by
 have h:= @vR Tryz.prog 25 (bL) (bL) _ _ _ _ _ (fun x=>isEmpty x.1.2.2.2.2.2.2.2.1) ag7 ag5
 exact h
noncomputable def Ni:List (Nat×CF):=[(95,c95),(133,aem),(134,aen),(135,aeo),(136,aep)]
theorem ag8:aS Tryz.prog Ni:=⟨⟨_,_,Tryz.func95,t95⟩,⟨_,_,Tryz.func133,afn⟩,⟨_,_,Tryz.func134,afo⟩,⟨_,_,Tryz.func135,afp⟩,⟨_,_,Tryz.func136,afq⟩,trivial⟩
noncomputable def WN:List (Nat×Ctr):=[]
theorem h95:aH Tryz.prog WN:=trivial
noncomputable abbrev ag9:Cfg:=aL Tryz.prog (look? Ni) (look? WN) (look? bw) (([]:List (Nat×Bool)).map (·.1)) hn.kl hn.pf
theorem ab4:am ag9 (aw Ni) []:=trivial
noncomputable def K95:Ctr:=⟨.cons (ae) (.cons (.i .i64) (.nil)),.cons (.i .i64) (.nil),[(true,5),(false,1)],[(false,1)],[],Pj⟩
theorem k95:az Tryz.prog 95 K95:=aA (H:=hn) (n:=60) aB ag8 h95 ak ab4 rfl rfl (fun x=>by kernel_rfl)
noncomputable def Nj:List (Nat×CF):=[(94,c94)]
theorem aha:aS Tryz.prog Nj:=⟨⟨_,_,Tryz.func94,t94⟩,trivial⟩
noncomputable def WO:List (Nat×Ctr):=[(45,K45)]
theorem h94:aH Tryz.prog WO:=⟨k45,trivial⟩
noncomputable abbrev ahb:Cfg:=aL Tryz.prog (look? Nj) (look? WO) (look? bw) (([]:List (Nat×Bool)).map (·.1)) hn.kl hn.pf
theorem ab5:am ahb (aw Nj) []:=trivial
noncomputable def K94:Ctr:=⟨.cons (ab) (.nil),.cons (.b) (.nil),[(true,5)],[(false,1)],[],Pk⟩
theorem k94:az Tryz.prog 94 K94:=aA (H:=hn) (n:=60) aB aha h94 ak ab5 rfl rfl (fun x=>by kernel_rfl)
noncomputable def IU:List (Nat×CF):=[(130,aew)]
theorem ab6:aS Tryz.prog IU:=⟨⟨_,_,Tryz.func130,afy⟩,trivial⟩
noncomputable def PR:List (Nat×Ctr):=[(179,VL),(180,Wz)]
theorem ahc:aH Tryz.prog PR:=⟨agB,agZ,trivial⟩
noncomputable abbrev ab7:Cfg:=aL Tryz.prog (look? IU) (look? PR) (look? bw) (([]:List (Nat×Bool)).map (·.1)) hn.kl hn.pf
theorem WP:am ab7 (aw IU) []:=trivial
noncomputable def IV:Ctr:=⟨.cons (af) (.cons (ae) (.nil)),.cons (.i .i64) (.nil),[(true,3),(true,5)],[(false,1)],[],Ab⟩
theorem Nk:az Tryz.prog 130 IV:=aA (H:=hn) (n:=60) aB ab6 ahc ak WP rfl rfl (fun x=>by kernel_rfl)
noncomputable def Cy:List (Nat×CF):=[(181,aex),(220,aeg),(219,aet),(239,Ub)]
theorem ab8:aS Tryz.prog Cy:=⟨⟨_,_,Tryz.func181,afz⟩,⟨_,_,Tryz.func220,afc⟩,⟨_,_,Tryz.func219,afv⟩,⟨_,_,Tryz.func239,afd⟩,trivial⟩
noncomputable def PT:List (Nat×Ctr):=[]
theorem WQ:aH Tryz.prog PT:=trivial
noncomputable abbrev PU:Cfg:=aL Tryz.prog (look? Cy) (look? PT) (look? bw) (([]:List (Nat×Bool)).map (·.1)) hn.kl hn.pf
theorem WR:am PU (aw Cy) []:=trivial
noncomputable abbrev Sy:Nat×Lps:=(1015296,⟨sa,sb,nT⟩)
theorem WS:am PU (aw Cy) [Sy]:=aT (H:=hn) (n:=60) (live:=[0,1,7,8,1015296]) (b:=Uc) (ps:=sa) (os:=sb) (st:=fU) WQ ak WR (by kernel_rfl) (by kernel_rfl) (fun x=>by kernel_rfl)
noncomputable def IW:Ctr:=⟨.cons (ab) (.cons (af) (.nil)),.cons (.b) (.nil),[(true,5),(true,3)],[(false,1)],[],Ac⟩
theorem Nl:az Tryz.prog 181 IW:=aA (H:=hn) (n:=60) aB ab8 WQ ak WS rfl rfl (fun x=>by kernel_rfl)
noncomputable def IX:List (Nat×CF):=[(222,aey)]
theorem ab9:aS Tryz.prog IX:=⟨⟨_,_,Tryz.func222,afA⟩,trivial⟩
noncomputable def PW:List (Nat×Ctr):=[(240,WB)]
theorem ahd:aH Tryz.prog PW:=⟨ag1,trivial⟩
noncomputable abbrev aca:Cfg:=aL Tryz.prog (look? IX) (look? PW) (look? bw) (([]:List (Nat×Bool)).map (·.1)) hn.kl hn.pf
theorem WT:am aca (aw IX) []:=trivial
noncomputable def Nn:Ctr:=⟨.cons (ae) (.cons (.row (.i .u8)) (.nil)),.cons (.b) (.nil),[(true,5),(false,1)],[(false,1)],[],ED⟩
theorem WU:az Tryz.prog 222 Nn:=aA (H:=hn) (n:=60) aB ab9 ahd ak WT rfl rfl (fun x=>by kernel_rfl)
noncomputable def IY:List (Nat×CF):=[(235,aeA)]
theorem acb:aS Tryz.prog IY:=⟨⟨_,_,Tryz.func235,afC⟩,trivial⟩
noncomputable def PX:List (Nat×Ctr):=[(130,IV)]
theorem ahe:aH Tryz.prog PX:=⟨Nk,trivial⟩
noncomputable abbrev acd:Cfg:=aL Tryz.prog (look? IY) (look? PX) (look? bw) (([]:List (Nat×Bool)).map (·.1)) hn.kl hn.pf
theorem WV:am acd (aw IY) []:=trivial
noncomputable def WW:Ctr:=⟨.cons (af) (.cons (ae) (.cons (.b) (.nil))),.cons (.i .i64) (.nil),[(true,3),(true,5),(false,1)],[(false,1)],[],Iw⟩
theorem ahf:az Tryz.prog 235 WW:=aA (H:=hn) (n:=60) aB acb ahe ak WV rfl rfl (fun x=>by kernel_rfl)
noncomputable def IZ:List (Nat×CF):=[(211,aeC)]
theorem ace:aS Tryz.prog IZ:=⟨⟨_,_,Tryz.func211,afE⟩,trivial⟩
noncomputable def PY:List (Nat×Ctr):=[(130,IV)]
theorem ahg:aH Tryz.prog PY:=⟨Nk,trivial⟩
noncomputable abbrev acf:Cfg:=aL Tryz.prog (look? IZ) (look? PY) (look? bw) (([]:List (Nat×Bool)).map (·.1)) hn.kl hn.pf
theorem WX:am acf (aw IZ) []:=trivial
noncomputable def vl:Ctr:=⟨.cons (af) (.cons (ae) (.nil)),.cons (ae) (.cons (.i .i64) (.nil)),[(true,3),(true,5)],[(true,5),(false,1)],[],pw⟩
theorem xp:az Tryz.prog 211 vl:=aA (H:=hn) (n:=60) aB ace ahg ak WX rfl rfl (fun x=>by kernel_rfl)
noncomputable def yZ:List (Nat×CF):=[(175,MK)]
theorem acg:aS Tryz.prog yZ:=⟨⟨_,_,Tryz.func175,afF⟩,trivial⟩
noncomputable def PZ:List (Nat×Ctr):=[(176,vk),(213,K213)]
theorem Np:aH Tryz.prog PZ:=⟨xn,k213,trivial⟩
noncomputable abbrev Ja:Cfg:=aL Tryz.prog (look? yZ) (look? PZ) (look? bw) (([(0,true)]:List (Nat×Bool)).map (·.1)) hn.kl hn.pf
theorem WY:am Ja (aw yZ) []:=trivial
noncomputable abbrev GL:Nat×Lps:=(1011201,⟨sd,se,jD⟩)
theorem WZ:am Ja (aw yZ) [GL]:=aT (H:=hn) (n:=60) (live:=[1,5,7,10,11,12,17,18,19,1011201]) (b:=Ux) (ps:=sd) (os:=se) (st:=eL) Np ak WY (by kernel_rfl) (by kernel_rfl) (fun x=>match x with| .inl x=>(by kernel_rfl)| .inr (x)=>(by kernel_rfl))
noncomputable abbrev Sz:Nat×Lps:=(1011200,⟨sf,sg,nU⟩)
theorem Xa:am Ja (aw yZ) [Sz,GL]:=aT (H:=hn) (n:=60) (live:=[1,5,10,11,12,1011200]) (b:=Uy) (ps:=sf) (os:=sg) (st:=eM) Np ak WZ (by kernel_rfl) (by kernel_rfl) (fun x=>match x with| .inl x=>(by kernel_rfl)| .inr (x)=>(by kernel_rfl))
noncomputable def Nq:Ctr:=⟨.cons (.row (ab)) (.cons (.i .i64) (.nil)),.cons (.row (au)) (.nil),[(false,1),(false,1)],[(false,1)],[(0,true)],Ad⟩
theorem Xb:az Tryz.prog 175 Nq:=aA (H:=hn) (n:=60) aB acg Np ak Xa rfl rfl (fun x=>by kernel_rfl)
noncomputable def EM:List (Nat×CF):=[(57,Uz)]
theorem ahh:aS Tryz.prog EM:=⟨⟨_,_,Tryz.func57,t57⟩,trivial⟩
noncomputable def Xc:List (Nat×Ctr):=[(95,K95)]
theorem Xd:aH Tryz.prog Xc:=⟨k95,trivial⟩
noncomputable abbrev Nr:Cfg:=aL Tryz.prog (look? EM) (look? Xc) (look? bw) (([]:List (Nat×Bool)).map (·.1)) hn.kl hn.pf
theorem ach:am Nr (aw EM) []:=trivial
noncomputable abbrev Lk:Nat×Lps:=(1003649,⟨uA,uB,px⟩)
theorem aci:am Nr (aw EM) [Lk]:=aT (H:=hn) (n:=60) (live:=[3,5,9,10,11,19,20,21,1003649]) (b:=aa5) (ps:=uA) (os:=uB) (st:=gC) Xd ak ach (by kernel_rfl) (by kernel_rfl) (fun x=>by kernel_rfl)
noncomputable abbrev Xe:Nat×Lps:=(1003648,⟨uC,uD,py⟩)
theorem acj:am Nr (aw EM) [Xe,Lk]:=aT (H:=hn) (n:=60) (live:=[3,9,10,11,1003648]) (b:=aa6) (ps:=uC) (os:=uD) (st:=gD) Xd ak aci (by kernel_rfl) (by kernel_rfl) (fun x=>by kernel_rfl)
noncomputable def K57:Ctr:=⟨bL,.cons (.i .i64) (.nil),[(true,8)],[(false,1)],[],Pl⟩
theorem k57:az Tryz.prog 57 K57:=aA (H:=hn) (n:=60) aB ahh Xd ak acj rfl rfl (fun x=>by kernel_rfl)
noncomputable def Jb:List (Nat×CF):=[(56,c56)]
theorem ahi:aS Tryz.prog Jb:=⟨⟨_,_,Tryz.func56,t56⟩,trivial⟩
noncomputable def Xf:List (Nat×Ctr):=[(94,K94)]
theorem Xg:aH Tryz.prog Xf:=⟨k94,trivial⟩
noncomputable abbrev Xh:Cfg:=aL Tryz.prog (look? Jb) (look? Xf) (look? bw) (([]:List (Nat×Bool)).map (·.1)) hn.kl hn.pf
theorem acl:am Xh (aw Jb) []:=trivial
noncomputable abbrev Xi:Nat×Lps:=(1003584,⟨uE,uF,pA⟩)
theorem acm:am Xh (aw Jb) [Xi]:=aT (H:=hn) (n:=60) (live:=[0,3,1003584]) (b:=aa7) (ps:=uE) (os:=uF) (st:=gE) Xg ak acl (by kernel_rfl) (by kernel_rfl) (fun x=>by kernel_rfl)
noncomputable def K56:Ctr:=⟨.cons (.row (ab)) (.nil),.cons (.b) (.nil),[(false,1)],[(false,1)],[],Pm⟩
theorem k56:az Tryz.prog 56 K56:=aA (H:=hn) (n:=60) aB ahi Xg ak acm rfl rfl (fun x=>by kernel_rfl)
noncomputable def Cz:List (Nat×CF):=[(183,aeE),(223,aez),(53,Ut),(93,Oy)]
theorem acn:aS Tryz.prog Cz:=⟨⟨_,_,Tryz.func183,afH⟩,⟨_,_,Tryz.func223,afB⟩,⟨_,_,Tryz.func53,UL⟩,⟨_,_,Tryz.func93,UI⟩,trivial⟩
noncomputable def Qa:List (Nat×Ctr):=[(222,Nn)]
theorem Xj:aH Tryz.prog Qa:=⟨WU,trivial⟩
noncomputable abbrev Qb:Cfg:=aL Tryz.prog (look? Cz) (look? Qa) (look? bw) (([]:List (Nat×Bool)).map (·.1)) hn.kl hn.pf
theorem Xk:am Qb (aw Cz) []:=trivial
noncomputable abbrev SA:Nat×Lps:=(1005952,⟨sj,so,nV⟩)
theorem Xl:am Qb (aw Cz) [SA]:=aT (H:=hn) (n:=60) (live:=[0,1,7,8,1005952]) (b:=HZ) (ps:=sj) (os:=so) (st:=fV) Xj ak Xk (by kernel_rfl) (by kernel_rfl) (fun x=>by kernel_rfl)
noncomputable def Xm:Ctr:=⟨.cons (ab) (.cons (.row (.i .u8)) (.nil)),.cons (.b) (.nil),[(true,5),(false,1)],[(false,1)],[],Ae⟩
theorem ahj:az Tryz.prog 183 Xm:=aA (H:=hn) (n:=60) aB acn Xj ak Xl rfl rfl (fun x=>by kernel_rfl)
noncomputable def Jc:List (Nat×CF):=[(206,aeF)]
theorem aco:aS Tryz.prog Jc:=⟨⟨_,_,Tryz.func206,afI⟩,trivial⟩
noncomputable def Qc:List (Nat×Ctr):=[(235,WW)]
theorem ahk:aH Tryz.prog Qc:=⟨ahf,trivial⟩
noncomputable abbrev acp:Cfg:=aL Tryz.prog (look? Jc) (look? Qc) (look? bw) (([]:List (Nat×Bool)).map (·.1)) hn.kl hn.pf
theorem Xn:am acp (aw Jc) []:=trivial
noncomputable def AG:Ctr:=⟨.cons (af) (.cons (ae) (.cons (.b) (.cons (.i .u8) (.nil)))),.cons (.i .i64) (.nil),[(true,3),(true,5),(false,1),(false,1)],[(false,1)],[],gF⟩
theorem EN:az Tryz.prog 206 AG:=aA (H:=hn) (n:=60) aB aco ahk ak Xn rfl rfl (fun x=>by kernel_rfl)
noncomputable def Jd:List (Nat×CF):=[(167,aeG)]
theorem acq:aS Tryz.prog Jd:=⟨⟨_,_,Tryz.func167,afJ⟩,trivial⟩
noncomputable def Qd:List (Nat×Ctr):=[(207,AD),(208,xm),(206,AG)]
theorem h167:aH Tryz.prog Qd:=⟨EI,AC,EN,trivial⟩
noncomputable abbrev acr:Cfg:=aL Tryz.prog (look? Jd) (look? Qd) (look? bw) (([]:List (Nat×Bool)).map (·.1)) hn.kl hn.pf
theorem Xo:am acr (aw Jd) []:=trivial
noncomputable def Xp:Ctr:=⟨.cons (af) (.cons (ae) (.cons (.i .i64) (.cons (.i .i64) (.nil)))),.cons (ae) (.cons (.i .i64) (.nil)),[(true,3),(true,5),(false,1),(false,1)],[(true,5),(false,1)],[],uG⟩
theorem ahl:az Tryz.prog 167 Xp:=aA (H:=hn) (n:=60) aB acq h167 ak Xo rfl rfl (fun x=>by kernel_rfl)
noncomputable def Je:List (Nat×CF):=[(209,aeH)]
theorem acs:aS Tryz.prog Je:=⟨⟨_,_,Tryz.func209,afK⟩,trivial⟩
noncomputable def Qe:List (Nat×Ctr):=[(207,AD),(206,AG)]
theorem ahm:aH Tryz.prog Qe:=⟨EI,EN,trivial⟩
noncomputable abbrev act:Cfg:=aL Tryz.prog (look? Je) (look? Qe) (look? bw) (([]:List (Nat×Bool)).map (·.1)) hn.kl hn.pf
theorem Xq:am act (aw Je) []:=trivial
noncomputable def Jf:Ctr:=⟨.cons (af) (.cons (ae) (.cons (.b) (.cons (.i .i64) (.nil)))),.cons (.i .i64) (.nil),[(true,3),(true,5),(false,1),(false,1)],[(false,1)],[],Af⟩
theorem Ns:az Tryz.prog 209 Jf:=aA (H:=hn) (n:=60) aB acs ahm ak Xq rfl rfl (fun x=>by kernel_rfl)
noncomputable def Jg:List (Nat×CF):=[(171,aeI)]
theorem acu:aS Tryz.prog Jg:=⟨⟨_,_,Tryz.func171,afL⟩,trivial⟩
noncomputable def Qf:List (Nat×Ctr):=[(208,xm),(209,Jf),(210,Nh)]
theorem ahn:aH Tryz.prog Qf:=⟨AC,Ns,WG,trivial⟩
noncomputable abbrev acv:Cfg:=aL Tryz.prog (look? Jg) (look? Qf) (look? bw) (([]:List (Nat×Bool)).map (·.1)) hn.kl hn.pf
theorem Xr:am acv (aw Jg) []:=trivial
noncomputable def Xs:Ctr:=⟨.cons (af) (.cons (ae) (.cons (.i .i64) (.cons (.i .i64) (.nil)))),.cons (ae) (.cons (.i .i64) (.nil)),[(true,3),(true,5),(false,1),(false,1)],[(true,5),(false,1)],[],xg⟩
theorem aho:az Tryz.prog 171 Xs:=aA (H:=hn) (n:=60) aB acu ahn ak Xr rfl rfl (fun x=>by kernel_rfl)
noncomputable def Jh:List (Nat×CF):=[(173,aeJ)]
theorem acw:aS Tryz.prog Jh:=⟨⟨_,_,Tryz.func173,afM⟩,trivial⟩
noncomputable def Qg:List (Nat×Ctr):=[(208,xm),(209,Jf)]
theorem ahp:aH Tryz.prog Qg:=⟨AC,Ns,trivial⟩
noncomputable abbrev acx:Cfg:=aL Tryz.prog (look? Jh) (look? Qg) (look? bw) (([]:List (Nat×Bool)).map (·.1)) hn.kl hn.pf
theorem Xt:am acx (aw Jh) []:=trivial
noncomputable def Xu:Ctr:=⟨.cons (af) (.cons (ae) (.cons (.i .i64) (.cons (.i .i64) (.nil)))),.cons (ae) (.cons (.i .i64) (.nil)),[(true,3),(true,5),(false,1),(false,1)],[(true,5),(false,1)],[],Ag⟩
theorem ahq:az Tryz.prog 173 Xu:=aA (H:=hn) (n:=60) aB acw ahp ak Xt rfl rfl (fun x=>by kernel_rfl)
noncomputable def Ji:List (Nat×CF):=[(216,aeK)]
theorem acy:aS Tryz.prog Ji:=⟨⟨_,_,Tryz.func216,afN⟩,trivial⟩
noncomputable def Qh:List (Nat×Ctr):=[(207,AD),(208,xm),(206,AG),(176,vk)]
theorem ahr:aH Tryz.prog Qh:=⟨EI,AC,EN,xn,trivial⟩
noncomputable abbrev acz:Cfg:=aL Tryz.prog (look? Ji) (look? Qh) (look? bw) (([]:List (Nat×Bool)).map (·.1)) hn.kl hn.pf
theorem Xv:am acz (aw Ji) []:=trivial
noncomputable def Xw:Ctr:=⟨.cons (af) (.cons (ae) (.cons (.i .i64) (.cons (.i .i64) (.nil)))),.cons (ae) (.cons (.i .i64) (.nil)),[(true,3),(true,5),(false,1),(false,1)],[(true,5),(false,1)],[],Ah⟩
theorem ahs:az Tryz.prog 216 Xw:=aA (H:=hn) (n:=60) aB acy ahr ak Xv rfl rfl (fun x=>by kernel_rfl)
noncomputable def Jj:List (Nat×CF):=[(218,aeL)]
theorem acA:aS Tryz.prog Jj:=⟨⟨_,_,Tryz.func218,afO⟩,trivial⟩
noncomputable def Qi:List (Nat×Ctr):=[(208,xm),(206,AG),(176,vk),(210,Nh)]
theorem aht:aH Tryz.prog Qi:=⟨AC,EN,xn,WG,trivial⟩
noncomputable abbrev acB:Cfg:=aL Tryz.prog (look? Jj) (look? Qi) (look? bw) (([]:List (Nat×Bool)).map (·.1)) hn.kl hn.pf
theorem Xx:am acB (aw Jj) []:=trivial
noncomputable def Xy:Ctr:=⟨.cons (af) (.cons (ae) (.cons (.i .i64) (.nil))),.cons (ae) (.cons (.i .i64) (.nil)),[(true,3),(true,5),(false,1)],[(true,5),(false,1)],[],Ai⟩
theorem ahu:az Tryz.prog 218 Xy:=aA (H:=hn) (n:=60) aB acA aht ak Xx rfl rfl (fun x=>by kernel_rfl)
noncomputable def Nt:List (Nat×CF):=[(21,c21)]
theorem ahv:aS Tryz.prog Nt:=⟨⟨_,_,Tryz.func21,t21⟩,trivial⟩
noncomputable def Xz:List (Nat×Ctr):=[(56,K56)]
theorem h21:aH Tryz.prog Xz:=⟨k56,trivial⟩
noncomputable abbrev ahw:Cfg:=aL Tryz.prog (look? Nt) (look? Xz) (look? bw) (([]:List (Nat×Bool)).map (·.1)) hn.kl hn.pf
theorem acC:am ahw (aw Nt) []:=trivial
noncomputable def K21:Ctr:=⟨bL,.cons (.b) (.nil),[(true,8)],[(false,1)],[],Pn⟩
theorem k21:az Tryz.prog 21 K21:=aA (H:=hn) (n:=60) aB ahv h21 ak acC rfl rfl (fun x=>by kernel_rfl)
noncomputable def CA:List (Nat×CF):=[(182,aeM),(221,aeD),(53,Ut),(93,Oy)]
theorem acD:aS Tryz.prog CA:=⟨⟨_,_,Tryz.func182,afP⟩,⟨_,_,Tryz.func221,afG⟩,⟨_,_,Tryz.func53,UL⟩,⟨_,_,Tryz.func93,UI⟩,trivial⟩
noncomputable def Qj:List (Nat×Ctr):=[(222,Nn)]
theorem AH:aH Tryz.prog Qj:=⟨WU,trivial⟩
noncomputable abbrev Qk:Cfg:=aL Tryz.prog (look? CA) (look? Qj) (look? bw) (([]:List (Nat×Bool)).map (·.1)) hn.kl hn.pf
theorem XA:am Qk (aw CA) []:=trivial
noncomputable abbrev SC:Nat×Lps:=(1005952,⟨su,sv,nW⟩)
theorem XB:am Qk (aw CA) [SC]:=aT (H:=hn) (n:=60) (live:=[0,1,7,8,1005952]) (b:=HZ) (ps:=su) (os:=sv) (st:=fW) AH ak XA (by kernel_rfl) (by kernel_rfl) (fun x=>by kernel_rfl)
noncomputable def vm:Ctr:=⟨.cons (ab) (.cons (.row (.i .u8)) (.nil)),.cons (.b) (.nil),[(true,5),(false,1)],[(false,1)],[],jE⟩
theorem xq:az Tryz.prog 182 vm:=aA (H:=hn) (n:=60) aB acD AH ak XB rfl rfl (fun x=>by kernel_rfl)
noncomputable def Jk:List (Nat×CF):=[(202,aeN)]
theorem acE:aS Tryz.prog Jk:=⟨⟨_,_,Tryz.func202,afQ⟩,trivial⟩
noncomputable def Ql:List (Nat×Ctr):=[(207,AD),(206,AG)]
theorem ahx:aH Tryz.prog Ql:=⟨EI,EN,trivial⟩
noncomputable abbrev acF:Cfg:=aL Tryz.prog (look? Jk) (look? Ql) (look? bw) (([]:List (Nat×Bool)).map (·.1)) hn.kl hn.pf
theorem XC:am acF (aw Jk) []:=trivial
noncomputable def Nu:Ctr:=⟨.cons (af) (.cons (ae) (.cons (.i .i64) (.nil))),.cons (ae) (.cons (.i .i64) (.nil)),[(true,3),(true,5),(false,1)],[(true,5),(false,1)],[],EE⟩
theorem XD:az Tryz.prog 202 Nu:=aA (H:=hn) (n:=60) aB acE ahx ak XC rfl rfl (fun x=>by kernel_rfl)
noncomputable def Jl:List (Nat×CF):=[(169,aeP)]
theorem acG:aS Tryz.prog Jl:=⟨⟨_,_,Tryz.func169,afS⟩,trivial⟩
noncomputable def Qm:List (Nat×Ctr):=[(209,Jf)]
theorem ahy:aH Tryz.prog Qm:=⟨Ns,trivial⟩
noncomputable abbrev acH:Cfg:=aL Tryz.prog (look? Jl) (look? Qm) (look? bw) (([]:List (Nat×Bool)).map (·.1)) hn.kl hn.pf
theorem XE:am acH (aw Jl) []:=trivial
noncomputable def XF:Ctr:=⟨.cons (af) (.cons (ae) (.cons (.i .i64) (.nil))),.cons (ae) (.cons (.i .i64) (.nil)),[(true,3),(true,5),(false,1)],[(true,5),(false,1)],[],Ix⟩
theorem ahz:az Tryz.prog 169 XF:=aA (H:=hn) (n:=60) aB acG ahy ak XE rfl rfl (fun x=>by kernel_rfl)
noncomputable def Nv:List (Nat×CF):=[(35,c35)]
theorem ahA:aS Tryz.prog Nv:=⟨⟨_,_,Tryz.func35,t35⟩,trivial⟩
noncomputable def XG:List (Nat×Ctr):=[(21,K21)]
theorem h35:aH Tryz.prog XG:=⟨k21,trivial⟩
noncomputable abbrev ahB:Cfg:=aL Tryz.prog (look? Nv) (look? XG) (look? bw) (([]:List (Nat×Bool)).map (·.1)) hn.kl hn.pf
theorem acI:am ahB (aw Nv) []:=trivial
noncomputable def K35:Ctr:=⟨.cons (cn) (.cons (.row (.b)) (.nil)),.cons (.b) (.nil),[(true,8),(false,1)],[(false,1)],[],Po⟩
theorem k35:az Tryz.prog 35 K35:=aA (H:=hn) (n:=60) aB ahA h35 ak acI rfl rfl (fun x=>by kernel_rfl)
noncomputable def CB:List (Nat×CF):=[(131,UA)]
theorem acJ:aS Tryz.prog CB:=⟨⟨_,_,Tryz.func131,afX⟩,trivial⟩
noncomputable def Qn:List (Nat×Ctr):=[(181,IW),(182,vm),(183,Xm)]
theorem XH:aH Tryz.prog Qn:=⟨Nl,xq,ahj,trivial⟩
noncomputable abbrev Qo:Cfg:=aL Tryz.prog (look? CB) (look? Qn) (look? bw) (([]:List (Nat×Bool)).map (·.1)) hn.kl hn.pf
theorem XI:am Qo (aw CB) []:=trivial
noncomputable abbrev SD:Nat×Lps:=(1008384,⟨sw,sx,nX⟩)
theorem XJ:am Qo (aw CB) [SD]:=aT (H:=hn) (n:=60) (live:=[1,11,12,13,1008384]) (b:=UB) (ps:=sw) (os:=sx) (st:=fX) XH ak XI (by kernel_rfl) (by kernel_rfl) (fun x=>by kernel_rfl)
noncomputable def XK:Ctr:=⟨.cons (ab) (.nil),.cons (.b) (.nil),[(true,5)],[(false,1)],[],Iy⟩
theorem ahC:az Tryz.prog 131 XK:=aA (H:=hn) (n:=60) aB acJ XH ak XJ rfl rfl (fun x=>by kernel_rfl)
noncomputable def Jm:List (Nat×CF):=[(89,c89)]
theorem ahD:aS Tryz.prog Jm:=⟨⟨_,_,Tryz.func89,t89⟩,trivial⟩
noncomputable def XL:List (Nat×Ctr):=[(114,xo),(130,IV),(131,XK)]
theorem h89:aH Tryz.prog XL:=⟨AF,Nk,ahC,trivial⟩
noncomputable abbrev XM:Cfg:=aL Tryz.prog (look? Jm) (look? XL) (look? bw) (([]:List (Nat×Bool)).map (·.1)) hn.kl hn.pf
theorem acK:am XM (aw Jm) []:=trivial
noncomputable abbrev XN:Nat×Lps:=(1005696,⟨uH,uI,pB⟩)
theorem acL:am XM (aw Jm) [XN]:=aT (H:=hn) (n:=60) (live:=[1,43,44,45,1005696]) (b:=aa8) (ps:=uH) (os:=uI) (st:=gG) h89 ak acK (by kernel_rfl) (by kernel_rfl) (fun x=>by kernel_rfl)
noncomputable def za:Ctr:=⟨.cons (ab) (.nil),.cons (.i .i64) (.nil),[(true,5)],[(false,1)],[],sy⟩
theorem BL:az Tryz.prog 89 za:=aA (H:=hn) (n:=60) aB ahD h89 ak acL rfl rfl (fun x=>by kernel_rfl)
noncomputable def CD:List (Nat×CF):=[(116,aeV),(163,ML)]
theorem acM:aS Tryz.prog CD:=⟨⟨_,_,Tryz.func116,afZ⟩,⟨_,_,Tryz.func163,UO⟩,trivial⟩
noncomputable def Qp:List (Nat×Ctr):=[(114,xo),(162,Nc),(62,ot),(181,IW),(202,Nu)]
theorem Jn:aH Tryz.prog Qp:=⟨AF,VU,pb,Nl,XD,trivial⟩
noncomputable abbrev Qq:Cfg:=aL Tryz.prog (look? CD) (look? Qp) (look? bw) (([]:List (Nat×Bool)).map (·.1)) hn.kl hn.pf
theorem XO:am Qq (aw CD) []:=trivial
noncomputable abbrev SE:Nat×Lps:=(1010432,⟨sA,sB,jH⟩)
theorem XP:am Qq (aw CD) [SE]:=aT (H:=hn) (n:=60) (live:=[1,2,9,10,11,1010432]) (b:=KZ) (ps:=sA) (os:=sB) (st:=fY) Jn ak XO (by kernel_rfl) (by kernel_rfl) (fun x=>by kernel_rfl)
noncomputable def EO:Ctr:=⟨.cons (.i .i64) (.cons (.s) (.cons (qW) (.cons (.i .i64) (.nil)))),.cons (ab) (.cons (.i .i64) (.cons (.i .i64) (.nil))),[(false,1),(false,1),(true,1),(false,1)],[(true,5),(false,1),(false,1)],[],qY⟩
theorem Jo:az Tryz.prog 116 EO:=aA (H:=hn) (n:=60) aB acM Jn ak XP rfl rfl (fun x=>by kernel_rfl)
noncomputable def zb:List (Nat×CF):=[(123,aeW),(168,aeU),(165,zY),(174,ur),(163,ML)]
theorem acN:aS Tryz.prog zb:=⟨⟨_,_,Tryz.func123,af0⟩,⟨_,_,Tryz.func168,afY⟩,⟨_,_,Tryz.func165,zZ⟩,⟨_,_,Tryz.func174,xf⟩,⟨_,_,Tryz.func163,UO⟩,trivial⟩
noncomputable def Qr:List (Nat×Ctr):=[(162,Nc),(169,XF),(89,za),(62,ot),(182,vm),(211,vl),(181,IW),(202,Nu)]
theorem Nw:aH Tryz.prog Qr:=⟨VU,ahz,BL,pb,xq,xp,Nl,XD,trivial⟩
noncomputable abbrev Jp:Cfg:=aL Tryz.prog (look? zb) (look? Qr) (look? bw) (([]:List (Nat×Bool)).map (·.1)) hn.kl hn.pf
theorem XQ:am Jp (aw zb) []:=trivial
noncomputable abbrev GM:Nat×Lps:=(1010432,⟨sC,sD,gH⟩)
theorem XR:am Jp (aw zb) [GM]:=aT (H:=hn) (n:=60) (live:=[1,2,9,10,11,1010432]) (b:=KZ) (ps:=sC) (os:=sD) (st:=sE) Nw ak XQ (by kernel_rfl) (by kernel_rfl) (fun x=>by kernel_rfl)
noncomputable abbrev SF:Nat×Lps:=(1011136,⟨sF,sG,uJ⟩)
theorem XS:am Jp (aw zb) [SF,GM]:=aT (H:=hn) (n:=60) (live:=[1,8,9,10,1011136]) (b:=nG) (ps:=sF) (os:=sG) (st:=sH) Nw ak XR (by kernel_rfl) (by kernel_rfl) (fun x=>by kernel_rfl)
noncomputable def EP:Ctr:=⟨.cons (ab) (au),.cons (ab) (.cons (.i .i64) (.cons (.i .i64) (.nil))),[(true,5),(false,1),(false,1),(false,1)],[(true,5),(false,1),(false,1)],[],xh⟩
theorem Jq:az Tryz.prog 123 EP:=aA (H:=hn) (n:=60) aB acN Nw ak XS rfl rfl (fun x=>by kernel_rfl)
noncomputable def CE:List (Nat×CF):=[(124,aeX),(170,aeQ),(165,zY),(174,ur)]
theorem acO:aS Tryz.prog CE:=⟨⟨_,_,Tryz.func124,af1⟩,⟨_,_,Tryz.func170,afT⟩,⟨_,_,Tryz.func165,zZ⟩,⟨_,_,Tryz.func174,xf⟩,trivial⟩
noncomputable def Qs:List (Nat×Ctr):=[(171,Xs),(89,za),(62,ot),(182,vm),(211,vl)]
theorem AJ:aH Tryz.prog Qs:=⟨aho,BL,pb,xq,xp,trivial⟩
noncomputable abbrev Qt:Cfg:=aL Tryz.prog (look? CE) (look? Qs) (look? bw) (([]:List (Nat×Bool)).map (·.1)) hn.kl hn.pf
theorem XT:am Qt (aw CE) []:=trivial
noncomputable abbrev SG:Nat×Lps:=(1011136,⟨sI,sJ,uK⟩)
theorem XU:am Qt (aw CE) [SG]:=aT (H:=hn) (n:=60) (live:=[1,8,9,10,1011136]) (b:=nG) (ps:=sI) (os:=sJ) (st:=sK) AJ ak XT (by kernel_rfl) (by kernel_rfl) (fun x=>by kernel_rfl)
noncomputable def EQ:Ctr:=⟨.cons (ab) (au),.cons (ab) (.cons (.i .i64) (.nil)),[(true,5),(false,1),(false,1),(false,1)],[(true,5),(false,1)],[],uL⟩
theorem Jr:az Tryz.prog 124 EQ:=aA (H:=hn) (n:=60) aB acO AJ ak XU rfl rfl (fun x=>by kernel_rfl)
noncomputable def CG:List (Nat×CF):=[(126,aeY),(172,aeR),(165,zY),(174,ur)]
theorem acP:aS Tryz.prog CG:=⟨⟨_,_,Tryz.func126,af2⟩,⟨_,_,Tryz.func172,afU⟩,⟨_,_,Tryz.func165,zZ⟩,⟨_,_,Tryz.func174,xf⟩,trivial⟩
noncomputable def Qu:List (Nat×Ctr):=[(173,Xu),(89,za),(62,ot),(182,vm),(211,vl)]
theorem XV:aH Tryz.prog Qu:=⟨ahq,BL,pb,xq,xp,trivial⟩
noncomputable abbrev Qv:Cfg:=aL Tryz.prog (look? CG) (look? Qu) (look? bw) (([]:List (Nat×Bool)).map (·.1)) hn.kl hn.pf
theorem XW:am Qv (aw CG) []:=trivial
noncomputable abbrev SH:Nat×Lps:=(1011136,⟨sL,sM,uM⟩)
theorem XX:am Qv (aw CG) [SH]:=aT (H:=hn) (n:=60) (live:=[1,8,9,10,1011136]) (b:=nG) (ps:=sL) (os:=sM) (st:=sN) XV ak XW (by kernel_rfl) (by kernel_rfl) (fun x=>by kernel_rfl)
noncomputable def ER:Ctr:=⟨.cons (ab) (au),.cons (ab) (.cons (.i .i64) (.nil)),[(true,5),(false,1),(false,1),(false,1)],[(true,5),(false,1)],[],EF⟩
theorem Js:az Tryz.prog 126 ER:=aA (H:=hn) (n:=60) aB acP XV ak XX rfl rfl (fun x=>by kernel_rfl)
noncomputable def CH:List (Nat×CF):=[(127,aeZ),(174,ur)]
theorem acQ:aS Tryz.prog CH:=⟨⟨_,_,Tryz.func127,af3⟩,⟨_,_,Tryz.func174,xf⟩,trivial⟩
noncomputable def Qw:List (Nat×Ctr):=[(89,za),(62,ot),(211,vl)]
theorem XY:aH Tryz.prog Qw:=⟨BL,pb,xp,trivial⟩
noncomputable abbrev Qx:Cfg:=aL Tryz.prog (look? CH) (look? Qw) (look? bw) (([]:List (Nat×Bool)).map (·.1)) hn.kl hn.pf
theorem XZ:am Qx (aw CH) []:=trivial
noncomputable abbrev SI:Nat×Lps:=(1011136,⟨sO,sP,nY⟩)
theorem Ya:am Qx (aw CH) [SI]:=aT (H:=hn) (n:=60) (live:=[1,8,9,10,1011136]) (b:=nG) (ps:=sO) (os:=sP) (st:=sQ) XY ak XZ (by kernel_rfl) (by kernel_rfl) (fun x=>by kernel_rfl)
noncomputable def ES:Ctr:=⟨.cons (ab) (.nil),.cons (ab) (.cons (.i .i64) (.nil)),[(true,5)],[(true,5),(false,1)],[],xi⟩
theorem Jt:az Tryz.prog 127 ES:=aA (H:=hn) (n:=60) aB acQ XY ak Ya rfl rfl (fun x=>by kernel_rfl)
noncomputable def CJ:List (Nat×CF):=[(177,ae0),(215,aeS),(165,zY),(174,ur)]
theorem acR:aS Tryz.prog CJ:=⟨⟨_,_,Tryz.func177,af4⟩,⟨_,_,Tryz.func215,afV⟩,⟨_,_,Tryz.func165,zZ⟩,⟨_,_,Tryz.func174,xf⟩,trivial⟩
noncomputable def Qy:List (Nat×Ctr):=[(216,Xw),(89,za),(62,ot),(182,vm),(211,vl)]
theorem Yb:aH Tryz.prog Qy:=⟨ahs,BL,pb,xq,xp,trivial⟩
noncomputable abbrev Qz:Cfg:=aL Tryz.prog (look? CJ) (look? Qy) (look? bw) (([]:List (Nat×Bool)).map (·.1)) hn.kl hn.pf
theorem Yc:am Qz (aw CJ) []:=trivial
noncomputable abbrev SJ:Nat×Lps:=(1011136,⟨sR,sS,uN⟩)
theorem Yd:am Qz (aw CJ) [SJ]:=aT (H:=hn) (n:=60) (live:=[1,8,9,10,1011136]) (b:=nG) (ps:=sR) (os:=sS) (st:=sT) Yb ak Yc (by kernel_rfl) (by kernel_rfl) (fun x=>by kernel_rfl)
noncomputable def ET:Ctr:=⟨.cons (ab) (au),.cons (ab) (.cons (.i .i64) (.nil)),[(true,5),(false,1),(false,1),(false,1)],[(true,5),(false,1)],[],nZ⟩
theorem Ju:az Tryz.prog 177 ET:=aA (H:=hn) (n:=60) aB acR Yb ak Yd rfl rfl (fun x=>by kernel_rfl)
noncomputable def CK:List (Nat×CF):=[(178,ae1),(217,aeT),(165,zY),(174,ur)]
theorem acS:aS Tryz.prog CK:=⟨⟨_,_,Tryz.func178,af5⟩,⟨_,_,Tryz.func217,afW⟩,⟨_,_,Tryz.func165,zZ⟩,⟨_,_,Tryz.func174,xf⟩,trivial⟩
noncomputable def QA:List (Nat×Ctr):=[(218,Xy),(89,za),(62,ot),(182,vm),(211,vl)]
theorem Ye:aH Tryz.prog QA:=⟨ahu,BL,pb,xq,xp,trivial⟩
noncomputable abbrev QB:Cfg:=aL Tryz.prog (look? CK) (look? QA) (look? bw) (([]:List (Nat×Bool)).map (·.1)) hn.kl hn.pf
theorem Yf:am QB (aw CK) []:=trivial
noncomputable abbrev SK:Nat×Lps:=(1011136,⟨sU,sV,uO⟩)
theorem Yg:am QB (aw CK) [SK]:=aT (H:=hn) (n:=60) (live:=[1,8,9,10,1011136]) (b:=nG) (ps:=sU) (os:=sV) (st:=sW) Ye ak Yf (by kernel_rfl) (by kernel_rfl) (fun x=>by kernel_rfl)
noncomputable def EU:Ctr:=⟨.cons (ab) (.cons (.i .i64) (.cons (.i .i64) (.nil))),.cons (ab) (.cons (.i .i64) (.nil)),[(true,5),(false,1),(false,1)],[(true,5),(false,1)],[],oc⟩
theorem Jv:az Tryz.prog 178 EU:=aA (H:=hn) (n:=60) aB acS Ye ak Yg rfl rfl (fun x=>by kernel_rfl)
noncomputable def AK:List (Nat×CF):=[(51,UC),(91,c91),(90,c90),(132,Uf),(92,c92)]
theorem ahE:aS Tryz.prog AK:=⟨⟨_,_,Tryz.func51,t51⟩,⟨_,_,Tryz.func91,t91⟩,⟨_,_,Tryz.func90,t90⟩,⟨_,_,Tryz.func132,aff⟩,⟨_,_,Tryz.func92,t92⟩,trivial⟩
noncomputable def Yh:List (Nat×Ctr):=[(89,za)]
theorem QC:aH Tryz.prog Yh:=⟨BL,trivial⟩
noncomputable abbrev Jw:Cfg:=aL Tryz.prog (look? AK) (look? Yh) (look? bw) (([]:List (Nat×Bool)).map (·.1)) hn.kl hn.pf
theorem acT:am Jw (aw AK) []:=trivial
noncomputable abbrev EV:Nat×Lps:=(1003265,⟨uP,uQ,gh⟩)
theorem acU:am Jw (aw AK) [EV]:=aT (H:=hn) (n:=60) (live:=[0,3,4,14,15,16,47,48,49,1003265]) (b:=aa9) (ps:=uP) (os:=uQ) (st:=gI) QC ak acT (by kernel_rfl) (by kernel_rfl) (fun x=>by kernel_rfl)
noncomputable abbrev Ll:Nat×Lps:=(1008448,⟨uR,uS,lE⟩)
theorem acV:am Jw (aw AK) [Ll,EV]:=aT (H:=hn) (n:=60) (live:=[0,1,7,8,1008448]) (b:=Ug) (ps:=uR) (os:=uS) (st:=gJ) QC ak acU (by kernel_rfl) (by kernel_rfl) (fun x=>by kernel_rfl)
noncomputable abbrev Yi:Nat×Lps:=(1003264,⟨uT,uU,pC⟩)
theorem acW:am Jw (aw AK) [Yi,Ll,EV]:=aT (H:=hn) (n:=60) (live:=[0,3,4,14,15,16,1003264]) (b:=aba) (ps:=uT) (os:=uU) (st:=gK) QC ak acV (by kernel_rfl) (by kernel_rfl) (fun x=>by kernel_rfl)
noncomputable def EW:Ctr:=⟨.cons (.row (ab)) (.nil),.cons (.i .i64) (.nil),[(false,1)],[(false,1)],[],ym⟩
theorem GN:az Tryz.prog 51 EW:=aA (H:=hn) (n:=60) aB ahE QC ak acW rfl rfl (fun x=>by kernel_rfl)
noncomputable def CL:List (Nat×CF):=[(115,UD)]
theorem acX:aS Tryz.prog CL:=⟨⟨_,_,Tryz.func115,af6⟩,trivial⟩
noncomputable def QD:List (Nat×Ctr):=[(51,EW)]
theorem AL:aH Tryz.prog QD:=⟨GN,trivial⟩
noncomputable abbrev QE:Cfg:=aL Tryz.prog (look? CL) (look? QD) (look? bw) (([]:List (Nat×Bool)).map (·.1)) hn.kl hn.pf
theorem Yj:am QE (aw CL) []:=trivial
noncomputable abbrev SL:Nat×Lps:=(1007360,⟨sX,sY,od⟩)
theorem Yk:am QE (aw CL) [SL]:=aT (H:=hn) (n:=60) (live:=[1,15,16,17,1007360]) (b:=UE) (ps:=sX) (os:=sY) (st:=fZ) AL ak Yj (by kernel_rfl) (by kernel_rfl) (fun x=>by kernel_rfl)
noncomputable def EY:Ctr:=⟨.cons (.row (ab)) (.cons (.s) (.nil)),.cons (.i .i64) (.cons (.b) (.cons (.i .i64) (.nil))),[(false,1),(false,1)],[(false,1),(false,1),(false,1)],[],oe⟩
theorem Jx:az Tryz.prog 115 EY:=aA (H:=hn) (n:=60) aB acX AL ak Yk rfl rfl (fun x=>by kernel_rfl)
noncomputable def zc:List (Nat×CF):=[(119,MM)]
theorem acY:aS Tryz.prog zc:=⟨⟨_,_,Tryz.func119,af7⟩,trivial⟩
noncomputable def QF:List (Nat×Ctr):=[(51,EW)]
theorem EZ:aH Tryz.prog QF:=⟨GN,trivial⟩
noncomputable abbrev Jy:Cfg:=aL Tryz.prog (look? zc) (look? QF) (look? bw) (([]:List (Nat×Bool)).map (·.1)) hn.kl hn.pf
theorem Yl:am Jy (aw zc) []:=trivial
noncomputable abbrev GO:Nat×Lps:=(1007617,⟨sZ,ta,oh⟩)
theorem Ym:am Jy (aw zc) [GO]:=aT (H:=hn) (n:=60) (live:=[2,6,7,8,10,19,20,21,26,27,28,1007617]) (b:=UF) (ps:=sZ) (os:=ta) (st:=ga) EZ ak Yl (by kernel_rfl) (by kernel_rfl) (fun x=>by kernel_rfl)
noncomputable abbrev SN:Nat×Lps:=(1007616,⟨tc,td,ol⟩)
theorem Yn:am Jy (aw zc) [SN,GO]:=aT (H:=hn) (n:=60) (live:=[2,6,7,8,19,20,21,1007616]) (b:=UG) (ps:=tc) (os:=td) (st:=gb) EZ ak Ym (by kernel_rfl) (by kernel_rfl) (fun x=>by kernel_rfl)
noncomputable def AM:Ctr:=⟨.cons (.row (ab)) (.nil),.cons (au) (.cons (.b) (.cons (.i .i64) (.nil))),[(false,1)],[(true,3),(false,1),(false,1)],[],om⟩
theorem Fc:az Tryz.prog 119 AM:=aA (H:=hn) (n:=60) aB acY EZ ak Yn rfl rfl (fun x=>by kernel_rfl)
noncomputable def CM:List (Nat×CF):=[(164,ae2),(203,Uh),(204,aeB)]
theorem acZ:aS Tryz.prog CM:=⟨⟨_,_,Tryz.func164,af8⟩,⟨_,_,Tryz.func203,afk⟩,⟨_,_,Tryz.func204,afD⟩,trivial⟩
noncomputable def QG:List (Nat×Ctr):=[(51,EW),(205,K205)]
theorem AN:aH Tryz.prog QG:=⟨GN,k205,trivial⟩
noncomputable abbrev QH:Cfg:=aL Tryz.prog (look? CM) (look? QG) (look? bw) (([]:List (Nat×Bool)).map (·.1)) hn.kl hn.pf
theorem Yo:am QH (aw CM) []:=trivial
noncomputable abbrev SO:Nat×Lps:=(1012992,⟨te,tf,oq⟩)
theorem Yp:am QH (aw CM) [SO]:=aT (H:=hn) (n:=60) (live:=[0,1,2,8,9,10,1012992]) (b:=Ui) (ps:=te) (os:=tf) (st:=gc) AN ak Yo (by kernel_rfl) (by kernel_rfl) (fun x=>by kernel_rfl)
noncomputable def Fd:Ctr:=⟨.cons (.row (ab)) (.cons (.i .i64) (.nil)),.cons (.i .i64) (.cons (.b) (.cons (.i .i64) (.nil))),[(false,1),(false,1)],[(false,1),(false,1),(false,1)],[],cI⟩
theorem Jz:az Tryz.prog 164 Fd:=aA (H:=hn) (n:=60) aB acZ AN ak Yp rfl rfl (fun x=>by kernel_rfl)
noncomputable def CN:List (Nat×CF):=[(121,ae3),(166,aeO),(165,zY),(174,ur)]
theorem ac0:aS Tryz.prog CN:=⟨⟨_,_,Tryz.func121,af9⟩,⟨_,_,Tryz.func166,afR⟩,⟨_,_,Tryz.func165,zZ⟩,⟨_,_,Tryz.func174,xf⟩,trivial⟩
noncomputable def QI:List (Nat×Ctr):=[(167,Xp),(89,za),(62,ot),(182,vm),(211,vl)]
theorem JA:aH Tryz.prog QI:=⟨ahl,BL,pb,xq,xp,trivial⟩
noncomputable abbrev QJ:Cfg:=aL Tryz.prog (look? CN) (look? QI) (look? bw) (([]:List (Nat×Bool)).map (·.1)) hn.kl hn.pf
theorem Yq:am QJ (aw CN) []:=trivial
noncomputable abbrev SP:Nat×Lps:=(1011136,⟨tg,th,cZ⟩)
theorem Yr:am QJ (aw CN) [SP]:=aT (H:=hn) (n:=60) (live:=[1,8,9,10,1011136]) (b:=nG) (ps:=tg) (os:=th) (st:=gf) JA ak Yq (by kernel_rfl) (by kernel_rfl) (fun x=>by kernel_rfl)
noncomputable def Fe:Ctr:=⟨.cons (ab) (au),.cons (ab) (.cons (.i .i64) (.nil)),[(true,5),(false,1),(false,1),(false,1)],[(true,5),(false,1)],[],xj⟩
theorem JB:az Tryz.prog 121 Fe:=aA (H:=hn) (n:=60) aB ac0 JA ak Yr rfl rfl (fun x=>by kernel_rfl)
noncomputable def JC:List (Nat×CF):=[(128,ae4)]
theorem ac1:aS Tryz.prog JC:=⟨⟨_,_,Tryz.func128,aga⟩,trivial⟩
noncomputable def QK:List (Nat×Ctr):=[(51,EW),(175,Nq)]
theorem ahF:aH Tryz.prog QK:=⟨GN,Xb,trivial⟩
noncomputable abbrev ac3:Cfg:=aL Tryz.prog (look? JC) (look? QK) (look? bw) (([(0,true)]:List (Nat×Bool)).map (·.1)) hn.kl hn.pf
theorem Ys:am ac3 (aw JC) []:=trivial
noncomputable def Ff:Ctr:=⟨.cons (.row (ab)) (.cons (.i .i64) (.nil)),.cons (.row (au)) (.cons (.i .i64) (.nil)),[(false,1),(false,1)],[(false,1),(false,1)],[(0,true)],xk⟩
theorem JD:az Tryz.prog 128 Ff:=aA (H:=hn) (n:=60) aB ac1 ahF ak Ys rfl rfl (fun x=>by kernel_rfl)
noncomputable def JE:List (Nat×CF):=[(159,ae5)]
theorem ac4:aS Tryz.prog JE:=⟨⟨_,_,Tryz.func159,agb⟩,trivial⟩
noncomputable def QL:List (Nat×Ctr):=[(51,EW),(175,Nq)]
theorem AO:aH Tryz.prog QL:=⟨GN,Xb,trivial⟩
noncomputable abbrev ac5:Cfg:=aL Tryz.prog (look? JE) (look? QL) (look? bw) (([]:List (Nat×Bool)).map (·.1)) hn.kl hn.pf
theorem Yt:am ac5 (aw JE) []:=trivial
noncomputable def Yu:Ctr:=⟨.cons (.row (ab)) (.nil),.cons (.i .i64) (.cons (.b) (.cons (.i .i64) (.nil))),[(false,1)],[(false,1),(false,1),(false,1)],[],Ar⟩
theorem ahG:az Tryz.prog 159 Yu:=aA (H:=hn) (n:=60) aB ac4 AO ak Yt rfl rfl (fun x=>by kernel_rfl)
noncomputable def AP:List (Nat×CF):=[(19,UH),(52,c52),(53,Ut),(93,Oy)]
theorem ahH:aS Tryz.prog AP:=⟨⟨_,_,Tryz.func19,t19⟩,⟨_,_,Tryz.func52,t52⟩,⟨_,_,Tryz.func53,UL⟩,⟨_,_,Tryz.func93,UI⟩,trivial⟩
noncomputable def Yv:List (Nat×Ctr):=[(50,K50),(51,EW),(54,K54)]
theorem GP:aH Tryz.prog Yv:=⟨k50,GN,k54,trivial⟩
noncomputable abbrev JF:Cfg:=aL Tryz.prog (look? AP) (look? Yv) (look? bw) (([]:List (Nat×Bool)).map (·.1)) hn.kl hn.pf
theorem ac6:am JF (aw AP) []:=trivial
noncomputable abbrev Fg:Nat×Lps:=(1001217,⟨uV,uW,pD⟩)
theorem ac7:am JF (aw AP) [Fg]:=aT (H:=hn) (n:=60) (live:=[1,99,100,101,1001217]) (b:=abc) (ps:=uV) (os:=uW) (st:=gL) GP ak ac6 (by kernel_rfl) (by kernel_rfl) (fun x=>by kernel_rfl)
noncomputable abbrev Lm:Nat×Lps:=(1005952,⟨uX,uY,pE⟩)
theorem ac8:am JF (aw AP) [Lm,Fg]:=aT (H:=hn) (n:=60) (live:=[0,1,7,8,1005952]) (b:=HZ) (ps:=uX) (os:=uY) (st:=gM) GP ak ac7 (by kernel_rfl) (by kernel_rfl) (fun x=>by kernel_rfl)
noncomputable abbrev Yw:Nat×Lps:=(1001216,⟨uZ,vb,pF⟩)
theorem ac9:am JF (aw AP) [Yw,Lm,Fg]:=aT (H:=hn) (n:=60) (live:=[1,79,80,81,1001216]) (b:=abb) (ps:=uZ) (os:=vb) (st:=gN) GP ak ac8 (by kernel_rfl) (by kernel_rfl) (fun x=>by kernel_rfl)
noncomputable def BM:Ctr:=⟨bL,.cons (.i .i64) (.nil),[(true,8)],[(false,1)],[],tj⟩
theorem Fh:az Tryz.prog 19 BM:=aA (H:=hn) (n:=60) aB ahH GP ak ac9 rfl rfl (fun x=>by kernel_rfl)
noncomputable def Nx:List (Nat×CF):=[(22,c22)]
theorem ahI:aS Tryz.prog Nx:=⟨⟨_,_,Tryz.func22,t22⟩,trivial⟩
noncomputable def Yx:List (Nat×Ctr):=[(19,BM),(57,K57)]
theorem Fi:aH Tryz.prog Yx:=⟨Fh,k57,trivial⟩
noncomputable abbrev ahJ:Cfg:=aL Tryz.prog (look? Nx) (look? Yx) (look? bw) (([]:List (Nat×Bool)).map (·.1)) hn.kl hn.pf
theorem ada:am ahJ (aw Nx) []:=trivial
noncomputable def Yy:Ctr:=⟨bL,.cons (.i .i64) (.cons (.i .i64) (.nil)),[(true,8)],[(false,1),(false,1)],[],qc⟩
theorem k22:az Tryz.prog 22 Yy:=aA (H:=hn) (n:=60) aB ahI Fi ak ada rfl rfl (fun x=>by kernel_rfl)
noncomputable def Ny:List (Nat×CF):=[(71,c71)]
theorem ahK:aS Tryz.prog Ny:=⟨⟨_,_,Tryz.func71,t71⟩,trivial⟩
noncomputable def Yz:List (Nat×Ctr):=[(19,BM),(108,Wl)]
theorem Fj:aH Tryz.prog Yz:=⟨Fh,agW,trivial⟩
noncomputable abbrev ahL:Cfg:=aL Tryz.prog (look? Ny) (look? Yz) (look? bw) (([]:List (Nat×Bool)).map (·.1)) hn.kl hn.pf
theorem adb:am ahL (aw Ny) []:=trivial
noncomputable def K71:Ctr:=⟨bL,.cons (.i .i64) (.nil),[(true,8)],[(false,1)],[],GG⟩
theorem k71:az Tryz.prog 71 K71:=aA (H:=hn) (n:=60) aB ahK Fj ak adb rfl rfl (fun x=>by kernel_rfl)
noncomputable def JG:List (Nat×CF):=[(111,ae6)]
theorem adc:aS Tryz.prog JG:=⟨⟨_,_,Tryz.func111,agc⟩,trivial⟩
noncomputable def QM:List (Nat×Ctr):=[(159,Yu),(119,AM)]
theorem ahM:aH Tryz.prog QM:=⟨ahG,Fc,trivial⟩
noncomputable abbrev ade:Cfg:=aL Tryz.prog (look? JG) (look? QM) (look? bw) (([]:List (Nat×Bool)).map (·.1)) hn.kl hn.pf
theorem YA:am ade (aw JG) []:=trivial
noncomputable def YB:Ctr:=⟨bL,.cons (.i .i64) (.nil),[(true,8)],[(false,1)],[],As⟩
theorem ahN:az Tryz.prog 111 YB:=aA (H:=hn) (n:=60) aB adc ahM ak YA rfl rfl (fun x=>by kernel_rfl)
noncomputable def Nz:List (Nat×CF):=[(37,c37)]
theorem ahO:aS Tryz.prog Nz:=⟨⟨_,_,Tryz.func37,t37⟩,trivial⟩
noncomputable def YC:List (Nat×Ctr):=[(19,BM),(73,Wp)]
theorem YD:aH Tryz.prog YC:=⟨Fh,k73,trivial⟩
noncomputable abbrev ahP:Cfg:=aL Tryz.prog (look? Nz) (look? YC) (look? bw) (([]:List (Nat×Bool)).map (·.1)) hn.kl hn.pf
theorem adf:am ahP (aw Nz) []:=trivial
noncomputable def K37:Ctr:=⟨bL,.cons (.b) (.cons (.i .i64) (.nil)),[(true,8)],[(false,1),(false,1)],[],Pp⟩
theorem k37:az Tryz.prog 37 K37:=aA (H:=hn) (n:=60) aB ahO YD ak adf rfl rfl (fun x=>by kernel_rfl)
noncomputable def CO:List (Nat×CF):=[(15,OM),(46,Oz),(47,OL),(79,OD),(117,Ia),(80,OK),(120,Id),(122,Ib),(81,OE),(82,OG),(125,Ic),(83,OH),(84,OI),(85,La),(129,Ie),(86,OJ),(87,OB),(88,OA)]
theorem adg:aS Tryz.prog CO:=⟨⟨_,_,Tryz.func15,OZ⟩,⟨_,_,Tryz.func46,ON⟩,⟨_,_,Tryz.func47,OY⟩,⟨_,_,Tryz.func79,OQ⟩,⟨_,_,Tryz.func117,Ig⟩,⟨_,_,Tryz.func80,OW⟩,⟨_,_,Tryz.func120,Ij⟩,⟨_,_,Tryz.func122,Ih⟩,⟨_,_,Tryz.func81,OR⟩,⟨_,_,Tryz.func82,OS⟩,⟨_,_,Tryz.func125,Ii⟩,⟨_,_,Tryz.func83,OT⟩,⟨_,_,Tryz.func84,OU⟩,⟨_,_,Tryz.func85,OX⟩,⟨_,_,Tryz.func129,Ik⟩,⟨_,_,Tryz.func86,OV⟩,⟨_,_,Tryz.func87,OP⟩,⟨_,_,Tryz.func88,OO⟩,trivial⟩
noncomputable def QN:List (Nat×Ctr):=[(19,BM),(25,GK),(48,Li),(114,xo),(115,EY),(116,EO),(118,EJ),(119,AM),(121,Fe),(164,Fd),(123,EP),(124,EQ),(126,ER),(127,ES),(128,Ff),(176,vk),(177,ET),(178,EU),(62,ot),(61,EK)]
theorem YE:aH Tryz.prog QN:=⟨Fh,Lj,PH,AF,Jx,Jo,IH,Fc,JB,Jz,Jq,Jr,Js,Jt,JD,xn,Ju,Jv,pb,GI,trivial⟩
noncomputable abbrev QO:Cfg:=aL Tryz.prog (look? CO) (look? QN) (look? bw) (([]:List (Nat×Bool)).map (·.1)) hn.kl hn.pf
theorem YF:am QO (aw CO) []:=trivial
noncomputable abbrev SQ:Nat×Lps:=(1005440,⟨tq,tv,eC⟩)
theorem YG:am QO (aw CO) [SQ]:=aT (H:={hn with pr:=[(25,6,false),(25,7,false)]}) (n:=60) (live:=[0,4,7,45,46,47,1005440]) (b:=Cs) (ps:=tq) (os:=tv) (st:=dC) YE ak YF (by kernel_rfl) (by kernel_rfl) (fun x=>match x with| .inl x=>(by kernel_rfl)| .inr (.inl x)=>(by kernel_rfl)| .inr (.inr (x))=>(by kernel_rfl))
noncomputable def ahQ:Ctr:=⟨.cons (cn) (.cons (fH) (.nil)),.cons (cn) (.cons (ju) (.nil)),[(true,8),(true,8)],[(true,8),(true,10)],[],pG⟩
theorem ahR:az Tryz.prog 15 ahQ:=aA (H:={hn with pr:=[(25,6,false),(25,7,false)]}) (n:=60) aB adg YE ak YG rfl rfl (fun x=>by kernel_rfl)
noncomputable def CP:List (Nat×CF):=[(15,OM),(46,Oz),(47,OL),(79,OD),(117,Ia),(80,OK),(120,Id),(122,Ib),(81,OE),(82,OG),(125,Ic),(83,OH),(84,OI),(85,La),(129,Ie),(86,OJ),(87,OB),(88,OA)]
theorem adh:aS Tryz.prog CP:=⟨⟨_,_,Tryz.func15,OZ⟩,⟨_,_,Tryz.func46,ON⟩,⟨_,_,Tryz.func47,OY⟩,⟨_,_,Tryz.func79,OQ⟩,⟨_,_,Tryz.func117,Ig⟩,⟨_,_,Tryz.func80,OW⟩,⟨_,_,Tryz.func120,Ij⟩,⟨_,_,Tryz.func122,Ih⟩,⟨_,_,Tryz.func81,OR⟩,⟨_,_,Tryz.func82,OS⟩,⟨_,_,Tryz.func125,Ii⟩,⟨_,_,Tryz.func83,OT⟩,⟨_,_,Tryz.func84,OU⟩,⟨_,_,Tryz.func85,OX⟩,⟨_,_,Tryz.func129,Ik⟩,⟨_,_,Tryz.func86,OV⟩,⟨_,_,Tryz.func87,OP⟩,⟨_,_,Tryz.func88,OO⟩,trivial⟩
noncomputable def QP:List (Nat×Ctr):=[(19,BM),(25,GK),(48,Li),(114,xo),(115,EY),(116,EO),(118,EJ),(119,AM),(121,Fe),(164,Fd),(123,EP),(124,EQ),(126,ER),(127,ES),(128,Ff),(176,vk),(177,ET),(178,EU),(62,ot),(61,EK)]
theorem YH:aH Tryz.prog QP:=⟨Fh,Lj,PH,AF,Jx,Jo,IH,Fc,JB,Jz,Jq,Jr,Js,Jt,JD,xn,Ju,Jv,pb,GI,trivial⟩
noncomputable abbrev QQ:Cfg:=aL Tryz.prog (look? CP) (look? QP) (look? bw) (([]:List (Nat×Bool)).map (·.1)) hn.kl hn.pf
theorem YI:am QQ (aw CP) []:=trivial
noncomputable abbrev SR:Nat×Lps:=(1005440,⟨tw,tx,eD⟩)
theorem YJ:am QQ (aw CP) [SR]:=aT (H:={hn with pr:=[(25,6,false),(25,7,true)]}) (n:=60) (live:=[0,4,7,45,46,47,1005440]) (b:=Cs) (ps:=tw) (os:=tx) (st:=dD) YH ak YI (by kernel_rfl) (by kernel_rfl) (fun x=>match x with| .inl x=>(by kernel_rfl)| .inr (.inl x)=>(by kernel_rfl)| .inr (.inr (x))=>(by kernel_rfl))
noncomputable def ahS:Ctr:=⟨.cons (cn) (.cons (fH) (.nil)),.cons (cn) (.cons (ju) (.nil)),[(true,8),(true,8)],[(true,8),(true,10)],[],Av⟩
theorem ahT:az Tryz.prog 15 ahS:=aA (H:={hn with pr:=[(25,6,false),(25,7,true)]}) (n:=60) aB adh YH ak YJ rfl rfl (fun x=>by kernel_rfl)
noncomputable def CQ:List (Nat×CF):=[(15,OM),(46,Oz),(47,OL),(79,OD),(117,Ia),(80,OK),(120,Id),(122,Ib),(81,OE),(82,OG),(125,Ic),(83,OH),(84,OI),(85,La),(129,Ie),(86,OJ),(87,OB),(88,OA)]
theorem adi:aS Tryz.prog CQ:=⟨⟨_,_,Tryz.func15,OZ⟩,⟨_,_,Tryz.func46,ON⟩,⟨_,_,Tryz.func47,OY⟩,⟨_,_,Tryz.func79,OQ⟩,⟨_,_,Tryz.func117,Ig⟩,⟨_,_,Tryz.func80,OW⟩,⟨_,_,Tryz.func120,Ij⟩,⟨_,_,Tryz.func122,Ih⟩,⟨_,_,Tryz.func81,OR⟩,⟨_,_,Tryz.func82,OS⟩,⟨_,_,Tryz.func125,Ii⟩,⟨_,_,Tryz.func83,OT⟩,⟨_,_,Tryz.func84,OU⟩,⟨_,_,Tryz.func85,OX⟩,⟨_,_,Tryz.func129,Ik⟩,⟨_,_,Tryz.func86,OV⟩,⟨_,_,Tryz.func87,OP⟩,⟨_,_,Tryz.func88,OO⟩,trivial⟩
noncomputable def QR:List (Nat×Ctr):=[(19,BM),(25,GK),(48,Li),(114,xo),(115,EY),(116,EO),(118,EJ),(119,AM),(121,Fe),(164,Fd),(123,EP),(124,EQ),(126,ER),(127,ES),(128,Ff),(176,vk),(177,ET),(178,EU),(62,ot),(61,EK)]
theorem YK:aH Tryz.prog QR:=⟨Fh,Lj,PH,AF,Jx,Jo,IH,Fc,JB,Jz,Jq,Jr,Js,Jt,JD,xn,Ju,Jv,pb,GI,trivial⟩
noncomputable abbrev QS:Cfg:=aL Tryz.prog (look? CQ) (look? QR) (look? bw) (([]:List (Nat×Bool)).map (·.1)) hn.kl hn.pf
theorem YL:am QS (aw CQ) []:=trivial
noncomputable abbrev ST:Nat×Lps:=(1005440,⟨tz,tA,gO⟩)
theorem YM:am QS (aw CQ) [ST]:=aT (H:={hn with pr:=[(25,6,true),(25,7,false)]}) (n:=60) (live:=[0,4,7,45,46,47,1005440]) (b:=Cs) (ps:=tz) (os:=tA) (st:=tB) YK ak YL (by kernel_rfl) (by kernel_rfl) (fun x=>match x with| .inl x=>(by kernel_rfl)| .inr (x)=>(by kernel_rfl))
noncomputable def ahU:Ctr:=⟨.cons (cn) (.cons (fH) (.nil)),.cons (cn) (.cons (ju) (.nil)),[(true,8),(true,8)],[(true,8),(true,10)],[],Ay⟩
theorem ahV:az Tryz.prog 15 ahU:=aA (H:={hn with pr:=[(25,6,true),(25,7,false)]}) (n:=60) aB adi YK ak YM rfl rfl (fun x=>by kernel_rfl)
noncomputable def CS:List (Nat×CF):=[(15,OM),(46,Oz),(47,OL),(79,OD),(117,Ia),(80,OK),(120,Id),(122,Ib),(81,OE),(82,OG),(125,Ic),(83,OH),(84,OI),(85,La),(129,Ie),(86,OJ),(87,OB),(88,OA)]
theorem adj:aS Tryz.prog CS:=⟨⟨_,_,Tryz.func15,OZ⟩,⟨_,_,Tryz.func46,ON⟩,⟨_,_,Tryz.func47,OY⟩,⟨_,_,Tryz.func79,OQ⟩,⟨_,_,Tryz.func117,Ig⟩,⟨_,_,Tryz.func80,OW⟩,⟨_,_,Tryz.func120,Ij⟩,⟨_,_,Tryz.func122,Ih⟩,⟨_,_,Tryz.func81,OR⟩,⟨_,_,Tryz.func82,OS⟩,⟨_,_,Tryz.func125,Ii⟩,⟨_,_,Tryz.func83,OT⟩,⟨_,_,Tryz.func84,OU⟩,⟨_,_,Tryz.func85,OX⟩,⟨_,_,Tryz.func129,Ik⟩,⟨_,_,Tryz.func86,OV⟩,⟨_,_,Tryz.func87,OP⟩,⟨_,_,Tryz.func88,OO⟩,trivial⟩
noncomputable def QT:List (Nat×Ctr):=[(19,BM),(25,GK),(48,Li),(114,xo),(115,EY),(116,EO),(118,EJ),(119,AM),(121,Fe),(164,Fd),(123,EP),(124,EQ),(126,ER),(127,ES),(128,Ff),(176,vk),(177,ET),(178,EU),(62,ot),(61,EK)]
theorem YN:aH Tryz.prog QT:=⟨Fh,Lj,PH,AF,Jx,Jo,IH,Fc,JB,Jz,Jq,Jr,Js,Jt,JD,xn,Ju,Jv,pb,GI,trivial⟩
noncomputable abbrev QU:Cfg:=aL Tryz.prog (look? CS) (look? QT) (look? bw) (([]:List (Nat×Bool)).map (·.1)) hn.kl hn.pf
theorem YO:am QU (aw CS) []:=trivial
noncomputable abbrev SU:Nat×Lps:=(1005440,⟨tC,tD,gP⟩)
theorem YP:am QU (aw CS) [SU]:=aT (H:={hn with pr:=[(25,6,true),(25,7,true)]}) (n:=60) (live:=[0,4,7,45,46,47,1005440]) (b:=Cs) (ps:=tC) (os:=tD) (st:=tE) YN ak YO (by kernel_rfl) (by kernel_rfl) (fun x=>match x with| .inl x=>(by kernel_rfl)| .inr (x)=>(by kernel_rfl))
noncomputable def ahW:Ctr:=⟨.cons (cn) (.cons (fH) (.nil)),.cons (cn) (.cons (ju) (.nil)),[(true,8),(true,8)],[(true,8),(true,10)],[],vf⟩
theorem ahX:az Tryz.prog 15 ahW:=aA (H:={hn with pr:=[(25,6,true),(25,7,true)]}) (n:=60) aB adj YN ak YP rfl rfl (fun x=>by kernel_rfl)
noncomputable def QV:Ctr:=⟨.cons (cn) (.cons (fH) (.nil)),.cons (cn) (.cons (ju) (.nil)),[(true,8),(true,8)],[(true,8),(true,10)],[],eE⟩
theorem YQ:az Tryz.prog 15 QV:=by
 have h:= @vR Tryz.prog 15 (.cons (cn) (.cons (fH) (.nil))) (.cons (cn) (.cons (ju) (.nil))) _ _ _ _ _ (fun x=>isEmpty x.1.2.2.2.2.2.2.1) (@vR Tryz.prog 15 (.cons (cn) (.cons (fH) (.nil))) (.cons (cn) (.cons (ju) (.nil))) _ _ _ _ _ (fun x=>isEmpty x.1.2.2.2.2.2.2.2.1) ahX ahV) (@vR Tryz.prog 15 (.cons (cn) (.cons (fH) (.nil))) (.cons (cn) (.cons (ju) (.nil))) _ _ _ _ _ (fun x=>isEmpty x.1.2.2.2.2.2.2.2.1) ahT ahR)
 exact h
noncomputable def NA:List (Nat×CF):=[(55,c55)]
theorem ahY:aS Tryz.prog NA:=⟨⟨_,_,Tryz.func55,t55⟩,trivial⟩
noncomputable def YR:List (Nat×Ctr):=[(14,K14),(15,QV)]
theorem YS:aH Tryz.prog YR:=⟨k14,YQ,trivial⟩
noncomputable abbrev ahZ:Cfg:=aL Tryz.prog (look? NA) (look? YR) (look? bw) (([]:List (Nat×Bool)).map (·.1)) hn.kl hn.pf
theorem adk:am ahZ (aw NA) []:=trivial
noncomputable def K55:Ctr:=⟨.nil,bL,[],[(true,8)],[],Lf⟩
theorem k55:az Tryz.prog 55 K55:=aA (H:=hn) (n:=60) aB ahY YS ak adk rfl rfl (fun x=>by kernel_rfl)
noncomputable def JH:List (Nat×CF):=[(72,c72),(109,ae7),(110,aer)]
theorem ah0:aS Tryz.prog JH:=⟨⟨_,_,Tryz.func72,t72⟩,⟨_,_,Tryz.func109,agd⟩,⟨_,_,Tryz.func110,afs⟩,trivial⟩
noncomputable def YT:List (Nat×Ctr):=[(111,YB),(15,QV)]
theorem h72:aH Tryz.prog YT:=⟨ahN,YQ,trivial⟩
noncomputable abbrev YU:Cfg:=aL Tryz.prog (look? JH) (look? YT) (look? bw) (([]:List (Nat×Bool)).map (·.1)) hn.kl hn.pf
theorem adl:am YU (aw JH) []:=trivial
noncomputable abbrev YV:Nat×Lps:=(1004608,⟨vg,vh,fc⟩)
theorem adm:am YU (aw JH) [YV]:=aT (H:=hn) (n:=60) (live:=[1,2,4,6,7,8,1004608]) (b:=abd) (ps:=vg) (os:=vh) (st:=gQ) h72 ak adl (by kernel_rfl) (by kernel_rfl) (fun x=>by kernel_rfl)
noncomputable def K72:Ctr:=⟨.cons (cn) (.cons (.row (.b)) (.nil)),.cons (cn) (.cons (.row (fH)) (.nil)),[(true,8),(false,1)],[(true,8),(false,1)],[],yY⟩
theorem k72:az Tryz.prog 72 K72:=aA (H:=hn) (n:=60) aB ah0 h72 ak adm rfl rfl (fun x=>by kernel_rfl)
noncomputable def NB:List (Nat×CF):=[(20,c20)]
theorem ah1:aS Tryz.prog NB:=⟨⟨_,_,Tryz.func20,t20⟩,trivial⟩
noncomputable def YW:List (Nat×Ctr):=[(55,K55),(22,Yy),(15,QV)]
theorem h20:aH Tryz.prog YW:=⟨k55,k22,YQ,trivial⟩
noncomputable abbrev ah2:Cfg:=aL Tryz.prog (look? NB) (look? YW) (look? bw) (([]:List (Nat×Bool)).map (·.1)) hn.kl hn.pf
theorem adn:am ah2 (aw NB) []:=trivial
noncomputable def K20:Ctr:=⟨.nil,.cons (.b) (.nil),[],[(false,1)],[],Pq⟩
theorem k20:az Tryz.prog 20 K20:=aA (H:=hn) (n:=60) aB ah1 h20 ak adn rfl rfl (fun x=>by kernel_rfl)
noncomputable def JI:List (Nat×CF):=[(36,c36)]
theorem ah3:aS Tryz.prog JI:=⟨⟨_,_,Tryz.func36,t36⟩,trivial⟩
noncomputable def YX:List (Nat×Ctr):=[(71,K71),(25,GK),(72,K72),(73,Wp)]
theorem h36:aH Tryz.prog YX:=⟨k71,Lj,k72,k73,trivial⟩
noncomputable abbrev YY:Cfg:=aL Tryz.prog (look? JI) (look? YX) (look? bw) (([]:List (Nat×Bool)).map (·.1)) hn.kl hn.pf
theorem ado:am YY (aw JI) []:=trivial
noncomputable abbrev YZ:Nat×Lps:=(1002304,⟨vi,vj,ch⟩)
theorem adp:am YY (aw JI) [YZ]:=aT (H:=hn) (n:=60) (live:=[1,3,6,10,28,29,1002304]) (b:=abe) (ps:=vi) (os:=vj) (st:=bT) h36 ak ado (by kernel_rfl) (by kernel_rfl) (fun x=>match x with| .inl x=>(by kernel_rfl)| .inr (.inl x)=>(by kernel_rfl)| .inr (.inr (.inl x))=>(by kernel_rfl)| .inr (.inr (.inr (.inl x)))=>(by kernel_rfl)| .inr (.inr (.inr (.inr (x))))=>(by kernel_rfl))
noncomputable def K36:Ctr:=⟨.cons (cn) (.cons (.row (.b)) (.cons (.i .i64) (.nil))),.cons (cn) (.cons (.i .i64) (.cons (.i .i64) (.nil))),[(true,8),(false,1),(false,1)],[(true,8),(false,1),(false,1)],[],GH⟩
theorem k36:az Tryz.prog 36 K36:=aA (H:=hn) (n:=60) aB ah3 h36 ak adp rfl rfl (fun x=>by kernel_rfl)
noncomputable def Za:List (Nat×CF):=[(9,c9)]
theorem td9:aS Tryz.prog Za:=⟨⟨_,_,Tryz.func9,t9⟩,trivial⟩
noncomputable def ct9:List (Nat×Ctr):=[(20,K20),(35,K35),(22,Yy),(36,K36),(37,K37)]
theorem h9:aH Tryz.prog ct9:=⟨k20,k35,k22,k36,k37,trivial⟩
noncomputable abbrev gg9:Cfg:=aL Tryz.prog (look? Za) (look? ct9) (look? bw) (([]:List (Nat×Bool)).map (·.1)) hn.kl hn.pf
theorem ah4:am gg9 (aw Za) []:=trivial
noncomputable def K9:Ctr:=⟨.cons (cn) (.cons (.row (.b)) (.nil)),.cons (.b) (.nil),[(true,8),(false,1)],[(false,1)],[],F9⟩
theorem k9:az Tryz.prog 9 K9:=aA (H:=hn) (n:=60) aB td9 h9 ak ah4 rfl rfl (fun x=>by kernel_rfl)
end Go.Proofs.YtbkjflfbgknagaaGreat.fairEnds.Code
