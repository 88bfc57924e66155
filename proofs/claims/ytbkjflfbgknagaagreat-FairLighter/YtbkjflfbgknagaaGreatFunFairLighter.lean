import Derived.Test.YtbkjflfbgknagaaGreatTieFairLighter
import Derived.Test.YtbkjflfbgknagaaGreatDefFairLighter1
import Derived.KernelRfl
import Derived.Test.YtbkjflfbgknagaaGreatSrtFairLighter
set_option maxRecDepth 100000
set_option linter.unusedVariables false
set_option linter.constructorNameAsVariable false
namespace Go.Proofs.YtbkjflfbgknagaaGreat.fairLighter.Code
open Go Go.Am
open List (isEmpty)
def Mi:List (Nat×CF):=[(14,c14)]
theorem adU:aV Tryz.prog Mi:=⟨⟨_,_,Tryz.func14,t14⟩,trivial⟩
noncomputable def Va:List (Nat×Ctr):=[]
theorem KE:aJ Tryz.prog Va:=trivial
noncomputable abbrev adV:Cfg:=aO Tryz.prog (look? Mi) (look? Va) (look? bB) (([]:List (Nat×Bool)).map (·.1)) hn.kl hn.pf
theorem ZZ:an adV (ax Mi) []:=trivial
noncomputable def K14:Ctr:=⟨.nil,bX,[],[(true,8)],[],UW⟩
theorem k14:az Tryz.prog 14 K14:=aB (H:=hn) (n:=60) aD adU KE ak ZZ rfl rfl (fun x=>by kernel_rfl)
def Mj:List (Nat×CF):=[(50,c50)]
theorem adW:aV Tryz.prog Mj:=⟨⟨_,_,Tryz.func50,t50⟩,trivial⟩
noncomputable def Vb:List (Nat×Ctr):=[]
theorem h50:aJ Tryz.prog Vb:=trivial
noncomputable abbrev adX:Cfg:=aO Tryz.prog (look? Mj) (look? Vb) (look? bB) (([]:List (Nat×Bool)).map (·.1)) hn.kl hn.pf
theorem aaa:an adX (ax Mj) []:=trivial
noncomputable def K50:Ctr:=⟨.cons (.i .i64) (.cons (.i .i64) (.nil)),.cons (.b) (.nil),[(false,1),(false,1)],[(false,1)],[],DL⟩
theorem k50:az Tryz.prog 50 K50:=aB (H:=hn) (n:=60) aD adW h50 ak aaa rfl rfl (fun x=>by kernel_rfl)
def BE:List (Nat×CF):=[(161,SU)]
theorem aab:aV Tryz.prog BE:=⟨⟨_,_,Tryz.func161,acP⟩,trivial⟩
noncomputable def Ov:List (Nat×Ctr):=[]
theorem Vc:aJ Tryz.prog Ov:=trivial
noncomputable abbrev Ow:Cfg:=aO Tryz.prog (look? BE) (look? Ov) (look? bB) (([]:List (Nat×Bool)).map (·.1)) hn.kl hn.pf
theorem Vd:an Ow (ax BE) []:=trivial
noncomputable abbrev Rd:Nat×Lps:=(1010304,⟨qM,qP,mH⟩)
theorem Ve:an Ow (ax BE) [Rd]:=aP (H:=hn) (n:=60) (live:=[0,1,7,29,30,31,1010304]) (b:=JT) (ps:=qM) (os:=qP) (st:=fz) Vc ak Vd (by kernel_rfl) (by kernel_rfl) (fun x=>by kernel_rfl)
noncomputable def Vf:Ctr:=⟨.cons (.i .i64) (.cons (.i .i64) (.cons (af) (.nil))),.cons (.b) (.nil),[(false,1),(false,1),(true,3)],[(false,1)],[],Hs⟩
theorem adY:az Tryz.prog 161 Vf:=aB (H:=hn) (n:=60) aD aab Vc ak Ve rfl rfl (fun x=>by kernel_rfl)
def HD:List (Nat×CF):=[(179,SW)]
theorem aac:aV Tryz.prog HD:=⟨⟨_,_,Tryz.func179,acQ⟩,trivial⟩
noncomputable def Ox:List (Nat×Ctr):=[]
theorem adZ:aJ Tryz.prog Ox:=trivial
noncomputable abbrev aad:Cfg:=aO Tryz.prog (look? HD) (look? Ox) (look? bB) (([]:List (Nat×Bool)).map (·.1)) hn.kl hn.pf
theorem Vg:an aad (ax HD) []:=trivial
noncomputable def Vh:Ctr:=⟨.cons (af) (.nil),.cons (.b) (.nil),[(true,3)],[(false,1)],[],Ht⟩
theorem ad0:az Tryz.prog 179 Vh:=aB (H:=hn) (n:=60) aD aac adZ ak Vg rfl rfl (fun x=>by kernel_rfl)
def HE:List (Nat×CF):=[(208,SY)]
theorem aae:aV Tryz.prog HE:=⟨⟨_,_,Tryz.func208,acR⟩,trivial⟩
noncomputable def Oy:List (Nat×Ctr):=[]
theorem ad1:aJ Tryz.prog Oy:=trivial
noncomputable abbrev aaf:Cfg:=aO Tryz.prog (look? HE) (look? Oy) (look? bB) (([]:List (Nat×Bool)).map (·.1)) hn.kl hn.pf
theorem Vi:an aaf (ax HE) []:=trivial
noncomputable def wJ:Ctr:=⟨.cons (.i .i64) (.nil),.cons (.b) (.nil),[(false,1)],[(false,1)],[],qr⟩
theorem zR:az Tryz.prog 208 wJ:=aB (H:=hn) (n:=60) aD aae ad1 ak Vi rfl rfl (fun x=>by kernel_rfl)
def HF:List (Nat×CF):=[(207,SZ)]
theorem aag:aV Tryz.prog HF:=⟨⟨_,_,Tryz.func207,acS⟩,trivial⟩
noncomputable def Oz:List (Nat×Ctr):=[]
theorem ad2:aJ Tryz.prog Oz:=trivial
noncomputable abbrev aah:Cfg:=aO Tryz.prog (look? HF) (look? Oz) (look? bB) (([]:List (Nat×Bool)).map (·.1)) hn.kl hn.pf
theorem Vj:an aah (ax HF) []:=trivial
noncomputable def zT:Ctr:=⟨.cons (.i .i64) (.nil),.cons (.b) (.nil),[(false,1)],[(false,1)],[],tM⟩
theorem DX:az Tryz.prog 207 zT:=aB (H:=hn) (n:=60) aD aag ad2 ak Vj rfl rfl (fun x=>by kernel_rfl)
def BF:List (Nat×CF):=[(253,Tc)]
theorem aai:aV Tryz.prog BF:=⟨⟨_,_,Tryz.func253,acV⟩,trivial⟩
noncomputable def OA:List (Nat×Ctr):=[]
theorem Vk:aJ Tryz.prog OA:=trivial
noncomputable abbrev OB:Cfg:=aO Tryz.prog (look? BF) (look? OA) (look? bB) (([]:List (Nat×Bool)).map (·.1)) hn.kl hn.pf
theorem Vl:an OB (ax BF) []:=trivial
noncomputable abbrev Re:Nat×Lps:=(1016192,⟨qQ,qR,mI⟩)
theorem Vm:an OB (ax BF) [Re]:=aP (H:=hn) (n:=60) (live:=[0,1,7,8,1016192]) (b:=JV) (ps:=qQ) (os:=qR) (st:=fA) Vk ak Vl (by kernel_rfl) (by kernel_rfl) (fun x=>by kernel_rfl)
noncomputable def Vn:Ctr:=⟨.cons (.row (.i .u8)) (.cons (.i .u8) (.nil)),.cons (.i .i64) (.nil),[(false,1),(false,1)],[(false,1)],[],Md⟩
theorem ad3:az Tryz.prog 253 Vn:=aB (H:=hn) (n:=60) aD aai Vk ak Vm rfl rfl (fun x=>by kernel_rfl)
def Mk:List (Nat×CF):=[(54,c54)]
theorem ad4:aV Tryz.prog Mk:=⟨⟨_,_,Tryz.func54,t54⟩,trivial⟩
noncomputable def Vo:List (Nat×Ctr):=[]
theorem h54:aJ Tryz.prog Vo:=trivial
noncomputable abbrev ad5:Cfg:=aO Tryz.prog (look? Mk) (look? Vo) (look? bB) (([]:List (Nat×Bool)).map (·.1)) hn.kl hn.pf
theorem aaj:an ad5 (ax Mk) []:=trivial
noncomputable def K54:Ctr:=⟨.cons (cG) (.cons (aH) (.nil)),.cons (.b) (.nil),[(true,8),(true,4)],[(false,1)],[],Oj⟩
theorem k54:az Tryz.prog 54 K54:=aB (H:=hn) (n:=60) aD ad4 h54 ak aaj rfl rfl (fun x=>by kernel_rfl)
def HG:List (Nat×CF):=[(162,Te)]
theorem aak:aV Tryz.prog HG:=⟨⟨_,_,Tryz.func162,acX⟩,trivial⟩
noncomputable def OC:List (Nat×Ctr):=[]
theorem ad6:aJ Tryz.prog OC:=trivial
noncomputable abbrev aal:Cfg:=aO Tryz.prog (look? HG) (look? OC) (look? bB) (([]:List (Nat×Bool)).map (·.1)) hn.kl hn.pf
theorem Vp:an aal (ax HG) []:=trivial
noncomputable def Ml:Ctr:=⟨.cons (.i .i64) (.nil),.cons (.b) (.nil),[(false,1)],[(false,1)],[],DM⟩
theorem Vq:az Tryz.prog 162 Ml:=aB (H:=hn) (n:=60) aD aak ad6 ak Vp rfl rfl (fun x=>by kernel_rfl)
def HH:List (Nat×CF):=[(101,Tf)]
theorem aam:aV Tryz.prog HH:=⟨⟨_,_,Tryz.func101,acY⟩,trivial⟩
noncomputable def OD:List (Nat×Ctr):=[]
theorem ad7:aJ Tryz.prog OD:=trivial
noncomputable abbrev aan:Cfg:=aO Tryz.prog (look? HH) (look? OD) (look? bB) (([(0,true)]:List (Nat×Bool)).map (·.1)) hn.kl hn.pf
theorem Vr:an aan (ax HH) []:=trivial
noncomputable def aao:Ctr:=⟨.cons (.row (ae)) (.nil),.cons (.row (ae)) (.nil),[(false,1)],[(false,1)],[(0,true)],Hu⟩
theorem aap:az Tryz.prog 101 aao:=aB (H:=hn) (n:=60) aD aam ad7 ak Vr rfl rfl (fun x=>by kernel_rfl)
noncomputable def Vs:Ctr:=⟨.cons (.row (ae)) (.nil),.cons (.row (ae)) (.nil),[(false,1)],[(false,1)],[(0,true)],Hv⟩
theorem ad8:az Tryz.prog 101 Vs:=JS aap ⟨_,_,Tryz.func101,by kernel_rfl,rfl⟩ ZX
def HI:List (Nat×CF):=[(102,Tg)]
theorem aaq:aV Tryz.prog HI:=⟨⟨_,_,Tryz.func102,acZ⟩,trivial⟩
noncomputable def OE:List (Nat×Ctr):=[]
theorem ad9:aJ Tryz.prog OE:=trivial
noncomputable abbrev aar:Cfg:=aO Tryz.prog (look? HI) (look? OE) (look? bB) (([]:List (Nat×Bool)).map (·.1)) hn.kl hn.pf
theorem Vt:an aar (ax HI) []:=trivial
noncomputable def aas:Ctr:=⟨.cons (.row (.i .i64)) (.nil),.cons (.row (.i .i64)) (.nil),[(false,1)],[(false,1)],[],Hw⟩
theorem aat:az Tryz.prog 102 aas:=aB (H:=hn) (n:=60) aD aaq ad9 ak Vt rfl rfl (fun x=>by kernel_rfl)
noncomputable def Vu:Ctr:=⟨.cons (.row (.i .i64)) (.nil),.cons (.row (.i .i64)) (.nil),[(false,1)],[(false,1)],[],DN⟩
theorem aea:az Tryz.prog 102 Vu:=SR aat ⟨_,_,Tryz.func102,by kernel_rfl,rfl⟩ ZY
def HJ:List (Nat×CF):=[(118,Th)]
theorem aau:aV Tryz.prog HJ:=⟨⟨_,_,Tryz.func118,ac0⟩,trivial⟩
noncomputable def OG:List (Nat×Ctr):=[]
theorem Mm:aJ Tryz.prog OG:=trivial
noncomputable abbrev aav:Cfg:=aO Tryz.prog (look? HJ) (look? OG) (look? bB) (([]:List (Nat×Bool)).map (·.1)) hn.kl hn.pf
theorem Vv:an aav (ax HJ) []:=trivial
noncomputable def DY:Ctr:=⟨.cons (.i .i64) (.nil),.cons (.b) (.nil),[(false,1)],[(false,1)],[],lx⟩
theorem HK:az Tryz.prog 118 DY:=aB (H:=hn) (n:=60) aD aau Mm ak Vv rfl rfl (fun x=>by kernel_rfl)
def tb234:List (Nat×CF):=[(234,LY)]
theorem td234:aV Tryz.prog tb234:=⟨⟨_,_,Tryz.func234,Um⟩,trivial⟩
noncomputable def ct234:List (Nat×Ctr):=[]
theorem h234:aJ Tryz.prog ct234:=trivial
noncomputable abbrev gg234:Cfg:=aO Tryz.prog (look? tb234) (look? ct234) (look? bB) (([]:List (Nat×Bool)).map (·.1)) hn.kl hn.pf
theorem l234_0:an gg234 (ax tb234) []:=trivial
noncomputable def K234:Ctr:=⟨.cons (.i .i64) (.nil),.cons (.b) (.nil),[(false,1)],[(false,1)],[],F234⟩
theorem k234:az Tryz.prog 234 K234:=aB (H:=hn) (n:=60) aD td234 h234 ak l234_0 rfl rfl (fun x=>by kernel_rfl)
def BG:List (Nat×CF):=[(236,Tj)]
theorem aaw:aV Tryz.prog BG:=⟨⟨_,_,Tryz.func236,ac2⟩,trivial⟩
noncomputable def OH:List (Nat×Ctr):=[]
theorem Vw:aJ Tryz.prog OH:=trivial
noncomputable abbrev OI:Cfg:=aO Tryz.prog (look? BG) (look? OH) (look? bB) (([]:List (Nat×Bool)).map (·.1)) hn.kl hn.pf
theorem Vx:an OI (ax BG) []:=trivial
noncomputable abbrev Rf:Nat×Lps:=(1015104,⟨qS,qU,mJ⟩)
theorem Vy:an OI (ax BG) [Rf]:=aP (H:=hn) (n:=60) (live:=[1,5,6,1015104]) (b:=JZ) (ps:=qS) (os:=qU) (st:=ig) Vw ak Vx (by kernel_rfl) (by kernel_rfl) (fun x=>by kernel_rfl)
noncomputable def Vz:Ctr:=⟨.cons (af) (.cons (.i .i64) (.nil)),.cons (.i .i64) (.nil),[(true,3),(false,1)],[(false,1)],[],Hx⟩
theorem aeb:az Tryz.prog 236 Vz:=aB (H:=hn) (n:=60) aD aaw Vw ak Vy rfl rfl (fun x=>by kernel_rfl)
def HL:List (Nat×CF):=[(176,Tk)]
theorem aax:aV Tryz.prog HL:=⟨⟨_,_,Tryz.func176,ac3⟩,trivial⟩
noncomputable def OJ:List (Nat×Ctr):=[]
theorem aec:aJ Tryz.prog OJ:=trivial
noncomputable abbrev aay:Cfg:=aO Tryz.prog (look? HL) (look? OJ) (look? bB) (([]:List (Nat×Bool)).map (·.1)) hn.kl hn.pf
theorem VA:an aay (ax HL) []:=trivial
noncomputable def uE:Ctr:=⟨.cons (ae) (.cons (.i .i64) (.nil)),.cons (.b) (.nil),[(true,5),(false,1)],[(false,1)],[],jK⟩
theorem wK:az Tryz.prog 176 uE:=aB (H:=hn) (n:=60) aD aax aec ak VA rfl rfl (fun x=>by kernel_rfl)
def tb214:List (Nat×CF):=[(214,LZ)]
theorem td214:aV Tryz.prog tb214:=⟨⟨_,_,Tryz.func214,Un⟩,trivial⟩
noncomputable def ct214:List (Nat×Ctr):=[]
theorem h214:aJ Tryz.prog ct214:=trivial
noncomputable abbrev gg214:Cfg:=aO Tryz.prog (look? tb214) (look? ct214) (look? bB) (([]:List (Nat×Bool)).map (·.1)) hn.kl hn.pf
theorem l214_0:an gg214 (ax tb214) []:=trivial
noncomputable abbrev ee214_1:Nat×Lps:=(1013696,⟨L214_1013696p,L214_1013696o,L214_1013696⟩)
theorem l214_1:an gg214 (ax tb214) [ee214_1]:=aP (H:=hn) (n:=60) (live:=[3,6,7,8,1013696]) (b:=DF) (ps:=L214_1013696p) (os:=L214_1013696o) (st:=L214_1013696t) h214 ak l214_0 (by kernel_rfl) (by kernel_rfl) (fun x=>by kernel_rfl)
noncomputable def K214:Ctr:=⟨.cons (.row (.i .i64)) (.nil),.cons (.i .i64) (.nil),[(false,1)],[(false,1)],[],F214⟩
theorem k214:az Tryz.prog 214 K214:=aB (H:=hn) (n:=60) aD td214 h214 ak l214_1 rfl rfl (fun x=>by kernel_rfl)
def Mo:List (Nat×CF):=[(61,c61)]
theorem aed:aV Tryz.prog Mo:=⟨⟨_,_,Tryz.func61,t61⟩,trivial⟩
noncomputable def VB:List (Nat×Ctr):=[]
theorem iy:aJ Tryz.prog VB:=trivial
noncomputable abbrev aee:Cfg:=aO Tryz.prog (look? Mo) (look? VB) (look? bB) (([(0,true)]:List (Nat×Bool)).map (·.1)) hn.kl hn.pf
theorem aaz:an aee (ax Mo) []:=trivial
noncomputable def aef:Ctr:=⟨.cons (.row (aH)) (.nil),.cons (.row (aH)) (.nil),[(false,1)],[(false,1)],[(0,true)],Me⟩
theorem aeg:az Tryz.prog 61 aef:=aB (H:=hn) (n:=60) aD aed iy ak aaz rfl rfl (fun x=>by kernel_rfl)
noncomputable def DZ:Ctr:=⟨.cons (.row (aH)) (.nil),.cons (.row (aH)) (.nil),[(false,1)],[(false,1)],[(0,true)],po⟩
theorem FR:az Tryz.prog 61 DZ:=JS aeg ⟨_,_,Tryz.func61,by kernel_rfl,rfl⟩ adT
def Mq:List (Nat×CF):=[(48,c48)]
theorem aeh:aV Tryz.prog Mq:=⟨⟨_,_,Tryz.func48,t48⟩,trivial⟩
noncomputable def VC:List (Nat×Ctr):=[]
theorem Ea:aJ Tryz.prog VC:=trivial
noncomputable abbrev aei:Cfg:=aO Tryz.prog (look? Mq) (look? VC) (look? bB) (([]:List (Nat×Bool)).map (·.1)) hn.kl hn.pf
theorem aaA:an aei (ax Mq) []:=trivial
noncomputable def KF:Ctr:=⟨bX,.cons (.b) (.nil),[(true,8)],[(false,1)],[],cK⟩
theorem OK:az Tryz.prog 48 KF:=aB (H:=hn) (n:=60) aD aeh Ea ak aaA rfl rfl (fun x=>by kernel_rfl)
def HM:List (Nat×CF):=[(45,c45)]
theorem aej:aV Tryz.prog HM:=⟨⟨_,_,Tryz.func45,t45⟩,trivial⟩
noncomputable def VD:List (Nat×Ctr):=[]
theorem h45:aJ Tryz.prog VD:=trivial
noncomputable abbrev VE:Cfg:=aO Tryz.prog (look? HM) (look? VD) (look? bB) (([]:List (Nat×Bool)).map (·.1)) hn.kl hn.pf
theorem aaB:an VE (ax HM) []:=trivial
noncomputable abbrev VF:Nat×Lps:=(1002880,⟨tN,tO,oC⟩)
theorem aaC:an VE (ax HM) [VF]:=aP (H:=hn) (n:=60) (live:=[1,3,1002880]) (b:=NA) (ps:=tN) (os:=tO) (st:=gi) h45 ak aaB (by kernel_rfl) (by kernel_rfl) (fun x=>by kernel_rfl)
noncomputable def VG:Ctr:=⟨.cons (qq) (.nil),.cons (.b) (.nil),[(true,1)],[(false,1)],[],DO⟩
theorem k45:az Tryz.prog 45 VG:=aB (H:=hn) (n:=60) aD aej h45 ak aaC rfl rfl (fun x=>by kernel_rfl)
def HN:List (Nat×CF):=[(13,c13)]
theorem aek:aV Tryz.prog HN:=⟨⟨_,_,Tryz.func13,t13⟩,trivial⟩
noncomputable def VH:List (Nat×Ctr):=[(45,VG)]
theorem OL:aJ Tryz.prog VH:=⟨k45,trivial⟩
noncomputable abbrev VI:Cfg:=aO Tryz.prog (look? HN) (look? VH) (look? bB) (([]:List (Nat×Bool)).map (·.1)) hn.kl hn.pf
theorem aaD:an VI (ax HN) []:=trivial
noncomputable abbrev VJ:Nat×Lps:=(1000832,⟨tP,tQ,oD⟩)
theorem aaE:an VI (ax HN) [VJ]:=aP (H:=hn) (n:=60) (live:=[0,5,1000832]) (b:=NB) (ps:=tP) (os:=tQ) (st:=gj) OL ak aaD (by kernel_rfl) (by kernel_rfl) (fun x=>by kernel_rfl)
noncomputable def K13:Ctr:=⟨.cons (.row (dM)) (.cons (.i .i64) (.nil)),.cons (.b) (.nil),[(false,1),(false,1)],[(false,1)],[],Ok⟩
theorem k13:az Tryz.prog 13 K13:=aB (H:=hn) (n:=60) aD aek OL ak aaE rfl rfl (fun x=>by kernel_rfl)
def kR:List (Nat×CF):=[(114,Tp)]
theorem aaF:aV Tryz.prog kR:=⟨⟨_,_,Tryz.func114,ac8⟩,trivial⟩
noncomputable def OM:List (Nat×Ctr):=[(161,Vf)]
theorem oR:aJ Tryz.prog OM:=⟨adY,trivial⟩
noncomputable abbrev nY:Cfg:=aO Tryz.prog (look? kR) (look? OM) (look? bB) (([]:List (Nat×Bool)).map (·.1)) hn.kl hn.pf
theorem VK:an nY (ax kR) []:=trivial
noncomputable abbrev kD:Nat×Lps:=(1007302,⟨qV,qW,mK⟩)
theorem VL:an nY (ax kR) [kD]:=aP (H:=hn) (n:=60) (live:=[6,97,98,1007302]) (b:=Kh) (ps:=qV) (os:=qW) (st:=fB) oR ak VK (by kernel_rfl) (by kernel_rfl) (fun x=>by kernel_rfl)
noncomputable abbrev mh:Nat×Lps:=(1007301,⟨qX,qY,mL⟩)
theorem VM:an nY (ax kR) [mh,kD]:=aP (H:=hn) (n:=60) (live:=[3,6,11,12,59,60,63,64,67,68,1007301]) (b:=Ke) (ps:=qX) (os:=qY) (st:=fC) oR ak VL (by kernel_rfl) (by kernel_rfl) (fun x=>by kernel_rfl)
noncomputable abbrev pp:Nat×Lps:=(1007300,⟨qZ,ra,mM⟩)
theorem VN:an nY (ax kR) [pp,mh,kD]:=aP (H:=hn) (n:=60) (live:=[3,6,11,59,60,63,64,1007300]) (b:=Kf) (ps:=qZ) (os:=ra) (st:=fD) oR ak VM (by kernel_rfl) (by kernel_rfl) (fun x=>by kernel_rfl)
noncomputable abbrev vq:Nat×Lps:=(1007299,⟨rc,rh,mN⟩)
theorem VO:an nY (ax kR) [vq,pp,mh,kD]:=aP (H:=hn) (n:=60) (live:=[3,6,59,60,1007299]) (b:=Kg) (ps:=rc) (os:=rh) (st:=fE) oR ak VN (by kernel_rfl) (by kernel_rfl) (fun x=>by kernel_rfl)
noncomputable abbrev zU:Nat×Lps:=(1007298,⟨rl,rm,mO⟩)
theorem VP:an nY (ax kR) [zU,vq,pp,mh,kD]:=aP (H:=hn) (n:=60) (live:=[3,6,7,39,40,41,47,48,49,1007298]) (b:=Kc) (ps:=rl) (os:=rm) (st:=fF) oR ak VO (by kernel_rfl) (by kernel_rfl) (fun x=>by kernel_rfl)
noncomputable abbrev FS:Nat×Lps:=(1007297,⟨ro,rq,mP⟩)
theorem VQ:an nY (ax kR) [FS,zU,vq,pp,mh,kD]:=aP (H:=hn) (n:=60) (live:=[3,6,39,40,41,1007297]) (b:=Kd) (ps:=ro) (os:=rq) (st:=fG) oR ak VP (by kernel_rfl) (by kernel_rfl) (fun x=>by kernel_rfl)
noncomputable abbrev Rg:Nat×Lps:=(1007296,⟨rv,ry,mQ⟩)
theorem VR:an nY (ax kR) [Rg,FS,zU,vq,pp,mh,kD]:=aP (H:=hn) (n:=60) (live:=[1,3,25,26,27,1007296]) (b:=Kb) (ps:=rv) (os:=ry) (st:=fH) oR ak VQ (by kernel_rfl) (by kernel_rfl) (fun x=>by kernel_rfl)
noncomputable def wL:Ctr:=⟨.cons (qq) (.nil),.cons (.i .i64) (.nil),[(true,1)],[(false,1)],[],iV⟩
theorem zV:az Tryz.prog 114 wL:=aB (H:=hn) (n:=60) aD aaF oR ak VR rfl rfl (fun x=>by kernel_rfl)
def HO:List (Nat×CF):=[(180,Tq)]
theorem aaG:aV Tryz.prog HO:=⟨⟨_,_,Tryz.func180,ac9⟩,trivial⟩
noncomputable def ON:List (Nat×Ctr):=[(208,wJ),(207,zT)]
theorem ael:aJ Tryz.prog ON:=⟨zR,DX,trivial⟩
noncomputable abbrev aaH:Cfg:=aO Tryz.prog (look? HO) (look? ON) (look? bB) (([]:List (Nat×Bool)).map (·.1)) hn.kl hn.pf
theorem VS:an aaH (ax HO) []:=trivial
noncomputable def VT:Ctr:=⟨.cons (af) (.cons (ae) (.nil)),.cons (.b) (.nil),[(true,3),(true,5)],[(false,1)],[],DQ⟩
theorem aem:az Tryz.prog 180 VT:=aB (H:=hn) (n:=60) aD aaG ael ak VS rfl rfl (fun x=>by kernel_rfl)
def HP:List (Nat×CF):=[(240,Ts)]
theorem aaI:aV Tryz.prog HP:=⟨⟨_,_,Tryz.func240,adb⟩,trivial⟩
noncomputable def OO:List (Nat×Ctr):=[(253,Vn)]
theorem aen:aJ Tryz.prog OO:=⟨ad3,trivial⟩
noncomputable abbrev aaJ:Cfg:=aO Tryz.prog (look? HP) (look? OO) (look? bB) (([]:List (Nat×Bool)).map (·.1)) hn.kl hn.pf
theorem VU:an aaJ (ax HP) []:=trivial
noncomputable def VV:Ctr:=⟨.cons (.row (.i .u8)) (.cons (.i .u8) (.nil)),.cons (.b) (.nil),[(false,1),(false,1)],[(false,1)],[],Hy⟩
theorem aeo:az Tryz.prog 240 VV:=aB (H:=hn) (n:=60) aD aaI aen ak VU rfl rfl (fun x=>by kernel_rfl)
def HQ:List (Nat×CF):=[(62,c62)]
theorem aep:aV Tryz.prog HQ:=⟨⟨_,_,Tryz.func62,t62⟩,trivial⟩
noncomputable def VW:List (Nat×Ctr):=[(101,Vs),(102,Vu)]
theorem gK:aJ Tryz.prog VW:=⟨ad8,aea,trivial⟩
noncomputable abbrev VX:Cfg:=aO Tryz.prog (look? HQ) (look? VW) (look? bB) (([(4,false)]:List (Nat×Bool)).map (·.1)) hn.kl hn.pf
theorem aaK:an VX (ax HQ) []:=trivial
noncomputable abbrev VY:Nat×Lps:=(1003968,⟨tR,tS,oE⟩)
theorem aaL:an VX (ax HQ) [VY]:=aP (H:={hn with pr:=[(101,0,false)]}) (n:=60) (live:=[1,2,15,16,17,1003968]) (b:=NE) (ps:=tR) (os:=tS) (st:=eY) gK ak aaK (by kernel_rfl) (by kernel_rfl) (fun x=>match x with| .inl x=>(by kernel_rfl)| .inr (x)=>(by kernel_rfl))
noncomputable def nu:Ctr:=⟨.cons (ab) (.nil),.cons (ab) (.nil),[(true,5)],[(true,5)],[(4,false)],jv⟩
theorem nZ:az Tryz.prog 62 nu:=aB (H:={hn with pr:=[(101,0,false)]}) (n:=60) aD aep gK ak aaL rfl rfl (fun x=>by kernel_rfl)
def tb205:List (Nat×CF):=[(205,Ma)]
theorem td205:aV Tryz.prog tb205:=⟨⟨_,_,Tryz.func205,Up⟩,trivial⟩
noncomputable def ct205:List (Nat×Ctr):=[(234,K234)]
theorem h205:aJ Tryz.prog ct205:=⟨k234,trivial⟩
noncomputable abbrev gg205:Cfg:=aO Tryz.prog (look? tb205) (look? ct205) (look? bB) (([]:List (Nat×Bool)).map (·.1)) hn.kl hn.pf
theorem l205_0:an gg205 (ax tb205) []:=trivial
noncomputable def K205:Ctr:=⟨.cons (.i .i64) (.cons (.i .i64) (.nil)),.cons (.i .i64) (.nil),[(false,1),(false,1)],[(false,1)],[],F205⟩
theorem k205:az Tryz.prog 205 K205:=aB (H:=hn) (n:=60) aD td205 h205 ak l205_0 rfl rfl (fun x=>by kernel_rfl)
def HR:List (Nat×CF):=[(210,Tt)]
theorem aaM:aV Tryz.prog HR:=⟨⟨_,_,Tryz.func210,adc⟩,trivial⟩
noncomputable def OP:List (Nat×Ctr):=[(236,Vz)]
theorem aeq:aJ Tryz.prog OP:=⟨aeb,trivial⟩
noncomputable abbrev aaN:Cfg:=aO Tryz.prog (look? HR) (look? OP) (look? bB) (([]:List (Nat×Bool)).map (·.1)) hn.kl hn.pf
theorem VZ:an aaN (ax HR) []:=trivial
noncomputable def Mr:Ctr:=⟨.cons (af) (.cons (ae) (.cons (.i .i64) (.nil))),.cons (ae) (.nil),[(true,3),(true,5),(false,1)],[(true,5)],[],DR⟩
theorem Wa:az Tryz.prog 210 Mr:=aB (H:=hn) (n:=60) aD aaM aeq ak VZ rfl rfl (fun x=>by kernel_rfl)
def tb213:List (Nat×CF):=[(213,Mb)]
theorem td213:aV Tryz.prog tb213:=⟨⟨_,_,Tryz.func213,Uq⟩,trivial⟩
noncomputable def ct213:List (Nat×Ctr):=[(205,K205),(214,K214)]
theorem h213:aJ Tryz.prog ct213:=⟨k205,k214,trivial⟩
noncomputable abbrev gg213:Cfg:=aO Tryz.prog (look? tb213) (look? ct213) (look? bB) (([]:List (Nat×Bool)).map (·.1)) hn.kl hn.pf
theorem l213_0:an gg213 (ax tb213) []:=trivial
noncomputable def K213:Ctr:=⟨.cons (aw) (.cons (aw) (.nil)),.cons (.i .i64) (.nil),[(true,3),(true,3)],[(false,1)],[],F213⟩
theorem k213:az Tryz.prog 213 K213:=aB (H:=hn) (n:=60) aD td213 h213 ak l213_0 rfl rfl (fun x=>by kernel_rfl)
def BH:List (Nat×CF):=[(25,Tu)]
theorem aaO:aV Tryz.prog BH:=⟨⟨_,_,Tryz.func25,t25⟩,trivial⟩
noncomputable def OQ:List (Nat×Ctr):=[(61,DZ),(62,nu)]
theorem Wb:aJ Tryz.prog OQ:=⟨FR,nZ,trivial⟩
noncomputable abbrev OR:Cfg:=aO Tryz.prog (look? BH) (look? OQ) (look? bB) (([(6,true),(7,true)]:List (Nat×Bool)).map (·.1)) hn.kl hn.pf
theorem Wc:an OR (ax BH) []:=trivial
noncomputable abbrev Rh:Nat×Lps:=(1001600,⟨rz,rA,mR⟩)
theorem Wd:an OR (ax BH) [Rh]:=aP (H:={hn with pr:=[(61,0,false)]}) (n:=60) (live:=[1,2,13,14,15,1001600]) (b:=Hj) (ps:=rz) (os:=rA) (st:=eh) Wb ak Wc (by kernel_rfl) (by kernel_rfl) (fun x=>match x with| .inl x=>(by kernel_rfl)| .inr (x)=>(by kernel_rfl))
noncomputable def aer:Ctr:=⟨bX,bX,[(true,8)],[(true,8)],[(6,true),(7,true)],Mf⟩
theorem aes:az Tryz.prog 25 aer:=aB (H:={hn with pr:=[(61,0,false)]}) (n:=60) aD aaO Wb ak Wd rfl rfl (fun x=>by kernel_rfl)
def BI:List (Nat×CF):=[(25,Tu)]
theorem aaP:aV Tryz.prog BI:=⟨⟨_,_,Tryz.func25,t25⟩,trivial⟩
noncomputable def OS:List (Nat×Ctr):=[(61,DZ),(62,nu)]
theorem We:aJ Tryz.prog OS:=⟨FR,nZ,trivial⟩
noncomputable abbrev OT:Cfg:=aO Tryz.prog (look? BI) (look? OS) (look? bB) (([(6,true),(7,true)]:List (Nat×Bool)).map (·.1)) hn.kl hn.pf
theorem Wf:an OT (ax BI) []:=trivial
noncomputable abbrev Ri:Nat×Lps:=(1001600,⟨rB,rC,mS⟩)
theorem Wg:an OT (ax BI) [Ri]:=aP (H:={hn with pr:=[(61,0,true)]}) (n:=60) (live:=[1,2,13,14,15,1001600]) (b:=Hj) (ps:=rB) (os:=rC) (st:=ej) We ak Wf (by kernel_rfl) (by kernel_rfl) (fun x=>match x with| .inl x=>(by kernel_rfl)| .inr (x)=>(by kernel_rfl))
noncomputable def aet:Ctr:=⟨bX,bX,[(true,8)],[(true,8)],[(6,true),(7,true)],Mg⟩
theorem aeu:az Tryz.prog 25 aet:=aB (H:={hn with pr:=[(61,0,true)]}) (n:=60) aD aaP We ak Wg rfl rfl (fun x=>by kernel_rfl)
noncomputable def KG:Ctr:=⟨bX,bX,[(true,8)],[(true,8)],[(6,true),(7,true)],cA⟩
theorem OU:az Tryz.prog 25 KG:=by
 have h:= @vl Tryz.prog 25 (bX) (bX) _ _ _ _ _ (fun x=>isEmpty x.1.2.2.2.2.2.2.2.1) aeu aes
 exact h
def Ms:List (Nat×CF):=[(95,c95),(133,Tl),(134,Tm),(135,Tn),(136,To)]
theorem aev:aV Tryz.prog Ms:=⟨⟨_,_,Tryz.func95,t95⟩,⟨_,_,Tryz.func133,ac4⟩,⟨_,_,Tryz.func134,ac5⟩,⟨_,_,Tryz.func135,ac6⟩,⟨_,_,Tryz.func136,ac7⟩,trivial⟩
noncomputable def Wh:List (Nat×Ctr):=[]
theorem h95:aJ Tryz.prog Wh:=trivial
noncomputable abbrev aew:Cfg:=aO Tryz.prog (look? Ms) (look? Wh) (look? bB) (([]:List (Nat×Bool)).map (·.1)) hn.kl hn.pf
theorem aaQ:an aew (ax Ms) []:=trivial
noncomputable def K95:Ctr:=⟨.cons (ae) (.cons (.i .i64) (.nil)),.cons (.i .i64) (.nil),[(true,5),(false,1)],[(false,1)],[],Om⟩
theorem k95:az Tryz.prog 95 K95:=aB (H:=hn) (n:=60) aD aev h95 ak aaQ rfl rfl (fun x=>by kernel_rfl)
def Mt:List (Nat×CF):=[(94,c94)]
theorem aex:aV Tryz.prog Mt:=⟨⟨_,_,Tryz.func94,t94⟩,trivial⟩
noncomputable def Wi:List (Nat×Ctr):=[(45,VG)]
theorem h94:aJ Tryz.prog Wi:=⟨k45,trivial⟩
noncomputable abbrev aey:Cfg:=aO Tryz.prog (look? Mt) (look? Wi) (look? bB) (([]:List (Nat×Bool)).map (·.1)) hn.kl hn.pf
theorem aaR:an aey (ax Mt) []:=trivial
noncomputable def K94:Ctr:=⟨.cons (ab) (.nil),.cons (.b) (.nil),[(true,5)],[(false,1)],[],On⟩
theorem k94:az Tryz.prog 94 K94:=aB (H:=hn) (n:=60) aD aex h94 ak aaR rfl rfl (fun x=>by kernel_rfl)
def HS:List (Nat×CF):=[(130,Tv)]
theorem aaS:aV Tryz.prog HS:=⟨⟨_,_,Tryz.func130,ade⟩,trivial⟩
noncomputable def OV:List (Nat×Ctr):=[(179,Vh),(180,VT)]
theorem aez:aJ Tryz.prog OV:=⟨ad0,aem,trivial⟩
noncomputable abbrev aaT:Cfg:=aO Tryz.prog (look? HS) (look? OV) (look? bB) (([]:List (Nat×Bool)).map (·.1)) hn.kl hn.pf
theorem Wj:an aaT (ax HS) []:=trivial
noncomputable def HT:Ctr:=⟨.cons (af) (.cons (ae) (.nil)),.cons (.i .i64) (.nil),[(true,3),(true,5)],[(false,1)],[],zr⟩
theorem Mu:az Tryz.prog 130 HT:=aB (H:=hn) (n:=60) aD aaS aez ak Wj rfl rfl (fun x=>by kernel_rfl)
def BJ:List (Nat×CF):=[(181,Tw),(220,Ta),(219,Tr),(239,Tb)]
theorem aaU:aV Tryz.prog BJ:=⟨⟨_,_,Tryz.func181,adf⟩,⟨_,_,Tryz.func220,acT⟩,⟨_,_,Tryz.func219,ada⟩,⟨_,_,Tryz.func239,acU⟩,trivial⟩
noncomputable def OW:List (Nat×Ctr):=[]
theorem Wk:aJ Tryz.prog OW:=trivial
noncomputable abbrev OX:Cfg:=aO Tryz.prog (look? BJ) (look? OW) (look? bB) (([]:List (Nat×Bool)).map (·.1)) hn.kl hn.pf
theorem Wl:an OX (ax BJ) []:=trivial
noncomputable abbrev Rj:Nat×Lps:=(1015296,⟨rD,rE,mT⟩)
theorem Wm:an OX (ax BJ) [Rj]:=aP (H:=hn) (n:=60) (live:=[0,1,7,8,1015296]) (b:=JU) (ps:=rD) (os:=rE) (st:=fI) Wk ak Wl (by kernel_rfl) (by kernel_rfl) (fun x=>by kernel_rfl)
noncomputable def HU:Ctr:=⟨.cons (ab) (.cons (af) (.nil)),.cons (.b) (.nil),[(true,5),(true,3)],[(false,1)],[],zt⟩
theorem Mw:az Tryz.prog 181 HU:=aB (H:=hn) (n:=60) aD aaU Wk ak Wm rfl rfl (fun x=>by kernel_rfl)
def HV:List (Nat×CF):=[(222,Tx)]
theorem aaV:aV Tryz.prog HV:=⟨⟨_,_,Tryz.func222,adg⟩,trivial⟩
noncomputable def OY:List (Nat×Ctr):=[(240,VV)]
theorem aeA:aJ Tryz.prog OY:=⟨aeo,trivial⟩
noncomputable abbrev aaW:Cfg:=aO Tryz.prog (look? HV) (look? OY) (look? bB) (([]:List (Nat×Bool)).map (·.1)) hn.kl hn.pf
theorem Wn:an aaW (ax HV) []:=trivial
noncomputable def Mx:Ctr:=⟨.cons (ae) (.cons (.row (.i .u8)) (.nil)),.cons (.b) (.nil),[(true,5),(false,1)],[(false,1)],[],DS⟩
theorem Wo:az Tryz.prog 222 Mx:=aB (H:=hn) (n:=60) aD aaV aeA ak Wn rfl rfl (fun x=>by kernel_rfl)
def HW:List (Nat×CF):=[(235,TA)]
theorem aaX:aV Tryz.prog HW:=⟨⟨_,_,Tryz.func235,adi⟩,trivial⟩
noncomputable def OZ:List (Nat×Ctr):=[(130,HT)]
theorem aeB:aJ Tryz.prog OZ:=⟨Mu,trivial⟩
noncomputable abbrev aaY:Cfg:=aO Tryz.prog (look? HW) (look? OZ) (look? bB) (([]:List (Nat×Bool)).map (·.1)) hn.kl hn.pf
theorem Wp:an aaY (ax HW) []:=trivial
noncomputable def Wq:Ctr:=⟨.cons (af) (.cons (ae) (.cons (.b) (.nil))),.cons (.i .i64) (.nil),[(true,3),(true,5),(false,1)],[(false,1)],[],Hz⟩
theorem aeC:az Tryz.prog 235 Wq:=aB (H:=hn) (n:=60) aD aaX aeB ak Wp rfl rfl (fun x=>by kernel_rfl)
def HX:List (Nat×CF):=[(211,TC)]
theorem aaZ:aV Tryz.prog HX:=⟨⟨_,_,Tryz.func211,adk⟩,trivial⟩
noncomputable def Pa:List (Nat×Ctr):=[(130,HT)]
theorem aeD:aJ Tryz.prog Pa:=⟨Mu,trivial⟩
noncomputable abbrev aa0:Cfg:=aO Tryz.prog (look? HX) (look? Pa) (look? bB) (([]:List (Nat×Bool)).map (·.1)) hn.kl hn.pf
theorem Wr:an aa0 (ax HX) []:=trivial
noncomputable def uF:Ctr:=⟨.cons (af) (.cons (ae) (.nil)),.cons (ae) (.cons (.i .i64) (.nil)),[(true,3),(true,5)],[(true,5),(false,1)],[],oF⟩
theorem wM:az Tryz.prog 211 uF:=aB (H:=hn) (n:=60) aD aaZ aeD ak Wr rfl rfl (fun x=>by kernel_rfl)
def yw:List (Nat×CF):=[(175,TD)]
theorem aa1:aV Tryz.prog yw:=⟨⟨_,_,Tryz.func175,adl⟩,trivial⟩
noncomputable def Pb:List (Nat×Ctr):=[(176,uE),(213,K213)]
theorem My:aJ Tryz.prog Pb:=⟨wK,k213,trivial⟩
noncomputable abbrev HY:Cfg:=aO Tryz.prog (look? yw) (look? Pb) (look? bB) (([(0,true)]:List (Nat×Bool)).map (·.1)) hn.kl hn.pf
theorem Ws:an HY (ax yw) []:=trivial
noncomputable abbrev FU:Nat×Lps:=(1011201,⟨rF,rG,ja⟩)
theorem Wt:an HY (ax yw) [FU]:=aP (H:=hn) (n:=60) (live:=[1,5,7,10,11,12,17,18,19,1011201]) (b:=Kj) (ps:=rF) (os:=rG) (st:=eo) My ak Ws (by kernel_rfl) (by kernel_rfl) (fun x=>match x with| .inl x=>(by kernel_rfl)| .inr (x)=>(by kernel_rfl))
noncomputable abbrev Rk:Nat×Lps:=(1011200,⟨rH,rI,mU⟩)
theorem Wu:an HY (ax yw) [Rk,FU]:=aP (H:=hn) (n:=60) (live:=[1,5,10,11,12,1011200]) (b:=Kk) (ps:=rH) (os:=rI) (st:=ep) My ak Wt (by kernel_rfl) (by kernel_rfl) (fun x=>match x with| .inl x=>(by kernel_rfl)| .inr (x)=>(by kernel_rfl))
noncomputable def Wv:Ctr:=⟨.cons (.row (ab)) (.cons (.i .i64) (.nil)),.cons (.row (aw)) (.nil),[(false,1),(false,1)],[(false,1)],[(0,true)],HA⟩
theorem aeE:az Tryz.prog 175 Wv:=aB (H:=hn) (n:=60) aD aa1 My ak Wu rfl rfl (fun x=>by kernel_rfl)
def Eb:List (Nat×CF):=[(57,c57)]
theorem aeF:aV Tryz.prog Eb:=⟨⟨_,_,Tryz.func57,t57⟩,trivial⟩
noncomputable def Ww:List (Nat×Ctr):=[(95,K95)]
theorem Wx:aJ Tryz.prog Ww:=⟨k95,trivial⟩
noncomputable abbrev Mz:Cfg:=aO Tryz.prog (look? Eb) (look? Ww) (look? bB) (([]:List (Nat×Bool)).map (·.1)) hn.kl hn.pf
theorem aa2:an Mz (ax Eb) []:=trivial
noncomputable abbrev KH:Nat×Lps:=(1003649,⟨tT,tU,oG⟩)
theorem aa3:an Mz (ax Eb) [KH]:=aP (H:=hn) (n:=60) (live:=[3,5,9,10,11,19,20,21,1003649]) (b:=NF) (ps:=tT) (os:=tU) (st:=gk) Wx ak aa2 (by kernel_rfl) (by kernel_rfl) (fun x=>by kernel_rfl)
noncomputable abbrev Wy:Nat×Lps:=(1003648,⟨tV,tW,oH⟩)
theorem aa4:an Mz (ax Eb) [Wy,KH]:=aP (H:=hn) (n:=60) (live:=[3,9,10,11,1003648]) (b:=NG) (ps:=tV) (os:=tW) (st:=gl) Wx ak aa3 (by kernel_rfl) (by kernel_rfl) (fun x=>by kernel_rfl)
noncomputable def K57:Ctr:=⟨bX,.cons (.i .i64) (.nil),[(true,8)],[(false,1)],[],Oo⟩
theorem k57:az Tryz.prog 57 K57:=aB (H:=hn) (n:=60) aD aeF Wx ak aa4 rfl rfl (fun x=>by kernel_rfl)
def HZ:List (Nat×CF):=[(56,c56)]
theorem aeG:aV Tryz.prog HZ:=⟨⟨_,_,Tryz.func56,t56⟩,trivial⟩
noncomputable def Wz:List (Nat×Ctr):=[(94,K94)]
theorem h56:aJ Tryz.prog Wz:=⟨k94,trivial⟩
noncomputable abbrev WA:Cfg:=aO Tryz.prog (look? HZ) (look? Wz) (look? bB) (([]:List (Nat×Bool)).map (·.1)) hn.kl hn.pf
theorem aa5:an WA (ax HZ) []:=trivial
noncomputable abbrev WB:Nat×Lps:=(1003584,⟨tX,tY,oI⟩)
theorem aa6:an WA (ax HZ) [WB]:=aP (H:=hn) (n:=60) (live:=[0,3,1003584]) (b:=NH) (ps:=tX) (os:=tY) (st:=gm) h56 ak aa5 (by kernel_rfl) (by kernel_rfl) (fun x=>by kernel_rfl)
noncomputable def K56:Ctr:=⟨.cons (.row (ab)) (.nil),.cons (.b) (.nil),[(false,1)],[(false,1)],[],Oq⟩
theorem k56:az Tryz.prog 56 K56:=aB (H:=hn) (n:=60) aD aeG h56 ak aa6 rfl rfl (fun x=>by kernel_rfl)
def BL:List (Nat×CF):=[(183,TF),(223,Tz),(53,ND),(93,Nz)]
theorem aa7:aV Tryz.prog BL:=⟨⟨_,_,Tryz.func183,adn⟩,⟨_,_,Tryz.func223,adh⟩,⟨_,_,Tryz.func53,Uo⟩,⟨_,_,Tryz.func93,Ul⟩,trivial⟩
noncomputable def Pc:List (Nat×Ctr):=[(222,Mx)]
theorem WC:aJ Tryz.prog Pc:=⟨Wo,trivial⟩
noncomputable abbrev Pd:Cfg:=aO Tryz.prog (look? BL) (look? Pc) (look? bB) (([]:List (Nat×Bool)).map (·.1)) hn.kl hn.pf
theorem WD:an Pd (ax BL) []:=trivial
noncomputable abbrev Rl:Nat×Lps:=(1005952,⟨rJ,rK,mV⟩)
theorem WE:an Pd (ax BL) [Rl]:=aP (H:=hn) (n:=60) (live:=[0,1,7,8,1005952]) (b:=BD) (ps:=rJ) (os:=rK) (st:=fJ) WC ak WD (by kernel_rfl) (by kernel_rfl) (fun x=>by kernel_rfl)
noncomputable def WF:Ctr:=⟨.cons (ab) (.cons (.row (.i .u8)) (.nil)),.cons (.b) (.nil),[(true,5),(false,1)],[(false,1)],[],zu⟩
theorem aeH:az Tryz.prog 183 WF:=aB (H:=hn) (n:=60) aD aa7 WC ak WE rfl rfl (fun x=>by kernel_rfl)
def Ia:List (Nat×CF):=[(206,TH)]
theorem aa8:aV Tryz.prog Ia:=⟨⟨_,_,Tryz.func206,ado⟩,trivial⟩
noncomputable def Pe:List (Nat×Ctr):=[(235,Wq)]
theorem aeI:aJ Tryz.prog Pe:=⟨aeC,trivial⟩
noncomputable abbrev aa9:Cfg:=aO Tryz.prog (look? Ia) (look? Pe) (look? bB) (([]:List (Nat×Bool)).map (·.1)) hn.kl hn.pf
theorem WG:an aa9 (ax Ia) []:=trivial
noncomputable def zW:Ctr:=⟨.cons (af) (.cons (ae) (.cons (.b) (.cons (.i .u8) (.nil)))),.cons (.i .i64) (.nil),[(true,3),(true,5),(false,1),(false,1)],[(false,1)],[],gn⟩
theorem Ec:az Tryz.prog 206 zW:=aB (H:=hn) (n:=60) aD aa8 aeI ak WG rfl rfl (fun x=>by kernel_rfl)
def Ib:List (Nat×CF):=[(167,TI)]
theorem aba:aV Tryz.prog Ib:=⟨⟨_,_,Tryz.func167,adp⟩,trivial⟩
noncomputable def Pf:List (Nat×Ctr):=[(207,zT),(208,wJ),(206,zW)]
theorem h167:aJ Tryz.prog Pf:=⟨DX,zR,Ec,trivial⟩
noncomputable abbrev abb:Cfg:=aO Tryz.prog (look? Ib) (look? Pf) (look? bB) (([]:List (Nat×Bool)).map (·.1)) hn.kl hn.pf
theorem WH:an abb (ax Ib) []:=trivial
noncomputable def WI:Ctr:=⟨.cons (af) (.cons (ae) (.cons (.i .i64) (.cons (.i .i64) (.nil)))),.cons (ae) (.cons (.i .i64) (.nil)),[(true,3),(true,5),(false,1),(false,1)],[(true,5),(false,1)],[],tZ⟩
theorem aeJ:az Tryz.prog 167 WI:=aB (H:=hn) (n:=60) aD aba h167 ak WH rfl rfl (fun x=>by kernel_rfl)
def Ic:List (Nat×CF):=[(209,TJ)]
theorem abc:aV Tryz.prog Ic:=⟨⟨_,_,Tryz.func209,adq⟩,trivial⟩
noncomputable def Pg:List (Nat×Ctr):=[(207,zT),(206,zW)]
theorem aeK:aJ Tryz.prog Pg:=⟨DX,Ec,trivial⟩
noncomputable abbrev abd:Cfg:=aO Tryz.prog (look? Ic) (look? Pg) (look? bB) (([]:List (Nat×Bool)).map (·.1)) hn.kl hn.pf
theorem WJ:an abd (ax Ic) []:=trivial
noncomputable def Id:Ctr:=⟨.cons (af) (.cons (ae) (.cons (.b) (.cons (.i .i64) (.nil)))),.cons (.i .i64) (.nil),[(true,3),(true,5),(false,1),(false,1)],[(false,1)],[],zw⟩
theorem MA:az Tryz.prog 209 Id:=aB (H:=hn) (n:=60) aD abc aeK ak WJ rfl rfl (fun x=>by kernel_rfl)
def Ie:List (Nat×CF):=[(171,TK)]
theorem abe:aV Tryz.prog Ie:=⟨⟨_,_,Tryz.func171,adr⟩,trivial⟩
noncomputable def Ph:List (Nat×Ctr):=[(208,wJ),(209,Id),(210,Mr)]
theorem aeL:aJ Tryz.prog Ph:=⟨zR,MA,Wa,trivial⟩
noncomputable abbrev abf:Cfg:=aO Tryz.prog (look? Ie) (look? Ph) (look? bB) (([]:List (Nat×Bool)).map (·.1)) hn.kl hn.pf
theorem WK:an abf (ax Ie) []:=trivial
noncomputable def WL:Ctr:=⟨.cons (af) (.cons (ae) (.cons (.i .i64) (.cons (.i .i64) (.nil)))),.cons (ae) (.cons (.i .i64) (.nil)),[(true,3),(true,5),(false,1),(false,1)],[(true,5),(false,1)],[],wC⟩
theorem aeM:az Tryz.prog 171 WL:=aB (H:=hn) (n:=60) aD abe aeL ak WK rfl rfl (fun x=>by kernel_rfl)
def Ig:List (Nat×CF):=[(173,TL)]
theorem abg:aV Tryz.prog Ig:=⟨⟨_,_,Tryz.func173,ads⟩,trivial⟩
noncomputable def Pi:List (Nat×Ctr):=[(208,wJ),(209,Id)]
theorem aeN:aJ Tryz.prog Pi:=⟨zR,MA,trivial⟩
noncomputable abbrev abh:Cfg:=aO Tryz.prog (look? Ig) (look? Pi) (look? bB) (([]:List (Nat×Bool)).map (·.1)) hn.kl hn.pf
theorem WM:an abh (ax Ig) []:=trivial
noncomputable def WN:Ctr:=⟨.cons (af) (.cons (ae) (.cons (.i .i64) (.cons (.i .i64) (.nil)))),.cons (ae) (.cons (.i .i64) (.nil)),[(true,3),(true,5),(false,1),(false,1)],[(true,5),(false,1)],[],zx⟩
theorem aeO:az Tryz.prog 173 WN:=aB (H:=hn) (n:=60) aD abg aeN ak WM rfl rfl (fun x=>by kernel_rfl)
def Ih:List (Nat×CF):=[(216,TM)]
theorem abi:aV Tryz.prog Ih:=⟨⟨_,_,Tryz.func216,adt⟩,trivial⟩
noncomputable def Pj:List (Nat×Ctr):=[(207,zT),(208,wJ),(206,zW),(176,uE)]
theorem aeP:aJ Tryz.prog Pj:=⟨DX,zR,Ec,wK,trivial⟩
noncomputable abbrev abj:Cfg:=aO Tryz.prog (look? Ih) (look? Pj) (look? bB) (([]:List (Nat×Bool)).map (·.1)) hn.kl hn.pf
theorem WO:an abj (ax Ih) []:=trivial
noncomputable def WP:Ctr:=⟨.cons (af) (.cons (ae) (.cons (.i .i64) (.cons (.i .i64) (.nil)))),.cons (ae) (.cons (.i .i64) (.nil)),[(true,3),(true,5),(false,1),(false,1)],[(true,5),(false,1)],[],zy⟩
theorem aeQ:az Tryz.prog 216 WP:=aB (H:=hn) (n:=60) aD abi aeP ak WO rfl rfl (fun x=>by kernel_rfl)
def Ii:List (Nat×CF):=[(218,TN)]
theorem abk:aV Tryz.prog Ii:=⟨⟨_,_,Tryz.func218,adu⟩,trivial⟩
noncomputable def Pk:List (Nat×Ctr):=[(208,wJ),(206,zW),(176,uE),(210,Mr)]
theorem aeR:aJ Tryz.prog Pk:=⟨zR,Ec,wK,Wa,trivial⟩
noncomputable abbrev abl:Cfg:=aO Tryz.prog (look? Ii) (look? Pk) (look? bB) (([]:List (Nat×Bool)).map (·.1)) hn.kl hn.pf
theorem WQ:an abl (ax Ii) []:=trivial
noncomputable def WR:Ctr:=⟨.cons (af) (.cons (ae) (.cons (.i .i64) (.nil))),.cons (ae) (.cons (.i .i64) (.nil)),[(true,3),(true,5),(false,1)],[(true,5),(false,1)],[],zA⟩
theorem aeS:az Tryz.prog 218 WR:=aB (H:=hn) (n:=60) aD abk aeR ak WQ rfl rfl (fun x=>by kernel_rfl)
def MB:List (Nat×CF):=[(21,c21)]
theorem aeT:aV Tryz.prog MB:=⟨⟨_,_,Tryz.func21,t21⟩,trivial⟩
noncomputable def WS:List (Nat×Ctr):=[(56,K56)]
theorem h21:aJ Tryz.prog WS:=⟨k56,trivial⟩
noncomputable abbrev aeU:Cfg:=aO Tryz.prog (look? MB) (look? WS) (look? bB) (([]:List (Nat×Bool)).map (·.1)) hn.kl hn.pf
theorem abm:an aeU (ax MB) []:=trivial
noncomputable def K21:Ctr:=⟨bX,.cons (.b) (.nil),[(true,8)],[(false,1)],[],Ot⟩
theorem k21:az Tryz.prog 21 K21:=aB (H:=hn) (n:=60) aD aeT h21 ak abm rfl rfl (fun x=>by kernel_rfl)
def BM:List (Nat×CF):=[(182,TO),(221,TE),(53,ND),(93,Nz)]
theorem abn:aV Tryz.prog BM:=⟨⟨_,_,Tryz.func182,adv⟩,⟨_,_,Tryz.func221,adm⟩,⟨_,_,Tryz.func53,Uo⟩,⟨_,_,Tryz.func93,Ul⟩,trivial⟩
noncomputable def Pl:List (Nat×Ctr):=[(222,Mx)]
theorem zX:aJ Tryz.prog Pl:=⟨Wo,trivial⟩
noncomputable abbrev Pm:Cfg:=aO Tryz.prog (look? BM) (look? Pl) (look? bB) (([]:List (Nat×Bool)).map (·.1)) hn.kl hn.pf
theorem WT:an Pm (ax BM) []:=trivial
noncomputable abbrev Rm:Nat×Lps:=(1005952,⟨rL,rM,mW⟩)
theorem WU:an Pm (ax BM) [Rm]:=aP (H:=hn) (n:=60) (live:=[0,1,7,8,1005952]) (b:=BD) (ps:=rL) (os:=rM) (st:=fK) zX ak WT (by kernel_rfl) (by kernel_rfl) (fun x=>by kernel_rfl)
noncomputable def uG:Ctr:=⟨.cons (ab) (.cons (.row (.i .u8)) (.nil)),.cons (.b) (.nil),[(true,5),(false,1)],[(false,1)],[],jb⟩
theorem wN:az Tryz.prog 182 uG:=aB (H:=hn) (n:=60) aD abn zX ak WU rfl rfl (fun x=>by kernel_rfl)
def Ij:List (Nat×CF):=[(202,TP)]
theorem abo:aV Tryz.prog Ij:=⟨⟨_,_,Tryz.func202,adw⟩,trivial⟩
noncomputable def Pn:List (Nat×Ctr):=[(207,zT),(206,zW)]
theorem aeV:aJ Tryz.prog Pn:=⟨DX,Ec,trivial⟩
noncomputable abbrev abp:Cfg:=aO Tryz.prog (look? Ij) (look? Pn) (look? bB) (([]:List (Nat×Bool)).map (·.1)) hn.kl hn.pf
theorem WV:an abp (ax Ij) []:=trivial
noncomputable def MC:Ctr:=⟨.cons (af) (.cons (ae) (.cons (.i .i64) (.nil))),.cons (ae) (.cons (.i .i64) (.nil)),[(true,3),(true,5),(false,1)],[(true,5),(false,1)],[],DT⟩
theorem WW:az Tryz.prog 202 MC:=aB (H:=hn) (n:=60) aD abo aeV ak WV rfl rfl (fun x=>by kernel_rfl)
def Ik:List (Nat×CF):=[(169,TR)]
theorem abq:aV Tryz.prog Ik:=⟨⟨_,_,Tryz.func169,ady⟩,trivial⟩
noncomputable def Po:List (Nat×Ctr):=[(209,Id)]
theorem aeW:aJ Tryz.prog Po:=⟨MA,trivial⟩
noncomputable abbrev abr:Cfg:=aO Tryz.prog (look? Ik) (look? Po) (look? bB) (([]:List (Nat×Bool)).map (·.1)) hn.kl hn.pf
theorem WX:an abr (ax Ik) []:=trivial
noncomputable def WY:Ctr:=⟨.cons (af) (.cons (ae) (.cons (.i .i64) (.nil))),.cons (ae) (.cons (.i .i64) (.nil)),[(true,3),(true,5),(false,1)],[(true,5),(false,1)],[],HB⟩
theorem aeX:az Tryz.prog 169 WY:=aB (H:=hn) (n:=60) aD abq aeW ak WX rfl rfl (fun x=>by kernel_rfl)
def BN:List (Nat×CF):=[(131,TW)]
theorem abt:aV Tryz.prog BN:=⟨⟨_,_,Tryz.func131,adD⟩,trivial⟩
noncomputable def Pp:List (Nat×Ctr):=[(181,HU),(182,uG),(183,WF)]
theorem WZ:aJ Tryz.prog Pp:=⟨Mw,wN,aeH,trivial⟩
noncomputable abbrev Pq:Cfg:=aO Tryz.prog (look? BN) (look? Pp) (look? bB) (([]:List (Nat×Bool)).map (·.1)) hn.kl hn.pf
theorem Xa:an Pq (ax BN) []:=trivial
noncomputable abbrev Rn:Nat×Lps:=(1008384,⟨rN,rO,mX⟩)
theorem Xb:an Pq (ax BN) [Rn]:=aP (H:=hn) (n:=60) (live:=[1,11,12,13,1008384]) (b:=Kl) (ps:=rN) (os:=rO) (st:=fL) WZ ak Xa (by kernel_rfl) (by kernel_rfl) (fun x=>by kernel_rfl)
noncomputable def Xc:Ctr:=⟨.cons (ab) (.nil),.cons (.b) (.nil),[(true,5)],[(false,1)],[],HC⟩
theorem aeY:az Tryz.prog 131 Xc:=aB (H:=hn) (n:=60) aD abt WZ ak Xb rfl rfl (fun x=>by kernel_rfl)
def Il:List (Nat×CF):=[(89,c89)]
theorem aeZ:aV Tryz.prog Il:=⟨⟨_,_,Tryz.func89,t89⟩,trivial⟩
noncomputable def Xd:List (Nat×Ctr):=[(114,wL),(130,HT),(131,Xc)]
theorem h89:aJ Tryz.prog Xd:=⟨zV,Mu,aeY,trivial⟩
noncomputable abbrev Xe:Cfg:=aO Tryz.prog (look? Il) (look? Xd) (look? bB) (([]:List (Nat×Bool)).map (·.1)) hn.kl hn.pf
theorem abu:an Xe (ax Il) []:=trivial
noncomputable abbrev Xf:Nat×Lps:=(1005696,⟨ua,ub,oJ⟩)
theorem abv:an Xe (ax Il) [Xf]:=aP (H:=hn) (n:=60) (live:=[1,43,44,45,1005696]) (b:=NI) (ps:=ua) (os:=ub) (st:=gp) h89 ak abu (by kernel_rfl) (by kernel_rfl) (fun x=>by kernel_rfl)
noncomputable def yx:Ctr:=⟨.cons (ab) (.nil),.cons (.i .i64) (.nil),[(true,5)],[(false,1)],[],rP⟩
theorem Ba:az Tryz.prog 89 yx:=aB (H:=hn) (n:=60) aD aeZ h89 ak abv rfl rfl (fun x=>by kernel_rfl)
def BO:List (Nat×CF):=[(116,TY),(163,Mc)]
theorem abw:aV Tryz.prog BO:=⟨⟨_,_,Tryz.func116,adF⟩,⟨_,_,Tryz.func163,Ur⟩,trivial⟩
noncomputable def Pr:List (Nat×Ctr):=[(114,wL),(162,Ml),(62,nu),(181,HU),(202,MC)]
theorem Im:aJ Tryz.prog Pr:=⟨zV,Vq,nZ,Mw,WW,trivial⟩
noncomputable abbrev Ps:Cfg:=aO Tryz.prog (look? BO) (look? Pr) (look? bB) (([]:List (Nat×Bool)).map (·.1)) hn.kl hn.pf
theorem Xg:an Ps (ax BO) []:=trivial
noncomputable abbrev Ro:Nat×Lps:=(1010432,⟨rQ,rR,je⟩)
theorem Xh:an Ps (ax BO) [Ro]:=aP (H:=hn) (n:=60) (live:=[1,2,9,10,11,1010432]) (b:=DG) (ps:=rQ) (os:=rR) (st:=fM) Im ak Xg (by kernel_rfl) (by kernel_rfl) (fun x=>by kernel_rfl)
noncomputable def Ed:Ctr:=⟨.cons (.i .i64) (.cons (.s) (.cons (qq) (.cons (.i .i64) (.nil)))),.cons (ab) (.cons (.i .i64) (.cons (.i .i64) (.nil))),[(false,1),(false,1),(true,1),(false,1)],[(true,5),(false,1),(false,1)],[],qs⟩
theorem In:az Tryz.prog 116 Ed:=aB (H:=hn) (n:=60) aD abw Im ak Xh rfl rfl (fun x=>by kernel_rfl)
def yy:List (Nat×CF):=[(123,TZ),(168,TX),(165,wA),(174,tL),(163,Mc)]
theorem abx:aV Tryz.prog yy:=⟨⟨_,_,Tryz.func123,adG⟩,⟨_,_,Tryz.func168,adE⟩,⟨_,_,Tryz.func165,zq⟩,⟨_,_,Tryz.func174,wB⟩,⟨_,_,Tryz.func163,Ur⟩,trivial⟩
noncomputable def Pt:List (Nat×Ctr):=[(162,Ml),(169,WY),(89,yx),(62,nu),(182,uG),(211,uF),(181,HU),(202,MC)]
theorem MD:aJ Tryz.prog Pt:=⟨Vq,aeX,Ba,nZ,wN,wM,Mw,WW,trivial⟩
noncomputable abbrev Io:Cfg:=aO Tryz.prog (look? yy) (look? Pt) (look? bB) (([]:List (Nat×Bool)).map (·.1)) hn.kl hn.pf
theorem Xi:an Io (ax yy) []:=trivial
noncomputable abbrev FV:Nat×Lps:=(1010432,⟨rS,rT,gq⟩)
theorem Xj:an Io (ax yy) [FV]:=aP (H:=hn) (n:=60) (live:=[1,2,9,10,11,1010432]) (b:=DG) (ps:=rS) (os:=rT) (st:=rU) MD ak Xi (by kernel_rfl) (by kernel_rfl) (fun x=>by kernel_rfl)
noncomputable abbrev Rq:Nat×Lps:=(1011136,⟨rV,rW,uc⟩)
theorem Xk:an Io (ax yy) [Rq,FV]:=aP (H:=hn) (n:=60) (live:=[1,8,9,10,1011136]) (b:=lr) (ps:=rV) (os:=rW) (st:=rX) MD ak Xj (by kernel_rfl) (by kernel_rfl) (fun x=>by kernel_rfl)
noncomputable def Ee:Ctr:=⟨.cons (ab) (aw),.cons (ab) (.cons (.i .i64) (.cons (.i .i64) (.nil))),[(true,5),(false,1),(false,1),(false,1)],[(true,5),(false,1),(false,1)],[],wD⟩
theorem Ip:az Tryz.prog 123 Ee:=aB (H:=hn) (n:=60) aD abx MD ak Xk rfl rfl (fun x=>by kernel_rfl)
def BP:List (Nat×CF):=[(124,Ua),(170,TS),(165,wA),(174,tL)]
theorem aby:aV Tryz.prog BP:=⟨⟨_,_,Tryz.func124,adH⟩,⟨_,_,Tryz.func170,adz⟩,⟨_,_,Tryz.func165,zq⟩,⟨_,_,Tryz.func174,wB⟩,trivial⟩
noncomputable def Pu:List (Nat×Ctr):=[(171,WL),(89,yx),(62,nu),(182,uG),(211,uF)]
theorem zY:aJ Tryz.prog Pu:=⟨aeM,Ba,nZ,wN,wM,trivial⟩
noncomputable abbrev Pv:Cfg:=aO Tryz.prog (look? BP) (look? Pu) (look? bB) (([]:List (Nat×Bool)).map (·.1)) hn.kl hn.pf
theorem Xl:an Pv (ax BP) []:=trivial
noncomputable abbrev Rr:Nat×Lps:=(1011136,⟨rY,rZ,uf⟩)
theorem Xm:an Pv (ax BP) [Rr]:=aP (H:=hn) (n:=60) (live:=[1,8,9,10,1011136]) (b:=lr) (ps:=rY) (os:=rZ) (st:=sa) zY ak Xl (by kernel_rfl) (by kernel_rfl) (fun x=>by kernel_rfl)
noncomputable def Eh:Ctr:=⟨.cons (ab) (aw),.cons (ab) (.cons (.i .i64) (.nil)),[(true,5),(false,1),(false,1),(false,1)],[(true,5),(false,1)],[],ug⟩
theorem Iq:az Tryz.prog 124 Eh:=aB (H:=hn) (n:=60) aD aby zY ak Xm rfl rfl (fun x=>by kernel_rfl)
def BQ:List (Nat×CF):=[(126,Ub),(172,TT),(165,wA),(174,tL)]
theorem abz:aV Tryz.prog BQ:=⟨⟨_,_,Tryz.func126,adI⟩,⟨_,_,Tryz.func172,adA⟩,⟨_,_,Tryz.func165,zq⟩,⟨_,_,Tryz.func174,wB⟩,trivial⟩
noncomputable def Pw:List (Nat×Ctr):=[(173,WN),(89,yx),(62,nu),(182,uG),(211,uF)]
theorem Xn:aJ Tryz.prog Pw:=⟨aeO,Ba,nZ,wN,wM,trivial⟩
noncomputable abbrev Px:Cfg:=aO Tryz.prog (look? BQ) (look? Pw) (look? bB) (([]:List (Nat×Bool)).map (·.1)) hn.kl hn.pf
theorem Xo:an Px (ax BQ) []:=trivial
noncomputable abbrev Rs:Nat×Lps:=(1011136,⟨sb,sd,uh⟩)
theorem Xp:an Px (ax BQ) [Rs]:=aP (H:=hn) (n:=60) (live:=[1,8,9,10,1011136]) (b:=lr) (ps:=sb) (os:=sd) (st:=se) Xn ak Xo (by kernel_rfl) (by kernel_rfl) (fun x=>by kernel_rfl)
noncomputable def Ei:Ctr:=⟨.cons (ab) (aw),.cons (ab) (.cons (.i .i64) (.nil)),[(true,5),(false,1),(false,1),(false,1)],[(true,5),(false,1)],[],DU⟩
theorem Ir:az Tryz.prog 126 Ei:=aB (H:=hn) (n:=60) aD abz Xn ak Xp rfl rfl (fun x=>by kernel_rfl)
def BR:List (Nat×CF):=[(127,Uc),(174,tL)]
theorem abA:aV Tryz.prog BR:=⟨⟨_,_,Tryz.func127,adJ⟩,⟨_,_,Tryz.func174,wB⟩,trivial⟩
noncomputable def Py:List (Nat×Ctr):=[(89,yx),(62,nu),(211,uF)]
theorem Xq:aJ Tryz.prog Py:=⟨Ba,nZ,wM,trivial⟩
noncomputable abbrev Pz:Cfg:=aO Tryz.prog (look? BR) (look? Py) (look? bB) (([]:List (Nat×Bool)).map (·.1)) hn.kl hn.pf
theorem Xr:an Pz (ax BR) []:=trivial
noncomputable abbrev Rt:Nat×Lps:=(1011136,⟨sf,sg,mY⟩)
theorem Xs:an Pz (ax BR) [Rt]:=aP (H:=hn) (n:=60) (live:=[1,8,9,10,1011136]) (b:=lr) (ps:=sf) (os:=sg) (st:=sj) Xq ak Xr (by kernel_rfl) (by kernel_rfl) (fun x=>by kernel_rfl)
noncomputable def Ej:Ctr:=⟨.cons (ab) (.nil),.cons (ab) (.cons (.i .i64) (.nil)),[(true,5)],[(true,5),(false,1)],[],wE⟩
theorem Is:az Tryz.prog 127 Ej:=aB (H:=hn) (n:=60) aD abA Xq ak Xs rfl rfl (fun x=>by kernel_rfl)
def BS:List (Nat×CF):=[(177,Ud),(215,TU),(165,wA),(174,tL)]
theorem abB:aV Tryz.prog BS:=⟨⟨_,_,Tryz.func177,adK⟩,⟨_,_,Tryz.func215,adB⟩,⟨_,_,Tryz.func165,zq⟩,⟨_,_,Tryz.func174,wB⟩,trivial⟩
noncomputable def PA:List (Nat×Ctr):=[(216,WP),(89,yx),(62,nu),(182,uG),(211,uF)]
theorem Xt:aJ Tryz.prog PA:=⟨aeQ,Ba,nZ,wN,wM,trivial⟩
noncomputable abbrev PD:Cfg:=aO Tryz.prog (look? BS) (look? PA) (look? bB) (([]:List (Nat×Bool)).map (·.1)) hn.kl hn.pf
theorem Xu:an PD (ax BS) []:=trivial
noncomputable abbrev Ru:Nat×Lps:=(1011136,⟨so,su,ui⟩)
theorem Xv:an PD (ax BS) [Ru]:=aP (H:=hn) (n:=60) (live:=[1,8,9,10,1011136]) (b:=lr) (ps:=so) (os:=su) (st:=sv) Xt ak Xu (by kernel_rfl) (by kernel_rfl) (fun x=>by kernel_rfl)
noncomputable def Ek:Ctr:=⟨.cons (ab) (aw),.cons (ab) (.cons (.i .i64) (.nil)),[(true,5),(false,1),(false,1),(false,1)],[(true,5),(false,1)],[],mZ⟩
theorem It:az Tryz.prog 177 Ek:=aB (H:=hn) (n:=60) aD abB Xt ak Xv rfl rfl (fun x=>by kernel_rfl)
def BT:List (Nat×CF):=[(178,Ue),(217,TV),(165,wA),(174,tL)]
theorem abC:aV Tryz.prog BT:=⟨⟨_,_,Tryz.func178,adL⟩,⟨_,_,Tryz.func217,adC⟩,⟨_,_,Tryz.func165,zq⟩,⟨_,_,Tryz.func174,wB⟩,trivial⟩
noncomputable def PE:List (Nat×Ctr):=[(218,WR),(89,yx),(62,nu),(182,uG),(211,uF)]
theorem Xw:aJ Tryz.prog PE:=⟨aeS,Ba,nZ,wN,wM,trivial⟩
noncomputable abbrev PF:Cfg:=aO Tryz.prog (look? BT) (look? PE) (look? bB) (([]:List (Nat×Bool)).map (·.1)) hn.kl hn.pf
theorem Xx:an PF (ax BT) []:=trivial
noncomputable abbrev Rv:Nat×Lps:=(1011136,⟨sw,sx,uj⟩)
theorem Xy:an PF (ax BT) [Rv]:=aP (H:=hn) (n:=60) (live:=[1,8,9,10,1011136]) (b:=lr) (ps:=sw) (os:=sx) (st:=sy) Xw ak Xx (by kernel_rfl) (by kernel_rfl) (fun x=>by kernel_rfl)
noncomputable def El:Ctr:=⟨.cons (ab) (.cons (.i .i64) (.cons (.i .i64) (.nil))),.cons (ab) (.cons (.i .i64) (.nil)),[(true,5),(false,1),(false,1)],[(true,5),(false,1)],[],na⟩
theorem Iu:az Tryz.prog 178 El:=aB (H:=hn) (n:=60) aD abC Xw ak Xy rfl rfl (fun x=>by kernel_rfl)
def zZ:List (Nat×CF):=[(51,c51),(91,c91),(90,c90),(132,Td),(92,c92)]
theorem ae0:aV Tryz.prog zZ:=⟨⟨_,_,Tryz.func51,t51⟩,⟨_,_,Tryz.func91,t91⟩,⟨_,_,Tryz.func90,t90⟩,⟨_,_,Tryz.func132,acW⟩,⟨_,_,Tryz.func92,t92⟩,trivial⟩
noncomputable def Xz:List (Nat×Ctr):=[(89,yx)]
theorem PG:aJ Tryz.prog Xz:=⟨Ba,trivial⟩
noncomputable abbrev Iv:Cfg:=aO Tryz.prog (look? zZ) (look? Xz) (look? bB) (([]:List (Nat×Bool)).map (·.1)) hn.kl hn.pf
theorem abD:an Iv (ax zZ) []:=trivial
noncomputable abbrev Em:Nat×Lps:=(1003265,⟨ul,um,fS⟩)
theorem abE:an Iv (ax zZ) [Em]:=aP (H:=hn) (n:=60) (live:=[0,3,4,14,15,16,47,48,49,1003265]) (b:=NJ) (ps:=ul) (os:=um) (st:=gr) PG ak abD (by kernel_rfl) (by kernel_rfl) (fun x=>by kernel_rfl)
noncomputable abbrev KI:Nat×Lps:=(1008448,⟨uo,uq,kQ⟩)
theorem abF:an Iv (ax zZ) [KI,Em]:=aP (H:=hn) (n:=60) (live:=[0,1,7,8,1008448]) (b:=JW) (ps:=uo) (os:=uq) (st:=gu) PG ak abE (by kernel_rfl) (by kernel_rfl) (fun x=>by kernel_rfl)
noncomputable abbrev XA:Nat×Lps:=(1003264,⟨ur,ut,oK⟩)
theorem abG:an Iv (ax zZ) [XA,KI,Em]:=aP (H:=hn) (n:=60) (live:=[0,3,4,14,15,16,1003264]) (b:=NK) (ps:=ur) (os:=ut) (st:=gv) PG ak abF (by kernel_rfl) (by kernel_rfl) (fun x=>by kernel_rfl)
noncomputable def FW:Ctr:=⟨.cons (.row (ab)) (.nil),.cons (.i .i64) (.nil),[(false,1)],[(false,1)],[],AZ⟩
theorem KJ:az Tryz.prog 51 FW:=aB (H:=hn) (n:=60) aD ae0 PG ak abG rfl rfl (fun x=>by kernel_rfl)
def BU:List (Nat×CF):=[(115,Uf)]
theorem abH:aV Tryz.prog BU:=⟨⟨_,_,Tryz.func115,adM⟩,trivial⟩
noncomputable def PH:List (Nat×Ctr):=[(51,FW)]
theorem Aa:aJ Tryz.prog PH:=⟨KJ,trivial⟩
noncomputable abbrev PI:Cfg:=aO Tryz.prog (look? BU) (look? PH) (look? bB) (([]:List (Nat×Bool)).map (·.1)) hn.kl hn.pf
theorem XB:an PI (ax BU) []:=trivial
noncomputable abbrev Rw:Nat×Lps:=(1007360,⟨sA,sB,nb⟩)
theorem XC:an PI (ax BU) [Rw]:=aP (H:=hn) (n:=60) (live:=[1,15,16,17,1007360]) (b:=Km) (ps:=sA) (os:=sB) (st:=fN) Aa ak XB (by kernel_rfl) (by kernel_rfl) (fun x=>by kernel_rfl)
noncomputable def En:Ctr:=⟨.cons (.row (ab)) (.cons (.s) (.nil)),.cons (.i .i64) (.cons (.b) (.cons (.i .i64) (.nil))),[(false,1),(false,1)],[(false,1),(false,1),(false,1)],[],ng⟩
theorem Iw:az Tryz.prog 115 En:=aB (H:=hn) (n:=60) aD abH Aa ak XC rfl rfl (fun x=>by kernel_rfl)
def yz:List (Nat×CF):=[(119,Ug)]
theorem abI:aV Tryz.prog yz:=⟨⟨_,_,Tryz.func119,adN⟩,trivial⟩
noncomputable def PJ:List (Nat×Ctr):=[(51,FW)]
theorem Eo:aJ Tryz.prog PJ:=⟨KJ,trivial⟩
noncomputable abbrev Ix:Cfg:=aO Tryz.prog (look? yz) (look? PJ) (look? bB) (([]:List (Nat×Bool)).map (·.1)) hn.kl hn.pf
theorem XD:an Ix (ax yz) []:=trivial
noncomputable abbrev FX:Nat×Lps:=(1007617,⟨sC,sD,nh⟩)
theorem XE:an Ix (ax yz) [FX]:=aP (H:=hn) (n:=60) (live:=[2,6,7,8,10,19,20,21,26,27,28,1007617]) (b:=Kn) (ps:=sC) (os:=sD) (st:=fO) Eo ak XD (by kernel_rfl) (by kernel_rfl) (fun x=>by kernel_rfl)
noncomputable abbrev Rx:Nat×Lps:=(1007616,⟨sE,sF,nj⟩)
theorem XF:an Ix (ax yz) [Rx,FX]:=aP (H:=hn) (n:=60) (live:=[2,6,7,8,19,20,21,1007616]) (b:=Ko) (ps:=sE) (os:=sF) (st:=fP) Eo ak XE (by kernel_rfl) (by kernel_rfl) (fun x=>by kernel_rfl)
noncomputable def Ep:Ctr:=⟨.cons (.row (ab)) (.nil),.cons (aw) (.cons (.b) (.cons (.i .i64) (.nil))),[(false,1)],[(true,3),(false,1),(false,1)],[],oL⟩
theorem Iy:az Tryz.prog 119 Ep:=aB (H:=hn) (n:=60) aD abI Eo ak XF rfl rfl (fun x=>by kernel_rfl)
def BV:List (Nat×CF):=[(164,Uh),(203,Ti),(204,TB)]
theorem abJ:aV Tryz.prog BV:=⟨⟨_,_,Tryz.func164,adO⟩,⟨_,_,Tryz.func203,ac1⟩,⟨_,_,Tryz.func204,adj⟩,trivial⟩
noncomputable def PK:List (Nat×Ctr):=[(51,FW),(205,K205)]
theorem Ab:aJ Tryz.prog PK:=⟨KJ,k205,trivial⟩
noncomputable abbrev PL:Cfg:=aO Tryz.prog (look? BV) (look? PK) (look? bB) (([]:List (Nat×Bool)).map (·.1)) hn.kl hn.pf
theorem XG:an PL (ax BV) []:=trivial
noncomputable abbrev Ry:Nat×Lps:=(1012992,⟨sG,sH,nn⟩)
theorem XH:an PL (ax BV) [Ry]:=aP (H:=hn) (n:=60) (live:=[0,1,2,8,9,10,1012992]) (b:=JY) (ps:=sG) (os:=sH) (st:=fQ) Ab ak XG (by kernel_rfl) (by kernel_rfl) (fun x=>by kernel_rfl)
noncomputable def Er:Ctr:=⟨.cons (.row (ab)) (.cons (.i .i64) (.nil)),.cons (.i .i64) (.cons (.b) (.cons (.i .i64) (.nil))),[(false,1),(false,1)],[(false,1),(false,1),(false,1)],[],cB⟩
theorem Iz:az Tryz.prog 164 Er:=aB (H:=hn) (n:=60) aD abJ Ab ak XH rfl rfl (fun x=>by kernel_rfl)
def BW:List (Nat×CF):=[(121,Ui),(166,TQ),(165,wA),(174,tL)]
theorem abK:aV Tryz.prog BW:=⟨⟨_,_,Tryz.func121,adP⟩,⟨_,_,Tryz.func166,adx⟩,⟨_,_,Tryz.func165,zq⟩,⟨_,_,Tryz.func174,wB⟩,trivial⟩
noncomputable def PM:List (Nat×Ctr):=[(167,WI),(89,yx),(62,nu),(182,uG),(211,uF)]
theorem IA:aJ Tryz.prog PM:=⟨aeJ,Ba,nZ,wN,wM,trivial⟩
noncomputable abbrev PN:Cfg:=aO Tryz.prog (look? BW) (look? PM) (look? bB) (([]:List (Nat×Bool)).map (·.1)) hn.kl hn.pf
theorem XI:an PN (ax BW) []:=trivial
noncomputable abbrev Rz:Nat×Lps:=(1011136,⟨sI,sJ,cN⟩)
theorem XJ:an PN (ax BW) [Rz]:=aP (H:=hn) (n:=60) (live:=[1,8,9,10,1011136]) (b:=lr) (ps:=sI) (os:=sJ) (st:=fR) IA ak XI (by kernel_rfl) (by kernel_rfl) (fun x=>by kernel_rfl)
noncomputable def Es:Ctr:=⟨.cons (ab) (aw),.cons (ab) (.cons (.i .i64) (.nil)),[(true,5),(false,1),(false,1),(false,1)],[(true,5),(false,1)],[],wG⟩
theorem IB:az Tryz.prog 121 Es:=aB (H:=hn) (n:=60) aD abK IA ak XJ rfl rfl (fun x=>by kernel_rfl)
def IC:List (Nat×CF):=[(128,Uj)]
theorem abL:aV Tryz.prog IC:=⟨⟨_,_,Tryz.func128,adQ⟩,trivial⟩
noncomputable def PO:List (Nat×Ctr):=[(51,FW),(175,Wv)]
theorem ae1:aJ Tryz.prog PO:=⟨KJ,aeE,trivial⟩
noncomputable abbrev abM:Cfg:=aO Tryz.prog (look? IC) (look? PO) (look? bB) (([(0,true)]:List (Nat×Bool)).map (·.1)) hn.kl hn.pf
theorem XK:an abM (ax IC) []:=trivial
noncomputable def Et:Ctr:=⟨.cons (.row (ab)) (.cons (.i .i64) (.nil)),.cons (.row (aw)) (.cons (.i .i64) (.nil)),[(false,1),(false,1)],[(false,1),(false,1)],[(0,true)],wH⟩
theorem ID:az Tryz.prog 128 Et:=aB (H:=hn) (n:=60) aD abL ae1 ak XK rfl rfl (fun x=>by kernel_rfl)
def Ac:List (Nat×CF):=[(19,c19),(52,c52),(53,ND),(93,Nz)]
theorem ae2:aV Tryz.prog Ac:=⟨⟨_,_,Tryz.func19,t19⟩,⟨_,_,Tryz.func52,t52⟩,⟨_,_,Tryz.func53,Uo⟩,⟨_,_,Tryz.func93,Ul⟩,trivial⟩
noncomputable def XL:List (Nat×Ctr):=[(50,K50),(51,FW),(54,K54)]
theorem FY:aJ Tryz.prog XL:=⟨k50,KJ,k54,trivial⟩
noncomputable abbrev IE:Cfg:=aO Tryz.prog (look? Ac) (look? XL) (look? bB) (([]:List (Nat×Bool)).map (·.1)) hn.kl hn.pf
theorem abN:an IE (ax Ac) []:=trivial
noncomputable abbrev Eu:Nat×Lps:=(1001217,⟨uu,uv,oN⟩)
theorem abO:an IE (ax Ac) [Eu]:=aP (H:=hn) (n:=60) (live:=[1,99,100,101,1001217]) (b:=NM) (ps:=uu) (os:=uv) (st:=gw) FY ak abN (by kernel_rfl) (by kernel_rfl) (fun x=>by kernel_rfl)
noncomputable abbrev KK:Nat×Lps:=(1005952,⟨uw,ux,oO⟩)
theorem abP:an IE (ax Ac) [KK,Eu]:=aP (H:=hn) (n:=60) (live:=[0,1,7,8,1005952]) (b:=BD) (ps:=uw) (os:=ux) (st:=gx) FY ak abO (by kernel_rfl) (by kernel_rfl) (fun x=>by kernel_rfl)
noncomputable abbrev XM:Nat×Lps:=(1001216,⟨uy,uz,oP⟩)
theorem abQ:an IE (ax Ac) [XM,KK,Eu]:=aP (H:=hn) (n:=60) (live:=[1,79,80,81,1001216]) (b:=NL) (ps:=uy) (os:=uz) (st:=gy) FY ak abP (by kernel_rfl) (by kernel_rfl) (fun x=>by kernel_rfl)
noncomputable def FZ:Ctr:=⟨bX,.cons (.i .i64) (.nil),[(true,8)],[(false,1)],[],vM⟩
theorem KL:az Tryz.prog 19 FZ:=aB (H:=hn) (n:=60) aD ae2 FY ak abQ rfl rfl (fun x=>by kernel_rfl)
def ME:List (Nat×CF):=[(22,c22)]
theorem ae3:aV Tryz.prog ME:=⟨⟨_,_,Tryz.func22,t22⟩,trivial⟩
noncomputable def XN:List (Nat×Ctr):=[(19,FZ),(57,K57)]
theorem PP:aJ Tryz.prog XN:=⟨KL,k57,trivial⟩
noncomputable abbrev ae4:Cfg:=aO Tryz.prog (look? ME) (look? XN) (look? bB) (([]:List (Nat×Bool)).map (·.1)) hn.kl hn.pf
theorem abR:an ae4 (ax ME) []:=trivial
noncomputable def XO:Ctr:=⟨bX,.cons (.i .i64) (.cons (.i .i64) (.nil)),[(true,8)],[(false,1),(false,1)],[],sK⟩
theorem k22:az Tryz.prog 22 XO:=aB (H:=hn) (n:=60) aD ae3 PP ak abR rfl rfl (fun x=>by kernel_rfl)
def BX:List (Nat×CF):=[(15,Ky),(46,JX),(47,Kx),(79,Kp),(117,DC),(80,Kv),(120,DH),(122,DD),(81,Kq),(82,Kr),(125,DE),(83,Ks),(84,Kt),(85,Kw),(129,DI),(86,Ku),(87,Ki),(88,Ka)]
theorem abS:aV Tryz.prog BX:=⟨⟨_,_,Tryz.func15,NZ⟩,⟨_,_,Tryz.func46,NN⟩,⟨_,_,Tryz.func47,NY⟩,⟨_,_,Tryz.func79,NQ⟩,⟨_,_,Tryz.func117,Hk⟩,⟨_,_,Tryz.func80,NW⟩,⟨_,_,Tryz.func120,Hn⟩,⟨_,_,Tryz.func122,Hl⟩,⟨_,_,Tryz.func81,NR⟩,⟨_,_,Tryz.func82,NS⟩,⟨_,_,Tryz.func125,Hm⟩,⟨_,_,Tryz.func83,NT⟩,⟨_,_,Tryz.func84,NU⟩,⟨_,_,Tryz.func85,NX⟩,⟨_,_,Tryz.func129,Ho⟩,⟨_,_,Tryz.func86,NV⟩,⟨_,_,Tryz.func87,NP⟩,⟨_,_,Tryz.func88,NO⟩,trivial⟩
noncomputable def PQ:List (Nat×Ctr):=[(19,FZ),(25,KG),(48,KF),(114,wL),(115,En),(116,Ed),(118,DY),(119,Ep),(121,Es),(164,Er),(123,Ee),(124,Eh),(126,Ei),(127,Ej),(128,Et),(176,uE),(177,Ek),(178,El),(62,nu),(61,DZ)]
theorem XP:aJ Tryz.prog PQ:=⟨KL,OU,OK,zV,Iw,In,HK,Iy,IB,Iz,Ip,Iq,Ir,Is,ID,wK,It,Iu,nZ,FR,trivial⟩
noncomputable abbrev PR:Cfg:=aO Tryz.prog (look? BX) (look? PQ) (look? bB) (([]:List (Nat×Bool)).map (·.1)) hn.kl hn.pf
theorem XQ:an PR (ax BX) []:=trivial
noncomputable abbrev RA:Nat×Lps:=(1005440,⟨sL,sM,dX⟩)
theorem XR:an PR (ax BX) [RA]:=aP (H:={hn with pr:=[(25,6,false),(25,7,false)]}) (n:=60) (live:=[0,4,7,45,46,47,1005440]) (b:=xC) (ps:=sL) (os:=sM) (st:=df) XP ak XQ (by kernel_rfl) (by kernel_rfl) (fun x=>match x with| .inl x=>(by kernel_rfl)| .inr (.inl x)=>(by kernel_rfl)| .inr (.inr (x))=>(by kernel_rfl))
noncomputable def ae5:Ctr:=⟨.cons (cG) (.cons (dM) (.nil)),.cons (cG) (.cons (iR) (.nil)),[(true,8),(true,8)],[(true,8),(true,10)],[],oQ⟩
theorem ae6:az Tryz.prog 15 ae5:=aB (H:={hn with pr:=[(25,6,false),(25,7,false)]}) (n:=60) aD abS XP ak XR rfl rfl (fun x=>by kernel_rfl)
def BZ:List (Nat×CF):=[(15,Ky),(46,JX),(47,Kx),(79,Kp),(117,DC),(80,Kv),(120,DH),(122,DD),(81,Kq),(82,Kr),(125,DE),(83,Ks),(84,Kt),(85,Kw),(129,DI),(86,Ku),(87,Ki),(88,Ka)]
theorem abT:aV Tryz.prog BZ:=⟨⟨_,_,Tryz.func15,NZ⟩,⟨_,_,Tryz.func46,NN⟩,⟨_,_,Tryz.func47,NY⟩,⟨_,_,Tryz.func79,NQ⟩,⟨_,_,Tryz.func117,Hk⟩,⟨_,_,Tryz.func80,NW⟩,⟨_,_,Tryz.func120,Hn⟩,⟨_,_,Tryz.func122,Hl⟩,⟨_,_,Tryz.func81,NR⟩,⟨_,_,Tryz.func82,NS⟩,⟨_,_,Tryz.func125,Hm⟩,⟨_,_,Tryz.func83,NT⟩,⟨_,_,Tryz.func84,NU⟩,⟨_,_,Tryz.func85,NX⟩,⟨_,_,Tryz.func129,Ho⟩,⟨_,_,Tryz.func86,NV⟩,⟨_,_,Tryz.func87,NP⟩,⟨_,_,Tryz.func88,NO⟩,trivial⟩
noncomputable def PT:List (Nat×Ctr):=[(19,FZ),(25,KG),(48,KF),(114,wL),(115,En),(116,Ed),(118,DY),(119,Ep),(121,Es),(164,Er),(123,Ee),(124,Eh),(126,Ei),(127,Ej),(128,Et),(176,uE),(177,Ek),(178,El),(62,nu),(61,DZ)]
theorem XS:aJ Tryz.prog PT:=⟨KL,OU,OK,zV,Iw,In,HK,Iy,IB,Iz,Ip,Iq,Ir,Is,ID,wK,It,Iu,nZ,FR,trivial⟩
noncomputable abbrev PU:Cfg:=aO Tryz.prog (look? BZ) (look? PT) (look? bB) (([]:List (Nat×Bool)).map (·.1)) hn.kl hn.pf
theorem XT:an PU (ax BZ) []:=trivial
noncomputable abbrev RD:Nat×Lps:=(1005440,⟨sN,sO,dY⟩)
theorem XU:an PU (ax BZ) [RD]:=aP (H:={hn with pr:=[(25,6,false),(25,7,true)]}) (n:=60) (live:=[0,4,7,45,46,47,1005440]) (b:=xC) (ps:=sN) (os:=sO) (st:=dg) XS ak XT (by kernel_rfl) (by kernel_rfl) (fun x=>match x with| .inl x=>(by kernel_rfl)| .inr (.inl x)=>(by kernel_rfl)| .inr (.inr (x))=>(by kernel_rfl))
noncomputable def ae7:Ctr:=⟨.cons (cG) (.cons (dM) (.nil)),.cons (cG) (.cons (iR) (.nil)),[(true,8),(true,8)],[(true,8),(true,10)],[],zL⟩
theorem ae8:az Tryz.prog 15 ae7:=aB (H:={hn with pr:=[(25,6,false),(25,7,true)]}) (n:=60) aD abT XS ak XU rfl rfl (fun x=>by kernel_rfl)
def Ca:List (Nat×CF):=[(15,Ky),(46,JX),(47,Kx),(79,Kp),(117,DC),(80,Kv),(120,DH),(122,DD),(81,Kq),(82,Kr),(125,DE),(83,Ks),(84,Kt),(85,Kw),(129,DI),(86,Ku),(87,Ki),(88,Ka)]
theorem abU:aV Tryz.prog Ca:=⟨⟨_,_,Tryz.func15,NZ⟩,⟨_,_,Tryz.func46,NN⟩,⟨_,_,Tryz.func47,NY⟩,⟨_,_,Tryz.func79,NQ⟩,⟨_,_,Tryz.func117,Hk⟩,⟨_,_,Tryz.func80,NW⟩,⟨_,_,Tryz.func120,Hn⟩,⟨_,_,Tryz.func122,Hl⟩,⟨_,_,Tryz.func81,NR⟩,⟨_,_,Tryz.func82,NS⟩,⟨_,_,Tryz.func125,Hm⟩,⟨_,_,Tryz.func83,NT⟩,⟨_,_,Tryz.func84,NU⟩,⟨_,_,Tryz.func85,NX⟩,⟨_,_,Tryz.func129,Ho⟩,⟨_,_,Tryz.func86,NV⟩,⟨_,_,Tryz.func87,NP⟩,⟨_,_,Tryz.func88,NO⟩,trivial⟩
noncomputable def PW:List (Nat×Ctr):=[(19,FZ),(25,KG),(48,KF),(114,wL),(115,En),(116,Ed),(118,DY),(119,Ep),(121,Es),(164,Er),(123,Ee),(124,Eh),(126,Ei),(127,Ej),(128,Et),(176,uE),(177,Ek),(178,El),(62,nu),(61,DZ)]
theorem XV:aJ Tryz.prog PW:=⟨KL,OU,OK,zV,Iw,In,HK,Iy,IB,Iz,Ip,Iq,Ir,Is,ID,wK,It,Iu,nZ,FR,trivial⟩
noncomputable abbrev PX:Cfg:=aO Tryz.prog (look? Ca) (look? PW) (look? bB) (([]:List (Nat×Bool)).map (·.1)) hn.kl hn.pf
theorem XW:an PX (ax Ca) []:=trivial
noncomputable abbrev RI:Nat×Lps:=(1005440,⟨sP,sQ,gz⟩)
theorem XX:an PX (ax Ca) [RI]:=aP (H:={hn with pr:=[(25,6,true),(25,7,false)]}) (n:=60) (live:=[0,4,7,45,46,47,1005440]) (b:=xC) (ps:=sP) (os:=sQ) (st:=sR) XV ak XW (by kernel_rfl) (by kernel_rfl) (fun x=>match x with| .inl x=>(by kernel_rfl)| .inr (x)=>(by kernel_rfl))
noncomputable def ae9:Ctr:=⟨.cons (cG) (.cons (dM) (.nil)),.cons (cG) (.cons (iR) (.nil)),[(true,8),(true,8)],[(true,8),(true,10)],[],zO⟩
theorem afa:az Tryz.prog 15 ae9:=aB (H:={hn with pr:=[(25,6,true),(25,7,false)]}) (n:=60) aD abU XV ak XX rfl rfl (fun x=>by kernel_rfl)
def Cb:List (Nat×CF):=[(15,Ky),(46,JX),(47,Kx),(79,Kp),(117,DC),(80,Kv),(120,DH),(122,DD),(81,Kq),(82,Kr),(125,DE),(83,Ks),(84,Kt),(85,Kw),(129,DI),(86,Ku),(87,Ki),(88,Ka)]
theorem abV:aV Tryz.prog Cb:=⟨⟨_,_,Tryz.func15,NZ⟩,⟨_,_,Tryz.func46,NN⟩,⟨_,_,Tryz.func47,NY⟩,⟨_,_,Tryz.func79,NQ⟩,⟨_,_,Tryz.func117,Hk⟩,⟨_,_,Tryz.func80,NW⟩,⟨_,_,Tryz.func120,Hn⟩,⟨_,_,Tryz.func122,Hl⟩,⟨_,_,Tryz.func81,NR⟩,⟨_,_,Tryz.func82,NS⟩,⟨_,_,Tryz.func125,Hm⟩,⟨_,_,Tryz.func83,NT⟩,⟨_,_,Tryz.func84,NU⟩,⟨_,_,Tryz.func85,NX⟩,⟨_,_,Tryz.func129,Ho⟩,⟨_,_,Tryz.func86,NV⟩,⟨_,_,Tryz.func87,NP⟩,⟨_,_,Tryz.func88,NO⟩,trivial⟩
noncomputable def PY:List (Nat×Ctr):=[(19,FZ),(25,KG),(48,KF),(114,wL),(115,En),(116,Ed),(118,DY),(119,Ep),(121,Es),(164,Er),(123,Ee),(124,Eh),(126,Ei),(127,Ej),(128,Et),(176,uE),(177,Ek),(178,El),(62,nu),(61,DZ)]
theorem XY:aJ Tryz.prog PY:=⟨KL,OU,OK,zV,Iw,In,HK,Iy,IB,Iz,Ip,Iq,Ir,Is,ID,wK,It,Iu,nZ,FR,trivial⟩
noncomputable abbrev PZ:Cfg:=aO Tryz.prog (look? Cb) (look? PY) (look? bB) (([]:List (Nat×Bool)).map (·.1)) hn.kl hn.pf
theorem XZ:an PZ (ax Cb) []:=trivial
noncomputable abbrev RJ:Nat×Lps:=(1005440,⟨sS,sT,gA⟩)
theorem Ya:an PZ (ax Cb) [RJ]:=aP (H:={hn with pr:=[(25,6,true),(25,7,true)]}) (n:=60) (live:=[0,4,7,45,46,47,1005440]) (b:=xC) (ps:=sS) (os:=sT) (st:=sU) XY ak XZ (by kernel_rfl) (by kernel_rfl) (fun x=>match x with| .inl x=>(by kernel_rfl)| .inr (x)=>(by kernel_rfl))
noncomputable def afb:Ctr:=⟨.cons (cG) (.cons (dM) (.nil)),.cons (cG) (.cons (iR) (.nil)),[(true,8),(true,8)],[(true,8),(true,10)],[],uD⟩
theorem afc:az Tryz.prog 15 afb:=aB (H:={hn with pr:=[(25,6,true),(25,7,true)]}) (n:=60) aD abV XY ak Ya rfl rfl (fun x=>by kernel_rfl)
noncomputable def Qa:Ctr:=⟨.cons (cG) (.cons (dM) (.nil)),.cons (cG) (.cons (iR) (.nil)),[(true,8),(true,8)],[(true,8),(true,10)],[],lu⟩
theorem Yb:az Tryz.prog 15 Qa:=by
 have h:= @vl Tryz.prog 15 (.cons (cG) (.cons (dM) (.nil))) (.cons (cG) (.cons (iR) (.nil))) _ _ _ _ _ (fun x=>isEmpty x.1.2.2.2.2.2.2.1) (@vl Tryz.prog 15 (.cons (cG) (.cons (dM) (.nil))) (.cons (cG) (.cons (iR) (.nil))) _ _ _ _ _ (fun x=>isEmpty x.1.2.2.2.2.2.2.2.1) afc afa) (@vl Tryz.prog 15 (.cons (cG) (.cons (dM) (.nil))) (.cons (cG) (.cons (iR) (.nil))) _ _ _ _ _ (fun x=>isEmpty x.1.2.2.2.2.2.2.2.1) ae8 ae6)
 exact h
def MF:List (Nat×CF):=[(55,c55)]
theorem afd:aV Tryz.prog MF:=⟨⟨_,_,Tryz.func55,t55⟩,trivial⟩
noncomputable def Yc:List (Nat×Ctr):=[(14,K14),(15,Qa)]
theorem Yd:aJ Tryz.prog Yc:=⟨k14,Yb,trivial⟩
noncomputable abbrev afe:Cfg:=aO Tryz.prog (look? MF) (look? Yc) (look? bB) (([]:List (Nat×Bool)).map (·.1)) hn.kl hn.pf
theorem abW:an afe (ax MF) []:=trivial
noncomputable def K55:Ctr:=⟨.nil,bX,[],[(true,8)],[],KC⟩
theorem k55:az Tryz.prog 55 K55:=aB (H:=hn) (n:=60) aD afd Yd ak abW rfl rfl (fun x=>by kernel_rfl)
def MG:List (Nat×CF):=[(20,c20)]
theorem aff:aV Tryz.prog MG:=⟨⟨_,_,Tryz.func20,t20⟩,trivial⟩
noncomputable def Ye:List (Nat×Ctr):=[(55,K55),(22,XO),(15,Qa)]
theorem h20:aJ Tryz.prog Ye:=⟨k55,k22,Yb,trivial⟩
noncomputable abbrev afg:Cfg:=aO Tryz.prog (look? MG) (look? Ye) (look? bB) (([]:List (Nat×Bool)).map (·.1)) hn.kl hn.pf
theorem abX:an afg (ax MG) []:=trivial
noncomputable def K20:Ctr:=⟨.nil,.cons (.b) (.nil),[],[(false,1)],[],Ou⟩
theorem k20:az Tryz.prog 20 K20:=aB (H:=hn) (n:=60) aD aff h20 ak abX rfl rfl (fun x=>by kernel_rfl)
def Qb:List (Nat×CF):=[(5,c5)]
theorem td5:aV Tryz.prog Qb:=⟨⟨_,_,Tryz.func5,t5⟩,trivial⟩
noncomputable def ct5:List (Nat×Ctr):=[(20,K20),(21,K21),(13,K13),(22,XO),(15,Qa)]
theorem h5:aJ Tryz.prog ct5:=⟨k20,k21,k13,k22,Yb,trivial⟩
noncomputable abbrev gg5:Cfg:=aO Tryz.prog (look? Qb) (look? ct5) (look? bB) (([]:List (Nat×Bool)).map (·.1)) hn.kl hn.pf
theorem afh:an gg5 (ax Qb) []:=trivial
noncomputable abbrev abY:Nat×Lps:=(1000320,⟨vN,vO,qt⟩)
theorem afi:an gg5 (ax Qb) [abY]:=aP (H:=hn) (n:=60) (live:=[2,3,6,8,10,12,13,1000320]) (b:=Uk) (ps:=vN) (os:=vO) (st:=eK) h5 ak afh (by kernel_rfl) (by kernel_rfl) (fun x=>by kernel_rfl)
noncomputable def K5:Ctr:=⟨.cons (cG) (.cons (dM) (.nil)),.cons (.b) (.nil),[(true,8),(true,8)],[(false,1)],[],F5⟩
theorem k5:az Tryz.prog 5 K5:=aB (H:=hn) (n:=60) aD td5 h5 ak afi rfl rfl (fun x=>by kernel_rfl)
end Go.Proofs.YtbkjflfbgknagaaGreat.fairLighter.Code
