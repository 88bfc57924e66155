import Derived.Test.YtbkjflfbgknagaaGreatTieModelLeases
import Derived.Test.YtbkjflfbgknagaaGreatDefModelLeases2
import Derived.KernelRfl
import Derived.Test.YtbkjflfbgknagaaGreatSrtModelLeases
set_option maxRecDepth 100000
set_option linter.unusedVariables false
set_option linter.constructorNameAsVariable false
namespace Go.Proofs.YtbkjflfbgknagaaGreat.modelLeases.Code
open Go Go.Am
open List (isEmpty)
noncomputable def NU:List (Nat×CF):=[(14,c14)]
theorem afd:bi Tryz.prog NU:=⟨⟨_,_,Tryz.func14,t14⟩,trivial⟩
noncomputable def Ws:List (Nat×Ctr):=[]
theorem Md:aS Tryz.prog Ws:=trivial
noncomputable abbrev afe:Cfg:=bc Tryz.prog (look? NU) (look? Ws) (look? bI) (([]:List (Nat×Bool)).map (·.1)) hn.kl hn.pf
theorem abi:au afe (aB NU) []:=trivial
noncomputable def Wt:Ctr:=⟨.nil,kI,[],[(true,8)],[],Ma⟩
theorem k14:aH Tryz.prog 14 Wt:=aJ (H:=hn) (n:=60) aK afd Md ao abi rfl rfl (fun x=>by kernel_rfl)
noncomputable def NV:List (Nat×CF):=[(78,c78)]
theorem aff:bi Tryz.prog NV:=⟨⟨_,_,Tryz.func78,t78⟩,trivial⟩
noncomputable def Wu:List (Nat×Ctr):=[]
theorem Wv:aS Tryz.prog Wu:=trivial
noncomputable abbrev afg:Cfg:=bc Tryz.prog (look? NV) (look? Wu) (look? bI) (([]:List (Nat×Bool)).map (·.1)) hn.kl hn.pf
theorem abj:au afg (aB NV) []:=trivial
noncomputable def K78:Ctr:=⟨.nil,.cons (pb) (.nil),[],[(true,1)],[],Wo⟩
theorem k78:aH Tryz.prog 78 K78:=aJ (H:=hn) (n:=60) aK aff Wv ao abj rfl rfl (fun x=>by kernel_rfl)
noncomputable def NW:List (Nat×CF):=[(50,c50)]
theorem afh:bi Tryz.prog NW:=⟨⟨_,_,Tryz.func50,t50⟩,trivial⟩
noncomputable def Ww:List (Nat×Ctr):=[]
theorem h50:aS Tryz.prog Ww:=trivial
noncomputable abbrev afi:Cfg:=bc Tryz.prog (look? NW) (look? Ww) (look? bI) (([]:List (Nat×Bool)).map (·.1)) hn.kl hn.pf
theorem abk:au afi (aB NW) []:=trivial
noncomputable def K50:Ctr:=⟨.cons (.i .i64) (.cons (.i .i64) (.nil)),.cons (.b) (.nil),[(false,1),(false,1)],[(false,1)],[],Fd⟩
theorem k50:aH Tryz.prog 50 K50:=aJ (H:=hn) (n:=60) aK afh h50 ao abk rfl rfl (fun x=>by kernel_rfl)
noncomputable def CS:List (Nat×CF):=[(161,Un)]
theorem abl:bi Tryz.prog CS:=⟨⟨_,_,Tryz.func161,adV⟩,trivial⟩
noncomputable def PQ:List (Nat×Ctr):=[]
theorem Wx:aS Tryz.prog PQ:=trivial
noncomputable abbrev PR:Cfg:=bc Tryz.prog (look? CS) (look? PQ) (look? bI) (([]:List (Nat×Bool)).map (·.1)) hn.kl hn.pf
theorem Wy:au PR (aB CS) []:=trivial
noncomputable abbrev SI:Nat×Lps:=(1010304,⟨rY,rZ,nH⟩)
theorem Wz:au PR (aB CS) [SI]:=aT (H:=hn) (n:=60) (live:=[0,1,7,29,30,31,1010304]) (b:=Lq) (ps:=rY) (os:=rZ) (st:=fF) Wx ao Wy (by kernel_rfl) (by kernel_rfl) (fun x=>by kernel_rfl)
noncomputable def WA:Ctr:=⟨.cons (.i .i64) (.cons (.i .i64) (.cons (ah) (.nil))),.cons (.b) (.nil),[(false,1),(false,1),(true,3)],[(false,1)],[],IP⟩
theorem afj:aH Tryz.prog 161 WA:=aJ (H:=hn) (n:=60) aK abl Wx ao Wz rfl rfl (fun x=>by kernel_rfl)
noncomputable def Jc:List (Nat×CF):=[(179,Uo)]
theorem abm:bi Tryz.prog Jc:=⟨⟨_,_,Tryz.func179,adW⟩,trivial⟩
noncomputable def PT:List (Nat×Ctr):=[]
theorem afk:aS Tryz.prog PT:=trivial
noncomputable abbrev abn:Cfg:=bc Tryz.prog (look? Jc) (look? PT) (look? bI) (([]:List (Nat×Bool)).map (·.1)) hn.kl hn.pf
theorem WB:au abn (aB Jc) []:=trivial
noncomputable def WC:Ctr:=⟨.cons (ah) (.nil),.cons (.b) (.nil),[(true,3)],[(false,1)],[],IQ⟩
theorem afl:aH Tryz.prog 179 WC:=aJ (H:=hn) (n:=60) aK abm afk ao WB rfl rfl (fun x=>by kernel_rfl)
noncomputable def Jd:List (Nat×CF):=[(208,Up)]
theorem abo:bi Tryz.prog Jd:=⟨⟨_,_,Tryz.func208,adX⟩,trivial⟩
noncomputable def PU:List (Nat×Ctr):=[]
theorem afm:aS Tryz.prog PU:=trivial
noncomputable abbrev abp:Cfg:=bc Tryz.prog (look? Jd) (look? PU) (look? bI) (([]:List (Nat×Bool)).map (·.1)) hn.kl hn.pf
theorem WD:au abp (aB Jd) []:=trivial
noncomputable def xN:Ctr:=⟨.cons (.i .i64) (.nil),.cons (.b) (.nil),[(false,1)],[(false,1)],[],rL⟩
theorem Bg:aH Tryz.prog 208 xN:=aJ (H:=hn) (n:=60) aK abo afm ao WD rfl rfl (fun x=>by kernel_rfl)
noncomputable def Je:List (Nat×CF):=[(207,Uq)]
theorem abq:bi Tryz.prog Je:=⟨⟨_,_,Tryz.func207,adY⟩,trivial⟩
noncomputable def PW:List (Nat×Ctr):=[]
theorem afn:aS Tryz.prog PW:=trivial
noncomputable abbrev abr:Cfg:=bc Tryz.prog (look? Je) (look? PW) (look? bI) (([]:List (Nat×Bool)).map (·.1)) hn.kl hn.pf
theorem WE:au abr (aB Je) []:=trivial
noncomputable def Bh:Ctr:=⟨.cons (.i .i64) (.nil),.cons (.b) (.nil),[(false,1)],[(false,1)],[],uO⟩
theorem Fq:aH Tryz.prog 207 Bh:=aJ (H:=hn) (n:=60) aK abq afn ao WE rfl rfl (fun x=>by kernel_rfl)
noncomputable def qf:List (Nat×CF):=[(253,Ut)]
theorem abt:bi Tryz.prog qf:=⟨⟨_,_,Tryz.func253,ad1⟩,trivial⟩
noncomputable def PX:List (Nat×Ctr):=[]
theorem WF:aS Tryz.prog PX:=trivial
noncomputable abbrev PY:Cfg:=bc Tryz.prog (look? qf) (look? PX) (look? bI) (([]:List (Nat×Bool)).map (·.1)) hn.kl hn.pf
theorem WG:au PY (aB qf) []:=trivial
noncomputable abbrev SJ:Nat×Lps:=(1016192,⟨sa,sb,nI⟩)
theorem WH:au PY (aB qf) [SJ]:=aT (H:=hn) (n:=60) (live:=[0,1,7,8,1016192]) (b:=Ls) (ps:=sa) (os:=sb) (st:=fG) WF ao WG (by kernel_rfl) (by kernel_rfl) (fun x=>by kernel_rfl)
noncomputable def WI:Ctr:=⟨.cons (.row (.i .u8)) (.cons (.i .u8) (.nil)),.cons (.i .i64) (.nil),[(false,1),(false,1)],[(false,1)],[],NP⟩
theorem afo:aH Tryz.prog 253 WI:=aJ (H:=hn) (n:=60) aK abt WF ao WH rfl rfl (fun x=>by kernel_rfl)
noncomputable def NX:List (Nat×CF):=[(54,c54)]
theorem afp:bi Tryz.prog NX:=⟨⟨_,_,Tryz.func54,t54⟩,trivial⟩
noncomputable def WJ:List (Nat×Ctr):=[]
theorem h54:aS Tryz.prog WJ:=trivial
noncomputable abbrev afq:Cfg:=bc Tryz.prog (look? NX) (look? WJ) (look? bI) (([]:List (Nat×Bool)).map (·.1)) hn.kl hn.pf
theorem abu:au afq (aB NX) []:=trivial
noncomputable def K54:Ctr:=⟨.cons (da) (.cons (an) (.nil)),.cons (.b) (.nil),[(true,8),(true,4)],[(false,1)],[],PL⟩
theorem k54:aH Tryz.prog 54 K54:=aJ (H:=hn) (n:=60) aK afp h54 ao abu rfl rfl (fun x=>by kernel_rfl)
noncomputable def Jf:List (Nat×CF):=[(162,Uv)]
theorem abv:bi Tryz.prog Jf:=⟨⟨_,_,Tryz.func162,ad3⟩,trivial⟩
noncomputable def PZ:List (Nat×Ctr):=[]
theorem afr:aS Tryz.prog PZ:=trivial
noncomputable abbrev abw:Cfg:=bc Tryz.prog (look? Jf) (look? PZ) (look? bI) (([]:List (Nat×Bool)).map (·.1)) hn.kl hn.pf
theorem WK:au abw (aB Jf) []:=trivial
noncomputable def NY:Ctr:=⟨.cons (.i .i64) (.nil),.cons (.b) (.nil),[(false,1)],[(false,1)],[],Fe⟩
theorem WL:aH Tryz.prog 162 NY:=aJ (H:=hn) (n:=60) aK abv afr ao WK rfl rfl (fun x=>by kernel_rfl)
noncomputable def Jg:List (Nat×CF):=[(101,Uw)]
theorem abx:bi Tryz.prog Jg:=⟨⟨_,_,Tryz.func101,ad4⟩,trivial⟩
noncomputable def Qa:List (Nat×Ctr):=[]
theorem afs:aS Tryz.prog Qa:=trivial
noncomputable abbrev aby:Cfg:=bc Tryz.prog (look? Jg) (look? Qa) (look? bI) (([(0,true)]:List (Nat×Bool)).map (·.1)) hn.kl hn.pf
theorem WM:au aby (aB Jg) []:=trivial
noncomputable def abz:Ctr:=⟨.cons (.row (ab)) (.nil),.cons (.row (ab)) (.nil),[(false,1)],[(false,1)],[(0,true)],IR⟩
theorem abA:aH Tryz.prog 101 abz:=aJ (H:=hn) (n:=60) aK abx afs ao WM rfl rfl (fun x=>by kernel_rfl)
noncomputable def WN:Ctr:=⟨.cons (.row (ab)) (.nil),.cons (.row (ab)) (.nil),[(false,1)],[(false,1)],[(0,true)],IU⟩
theorem aft:aH Tryz.prog 101 WN:=Lp abA ⟨_,_,Tryz.func101,by kernel_rfl,rfl⟩ abg
noncomputable def Jh:List (Nat×CF):=[(102,Ux)]
theorem abB:bi Tryz.prog Jh:=⟨⟨_,_,Tryz.func102,ad5⟩,trivial⟩
noncomputable def Qb:List (Nat×Ctr):=[]
theorem afu:aS Tryz.prog Qb:=trivial
noncomputable abbrev abC:Cfg:=bc Tryz.prog (look? Jh) (look? Qb) (look? bI) (([]:List (Nat×Bool)).map (·.1)) hn.kl hn.pf
theorem WO:au abC (aB Jh) []:=trivial
noncomputable def abD:Ctr:=⟨.cons (.row (.i .i64)) (.nil),.cons (.row (.i .i64)) (.nil),[(false,1)],[(false,1)],[],IV⟩
theorem abE:aH Tryz.prog 102 abD:=aJ (H:=hn) (n:=60) aK abB afu ao WO rfl rfl (fun x=>by kernel_rfl)
noncomputable def WP:Ctr:=⟨.cons (.row (.i .i64)) (.nil),.cons (.row (.i .i64)) (.nil),[(false,1)],[(false,1)],[],Ff⟩
theorem afv:aH Tryz.prog 102 WP:=Ul abE ⟨_,_,Tryz.func102,by kernel_rfl,rfl⟩ abh
noncomputable def Ji:List (Nat×CF):=[(118,Uy)]
theorem abF:bi Tryz.prog Ji:=⟨⟨_,_,Tryz.func118,ad6⟩,trivial⟩
noncomputable def Qc:List (Nat×Ctr):=[]
theorem Fr:aS Tryz.prog Qc:=trivial
noncomputable abbrev abG:Cfg:=bc Tryz.prog (look? Ji) (look? Qc) (look? bI) (([]:List (Nat×Bool)).map (·.1)) hn.kl hn.pf
theorem WQ:au abG (aB Ji) []:=trivial
noncomputable def Fs:Ctr:=⟨.cons (.i .i64) (.nil),.cons (.b) (.nil),[(false,1)],[(false,1)],[],ki⟩
theorem Jj:aH Tryz.prog 118 Fs:=aJ (H:=hn) (n:=60) aK abF Fr ao WQ rfl rfl (fun x=>by kernel_rfl)
noncomputable def tb234:List (Nat×CF):=[(234,NI)]
theorem td234:bi Tryz.prog tb234:=⟨⟨_,_,Tryz.func234,Vx⟩,trivial⟩
noncomputable def ct234:List (Nat×Ctr):=[]
theorem h234:aS Tryz.prog ct234:=trivial
noncomputable abbrev gg234:Cfg:=bc Tryz.prog (look? tb234) (look? ct234) (look? bI) (([]:List (Nat×Bool)).map (·.1)) hn.kl hn.pf
theorem l234_0:au gg234 (aB tb234) []:=trivial
noncomputable def K234:Ctr:=⟨.cons (.i .i64) (.nil),.cons (.b) (.nil),[(false,1)],[(false,1)],[],F234⟩
theorem k234:aH Tryz.prog 234 K234:=aJ (H:=hn) (n:=60) aK td234 h234 ao l234_0 rfl rfl (fun x=>by kernel_rfl)
noncomputable def CU:List (Nat×CF):=[(236,UA)]
theorem abH:bi Tryz.prog CU:=⟨⟨_,_,Tryz.func236,ad8⟩,trivial⟩
noncomputable def Qd:List (Nat×Ctr):=[]
theorem WR:aS Tryz.prog Qd:=trivial
noncomputable abbrev Qe:Cfg:=bc Tryz.prog (look? CU) (look? Qd) (look? bI) (([]:List (Nat×Bool)).map (·.1)) hn.kl hn.pf
theorem WS:au Qe (aB CU) []:=trivial
noncomputable abbrev SK:Nat×Lps:=(1015104,⟨sd,se,nJ⟩)
theorem WT:au Qe (aB CU) [SK]:=aT (H:=hn) (n:=60) (live:=[1,5,6,1015104]) (b:=Lw) (ps:=sd) (os:=se) (st:=iu) WR ao WS (by kernel_rfl) (by kernel_rfl) (fun x=>by kernel_rfl)
noncomputable def WU:Ctr:=⟨.cons (ah) (.cons (.i .i64) (.nil)),.cons (.i .i64) (.nil),[(true,3),(false,1)],[(false,1)],[],IW⟩
theorem afw:aH Tryz.prog 236 WU:=aJ (H:=hn) (n:=60) aK abH WR ao WT rfl rfl (fun x=>by kernel_rfl)
noncomputable def Jk:List (Nat×CF):=[(176,UB)]
theorem abI:bi Tryz.prog Jk:=⟨⟨_,_,Tryz.func176,ad9⟩,trivial⟩
noncomputable def Qf:List (Nat×Ctr):=[]
theorem afx:aS Tryz.prog Qf:=trivial
noncomputable abbrev abJ:Cfg:=bc Tryz.prog (look? Jk) (look? Qf) (look? bI) (([]:List (Nat×Bool)).map (·.1)) hn.kl hn.pf
theorem WV:au abJ (aB Jk) []:=trivial
noncomputable def vz:Ctr:=⟨.cons (ab) (.cons (.i .i64) (.nil)),.cons (.b) (.nil),[(true,5),(false,1)],[(false,1)],[],kj⟩
theorem xO:aH Tryz.prog 176 vz:=aJ (H:=hn) (n:=60) aK abI afx ao WV rfl rfl (fun x=>by kernel_rfl)
noncomputable def tb214:List (Nat×CF):=[(214,NJ)]
theorem td214:bi Tryz.prog tb214:=⟨⟨_,_,Tryz.func214,Vy⟩,trivial⟩
noncomputable def ct214:List (Nat×Ctr):=[]
theorem h214:aS Tryz.prog ct214:=trivial
noncomputable abbrev gg214:Cfg:=bc Tryz.prog (look? tb214) (look? ct214) (look? bI) (([]:List (Nat×Bool)).map (·.1)) hn.kl hn.pf
theorem l214_0:au gg214 (aB tb214) []:=trivial
noncomputable abbrev ee214_1:Nat×Lps:=(1013696,⟨L214_1013696p,L214_1013696o,L214_1013696⟩)
theorem l214_1:au gg214 (aB tb214) [ee214_1]:=aT (H:=hn) (n:=60) (live:=[3,6,7,8,1013696]) (b:=EU) (ps:=L214_1013696p) (os:=L214_1013696o) (st:=L214_1013696t) h214 ao l214_0 (by kernel_rfl) (by kernel_rfl) (fun x=>by kernel_rfl)
noncomputable def K214:Ctr:=⟨.cons (.row (.i .i64)) (.nil),.cons (.i .i64) (.nil),[(false,1)],[(false,1)],[],F214⟩
theorem k214:aH Tryz.prog 214 K214:=aJ (H:=hn) (n:=60) aK td214 h214 ao l214_1 rfl rfl (fun x=>by kernel_rfl)
noncomputable def NZ:List (Nat×CF):=[(61,c61)]
theorem afy:bi Tryz.prog NZ:=⟨⟨_,_,Tryz.func61,t61⟩,trivial⟩
noncomputable def WW:List (Nat×Ctr):=[]
theorem iK:aS Tryz.prog WW:=trivial
noncomputable abbrev afz:Cfg:=bc Tryz.prog (look? NZ) (look? WW) (look? bI) (([(0,true)]:List (Nat×Bool)).map (·.1)) hn.kl hn.pf
theorem abK:au afz (aB NZ) []:=trivial
noncomputable def afA:Ctr:=⟨.cons (.row (an)) (.nil),.cons (.row (an)) (.nil),[(false,1)],[(false,1)],[(0,true)],NQ⟩
theorem afB:aH Tryz.prog 61 afA:=aJ (H:=hn) (n:=60) aK afy iK ao abK rfl rfl (fun x=>by kernel_rfl)
noncomputable def Ft:Ctr:=⟨.cons (.row (an)) (.nil),.cons (.row (an)) (.nil),[(false,1)],[(false,1)],[(0,true)],qj⟩
theorem He:aH Tryz.prog 61 Ft:=Lp afB ⟨_,_,Tryz.func61,by kernel_rfl,rfl⟩ afc
noncomputable def Oa:List (Nat×CF):=[(48,c48)]
theorem afC:bi Tryz.prog Oa:=⟨⟨_,_,Tryz.func48,t48⟩,trivial⟩
noncomputable def WX:List (Nat×Ctr):=[]
theorem Fu:aS Tryz.prog WX:=trivial
noncomputable abbrev afD:Cfg:=bc Tryz.prog (look? Oa) (look? WX) (look? bI) (([]:List (Nat×Bool)).map (·.1)) hn.kl hn.pf
theorem abL:au afD (aB Oa) []:=trivial
noncomputable def Me:Ctr:=⟨kI,.cons (.b) (.nil),[(true,8)],[(false,1)],[],qd⟩
theorem Qg:aH Tryz.prog 48 Me:=aJ (H:=hn) (n:=60) aK afC Fu ao abL rfl rfl (fun x=>by kernel_rfl)
noncomputable def Jl:List (Nat×CF):=[(45,qF)]
theorem afE:bi Tryz.prog Jl:=⟨⟨_,_,Tryz.func45,t45⟩,trivial⟩
noncomputable def WY:List (Nat×Ctr):=[]
theorem h45:aS Tryz.prog WY:=trivial
noncomputable abbrev WZ:Cfg:=bc Tryz.prog (look? Jl) (look? WY) (look? bI) (([]:List (Nat×Bool)).map (·.1)) hn.kl hn.pf
theorem abM:au WZ (aB Jl) []:=trivial
noncomputable abbrev Xa:Nat×Lps:=(1002880,⟨uP,uQ,px⟩)
theorem abN:au WZ (aB Jl) [Xa]:=aT (H:=hn) (n:=60) (live:=[1,3,1002880]) (b:=Pc) (ps:=uP) (os:=uQ) (st:=gw) h45 ao abM (by kernel_rfl) (by kernel_rfl) (fun x=>by kernel_rfl)
noncomputable def K45:Ctr:=⟨.cons (pb) (.nil),.cons (.b) (.nil),[(true,1)],[(false,1)],[],Mb⟩
theorem k45:aH Tryz.prog 45 K45:=aJ (H:=hn) (n:=60) aK afE h45 ao abN rfl rfl (fun x=>by kernel_rfl)
noncomputable def Jm:List (Nat×CF):=[(49,qN)]
theorem afF:bi Tryz.prog Jm:=⟨⟨_,_,Tryz.func49,t49⟩,trivial⟩
noncomputable def Xb:List (Nat×Ctr):=[]
theorem h49:aS Tryz.prog Xb:=trivial
noncomputable abbrev Xc:Cfg:=bc Tryz.prog (look? Jm) (look? Xb) (look? bI) (([]:List (Nat×Bool)).map (·.1)) hn.kl hn.pf
theorem abO:au Xc (aB Jm) []:=trivial
noncomputable abbrev Xd:Nat×Lps:=(1003136,⟨uR,uS,py⟩)
theorem abP:au Xc (aB Jm) [Xd]:=aT (H:=hn) (n:=60) (live:=[0,1,5,1003136]) (b:=Pd) (ps:=uR) (os:=uS) (st:=ji) h49 ao abO (by kernel_rfl) (by kernel_rfl) (fun x=>by kernel_rfl)
noncomputable def K49:Ctr:=⟨.cons (.row (bf)) (.cons (.i .i64) (.nil)),.cons (.i .i64) (.nil),[(false,1),(false,1)],[(false,1)],[],Cf⟩
theorem k49:aH Tryz.prog 49 K49:=aJ (H:=hn) (n:=60) aK afF h49 ao abP rfl rfl (fun x=>by kernel_rfl)
noncomputable def Jn:List (Nat×CF):=[(18,qO)]
theorem afG:bi Tryz.prog Jn:=⟨⟨_,_,Tryz.func18,t18⟩,trivial⟩
noncomputable def Xe:List (Nat×Ctr):=[]
theorem Qh:aS Tryz.prog Xe:=trivial
noncomputable abbrev Xf:Cfg:=bc Tryz.prog (look? Jn) (look? Xe) (look? bI) (([]:List (Nat×Bool)).map (·.1)) hn.kl hn.pf
theorem abQ:au Xf (aB Jn) []:=trivial
noncomputable abbrev Xg:Nat×Lps:=(1001152,⟨uT,uU,pA⟩)
theorem abR:au Xf (aB Jn) [Xg]:=aT (H:=hn) (n:=60) (live:=[0,1,2,7,1001152]) (b:=Pe) (ps:=uT) (os:=uU) (st:=gx) Qh ao abQ (by kernel_rfl) (by kernel_rfl) (fun x=>by kernel_rfl)
noncomputable def K18:Ctr:=⟨.cons (.row (ai)) (.cons (.i .i64) (.cons (.i .i64) (.nil))),.cons (.i .i64) (.nil),[(false,1),(false,1),(false,1)],[(false,1)],[],lQ⟩
theorem k18:aH Tryz.prog 18 K18:=aJ (H:=hn) (n:=60) aK afG Qh ao abR rfl rfl (fun x=>by kernel_rfl)
noncomputable def lw:List (Nat×CF):=[(114,UC)]
theorem abS:bi Tryz.prog lw:=⟨⟨_,_,Tryz.func114,aea⟩,trivial⟩
noncomputable def Qi:List (Nat×Ctr):=[(161,WA)]
theorem pL:aS Tryz.prog Qi:=⟨afj,trivial⟩
noncomputable abbrev pd:Cfg:=bc Tryz.prog (look? lw) (look? Qi) (look? bI) (([]:List (Nat×Bool)).map (·.1)) hn.kl hn.pf
theorem Xh:au pd (aB lw) []:=trivial
noncomputable abbrev kZ:Nat×Lps:=(1007302,⟨sg,sj,nK⟩)
theorem Xi:au pd (aB lw) [kZ]:=aT (H:=hn) (n:=60) (live:=[6,97,98,1007302]) (b:=LF) (ps:=sg) (os:=sj) (st:=fH) pL ao Xh (by kernel_rfl) (by kernel_rfl) (fun x=>by kernel_rfl)
noncomputable abbrev mV:Nat×Lps:=(1007301,⟨so,su,nL⟩)
theorem Xj:au pd (aB lw) [mV,kZ]:=aT (H:=hn) (n:=60) (live:=[3,6,11,12,59,60,63,64,67,68,1007301]) (b:=LC) (ps:=so) (os:=su) (st:=fI) pL ao Xi (by kernel_rfl) (by kernel_rfl) (fun x=>by kernel_rfl)
noncomputable abbrev qC:Nat×Lps:=(1007300,⟨sv,sw,nM⟩)
theorem Xk:au pd (aB lw) [qC,mV,kZ]:=aT (H:=hn) (n:=60) (live:=[3,6,11,59,60,63,64,1007300]) (b:=LD) (ps:=sv) (os:=sw) (st:=fJ) pL ao Xj (by kernel_rfl) (by kernel_rfl) (fun x=>by kernel_rfl)
noncomputable abbrev wv:Nat×Lps:=(1007299,⟨sx,sy,nN⟩)
theorem Xl:au pd (aB lw) [wv,qC,mV,kZ]:=aT (H:=hn) (n:=60) (live:=[3,6,59,60,1007299]) (b:=LE) (ps:=sx) (os:=sy) (st:=fK) pL ao Xk (by kernel_rfl) (by kernel_rfl) (fun x=>by kernel_rfl)
noncomputable abbrev Bi:Nat×Lps:=(1007298,⟨sA,sB,nO⟩)
theorem Xm:au pd (aB lw) [Bi,wv,qC,mV,kZ]:=aT (H:=hn) (n:=60) (live:=[3,6,7,39,40,41,47,48,49,1007298]) (b:=LA) (ps:=sA) (os:=sB) (st:=fL) pL ao Xl (by kernel_rfl) (by kernel_rfl) (fun x=>by kernel_rfl)
noncomputable abbrev Hf:Nat×Lps:=(1007297,⟨sC,sD,nP⟩)
theorem Xn:au pd (aB lw) [Hf,Bi,wv,qC,mV,kZ]:=aT (H:=hn) (n:=60) (live:=[3,6,39,40,41,1007297]) (b:=LB) (ps:=sC) (os:=sD) (st:=fM) pL ao Xm (by kernel_rfl) (by kernel_rfl) (fun x=>by kernel_rfl)
noncomputable abbrev SL:Nat×Lps:=(1007296,⟨sE,sF,nQ⟩)
theorem Xo:au pd (aB lw) [SL,Hf,Bi,wv,qC,mV,kZ]:=aT (H:=hn) (n:=60) (live:=[1,3,25,26,27,1007296]) (b:=Ly) (ps:=sE) (os:=sF) (st:=fN) pL ao Xn (by kernel_rfl) (by kernel_rfl) (fun x=>by kernel_rfl)
noncomputable def xP:Ctr:=⟨.cons (pb) (.nil),.cons (.i .i64) (.nil),[(true,1)],[(false,1)],[],jl⟩
theorem Bj:aH Tryz.prog 114 xP:=aJ (H:=hn) (n:=60) aK abS pL ao Xo rfl rfl (fun x=>by kernel_rfl)
noncomputable def Jo:List (Nat×CF):=[(180,UD)]
theorem abT:bi Tryz.prog Jo:=⟨⟨_,_,Tryz.func180,aeb⟩,trivial⟩
noncomputable def Qj:List (Nat×Ctr):=[(208,xN),(207,Bh)]
theorem afH:aS Tryz.prog Qj:=⟨Bg,Fq,trivial⟩
noncomputable abbrev abU:Cfg:=bc Tryz.prog (look? Jo) (look? Qj) (look? bI) (([]:List (Nat×Bool)).map (·.1)) hn.kl hn.pf
theorem Xp:au abU (aB Jo) []:=trivial
noncomputable def Xq:Ctr:=⟨.cons (ah) (.cons (ab) (.nil)),.cons (.b) (.nil),[(true,3),(true,5)],[(false,1)],[],Fg⟩
theorem afI:aH Tryz.prog 180 Xq:=aJ (H:=hn) (n:=60) aK abT afH ao Xp rfl rfl (fun x=>by kernel_rfl)
noncomputable def Jp:List (Nat×CF):=[(240,UF)]
theorem abV:bi Tryz.prog Jp:=⟨⟨_,_,Tryz.func240,aed⟩,trivial⟩
noncomputable def Qk:List (Nat×Ctr):=[(253,WI)]
theorem afJ:aS Tryz.prog Qk:=⟨afo,trivial⟩
noncomputable abbrev abW:Cfg:=bc Tryz.prog (look? Jp) (look? Qk) (look? bI) (([]:List (Nat×Bool)).map (·.1)) hn.kl hn.pf
theorem Xr:au abW (aB Jp) []:=trivial
noncomputable def Xs:Ctr:=⟨.cons (.row (.i .u8)) (.cons (.i .u8) (.nil)),.cons (.b) (.nil),[(false,1),(false,1)],[(false,1)],[],IX⟩
theorem afK:aH Tryz.prog 240 Xs:=aJ (H:=hn) (n:=60) aK abV afJ ao Xr rfl rfl (fun x=>by kernel_rfl)
noncomputable def Jq:List (Nat×CF):=[(62,qT)]
theorem afL:bi Tryz.prog Jq:=⟨⟨_,_,Tryz.func62,t62⟩,trivial⟩
noncomputable def Xt:List (Nat×Ctr):=[(101,WN),(102,WP)]
theorem gT:aS Tryz.prog Xt:=⟨aft,afv,trivial⟩
noncomputable abbrev Xu:Cfg:=bc Tryz.prog (look? Jq) (look? Xt) (look? bI) (([(4,false)]:List (Nat×Bool)).map (·.1)) hn.kl hn.pf
theorem abX:au Xu (aB Jq) []:=trivial
noncomputable abbrev Xv:Nat×Lps:=(1003968,⟨uV,uW,pB⟩)
theorem abY:au Xu (aB Jq) [Xv]:=aT (H:={hn with pr:=[(101,0,false)]}) (n:=60) (live:=[1,2,15,16,17,1003968]) (b:=Pg) (ps:=uV) (os:=uW) (st:=fe) gT ao abX (by kernel_rfl) (by kernel_rfl) (fun x=>match x with| .inl x=>(by kernel_rfl)| .inr (x)=>(by kernel_rfl))
noncomputable def oA:Ctr:=⟨.cons (ae) (.nil),.cons (ae) (.nil),[(true,5)],[(true,5)],[(4,false)],jQ⟩
theorem pe:aH Tryz.prog 62 oA:=aJ (H:={hn with pr:=[(101,0,false)]}) (n:=60) aK afL gT ao abY rfl rfl (fun x=>by kernel_rfl)
noncomputable def tb205:List (Nat×CF):=[(205,NK)]
theorem td205:bi Tryz.prog tb205:=⟨⟨_,_,Tryz.func205,VA⟩,trivial⟩
noncomputable def ct205:List (Nat×Ctr):=[(234,K234)]
theorem h205:aS Tryz.prog ct205:=⟨k234,trivial⟩
noncomputable abbrev gg205:Cfg:=bc Tryz.prog (look? tb205) (look? ct205) (look? bI) (([]:List (Nat×Bool)).map (·.1)) hn.kl hn.pf
theorem l205_0:au gg205 (aB tb205) []:=trivial
noncomputable def K205:Ctr:=⟨.cons (.i .i64) (.cons (.i .i64) (.nil)),.cons (.i .i64) (.nil),[(false,1),(false,1)],[(false,1)],[],F205⟩
theorem k205:aH Tryz.prog 205 K205:=aJ (H:=hn) (n:=60) aK td205 h205 ao l205_0 rfl rfl (fun x=>by kernel_rfl)
noncomputable def Jr:List (Nat×CF):=[(210,UG)]
theorem abZ:bi Tryz.prog Jr:=⟨⟨_,_,Tryz.func210,aee⟩,trivial⟩
noncomputable def Ql:List (Nat×Ctr):=[(236,WU)]
theorem afM:aS Tryz.prog Ql:=⟨afw,trivial⟩
noncomputable abbrev ab0:Cfg:=bc Tryz.prog (look? Jr) (look? Ql) (look? bI) (([]:List (Nat×Bool)).map (·.1)) hn.kl hn.pf
theorem Xw:au ab0 (aB Jr) []:=trivial
noncomputable def Ob:Ctr:=⟨.cons (ah) (.cons (ab) (.cons (.i .i64) (.nil))),.cons (ab) (.nil),[(true,3),(true,5),(false,1)],[(true,5)],[],Fh⟩
theorem Xx:aH Tryz.prog 210 Ob:=aJ (H:=hn) (n:=60) aK abZ afM ao Xw rfl rfl (fun x=>by kernel_rfl)
noncomputable def tb213:List (Nat×CF):=[(213,NL)]
theorem td213:bi Tryz.prog tb213:=⟨⟨_,_,Tryz.func213,VB⟩,trivial⟩
noncomputable def ct213:List (Nat×Ctr):=[(205,K205),(214,K214)]
theorem h213:aS Tryz.prog ct213:=⟨k205,k214,trivial⟩
noncomputable abbrev gg213:Cfg:=bc Tryz.prog (look? tb213) (look? ct213) (look? bI) (([]:List (Nat×Bool)).map (·.1)) hn.kl hn.pf
theorem l213_0:au gg213 (aB tb213) []:=trivial
noncomputable def K213:Ctr:=⟨.cons (ay) (.cons (ay) (.nil)),.cons (.i .i64) (.nil),[(true,3),(true,3)],[(false,1)],[],F213⟩
theorem k213:aH Tryz.prog 213 K213:=aJ (H:=hn) (n:=60) aK td213 h213 ao l213_0 rfl rfl (fun x=>by kernel_rfl)
noncomputable def CV:List (Nat×CF):=[(25,UH)]
theorem ab1:bi Tryz.prog CV:=⟨⟨_,_,Tryz.func25,t25⟩,trivial⟩
noncomputable def Qm:List (Nat×Ctr):=[(61,Ft),(62,oA)]
theorem Xy:aS Tryz.prog Qm:=⟨He,pe,trivial⟩
noncomputable abbrev Qn:Cfg:=bc Tryz.prog (look? CV) (look? Qm) (look? bI) (([(6,true),(7,true)]:List (Nat×Bool)).map (·.1)) hn.kl hn.pf
theorem Xz:au Qn (aB CV) []:=trivial
noncomputable abbrev SN:Nat×Lps:=(1001600,⟨sG,sH,nR⟩)
theorem XA:au Qn (aB CV) [SN]:=aT (H:={hn with pr:=[(61,0,false)]}) (n:=60) (live:=[1,2,13,14,15,1001600]) (b:=Iy) (ps:=sG) (os:=sH) (st:=eu) Xy ao Xz (by kernel_rfl) (by kernel_rfl) (fun x=>match x with| .inl x=>(by kernel_rfl)| .inr (x)=>(by kernel_rfl))
noncomputable def afN:Ctr:=⟨kI,kI,[(true,8)],[(true,8)],[(6,true),(7,true)],NR⟩
theorem afO:aH Tryz.prog 25 afN:=aJ (H:={hn with pr:=[(61,0,false)]}) (n:=60) aK ab1 Xy ao XA rfl rfl (fun x=>by kernel_rfl)
noncomputable def CW:List (Nat×CF):=[(25,UH)]
theorem ab2:bi Tryz.prog CW:=⟨⟨_,_,Tryz.func25,t25⟩,trivial⟩
noncomputable def Qo:List (Nat×Ctr):=[(61,Ft),(62,oA)]
theorem XB:aS Tryz.prog Qo:=⟨He,pe,trivial⟩
noncomputable abbrev Qp:Cfg:=bc Tryz.prog (look? CW) (look? Qo) (look? bI) (([(6,true),(7,true)]:List (Nat×Bool)).map (·.1)) hn.kl hn.pf
theorem XC:au Qp (aB CW) []:=trivial
noncomputable abbrev SO:Nat×Lps:=(1001600,⟨sI,sJ,nS⟩)
theorem XD:au Qp (aB CW) [SO]:=aT (H:={hn with pr:=[(61,0,true)]}) (n:=60) (live:=[1,2,13,14,15,1001600]) (b:=Iy) (ps:=sI) (os:=sJ) (st:=eA) XB ao XC (by kernel_rfl) (by kernel_rfl) (fun x=>match x with| .inl x=>(by kernel_rfl)| .inr (x)=>(by kernel_rfl))
noncomputable def afP:Ctr:=⟨kI,kI,[(true,8)],[(true,8)],[(6,true),(7,true)],NS⟩
theorem afQ:aH Tryz.prog 25 afP:=aJ (H:={hn with pr:=[(61,0,true)]}) (n:=60) aK ab2 XB ao XD rfl rfl (fun x=>by kernel_rfl)
noncomputable def Mf:Ctr:=⟨kI,kI,[(true,8)],[(true,8)],[(6,true),(7,true)],cD⟩
theorem Qq:aH Tryz.prog 25 Mf:=by
 have h:= @wm Tryz.prog 25 (kI) (kI) _ _ _ _ _ (fun x=>isEmpty x.1.2.2.2.2.2.2.2.1) afQ afO
 exact h
noncomputable def Js:List (Nat×CF):=[(13,c13)]
theorem afR:bi Tryz.prog Js:=⟨⟨_,_,Tryz.func13,t13⟩,trivial⟩
noncomputable def XE:List (Nat×Ctr):=[(45,K45)]
theorem Qr:aS Tryz.prog XE:=⟨k45,trivial⟩
noncomputable abbrev XF:Cfg:=bc Tryz.prog (look? Js) (look? XE) (look? bI) (([]:List (Nat×Bool)).map (·.1)) hn.kl hn.pf
theorem ab3:au XF (aB Js) []:=trivial
noncomputable abbrev XG:Nat×Lps:=(1000832,⟨uX,uY,pC⟩)
theorem ab4:au XF (aB Js) [XG]:=aT (H:=hn) (n:=60) (live:=[0,5,1000832]) (b:=Ph) (ps:=uX) (os:=uY) (st:=gy) Qr ao ab3 (by kernel_rfl) (by kernel_rfl) (fun x=>by kernel_rfl)
noncomputable def K13:Ctr:=⟨.cons (.row (af)) (.cons (.i .i64) (.nil)),.cons (.b) (.nil),[(false,1),(false,1)],[(false,1)],[],PN⟩
theorem k13:aH Tryz.prog 13 K13:=aJ (H:=hn) (n:=60) aK afR Qr ao ab4 rfl rfl (fun x=>by kernel_rfl)
noncomputable def Jt:List (Nat×CF):=[(130,UI)]
theorem ab5:bi Tryz.prog Jt:=⟨⟨_,_,Tryz.func130,aef⟩,trivial⟩
noncomputable def Qs:List (Nat×Ctr):=[(179,WC),(180,Xq)]
theorem afS:aS Tryz.prog Qs:=⟨afl,afI,trivial⟩
noncomputable abbrev ab6:Cfg:=bc Tryz.prog (look? Jt) (look? Qs) (look? bI) (([]:List (Nat×Bool)).map (·.1)) hn.kl hn.pf
theorem XH:au ab6 (aB Jt) []:=trivial
noncomputable def Ju:Ctr:=⟨.cons (ah) (.cons (ab) (.nil)),.cons (.i .i64) (.nil),[(true,3),(true,5)],[(false,1)],[],AG⟩
theorem Oc:aH Tryz.prog 130 Ju:=aJ (H:=hn) (n:=60) aK ab5 afS ao XH rfl rfl (fun x=>by kernel_rfl)
noncomputable def CX:List (Nat×CF):=[(181,UJ),(220,Ur),(219,UE),(239,Us)]
theorem ab7:bi Tryz.prog CX:=⟨⟨_,_,Tryz.func181,aeg⟩,⟨_,_,Tryz.func220,adZ⟩,⟨_,_,Tryz.func219,aec⟩,⟨_,_,Tryz.func239,ad0⟩,trivial⟩
noncomputable def Qt:List (Nat×Ctr):=[]
theorem XI:aS Tryz.prog Qt:=trivial
noncomputable abbrev Qu:Cfg:=bc Tryz.prog (look? CX) (look? Qt) (look? bI) (([]:List (Nat×Bool)).map (·.1)) hn.kl hn.pf
theorem XJ:au Qu (aB CX) []:=trivial
noncomputable abbrev SP:Nat×Lps:=(1015296,⟨sK,sL,nT⟩)
theorem XK:au Qu (aB CX) [SP]:=aT (H:=hn) (n:=60) (live:=[0,1,7,8,1015296]) (b:=Lr) (ps:=sK) (os:=sL) (st:=fO) XI ao XJ (by kernel_rfl) (by kernel_rfl) (fun x=>by kernel_rfl)
noncomputable def Jv:Ctr:=⟨.cons (ae) (.cons (ah) (.nil)),.cons (.b) (.nil),[(true,5),(true,3)],[(false,1)],[],AH⟩
theorem Od:aH Tryz.prog 181 Jv:=aJ (H:=hn) (n:=60) aK ab7 XI ao XK rfl rfl (fun x=>by kernel_rfl)
noncomputable def Jw:List (Nat×CF):=[(222,UK)]
theorem ab8:bi Tryz.prog Jw:=⟨⟨_,_,Tryz.func222,aeh⟩,trivial⟩
noncomputable def Qv:List (Nat×Ctr):=[(240,Xs)]
theorem afT:aS Tryz.prog Qv:=⟨afK,trivial⟩
noncomputable abbrev ab9:Cfg:=bc Tryz.prog (look? Jw) (look? Qv) (look? bI) (([]:List (Nat×Bool)).map (·.1)) hn.kl hn.pf
theorem XL:au ab9 (aB Jw) []:=trivial
noncomputable def Oe:Ctr:=⟨.cons (ab) (.cons (.row (.i .u8)) (.nil)),.cons (.b) (.nil),[(true,5),(false,1)],[(false,1)],[],Fi⟩
theorem XM:aH Tryz.prog 222 Oe:=aJ (H:=hn) (n:=60) aK ab8 afT ao XL rfl rfl (fun x=>by kernel_rfl)
noncomputable def Jx:List (Nat×CF):=[(235,UM)]
theorem aca:bi Tryz.prog Jx:=⟨⟨_,_,Tryz.func235,aej⟩,trivial⟩
noncomputable def Qw:List (Nat×Ctr):=[(130,Ju)]
theorem afU:aS Tryz.prog Qw:=⟨Oc,trivial⟩
noncomputable abbrev acb:Cfg:=bc Tryz.prog (look? Jx) (look? Qw) (look? bI) (([]:List (Nat×Bool)).map (·.1)) hn.kl hn.pf
theorem XN:au acb (aB Jx) []:=trivial
noncomputable def XO:Ctr:=⟨.cons (ah) (.cons (ab) (.cons (.b) (.nil))),.cons (.i .i64) (.nil),[(true,3),(true,5),(false,1)],[(false,1)],[],IY⟩
theorem afV:aH Tryz.prog 235 XO:=aJ (H:=hn) (n:=60) aK aca afU ao XN rfl rfl (fun x=>by kernel_rfl)
noncomputable def Jy:List (Nat×CF):=[(211,UO)]
theorem acd:bi Tryz.prog Jy:=⟨⟨_,_,Tryz.func211,ael⟩,trivial⟩
noncomputable def Qx:List (Nat×Ctr):=[(130,Ju)]
theorem afW:aS Tryz.prog Qx:=⟨Oc,trivial⟩
noncomputable abbrev ace:Cfg:=bc Tryz.prog (look? Jy) (look? Qx) (look? bI) (([]:List (Nat×Bool)).map (·.1)) hn.kl hn.pf
theorem XP:au ace (aB Jy) []:=trivial
noncomputable def vA:Ctr:=⟨.cons (ah) (.cons (ab) (.nil)),.cons (ab) (.cons (.i .i64) (.nil)),[(true,3),(true,5)],[(true,5),(false,1)],[],pD⟩
theorem xQ:aH Tryz.prog 211 vA:=aJ (H:=hn) (n:=60) aK acd afW ao XP rfl rfl (fun x=>by kernel_rfl)
noncomputable def zH:List (Nat×CF):=[(175,UP)]
theorem acf:bi Tryz.prog zH:=⟨⟨_,_,Tryz.func175,aem⟩,trivial⟩
noncomputable def Qy:List (Nat×Ctr):=[(176,vz),(213,K213)]
theorem Of:aS Tryz.prog Qy:=⟨xO,k213,trivial⟩
noncomputable abbrev Jz:Cfg:=bc Tryz.prog (look? zH) (look? Qy) (look? bI) (([(0,true)]:List (Nat×Bool)).map (·.1)) hn.kl hn.pf
theorem XQ:au Jz (aB zH) []:=trivial
noncomputable abbrev Hg:Nat×Lps:=(1011201,⟨sM,sN,jq⟩)
theorem XR:au Jz (aB zH) [Hg]:=aT (H:=hn) (n:=60) (live:=[1,5,7,10,11,12,17,18,19,1011201]) (b:=LH) (ps:=sM) (os:=sN) (st:=eB) Of ao XQ (by kernel_rfl) (by kernel_rfl) (fun x=>match x with| .inl x=>(by kernel_rfl)| .inr (x)=>(by kernel_rfl))
noncomputable abbrev SQ:Nat×Lps:=(1011200,⟨sO,sP,nU⟩)
theorem XS:au Jz (aB zH) [SQ,Hg]:=aT (H:=hn) (n:=60) (live:=[1,5,10,11,12,1011200]) (b:=LI) (ps:=sO) (os:=sP) (st:=eC) Of ao XR (by kernel_rfl) (by kernel_rfl) (fun x=>match x with| .inl x=>(by kernel_rfl)| .inr (x)=>(by kernel_rfl))
noncomputable def XT:Ctr:=⟨.cons (.row (ae)) (.cons (.i .i64) (.nil)),.cons (.row (ay)) (.nil),[(false,1),(false,1)],[(false,1)],[(0,true)],IZ⟩
theorem afX:aH Tryz.prog 175 XT:=aJ (H:=hn) (n:=60) aK acf Of ao XS rfl rfl (fun x=>by kernel_rfl)
noncomputable def CY:List (Nat×CF):=[(183,UR),(223,UL),(53,Pf),(93,Pb)]
theorem acg:bi Tryz.prog CY:=⟨⟨_,_,Tryz.func183,aeo⟩,⟨_,_,Tryz.func223,aei⟩,⟨_,_,Tryz.func53,Vz⟩,⟨_,_,Tryz.func93,Vw⟩,trivial⟩
noncomputable def Qz:List (Nat×Ctr):=[(222,Oe)]
theorem XU:aS Tryz.prog Qz:=⟨XM,trivial⟩
noncomputable abbrev QA:Cfg:=bc Tryz.prog (look? CY) (look? Qz) (look? bI) (([]:List (Nat×Bool)).map (·.1)) hn.kl hn.pf
theorem XV:au QA (aB CY) []:=trivial
noncomputable abbrev SR:Nat×Lps:=(1005952,⟨sQ,sR,nV⟩)
theorem XW:au QA (aB CY) [SR]:=aT (H:=hn) (n:=60) (live:=[0,1,7,8,1005952]) (b:=CP) (ps:=sQ) (os:=sR) (st:=fP) XU ao XV (by kernel_rfl) (by kernel_rfl) (fun x=>by kernel_rfl)
noncomputable def XX:Ctr:=⟨.cons (ae) (.cons (.row (.i .u8)) (.nil)),.cons (.b) (.nil),[(true,5),(false,1)],[(false,1)],[],AJ⟩
theorem afY:aH Tryz.prog 183 XX:=aJ (H:=hn) (n:=60) aK acg XU ao XW rfl rfl (fun x=>by kernel_rfl)
noncomputable def JA:List (Nat×CF):=[(206,US)]
theorem ach:bi Tryz.prog JA:=⟨⟨_,_,Tryz.func206,aep⟩,trivial⟩
noncomputable def QB:List (Nat×Ctr):=[(235,XO)]
theorem afZ:aS Tryz.prog QB:=⟨afV,trivial⟩
noncomputable abbrev aci:Cfg:=bc Tryz.prog (look? JA) (look? QB) (look? bI) (([]:List (Nat×Bool)).map (·.1)) hn.kl hn.pf
theorem XY:au aci (aB JA) []:=trivial
noncomputable def Bk:Ctr:=⟨.cons (ah) (.cons (ab) (.cons (.b) (.cons (.i .u8) (.nil)))),.cons (.i .i64) (.nil),[(true,3),(true,5),(false,1),(false,1)],[(false,1)],[],gz⟩
theorem Fv:aH Tryz.prog 206 Bk:=aJ (H:=hn) (n:=60) aK ach afZ ao XY rfl rfl (fun x=>by kernel_rfl)
noncomputable def JB:List (Nat×CF):=[(167,UT)]
theorem acj:bi Tryz.prog JB:=⟨⟨_,_,Tryz.func167,aeq⟩,trivial⟩
noncomputable def QC:List (Nat×Ctr):=[(207,Bh),(208,xN),(206,Bk)]
theorem h167:aS Tryz.prog QC:=⟨Fq,Bg,Fv,trivial⟩
noncomputable abbrev acl:Cfg:=bc Tryz.prog (look? JB) (look? QC) (look? bI) (([]:List (Nat×Bool)).map (·.1)) hn.kl hn.pf
theorem XZ:au acl (aB JB) []:=trivial
noncomputable def Ya:Ctr:=⟨.cons (ah) (.cons (ab) (.cons (.i .i64) (.cons (.i .i64) (.nil)))),.cons (ab) (.cons (.i .i64) (.nil)),[(true,3),(true,5),(false,1),(false,1)],[(true,5),(false,1)],[],uZ⟩
theorem af0:aH Tryz.prog 167 Ya:=aJ (H:=hn) (n:=60) aK acj h167 ao XZ rfl rfl (fun x=>by kernel_rfl)
noncomputable def JC:List (Nat×CF):=[(209,UU)]
theorem acm:bi Tryz.prog JC:=⟨⟨_,_,Tryz.func209,aer⟩,trivial⟩
noncomputable def QD:List (Nat×Ctr):=[(207,Bh),(206,Bk)]
theorem af1:aS Tryz.prog QD:=⟨Fq,Fv,trivial⟩
noncomputable abbrev acn:Cfg:=bc Tryz.prog (look? JC) (look? QD) (look? bI) (([]:List (Nat×Bool)).map (·.1)) hn.kl hn.pf
theorem Yb:au acn (aB JC) []:=trivial
noncomputable def JD:Ctr:=⟨.cons (ah) (.cons (ab) (.cons (.b) (.cons (.i .i64) (.nil)))),.cons (.i .i64) (.nil),[(true,3),(true,5),(false,1),(false,1)],[(false,1)],[],AK⟩
theorem Og:aH Tryz.prog 209 JD:=aJ (H:=hn) (n:=60) aK acm af1 ao Yb rfl rfl (fun x=>by kernel_rfl)
noncomputable def JE:List (Nat×CF):=[(171,UV)]
theorem aco:bi Tryz.prog JE:=⟨⟨_,_,Tryz.func171,aes⟩,trivial⟩
noncomputable def QE:List (Nat×Ctr):=[(208,xN),(209,JD),(210,Ob)]
theorem af2:aS Tryz.prog QE:=⟨Bg,Og,Xx,trivial⟩
noncomputable abbrev acp:Cfg:=bc Tryz.prog (look? JE) (look? QE) (look? bI) (([]:List (Nat×Bool)).map (·.1)) hn.kl hn.pf
theorem Yc:au acp (aB JE) []:=trivial
noncomputable def Yd:Ctr:=⟨.cons (ah) (.cons (ab) (.cons (.i .i64) (.cons (.i .i64) (.nil)))),.cons (ab) (.cons (.i .i64) (.nil)),[(true,3),(true,5),(false,1),(false,1)],[(true,5),(false,1)],[],AL⟩
theorem af3:aH Tryz.prog 171 Yd:=aJ (H:=hn) (n:=60) aK aco af2 ao Yc rfl rfl (fun x=>by kernel_rfl)
noncomputable def JF:List (Nat×CF):=[(173,UW)]
theorem acq:bi Tryz.prog JF:=⟨⟨_,_,Tryz.func173,aet⟩,trivial⟩
noncomputable def QF:List (Nat×Ctr):=[(208,xN),(209,JD)]
theorem af4:aS Tryz.prog QF:=⟨Bg,Og,trivial⟩
noncomputable abbrev acr:Cfg:=bc Tryz.prog (look? JF) (look? QF) (look? bI) (([]:List (Nat×Bool)).map (·.1)) hn.kl hn.pf
theorem Ye:au acr (aB JF) []:=trivial
noncomputable def Yf:Ctr:=⟨.cons (ah) (.cons (ab) (.cons (.i .i64) (.cons (.i .i64) (.nil)))),.cons (ab) (.cons (.i .i64) (.nil)),[(true,3),(true,5),(false,1),(false,1)],[(true,5),(false,1)],[],AM⟩
theorem af5:aH Tryz.prog 173 Yf:=aJ (H:=hn) (n:=60) aK acq af4 ao Ye rfl rfl (fun x=>by kernel_rfl)
noncomputable def JG:List (Nat×CF):=[(216,UX)]
theorem acs:bi Tryz.prog JG:=⟨⟨_,_,Tryz.func216,aeu⟩,trivial⟩
noncomputable def QG:List (Nat×Ctr):=[(207,Bh),(208,xN),(206,Bk),(176,vz)]
theorem af6:aS Tryz.prog QG:=⟨Fq,Bg,Fv,xO,trivial⟩
noncomputable abbrev act:Cfg:=bc Tryz.prog (look? JG) (look? QG) (look? bI) (([]:List (Nat×Bool)).map (·.1)) hn.kl hn.pf
theorem Yg:au act (aB JG) []:=trivial
noncomputable def Yh:Ctr:=⟨.cons (ah) (.cons (ab) (.cons (.i .i64) (.cons (.i .i64) (.nil)))),.cons (ab) (.cons (.i .i64) (.nil)),[(true,3),(true,5),(false,1),(false,1)],[(true,5),(false,1)],[],AN⟩
theorem af7:aH Tryz.prog 216 Yh:=aJ (H:=hn) (n:=60) aK acs af6 ao Yg rfl rfl (fun x=>by kernel_rfl)
noncomputable def JH:List (Nat×CF):=[(218,UY)]
theorem acu:bi Tryz.prog JH:=⟨⟨_,_,Tryz.func218,aev⟩,trivial⟩
noncomputable def QH:List (Nat×Ctr):=[(208,xN),(206,Bk),(176,vz),(210,Ob)]
theorem af8:aS Tryz.prog QH:=⟨Bg,Fv,xO,Xx,trivial⟩
noncomputable abbrev acv:Cfg:=bc Tryz.prog (look? JH) (look? QH) (look? bI) (([]:List (Nat×Bool)).map (·.1)) hn.kl hn.pf
theorem Yi:au acv (aB JH) []:=trivial
noncomputable def Yj:Ctr:=⟨.cons (ah) (.cons (ab) (.cons (.i .i64) (.nil))),.cons (ab) (.cons (.i .i64) (.nil)),[(true,3),(true,5),(false,1)],[(true,5),(false,1)],[],AO⟩
theorem af9:aH Tryz.prog 218 Yj:=aJ (H:=hn) (n:=60) aK acu af8 ao Yi rfl rfl (fun x=>by kernel_rfl)
noncomputable def CZ:List (Nat×CF):=[(182,UZ),(221,UQ),(53,Pf),(93,Pb)]
theorem acw:bi Tryz.prog CZ:=⟨⟨_,_,Tryz.func182,aew⟩,⟨_,_,Tryz.func221,aen⟩,⟨_,_,Tryz.func53,Vz⟩,⟨_,_,Tryz.func93,Vw⟩,trivial⟩
noncomputable def QI:List (Nat×Ctr):=[(222,Oe)]
theorem Bl:aS Tryz.prog QI:=⟨XM,trivial⟩
noncomputable abbrev QJ:Cfg:=bc Tryz.prog (look? CZ) (look? QI) (look? bI) (([]:List (Nat×Bool)).map (·.1)) hn.kl hn.pf
theorem Yk:au QJ (aB CZ) []:=trivial
noncomputable abbrev ST:Nat×Lps:=(1005952,⟨sS,sT,nW⟩)
theorem Yl:au QJ (aB CZ) [ST]:=aT (H:=hn) (n:=60) (live:=[0,1,7,8,1005952]) (b:=CP) (ps:=sS) (os:=sT) (st:=fQ) Bl ao Yk (by kernel_rfl) (by kernel_rfl) (fun x=>by kernel_rfl)
noncomputable def vB:Ctr:=⟨.cons (ae) (.cons (.row (.i .u8)) (.nil)),.cons (.b) (.nil),[(true,5),(false,1)],[(false,1)],[],jr⟩
theorem xR:aH Tryz.prog 182 vB:=aJ (H:=hn) (n:=60) aK acw Bl ao Yl rfl rfl (fun x=>by kernel_rfl)
noncomputable def JI:List (Nat×CF):=[(202,Va)]
theorem acx:bi Tryz.prog JI:=⟨⟨_,_,Tryz.func202,aex⟩,trivial⟩
noncomputable def QK:List (Nat×Ctr):=[(207,Bh),(206,Bk)]
theorem aga:aS Tryz.prog QK:=⟨Fq,Fv,trivial⟩
noncomputable abbrev acy:Cfg:=bc Tryz.prog (look? JI) (look? QK) (look? bI) (([]:List (Nat×Bool)).map (·.1)) hn.kl hn.pf
theorem Ym:au acy (aB JI) []:=trivial
noncomputable def Oh:Ctr:=⟨.cons (ah) (.cons (ab) (.cons (.i .i64) (.nil))),.cons (ab) (.cons (.i .i64) (.nil)),[(true,3),(true,5),(false,1)],[(true,5),(false,1)],[],Fj⟩
theorem Yn:aH Tryz.prog 202 Oh:=aJ (H:=hn) (n:=60) aK acx aga ao Ym rfl rfl (fun x=>by kernel_rfl)
noncomputable def JJ:List (Nat×CF):=[(169,Vc)]
theorem acz:bi Tryz.prog JJ:=⟨⟨_,_,Tryz.func169,aez⟩,trivial⟩
noncomputable def QL:List (Nat×Ctr):=[(209,JD)]
theorem agb:aS Tryz.prog QL:=⟨Og,trivial⟩
noncomputable abbrev acA:Cfg:=bc Tryz.prog (look? JJ) (look? QL) (look? bI) (([]:List (Nat×Bool)).map (·.1)) hn.kl hn.pf
theorem Yo:au acA (aB JJ) []:=trivial
noncomputable def Yp:Ctr:=⟨.cons (ah) (.cons (ab) (.cons (.i .i64) (.nil))),.cons (ab) (.cons (.i .i64) (.nil)),[(true,3),(true,5),(false,1)],[(true,5),(false,1)],[],Ja⟩
theorem agc:aH Tryz.prog 169 Yp:=aJ (H:=hn) (n:=60) aK acz agb ao Yo rfl rfl (fun x=>by kernel_rfl)
noncomputable def Da:List (Nat×CF):=[(131,Vh)]
theorem acB:bi Tryz.prog Da:=⟨⟨_,_,Tryz.func131,aeE⟩,trivial⟩
noncomputable def QM:List (Nat×Ctr):=[(181,Jv),(182,vB),(183,XX)]
theorem Yq:aS Tryz.prog QM:=⟨Od,xR,afY,trivial⟩
noncomputable abbrev QN:Cfg:=bc Tryz.prog (look? Da) (look? QM) (look? bI) (([]:List (Nat×Bool)).map (·.1)) hn.kl hn.pf
theorem Yr:au QN (aB Da) []:=trivial
noncomputable abbrev SU:Nat×Lps:=(1008384,⟨sU,sV,nX⟩)
theorem Ys:au QN (aB Da) [SU]:=aT (H:=hn) (n:=60) (live:=[1,11,12,13,1008384]) (b:=LJ) (ps:=sU) (os:=sV) (st:=fR) Yq ao Yr (by kernel_rfl) (by kernel_rfl) (fun x=>by kernel_rfl)
noncomputable def Yt:Ctr:=⟨.cons (ae) (.nil),.cons (.b) (.nil),[(true,5)],[(false,1)],[],Jb⟩
theorem agd:aH Tryz.prog 131 Yt:=aJ (H:=hn) (n:=60) aK acB Yq ao Ys rfl rfl (fun x=>by kernel_rfl)
noncomputable def JK:List (Nat×CF):=[(89,c89)]
theorem age:bi Tryz.prog JK:=⟨⟨_,_,Tryz.func89,t89⟩,trivial⟩
noncomputable def Yu:List (Nat×Ctr):=[(114,xP),(130,Ju),(131,Yt)]
theorem h89:aS Tryz.prog Yu:=⟨Bj,Oc,agd,trivial⟩
noncomputable abbrev Yv:Cfg:=bc Tryz.prog (look? JK) (look? Yu) (look? bI) (([]:List (Nat×Bool)).map (·.1)) hn.kl hn.pf
theorem acC:au Yv (aB JK) []:=trivial
noncomputable abbrev Yw:Nat×Lps:=(1005696,⟨vb,vc,pE⟩)
theorem acD:au Yv (aB JK) [Yw]:=aT (H:=hn) (n:=60) (live:=[1,43,44,45,1005696]) (b:=Pi) (ps:=vb) (os:=vc) (st:=gB) h89 ao acC (by kernel_rfl) (by kernel_rfl) (fun x=>by kernel_rfl)
noncomputable def zI:Ctr:=⟨.cons (ae) (.nil),.cons (.i .i64) (.nil),[(true,5)],[(false,1)],[],sW⟩
theorem Ch:aH Tryz.prog 89 zI:=aJ (H:=hn) (n:=60) aK age h89 ao acD rfl rfl (fun x=>by kernel_rfl)
noncomputable def Db:List (Nat×CF):=[(116,Vj),(163,NM)]
theorem acE:bi Tryz.prog Db:=⟨⟨_,_,Tryz.func116,aeG⟩,⟨_,_,Tryz.func163,VC⟩,trivial⟩
noncomputable def QO:List (Nat×Ctr):=[(114,xP),(162,NY),(62,oA),(181,Jv),(202,Oh)]
theorem JL:aS Tryz.prog QO:=⟨Bj,WL,pe,Od,Yn,trivial⟩
noncomputable abbrev QP:Cfg:=bc Tryz.prog (look? Db) (look? QO) (look? bI) (([]:List (Nat×Bool)).map (·.1)) hn.kl hn.pf
theorem Yx:au QP (aB Db) []:=trivial
noncomputable abbrev SW:Nat×Lps:=(1010432,⟨sX,sY,ju⟩)
theorem Yy:au QP (aB Db) [SW]:=aT (H:=hn) (n:=60) (live:=[1,2,9,10,11,1010432]) (b:=EV) (ps:=sX) (os:=sY) (st:=fS) JL ao Yx (by kernel_rfl) (by kernel_rfl) (fun x=>by kernel_rfl)
noncomputable def Fw:Ctr:=⟨.cons (.i .i64) (.cons (.s) (.cons (pb) (.cons (.i .i64) (.nil)))),.cons (ae) (.cons (.i .i64) (.cons (.i .i64) (.nil))),[(false,1),(false,1),(true,1),(false,1)],[(true,5),(false,1),(false,1)],[],rM⟩
theorem JM:aH Tryz.prog 116 Fw:=aJ (H:=hn) (n:=60) aK acE JL ao Yy rfl rfl (fun x=>by kernel_rfl)
noncomputable def zJ:List (Nat×CF):=[(123,Vk),(168,Vi),(165,xG),(174,uN),(163,NM)]
theorem acF:bi Tryz.prog zJ:=⟨⟨_,_,Tryz.func123,aeH⟩,⟨_,_,Tryz.func168,aeF⟩,⟨_,_,Tryz.func165,AF⟩,⟨_,_,Tryz.func174,xH⟩,⟨_,_,Tryz.func163,VC⟩,trivial⟩
noncomputable def QQ:List (Nat×Ctr):=[(162,NY),(169,Yp),(89,zI),(62,oA),(182,vB),(211,vA),(181,Jv),(202,Oh)]
theorem Oi:aS Tryz.prog QQ:=⟨WL,agc,Ch,pe,xR,xQ,Od,Yn,trivial⟩
noncomputable abbrev JN:Cfg:=bc Tryz.prog (look? zJ) (look? QQ) (look? bI) (([]:List (Nat×Bool)).map (·.1)) hn.kl hn.pf
theorem Yz:au JN (aB zJ) []:=trivial
noncomputable abbrev Hh:Nat×Lps:=(1010432,⟨sZ,ta,gC⟩)
theorem YA:au JN (aB zJ) [Hh]:=aT (H:=hn) (n:=60) (live:=[1,2,9,10,11,1010432]) (b:=EV) (ps:=sZ) (os:=ta) (st:=tc) Oi ao Yz (by kernel_rfl) (by kernel_rfl) (fun x=>by kernel_rfl)
noncomputable abbrev SY:Nat×Lps:=(1011136,⟨td,te,vd⟩)
theorem YB:au JN (aB zJ) [SY,Hh]:=aT (H:=hn) (n:=60) (live:=[1,8,9,10,1011136]) (b:=lP) (ps:=td) (os:=te) (st:=tf) Oi ao YA (by kernel_rfl) (by kernel_rfl) (fun x=>by kernel_rfl)
noncomputable def Fx:Ctr:=⟨.cons (ae) (ay),.cons (ae) (.cons (.i .i64) (.cons (.i .i64) (.nil))),[(true,5),(false,1),(false,1),(false,1)],[(true,5),(false,1),(false,1)],[],xI⟩
theorem JO:aH Tryz.prog 123 Fx:=aJ (H:=hn) (n:=60) aK acF Oi ao YB rfl rfl (fun x=>by kernel_rfl)
noncomputable def Dc:List (Nat×CF):=[(124,Vl),(170,Vd),(165,xG),(174,uN)]
theorem acG:bi Tryz.prog Dc:=⟨⟨_,_,Tryz.func124,aeI⟩,⟨_,_,Tryz.func170,aeA⟩,⟨_,_,Tryz.func165,AF⟩,⟨_,_,Tryz.func174,xH⟩,trivial⟩
noncomputable def QR:List (Nat×Ctr):=[(171,Yd),(89,zI),(62,oA),(182,vB),(211,vA)]
theorem YC:aS Tryz.prog QR:=⟨af3,Ch,pe,xR,xQ,trivial⟩
noncomputable abbrev QS:Cfg:=bc Tryz.prog (look? Dc) (look? QR) (look? bI) (([]:List (Nat×Bool)).map (·.1)) hn.kl hn.pf
theorem YD:au QS (aB Dc) []:=trivial
noncomputable abbrev SZ:Nat×Lps:=(1011136,⟨tg,th,ve⟩)
theorem YE:au QS (aB Dc) [SZ]:=aT (H:=hn) (n:=60) (live:=[1,8,9,10,1011136]) (b:=lP) (ps:=tg) (os:=th) (st:=tj) YC ao YD (by kernel_rfl) (by kernel_rfl) (fun x=>by kernel_rfl)
noncomputable def Fy:Ctr:=⟨.cons (ae) (ay),.cons (ae) (.cons (.i .i64) (.nil)),[(true,5),(false,1),(false,1),(false,1)],[(true,5),(false,1)],[],Fk⟩
theorem JP:aH Tryz.prog 124 Fy:=aJ (H:=hn) (n:=60) aK acG YC ao YE rfl rfl (fun x=>by kernel_rfl)
noncomputable def Dd:List (Nat×CF):=[(126,Vm),(172,Ve),(165,xG),(174,uN)]
theorem acH:bi Tryz.prog Dd:=⟨⟨_,_,Tryz.func126,aeJ⟩,⟨_,_,Tryz.func172,aeB⟩,⟨_,_,Tryz.func165,AF⟩,⟨_,_,Tryz.func174,xH⟩,trivial⟩
noncomputable def QT:List (Nat×Ctr):=[(173,Yf),(89,zI),(62,oA),(182,vB),(211,vA)]
theorem YF:aS Tryz.prog QT:=⟨af5,Ch,pe,xR,xQ,trivial⟩
noncomputable abbrev QU:Cfg:=bc Tryz.prog (look? Dd) (look? QT) (look? bI) (([]:List (Nat×Bool)).map (·.1)) hn.kl hn.pf
theorem YG:au QU (aB Dd) []:=trivial
noncomputable abbrev Ta:Nat×Lps:=(1011136,⟨tq,tv,vf⟩)
theorem YH:au QU (aB Dd) [Ta]:=aT (H:=hn) (n:=60) (live:=[1,8,9,10,1011136]) (b:=lP) (ps:=tq) (os:=tv) (st:=tw) YF ao YG (by kernel_rfl) (by kernel_rfl) (fun x=>by kernel_rfl)
noncomputable def Fz:Ctr:=⟨.cons (ae) (ay),.cons (ae) (.cons (.i .i64) (.nil)),[(true,5),(false,1),(false,1),(false,1)],[(true,5),(false,1)],[],Fl⟩
theorem JQ:aH Tryz.prog 126 Fz:=aJ (H:=hn) (n:=60) aK acH YF ao YH rfl rfl (fun x=>by kernel_rfl)
noncomputable def De:List (Nat×CF):=[(127,Vn),(174,uN)]
theorem acI:bi Tryz.prog De:=⟨⟨_,_,Tryz.func127,aeK⟩,⟨_,_,Tryz.func174,xH⟩,trivial⟩
noncomputable def QV:List (Nat×Ctr):=[(89,zI),(62,oA),(211,vA)]
theorem YI:aS Tryz.prog QV:=⟨Ch,pe,xQ,trivial⟩
noncomputable abbrev QW:Cfg:=bc Tryz.prog (look? De) (look? QV) (look? bI) (([]:List (Nat×Bool)).map (·.1)) hn.kl hn.pf
theorem YJ:au QW (aB De) []:=trivial
noncomputable abbrev Tb:Nat×Lps:=(1011136,⟨tx,tz,nY⟩)
theorem YK:au QW (aB De) [Tb]:=aT (H:=hn) (n:=60) (live:=[1,8,9,10,1011136]) (b:=lP) (ps:=tx) (os:=tz) (st:=tA) YI ao YJ (by kernel_rfl) (by kernel_rfl) (fun x=>by kernel_rfl)
noncomputable def FA:Ctr:=⟨.cons (ae) (.nil),.cons (ae) (.cons (.i .i64) (.nil)),[(true,5)],[(true,5),(false,1)],[],xJ⟩
theorem JR:aH Tryz.prog 127 FA:=aJ (H:=hn) (n:=60) aK acI YI ao YK rfl rfl (fun x=>by kernel_rfl)
noncomputable def Df:List (Nat×CF):=[(177,Vo),(215,Vf),(165,xG),(174,uN)]
theorem acJ:bi Tryz.prog Df:=⟨⟨_,_,Tryz.func177,aeL⟩,⟨_,_,Tryz.func215,aeC⟩,⟨_,_,Tryz.func165,AF⟩,⟨_,_,Tryz.func174,xH⟩,trivial⟩
noncomputable def QX:List (Nat×Ctr):=[(216,Yh),(89,zI),(62,oA),(182,vB),(211,vA)]
theorem YL:aS Tryz.prog QX:=⟨af7,Ch,pe,xR,xQ,trivial⟩
noncomputable abbrev QY:Cfg:=bc Tryz.prog (look? Df) (look? QX) (look? bI) (([]:List (Nat×Bool)).map (·.1)) hn.kl hn.pf
theorem YM:au QY (aB Df) []:=trivial
noncomputable abbrev Tc:Nat×Lps:=(1011136,⟨tB,tC,vg⟩)
theorem YN:au QY (aB Df) [Tc]:=aT (H:=hn) (n:=60) (live:=[1,8,9,10,1011136]) (b:=lP) (ps:=tB) (os:=tC) (st:=tD) YL ao YM (by kernel_rfl) (by kernel_rfl) (fun x=>by kernel_rfl)
noncomputable def FB:Ctr:=⟨.cons (ae) (ay),.cons (ae) (.cons (.i .i64) (.nil)),[(true,5),(false,1),(false,1),(false,1)],[(true,5),(false,1)],[],nZ⟩
theorem JS:aH Tryz.prog 177 FB:=aJ (H:=hn) (n:=60) aK acJ YL ao YN rfl rfl (fun x=>by kernel_rfl)
noncomputable def Dg:List (Nat×CF):=[(178,Vp),(217,Vg),(165,xG),(174,uN)]
theorem acK:bi Tryz.prog Dg:=⟨⟨_,_,Tryz.func178,aeM⟩,⟨_,_,Tryz.func217,aeD⟩,⟨_,_,Tryz.func165,AF⟩,⟨_,_,Tryz.func174,xH⟩,trivial⟩
noncomputable def QZ:List (Nat×Ctr):=[(218,Yj),(89,zI),(62,oA),(182,vB),(211,vA)]
theorem YO:aS Tryz.prog QZ:=⟨af9,Ch,pe,xR,xQ,trivial⟩
noncomputable abbrev Ra:Cfg:=bc Tryz.prog (look? Dg) (look? QZ) (look? bI) (([]:List (Nat×Bool)).map (·.1)) hn.kl hn.pf
theorem YP:au Ra (aB Dg) []:=trivial
noncomputable abbrev Td:Nat×Lps:=(1011136,⟨tE,tF,vh⟩)
theorem YQ:au Ra (aB Dg) [Td]:=aT (H:=hn) (n:=60) (live:=[1,8,9,10,1011136]) (b:=lP) (ps:=tE) (os:=tF) (st:=tG) YO ao YP (by kernel_rfl) (by kernel_rfl) (fun x=>by kernel_rfl)
noncomputable def FC:Ctr:=⟨.cons (ae) (.cons (.i .i64) (.cons (.i .i64) (.nil))),.cons (ae) (.cons (.i .i64) (.nil)),[(true,5),(false,1),(false,1)],[(true,5),(false,1)],[],oc⟩
theorem JT:aH Tryz.prog 178 FC:=aJ (H:=hn) (n:=60) aK acK YO ao YQ rfl rfl (fun x=>by kernel_rfl)
noncomputable def Bm:List (Nat×CF):=[(51,qk),(91,c91),(90,c90),(132,Uu),(92,c92)]
theorem agf:bi Tryz.prog Bm:=⟨⟨_,_,Tryz.func51,t51⟩,⟨_,_,Tryz.func91,t91⟩,⟨_,_,Tryz.func90,t90⟩,⟨_,_,Tryz.func132,ad2⟩,⟨_,_,Tryz.func92,t92⟩,trivial⟩
noncomputable def YR:List (Nat×Ctr):=[(89,zI)]
theorem Rb:aS Tryz.prog YR:=⟨Ch,trivial⟩
noncomputable abbrev JU:Cfg:=bc Tryz.prog (look? Bm) (look? YR) (look? bI) (([]:List (Nat×Bool)).map (·.1)) hn.kl hn.pf
theorem acL:au JU (aB Bm) []:=trivial
noncomputable abbrev FD:Nat×Lps:=(1003265,⟨vi,vj,gb⟩)
theorem acM:au JU (aB Bm) [FD]:=aT (H:=hn) (n:=60) (live:=[0,3,4,14,15,16,47,48,49,1003265]) (b:=Pj) (ps:=vi) (os:=vj) (st:=gD) Rb ao acL (by kernel_rfl) (by kernel_rfl) (fun x=>by kernel_rfl)
noncomputable abbrev Mg:Nat×Lps:=(1008448,⟨vk,vl,lv⟩)
theorem acN:au JU (aB Bm) [Mg,FD]:=aT (H:=hn) (n:=60) (live:=[0,1,7,8,1008448]) (b:=Lt) (ps:=vk) (os:=vl) (st:=gE) Rb ao acM (by kernel_rfl) (by kernel_rfl) (fun x=>by kernel_rfl)
noncomputable abbrev YS:Nat×Lps:=(1003264,⟨vm,vn,pF⟩)
theorem acO:au JU (aB Bm) [YS,Mg,FD]:=aT (H:=hn) (n:=60) (live:=[0,3,4,14,15,16,1003264]) (b:=Pk) (ps:=vm) (os:=vn) (st:=gF) Rb ao acN (by kernel_rfl) (by kernel_rfl) (fun x=>by kernel_rfl)
noncomputable def Hi:Ctr:=⟨.cons (.row (ae)) (.nil),.cons (.i .i64) (.nil),[(false,1)],[(false,1)],[],Cg⟩
theorem Mh:aH Tryz.prog 51 Hi:=aJ (H:=hn) (n:=60) aK agf Rb ao acO rfl rfl (fun x=>by kernel_rfl)
noncomputable def Dh:List (Nat×CF):=[(115,Vq)]
theorem acP:bi Tryz.prog Dh:=⟨⟨_,_,Tryz.func115,aeN⟩,trivial⟩
noncomputable def Rc:List (Nat×Ctr):=[(51,Hi)]
theorem Bn:aS Tryz.prog Rc:=⟨Mh,trivial⟩
noncomputable abbrev Rd:Cfg:=bc Tryz.prog (look? Dh) (look? Rc) (look? bI) (([]:List (Nat×Bool)).map (·.1)) hn.kl hn.pf
theorem YT:au Rd (aB Dh) []:=trivial
noncomputable abbrev Te:Nat×Lps:=(1007360,⟨tH,tI,od⟩)
theorem YU:au Rd (aB Dh) [Te]:=aT (H:=hn) (n:=60) (live:=[1,15,16,17,1007360]) (b:=LK) (ps:=tH) (os:=tI) (st:=fT) Bn ao YT (by kernel_rfl) (by kernel_rfl) (fun x=>by kernel_rfl)
noncomputable def FE:Ctr:=⟨.cons (.row (ae)) (.cons (.s) (.nil)),.cons (.i .i64) (.cons (.b) (.cons (.i .i64) (.nil))),[(false,1),(false,1)],[(false,1),(false,1),(false,1)],[],oe⟩
theorem JV:aH Tryz.prog 115 FE:=aJ (H:=hn) (n:=60) aK acP Bn ao YU rfl rfl (fun x=>by kernel_rfl)
noncomputable def zK:List (Nat×CF):=[(119,Vr)]
theorem acQ:bi Tryz.prog zK:=⟨⟨_,_,Tryz.func119,aeO⟩,trivial⟩
noncomputable def Re:List (Nat×Ctr):=[(51,Hi)]
theorem xS:aS Tryz.prog Re:=⟨Mh,trivial⟩
noncomputable abbrev JW:Cfg:=bc Tryz.prog (look? zK) (look? Re) (look? bI) (([]:List (Nat×Bool)).map (·.1)) hn.kl hn.pf
theorem YV:au JW (aB zK) []:=trivial
noncomputable abbrev Hj:Nat×Lps:=(1007617,⟨tJ,tK,oh⟩)
theorem YW:au JW (aB zK) [Hj]:=aT (H:=hn) (n:=60) (live:=[2,6,7,8,10,19,20,21,26,27,28,1007617]) (b:=LL) (ps:=tJ) (os:=tK) (st:=fU) xS ao YV (by kernel_rfl) (by kernel_rfl) (fun x=>by kernel_rfl)
noncomputable abbrev Tf:Nat×Lps:=(1007616,⟨tL,tM,ol⟩)
theorem YX:au JW (aB zK) [Tf,Hj]:=aT (H:=hn) (n:=60) (live:=[2,6,7,8,19,20,21,1007616]) (b:=LM) (ps:=tL) (os:=tM) (st:=fV) xS ao YW (by kernel_rfl) (by kernel_rfl) (fun x=>by kernel_rfl)
noncomputable def FF:Ctr:=⟨.cons (.row (ae)) (.nil),.cons (ay) (.cons (.b) (.cons (.i .i64) (.nil))),[(false,1)],[(true,3),(false,1),(false,1)],[],om⟩
theorem JX:aH Tryz.prog 119 FF:=aJ (H:=hn) (n:=60) aK acQ xS ao YX rfl rfl (fun x=>by kernel_rfl)
noncomputable def Di:List (Nat×CF):=[(164,Vs),(203,Uz),(204,UN)]
theorem acR:bi Tryz.prog Di:=⟨⟨_,_,Tryz.func164,aeP⟩,⟨_,_,Tryz.func203,ad7⟩,⟨_,_,Tryz.func204,aek⟩,trivial⟩
noncomputable def Rf:List (Nat×Ctr):=[(51,Hi),(205,K205)]
theorem JY:aS Tryz.prog Rf:=⟨Mh,k205,trivial⟩
noncomputable abbrev Rg:Cfg:=bc Tryz.prog (look? Di) (look? Rf) (look? bI) (([]:List (Nat×Bool)).map (·.1)) hn.kl hn.pf
theorem YY:au Rg (aB Di) []:=trivial
noncomputable abbrev Tg:Nat×Lps:=(1012992,⟨tN,tO,oq⟩)
theorem YZ:au Rg (aB Di) [Tg]:=aT (H:=hn) (n:=60) (live:=[0,1,2,8,9,10,1012992]) (b:=Lv) (ps:=tN) (os:=tO) (st:=fW) JY ao YY (by kernel_rfl) (by kernel_rfl) (fun x=>by kernel_rfl)
noncomputable def FH:Ctr:=⟨.cons (.row (ae)) (.cons (.i .i64) (.nil)),.cons (.i .i64) (.cons (.b) (.cons (.i .i64) (.nil))),[(false,1),(false,1)],[(false,1),(false,1),(false,1)],[],cF⟩
theorem JZ:aH Tryz.prog 164 FH:=aJ (H:=hn) (n:=60) aK acR JY ao YZ rfl rfl (fun x=>by kernel_rfl)
noncomputable def Dj:List (Nat×CF):=[(121,Vt),(166,Vb),(165,xG),(174,uN)]
theorem acS:bi Tryz.prog Dj:=⟨⟨_,_,Tryz.func121,aeQ⟩,⟨_,_,Tryz.func166,aey⟩,⟨_,_,Tryz.func165,AF⟩,⟨_,_,Tryz.func174,xH⟩,trivial⟩
noncomputable def Rh:List (Nat×Ctr):=[(167,Ya),(89,zI),(62,oA),(182,vB),(211,vA)]
theorem Ka:aS Tryz.prog Rh:=⟨af0,Ch,pe,xR,xQ,trivial⟩
noncomputable abbrev Ri:Cfg:=bc Tryz.prog (look? Dj) (look? Rh) (look? bI) (([]:List (Nat×Bool)).map (·.1)) hn.kl hn.pf
theorem Za:au Ri (aB Dj) []:=trivial
noncomputable abbrev Th:Nat×Lps:=(1011136,⟨tP,tQ,cQ⟩)
theorem Zb:au Ri (aB Dj) [Th]:=aT (H:=hn) (n:=60) (live:=[1,8,9,10,1011136]) (b:=lP) (ps:=tP) (os:=tQ) (st:=fX) Ka ao Za (by kernel_rfl) (by kernel_rfl) (fun x=>by kernel_rfl)
noncomputable def FI:Ctr:=⟨.cons (ae) (ay),.cons (ae) (.cons (.i .i64) (.nil)),[(true,5),(false,1),(false,1),(false,1)],[(true,5),(false,1)],[],xK⟩
theorem Kb:aH Tryz.prog 121 FI:=aJ (H:=hn) (n:=60) aK acS Ka ao Zb rfl rfl (fun x=>by kernel_rfl)
noncomputable def Kc:List (Nat×CF):=[(128,Vu)]
theorem acT:bi Tryz.prog Kc:=⟨⟨_,_,Tryz.func128,aeR⟩,trivial⟩
noncomputable def Rj:List (Nat×Ctr):=[(51,Hi),(175,XT)]
theorem agh:aS Tryz.prog Rj:=⟨Mh,afX,trivial⟩
noncomputable abbrev acU:Cfg:=bc Tryz.prog (look? Kc) (look? Rj) (look? bI) (([(0,true)]:List (Nat×Bool)).map (·.1)) hn.kl hn.pf
theorem Zc:au acU (aB Kc) []:=trivial
noncomputable def FJ:Ctr:=⟨.cons (.row (ae)) (.cons (.i .i64) (.nil)),.cons (.row (ay)) (.cons (.i .i64) (.nil)),[(false,1),(false,1)],[(false,1),(false,1)],[(0,true)],xL⟩
theorem Kd:aH Tryz.prog 128 FJ:=aJ (H:=hn) (n:=60) aK acT agh ao Zc rfl rfl (fun x=>by kernel_rfl)
noncomputable def Bo:List (Nat×CF):=[(19,ql),(52,c52),(53,Pf),(93,Pb)]
theorem agi:bi Tryz.prog Bo:=⟨⟨_,_,Tryz.func19,t19⟩,⟨_,_,Tryz.func52,t52⟩,⟨_,_,Tryz.func53,Vz⟩,⟨_,_,Tryz.func93,Vw⟩,trivial⟩
noncomputable def Zd:List (Nat×Ctr):=[(50,K50),(51,Hi),(54,K54)]
theorem wZ:aS Tryz.prog Zd:=⟨k50,Mh,k54,trivial⟩
noncomputable abbrev Ke:Cfg:=bc Tryz.prog (look? Bo) (look? Zd) (look? bI) (([]:List (Nat×Bool)).map (·.1)) hn.kl hn.pf
theorem acV:au Ke (aB Bo) []:=trivial
noncomputable abbrev FK:Nat×Lps:=(1001217,⟨vo,vp,pG⟩)
theorem acW:au Ke (aB Bo) [FK]:=aT (H:=hn) (n:=60) (live:=[1,99,100,101,1001217]) (b:=Pm) (ps:=vo) (os:=vp) (st:=gG) wZ ao acV (by kernel_rfl) (by kernel_rfl) (fun x=>by kernel_rfl)
noncomputable abbrev Mi:Nat×Lps:=(1005952,⟨vq,vt,pH⟩)
theorem acX:au Ke (aB Bo) [Mi,FK]:=aT (H:=hn) (n:=60) (live:=[0,1,7,8,1005952]) (b:=CP) (ps:=vq) (os:=vt) (st:=gH) wZ ao acW (by kernel_rfl) (by kernel_rfl) (fun x=>by kernel_rfl)
noncomputable abbrev Ze:Nat×Lps:=(1001216,⟨vu,vv,pI⟩)
theorem acY:au Ke (aB Bo) [Ze,Mi,FK]:=aT (H:=hn) (n:=60) (live:=[1,79,80,81,1001216]) (b:=Pl) (ps:=vu) (os:=vv) (st:=gI) wZ ao acX (by kernel_rfl) (by kernel_rfl) (fun x=>by kernel_rfl)
noncomputable def Hk:Ctr:=⟨kI,.cons (.i .i64) (.nil),[(true,8)],[(false,1)],[],mB⟩
theorem Mj:aH Tryz.prog 19 Hk:=aJ (H:=hn) (n:=60) aK agi wZ ao acY rfl rfl (fun x=>by kernel_rfl)
noncomputable def Dk:List (Nat×CF):=[(15,LX),(46,Lu),(47,LW),(79,LN),(117,ER),(80,LU),(120,EW),(122,ES),(81,LO),(82,LP),(125,ET),(83,LQ),(84,LR),(85,LV),(129,EY),(86,LS),(87,LG),(88,Lx)]
theorem acZ:bi Tryz.prog Dk:=⟨⟨_,_,Tryz.func15,Pz⟩,⟨_,_,Tryz.func46,Pn⟩,⟨_,_,Tryz.func47,Py⟩,⟨_,_,Tryz.func79,Pq⟩,⟨_,_,Tryz.func117,IB⟩,⟨_,_,Tryz.func80,Pw⟩,⟨_,_,Tryz.func120,IE⟩,⟨_,_,Tryz.func122,IC⟩,⟨_,_,Tryz.func81,Pr⟩,⟨_,_,Tryz.func82,Ps⟩,⟨_,_,Tryz.func125,ID⟩,⟨_,_,Tryz.func83,Pt⟩,⟨_,_,Tryz.func84,Pu⟩,⟨_,_,Tryz.func85,Px⟩,⟨_,_,Tryz.func129,IF⟩,⟨_,_,Tryz.func86,Pv⟩,⟨_,_,Tryz.func87,Pp⟩,⟨_,_,Tryz.func88,Po⟩,trivial⟩
noncomputable def Rk:List (Nat×Ctr):=[(19,Hk),(25,Mf),(48,Me),(114,xP),(115,FE),(116,Fw),(118,Fs),(119,FF),(121,FI),(164,FH),(123,Fx),(124,Fy),(126,Fz),(127,FA),(128,FJ),(176,vz),(177,FB),(178,FC),(62,oA),(61,Ft)]
theorem Zf:aS Tryz.prog Rk:=⟨Mj,Qq,Qg,Bj,JV,JM,Jj,JX,Kb,JZ,JO,JP,JQ,JR,Kd,xO,JS,JT,pe,He,trivial⟩
noncomputable abbrev Rl:Cfg:=bc Tryz.prog (look? Dk) (look? Rk) (look? bI) (([]:List (Nat×Bool)).map (·.1)) hn.kl hn.pf
theorem Zg:au Rl (aB Dk) []:=trivial
noncomputable abbrev Ti:Nat×Lps:=(1005440,⟨tR,tS,dZ⟩)
theorem Zh:au Rl (aB Dk) [Ti]:=aT (H:={hn with pr:=[(25,6,false),(25,7,false)]}) (n:=60) (live:=[0,4,7,45,46,47,1005440]) (b:=yH) (ps:=tR) (os:=tS) (st:=dn) Zf ao Zg (by kernel_rfl) (by kernel_rfl) (fun x=>match x with| .inl x=>(by kernel_rfl)| .inr (.inl x)=>(by kernel_rfl)| .inr (.inr (x))=>(by kernel_rfl))
noncomputable def agj:Ctr:=⟨.cons (da) (.cons (af) (.nil)),.cons (da) (.cons (jg) (.nil)),[(true,8),(true,8)],[(true,8),(true,10)],[],pJ⟩
theorem agk:aH Tryz.prog 15 agj:=aJ (H:={hn with pr:=[(25,6,false),(25,7,false)]}) (n:=60) aK acZ Zf ao Zh rfl rfl (fun x=>by kernel_rfl)
noncomputable def Dl:List (Nat×CF):=[(15,LX),(46,Lu),(47,LW),(79,LN),(117,ER),(80,LU),(120,EW),(122,ES),(81,LO),(82,LP),(125,ET),(83,LQ),(84,LR),(85,LV),(129,EY),(86,LS),(87,LG),(88,Lx)]
theorem ac0:bi Tryz.prog Dl:=⟨⟨_,_,Tryz.func15,Pz⟩,⟨_,_,Tryz.func46,Pn⟩,⟨_,_,Tryz.func47,Py⟩,⟨_,_,Tryz.func79,Pq⟩,⟨_,_,Tryz.func117,IB⟩,⟨_,_,Tryz.func80,Pw⟩,⟨_,_,Tryz.func120,IE⟩,⟨_,_,Tryz.func122,IC⟩,⟨_,_,Tryz.func81,Pr⟩,⟨_,_,Tryz.func82,Ps⟩,⟨_,_,Tryz.func125,ID⟩,⟨_,_,Tryz.func83,Pt⟩,⟨_,_,Tryz.func84,Pu⟩,⟨_,_,Tryz.func85,Px⟩,⟨_,_,Tryz.func129,IF⟩,⟨_,_,Tryz.func86,Pv⟩,⟨_,_,Tryz.func87,Pp⟩,⟨_,_,Tryz.func88,Po⟩,trivial⟩
noncomputable def Rm:List (Nat×Ctr):=[(19,Hk),(25,Mf),(48,Me),(114,xP),(115,FE),(116,Fw),(118,Fs),(119,FF),(121,FI),(164,FH),(123,Fx),(124,Fy),(126,Fz),(127,FA),(128,FJ),(176,vz),(177,FB),(178,FC),(62,oA),(61,Ft)]
theorem Zi:aS Tryz.prog Rm:=⟨Mj,Qq,Qg,Bj,JV,JM,Jj,JX,Kb,JZ,JO,JP,JQ,JR,Kd,xO,JS,JT,pe,He,trivial⟩
noncomputable abbrev Rn:Cfg:=bc Tryz.prog (look? Dl) (look? Rm) (look? bI) (([]:List (Nat×Bool)).map (·.1)) hn.kl hn.pf
theorem Zj:au Rn (aB Dl) []:=trivial
noncomputable abbrev Tj:Nat×Lps:=(1005440,⟨tT,tU,ec⟩)
theorem Zk:au Rn (aB Dl) [Tj]:=aT (H:={hn with pr:=[(25,6,false),(25,7,true)]}) (n:=60) (live:=[0,4,7,45,46,47,1005440]) (b:=yH) (ps:=tT) (os:=tU) (st:=dq) Zi ao Zj (by kernel_rfl) (by kernel_rfl) (fun x=>match x with| .inl x=>(by kernel_rfl)| .inr (.inl x)=>(by kernel_rfl)| .inr (.inr (x))=>(by kernel_rfl))
noncomputable def agl:Ctr:=⟨.cons (da) (.cons (af) (.nil)),.cons (da) (.cons (jg) (.nil)),[(true,8),(true,8)],[(true,8),(true,10)],[],Ba⟩
theorem agm:aH Tryz.prog 15 agl:=aJ (H:={hn with pr:=[(25,6,false),(25,7,true)]}) (n:=60) aK ac0 Zi ao Zk rfl rfl (fun x=>by kernel_rfl)
noncomputable def Dm:List (Nat×CF):=[(15,LX),(46,Lu),(47,LW),(79,LN),(117,ER),(80,LU),(120,EW),(122,ES),(81,LO),(82,LP),(125,ET),(83,LQ),(84,LR),(85,LV),(129,EY),(86,LS),(87,LG),(88,Lx)]
theorem ac1:bi Tryz.prog Dm:=⟨⟨_,_,Tryz.func15,Pz⟩,⟨_,_,Tryz.func46,Pn⟩,⟨_,_,Tryz.func47,Py⟩,⟨_,_,Tryz.func79,Pq⟩,⟨_,_,Tryz.func117,IB⟩,⟨_,_,Tryz.func80,Pw⟩,⟨_,_,Tryz.func120,IE⟩,⟨_,_,Tryz.func122,IC⟩,⟨_,_,Tryz.func81,Pr⟩,⟨_,_,Tryz.func82,Ps⟩,⟨_,_,Tryz.func125,ID⟩,⟨_,_,Tryz.func83,Pt⟩,⟨_,_,Tryz.func84,Pu⟩,⟨_,_,Tryz.func85,Px⟩,⟨_,_,Tryz.func129,IF⟩,⟨_,_,Tryz.func86,Pv⟩,⟨_,_,Tryz.func87,Pp⟩,⟨_,_,Tryz.func88,Po⟩,trivial⟩
noncomputable def Ro:List (Nat×Ctr):=[(19,Hk),(25,Mf),(48,Me),(114,xP),(115,FE),(116,Fw),(118,Fs),(119,FF),(121,FI),(164,FH),(123,Fx),(124,Fy),(126,Fz),(127,FA),(128,FJ),(176,vz),(177,FB),(178,FC),(62,oA),(61,Ft)]
theorem Zl:aS Tryz.prog Ro:=⟨Mj,Qq,Qg,Bj,JV,JM,Jj,JX,Kb,JZ,JO,JP,JQ,JR,Kd,xO,JS,JT,pe,He,trivial⟩
noncomputable abbrev Rq:Cfg:=bc Tryz.prog (look? Dm) (look? Ro) (look? bI) (([]:List (Nat×Bool)).map (·.1)) hn.kl hn.pf
theorem Zm:au Rq (aB Dm) []:=trivial
noncomputable abbrev Tk:Nat×Lps:=(1005440,⟨tV,tW,gJ⟩)
theorem Zn:au Rq (aB Dm) [Tk]:=aT (H:={hn with pr:=[(25,6,true),(25,7,false)]}) (n:=60) (live:=[0,4,7,45,46,47,1005440]) (b:=yH) (ps:=tV) (os:=tW) (st:=tX) Zl ao Zm (by kernel_rfl) (by kernel_rfl) (fun x=>match x with| .inl x=>(by kernel_rfl)| .inr (x)=>(by kernel_rfl))
noncomputable def ago:Ctr:=⟨.cons (da) (.cons (af) (.nil)),.cons (da) (.cons (jg) (.nil)),[(true,8),(true,8)],[(true,8),(true,10)],[],Bd⟩
theorem agp:aH Tryz.prog 15 ago:=aJ (H:={hn with pr:=[(25,6,true),(25,7,false)]}) (n:=60) aK ac1 Zl ao Zn rfl rfl (fun x=>by kernel_rfl)
noncomputable def Dn:List (Nat×CF):=[(15,LX),(46,Lu),(47,LW),(79,LN),(117,ER),(80,LU),(120,EW),(122,ES),(81,LO),(82,LP),(125,ET),(83,LQ),(84,LR),(85,LV),(129,EY),(86,LS),(87,LG),(88,Lx)]
theorem ac2:bi Tryz.prog Dn:=⟨⟨_,_,Tryz.func15,Pz⟩,⟨_,_,Tryz.func46,Pn⟩,⟨_,_,Tryz.func47,Py⟩,⟨_,_,Tryz.func79,Pq⟩,⟨_,_,Tryz.func117,IB⟩,⟨_,_,Tryz.func80,Pw⟩,⟨_,_,Tryz.func120,IE⟩,⟨_,_,Tryz.func122,IC⟩,⟨_,_,Tryz.func81,Pr⟩,⟨_,_,Tryz.func82,Ps⟩,⟨_,_,Tryz.func125,ID⟩,⟨_,_,Tryz.func83,Pt⟩,⟨_,_,Tryz.func84,Pu⟩,⟨_,_,Tryz.func85,Px⟩,⟨_,_,Tryz.func129,IF⟩,⟨_,_,Tryz.func86,Pv⟩,⟨_,_,Tryz.func87,Pp⟩,⟨_,_,Tryz.func88,Po⟩,trivial⟩
noncomputable def Rr:List (Nat×Ctr):=[(19,Hk),(25,Mf),(48,Me),(114,xP),(115,FE),(116,Fw),(118,Fs),(119,FF),(121,FI),(164,FH),(123,Fx),(124,Fy),(126,Fz),(127,FA),(128,FJ),(176,vz),(177,FB),(178,FC),(62,oA),(61,Ft)]
theorem Zo:aS Tryz.prog Rr:=⟨Mj,Qq,Qg,Bj,JV,JM,Jj,JX,Kb,JZ,JO,JP,JQ,JR,Kd,xO,JS,JT,pe,He,trivial⟩
noncomputable abbrev Rs:Cfg:=bc Tryz.prog (look? Dn) (look? Rr) (look? bI) (([]:List (Nat×Bool)).map (·.1)) hn.kl hn.pf
theorem Zp:au Rs (aB Dn) []:=trivial
noncomputable abbrev Tl:Nat×Lps:=(1005440,⟨tY,tZ,gK⟩)
theorem Zq:au Rs (aB Dn) [Tl]:=aT (H:={hn with pr:=[(25,6,true),(25,7,true)]}) (n:=60) (live:=[0,4,7,45,46,47,1005440]) (b:=yH) (ps:=tY) (os:=tZ) (st:=ua) Zo ao Zp (by kernel_rfl) (by kernel_rfl) (fun x=>match x with| .inl x=>(by kernel_rfl)| .inr (x)=>(by kernel_rfl))
noncomputable def agq:Ctr:=⟨.cons (da) (.cons (af) (.nil)),.cons (da) (.cons (jg) (.nil)),[(true,8),(true,8)],[(true,8),(true,10)],[],vx⟩
theorem agr:aH Tryz.prog 15 agq:=aJ (H:={hn with pr:=[(25,6,true),(25,7,true)]}) (n:=60) aK ac2 Zo ao Zq rfl rfl (fun x=>by kernel_rfl)
noncomputable def Rt:Ctr:=⟨.cons (da) (.cons (af) (.nil)),.cons (da) (.cons (jg) (.nil)),[(true,8),(true,8)],[(true,8),(true,10)],[],jB⟩
theorem Zr:aH Tryz.prog 15 Rt:=by
 have h:= @wm Tryz.prog 15 (.cons (da) (.cons (af) (.nil))) (.cons (da) (.cons (jg) (.nil))) _ _ _ _ _ (fun x=>isEmpty x.1.2.2.2.2.2.2.1) (@wm Tryz.prog 15 (.cons (da) (.cons (af) (.nil))) (.cons (da) (.cons (jg) (.nil))) _ _ _ _ _ (fun x=>isEmpty x.1.2.2.2.2.2.2.2.1) agr agp) (@wm Tryz.prog 15 (.cons (da) (.cons (af) (.nil))) (.cons (da) (.cons (jg) (.nil))) _ _ _ _ _ (fun x=>isEmpty x.1.2.2.2.2.2.2.2.1) agm agk)
 exact h
noncomputable def Oj:List (Nat×CF):=[(44,c44)]
theorem ags:bi Tryz.prog Oj:=⟨⟨_,_,Tryz.func44,t44⟩,trivial⟩
noncomputable def Zs:List (Nat×Ctr):=[(14,Wt),(78,K78),(15,Rt)]
theorem Zt:aS Tryz.prog Zs:=⟨k14,k78,Zr,trivial⟩
noncomputable abbrev agt:Cfg:=bc Tryz.prog (look? Oj) (look? Zs) (look? bI) (([]:List (Nat×Bool)).map (·.1)) hn.kl hn.pf
theorem ac3:au agt (aB Oj) []:=trivial
noncomputable def K44:Ctr:=⟨.nil,.cons (da) (.cons (.b) (.nil)),[],[(true,8),(false,1)],[],PO⟩
theorem k44:aH Tryz.prog 44 K44:=aJ (H:=hn) (n:=60) aK ags Zt ao ac3 rfl rfl (fun x=>by kernel_rfl)
noncomputable def Ok:List (Nat×CF):=[(12,c12)]
theorem agu:bi Tryz.prog Ok:=⟨⟨_,_,Tryz.func12,pc⟩,trivial⟩
noncomputable def Zu:List (Nat×Ctr):=[(44,K44),(15,Rt)]
theorem fZ:aS Tryz.prog Zu:=⟨k44,Zr,trivial⟩
noncomputable abbrev agv:Cfg:=bc Tryz.prog (look? Ok) (look? Zu) (look? bI) (([]:List (Nat×Bool)).map (·.1)) hn.kl hn.pf
theorem ac4:au agv (aB Ok) []:=trivial
noncomputable def K12:Ctr:=⟨.nil,.cons (.b) (.nil),[],[(false,1)],[],PP⟩
theorem k12:aH Tryz.prog 12 K12:=aJ (H:=hn) (n:=60) aK agu fZ ao ac4 rfl rfl (fun x=>by kernel_rfl)
noncomputable def vC:List (Nat×CF):=[(3,c3),(16,qL),(17,qi)]
theorem td3:bi Tryz.prog vC:=⟨⟨_,_,Tryz.func3,t3⟩,⟨_,_,Tryz.func16,t16⟩,⟨_,_,Tryz.func17,t17⟩,trivial⟩
noncomputable def ct3:List (Nat×Ctr):=[(12,K12),(13,K13),(14,Wt),(15,Rt),(18,K18),(19,Hk),(49,K49)]
theorem h3:aS Tryz.prog ct3:=⟨k12,k13,k14,Zr,k18,Mj,k49,trivial⟩
noncomputable abbrev zL:Cfg:=bc Tryz.prog (look? vC) (look? ct3) (look? bI) (([]:List (Nat×Bool)).map (·.1)) hn.kl hn.pf
theorem agw:au zL (aB vC) []:=trivial
noncomputable abbrev pg:Nat×Lps:=(1001001089,⟨qo,qp,mh⟩)
theorem agx:au zL (aB vC) [pg]:=aT (H:=hn) (n:=60) (live:=[1,5,9,12,1001089]) (b:=IA) (ps:=qo) (os:=qp) (st:=ff) h3 ao agw (by kernel_rfl) (by kernel_rfl) (fun x=>by kernel_rfl)
noncomputable abbrev rN:Nat×Lps:=(1001001088,⟨qq,qr,mj⟩)
theorem agy:au zL (aB vC) [rN,pg]:=aT (H:=hn) (n:=60) (live:=[1,5,9,10,1001088]) (b:=Iz) (ps:=qq) (os:=qr) (st:=fg) h3 ao agx (by kernel_rfl) (by kernel_rfl) (fun x=>by kernel_rfl)
noncomputable abbrev ww:Nat×Lps:=(2001001024,⟨qs,qt,mo⟩)
theorem agz:au zL (aB vC) [ww,rN,pg]:=aT (H:=hn) (n:=60) (live:=[0,4,5,8,1001024]) (b:=CQ) (ps:=qs) (os:=qt) (st:=qw) h3 ao agy (by kernel_rfl) (by kernel_rfl) (fun x=>by kernel_rfl)
noncomputable abbrev zM:Nat×Lps:=(1001089,⟨wP,wQ,mN⟩)
theorem agA:au zL (aB vC) [zM,ww,rN,pg]:=aT (H:=hn) (n:=60) (live:=[1,5,9,12,1001089]) (b:=IA) (ps:=wP) (os:=wQ) (st:=wR) h3 ao agz (by kernel_rfl) (by kernel_rfl) (fun x=>by kernel_rfl)
noncomputable abbrev Do:Nat×Lps:=(1001088,⟨wS,wT,mO⟩)
theorem agB:au zL (aB vC) [Do,zM,ww,rN,pg]:=aT (H:=hn) (n:=60) (live:=[1,5,9,10,1001088]) (b:=Iz) (ps:=wS) (os:=wT) (st:=wU) h3 ao agA (by kernel_rfl) (by kernel_rfl) (fun x=>by kernel_rfl)
noncomputable abbrev Kf:Nat×Lps:=(1001001024,⟨qx,qy,fY⟩)
theorem agC:au zL (aB vC) [Kf,Do,zM,ww,rN,pg]:=aT (H:=hn) (n:=60) (live:=[0,4,5,8,1001024]) (b:=CQ) (ps:=qx) (os:=qy) (st:=dz) h3 ao agB (by kernel_rfl) (by kernel_rfl) (fun x=>by kernel_rfl)
noncomputable abbrev Ru:Nat×Lps:=(1001024,⟨wV,wW,mP⟩)
theorem agD:au zL (aB vC) [Ru,Kf,Do,zM,ww,rN,pg]:=aT (H:=hn) (n:=60) (live:=[0,4,5,8,1001024]) (b:=CQ) (ps:=wV) (os:=wW) (st:=pK) h3 ao agC (by kernel_rfl) (by kernel_rfl) (fun x=>by kernel_rfl)
noncomputable abbrev ac5:Nat×Lps:=(1000192,⟨wX,wY,jE⟩)
theorem agE:au zL (aB vC) [ac5,Ru,Kf,Do,zM,ww,rN,pg]:=aT (H:=hn) (n:=60) (live:=[0,4,5,6,7,1000192]) (b:=Vv) (ps:=wX) (os:=wY) (st:=bJ) h3 ao agD (by kernel_rfl) (by kernel_rfl) (fun x=>match x with| .inl x=>(by kernel_rfl)| .inr (.inl x)=>(by kernel_rfl)| .inr (.inr (x))=>(by kernel_rfl))
noncomputable def K3:Ctr:=⟨.cons (.row (af)) (.nil),.cons (.b) (.nil),[(false,1)],[(false,1)],[],F3⟩
theorem k3:aH Tryz.prog 3 K3:=aJ (H:=hn) (n:=60) aK td3 h3 ao agE rfl rfl (fun x=>by kernel_rfl)
end Go.Proofs.YtbkjflfbgknagaaGreat.modelLeases.Code
