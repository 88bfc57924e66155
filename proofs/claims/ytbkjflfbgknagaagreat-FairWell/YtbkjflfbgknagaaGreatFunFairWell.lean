import Derived.Test.YtbkjflfbgknagaaGreatTieFairWell
import Derived.Test.YtbkjflfbgknagaaGreatDefFairWell1
import Derived.KernelRfl
import Derived.Test.YtbkjflfbgknagaaGreatSrtFairWell
set_option maxRecDepth 100000
set_option linter.unusedVariables false
set_option linter.constructorNameAsVariable false
namespace Go.Proofs.YtbkjflfbgknagaaGreat.fairWell.Code
open Go Go.Am
open List (isEmpty)
noncomputable def Nx:List (Nat×CF):=[(14,c14)]
theorem agS:aW Tryz.prog Nx:=⟨⟨_,_,Tryz.func14,t14⟩,trivial⟩
noncomputable def Wa:List (Nat×Ctr):=[]
theorem LC:aJ Tryz.prog Wa:=trivial
noncomputable abbrev agT:Cfg:=aQ Tryz.prog (look? Nx) (look? Wa) (look? bA) (([]:List (Nat×Bool)).map (·.1)) hn.kl hn.pf
theorem abD:am agT (ax Nx) []:=trivial
noncomputable def K14:Ctr:=⟨.nil,bJ,[],[(true,8)],[],VW⟩
theorem k14:az Tryz.prog 14 K14:=aA (H:=hn) (n:=60) aB agS LC ak abD rfl rfl (fun x=>by kernel_rfl)
noncomputable def Ny:List (Nat×CF):=[(50,c50)]
theorem agU:aW Tryz.prog Ny:=⟨⟨_,_,Tryz.func50,t50⟩,trivial⟩
noncomputable def Wb:List (Nat×Ctr):=[]
theorem h50:aJ Tryz.prog Wb:=trivial
noncomputable abbrev agV:Cfg:=aQ Tryz.prog (look? Ny) (look? Wb) (look? bA) (([]:List (Nat×Bool)).map (·.1)) hn.kl hn.pf
theorem abE:am agV (ax Ny) []:=trivial
noncomputable def K50:Ctr:=⟨.cons (.i .i64) (.cons (.i .i64) (.nil)),.cons (.b) (.nil),[(false,1),(false,1)],[(false,1)],[],ER⟩
theorem k50:az Tryz.prog 50 K50:=aA (H:=hn) (n:=60) aB agU h50 ak abE rfl rfl (fun x=>by kernel_rfl)
noncomputable def CP:List (Nat×CF):=[(161,Uv)]
theorem abF:aW Tryz.prog CP:=⟨⟨_,_,Tryz.func161,afu⟩,trivial⟩
noncomputable def PN:List (Nat×Ctr):=[]
theorem Wc:aJ Tryz.prog PN:=trivial
noncomputable abbrev PO:Cfg:=aQ Tryz.prog (look? CP) (look? PN) (look? bA) (([]:List (Nat×Bool)).map (·.1)) hn.kl hn.pf
theorem Wd:am PO (ax CP) []:=trivial
noncomputable abbrev SQ:Nat×Lps:=(1010304,⟨rN,rO,nN⟩)
theorem We:am PO (ax CP) [SQ]:=aS (H:=hn) (n:=60) (live:=[0,1,7,29,30,31,1010304]) (b:=Uw) (ps:=rN) (os:=rO) (st:=fN) Wc ak Wd (by kernel_rfl) (by kernel_rfl) (fun x=>by kernel_rfl)
noncomputable def Wf:Ctr:=⟨.cons (.i .i64) (.cons (.i .i64) (.cons (af) (.nil))),.cons (.b) (.nil),[(false,1),(false,1),(true,3)],[(false,1)],[],IK⟩
theorem agW:az Tryz.prog 161 Wf:=aA (H:=hn) (n:=60) aB abF Wc ak We rfl rfl (fun x=>by kernel_rfl)
noncomputable def IZ:List (Nat×CF):=[(179,aew)]
theorem abG:aW Tryz.prog IZ:=⟨⟨_,_,Tryz.func179,afv⟩,trivial⟩
noncomputable def PP:List (Nat×Ctr):=[]
theorem agX:aJ Tryz.prog PP:=trivial
noncomputable abbrev abH:Cfg:=aQ Tryz.prog (look? IZ) (look? PP) (look? bA) (([]:List (Nat×Bool)).map (·.1)) hn.kl hn.pf
theorem Wg:am abH (ax IZ) []:=trivial
noncomputable def Wh:Ctr:=⟨.cons (af) (.nil),.cons (.b) (.nil),[(true,3)],[(false,1)],[],IL⟩
theorem agY:az Tryz.prog 179 Wh:=aA (H:=hn) (n:=60) aB abG agX ak Wg rfl rfl (fun x=>by kernel_rfl)
noncomputable def Ja:List (Nat×CF):=[(208,aex)]
theorem abI:aW Tryz.prog Ja:=⟨⟨_,_,Tryz.func208,afw⟩,trivial⟩
noncomputable def PQ:List (Nat×Ctr):=[]
theorem agZ:aJ Tryz.prog PQ:=trivial
noncomputable abbrev abJ:Cfg:=aQ Tryz.prog (look? Ja) (look? PQ) (look? bA) (([]:List (Nat×Bool)).map (·.1)) hn.kl hn.pf
theorem Wi:am abJ (ax Ja) []:=trivial
noncomputable def xG:Ctr:=⟨.cons (.i .i64) (.nil),.cons (.b) (.nil),[(false,1)],[(false,1)],[],rq⟩
theorem AX:az Tryz.prog 208 xG:=aA (H:=hn) (n:=60) aB abI agZ ak Wi rfl rfl (fun x=>by kernel_rfl)
noncomputable def Jb:List (Nat×CF):=[(207,aey)]
theorem abK:aW Tryz.prog Jb:=⟨⟨_,_,Tryz.func207,afx⟩,trivial⟩
noncomputable def PR:List (Nat×Ctr):=[]
theorem ag0:aJ Tryz.prog PR:=trivial
noncomputable abbrev abL:Cfg:=aQ Tryz.prog (look? Jb) (look? PR) (look? bA) (([]:List (Nat×Bool)).map (·.1)) hn.kl hn.pf
theorem Wj:am abL (ax Jb) []:=trivial
noncomputable def AY:Ctr:=⟨.cons (.i .i64) (.nil),.cons (.b) (.nil),[(false,1)],[(false,1)],[],uF⟩
theorem Fe:az Tryz.prog 207 AY:=aA (H:=hn) (n:=60) aB abK ag0 ak Wj rfl rfl (fun x=>by kernel_rfl)
noncomputable def CQ:List (Nat×CF):=[(253,Uz)]
theorem abM:aW Tryz.prog CQ:=⟨⟨_,_,Tryz.func253,afA⟩,trivial⟩
noncomputable def PT:List (Nat×Ctr):=[]
theorem Wk:aJ Tryz.prog PT:=trivial
noncomputable abbrev PU:Cfg:=aQ Tryz.prog (look? CQ) (look? PT) (look? bA) (([]:List (Nat×Bool)).map (·.1)) hn.kl hn.pf
theorem Wl:am PU (ax CQ) []:=trivial
noncomputable abbrev SR:Nat×Lps:=(1016192,⟨rP,rQ,nO⟩)
theorem Wm:am PU (ax CQ) [SR]:=aS (H:=hn) (n:=60) (live:=[0,1,7,8,1016192]) (b:=UA) (ps:=rP) (os:=rQ) (st:=fO) Wk ak Wl (by kernel_rfl) (by kernel_rfl) (fun x=>by kernel_rfl)
noncomputable def Wn:Ctr:=⟨.cons (.row (.i .u8)) (.cons (.i .u8) (.nil)),.cons (.i .i64) (.nil),[(false,1),(false,1)],[(false,1)],[],Nr⟩
theorem ag1:az Tryz.prog 253 Wn:=aA (H:=hn) (n:=60) aB abM Wk ak Wm rfl rfl (fun x=>by kernel_rfl)
noncomputable def Nz:List (Nat×CF):=[(54,c54)]
theorem ag2:aW Tryz.prog Nz:=⟨⟨_,_,Tryz.func54,t54⟩,trivial⟩
noncomputable def Wo:List (Nat×Ctr):=[]
theorem h54:aJ Tryz.prog Wo:=trivial
noncomputable abbrev ag3:Cfg:=aQ Tryz.prog (look? Nz) (look? Wo) (look? bA) (([]:List (Nat×Bool)).map (·.1)) hn.kl hn.pf
theorem abN:am ag3 (ax Nz) []:=trivial
noncomputable def K54:Ctr:=⟨.cons (co) (.cons (aw) (.nil)),.cons (.b) (.nil),[(true,8),(true,4)],[(false,1)],[],PE⟩
theorem k54:az Tryz.prog 54 K54:=aA (H:=hn) (n:=60) aB ag2 h54 ak abN rfl rfl (fun x=>by kernel_rfl)
noncomputable def Jc:List (Nat×CF):=[(162,aeA)]
theorem abO:aW Tryz.prog Jc:=⟨⟨_,_,Tryz.func162,afC⟩,trivial⟩
noncomputable def PW:List (Nat×Ctr):=[]
theorem ag4:aJ Tryz.prog PW:=trivial
noncomputable abbrev abP:Cfg:=aQ Tryz.prog (look? Jc) (look? PW) (look? bA) (([]:List (Nat×Bool)).map (·.1)) hn.kl hn.pf
theorem Wp:am abP (ax Jc) []:=trivial
noncomputable def NA:Ctr:=⟨.cons (.i .i64) (.nil),.cons (.b) (.nil),[(false,1)],[(false,1)],[],ES⟩
theorem Wq:az Tryz.prog 162 NA:=aA (H:=hn) (n:=60) aB abO ag4 ak Wp rfl rfl (fun x=>by kernel_rfl)
noncomputable def Jd:List (Nat×CF):=[(101,aeB)]
theorem abQ:aW Tryz.prog Jd:=⟨⟨_,_,Tryz.func101,afD⟩,trivial⟩
noncomputable def PX:List (Nat×Ctr):=[]
theorem ag5:aJ Tryz.prog PX:=trivial
noncomputable abbrev abR:Cfg:=aQ Tryz.prog (look? Jd) (look? PX) (look? bA) (([(0,true)]:List (Nat×Bool)).map (·.1)) hn.kl hn.pf
theorem Wr:am abR (ax Jd) []:=trivial
noncomputable def abS:Ctr:=⟨.cons (.row (ae)) (.nil),.cons (.row (ae)) (.nil),[(false,1)],[(false,1)],[(0,true)],IM⟩
theorem abT:az Tryz.prog 101 abS:=aA (H:=hn) (n:=60) aB abQ ag5 ak Wr rfl rfl (fun x=>by kernel_rfl)
noncomputable def Ws:Ctr:=⟨.cons (.row (ae)) (.nil),.cons (.row (ae)) (.nil),[(false,1)],[(false,1)],[(0,true)],IP⟩
theorem ag6:az Tryz.prog 101 Ws:=Ls abT ⟨_,_,Tryz.func101,by kernel_rfl,rfl⟩ abB
noncomputable def Je:List (Nat×CF):=[(102,aeC)]
theorem abU:aW Tryz.prog Je:=⟨⟨_,_,Tryz.func102,afE⟩,trivial⟩
noncomputable def PY:List (Nat×Ctr):=[]
theorem ag7:aJ Tryz.prog PY:=trivial
noncomputable abbrev abV:Cfg:=aQ Tryz.prog (look? Je) (look? PY) (look? bA) (([]:List (Nat×Bool)).map (·.1)) hn.kl hn.pf
theorem Wt:am abV (ax Je) []:=trivial
noncomputable def abW:Ctr:=⟨.cons (.row (.i .i64)) (.nil),.cons (.row (.i .i64)) (.nil),[(false,1)],[(false,1)],[],IQ⟩
theorem abX:az Tryz.prog 102 abW:=aA (H:=hn) (n:=60) aB abU ag7 ak Wt rfl rfl (fun x=>by kernel_rfl)
noncomputable def Wu:Ctr:=⟨.cons (.row (.i .i64)) (.nil),.cons (.row (.i .i64)) (.nil),[(false,1)],[(false,1)],[],ET⟩
theorem ag8:az Tryz.prog 102 Wu:=Ut abX ⟨_,_,Tryz.func102,by kernel_rfl,rfl⟩ abC
noncomputable def Jf:List (Nat×CF):=[(118,aeD)]
theorem abY:aW Tryz.prog Jf:=⟨⟨_,_,Tryz.func118,afF⟩,trivial⟩
noncomputable def PZ:List (Nat×Ctr):=[]
theorem NB:aJ Tryz.prog PZ:=trivial
noncomputable abbrev abZ:Cfg:=aQ Tryz.prog (look? Jf) (look? PZ) (look? bA) (([]:List (Nat×Bool)).map (·.1)) hn.kl hn.pf
theorem Wv:am abZ (ax Jf) []:=trivial
noncomputable def Ff:Ctr:=⟨.cons (.i .i64) (.nil),.cons (.b) (.nil),[(false,1)],[(false,1)],[],mq⟩
theorem Jg:az Tryz.prog 118 Ff:=aA (H:=hn) (n:=60) aB abY NB ak Wv rfl rfl (fun x=>by kernel_rfl)
noncomputable def tb234:List (Nat×CF):=[(234,UF)]
theorem td234:aW Tryz.prog tb234:=⟨⟨_,_,Tryz.func234,Vf⟩,trivial⟩
noncomputable def ct234:List (Nat×Ctr):=[]
theorem h234:aJ Tryz.prog ct234:=trivial
noncomputable abbrev gg234:Cfg:=aQ Tryz.prog (look? tb234) (look? ct234) (look? bA) (([]:List (Nat×Bool)).map (·.1)) hn.kl hn.pf
theorem l234_0:am gg234 (ax tb234) []:=trivial
noncomputable def K234:Ctr:=⟨.cons (.i .i64) (.nil),.cons (.b) (.nil),[(false,1)],[(false,1)],[],F234⟩
theorem k234:az Tryz.prog 234 K234:=aA (H:=hn) (n:=60) aB td234 h234 ak l234_0 rfl rfl (fun x=>by kernel_rfl)
noncomputable def CS:List (Nat×CF):=[(236,UG)]
theorem ab0:aW Tryz.prog CS:=⟨⟨_,_,Tryz.func236,afH⟩,trivial⟩
noncomputable def Qa:List (Nat×Ctr):=[]
theorem Ww:aJ Tryz.prog Qa:=trivial
noncomputable abbrev Qb:Cfg:=aQ Tryz.prog (look? CS) (look? Qa) (look? bA) (([]:List (Nat×Bool)).map (·.1)) hn.kl hn.pf
theorem Wx:am Qb (ax CS) []:=trivial
noncomputable abbrev ST:Nat×Lps:=(1015104,⟨rR,rS,nP⟩)
theorem Wy:am Qb (ax CS) [ST]:=aS (H:=hn) (n:=60) (live:=[1,5,6,1015104]) (b:=UH) (ps:=rR) (os:=rS) (st:=iL) Ww ak Wx (by kernel_rfl) (by kernel_rfl) (fun x=>by kernel_rfl)
noncomputable def Wz:Ctr:=⟨.cons (af) (.cons (.i .i64) (.nil)),.cons (.i .i64) (.nil),[(true,3),(false,1)],[(false,1)],[],IR⟩
theorem ag9:az Tryz.prog 236 Wz:=aA (H:=hn) (n:=60) aB ab0 Ww ak Wy rfl rfl (fun x=>by kernel_rfl)
noncomputable def Jh:List (Nat×CF):=[(176,aeE)]
theorem ab1:aW Tryz.prog Jh:=⟨⟨_,_,Tryz.func176,afI⟩,trivial⟩
noncomputable def Qc:List (Nat×Ctr):=[]
theorem aha:aJ Tryz.prog Qc:=trivial
noncomputable abbrev ab2:Cfg:=aQ Tryz.prog (look? Jh) (look? Qc) (look? bA) (([]:List (Nat×Bool)).map (·.1)) hn.kl hn.pf
theorem WA:am ab2 (ax Jh) []:=trivial
noncomputable def vy:Ctr:=⟨.cons (ae) (.cons (.i .i64) (.nil)),.cons (.b) (.nil),[(true,5),(false,1)],[(false,1)],[],kC⟩
theorem xH:az Tryz.prog 176 vy:=aA (H:=hn) (n:=60) aB ab1 aha ak WA rfl rfl (fun x=>by kernel_rfl)
noncomputable def tb214:List (Nat×CF):=[(214,Nf)]
theorem td214:aW Tryz.prog tb214:=⟨⟨_,_,Tryz.func214,Vg⟩,trivial⟩
noncomputable def ct214:List (Nat×Ctr):=[]
theorem h214:aJ Tryz.prog ct214:=trivial
noncomputable abbrev gg214:Cfg:=aQ Tryz.prog (look? tb214) (look? ct214) (look? bA) (([]:List (Nat×Bool)).map (·.1)) hn.kl hn.pf
theorem l214_0:am gg214 (ax tb214) []:=trivial
noncomputable abbrev ee214_1:Nat×Lps:=(1013696,⟨L214_1013696p,L214_1013696o,L214_1013696⟩)
theorem l214_1:am gg214 (ax tb214) [ee214_1]:=aS (H:=hn) (n:=60) (live:=[3,6,7,8,1013696]) (b:=Lt) (ps:=L214_1013696p) (os:=L214_1013696o) (st:=L214_1013696t) h214 ak l214_0 (by kernel_rfl) (by kernel_rfl) (fun x=>by kernel_rfl)
noncomputable def K214:Ctr:=⟨.cons (.row (.i .i64)) (.nil),.cons (.i .i64) (.nil),[(false,1)],[(false,1)],[],F214⟩
theorem k214:az Tryz.prog 214 K214:=aA (H:=hn) (n:=60) aB td214 h214 ak l214_1 rfl rfl (fun x=>by kernel_rfl)
noncomputable def ND:List (Nat×CF):=[(61,c61)]
theorem ahb:aW Tryz.prog ND:=⟨⟨_,_,Tryz.func61,t61⟩,trivial⟩
noncomputable def WB:List (Nat×Ctr):=[]
theorem ja:aJ Tryz.prog WB:=trivial
noncomputable abbrev ahc:Cfg:=aQ Tryz.prog (look? ND) (look? WB) (look? bA) (([(0,true)]:List (Nat×Bool)).map (·.1)) hn.kl hn.pf
theorem ab3:am ahc (ax ND) []:=trivial
noncomputable def ahd:Ctr:=⟨.cons (.row (aw)) (.nil),.cons (.row (aw)) (.nil),[(false,1)],[(false,1)],[(0,true)],Ns⟩
theorem ahe:az Tryz.prog 61 ahd:=aA (H:=hn) (n:=60) aB ahb ja ak ab3 rfl rfl (fun x=>by kernel_rfl)
noncomputable def Fg:Ctr:=⟨.cons (.row (aw)) (.nil),.cons (.row (aw)) (.nil),[(false,1)],[(false,1)],[(0,true)],qm⟩
theorem Hc:az Tryz.prog 61 Fg:=Ls ahe ⟨_,_,Tryz.func61,by kernel_rfl,rfl⟩ agR
noncomputable def NE:List (Nat×CF):=[(48,c48)]
theorem ahf:aW Tryz.prog NE:=⟨⟨_,_,Tryz.func48,t48⟩,trivial⟩
noncomputable def WC:List (Nat×Ctr):=[]
theorem Fh:aJ Tryz.prog WC:=trivial
noncomputable abbrev ahg:Cfg:=aQ Tryz.prog (look? NE) (look? WC) (look? bA) (([]:List (Nat×Bool)).map (·.1)) hn.kl hn.pf
theorem ab4:am ahg (ax NE) []:=trivial
noncomputable def LD:Ctr:=⟨bJ,.cons (.b) (.nil),[(true,8)],[(false,1)],[],cW⟩
theorem Qd:az Tryz.prog 48 LD:=aA (H:=hn) (n:=60) aB ahf Fh ak ab4 rfl rfl (fun x=>by kernel_rfl)
noncomputable def Ji:List (Nat×CF):=[(45,c45)]
theorem ahh:aW Tryz.prog Ji:=⟨⟨_,_,Tryz.func45,t45⟩,trivial⟩
noncomputable def WD:List (Nat×Ctr):=[]
theorem h45:aJ Tryz.prog WD:=trivial
noncomputable abbrev WE:Cfg:=aQ Tryz.prog (look? Ji) (look? WD) (look? bA) (([]:List (Nat×Bool)).map (·.1)) hn.kl hn.pf
theorem ab5:am WE (ax Ji) []:=trivial
noncomputable abbrev WF:Nat×Lps:=(1002880,⟨uG,uH,pE⟩)
theorem ab6:am WE (ax Ji) [WF]:=aS (H:=hn) (n:=60) (live:=[1,3,1002880]) (b:=abk) (ps:=uG) (os:=uH) (st:=gA) h45 ak ab5 (by kernel_rfl) (by kernel_rfl) (fun x=>by kernel_rfl)
noncomputable def K45:Ctr:=⟨.cons (ro) (.nil),.cons (.b) (.nil),[(true,1)],[(false,1)],[],Lz⟩
theorem k45:az Tryz.prog 45 K45:=aA (H:=hn) (n:=60) aB ahh h45 ak ab6 rfl rfl (fun x=>by kernel_rfl)
noncomputable def Jj:List (Nat×CF):=[(108,aeJ)]
theorem ab7:aW Tryz.prog Jj:=⟨⟨_,_,Tryz.func108,afN⟩,trivial⟩
noncomputable def Qe:List (Nat×Ctr):=[]
theorem ahi:aJ Tryz.prog Qe:=trivial
noncomputable abbrev ab8:Cfg:=aQ Tryz.prog (look? Jj) (look? Qe) (look? bA) (([]:List (Nat×Bool)).map (·.1)) hn.kl hn.pf
theorem WG:am ab8 (ax Jj) []:=trivial
noncomputable def WH:Ctr:=⟨bJ,.cons (.b) (.nil),[(true,8)],[(false,1)],[],Nt⟩
theorem ahj:az Tryz.prog 108 WH:=aA (H:=hn) (n:=60) aB ab7 ahi ak WG rfl rfl (fun x=>by kernel_rfl)
noncomputable def Jk:List (Nat×CF):=[(73,c73)]
theorem ahk:aW Tryz.prog Jk:=⟨⟨_,_,Tryz.func73,t73⟩,trivial⟩
noncomputable def WI:List (Nat×Ctr):=[]
theorem h73:aJ Tryz.prog WI:=trivial
noncomputable abbrev WJ:Cfg:=aQ Tryz.prog (look? Jk) (look? WI) (look? bA) (([]:List (Nat×Bool)).map (·.1)) hn.kl hn.pf
theorem ab9:am WJ (ax Jk) []:=trivial
noncomputable abbrev WK:Nat×Lps:=(1004672,⟨uI,uJ,pF⟩)
theorem aca:am WJ (ax Jk) [WK]:=aS (H:=hn) (n:=60) (live:=[6,7,8,1004672]) (b:=abl) (ps:=uI) (os:=uJ) (st:=gB) h73 ak ab9 (by kernel_rfl) (by kernel_rfl) (fun x=>by kernel_rfl)
noncomputable def WL:Ctr:=⟨bJ,.cons (.b) (.nil),[(true,8)],[(false,1)],[],wK⟩
theorem k73:az Tryz.prog 73 WL:=aA (H:=hn) (n:=60) aB ahk h73 ak aca rfl rfl (fun x=>by kernel_rfl)
noncomputable def lL:List (Nat×CF):=[(114,uD)]
theorem acb:aW Tryz.prog lL:=⟨⟨_,_,Tryz.func114,afP⟩,trivial⟩
noncomputable def Qf:List (Nat×Ctr):=[(161,Wf)]
theorem pR:aJ Tryz.prog Qf:=⟨agW,trivial⟩
noncomputable abbrev pn:Cfg:=aQ Tryz.prog (look? lL) (look? Qf) (look? bA) (([]:List (Nat×Bool)).map (·.1)) hn.kl hn.pf
theorem WM:am pn (ax lL) []:=trivial
noncomputable abbrev lx:Nat×Lps:=(1007302,⟨rT,rU,nQ⟩)
theorem WN:am pn (ax lL) [lx]:=aS (H:=hn) (n:=60) (live:=[6,97,98,1007302]) (b:=UO) (ps:=rT) (os:=rU) (st:=fP) pR ak WM (by kernel_rfl) (by kernel_rfl) (fun x=>by kernel_rfl)
noncomputable abbrev nh:Nat×Lps:=(1007301,⟨rV,rW,nR⟩)
theorem WO:am pn (ax lL) [nh,lx]:=aS (H:=hn) (n:=60) (live:=[3,6,11,12,59,60,63,64,67,68,1007301]) (b:=UL) (ps:=rV) (os:=rW) (st:=fQ) pR ak WN (by kernel_rfl) (by kernel_rfl) (fun x=>by kernel_rfl)
noncomputable abbrev qo:Nat×Lps:=(1007300,⟨rX,rY,nS⟩)
theorem WP:am pn (ax lL) [qo,nh,lx]:=aS (H:=hn) (n:=60) (live:=[3,6,11,59,60,63,64,1007300]) (b:=UM) (ps:=rX) (os:=rY) (st:=fR) pR ak WO (by kernel_rfl) (by kernel_rfl) (fun x=>by kernel_rfl)
noncomputable abbrev wn:Nat×Lps:=(1007299,⟨rZ,sa,nT⟩)
theorem WQ:am pn (ax lL) [wn,qo,nh,lx]:=aS (H:=hn) (n:=60) (live:=[3,6,59,60,1007299]) (b:=UN) (ps:=rZ) (os:=sa) (st:=fS) pR ak WP (by kernel_rfl) (by kernel_rfl) (fun x=>by kernel_rfl)
noncomputable abbrev AZ:Nat×Lps:=(1007298,⟨sb,sd,nU⟩)
theorem WR:am pn (ax lL) [AZ,wn,qo,nh,lx]:=aS (H:=hn) (n:=60) (live:=[3,6,7,39,40,41,47,48,49,1007298]) (b:=UJ) (ps:=sb) (os:=sd) (st:=fT) pR ak WQ (by kernel_rfl) (by kernel_rfl) (fun x=>by kernel_rfl)
noncomputable abbrev Hd:Nat×Lps:=(1007297,⟨se,sf,nV⟩)
theorem WS:am pn (ax lL) [Hd,AZ,wn,qo,nh,lx]:=aS (H:=hn) (n:=60) (live:=[3,6,39,40,41,1007297]) (b:=UK) (ps:=se) (os:=sf) (st:=fU) pR ak WR (by kernel_rfl) (by kernel_rfl) (fun x=>by kernel_rfl)
noncomputable abbrev SU:Nat×Lps:=(1007296,⟨sg,sj,nW⟩)
theorem WT:am pn (ax lL) [SU,Hd,AZ,wn,qo,nh,lx]:=aS (H:=hn) (n:=60) (live:=[1,3,25,26,27,1007296]) (b:=UI) (ps:=sg) (os:=sj) (st:=fV) pR ak WS (by kernel_rfl) (by kernel_rfl) (fun x=>by kernel_rfl)
noncomputable def xI:Ctr:=⟨.cons (ro) (.nil),.cons (.i .i64) (.nil),[(true,1)],[(false,1)],[],jC⟩
theorem Ba:az Tryz.prog 114 xI:=aA (H:=hn) (n:=60) aB acb pR ak WT rfl rfl (fun x=>by kernel_rfl)
noncomputable def Jl:List (Nat×CF):=[(180,aeL)]
theorem acd:aW Tryz.prog Jl:=⟨⟨_,_,Tryz.func180,afQ⟩,trivial⟩
noncomputable def Qg:List (Nat×Ctr):=[(208,xG),(207,AY)]
theorem ahl:aJ Tryz.prog Qg:=⟨AX,Fe,trivial⟩
noncomputable abbrev ace:Cfg:=aQ Tryz.prog (look? Jl) (look? Qg) (look? bA) (([]:List (Nat×Bool)).map (·.1)) hn.kl hn.pf
theorem WU:am ace (ax Jl) []:=trivial
noncomputable def WV:Ctr:=⟨.cons (af) (.cons (ae) (.nil)),.cons (.b) (.nil),[(true,3),(true,5)],[(false,1)],[],EU⟩
theorem ahm:az Tryz.prog 180 WV:=aA (H:=hn) (n:=60) aB acd ahl ak WU rfl rfl (fun x=>by kernel_rfl)
noncomputable def Jm:List (Nat×CF):=[(240,aeN)]
theorem acf:aW Tryz.prog Jm:=⟨⟨_,_,Tryz.func240,afS⟩,trivial⟩
noncomputable def Qh:List (Nat×Ctr):=[(253,Wn)]
theorem ahn:aJ Tryz.prog Qh:=⟨ag1,trivial⟩
noncomputable abbrev acg:Cfg:=aQ Tryz.prog (look? Jm) (look? Qh) (look? bA) (([]:List (Nat×Bool)).map (·.1)) hn.kl hn.pf
theorem WW:am acg (ax Jm) []:=trivial
noncomputable def WX:Ctr:=⟨.cons (.row (.i .u8)) (.cons (.i .u8) (.nil)),.cons (.b) (.nil),[(false,1),(false,1)],[(false,1)],[],IU⟩
theorem aho:az Tryz.prog 240 WX:=aA (H:=hn) (n:=60) aB acf ahn ak WW rfl rfl (fun x=>by kernel_rfl)
noncomputable def Jn:List (Nat×CF):=[(62,c62)]
theorem ahp:aW Tryz.prog Jn:=⟨⟨_,_,Tryz.func62,t62⟩,trivial⟩
noncomputable def WY:List (Nat×Ctr):=[(101,Ws),(102,Wu)]
theorem ik:aJ Tryz.prog WY:=⟨ag6,ag8,trivial⟩
noncomputable abbrev WZ:Cfg:=aQ Tryz.prog (look? Jn) (look? WY) (look? bA) (([(4,false)]:List (Nat×Bool)).map (·.1)) hn.kl hn.pf
theorem ach:am WZ (ax Jn) []:=trivial
noncomputable abbrev Xa:Nat×Lps:=(1003968,⟨uK,uL,pG⟩)
theorem aci:am WZ (ax Jn) [Xa]:=aS (H:={hn with pr:=[(101,0,false)]}) (n:=60) (live:=[1,2,15,16,17,1003968]) (b:=abm) (ps:=uK) (os:=uL) (st:=fu) ik ak ach (by kernel_rfl) (by kernel_rfl) (fun x=>match x with| .inl x=>(by kernel_rfl)| .inr (x)=>(by kernel_rfl))
noncomputable def oG:Ctr:=⟨.cons (ab) (.nil),.cons (ab) (.nil),[(true,5)],[(true,5)],[(4,false)],kg⟩
theorem po:az Tryz.prog 62 oG:=aA (H:={hn with pr:=[(101,0,false)]}) (n:=60) aB ahp ik ak aci rfl rfl (fun x=>by kernel_rfl)
noncomputable def tb205:List (Nat×CF):=[(205,UQ)]
theorem td205:aW Tryz.prog tb205:=⟨⟨_,_,Tryz.func205,Vi⟩,trivial⟩
noncomputable def ct205:List (Nat×Ctr):=[(234,K234)]
theorem h205:aJ Tryz.prog ct205:=⟨k234,trivial⟩
noncomputable abbrev gg205:Cfg:=aQ Tryz.prog (look? tb205) (look? ct205) (look? bA) (([]:List (Nat×Bool)).map (·.1)) hn.kl hn.pf
theorem l205_0:am gg205 (ax tb205) []:=trivial
noncomputable def K205:Ctr:=⟨.cons (.i .i64) (.cons (.i .i64) (.nil)),.cons (.i .i64) (.nil),[(false,1),(false,1)],[(false,1)],[],F205⟩
theorem k205:az Tryz.prog 205 K205:=aA (H:=hn) (n:=60) aB td205 h205 ak l205_0 rfl rfl (fun x=>by kernel_rfl)
noncomputable def Jo:List (Nat×CF):=[(210,aeO)]
theorem acj:aW Tryz.prog Jo:=⟨⟨_,_,Tryz.func210,afT⟩,trivial⟩
noncomputable def Qi:List (Nat×Ctr):=[(236,Wz)]
theorem ahq:aJ Tryz.prog Qi:=⟨ag9,trivial⟩
noncomputable abbrev acl:Cfg:=aQ Tryz.prog (look? Jo) (look? Qi) (look? bA) (([]:List (Nat×Bool)).map (·.1)) hn.kl hn.pf
theorem Xb:am acl (ax Jo) []:=trivial
noncomputable def NF:Ctr:=⟨.cons (af) (.cons (ae) (.cons (.i .i64) (.nil))),.cons (ae) (.nil),[(true,3),(true,5),(false,1)],[(true,5)],[],EV⟩
theorem Xc:az Tryz.prog 210 NF:=aA (H:=hn) (n:=60) aB acj ahq ak Xb rfl rfl (fun x=>by kernel_rfl)
noncomputable def tb213:List (Nat×CF):=[(213,UR)]
theorem td213:aW Tryz.prog tb213:=⟨⟨_,_,Tryz.func213,Vj⟩,trivial⟩
noncomputable def ct213:List (Nat×Ctr):=[(205,K205),(214,K214)]
theorem h213:aJ Tryz.prog ct213:=⟨k205,k214,trivial⟩
noncomputable abbrev gg213:Cfg:=aQ Tryz.prog (look? tb213) (look? ct213) (look? bA) (([]:List (Nat×Bool)).map (·.1)) hn.kl hn.pf
theorem l213_0:am gg213 (ax tb213) []:=trivial
noncomputable def K213:Ctr:=⟨.cons (au) (.cons (au) (.nil)),.cons (.i .i64) (.nil),[(true,3),(true,3)],[(false,1)],[],F213⟩
theorem k213:az Tryz.prog 213 K213:=aA (H:=hn) (n:=60) aB td213 h213 ak l213_0 rfl rfl (fun x=>by kernel_rfl)
noncomputable def CU:List (Nat×CF):=[(25,US)]
theorem acm:aW Tryz.prog CU:=⟨⟨_,_,Tryz.func25,t25⟩,trivial⟩
noncomputable def Qj:List (Nat×Ctr):=[(61,Fg),(62,oG)]
theorem Xd:aJ Tryz.prog Qj:=⟨Hc,po,trivial⟩
noncomputable abbrev Qk:Cfg:=aQ Tryz.prog (look? CU) (look? Qj) (look? bA) (([(6,true),(7,true)]:List (Nat×Bool)).map (·.1)) hn.kl hn.pf
theorem Xe:am Qk (ax CU) []:=trivial
noncomputable abbrev SW:Nat×Lps:=(1001600,⟨so,su,nX⟩)
theorem Xf:am Qk (ax CU) [SW]:=aS (H:={hn with pr:=[(61,0,false)]}) (n:=60) (live:=[1,2,13,14,15,1001600]) (b:=OY) (ps:=so) (os:=su) (st:=eK) Xd ak Xe (by kernel_rfl) (by kernel_rfl) (fun x=>match x with| .inl x=>(by kernel_rfl)| .inr (x)=>(by kernel_rfl))
noncomputable def ahr:Ctr:=⟨bJ,bJ,[(true,8)],[(true,8)],[(6,true),(7,true)],Nu⟩
theorem ahs:az Tryz.prog 25 ahr:=aA (H:={hn with pr:=[(61,0,false)]}) (n:=60) aB acm Xd ak Xf rfl rfl (fun x=>by kernel_rfl)
noncomputable def CV:List (Nat×CF):=[(25,US)]
theorem acn:aW Tryz.prog CV:=⟨⟨_,_,Tryz.func25,t25⟩,trivial⟩
noncomputable def Ql:List (Nat×Ctr):=[(61,Fg),(62,oG)]
theorem Xg:aJ Tryz.prog Ql:=⟨Hc,po,trivial⟩
noncomputable abbrev Qm:Cfg:=aQ Tryz.prog (look? CV) (look? Ql) (look? bA) (([(6,true),(7,true)]:List (Nat×Bool)).map (·.1)) hn.kl hn.pf
theorem Xh:am Qm (ax CV) []:=trivial
noncomputable abbrev SY:Nat×Lps:=(1001600,⟨sv,sw,nY⟩)
theorem Xi:am Qm (ax CV) [SY]:=aS (H:={hn with pr:=[(61,0,true)]}) (n:=60) (live:=[1,2,13,14,15,1001600]) (b:=OY) (ps:=sv) (os:=sw) (st:=eL) Xg ak Xh (by kernel_rfl) (by kernel_rfl) (fun x=>match x with| .inl x=>(by kernel_rfl)| .inr (x)=>(by kernel_rfl))
noncomputable def aht:Ctr:=⟨bJ,bJ,[(true,8)],[(true,8)],[(6,true),(7,true)],Nv⟩
theorem ahu:az Tryz.prog 25 aht:=aA (H:={hn with pr:=[(61,0,true)]}) (n:=60) aB acn Xg ak Xi rfl rfl (fun x=>by kernel_rfl)
noncomputable def He:Ctr:=⟨bJ,bJ,[(true,8)],[(true,8)],[(6,true),(7,true)],cF⟩
theorem LE:az Tryz.prog 25 He:=by
 have h:= @wg Tryz.prog 25 (bJ) (bJ) _ _ _ _ _ (fun x=>isEmpty x.1.2.2.2.2.2.2.2.1) ahu ahs
 exact h
noncomputable def NG:List (Nat×CF):=[(95,c95),(133,aeF),(134,aeG),(135,aeH),(136,aeI)]
theorem ahv:aW Tryz.prog NG:=⟨⟨_,_,Tryz.func95,t95⟩,⟨_,_,Tryz.func133,afJ⟩,⟨_,_,Tryz.func134,afK⟩,⟨_,_,Tryz.func135,afL⟩,⟨_,_,Tryz.func136,afM⟩,trivial⟩
noncomputable def Xj:List (Nat×Ctr):=[]
theorem h95:aJ Tryz.prog Xj:=trivial
noncomputable abbrev ahw:Cfg:=aQ Tryz.prog (look? NG) (look? Xj) (look? bA) (([]:List (Nat×Bool)).map (·.1)) hn.kl hn.pf
theorem aco:am ahw (ax NG) []:=trivial
noncomputable def K95:Ctr:=⟨.cons (ae) (.cons (.i .i64) (.nil)),.cons (.i .i64) (.nil),[(true,5),(false,1)],[(false,1)],[],PG⟩
theorem k95:az Tryz.prog 95 K95:=aA (H:=hn) (n:=60) aB ahv h95 ak aco rfl rfl (fun x=>by kernel_rfl)
noncomputable def NH:List (Nat×CF):=[(94,c94)]
theorem ahx:aW Tryz.prog NH:=⟨⟨_,_,Tryz.func94,t94⟩,trivial⟩
noncomputable def Xk:List (Nat×Ctr):=[(45,K45)]
theorem h94:aJ Tryz.prog Xk:=⟨k45,trivial⟩
noncomputable abbrev ahy:Cfg:=aQ Tryz.prog (look? NH) (look? Xk) (look? bA) (([]:List (Nat×Bool)).map (·.1)) hn.kl hn.pf
theorem acp:am ahy (ax NH) []:=trivial
noncomputable def K94:Ctr:=⟨.cons (ab) (.nil),.cons (.b) (.nil),[(true,5)],[(false,1)],[],PH⟩
theorem k94:az Tryz.prog 94 K94:=aA (H:=hn) (n:=60) aB ahx h94 ak acp rfl rfl (fun x=>by kernel_rfl)
noncomputable def Jp:List (Nat×CF):=[(130,aeP)]
theorem acq:aW Tryz.prog Jp:=⟨⟨_,_,Tryz.func130,afU⟩,trivial⟩
noncomputable def Qn:List (Nat×Ctr):=[(179,Wh),(180,WV)]
theorem ahz:aJ Tryz.prog Qn:=⟨agY,ahm,trivial⟩
noncomputable abbrev acr:Cfg:=aQ Tryz.prog (look? Jp) (look? Qn) (look? bA) (([]:List (Nat×Bool)).map (·.1)) hn.kl hn.pf
theorem Xl:am acr (ax Jp) []:=trivial
noncomputable def Jq:Ctr:=⟨.cons (af) (.cons (ae) (.nil)),.cons (.i .i64) (.nil),[(true,3),(true,5)],[(false,1)],[],Au⟩
theorem NI:az Tryz.prog 130 Jq:=aA (H:=hn) (n:=60) aB acq ahz ak Xl rfl rfl (fun x=>by kernel_rfl)
noncomputable def CW:List (Nat×CF):=[(181,aeQ),(220,aez),(219,aeM),(239,Ux)]
theorem acs:aW Tryz.prog CW:=⟨⟨_,_,Tryz.func181,afV⟩,⟨_,_,Tryz.func220,afy⟩,⟨_,_,Tryz.func219,afR⟩,⟨_,_,Tryz.func239,afz⟩,trivial⟩
noncomputable def Qo:List (Nat×Ctr):=[]
theorem Xm:aJ Tryz.prog Qo:=trivial
noncomputable abbrev Qp:Cfg:=aQ Tryz.prog (look? CW) (look? Qo) (look? bA) (([]:List (Nat×Bool)).map (·.1)) hn.kl hn.pf
theorem Xn:am Qp (ax CW) []:=trivial
noncomputable abbrev SZ:Nat×Lps:=(1015296,⟨sx,sy,nZ⟩)
theorem Xo:am Qp (ax CW) [SZ]:=aS (H:=hn) (n:=60) (live:=[0,1,7,8,1015296]) (b:=Uy) (ps:=sx) (os:=sy) (st:=fW) Xm ak Xn (by kernel_rfl) (by kernel_rfl) (fun x=>by kernel_rfl)
noncomputable def Jr:Ctr:=⟨.cons (ab) (.cons (af) (.nil)),.cons (.b) (.nil),[(true,5),(true,3)],[(false,1)],[],Av⟩
theorem NJ:az Tryz.prog 181 Jr:=aA (H:=hn) (n:=60) aB acs Xm ak Xo rfl rfl (fun x=>by kernel_rfl)
noncomputable def Js:List (Nat×CF):=[(222,aeR)]
theorem act:aW Tryz.prog Js:=⟨⟨_,_,Tryz.func222,afW⟩,trivial⟩
noncomputable def Qq:List (Nat×Ctr):=[(240,WX)]
theorem ahA:aJ Tryz.prog Qq:=⟨aho,trivial⟩
noncomputable abbrev acu:Cfg:=aQ Tryz.prog (look? Js) (look? Qq) (look? bA) (([]:List (Nat×Bool)).map (·.1)) hn.kl hn.pf
theorem Xp:am acu (ax Js) []:=trivial
noncomputable def NK:Ctr:=⟨.cons (ae) (.cons (.row (.i .u8)) (.nil)),.cons (.b) (.nil),[(true,5),(false,1)],[(false,1)],[],EW⟩
theorem Xq:az Tryz.prog 222 NK:=aA (H:=hn) (n:=60) aB act ahA ak Xp rfl rfl (fun x=>by kernel_rfl)
noncomputable def Jt:List (Nat×CF):=[(235,aeT)]
theorem acv:aW Tryz.prog Jt:=⟨⟨_,_,Tryz.func235,afY⟩,trivial⟩
noncomputable def Qr:List (Nat×Ctr):=[(130,Jq)]
theorem ahB:aJ Tryz.prog Qr:=⟨NI,trivial⟩
noncomputable abbrev acw:Cfg:=aQ Tryz.prog (look? Jt) (look? Qr) (look? bA) (([]:List (Nat×Bool)).map (·.1)) hn.kl hn.pf
theorem Xr:am acw (ax Jt) []:=trivial
noncomputable def Xs:Ctr:=⟨.cons (af) (.cons (ae) (.cons (.b) (.nil))),.cons (.i .i64) (.nil),[(true,3),(true,5),(false,1)],[(false,1)],[],IV⟩
theorem ahC:az Tryz.prog 235 Xs:=aA (H:=hn) (n:=60) aB acv ahB ak Xr rfl rfl (fun x=>by kernel_rfl)
noncomputable def Ju:List (Nat×CF):=[(211,aeV)]
theorem acx:aW Tryz.prog Ju:=⟨⟨_,_,Tryz.func211,af0⟩,trivial⟩
noncomputable def Qs:List (Nat×Ctr):=[(130,Jq)]
theorem ahD:aJ Tryz.prog Qs:=⟨NI,trivial⟩
noncomputable abbrev acy:Cfg:=aQ Tryz.prog (look? Ju) (look? Qs) (look? bA) (([]:List (Nat×Bool)).map (·.1)) hn.kl hn.pf
theorem Xt:am acy (ax Ju) []:=trivial
noncomputable def vz:Ctr:=⟨.cons (af) (.cons (ae) (.nil)),.cons (ae) (.cons (.i .i64) (.nil)),[(true,3),(true,5)],[(true,5),(false,1)],[],pH⟩
theorem xJ:az Tryz.prog 211 vz:=aA (H:=hn) (n:=60) aB acx ahD ak Xt rfl rfl (fun x=>by kernel_rfl)
noncomputable def zr:List (Nat×CF):=[(175,Ng)]
theorem acz:aW Tryz.prog zr:=⟨⟨_,_,Tryz.func175,af1⟩,trivial⟩
noncomputable def Qt:List (Nat×Ctr):=[(176,vy),(213,K213)]
theorem NL:aJ Tryz.prog Qt:=⟨xH,k213,trivial⟩
noncomputable abbrev Jv:Cfg:=aQ Tryz.prog (look? zr) (look? Qt) (look? bA) (([(0,true)]:List (Nat×Bool)).map (·.1)) hn.kl hn.pf
theorem Xu:am Jv (ax zr) []:=trivial
noncomputable abbrev Hf:Nat×Lps:=(1011201,⟨sA,sB,jH⟩)
theorem Xv:am Jv (ax zr) [Hf]:=aS (H:=hn) (n:=60) (live:=[1,5,7,10,11,12,17,18,19,1011201]) (b:=UT) (ps:=sA) (os:=sB) (st:=eM) NL ak Xu (by kernel_rfl) (by kernel_rfl) (fun x=>match x with| .inl x=>(by kernel_rfl)| .inr (x)=>(by kernel_rfl))
noncomputable abbrev Ta:Nat×Lps:=(1011200,⟨sC,sD,oc⟩)
theorem Xw:am Jv (ax zr) [Ta,Hf]:=aS (H:=hn) (n:=60) (live:=[1,5,10,11,12,1011200]) (b:=UU) (ps:=sC) (os:=sD) (st:=eO) NL ak Xv (by kernel_rfl) (by kernel_rfl) (fun x=>match x with| .inl x=>(by kernel_rfl)| .inr (x)=>(by kernel_rfl))
noncomputable def NM:Ctr:=⟨.cons (.row (ab)) (.cons (.i .i64) (.nil)),.cons (.row (au)) (.nil),[(false,1),(false,1)],[(false,1)],[(0,true)],Aw⟩
theorem Xx:az Tryz.prog 175 NM:=aA (H:=hn) (n:=60) aB acz NL ak Xw rfl rfl (fun x=>by kernel_rfl)
noncomputable def Fi:List (Nat×CF):=[(57,UV)]
theorem ahE:aW Tryz.prog Fi:=⟨⟨_,_,Tryz.func57,t57⟩,trivial⟩
noncomputable def Xy:List (Nat×Ctr):=[(95,K95)]
theorem Xz:aJ Tryz.prog Xy:=⟨k95,trivial⟩
noncomputable abbrev NN:Cfg:=aQ Tryz.prog (look? Fi) (look? Xy) (look? bA) (([]:List (Nat×Bool)).map (·.1)) hn.kl hn.pf
theorem acA:am NN (ax Fi) []:=trivial
noncomputable abbrev LF:Nat×Lps:=(1003649,⟨uM,uN,pI⟩)
theorem acB:am NN (ax Fi) [LF]:=aS (H:=hn) (n:=60) (live:=[3,5,9,10,11,19,20,21,1003649]) (b:=abn) (ps:=uM) (os:=uN) (st:=gC) Xz ak acA (by kernel_rfl) (by kernel_rfl) (fun x=>by kernel_rfl)
noncomputable abbrev XA:Nat×Lps:=(1003648,⟨uO,uP,pJ⟩)
theorem acC:am NN (ax Fi) [XA,LF]:=aS (H:=hn) (n:=60) (live:=[3,9,10,11,1003648]) (b:=abo) (ps:=uO) (os:=uP) (st:=gD) Xz ak acB (by kernel_rfl) (by kernel_rfl) (fun x=>by kernel_rfl)
noncomputable def K57:Ctr:=⟨bJ,.cons (.i .i64) (.nil),[(true,8)],[(false,1)],[],PI⟩
theorem k57:az Tryz.prog 57 K57:=aA (H:=hn) (n:=60) aB ahE Xz ak acC rfl rfl (fun x=>by kernel_rfl)
noncomputable def Jw:List (Nat×CF):=[(56,c56)]
theorem ahF:aW Tryz.prog Jw:=⟨⟨_,_,Tryz.func56,t56⟩,trivial⟩
noncomputable def XB:List (Nat×Ctr):=[(94,K94)]
theorem XC:aJ Tryz.prog XB:=⟨k94,trivial⟩
noncomputable abbrev XD:Cfg:=aQ Tryz.prog (look? Jw) (look? XB) (look? bA) (([]:List (Nat×Bool)).map (·.1)) hn.kl hn.pf
theorem acD:am XD (ax Jw) []:=trivial
noncomputable abbrev XE:Nat×Lps:=(1003584,⟨uQ,uR,pK⟩)
theorem acE:am XD (ax Jw) [XE]:=aS (H:=hn) (n:=60) (live:=[0,3,1003584]) (b:=abp) (ps:=uQ) (os:=uR) (st:=gE) XC ak acD (by kernel_rfl) (by kernel_rfl) (fun x=>by kernel_rfl)
noncomputable def K56:Ctr:=⟨.cons (.row (ab)) (.nil),.cons (.b) (.nil),[(false,1)],[(false,1)],[],PJ⟩
theorem k56:az Tryz.prog 56 K56:=aA (H:=hn) (n:=60) aB ahF XC ak acE rfl rfl (fun x=>by kernel_rfl)
noncomputable def CX:List (Nat×CF):=[(183,aeX),(223,aeS),(53,UP),(93,OU)]
theorem acF:aW Tryz.prog CX:=⟨⟨_,_,Tryz.func183,af3⟩,⟨_,_,Tryz.func223,afX⟩,⟨_,_,Tryz.func53,Vh⟩,⟨_,_,Tryz.func93,Ve⟩,trivial⟩
noncomputable def Qu:List (Nat×Ctr):=[(222,NK)]
theorem XF:aJ Tryz.prog Qu:=⟨Xq,trivial⟩
noncomputable abbrev Qv:Cfg:=aQ Tryz.prog (look? CX) (look? Qu) (look? bA) (([]:List (Nat×Bool)).map (·.1)) hn.kl hn.pf
theorem XG:am Qv (ax CX) []:=trivial
noncomputable abbrev Tb:Nat×Lps:=(1005952,⟨sE,sF,od⟩)
theorem XH:am Qv (ax CX) [Tb]:=aS (H:=hn) (n:=60) (live:=[0,1,7,8,1005952]) (b:=Iv) (ps:=sE) (os:=sF) (st:=fX) XF ak XG (by kernel_rfl) (by kernel_rfl) (fun x=>by kernel_rfl)
noncomputable def XI:Ctr:=⟨.cons (ab) (.cons (.row (.i .u8)) (.nil)),.cons (.b) (.nil),[(true,5),(false,1)],[(false,1)],[],Ax⟩
theorem ahG:az Tryz.prog 183 XI:=aA (H:=hn) (n:=60) aB acF XF ak XH rfl rfl (fun x=>by kernel_rfl)
noncomputable def Jx:List (Nat×CF):=[(206,aeY)]
theorem acG:aW Tryz.prog Jx:=⟨⟨_,_,Tryz.func206,af4⟩,trivial⟩
noncomputable def Qw:List (Nat×Ctr):=[(235,Xs)]
theorem ahH:aJ Tryz.prog Qw:=⟨ahC,trivial⟩
noncomputable abbrev acH:Cfg:=aQ Tryz.prog (look? Jx) (look? Qw) (look? bA) (([]:List (Nat×Bool)).map (·.1)) hn.kl hn.pf
theorem XJ:am acH (ax Jx) []:=trivial
noncomputable def Bb:Ctr:=⟨.cons (af) (.cons (ae) (.cons (.b) (.cons (.i .u8) (.nil)))),.cons (.i .i64) (.nil),[(true,3),(true,5),(false,1),(false,1)],[(false,1)],[],gF⟩
theorem Fj:az Tryz.prog 206 Bb:=aA (H:=hn) (n:=60) aB acG ahH ak XJ rfl rfl (fun x=>by kernel_rfl)
noncomputable def Jy:List (Nat×CF):=[(167,aeZ)]
theorem acI:aW Tryz.prog Jy:=⟨⟨_,_,Tryz.func167,af5⟩,trivial⟩
noncomputable def Qx:List (Nat×Ctr):=[(207,AY),(208,xG),(206,Bb)]
theorem h167:aJ Tryz.prog Qx:=⟨Fe,AX,Fj,trivial⟩
noncomputable abbrev acJ:Cfg:=aQ Tryz.prog (look? Jy) (look? Qx) (look? bA) (([]:List (Nat×Bool)).map (·.1)) hn.kl hn.pf
theorem XK:am acJ (ax Jy) []:=trivial
noncomputable def XL:Ctr:=⟨.cons (af) (.cons (ae) (.cons (.i .i64) (.cons (.i .i64) (.nil)))),.cons (ae) (.cons (.i .i64) (.nil)),[(true,3),(true,5),(false,1),(false,1)],[(true,5),(false,1)],[],uS⟩
theorem ahI:az Tryz.prog 167 XL:=aA (H:=hn) (n:=60) aB acI h167 ak XK rfl rfl (fun x=>by kernel_rfl)
noncomputable def Jz:List (Nat×CF):=[(209,ae0)]
theorem acK:aW Tryz.prog Jz:=⟨⟨_,_,Tryz.func209,af6⟩,trivial⟩
noncomputable def Qy:List (Nat×Ctr):=[(207,AY),(206,Bb)]
theorem ahJ:aJ Tryz.prog Qy:=⟨Fe,Fj,trivial⟩
noncomputable abbrev acL:Cfg:=aQ Tryz.prog (look? Jz) (look? Qy) (look? bA) (([]:List (Nat×Bool)).map (·.1)) hn.kl hn.pf
theorem XM:am acL (ax Jz) []:=trivial
noncomputable def JA:Ctr:=⟨.cons (af) (.cons (ae) (.cons (.b) (.cons (.i .i64) (.nil)))),.cons (.i .i64) (.nil),[(true,3),(true,5),(false,1),(false,1)],[(false,1)],[],Ay⟩
theorem NO:az Tryz.prog 209 JA:=aA (H:=hn) (n:=60) aB acK ahJ ak XM rfl rfl (fun x=>by kernel_rfl)
noncomputable def JB:List (Nat×CF):=[(171,ae1)]
theorem acM:aW Tryz.prog JB:=⟨⟨_,_,Tryz.func171,af7⟩,trivial⟩
noncomputable def Qz:List (Nat×Ctr):=[(208,xG),(209,JA),(210,NF)]
theorem ahK:aJ Tryz.prog Qz:=⟨AX,NO,Xc,trivial⟩
noncomputable abbrev acN:Cfg:=aQ Tryz.prog (look? JB) (look? Qz) (look? bA) (([]:List (Nat×Bool)).map (·.1)) hn.kl hn.pf
theorem XN:am acN (ax JB) []:=trivial
noncomputable def XO:Ctr:=⟨.cons (af) (.cons (ae) (.cons (.i .i64) (.cons (.i .i64) (.nil)))),.cons (ae) (.cons (.i .i64) (.nil)),[(true,3),(true,5),(false,1),(false,1)],[(true,5),(false,1)],[],xA⟩
theorem ahL:az Tryz.prog 171 XO:=aA (H:=hn) (n:=60) aB acM ahK ak XN rfl rfl (fun x=>by kernel_rfl)
noncomputable def JC:List (Nat×CF):=[(173,ae2)]
theorem acO:aW Tryz.prog JC:=⟨⟨_,_,Tryz.func173,af8⟩,trivial⟩
noncomputable def QA:List (Nat×Ctr):=[(208,xG),(209,JA)]
theorem ahM:aJ Tryz.prog QA:=⟨AX,NO,trivial⟩
noncomputable abbrev acP:Cfg:=aQ Tryz.prog (look? JC) (look? QA) (look? bA) (([]:List (Nat×Bool)).map (·.1)) hn.kl hn.pf
theorem XP:am acP (ax JC) []:=trivial
noncomputable def XQ:Ctr:=⟨.cons (af) (.cons (ae) (.cons (.i .i64) (.cons (.i .i64) (.nil)))),.cons (ae) (.cons (.i .i64) (.nil)),[(true,3),(true,5),(false,1),(false,1)],[(true,5),(false,1)],[],Az⟩
theorem ahN:az Tryz.prog 173 XQ:=aA (H:=hn) (n:=60) aB acO ahM ak XP rfl rfl (fun x=>by kernel_rfl)
noncomputable def JD:List (Nat×CF):=[(216,ae3)]
theorem acQ:aW Tryz.prog JD:=⟨⟨_,_,Tryz.func216,af9⟩,trivial⟩
noncomputable def QB:List (Nat×Ctr):=[(207,AY),(208,xG),(206,Bb),(176,vy)]
theorem ahO:aJ Tryz.prog QB:=⟨Fe,AX,Fj,xH,trivial⟩
noncomputable abbrev acR:Cfg:=aQ Tryz.prog (look? JD) (look? QB) (look? bA) (([]:List (Nat×Bool)).map (·.1)) hn.kl hn.pf
theorem XR:am acR (ax JD) []:=trivial
noncomputable def XS:Ctr:=⟨.cons (af) (.cons (ae) (.cons (.i .i64) (.cons (.i .i64) (.nil)))),.cons (ae) (.cons (.i .i64) (.nil)),[(true,3),(true,5),(false,1),(false,1)],[(true,5),(false,1)],[],AA⟩
theorem ahP:az Tryz.prog 216 XS:=aA (H:=hn) (n:=60) aB acQ ahO ak XR rfl rfl (fun x=>by kernel_rfl)
noncomputable def JE:List (Nat×CF):=[(218,ae4)]
theorem acS:aW Tryz.prog JE:=⟨⟨_,_,Tryz.func218,aga⟩,trivial⟩
noncomputable def QC:List (Nat×Ctr):=[(208,xG),(206,Bb),(176,vy),(210,NF)]
theorem ahQ:aJ Tryz.prog QC:=⟨AX,Fj,xH,Xc,trivial⟩
noncomputable abbrev acT:Cfg:=aQ Tryz.prog (look? JE) (look? QC) (look? bA) (([]:List (Nat×Bool)).map (·.1)) hn.kl hn.pf
theorem XT:am acT (ax JE) []:=trivial
noncomputable def XU:Ctr:=⟨.cons (af) (.cons (ae) (.cons (.i .i64) (.nil))),.cons (ae) (.cons (.i .i64) (.nil)),[(true,3),(true,5),(false,1)],[(true,5),(false,1)],[],AB⟩
theorem ahR:az Tryz.prog 218 XU:=aA (H:=hn) (n:=60) aB acS ahQ ak XT rfl rfl (fun x=>by kernel_rfl)
noncomputable def NP:List (Nat×CF):=[(21,c21)]
theorem ahS:aW Tryz.prog NP:=⟨⟨_,_,Tryz.func21,t21⟩,trivial⟩
noncomputable def XV:List (Nat×Ctr):=[(56,K56)]
theorem h21:aJ Tryz.prog XV:=⟨k56,trivial⟩
noncomputable abbrev ahT:Cfg:=aQ Tryz.prog (look? NP) (look? XV) (look? bA) (([]:List (Nat×Bool)).map (·.1)) hn.kl hn.pf
theorem acU:am ahT (ax NP) []:=trivial
noncomputable def K21:Ctr:=⟨bJ,.cons (.b) (.nil),[(true,8)],[(false,1)],[],PK⟩
theorem k21:az Tryz.prog 21 K21:=aA (H:=hn) (n:=60) aB ahS h21 ak acU rfl rfl (fun x=>by kernel_rfl)
noncomputable def CY:List (Nat×CF):=[(182,ae5),(221,aeW),(53,UP),(93,OU)]
theorem acV:aW Tryz.prog CY:=⟨⟨_,_,Tryz.func182,agb⟩,⟨_,_,Tryz.func221,af2⟩,⟨_,_,Tryz.func53,Vh⟩,⟨_,_,Tryz.func93,Ve⟩,trivial⟩
noncomputable def QD:List (Nat×Ctr):=[(222,NK)]
theorem Bc:aJ Tryz.prog QD:=⟨Xq,trivial⟩
noncomputable abbrev QE:Cfg:=aQ Tryz.prog (look? CY) (look? QD) (look? bA) (([]:List (Nat×Bool)).map (·.1)) hn.kl hn.pf
theorem XW:am QE (ax CY) []:=trivial
noncomputable abbrev Tc:Nat×Lps:=(1005952,⟨sG,sH,oe⟩)
theorem XX:am QE (ax CY) [Tc]:=aS (H:=hn) (n:=60) (live:=[0,1,7,8,1005952]) (b:=Iv) (ps:=sG) (os:=sH) (st:=fY) Bc ak XW (by kernel_rfl) (by kernel_rfl) (fun x=>by kernel_rfl)
noncomputable def vA:Ctr:=⟨.cons (ab) (.cons (.row (.i .u8)) (.nil)),.cons (.b) (.nil),[(true,5),(false,1)],[(false,1)],[],jI⟩
theorem xK:az Tryz.prog 182 vA:=aA (H:=hn) (n:=60) aB acV Bc ak XX rfl rfl (fun x=>by kernel_rfl)
noncomputable def JF:List (Nat×CF):=[(202,ae6)]
theorem acW:aW Tryz.prog JF:=⟨⟨_,_,Tryz.func202,agc⟩,trivial⟩
noncomputable def QF:List (Nat×Ctr):=[(207,AY),(206,Bb)]
theorem ahU:aJ Tryz.prog QF:=⟨Fe,Fj,trivial⟩
noncomputable abbrev acX:Cfg:=aQ Tryz.prog (look? JF) (look? QF) (look? bA) (([]:List (Nat×Bool)).map (·.1)) hn.kl hn.pf
theorem XY:am acX (ax JF) []:=trivial
noncomputable def NQ:Ctr:=⟨.cons (af) (.cons (ae) (.cons (.i .i64) (.nil))),.cons (ae) (.cons (.i .i64) (.nil)),[(true,3),(true,5),(false,1)],[(true,5),(false,1)],[],EY⟩
theorem XZ:az Tryz.prog 202 NQ:=aA (H:=hn) (n:=60) aB acW ahU ak XY rfl rfl (fun x=>by kernel_rfl)
noncomputable def JG:List (Nat×CF):=[(169,ae8)]
theorem acY:aW Tryz.prog JG:=⟨⟨_,_,Tryz.func169,age⟩,trivial⟩
noncomputable def QG:List (Nat×Ctr):=[(209,JA)]
theorem ahV:aJ Tryz.prog QG:=⟨NO,trivial⟩
noncomputable abbrev acZ:Cfg:=aQ Tryz.prog (look? JG) (look? QG) (look? bA) (([]:List (Nat×Bool)).map (·.1)) hn.kl hn.pf
theorem Ya:am acZ (ax JG) []:=trivial
noncomputable def Yb:Ctr:=⟨.cons (af) (.cons (ae) (.cons (.i .i64) (.nil))),.cons (ae) (.cons (.i .i64) (.nil)),[(true,3),(true,5),(false,1)],[(true,5),(false,1)],[],IW⟩
theorem ahW:az Tryz.prog 169 Yb:=aA (H:=hn) (n:=60) aB acY ahV ak Ya rfl rfl (fun x=>by kernel_rfl)
noncomputable def NR:List (Nat×CF):=[(35,c35)]
theorem ahX:aW Tryz.prog NR:=⟨⟨_,_,Tryz.func35,t35⟩,trivial⟩
noncomputable def Yc:List (Nat×Ctr):=[(21,K21)]
theorem h35:aJ Tryz.prog Yc:=⟨k21,trivial⟩
noncomputable abbrev ahY:Cfg:=aQ Tryz.prog (look? NR) (look? Yc) (look? bA) (([]:List (Nat×Bool)).map (·.1)) hn.kl hn.pf
theorem ac0:am ahY (ax NR) []:=trivial
noncomputable def K35:Ctr:=⟨.cons (co) (.cons (.row (.b)) (.nil)),.cons (.b) (.nil),[(true,8),(false,1)],[(false,1)],[],PL⟩
theorem k35:az Tryz.prog 35 K35:=aA (H:=hn) (n:=60) aB ahX h35 ak ac0 rfl rfl (fun x=>by kernel_rfl)
noncomputable def CZ:List (Nat×CF):=[(131,UW)]
theorem ac1:aW Tryz.prog CZ:=⟨⟨_,_,Tryz.func131,agk⟩,trivial⟩
noncomputable def QH:List (Nat×Ctr):=[(181,Jr),(182,vA),(183,XI)]
theorem Yd:aJ Tryz.prog QH:=⟨NJ,xK,ahG,trivial⟩
noncomputable abbrev QI:Cfg:=aQ Tryz.prog (look? CZ) (look? QH) (look? bA) (([]:List (Nat×Bool)).map (·.1)) hn.kl hn.pf
theorem Ye:am QI (ax CZ) []:=trivial
noncomputable abbrev Td:Nat×Lps:=(1008384,⟨sI,sJ,oh⟩)
theorem Yf:am QI (ax CZ) [Td]:=aS (H:=hn) (n:=60) (live:=[1,11,12,13,1008384]) (b:=UX) (ps:=sI) (os:=sJ) (st:=fZ) Yd ak Ye (by kernel_rfl) (by kernel_rfl) (fun x=>by kernel_rfl)
noncomputable def Yg:Ctr:=⟨.cons (ab) (.nil),.cons (.b) (.nil),[(true,5)],[(false,1)],[],IX⟩
theorem ahZ:az Tryz.prog 131 Yg:=aA (H:=hn) (n:=60) aB ac1 Yd ak Yf rfl rfl (fun x=>by kernel_rfl)
noncomputable def JH:List (Nat×CF):=[(89,c89)]
theorem ah0:aW Tryz.prog JH:=⟨⟨_,_,Tryz.func89,t89⟩,trivial⟩
noncomputable def Yh:List (Nat×Ctr):=[(114,xI),(130,Jq),(131,Yg)]
theorem h89:aJ Tryz.prog Yh:=⟨Ba,NI,ahZ,trivial⟩
noncomputable abbrev Yi:Cfg:=aQ Tryz.prog (look? JH) (look? Yh) (look? bA) (([]:List (Nat×Bool)).map (·.1)) hn.kl hn.pf
theorem ac3:am Yi (ax JH) []:=trivial
noncomputable abbrev Yj:Nat×Lps:=(1005696,⟨uT,uU,pL⟩)
theorem ac4:am Yi (ax JH) [Yj]:=aS (H:=hn) (n:=60) (live:=[1,43,44,45,1005696]) (b:=abq) (ps:=uT) (os:=uU) (st:=gG) h89 ak ac3 (by kernel_rfl) (by kernel_rfl) (fun x=>by kernel_rfl)
noncomputable def zt:Ctr:=⟨.cons (ab) (.nil),.cons (.i .i64) (.nil),[(true,5)],[(false,1)],[],sK⟩
theorem Cf:az Tryz.prog 89 zt:=aA (H:=hn) (n:=60) aB ah0 h89 ak ac4 rfl rfl (fun x=>by kernel_rfl)
noncomputable def Da:List (Nat×CF):=[(116,afe),(163,Nh)]
theorem ac5:aW Tryz.prog Da:=⟨⟨_,_,Tryz.func116,agm⟩,⟨_,_,Tryz.func163,Vk⟩,trivial⟩
noncomputable def QJ:List (Nat×Ctr):=[(114,xI),(162,NA),(62,oG),(181,Jr),(202,NQ)]
theorem JI:aJ Tryz.prog QJ:=⟨Ba,Wq,po,NJ,XZ,trivial⟩
noncomputable abbrev QK:Cfg:=aQ Tryz.prog (look? Da) (look? QJ) (look? bA) (([]:List (Nat×Bool)).map (·.1)) hn.kl hn.pf
theorem Yk:am QK (ax Da) []:=trivial
noncomputable abbrev Te:Nat×Lps:=(1010432,⟨sL,sM,jL⟩)
theorem Yl:am QK (ax Da) [Te]:=aS (H:=hn) (n:=60) (live:=[1,2,9,10,11,1010432]) (b:=Lu) (ps:=sL) (os:=sM) (st:=ga) JI ak Yk (by kernel_rfl) (by kernel_rfl) (fun x=>by kernel_rfl)
noncomputable def Fk:Ctr:=⟨.cons (.i .i64) (.cons (.s) (.cons (ro) (.cons (.i .i64) (.nil)))),.cons (ab) (.cons (.i .i64) (.cons (.i .i64) (.nil))),[(false,1),(false,1),(true,1),(false,1)],[(true,5),(false,1),(false,1)],[],rv⟩
theorem JJ:az Tryz.prog 116 Fk:=aA (H:=hn) (n:=60) aB ac5 JI ak Yl rfl rfl (fun x=>by kernel_rfl)
noncomputable def zu:List (Nat×CF):=[(123,aff),(168,afd),(165,Ar),(174,uE),(163,Nh)]
theorem ac6:aW Tryz.prog zu:=⟨⟨_,_,Tryz.func123,ago⟩,⟨_,_,Tryz.func168,agl⟩,⟨_,_,Tryz.func165,As⟩,⟨_,_,Tryz.func174,xz⟩,⟨_,_,Tryz.func163,Vk⟩,trivial⟩
noncomputable def QL:List (Nat×Ctr):=[(162,NA),(169,Yb),(89,zt),(62,oG),(182,vA),(211,vz),(181,Jr),(202,NQ)]
theorem NS:aJ Tryz.prog QL:=⟨Wq,ahW,Cf,po,xK,xJ,NJ,XZ,trivial⟩
noncomputable abbrev JK:Cfg:=aQ Tryz.prog (look? zu) (look? QL) (look? bA) (([]:List (Nat×Bool)).map (·.1)) hn.kl hn.pf
theorem Ym:am JK (ax zu) []:=trivial
noncomputable abbrev Hg:Nat×Lps:=(1010432,⟨sN,sO,gH⟩)
theorem Yn:am JK (ax zu) [Hg]:=aS (H:=hn) (n:=60) (live:=[1,2,9,10,11,1010432]) (b:=Lu) (ps:=sN) (os:=sO) (st:=sP) NS ak Ym (by kernel_rfl) (by kernel_rfl) (fun x=>by kernel_rfl)
noncomputable abbrev Tf:Nat×Lps:=(1011136,⟨sQ,sR,uV⟩)
theorem Yo:am JK (ax zu) [Tf,Hg]:=aS (H:=hn) (n:=60) (live:=[1,8,9,10,1011136]) (b:=nM) (ps:=sQ) (os:=sR) (st:=sS) NS ak Yn (by kernel_rfl) (by kernel_rfl) (fun x=>by kernel_rfl)
noncomputable def Fl:Ctr:=⟨.cons (ab) (au),.cons (ab) (.cons (.i .i64) (.cons (.i .i64) (.nil))),[(true,5),(false,1),(false,1),(false,1)],[(true,5),(false,1),(false,1)],[],xB⟩
theorem JL:az Tryz.prog 123 Fl:=aA (H:=hn) (n:=60) aB ac6 NS ak Yo rfl rfl (fun x=>by kernel_rfl)
noncomputable def Db:List (Nat×CF):=[(124,afg),(170,ae9),(165,Ar),(174,uE)]
theorem ac7:aW Tryz.prog Db:=⟨⟨_,_,Tryz.func124,agp⟩,⟨_,_,Tryz.func170,agf⟩,⟨_,_,Tryz.func165,As⟩,⟨_,_,Tryz.func174,xz⟩,trivial⟩
noncomputable def QM:List (Nat×Ctr):=[(171,XO),(89,zt),(62,oG),(182,vA),(211,vz)]
theorem Bd:aJ Tryz.prog QM:=⟨ahL,Cf,po,xK,xJ,trivial⟩
noncomputable abbrev QN:Cfg:=aQ Tryz.prog (look? Db) (look? QM) (look? bA) (([]:List (Nat×Bool)).map (·.1)) hn.kl hn.pf
theorem Yp:am QN (ax Db) []:=trivial
noncomputable abbrev Tg:Nat×Lps:=(1011136,⟨sT,sU,uW⟩)
theorem Yq:am QN (ax Db) [Tg]:=aS (H:=hn) (n:=60) (live:=[1,8,9,10,1011136]) (b:=nM) (ps:=sT) (os:=sU) (st:=sV) Bd ak Yp (by kernel_rfl) (by kernel_rfl) (fun x=>by kernel_rfl)
noncomputable def Fm:Ctr:=⟨.cons (ab) (au),.cons (ab) (.cons (.i .i64) (.nil)),[(true,5),(false,1),(false,1),(false,1)],[(true,5),(false,1)],[],uX⟩
theorem JM:az Tryz.prog 124 Fm:=aA (H:=hn) (n:=60) aB ac7 Bd ak Yq rfl rfl (fun x=>by kernel_rfl)
noncomputable def Dc:List (Nat×CF):=[(126,afh),(172,afa),(165,Ar),(174,uE)]
theorem ac8:aW Tryz.prog Dc:=⟨⟨_,_,Tryz.func126,agq⟩,⟨_,_,Tryz.func172,agh⟩,⟨_,_,Tryz.func165,As⟩,⟨_,_,Tryz.func174,xz⟩,trivial⟩
noncomputable def QO:List (Nat×Ctr):=[(173,XQ),(89,zt),(62,oG),(182,vA),(211,vz)]
theorem Yr:aJ Tryz.prog QO:=⟨ahN,Cf,po,xK,xJ,trivial⟩
noncomputable abbrev QP:Cfg:=aQ Tryz.prog (look? Dc) (look? QO) (look? bA) (([]:List (Nat×Bool)).map (·.1)) hn.kl hn.pf
theorem Ys:am QP (ax Dc) []:=trivial
noncomputable abbrev Th:Nat×Lps:=(1011136,⟨sW,sX,uY⟩)
theorem Yt:am QP (ax Dc) [Th]:=aS (H:=hn) (n:=60) (live:=[1,8,9,10,1011136]) (b:=nM) (ps:=sW) (os:=sX) (st:=sY) Yr ak Ys (by kernel_rfl) (by kernel_rfl) (fun x=>by kernel_rfl)
noncomputable def Fn:Ctr:=⟨.cons (ab) (au),.cons (ab) (.cons (.i .i64) (.nil)),[(true,5),(false,1),(false,1),(false,1)],[(true,5),(false,1)],[],EZ⟩
theorem JN:az Tryz.prog 126 Fn:=aA (H:=hn) (n:=60) aB ac8 Yr ak Yt rfl rfl (fun x=>by kernel_rfl)
noncomputable def Dd:List (Nat×CF):=[(127,afi),(174,uE)]
theorem ac9:aW Tryz.prog Dd:=⟨⟨_,_,Tryz.func127,agr⟩,⟨_,_,Tryz.func174,xz⟩,trivial⟩
noncomputable def QQ:List (Nat×Ctr):=[(89,zt),(62,oG),(211,vz)]
theorem Yu:aJ Tryz.prog QQ:=⟨Cf,po,xJ,trivial⟩
noncomputable abbrev QR:Cfg:=aQ Tryz.prog (look? Dd) (look? QQ) (look? bA) (([]:List (Nat×Bool)).map (·.1)) hn.kl hn.pf
theorem Yv:am QR (ax Dd) []:=trivial
noncomputable abbrev Ti:Nat×Lps:=(1011136,⟨sZ,ta,ol⟩)
theorem Yw:am QR (ax Dd) [Ti]:=aS (H:=hn) (n:=60) (live:=[1,8,9,10,1011136]) (b:=nM) (ps:=sZ) (os:=ta) (st:=tc) Yu ak Yv (by kernel_rfl) (by kernel_rfl) (fun x=>by kernel_rfl)
noncomputable def Fo:Ctr:=⟨.cons (ab) (.nil),.cons (ab) (.cons (.i .i64) (.nil)),[(true,5)],[(true,5),(false,1)],[],xC⟩
theorem JO:az Tryz.prog 127 Fo:=aA (H:=hn) (n:=60) aB ac9 Yu ak Yw rfl rfl (fun x=>by kernel_rfl)
noncomputable def De:List (Nat×CF):=[(177,afj),(215,afb),(165,Ar),(174,uE)]
theorem ada:aW Tryz.prog De:=⟨⟨_,_,Tryz.func177,ags⟩,⟨_,_,Tryz.func215,agi⟩,⟨_,_,Tryz.func165,As⟩,⟨_,_,Tryz.func174,xz⟩,trivial⟩
noncomputable def QS:List (Nat×Ctr):=[(216,XS),(89,zt),(62,oG),(182,vA),(211,vz)]
theorem Yx:aJ Tryz.prog QS:=⟨ahP,Cf,po,xK,xJ,trivial⟩
noncomputable abbrev QT:Cfg:=aQ Tryz.prog (look? De) (look? QS) (look? bA) (([]:List (Nat×Bool)).map (·.1)) hn.kl hn.pf
theorem Yy:am QT (ax De) []:=trivial
noncomputable abbrev Tj:Nat×Lps:=(1011136,⟨td,te,uZ⟩)
theorem Yz:am QT (ax De) [Tj]:=aS (H:=hn) (n:=60) (live:=[1,8,9,10,1011136]) (b:=nM) (ps:=td) (os:=te) (st:=tf) Yx ak Yy (by kernel_rfl) (by kernel_rfl) (fun x=>by kernel_rfl)
noncomputable def Fp:Ctr:=⟨.cons (ab) (au),.cons (ab) (.cons (.i .i64) (.nil)),[(true,5),(false,1),(false,1),(false,1)],[(true,5),(false,1)],[],om⟩
theorem JP:az Tryz.prog 177 Fp:=aA (H:=hn) (n:=60) aB ada Yx ak Yz rfl rfl (fun x=>by kernel_rfl)
noncomputable def Df:List (Nat×CF):=[(178,afk),(217,afc),(165,Ar),(174,uE)]
theorem adb:aW Tryz.prog Df:=⟨⟨_,_,Tryz.func178,agt⟩,⟨_,_,Tryz.func217,agj⟩,⟨_,_,Tryz.func165,As⟩,⟨_,_,Tryz.func174,xz⟩,trivial⟩
noncomputable def QU:List (Nat×Ctr):=[(218,XU),(89,zt),(62,oG),(182,vA),(211,vz)]
theorem YA:aJ Tryz.prog QU:=⟨ahR,Cf,po,xK,xJ,trivial⟩
noncomputable abbrev QV:Cfg:=aQ Tryz.prog (look? Df) (look? QU) (look? bA) (([]:List (Nat×Bool)).map (·.1)) hn.kl hn.pf
theorem YB:am QV (ax Df) []:=trivial
noncomputable abbrev Tk:Nat×Lps:=(1011136,⟨tg,th,vb⟩)
theorem YC:am QV (ax Df) [Tk]:=aS (H:=hn) (n:=60) (live:=[1,8,9,10,1011136]) (b:=nM) (ps:=tg) (os:=th) (st:=tj) YA ak YB (by kernel_rfl) (by kernel_rfl) (fun x=>by kernel_rfl)
noncomputable def Fq:Ctr:=⟨.cons (ab) (.cons (.i .i64) (.cons (.i .i64) (.nil))),.cons (ab) (.cons (.i .i64) (.nil)),[(true,5),(false,1),(false,1)],[(true,5),(false,1)],[],oq⟩
theorem JQ:az Tryz.prog 178 Fq:=aA (H:=hn) (n:=60) aB adb YA ak YC rfl rfl (fun x=>by kernel_rfl)
noncomputable def Be:List (Nat×CF):=[(51,UY),(91,c91),(90,c90),(132,UB),(92,c92)]
theorem ah1:aW Tryz.prog Be:=⟨⟨_,_,Tryz.func51,t51⟩,⟨_,_,Tryz.func91,t91⟩,⟨_,_,Tryz.func90,t90⟩,⟨_,_,Tryz.func132,afB⟩,⟨_,_,Tryz.func92,t92⟩,trivial⟩
noncomputable def YD:List (Nat×Ctr):=[(89,zt)]
theorem QW:aJ Tryz.prog YD:=⟨Cf,trivial⟩
noncomputable abbrev JR:Cfg:=aQ Tryz.prog (look? Be) (look? YD) (look? bA) (([]:List (Nat×Bool)).map (·.1)) hn.kl hn.pf
theorem adc:am JR (ax Be) []:=trivial
noncomputable abbrev Fr:Nat×Lps:=(1003265,⟨vc,vd,gj⟩)
theorem ade:am JR (ax Be) [Fr]:=aS (H:=hn) (n:=60) (live:=[0,3,4,14,15,16,47,48,49,1003265]) (b:=abr) (ps:=vc) (os:=vd) (st:=gI) QW ak adc (by kernel_rfl) (by kernel_rfl) (fun x=>by kernel_rfl)
noncomputable abbrev LG:Nat×Lps:=(1008448,⟨ve,vf,lK⟩)
theorem adf:am JR (ax Be) [LG,Fr]:=aS (H:=hn) (n:=60) (live:=[0,1,7,8,1008448]) (b:=UC) (ps:=ve) (os:=vf) (st:=gJ) QW ak ade (by kernel_rfl) (by kernel_rfl) (fun x=>by kernel_rfl)
noncomputable abbrev YE:Nat×Lps:=(1003264,⟨vg,vh,pM⟩)
theorem adg:am JR (ax Be) [YE,LG,Fr]:=aS (H:=hn) (n:=60) (live:=[0,3,4,14,15,16,1003264]) (b:=abt) (ps:=vg) (os:=vh) (st:=gK) QW ak adf (by kernel_rfl) (by kernel_rfl) (fun x=>by kernel_rfl)
noncomputable def Fs:Ctr:=⟨.cons (.row (ab)) (.nil),.cons (.i .i64) (.nil),[(false,1)],[(false,1)],[],yG⟩
theorem Hh:az Tryz.prog 51 Fs:=aA (H:=hn) (n:=60) aB ah1 QW ak adg rfl rfl (fun x=>by kernel_rfl)
noncomputable def Dg:List (Nat×CF):=[(115,UZ)]
theorem adh:aW Tryz.prog Dg:=⟨⟨_,_,Tryz.func115,agu⟩,trivial⟩
noncomputable def QX:List (Nat×Ctr):=[(51,Fs)]
theorem Bf:aJ Tryz.prog QX:=⟨Hh,trivial⟩
noncomputable abbrev QY:Cfg:=aQ Tryz.prog (look? Dg) (look? QX) (look? bA) (([]:List (Nat×Bool)).map (·.1)) hn.kl hn.pf
theorem YF:am QY (ax Dg) []:=trivial
noncomputable abbrev Tl:Nat×Lps:=(1007360,⟨tq,tv,ot⟩)
theorem YG:am QY (ax Dg) [Tl]:=aS (H:=hn) (n:=60) (live:=[1,15,16,17,1007360]) (b:=Va) (ps:=tq) (os:=tv) (st:=gb) Bf ak YF (by kernel_rfl) (by kernel_rfl) (fun x=>by kernel_rfl)
noncomputable def Ft:Ctr:=⟨.cons (.row (ab)) (.cons (.s) (.nil)),.cons (.i .i64) (.cons (.b) (.cons (.i .i64) (.nil))),[(false,1),(false,1)],[(false,1),(false,1),(false,1)],[],ov⟩
theorem JS:az Tryz.prog 115 Ft:=aA (H:=hn) (n:=60) aB adh Bf ak YG rfl rfl (fun x=>by kernel_rfl)
noncomputable def zw:List (Nat×CF):=[(119,Ni)]
theorem adi:aW Tryz.prog zw:=⟨⟨_,_,Tryz.func119,agv⟩,trivial⟩
noncomputable def QZ:List (Nat×Ctr):=[(51,Fs)]
theorem Fu:aJ Tryz.prog QZ:=⟨Hh,trivial⟩
noncomputable abbrev JT:Cfg:=aQ Tryz.prog (look? zw) (look? QZ) (look? bA) (([]:List (Nat×Bool)).map (·.1)) hn.kl hn.pf
theorem YH:am JT (ax zw) []:=trivial
noncomputable abbrev Hi:Nat×Lps:=(1007617,⟨tw,tx,oz⟩)
theorem YI:am JT (ax zw) [Hi]:=aS (H:=hn) (n:=60) (live:=[2,6,7,8,10,19,20,21,26,27,28,1007617]) (b:=Vb) (ps:=tw) (os:=tx) (st:=gc) Fu ak YH (by kernel_rfl) (by kernel_rfl) (fun x=>by kernel_rfl)
noncomputable abbrev Tm:Nat×Lps:=(1007616,⟨tz,tA,oA⟩)
theorem YJ:am JT (ax zw) [Tm,Hi]:=aS (H:=hn) (n:=60) (live:=[2,6,7,8,19,20,21,1007616]) (b:=Vc) (ps:=tz) (os:=tA) (st:=gf) Fu ak YI (by kernel_rfl) (by kernel_rfl) (fun x=>by kernel_rfl)
noncomputable def Bg:Ctr:=⟨.cons (.row (ab)) (.nil),.cons (au) (.cons (.b) (.cons (.i .i64) (.nil))),[(false,1)],[(true,3),(false,1),(false,1)],[],oB⟩
theorem Fv:az Tryz.prog 119 Bg:=aA (H:=hn) (n:=60) aB adi Fu ak YJ rfl rfl (fun x=>by kernel_rfl)
noncomputable def Dh:List (Nat×CF):=[(164,afl),(203,UD),(204,aeU)]
theorem adj:aW Tryz.prog Dh:=⟨⟨_,_,Tryz.func164,agw⟩,⟨_,_,Tryz.func203,afG⟩,⟨_,_,Tryz.func204,afZ⟩,trivial⟩
noncomputable def Ra:List (Nat×Ctr):=[(51,Fs),(205,K205)]
theorem Bh:aJ Tryz.prog Ra:=⟨Hh,k205,trivial⟩
noncomputable abbrev Rb:Cfg:=aQ Tryz.prog (look? Dh) (look? Ra) (look? bA) (([]:List (Nat×Bool)).map (·.1)) hn.kl hn.pf
theorem YK:am Rb (ax Dh) []:=trivial
noncomputable abbrev Tn:Nat×Lps:=(1012992,⟨tB,tC,oC⟩)
theorem YL:am Rb (ax Dh) [Tn]:=aS (H:=hn) (n:=60) (live:=[0,1,2,8,9,10,1012992]) (b:=UE) (ps:=tB) (os:=tC) (st:=gh) Bh ak YK (by kernel_rfl) (by kernel_rfl) (fun x=>by kernel_rfl)
noncomputable def Fw:Ctr:=⟨.cons (.row (ab)) (.cons (.i .i64) (.nil)),.cons (.i .i64) (.cons (.b) (.cons (.i .i64) (.nil))),[(false,1),(false,1)],[(false,1),(false,1),(false,1)],[],cM⟩
theorem JU:az Tryz.prog 164 Fw:=aA (H:=hn) (n:=60) aB adj Bh ak YL rfl rfl (fun x=>by kernel_rfl)
noncomputable def Di:List (Nat×CF):=[(121,afm),(166,ae7),(165,Ar),(174,uE)]
theorem adk:aW Tryz.prog Di:=⟨⟨_,_,Tryz.func121,agx⟩,⟨_,_,Tryz.func166,agd⟩,⟨_,_,Tryz.func165,As⟩,⟨_,_,Tryz.func174,xz⟩,trivial⟩
noncomputable def Rc:List (Nat×Ctr):=[(167,XL),(89,zt),(62,oG),(182,vA),(211,vz)]
theorem JV:aJ Tryz.prog Rc:=⟨ahI,Cf,po,xK,xJ,trivial⟩
noncomputable abbrev Rd:Cfg:=aQ Tryz.prog (look? Di) (look? Rc) (look? bA) (([]:List (Nat×Bool)).map (·.1)) hn.kl hn.pf
theorem YM:am Rd (ax Di) []:=trivial
noncomputable abbrev To:Nat×Lps:=(1011136,⟨tD,tE,db⟩)
theorem YN:am Rd (ax Di) [To]:=aS (H:=hn) (n:=60) (live:=[1,8,9,10,1011136]) (b:=nM) (ps:=tD) (os:=tE) (st:=gi) JV ak YM (by kernel_rfl) (by kernel_rfl) (fun x=>by kernel_rfl)
noncomputable def Fx:Ctr:=⟨.cons (ab) (au),.cons (ab) (.cons (.i .i64) (.nil)),[(true,5),(false,1),(false,1),(false,1)],[(true,5),(false,1)],[],xD⟩
theorem JX:az Tryz.prog 121 Fx:=aA (H:=hn) (n:=60) aB adk JV ak YN rfl rfl (fun x=>by kernel_rfl)
noncomputable def JY:List (Nat×CF):=[(128,afn)]
theorem adl:aW Tryz.prog JY:=⟨⟨_,_,Tryz.func128,agy⟩,trivial⟩
noncomputable def Re:List (Nat×Ctr):=[(51,Fs),(175,NM)]
theorem ah2:aJ Tryz.prog Re:=⟨Hh,Xx,trivial⟩
noncomputable abbrev adm:Cfg:=aQ Tryz.prog (look? JY) (look? Re) (look? bA) (([(0,true)]:List (Nat×Bool)).map (·.1)) hn.kl hn.pf
theorem YO:am adm (ax JY) []:=trivial
noncomputable def Fy:Ctr:=⟨.cons (.row (ab)) (.cons (.i .i64) (.nil)),.cons (.row (au)) (.cons (.i .i64) (.nil)),[(false,1),(false,1)],[(false,1),(false,1)],[(0,true)],xE⟩
theorem JZ:az Tryz.prog 128 Fy:=aA (H:=hn) (n:=60) aB adl ah2 ak YO rfl rfl (fun x=>by kernel_rfl)
noncomputable def Ka:List (Nat×CF):=[(159,afo)]
theorem adn:aW Tryz.prog Ka:=⟨⟨_,_,Tryz.func159,agz⟩,trivial⟩
noncomputable def Rf:List (Nat×Ctr):=[(51,Fs),(175,NM)]
theorem Bi:aJ Tryz.prog Rf:=⟨Hh,Xx,trivial⟩
noncomputable abbrev ado:Cfg:=aQ Tryz.prog (look? Ka) (look? Rf) (look? bA) (([]:List (Nat×Bool)).map (·.1)) hn.kl hn.pf
theorem YP:am ado (ax Ka) []:=trivial
noncomputable def YQ:Ctr:=⟨.cons (.row (ab)) (.nil),.cons (.i .i64) (.cons (.b) (.cons (.i .i64) (.nil))),[(false,1)],[(false,1),(false,1),(false,1)],[],AK⟩
theorem ah3:az Tryz.prog 159 YQ:=aA (H:=hn) (n:=60) aB adn Bi ak YP rfl rfl (fun x=>by kernel_rfl)
noncomputable def Bj:List (Nat×CF):=[(19,Vd),(52,c52),(53,UP),(93,OU)]
theorem ah4:aW Tryz.prog Bj:=⟨⟨_,_,Tryz.func19,t19⟩,⟨_,_,Tryz.func52,t52⟩,⟨_,_,Tryz.func53,Vh⟩,⟨_,_,Tryz.func93,Ve⟩,trivial⟩
noncomputable def YR:List (Nat×Ctr):=[(50,K50),(51,Fs),(54,K54)]
theorem Hj:aJ Tryz.prog YR:=⟨k50,Hh,k54,trivial⟩
noncomputable abbrev Kb:Cfg:=aQ Tryz.prog (look? Bj) (look? YR) (look? bA) (([]:List (Nat×Bool)).map (·.1)) hn.kl hn.pf
theorem adp:am Kb (ax Bj) []:=trivial
noncomputable abbrev Fz:Nat×Lps:=(1001217,⟨vi,vj,pN⟩)
theorem adq:am Kb (ax Bj) [Fz]:=aS (H:=hn) (n:=60) (live:=[1,99,100,101,1001217]) (b:=abv) (ps:=vi) (os:=vj) (st:=gL) Hj ak adp (by kernel_rfl) (by kernel_rfl) (fun x=>by kernel_rfl)
noncomputable abbrev LH:Nat×Lps:=(1005952,⟨vk,vl,pO⟩)
theorem adr:am Kb (ax Bj) [LH,Fz]:=aS (H:=hn) (n:=60) (live:=[0,1,7,8,1005952]) (b:=Iv) (ps:=vk) (os:=vl) (st:=gM) Hj ak adq (by kernel_rfl) (by kernel_rfl) (fun x=>by kernel_rfl)
noncomputable abbrev YS:Nat×Lps:=(1001216,⟨vm,vn,pP⟩)
theorem ads:am Kb (ax Bj) [YS,LH,Fz]:=aS (H:=hn) (n:=60) (live:=[1,79,80,81,1001216]) (b:=abu) (ps:=vm) (os:=vn) (st:=gN) Hj ak adr (by kernel_rfl) (by kernel_rfl) (fun x=>by kernel_rfl)
noncomputable def Cg:Ctr:=⟨bJ,.cons (.i .i64) (.nil),[(true,8)],[(false,1)],[],tF⟩
theorem FA:az Tryz.prog 19 Cg:=aA (H:=hn) (n:=60) aB ah4 Hj ak ads rfl rfl (fun x=>by kernel_rfl)
noncomputable def NT:List (Nat×CF):=[(22,c22)]
theorem ah5:aW Tryz.prog NT:=⟨⟨_,_,Tryz.func22,t22⟩,trivial⟩
noncomputable def YT:List (Nat×Ctr):=[(19,Cg),(57,K57)]
theorem FB:aJ Tryz.prog YT:=⟨FA,k57,trivial⟩
noncomputable abbrev ah6:Cfg:=aQ Tryz.prog (look? NT) (look? YT) (look? bA) (([]:List (Nat×Bool)).map (·.1)) hn.kl hn.pf
theorem adt:am ah6 (ax NT) []:=trivial
noncomputable def YU:Ctr:=⟨bJ,.cons (.i .i64) (.cons (.i .i64) (.nil)),[(true,8)],[(false,1),(false,1)],[],tG⟩
theorem k22:az Tryz.prog 22 YU:=aA (H:=hn) (n:=60) aB ah5 FB ak adt rfl rfl (fun x=>by kernel_rfl)
noncomputable def NU:List (Nat×CF):=[(71,c71)]
theorem ah7:aW Tryz.prog NU:=⟨⟨_,_,Tryz.func71,t71⟩,trivial⟩
noncomputable def YV:List (Nat×Ctr):=[(19,Cg),(108,WH)]
theorem FC:aJ Tryz.prog YV:=⟨FA,ahj,trivial⟩
noncomputable abbrev ah8:Cfg:=aQ Tryz.prog (look? NU) (look? YV) (look? bA) (([]:List (Nat×Bool)).map (·.1)) hn.kl hn.pf
theorem adu:am ah8 (ax NU) []:=trivial
noncomputable def K71:Ctr:=⟨bJ,.cons (.i .i64) (.nil),[(true,8)],[(false,1)],[],Ha⟩
theorem k71:az Tryz.prog 71 K71:=aA (H:=hn) (n:=60) aB ah7 FC ak adu rfl rfl (fun x=>by kernel_rfl)
noncomputable def Kc:List (Nat×CF):=[(111,afp)]
theorem adv:aW Tryz.prog Kc:=⟨⟨_,_,Tryz.func111,agA⟩,trivial⟩
noncomputable def Rg:List (Nat×Ctr):=[(159,YQ),(119,Bg)]
theorem ah9:aJ Tryz.prog Rg:=⟨ah3,Fv,trivial⟩
noncomputable abbrev adw:Cfg:=aQ Tryz.prog (look? Kc) (look? Rg) (look? bA) (([]:List (Nat×Bool)).map (·.1)) hn.kl hn.pf
theorem YW:am adw (ax Kc) []:=trivial
noncomputable def YX:Ctr:=⟨bJ,.cons (.i .i64) (.nil),[(true,8)],[(false,1)],[],AL⟩
theorem aia:az Tryz.prog 111 YX:=aA (H:=hn) (n:=60) aB adv ah9 ak YW rfl rfl (fun x=>by kernel_rfl)
noncomputable def Dj:List (Nat×CF):=[(15,Ph),(46,OV),(47,Pg),(79,OZ),(117,Iw),(80,Pf),(120,Iz),(122,Ix),(81,Pa),(82,Pb),(125,Iy),(83,Pc),(84,Pd),(85,Lv),(129,IA),(86,Pe),(87,OX),(88,OW)]
theorem ady:aW Tryz.prog Dj:=⟨⟨_,_,Tryz.func15,Pu⟩,⟨_,_,Tryz.func46,Pi⟩,⟨_,_,Tryz.func47,Pt⟩,⟨_,_,Tryz.func79,Pl⟩,⟨_,_,Tryz.func117,IB⟩,⟨_,_,Tryz.func80,Pr⟩,⟨_,_,Tryz.func120,IE⟩,⟨_,_,Tryz.func122,IC⟩,⟨_,_,Tryz.func81,Pm⟩,⟨_,_,Tryz.func82,Pn⟩,⟨_,_,Tryz.func125,ID⟩,⟨_,_,Tryz.func83,Po⟩,⟨_,_,Tryz.func84,Pp⟩,⟨_,_,Tryz.func85,Ps⟩,⟨_,_,Tryz.func129,IF⟩,⟨_,_,Tryz.func86,Pq⟩,⟨_,_,Tryz.func87,Pk⟩,⟨_,_,Tryz.func88,Pj⟩,trivial⟩
noncomputable def Rh:List (Nat×Ctr):=[(19,Cg),(25,He),(48,LD),(114,xI),(115,Ft),(116,Fk),(118,Ff),(119,Bg),(121,Fx),(164,Fw),(123,Fl),(124,Fm),(126,Fn),(127,Fo),(128,Fy),(176,vy),(177,Fp),(178,Fq),(62,oG),(61,Fg)]
theorem YZ:aJ Tryz.prog Rh:=⟨FA,LE,Qd,Ba,JS,JJ,Jg,Fv,JX,JU,JL,JM,JN,JO,JZ,xH,JP,JQ,po,Hc,trivial⟩
noncomputable abbrev Ri:Cfg:=aQ Tryz.prog (look? Dj) (look? Rh) (look? bA) (([]:List (Nat×Bool)).map (·.1)) hn.kl hn.pf
theorem Za:am Ri (ax Dj) []:=trivial
noncomputable abbrev Tp:Nat×Lps:=(1005440,⟨tH,tI,eD⟩)
theorem Zb:am Ri (ax Dj) [Tp]:=aS (H:={hn with pr:=[(25,6,false),(25,7,false)]}) (n:=60) (live:=[0,4,7,45,46,47,1005440]) (b:=CO) (ps:=tH) (os:=tI) (st:=dE) YZ ak Za (by kernel_rfl) (by kernel_rfl) (fun x=>match x with| .inl x=>(by kernel_rfl)| .inr (.inl x)=>(by kernel_rfl)| .inr (.inr (x))=>(by kernel_rfl))
noncomputable def aid:Ctr:=⟨.cons (co) (.cons (fK) (.nil)),.cons (co) (.cons (jx) (.nil)),[(true,8),(true,8)],[(true,8),(true,10)],[],pQ⟩
theorem aie:az Tryz.prog 15 aid:=aA (H:={hn with pr:=[(25,6,false),(25,7,false)]}) (n:=60) aB ady YZ ak Zb rfl rfl (fun x=>by kernel_rfl)
noncomputable def Dk:List (Nat×CF):=[(15,Ph),(46,OV),(47,Pg),(79,OZ),(117,Iw),(80,Pf),(120,Iz),(122,Ix),(81,Pa),(82,Pb),(125,Iy),(83,Pc),(84,Pd),(85,Lv),(129,IA),(86,Pe),(87,OX),(88,OW)]
theorem adz:aW Tryz.prog Dk:=⟨⟨_,_,Tryz.func15,Pu⟩,⟨_,_,Tryz.func46,Pi⟩,⟨_,_,Tryz.func47,Pt⟩,⟨_,_,Tryz.func79,Pl⟩,⟨_,_,Tryz.func117,IB⟩,⟨_,_,Tryz.func80,Pr⟩,⟨_,_,Tryz.func120,IE⟩,⟨_,_,Tryz.func122,IC⟩,⟨_,_,Tryz.func81,Pm⟩,⟨_,_,Tryz.func82,Pn⟩,⟨_,_,Tryz.func125,ID⟩,⟨_,_,Tryz.func83,Po⟩,⟨_,_,Tryz.func84,Pp⟩,⟨_,_,Tryz.func85,Ps⟩,⟨_,_,Tryz.func129,IF⟩,⟨_,_,Tryz.func86,Pq⟩,⟨_,_,Tryz.func87,Pk⟩,⟨_,_,Tryz.func88,Pj⟩,trivial⟩
noncomputable def Rj:List (Nat×Ctr):=[(19,Cg),(25,He),(48,LD),(114,xI),(115,Ft),(116,Fk),(118,Ff),(119,Bg),(121,Fx),(164,Fw),(123,Fl),(124,Fm),(126,Fn),(127,Fo),(128,Fy),(176,vy),(177,Fp),(178,Fq),(62,oG),(61,Fg)]
theorem Zc:aJ Tryz.prog Rj:=⟨FA,LE,Qd,Ba,JS,JJ,Jg,Fv,JX,JU,JL,JM,JN,JO,JZ,xH,JP,JQ,po,Hc,trivial⟩
noncomputable abbrev Rk:Cfg:=aQ Tryz.prog (look? Dk) (look? Rj) (look? bA) (([]:List (Nat×Bool)).map (·.1)) hn.kl hn.pf
theorem Zd:am Rk (ax Dk) []:=trivial
noncomputable abbrev Tq:Nat×Lps:=(1005440,⟨tJ,tK,eE⟩)
theorem Ze:am Rk (ax Dk) [Tq]:=aS (H:={hn with pr:=[(25,6,false),(25,7,true)]}) (n:=60) (live:=[0,4,7,45,46,47,1005440]) (b:=CO) (ps:=tJ) (os:=tK) (st:=dF) Zc ak Zd (by kernel_rfl) (by kernel_rfl) (fun x=>match x with| .inl x=>(by kernel_rfl)| .inr (.inl x)=>(by kernel_rfl)| .inr (.inr (x))=>(by kernel_rfl))
noncomputable def aif:Ctr:=⟨.cons (co) (.cons (fK) (.nil)),.cons (co) (.cons (jx) (.nil)),[(true,8),(true,8)],[(true,8),(true,10)],[],AO⟩
theorem aig:az Tryz.prog 15 aif:=aA (H:={hn with pr:=[(25,6,false),(25,7,true)]}) (n:=60) aB adz Zc ak Ze rfl rfl (fun x=>by kernel_rfl)
noncomputable def Dl:List (Nat×CF):=[(15,Ph),(46,OV),(47,Pg),(79,OZ),(117,Iw),(80,Pf),(120,Iz),(122,Ix),(81,Pa),(82,Pb),(125,Iy),(83,Pc),(84,Pd),(85,Lv),(129,IA),(86,Pe),(87,OX),(88,OW)]
theorem adA:aW Tryz.prog Dl:=⟨⟨_,_,Tryz.func15,Pu⟩,⟨_,_,Tryz.func46,Pi⟩,⟨_,_,Tryz.func47,Pt⟩,⟨_,_,Tryz.func79,Pl⟩,⟨_,_,Tryz.func117,IB⟩,⟨_,_,Tryz.func80,Pr⟩,⟨_,_,Tryz.func120,IE⟩,⟨_,_,Tryz.func122,IC⟩,⟨_,_,Tryz.func81,Pm⟩,⟨_,_,Tryz.func82,Pn⟩,⟨_,_,Tryz.func125,ID⟩,⟨_,_,Tryz.func83,Po⟩,⟨_,_,Tryz.func84,Pp⟩,⟨_,_,Tryz.func85,Ps⟩,⟨_,_,Tryz.func129,IF⟩,⟨_,_,Tryz.func86,Pq⟩,⟨_,_,Tryz.func87,Pk⟩,⟨_,_,Tryz.func88,Pj⟩,trivial⟩
noncomputable def Rl:List (Nat×Ctr):=[(19,Cg),(25,He),(48,LD),(114,xI),(115,Ft),(116,Fk),(118,Ff),(119,Bg),(121,Fx),(164,Fw),(123,Fl),(124,Fm),(126,Fn),(127,Fo),(128,Fy),(176,vy),(177,Fp),(178,Fq),(62,oG),(61,Fg)]
theorem Zf:aJ Tryz.prog Rl:=⟨FA,LE,Qd,Ba,JS,JJ,Jg,Fv,JX,JU,JL,JM,JN,JO,JZ,xH,JP,JQ,po,Hc,trivial⟩
noncomputable abbrev Rm:Cfg:=aQ Tryz.prog (look? Dl) (look? Rl) (look? bA) (([]:List (Nat×Bool)).map (·.1)) hn.kl hn.pf
theorem Zg:am Rm (ax Dl) []:=trivial
noncomputable abbrev Tr:Nat×Lps:=(1005440,⟨tL,tM,gO⟩)
theorem Zh:am Rm (ax Dl) [Tr]:=aS (H:={hn with pr:=[(25,6,true),(25,7,false)]}) (n:=60) (live:=[0,4,7,45,46,47,1005440]) (b:=CO) (ps:=tL) (os:=tM) (st:=tN) Zf ak Zg (by kernel_rfl) (by kernel_rfl) (fun x=>match x with| .inl x=>(by kernel_rfl)| .inr (x)=>(by kernel_rfl))
noncomputable def aih:Ctr:=⟨.cons (co) (.cons (fK) (.nil)),.cons (co) (.cons (jx) (.nil)),[(true,8),(true,8)],[(true,8),(true,10)],[],AR⟩
theorem aii:az Tryz.prog 15 aih:=aA (H:={hn with pr:=[(25,6,true),(25,7,false)]}) (n:=60) aB adA Zf ak Zh rfl rfl (fun x=>by kernel_rfl)
noncomputable def Dm:List (Nat×CF):=[(15,Ph),(46,OV),(47,Pg),(79,OZ),(117,Iw),(80,Pf),(120,Iz),(122,Ix),(81,Pa),(82,Pb),(125,Iy),(83,Pc),(84,Pd),(85,Lv),(129,IA),(86,Pe),(87,OX),(88,OW)]
theorem adB:aW Tryz.prog Dm:=⟨⟨_,_,Tryz.func15,Pu⟩,⟨_,_,Tryz.func46,Pi⟩,⟨_,_,Tryz.func47,Pt⟩,⟨_,_,Tryz.func79,Pl⟩,⟨_,_,Tryz.func117,IB⟩,⟨_,_,Tryz.func80,Pr⟩,⟨_,_,Tryz.func120,IE⟩,⟨_,_,Tryz.func122,IC⟩,⟨_,_,Tryz.func81,Pm⟩,⟨_,_,Tryz.func82,Pn⟩,⟨_,_,Tryz.func125,ID⟩,⟨_,_,Tryz.func83,Po⟩,⟨_,_,Tryz.func84,Pp⟩,⟨_,_,Tryz.func85,Ps⟩,⟨_,_,Tryz.func129,IF⟩,⟨_,_,Tryz.func86,Pq⟩,⟨_,_,Tryz.func87,Pk⟩,⟨_,_,Tryz.func88,Pj⟩,trivial⟩
noncomputable def Rn:List (Nat×Ctr):=[(19,Cg),(25,He),(48,LD),(114,xI),(115,Ft),(116,Fk),(118,Ff),(119,Bg),(121,Fx),(164,Fw),(123,Fl),(124,Fm),(126,Fn),(127,Fo),(128,Fy),(176,vy),(177,Fp),(178,Fq),(62,oG),(61,Fg)]
theorem Zi:aJ Tryz.prog Rn:=⟨FA,LE,Qd,Ba,JS,JJ,Jg,Fv,JX,JU,JL,JM,JN,JO,JZ,xH,JP,JQ,po,Hc,trivial⟩
noncomputable abbrev Ro:Cfg:=aQ Tryz.prog (look? Dm) (look? Rn) (look? bA) (([]:List (Nat×Bool)).map (·.1)) hn.kl hn.pf
theorem Zj:am Ro (ax Dm) []:=trivial
noncomputable abbrev Ts:Nat×Lps:=(1005440,⟨tO,tP,gP⟩)
theorem Zk:am Ro (ax Dm) [Ts]:=aS (H:={hn with pr:=[(25,6,true),(25,7,true)]}) (n:=60) (live:=[0,4,7,45,46,47,1005440]) (b:=CO) (ps:=tO) (os:=tP) (st:=tQ) Zi ak Zj (by kernel_rfl) (by kernel_rfl) (fun x=>match x with| .inl x=>(by kernel_rfl)| .inr (x)=>(by kernel_rfl))
noncomputable def aij:Ctr:=⟨.cons (co) (.cons (fK) (.nil)),.cons (co) (.cons (jx) (.nil)),[(true,8),(true,8)],[(true,8),(true,10)],[],vt⟩
theorem aik:az Tryz.prog 15 aij:=aA (H:={hn with pr:=[(25,6,true),(25,7,true)]}) (n:=60) aB adB Zi ak Zk rfl rfl (fun x=>by kernel_rfl)
noncomputable def Rq:Ctr:=⟨.cons (co) (.cons (fK) (.nil)),.cons (co) (.cons (jx) (.nil)),[(true,8),(true,8)],[(true,8),(true,10)],[],eF⟩
theorem Zl:az Tryz.prog 15 Rq:=by
 have h:= @wg Tryz.prog 15 (.cons (co) (.cons (fK) (.nil))) (.cons (co) (.cons (jx) (.nil))) _ _ _ _ _ (fun x=>isEmpty x.1.2.2.2.2.2.2.1) (@wg Tryz.prog 15 (.cons (co) (.cons (fK) (.nil))) (.cons (co) (.cons (jx) (.nil))) _ _ _ _ _ (fun x=>isEmpty x.1.2.2.2.2.2.2.2.1) aik aii) (@wg Tryz.prog 15 (.cons (co) (.cons (fK) (.nil))) (.cons (co) (.cons (jx) (.nil))) _ _ _ _ _ (fun x=>isEmpty x.1.2.2.2.2.2.2.2.1) aig aie)
 exact h
noncomputable def NW:List (Nat×CF):=[(55,c55)]
theorem ail:aW Tryz.prog NW:=⟨⟨_,_,Tryz.func55,t55⟩,trivial⟩
noncomputable def Zm:List (Nat×Ctr):=[(14,K14),(15,Rq)]
theorem Zn:aJ Tryz.prog Zm:=⟨k14,Zl,trivial⟩
noncomputable abbrev aim:Cfg:=aQ Tryz.prog (look? NW) (look? Zm) (look? bA) (([]:List (Nat×Bool)).map (·.1)) hn.kl hn.pf
theorem adC:am aim (ax NW) []:=trivial
noncomputable def K55:Ctr:=⟨.nil,bJ,[],[(true,8)],[],LA⟩
theorem k55:az Tryz.prog 55 K55:=aA (H:=hn) (n:=60) aB ail Zn ak adC rfl rfl (fun x=>by kernel_rfl)
noncomputable def Kd:List (Nat×CF):=[(72,c72),(109,afq),(110,aeK)]
theorem ain:aW Tryz.prog Kd:=⟨⟨_,_,Tryz.func72,t72⟩,⟨_,_,Tryz.func109,agB⟩,⟨_,_,Tryz.func110,afO⟩,trivial⟩
noncomputable def Zo:List (Nat×Ctr):=[(111,YX),(15,Rq)]
theorem h72:aJ Tryz.prog Zo:=⟨aia,Zl,trivial⟩
noncomputable abbrev Zp:Cfg:=aQ Tryz.prog (look? Kd) (look? Zo) (look? bA) (([]:List (Nat×Bool)).map (·.1)) hn.kl hn.pf
theorem adD:am Zp (ax Kd) []:=trivial
noncomputable abbrev Zq:Nat×Lps:=(1004608,⟨vu,vv,fe⟩)
theorem adE:am Zp (ax Kd) [Zq]:=aS (H:=hn) (n:=60) (live:=[1,2,4,6,7,8,1004608]) (b:=abw) (ps:=vu) (os:=vv) (st:=gQ) h72 ak adD (by kernel_rfl) (by kernel_rfl) (fun x=>by kernel_rfl)
noncomputable def K72:Ctr:=⟨.cons (co) (.cons (.row (.b)) (.nil)),.cons (co) (.cons (.row (fK)) (.nil)),[(true,8),(false,1)],[(true,8),(false,1)],[],zq⟩
theorem k72:az Tryz.prog 72 K72:=aA (H:=hn) (n:=60) aB ain h72 ak adE rfl rfl (fun x=>by kernel_rfl)
noncomputable def NX:List (Nat×CF):=[(20,c20)]
theorem aio:aW Tryz.prog NX:=⟨⟨_,_,Tryz.func20,t20⟩,trivial⟩
noncomputable def Zr:List (Nat×Ctr):=[(55,K55),(22,YU),(15,Rq)]
theorem h20:aJ Tryz.prog Zr:=⟨k55,k22,Zl,trivial⟩
noncomputable abbrev aip:Cfg:=aQ Tryz.prog (look? NX) (look? Zr) (look? bA) (([]:List (Nat×Bool)).map (·.1)) hn.kl hn.pf
theorem adF:am aip (ax NX) []:=trivial
noncomputable def K20:Ctr:=⟨.nil,.cons (.b) (.nil),[],[(false,1)],[],PM⟩
theorem k20:az Tryz.prog 20 K20:=aA (H:=hn) (n:=60) aB aio h20 ak adF rfl rfl (fun x=>by kernel_rfl)
noncomputable def Ke:List (Nat×CF):=[(36,c36)]
theorem aiq:aW Tryz.prog Ke:=⟨⟨_,_,Tryz.func36,t36⟩,trivial⟩
noncomputable def Zs:List (Nat×Ctr):=[(71,K71),(25,He),(72,K72),(73,WL)]
theorem h36:aJ Tryz.prog Zs:=⟨k71,LE,k72,k73,trivial⟩
noncomputable abbrev Zt:Cfg:=aQ Tryz.prog (look? Ke) (look? Zs) (look? bA) (([]:List (Nat×Bool)).map (·.1)) hn.kl hn.pf
theorem adG:am Zt (ax Ke) []:=trivial
noncomputable abbrev Zu:Nat×Lps:=(1002304,⟨vw,vx,cj⟩)
theorem adH:am Zt (ax Ke) [Zu]:=aS (H:=hn) (n:=60) (live:=[1,3,6,10,28,29,1002304]) (b:=abx) (ps:=vw) (os:=vx) (st:=bU) h36 ak adG (by kernel_rfl) (by kernel_rfl) (fun x=>match x with| .inl x=>(by kernel_rfl)| .inr (.inl x)=>(by kernel_rfl)| .inr (.inr (.inl x))=>(by kernel_rfl)| .inr (.inr (.inr (.inl x)))=>(by kernel_rfl)| .inr (.inr (.inr (.inr (x))))=>(by kernel_rfl))
noncomputable def K36:Ctr:=⟨.cons (co) (.cons (.row (.b)) (.cons (.i .i64) (.nil))),.cons (co) (.cons (.i .i64) (.cons (.i .i64) (.nil))),[(true,8),(false,1),(false,1)],[(true,8),(false,1),(false,1)],[],Hb⟩
theorem k36:az Tryz.prog 36 K36:=aA (H:=hn) (n:=60) aB aiq h36 ak adH rfl rfl (fun x=>by kernel_rfl)
noncomputable def Hk:List (Nat×CF):=[(8,c8)]
theorem td8:aW Tryz.prog Hk:=⟨⟨_,_,Tryz.func8,t8⟩,trivial⟩
noncomputable def ct8:List (Nat×Ctr):=[(20,K20),(35,K35),(22,YU),(36,K36)]
theorem h8:aJ Tryz.prog ct8:=⟨k20,k35,k22,k36,trivial⟩
noncomputable abbrev Rr:Cfg:=aQ Tryz.prog (look? Hk) (look? ct8) (look? bA) (([]:List (Nat×Bool)).map (·.1)) hn.kl hn.pf
theorem air:am Rr (ax Hk) []:=trivial
noncomputable abbrev Kf:Nat×Lps:=(1000514,⟨wL,wM,rz⟩)
theorem ais:am Rr (ax Hk) [Kf]:=aS (H:=hn) (n:=60) (live:=[1,9,12,1000514]) (b:=aft) (ps:=wL) (os:=wM) (st:=iD) h8 ak air (by kernel_rfl) (by kernel_rfl) (fun x=>by kernel_rfl)
noncomputable abbrev Rs:Nat×Lps:=(1000513,⟨wN,wO,rA⟩)
theorem ait:am Rr (ax Hk) [Rs,Kf]:=aS (H:=hn) (n:=60) (live:=[1,4,6,7,1000513]) (b:=afr) (ps:=wN) (os:=wO) (st:=iE) h8 ak ais (by kernel_rfl) (by kernel_rfl) (fun x=>by kernel_rfl)
noncomputable abbrev adI:Nat×Lps:=(1000512,⟨wP,wQ,rB⟩)
theorem aiu:am Rr (ax Hk) [adI,Rs,Kf]:=aS (H:=hn) (n:=60) (live:=[1,4,6,1000512]) (b:=afs) (ps:=wP) (os:=wQ) (st:=iF) h8 ak ait (by kernel_rfl) (by kernel_rfl) (fun x=>by kernel_rfl)
noncomputable def K8:Ctr:=⟨bJ,.cons (.b) (.nil),[(true,8)],[(false,1)],[],F8⟩
theorem k8:az Tryz.prog 8 K8:=aA (H:=hn) (n:=60) aB td8 h8 ak aiu rfl rfl (fun x=>by kernel_rfl)
end Go.Proofs.YtbkjflfbgknagaaGreat.fairWell.Code
