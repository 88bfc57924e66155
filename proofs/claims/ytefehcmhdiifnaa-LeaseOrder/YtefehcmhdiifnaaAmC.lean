/- The abstract machine once more, in a form that the kernel runs fast, and the proof that both agree. -/
import Derived.Test.YtefehcmhdiifnaaAmB
import Derived.Laws.Strings
set_option linter.unusedVariables false
namespace Go.Am

/-! Evaluation with forced state, for the kernel. -/
def binF : BinOp → AV → AV → Option AV
  | .shl, .int k a, .int _ b => if b < 0 then none else some (.int k (k.wrap (a * 2 ^ (min b.toNat k.bits))))
  | .shr, .int k a, .int _ b => if b < 0 then none else some (.int k (a.fdiv (2 ^ (min b.toNat k.bits))))
  | op, .int k a, .int k' b =>
    if k ≠ k' then none else
    match op with
    | .add => some (.int k (k.wrap (a + b)))
    | .sub => some (.int k (k.wrap (a - b)))
    | .mul => some (.int k (k.wrap (a * b)))
    | .quo => if b = 0 then none else some (.int k (k.wrap (a.tdiv b)))
    | .rem => if b = 0 then none else some (.int k (a.tmod b))
    | .and => some (.int k (k.wrap (BitVec.ofInt k.bits a &&& BitVec.ofInt k.bits b).toNat))
    | .or => some (.int k (k.wrap (BitVec.ofInt k.bits a ||| BitVec.ofInt k.bits b).toNat))
    | .xor => some (.int k (k.wrap (BitVec.ofInt k.bits a ^^^ BitVec.ofInt k.bits b).toNat))
    | .andNot => some (.int k (k.wrap (BitVec.ofInt k.bits a &&& ~~~ BitVec.ofInt k.bits b).toNat))
    | .eql => some (.bl (a == b))
    | .neq => some (.bl (a != b))
    | .lss => some (.bl (decide (a < b)))
    | .leq => some (.bl (decide (a ≤ b)))
    | .gtr => some (.bl (decide (a > b)))
    | .geq => some (.bl (decide (a ≥ b)))
    | _ => none
  | op, .st a, .st b => match op with
    | .add => if ((a.size + b.size : Nat) : Int) > IntKind.i64.max then none else some (.st (a ++ b))
    | .eql => some (.bl (a.data.toList == b.data.toList))
    | .neq => some (.bl (!(a.data.toList == b.data.toList)))
    | .lss => some (.bl (Op.bytesLess a.data.toList b.data.toList))
    | .leq => some (.bl (Op.bytesLess a.data.toList b.data.toList || a.data.toList == b.data.toList))
    | .gtr => some (.bl (!(Op.bytesLess a.data.toList b.data.toList || a.data.toList == b.data.toList)))
    | .geq => some (.bl (!Op.bytesLess a.data.toList b.data.toList))
    | _ => none
  | _, _, _ => none

def eqCF : Nat → AV → AV → Option Bool
  | 1, .int k a, .int k' b => if k = k' then some (a == b) else none
  | 0, .bl a, .bl b => some (a == b)
  | 2, .st a, .st b => some (a.data.toList == b.data.toList)
  | _, _, _ => none
def eqCsF : List Nat → List AV → List AV → Option Bool
  | [], [], [] => some true
  | k :: ks, x :: xs, y :: ys => match eqCF k x y with
    | some true => eqCsF ks xs ys
    | some false => some false
    | none => none
  | _, _, _ => none

def fN {β : Type} (n : Nat) (c : Nat → β) : β := match n with
  | 0 => c 0
  | m + 1 => c (m + 1)
def fI {β : Type} (n : Int) (c : Int → β) : β := match n with
  | .ofNat m => fN m fun m => c (.ofNat m)
  | .negSucc m => fN m fun m => c (.negSucc m)
def fNs {β : Type} : List Nat → (List Nat → β) → β
  | [], c => c []
  | n :: l, c => fN n fun n => fNs l fun l => c (n :: l)
def fB {β : Type} (b : Bool) (c : Bool → β) : β := match b with
  | true => c true
  | false => c false
mutual
def fV {β : Type} : AV → (AV → β) → β
  | .int k n, c => fI n fun n => c (.int k n)
  | .bl b, c => fB b fun b => c (.bl b)
  | .st s, c => c (.st s)
  | .np, c => c .np | .nm, c => c .nm | .nf, c => c .nf | .ni, c => c .ni | .ns, c => c .ns | .ez, c => c .ez | .ud, c => c .ud
  | .ag cs, c => fVs cs fun cs => c (.ag cs)
  | .tp cs, c => fVs cs fun cs => c (.tp cs)
  | .ls sz es, c => fN sz fun sz => fVss es fun es => c (.ls sz es)
  | .sl sz b lo len, c => fN sz fun sz => fN b fun b => fN lo fun lo => fN len fun len => c (.sl sz b lo len)
  | .re sz b i off, c => fN sz fun sz => fN b fun b => fN i fun i => fN off fun off => c (.re sz b i off)
  | .ri sz es i off, c => fN sz fun sz => fVss es fun es => fN i fun i => fN off fun off => c (.ri sz es i off)
  | .fn f caps, c => fN f fun f => fVs caps fun caps => c (.fn f caps)
  | .mp b, c => fN b fun b => c (.mp b)
  | .ow sz es, c => fN sz fun sz => fVss es fun es => c (.ow sz es)
def fVs {β : Type} : List AV → (List AV → β) → β
  | [], c => c []
  | v :: l, c => fV v fun v => fVs l fun l => c (v :: l)
def fVss {β : Type} : List (List AV) → (List (List AV) → β) → β
  | [], c => c []
  | v :: l, c => fVs v fun v => fVss l fun l => c (v :: l)
end
def fPs {β : Type} : List (AV × AV) → (List (AV × AV) → β) → β
  | [], c => c []
  | (k, v) :: l, c => fV k fun k => fV v fun v => fPs l fun l => c ((k, v) :: l)
def fK {β : Type} : BK → (BK → β) → β
  | .rw v sz es t, c => fB v fun v => fN sz fun sz => fVss es fun es => c (.rw v sz es t)
  | .mp es, c => fPs es fun es => c (.mp es)
  | .dd, c => c .dd
def fH {β : Type} : List (Nat × BK) → (List (Nat × BK) → β) → β
  | [], c => c []
  | (n, k) :: l, c => fN n fun n => fK k fun k => fH l fun l => c ((n, k) :: l)
def fT {β : Type} : List (Nat × AV) → (List (Nat × AV) → β) → β
  | [], c => c []
  | (n, k) :: l, c => fN n fun n => fV k fun k => fT l fun l => c ((n, k) :: l)
def fE {β : Type} (e : Ef) (c : Ef → β) : β := match e with
  | ⟨v, h, nx⟩ => fV v fun v => fH h fun h => fN nx fun nx => c ⟨v, h, nx⟩
/-- Operations that leave memory as it is. -/
def still : COp → Bool
  | .mv .. | .pk .. | .bd .. | .bn .. | .ea .. | .eb .. | .un .. | .ci .. | .cv1 .. | .fd .. | .ix .. | .si .. | .ss .. | .ex .. | .mf .. | .mx .. | .mn .. | .ld .. | .nc .. | .nq .. | .fa .. | .ia .. | .sc .. | .le .. | .lk .. => true
  | _ => false
def fO {β : Type} (o : COp) (e : Ef) (c : Ef → β) : β := match still o with
  | true => match e with
    | ⟨v, h, nx⟩ => fV v fun v => fN nx fun nx => c ⟨v, h, nx⟩
  | false => fE e c
def fOver {β : Type} (h : List (Nat × BK)) (f : Nat → BK) (wr : List Nat) (c : List (Nat × BK) → β) : β := match wr with
  | [] => c h
  | b :: wr => fH (over h f (b :: wr)) c
def fS {β : Type} (S : St) (c : St → β) : β := match S with
  | ⟨tm, h, nx, bs⟩ => fT tm fun tm => fH h fun h => fN nx fun nx => fN bs fun bs => c ⟨tm, h, nx, bs⟩

end Go.Am
set_option linter.unusedVariables false
namespace Go.Am
theorem fN_eq {β : Type} (n : Nat) (c : Nat → β) : fN n c = c n := by cases n <;> rfl
theorem fI_eq {β : Type} (n : Int) (c : Int → β) : fI n c = c n := by cases n <;> simp [fI, fN_eq]
theorem fB_eq {β : Type} (n : Bool) (c : Bool → β) : fB n c = c n := by cases n <;> rfl
theorem fNs_eq {β : Type} : ∀ (l : List Nat) (c : List Nat → β), fNs l c = c l
  | [], c => rfl
  | n :: l, c => by simp [fNs, fN_eq, fNs_eq l]
mutual
theorem fV_eq {β : Type} : ∀ (v : AV) (c : AV → β), fV v c = c v
  | .int k n, c => by simp [fV, fI_eq]
  | .bl b, c => by simp [fV, fB_eq]
  | .st s, c => by simp [fV]
  | .np, c => by simp [fV]
  | .nm, c => by simp [fV]
  | .nf, c => by simp [fV]
  | .ni, c => by simp [fV]
  | .ns, c => by simp [fV]
  | .ez, c => by simp [fV]
  | .ud, c => by simp [fV]
  | .ag cs, c => by simp [fV, fVs_eq cs]
  | .tp cs, c => by simp [fV, fVs_eq cs]
  | .ls sz es, c => by simp [fV, fN_eq, fVss_eq es]
  | .sl sz b lo len, c => by simp [fV, fN_eq]
  | .re sz b i off, c => by simp [fV, fN_eq]
  | .ri sz es i off, c => by simp [fV, fN_eq, fVss_eq es]
  | .fn f caps, c => by simp [fV, fN_eq, fVs_eq caps]
  | .mp b, c => by simp [fV, fN_eq]
  | .ow sz es, c => by simp [fV, fN_eq, fVss_eq es]
theorem fVs_eq {β : Type} : ∀ (l : List AV) (c : List AV → β), fVs l c = c l
  | [], c => by simp [fVs]
  | v :: l, c => by simp [fVs, fV_eq v, fVs_eq l]
theorem fVss_eq {β : Type} : ∀ (l : List (List AV)) (c : List (List AV) → β), fVss l c = c l
  | [], c => by simp [fVss]
  | v :: l, c => by simp [fVss, fVs_eq v, fVss_eq l]
end
theorem fPs_eq {β : Type} : ∀ (l : List (AV × AV)) (c : List (AV × AV) → β), fPs l c = c l
  | [], c => rfl
  | (k, v) :: l, c => by simp [fPs, fV_eq, fPs_eq l]
theorem fK_eq {β : Type} (k : BK) (c : BK → β) : fK k c = c k := by cases k <;> simp [fK, fB_eq, fN_eq, fVss_eq, fPs_eq]
theorem fH_eq {β : Type} : ∀ (l : List (Nat × BK)) (c : List (Nat × BK) → β), fH l c = c l
  | [], c => rfl
  | (n, k) :: l, c => by simp [fH, fN_eq, fK_eq, fH_eq l]
theorem fT_eq {β : Type} : ∀ (l : List (Nat × AV)) (c : List (Nat × AV) → β), fT l c = c l
  | [], c => rfl
  | (n, k) :: l, c => by simp [fT, fN_eq, fV_eq, fT_eq l]
theorem fE_eq {β : Type} (e : Ef) (c : Ef → β) : fE e c = c e := by cases e; simp [fE, fV_eq, fH_eq, fN_eq]
theorem fO_eq {β : Type} (o : COp) (e : Ef) (c : Ef → β) : fO o e c = c e := by
  unfold fO
  split
  · cases e; simp [fV_eq, fN_eq]
  · exact fE_eq e c
theorem fS_eq {β : Type} (S : St) (c : St → β) : fS S c = c S := by cases S; simp [fS, fT_eq, fH_eq, fN_eq]

theorem fOver_eq {β : Type} (h : List (Nat × BK)) (f : Nat → BK) (wr : List Nat) (c : List (Nat × BK) → β) : fOver h f wr c = c (over h f wr) := by
  cases wr <;> simp [fOver, fH_eq, over]

end Go.Am
set_option linter.unusedVariables false
namespace Go.Am
noncomputable section

/-! Evaluation by recursors, in passing style: for the kernel. -/
abbrev R := Option (EX × St)
abbrev TT := List (Nat × AV)
abbrev HH := List (Nat × BK)
abbrev KE := AV → HH → Nat → R

def bK (b : Bool) (t e : R) : R := @Bool.rec (fun _ => R) e t b
def nK (n : Nat) (k : Nat → R) : R := @Nat.rec (fun _ => R) (k Nat.zero) (fun m _ => k (Nat.succ m)) n

def dInt (v : AV) (k : IntKind → Int → R) (d : R) : R :=
  @AV.rec (fun _ => (IntKind → Int → R) → R → R) (fun _ => PUnit) (fun _ => PUnit)
    (fun k n κ d => κ k n)
    (fun b κ d => d)
    (fun s κ d => d)
    (fun κ d => d)
    (fun κ d => d)
    (fun κ d => d)
    (fun κ d => d)
    (fun κ d => d)
    (fun κ d => d)
    (fun κ d => d)
    (fun cs _ih κ d => d)
    (fun vs _ih κ d => d)
    (fun sz es _ih κ d => d)
    (fun sz b lo len κ d => d)
    (fun sz b i off κ d => d)
    (fun sz es i off _ih κ d => d)
    (fun f caps _ih κ d => d)
    (fun b κ d => d)
    (fun sz es _ih κ d => d)
    PUnit.unit (fun _ _ _ _ => PUnit.unit) PUnit.unit (fun _ _ _ _ => PUnit.unit) v k d

def dBl (v : AV) (k : Bool → R) (d : R) : R :=
  @AV.rec (fun _ => (Bool → R) → R → R) (fun _ => PUnit) (fun _ => PUnit)
    (fun k n κ d => d)
    (fun b κ d => κ b)
    (fun s κ d => d)
    (fun κ d => d)
    (fun κ d => d)
    (fun κ d => d)
    (fun κ d => d)
    (fun κ d => d)
    (fun κ d => d)
    (fun κ d => d)
    (fun cs _ih κ d => d)
    (fun vs _ih κ d => d)
    (fun sz es _ih κ d => d)
    (fun sz b lo len κ d => d)
    (fun sz b i off κ d => d)
    (fun sz es i off _ih κ d => d)
    (fun f caps _ih κ d => d)
    (fun b κ d => d)
    (fun sz es _ih κ d => d)
    PUnit.unit (fun _ _ _ _ => PUnit.unit) PUnit.unit (fun _ _ _ _ => PUnit.unit) v k d

def dSt (v : AV) (k : ByteArray → R) (d : R) : R :=
  @AV.rec (fun _ => (ByteArray → R) → R → R) (fun _ => PUnit) (fun _ => PUnit)
    (fun k n κ d => d)
    (fun b κ d => d)
    (fun s κ d => κ s)
    (fun κ d => d)
    (fun κ d => d)
    (fun κ d => d)
    (fun κ d => d)
    (fun κ d => d)
    (fun κ d => d)
    (fun κ d => d)
    (fun cs _ih κ d => d)
    (fun vs _ih κ d => d)
    (fun sz es _ih κ d => d)
    (fun sz b lo len κ d => d)
    (fun sz b i off κ d => d)
    (fun sz es i off _ih κ d => d)
    (fun f caps _ih κ d => d)
    (fun b κ d => d)
    (fun sz es _ih κ d => d)
    PUnit.unit (fun _ _ _ _ => PUnit.unit) PUnit.unit (fun _ _ _ _ => PUnit.unit) v k d

def dAg (v : AV) (k : List AV → R) (d : R) : R :=
  @AV.rec (fun _ => (List AV → R) → R → R) (fun _ => PUnit) (fun _ => PUnit)
    (fun k n κ d => d)
    (fun b κ d => d)
    (fun s κ d => d)
    (fun κ d => d)
    (fun κ d => d)
    (fun κ d => d)
    (fun κ d => d)
    (fun κ d => d)
    (fun κ d => d)
    (fun κ d => d)
    (fun cs _ih κ d => κ cs)
    (fun vs _ih κ d => d)
    (fun sz es _ih κ d => d)
    (fun sz b lo len κ d => d)
    (fun sz b i off κ d => d)
    (fun sz es i off _ih κ d => d)
    (fun f caps _ih κ d => d)
    (fun b κ d => d)
    (fun sz es _ih κ d => d)
    PUnit.unit (fun _ _ _ _ => PUnit.unit) PUnit.unit (fun _ _ _ _ => PUnit.unit) v k d

def dTp (v : AV) (k : List AV → R) (d : R) : R :=
  @AV.rec (fun _ => (List AV → R) → R → R) (fun _ => PUnit) (fun _ => PUnit)
    (fun k n κ d => d)
    (fun b κ d => d)
    (fun s κ d => d)
    (fun κ d => d)
    (fun κ d => d)
    (fun κ d => d)
    (fun κ d => d)
    (fun κ d => d)
    (fun κ d => d)
    (fun κ d => d)
    (fun cs _ih κ d => d)
    (fun vs _ih κ d => κ vs)
    (fun sz es _ih κ d => d)
    (fun sz b lo len κ d => d)
    (fun sz b i off κ d => d)
    (fun sz es i off _ih κ d => d)
    (fun f caps _ih κ d => d)
    (fun b κ d => d)
    (fun sz es _ih κ d => d)
    PUnit.unit (fun _ _ _ _ => PUnit.unit) PUnit.unit (fun _ _ _ _ => PUnit.unit) v k d

def dMp (v : AV) (k : Nat → R) (d : R) : R :=
  @AV.rec (fun _ => (Nat → R) → R → R) (fun _ => PUnit) (fun _ => PUnit)
    (fun k n κ d => d)
    (fun b κ d => d)
    (fun s κ d => d)
    (fun κ d => d)
    (fun κ d => d)
    (fun κ d => d)
    (fun κ d => d)
    (fun κ d => d)
    (fun κ d => d)
    (fun κ d => d)
    (fun cs _ih κ d => d)
    (fun vs _ih κ d => d)
    (fun sz es _ih κ d => d)
    (fun sz b lo len κ d => d)
    (fun sz b i off κ d => d)
    (fun sz es i off _ih κ d => d)
    (fun f caps _ih κ d => d)
    (fun b κ d => κ b)
    (fun sz es _ih κ d => d)
    PUnit.unit (fun _ _ _ _ => PUnit.unit) PUnit.unit (fun _ _ _ _ => PUnit.unit) v k d

def dFn (v : AV) (k : FuncId → List AV → R) (d : R) : R :=
  @AV.rec (fun _ => (FuncId → List AV → R) → R → R) (fun _ => PUnit) (fun _ => PUnit)
    (fun k n κ d => d)
    (fun b κ d => d)
    (fun s κ d => d)
    (fun κ d => d)
    (fun κ d => d)
    (fun κ d => d)
    (fun κ d => d)
    (fun κ d => d)
    (fun κ d => d)
    (fun κ d => d)
    (fun cs _ih κ d => d)
    (fun vs _ih κ d => d)
    (fun sz es _ih κ d => d)
    (fun sz b lo len κ d => d)
    (fun sz b i off κ d => d)
    (fun sz es i off _ih κ d => d)
    (fun f caps _ih κ d => κ f caps)
    (fun b κ d => d)
    (fun sz es _ih κ d => d)
    PUnit.unit (fun _ _ _ _ => PUnit.unit) PUnit.unit (fun _ _ _ _ => PUnit.unit) v k d

def dPt (v : AV) (k : Nat → Nat → Nat → Nat → R) (j : Nat → List (List AV) → Nat → Nat → R) (d : R) : R :=
  @AV.rec (fun _ => (Nat → Nat → Nat → Nat → R) → (Nat → List (List AV) → Nat → Nat → R) → R → R) (fun _ => PUnit) (fun _ => PUnit)
    (fun k n κ j d => d)
    (fun b κ j d => d)
    (fun s κ j d => d)
    (fun κ j d => d)
    (fun κ j d => d)
    (fun κ j d => d)
    (fun κ j d => d)
    (fun κ j d => d)
    (fun κ j d => d)
    (fun κ j d => d)
    (fun cs _ih κ j d => d)
    (fun vs _ih κ j d => d)
    (fun sz es _ih κ j d => d)
    (fun sz b lo len κ j d => d)
    (fun sz b i off κ j d => κ sz b i off)
    (fun sz es i off _ih κ j d => j sz es i off)
    (fun f caps _ih κ j d => d)
    (fun b κ j d => d)
    (fun sz es _ih κ j d => d)
    PUnit.unit (fun _ _ _ _ => PUnit.unit) PUnit.unit (fun _ _ _ _ => PUnit.unit) v k j d

def dSl (v : AV) (kn : R) (ke : R) (kl : Nat → List (List AV) → R) (ks : Nat → Nat → Nat → Nat → R) (d : R) : R :=
  @AV.rec (fun _ => R → R → (Nat → List (List AV) → R) → (Nat → Nat → Nat → Nat → R) → R → R) (fun _ => PUnit) (fun _ => PUnit)
    (fun k n kn ke kl ks d => d)
    (fun b kn ke kl ks d => d)
    (fun s kn ke kl ks d => d)
    (fun kn ke kl ks d => d)
    (fun kn ke kl ks d => d)
    (fun kn ke kl ks d => d)
    (fun kn ke kl ks d => d)
    (fun kn ke kl ks d => kn)
    (fun kn ke kl ks d => ke)
    (fun kn ke kl ks d => d)
    (fun cs _ih kn ke kl ks d => d)
    (fun vs _ih kn ke kl ks d => d)
    (fun sz es _ih kn ke kl ks d => kl sz es)
    (fun sz b lo len kn ke kl ks d => ks sz b lo len)
    (fun sz b i off kn ke kl ks d => d)
    (fun sz es i off _ih kn ke kl ks d => d)
    (fun f caps _ih kn ke kl ks d => d)
    (fun b kn ke kl ks d => d)
    (fun sz es _ih kn ke kl ks d => d)
    PUnit.unit (fun _ _ _ _ => PUnit.unit) PUnit.unit (fun _ _ _ _ => PUnit.unit) v kn ke kl ks d

def dCells (v : AV) (k : List AV → R) (d : R) : R :=
  @AV.rec (fun _ => (List AV → R) → R → R) (fun _ => PUnit) (fun _ => PUnit)
    (fun k n κ d => κ [(AV.int k n)])
    (fun b κ d => κ [(AV.bl b)])
    (fun s κ d => κ [(AV.st s)])
    (fun κ d => κ [(AV.np)])
    (fun κ d => κ [(AV.nm)])
    (fun κ d => κ [(AV.nf)])
    (fun κ d => κ [(AV.ni)])
    (fun κ d => κ [(AV.ns)])
    (fun κ d => κ [(AV.ez)])
    (fun κ d => d)
    (fun cs _ih κ d => κ cs)
    (fun vs _ih κ d => d)
    (fun sz es _ih κ d => κ [(AV.ls sz es)])
    (fun sz b lo len κ d => κ [(AV.sl sz b lo len)])
    (fun sz b i off κ d => κ [(AV.re sz b i off)])
    (fun sz es i off _ih κ d => κ [(AV.ri sz es i off)])
    (fun f caps _ih κ d => κ [(AV.fn f caps)])
    (fun b κ d => κ [(AV.mp b)])
    (fun sz es _ih κ d => d)
    PUnit.unit (fun _ _ _ _ => PUnit.unit) PUnit.unit (fun _ _ _ _ => PUnit.unit) v k d

def dFlat (v : AV) (k : AV → R) (d : R) : R :=
  @AV.rec (fun _ => (AV → R) → R → R) (fun _ => PUnit) (fun _ => PUnit)
    (fun k n κ d => κ (AV.int k n))
    (fun b κ d => κ (AV.bl b))
    (fun s κ d => κ (AV.st s))
    (fun κ d => κ (AV.np))
    (fun κ d => κ (AV.nm))
    (fun κ d => κ (AV.nf))
    (fun κ d => κ (AV.ni))
    (fun κ d => κ (AV.ns))
    (fun κ d => κ (AV.ez))
    (fun κ d => d)
    (fun cs _ih κ d => d)
    (fun vs _ih κ d => d)
    (fun sz es _ih κ d => κ (AV.ls sz es))
    (fun sz b lo len κ d => d)
    (fun sz b i off κ d => d)
    (fun sz es i off _ih κ d => κ (AV.ri sz es i off))
    (fun f caps _ih κ d => d)
    (fun b κ d => d)
    (fun sz es _ih κ d => d)
    PUnit.unit (fun _ _ _ _ => PUnit.unit) PUnit.unit (fun _ _ _ _ => PUnit.unit) v k d

def dNil (κ : Nat) (v : AV) (t f0 d : R) : R :=
  @AV.rec (fun _ => Nat → R → R → R → R) (fun _ => PUnit) (fun _ => PUnit)
    (fun k n κ t f0 d => d)
    (fun b κ t f0 d => d)
    (fun s κ t f0 d => d)
    (fun κ t f0 d => bK (Nat.beq κ 0) t d)
    (fun κ t f0 d => bK (Nat.beq κ 4) t d)
    (fun κ t f0 d => bK (Nat.beq κ 3) t d)
    (fun κ t f0 d => bK (Nat.beq κ 2) t d)
    (fun κ t f0 d => bK (Nat.beq κ 1) t d)
    (fun κ t f0 d => d)
    (fun κ t f0 d => d)
    (fun cs _ih κ t f0 d => d)
    (fun vs _ih κ t f0 d => d)
    (fun sz es _ih κ t f0 d => bK (Nat.beq κ 1) f0 d)
    (fun sz b lo len κ t f0 d => d)
    (fun sz b i off κ t f0 d => d)
    (fun sz es i off _ih κ t f0 d => bK (Nat.beq κ 0) f0 d)
    (fun f caps _ih κ t f0 d => bK (Nat.beq κ 3) f0 d)
    (fun b κ t f0 d => d)
    (fun sz es _ih κ t f0 d => d)
    PUnit.unit (fun _ _ _ _ => PUnit.unit) PUnit.unit (fun _ _ _ _ => PUnit.unit) v κ t f0 d

def dUd (v : AV) (t e : R) : R :=
  @AV.rec (fun _ => R → R → R) (fun _ => PUnit) (fun _ => PUnit)
    (fun k n t e => e)
    (fun b t e => e)
    (fun s t e => e)
    (fun t e => e)
    (fun t e => e)
    (fun t e => e)
    (fun t e => e)
    (fun t e => e)
    (fun t e => e)
    (fun t e => t)
    (fun cs _ih t e => e)
    (fun vs _ih t e => e)
    (fun sz es _ih t e => e)
    (fun sz b lo len t e => e)
    (fun sz b i off t e => e)
    (fun sz es i off _ih t e => e)
    (fun f caps _ih t e => e)
    (fun b t e => e)
    (fun sz es _ih t e => e)
    PUnit.unit (fun _ _ _ _ => PUnit.unit) PUnit.unit (fun _ _ _ _ => PUnit.unit) v t e

def dRw (v : BK) (k : Bool → Nat → List (List AV) → TypeId → R) (d : R) : R :=
  @BK.rec (fun _ => (Bool → Nat → List (List AV) → TypeId → R) → R → R) (fun v sz es t κ d => κ v sz es t) (fun _ κ d => d) (fun κ d => d) v k d
def dMk (v : BK) (k : List (AV × AV) → R) (d : R) : R :=
  @BK.rec (fun _ => (List (AV × AV) → R) → R → R) (fun v sz es t κ d => d) (fun es κ d => κ es) (fun κ d => d) v k d
def dDd (v : BK) (t e : R) : R :=
  @BK.rec (fun _ => R → R → R) (fun v sz es ty t e => e) (fun es t e => e) (fun t e => t) v t e

def lkV (tm : TT) (n : Nat) (k : AV → R) : R :=
  @List.rec (Nat × AV) (fun _ => R) (k .ud) (fun p _ ih => @Prod.rec Nat AV (fun _ => R) (fun a v => @Bool.rec (fun _ => R) ih (k v) (Nat.beq a n)) p) tm
def lkB (h : HH) (n : Nat) (k : BK → R) : R :=
  @List.rec (Nat × BK) (fun _ => R) (k .dd) (fun p _ ih => @Prod.rec Nat BK (fun _ => R) (fun a v => @Bool.rec (fun _ => R) ih (k v) (Nat.beq a n)) p) h
def rdV (x : Opd) (tm : TT) (k : AV → R) : R := @Opd.rec (fun _ => R) (fun n => lkV tm n k) (fun v => k v) x

section
variable {α : Type}
def drK (n : Nat) (l : List α) (k : List α → R) (d : R) : R :=
  @Nat.rec (fun _ => List α → R) k (fun _ ih l => @List.rec α (fun _ => R) d (fun _ l _ => ih l) l) n l
def tkK (n : Nat) (l : List α) (k : List α → R) (d : R) : R :=
  @Nat.rec (fun _ => List α → (List α → R) → R) (fun _ k => k []) (fun _ ih l k => @List.rec α (fun _ => R) d (fun a l _ => ih l (fun t => k (a :: t))) l) n l k
def apK (l r : List α) (k : List α → R) : R :=
  @List.rec α (fun _ => (List α → R) → R) (fun k => k r) (fun a _ ih k => ih (fun t => k (a :: t))) l k
def hdK (l : List α) (k : α → R) (d : R) : R := @List.rec α (fun _ => R) d (fun a _ _ => k a) l
def ntK (i : Nat) (l : List α) (k : α → R) (d : R) : R := drK i l (fun l => hdK l k d) d
def stK (i : Nat) (x : α) (l : List α) (k : List α → R) (d : R) : R :=
  @Nat.rec (fun _ => List α → (List α → R) → R) (fun l k => @List.rec α (fun _ => R) d (fun _ l _ => k (x :: l)) l) (fun _ ih l k => @List.rec α (fun _ => R) d (fun a l _ => ih l (fun t => k (a :: t))) l) i l k
def lnK (l : List α) : Nat := @List.rec α (fun _ => Nat) Nat.zero (fun _ _ ih => Nat.succ ih) l
def repK (n : Nat) (x : α) (k : List α → R) : R := @Nat.rec (fun _ => (List α → R) → R) (fun k => k []) (fun _ ih k => ih (fun t => k (x :: t))) n k
end
def spK (off : Nat) (new l : List AV) (k : List AV → R) (d : R) : R :=
  @Nat.rec (fun _ => List AV → (List AV → R) → R) (fun l k => drK (lnK new) l (fun r => apK new r k) d) (fun _ ih l k => @List.rec AV (fun _ => R) d (fun a l _ => ih l (fun t => k (a :: t))) l) off l k
def putK (h : HH) (n : Nat) (v : BK) (k : HH → R) : R :=
  @List.rec (Nat × BK) (fun _ => (HH → R) → R) (fun k => k [(n, v)]) (fun p l ih k => @Prod.rec Nat BK (fun _ => R) (fun a w => bK (Nat.beq a n) (k ((n, v) :: l)) (ih (fun t => k ((a, w) :: t)))) p) h k

def kIx (k : IntKind) : Nat := @IntKind.rec (fun _ => Nat) 0 1 2 3 4 5 6 7 k
def kEq (a b : IntKind) : Bool := Nat.beq (kIx a) (kIx b)
def mxK (k : IntKind) : Nat := @IntKind.rec (fun _ => Nat) 127 32767 2147483647 9223372036854775807 255 65535 4294967295 18446744073709551615 k
def ngK (k : IntKind) : Nat := @IntKind.rec (fun _ => Nat) 128 32768 2147483648 9223372036854775808 0 0 0 0 k
def wrapK (c : IntKind) (z : Int) (k : Int → R) : R :=
  @Int.rec (fun _ => R) (fun m => bK (Nat.ble m (mxK c)) (k (.ofNat m)) (fI (c.wrap (.ofNat m)) k)) (fun m => bK (Nat.ble (Nat.succ m) (ngK c)) (k (.negSucc m)) (fI (c.wrap (.negSucc m)) k)) z
def iAdd (a b : Int) (k : Int → R) : R :=
  @Int.rec (fun _ => R) (fun m => @Int.rec (fun _ => R) (fun n => nK (Nat.add m n) (fun s => k (.ofNat s))) (fun n => fI (Int.ofNat m + Int.negSucc n) k) b) (fun m => fI (Int.negSucc m + b) k) a
def iSub (a b : Int) (k : Int → R) : R :=
  @Int.rec (fun _ => R) (fun m => @Int.rec (fun _ => R) (fun n => bK (Nat.ble n m) (nK (Nat.sub m n) (fun s => k (.ofNat s))) (fI (Int.ofNat m - Int.ofNat n) k)) (fun n => fI (Int.ofNat m - Int.negSucc n) k) b) (fun m => fI (Int.negSucc m - b) k) a
def iEq (a b : Int) : Bool := @Int.rec (fun _ => Bool) (fun m => @Int.rec (fun _ => Bool) (fun n => Nat.beq m n) (fun _ => false) b) (fun m => @Int.rec (fun _ => Bool) (fun _ => false) (fun n => Nat.beq m n) b) a
def iLe (a b : Int) : Bool := @Int.rec (fun _ => Bool) (fun m => @Int.rec (fun _ => Bool) (fun n => Nat.ble m n) (fun _ => false) b) (fun m => @Int.rec (fun _ => Bool) (fun _ => true) (fun n => Nat.ble n m) b) a
def iLt (a b : Int) : Bool := @Bool.rec (fun _ => Bool) true false (iLe b a)
def byEq (a b : List UInt8) : Bool :=
  @List.rec UInt8 (fun _ => List UInt8 → Bool) (fun b => @List.rec UInt8 (fun _ => Bool) true (fun _ _ _ => false) b) (fun x _ ih b => @List.rec UInt8 (fun _ => Bool) false (fun y ys _ => @Bool.rec (fun _ => Bool) false (ih ys) (Nat.beq x.toNat y.toNat)) b) a b
def stEq (a b : ByteArray) : Bool := byEq a.data.toList b.data.toList

def slowB (op : BinOp) (v w : AV) (k : AV → R) : R := match binF op v w with
  | none => none
  | some r => fV r k
def ii (v w : AV) (k : IntKind → Int → Int → R) (d : R) : R := dInt v (fun c a => dInt w (fun c' b => bK (kEq c c') (k c a b) d) d) d
def tf (b : Bool) (k : AV → R) : R := bK b (k (.bl true)) (k (.bl false))
def bnK (op : BinOp) (v w : AV) (k : AV → R) : R :=
  @BinOp.rec (fun _ => AV → AV → (AV → R) → R)
    (fun v w k => ii v w (fun c a b => iAdd a b fun z => wrapK c z fun z => k (.int c z)) (slowB .add v w k))
    (fun v w k => ii v w (fun c a b => iSub a b fun z => wrapK c z fun z => k (.int c z)) (slowB .sub v w k))
    (slowB .mul) (slowB .quo) (slowB .rem) (slowB .and) (slowB .or) (slowB .xor) (slowB .shl) (slowB .shr) (slowB .andNot)
    (fun v w k => ii v w (fun c a b => tf (iEq a b) k) (dSt v (fun a => dSt w (fun b => tf (stEq a b) k) none) none))
    (fun v w k => ii v w (fun c a b => tf (@Bool.rec (fun _ => Bool) true false (iEq a b)) k) (dSt v (fun a => dSt w (fun b => tf (@Bool.rec (fun _ => Bool) true false (stEq a b)) k) none) none))
    (fun v w k => ii v w (fun c a b => tf (iLt a b) k) (slowB .lss v w k))
    (fun v w k => ii v w (fun c a b => tf (iLe a b) k) (slowB .leq v w k))
    (fun v w k => ii v w (fun c a b => tf (iLt b a) k) (slowB .gtr v w k))
    (fun v w k => ii v w (fun c a b => tf (iLe b a) k) (slowB .geq v w k)) op v w k

def slowE (o : COp) (tm : TT) (h : HH) (nx : Nat) (k : KE) : R := match opA tm h nx o with
  | none => none
  | some e => fO o e fun e => match e with
    | ⟨v, h, nx⟩ => k v h nx

/-- All cells are themselves in a row: they name no block. -/
def fltK (l : List AV) (k d : R) : R := @List.rec AV (fun _ => R) k (fun a _ ih => dFlat a (fun _ => ih) d) l
def nudK (l : List AV) (k d : R) : R := @List.rec AV (fun _ => R) k (fun a _ ih => dUd a d ih) l
def nudKs (l : List (List AV)) (k d : R) : R := @List.rec (List AV) (fun _ => R) k (fun a _ ih => nudK a ih d) l

def k_mv (x : Opd) (tm : TT) (h : HH) (nx : Nat) (k : KE) : R := rdV x tm fun v => k v h nx
def k_pk (c a b : Opd) (tm : TT) (h : HH) (nx : Nat) (k : KE) : R := rdV c tm fun v => dBl v (fun t => bK t (rdV a tm fun v => k v h nx) (rdV b tm fun v => k v h nx)) none
def k_al (z : List AV) (t : TypeId) (tm : TT) (h : HH) (nx : Nat) (k : KE) : R := nK (lnK z) fun s => nK (Nat.succ nx) fun n1 => k (.re s nx Nat.zero Nat.zero) ((nx, .rw true s [z] t) :: h) n1
def k_bx (t : TypeId) (x : Opd) (tm : TT) (h : HH) (nx : Nat) (k : KE) : R := rdV x tm fun v => dCells v (fun cs => nK (lnK cs) fun s => nK (Nat.succ nx) fun n1 => k (.re s nx Nat.zero Nat.zero) ((nx, .rw true s [cs] t) :: h) n1) none
def ppK (ps : List (Nat × Nat × Opd)) (tm : TT) (z : List AV) (k : List AV → R) : R :=
  @List.rec (Nat × Nat × Opd) (fun _ => List AV → R) k (fun p _ ih z => @Prod.rec Nat (Nat × Opd) (fun _ => R) (fun off q => @Prod.rec Nat Opd (fun _ => R) (fun n x => rdV x tm fun v => dCells v (fun cs => bK (Nat.beq (lnK cs) n) (spK off cs z ih none) none) none) q) p) ps z
def k_bd (z : List AV) (ps : List (Nat × Nat × Opd)) (tm : TT) (h : HH) (nx : Nat) (k : KE) : R := ppK ps tm z fun z => k (.ag z) h nx
def peK (ps : List (Nat × Opd)) (tm : TT) (sz : Nat) (es : List (List AV)) (k : List (List AV) → R) (d : R) : R :=
  @List.rec (Nat × Opd) (fun _ => List (List AV) → R) k (fun p _ ih es => @Prod.rec Nat Opd (fun _ => R) (fun i x => rdV x tm fun v => dCells v (fun cs => bK (Nat.beq (lnK cs) sz) (fltK cs (stK i cs es ih d) d) d) d) p) ps es
def k_bs (sz len : Nat) (z : List AV) (t : TypeId) (ps : List (Nat × Opd)) (tm : TT) (h : HH) (nx : Nat) (k : KE) : R :=
  repK len z fun es => peK ps tm sz es (fun es => nK (Nat.succ nx) fun n1 => k (.sl sz nx Nat.zero len) ((nx, .rw false sz es t) :: h) n1) (slowE (.bs sz len z t ps) tm h nx k)
def ldE (n : Option Nat) (off : Nat) (e : List AV) (k : AV → R) : R :=
  @Option.rec Nat (fun _ => R) (ntK off e k none) (fun n => drK off e (fun r => tkK n r (fun l => k (.ag l)) none) none) n
def k_ld (n : Option Nat) (a : Opd) (tm : TT) (h : HH) (nx : Nat) (k : KE) : R := rdV a tm fun p =>
  dPt p (fun sz b i off => lkB h b fun bk => dRw bk (fun _ sz' es _ => bK (Nat.beq sz sz') (ntK i es (fun e => ldE n off e fun v => k v h nx) none) none) none) (fun _ es i off => ntK i es (fun e => ldE n off e fun v => k v h nx) none) none
def k_sr (n : Nat) (a x : Opd) (tm : TT) (h : HH) (nx : Nat) (k : KE) : R :=
  (fun slow => rdV x tm fun v => dCells v (fun new => bK (Nat.beq (lnK new) n) (rdV a tm fun p => dPt p (fun sz b i off => lkB h b fun bk => dRw bk (fun v sz' es t => bK (Nat.beq sz sz')
    (ntK i es (fun e => spK off new e (fun e' => stK i e' es (fun es' => bK v (nudK new (putK h b (.rw v sz es' t) fun h' => k .ud h' nx) slow) (fltK new (putK h b (.rw v sz es' t) fun h' => k .ud h' nx) slow)) slow) slow) slow) slow) slow) (fun _ _ _ _ => slow) slow) slow) slow) (slowE (.sr n a x) tm h nx k)
def k_nc (x : Opd) (tm : TT) (h : HH) (nx : Nat) (k : KE) : R := rdV x tm fun v =>
  dPt v (fun _ b _ _ => lkB h b fun bk => dDd bk none (k v h nx)) (fun _ _ _ _ => k v h nx) (dFn v (fun _ _ => k v h nx) none)
def k_bn (op : BinOp) (x y : Opd) (tm : TT) (h : HH) (nx : Nat) (k : KE) : R := rdV x tm fun v => rdV y tm fun w => bnK op v w fun z => k z h nx
def eqcK (c : Nat) (x y : AV) (t f d : R) : R :=
  dInt x (fun ka a => dInt y (fun kb b => bK (Nat.beq c 1) (bK (kEq ka kb) (bK (iEq a b) t f) d) d) d)
    (dBl x (fun a => dBl y (fun b => bK (Nat.beq c 0) (bK a (bK b t f) (bK b f t)) d) d)
      (dSt x (fun a => dSt y (fun b => bK (Nat.beq c 2) (bK (stEq a b) t f) d) d) d))
def eqK (ks : List Nat) (a b : List AV) (t f d : R) : R :=
  @List.rec Nat (fun _ => List AV → List AV → R) (fun a b => @List.rec AV (fun _ => R) (@List.rec AV (fun _ => R) t (fun _ _ _ => d) b) (fun _ _ _ => d) a)
    (fun c _ ih a b => @List.rec AV (fun _ => R) d (fun x xs _ => @List.rec AV (fun _ => R) d (fun y ys _ => eqcK c x y (ih xs ys) f d) b) a) ks a b
def k_ea (neg : Bool) (ks : List Nat) (x y : Opd) (tm : TT) (h : HH) (nx : Nat) (k : KE) : R := rdV x tm fun v => rdV y tm fun w => dAg v (fun a => dAg w (fun b =>
  bK (Nat.beq (lnK a) (lnK ks)) (bK (Nat.beq (lnK b) (lnK ks)) (eqK ks a b (bK neg (k (.bl false) h nx) (k (.bl true) h nx)) (bK neg (k (.bl true) h nx) (k (.bl false) h nx)) none) none) none) none) none
def k_eb (neg : Bool) (x y : Opd) (tm : TT) (h : HH) (nx : Nat) (k : KE) : R := rdV x tm fun v => rdV y tm fun w => dBl v (fun a => dBl w (fun b =>
  bK a (bK b (bK neg (k (.bl false) h nx) (k (.bl true) h nx)) (bK neg (k (.bl true) h nx) (k (.bl false) h nx))) (bK b (bK neg (k (.bl true) h nx) (k (.bl false) h nx)) (bK neg (k (.bl false) h nx) (k (.bl true) h nx)))) none) none
def k_nq (neg : Bool) (c : Nat) (x : Opd) (tm : TT) (h : HH) (nx : Nat) (k : KE) : R := rdV x tm fun v =>
  dNil c v (bK neg (k (.bl false) h nx) (k (.bl true) h nx)) (bK neg (k (.bl true) h nx) (k (.bl false) h nx)) (slowE (.nq neg c x) tm h nx k)
def isNot (op : UnOp) : Bool := match op with
  | .not => true
  | _ => false
def k_un (op : UnOp) (x : Opd) (tm : TT) (h : HH) (nx : Nat) (k : KE) : R := rdV x tm fun v =>
  dBl v (fun b => bK (isNot op) (bK b (k (.bl false) h nx) (k (.bl true) h nx)) none) (slowE (.un op x) tm h nx k)
def k_ci (c : IntKind) (x : Opd) (tm : TT) (h : HH) (nx : Nat) (k : KE) : R := rdV x tm fun v => dInt v (fun _ n => wrapK c n fun z => k (.int c z) h nx) none
def k_fa (off : Nat) (x : Opd) (tm : TT) (h : HH) (nx : Nat) (k : KE) : R := rdV x tm fun v =>
  dPt v (fun sz b i o => lkB h b fun bk => dDd bk none (nK (Nat.add o off) fun o => k (.re sz b i o) h nx)) (fun sz es i o => nK (Nat.add o off) fun o => k (.ri sz es i o) h nx) none
def k_fd (off : Nat) (n : Option Nat) (x : Opd) (tm : TT) (h : HH) (nx : Nat) (k : KE) : R := rdV x tm fun v =>
  dAg v (fun cs => @Option.rec Nat (fun _ => R) (ntK off cs (fun v => k v h nx) none) (fun m => (fun slow => drK off cs (fun r => tkK m r (fun l => k (.ag l) h nx) slow) slow) (slowE (.fd off n x) tm h nx k)) n) none
def k_ia (arr : Option Nat) (sz : Nat) (x i : Opd) (tm : TT) (h : HH) (nx : Nat) (k : KE) : R :=
  @Option.rec Nat (fun _ => R) (rdV x tm fun v => dSl v none none
    (fun sz' es => bK (Nat.beq sz' sz) (rdV i tm fun w => dInt w (fun _ n => @Int.rec (fun _ => R) (fun m => ntK m es (fun _ => k (.ri sz es m Nat.zero) h nx) none) (fun _ => none) n) none) none)
    (fun sz' b lo len => bK (Nat.beq sz' sz) (lkB h b fun bk => dDd bk none (rdV i tm fun w => dInt w (fun _ n => @Int.rec (fun _ => R) (fun m => bK (Nat.ble (Nat.succ m) len) (nK (Nat.add lo m) fun j => k (.re sz b j Nat.zero) h nx) none) (fun _ => none) n) none)) none) none)
    (fun _ => slowE (.ia arr sz x i) tm h nx k) arr
def oI (x : Option Opd) (tm : TT) (df : Nat) (k : Nat → R) (d : R) : R :=
  @Option.rec Opd (fun _ => R) (k df) (fun o => rdV o tm fun v => dInt v (fun _ n => @Int.rec (fun _ => R) k (fun _ => d) n) d) x
def k_sc (sz : Nat) (x : Opd) (lo hi mx : Option Opd) (tm : TT) (h : HH) (nx : Nat) (k : KE) : R :=
  (fun slow => @Option.rec Opd (fun _ => R) (rdV x tm fun v => dSl v slow slow
    (fun sz' es => bK (Nat.beq sz' sz) (nK (lnK es) fun L => oI hi tm L (fun b => oI lo tm Nat.zero (fun a => bK (Nat.ble b L) (bK (Nat.ble a b) (drK a es (fun r => tkK (Nat.sub b a) r (fun l => k (.ls sz l) h nx) slow) slow) slow) slow) slow) slow) slow)
    (fun sz' r l0 len => bK (Nat.beq sz' sz) (lkB h r fun bk => dDd bk slow (oI hi tm len (fun b => oI lo tm Nat.zero (fun a => bK (Nat.ble b len) (bK (Nat.ble a b) (nK (Nat.add l0 a) fun l1 => nK (Nat.sub b a) fun n => k (.sl sz r l1 n) h nx) slow) slow) slow) slow)) slow) slow)
    (fun _ => slow) mx) (slowE (.sc sz x lo hi mx) tm h nx k)
def roomK : Nat := 70368744177664
def k_mk (sz bytes : Nat) (z : List AV) (t : TypeId) (l c : Opd) (tm : TT) (h : HH) (nx : Nat) (k : KE) : R :=
  (fun slow => rdV l tm fun v => dInt v (fun _ a => @Int.rec (fun _ => R) (fun a => rdV c tm fun w => dInt w (fun _ b => @Int.rec (fun _ => R) (fun b => bK (Nat.ble a b) (bK (Nat.ble b roomK) (bK (Nat.ble (Nat.mul bytes b) roomK)
    (repK a z fun es => nK (Nat.succ nx) fun n1 => k (.sl sz nx Nat.zero a) ((nx, .rw false sz es t) :: h) n1) slow) slow) slow) (fun _ => slow) b) slow) (fun _ => slow) a) slow) (slowE (.mk sz bytes z t l c) tm h nx k)
def k_ex (x : Opd) (i : Nat) (tm : TT) (h : HH) (nx : Nat) (k : KE) : R := rdV x tm fun v => dTp v (fun vs => ntK i vs (fun v => k v h nx) none) none
def k_le (c : Nat) (x : Opd) (tm : TT) (h : HH) (nx : Nat) (k : KE) : R :=
  (fun slow => bK (Nat.beq c 1) (rdV x tm fun v => dSl v (k (.int .i64 (.ofNat Nat.zero)) h nx) (k (.int .i64 (.ofNat Nat.zero)) h nx) (fun _ es => nK (lnK es) fun n => k (.int .i64 (.ofNat n)) h nx)
    (fun _ b _ len => lkB h b fun bk => dDd bk none (k (.int .i64 (.ofNat len)) h nx)) slow) slow) (slowE (.le c x) tm h nx k)
def elK (h : HH) (sz : Nat) (v : AV) (k : List (List AV) → R) (d : R) : R :=
  dSl v (k []) (k []) (fun sz' es => bK (Nat.beq sz sz') (k es) d)
    (fun sz' b lo len => bK (Nat.beq sz sz') (lkB h b fun bk => dRw bk (fun v sz'' es _ => bK v d (bK (Nat.beq sz sz'') (drK lo es (fun r => tkK len r k d) d) d)) d) d) d
def k_ap (sz bytes : Nat) (t : TypeId) (x y : Opd) (tm : TT) (h : HH) (nx : Nat) (k : KE) : R :=
  (fun slow => rdV x tm fun vx => rdV y tm fun vy => elK h sz vx (fun a => elK h sz vy (fun b => nK (Nat.add (lnK a) (lnK b)) fun n => bK (Nat.ble (Nat.mul n bytes) roomK) (bK (Nat.ble n roomK) (nudKs b
    (dSl vx (@List.rec (List AV) (fun _ => R) (k .ns h nx) (fun _ _ _ => nK (Nat.succ nx) fun n1 => k (.sl sz nx Nat.zero n) ((nx, .rw false sz b t) :: h) n1) b) slow (fun _ _ => slow)
      (fun _ r lo len => lkB h r fun bk => dRw bk (fun v sz' es _ => bK v slow (bK (Nat.beq sz sz') (bK (Nat.beq (Nat.add lo len) (lnK es)) (putK h r .dd fun h' => apK a b fun l => nK (Nat.succ nx) fun n1 => k (.sl sz nx Nat.zero n) ((nx, .rw false sz l t) :: h') n1) slow) slow)) slow) slow)
    slow) slow) slow) slow) slow) (slowE (.ap sz bytes t x y) tm h nx k)
def k_mm (t : TypeId) (tm : TT) (h : HH) (nx : Nat) (k : KE) : R := nK (Nat.succ nx) fun n1 => k (.mp nx) ((nx, .mp []) :: h) n1
def kqK (a b : AV) (t f d : R) : R :=
  dInt a (fun ka x => dInt b (fun kb y => bK (kEq ka kb) (bK (iEq x y) t f) d) d) (dSt a (fun x => dSt b (fun y => bK (stEq x y) t f) d) d)
def fkK (key : AV) (es : List (AV × AV)) (k : AV → R) (nf d : R) : R :=
  @List.rec (AV × AV) (fun _ => R) nf (fun p _ ih => @Prod.rec AV AV (fun _ => R) (fun a v => kqK key a (k v) ih d) p) es
def iskK (s : Bool) (v : AV) (k d : R) : R := bK s (dSt v (fun _ => k) d) (dInt v (fun _ _ => k) d)
def k_lk (s : Bool) (z : AV) (ok : Bool) (x i : Opd) (tm : TT) (h : HH) (nx : Nat) (k : KE) : R :=
  rdV i tm fun w => iskK s w (rdV x tm fun v => dMp v (fun b => lkB h b fun bk => dMk bk (fun es => fkK w es (fun v => bK ok (k (.tp [v, .bl true]) h nx) (k v h nx)) (bK ok (k (.tp [z, .bl false]) h nx) (k z h nx)) none) none) (slowE (.lk s z ok x i) tm h nx k)) none

def opK (o : COp) (tm : TT) (h : HH) (nx : Nat) (k : KE) : R :=
  @COp.rec (fun _ => TT → HH → Nat → KE → R) k_mv k_pk k_al k_bx k_bd k_bs k_ld k_sr k_nc k_bn k_ea k_eb k_nq k_un k_ci (fun t x => slowE (.cs t x)) (fun x => slowE (.cv1 x)) (fun x => slowE (.cb x)) k_fa k_fd k_ia
    (fun len sz n x i => slowE (.ix len sz n x i)) (fun x i => slowE (.si x i)) (fun x lo hi => slowE (.ss x lo hi)) k_sc k_mk (fun f caps => slowE (.mf f caps)) k_ex (fun f xs => slowE (.cf f xs)) (fun x xs => slowE (.cv x xs)) k_le k_ap
    (fun sz x y => slowE (.cp sz x y)) (fun xs => slowE (.mx xs)) (fun xs => slowE (.mn xs)) k_mm k_lk (fun s x k v => slowE (.mu s x k v)) (fun s x k => slowE (.de s x k)) (slowE .bad) o tm h nx k
end
end Go.Am
set_option linter.unusedVariables false
set_option linter.unusedSimpArgs false
namespace Go.Am

def bindE (o : Option Ef) (k : KE) : R := match o with
  | none => none
  | some e => k e.v e.h e.nx
@[simp] theorem bindE_none (k : KE) : bindE none k = none := rfl
@[simp] theorem bindE_some (e : Ef) (k : KE) : bindE (some e) k = k e.v e.h e.nx := rfl

theorem bK_eq (b : Bool) (t e : R) : bK b t e = if b = true then t else e := by cases b <;> rfl
theorem nK_eq (n : Nat) (k : Nat → R) : nK n k = k n := by cases n <;> rfl

theorem dInt_eq (v : AV) (k : IntKind → Int → R) (d : R) : dInt v k d = match v with | .int a b => k a b | _ => d := by cases v <;> rfl
theorem dBl_eq (v : AV) (k : Bool → R) (d : R) : dBl v k d = match v with | .bl a => k a | _ => d := by cases v <;> rfl
theorem dSt_eq (v : AV) (k : ByteArray → R) (d : R) : dSt v k d = match v with | .st a => k a | _ => d := by cases v <;> rfl
theorem dAg_eq (v : AV) (k : List AV → R) (d : R) : dAg v k d = match v with | .ag a => k a | _ => d := by cases v <;> rfl
theorem dTp_eq (v : AV) (k : List AV → R) (d : R) : dTp v k d = match v with | .tp a => k a | _ => d := by cases v <;> rfl
theorem dMp_eq (v : AV) (k : Nat → R) (d : R) : dMp v k d = match v with | .mp a => k a | _ => d := by cases v <;> rfl
theorem dFn_eq (v : AV) (k : FuncId → List AV → R) (d : R) : dFn v k d = match v with | .fn a b => k a b | _ => d := by cases v <;> rfl
theorem dPt_eq (v : AV) (k : Nat → Nat → Nat → Nat → R) (j : Nat → List (List AV) → Nat → Nat → R) (d : R) : dPt v k j d = match v with | .re a b c e => k a b c e | .ri a b c e => j a b c e | _ => d := by cases v <;> rfl
theorem dSl_eq (v : AV) (kn ke : R) (kl : Nat → List (List AV) → R) (ks : Nat → Nat → Nat → Nat → R) (d : R) : dSl v kn ke kl ks d = match v with | .ns => kn | .ez => ke | .ls a b => kl a b | .sl a b c e => ks a b c e | _ => d := by cases v <;> rfl
theorem dCells_eq (v : AV) (k : List AV → R) (d : R) : dCells v k d = match cellsOf v with | some cs => k cs | none => d := by cases v <;> rfl
theorem dUd_eq (v : AV) (t e : R) : dUd v t e = if isUd v = true then t else e := by cases v <;> rfl
theorem dRw_eq (v : BK) (k : Bool → Nat → List (List AV) → TypeId → R) (d : R) : dRw v k d = match v with | .rw a b c e => k a b c e | _ => d := by cases v <;> rfl
theorem dMk_eq (v : BK) (k : List (AV × AV) → R) (d : R) : dMk v k d = match v with | .mp a => k a | _ => d := by cases v <;> rfl
theorem dDd_eq (v : BK) (t e : R) : dDd v t e = match v with | .dd => t | _ => e := by cases v <;> rfl

theorem beq_iff (a b : Nat) : (Nat.beq a b = true) ↔ a = b := ⟨Nat.eq_of_beq_eq_true, fun h => by subst h; exact Nat.beq_refl a⟩
theorem lkV_eq (tm : TT) (n : Nat) (k : AV → R) : lkV tm n k = k (look .ud tm n) := by
  induction tm with
  | nil => rfl
  | cons p l ih =>
    obtain ⟨a, v⟩ := p
    simp only [lkV, look] at ih ⊢
    rw [ih]
    cases hb : Nat.beq a n with
    | true => rw [if_pos ((beq_iff _ _).1 hb)]
    | false => rw [if_neg (fun h => by rw [(beq_iff _ _).2 h] at hb; simp at hb)]
theorem lkB_eq (h : HH) (n : Nat) (k : BK → R) : lkB h n k = k (blk h n) := by
  induction h with
  | nil => rfl
  | cons p l ih =>
    obtain ⟨a, v⟩ := p
    simp only [lkB, look, blk] at ih ⊢
    rw [ih]
    cases hb : Nat.beq a n with
    | true => rw [if_pos ((beq_iff _ _).1 hb)]
    | false => rw [if_neg (fun h => by rw [(beq_iff _ _).2 h] at hb; simp at hb)]
theorem rdV_eq (x : Opd) (tm : TT) (k : AV → R) : rdV x tm k = k (rd tm x) := by
  cases x with
  | t n => exact lkV_eq tm n k
  | c v => rfl

section
variable {α : Type}
theorem drK_eq (n : Nat) (l : List α) (k : List α → R) (d : R) : drK n l k d = if n ≤ l.length then k (l.drop n) else d := by
  induction n generalizing l with
  | zero => show k l = _; simp
  | succ n ih =>
    cases l with
    | nil => simp [drK]
    | cons a l => simpa [drK] using ih l
theorem tkK_eq (n : Nat) (l : List α) (k : List α → R) (d : R) : tkK n l k d = if n ≤ l.length then k (l.take n) else d := by
  induction n generalizing l k with
  | zero => show k [] = _; simp
  | succ n ih =>
    cases l with
    | nil => simp [tkK]
    | cons a l => simpa [tkK] using ih l fun t => k (a :: t)
theorem apK_eq (l r : List α) (k : List α → R) : apK l r k = k (l ++ r) := by
  induction l generalizing k with
  | nil => rfl
  | cons a l ih => simpa [apK] using ih fun t => k (a :: t)
theorem ntK_eq (i : Nat) (l : List α) (k : α → R) (d : R) : ntK i l k d = match l[i]? with | some a => k a | none => d := by
  induction i generalizing l with
  | zero => cases l <;> rfl
  | succ n ih =>
    cases l with
    | nil => simp [ntK, drK]
    | cons a l => simpa [ntK, drK] using ih l
theorem stK_eq (i : Nat) (x : α) (l : List α) (k : List α → R) (d : R) : stK i x l k d = if i < l.length then k (l.set i x) else d := by
  induction i generalizing l k with
  | zero => cases l <;> rfl
  | succ n ih =>
    cases l with
    | nil => simp [stK]
    | cons a l => simpa [stK] using ih l fun t => k (a :: t)
theorem lnK_eq (l : List α) : lnK l = l.length := by
  induction l with
  | nil => rfl
  | cons a l ih => simpa [lnK] using ih
theorem repK_eq (n : Nat) (x : α) (k : List α → R) : repK n x k = k (List.replicate n x) := by
  induction n generalizing k with
  | zero => rfl
  | succ n ih => simpa [repK, List.replicate_succ] using ih fun t => k (x :: t)
end
theorem spK_eq (off : Nat) (new l : List AV) (k : List AV → R) (d : R) : spK off new l k d = if off + new.length ≤ l.length then k (splice l new off) else d := by
  induction off generalizing l k with
  | zero => show drK (lnK new) l (fun r => apK new r k) d = _; simp [drK_eq, apK_eq, lnK_eq, splice]
  | succ n ih =>
    cases l with
    | nil => simp [spK]
    | cons a l =>
      have := ih l fun t => k (a :: t)
      have e : n + 1 + new.length = (n + new.length) + 1 := by omega
      simp only [spK] at this ⊢
      simpa [splice, e] using this
theorem putK_eq (h : HH) (n : Nat) (v : BK) (k : HH → R) : putK h n v k = k (put h n v) := by
  induction h generalizing k with
  | nil => rfl
  | cons p l ih =>
    obtain ⟨a, w⟩ := p
    have := ih fun t => k ((a, w) :: t)
    simp only [putK, put, bK_eq, beq_iff] at this ⊢
    split
    · rfl
    · exact this

theorem kEq_iff (a b : IntKind) : (kEq a b = true) ↔ a = b := by cases a <;> cases b <;> simp [kEq, kIx]
theorem wrap_pos (c : IntKind) (m : Nat) (h : m ≤ mxK c) : c.wrap (.ofNat m) = .ofNat m := by
  cases c <;> simp [mxK] at h <;> simp only [IntKind.wrap, IntKind.bits, IntKind.signed, Int.ofNat_eq_natCast, Nat.reduceSub, Int.reducePow, Bool.true_and, Bool.false_and, decide_eq_true_eq, ge_iff_le, Bool.false_eq_true, if_false] <;> (first | omega | (split <;> omega))
theorem wrap_id (c : IntKind) (z : Int) (h : z < 0) (h2 : -z ≤ (ngK c : Int)) : c.wrap z = z := by
  cases c
  case i8 => change -z ≤ 128 at h2; simp only [IntKind.wrap, IntKind.bits, IntKind.signed, Nat.reduceSub, Int.reducePow, Bool.true_and, decide_eq_true_eq, ge_iff_le]; split <;> omega
  case i16 => change -z ≤ 32768 at h2; simp only [IntKind.wrap, IntKind.bits, IntKind.signed, Nat.reduceSub, Int.reducePow, Bool.true_and, decide_eq_true_eq, ge_iff_le]; split <;> omega
  case i32 => change -z ≤ 2147483648 at h2; simp only [IntKind.wrap, IntKind.bits, IntKind.signed, Nat.reduceSub, Int.reducePow, Bool.true_and, decide_eq_true_eq, ge_iff_le]; split <;> omega
  case i64 => change -z ≤ 9223372036854775808 at h2; simp only [IntKind.wrap, IntKind.bits, IntKind.signed, Nat.reduceSub, Int.reducePow, Bool.true_and, decide_eq_true_eq, ge_iff_le]; split <;> omega
  all_goals (change -z ≤ 0 at h2; omega)
theorem wrap_neg (c : IntKind) (m : Nat) (h : m + 1 ≤ ngK c) : c.wrap (.negSucc m) = .negSucc m := by
  refine wrap_id c _ (Int.negSucc_lt_zero m) ?_
  rw [Int.negSucc_eq]
  omega
theorem wrapK_eq (c : IntKind) (z : Int) (k : Int → R) : wrapK c z k = k (c.wrap z) := by
  cases z with
  | ofNat m =>
    simp only [wrapK, bK_eq, fI_eq, Nat.ble_eq]
    split
    · rename_i h; rw [wrap_pos c m h]
    · rfl
  | negSucc m =>
    simp only [wrapK, bK_eq, fI_eq, Nat.ble_eq]
    split
    · rename_i h; rw [wrap_neg c m h]
    · rfl
theorem iAdd_eq (a b : Int) (k : Int → R) : iAdd a b k = k (a + b) := by
  cases a <;> cases b <;> simp only [iAdd, nK_eq, fI_eq] <;> rfl
theorem iSub_eq (a b : Int) (k : Int → R) : iSub a b k = k (a - b) := by
  cases a <;> cases b <;> simp only [iSub, nK_eq, fI_eq, bK_eq, Nat.ble_eq]
  split
  · rename_i m n h
    congr 1
    simp only [Int.ofNat_eq_natCast, Nat.sub_eq]
    omega
  · rfl
theorem iEq_eq (a b : Int) : iEq a b = (a == b) := by
  cases a <;> cases b <;> rw [Bool.eq_iff_iff] <;> simp [iEq] <;> omega
theorem iLe_eq (a b : Int) : iLe a b = decide (a ≤ b) := by
  cases a <;> cases b <;> rw [Bool.eq_iff_iff] <;> simp [iLe] <;> omega
theorem iLt_eq (a b : Int) : iLt a b = decide (a < b) := by
  have : iLt a b = !(iLe b a) := by unfold iLt; cases iLe b a <;> rfl
  rw [this, iLe_eq, Bool.eq_iff_iff]; simp
end Go.Am
set_option linter.unusedVariables false
set_option linter.unusedSimpArgs false
namespace Go.Am

theorem byEq_eq (a b : List UInt8) : byEq a b = (a == b) := by
  induction a generalizing b with
  | nil => cases b <;> rfl
  | cons x xs ih =>
    cases b with
    | nil => rfl
    | cons y ys =>
      have h := ih ys
      simp only [byEq] at h ⊢
      rw [h]
      rw [Bool.eq_iff_iff]
      cases hb : Nat.beq x.toNat y.toNat with
      | true =>
        have : x = y := UInt8.toNat_inj.1 ((beq_iff _ _).1 hb)
        subst this
        simp
      | false =>
        have : x ≠ y := fun h => by subst h; rw [(beq_iff _ _).2 rfl] at hb; simp at hb
        simp [this]
theorem stEq_eq (a b : ByteArray) : stEq a b = (a.toList == b.toList) := by
  rw [ByteArray.toList_eq, ByteArray.toList_eq]; exact byEq_eq _ _
theorem stEq_iff (a b : ByteArray) : (stEq a b = true) ↔ a = b := by
  simp only [stEq, byEq_eq, beq_iff_eq]
  constructor
  · intro h; cases a; cases b; simp only at h; congr; exact Array.toList_inj.1 h
  · intro h; rw [h]
theorem binF_eq (op : BinOp) (v w : AV) : binF op v w = binA op v w := by
  cases v <;> cases w <;> first
    | rfl
    | (cases op <;> first | rfl | simp only [binF, binA, ByteArray.toList_eq])

theorem tf_eq (b : Bool) (k : AV → R) : tf b k = k (.bl b) := by cases b <;> rfl
def bindV (o : Option AV) (k : AV → R) : R := match o with
  | none => none
  | some v => k v
theorem slowB_eq (op : BinOp) (v w : AV) (k : AV → R) : slowB op v w k = bindV (binA op v w) k := by
  unfold slowB bindV
  rw [binF_eq]
  split <;> simp [fV_eq, *]
theorem ii_eq (v w : AV) (k : IntKind → Int → Int → R) (d : R) (x : R)
    (h : ∀ c a b, v = .int c a → w = .int c b → k c a b = x) (h2 : (∀ c a b, v = .int c a → w = .int c b → False) → d = x) : ii v w k d = x := by
  simp only [ii, dInt_eq, bK_eq, kEq_iff]
  split
  · split
    · split
      · rename_i he; subst he; exact h _ _ _ rfl rfl
      · rename_i hne; exact h2 fun c a b h3 h4 => by injection h3; injection h4; simp_all
    · rename_i hw; exact h2 fun c a b h3 h4 => hw _ _ h4
  · rename_i hw; exact h2 fun c a b h3 h4 => hw _ _ h3
theorem notB (b : Bool) : (@Bool.rec (fun _ => Bool) true false b) = !b := by cases b <;> rfl

theorem bnK_eq (op : BinOp) (v w : AV) (k : AV → R) : bnK op v w k = bindV (binA op v w) k := by
  cases op
  case add => exact ii_eq _ _ _ _ _ (fun c a b hv hw => by subst hv hw; simp only [iAdd_eq, wrapK_eq]; simp [binA, bindV]) (fun _ => slowB_eq ..)
  case sub => exact ii_eq _ _ _ _ _ (fun c a b hv hw => by subst hv hw; simp only [iSub_eq, wrapK_eq]; simp [binA, bindV]) (fun _ => slowB_eq ..)
  case lss => exact ii_eq _ _ _ _ _ (fun c a b hv hw => by subst hv hw; simp only [tf_eq, iLt_eq]; simp [binA, bindV]) (fun _ => slowB_eq ..)
  case leq => exact ii_eq _ _ _ _ _ (fun c a b hv hw => by subst hv hw; simp only [tf_eq, iLe_eq]; simp [binA, bindV]) (fun _ => slowB_eq ..)
  case gtr => exact ii_eq _ _ _ _ _ (fun c a b hv hw => by subst hv hw; simp only [tf_eq, iLt_eq]; simp [binA, bindV]) (fun _ => slowB_eq ..)
  case geq => exact ii_eq _ _ _ _ _ (fun c a b hv hw => by subst hv hw; simp only [tf_eq, iLe_eq]; simp [binA, bindV]) (fun _ => slowB_eq ..)
  case eql =>
    refine ii_eq _ _ _ _ _ (fun c a b hv hw => by subst hv hw; simp only [tf_eq, iEq_eq]; simp [binA, bindV]) (fun hn => ?_)
    simp only [dSt_eq, tf_eq]
    cases v <;> cases w <;> simp [binA, bindV, stEq_eq]
    rename_i c a c' b
    rw [if_neg (fun h => by subst h; exact (hn _ _ _ rfl rfl).elim)]
  case neq =>
    refine ii_eq _ _ _ _ _ (fun c a b hv hw => by subst hv hw; simp only [tf_eq, iEq_eq, notB]; simp [binA, bindV, bne]) (fun hn => ?_)
    simp only [dSt_eq, tf_eq, notB]
    cases v <;> cases w <;> simp [binA, bindV, stEq_eq]
    rename_i c a c' b
    rw [if_neg (fun h => by subst h; exact (hn _ _ _ rfl rfl).elim)]
  all_goals exact slowB_eq ..

theorem slowE_eq (o : COp) (tm : TT) (h : HH) (nx : Nat) (k : KE) : slowE o tm h nx k = bindE (opA tm h nx o) k := by
  unfold slowE bindE
  split <;> simp [fO_eq, *]

theorem fltA {v : AV} : (∀ (k : AV → R) (d : R), dFlat v k d = k v) ∧ (cellsOf v = some [v] ∧ refs v = [] ∧ (∀ h, snapC h v = some v) ∧ isUd v = false) ∨ (∀ (k : AV → R) (d : R), dFlat v k d = d) := by
  cases v <;> first | exact .inl ⟨fun _ _ => rfl, rfl, rfl, fun _ => rfl, rfl⟩ | exact .inr fun _ _ => rfl
/-- All cells are themselves in a row. -/
def Flt (l : List AV) : Prop := l.flatMap refs = [] ∧ (∀ h, snapL (snapC h) l = some l) ∧ l.any isUd = false
theorem fltK_eq (l : List AV) (k d : R) : Flt l ∧ fltK l k d = k ∨ fltK l k d = d := by
  induction l with
  | nil => exact .inl ⟨⟨rfl, fun _ => rfl, rfl⟩, rfl⟩
  | cons a l ih =>
    rcases @fltA a with ⟨h1, h2, h3, h4, h5⟩ | h1
    · rcases ih with ⟨⟨i1, i2, i3⟩, i4⟩ | i4
      · refine .inl ⟨⟨by simp [h3, i1], fun h => by simp [snapL, h4, i2], by simp [h5, i3]⟩, ?_⟩
        simp only [fltK] at i4 ⊢
        rw [h1]; exact i4
      · right
        simp only [fltK] at i4 ⊢
        rw [h1]; exact i4
    · right
      simp only [fltK]
      rw [h1]
theorem nudK_eq (l : List AV) (k d : R) : nudK l k d = if l.any isUd = true then d else k := by
  induction l with
  | nil => rfl
  | cons a l ih =>
    simp only [nudK, dUd_eq] at ih ⊢
    rw [ih]
    cases h : isUd a <;> simp [h]
theorem nudKs_eq (l : List (List AV)) (k d : R) : nudKs l k d = if l.flatten.any isUd = true then d else k := by
  induction l with
  | nil => rfl
  | cons a l ih =>
    simp only [nudKs, nudK_eq] at ih ⊢
    rw [ih]
    cases h : a.any isUd <;> simp [h]
end Go.Am
set_option linter.unusedVariables false
set_option linter.unusedSimpArgs false
namespace Go.Am
variable {tm : TT} {h : HH} {nx : Nat} {k : KE}

theorem k_mv_eq (x : Opd) : k_mv x tm h nx k = bindE (opA tm h nx (.mv x)) k := by simp [k_mv, rdV_eq, opA, one]
theorem k_pk_eq (c a b : Opd) : k_pk c a b tm h nx k = bindE (opA tm h nx (.pk c a b)) k := by
  simp only [k_pk, rdV_eq, dBl_eq, bK_eq, opA]
  split
  · rename_i t ht; simp only [ht, one, bindE_some]; split <;> rfl
  · rename_i hn
    split
    · rename_i t ht; exact absurd ht (hn t)
    · rfl
theorem k_al_eq (z : List AV) (t : TypeId) : k_al z t tm h nx k = bindE (opA tm h nx (.al z t)) k := by
  simp [k_al, nK_eq, lnK_eq, opA, ins]
theorem k_bx_eq (t : TypeId) (x : Opd) : k_bx t x tm h nx k = bindE (opA tm h nx (.bx t x)) k := by
  simp only [k_bx, rdV_eq, dCells_eq, nK_eq, lnK_eq, opA]
  split <;> simp [ins, *]
theorem ppK_eq (ps : List (Nat × Nat × Opd)) (z : List AV) (k : List AV → R) : ppK ps tm z k = match putParts z tm ps with | some z => k z | none => none := by
  induction ps generalizing z with
  | nil => rfl
  | cons p ps ih =>
    obtain ⟨off, n, x⟩ := p
    have := fun z => ih z
    simp only [ppK, putParts, rdV_eq, dCells_eq, bK_eq, lnK_eq, spK_eq, beq_iff] at this ⊢
    cases hc : cellsOf (rd tm x) with
    | none => rfl
    | some cs =>
      simp only
      by_cases h1 : cs.length = n
      · rw [if_pos h1, h1]
        by_cases h2 : off + n ≤ z.length
        · rw [if_pos h2, if_pos ⟨rfl, h2⟩]; exact this _
        · rw [if_neg h2, if_neg (fun h => h2 h.2)]
      · rw [if_neg h1, if_neg (fun h => h1 h.1)]
theorem k_bd_eq (z : List AV) (ps : List (Nat × Nat × Opd)) : k_bd z ps tm h nx k = bindE (opA tm h nx (.bd z ps)) k := by
  simp only [k_bd, ppK_eq, opA]
  cases putParts z tm ps <;> rfl

theorem peK_eq (sz : Nat) (k : List (List AV) → R) (d : R) (ps : List (Nat × Opd)) (es : List (List AV)) :
    peK ps tm sz es k d = d ∨ ∃ es', putElems h es sz tm ps = some es' ∧ (ps.flatMap fun p => refsV (rd tm p.2)) = [] ∧ peK ps tm sz es k d = k es' := by
  induction ps generalizing es with
  | nil => exact .inr ⟨es, rfl, rfl, rfl⟩
  | cons p ps ih =>
    obtain ⟨i, x⟩ := p
    have ih2 := fun es => ih es
    simp only [peK, rdV_eq, dCells_eq, bK_eq, lnK_eq, beq_iff, putElems] at ih2 ⊢
    cases hc : cellsOf (rd tm x) with
    | none => exact .inl rfl
    | some cs =>
      simp only
      by_cases h1 : cs.length = sz
      · rw [if_pos h1]
        generalize hin : stK i cs es _ d = inner
        rcases fltK_eq cs inner d with ⟨⟨f1, f2, f3⟩, f4⟩ | f4
        · rw [f4, ← hin, stK_eq]
          by_cases h2 : i < es.length
          · rw [if_pos h2]
            rcases ih2 (es.set i cs) with h3 | ⟨es', h4, h5, h6⟩
            · exact .inl h3
            · refine .inr ⟨es', ?_, ?_, h6⟩
              · rw [f2 h]; simp only [h1, if_true]; exact h4
              · have : refsV (rd tm x) = cs.flatMap refs := by
                  cases hv : rd tm x <;> rw [hv] at hc <;> simp [cellsOf] at hc <;> subst hc <;> simp [refsV]
                simp [this, f1, h5]
          · rw [if_neg h2]; exact .inl rfl
        · rw [f4]; exact .inl rfl
      · rw [if_neg h1]; exact .inl rfl
theorem k_bs_eq (sz len : Nat) (z : List AV) (t : TypeId) (ps : List (Nat × Opd)) : k_bs sz len z t ps tm h nx k = bindE (opA tm h nx (.bs sz len z t ps)) k := by
  simp only [k_bs, repK_eq]
  rcases @peK_eq tm h sz (fun es => nK (Nat.succ nx) fun n1 => k (.sl sz nx Nat.zero len) ((nx, .rw false sz es t) :: h) n1) (slowE (.bs sz len z t ps) tm h nx k) ps (List.replicate len z) with h1 | ⟨es', h2, h3, h4⟩
  · rw [h1, slowE_eq]
  · rw [h4]
    simp only [opA, h2, Option.bind_some, h3, kill, bindE_some, nK_eq, ins]

theorem ldE_eq (n : Option Nat) (off : Nat) (es : List (List AV)) (i : Nat) (k : AV → R) :
    ntK i es (fun e => ldE n off e k) none = bindV (match n with
      | none => match cellsOfEl es i off 1 with
        | some [v] => some v
        | _ => none
      | some n => (cellsOfEl es i off n).map .ag) k := by
  rw [ntK_eq]
  cases hi : es[i]? with
  | none => cases n <;> simp [cellsOfEl, hi, bindV]
  | some e =>
    cases n with
    | none =>
      simp only [ldE, ntK_eq, cellsOfEl, hi]
      by_cases h1 : off < e.length
      · have : (e.drop off).take 1 = [e[off]] := by rw [List.drop_eq_getElem_cons h1]; rfl
        rw [if_pos (by omega), this]; simp [bindV, h1]
      · rw [if_neg (by omega)]; simp [bindV, List.getElem?_eq_none (by omega : e.length ≤ off)]
    | some n =>
      simp only [ldE, drK_eq, tkK_eq, cellsOfEl, hi, List.length_drop]
      by_cases h1 : off + n ≤ e.length
      · rw [if_pos (by omega), if_pos (by omega), if_pos h1]; rfl
      · rw [if_neg h1]
        split
        · rw [if_neg (by omega)]; rfl
        · rfl
theorem k_ld_eq (n : Option Nat) (a : Opd) : k_ld n a tm h nx k = bindE (opA tm h nx (.ld n a)) k := by
  simp only [k_ld, rdV_eq, dPt_eq, lkB_eq, dRw_eq, bK_eq, beq_iff, ldE_eq, opA, loadA, cellsAt]
  cases rd tm a <;> try (cases n <;> rfl)
  · rename_i sz b i off
    simp only
    cases blk h b with
    | rw v sz' es t =>
      simp only
      by_cases h1 : sz = sz'
      · rw [if_pos h1]
        subst h1
        cases n with
        | none => simp only [if_true]; generalize cellsOfEl es i off 1 = c; rcases c with _ | (_ | ⟨x, _ | _⟩) <;> rfl
        | some n => simp only [if_true]; generalize cellsOfEl es i off n = c; cases c <;> rfl
      · rw [if_neg h1]; cases n <;> simp [h1]
    | mp => cases n <;> rfl
    | dd => cases n <;> rfl
  · rename_i sz es i off
    cases n with
    | none => simp only; generalize cellsOfEl es i off 1 = c; rcases c with _ | (_ | ⟨x, _ | _⟩) <;> rfl
    | some n => simp only; generalize cellsOfEl es i off n = c; cases c <;> rfl

theorem k_sr_eq (n : Nat) (a x : Opd) : k_sr n a x tm h nx k = bindE (opA tm h nx (.sr n a x)) k := by
  simp only [k_sr, rdV_eq, dCells_eq, dPt_eq, lkB_eq, dRw_eq, bK_eq, beq_iff, ntK_eq, spK_eq, stK_eq, lnK_eq, nudK_eq, putK_eq]
  cases hc : cellsOf (rd tm x) with
  | none => exact slowE_eq ..
  | some new =>
    simp only
    by_cases hn : new.length = n
    case neg => rw [if_neg hn]; exact slowE_eq ..
    rw [if_pos hn]
    cases ha : rd tm a <;> try exact slowE_eq ..
    rename_i sz b i off
    simp only
    cases hb : blk h b <;> try exact slowE_eq ..
    rename_i v sz' es t
    simp only
    by_cases hz : sz = sz'
    case neg => rw [if_neg hz]; exact slowE_eq ..
    rw [if_pos hz]
    cases hi : es[i]? with
    | none => exact slowE_eq ..
    | some e =>
      simp only
      split
      case isFalse => exact slowE_eq ..
      rename_i hle
      have hil : i < es.length := by
        rcases Nat.lt_or_ge i es.length with h | h
        · exact h
        · rw [List.getElem?_eq_none h] at hi; simp at hi
      rw [if_pos hil]
      cases v with
      | true =>
        simp only [if_true]
        split
        · exact slowE_eq ..
        · rename_i hud
          subst hz
          simp only [opA, hc, ha, hb, hi]
          rw [if_neg (fun hor => hor.elim (fun h => h hn) hud), if_neg (fun h => h rfl), if_pos (by omega)]
          simp
      | false =>
        simp only [Bool.false_eq_true, if_false]
        rcases fltK_eq new (k .ud (put h b (.rw false sz (es.set i (splice e new off)) t)) nx) (slowE (.sr n a x) tm h nx k) with ⟨⟨f1, f2, f3⟩, f4⟩ | f4
        · rw [f4]
          subst hz
          simp only [opA, hc, ha, hb, hi, f1, f2 h, f3]
          rw [if_neg (by simp [hn]), if_neg (fun h => h rfl), if_pos (by omega)]
          simp [kill]
        · rw [f4]; exact slowE_eq ..
theorem alive_eq (h : HH) (b : Nat) : alive h b = match blk h b with | .dd => false | _ => true := rfl
theorem k_nc_eq (x : Opd) : k_nc x tm h nx k = bindE (opA tm h nx (.nc x)) k := by
  simp only [k_nc, rdV_eq, dPt_eq, dFn_eq, lkB_eq, dDd_eq, opA]
  cases hv : rd tm x <;> simp [one]
  rename_i sz b i off
  rw [alive_eq]
  cases hb : blk h b <;> simp
theorem k_bn_eq (op : BinOp) (x y : Opd) : k_bn op x y tm h nx k = bindE (opA tm h nx (.bn op x y)) k := by
  simp only [k_bn, rdV_eq, bnK_eq, opA]
  cases binA op (rd tm x) (rd tm y) <;> rfl
end Go.Am
set_option linter.unusedVariables false
set_option linter.unusedSimpArgs false
namespace Go.Am
variable {tm : TT} {h : HH} {nx : Nat} {k : KE}

theorem eqcK_eq (c : Nat) (x y : AV) (t f : R) : eqcK c x y t f none = match eqC c x y with | some true => t | some false => f | none => none := by
  simp only [eqcK, dInt_eq, dBl_eq, dSt_eq, bK_eq, beq_iff, kEq_iff, stEq_eq, iEq_eq]
  match c with
  | 0 =>
    cases x <;> first | rfl | skip
    all_goals (cases y <;> first | rfl | skip)
    rename_i a b
    cases a <;> cases b <;> rfl
  | 1 =>
    cases x <;> first | rfl | skip
    all_goals (cases y <;> first | rfl | skip)
    rename_i ka a kb b
    simp only [eqC, if_true]
    by_cases h2 : ka = kb
    · subst h2; simp only [if_true]; cases h : (a == b) <;> rfl
    · simp [h2]
  | 2 =>
    cases x <;> first | rfl | skip
    all_goals (cases y <;> first | rfl | skip)
    rename_i a b
    simp only [eqC, if_true]
    cases h : (a.toList == b.toList) <;> rfl
  | n + 3 =>
    cases x <;> first | rfl | skip
    all_goals (cases y <;> first | rfl | skip)
    all_goals simp [eqC]
theorem eqK_eq (ks : List Nat) (a b : List AV) (t f : R) : eqK ks a b t f none = match eqCs ks a b with | some true => t | some false => f | none => none := by
  induction ks generalizing a b with
  | nil => cases a <;> cases b <;> rfl
  | cons c ks ih =>
    cases a with
    | nil => rfl
    | cons x xs =>
      cases b with
      | nil => rfl
      | cons y ys =>
        have := ih xs ys
        simp only [eqK, eqCs, eqcK_eq] at this ⊢
        rw [this]
        rcases eqC c x y with _ | _ | _ <;> rfl
theorem k_ea_eq (neg : Bool) (ks : List Nat) (x y : Opd) : k_ea neg ks x y tm h nx k = bindE (opA tm h nx (.ea neg ks x y)) k := by
  simp only [k_ea, rdV_eq, dAg_eq, bK_eq, beq_iff, lnK_eq, eqK_eq, opA]
  cases rd tm x <;> first | rfl | skip
  cases rd tm y <;> first | rfl | skip
  rename_i a b
  simp only
  by_cases h1 : a.length = ks.length
  · by_cases h2 : b.length = ks.length
    · simp only [h1, h2, and_self, if_true]
      rcases eqCs ks a b with _ | _ | _ <;> cases neg <;> rfl
    · simp [h1, h2]
  · simp [h1]
theorem k_eb_eq (neg : Bool) (x y : Opd) : k_eb neg x y tm h nx k = bindE (opA tm h nx (.eb neg x y)) k := by
  simp only [k_eb, rdV_eq, dBl_eq, bK_eq, opA]
  cases rd tm x <;> first | rfl | skip
  cases rd tm y <;> first | rfl | skip
  rename_i a b
  cases a <;> cases b <;> cases neg <;> rfl
theorem dNil_eq (c : Nat) (v : AV) (t f d : R) : dNil c v t f d = d ∨ (∃ r, (∀ h, nilA h c v = some r) ∧ dNil c v t f d = if r = true then t else f) := by
  cases v <;> first | exact .inl rfl | skip
  all_goals simp only [dNil, bK_eq, beq_iff]
  all_goals try (
    by_cases h1 : c = 0
    · subst h1; first | exact .inr ⟨true, fun _ => rfl, rfl⟩ | exact .inr ⟨false, fun _ => rfl, rfl⟩ | exact .inl rfl
    by_cases h1 : c = 1
    · subst h1; first | exact .inr ⟨true, fun _ => rfl, rfl⟩ | exact .inr ⟨false, fun _ => rfl, rfl⟩ | (rename_i es _; cases es <;> first | exact .inl rfl | exact .inr ⟨false, fun _ => rfl, rfl⟩) | (rename_i es; cases es <;> first | exact .inl rfl | exact .inr ⟨false, fun _ => rfl, rfl⟩) | exact .inl rfl
    by_cases h1 : c = 2
    · subst h1; first | exact .inr ⟨true, fun _ => rfl, rfl⟩ | exact .inr ⟨false, fun _ => rfl, rfl⟩ | exact .inl rfl
    by_cases h1 : c = 3
    · subst h1; first | exact .inr ⟨true, fun _ => rfl, rfl⟩ | exact .inr ⟨false, fun _ => rfl, rfl⟩ | exact .inl rfl
    by_cases h1 : c = 4
    · subst h1; first | exact .inr ⟨true, fun _ => rfl, rfl⟩ | exact .inr ⟨false, fun _ => rfl, rfl⟩ | exact .inl rfl
    · left; simp [*])
theorem k_nq_eq (neg : Bool) (c : Nat) (x : Opd) : k_nq neg c x tm h nx k = bindE (opA tm h nx (.nq neg c x)) k := by
  simp only [k_nq, rdV_eq]
  rcases dNil_eq c (rd tm x) (bK neg (k (.bl false) h nx) (k (.bl true) h nx)) (bK neg (k (.bl true) h nx) (k (.bl false) h nx)) (slowE (.nq neg c x) tm h nx k) with h1 | ⟨r, h2, h3⟩
  · rw [h1]; exact slowE_eq ..
  · rw [h3]
    simp only [opA, h2 h, Option.bind_some, one, bindE_some, bK_eq]
    cases r <;> cases neg <;> rfl
theorem k_un_eq (op : UnOp) (x : Opd) : k_un op x tm h nx k = bindE (opA tm h nx (.un op x)) k := by
  simp only [k_un, rdV_eq, dBl_eq, bK_eq]
  split
  · rename_i b hb
    simp only [opA, hb]
    cases op <;> cases b <;> rfl
  · exact slowE_eq ..
theorem k_ci_eq (c : IntKind) (x : Opd) : k_ci c x tm h nx k = bindE (opA tm h nx (.ci c x)) k := by
  simp only [k_ci, rdV_eq, dInt_eq, wrapK_eq, opA]
  cases rd tm x <;> rfl
theorem k_fa_eq (off : Nat) (x : Opd) : k_fa off x tm h nx k = bindE (opA tm h nx (.fa off x)) k := by
  simp only [k_fa, rdV_eq, dPt_eq, lkB_eq, dDd_eq, nK_eq, opA, moveP]
  cases rd tm x <;> first | rfl | skip
  rename_i sz b i off
  simp only
  cases blk h b <;> rfl
theorem k_fd_eq (off : Nat) (n : Option Nat) (x : Opd) : k_fd off n x tm h nx k = bindE (opA tm h nx (.fd off n x)) k := by
  simp only [k_fd, rdV_eq, dAg_eq, ntK_eq, drK_eq, tkK_eq]
  cases hx : rd tm x <;> first | (simp only [opA, hx]; done) | (simp only [opA, hx]; rfl) | skip
  rename_i cs
  simp only
  cases n with
  | none =>
    simp only [opA, hx, Option.getD_none, valOf]
    rcases Nat.lt_or_ge off cs.length with h1 | h1
    · have : (cs.drop off).take 1 = [cs[off]] := by rw [List.drop_eq_getElem_cons h1]; rfl
      rw [this]; simp [h1, one]
    · rw [List.getElem?_eq_none h1, List.drop_eq_nil_of_le h1]; rfl
  | some n =>
    simp only
    split
    · split
      · simp [opA, hx, valOf, one]
      · exact slowE_eq ..
    · exact slowE_eq ..
end Go.Am
set_option linter.unusedVariables false
set_option linter.unusedSimpArgs false
namespace Go.Am
variable {tm : TT} {h : HH} {nx : Nat} {k : KE}

theorem k_ex_eq (x : Opd) (i : Nat) : k_ex x i tm h nx k = bindE (opA tm h nx (.ex x i)) k := by
  simp only [k_ex, rdV_eq, dTp_eq, ntK_eq, opA]
  cases rd tm x <;> first | rfl | skip
  rename_i vs
  simp only
  cases vs[i]? <;> rfl
theorem k_mm_eq (t : TypeId) : k_mm t tm h nx k = bindE (opA tm h nx (.mm t)) k := by
  simp only [k_mm, nK_eq, opA]; rfl
theorem k_le_eq (c : Nat) (x : Opd) : k_le c x tm h nx k = bindE (opA tm h nx (.le c x)) k := by
  simp only [k_le, bK_eq, beq_iff, rdV_eq, dSl_eq, lkB_eq, dDd_eq, nK_eq, lnK_eq]
  split
  · rename_i h1
    subst h1
    cases hx : rd tm x <;> first | exact slowE_eq .. | skip
    · simp [opA, hx, lenA, one]
    · simp [opA, hx, lenA, one]
    · simp [opA, hx, lenA, one]
    · rename_i sz b lo len
      have hal := alive_eq h b
      cases hb : blk h b <;> rw [hb] at hal <;> simp [opA, hx, lenA, hal, hb, one]
  · exact slowE_eq ..
theorem k_mk_eq (sz bytes : Nat) (z : List AV) (t : TypeId) (l c : Opd) : k_mk sz bytes z t l c tm h nx k = bindE (opA tm h nx (.mk sz bytes z t l c)) k := by
  simp only [k_mk, rdV_eq, dInt_eq, bK_eq, repK_eq, nK_eq, Nat.ble_eq]
  split
  · rename_i ka a ha
    cases a with
    | negSucc a => exact slowE_eq ..
    | ofNat a =>
      simp only
      split
      · rename_i kb b hb
        cases b with
        | negSucc b => exact slowE_eq ..
        | ofNat b =>
          simp only
          split
          case isFalse => exact slowE_eq ..
          rename_i h1
          split
          case isFalse => exact slowE_eq ..
          rename_i h2
          split
          case isFalse => exact slowE_eq ..
          rename_i h3
          simp only [opA, ha, hb]
          have hr : maxRoom = roomK := by decide
          rw [if_pos]
          · simp [ins]
          · refine ⟨Int.natCast_nonneg a, Int.ofNat_le.2 h1, ?_, ?_⟩
            · rw [hr]; exact Int.ofNat_le.2 h2
            · rw [hr]; exact Int.ofNat_le.2 h3
      · exact slowE_eq ..
  · exact slowE_eq ..
theorem oI_eq (x : Option Opd) (df L : Nat) (k : Nat → R) (d : R) : oI x tm df k d = d ∨ ∃ b, oI x tm df k d = k b ∧ (b ≤ L → (x.isSome = true ∨ df ≤ L) → optInt df tm 0 L x = some b) := by
  cases x with
  | none => exact .inr ⟨df, rfl, fun _ _ => rfl⟩
  | some o =>
    simp only [oI, rdV_eq, dInt_eq]
    split
    · rename_i c n hn
      cases n with
      | negSucc n => exact .inl rfl
      | ofNat n =>
        refine .inr ⟨n, rfl, fun h1 _ => ?_⟩
        simp only [optInt, bound, hn]
        rw [if_pos ⟨Int.natCast_nonneg n, Int.ofNat_le.2 h1⟩]
        rfl
    · exact .inl rfl
theorem k_sc_eq (sz : Nat) (x : Opd) (lo hi mx : Option Opd) : k_sc sz x lo hi mx tm h nx k = bindE (opA tm h nx (.sc sz x lo hi mx)) k := by
  simp only [k_sc, rdV_eq, dSl_eq, bK_eq, beq_iff, lkB_eq, dDd_eq, nK_eq, lnK_eq, drK_eq, tkK_eq, Nat.ble_eq]
  cases mx with
  | some m => exact slowE_eq ..
  | none =>
    simp only
    cases hx : rd tm x <;> first | exact slowE_eq .. | skip
    · rename_i sz' es
      simp only
      split
      case isFalse => exact slowE_eq ..
      rename_i hz
      rcases oI_eq (tm := tm) hi es.length es.length _ _ with h1 | ⟨b, h1, h2⟩
      · rw [h1]; exact slowE_eq ..
      rw [h1]
      rcases oI_eq (tm := tm) lo 0 b _ _ with h3 | ⟨a, h3, h4⟩
      · rw [h3]; exact slowE_eq ..
      rw [h3]
      split
      case isFalse => exact slowE_eq ..
      rename_i hb
      split
      case isFalse => exact slowE_eq ..
      rename_i ha
      split
      case isFalse => exact slowE_eq ..
      rename_i hl
      split
      case isFalse => exact slowE_eq ..
      rename_i hl2
      simp only [opA, hx]
      rw [if_neg (fun h => h hz)]
      simp [h2 hb (.inr (Nat.le_refl _)), h4 ha (.inr (Nat.zero_le _)), one]
    · rename_i sz' r l0 len
      simp only
      split
      case isFalse => exact slowE_eq ..
      rename_i hz
      have hal := alive_eq h r
      cases hbk : blk h r <;> first | exact slowE_eq .. | skip
      all_goals
        rw [hbk] at hal
        simp only at hal ⊢
        rcases oI_eq (tm := tm) hi len len _ _ with h1 | ⟨b, h1, h2⟩
        · rw [h1]; exact slowE_eq ..
        rw [h1]
        rcases oI_eq (tm := tm) lo 0 b _ _ with h3 | ⟨a, h3, h4⟩
        · rw [h3]; exact slowE_eq ..
        rw [h3]
        split
        case isFalse => exact slowE_eq ..
        rename_i hb
        split
        case isFalse => exact slowE_eq ..
        rename_i ha
        simp only [opA, hx, hal]
        rw [if_neg (by simp [hz])]
        simp [h2 hb (.inr (Nat.le_refl _)), h4 ha (.inr (Nat.zero_le _)), one]
theorem k_ia_eq (arr : Option Nat) (sz : Nat) (x i : Opd) : k_ia arr sz x i tm h nx k = bindE (opA tm h nx (.ia arr sz x i)) k := by
  cases arr with
  | some n => exact slowE_eq ..
  | none =>
    simp only [k_ia, rdV_eq, dSl_eq, bK_eq, beq_iff, lkB_eq, dDd_eq, dInt_eq, ntK_eq, nK_eq, Nat.ble_eq, opA]
    cases hx : rd tm x <;> first | rfl | skip
    · rename_i sz' es
      simp only
      by_cases hz : sz' = sz
      · rw [if_pos hz, if_neg (fun h => h hz)]
        cases hi : rd tm i <;> first | rfl | skip
        rename_i c n
        cases n with
        | negSucc n => simp only [bound]; rw [if_neg (by omega)]; rfl
        | ofNat n =>
          simp only [bound, Int.ofNat_eq_natCast]
          by_cases hn : n < es.length
          · rw [if_pos (by omega), List.getElem?_eq_getElem hn]; rfl
          · rw [if_neg (by omega), List.getElem?_eq_none (by omega)]; rfl
      · rw [if_neg hz, if_pos hz]; rfl
    · rename_i sz' b lo len
      simp only
      have hal := alive_eq h b
      by_cases hz : sz' = sz
      · rw [if_pos hz]
        cases hbk : blk h b <;> rw [hbk] at hal <;> simp only at hal ⊢
        case dd => simp [hal, hz]
        all_goals
          rw [if_neg (by simp [hal, hz])]
          cases hi : rd tm i <;> first | rfl | skip
          rename_i c n
          cases n with
          | negSucc n => simp only [bound]; rw [if_neg (by omega)]; rfl
          | ofNat n =>
            simp only [bound, Int.ofNat_eq_natCast]
            by_cases hn : n + 1 ≤ len
            · rw [if_pos hn, if_pos (by omega)]; rfl
            · rw [if_neg hn, if_neg (by omega)]; rfl
      · rw [if_neg hz, if_pos (by simp [hz])]; rfl
end Go.Am
set_option linter.unusedVariables false
set_option linter.unusedSimpArgs false
namespace Go.Am
variable {tm : TT} {h : HH} {nx : Nat} {k : KE}

theorem elK_eq (sz : Nat) (v : AV) (k : List (List AV) → R) (d : R) : elK h sz v k d = d ∨ ∃ es, elems h sz v = some es ∧ elK h sz v k d = k es := by
  simp only [elK, dSl_eq, bK_eq, beq_iff, lkB_eq, dRw_eq, drK_eq, tkK_eq]
  cases v <;> first | exact .inl rfl | exact .inr ⟨[], rfl, rfl⟩ | skip
  · rename_i sz' es
    simp only
    by_cases hz : sz = sz'
    · exact .inr ⟨es, by simp [elems, hz], by simp [hz]⟩
    · exact .inl (by simp [hz])
  · rename_i sz' b lo len
    simp only
    by_cases hz : sz = sz'
    · rw [if_pos hz]
      cases hb : blk h b <;> first | exact .inl rfl | skip
      rename_i v sz'' es t
      cases v
      · simp only [Bool.false_eq_true, if_false]
        by_cases hz2 : sz = sz''
        · rw [if_pos hz2]
          split
          · rename_i h1
            split
            · rename_i h2
              simp only [List.length_drop] at h2
              refine .inr ⟨(es.drop lo).take len, ?_, rfl⟩
              simp only [elems, hb]
              rw [if_pos ⟨hz, hz2, by omega⟩]
            · exact .inl rfl
          · exact .inl rfl
        · rw [if_neg hz2]; exact .inl rfl
      · exact .inl rfl
    · rw [if_neg hz]; exact .inl rfl
theorem k_ap_eq (sz bytes : Nat) (t : TypeId) (x y : Opd) : k_ap sz bytes t x y tm h nx k = bindE (opA tm h nx (.ap sz bytes t x y)) k := by
  simp only [k_ap, rdV_eq]
  rcases elK_eq (h := h) sz (rd tm x) _ _ with h1 | ⟨a, ha, h1⟩
  · rw [h1]; exact slowE_eq ..
  rw [h1]
  rcases elK_eq (h := h) sz (rd tm y) _ _ with h2 | ⟨b, hb, h2⟩
  · rw [h2]; exact slowE_eq ..
  rw [h2]
  simp only [nK_eq, bK_eq, Nat.ble_eq, beq_iff, lnK_eq, nudKs_eq, dSl_eq, lkB_eq, dRw_eq, putK_eq, apK_eq]
  have hr : maxRoom = roomK := by decide
  split
  case isFalse => exact slowE_eq ..
  rename_i r1
  split
  case isFalse => exact slowE_eq ..
  rename_i r2
  split
  · exact slowE_eq ..
  rename_i r3
  have hcond : (a.length + b.length) * bytes ≤ maxRoom ∧ a.length + b.length ≤ maxRoom ∧ b.flatten.any isUd = false := ⟨by rw [hr]; exact r1, by rw [hr]; exact r2, by simpa using r3⟩
  cases hx : rd tm x <;> first | exact slowE_eq .. | skip
  · rw [hx] at ha
    simp only [elems, Option.some.injEq] at ha
    subst ha
    simp only [opA, hx, hb, show elems h sz .ns = some [] from rfl, Option.bind_some]
    rw [if_pos hcond]
    cases b with
    | nil => rfl
    | cons b0 b => simp [ins]
  · rename_i sz' r lo len
    rw [hx] at ha
    simp only
    cases hbk : blk h r <;> first | exact slowE_eq .. | skip
    rename_i v sz'' es ty
    cases v
    · simp only [Bool.false_eq_true, if_false]
      split
      case isFalse => exact slowE_eq ..
      rename_i e1
      split
      case isFalse => exact slowE_eq ..
      rename_i e2
      simp only [opA, hx, ha, hb, Option.bind_some, hbk]
      rw [if_pos hcond, if_pos ⟨e1, e2⟩]
      simp [ins]
    · exact slowE_eq ..
theorem kqK_eq (a b : AV) (t f : R) : kqK a b t f none = match keyEq a b with | some true => t | some false => f | none => none := by
  simp only [kqK, dInt_eq, dSt_eq, bK_eq, kEq_iff, iEq_eq, stEq_iff]
  cases a <;> first | rfl | skip
  all_goals (cases b <;> first | rfl | skip)
  · rename_i ka a kb b
    simp only [keyEq]
    by_cases h2 : ka = kb
    · subst h2; simp only [if_true]; cases h : (a == b) <;> rfl
    · simp [h2]
  · rename_i a b
    simp only [keyEq]
    by_cases h2 : a = b
    · subst h2
      have : (a == a) = true := by show (a.data == a.data) = true; simp
      simp [this]
    · have : (a == b) = false := by cases h3 : (a == b) with | false => rfl | true => exact absurd (ba_eq h3) h2
      simp [h2, this]
theorem fkK_eq (key : AV) (es : List (AV × AV)) (k : AV → R) (nf : R) (i : Nat) : fkK key es k nf none = match findK key es i with | some (some (_, v)) => k v | some none => nf | none => none := by
  induction es generalizing i with
  | nil => rfl
  | cons p es ih =>
    obtain ⟨a, v⟩ := p
    have := ih (i + 1)
    simp only [fkK, findK, kqK_eq] at this ⊢
    rw [this]
    rcases keyEq key a with _ | _ | _ <;> rfl
theorem iskK_eq (s : Bool) (v : AV) (k d : R) : iskK s v k d = if isKey s v = true then k else d := by
  simp only [iskK, bK_eq, dSt_eq, dInt_eq]
  cases s <;> cases v <;> rfl
theorem k_lk_eq (s : Bool) (z : AV) (ok : Bool) (x i : Opd) : k_lk s z ok x i tm h nx k = bindE (opA tm h nx (.lk s z ok x i)) k := by
  simp only [k_lk, rdV_eq, iskK_eq, dMp_eq, lkB_eq, dMk_eq, bK_eq]
  by_cases h1 : isKey s (rd tm i) = true
  · rw [if_pos h1]
    split
    · rename_i b hb
      simp only [opA, hb, h1, if_true]
      cases blk h b <;> first | rfl | skip
      rename_i es
      simp only [fkK_eq _ _ _ _ 0]
      rcases findK (rd tm i) es 0 with _ | _ | ⟨j, v⟩ <;> cases ok <;> rfl
    · exact slowE_eq ..
  · rw [if_neg h1]; simp [opA, h1]
theorem opK_eq (o : COp) : opK o tm h nx k = bindE (opA tm h nx o) k := by
  cases o
  case cf f xs => exact slowE_eq (.cf f xs) tm h nx k
  case cv f xs => exact slowE_eq (.cv f xs) tm h nx k
  case bad => exact slowE_eq .bad tm h nx k
  all_goals first
    | exact k_mv_eq .. | exact k_pk_eq .. | exact k_al_eq .. | exact k_bx_eq .. | exact k_bd_eq .. | exact k_bs_eq .. | exact k_ld_eq .. | exact k_sr_eq .. | exact k_nc_eq .. | exact k_bn_eq .. | exact k_ea_eq ..
    | exact k_eb_eq .. | exact k_nq_eq .. | exact k_un_eq .. | exact k_ci_eq .. | exact k_fa_eq .. | exact k_fd_eq .. | exact k_ia_eq .. | exact k_sc_eq .. | exact k_mk_eq .. | exact k_ex_eq .. | exact k_le_eq .. | exact k_ap_eq ..
    | exact k_mm_eq .. | exact k_lk_eq .. | exact slowE_eq _ tm h nx k
end Go.Am
set_option linter.unusedVariables false
namespace Go.Am
noncomputable section

def dOw (v : AV) (t e : R) : R :=
  @AV.rec (fun _ => R → R → R) (fun _ => PUnit) (fun _ => PUnit)
    (fun k n t e => e)
    (fun b t e => e)
    (fun s t e => e)
    (fun t e => e)
    (fun t e => e)
    (fun t e => e)
    (fun t e => e)
    (fun t e => e)
    (fun t e => e)
    (fun t e => e)
    (fun cs _ih t e => e)
    (fun vs _ih t e => e)
    (fun sz es _ih t e => e)
    (fun sz b lo len t e => e)
    (fun sz b i off t e => e)
    (fun sz es i off _ih t e => e)
    (fun f caps _ih t e => e)
    (fun b t e => e)
    (fun sz es _ih t e => t)
    PUnit.unit (fun _ _ _ _ => PUnit.unit) PUnit.unit (fun _ _ _ _ => PUnit.unit) v t e

def lrcK (p : Nat → Bool) (r : Nat → Nat) (v : AV) (k : AV → R) : R :=
  @AV.rec (fun _ => (Nat → Bool) → (Nat → Nat) → (AV → R) → R) (fun _ => PUnit) (fun _ => PUnit)
    (fun k n p r κ => κ (AV.int k n))
    (fun b p r κ => κ (AV.bl b))
    (fun s p r κ => κ (AV.st s))
    (fun p r κ => κ (AV.np))
    (fun p r κ => κ (AV.nm))
    (fun p r κ => κ (AV.nf))
    (fun p r κ => κ (AV.ni))
    (fun p r κ => κ (AV.ns))
    (fun p r κ => κ (AV.ez))
    (fun p r κ => κ .ud)
    (fun cs _ih p r κ => κ .ud)
    (fun vs _ih p r κ => κ .ud)
    (fun sz es _ih p r κ => κ (AV.ls sz es))
    (fun sz b lo len p r κ => bK (p b) (nK (r b) fun b' => κ (.sl sz b' lo len)) (κ .ud))
    (fun sz b i off p r κ => bK (p b) (nK (r b) fun b' => κ (.re sz b' i off)) (κ .ud))
    (fun sz es i off _ih p r κ => κ (AV.ri sz es i off))
    (fun f caps _ih p r κ => fV (lrC p r (.fn f caps)) κ)
    (fun b p r κ => bK (p b) (nK (r b) fun b' => κ (.mp b')) (κ .ud))
    (fun sz es _ih p r κ => κ .ud)
    PUnit.unit (fun _ _ _ _ => PUnit.unit) PUnit.unit (fun _ _ _ _ => PUnit.unit) v p r k

def lrLK (p : Nat → Bool) (r : Nat → Nat) (l : List AV) (k : List AV → R) : R :=
  @List.rec AV (fun _ => (List AV → R) → R) (fun k => k []) (fun a _ ih k => lrcK p r a fun a' => ih fun l => k (a' :: l)) l k
def lrwK (p : Nat → Bool) (r : Nat → Nat) (v : AV) (k : AV → R) : R := dAg v (fun cs => lrLK p r cs fun l => k (.ag l)) (lrcK p r v k)
def lrWK (p : Nat → Bool) (r : Nat → Nat) (l : List AV) (k : List AV → R) : R :=
  @List.rec AV (fun _ => (List AV → R) → R) (fun k => k []) (fun a _ ih k => lrwK p r a fun a' => ih fun l => k (a' :: l)) l k
def lrvK (p : Nat → Bool) (r : Nat → Nat) (v : AV) (k : AV → R) : R := dTp v (fun vs => lrWK p r vs fun l => k (.tp l)) (lrwK p r v k)
def lrLLK (p : Nat → Bool) (r : Nat → Nat) (l : List (List AV)) (k : List (List AV) → R) : R :=
  @List.rec (List AV) (fun _ => (List (List AV) → R) → R) (fun k => k []) (fun a _ ih k => lrLK p r a fun a' => ih fun l => k (a' :: l)) l k
def lrbK (p : Nat → Bool) (r : Nat → Nat) (b : BK) (k : BK → R) : R :=
  @BK.rec (fun _ => R) (fun v sz es t => bK v (lrLLK p r es fun es => k (.rw true sz es t)) (k (.rw false sz es t))) (fun es => k (.mp es)) (k .dd) b

def snK (h : HH) (c : AV) (k : AV → R) (d : R) : R :=
  dFlat c k (dSl c d d (fun _ _ => d) (fun sz b lo len => lkB h b fun bk => dRw bk (fun v sz' es _ => bK v d (bK (Nat.beq sz sz') (drK lo es (fun r => tkK len r (fun l => k (.ls sz l)) d) d) d)) d) d)
def snLK (h : HH) (cs : List AV) (k : List AV → R) (d : R) : R :=
  @List.rec AV (fun _ => (List AV → R) → R) (fun k => k []) (fun a _ ih k => snK h a (fun a' => ih fun l => k (a' :: l)) d) cs k
def snvK (h : HH) (v : AV) (k : AV → R) (d : R) : R := dAg v (fun cs => snLK h cs (fun l => k (.ag l)) d) (snK h v k d)
def snaK (h : HH) (vs : List AV) (k : List AV → R) (d : R) : R :=
  @List.rec AV (fun _ => (List AV → R) → R) (fun k => k []) (fun a _ ih k => snvK h a (fun a' => ih fun l => k (a' :: l)) d) vs k
def exK (r : R) (k : St → R) : R := @Option.rec (EX × St) (fun _ => R) none (fun p => @Prod.rec EX St (fun _ => R) (fun ex S => @EX.rec (fun _ => R) (k S) (fun _ => none) (k S) ex) p) r
def enK (as : List AV) (i : Nat) (k : TT → R) : R :=
  @List.rec AV (fun _ => Nat → (TT → R) → R) (fun _ k => k []) (fun a _ ih i k => nK (Nat.succ i) fun j => ih j fun t => k ((i, a) :: t)) as i k
def rsK (res : List CR) (tm : TT) (h : HH) (k : List AV → R) : R :=
  @List.rec CR (fun _ => (List AV → R) → R) (fun k => k []) (fun c _ ih k => @CR.rec (fun _ => R) (fun t => lkV tm t fun v => dTp v (fun _ => none) (ih fun l => k (v :: l))) (fun t n => k_ld n (.t t) tm h Nat.zero fun v _ _ => ih fun l => k (v :: l)) c) res k
def pkK (vs : List AV) (k : AV → R) : R := @List.rec AV (fun _ => R) (k (.tp [])) (fun a l _ => @List.rec AV (fun _ => R) (k a) (fun b l _ => k (.tp (a :: b :: l))) l) vs
def rdsK (xs : List Opd) (tm : TT) (k : List AV → R) : R :=
  @List.rec Opd (fun _ => (List AV → R) → R) (fun k => k []) (fun x _ ih k => rdV x tm fun v => ih fun l => k (v :: l)) xs k
def nowC (l : List AV) (t d : R) : R := @List.rec AV (fun _ => R) t (fun a _ ih => dOw a d ih) l
def nowW (v : AV) (t d : R) : R := dAg v (fun cs => nowC cs t d) (dOw v d t)
def nowV (v : AV) (t d : R) : R := dTp v (fun vs => @List.rec AV (fun _ => R) t (fun a _ ih => nowW a ih d) vs) (nowW v t d)
def inK (r : AV) (h : HH) (nx : Nat) (k : KE) : R := nowV r (k r h nx) (match inR nx r with
  | ⟨v, l, n⟩ => fV v fun v => fH (l ++ h) fun h => fN n fun n => k v h n)

def ovV (o : Option AV) (k : AV → R) : R := match o with
  | none => none
  | some r => fV r k
def ovVs (o : Option (List AV)) (k : List AV → R) : R := match o with
  | none => none
  | some r => fVs r k

section
variable (g : Cfg) (run : CC → St → R)
def rpK (f : FuncId) (tm : TT) (h : HH) (vs : List AV) (k : AV → R) : R :=
  (fun slow => @List.rec Nat (fun _ => R) (snaK h vs (fun vs => pkK vs k) slow) (fun _ _ _ => slow) (g.own f))
    (ovV (if nodupB (handVs (g.own f) 0 vs) then (outVs h (kill h (handVs (g.own f) 0 vs)) (g.own f) 0 vs).map pack else none) k)
def cpK (f : FuncId) (as : List AV) (k : AV → R) : R :=
  @Option.rec AV (fun _ => R) (@Option.rec CF (fun _ => R) none (fun c => @CF.rec (fun _ => R) (fun np code res => bK (Nat.ble (lnK as) np)
    (enK as Nat.zero fun t => exK (run code ⟨t, [], Nat.zero, Nat.zero⟩) fun S => @St.rec (fun _ => R) (fun tm h _ _ => rsK res tm h fun vs => rpK g f tm h vs k) S) none) c) (g.code f)) (fun r => fV r k) (g.ext f as)
def klK (h : HH) (bs : List Nat) (k : HH → R) : R := @List.rec Nat (fun _ => (HH → R) → R) (fun k => k h) (fun b _ ih k => ih fun h1 => putK h1 b .dd k) bs k
def fiK (f : FuncId) (args : List AV) (h : HH) (nx : Nat) (r : AV) (k : KE) : R :=
  bK (args.all (okV fun _ => false) || flatV r) (inK r h nx k) (bK (g.kl f && (args.flatMap refsV).all (isRow h)) (klK h (args.flatMap refsV) fun h' => inK r h' nx k) none)
def caK (f : FuncId) (args : List AV) (h : HH) (nx : Nat) (k : KE) : R :=
  bK (g.inl f)
    (@Option.rec CF (fun _ => R) (@Option.rec Ef (fun _ => R) none (fun e => k e.v e.h e.nx) (g.wr f args h nx)) (fun c => @CF.rec (fun _ => R) (fun np code res => bK (Nat.ble (lnK args) np)
      (enK args Nat.zero fun t => exK (run code ⟨t, h, nx, nx⟩) fun S => @St.rec (fun _ => R) (fun tm h nx _ => rsK res tm h fun vs => pkK vs fun r => k r h nx) S) none) c) (g.code f))
    ((fun go => snaK h args go (ovVs (snapL (snapV h) args) go)) (fun as => cpK g run f as fun r => fiK g f args h nx r k))
def opCK (o : COp) (tm : TT) (h : HH) (nx : Nat) (k : KE) : R :=
  @COp.rec (fun _ => TT → HH → Nat → KE → R) k_mv k_pk k_al k_bx k_bd k_bs k_ld k_sr k_nc k_bn k_ea k_eb k_nq k_un k_ci (fun t x => slowE (.cs t x)) (fun x => slowE (.cv1 x)) (fun x => slowE (.cb x)) k_fa k_fd k_ia
    (fun len sz n x i => slowE (.ix len sz n x i)) (fun x i => slowE (.si x i)) (fun x lo hi => slowE (.ss x lo hi)) k_sc k_mk (fun f caps => slowE (.mf f caps)) k_ex
    (fun f xs tm h nx k => rdsK xs tm fun vs => caK g run f vs h nx k) (fun x xs tm h nx k => rdV x tm fun v => dFn v (fun f caps => bK (fnU f xs) (rdsK xs tm fun vs => apK vs caps fun vs => caK g run (fnN f) vs h nx k) none) none) k_le k_ap
    (fun sz x y => slowE (.cp sz x y)) (fun xs => slowE (.mx xs)) (fun xs => slowE (.mn xs)) k_mm k_lk (fun s x k v => slowE (.mu s x k v)) (fun s x k => slowE (.de s x k)) (slowE .bad) o tm h nx k
def oneK (tm : TT) (h : HH) (nx : Nat) (o : CI) (k : KE) : R :=
  @CI.rec (fun _ => R) (fun _ op gd => @Option.rec (Nat × Bool) (fun _ => R) (opCK g run op tm h nx k) (fun p => @Prod.rec Nat Bool (fun _ => R) (fun t w => lkV tm t fun v =>
    dBl v (fun b => bK b (bK w (opCK g run op tm h nx k) (k (.tp []) h nx)) (bK w (k (.tp []) h nx) (opCK g run op tm h nx k))) (dTp v (fun vs => @List.rec AV (fun _ => R) (k (.tp []) h nx) (fun _ _ _ => none) vs) none)) p) gd) o
def opsK (bs : Nat) (l : List CI) (tm : TT) (h : HH) (nx : Nat) : R :=
  @List.rec CI (fun _ => TT → HH → Nat → R) (fun tm h nx => some (.nm, ⟨tm, h, nx, bs⟩)) (fun o _ ih tm h nx => oneK g run tm h nx o fun v h' nx' => bK (Nat.ble bs nx')
    (@CI.rec (fun _ => R) (fun dst _ _ => @Option.rec Nat (fun _ => R) (ih tm h' nx') (fun d => ih ((d, v) :: tm) h' nx') dst) o) none) l tm h nx

def rfK (v : AV) (k : List Nat → R) : R := dFlat v (fun _ => k []) (fNs (refsV v) k)
def tdK (ts : List Nat) (tm : TT) (k : List Nat → R) : R :=
  @List.rec Nat (fun _ => (List Nat → R) → R) (fun k => k []) (fun t _ ih k => lkV tm t fun v => rfK v fun rs => ih fun l => apK rs l k) ts k
def olK (bs : Nat) (h : HH) (k : HH → R) : R :=
  @List.rec (Nat × BK) (fun _ => (HH → R) → R) (fun k => k []) (fun p _ ih k => @Prod.rec Nat BK (fun _ => R) (fun n b => bK (Nat.ble (Nat.succ n) bs) (ih fun l => k ((n, b) :: l)) (ih k)) p) h k
def lvK (p : Nat → Bool) (r : Nat → Nat) (ts : List Nat) (tm : TT) (k : TT → R) : R :=
  @List.rec Nat (fun _ => (TT → R) → R) (fun k => k []) (fun t _ ih k => lkV tm t fun v => lrvK p r v fun v' => ih fun l => k ((t, v') :: l)) ts k
def obK (p : Nat → Bool) (r : Nat → Nat) (h : HH) (k : HH → R) : R :=
  @List.rec (Nat × BK) (fun _ => (HH → R) → R) (fun k => k []) (fun q _ ih k => @Prod.rec Nat BK (fun _ => R) (fun n b => lrbK p r b fun b' => ih fun l => k ((n, b') :: l)) q) h k
def nmK (p : Nat → Bool) (r : Nat → Nat) (h : HH) (m : List Nat) (n : Nat) (k : HH → R) : R :=
  @List.rec Nat (fun _ => Nat → (HH → R) → R) (fun _ k => k []) (fun b _ ih n k => lkB h b fun bk => lrbK p r bk fun b' => nK (Nat.succ n) fun n' => ih n' fun l => k ((n, b') :: l)) m n k
def rcK (h : HH) (bs : Nat) (td : List Nat) (k : List Nat → R) : R := @List.rec Nat (fun _ => R) (k []) (fun _ _ _ => fNs (reach h bs 4096 td []) k) td
def cnK (live : List Nat) (tm : TT) (h : HH) (nx bs : Nat) (k : TT → HH → Nat → R) : R :=
  olK bs h fun old => tdK live tm fun td => fNs (old.flatMap fun p => refsB p.2) fun od => apK td od fun td => rcK h bs td fun m =>
    lvK (fun b => decide (b < bs) || m.contains b) (fun b => if b < bs then b else idxOf m b bs) live tm fun tm' =>
    obK (fun b => decide (b < bs) || m.contains b) (fun b => if b < bs then b else idxOf m b bs) old fun h1 =>
    nmK (fun b => decide (b < bs) || m.contains b) (fun b => if b < bs then b else idxOf m b bs) h m bs fun h2 =>
    apK h1 h2 fun h' => nK (Nat.add bs (lnK m)) fun nx' => k tm' h' nx'

def usK (h : HH) (td : List Nat) (k : List Nat → R) : R := @List.rec Nat (fun _ => R) (k []) (fun _ _ _ => fNs (clo h 64 td []) k) td
def lhK (p : Nat → Bool) (ac : List Nat) (h : HH) (k : HH → R) : R :=
  @List.rec Nat (fun _ => (HH → R) → R) (fun k => k []) (fun b _ ih k => lkB h b fun bk => lrbK p id bk fun b' => ih fun l => k ((b, b') :: l)) ac k
def ovK (p : Nat → Bool) (h h2 : HH) (wr : List Nat) (k : HH → R) : R :=
  @List.rec Nat (fun _ => (HH → R) → R) (fun k => k h) (fun b _ ih k => lkB h2 b fun bk => lrbK p id bk fun b' => ih fun h1 => putK h1 b b' k) wr k
def emK (l : List Nat) (t e : R) : R := @List.rec Nat (fun _ => R) t (fun _ _ _ => e) l
def acK (o : CI) (us : List Nat) (k : List Nat → R) : R := bK (agn o.op) (k []) (k us)
def chkK (dp : List Nat) (fs : List Foot) (us ac fr wr : List Nat) (nx nx2 : Nat) : Bool := Nat.ble nx nx2 && fs.all (fun f => dp.contains f.ix || (away f.wr ac && away wr f.ac && away f.fr us && away fr f.us && away f.wr wr))
def footK (dp : List Nat) (ix : Nat) (fs : List Foot) (us ac fr wr : List Nat) (nx nx2 : Nat) (go : List Foot → R) : R :=
  (fun full => emK us (emK wr (bK (Nat.ble nx nx2) (go fs) none) full) full) (bK (chkK dp fs us ac fr wr nx nx2) (go (⟨ix, us, ac, fr, wr⟩ :: fs)) none)
def dstK (o : CI) (v : AV) (tm : TT) (k : TT → R) : R := @CI.rec (fun _ => R) (fun dst _ _ => @Option.rec Nat (fun _ => R) (k tm) (fun d => k ((d, v) :: tm)) dst) o
def parK (bs : Nat) (l : List (CI × List Nat)) (ix : Nat) (fs : List Foot) (tm : TT) (h : HH) (nx : Nat) : R :=
  @List.rec (CI × List Nat) (fun _ => Nat → List Foot → TT → HH → Nat → R) (fun _ _ tm h nx => some (.nm, ⟨tm, h, nx, bs⟩)) (fun od _ ih ix fs tm h nx => @Prod.rec CI (List Nat) (fun _ => R) (fun o dp =>
    fNs (readsI o) fun rs => tdK rs tm fun td => usK h td fun us => acK o us fun ac =>
    lvK (us.contains ·) id rs tm fun tm' => bK (us.all (fun b => decide (b < nx))) (lhK (us.contains ·) ac h fun h' => oneK g run tm' h' nx o fun v h2 nx2 =>
      fNs (upto nx (nx2 - nx)) fun fr => fNs (fr ++ wI g tm' h' o us) fun wr =>
      nK (Nat.succ ix) fun ix' => footK dp ix fs us ac fr wr nx nx2 fun fs' =>
        lrvK (domD us nx nx2) id v fun v' => ovK (domD us nx nx2) h h2 wr fun h'' => dstK o v' tm fun tm'' => ih ix' fs' tm'' h'' nx2) none) od) l ix fs tm h nx

def sqK (r : R) (k : St → R) : R :=
  @Option.rec (EX × St) (fun _ => R) none (fun p => @Prod.rec EX St (fun _ => R) (fun ex S => @EX.rec (fun _ => R) (k S) (fun i => some (.xt i, S)) (some (.rt, S)) ex) p) r
def bkK (id : Nat) (r : R) : R :=
  @Option.rec (EX × St) (fun _ => R) none (fun p => @Prod.rec EX St (fun _ => R) (fun ex S => @EX.rec (fun _ => R) (some (.nm, S)) (fun j => bK (Nat.beq j id) (some (.nm, S)) (some (.xt j, S))) (some (.rt, S)) ex) p) r
def stpK (c : CC) (S : St) : R :=
  @CC.rec (fun _ => St → R) (fun S => some (.nm, S)) (fun ops S => @St.rec (fun _ => R) (fun tm h nx bs => opsK g run bs ops tm h nx) S) (fun ops S => @St.rec (fun _ => R) (fun tm h nx bs => parK g run bs ops Nat.zero [] tm h nx) S)
    (fun _ _ iha ihb S => sqK (iha S) ihb) (fun c _ _ iha ihb S => @St.rec (fun _ => R) (fun tm h nx bs => rdV c tm fun v => dBl v (fun t => bK t (iha ⟨tm, h, nx, bs⟩) (ihb ⟨tm, h, nx, bs⟩)) none) S)
    (fun id _ ih S => bkK id (ih S)) (fun live b ih S => @St.rec (fun _ => R) (fun tm h nx bs => cnK live tm h nx bs fun tm h nx => sqK (ih ⟨tm, h, nx, bs⟩) fun S => run (.lp live b) S) S)
    (fun id S => some (.xt id, S)) (fun S => some (.rt, S)) (fun _ => none) c S
end
def evalK (g : Cfg) (n : Nat) : CC → St → R := @Nat.rec (fun _ => CC → St → R) (fun _ _ => none) (fun _ ih => stpK g ih) n
end
end Go.Am
set_option linter.unusedVariables false
set_option linter.unusedSimpArgs false
namespace Go.Am
theorem dOw_eq (v : AV) (t e : R) : dOw v t e = match v with | .ow .. => t | _ => e := by cases v <;> rfl
theorem lrcK_eq (p : Nat → Bool) (r : Nat → Nat) (v : AV) (k : AV → R) : lrcK p r v k = k (lrC p r v) := by
  cases v
  case sl sz b lo len => show bK (p b) _ _ = _; simp only [bK_eq, nK_eq, lrC, okC, ren]; by_cases hp : p b = true <;> simp [hp]
  case re sz b i off => show bK (p b) _ _ = _; simp only [bK_eq, nK_eq, lrC, okC, ren]; by_cases hp : p b = true <;> simp [hp]
  case mp b => show bK (p b) _ _ = _; simp only [bK_eq, nK_eq, lrC, okC, ren]; by_cases hp : p b = true <;> simp [hp]
  case fn f caps => exact fV_eq _ _
  all_goals rfl
theorem lrLK_eq (p : Nat → Bool) (r : Nat → Nat) (l : List AV) (k : List AV → R) : lrLK p r l k = k (l.map (lrC p r)) := by
  induction l generalizing k with
  | nil => rfl
  | cons a l ih => have := ih fun l => k (lrC p r a :: l); simp only [lrLK, lrcK_eq, List.map_cons] at this ⊢; exact this
theorem lrwK_eq (p : Nat → Bool) (r : Nat → Nat) (v : AV) (k : AV → R) : lrwK p r v k = k (lrW p r v) := by
  simp only [lrwK, dAg_eq, lrLK_eq, lrcK_eq]
  cases v <;> rfl
theorem lrWK_eq (p : Nat → Bool) (r : Nat → Nat) (l : List AV) (k : List AV → R) : lrWK p r l k = k (l.map (lrW p r)) := by
  induction l generalizing k with
  | nil => rfl
  | cons a l ih => have := ih fun l => k (lrW p r a :: l); simp only [lrWK, lrwK_eq, List.map_cons] at this ⊢; exact this
theorem lrvK_eq (p : Nat → Bool) (r : Nat → Nat) (v : AV) (k : AV → R) : lrvK p r v k = k (lrV p r v) := by
  simp only [lrvK, dTp_eq, lrWK_eq, lrwK_eq]
  cases v <;> rfl
theorem lrLLK_eq (p : Nat → Bool) (r : Nat → Nat) (l : List (List AV)) (k : List (List AV) → R) : lrLLK p r l k = k (l.map fun cs => cs.map (lrC p r)) := by
  induction l generalizing k with
  | nil => rfl
  | cons a l ih => have := ih fun l => k (a.map (lrC p r) :: l); simp only [lrLLK, lrLK_eq, List.map_cons] at this ⊢; exact this
theorem lrbK_eq (p : Nat → Bool) (r : Nat → Nat) (b : BK) (k : BK → R) : lrbK p r b k = k (lrB p r b) := by
  cases b with
  | rw v sz es t => cases v <;> simp [lrbK, bK_eq, lrLLK_eq, lrB]
  | mp => rfl
  | dd => rfl

variable {h : HH}
theorem snS_eq (sz b lo len : Nat) (k : AV → R) (d : R) : snK h (.sl sz b lo len) k d = match blk h b with
    | .rw v sz' es _ => if v = true then d else if sz = sz' then (if lo ≤ es.length then (if len ≤ es.length - lo then k (.ls sz ((es.drop lo).take len)) else d) else d) else d
    | _ => d := by
  have e : ∀ k d, dFlat (.sl sz b lo len) k d = d := fun _ _ => rfl
  simp only [snK, e, dSl_eq, bK_eq, beq_iff, lkB_eq, dRw_eq, drK_eq, tkK_eq, List.length_drop]
  all_goals (cases blk h b <;> rfl)
theorem snK_eq (c : AV) (k : AV → R) (d : R) : snK h c k d = d ∨ ∃ v, snapC h c = some v ∧ snap h c = some v ∧ (∀ l, c ≠ .ag l) ∧ snK h c k d = k v := by
  cases c
  case sl sz b lo len =>
    rw [snS_eq]
    cases hb : blk h b <;> first | exact .inl rfl | skip
    rename_i v sz' es t
    simp only
    split
    · exact .inl rfl
    rename_i hv
    split
    case isFalse => exact .inl rfl
    rename_i hz
    split
    case isFalse => exact .inl rfl
    rename_i h1
    split
    case isFalse => exact .inl rfl
    rename_i h2
    have : snapC h (.sl sz b lo len) = some (.ls sz ((es.drop lo).take len)) := by
      cases v
      · simp only [snapC, hb]; rw [if_pos ⟨hz, by omega⟩]
      · simp at hv
    exact .inr ⟨_, this, this, (fun l h => by cases h), rfl⟩
  all_goals first | exact .inl rfl | exact .inr ⟨_, rfl, rfl, (fun l h => by cases h), rfl⟩
theorem snLK_eq (cs : List AV) (k : List AV → R) (d : R) : snLK h cs k d = d ∨ ∃ l, snapL (snapC h) cs = some l ∧ snapL (snap h) cs = some l ∧ snLK h cs k d = k l := by
  induction cs generalizing k with
  | nil => exact .inr ⟨[], rfl, rfl, rfl⟩
  | cons a l ih =>
    have e : snLK h (a :: l) k d = snK h a (fun a' => snLK h l (fun l => k (a' :: l)) d) d := rfl
    rw [e]
    rcases snK_eq (h := h) a (fun a' => snLK h l (fun l => k (a' :: l)) d) d with h1 | ⟨v, h1, h2, _, h3⟩
    · exact .inl h1
    · rw [h3]
      rcases ih (fun l => k (v :: l)) with h4 | ⟨l', h4, h5, h6⟩
      · exact .inl h4
      · exact .inr ⟨v :: l', by simp [snapL, h1, h4], by simp [snapL, h2, h5], h6⟩
/-- The cells that go out as snapshots. -/
theorem snvK_eq (v : AV) (k : AV → R) (d : R) : snvK h v k d = d ∨ ∃ u, snapV h v = some u ∧ outV h h [] 0 v = some u ∧ (∀ i, outV h h [] i v = some u) ∧ snvK h v k d = k u := by
  have ho : ∀ i (cs : List AV), outCs h h [] i cs = snapL (snap h) cs := by
    intro i cs
    induction cs generalizing i with
    | nil => rfl
    | cons a l ih =>
      simp only [outCs, snapL, ih]
      cases a <;> rfl
  by_cases hag : ∃ cs, v = .ag cs
  · obtain ⟨cs, rfl⟩ := hag
    have e : snvK h (.ag cs) k d = snLK h cs (fun l => k (.ag l)) d := rfl
    rw [e]
    rcases snLK_eq (h := h) cs (fun l => k (.ag l)) d with h1 | ⟨l, h1, h2, h3⟩
    · exact .inl h1
    · exact .inr ⟨.ag l, by simp [snapV, h2], by simp [outV, ho, h2], fun i => by simp [outV, ho, h2], h3⟩
  · have e1 : snvK h v k d = snK h v k d := by cases v <;> first | rfl | exact absurd ⟨_, rfl⟩ hag
    have e2 : snapV h v = snap h v := by cases v <;> first | rfl | exact absurd ⟨_, rfl⟩ hag
    have e3 : ∀ i, outV h h [] i v = snap h v := fun i => by cases v <;> first | rfl | exact absurd ⟨_, rfl⟩ hag
    rw [e1]
    rcases snK_eq (h := h) v k d with h1 | ⟨u, h1, h2, _, h3⟩
    · exact .inl h1
    · exact .inr ⟨u, e2.trans h2, (e3 0).trans h2, fun i => (e3 i).trans h2, h3⟩
theorem snaK_eq (vs : List AV) (k : List AV → R) (d : R) : snaK h vs k d = d ∨ ∃ l, snapL (snapV h) vs = some l ∧ (∀ i, outVs h h [] i vs = some l) ∧ snaK h vs k d = k l := by
  induction vs generalizing k with
  | nil => exact .inr ⟨[], rfl, fun _ => rfl, rfl⟩
  | cons a l ih =>
    have e : snaK h (a :: l) k d = snvK h a (fun a' => snaK h l (fun l => k (a' :: l)) d) d := rfl
    rw [e]
    rcases snvK_eq (h := h) a (fun a' => snaK h l (fun l => k (a' :: l)) d) d with h1 | ⟨v, h1, h2, h2', h3⟩
    · exact .inl h1
    · rw [h3]
      rcases ih (fun l => k (v :: l)) with h4 | ⟨l', h4, h5, h6⟩
      · exact .inl h4
      · exact .inr ⟨v :: l', by simp [snapL, h1, h4], fun i => by simp [outVs, h2', h5], h6⟩
end Go.Am
set_option linter.unusedVariables false
set_option linter.unusedSimpArgs false
namespace Go.Am
variable {h : HH} {tm : TT} {nx : Nat}

def bindS (r : R) (k : St → R) : R := match r with
  | some (.xt _, _) | none => none
  | some (_, S) => k S
theorem exK_eq (r : R) (k : St → R) : exK r k = bindS r k := by
  rcases r with _ | ⟨ex, S⟩
  · rfl
  · cases ex <;> rfl
theorem enK_eq (as : List AV) (i : Nat) (k : TT → R) : enK as i k = k (entry as i) := by
  induction as generalizing i k with
  | nil => rfl
  | cons a l ih =>
    have := ih (i + 1) fun t => k ((i, a) :: t)
    simp only [enK, nK_eq, entry] at this ⊢
    exact this
theorem rsK_eq (res : List CR) (bs n : Nat) (k : List AV → R) : rsK res tm h k = match results ⟨tm, h, n, bs⟩ res with | some vs => k vs | none => none := by
  induction res generalizing k with
  | nil => rfl
  | cons c res ih =>
    cases c with
    | tm t =>
      have e : rsK (.tm t :: res) tm h k = lkV tm t fun v => dTp v (fun _ => none) (rsK res tm h fun l => k (v :: l)) := rfl
      rw [e, lkV_eq, dTp_eq]
      simp only [results]
      split
      · rename_i vs hv; rw [hv]
      · rename_i hn
        rw [ih]
        cases hv : look AV.ud tm t <;> first | exact absurd hv (hn _) | (cases results ⟨tm, h, n, bs⟩ res <;> rfl)
    | cl t m =>
      have e : rsK (.cl t m :: res) tm h k = k_ld m (.t t) tm h Nat.zero fun v _ _ => rsK res tm h fun l => k (v :: l) := rfl
      rw [e, k_ld_eq]
      simp only [results, opA, rd]
      cases hv : loadA h m (look AV.ud tm t) with
      | none => rfl
      | some v =>
        simp only [Option.bind_some, one, bindE_some, ih]
        cases results ⟨tm, h, n, bs⟩ res <;> rfl
theorem pkK_eq (vs : List AV) (k : AV → R) : pkK vs k = k (pack vs) := by
  rcases vs with _ | ⟨a, _ | ⟨b, l⟩⟩ <;> rfl
theorem rdsK_eq (xs : List Opd) (k : List AV → R) : rdsK xs tm k = k (xs.map (rd tm)) := by
  induction xs generalizing k with
  | nil => rfl
  | cons x xs ih => have := ih fun l => k (rd tm x :: l); simp only [rdsK, rdV_eq, List.map_cons] at this ⊢; exact this
theorem inC_now {v : AV} (hv : ∀ a b, v ≠ .ow a b) : inC nx v = (v, [], nx) := by
  cases v <;> first | rfl | exact absurd rfl (hv _ _)
theorem nowC_eq (l : List AV) (t d : R) : nowC l t d = d ∨ (inCs nx l = (l, [], nx) ∧ nowC l t d = t) := by
  induction l with
  | nil => exact .inr ⟨rfl, rfl⟩
  | cons a l ih =>
    have e : nowC (a :: l) t d = dOw a d (nowC l t d) := rfl
    rw [e, dOw_eq]
    by_cases ha : ∃ x y, a = .ow x y
    · obtain ⟨x, y, rfl⟩ := ha; exact .inl rfl
    · have h1 : inC nx a = (a, [], nx) := inC_now fun x y h => ha ⟨x, y, h⟩
      rcases ih with h2 | ⟨h2, h3⟩
      · left; rw [h2]; split <;> rfl
      · right
        refine ⟨by simp [inCs, h1, h2], ?_⟩
        rw [h3]; split
        · exact absurd ⟨_, _, rfl⟩ ha
        · rfl
theorem nowW_eq (v : AV) (t d : R) : nowW v t d = d ∨ (inV nx v = (v, [], nx) ∧ nowW v t d = t) := by
  by_cases hag : ∃ cs, v = .ag cs
  · obtain ⟨cs, rfl⟩ := hag
    have e : nowW (.ag cs) t d = nowC cs t d := rfl
    rw [e]
    rcases nowC_eq (nx := nx) cs t d with h1 | ⟨h1, h2⟩
    · exact .inl h1
    · exact .inr ⟨by simp [inV, h1], h2⟩
  · have e : nowW v t d = dOw v d t := by cases v <;> first | rfl | exact absurd ⟨_, rfl⟩ hag
    have e2 : inV nx v = inC nx v := by cases v <;> first | rfl | exact absurd ⟨_, rfl⟩ hag
    rw [e, dOw_eq, e2]
    by_cases ha : ∃ x y, v = .ow x y
    · obtain ⟨x, y, rfl⟩ := ha; exact .inl rfl
    · right
      refine ⟨inC_now fun x y h => ha ⟨x, y, h⟩, ?_⟩
      split
      · exact absurd ⟨_, _, rfl⟩ ha
      · rfl
theorem nowV_eq (v : AV) (t d : R) : nowV v t d = d ∨ (inR nx v = (v, [], nx) ∧ nowV v t d = t) := by
  by_cases htp : ∃ vs, v = .tp vs
  · obtain ⟨vs, rfl⟩ := htp
    have key : ∀ vs : List AV, (@List.rec AV (fun _ => R) t (fun a _ ih => nowW a ih d) vs) = d ∨ (inVs nx vs = (vs, [], nx) ∧ (@List.rec AV (fun _ => R) t (fun a _ ih => nowW a ih d) vs) = t) := by
      intro vs
      induction vs with
      | nil => exact .inr ⟨rfl, rfl⟩
      | cons a l ih =>
        simp only
        rcases nowW_eq (nx := nx) a (@List.rec AV (fun _ => R) t (fun a _ ih => nowW a ih d) l) d with h1 | ⟨h1, h2⟩
        · exact .inl h1
        · rw [h2]
          rcases ih with h3 | ⟨h3, h4⟩
          · exact .inl h3
          · exact .inr ⟨by simp [inVs, h1, h3], h4⟩
    rcases key vs with h1 | ⟨h1, h2⟩
    · exact .inl h1
    · exact .inr ⟨by simp [inR, h1], h2⟩
  · have e : nowV v t d = nowW v t d := by cases v <;> first | rfl | exact absurd ⟨_, rfl⟩ htp
    have e2 : inR nx v = inV nx v := by cases v <;> first | rfl | exact absurd ⟨_, rfl⟩ htp
    rw [e, e2]
    exact nowW_eq v t d
theorem inK_eq (r : AV) (k : KE) : inK r h nx k = k (inR nx r).1 ((inR nx r).2.1 ++ h) (inR nx r).2.2 := by
  unfold inK
  rcases nowV_eq (nx := nx) r (k r h nx) (match inR nx r with | ⟨v, l, n⟩ => fV v fun v => fH (l ++ h) fun h => fN n fun n => k v h n) with h1 | ⟨h1, h2⟩
  · rw [h1]; simp only [fV_eq, fH_eq, fN_eq]
  · rw [h2, h1]; rfl

def bindL (o : Option (List AV)) (k : List AV → R) : R := match o with
  | none => none
  | some v => k v
theorem ovV_eq (o : Option AV) (k : AV → R) : ovV o k = bindV o k := by unfold ovV bindV; split <;> simp [fV_eq]
theorem ovVs_eq (o : Option (List AV)) (k : List AV → R) : ovVs o k = bindL o k := by unfold ovVs bindL; split <;> simp [fVs_eq]

section
variable (g : Cfg) (run : CC → St → R)
theorem rpK_eq (f : FuncId) (vs : List AV) (k : AV → R) : rpK g f tm h vs k = bindV (if nodupB (handVs (g.own f) 0 vs) then (outVs h (kill h (handVs (g.own f) 0 vs)) (g.own f) 0 vs).map pack else none) k := by
  unfold rpK
  simp only [ovV_eq]
  cases ho : g.own f with
  | cons a l => rfl
  | nil =>
    have hh : ∀ i (vs : List AV), handVs [] i vs = [] := by
      intro i vs
      have hc : ∀ i (cs : List AV), handCs [] i cs = [] := by
        intro i cs
        induction cs generalizing i with
        | nil => rfl
        | cons a l ih => simp only [handCs, ih]; cases a <;> rfl
      induction vs generalizing i with
      | nil => rfl
      | cons a l ih =>
        simp only [handVs, ih, List.append_nil]
        cases a <;> first | rfl | exact hc _ _
    simp only [hh, nodupB, if_true, kill]
    rcases snaK_eq (h := h) vs (fun vs => pkK vs k) (bindV ((outVs h h [] 0 vs).map pack) k) with h1 | ⟨l, _, h2, h3⟩
    · exact h1
    · refine h3.trans ?_
      simp only [pkK_eq, h2, Option.map_some, bindV]
theorem cpK_eq (f : FuncId) (as : List AV) (k : AV → R) : cpK g run f as k = bindV (callP g run f as) k := by
  unfold cpK callP
  cases g.ext f as with
  | some r => simp only [bindV, fV_eq]
  | none =>
    simp only
    cases g.code f with
    | none => rfl
    | some c =>
      obtain ⟨np, code, res⟩ := c
      simp only [bK_eq, Nat.ble_eq, lnK_eq, enK_eq, exK_eq]
      by_cases hl : as.length ≤ np
      · rw [if_pos hl, if_neg (by omega)]
        simp only [bindS]
        rcases run code ⟨entry as 0, [], Nat.zero, Nat.zero⟩ with _ | ⟨ex, S⟩
        · rfl
        · obtain ⟨tm, h, n, bs⟩ := S
          cases ex
          case xt => rfl
          all_goals
            simp only [rsK_eq res bs n, rpK_eq]
            cases results ⟨tm, h, n, bs⟩ res <;> rfl
      · rw [if_neg hl, if_pos (by omega)]; rfl
theorem klK_eq (bs : List Nat) (k : HH → R) : klK h bs k = k (kill h bs) := by
  induction bs generalizing k with
  | nil => rfl
  | cons b bs ih =>
    have e : klK h (b :: bs) k = klK h bs fun h1 => putK h1 b .dd k := rfl
    rw [e, ih, putK_eq]; rfl
/-- What is done with a call's result. -/
def finC (f : FuncId) (args : List AV) (h : HH) (nx : Nat) (o : Option AV) : Option Ef := match o with
      | none => none
      | some r => if args.all (okV fun _ => false) || flatV r then
          let x := inR nx r
          some ⟨x.1, x.2.1 ++ h, x.2.2⟩
        else if g.kl f && (args.flatMap refsV).all (isRow h) then
          let x := inR nx r
          some ⟨x.1, x.2.1 ++ kill h (args.flatMap refsV), x.2.2⟩
        else none
theorem fin_eq (f : FuncId) (o : Option AV) (args : List AV) (k : KE) :
    bindV o (fun r => fiK g f args h nx r k) = bindE (finC g f args h nx o) k := by
  cases o with
  | none => rfl
  | some r =>
    simp only [bindV, fiK, bK_eq, inK_eq, klK_eq, finC]
    split
    · rfl
    · split <;> rfl
theorem caK_eq (f : FuncId) (args : List AV) (k : KE) : caK g run f args h nx k = bindE (callA g run f args h nx) k := by
  unfold caK callA
  rw [bK_eq]
  by_cases hi : g.inl f = true
  · rw [if_pos hi, if_pos hi]
    cases g.code f with
    | none => show _ = bindE (g.wr f args h nx) k; cases g.wr f args h nx <;> rfl
    | some c =>
      obtain ⟨np, code, res⟩ := c
      simp only [bK_eq, Nat.ble_eq, lnK_eq, enK_eq, exK_eq]
      by_cases hl : args.length ≤ np
      · rw [if_pos hl, if_neg (by omega)]
        simp only [bindS]
        rcases run code ⟨entry args 0, h, nx, nx⟩ with _ | ⟨ex, S⟩
        · rfl
        · obtain ⟨tm, h, n, bs⟩ := S
          cases ex
          case xt => rfl
          all_goals
            simp only [rsK_eq res bs n, pkK_eq]
            cases results ⟨tm, h, n, bs⟩ res <;> rfl
      · rw [if_neg hl, if_pos (by omega)]; rfl
  · rw [if_neg hi, if_neg hi]
    simp only [ovVs_eq]
    have hm : (match snapL (snapV h) args with
        | none => none
        | some as => match callP g run f as with
          | none => none
          | some r =>
            if args.all (okV fun _ => false) || flatV r then
              let x := inR nx r
              some (⟨x.1, x.2.1 ++ h, x.2.2⟩ : Ef)
            else if g.kl f && (args.flatMap refsV).all (isRow h) then
              let x := inR nx r
              some ⟨x.1, x.2.1 ++ kill h (args.flatMap refsV), x.2.2⟩
            else none) = (snapL (snapV h) args).bind fun as => finC g f args h nx (callP g run f as) := by
      cases snapL (snapV h) args with
      | none => rfl
      | some as => simp only [Option.bind_some]; cases callP g run f as <;> rfl
    refine Eq.trans ?_ (congrArg (fun x => bindE x k) hm.symm)
    have slow : bindL (snapL (snapV h) args) (fun as => cpK g run f as fun r => fiK g f args h nx r k) = bindE ((snapL (snapV h) args).bind fun as => finC g f args h nx (callP g run f as)) k := by
      cases snapL (snapV h) args with
      | none => rfl
      | some as => simp only [bindL, cpK_eq, fin_eq, Option.bind_some]
    rcases snaK_eq (h := h) args (fun as => cpK g run f as fun r => fiK g f args h nx r k) (bindL (snapL (snapV h) args) (fun as => cpK g run f as fun r => fiK g f args h nx r k)) with h1 | ⟨l, h1, _, h2⟩
    · exact h1.trans slow
    · refine h2.trans ?_
      rw [h1]
      simp only [cpK_eq, fin_eq, Option.bind_some]
theorem opCK_op (o : COp) (k : KE) (hc : isCall o = false) : opCK g run o tm h nx k = opK o tm h nx k ∧ opC g run tm h nx o = opA tm h nx o := by
  cases o <;> first | exact ⟨rfl, rfl⟩ | simp [isCall] at hc
theorem opCK_eq (o : COp) (k : KE) : opCK g run o tm h nx k = bindE (opC g run tm h nx o) k := by
  cases hc : isCall o with
  | false => obtain ⟨h1, h2⟩ := opCK_op (tm := tm) (h := h) (nx := nx) g run o k hc; rw [h1, h2]; exact opK_eq o
  | true =>
    cases o <;> simp [isCall] at hc
    case cf f xs =>
      show rdsK xs tm (fun vs => caK g run f vs h nx k) = _
      rw [rdsK_eq, caK_eq]; rfl
    case cv x xs =>
      show rdV x tm (fun v => dFn v (fun f caps => bK (fnU f xs) (rdsK xs tm fun vs => apK vs caps fun vs => caK g run (fnN f) vs h nx k) none) none) = _
      simp only [rdV_eq, dFn_eq, rdsK_eq, apK_eq, caK_eq, opC, bK_eq]
      cases rd tm x <;> first | rfl | skip
      rename_i f caps
      by_cases hu : fnU f xs = true <;> simp [bindE, hu]
theorem oneK_eq (o : CI) (k : KE) : oneK g run tm h nx o k = bindE (oneC g run tm h nx o) k := by
  obtain ⟨dst, op, gd⟩ := o
  cases gd with
  | none => exact opCK_eq g run op k
  | some p =>
    obtain ⟨t, w⟩ := p
    simp only [oneK, lkV_eq, dBl_eq, dTp_eq, bK_eq, opCK_eq, oneC, wants]
    cases look AV.ud tm t <;> first | rfl | skip
    · rename_i b; cases b <;> cases w <;> rfl
    · rename_i vs; cases vs <;> rfl
theorem opsK_eq (bs : Nat) (l : List CI) (tm : TT) (h : HH) (nx : Nat) : opsK g run bs l tm h nx = (opsC g run l ⟨tm, h, nx, bs⟩).map fun S => (.nm, S) := by
  induction l generalizing tm h nx with
  | nil => rfl
  | cons o l ih =>
    have e : opsK g run bs (o :: l) tm h nx = oneK g run tm h nx o fun v h' nx' => bK (Nat.ble bs nx')
      (@CI.rec (fun _ => R) (fun dst _ _ => @Option.rec Nat (fun _ => R) (opsK g run bs l tm h' nx') (fun d => opsK g run bs l ((d, v) :: tm) h' nx') dst) o) none := rfl
    rw [e, oneK_eq]
    simp only [opsC]
    cases oneC g run tm h nx o with
    | none => rfl
    | some ef =>
      obtain ⟨v, h', nx'⟩ := ef
      obtain ⟨dst, op, gd⟩ := o
      simp only [bindE_some, bK_eq, Nat.ble_eq]
      split
      · cases dst <;> exact ih _ _ _
      · rfl
end
end Go.Am
set_option linter.unusedVariables false
set_option linter.unusedSimpArgs false
namespace Go.Am
variable {h : HH} {tm : TT} {nx : Nat}

theorem rfK_eq (v : AV) (k : List Nat → R) : rfK v k = k (refsV v) := by
  cases v <;> first | rfl | exact fNs_eq _ _
theorem tdK_eq (ts : List Nat) (k : List Nat → R) : tdK ts tm k = k (ts.flatMap fun t => refsV (look .ud tm t)) := by
  induction ts generalizing k with
  | nil => rfl
  | cons t ts ih =>
    have e : tdK (t :: ts) tm k = lkV tm t fun v => rfK v fun rs => tdK ts tm fun l => apK rs l k := rfl
    rw [e, lkV_eq, rfK_eq, ih, apK_eq]; rfl
theorem olK_eq (bs : Nat) (h : HH) (k : HH → R) : olK bs h k = k (h.filter fun p => decide (p.1 < bs)) := by
  induction h generalizing k with
  | nil => rfl
  | cons p h ih =>
    obtain ⟨n, b⟩ := p
    have e : olK bs ((n, b) :: h) k = bK (Nat.ble (Nat.succ n) bs) (olK bs h fun l => k ((n, b) :: l)) (olK bs h k) := rfl
    rw [e, bK_eq, ih, ih]
    simp only [Nat.ble_eq, List.filter_cons, decide_eq_true_eq, Nat.succ_eq_add_one, Nat.succ_le_iff]
    by_cases hb : n < bs <;> simp [hb]
theorem lvK_eq (p : Nat → Bool) (r : Nat → Nat) (ts : List Nat) (k : TT → R) : lvK p r ts tm k = k (ts.map fun t => (t, lrV p r (look .ud tm t))) := by
  induction ts generalizing k with
  | nil => rfl
  | cons t ts ih =>
    have e : lvK p r (t :: ts) tm k = lkV tm t fun v => lrvK p r v fun v' => lvK p r ts tm fun l => k ((t, v') :: l) := rfl
    rw [e, lkV_eq, lrvK_eq, ih]; rfl
theorem lvK_lot (U : List Nat) (ts : List Nat) (k : TT → R) : lvK (U.contains ·) id ts tm k = k (lotT tm U ts) := lvK_eq _ _ _ _
theorem obK_eq (p : Nat → Bool) (r : Nat → Nat) (h : HH) (k : HH → R) : obK p r h k = k (h.map fun q => (q.1, lrB p r q.2)) := by
  induction h generalizing k with
  | nil => rfl
  | cons q h ih =>
    obtain ⟨n, b⟩ := q
    have e : obK p r ((n, b) :: h) k = lrbK p r b fun b' => obK p r h fun l => k ((n, b') :: l) := rfl
    rw [e, lrbK_eq, ih]; rfl
theorem nmK_eq (p : Nat → Bool) (r : Nat → Nat) (m : List Nat) (n : Nat) (k : HH → R) : nmK p r h m n k = k (num (fun b => lrB p r (blk h b)) n m) := by
  induction m generalizing n k with
  | nil => rfl
  | cons b m ih =>
    have e : nmK p r h (b :: m) n k = lkB h b fun bk => lrbK p r bk fun b' => nK (Nat.succ n) fun n' => nmK p r h m n' fun l => k ((n, b') :: l) := rfl
    rw [e, lkB_eq, lrbK_eq, nK_eq, ih]; rfl
theorem rcK_eq (bs : Nat) (td : List Nat) (k : List Nat → R) : rcK h bs td k = k (reach h bs 4096 td []) := by
  cases td with
  | nil => rfl
  | cons a l => exact fNs_eq _ _
theorem cnK_eq (live : List Nat) (bs : Nat) (k : TT → HH → Nat → R) : cnK live tm h nx bs k = k (canon live ⟨tm, h, nx, bs⟩).tm (canon live ⟨tm, h, nx, bs⟩).h (canon live ⟨tm, h, nx, bs⟩).nx := by
  simp only [cnK, olK_eq, tdK_eq, fNs_eq, apK_eq, rcK_eq, lvK_eq, obK_eq, nmK_eq, nK_eq, lnK_eq]
  rfl
theorem usK_eq (td : List Nat) (k : List Nat → R) : usK h td k = k (clo h 64 td []) := by
  cases td with
  | nil => rfl
  | cons a l => exact fNs_eq _ _
theorem lhK_eq (U : List Nat) (ac : List Nat) (k : HH → R) : lhK (U.contains ·) ac h k = k (lotH h U ac) := by
  induction ac generalizing k with
  | nil => rfl
  | cons b ac ih =>
    have e : lhK (U.contains ·) (b :: ac) h k = lkB h b fun bk => lrbK (U.contains ·) id bk fun b' => lhK (U.contains ·) ac h fun l => k ((b, b') :: l) := rfl
    rw [e, lkB_eq, lrbK_eq, ih]; rfl
theorem ovK_eq (p : Nat → Bool) (h h2 : HH) (wr : List Nat) (k : HH → R) : ovK p h h2 wr k = k (over h (fun b => lrB p id (blk h2 b)) wr) := by
  induction wr generalizing k with
  | nil => rfl
  | cons b wr ih =>
    have e : ovK p h h2 (b :: wr) k = lkB h2 b fun bk => lrbK p id bk fun b' => ovK p h h2 wr fun h1 => putK h1 b b' k := rfl
    rw [e, lkB_eq, lrbK_eq, ih, putK_eq]; rfl

/-- What no operation could meet. -/
def idle (f : Foot) : Bool := f.us.isEmpty && f.ac.isEmpty && f.fr.isEmpty && f.wr.isEmpty
def busy (fs : List Foot) : List Foot := fs.filter fun f => !idle f
theorem idle_iff {f : Foot} (h : idle f = true) : f.us = [] ∧ f.ac = [] ∧ f.fr = [] ∧ f.wr = [] := by
  simp only [idle, Bool.and_eq_true, List.isEmpty_iff] at h
  exact ⟨h.1.1.1, h.1.1.2, h.1.2, h.2⟩
theorem all_busy {q : Foot → Bool} (hq : ∀ f, idle f = true → q f = true) : ∀ fs : List Foot, fs.all q = (busy fs).all q
  | [] => rfl
  | f :: fs => by
    simp only [List.all_cons, busy, List.filter_cons]
    rw [all_busy hq fs]
    cases hf : idle f with
    | true => simp [hq f hf, busy]
    | false => simp [busy]
theorem away_nil (l : List Nat) : away l [] = true := by simp [away]
section
variable (g : Cfg) (run : CC → St → R)
theorem parC_busy : ∀ (l : List (CI × List Nat)) (ix : Nat) (fs fs' : List Foot) (S : St), busy fs = busy fs' → parC g run l ix fs S = parC g run l ix fs' S
  | [], ix, fs, fs', S, hb => rfl
  | (o, dp) :: l, ix, fs, fs', S, hb => by
    have hall : ∀ (us ac fr wr : List Nat), fs.all (fun f => dp.contains f.ix || (away f.wr ac && away wr f.ac && away f.fr us && away fr f.us && away f.wr wr))
        = fs'.all (fun f => dp.contains f.ix || (away f.wr ac && away wr f.ac && away f.fr us && away fr f.us && away f.wr wr)) := fun us ac fr wr => by
      rw [all_busy (fs := fs), all_busy (fs := fs'), hb] <;>
      · intro f hf
        obtain ⟨h1, h2, h3, h4⟩ := idle_iff hf
        simp only [h1, h2, h3, h4, away_nil]
        simp [away]
    simp only [parC]
    generalize clo S.h 64 (List.flatMap (fun t => refsV (look AV.ud S.tm t)) (readsI o)) [] = us
    generalize (if agn o.op = true then ([] : List Nat) else us) = ac
    by_cases hus : us.all (fun b => decide (b < S.nx)) = true
    case neg => rw [if_neg hus, if_neg hus]
    rw [if_pos hus, if_pos hus]
    cases oneC g run (lotT S.tm us (readsI o)) (lotH S.h us ac) S.nx o with
    | none => rfl
    | some e =>
      simp only
      rw [hall us ac]
      generalize (upto S.nx (e.nx - S.nx) ++ wI g (lotT S.tm us (readsI o)) (lotH S.h us ac) o us) = wr
      have hh : ∀ S', parC g run l (ix + 1) (⟨ix, us, ac, upto S.nx (e.nx - S.nx), wr⟩ :: fs) S' = parC g run l (ix + 1) (⟨ix, us, ac, upto S.nx (e.nx - S.nx), wr⟩ :: fs') S' := fun S' =>
        parC_busy l _ _ _ _ (by simp only [busy, List.filter_cons] at hb ⊢; rw [hb])
      rw [hh]

theorem acK_eq (o : CI) (us : List Nat) (k : List Nat → R) : acK o us k = k (if agn o.op = true then [] else us) := by
  rw [acK, bK_eq]; split <;> rfl
theorem dstK_eq (o : CI) (v : AV) (tm : TT) (k : TT → R) : dstK o v tm k = k (putD o.dst v tm) := by
  obtain ⟨dst, op, gd⟩ := o
  cases dst <;> rfl
theorem footK_eq (dp : List Nat) (ix : Nat) (fs : List Foot) (us ac fr wr : List Nat) (nx nx2 : Nat) (go : List Foot → R) (hgo : ∀ fs', busy fs = busy fs' → go fs = go fs')
    (h1 : us = [] → ac = []) (h2 : wr = [] → fr = []) :
    footK dp ix fs us ac fr wr nx nx2 go = if (decide (nx ≤ nx2) && fs.all (fun f => dp.contains f.ix || (away f.wr ac && away wr f.ac && away f.fr us && away fr f.us && away f.wr wr))) = true then go (⟨ix, us, ac, fr, wr⟩ :: fs) else none := by
  have hle : Nat.ble nx nx2 = decide (nx ≤ nx2) := by rw [Bool.eq_iff_iff]; simp
  have full : bK (chkK dp fs us ac fr wr nx nx2) (go (⟨ix, us, ac, fr, wr⟩ :: fs)) none = if (decide (nx ≤ nx2) && fs.all (fun f => dp.contains f.ix || (away f.wr ac && away wr f.ac && away f.fr us && away fr f.us && away f.wr wr))) = true then go (⟨ix, us, ac, fr, wr⟩ :: fs) else none := by
    rw [bK_eq, chkK, hle]
  cases us with
  | cons a us => exact full
  | nil =>
    cases wr with
    | cons a wr => exact full
    | nil =>
      have e1 := h1 rfl
      have e2 := h2 rfl
      subst e1 e2
      have hall : fs.all (fun f => dp.contains f.ix || (away f.wr [] && away [] f.ac && away f.fr [] && away [] f.us && away f.wr [])) = true := by
        rw [List.all_eq_true]; intro f _; simp only [away_nil]; simp [away]
      show bK (Nat.ble nx nx2) (go fs) none = _
      rw [bK_eq, hle, hall, Bool.and_true, hgo (⟨ix, [], [], [], []⟩ :: fs) (by simp [busy, idle])]
theorem parK_eq (bs : Nat) (l : List (CI × List Nat)) : ∀ (ix : Nat) (fs : List Foot) (tm : TT) (h : HH) (nx : Nat),
    parK g run bs l ix fs tm h nx = (parC g run l ix fs ⟨tm, h, nx, bs⟩).map fun S => (.nm, S) := by
  induction l with
  | nil => intro ix fs tm h nx; rfl
  | cons od l ih =>
    intro ix fs tm h nx
    obtain ⟨o, dp⟩ := od
    have e : parK g run bs ((o, dp) :: l) ix fs tm h nx = fNs (readsI o) fun rs => tdK rs tm fun td => usK h td fun us => acK o us fun ac =>
      lvK (us.contains ·) id rs tm fun tm' => bK (us.all (fun b => decide (b < nx))) (lhK (us.contains ·) ac h fun h' => oneK g run tm' h' nx o fun v h2 nx2 =>
        fNs (upto nx (nx2 - nx)) fun fr => fNs (fr ++ wI g tm' h' o us) fun wr =>
        nK (Nat.succ ix) fun ix' => footK dp ix fs us ac fr wr nx nx2 fun fs' =>
          lrvK (domD us nx nx2) id v fun v' => ovK (domD us nx nx2) h h2 wr fun h'' => dstK o v' tm fun tm'' => parK g run bs l ix' fs' tm'' h'' nx2) none := rfl
    rw [e, fNs_eq, tdK_eq, usK_eq, acK_eq, lvK_lot]
    simp only [parC]
    generalize clo h 64 (List.flatMap (fun t => refsV (look AV.ud tm t)) (readsI o)) [] = us
    generalize hac : (if agn o.op = true then ([] : List Nat) else us) = ac
    rw [bK_eq]
    by_cases hus : us.all (fun b => decide (b < nx)) = true
    case neg => rw [if_neg hus, if_neg hus]; rfl
    rw [if_pos hus, if_pos hus, lhK_eq, oneK_eq]
    show bindE (oneC g run (lotT tm us (readsI o)) (lotH h us ac) nx o) _ = _
    cases oneC g run (lotT tm us (readsI o)) (lotH h us ac) nx o with
    | none => rfl
    | some ef =>
      obtain ⟨v, h2, nx2⟩ := ef
      simp only [bindE_some, fNs_eq, nK_eq]
      generalize hfr : upto nx (nx2 - nx) = fr
      show footK dp ix fs us ac fr (fr ++ wI g (lotT tm us (readsI o)) (lotH h us ac) o us) nx nx2 _ = Option.map _ (if (decide (nx ≤ nx2) && fs.all (fun f => dp.contains f.ix || (away f.wr ac && away (fr ++ wI g (lotT tm us (readsI o)) (lotH h us ac) o us) f.ac && away f.fr us && away fr f.us && away f.wr (fr ++ wI g (lotT tm us (readsI o)) (lotH h us ac) o us)))) = true then _ else none)
      generalize hwr : (fr ++ wI g (lotT tm us (readsI o)) (lotH h us ac) o us) = wr
      have tail : ∀ fs', (lrvK (domD us nx nx2) id v fun v' => ovK (domD us nx nx2) h h2 wr fun h'' => dstK o v' tm fun tm'' => parK g run bs l (Nat.succ ix) fs' tm'' h'' nx2)
          = (parC g run l (ix + 1) fs' ⟨putD o.dst (lrV (domD us nx nx2) id v) tm, over h (fun b => lrB (domD us nx nx2) id (blk h2 b)) wr, nx2, bs⟩).map fun S => (.nm, S) := fun fs' => by
        rw [lrvK_eq, ovK_eq, dstK_eq]
        exact ih _ _ _ _ _
      refine (congrArg (footK dp ix fs us ac fr wr nx nx2) (funext tail)).trans ?_
      rw [footK_eq dp ix fs us ac fr wr nx nx2 _ (fun fs' hb => by
        rw [parC_busy g run l _ fs fs' _ hb]) (fun hu => by subst hu; rw [← hac]; split <;> rfl) (fun hw => by rw [hw] at hwr; exact (List.append_eq_nil_iff.1 hwr).1)]
      split <;> rfl
end

theorem sqK_eq (r : R) (k : St → R) : sqK r k = match r with
    | some (.nm, S) => k S
    | r => r := by
  rcases r with _ | ⟨ex, S⟩
  · rfl
  · cases ex <;> rfl
theorem bkK_eq (id : Nat) (r : R) : bkK id r = match r with
    | some (.xt j, S) => some (if j = id then .nm else .xt j, S)
    | r => r := by
  rcases r with _ | ⟨ex, S⟩
  · rfl
  · cases ex with
    | nm => rfl
    | rt => rfl
    | xt j =>
      show bK (Nat.beq j id) _ _ = _
      simp only [bK_eq, beq_iff]
      split <;> rfl
theorem stpK_eq (g : Cfg) (run : CC → St → R) (c : CC) : ∀ S, stpK g run c S = stepC g run c S := by
  induction c with
  | sk => intro S; rfl
  | rg ops => intro S; obtain ⟨tm, h, nx, bs⟩ := S; exact opsK_eq g run bs ops tm h nx
  | rd ops => intro S; obtain ⟨tm, h, nx, bs⟩ := S; exact parK_eq g run bs ops 0 [] tm h nx
  | sq a b iha ihb =>
    intro S
    show sqK (stpK g run a S) (stpK g run b) = _
    simp only [sqK_eq, iha, stepC]
    rcases stepC g run a S with _ | ⟨ex, S'⟩
    · rfl
    · cases ex <;> first | rfl | exact ihb S'
  | cd c a b iha ihb =>
    intro S
    obtain ⟨tm, h, nx, bs⟩ := S
    show rdV c tm (fun v => dBl v (fun t => bK t (stpK g run a ⟨tm, h, nx, bs⟩) (stpK g run b ⟨tm, h, nx, bs⟩)) none) = _
    simp only [rdV_eq, dBl_eq, bK_eq, iha, ihb, stepC]
    cases rd tm c <;> first | rfl | skip
    rename_i t
    cases t <;> rfl
  | bk id b ih =>
    intro S
    show bkK id (stpK g run b S) = _
    simp only [bkK_eq, ih, stepC]
    rcases stepC g run b S with _ | ⟨ex, S'⟩
    · rfl
    · cases ex <;> rfl
  | lp live b ih =>
    intro S
    obtain ⟨tm, h, nx, bs⟩ := S
    show cnK live tm h nx bs (fun tm h nx => sqK (stpK g run b ⟨tm, h, nx, bs⟩) fun S => run (.lp live b) S) = _
    rw [cnK_eq]
    simp only [sqK_eq, ih, stepC]
    have : (⟨(canon live ⟨tm, h, nx, bs⟩).tm, (canon live ⟨tm, h, nx, bs⟩).h, (canon live ⟨tm, h, nx, bs⟩).nx, bs⟩ : St) = canon live ⟨tm, h, nx, bs⟩ := rfl
    rw [this]
    rcases stepC g run b (canon live ⟨tm, h, nx, bs⟩) with _ | ⟨ex, S'⟩
    · rfl
    · cases ex <;> rfl
  | xt id => intro S; rfl
  | rt => intro S; rfl
  | no => intro S; rfl
theorem evalK_eq (g : Cfg) (n : Nat) : evalK g n = evalC g n := by
  induction n with
  | zero => funext c S; rfl
  | succ n ih =>
    funext c S
    show stpK g (evalK g n) c S = stepC g (evalC g n) c S
    rw [ih]; exact stpK_eq g _ c S

/-- The value that the kernel computes. -/
theorem evalP_of {g : Cfg} {n : Nat} {f : FuncId} {as : List AV} {r : AV} (h : cpK g (evalK g n) f as (fun r => some (.nm, ⟨[(0, r)], [], 0, 0⟩)) = some (.nm, ⟨[(0, r)], [], 0, 0⟩)) : evalP g n f as = some r := by
  rw [cpK_eq, evalK_eq] at h
  unfold evalP
  cases hc : callP g (evalC g n) f as with
  | none => rw [hc] at h; simp [bindV] at h
  | some r' => rw [hc] at h; simp [bindV] at h; rw [h]
end Go.Am
