/- A machine on typed values, whose runs are trees, and the proof that what they tell the abstract machine computes: part 4. -/
import Derived.Test.YtbkpphmonfeaoaaSmC
import GoSem.ClaimChange
import Derived.WalkKit
set_option linter.constructorNameAsVariable false
set_option linter.unusedVariables false
set_option linter.unusedSimpArgs false
namespace Go.Am

def Evt (p : Nat → Prop) : Prop := ∃ m, ∀ K, m ≤ K → p K
theorem Evt.of {p : Nat → Prop} (h : ∀ K, p K) : Evt p := ⟨0, fun K _ => h K⟩
theorem Evt.and {p q : Nat → Prop} (h1 : Evt p) (h2 : Evt q) : Evt fun K => p K ∧ q K := by
  obtain ⟨m, h1⟩ := h1
  obtain ⟨n, h2⟩ := h2
  exact ⟨m + n, fun K hK => ⟨h1 K (by omega), h2 K (by omega)⟩⟩
theorem Evt.mono {p q : Nat → Prop} (h1 : Evt p) (h : ∀ K, p K → q K) : Evt q := by
  obtain ⟨m, h1⟩ := h1
  exact ⟨m, fun K hK => h K (h1 K hK)⟩
theorem Evt.and2 {p q s : Nat → Prop} (h1 : Evt p) (h2 : Evt q) (h : ∀ K, p K → q K → s K) : Evt s := (h1.and h2).mono fun K hK => h K hK.1 hK.2
theorem Evt.succ {p : Nat → Prop} (h1 : Evt p) : Evt fun K => ∃ j, K = j + 1 ∧ p j := by
  obtain ⟨m, h1⟩ := h1
  exact ⟨m + 1, fun K hK => ⟨K - 1, by omega, h1 _ (by omega)⟩⟩

def cellsW : AV → List AV
  | .ag cs => cs
  | v => [v]
def shapeA : List AV → List (Bool × Nat)
  | [] => []
  | .ag cs :: l => (true, cs.length) :: shapeA l
  | _ :: l => (false, 1) :: shapeA l
def RVs (v : SV) (w : AV) : Prop := RV v w ∧ isUk v = false
def RR (c : Ctr) (y : Den c.t) (w : AV) : Prop := ∀ (ρ : Type) (pr : List (Nat × Bool)) (k : SV → Option ρ) (r : ρ), putR (realN ρ) pr c y k = some r → ∃ v, RVs v w ∧ k v = some r
def loopsIn : CC → List (List Nat × CC)
  | .sq a b => loopsIn a ++ loopsIn b
  | .cd _ a b => loopsIn a ++ loopsIn b
  | .bk _ b => loopsIn b
  | .lp live b => (live, b) :: loopsIn b
  | _ => []
def LpOk (g : Cfg) (L : Lps) (live : List Nat) (b : CC) : Prop :=
  mark0 ≤ markOf live ∧ ∀ x y, L.L x = some y → ∀ S', RS (fillP L.ps x) S' → ∀ (ρ : Type) (k : KS ρ) (r : ρ), runOut L.os y (realN ρ).sm k = some r →
    ∃ ex S1 S1', k ex S1 = some r ∧ RS S1 S1' ∧ Evt fun K => ∀ S'', canon live S'' = S' → stepC g (evalC g K) (.lp live b) S'' = some (ex, S1')
def LoopsOk (T : Tbl) (g : Cfg) (c : CC) : Prop := ∀ p ∈ loopsIn c, ∀ (j : Nat) L, T.lp (markOf p.1 + j * varK) = some L → LpOk g L p.1 p.2
def rowK : List ByteArray → AV
  | [] => .ns
  | k :: ks => .ls 1 ((k :: ks).map fun k => [.st k])
theorem rowK_ok : ∀ ks : List ByteArray, RV (.ls .s ks) (rowK ks)
  | [] => .inr ⟨rfl, .inl rfl⟩
  | k :: ks => .inl ⟨_, rfl, by
    generalize k :: ks = l
    induction l with
    | nil => exact .nil
    | cons a l ih => exact .cons rfl ih⟩
structure TG (T : Tbl) (g : Cfg) : Prop where
  inl : ∀ f, g.inl f = ((T.ct f).isNone && !T.hint.pf.contains f)
  noe : ∀ f as, T.ct f = none → g.ext f as = none
  code : ∀ f c, T.code f = some c → g.code f = some c
  kl : ∀ f, g.kl f = T.hint.kl.contains f
  ext : ∀ f c (as : List AV) x y, T.ct f = some c → shapeA as = c.as → RE c.s x (as.flatMap cellsW) → c.F x = some y → ∃ w, g.ext f as = some w ∧ RR c y w
  lps : ∀ f c, T.code f = some c → LoopsOk T g c.code
  noc : ∀ f, T.code f = none → g.code f = none
  row : ∀ f w, T.st f = some w → ∀ (h : List (Nat × BK)) nx b t ts es ts', blk h b = .rw false w.s.sz es t → All2 (RE w.s) ts es → w.F ts = some ts' →
    ∃ es', All2 (RE w.s) ts' es' ∧ g.wr f [.sl w.s.sz b 0 es.length, .fn w.c []] h nx = some ⟨.tp [], put h b (.rw false w.s.sz es' t), nx⟩
  nor : ∀ f w, T.st f = some w → w.g = none → ∀ (h : List (Nat × BK)) nx, g.wr f [.ns, .fn w.c []] h nx = some ⟨.tp [], h, nx⟩
  key : ∀ f w f', T.st f = some w → w.g = some f' → ∀ (h : List (Nat × BK)) nx nb b t es ks, blk h nb = .rw true 1 [[.mp b]] t → blk h b = .mp es → All2 (fun (k : ByteArray) (q : AV × AV) => q.1 = .st k) ks es → fewK ks = true →
    g.wr f [.fn f' [.re 1 nb 0 0]] h nx = some ⟨rowK (sortK ks), h, nx⟩

section
variable {ρ : Type} {r : ρ} {h : SHp} {h' : List (Nat × BK)} {tm : SM} {tm' : List (Nat × AV)} {nx : Nat} {g : Cfg} {T : Tbl} {S : SS} {S' : St}

theorem cellsW_ok {v : SV} {w : AV} (hv : RW v w) : All2 RC (cellsV v) (cellsW w) := by
  rcases RW_cases hv with ⟨cs, ws, rfl, rfl, h⟩ | h
  · exact h
  · have h2 := RC_shape h
    have : cellsW w = [w] := by cases w <;> first | rfl | exact absurd rfl (h2.1 _)
    rw [this]
    cases v <;> first | exact .cons h .nil | exact h.elim
theorem RW_notp {v : SV} {w : AV} (hv : RW v w) : ∀ l, w ≠ .tp l := by
  rcases RW_cases hv with ⟨cs, ws, rfl, rfl, h⟩ | h
  · intro l hl; cases hl
  · exact (RC_shape h).2
theorem RW_nuk {v : SV} {w : AV} (hv : RW v w) : isUk v = false := by
  cases v <;> first | rfl | exact hv.elim
theorem valOfS_okW {cs : List SV} {ws : List AV} {n : Option Nat} {v : SV} (hc : All2 RC cs ws) (h : valOfS cs n = some v) : ∃ w, valOf ws n = some w ∧ RW v w := by
  cases n with
  | some n => simp [valOfS] at h; subst h; exact ⟨_, rfl, ⟨ws, rfl, hc⟩⟩
  | none =>
    unfold valOfS at h
    simp only at h
    split at h
    · simp at h; subst h
      obtain ⟨w, rfl, hw⟩ := hc.one
      exact ⟨w, rfl, hw.toW⟩
    · cases h
theorem loadS_okW {n : Option Nat} {v : SV} {w : AV} {ws : List AV} {cs : List SV} (hc : All2 RC cs ws) (hw : cellsAt h' (n.getD 1) w = some ws) (hv : valOfS cs n = some v) : ∃ u, loadA h' n w = some u ∧ RW v u := by
  obtain ⟨u, hu, hr⟩ := valOfS_okW hc hv
  refine ⟨u, ?_, hr⟩
  cases n with
  | some n => simp only [Option.getD_some] at hw; simp [valOf] at hu; subst hu; simp [loadA, hw]
  | none =>
    simp only [Option.getD_none] at hw
    simp only [loadA, hw]
    unfold valOf at hu
    simp only at hu
    split at hu
    · simp at hu; subst hu; rfl
    · cases hu
theorem shape_ok : ∀ {vs : List SV} {ws : List AV}, All2 RW vs ws → shapeR vs = shapeA ws
  | [], _, h => by cases h; rfl
  | v :: vs, _, h => by
    cases h with
    | @cons _ w _ ws h1 h2 =>
      rcases RW_cases h1 with ⟨cs, us, rfl, rfl, h⟩ | h
      · simp only [shapeR, shapeA, h.length, shape_ok h2]
      · have h3 := (RC_shape h).1
        have e1 : shapeR (v :: vs) = (false, 1) :: shapeR vs := by cases v <;> first | rfl | exact h.elim
        have e2 : shapeA (w :: ws) = (false, 1) :: shapeA ws := by cases w <;> first | rfl | exact absurd rfl (h3 _)
        rw [e1, e2, shape_ok h2]
theorem resultsS_ok (hs : RS S S') : ∀ {rs : List CR} {k : List SV → Option ρ}, resultsS (realN ρ) S rs k = some r → ∃ vs ws, results S' rs = some ws ∧ All2 RW vs ws ∧ k vs = some r
  | [], k, hk => ⟨[], [], rfl, .nil, hk⟩
  | .tm t :: rs, k, hk => by
    rw [resultsS] at hk
    have ht := hs.tm t
    have main : RW (lookS S.tm t) (look .ud S'.tm t) → resultsS (realN ρ) S rs (fun l => k (lookS S.tm t :: l)) = some r → ∃ vs ws, results S' (.tm t :: rs) = some ws ∧ All2 RW vs ws ∧ k vs = some r := fun hw hk => by
      obtain ⟨vs, ws, h1, h2, h3⟩ := resultsS_ok hs hk
      refine ⟨_, _, ?_, .cons hw h2, h3⟩
      have := RW_notp hw
      simp only [results]
      rw [h1]; rfl
    split at hk
    · cases hk
    · cases hk
    · rename_i hn1 hn2
      refine main ?_ hk
      rcases RV_cases ht with h | ⟨cs, ws, h, _⟩ | h
      · exact absurd h hn2
      · exact absurd h (hn1 cs)
      · exact h
  | .cl t n :: rs, k, hk => by
    rw [resultsS] at hk
    obtain ⟨cs, ws, h1, h2, h3⟩ := cellsAtS_ok hs.h (hs.tm t) hk
    split at h3
    · rename_i v hv
      obtain ⟨u, h4, h5⟩ := loadS_okW h2 h1 hv
      obtain ⟨vs, ws', h6, h7, h8⟩ := resultsS_ok hs h3
      exact ⟨_, _, by simp only [results, h4, h6], .cons h5 h7, h8⟩
    · cases h3
theorem pack_okS {vs : List SV} {ws : List AV} (h : All2 RW vs ws) : RVs (packS vs) (pack ws) := by
  cases h with
  | nil => exact ⟨⟨[], rfl, .nil⟩, rfl⟩
  | cons h1 h2 => cases h2 with
    | nil => exact ⟨h1.toV, RW_nuk h1⟩
    | cons h2 h3 => exact ⟨⟨_, rfl, .cons h1 (.cons h2 h3)⟩, rfl⟩
theorem inCS_ok {v : SV} {w : AV} (hv : RC v w) (n : Nat) : RC (inCS n v).1 (inC n w).1 ∧ RH (inCS n v).2.1 (inC n w).2.1 ∧ (inCS n v).2.2 = (inC n w).2.2 := by
  cases v with
  | a u =>
    obtain ⟨rfl, hc⟩ := hv
    have : inC n u = (u, [], n) := by cases u <;> first | rfl | (simp [isCell] at hc)
    rw [this]
    exact ⟨⟨rfl, hc⟩, .nil, rfl⟩
  | ls s ts =>
    have : inC n w = (w, [], n) := by rcases hv with ⟨es, rfl, _⟩ | ⟨_, rfl | rfl⟩ <;> rfl
    rw [this]
    exact ⟨hv, .nil, rfl⟩
  | ri s ts i off => obtain ⟨es, rfl, h⟩ := hv; exact ⟨⟨es, rfl, h⟩, .nil, rfl⟩
  | ow s ts =>
    obtain ⟨es, rfl, h⟩ := hv
    exact ⟨⟨by show AV.sl _ _ _ _ = AV.sl s.sz n 0 es.length; rw [h.length], rfl⟩, .cons ⟨rfl, es, rfl, h⟩ .nil, rfl⟩
  | nz =>
    have : inC n w = (w, [], n) := by rcases hv with rfl | rfl <;> rfl
    rw [this]
    exact ⟨hv, .nil, rfl⟩
  | _ => exact hv.elim
theorem inCsS_ok : ∀ {vs : List SV} {ws : List AV}, All2 RC vs ws → ∀ n, All2 RC (inCsS n vs).1 (inCs n ws).1 ∧ RH (inCsS n vs).2.1 (inCs n ws).2.1 ∧ (inCsS n vs).2.2 = (inCs n ws).2.2
  | [], _, h, n => by cases h; exact ⟨.nil, .nil, rfl⟩
  | v :: vs, _, h, n => by
    cases h with
    | cons h1 h2 =>
      obtain ⟨a1, a2, a3⟩ := inCS_ok h1 n
      simp only [inCsS, inCs]
      rw [a3]
      obtain ⟨b1, b2, b3⟩ := inCsS_ok h2 (inC n _).2.2
      exact ⟨.cons a1 b1, RH_app a2 b2, b3⟩
theorem inVS_ok {v : SV} {w : AV} (hv : RW v w) (n : Nat) : RW (inVS n v).1 (inV n w).1 ∧ RH (inVS n v).2.1 (inV n w).2.1 ∧ (inVS n v).2.2 = (inV n w).2.2 := by
  rcases RW_cases hv with ⟨cs, ws, rfl, rfl, h⟩ | h
  · obtain ⟨a1, a2, a3⟩ := inCsS_ok h n
    exact ⟨⟨_, rfl, a1⟩, a2, a3⟩
  · have hw : inV n w = inC n w := by
      have := (RC_shape h).1
      cases w <;> first | rfl | exact absurd rfl (this _)
    have hv' : inVS n v = inCS n v := by cases v <;> first | rfl | exact h.elim
    rw [hw, hv']
    obtain ⟨a1, a2, a3⟩ := inCS_ok h n
    exact ⟨a1.toW, a2, a3⟩
theorem inVsS_ok : ∀ {vs : List SV} {ws : List AV}, All2 RW vs ws → ∀ n, All2 RW (inVsS n vs).1 (inVs n ws).1 ∧ RH (inVsS n vs).2.1 (inVs n ws).2.1 ∧ (inVsS n vs).2.2 = (inVs n ws).2.2
  | [], _, h, n => by cases h; exact ⟨.nil, .nil, rfl⟩
  | v :: vs, _, h, n => by
    cases h with
    | cons h1 h2 =>
      obtain ⟨a1, a2, a3⟩ := inVS_ok h1 n
      simp only [inVsS, inVs]
      rw [a3]
      obtain ⟨b1, b2, b3⟩ := inVsS_ok h2 (inV n _).2.2
      exact ⟨.cons a1 b1, RH_app a2 b2, b3⟩
theorem inRS_ok {v : SV} {w : AV} (hv : RVs v w) (n : Nat) : RV (inRS n v).1 (inR n w).1 ∧ RH (inRS n v).2.1 (inR n w).2.1 ∧ (inRS n v).2.2 = (inR n w).2.2 := by
  obtain ⟨hv, hu⟩ := hv
  rcases RV_cases hv with rfl | ⟨cs, ws, rfl, rfl, h⟩ | h
  · simp [isUk] at hu
  · obtain ⟨a1, a2, a3⟩ := inVsS_ok h n
    exact ⟨⟨_, rfl, a1⟩, a2, a3⟩
  · have hw : inR n w = inV n w := by
      have := RW_notp h
      cases w <;> first | rfl | exact absurd rfl (this _)
    have hv' : inRS n v = inVS n v := by cases v <;> first | rfl | exact h.elim
    rw [hw, hv']
    obtain ⟨a1, a2, a3⟩ := inVS_ok h n
    exact ⟨a1.toV, a2, a3⟩
theorem okCS_ok {v : SV} {w : AV} (hv : RC v w) (h : okCS v = true) : okC (fun _ => false) w = true := by
  cases v with
  | a u => obtain ⟨rfl, _⟩ := hv; exact h
  | ls s ts => rcases hv with ⟨es, rfl, _⟩ | ⟨_, rfl | rfl⟩ <;> rfl
  | ri s ts i off => obtain ⟨es, rfl, _⟩ := hv; rfl
  | nz => rcases hv with rfl | rfl <;> rfl
  | _ => simp [okCS] at h
theorem okCs_ok {vs : List SV} {ws : List AV} (hv : All2 RC vs ws) (h : vs.all okCS = true) : ws.all (okC fun _ => false) = true := by
  induction hv with
  | nil => rfl
  | cons h1 _ ih =>
    simp only [List.all_cons, Bool.and_eq_true] at h ⊢
    exact ⟨okCS_ok h1 h.1, ih h.2⟩
theorem okVS_ok {v : SV} {w : AV} (hv : RV v w) (h : okVS v = true) : okV (fun _ => false) w = true := by
  rcases RV_cases hv with rfl | ⟨cs, ws, rfl, rfl, h1⟩ | h1
  · simp [okVS, okCS] at h
  · simp [okVS, okCS] at h
  · rcases RW_cases h1 with ⟨cs, ws, rfl, rfl, h2⟩ | h2
    · exact okCs_ok h2 h
    · have h3 : okCS v = true := by cases v <;> first | exact h | exact h2.elim
      have h4 := okCS_ok h2 h3
      have := (RC_shape h2).1
      cases w <;> first | exact h4 | exact absurd rfl (this _)
theorem okVs_ok {vs : List SV} {ws : List AV} (hv : All2 RV vs ws) (h : vs.all okVS = true) : ws.all (okV fun _ => false) = true := by
  induction hv with
  | nil => rfl
  | cons h1 _ ih =>
    simp only [List.all_cons, Bool.and_eq_true] at h ⊢
    exact ⟨okVS_ok h1 h.1, ih h.2⟩
def scalA : AV → Bool
  | .int .. | .bl _ | .st _ => true
  | _ => false
theorem RE_scal : ∀ {s : Sh} {x : Den s} {cs : List AV}, scalSh s = true → RE s x cs → cs.all (fun | .int .. | .bl _ | .st _ => true | _ => false) = true
  | .i _, _, _, _, h => by cases h; rfl
  | .b, _, _, _, h => by cases h; rfl
  | .s, _, _, _, h => by cases h; rfl
  | .row _, _, _, hs, _ => by simp [scalSh] at hs
  | .nil, _, _, _, h => by cases h; rfl
  | .cons a b, _, _, hs, h => by
    simp only [scalSh, Bool.and_eq_true] at hs
    obtain ⟨c1, c2, rfl, h1, h2⟩ := h
    rw [List.all_append, RE_scal hs.1 h1, RE_scal hs.2 h2]
    rfl
theorem flatCS_ok {v : SV} {w : AV} (hv : RC v w) (h : flatCS v = true) : flatC w = true := by
  cases v with
  | a u => obtain ⟨rfl, _⟩ := hv; exact h
  | ow s ts =>
    obtain ⟨es, rfl, h1⟩ := hv
    simp only [flatCS] at h
    simp only [flatC]
    induction h1 with
    | nil => rfl
    | cons h2 _ ih => simp only [List.all_cons, Bool.and_eq_true]; exact ⟨RE_scal h h2, ih⟩
  | nz => rcases hv with rfl | rfl <;> rfl
  | _ => simp [flatCS] at h
theorem flatCs_ok {vs : List SV} {ws : List AV} (hv : All2 RC vs ws) (h : vs.all flatCS = true) : ws.all flatC = true := by
  induction hv with
  | nil => rfl
  | cons h1 _ ih =>
    simp only [List.all_cons, Bool.and_eq_true] at h ⊢
    exact ⟨flatCS_ok h1 h.1, ih h.2⟩
def flW : AV → Bool
  | .ag cs => cs.all flatC
  | v => flatC v
theorem flatWS_ok {v : SV} {w : AV} (hv : RW v w) (h : flatWS v = true) : flW w = true := by
  rcases RW_cases hv with ⟨cs, ws, rfl, rfl, h2⟩ | h2
  · exact flatCs_ok h2 h
  · have h3 : flatCS v = true := by cases v <;> first | exact h | exact h2.elim
    have h4 := flatCS_ok h2 h3
    have := (RC_shape h2).1
    cases w <;> first | exact h4 | exact absurd rfl (this _)
theorem flatVS_ok {v : SV} {w : AV} (hv : RVs v w) (h : flatVS v = true) : flatV w = true := by
  obtain ⟨hv, hu⟩ := hv
  rcases RV_cases hv with rfl | ⟨cs, ws, rfl, rfl, h1⟩ | h1
  · simp [isUk] at hu
  · simp only [flatVS] at h
    show ws.all flW = true
    clear hv hu
    induction h1 with
    | nil => rfl
    | cons h3 _ ih =>
      simp only [List.all_cons, Bool.and_eq_true] at h ⊢
      exact ⟨flatWS_ok h3 h.1, ih h.2⟩
  · have h3 : flatWS v = true := by cases v <;> first | exact h | exact h1.elim
    have h4 := flatWS_ok h1 h3
    have := RW_notp h1
    cases w <;> first | exact h4 | exact absurd rfl (this _)
end
end Go.Am
set_option linter.constructorNameAsVariable false
set_option linter.unusedVariables false
set_option linter.unusedSimpArgs false
namespace Go.Am
section
variable {ρ : Type} {r : ρ} {h : SHp} {h' : List (Nat × BK)} {tm : SM} {tm' : List (Nat × AV)} {nx : Nat} {g : Cfg} {T : Tbl} {S : SS} {S' : St}

def OkR (g : Cfg) (c : CC) (S' : St) (k : KS ρ) (r : ρ) : Prop := ∃ ex S1 S1', k ex S1 = some r ∧ RS S1 S1' ∧ Evt fun K => evalC g K c S' = some (ex, S1')
def Runs (T : Tbl) (g : Cfg) (ρ : Type) (run : CC → SS → KS ρ → Option ρ) : Prop := ∀ c S k r S', run c S k = some r → RS S S' → LoopsOk T g c → OkR g c S' k r
def OkE (g : Cfg) (tm' : List (Nat × AV)) (h' : List (Nat × BK)) (nx : Nat) (op : COp) (k : KV ρ) (r : ρ) : Prop :=
  ∃ rf v h1 nx1 w h1', k rf v h1 nx1 = some r ∧ (Evt fun K => opC g (evalC g K) tm' h' nx op = some ⟨w, h1', nx1⟩) ∧ RV v w ∧ RH h1 h1' ∧ RF tm' rf
variable {run : CC → SS → KS ρ → Option ρ}

theorem entryS_ok : ∀ {as : List SV} {ws : List AV}, All2 RV as ws → ∀ (i t : Nat), RV (lookS (entryS as i) t) (look .ud (entry ws i) t)
  | [], _, h, i, t => by cases h; exact ⟨rfl, rfl⟩
  | a :: as, _, h, i, t => by
    cases h with
    | cons h1 h2 =>
      simp only [entryS, entry, lookS, look]
      split
      · exact h1
      · split
        · trivial
        · exact entryS_ok h2 (i + 1) t
theorem entry_big : ∀ (ws : List AV) (i t : Nat), i + ws.length ≤ t → look .ud (entry ws i) t = .ud
  | [], _, _, _ => rfl
  | w :: ws, i, t, h => by
    simp only [List.length_cons] at h
    simp only [entry, look]
    rw [if_neg (by omega)]
    exact entry_big ws (i + 1) t (by omega)
theorem writeS_ok (hg : TG T g) (hh : RH h h') {f : FuncId} {wt : Wrt} (hst : T.st f = some wt) {args : List SV} {as : List AV} {k : KV ρ} (ha : All2 RV args as) (hk : writeS (realN ρ) wt args h nx k = some r) :
    ∃ v h1 nx1 w h1', k [] v h1 nx1 = some r ∧ g.wr f as h' nx = some ⟨w, h1', nx1⟩ ∧ RV v w ∧ RH h1 h1' := by
  unfold writeS at hk
  split at hk
  · rename_i sz b lo len c caps
    cases ha with
    | cons a1 a2 =>
    cases a2 with
    | cons a2 a3 =>
    cases a3
    have e1 := a1.1
    have e2 := a2.1
    split at hk
    · rename_i s ts t hb
      split at hk
      · rename_i e
        subst e
        split at hk
        · rename_i hc
          obtain ⟨rfl, rfl, rfl, hcaps⟩ := hc
          have hc2 : caps = [] := by simpa using hcaps
          subst hc2
          have hk : (bif decide (len = ts.length) then ((wt.F ts).bind fun ts' => k [] (.tp []) (putS h b (.row wt.s ts' t)) nx) else none) = some r := hk
          by_cases hl : len = ts.length
          · rw [decide_eq_true hl] at hk
            simp only [cond_true] at hk
            cases hF : wt.F ts with
            | none => rw [hF] at hk; cases hk
            | some ts' =>
              rw [hF] at hk
              simp only [Option.bind_some] at hk
              have hbb := RH_blk hh b
              rw [hb] at hbb
              obtain ⟨es, hes, hts⟩ := hbb
              obtain ⟨es', h1, h2⟩ := hg.row f wt hst h' nx b t ts es ts' hes hts hF
              have hrb : RB (.row wt.s ts' t) (.rw false wt.s.sz es' t) := ⟨es', rfl, h1⟩
              refine ⟨_, _, _, .tp [], put h' b (.rw false wt.s.sz es' t), hk, ?_, ⟨[], rfl, All2.nil⟩, RH_put hh hrb b⟩
              rw [← h2, ← e1, ← e2, hl, hts.length]
          · rw [decide_eq_false hl] at hk; cases hk
        · cases hk
      · cases hk
    · cases hk
  · rename_i c caps
    cases ha with
    | cons a1 a2 =>
    cases a2 with
    | cons a2 a3 =>
    cases a3
    have e1 := a1.1
    have e2 := a2.1
    split at hk
    · rename_i hc
      obtain ⟨hgn, rfl, hcaps⟩ := hc
      have hc2 : caps = [] := by simpa using hcaps
      subst hc2
      refine ⟨_, _, _, .tp [], h', hk, ?_, ⟨[], rfl, All2.nil⟩, hh⟩
      rw [← hg.nor f wt hst hgn h' nx, ← e1, ← e2]
    · cases hk
  · rename_i f' sz nb i off
    cases ha with
    | cons a1 a2 =>
    cases a2
    have e1 := a1.1
    split at hk
    · rename_i hc
      obtain ⟨hgs, rfl, rfl, rfl⟩ := hc
      split at hk
      · rename_i sz' b t hnb
        split at hk
        · rename_i hsz
          subst hsz
          split at hk
          · rename_i gg s es hb
            have hbb := RH_blk hh nb
            rw [hnb] at hbb
            obtain ⟨ws, hw1, hw2⟩ := hbb
            have hb2 := RH_blk hh b
            rw [hb] at hb2
            obtain ⟨l, hl1, hl2⟩ := hb2
            obtain rfl : ws = [.mp b] := by
              cases hw2 with
              | cons c1 c2 =>
                cases c2
                rw [← c1.1]
            have hk : (bif fewK (es.map (·.1)) then k [] (.ls .s (sortK (es.map (·.1)))) h nx else none) = some r := hk
            cases hfk : fewK (es.map (·.1)) with
            | false => rw [hfk] at hk; cases hk
            | true =>
              rw [hfk] at hk
              refine ⟨_, _, _, rowK (sortK (es.map (·.1))), h', hk, ?_, rowK_ok _, hh⟩
              rw [← hg.key f wt f' hst hgs h' nx nb b t l (es.map (·.1)) hw1 hl1 ?_ hfk, ← e1]
              have hgen : ∀ {es : List (ByteArray × Den s)} {l : List (AV × AV)}, All2 (fun (p : ByteArray × Den s) (q : AV × AV) => q.1 = .st p.1 ∧ RG gg s p.2 q.2) es l → All2 (fun (k : ByteArray) (q : AV × AV) => q.1 = .st k) (es.map (·.1)) l := fun h => by
                induction h with
                | nil => exact .nil
                | cons x1 x2 ih => exact .cons x1.1 ih
              exact hgen hl2
          · cases hk
        · cases hk
      · cases hk
    · cases hk
  · cases hk
theorem sp2_ok {ρ : Type} {r : ρ} {kd : IntKind} {n : Int} {k : SV → Option ρ} (h : sp2 n (k (.a (.int kd (.ofNat 0)))) (fun j => k (.a (.int kd (.ofNat (j + 1))))) = some r) : k (.a (.int kd n)) = some r := by
  cases n with
  | ofNat m => cases m with
    | zero => exact h
    | succ m => exact h
  | negSucc m => cases h
theorem spC_ok {ρ : Type} {r : ρ} {v : SV} {k : SV → Option ρ} (h : spC (realN ρ) v k = some r) : k v = some r := by
  unfold spC at h
  split at h
  · exact sp2_ok h
  · exact h
theorem spL_ok {ρ : Type} {r : ρ} {is : List Nat} : ∀ {vs : List SV} {i : Nat} {k : List SV → Option ρ}, spL (realN ρ) is vs i k = some r → k vs = some r
  | [], _, _, h => h
  | v :: vs, i, k, h => by
    unfold spL at h
    split at h
    · exact spL_ok (k := fun l => k (v :: l)) (spC_ok (k := fun v => spL (realN ρ) is vs (i + 1) fun l => k (v :: l)) h)
    · exact spL_ok (k := fun l => k (v :: l)) h
theorem spR_ok {ρ : Type} {r : ρ} {is : Option (List Nat)} {v : SV} {k : SV → Option ρ} (h : spR (realN ρ) is v k = some r) : k v = some r := by
  unfold spR at h
  split at h
  · exact h
  · split at h
    · exact spL_ok (k := fun l => k (.tp l)) h
    · exact spC_ok h
theorem refsAll_ok {args : List SV} {as : List AV} (ha : All2 RV args as) (hu : (args.all fun v => !isUk v) = true) : args.flatMap refsS = as.flatMap refsV := by
  induction ha with
  | nil => rfl
  | cons h1 _ ih =>
    simp only [List.all_cons, Bool.and_eq_true, Bool.not_eq_true'] at hu
    simp only [List.flatMap_cons]
    rw [RV_refs h1 hu.1, ih hu.2]
theorem isRows_ok {h : SHp} {h' : List (Nat × BK)} (hh : RH h h') {l : List Nat} (hr : l.all (isRowS h) = true) : l.all (isRow h') = true := by
  rw [List.all_eq_true] at hr ⊢
  intro b hb
  have h1 := hr b hb
  have h2 := RH_blk hh b
  unfold isRowS at h1
  unfold isRow
  split at h1
  · rename_i s ts t hk
    rw [hk] at h2
    obtain ⟨es, h3, _⟩ := h2
    rw [h3]
  · cases h1
theorem scal_inv {v : SV} {w : AV} (hv : RV v w) (h : scalS v = true) : v = .a w ∧ scalA w = true := by
  unfold scalS at h
  split at h
  · exact ⟨congrArg SV.a hv.1, by rw [← hv.1]; rfl⟩
  · exact ⟨congrArg SV.a hv.1, by rw [← hv.1]; rfl⟩
  · exact ⟨congrArg SV.a hv.1, by rw [← hv.1]; rfl⟩
  · cases h
theorem scal_all {vs : List SV} {ws : List AV} (hv : All2 RV vs ws) (h : vs.all scalS = true) : ws.all scalA = true := by
  induction hv with
  | nil => rfl
  | cons h1 _ ih =>
    simp only [List.all_cons, Bool.and_eq_true] at h ⊢
    exact ⟨(scal_inv h1 h.1).2, ih h.2⟩
theorem scal_hand {own : List Nat} : ∀ {ws : List AV} (i : Nat), ws.all scalA = true → handVs own i ws = []
  | [], _, _ => rfl
  | w :: ws, i, h => by
    simp only [List.all_cons, Bool.and_eq_true] at h
    have h1 : handV own i w = [] := by cases w <;> first | rfl | (simp [scalA] at h)
    rw [handVs, h1, scal_hand _ h.2]; rfl
theorem scal_out {h hk : List (Nat × BK)} {own : List Nat} : ∀ {ws : List AV} (i : Nat), ws.all scalA = true → outVs h hk own i ws = some ws
  | [], _, _ => rfl
  | w :: ws, i, hw => by
    simp only [List.all_cons, Bool.and_eq_true] at hw
    have h1 : outV h hk own i w = some w := by cases w <;> first | rfl | (simp [scalA] at hw)
    rw [outVs, h1, scal_out _ hw.2]
theorem scal_flat {ws : List AV} (h : ws.all scalA = true) : flatV (pack ws) = true := by
  have one : ∀ w : AV, scalA w = true → (match w with | .ag cs => cs.all flatC | v => flatC v) = true := fun w hw => by cases w <;> first | rfl | (simp [scalA] at hw)
  match ws, h with
  | [], _ => rfl
  | [w], h =>
    simp only [List.all_cons, List.all_nil, Bool.and_true] at h
    cases w <;> first | rfl | (simp [scalA] at h)
  | a :: b :: l, h =>
    show (a :: b :: l).all (fun | .ag cs => cs.all flatC | v => flatC v) = true
    rw [List.all_eq_true] at h ⊢
    exact fun w hw => one w (h w hw)
theorem scal_inVs : ∀ {ws : List AV} (n : Nat), ws.all scalA = true → inVs n ws = (ws, [], n)
  | [], _, _ => rfl
  | w :: ws, n, h => by
    simp only [List.all_cons, Bool.and_eq_true] at h
    have h1 : inV n w = (w, [], n) := by cases w <;> first | rfl | (simp [scalA] at h)
    rw [inVs, h1]
    simp only [scal_inVs n h.2, List.append_nil]
theorem scal_inR {ws : List AV} (n : Nat) (h : ws.all scalA = true) : inR n (pack ws) = (pack ws, [], n) := by
  match ws, h with
  | [], _ => rfl
  | [w], h =>
    simp only [List.all_cons, List.all_nil, Bool.and_true] at h
    cases w <;> first | rfl | (simp [scalA] at h)
  | a :: b :: l, h =>
    show (AV.tp (inVs n (a :: b :: l)).1, (inVs n (a :: b :: l)).2) = _
    rw [scal_inVs n h]; rfl
theorem snapPS_ok {ρ : Type} {r : ρ} {h : SHp} {h' : List (Nat × BK)} {T : Tbl} (hh : RH h h') {v : SV} {w : AV} {k : SV → Option ρ} (hv : RV v w) (hk : snapPS (realN ρ) T h v k = some r) : ∃ v1 w1, snapV h' w = some w1 ∧ RW v1 w1 ∧ k v1 = some r := by
  unfold snapPS at hk
  split at hk
  · rename_i sz b i off
    have hw : w = .re sz b i off := hv.1.symm
    subst hw
    split at hk
    · rename_i sz' cs t hb
      split at hk
      · rename_i s hs
        split at hk
        · rename_i hsz
          obtain ⟨ws, hbb, hcs⟩ := by have := RH_blk hh b; rw [hb] at this; exact this
          obtain ⟨l, l', h1, h2, h3⟩ := snapLS_ok (R := RC) (R' := RC) (f' := snapC h') (fun v w k h1 h2 => by
            obtain ⟨v1, w1, g1, g2, g3⟩ := snapCS_ok hh h1 h2
            exact ⟨v1, w1, g1, g2, g3⟩) hcs hk
          split at h3
          · rename_i d hd
            refine ⟨_, .ri sz [l'] i off, ?_, ?_, h3⟩
            · show snapP h' (.re sz b i off) = _
              rw [snapP, hbb]
              simp only
              rw [if_pos hsz.1, h1]; rfl
            · refine ⟨[l'], by rw [hsz.2], .cons (decAll_ok hd h2) .nil⟩
          · cases h3
        · cases hk
      · cases hk
    · cases hk
  · exact snapVS_ok hh hv hk
theorem pfS_ok {ρ : Type} {r : ρ} {h : SHp} {h' : List (Nat × BK)} {nx : Nat} {g : Cfg} {T : Tbl} {run : CC → SS → KS ρ → Option ρ} (hg : TG T g) (hr : Runs T g ρ run) (hh : RH h h') {f : FuncId} {c : CF} (hc : T.ct f = none) (hpf : T.hint.pf.contains f = true) (hcode : T.code f = some c) {args : List SV} {as : List AV} {k : KV ρ} (ha : All2 RV args as) (hk : pfS (realN ρ) T run f c args h nx k = some r) :
    ∃ v h1 nx1 w h1', k [] v h1 nx1 = some r ∧ (Evt fun K => callA g (evalC g K) f as h' nx = some ⟨w, h1', nx1⟩) ∧ RV v w ∧ RH h1 h1' := by
  unfold pfS at hk
  split at hk
  · cases hk
  rename_i hn
  have hkl : g.kl f = false := by rw [hg.kl]; simpa using fun h => hn (.inr (.inr h))
  have hinl : g.inl f = false := by rw [hg.inl, hpf]; simp
  obtain ⟨l, l', h1, h2, h3⟩ := snapLS_ok (R := RV) (R' := RW) (f' := snapV h') (fun v w k h1 h2 => snapPS_ok hh h1 h2) ha hk
  have hlen : l'.length = args.length := ((snapL_all2 h1).length.symm).trans ha.length.symm
  have h2' : All2 RV l l' := h2.mono fun _ _ h => h.toV
  have hs : RS { tm := entryS l, h := [], nx := 0, bs := 0 } { tm := entry l', h := [], nx := 0, bs := 0 } :=
    ⟨fun t => entryS_ok h2' 0 t, fun t ht => entry_big _ 0 t (by have := hn; omega), .nil, rfl, rfl⟩
  obtain ⟨ex, S1, S1', g1, g2, g3⟩ := hr _ _ _ _ _ h3 hs (hg.lps f c hcode)
  have hfin : resultsS (realN ρ) S1 c.res (fun vs => if vs.all scalS then k [] (packS vs) h nx else none) = some r ∧ (ex = .nm ∨ ex = .rt) := by
    cases ex with
    | nm => exact ⟨g1, .inl rfl⟩
    | rt => exact ⟨g1, .inr rfl⟩
    | xt i => cases g1
  obtain ⟨vs, ws, h4, h5, h6⟩ := resultsS_ok g2 hfin.1
  split at h6
  · rename_i hsc
    have hsa := scal_all (h5.mono fun _ _ h => h.toV) hsc
    refine ⟨_, _, _, pack ws, h', h6, g3.mono fun K hK => ?_, (pack_okS h5).1, hh⟩
    unfold callA
    rw [if_neg (by rw [hinl]; simp)]
    simp only [h1]
    have hcp : callP g (evalC g K) f l' = some (pack ws) := by
      unfold callP
      rw [hg.noe f l' hc]
      simp only [hg.code f c hcode]
      rw [if_neg (by omega), hK]
      rcases hfin.2 with rfl | rfl
      · simp only [h4, scal_hand 0 hsa, scal_out 0 hsa]; rfl
      · simp only [h4, scal_hand 0 hsa, scal_out 0 hsa]; rfl
    simp only [hcp]
    rw [if_neg (by rw [hkl]; simp), if_pos (by rw [scal_flat hsa, Bool.or_true]), scal_inR nx hsa]
    rfl
  · cases h6
theorem callS_ok (hg : TG T g) (hr : Runs T g ρ run) (hh : RH h h') {f : FuncId} {args : List SV} {as : List AV} {k : KV ρ} (ha : All2 RV args as) (hk : callS (realN ρ) T run f args h nx k = some r) :
    ∃ v h1 nx1 w h1', k [] v h1 nx1 = some r ∧ (Evt fun K => callA g (evalC g K) f as h' nx = some ⟨w, h1', nx1⟩) ∧ RV v w ∧ RH h1 h1' := by
  unfold callS at hk
  split at hk
  · rename_i c hc
    have hinl : g.inl f = false := by rw [hg.inl, hc]; rfl
    obtain ⟨l, l', h1, h2, h3⟩ := snapLS_ok (R := RV) (R' := RW) (f' := snapV h') (fun v w k h1 h2 => snapVS_ok hh h1 h2) ha hk
    split at h3
    · cases h3
    rename_i hshape
    have hshape : shapeA l' = c.as := by rw [← shape_ok h2]; simpa using hshape
    split at h3
    · rename_i x hx
      have h4 : RE c.s x (l'.flatMap cellsW) := decAll_ok hx (h2.flat fun a b hab => cellsW_ok hab)
      cases hF : c.F x with
      | none => simp [realN, hF] at h3
      | some y =>
        have h6 := h3
        rw [hF] at h6
        simp only [show ∀ (o : Option (Den c.t)) (kk : Den c.t → Option ρ), (realN ρ).cl o kk = o.bind kk from fun _ _ => rfl, Option.bind_some] at h6
        obtain ⟨w, hw, hrr⟩ := hg.ext f c l' x y hc hshape h4 hF
        obtain ⟨v, hv, h7⟩ := hrr _ _ _ _ h6
        obtain ⟨a1, a2, a3⟩ := inRS_ok hv nx
        split at h7
        · rename_i hkl
          split at h7
          · rename_i hcond
            obtain ⟨hrow, huk⟩ := Bool.and_eq_true_iff.1 hcond
            have hrf : args.flatMap refsS = as.flatMap refsV := refsAll_ok ha huk
            refine ⟨_, _, _, (inR nx w).1, (inR nx w).2.1 ++ kill h' (as.flatMap refsV), spR_ok h7, ?_, a1, by rw [← hrf]; exact RH_app a2 (RH_kill hh _)⟩
            refine .of fun K => ?_
            unfold callA
            rw [if_neg (by rw [hinl]; simp)]
            simp only [h1, callP, hw]
            rw [if_pos (by rw [hg.kl, hkl]), if_pos (by rw [← hrf]; exact isRows_ok hh hrow), a3]
          · cases h7
        · rename_i hkl
          split at h7
          · rename_i hcond
            refine ⟨_, _, _, (inR nx w).1, (inR nx w).2.1 ++ h', spR_ok h7, ?_, a1, RH_app a2 hh⟩
            refine .of fun K => ?_
            unfold callA
            rw [if_neg (by rw [hinl]; simp)]
            simp only [h1, callP, hw]
            rw [if_neg (by rw [hg.kl]; exact hkl), if_pos, a3]
            rcases Bool.or_eq_true_iff.1 hcond with h8 | h8
            · rw [okVs_ok ha h8]; rfl
            · rw [flatVS_ok hv h8, Bool.or_true]
          · cases h7
    · cases h3
  · rename_i hc
    split at hk
    · rename_i hpf
      split at hk
      · cases hk
      · rename_i c hcode
        exact pfS_ok hg hr hh hc hpf hcode ha hk
    rename_i hpf
    have hinl : g.inl f = true := by rw [hg.inl, hc]; simpa using hpf
    split at hk
    · rename_i hcode
      split at hk
      · cases hk
      · rename_i wt hst
        obtain ⟨v, h1, nx1, w, h1', h2, h3, h4, h5⟩ := writeS_ok hg hh hst ha hk
        refine ⟨v, h1, nx1, w, h1', h2, .of fun K => ?_, h4, h5⟩
        unfold callA
        rw [if_pos hinl, hg.noc f hcode]
        exact h3
    · rename_i c hcode
      split at hk
      · cases hk
      · rename_i hn
        have hn1 : ¬ c.np < as.length := by rw [← ha.length]; exact fun h => hn (.inl h)
        have hn2 : as.length ≤ mark0 := by rw [← ha.length]; exact Nat.not_lt.1 fun h => hn (.inr h)
        unfold inlS at hk
        split at hk
        · rename_i hu
          obtain ⟨hall, huk⟩ := Bool.and_eq_true_iff.1 hu
          have hrf : args.flatMap refsS = as.flatMap refsV := refsAll_ok ha huk
          have hcl : clo (bone h) 64 (args.flatMap refsS) [] = clo h' 64 (as.flatMap refsV) [] := by rw [hrf]; exact clo_congr (bone_refs hh) _ _ _
          revert hk hall
          rw [hcl]
          generalize hU : clo h' 64 (as.flatMap refsV) [] = U
          intro hk hall
          have ha' : All2 RV (args.map (lrVS (U.contains ·) id)) (as.map (lrV (U.contains ·) id)) := All2.map2 (fun a b h => RV_lr _ _ h) ha
          have hs : RS { tm := entryS (args.map (lrVS (U.contains ·) id)), h := lotHS h U U, nx := nx, bs := nx } { tm := entry (as.map (lrV (U.contains ·) id)), h := lotH h' U U, nx := nx, bs := nx } :=
            ⟨fun t => entryS_ok ha' 0 t, fun t ht => entry_big _ 0 t (by rw [List.length_map]; omega), RH_lot hh U U, rfl, rfl⟩
          obtain ⟨ex, S1, S1', h1, h2, h3⟩ := hr _ _ _ _ _ hk hs (hg.lps f c hcode)
          have hfin : resultsS (realN ρ) S1 c.res (fun vs => k [] (lrVS (domD U nx S1.nx) id (packS vs)) (overS h (fun b => lrBS (domD U nx S1.nx) id (blkS S1.h b)) (upto nx (S1.nx - nx) ++ U)) S1.nx) = some r ∧ (ex = .nm ∨ ex = .rt) := by
            cases ex with
            | nm => exact ⟨h1, .inl rfl⟩
            | rt => exact ⟨h1, .inr rfl⟩
            | xt i => cases h1
          obtain ⟨vs, ws, h4, h5, h6⟩ := resultsS_ok h2 hfin.1
          refine ⟨_, _, _, lrV (domD U nx S1'.nx) id (pack ws), over h' (fun b => lrB (domD U nx S1'.nx) id (blk S1'.h b)) (upto nx (S1'.nx - nx) ++ U), h6, h3.mono fun K hK => ?_, ?_, ?_⟩
          · unfold callA
            rw [if_pos hinl, hg.code f c hcode]
            simp only
            unfold inlA
            rw [hU, if_neg hn1, if_pos hall, hK]
            rcases hfin.2 with rfl | rfl
            · simp only [h4]; rw [h2.nx]
            · simp only [h4]; rw [h2.nx]
          · rw [h2.nx]; exact RV_lr _ _ (pack_okS h5).1
          · rw [h2.nx]; exact RH_over (fun b => RB_lr _ _ (RH_blk h2.h b)) hh _
        · cases hk
theorem opSS_ok (hg : TG T g) (hr : Runs T g ρ run) (ht : RT tm tm') (hh : RH h h') {op : COp} {k : KV ρ} (hk : opSS (realN ρ) T run tm h nx op k = some r) : OkE g tm' h' nx op k r := by
  unfold opSS at hk
  split at hk
  · rename_i f args
    obtain ⟨v, h1, nx1, w, h1', h2, h3, h4, h5⟩ := callS_ok hg hr hh (RT_rds ht args) hk
    exact ⟨[], v, h1, nx1, w, h1', h2, h3, h4, h5, RF.nil⟩
  · rename_i x args
    split at hk
    · rename_i f caps hx
      have hx' : rd tm' x = .fn f caps := by have := RT_rd ht x; rw [hx] at this; exact this.1.symm
      split at hk
      · rename_i cs hcs
        split at hk
        · rename_i hfu
          have hcaps : All2 RV cs caps := (zS_ok hcs).mono fun _ _ h => h.toV
          obtain ⟨v, h1, nx1, w, h1', h2, h3, h4, h5⟩ := callS_ok hg hr hh ((RT_rds ht args).append hcaps) hk
          refine ⟨[], v, h1, nx1, w, h1', h2, h3.mono fun K hK => ?_, h4, h5, RF.nil⟩
          simp only [opC, hx']
          rw [if_pos hfu]
          exact hK
        · cases hk
      · cases hk
    · cases hk
  · rename_i op hn1 hn2
    obtain ⟨rf, v, h1, nx1, w, h1', h2, h3, h4, h5, h6⟩ := opS_ok ht hh hk
    refine ⟨rf, v, h1, nx1, w, h1', h2, .of fun K => ?_, h4, h5, h6⟩
    rw [← h3]
    unfold opC
    split
    · simp [opA] at h3
    · simp [opA] at h3
    · rfl

theorem look_refine (l : SM) (t : Nat) (v : SV) : ∀ n, lookS (l.map fun p => if p.1 = t then (t, v) else p) n = lookS l n ∨ (n = t ∧ lookS (l.map fun p => if p.1 = t then (t, v) else p) n = v) := by
  induction l with
  | nil => intro n; exact .inl rfl
  | cons p l ih =>
    intro n
    obtain ⟨a, b⟩ := p
    simp only [List.map_cons]
    by_cases hat : a = t
    · subst hat
      simp only [if_true, lookS]
      by_cases han : a = n
      · subst han; exact .inr ⟨rfl, by simp⟩
      · simp only [han, if_false]
        split
        · exact .inl rfl
        · exact ih n
    · simp only [hat, if_false, lookS]
      by_cases han : a = n
      · simp only [han, if_true]; exact .inl trivial
      · simp only [han, if_false]
        split
        · exact .inl rfl
        · exact ih n
theorem refine_ok (ht : RT tm tm') : ∀ {rf : SM}, RF tm' rf → RT (refine tm rf) tm'
  | [], _ => ht
  | (t, v) :: rf, h => fun n => by
    have h1 := refine_ok ht (rf := rf) fun p hp => h p (List.mem_cons_of_mem _ hp)
    obtain ⟨b, hb, hl⟩ := h (t, v) (List.mem_cons_self ..)
    simp only at hb hl
    subst hb
    simp only [refine]
    rcases look_refine (refine tm rf) t (.a (.bl b)) n with h2 | ⟨rfl, h2⟩
    · rw [h2]; exact h1 n
    · rw [h2, hl]; exact ⟨rfl, rfl⟩
theorem RF.app {a b : SM} (h1 : RF tm' a) (h2 : RF tm' b) : RF tm' (a ++ b) := fun p hp => by
  rcases List.mem_append.1 hp with h | h
  · exact h1 p h
  · exact h2 p h
def OkG (g : Cfg) (tm' : List (Nat × AV)) (h' : List (Nat × BK)) (nx : Nat) (o : CI) (k : KV ρ) (r : ρ) : Prop :=
  ∃ rf v h1 nx1 w h1', k rf v h1 nx1 = some r ∧ (Evt fun K => oneC g (evalC g K) tm' h' nx o = some ⟨w, h1', nx1⟩) ∧ RV v w ∧ RH h1 h1' ∧ RF tm' rf
theorem oneS_ok (hg : TG T g) (hr : Runs T g ρ run) (ht : RT tm tm') (hh : RH h h') {o : CI} {k : KV ρ} (hk : oneS (realN ρ) T run tm h nx o k = some r) : OkG g tm' h' nx o k r := by
  unfold oneS at hk
  split at hk
  · rename_i hgd
    obtain ⟨rf, v, h1, nx1, w, h1', h2, h3, h4, h5, h6⟩ := opSS_ok hg hr ht hh hk
    refine ⟨rf, v, h1, nx1, w, h1', h2, h3.mono fun K hK => ?_, h4, h5, h6⟩
    simp only [oneC, hgd, wants]
    exact hK
  · rename_i t want hgd
    split at hk
    · rename_i b hb
      have hl : look .ud tm' t = .bl b := by have := ht t; rw [hb] at this; exact this.1.symm
      have yes : b = want → opSS (realN ρ) T run ((t, .a (.bl b)) :: tm) h nx o.op (fun rf w h' nx' => k (rf ++ [(t, .a (.bl b))]) w h' nx') = some r → OkG g tm' h' nx o k r := fun hw hk => by
        have ht2 : RT ((t, .a (.bl b)) :: tm) tm' := fun n => by
          simp only [lookS]
          split
          · rename_i h; subst h; rw [hl]; exact ⟨rfl, rfl⟩
          · split
            · trivial
            · exact ht n
        obtain ⟨rf, v, h1, nx1, w, h1', h2, h3, h4, h5, h6⟩ := opSS_ok hg hr ht2 hh hk
        refine ⟨_, v, h1, nx1, w, h1', h2, h3.mono fun K hK => ?_, h4, h5, RF.app h6 (RF.one hl)⟩
        simp only [oneC, hgd, wants, hl, hw, beq_self_eq_true]
        exact hK
      have no : b ≠ want → k [(t, .a (.bl b))] (.tp []) h nx = some r → OkG g tm' h' nx o k r := fun hw hk => by
        refine ⟨_, _, _, _, _, _, hk, .of fun K => ?_, ⟨[], rfl, .nil⟩, hh, RF.one hl⟩
        simp only [oneC, hgd, wants, hl]
        have : (b == want) = false := by cases b <;> cases want <;> first | rfl | exact absurd rfl hw
        rw [this]
      cases want
      · simp only [Bool.false_eq_true, if_false] at hk
        rcases br_some hk with ⟨rfl, hk⟩ | ⟨rfl, hk⟩
        · exact no (by simp) hk
        · exact yes rfl hk
      · simp only [if_true] at hk
        rcases br_some hk with ⟨rfl, hk⟩ | ⟨rfl, hk⟩
        · exact yes rfl hk
        · exact no (by simp) hk
    · rename_i hb
      have hl : look .ud tm' t = .tp [] := by
        have := ht t
        rw [hb] at this
        obtain ⟨ws, h1, h2⟩ := this
        cases h2
        exact h1
      refine ⟨[], _, _, _, _, _, hk, .of fun K => ?_, ⟨[], rfl, .nil⟩, hh, RF.nil⟩
      simp only [oneC, hgd, wants, hl]
    · cases hk

theorem putDS_ok (hs : RT tm tm') (hm : RM tm') {d : Option Nat} (hd : dOk d = true) {v : SV} {w : AV} (hv : RV v w) : RT (putDS d v tm) (putD d w tm') ∧ RM (putD d w tm') := by
  cases d with
  | none => exact ⟨hs, hm⟩
  | some d =>
    simp only [dOk, decide_eq_true_eq] at hd
    refine ⟨fun t => ?_, fun t ht => ?_⟩
    · simp only [putDS, putD, lookS, look]
      split
      · exact hv
      · split
        · trivial
        · exact hs t
    · simp only [putD, look]
      rw [if_neg (by omega)]
      exact hm t ht
theorem opsS_ok (hg : TG T g) (hr : Runs T g ρ run) : ∀ {ops : List CI} {S : SS} {S' : St} {k : SS → Option ρ}, RS S S' → opsS (realN ρ) T run ops S k = some r →
    ∃ S1 S1', k S1 = some r ∧ RS S1 S1' ∧ Evt fun K => opsC g (evalC g K) ops S' = some S1'
  | [], S, S', k, hs, hk => ⟨S, S', hk, hs, .of fun K => rfl⟩
  | o :: l, S, S', k, hs, hk => by
    simp only [opsS] at hk
    obtain ⟨rf, v, h1, nx1, w, h1', h2, h3, h4, h5, h6⟩ := oneS_ok hg hr hs.tm hs.h hk
    dsimp only at h2
    split at h2
    · rename_i hc
      simp only [Bool.and_eq_true, decide_eq_true_eq] at hc
      obtain ⟨a1, a2⟩ := putDS_ok (refine_ok hs.tm h6) hs.mm hc.2 h4
      have hs2 : RS { tm := putDS o.dst v (refine S.tm rf), h := h1, nx := nx1, bs := S.bs } { tm := putD o.dst w S'.tm, h := h1', nx := nx1, bs := S'.bs } := ⟨a1, a2, h5, rfl, hs.bs⟩
      obtain ⟨S1, S1', b1, b2, b3⟩ := opsS_ok hg hr hs2 h2
      refine ⟨S1, S1', b1, b2, h3.and2 b3 fun K hK hK2 => ?_⟩
      rw [hs.nx] at hK
      simp only [opsC, hK]
      rw [if_pos (by rw [← hs.bs]; exact hc.1)]
      exact hK2
    · cases h2
end
end Go.Am
set_option linter.constructorNameAsVariable false
set_option linter.unusedVariables false
set_option linter.unusedSimpArgs false
namespace Go.Am
section
variable {ρ : Type} {r : ρ} {h : SHp} {h' : List (Nat × BK)} {tm : SM} {tm' : List (Nat × AV)} {nx : Nat} {g : Cfg} {T : Tbl} {S : SS} {S' : St} {run : CC → SS → KS ρ → Option ρ}

theorem reads_eq (ht : RT tm tm') : ∀ {l : List Nat}, l.all (fun t => decide (t < skey) && !isUk (lookS tm t)) = true → (l.flatMap fun t => refsS (lookS tm t)) = l.flatMap fun t => refsV (look .ud tm' t)
  | [], _ => rfl
  | t :: l, h => by
    simp only [List.all_cons, Bool.and_eq_true, Bool.not_eq_true'] at h
    simp only [List.flatMap_cons]
    rw [RV_refs (ht t) h.1.2, reads_eq ht h.2]
theorem lotTS_ok (ht : RT tm tm') (U ts : List Nat) : RT (lotTS tm U ts) (lotT tm' U ts) := fun t => RV_map (fun t => RV_lr _ _ (ht t)) ts t
theorem lotT_mm (hm : RM tm') (U ts : List Nat) : RM (lotT tm' U ts) := fun t ht => by
  unfold lotT
  rw [look_live]
  split
  · rw [hm t ht]; rfl
  · rfl
theorem lrV_bl {p : Nat → Bool} {q : Nat → Nat} {w : AV} {b : Bool} (h : lrV p q w = .bl b) : w = .bl b := by
  cases w <;> simp only [lrV, lrW, lrC] at h <;> first
    | (split at h <;> first | (simp [ren] at h; done) | (simp only [ren] at h; exact h) | cases h)
    | cases h
theorem RF_lot {U ts : List Nat} {rf : SM} (h : RF (lotT tm' U ts) rf) : RF tm' rf := fun p hp => by
  obtain ⟨b, hb, hl⟩ := h p hp
  refine ⟨b, hb, ?_⟩
  unfold lotT at hl
  rw [look_live] at hl
  split at hl
  · exact lrV_bl hl
  · cases hl
def knownO (tm : SM) (x : Opd) : Prop := isUk (rdS tm x) = false ∨ ∃ v, x = .c v
theorem fnS_inv {v : SV} {f : FuncId} {caps : List AV} (hv : RV v (.fn f caps)) (hu : isUk v = false) : v = .a (.fn f caps) := by
  cases v with
  | a u => obtain ⟨rfl, _⟩ := hv; rfl
  | ls s ts => rcases hv with ⟨es, h, _⟩ | ⟨_, h | h⟩ <;> cases h
  | ri s ts i off => obtain ⟨es, h, _⟩ := hv; cases h
  | ow s ts => obtain ⟨es, h, _⟩ := hv; cases h
  | nz => rcases hv with h | h <;> cases h
  | ag cs => obtain ⟨es, h, _⟩ := hv; cases h
  | tp cs => obtain ⟨es, h, _⟩ := hv; cases h
  | uk => simp [isUk] at hu
theorem reS_inv {v : SV} {sz b i off : Nat} (hv : RV v (.re sz b i off)) (hu : isUk v = false) : v = .a (.re sz b i off) := by
  cases v with
  | a u => obtain ⟨rfl, _⟩ := hv; rfl
  | ls s ts => rcases hv with ⟨es, h, _⟩ | ⟨_, h | h⟩ <;> cases h
  | ri s ts i off => obtain ⟨es, h, _⟩ := hv; cases h
  | ow s ts => obtain ⟨es, h, _⟩ := hv; cases h
  | nz => rcases hv with h | h <;> cases h
  | ag cs => obtain ⟨es, h, _⟩ := hv; cases h
  | tp cs => obtain ⟨es, h, _⟩ := hv; cases h
  | uk => simp [isUk] at hu
theorem ofAV_fn {v : AV} {f : FuncId} {caps : List AV} (h : v = .fn f caps) : ofAV v = .a (.fn f caps) := by subst h; rfl
theorem opd_known {x : Opd} (hk : ∀ t ∈ opdT x, isUk (lookS tm t) = false) : isUk (rdS tm x) = false ∨ ∃ v, x = .c v := by
  cases x with
  | t n => exact .inl (hk n (List.mem_singleton.2 rfl))
  | c v => exact .inr ⟨v, rfl⟩
theorem rd_fn (ht : RT tm tm') {x : Opd} (hk : ∀ t ∈ opdT x, isUk (lookS tm t) = false) {f : FuncId} {caps : List AV} (h : rd tm' x = .fn f caps) : rdS tm x = .a (.fn f caps) := by
  rcases opd_known hk with h1 | ⟨v, rfl⟩
  · have := RT_rd ht x
    rw [h] at this
    exact fnS_inv this h1
  · exact ofAV_fn h
theorem rd_re (ht : RT tm tm') {x : Opd} (hk : ∀ t ∈ opdT x, isUk (lookS tm t) = false) {sz b i off : Nat} (h : rd tm' x = .re sz b i off) : rdS tm x = .a (.re sz b i off) := by
  rcases opd_known hk with h1 | ⟨v, rfl⟩
  · have := RT_rd ht x
    rw [h] at this
    exact reS_inv this h1
  · have h : v = .re sz b i off := h
    subst h; rfl
theorem refs_opd (ht : RT tm tm') {x : Opd} (hk : ∀ t ∈ opdT x, isUk (lookS tm t) = false) (hc : ∀ v, x = .c v → refsS (ofAV v) = refsV v) : refsS (rdS tm x) = refsV (rd tm' x) := by
  rcases opd_known hk with h1 | ⟨v, rfl⟩
  · exact RV_refs (RT_rd ht x) h1
  · exact hc v rfl
theorem isEmpty_flat {α β : Type} {f g : α → List β} {l : List α} (h : ∀ a ∈ l, f a = g a) : (l.flatMap f).isEmpty = (l.flatMap g).isEmpty := by rw [flat_congr h]
theorem const_refs {v : AV} (h : isUk (ofAV v) = false) : refsS (ofAV v) = refsV v := RV_refs (ofAV_ok v) h
theorem qIS_ok (hg : TG T g) (ht : RT tm tm') {o : CI} (hr : ∀ t ∈ readsO o.op, isUk (lookS tm t) = false) (hb : bsOk o.op = true) : qIS T tm o = qI g tm' o := by
  obtain ⟨d, op, gd⟩ := o
  simp only at hr hb
  unfold qIS qI
  cases op with
  | cf f args => simp [hg.inl, hg.kl]
  | cv x args =>
    simp only
    have hx : ∀ t ∈ opdT x, isUk (lookS tm t) = false := fun t h => hr t (by simp [readsO, h])
    cases h1 : rd tm' x with
    | fn f caps => rw [rd_fn ht hx h1]; simp [hg.inl, hg.kl]
    | _ =>
      have : ∀ f caps, rdS tm x ≠ .a (.fn f caps) := fun f caps h => by
        have h2 := RT_rd ht x
        rw [h, h1] at h2
        have := h2.1
        cases this
      split
      · rename_i f caps h; exact absurd h (this f caps)
      · rfl
  | bs sz len z t ps =>
    simp only [qOp]
    refine isEmpty_flat fun p hp => refs_opd ht (fun t h => hr t (by simp only [readsO, List.mem_flatMap]; exact ⟨p, hp, h⟩)) fun v hv => ?_
    have := List.all_eq_true.1 hb p hp
    rw [hv] at this
    exact const_refs (by simpa [constOk] using this)
  | _ => rfl
theorem wIS_ok (hg : TG T g) (ht : RT tm tm') (hh : RH h h') {o : CI} (hr : ∀ t ∈ readsO o.op, isUk (lookS tm t) = false) (hb : bsOk o.op = true) (us : List Nat) : wIS T tm h o us = wI g tm' h' o us := by
  unfold wIS wI
  rw [qIS_ok hg ht hr hb]
  obtain ⟨d, op, gd⟩ := o
  simp only at hr hb ⊢
  split
  · rfl
  · cases op with
    | sr n a x =>
      have ha : ∀ t ∈ opdT a, isUk (lookS tm t) = false := fun t h => hr t (by simp [readsO, h])
      simp only
      cases h1 : rd tm' a with
      | re sz b i off =>
        rw [rd_re ht ha h1]
        simp only
        have := RH_blk hh b
        cases h2 : blkS h b with
        | vr sz cs t => rw [h2] at this; obtain ⟨ws, he, _⟩ := this; rw [he]
        | ar s ts t => rw [h2] at this; obtain ⟨_, ws, he, _⟩ := this; rw [he]
        | row s ts t => rw [h2] at this; obtain ⟨ws, he, _⟩ := this; rw [he]
        | mi k g s es => rw [h2] at this; obtain ⟨ws, he, _⟩ := this; rw [he]
        | ms g s es => rw [h2] at this; obtain ⟨ws, he, _⟩ := this; rw [he]
        | ml es => rw [h2] at this; have he : blk h' b = .mp es := this; rw [he]
        | dd => rw [h2] at this; have he : blk h' b = .dd := this; rw [he]
      | _ =>
        have : ∀ sz b i off, rdS tm a ≠ .a (.re sz b i off) := fun sz b i off h => by
          have h2 := RT_rd ht a
          rw [h, h1] at h2
          have := h2.1
          cases this
        split
        · rename_i sz b i off h; exact absurd h (this sz b i off)
        · rfl
    | _ => rfl
end
end Go.Am
set_option linter.constructorNameAsVariable false
set_option linter.unusedVariables false
set_option linter.unusedSimpArgs false
namespace Go.Am
def toF (f : FootS) : Foot := ⟨f.ix, f.us, f.ac, f.fr, f.wr⟩

theorem avEq_ok : ∀ {v w : AV}, avEq v w = true → v = w := by
  have go : ∀ {l m : List AV}, avEq.go l m = true → l = m := by
    intro l
    induction l with
    | nil => intro m h; cases m with
      | nil => rfl
      | cons _ _ => simp [avEq.go] at h
    | cons a l ih =>
      intro m h
      cases m with
      | nil => cases a <;> simp [avEq.go] at h
      | cons b m =>
        cases a <;> cases b <;> simp [avEq.go] at h
        obtain ⟨⟨⟨⟨rfl, rfl⟩, rfl⟩, rfl⟩, h⟩ := h
        rw [ih h]
  intro v w h
  cases v <;> cases w <;> simp [avEq] at h <;> first
    | rfl
    | (obtain ⟨rfl, rfl⟩ := h; rfl)
    | (subst h; rfl)
    | (rename_i a b; cases a; cases b; simp at h; simp [h]; done)
    | (obtain ⟨⟨⟨rfl, rfl⟩, rfl⟩, rfl⟩ := h; rfl)
    | (obtain ⟨rfl, rfl, rfl, rfl⟩ := h; rfl)
    | (obtain ⟨rfl, h⟩ := h; rw [go h])
    | skip
theorem matC_ok : ∀ {p : PC} {v : SV} {R : Type} {r : R} {x : TyC p R}, matC p v r = some x → fillC p x = (v, r)
  | .c w, v, R, r, x, h => by
    cases v <;> simp only [matC] at h <;> first | (cases h; done) | skip
    split at h
    · rename_i he; simp at h; subst h; rw [← avEq_ok he]; rfl
    · cases h
  | .hi k, v, R, r, x, h => by
    cases v <;> simp only [matC] at h <;> first | (cases h; done) | skip
    rename_i w
    cases w <;> simp only at h <;> first | (cases h; done) | skip
    split at h
    · rename_i he; simp at h; subst h; subst he; rfl
    · cases h
  | .hb, v, R, r, x, h => by
    cases v <;> simp only [matC] at h <;> first | (cases h; done) | skip
    rename_i w
    cases w <;> simp only at h <;> first | (cases h; done) | skip
    simp at h; subst h; rfl
  | .hs, v, R, r, x, h => by
    cases v <;> simp only [matC] at h <;> first | (cases h; done) | skip
    rename_i w
    cases w <;> simp only at h <;> first | (cases h; done) | skip
    simp at h; subst h; rfl
  | .hl s, v, R, r, x, h => by
    cases v <;> simp only [matC] at h <;> first | (cases h; done) | skip
    split at h
    · rename_i he; subst he; simp at h; subst h; rfl
    · cases h
  | .hr s off, v, R, r, x, h => by
    cases v <;> simp only [matC] at h <;> first | (cases h; done) | skip
    split at h
    · rename_i ho
      split at h
      · rename_i he; subst he; subst ho; simp at h; subst h; rfl
      · cases h
    · cases h
  | .s0 sz b, v, R, r, x, h => by
    cases v <;> simp only [matC] at h <;> first | (cases h; done) | skip
    rename_i w
    cases w <;> simp only at h <;> first | (cases h; done) | skip
    split at h
    · rename_i he; obtain ⟨rfl, rfl, rfl⟩ := he; simp at h; subst h; rfl
    · cases h
  | .sn sz b, v, R, r, x, h => by
    cases v <;> simp only [matC] at h <;> first | (cases h; done) | skip
    rename_i w
    cases w <;> simp only at h <;> first | (cases h; done) | skip
    split at h
    · rename_i he; obtain ⟨rfl, rfl⟩ := he; simp at h; subst h; rfl
    · cases h
  | .hp sz b off, v, R, r, x, h => by
    cases v <;> simp only [matC] at h <;> first | (cases h; done) | skip
    rename_i w
    cases w <;> simp only at h <;> first | (cases h; done) | skip
    split at h
    · rename_i he; obtain ⟨rfl, rfl, rfl⟩ := he; simp at h; subst h; rfl
    · cases h
  | .nz, v, R, r, x, h => by
    cases v <;> simp only [matC] at h <;> first | (cases h; done) | skip
    simp at h; subst h; rfl
theorem matCs_ok : ∀ {ps : List PC} {vs : List SV} {R : Type} {r : R} {x : TyCs ps R}, matCs ps vs r = some x → fillCs ps x = (vs, r)
  | [], [], R, r, x, h => by simp only [matCs] at h; simp at h; subst h; rfl
  | p :: ps, v :: vs, R, r, x, h => by
    simp only [matCs, Option.bind_eq_some_iff] at h
    obtain ⟨z, hz, h⟩ := h
    have h1 := matC_ok h
    have h2 := matCs_ok hz
    simp only [fillCs, h1, h2]
  | [], _ :: _, R, r, x, h => by simp [matCs] at h
  | _ :: _, [], R, r, x, h => by simp [matCs] at h
theorem matV_ok : ∀ {p : PV} {v : SV} {R : Type} {r : R} {x : TyV p R}, matV p v r = some x → fillV p x = (v, r)
  | .c p, v, R, r, x, h => matC_ok h
  | .ag ps, v, R, r, x, h => by
    cases v <;> simp only [matV] at h <;> first | (cases h; done) | skip
    simp only [fillV, matCs_ok h]
  | .t0, v, R, r, x, h => by
    cases v <;> simp only [matV] at h <;> first | (cases h; done) | skip
    rename_i vs
    cases vs <;> simp only at h <;> first | (cases h; done) | skip
    simp at h; subst h; rfl
  | .uk, v, R, r, x, h => by
    cases v <;> simp only [matV] at h <;> first | (cases h; done) | skip
    simp at h; subst h; rfl
theorem matT_ok : ∀ {ps : List (Nat × PV)} {vs : SM} {R : Type} {r : R} {x : TyT ps R}, matT ps vs r = some x → fillT ps x = (vs, r)
  | [], [], R, r, x, h => by simp only [matT] at h; simp at h; subst h; rfl
  | p :: ps, v :: vs, R, r, x, h => by
    simp only [matT] at h
    split at h
    · rename_i he
      simp only [Option.bind_eq_some_iff] at h
      obtain ⟨z, hz, h⟩ := h
      have h1 := matV_ok h
      have h2 := matT_ok hz
      simp only [fillT, h1, h2, he]
    · cases h
  | [], _ :: _, R, r, x, h => by simp [matT] at h
  | _ :: _, [], R, r, x, h => by simp [matT] at h
theorem mlEq_ok : ∀ {a b : List (AV × AV)}, mlEq a b = true → a = b
  | [], [], _ => rfl
  | (a, b) :: l, (a', b') :: l', h => by
    simp only [mlEq, Bool.and_eq_true] at h
    rw [avEq_ok h.1.1, avEq_ok h.1.2, mlEq_ok h.2]
  | [], _ :: _, h => by simp [mlEq] at h
  | _ :: _, [], h => by simp [mlEq] at h
theorem matB_ok : ∀ {p : PB} {v : SB} {R : Type} {r : R} {x : TyB p R}, matB p v r = some x → fillB p x = (v, r)
  | .vr sz ps t, v, R, r, x, h => by
    cases v <;> simp only [matB] at h <;> first | (cases h; done) | skip
    split at h
    · rename_i he; obtain ⟨rfl, rfl⟩ := he; simp only [fillB, matCs_ok h]
    · cases h
  | .row s t, v, R, r, x, h => by
    cases v <;> simp only [matB] at h <;> first | (cases h; done) | skip
    split at h
    · rename_i ho
      split at h
      · rename_i he; subst he; subst ho; simp at h; subst h; rfl
      · cases h
    · cases h
  | .ar s t, v, R, r, x, h => by
    cases v <;> simp only [matB] at h <;> first | (cases h; done) | skip
    split at h
    · rename_i ho
      split at h
      · rename_i he; subst he; subst ho; simp at h; subst h; rfl
      · cases h
    · cases h
  | .mi k g s, v, R, r, x, h => by
    cases v <;> simp only [matB] at h <;> first | (cases h; done) | skip
    split at h
    · rename_i ho
      obtain ⟨rfl, rfl⟩ := ho
      split at h
      · rename_i he; subst he; simp at h; subst h; rfl
      · cases h
    · cases h
  | .ms g s, v, R, r, x, h => by
    cases v <;> simp only [matB] at h <;> first | (cases h; done) | skip
    split at h
    · rename_i ho
      subst ho
      split at h
      · rename_i he; subst he; simp at h; subst h; rfl
      · cases h
    · cases h
  | .ml es, v, R, r, x, h => by
    cases v <;> simp only [matB] at h <;> first | (cases h; done) | skip
    split at h
    · rename_i he; simp at h; subst h; rw [← mlEq_ok he]; rfl
    · cases h
  | .dd, v, R, r, x, h => by
    cases v <;> simp only [matB] at h <;> first | (cases h; done) | skip
    simp at h; subst h; rfl
theorem matH_ok : ∀ {ps : List (Nat × PB)} {vs : SHp} {R : Type} {r : R} {x : TyH ps R}, matH ps vs r = some x → fillH ps x = (vs, r)
  | [], [], R, r, x, h => by simp only [matH] at h; simp at h; subst h; rfl
  | p :: ps, v :: vs, R, r, x, h => by
    simp only [matH] at h
    split at h
    · rename_i he
      simp only [Option.bind_eq_some_iff] at h
      obtain ⟨z, hz, h⟩ := h
      have h1 := matB_ok h
      have h2 := matH_ok hz
      simp only [fillH, h1, h2, he]
    · cases h
  | [], _ :: _, R, r, x, h => by simp [matH] at h
  | _ :: _, [], R, r, x, h => by simp [matH] at h
theorem matS_ok {p : PS} {S : SS} {x : TyS p} (h : matS p S = some x) : fillS p x = S := by
  unfold matS at h
  split at h
  · rename_i he
    simp only [Option.bind_eq_some_iff] at h
    obtain ⟨z, hz, h⟩ := h
    have h1 := matT_ok h
    have h2 := matH_ok hz
    unfold fillS
    simp only [h1, h2, he.1, he.2]
  · cases h
theorem matP_ok : ∀ {l : List PS} {S : SS} {x : SumP l}, matP l S = some x → fillP l x = S
  | [], S, x, h => by simp [matP] at h
  | [p], S, x, h => by simp only [matP] at h; exact matS_ok h
  | p :: q :: l, S, x, h => by
    simp only [matP] at h
    split at h
    · rename_i y hy; simp at h; subst h; exact matS_ok hy
    · simp only [Option.map_eq_some_iff] at h
      obtain ⟨y, hy, rfl⟩ := h
      show fillP (q :: l) y = S
      exact matP_ok hy

section
variable {ρ : Type} {r : ρ} {h : SHp} {h' : List (Nat × BK)} {tm : SM} {tm' : List (Nat × AV)} {nx : Nat} {g : Cfg} {T : Tbl} {S : SS} {S' : St} {run : CC → SS → KS ρ → Option ρ}
theorem lookS_mem (f : Nat → SV) {t : Nat} : ∀ {l : List Nat}, (∀ a ∈ l, a < skey) → t ∈ l → lookS (l.map fun t => (t, f t)) t = f t
  | [], _, h => by cases h
  | a :: l, hl, h => by
    simp only [List.map_cons, lookS]
    by_cases hat : a = t
    · subst hat; simp
    · rw [if_neg hat]
      have h1 := hl a (List.mem_cons_self ..)
      rw [if_neg (by omega)]
      rcases List.mem_cons.1 h with h | h
      · exact absurd h.symm hat
      · exact lookS_mem f (fun b hb => hl b (List.mem_cons_of_mem _ hb)) h
theorem isUk_lr (p : Nat → Bool) (q : Nat → Nat) (v : SV) : isUk (lrVS p q v) = isUk v := by cases v <;> rfl
theorem readsO_sub {o : CI} {t : Nat} (h : t ∈ readsO o.op) : t ∈ readsI o := by unfold readsI; exact List.mem_append_right _ h
theorem parS_ok (hg : TG T g) (hr : Runs T g ρ run) : ∀ {ops : List (CI × List Nat)} {ix : Nat} {fs : List FootS} {S : SS} {S' : St} {k : SS → Option ρ}, RS S S' → parS (realN ρ) T run ops ix fs S k = some r →
    ∃ S1 S1', k S1 = some r ∧ RS S1 S1' ∧ Evt fun K => parC g (evalC g K) ops ix (fs.map toF) S' = some S1'
  | [], ix, fs, S, S', k, hs, hk => ⟨S, S', hk, hs, .of fun K => rfl⟩
  | (o, dp) :: l, ix, fs, S, S', k, hs, hk => by
    simp only [parS] at hk
    split at hk
    · rename_i hc
      simp only [Bool.and_eq_true] at hc
      obtain ⟨⟨hc1, hc2⟩, hc3⟩ := hc
      have hus : clo (bone S.h) 64 ((readsI o).flatMap fun t => refsS (lookS S.tm t)) [] = clo S'.h 64 ((readsI o).flatMap fun t => refsV (look .ud S'.tm t)) [] := by
        rw [reads_eq hs.tm hc2, clo_congr (bone_refs hs.h)]
      have hreads : ∀ us : List Nat, ∀ t ∈ readsO o.op, isUk (lookS (lotTS S.tm us (readsI o)) t) = false := by
        intro us t ht
        have h1 : (decide (t < skey) && !isUk (lookS S.tm t)) = true := List.all_eq_true.1 hc2 t (readsO_sub ht)
        simp only [Bool.and_eq_true, Bool.not_eq_true'] at h1
        unfold lotTS
        rw [lookS_mem _ (fun a ha => by
          have h2 : (decide (a < skey) && !isUk (lookS S.tm a)) = true := List.all_eq_true.1 hc2 a ha
          simp only [Bool.and_eq_true, decide_eq_true_eq] at h2
          exact h2.1) (readsO_sub ht), isUk_lr]
        exact h1.2
      rw [hus] at hk hc1
      generalize hU : clo S'.h 64 ((readsI o).flatMap fun t => refsV (look .ud S'.tm t)) [] = us at hk hc1
      generalize hA : (if agn o.op = true then ([] : List Nat) else us) = ac at hk
      obtain ⟨rf, v, h1, nx1, w, h1', h2, h3, h4, h5, h6⟩ := oneS_ok hg hr (lotTS_ok hs.tm us (readsI o)) (RH_lot hs.h us ac) hk
      dsimp only at h2
      have hw := wIS_ok hg (lotTS_ok hs.tm us (readsI o)) (RH_lot hs.h us ac) (hreads us) hc3 us
      rw [hw] at h2
      split at h2
      · rename_i hc4
        simp only [Bool.and_eq_true, decide_eq_true_eq] at hc4
        obtain ⟨⟨hc5, hc6⟩, hc7⟩ := hc4
        obtain ⟨a1, a2⟩ := putDS_ok (refine_ok hs.tm (RF_lot h6)) hs.mm hc6 (RV_lr (domD us S.nx nx1) id h4)
        have hs2 := RS.mk (S := { tm := putDS o.dst (lrVS (domD us S.nx nx1) id v) (refine S.tm rf), h := overS S.h (fun b => lrBS (domD us S.nx nx1) id (blkS h1 b)) (upto S.nx (nx1 - S.nx) ++ wI g (lotT S'.tm us (readsI o)) (lotH S'.h us ac) o us), nx := nx1, bs := S.bs })
          (S' := { tm := putD o.dst (lrV (domD us S.nx nx1) id w) S'.tm, h := over S'.h (fun b => lrB (domD us S.nx nx1) id (blk h1' b)) (upto S.nx (nx1 - S.nx) ++ wI g (lotT S'.tm us (readsI o)) (lotH S'.h us ac) o us), nx := nx1, bs := S'.bs })
          a1 a2 (RH_over (fun b => RB_lr _ _ (RH_blk h5 b)) hs.h _) rfl hs.bs
        obtain ⟨S1, S1', b1, b2, b3⟩ := parS_ok hg hr hs2 h2
        refine ⟨S1, S1', b1, b2, h3.and2 b3 fun K hK hK2 => ?_⟩
        simp only [parC]
        rw [hU, hA]
        rw [hs.nx] at hc1 hK hc5
        rw [if_pos hc1, hK]
        simp only
        rw [if_pos]
        · rw [← hs.nx]
          exact hK2
        · rw [hs.nx] at hc7
          simp only [Bool.and_eq_true, decide_eq_true_eq]
          refine ⟨hc5, ?_⟩
          rw [List.all_map]
          exact hc7
      · cases h2
    · cases hk
theorem pickL_ok {lp : Nat → Option Lps} {C : SS} {m : Nat} {L : Lps} {x : SumP L.ps} : ∀ (n j : Nat), pickL lp C m j n = some ⟨L, x⟩ → (∃ j, lp (m + j * varK) = some L) ∧ matP L.ps C = some x
  | 0, _, h => by cases h
  | n + 1, j, h => by
    simp only [pickL] at h
    split at h
    · cases h
    · rename_i L' hL
      split at h
      · rename_i y hy
        injection h with h
        injection h with h1 h2
        subst h1
        cases h2
        exact ⟨⟨j, hL⟩, hy⟩
      · exact pickL_ok n (j + 1) h
theorem stepS_ok (hg : TG T g) (hr : Runs T g ρ run) : ∀ {c : CC} {S : SS} {S' : St} {k : KS ρ}, RS S S' → LoopsOk T g c → stepS (realN ρ) T run c S k = some r →
    ∃ ex S1 S1', k ex S1 = some r ∧ RS S1 S1' ∧ Evt fun K => stepC g (evalC g K) c S' = some (ex, S1')
  | .sk, S, S', k, hs, hl, hk => ⟨_, S, S', hk, hs, .of fun K => rfl⟩
  | .rg ops, S, S', k, hs, hl, hk => by
    simp only [stepS] at hk
    obtain ⟨S1, S1', h1, h2, h3⟩ := opsS_ok hg hr hs hk
    exact ⟨_, S1, S1', h1, h2, h3.mono fun K hK => by simp only [stepC, hK]; rfl⟩
  | .rd ops, S, S', k, hs, hl, hk => by
    simp only [stepS] at hk
    obtain ⟨S1, S1', h1, h2, h3⟩ := parS_ok hg hr hs hk
    exact ⟨_, S1, S1', h1, h2, h3.mono fun K hK => by simp only [List.map_nil] at hK; simp only [stepC, hK]; rfl⟩
  | .sq a b, S, S', k, hs, hl, hk => by
    simp only [stepS] at hk
    obtain ⟨ex, S1, S1', h1, h2, h3⟩ := stepS_ok hg hr hs (fun p hp => hl p (List.mem_append_left _ hp)) hk
    cases ex with
    | nm =>
      obtain ⟨ex2, S2, S2', h4, h5, h6⟩ := stepS_ok hg hr h2 (fun p hp => hl p (List.mem_append_right _ hp)) h1
      exact ⟨ex2, S2, S2', h4, h5, h3.and2 h6 fun K hK hK2 => by simp only [stepC, hK, hK2]⟩
    | rt => exact ⟨_, S1, S1', h1, h2, h3.mono fun K hK => by simp only [stepC, hK]⟩
    | xt i => exact ⟨_, S1, S1', h1, h2, h3.mono fun K hK => by simp only [stepC, hK]⟩
  | .cd c a b, S, S', k, hs, hl, hk => by
    simp only [stepS] at hk
    have hla : LoopsOk T g a := fun p hp => hl p (List.mem_append_left _ hp)
    have hlb : LoopsOk T g b := fun p hp => hl p (List.mem_append_right _ hp)
    split at hk
    · rename_i t
      split at hk
      · rename_i p hp
        have hl2 : look .ud S'.tm t = .bl p := by have := hs.tm t; rw [hp] at this; exact this.1.symm
        rcases br_some hk with ⟨rfl, hk⟩ | ⟨rfl, hk⟩
        · obtain ⟨ex, S1, S1', h1, h2, h3⟩ := stepS_ok (S := { S with tm := refine S.tm [(t, .a (.bl true))] }) hg hr ⟨refine_ok hs.tm (RF.one hl2), hs.mm, hs.h, hs.nx, hs.bs⟩ hla hk
          exact ⟨ex, S1, S1', h1, h2, h3.mono fun K hK => by simp only [stepC, rd, hl2]; exact hK⟩
        · obtain ⟨ex, S1, S1', h1, h2, h3⟩ := stepS_ok (S := { S with tm := refine S.tm [(t, .a (.bl false))] }) hg hr ⟨refine_ok hs.tm (RF.one hl2), hs.mm, hs.h, hs.nx, hs.bs⟩ hlb hk
          exact ⟨ex, S1, S1', h1, h2, h3.mono fun K hK => by simp only [stepC, rd, hl2]; exact hK⟩
      · cases hk
    · rename_i p
      cases p
      · simp only [Bool.false_eq_true, if_false] at hk
        obtain ⟨ex, S1, S1', h1, h2, h3⟩ := stepS_ok hg hr hs hlb hk
        exact ⟨ex, S1, S1', h1, h2, h3.mono fun K hK => by simp only [stepC, rd]; exact hK⟩
      · simp only [if_true] at hk
        obtain ⟨ex, S1, S1', h1, h2, h3⟩ := stepS_ok hg hr hs hla hk
        exact ⟨ex, S1, S1', h1, h2, h3.mono fun K hK => by simp only [stepC, rd]; exact hK⟩
    · cases hk
  | .bk id b, S, S', k, hs, hl, hk => by
    simp only [stepS] at hk
    obtain ⟨ex, S1, S1', h1, h2, h3⟩ := stepS_ok (c := b) hg hr hs hl hk
    cases ex with
    | nm => exact ⟨_, S1, S1', h1, h2, h3.mono fun K hK => by simp only [stepC, hK]⟩
    | rt => exact ⟨_, S1, S1', h1, h2, h3.mono fun K hK => by simp only [stepC, hK]⟩
    | xt j =>
      simp only at h1
      split at h1
      · rename_i hj; exact ⟨_, S1, S1', h1, h2, h3.mono fun K hK => by simp only [stepC, hK]; rw [if_pos hj]⟩
      · rename_i hj; exact ⟨_, S1, S1', h1, h2, h3.mono fun K hK => by simp only [stepC, hK]; rw [if_neg hj]⟩
  | .lp live b, S, S', k, hs, hl, hk => by
    simp only [stepS] at hk
    split at hk
    · split at hk
      · rename_i hlive
        split at hk
        · rename_i L x hx
          obtain ⟨⟨j, hL⟩, hx⟩ := pickL_ok _ _ hx
          obtain ⟨hm, hlp⟩ := hl (live, b) (List.mem_cons_self ..) j L hL
          have hs2 := canon_ok' hs hlive (.inl hm)
          have hfx := matP_ok hx
          rw [← hfx] at hs2
          cases hy : L.L x with
          | none => simp [realN, hy] at hk
          | some y =>
            have hk2 : runOut L.os y (realN ρ).sm k = some r := by simpa [realN, hy] using hk
            obtain ⟨ex, S1, S1', h1, h2, h3⟩ := hlp x y hy _ hs2 ρ k r hk2
            exact ⟨ex, S1, S1', h1, h2, h3.mono fun K hK => hK S' rfl⟩
        · cases hk
      · cases hk
    · cases hk
  | .xt id, S, S', k, hs, hl, hk => ⟨_, S, S', hk, hs, .of fun K => rfl⟩
  | .rt, S, S', k, hs, hl, hk => ⟨_, S, S', hk, hs, .of fun K => rfl⟩
  | .no, S, S', k, hs, hl, hk => by simp [stepS] at hk
theorem evalS_ok (hg : TG T g) : ∀ n, Runs T g ρ (evalS (realN ρ) T n)
  | 0 => fun c S k r S' hk hs hl => by simp [evalS] at hk
  | n + 1 => fun c S k r S' hk hs hl => by
    simp only [evalS] at hk
    obtain ⟨ex, S1, S1', h1, h2, h3⟩ := stepS_ok hg (evalS_ok hg n) hs hl hk
    exact ⟨ex, S1, S1', h1, h2, h3.succ.mono fun K ⟨j, hj, hK⟩ => by subst hj; simp only [evalC]; exact hK⟩
end
end Go.Am
set_option linter.constructorNameAsVariable false
set_option linter.unusedVariables false
set_option linter.unusedSimpArgs false
namespace Go.Am

def iterF {X Y : Type} (st : X → Option (X ⊕ Y)) : Nat → X → Option Y
  | 0, _ => none
  | n + 1, x => match st x with
    | some (.inl x') => iterF st n x'
    | some (.inr y) => some y
    | none => none
open Classical in
noncomputable def loopF {X Y : Type} (st : X → Option (X ⊕ Y)) (x : X) : Option Y := if h : ∃ y, ∃ n, iterF st n x = some y then some (Classical.choose h) else none
section
variable {X Y : Type} {st : X → Option (X ⊕ Y)} {x : X} {y : Y}
theorem iterF_mono : ∀ {n m : Nat} {x : X}, iterF st n x = some y → n ≤ m → iterF st m x = some y
  | 0, _, x, h, _ => by cases h
  | n + 1, m, x, h, hm => by
    obtain ⟨m, rfl⟩ : ∃ j, m = j + 1 := ⟨m - 1, by omega⟩
    simp only [iterF] at h ⊢
    split at h
    · rename_i x' hx; exact iterF_mono h (by omega)
    · rename_i y' hx; exact h
    · cases h
theorem loopF_of {n : Nat} (h : iterF st n x = some y) : loopF st x = some y := by
  have hex : ∃ y, ∃ n, iterF st n x = some y := ⟨y, n, h⟩
  unfold loopF
  rw [dif_pos hex]
  obtain ⟨m, hm⟩ := Classical.choose_spec hex
  have h1 := iterF_mono h (Nat.le_max_left n m)
  have h2 := iterF_mono hm (Nat.le_max_right n m)
  rw [h1] at h2
  exact h2.symm
theorem loopF_inv (h : loopF st x = some y) : ∃ n, iterF st n x = some y := by
  unfold loopF at h
  split at h
  · rename_i hex
    injection h with h
    obtain ⟨m, hm⟩ := Classical.choose_spec hex
    exact ⟨m, by rw [hm, h]⟩
  · cases h
theorem loopF_eq : loopF st x = match st x with
    | some (.inl x') => loopF st x'
    | some (.inr y) => some y
    | none => none := by
  cases hs : st x with
  | none =>
    simp only
    cases hl : loopF st x with
    | none => rfl
    | some y =>
      obtain ⟨n, hn⟩ := loopF_inv hl
      cases n <;> simp [iterF, hs] at hn
  | some z =>
    cases z with
    | inr y => exact loopF_of (n := 1) (by simp [iterF, hs])
    | inl x' =>
      simp only
      cases hl : loopF st x' with
      | some y =>
        obtain ⟨n, hn⟩ := loopF_inv hl
        exact loopF_of (n := n + 1) (by simp [iterF, hs, hn])
      | none =>
        cases hl2 : loopF st x with
        | none => rfl
        | some y =>
          obtain ⟨n, hn⟩ := loopF_inv hl2
          cases n with
          | zero => simp [iterF] at hn
          | succ n =>
            simp only [iterF, hs] at hn
            rw [loopF_of hn] at hl
            cases hl
end

def rndF (T : Tbl) (n : Nat) (live : List Nat) (b : CC) (ps : List PS) (os : List (EX × PS)) (S : SS) : Option (SumP ps ⊕ SumE os) :=
  rndS (realN _) T n live b S fun ex S => match ex with
    | .nm => (matP ps S).map .inl
    | ex => (matE os ex S).map .inr

section
variable {g : Cfg} {T : Tbl}
theorem exEq_ok {a b : EX} (h : exEq a b = true) : a = b := by
  cases a <;> cases b <;> simp [exEq] at h <;> first | rfl | (subst h; rfl)
theorem restr_ok {p : PS} {S : SS} {S' : St} (hs : RS S S') (hp : hasS p = true) : RS (restr p S) S' := by
  refine ⟨fun t => ?_, hs.mm, hs.h, hs.nx, hs.bs⟩
  have main : ∀ l : List (Nat × PV), (l.any fun q => decide (q.1 = skey)) = true → RV (lookS (l.map fun q => (q.1, if q.1 = skey then SV.uk else lookS S.tm q.1)) t) (look .ud S'.tm t) := by
    intro l
    induction l with
    | nil => intro h; simp at h
    | cons q l ih =>
      intro h
      simp only [List.map_cons, lookS]
      by_cases hq : q.1 = t
      · rw [if_pos hq]
        by_cases hk : q.1 = skey
        · rw [if_pos hk]; trivial
        · rw [if_neg hk, hq]; exact hs.tm t
      · rw [if_neg hq]
        by_cases hk : q.1 = skey
        · rw [if_pos hk]; trivial
        · rw [if_neg hk]
          refine ih ?_
          simpa [hk] using h
  exact main p.tm hp
theorem matE_ok {ρ : Type} {k : KS ρ} : ∀ {l : List (EX × PS)} {ex : EX} {S : SS} {y : SumE l}, matE l ex S = some y → ∃ p, hasS p = true ∧ runOut l y (realN ρ).sm k = k ex (restr p S)
  | [], ex, S, y, h => by simp [matE] at h
  | [p], ex, S, y, h => by
    simp only [matE] at h
    split at h
    · rename_i he
      simp only [Bool.and_eq_true] at he
      refine ⟨p.2, he.2, ?_⟩
      simp only [runOut, matS_ok h, exEq_ok he.1]
    · cases h
  | p :: q :: l, ex, S, y, h => by
    simp only [matE] at h
    split at h
    · rename_i x hx
      split at hx
      · rename_i he
        simp only [Bool.and_eq_true] at he
        simp at h
        subst h
        refine ⟨p.2, he.2, ?_⟩
        simp only [runOut, realN, matS_ok hx, exEq_ok he.1]
      · cases hx
    · simp only [Option.map_eq_some_iff] at h
      obtain ⟨z, hz, rfl⟩ := h
      obtain ⟨p', h1, h2⟩ := matE_ok (k := k) hz
      exact ⟨p', h1, by simp only [runOut, realN]; exact h2⟩
theorem lp_ok (hg : TG T g) {n : Nat} {live : List Nat} {b : CC} {ps : List PS} {os : List (EX × PS)} {st : SumP ps → Option (SumP ps ⊕ SumE os)} (hm : mark0 ≤ markOf live) (hb : LoopsOk T g b)
    (hst : ∀ x, rndF T n live b ps os (fillP ps x) = st x) : LpOk g ⟨ps, os, loopF st⟩ live b := by
  refine ⟨hm, fun x y hxy => ?_⟩
  obtain ⟨j, hj⟩ := loopF_inv hxy
  clear hxy
  induction j generalizing x with
  | zero => simp [iterF] at hj
  | succ j ih =>
    intro S' hs ρ k r hk
    simp only [iterF] at hj
    cases hz : st x with
    | none => rw [hz] at hj; cases hj
    | some z =>
      have hr := hst x
      rw [hz] at hr
      unfold rndF rndS at hr
      obtain ⟨ex, S1, S1', h1, h2, h3⟩ := stepS_ok hg (evalS_ok hg n) hs hb hr
      cases ex with
      | nm =>
        simp only at h1
        split at h1
        · rename_i hl
          simp only [Option.map_eq_some_iff] at h1
          obtain ⟨x', hx', rfl⟩ := h1
          rw [hz] at hj
          have hs2 := canon_ok' h2 hl (.inl hm)
          rw [← matP_ok hx'] at hs2
          obtain ⟨ex, S2, S2', h4, h5, h6⟩ := ih x' hj _ hs2 ρ k r hk
          refine ⟨ex, S2, S2', h4, h5, (h3.and h6).succ.and h3 |>.mono fun K hK S'' hS => ?_⟩
          obtain ⟨⟨i, rfl, h7, h8⟩, h9⟩ := hK
          simp only [stepC, hS, h9]
          simp only [evalC]
          exact h8 S1' rfl
        · cases h1
      | rt =>
        simp only [Option.map_eq_some_iff] at h1
        obtain ⟨y', hy', rfl⟩ := h1
        rw [hz] at hj
        simp only [Option.some.injEq] at hj
        subst hj
        obtain ⟨p, h4, h5⟩ := matE_ok (k := k) hy'
        have hk' : runOut os y' (realN ρ).sm k = some r := hk
        rw [h5] at hk'
        exact ⟨_, _, S1', hk', restr_ok h2 h4, h3.mono fun K hK S'' hS => by simp only [stepC, hS, hK]⟩
      | xt i =>
        simp only [Option.map_eq_some_iff] at h1
        obtain ⟨y', hy', rfl⟩ := h1
        rw [hz] at hj
        simp only [Option.some.injEq] at hj
        subst hj
        obtain ⟨p, h4, h5⟩ := matE_ok (k := k) hy'
        have hk' : runOut os y' (realN ρ).sm k = some r := hk
        rw [h5] at hk'
        exact ⟨_, _, S1', hk', restr_ok h2 h4, h3.mono fun K hK S'' hS => by simp only [stepC, hS, hK]⟩
end
end Go.Am
set_option linter.constructorNameAsVariable false
set_option linter.unusedVariables false
set_option linter.unusedSimpArgs false
namespace Go.Am

theorem regroup_ok : ∀ {rs : List (Bool × Nat)} {cs : List SV} {ws : List AV}, shapeA ws = rs → All2 RC cs (ws.flatMap cellsW) → ∃ vs, regroup rs cs = some vs ∧ All2 RW vs ws
  | rs, cs, [], hs, h => by
    simp only [shapeA] at hs
    subst hs
    cases h
    exact ⟨[], rfl, .nil⟩
  | rs, cs, w :: ws, hs, h => by
    simp only [List.flatMap_cons] at h
    have hsplit : ∃ c1 c2, cs = c1 ++ c2 ∧ All2 RC c1 (cellsW w) ∧ All2 RC c2 (ws.flatMap cellsW) := by
      clear hs
      have aux : ∀ {l1 l2 : List AV} {cs : List SV}, All2 RC cs (l1 ++ l2) → ∃ c1 c2, cs = c1 ++ c2 ∧ All2 RC c1 l1 ∧ All2 RC c2 l2 := by
        intro l1
        induction l1 with
        | nil => intro l2 cs h; exact ⟨[], cs, rfl, .nil, h⟩
        | cons a l1 ih =>
          intro l2 cs h
          cases h with
          | cons h1 h2 =>
            obtain ⟨c1, c2, rfl, h3, h4⟩ := ih h2
            exact ⟨_ :: c1, c2, rfl, .cons h1 h3, h4⟩
      exact aux h
    obtain ⟨c1, c2, rfl, h1, h2⟩ := hsplit
    cases w with
    | ag us =>
      simp only [shapeA] at hs
      subst hs
      obtain ⟨vs, h3, h4⟩ := regroup_ok rfl h2
      have hl : c1.length = us.length := h1.length
      refine ⟨.ag c1 :: vs, ?_, .cons ⟨us, rfl, h1⟩ h4⟩
      simp only [regroup]
      rw [← hl, List.drop_left, List.take_left, h3]
      rfl
    | _ =>
      simp only [shapeA] at hs
      subst hs
      obtain ⟨vs, h3, h4⟩ := regroup_ok rfl h2
      obtain ⟨a, ha⟩ : ∃ a, c1 = [a] := by
        have := h1.length
        simp only [cellsW, List.length_singleton] at this
        cases c1 with
        | nil => simp at this
        | cons a l => cases l with
          | nil => exact ⟨a, rfl⟩
          | cons _ _ => simp at this
      subst ha
      cases h1 with
      | cons h5 _ =>
        refine ⟨a :: vs, ?_, .cons h5.toW h4⟩
        simp only [List.cons_append, List.nil_append, regroup, h3]
        rfl

def RO (own : Option Bool) (v : SV) (w : AV) : Prop := match own with
  | none => RC v w
  | some nl => (∃ s ts es, v = .ls s ts ∧ (nl = true → ts ≠ []) ∧ w = .ow s.sz es ∧ All2 (RE s) ts es) ∨ (nl = true ∧ (v = .a .ns ∨ v = .a .ez ∨ v = .nz) ∧ (w = .ns ∨ w = .ez))
def ROs (own : List (Nat × Bool)) : Nat → List SV → List AV → Prop
  | _, [], [] => True
  | i, v :: vs, w :: ws => RO (own.lookup i) v w ∧ ROs own (i + 1) vs ws
  | _, _, _ => False
def Nm (a b : SV) : Prop := a = b ∨ ((a = .a .ns ∨ a = .a .ez ∨ a = .nz) ∧ ∃ e, b = .ls e [])
theorem decS_nm : ∀ {s : Sh} {l : List SV} {x : Den s} {r : List SV}, decS s l = some (x, r) → ∃ l1, l = l1 ++ r ∧ All2 Nm l1 (encS s x)
  | .i k, l, x, r, h => by
    simp only [decS] at h
    split at h
    · simp only [Option.ite_none_right_eq_some, Option.some.injEq, Prod.mk.injEq] at h
      obtain ⟨rfl, rfl, rfl⟩ := h
      exact ⟨[_], rfl, .cons (.inl rfl) .nil⟩
    · cases h
  | .b, l, x, r, h => by
    simp only [decS] at h
    split at h
    · simp only [Option.some.injEq, Prod.mk.injEq] at h
      obtain ⟨rfl, rfl⟩ := h
      exact ⟨[_], rfl, .cons (.inl rfl) .nil⟩
    · cases h
  | .s, l, x, r, h => by
    simp only [decS] at h
    split at h
    · simp only [Option.some.injEq, Prod.mk.injEq] at h
      obtain ⟨rfl, rfl⟩ := h
      exact ⟨[_], rfl, .cons (.inl rfl) .nil⟩
    · cases h
  | .row e, l, x, r, h => by
    simp only [decS] at h
    split at h
    · split at h
      · rename_i he
        subst he
        simp only [Option.some.injEq, Prod.mk.injEq] at h
        obtain ⟨rfl, rfl⟩ := h
        exact ⟨[_], rfl, .cons (.inl rfl) .nil⟩
      · cases h
    · simp only [Option.some.injEq, Prod.mk.injEq] at h
      obtain ⟨rfl, rfl⟩ := h
      exact ⟨[_], rfl, .cons (.inr ⟨.inl rfl, _, rfl⟩) .nil⟩
    · simp only [Option.some.injEq, Prod.mk.injEq] at h
      obtain ⟨rfl, rfl⟩ := h
      exact ⟨[_], rfl, .cons (.inr ⟨.inr (.inl rfl), _, rfl⟩) .nil⟩
    · simp only [Option.some.injEq, Prod.mk.injEq] at h
      obtain ⟨rfl, rfl⟩ := h
      exact ⟨[_], rfl, .cons (.inr ⟨.inr (.inr rfl), _, rfl⟩) .nil⟩
    · cases h
  | .nil, l, x, r, h => by
    simp only [decS, Option.some.injEq, Prod.mk.injEq] at h
    obtain ⟨_, rfl⟩ := h
    exact ⟨[], rfl, .nil⟩
  | .cons a b, l, x, r, h => by
    simp only [decS, Option.bind_eq_some_iff, Option.some.injEq, Prod.mk.injEq] at h
    obtain ⟨⟨p1, p2⟩, hp, ⟨q1, q2⟩, hq, rfl, rfl⟩ := h
    obtain ⟨l1, rfl, h1⟩ := decS_nm hp
    obtain ⟨l2, h3, h2⟩ := decS_nm hq
    simp only at h3
    subst h3
    exact ⟨l1 ++ l2, by simp, h1.append h2⟩
theorem decAll_nm {s : Sh} {l : List SV} {x : Den s} (h : decAll s l = some x) : All2 Nm l (encS s x) := by
  unfold decAll at h
  simp only [Option.bind_eq_some_iff] at h
  obtain ⟨⟨p1, p2⟩, hp, h⟩ := h
  obtain ⟨l1, rfl, h1⟩ := decS_nm hp
  cases p2 with
  | cons _ _ => simp at h
  | nil => simp only [Option.some.injEq] at h; subst h; simpa using h1
section
variable {ρ : Type} {r : ρ}
theorem ite_some {ρ : Type} {r : ρ} {c : Prop} [Decidable c] {x : Option ρ} (h : (if c then none else x) = some r) : x = some r := by
  split at h
  · cases h
  · exact h
theorem mark_ok {pr own : List (Nat × Bool)} : ∀ {l es : List SV} {cs : List AV} {i : Nat} {k : List SV → Option ρ}, ROs own i l cs → All2 Nm l es → markCs (realN ρ) pr own es i k = some r → ∃ l2, All2 RC l2 cs ∧ k l2 = some r
  | [], es, cs, i, k, h, hn, hk => by
    cases hn
    cases cs with
    | nil => exact ⟨[], .nil, hk⟩
    | cons _ _ => exact h.elim
  | v :: vs, es, cs, i, k, h, hn, hk => by
    cases cs with
    | nil => exact h.elim
    | cons w ws =>
      obtain ⟨h1, h2⟩ := h
      cases hn with
      | @cons _ e _ es hn1 hn2 =>
        unfold markCs at hk
        cases hl : own.lookup i with
        | none =>
          rw [hl] at h1 hk
          obtain ⟨l2, h3, h4⟩ := mark_ok h2 hn2 hk
          refine ⟨_, .cons ?_ h3, h4⟩
          have h1 : RC v w := h1
          rcases hn1 with rfl | ⟨hv, e', rfl⟩
          · exact h1
          · rcases hv with rfl | rfl | rfl
            · exact .inr ⟨rfl, .inl h1.1.symm⟩
            · exact .inr ⟨rfl, .inr h1.1.symm⟩
            · exact .inr ⟨rfl, h1⟩
        | some nl =>
          rw [hl] at h1 hk
          simp only at hk
          rcases h1 with ⟨s, ts, es', rfl, hne, rfl, hr⟩ | ⟨rfl, hv, hw⟩
          · have he : e = .ls s ts := by
              rcases hn1 with h | ⟨h | h | h, _⟩
              · exact h.symm
              · cases h
              · cases h
              · cases h
            subst he
            simp only at hk
            cases nl
            · simp only [Bool.false_eq_true, if_false] at hk
              obtain ⟨l2, h3, h4⟩ := mark_ok h2 hn2 hk
              exact ⟨.ow s ts :: l2, .cons ⟨es', rfl, hr⟩ h3, h4⟩
            · simp only [if_true] at hk
              rcases br_some hk with ⟨h5, _⟩ | ⟨_, hk⟩
              · exact absurd (by simpa using h5) (hne rfl)
              · have hk := ite_some hk
                obtain ⟨l2, h3, h4⟩ := mark_ok h2 hn2 hk
                exact ⟨.ow s ts :: l2, .cons ⟨es', rfl, hr⟩ h3, h4⟩
          · rcases hn1 with h | ⟨_, e', rfl⟩
            · subst h; rcases hv with rfl | rfl | rfl <;> simp at hk
            · simp only [if_true] at hk
              rcases br_some hk with ⟨_, hk⟩ | ⟨h5, _⟩
              · have hk := ite_some hk
                obtain ⟨l2, h3, h4⟩ := mark_ok h2 hn2 hk
                exact ⟨.nz :: l2, .cons hw h3, h4⟩
              · simp at h5
theorem RR_of {c : Ctr} {l : List SV} {y : Den c.t} {ws : List AV} (hd : decAll c.t l = some y) (hr : ROs c.own 0 l (ws.flatMap cellsW)) (hs : shapeA ws = c.rs) : RR c y (pack ws) := fun ρ pr k r hk => by
  unfold putR at hk
  obtain ⟨l2, h1, h2⟩ := mark_ok hr (decAll_nm hd) hk
  obtain ⟨vs, h3, h4⟩ := regroup_ok hs h1
  rw [h3] at h2
  exact ⟨_, pack_okS h4, h2⟩

theorem lookup_contains {own : List (Nat × Bool)} (i : Nat) : (own.map (·.1)).contains i = (own.lookup i).isSome := by
  induction own with
  | nil => rfl
  | cons p l ih =>
    obtain ⟨a, b⟩ := p
    simp only [List.map_cons, List.contains_cons, List.lookup_cons, ih]
    cases h : i == a <;> simp
theorem handS_ok {own : List (Nat × Bool)} : ∀ {cs : List SV} {ws : List AV} (i : Nat), All2 RC cs ws → handS own cs i = handCs (own.map (·.1)) i ws
  | [], _, i, h => by cases h; rfl
  | c :: cs, _, i, h => by
    cases h with
    | @cons _ w _ ws h1 h2 =>
      simp only [handS, handCs, handS_ok (i + 1) h2, lookup_contains]
      congr 1
      cases hl : own.lookup i with
      | none => simp only [Option.isSome_none]; cases w <;> rfl
      | some nl =>
        simp only [Option.isSome_some]
        cases c with
        | a u => obtain ⟨rfl, _⟩ := h1; cases u <;> rfl
        | ls s ts => rcases h1 with ⟨es, rfl, _⟩ | ⟨_, rfl | rfl⟩ <;> rfl
        | ri s ts i off => obtain ⟨es, rfl, _⟩ := h1; rfl
        | ow s ts => obtain ⟨es, rfl, _⟩ := h1; rfl
        | nz => rcases h1 with rfl | rfl <;> rfl
        | _ => exact h1.elim
theorem handCs_app (own : List Nat) : ∀ (a b : List AV) (i : Nat), handCs own i (a ++ b) = handCs own i a ++ handCs own (i + a.length) b
  | [], b, i => rfl
  | x :: a, b, i => by
    simp only [List.cons_append, handCs, handCs_app own a b, List.append_assoc, List.length_cons]
    congr 3
    omega
theorem handVs_flat (own : List Nat) : ∀ (ws : List AV) (i : Nat), handVs own i ws = handCs own i (ws.flatMap cellsW)
  | [], i => rfl
  | w :: ws, i => by
    simp only [handVs, List.flatMap_cons, handCs_app, handVs_flat own ws]
    cases w with
    | ag cs => rfl
    | _ => simp [handV, handCs, cellsW, widthV]
variable {h hk0 : SHp} {h' hk' : List (Nat × BK)}
theorem outCS_ok (hh : RH h h') (hhk : RH hk0 hk') {own : Option Bool} {v : SV} {w : AV} {k : SV → Option ρ} (hv : RC v w) (hk : outCS (realN ρ) h hk0 own v k = some r) : ∃ v1 w1, outC h' hk' own.isSome w = some w1 ∧ RO own v1 w1 ∧ k v1 = some r := by
  cases own with
  | none =>
    simp only [outCS] at hk
    obtain ⟨v1, w1, h1, h2, h3⟩ := snapCS_snap hhk hv hk
    refine ⟨v1, w1, ?_, h2, h3⟩
    unfold outC
    cases w <;> first | exact h1 | skip
  | some nl =>
    simp only [outCS] at hk
    split at hk
    · rename_i sz b lo len
      obtain ⟨rfl, _⟩ := hv
      obtain ⟨v1, w1, h1, h2, h3⟩ := snapCS_ok hh (v := .a (.sl sz b lo len)) ⟨rfl, rfl⟩ hk
      split at h3
      · rename_i s ts
        have hw1 : ∃ es, w1 = .ls s.sz es ∧ All2 (RE s) ts es := by
          rcases h2 with h4 | ⟨_, h4 | h4⟩
          · exact h4
          · subst h4; simp only [snapC] at h1; split at h1 <;> first | (split at h1 <;> simp at h1; done) | (simp at h1; done)
          · subst h4; simp only [snapC] at h1; split at h1 <;> first | (split at h1 <;> simp at h1; done) | (simp at h1; done)
        obtain ⟨es, rfl, hr⟩ := hw1
        have hout : outC h' hk' true (.sl sz b lo len) = some (.ow s.sz es) := by
          unfold outC
          simp only [if_true, h1]
        cases nl
        · simp only [Bool.false_eq_true, if_false] at h3
          exact ⟨_, _, hout, .inl ⟨s, ts, es, rfl, (fun h => by cases h), rfl, hr⟩, h3⟩
        · simp only [if_true] at h3
          obtain ⟨h4, h3⟩ := br_on h3
          exact ⟨_, _, hout, .inl ⟨s, ts, es, rfl, (fun _ he => by subst he; simp at h4), rfl, hr⟩, h3⟩
      · cases h3
    · obtain ⟨rfl, _⟩ := hv
      split at hk
      · rename_i hnl
        exact ⟨_, .ns, rfl, .inr ⟨hnl, .inl rfl, .inl rfl⟩, hk⟩
      · cases hk
    · obtain ⟨rfl, _⟩ := hv
      split at hk
      · rename_i hnl
        exact ⟨_, .ez, rfl, .inr ⟨hnl, .inr (.inl rfl), .inr rfl⟩, hk⟩
      · cases hk
    · split at hk
      · rename_i hnl
        rcases hv with rfl | rfl
        · exact ⟨_, .ns, rfl, .inr ⟨hnl, .inr (.inr rfl), .inl rfl⟩, hk⟩
        · exact ⟨_, .ez, rfl, .inr ⟨hnl, .inr (.inr rfl), .inr rfl⟩, hk⟩
      · cases hk
    · cases hk
theorem outCsS_ok (hh : RH h h') (hhk : RH hk0 hk') {own : List (Nat × Bool)} : ∀ {cs : List SV} {ws : List AV} {i : Nat} {k : List SV → Option ρ}, All2 RC cs ws → outCsS (realN ρ) h hk0 own cs i k = some r →
    ∃ l l', outCs h' hk' (own.map (·.1)) i ws = some l' ∧ ROs own i l l' ∧ k l = some r
  | [], _, i, k, hc, hk => by cases hc; exact ⟨[], [], rfl, trivial, hk⟩
  | c :: cs, _, i, k, hc, hk => by
    cases hc with
    | cons h1 h2 =>
      unfold outCsS at hk
      obtain ⟨v1, w1, h3, h4, h5⟩ := outCS_ok hh hhk h1 hk
      obtain ⟨l, l', h6, h7, h8⟩ := outCsS_ok hh hhk h2 h5
      refine ⟨v1 :: l, w1 :: l', ?_, ⟨h4, h7⟩, h8⟩
      simp only [outCs, lookup_contains, h3, h6]
theorem outCs_app {own : List Nat} : ∀ {a b l : List AV} {i : Nat}, outCs h' hk' own i (a ++ b) = some l → ∃ l1 l2, l = l1 ++ l2 ∧ outCs h' hk' own i a = some l1 ∧ outCs h' hk' own (i + a.length) b = some l2 ∧ l1.length = a.length
  | [], b, l, i, h => ⟨[], l, rfl, rfl, h, rfl⟩
  | x :: a, b, l, i, h => by
    simp only [List.cons_append, outCs] at h
    split at h
    · rename_i u us hu hus
      simp at h
      subst h
      obtain ⟨l1, l2, rfl, h1, h2, h3⟩ := outCs_app hus
      refine ⟨u :: l1, l2, rfl, ?_, ?_, by simp [h3]⟩
      · simp only [outCs, hu, h1]
      · rw [List.length_cons, show i + (a.length + 1) = i + 1 + a.length from by omega]; exact h2
    · cases h
theorem outC_cell {b : Bool} {w w1 : AV} (h : outC h' hk' b w = some w1) : (∀ l, w1 ≠ .ag l) ∧ (∀ l, w1 ≠ .tp l) := outC_shape h
theorem outVs_flat {own : List Nat} : ∀ {ws : List AV} {l : List AV} {i : Nat}, (∀ w ∈ ws, ∀ x, w ≠ .tp x) → outCs h' hk' own i (ws.flatMap cellsW) = some l → ∃ ws', outVs h' hk' own i ws = some ws' ∧ ws'.flatMap cellsW = l ∧ shapeA ws' = shapeA ws
  | [], l, i, _, h => by simp only [List.flatMap_nil, outCs] at h; simp at h; subst h; exact ⟨[], rfl, rfl, rfl⟩
  | w :: ws, l, i, hn, h => by
    simp only [List.flatMap_cons] at h
    obtain ⟨l1, l2, rfl, h1, h2, h3⟩ := outCs_app h
    have hn2 : ∀ w ∈ ws, ∀ x, w ≠ .tp x := fun w hw => hn w (List.mem_cons_of_mem _ hw)
    cases w with
    | ag cs =>
      obtain ⟨ws', h4, h5, h6⟩ := outVs_flat hn2 h2
      refine ⟨.ag l1 :: ws', ?_, ?_, ?_⟩
      · simp only [cellsW] at h1
        have h4' : outVs h' hk' own (i + widthV (.ag cs)) ws = some ws' := h4
        simp only [outVs, outV, h1, h4', Option.map_some]
      · simp only [List.flatMap_cons, h5, cellsW]
      · simp only [shapeA, h6]
        have h3' : l1.length = cs.length := h3
        rw [h3']
    | tp x => exact absurd rfl (hn (.tp x) (List.mem_cons_self ..) x)
    | _ =>
      obtain ⟨ws', h4, h5, h6⟩ := outVs_flat hn2 h2
      simp only [cellsW, outCs] at h1
      split at h1
      · rename_i u us hu hus
        simp at hus h1
        subst hus h1
        have hsh := outC_cell hu
        refine ⟨u :: ws', ?_, ?_, ?_⟩
        · simp only [cellsW, List.length_singleton] at h4
          simp only [outVs, outV, hu, widthV, h4]
        · simp only [List.flatMap_cons, h5]
          congr 1
          cases u <;> first | rfl | exact absurd rfl (hsh.1 _)
        · have e1 : shapeA (u :: ws') = (false, 1) :: shapeA ws' := by cases u <;> first | rfl | exact absurd rfl (hsh.1 _)
          rw [e1, h6]
          rfl
      · cases h1
end

def CtrOk (P : Program) (f : FuncId) (c : Ctr) : Prop := ∀ (as : List AV) x y, shapeA as = c.as → RE c.s x (as.flatMap cellsW) → c.F x = some y → Ent P f ∧ ∃ w, PureOk P f as w ∧ RR c y w
open Classical in
noncomputable def extT (P : Program) (ct : FuncId → Option Ctr) (f : FuncId) (as : List AV) : Option AV := match ct f with
  | some c => if h : ∃ w, Ent P f ∧ PureOk P f as w ∧ ∃ x y, shapeA as = c.as ∧ RE c.s x (as.flatMap cellsW) ∧ c.F x = some y ∧ RR c y w then some (Classical.choose h) else none
  | none => none
def WrOk (P : Program) (f : FuncId) (as : List AV) (h : List (Nat × BK)) (nx : Nat) (e : Ef) : Prop :=
  ∀ (I : Nat → Prop) (M : MU) (w : World) (vals : Array Value), SimH I M h nx w → All2 (RpV I M w) as vals.toList →
    Ent P f ∧ ∀ R : Ending → World → Prop, (∀ v I' M' w', Did I M nx w e false v I' M' w' → R (.returned v) w') → Calls P f vals w R
structure StOk (P : Program) (f : FuncId) (w : Wrt) : Prop where
  row : ∀ (h : List (Nat × BK)) nx b t ts es ts', blk h b = .rw false w.s.sz es t → All2 (RE w.s) ts es → w.F ts = some ts' →
    ∃ es', All2 (RE w.s) ts' es' ∧ WrOk P f [.sl w.s.sz b 0 es.length, .fn w.c []] h nx ⟨.tp [], put h b (.rw false w.s.sz es' t), nx⟩
  nor : w.g = none → ∀ (h : List (Nat × BK)) nx, WrOk P f [.ns, .fn w.c []] h nx ⟨.tp [], h, nx⟩
  key : ∀ f', w.g = some f' → ∀ (h : List (Nat × BK)) nx nb b t es ks, blk h nb = .rw true 1 [[.mp b]] t → blk h b = .mp es → All2 (fun (k : ByteArray) (q : AV × AV) => q.1 = .st k) ks es → fewK ks = true →
    WrOk P f [.fn f' [.re 1 nb 0 0]] h nx ⟨rowK (sortK ks), h, nx⟩
def WSpec (P : Program) (f : FuncId) (w : Wrt) (as : List AV) (h : List (Nat × BK)) (nx : Nat) (e : Ef) : Prop :=
  WrOk P f as h nx e ∧ ((∃ b t ts es ts' es', as = [.sl w.s.sz b 0 es.length, .fn w.c []] ∧ blk h b = .rw false w.s.sz es t ∧ All2 (RE w.s) ts es ∧ w.F ts = some ts' ∧ All2 (RE w.s) ts' es' ∧ e = ⟨.tp [], put h b (.rw false w.s.sz es' t), nx⟩) ∨
    (as = [.ns, .fn w.c []] ∧ e = ⟨.tp [], h, nx⟩) ∨
    (∃ f' nb b t es ks, w.g = some f' ∧ as = [.fn f' [.re 1 nb 0 0]] ∧ blk h nb = .rw true 1 [[.mp b]] t ∧ blk h b = .mp es ∧ All2 (fun (k : ByteArray) (q : AV × AV) => q.1 = .st k) ks es ∧ e = ⟨rowK (sortK ks), h, nx⟩))
open Classical in
noncomputable def wrT (P : Program) (st : FuncId → Option Wrt) (f : FuncId) (as : List AV) (h : List (Nat × BK)) (nx : Nat) : Option Ef := match st f with
  | some w => if h : ∃ e, WSpec P f w as h nx e then some (Classical.choose h) else none
  | none => none
theorem REs_inj {s : Sh} : ∀ {ts ts' : List (Den s)} {es : List (List AV)}, All2 (RE s) ts es → All2 (RE s) ts' es → ts = ts'
  | _, _, [], h1, h2 => by cases h1; cases h2; rfl
  | _, _, e :: es, h1, h2 => by
    cases h1 with
    | cons a1 a2 => cases h2 with
      | cons b1 b2 => rw [RE_inj a1 b1, REs_inj a2 b2]
theorem wrT_row {P : Program} {st : FuncId → Option Wrt} {f : FuncId} {w : Wrt} (hf : st f = some w) (hw : StOk P f w) (h : List (Nat × BK)) (nx b : Nat) (t : TypeId) (ts : List (Den w.s)) (es : List (List AV)) (ts' : List (Den w.s))
    (h1 : blk h b = .rw false w.s.sz es t) (h2 : All2 (RE w.s) ts es) (h3 : w.F ts = some ts') : ∃ es', All2 (RE w.s) ts' es' ∧ wrT P st f [.sl w.s.sz b 0 es.length, .fn w.c []] h nx = some ⟨.tp [], put h b (.rw false w.s.sz es' t), nx⟩ := by
  obtain ⟨es', h4, h5⟩ := hw.row h nx b t ts es ts' h1 h2 h3
  have hex : ∃ e, WSpec P f w [.sl w.s.sz b 0 es.length, .fn w.c []] h nx e := ⟨_, h5, .inl ⟨b, t, ts, es, ts', es', rfl, h1, h2, h3, h4, rfl⟩⟩
  unfold wrT
  rw [hf]
  simp only
  rw [dif_pos hex]
  obtain ⟨_, h6⟩ := Classical.choose_spec hex
  rcases h6 with ⟨b2, t2, ts2, es2, ts2', es2', e1, e2, e3, e4, e5, e6⟩ | ⟨e1, _⟩ | ⟨_, _, _, _, _, _, _, e1, _⟩
  · simp only [List.cons.injEq, AV.sl.injEq, true_and, and_true] at e1
    obtain ⟨rfl, -⟩ := e1
    rw [h1] at e2
    simp only [BK.rw.injEq, true_and] at e2
    obtain ⟨rfl, rfl⟩ := e2
    have := REs_inj h2 e3
    subst this
    rw [h3] at e4
    injection e4 with e4
    subst e4
    exact ⟨es2', e5, congrArg some e6⟩
  · simp at e1
  · simp at e1
theorem wrT_nor {P : Program} {st : FuncId → Option Wrt} {f : FuncId} {w : Wrt} (hf : st f = some w) (hw : StOk P f w) (hgn : w.g = none) (h : List (Nat × BK)) (nx : Nat) : wrT P st f [.ns, .fn w.c []] h nx = some ⟨.tp [], h, nx⟩ := by
  have hex : ∃ e, WSpec P f w [.ns, .fn w.c []] h nx e := ⟨_, hw.nor hgn h nx, .inr (.inl ⟨rfl, rfl⟩)⟩
  unfold wrT
  rw [hf]
  simp only
  rw [dif_pos hex]
  obtain ⟨_, h6⟩ := Classical.choose_spec hex
  rcases h6 with ⟨b2, t2, ts2, es2, ts2', es2', e1, _⟩ | ⟨_, e1⟩ | ⟨_, _, _, _, _, _, _, e1, _⟩
  · simp at e1
  · exact congrArg some e1
  · simp at e1
theorem ks_inj : ∀ {ks ks' : List ByteArray} {es : List (AV × AV)}, All2 (fun (k : ByteArray) (q : AV × AV) => q.1 = .st k) ks es → All2 (fun (k : ByteArray) (q : AV × AV) => q.1 = .st k) ks' es → ks = ks'
  | _, _, [], h1, h2 => by cases h1; cases h2; rfl
  | _, _, e :: es, h1, h2 => by
    cases h1 with
    | cons a1 a2 => cases h2 with
      | cons b1 b2 =>
        rw [a1] at b1
        injection b1 with b1
        rw [b1, ks_inj a2 b2]
theorem wrT_key {P : Program} {st : FuncId → Option Wrt} {f f' : FuncId} {w : Wrt} (hf : st f = some w) (hw : StOk P f w) (hgs : w.g = some f') (h : List (Nat × BK)) (nx nb b : Nat) (t : TypeId) (es : List (AV × AV)) (ks : List ByteArray)
    (h1 : blk h nb = .rw true 1 [[.mp b]] t) (h2 : blk h b = .mp es) (h3 : All2 (fun (k : ByteArray) (q : AV × AV) => q.1 = .st k) ks es) (h4 : fewK ks = true) : wrT P st f [.fn f' [.re 1 nb 0 0]] h nx = some ⟨rowK (sortK ks), h, nx⟩ := by
  have hex : ∃ e, WSpec P f w [.fn f' [.re 1 nb 0 0]] h nx e := ⟨_, hw.key f' hgs h nx nb b t es ks h1 h2 h3 h4, .inr (.inr ⟨f', nb, b, t, es, ks, hgs, rfl, h1, h2, h3, rfl⟩)⟩
  unfold wrT
  rw [hf]
  simp only
  rw [dif_pos hex]
  obtain ⟨_, h6⟩ := Classical.choose_spec hex
  rcases h6 with ⟨b2, t2, ts2, es2, ts2', es2', e1, _⟩ | ⟨e1, _⟩ | ⟨f2, nb2, b2, t2, es2, ks2, _, e1, e2, e3, e4, e5⟩
  · simp at e1
  · simp at e1
  · simp only [List.cons.injEq, AV.fn.injEq, AV.re.injEq, and_true, true_and] at e1
    obtain ⟨rfl, rfl⟩ := e1
    rw [h1] at e2
    simp only [BK.rw.injEq, List.cons.injEq, AV.mp.injEq, and_true, true_and] at e2
    obtain ⟨rfl, rfl⟩ := e2
    rw [h2] at e3
    injection e3 with e3
    subst e3
    rw [ks_inj h3 e4]
    exact congrArg some e5
noncomputable def cfgT (P : Program) (code : FuncId → Option CF) (ct : FuncId → Option Ctr) (st : FuncId → Option Wrt) (own : List Nat) (kl pf : List FuncId) : Cfg := { code := code, own := fun _ => own, inl := fun f => (ct f).isNone && !pf.contains f, ext := extT P ct, kl := fun f => kl.contains f, wr := wrT P st }
theorem extT_ok {P : Program} {ct : FuncId → Option Ctr} (hc : ∀ f c, ct f = some c → CtrOk P f c) {f : FuncId} {c : Ctr} {as : List AV} {x : Den c.s} {y : Den c.t} (h1 : ct f = some c) (h2 : shapeA as = c.as) (h3 : RE c.s x (as.flatMap cellsW)) (h4 : c.F x = some y) :
    ∃ w, extT P ct f as = some w ∧ RR c y w := by
  obtain ⟨he, w, hw, hr⟩ := hc f c h1 as x y h2 h3 h4
  have hex : ∃ w, Ent P f ∧ PureOk P f as w ∧ ∃ x y, shapeA as = c.as ∧ RE c.s x (as.flatMap cellsW) ∧ c.F x = some y ∧ RR c y w := ⟨w, he, hw, x, y, h2, h3, h4, hr⟩
  unfold extT
  rw [h1]
  simp only
  rw [dif_pos hex]
  obtain ⟨_, _, x', y', _, h5, h6, h7⟩ := Classical.choose_spec hex
  refine ⟨_, rfl, ?_⟩
  have hx := RE_inj h3 h5
  subst hx
  rw [h4] at h6
  injection h6 with h6
  subst h6
  exact h7
theorem cfgT_ok {P : Program} {code : FuncId → Option CF} {ct : FuncId → Option Ctr} {st : FuncId → Option Wrt} {own : List Nat} {kl pf : List FuncId} (ht : ∀ f c, code f = some c → ∃ fn live, P.funcs[f]? = some fn ∧ compF P live fn = some c) : CfgOk P (cfgT P code ct st own kl pf) :=
  ⟨ht, fun f as r h => by
    have h : extT P ct f as = some r := h
    unfold extT at h
    split at h
    · split at h
      · rename_i hex
        injection h with h
        subst h
        obtain ⟨h1, h2, _⟩ := Classical.choose_spec hex
        exact ⟨h1, h2⟩
      · cases h
    · (cases h), fun f as h nx e he => by
    have he : wrT P st f as h nx = some e := he
    unfold wrT at he
    split at he
    · split at he
      · rename_i hex
        injection he with he
        subst he
        exact (Classical.choose_spec hex).1
      · cases he
    · cases he⟩
theorem tg_of {P : Program} {T : Tbl} {own : List Nat} (hc : ∀ f c, T.ct f = some c → CtrOk P f c) (hst : ∀ f w, T.st f = some w → StOk P f w) (hl : ∀ f c, T.code f = some c → LoopsOk T (cfgT P T.code T.ct T.st own T.hint.kl T.hint.pf) c.code) : TG T (cfgT P T.code T.ct T.st own T.hint.kl T.hint.pf) where
  inl := fun f => rfl
  noe := fun f as h => by show extT P T.ct f as = none; unfold extT; rw [h]
  code := fun f c h => h
  kl := fun f => rfl
  ext := fun f c as x y h1 h2 h3 h4 => extT_ok hc h1 h2 h3 h4
  lps := hl
  noc := fun f h => h
  row := fun f w h => wrT_row h (hst f w h)
  nor := fun f w h => wrT_nor h (hst f w h)
  key := fun f w f' h1 h2 h nx nb b t es ks a1 a2 a3 a4 => wrT_key h1 (hst f w h1) h2 h nx nb b t es ks a1 a2 a3 a4
theorem fun_ok {P : Program} {T : Tbl} {n : Nat} {f : FuncId} {cf : CF} {c : Ctr} (hm : P.follows .mixedOrders = true) (ht : ∀ f c, T.code f = some c → ∃ fn live, P.funcs[f]? = some fn ∧ compF P live fn = some c)
    (hg : TG T (cfgT P T.code T.ct T.st (c.own.map (·.1)) T.hint.kl T.hint.pf)) (hcode : T.code f = some cf) (hct : T.ct f = none)
    (hf : ∀ x, funS realN T n cf c.s c.t c.as x c.own c.rs = c.F x) : CtrOk P f c := by
  intro as x y h1 h2 h3
  have hk := hf x
  rw [h3] at hk
  unfold funS at hk
  split at hk
  · cases hk
  · rename_i hn
    obtain ⟨vs, h4, h5⟩ := regroup_ok h1 (encS_ok h2)
    rw [h4] at hk
    have hla : as.length = c.as.length := by
      rw [← h1]
      have aux : ∀ l : List AV, l.length = (shapeA l).length := by
        intro l
        induction l with
        | nil => rfl
        | cons w l ih => cases w <;> simp [shapeA, ih]
      exact aux as
    have hn1 : ¬ cf.np < as.length := by rw [hla]; exact fun h => hn (.inl h)
    have hn2 : as.length ≤ mark0 := by rw [hla]; exact Nat.not_lt.1 fun h => hn (.inr h)
    have hs : RS { tm := entryS ((some vs).getD []), h := [], nx := 0, bs := 0 } { tm := entry as, h := [], nx := 0, bs := 0 } :=
      ⟨fun t => entryS_ok (h5.mono fun _ _ h => h.toV) 0 t, fun t ht => entry_big as 0 t (by omega), .nil, rfl, rfl⟩
    obtain ⟨ex, S1, S1', h6, h7, h8⟩ := evalS_ok hg n _ _ _ _ _ hk hs (hg.lps f cf hcode)
    have hfin : (ex = .nm ∨ ex = .rt) ∧ (resultsS (realN (Den c.t)) S1 cf.res fun vs =>
      if shapeR vs = c.rs ∧ nodupB (handS c.own (vs.flatMap cellsV) 0) then
        outCsS (realN (Den c.t)) S1.h (killS S1.h (handS c.own (vs.flatMap cellsV) 0)) c.own (vs.flatMap cellsV) 0 fun l => decAll c.t l
      else none) = some y := by
      cases ex with
      | nm => exact ⟨.inl rfl, h6⟩
      | rt => exact ⟨.inr rfl, h6⟩
      | xt i => cases h6
    obtain ⟨us, ws, h9, h10, h11⟩ := resultsS_ok h7 hfin.2
    split at h11
    · rename_i hc2
      have hcells : All2 RC (us.flatMap cellsV) (ws.flatMap cellsW) := h10.flat fun a b hab => cellsW_ok hab
      have hhand : handS c.own (us.flatMap cellsV) 0 = handVs (c.own.map (·.1)) 0 ws := by rw [handVs_flat]; exact handS_ok 0 hcells
      rw [hhand] at h11 hc2
      obtain ⟨l, l', h12, h13, h14⟩ := outCsS_ok h7.h (RH_kill h7.h _) hcells h11
      obtain ⟨ws', h15, h16, h17⟩ := outVs_flat (fun w hw => by
        have aux : ∀ {us : List SV} {ws : List AV}, All2 RW us ws → ∀ w ∈ ws, ∀ x, w ≠ .tp x := by
          intro us ws h
          induction h with
          | nil => intro w hw; cases hw
          | cons h1 _ ih =>
            intro w hw
            rcases List.mem_cons.1 hw with rfl | hw
            · exact RW_notp h1
            · exact ih w hw
        exact aux h10 w hw) h12
      have hrr : RR c y (pack ws') := RR_of h14 (by rw [h16]; exact h13) (by rw [h17, ← shape_ok h10]; exact hc2.1)
      obtain ⟨m, hm8⟩ := h8
      have hev : evalP (cfgT P T.code T.ct T.st (c.own.map (·.1)) T.hint.kl T.hint.pf) m f as = some (pack ws') := by
        unfold evalP callP
        have he : (cfgT P T.code T.ct T.st (c.own.map (·.1)) T.hint.kl T.hint.pf).ext f as = none := by
          show extT P T.ct f as = none
          unfold extT
          rw [hct]
        have hco : (cfgT P T.code T.ct T.st (c.own.map (·.1)) T.hint.kl T.hint.pf).code f = some cf := hcode
        have how : (cfgT P T.code T.ct T.st (c.own.map (·.1)) T.hint.kl T.hint.pf).own f = c.own.map (·.1) := rfl
        rw [he, hco]
        simp only
        rw [if_neg hn1, hm8 m (Nat.le_refl _), how]
        rcases hfin.1 with rfl | rfl
        · simp only [h9]
          rw [if_pos hc2.2, h15]
          rfl
        · simp only [h9]
          rw [if_pos hc2.2, h15]
          rfl
      obtain ⟨h18, h19⟩ := evalP_both hm (cfgT_ok ht) hev
      exact ⟨h18, _, h19, hrr⟩
    · cases h11
end Go.Am
set_option linter.constructorNameAsVariable false
set_option linter.unusedVariables false
set_option linter.unusedSimpArgs false
namespace Go.Am

theorem look_find {α : Type} : ∀ (l : List (Nat × CF)) (n : Nat), look? l n = find l n
  | [], _ => rfl
  | (k, c) :: l, n => by
    simp only [look?, find]
    split
    · rfl
    · exact look_find (α := α) l n
def allL (tb : List (Nat × CF)) : List (List Nat × CC) := tb.flatMap fun q => loopsIn q.2.code
def LpsOk (g : Cfg) (all : List (List Nat × CC)) : List (Nat × Lps) → Prop
  | [] => True
  | (m, L) :: l => (∃ live b, all.filter (fun p => markOf p.1 % varK == m % varK) = [(live, b)] ∧ LpOk g L live b) ∧ LpsOk g all l
def CtsOk (P : Program) : List (Nat × Ctr) → Prop
  | [] => True
  | (f, c) :: l => CtrOk P f c ∧ CtsOk P l
theorem cts_find {P : Program} : ∀ {l : List (Nat × Ctr)} {f : Nat} {c : Ctr}, CtsOk P l → look? l f = some c → CtrOk P f c
  | [], _, _, _, h => by simp [look?] at h
  | (k, c0) :: l, f, c, hc, h => by
    simp only [look?] at h
    split at h
    · rename_i hk; subst hk; injection h with h; subst h; exact hc.1
    · exact cts_find hc.2 h
def WtsOk (P : Program) : List (Nat × Wrt) → Prop
  | [] => True
  | (f, c) :: l => StOk P f c ∧ WtsOk P l
def wts0 : List (Nat × Wrt) := []
theorem wts0_ok {P : Program} : WtsOk P wts0 := trivial
theorem wts_find {P : Program} : ∀ {l : List (Nat × Wrt)} {f : Nat} {c : Wrt}, WtsOk P l → look? l f = some c → StOk P f c
  | [], _, _, _, h => by simp [look?] at h
  | (k, c0) :: l, f, c, hc, h => by
    simp only [look?] at h
    split at h
    · rename_i hk; subst hk; injection h with h; subst h; exact hc.1
    · exact wts_find hc.2 h
theorem lps_find {g : Cfg} {all : List (List Nat × CC)} : ∀ {l : List (Nat × Lps)} {m : Nat} {L : Lps}, LpsOk g all l → look? l m = some L → ∃ live b, all.filter (fun p => markOf p.1 % varK == m % varK) = [(live, b)] ∧ LpOk g L live b
  | [], _, _, _, h => by simp [look?] at h
  | (k, c0) :: l, f, c, hc, h => by
    simp only [look?] at h
    split at h
    · rename_i hk; subst hk; injection h with h; subst h; exact hc.1
    · exact lps_find hc.2 h
theorem look_mem' {tb : List (Nat × CF)} {f : Nat} {c : CF} (h : look? tb f = some c) : (f, c) ∈ tb := by
  induction tb with
  | nil => simp [look?] at h
  | cons p l ih =>
    obtain ⟨k, c0⟩ := p
    simp only [look?] at h
    split at h
    · rename_i hk; subst hk; injection h with h; subst h; exact List.mem_cons_self ..
    · exact List.mem_cons_of_mem _ (ih h)
theorem loopsIn_sub : ∀ {c : CC} {live : List Nat} {b : CC}, (live, b) ∈ loopsIn c → ∀ p ∈ loopsIn b, p ∈ loopsIn c
  | .sq a d, live, b, h, p, hp => by
    simp only [loopsIn, List.mem_append] at h ⊢
    rcases h with h | h
    · exact .inl (loopsIn_sub h p hp)
    · exact .inr (loopsIn_sub h p hp)
  | .cd _ a d, live, b, h, p, hp => by
    simp only [loopsIn, List.mem_append] at h ⊢
    rcases h with h | h
    · exact .inl (loopsIn_sub h p hp)
    · exact .inr (loopsIn_sub h p hp)
  | .bk _ d, live, b, h, p, hp => by
    simp only [loopsIn] at h ⊢
    exact loopsIn_sub h p hp
  | .lp l d, live, b, h, p, hp => by
    simp only [loopsIn, List.mem_cons] at h ⊢
    rcases h with h | h
    · injection h with h1 h2; subst h2; exact .inr hp
    · exact .inr (loopsIn_sub h p hp)
  | .sk, _, _, h, _, _ => by simp [loopsIn] at h
  | .rg _, _, _, h, _, _ => by simp [loopsIn] at h
  | .rd _, _, _, h, _, _ => by simp [loopsIn] at h
  | .xt _, _, _, h, _, _ => by simp [loopsIn] at h
  | .rt, _, _, h, _, _ => by simp [loopsIn] at h
  | .no, _, _, h, _, _ => by simp [loopsIn] at h
theorem in_all {g : Cfg} {T : Tbl} {tb : List (Nat × CF)} {lps : List (Nat × Lps)} (hlp : LpsOk g (allL tb) lps) (ht : T.lp = look? lps) {c : CC} (hc : ∀ p ∈ loopsIn c, p ∈ allL tb) : LoopsOk T g c := fun p hp j L hL => by
  rw [ht] at hL
  obtain ⟨live, b, h1, h2⟩ := lps_find hlp hL
  have : p ∈ (allL tb).filter (fun q => markOf q.1 % varK == (markOf p.1 + j * varK) % varK) := List.mem_filter.2 ⟨hc p hp, by rw [Nat.add_mul_mod_self_right]; simp⟩
  rw [h1, List.mem_singleton] at this
  subst this
  exact h2
section
variable {P : Program} {tb : List (Nat × CF)} {H : Hint} {ct : List (Nat × Ctr)} {wt : List (Nat × Wrt)} {own : List Nat} {lps : List (Nat × Lps)}
theorem tg_of' (hct : CtsOk P ct) (hwt : WtsOk P wt) (hlp : LpsOk (cfgT P (look? tb) (look? ct) (look? wt) own H.kl H.pf) (allL tb) lps) : TG ⟨look? tb, H, look? ct, look? lps, look? wt⟩ (cfgT P (look? tb) (look? ct) (look? wt) own H.kl H.pf) :=
  tg_of (fun f c h => cts_find hct h) (fun f w h => wts_find hwt h) fun f c h => in_all hlp rfl fun p hp => List.mem_flatMap.2 ⟨_, look_mem' h, hp⟩
theorem addLoop (hct : CtsOk P ct) (hwt : WtsOk P wt) (hlp : LpsOk (cfgT P (look? tb) (look? ct) (look? wt) own H.kl H.pf) (allL tb) lps) {m n : Nat} {live : List Nat} {b : CC} {ps : List PS} {os : List (EX × PS)} {st : SumP ps → Option (SumP ps ⊕ SumE os)}
    (hm : decide (mark0 ≤ markOf live) = true) (hu : (allL tb).filter (fun p => markOf p.1 % varK == m % varK) = [(live, b)]) (hr : ∀ x, rndF ⟨look? tb, H, look? ct, look? lps, look? wt⟩ n live b ps os (fillP ps x) = st x) :
    LpsOk (cfgT P (look? tb) (look? ct) (look? wt) own H.kl H.pf) (allL tb) ((m, ⟨ps, os, loopF st⟩) :: lps) := by
  have hin : (live, b) ∈ allL tb := by
    have : (live, b) ∈ (allL tb).filter (fun p => markOf p.1 % varK == m % varK) := by rw [hu]; exact List.mem_singleton.2 rfl
    exact (List.mem_filter.1 this).1
  have hsub : ∀ p ∈ loopsIn b, p ∈ allL tb := fun p hp => by
    obtain ⟨q, hq, h⟩ := List.mem_flatMap.1 hin
    exact List.mem_flatMap.2 ⟨q, hq, loopsIn_sub h p hp⟩
  exact ⟨⟨live, b, hu, lp_ok (tg_of' hct hwt hlp) (of_decide_eq_true hm) (in_all hlp rfl hsub) hr⟩, hlp⟩
theorem addFun (hm : P.follows .mixedOrders = true) (ht : Tied P tb) (hct : CtsOk P ct) (hwt : WtsOk P wt) {f n : Nat} {cf : CF} {c : Ctr} (hlp : LpsOk (cfgT P (look? tb) (look? ct) (look? wt) (c.own.map (·.1)) H.kl H.pf) (allL tb) lps) (hcode : look? tb f = some cf) (hn : look? ct f = none)
    (hf : ∀ x, funS realN ⟨look? tb, H, look? ct, look? lps, look? wt⟩ n cf c.s c.t c.as x c.own c.rs = c.F x) : CtrOk P f c :=
  fun_ok (T := ⟨look? tb, H, look? ct, look? lps, look? wt⟩) hm (fun f c h => tied_find ht (by rw [← look_find (α := Unit)]; exact h)) (tg_of' hct hwt hlp) hcode hn hf
end
end Go.Am
set_option linter.unusedSimpArgs false
set_option linter.unusedVariables false
namespace Go.Am

def TyF (T : TypeId → List AV → Prop) : List Field → List AV → Prop
  | [], cs => cs = []
  | f :: fs, cs => ∃ a b, cs = a ++ b ∧ T f.type a ∧ TyF T fs b
def Ty (P : Program) : Nat → TypeId → List AV → Prop
  | 0, _, _ => False
  | n + 1, t, cs => match P.underlying t with
    | some .bool => ∃ b, cs = [.bl b]
    | some (.int k) => ∃ m, cs = [.int k m] ∧ (Lit.int k m).wf = true
    | some .string => ∃ s, cs = [.st s] ∧ s.size ≤ maxLen
    | some (.slice e) => cs = [.ns] ∨ ∃ es, cs = [.ls (P.cellsOf e) es] ∧ es.length ≤ maxLen ∧ ∀ x ∈ es, x.length = P.cellsOf e ∧ Ty P n e x
    | some (.struct fs) => TyF (Ty P n) fs.toList cs
    | _ => False
def tiles (P : Program) : List Field → Nat → Nat → Bool
  | [], off, n => off == n
  | f :: fs, off, n => f.offset == off && tiles P fs (off + P.cellsOf f.type) n
def PlainT (P : Program) : Nat → TypeId → Bool
  | 0, _ => false
  | n + 1, t => match P.underlying t with
    | some .bool | some (.int _) | some .string => true
    | some (.slice e) => decide (0 < P.cellsOf e) && PlainT P n e
    | some (.struct fs) => tiles P fs.toList 0 (P.cellsOf t) && fs.toList.all fun f => PlainT P n f.type
    | _ => false

def AllI (w : World) : Nat → Prop := fun b => b < w.heap.size

theorem mapM_opt {α β : Type} {f : α → Option β} : ∀ {l : List α} {r : List β}, l.mapM f = some r → All2 (fun a b => f a = some b) l r
  | [], r, h => by simp at h; subst h; exact .nil
  | a :: l, r, h => by
    simp only [List.mapM_cons, Option.bind_eq_bind, Option.bind_eq_some_iff] at h
    obtain ⟨b, hb, l', hl, h⟩ := h
    simp only [Option.pure_def, Option.some.injEq] at h
    subst h
    exact .cons hb (mapM_opt hl)
theorem All2.range {β : Type} {R : Nat → β → Prop} : ∀ {n : Nat} {r : List β}, All2 R (List.range n) r → r.length = n ∧ ∀ i (b : β), r[i]? = some b → R i b := by
  intro n r h
  refine ⟨by simpa using h.length.symm, fun i b hb => ?_⟩
  have hl : i < n := by
    have := (List.getElem?_eq_some_iff.1 hb).1
    have h2 := h.length
    simp at h2; omega
  obtain ⟨c, hc, hr⟩ := h.get i i (by simp [hl])
  rw [hb] at hc; injection hc with hc; subst hc; exact hr

section
variable {H : Type} {enc : TypeId × Value → H} {P : Program} {w : World} {base : Nat} {spare : Nat → Bool} {held : Bool}

theorem cells_get {a : Addr} {n : Nat} {us : List Value} (h : w.cells? base a n = some us) : us.length = n ∧ ∀ j (u : Value), us[j]? = some u → w.cell? (a.add j) = some u := by
  unfold World.cells? at h
  split at h
  · have := (mapM_opt h).range
    exact this
  · simp at h
theorem cell_addr {a : Addr} {u : Value} (h : w.cell? a = some u) : a.spot = none ∧ a.block < w.heap.size := by
  unfold World.cell? at h
  split at h
  · rename_i c t f hb
    refine ⟨?_, (Array.getElem?_eq_some_iff.1 hb).1⟩
    split at h
    · simp at h
    · rename_i hs; simpa using hs
  · simp at h

theorem tyF_read {n : Nat} {fuel : Nat} {cs : List Value} (ih : ∀ t us d ps, PlainT P n t = true → DataW.trod enc P w base spare held fuel t us = some (d, ps) → us.length = P.cellsOf t → ∃ as, Ty P n t as ∧ All2 (Rp (AllI w) M0 w) as us) :
    ∀ (fs : List Field) (off : Nat), tiles P fs off cs.length = true → (fs.all fun f => PlainT P n f.type) = true →
      (∀ f ∈ fs, ∃ x, DataW.trod enc P w base spare held fuel f.type ((cs.drop f.offset).take (P.cellsOf f.type)) = some x) → off ≤ cs.length →
      ∃ as, TyF (Ty P n) fs as ∧ All2 (Rp (AllI w) M0 w) as (cs.drop off)
  | [], off, ht, hp, hx, hl => by
    simp only [tiles, beq_iff_eq] at ht
    subst ht
    exact ⟨[], rfl, by simp; exact .nil⟩
  | f :: fs, off, ht, hp, hx, hl => by
    simp only [tiles, Bool.and_eq_true, beq_iff_eq] at ht
    obtain ⟨ho, ht⟩ := ht
    simp only [List.all_cons, Bool.and_eq_true] at hp
    have hbound : off + P.cellsOf f.type ≤ cs.length := by
      have : ∀ (fs : List Field) (o m : Nat), tiles P fs o m = true → o ≤ m := by
        intro fs
        induction fs with
        | nil => intro o m h; simp only [tiles, beq_iff_eq] at h; omega
        | cons g fs ih => intro o m h; simp only [tiles, Bool.and_eq_true] at h; have := ih _ _ h.2; omega
      exact this fs _ _ ht
    obtain ⟨⟨d, ps⟩, hx1⟩ := hx f (by simp)
    rw [ho] at hx1
    obtain ⟨as, h1, h2⟩ := ih f.type _ d ps hp.1 hx1 (by simp; omega)
    obtain ⟨bs, h3, h4⟩ := tyF_read ih fs (off + P.cellsOf f.type) ht hp.2 (fun g hg => hx g (by simp [hg])) hbound
    refine ⟨as ++ bs, ⟨as, bs, rfl, h1, h3⟩, ?_⟩
    have : cs.drop off = (cs.drop off).take (P.cellsOf f.type) ++ cs.drop (off + P.cellsOf f.type) := by
      rw [← List.drop_drop, List.take_append_drop]
    rw [this]
    exact h2.append h4

theorem read_ok : ∀ (n fuel : Nat) (t : TypeId) (cs : List Value) (d : DataW H) (ps : List MemPlace), PlainT P n t = true → DataW.trod enc P w base spare held fuel t cs = some (d, ps) →
    ∃ as, Ty P n t as ∧ All2 (Rp (AllI w) M0 w) as cs
  | 0, _, t, cs, d, ps, hp, _ => by simp [PlainT] at hp
  | _, 0, t, cs, d, ps, _, h => by simp [DataW.trod] at h
  | n + 1, fuel + 1, t, cs, d, ps, hp, h => by
    unfold PlainT at hp
    unfold Ty
    unfold DataW.trod at h
    cases hu : P.underlying t with
    | none => rw [hu] at hp; simp at hp
    | some ty =>
      rw [hu] at hp h
      cases ty <;> simp only at hp <;> first | (simp at hp; done) | skip
      case bool =>
        rcases cs with _ | ⟨v, _ | ⟨v2, r⟩⟩ <;> first | (simp at h; done) | skip
        cases v <;> first | (simp at h; done) | skip
        rename_i b
        exact ⟨[.bl b], ⟨b, rfl⟩, .cons (.bl b) .nil⟩
      case int k =>
        rcases cs with _ | ⟨v, _ | ⟨v2, r⟩⟩ <;> first | (simp at h; done) | skip
        cases v <;> first | (simp at h; done) | skip
        rename_i k' m
        simp only [Option.ite_none_right_eq_some] at h
        obtain ⟨⟨rfl, hwf⟩, h⟩ := h
        exact ⟨[.int _ m], ⟨m, rfl, hwf⟩, .cons (.int _ m) .nil⟩
      case string =>
        rcases cs with _ | ⟨v, _ | ⟨v2, r⟩⟩ <;> first | (simp at h; done) | skip
        cases v <;> first | (simp at h; done) | skip
        rename_i s
        simp only [Option.ite_none_right_eq_some] at h
        exact ⟨[.st s], ⟨s, rfl, h.1⟩, .cons (.st s) .nil⟩
      case struct fs =>
        simp only [Bool.and_eq_true] at hp
        have h' : (if cs.length = P.cellsOf t then (fs.toList.mapM fun f => DataW.trod enc P w base spare held fuel f.type ((cs.drop f.offset).take (P.cellsOf f.type))).map fun xs => (DataW.agg (xs.map (·.1)), xs.flatMap (·.2)) else none) = some (d, ps) := by
          rcases cs with _ | ⟨v, _ | ⟨v2, r⟩⟩ <;> first | exact h | (cases v <;> exact h)
        simp only [Option.ite_none_right_eq_some, Option.map_eq_some_iff] at h'
        obtain ⟨hlen, xs, hxs, _⟩ := h'
        have hall := mapM_opt hxs
        obtain ⟨as, h1, h2⟩ := tyF_read (n := n) (fuel := fuel) (cs := cs) (fun t us d ps hp2 h2 _ => read_ok n fuel t us d ps hp2 h2) fs.toList 0 (by rw [hlen]; exact hp.1) hp.2
          (fun f hf => by
            obtain ⟨i, hi⟩ := List.getElem?_of_mem hf
            obtain ⟨b, _, hb⟩ := hall.get i f hi
            exact ⟨b, hb⟩) (Nat.zero_le _)
        exact ⟨as, h1, by simpa using h2⟩
      case slice e =>
        simp only [Bool.and_eq_true, decide_eq_true_eq] at hp
        rcases cs with _ | ⟨v, _ | ⟨v2, r⟩⟩ <;> first | (simp at h; done) | skip
        cases v <;> first | (simp at h; done) | skip
        rename_i A len cap
        cases A with
        | none =>
          have : len = 0 ∧ cap = 0 := by
            rcases len with _ | len <;> rcases cap with _ | cap <;> first | exact ⟨rfl, rfl⟩ | (simp at h; done)
          obtain ⟨rfl, rfl⟩ := this
          exact ⟨[.ns], .inl rfl, .cons .ns .nil⟩
        | some a =>
          simp only [Option.ite_none_right_eq_some, Option.bind_eq_some_iff, Option.map_eq_some_iff] at h
          obtain ⟨⟨hb, hlc, hcm⟩, xs, hxs, _⟩ := h
          obtain ⟨hxl, hxi⟩ := (mapM_opt hxs).range
          have hel : ∀ i, i < len → ∃ us : List Value, w.cells? base (a.add (i * P.cellsOf e)) (P.cellsOf e) = some us ∧ ∃ as, Ty P n e as ∧ All2 (Rp (AllI w) M0 w) as us := fun i hi => by
            obtain ⟨x, hx⟩ : ∃ x, xs[i]? = some x := ⟨xs[i], by simp [hxl, hi]⟩
            have := hxi i x hx
            simp only [Option.bind_eq_some_iff] at this
            obtain ⟨us, hus, ht⟩ := this
            obtain ⟨as, h1, h2⟩ := read_ok n fuel e us x.1 x.2 hp.2 ht
            exact ⟨us, hus, as, h1, h2⟩
          by_cases h0 : len = 0
          · subst h0
            exact ⟨[.ls (P.cellsOf e) []], .inr ⟨[], rfl, by simp, by simp⟩, .cons (.lsN _ a cap) .nil⟩
          have hch : ∃ g : Nat → List Value × List AV, ∀ i, i < len → w.cells? base (a.add (i * P.cellsOf e)) (P.cellsOf e) = some (g i).1 ∧ Ty P n e (g i).2 ∧ All2 (Rp (AllI w) M0 w) (g i).2 (g i).1 := by
            refine ⟨fun i => if hi : i < len then (Classical.choose (hel i hi), Classical.choose (Classical.choose_spec (hel i hi)).2) else ([], []), fun i hi => ?_⟩
            simp only [hi, dif_pos]
            have := Classical.choose_spec (hel i hi)
            exact ⟨this.1, (Classical.choose_spec this.2).1, (Classical.choose_spec this.2).2⟩
          obtain ⟨g, hg⟩ := hch
          have hcell : ∀ i j (u : Value), i < len → (g i).1[j]? = some u → w.cell? ⟨a.block, a.off + i * P.cellsOf e + j, none⟩ = some u := fun i j u hi hu => by
            have := (cells_get (hg i hi).1).2 j u hu
            have hs := (cell_addr this).1
            have he : (a.add (i * P.cellsOf e)).add j = ⟨a.block, a.off + i * P.cellsOf e + j, none⟩ := by
              unfold Addr.add at hs ⊢
              by_cases h1 : i * P.cellsOf e = 0
              · by_cases h2 : j = 0
                · simp only [h1, h2, if_true] at hs ⊢
                  obtain ⟨x, y, z⟩ := a
                  simp only at hs; subst hs; simp
                · simp only [h1, h2, if_true, if_false] at hs ⊢; simp
              · by_cases h2 : j = 0
                · simp only [h1, h2, if_true, if_false] at hs ⊢; simp
                · simp only [h1, h2, if_false] at hs ⊢
            rw [← he]; exact this
          have hlen : ∀ i, i < len → (g i).2.length = P.cellsOf e := fun i hi => by
            rw [(hg i hi).2.2.length]; exact (cells_get (hg i hi).1).1
          have hes : ∀ (i : Nat) (x : List AV), ((List.range len).map fun i => (g i).2)[i]? = some x → i < len ∧ x = (g i).2 := fun i x hx => by
            rw [List.getElem?_map] at hx
            cases hr : (List.range len)[i]? with
            | none => rw [hr] at hx; simp at hx
            | some k =>
              rw [hr] at hx
              have hil := (List.getElem?_eq_some_iff.1 hr).1
              simp at hil
              rw [List.getElem?_range hil] at hr
              injection hr with hr
              subst hr
              simp at hx
              exact ⟨hil, hx.symm⟩
          refine ⟨[.ls (P.cellsOf e) ((List.range len).map fun i => (g i).2)], .inr ⟨_, rfl, by simp; omega, fun x hx => ?_⟩, .cons ?_ .nil⟩
          · obtain ⟨i, hi⟩ := List.getElem?_of_mem hx
            obtain ⟨hil, rfl⟩ := hes i x hi
            exact ⟨hlen i hil, (hg i hil).2.1⟩
          · have hIb : AllI w a.block := by
              obtain ⟨c0, hc0⟩ : ∃ u, (g 0).1[0]? = some u := by
                have h2 : 0 < (g 0).1.length := by rw [(cells_get (hg 0 (by omega)).1).1]; exact hp.1
                exact ⟨_, List.getElem?_eq_getElem h2⟩
              have := (cell_addr (hcell 0 0 c0 (by omega) hc0)).2
              exact this
            have hrp := Rp.ls (I := AllI w) (M := M0) (w := w) (P.cellsOf e) ((List.range len).map fun i => (g i).2) a.block a.off cap (fun i j => ((g i).1[j]?).getD undef)
              (by intro hn; have := congrArg List.length hn; simp at this; omega) (by simpa using hlc)
              (fun x hx => by obtain ⟨i, hi⟩ := List.getElem?_of_mem hx; obtain ⟨hil, rfl⟩ := hes i x hi; exact hlen i hil) hIb
              (fun i x j c hi hj => by
                obtain ⟨hil, rfl⟩ := hes i x hi
                obtain ⟨u, hu, _⟩ := (hg i hil).2.2.get j c hj
                simp only [hu, Option.getD_some]; exact hcell i j u hil hu)
              (fun i x j c hi hj => by
                obtain ⟨hil, rfl⟩ := hes i x hi
                obtain ⟨u, hu, hr⟩ := (hg i hil).2.2.get j c hj
                simp only [hu, Option.getD_some]; exact hr)
            simp only [List.length_map, List.length_range] at hrp
            have ha : a = ⟨a.block, a.off, none⟩ := by
              obtain ⟨c0, hc0⟩ : ∃ u, (g 0).1[0]? = some u := by
                have h2 : 0 < (g 0).1.length := by rw [(cells_get (hg 0 (by omega)).1).1]; exact hp.1
                exact ⟨_, List.getElem?_eq_getElem h2⟩
              have := (cell_addr ((cells_get (hg 0 (by omega)).1).2 0 c0 hc0)).1
              simp only [Addr.add, Nat.zero_mul, if_true] at this
              obtain ⟨x, y, z⟩ := a
              simp only at this; subst this; rfl
            rw [ha]; exact hrp
end
end Go.Am
set_option linter.constructorNameAsVariable false
set_option linter.unusedVariables false
set_option linter.unusedSimpArgs false
namespace Go.Am
open Go.RowKit

def OkD : (s : Sh) → Den s → Prop
  | .i k, n => (Lit.int k n).wf = true
  | .b, _ => True
  | .s, s => s.size ≤ 9223372036854775807
  | .row e, ts => ts.length ≤ 9223372036854775807 ∧ ∀ x ∈ ts, OkD e x
  | .nil, _ => True
  | .cons a b, x => OkD a x.1 ∧ OkD b x.2
def shF (f : TypeId → Option Sh) : List Field → Option Sh
  | [] => some .nil
  | x :: l => match f x.type, shF f l with
    | some s, some r => some (.cons s r)
    | _, _ => none
def shP (P : Program) : Nat → TypeId → Option Sh
  | 0, _ => none
  | n + 1, t => match P.underlying t with
    | some .bool => some .b
    | some (.int k) => some (.i k)
    | some .string => some .s
    | some (.slice e) => match shP P n e with
      | some s => if s.sz = P.cellsOf e then some (.row s) else none
      | none => none
    | some (.struct fs) => shF (shP P n) fs.toList
    | _ => none
theorem tyF_re {T : TypeId → List AV → Prop} {f : TypeId → Option Sh} (hT : ∀ t s cs, f t = some s → T t cs → ∃ x, RE s x cs ∧ OkD s x) : ∀ {fs : List Field} {s : Sh} {cs : List AV}, shF f fs = some s → TyF T fs cs → ∃ x, RE s x cs ∧ OkD s x
  | [], s, cs, h, h2 => by simp [shF] at h; subst h; exact ⟨(), h2, trivial⟩
  | x :: fs, s, cs, h, h2 => by
    simp only [shF] at h
    split at h
    · rename_i s1 r1 h3 h4
      simp only [Option.some.injEq] at h
      subst h
      obtain ⟨a, b, rfl, h5, h6⟩ := h2
      obtain ⟨x1, h7, h8⟩ := hT _ _ _ h3 h5
      obtain ⟨x2, h9, h10⟩ := tyF_re hT h4 h6
      exact ⟨(x1, x2), ⟨a, b, rfl, h7, h9⟩, h8, h10⟩
    · cases h
theorem list_re {s : Sh} : ∀ {es : List (List AV)}, (∀ e ∈ es, ∃ x, RE s x e ∧ OkD s x) → ∃ ts : List (Den s), All2 (RE s) ts es ∧ ∀ x ∈ ts, OkD s x
  | [], _ => ⟨[], .nil, fun x hx => by cases hx⟩
  | e :: es, h => by
    obtain ⟨x, h1, h2⟩ := h e (List.mem_cons_self ..)
    obtain ⟨ts, h3, h4⟩ := list_re (es := es) fun e he => h e (List.mem_cons_of_mem _ he)
    refine ⟨x :: ts, .cons h1 h3, fun y hy => ?_⟩
    rcases List.mem_cons.1 hy with rfl | hy
    · exact h2
    · exact h4 y hy
theorem ty_re {P : Program} : ∀ (n : Nat) (t : TypeId) (s : Sh) (cs : List AV), shP P n t = some s → Ty P n t cs → ∃ x, RE s x cs ∧ OkD s x
  | 0, t, s, cs, h, _ => by simp [shP] at h
  | n + 1, t, s, cs, h, h2 => by
    unfold shP at h
    unfold Ty at h2
    have hmax : maxLen = 9223372036854775807 := by decide
    cases hu : P.underlying t with
    | none => rw [hu] at h; simp at h
    | some ty =>
      rw [hu] at h h2
      cases ty <;> simp only at h h2 <;> first | (cases h; done) | skip
      case bool => simp only [Option.some.injEq] at h; subst h; obtain ⟨b, rfl⟩ := h2; exact ⟨b, rfl, trivial⟩
      case int k => simp only [Option.some.injEq] at h; subst h; obtain ⟨m, rfl, hw⟩ := h2; exact ⟨m, rfl, hw⟩
      case string => simp only [Option.some.injEq] at h; subst h; obtain ⟨m, rfl, hw⟩ := h2; exact ⟨m, rfl, by show m.size ≤ _; omega⟩
      case slice e =>
        split at h
        · rename_i s' hs'
          simp only [Option.ite_none_right_eq_some, Option.some.injEq] at h
          obtain ⟨hsz, rfl⟩ := h
          rcases h2 with rfl | ⟨es, rfl, h4, h5⟩
          · exact ⟨[], ⟨_, rfl, .inr ⟨rfl, .inl rfl⟩⟩, by simp, fun x hx => by cases hx⟩
          · obtain ⟨ts, h6, h7⟩ := list_re (es := es) fun x hx => ty_re n e s' x hs' (h5 x hx).2
            refine ⟨ts, ⟨_, rfl, .inl ⟨es, by rw [hsz], h6⟩⟩, ?_, h7⟩
            rw [h6.length]; omega
        · cases h
      case struct fs => exact tyF_re (fun t s cs h1 h2 => ty_re n t s cs h1 h2) h h2
def isStruct (P : Program) (t : TypeId) : Bool := match P.underlying t with
  | some (.struct _) => true
  | _ => false
theorem arg_re {H : Type} {enc : TypeId × Value → H} {P : Program} {W : World} {spare : Nat → Bool} {held : Bool} {n : Nat} {t : TypeId} {s : Sh} {r : Reach} {v : Value} {d : DataW H} {ps : List MemPlace} {b1 b2 : Nat}
    (hp : PlainT P n t = true) (hs : shP P n t = some s) (hok : Value.okWide P W r b1 t v) (h : DataW.Trod enc P W b2 spare held t v d ps) : ∃ x w, RE s x (cellsW w) ∧ OkD s x ∧ RpV (AllI W) M0 W w v ∧ shapeA [w] = [(isStruct P t, if isStruct P t then s.sz else 1)] := by
  obtain ⟨fuel, h⟩ := h
  obtain ⟨as, h1, h2⟩ := read_ok n fuel t _ d ps hp h
  obtain ⟨x, h3, h4⟩ := ty_re n t s as hs h1
  unfold Value.okWide at hok
  unfold isStruct
  have one : (∀ cs, v ≠ .agg cs) → (∀ cs, v ≠ .tuple cs) → v.cells.toList = [v] → (match P.underlying t with | some (.struct _) => true | _ => false) = false → ∃ x w, RE s x (cellsW w) ∧ OkD s x ∧ RpV (AllI W) M0 W w v ∧ shapeA [w] = [((match P.underlying t with | some (.struct _) => true | _ => false), if (match P.underlying t with | some (.struct _) => true | _ => false) = true then s.sz else 1)] := by
    intro ha htp hc hst
    rw [hc] at h2
    obtain ⟨c, rfl, hr⟩ : ∃ c, as = [c] ∧ Rp (AllI W) M0 W c v := by
      cases h2 with
      | cons h5 h6 => cases h6; exact ⟨_, rfl, h5⟩
    have hca : (∀ l, c ≠ .ag l) ∧ (∀ l, c ≠ .tp l) := by
      constructor <;> (intro l hl; subst hl; cases hr)
    have hcw : cellsW c = [c] := by cases c <;> first | rfl | exact absurd rfl (hca.1 _)
    refine ⟨x, c, by rw [hcw]; exact h3, h4, ?_, ?_⟩
    · cases c <;> first | exact hr | exact absurd rfl (hca.1 _) | exact absurd rfl (hca.2 _)
    · rw [hst]
      cases c <;> first | rfl | exact absurd rfl (hca.1 _)
  cases hu : P.underlying t with
  | none =>
    exfalso
    cases n <;> simp [hu, shP] at hs
  | some ty =>
    rw [hu] at hok one
    cases ty with
    | struct fs =>
      simp only at hok
      obtain ⟨cs, rfl, _, _⟩ := hok
      refine ⟨x, .ag as, h3, h4, ⟨cs, rfl, h2⟩, ?_⟩
      simp only [if_true]
      rw [← RE_len h3]
      rfl
    | bool => simp only [Cell.okWide, Cell.ok, hu] at hok; cases v <;> simp at hok; exact one (by simp) (by simp) rfl rfl
    | int k => simp only [Cell.okWide, Cell.ok, hu] at hok; cases v <;> simp at hok; exact one (by simp) (by simp) rfl rfl
    | string => simp only [Cell.okWide, Cell.ok, hu] at hok; cases v <;> simp at hok; exact one (by simp) (by simp) rfl rfl
    | slice e => simp only [Cell.okWide, Cell.ok, hu] at hok; cases v <;> simp at hok; exact one (by simp) (by simp) rfl rfl
    | _ =>
      exfalso
      cases n <;> simp [hu, shP] at hs
theorem closedK {P : Program} {f : FuncId} {F : Unit → Option (Bool × Unit)} (he : Ent P f) (h : PureOk P f [] (.bl true)) (hF : F () = some (true, ()) := by rfl) : CtrOk P f ⟨.nil, .cons .b .nil, [], [(false, 1)], [], F⟩ := by
  intro as x y h1 h2 h3
  have has : as = [] := by
    cases as with
    | nil => rfl
    | cons a l => cases a <;> simp [shapeA] at h1
  subst has
  refine ⟨he, _, h, fun ρ pr k r hk => ?_⟩
  have h3 : F () = some y := h3
  rw [hF] at h3
  injection h3 with h3
  subst h3
  exact ⟨.a (.bl true), ⟨⟨rfl, rfl⟩, rfl⟩, hk⟩
theorem law_walk {P : Program} {f : FuncId} {c : Ctr} (hc : CtrOk P f c) (ht : c.t = .cons .b .nil) (hrs : c.rs = [(false, 1)]) (hown : c.own = []) {as : List AV} {x : Den c.s} {y : Den c.t} (h1 : shapeA as = c.as) (h2 : RE c.s x (as.flatMap cellsW)) (h3 : c.F x = some y)
    (hy : (ht ▸ y : Den (.cons .b .nil)).1 = true) (W : World) (vals : Array Value) (ha : All2 (RpV (AllI W) M0 W) as vals.toList) : Calls P f vals W fun e W' => e = .returned (.bool true) ∧ Below W.heap.size W W' := by
  obtain ⟨_, w, hw, hr⟩ := hc as x y h1 h2 h3
  obtain ⟨s, t, gs, rs, own, F⟩ := c
  simp only at ht hrs hown
  subst ht hrs hown
  simp only at hy
  obtain ⟨y1, y2⟩ := y
  simp only at hy
  subst hy
  obtain ⟨v, hv, hk⟩ := hr SV [] (fun v => some v) (.a (.bl true)) rfl
  injection hk with hk
  subst hk
  have hw2 : w = .bl true := hv.1.1.symm
  subst hw2
  refine (hw (AllI W) W vals (fun _ h => h) ha).mono fun e W' he => ?_
  cases e with
  | returned v =>
    obtain ⟨I', h1, h2, h3, h4, h5, h6, h7, h8, _⟩ := he
    obtain ⟨Mn, _, _, _, hr⟩ := h8 0
    have hr' : Rp I' Mn W' (.bl true) v := hr
    cases hr'
    exact ⟨rfl, h1, h2, h3, h4, h5⟩
  | panicked c => exact he.elim
  | outgrown => exact he.elim
end Go.Am
