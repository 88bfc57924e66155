/- An abstract machine for the compiled code, and the proof that what it computes the code computes: part 4. -/
import Derived.Test.YtefehcmhdiifnaaAmC
import GoSem.ClaimChange
import Derived.WalkKit
set_option linter.unusedSimpArgs false
set_option linter.unusedVariables false
namespace Go.Am

/-! What an argument reads as, as an abstract value. -/
def TyF (T : TypeId → List AV → Prop) : List Field → List AV → Prop
  | [], cs => cs = []
  | f :: fs, cs => ∃ a b, cs = a ++ b ∧ T f.type a ∧ TyF T fs b
def Ty (P : Program) : Nat → TypeId → List AV → Prop
  | 0, _, _ => False
  | n + 1, t, cs => match P.underlying t with
    | some .bool => ∃ b, cs = [.bl b]
    | some (.int k) => ∃ m, cs = [.int k m] ∧ (Lit.int k m).wf = true
    | some .string => ∃ s, cs = [.st s] ∧ s.size ≤ maxLen
    | some (.slice e) => cs = [.ns] ∨ ∃ es, cs = [.ls (P.cellsOf e) es] ∧ es.length ≤ maxLen ∧ ∀ x ∈ es, x.length = P.cellsOf e ∧ Ty P n e x
    | some (.struct fs) => TyF (Ty P n) fs.toList cs
    | _ => False
def tiles (P : Program) : List Field → Nat → Nat → Bool
  | [], off, n => off == n
  | f :: fs, off, n => f.offset == off && tiles P fs (off + P.cellsOf f.type) n
/-- Types of plain data. -/
def PlainT (P : Program) : Nat → TypeId → Bool
  | 0, _ => false
  | n + 1, t => match P.underlying t with
    | some .bool | some (.int _) | some .string => true
    | some (.slice e) => decide (0 < P.cellsOf e) && PlainT P n e
    | some (.struct fs) => tiles P fs.toList 0 (P.cellsOf t) && fs.toList.all fun f => PlainT P n f.type
    | _ => false

def AllI (w : World) : Nat → Prop := fun b => b < w.heap.size

theorem mapM_opt {α β : Type} {f : α → Option β} : ∀ {l : List α} {r : List β}, l.mapM f = some r → All2 (fun a b => f a = some b) l r
  | [], r, h => by simp at h; subst h; exact .nil
  | a :: l, r, h => by
    simp only [List.mapM_cons, Option.bind_eq_bind, Option.bind_eq_some_iff] at h
    obtain ⟨b, hb, l', hl, h⟩ := h
    simp only [Option.pure_def, Option.some.injEq] at h
    subst h
    exact .cons hb (mapM_opt hl)
theorem All2.range {β : Type} {R : Nat → β → Prop} : ∀ {n : Nat} {r : List β}, All2 R (List.range n) r → r.length = n ∧ ∀ i (b : β), r[i]? = some b → R i b := by
  intro n r h
  refine ⟨by simpa using h.length.symm, fun i b hb => ?_⟩
  have hl : i < n := by
    have := (List.getElem?_eq_some_iff.1 hb).1
    have h2 := h.length
    simp at h2; omega
  obtain ⟨c, hc, hr⟩ := h.get i i (by simp [hl])
  rw [hb] at hc; injection hc with hc; subst hc; exact hr

section
variable {H : Type} {enc : TypeId × Value → H} {P : Program} {w : World} {base : Nat} {spare : Nat → Bool} {held : Bool}

theorem cells_get {a : Addr} {n : Nat} {us : List Value} (h : w.cells? base a n = some us) : us.length = n ∧ ∀ j (u : Value), us[j]? = some u → w.cell? (a.add j) = some u := by
  unfold World.cells? at h
  split at h
  · have := (mapM_opt h).range
    exact this
  · simp at h
theorem cell_addr {a : Addr} {u : Value} (h : w.cell? a = some u) : a.spot = none ∧ a.block < w.heap.size := by
  unfold World.cell? at h
  split at h
  · rename_i c t f hb
    refine ⟨?_, (Array.getElem?_eq_some_iff.1 hb).1⟩
    split at h
    · simp at h
    · rename_i hs; simpa using hs
  · simp at h

theorem tyF_read {n : Nat} {fuel : Nat} {cs : List Value} (ih : ∀ t us d ps, PlainT P n t = true → DataW.trod enc P w base spare held fuel t us = some (d, ps) → us.length = P.cellsOf t → ∃ as, Ty P n t as ∧ All2 (Rp (AllI w) M0 w) as us) :
    ∀ (fs : List Field) (off : Nat), tiles P fs off cs.length = true → (fs.all fun f => PlainT P n f.type) = true →
      (∀ f ∈ fs, ∃ x, DataW.trod enc P w base spare held fuel f.type ((cs.drop f.offset).take (P.cellsOf f.type)) = some x) → off ≤ cs.length →
      ∃ as, TyF (Ty P n) fs as ∧ All2 (Rp (AllI w) M0 w) as (cs.drop off)
  | [], off, ht, hp, hx, hl => by
    simp only [tiles, beq_iff_eq] at ht
    subst ht
    exact ⟨[], rfl, by simp; exact .nil⟩
  | f :: fs, off, ht, hp, hx, hl => by
    simp only [tiles, Bool.and_eq_true, beq_iff_eq] at ht
    obtain ⟨ho, ht⟩ := ht
    simp only [List.all_cons, Bool.and_eq_true] at hp
    have hbound : off + P.cellsOf f.type ≤ cs.length := by
      have : ∀ (fs : List Field) (o m : Nat), tiles P fs o m = true → o ≤ m := by
        intro fs
        induction fs with
        | nil => intro o m h; simp only [tiles, beq_iff_eq] at h; omega
        | cons g fs ih => intro o m h; simp only [tiles, Bool.and_eq_true] at h; have := ih _ _ h.2; omega
      exact this fs _ _ ht
    obtain ⟨⟨d, ps⟩, hx1⟩ := hx f (by simp)
    rw [ho] at hx1
    obtain ⟨as, h1, h2⟩ := ih f.type _ d ps hp.1 hx1 (by simp; omega)
    obtain ⟨bs, h3, h4⟩ := tyF_read ih fs (off + P.cellsOf f.type) ht hp.2 (fun g hg => hx g (by simp [hg])) hbound
    refine ⟨as ++ bs, ⟨as, bs, rfl, h1, h3⟩, ?_⟩
    have : cs.drop off = (cs.drop off).take (P.cellsOf f.type) ++ cs.drop (off + P.cellsOf f.type) := by
      rw [← List.drop_drop, List.take_append_drop]
    rw [this]
    exact h2.append h4

theorem read_ok : ∀ (n fuel : Nat) (t : TypeId) (cs : List Value) (d : DataW H) (ps : List MemPlace), PlainT P n t = true → DataW.trod enc P w base spare held fuel t cs = some (d, ps) →
    ∃ as, Ty P n t as ∧ All2 (Rp (AllI w) M0 w) as cs
  | 0, _, t, cs, d, ps, hp, _ => by simp [PlainT] at hp
  | _, 0, t, cs, d, ps, _, h => by simp [DataW.trod] at h
  | n + 1, fuel + 1, t, cs, d, ps, hp, h => by
    unfold PlainT at hp
    unfold Ty
    unfold DataW.trod at h
    cases hu : P.underlying t with
    | none => rw [hu] at hp; simp at hp
    | some ty =>
      rw [hu] at hp h
      cases ty <;> simp only at hp <;> first | (simp at hp; done) | skip
      case bool =>
        rcases cs with _ | ⟨v, _ | ⟨v2, r⟩⟩ <;> first | (simp at h; done) | skip
        cases v <;> first | (simp at h; done) | skip
        rename_i b
        exact ⟨[.bl b], ⟨b, rfl⟩, .cons (.bl b) .nil⟩
      case int k =>
        rcases cs with _ | ⟨v, _ | ⟨v2, r⟩⟩ <;> first | (simp at h; done) | skip
        cases v <;> first | (simp at h; done) | skip
        rename_i k' m
        simp only [Option.ite_none_right_eq_some] at h
        obtain ⟨⟨rfl, hwf⟩, h⟩ := h
        exact ⟨[.int _ m], ⟨m, rfl, hwf⟩, .cons (.int _ m) .nil⟩
      case string =>
        rcases cs with _ | ⟨v, _ | ⟨v2, r⟩⟩ <;> first | (simp at h; done) | skip
        cases v <;> first | (simp at h; done) | skip
        rename_i s
        simp only [Option.ite_none_right_eq_some] at h
        exact ⟨[.st s], ⟨s, rfl, h.1⟩, .cons (.st s) .nil⟩
      case struct fs =>
        simp only [Bool.and_eq_true] at hp
        have h' : (if cs.length = P.cellsOf t then (fs.toList.mapM fun f => DataW.trod enc P w base spare held fuel f.type ((cs.drop f.offset).take (P.cellsOf f.type))).map fun xs => (DataW.agg (xs.map (·.1)), xs.flatMap (·.2)) else none) = some (d, ps) := by
          rcases cs with _ | ⟨v, _ | ⟨v2, r⟩⟩ <;> first | exact h | (cases v <;> exact h)
        simp only [Option.ite_none_right_eq_some, Option.map_eq_some_iff] at h'
        obtain ⟨hlen, xs, hxs, _⟩ := h'
        have hall := mapM_opt hxs
        obtain ⟨as, h1, h2⟩ := tyF_read (n := n) (fuel := fuel) (cs := cs) (fun t us d ps hp2 h2 _ => read_ok n fuel t us d ps hp2 h2) fs.toList 0 (by rw [hlen]; exact hp.1) hp.2
          (fun f hf => by
            obtain ⟨i, hi⟩ := List.getElem?_of_mem hf
            obtain ⟨b, _, hb⟩ := hall.get i f hi
            exact ⟨b, hb⟩) (Nat.zero_le _)
        exact ⟨as, h1, by simpa using h2⟩
      case slice e =>
        simp only [Bool.and_eq_true, decide_eq_true_eq] at hp
        rcases cs with _ | ⟨v, _ | ⟨v2, r⟩⟩ <;> first | (simp at h; done) | skip
        cases v <;> first | (simp at h; done) | skip
        rename_i A len cap
        cases A with
        | none =>
          have : len = 0 ∧ cap = 0 := by
            rcases len with _ | len <;> rcases cap with _ | cap <;> first | exact ⟨rfl, rfl⟩ | (simp at h; done)
          obtain ⟨rfl, rfl⟩ := this
          exact ⟨[.ns], .inl rfl, .cons .ns .nil⟩
        | some a =>
          simp only [Option.ite_none_right_eq_some, Option.bind_eq_some_iff, Option.map_eq_some_iff] at h
          obtain ⟨⟨hb, hlc, hcm⟩, xs, hxs, _⟩ := h
          obtain ⟨hxl, hxi⟩ := (mapM_opt hxs).range
          have hel : ∀ i, i < len → ∃ us : List Value, w.cells? base (a.add (i * P.cellsOf e)) (P.cellsOf e) = some us ∧ ∃ as, Ty P n e as ∧ All2 (Rp (AllI w) M0 w) as us := fun i hi => by
            obtain ⟨x, hx⟩ : ∃ x, xs[i]? = some x := ⟨xs[i], by simp [hxl, hi]⟩
            have := hxi i x hx
            simp only [Option.bind_eq_some_iff] at this
            obtain ⟨us, hus, ht⟩ := this
            obtain ⟨as, h1, h2⟩ := read_ok n fuel e us x.1 x.2 hp.2 ht
            exact ⟨us, hus, as, h1, h2⟩
          by_cases h0 : len = 0
          · subst h0
            exact ⟨[.ls (P.cellsOf e) []], .inr ⟨[], rfl, by simp, by simp⟩, .cons (.lsN _ a cap) .nil⟩
          have hch : ∃ g : Nat → List Value × List AV, ∀ i, i < len → w.cells? base (a.add (i * P.cellsOf e)) (P.cellsOf e) = some (g i).1 ∧ Ty P n e (g i).2 ∧ All2 (Rp (AllI w) M0 w) (g i).2 (g i).1 := by
            refine ⟨fun i => if hi : i < len then (Classical.choose (hel i hi), Classical.choose (Classical.choose_spec (hel i hi)).2) else ([], []), fun i hi => ?_⟩
            simp only [hi, dif_pos]
            have := Classical.choose_spec (hel i hi)
            exact ⟨this.1, (Classical.choose_spec this.2).1, (Classical.choose_spec this.2).2⟩
          obtain ⟨g, hg⟩ := hch
          have hcell : ∀ i j (u : Value), i < len → (g i).1[j]? = some u → w.cell? ⟨a.block, a.off + i * P.cellsOf e + j, none⟩ = some u := fun i j u hi hu => by
            have := (cells_get (hg i hi).1).2 j u hu
            have hs := (cell_addr this).1
            have he : (a.add (i * P.cellsOf e)).add j = ⟨a.block, a.off + i * P.cellsOf e + j, none⟩ := by
              unfold Addr.add at hs ⊢
              by_cases h1 : i * P.cellsOf e = 0
              · by_cases h2 : j = 0
                · simp only [h1, h2, if_true] at hs ⊢
                  obtain ⟨x, y, z⟩ := a
                  simp only at hs; subst hs; simp
                · simp only [h1, h2, if_true, if_false] at hs ⊢; simp
              · by_cases h2 : j = 0
                · simp only [h1, h2, if_true, if_false] at hs ⊢; simp
                · simp only [h1, h2, if_false] at hs ⊢
            rw [← he]; exact this
          have hlen : ∀ i, i < len → (g i).2.length = P.cellsOf e := fun i hi => by
            rw [(hg i hi).2.2.length]; exact (cells_get (hg i hi).1).1
          have hes : ∀ (i : Nat) (x : List AV), ((List.range len).map fun i => (g i).2)[i]? = some x → i < len ∧ x = (g i).2 := fun i x hx => by
            rw [List.getElem?_map] at hx
            cases hr : (List.range len)[i]? with
            | none => rw [hr] at hx; simp at hx
            | some k =>
              rw [hr] at hx
              have hil := (List.getElem?_eq_some_iff.1 hr).1
              simp at hil
              rw [List.getElem?_range hil] at hr
              injection hr with hr
              subst hr
              simp at hx
              exact ⟨hil, hx.symm⟩
          refine ⟨[.ls (P.cellsOf e) ((List.range len).map fun i => (g i).2)], .inr ⟨_, rfl, by simp; omega, fun x hx => ?_⟩, .cons ?_ .nil⟩
          · obtain ⟨i, hi⟩ := List.getElem?_of_mem hx
            obtain ⟨hil, rfl⟩ := hes i x hi
            exact ⟨hlen i hil, (hg i hil).2.1⟩
          · have hIb : AllI w a.block := by
              obtain ⟨c0, hc0⟩ : ∃ u, (g 0).1[0]? = some u := by
                have h2 : 0 < (g 0).1.length := by rw [(cells_get (hg 0 (by omega)).1).1]; exact hp.1
                exact ⟨_, List.getElem?_eq_getElem h2⟩
              have := (cell_addr (hcell 0 0 c0 (by omega) hc0)).2
              exact this
            have hrp := Rp.ls (I := AllI w) (M := M0) (w := w) (P.cellsOf e) ((List.range len).map fun i => (g i).2) a.block a.off cap (fun i j => ((g i).1[j]?).getD undef)
              (by intro hn; have := congrArg List.length hn; simp at this; omega) (by simpa using hlc)
              (fun x hx => by obtain ⟨i, hi⟩ := List.getElem?_of_mem hx; obtain ⟨hil, rfl⟩ := hes i x hi; exact hlen i hil) hIb
              (fun i x j c hi hj => by
                obtain ⟨hil, rfl⟩ := hes i x hi
                obtain ⟨u, hu, _⟩ := (hg i hil).2.2.get j c hj
                simp only [hu, Option.getD_some]; exact hcell i j u hil hu)
              (fun i x j c hi hj => by
                obtain ⟨hil, rfl⟩ := hes i x hi
                obtain ⟨u, hu, hr⟩ := (hg i hil).2.2.get j c hj
                simp only [hu, Option.getD_some]; exact hr)
            simp only [List.length_map, List.length_range] at hrp
            have ha : a = ⟨a.block, a.off, none⟩ := by
              obtain ⟨c0, hc0⟩ : ∃ u, (g 0).1[0]? = some u := by
                have h2 : 0 < (g 0).1.length := by rw [(cells_get (hg 0 (by omega)).1).1]; exact hp.1
                exact ⟨_, List.getElem?_eq_getElem h2⟩
              have := (cell_addr ((cells_get (hg 0 (by omega)).1).2 0 c0 hc0)).1
              simp only [Addr.add, Nat.zero_mul, if_true] at this
              obtain ⟨x, y, z⟩ := a
              simp only at this; subst this; rfl
            rw [ha]; exact hrp
end
end Go.Am
set_option linter.unusedSimpArgs false
set_option linter.unusedVariables false
namespace Go.Am

/-! Rules to run compiled code on values that are known in part. -/
section
variable {g : Cfg} {run : CC → St → Option (EX × St)} {tm : TT} {h : HH} {nx bs : Nat} {S S' : St} {r : R} {a b : CC} {ex : EX}

def contR (ex : EX) (S : St) (k : St → R) : R := match ex with
  | .nm => k S
  | ex => some (ex, S)
theorem s_sq (h1 : stepC g run a S = some (ex, S')) (h2 : contR ex S' (stepC g run b) = r) : stepC g run (.sq a b) S = r := by
  simp only [stepC, h1]
  cases ex <;> exact h2
theorem s_nm {k : St → R} (h1 : k S = r) : contR .nm S k = r := h1
theorem s_xt {k : St → R} {i : Nat} : contR (.xt i) S k = some (.xt i, S) := rfl
theorem s_rt {k : St → R} : contR .rt S k = some (.rt, S) := rfl
theorem s_rg {l : List CI} (h1 : opsC g run l S = some S') : stepC g run (.rg l) S = some (.nm, S') := by simp [stepC, h1]
theorem s_rd {l : List (CI × List Nat)} (h1 : parC g run l 0 [] S = some S') : stepC g run (.rd l) S = some (.nm, S') := by simp [stepC, h1]
theorem s_cdt {c : Opd} (h1 : rd tm c = .bl true) (h2 : stepC g run a ⟨tm, h, nx, bs⟩ = r) : stepC g run (.cd c a b) ⟨tm, h, nx, bs⟩ = r := by simp [stepC, h1, h2]
theorem s_cdf {c : Opd} (h1 : rd tm c = .bl false) (h2 : stepC g run b ⟨tm, h, nx, bs⟩ = r) : stepC g run (.cd c a b) ⟨tm, h, nx, bs⟩ = r := by simp [stepC, h1, h2]
def bkE (id : Nat) : EX → EX
  | .xt j => if j = id then .nm else .xt j
  | ex => ex
theorem s_bk {id : Nat} (h1 : stepC g run a S = some (ex, S')) : stepC g run (.bk id a) S = some (bkE id ex, S') := by
  simp only [stepC, h1]
  cases ex <;> rfl
theorem s_bk2 {id : Nat} {ex' : EX} (h1 : stepC g run a S = some (ex, S')) (h2 : bkE id ex = ex') : stepC g run (.bk id a) S = some (ex', S') := by rw [s_bk h1, h2]
theorem s_bkn (id : Nat) : bkE id .nm = .nm := rfl
theorem s_bkr (id : Nat) : bkE id .rt = .rt := rfl
theorem s_bkx (id : Nat) : bkE id (.xt id) = .nm := by simp [bkE]
theorem s_bky {id j : Nat} (h : j ≠ id) : bkE id (.xt j) = .xt j := by simp [bkE, h]
theorem s_sk : stepC g run .sk S = some (.nm, S) := rfl
theorem s_x {i : Nat} : stepC g run (.xt i) S = some (.xt i, S) := rfl
theorem s_r : stepC g run .rt S = some (.rt, S) := rfl

theorem o_nil : opsC g run [] S = some S := rfl
theorem o_cons {o : CI} {l : List CI} {v : AV} {h' : HH} {nx' : Nat} {q : Option St} (h1 : oneC g run tm h nx o = some ⟨v, h', nx'⟩) (h2 : bs ≤ nx') (h3 : opsC g run l ⟨putD o.dst v tm, h', nx', bs⟩ = q) :
    opsC g run (o :: l) ⟨tm, h, nx, bs⟩ = q := by
  simp only [opsC, h1, if_pos h2, h3]
theorem o_s {d : Nat} {op : COp} {gd : Option (Nat × Bool)} {l : List CI} {v : AV} {h' : HH} {nx' : Nat} {q : Option St} (h1 : oneC g run tm h nx ⟨some d, op, gd⟩ = some ⟨v, h', nx'⟩) (h2 : bs ≤ nx') (h3 : opsC g run l ⟨(d, v) :: tm, h', nx', bs⟩ = q) :
    opsC g run (⟨some d, op, gd⟩ :: l) ⟨tm, h, nx, bs⟩ = q := o_cons h1 h2 h3
theorem o_n {op : COp} {gd : Option (Nat × Bool)} {l : List CI} {v : AV} {h' : HH} {nx' : Nat} {q : Option St} (h1 : oneC g run tm h nx ⟨none, op, gd⟩ = some ⟨v, h', nx'⟩) (h2 : bs ≤ nx') (h3 : opsC g run l ⟨tm, h', nx', bs⟩ = q) :
    opsC g run (⟨none, op, gd⟩ :: l) ⟨tm, h, nx, bs⟩ = q := o_cons h1 h2 h3
theorem g_no {d : Option Nat} {op : COp} {e : Option Ef} (h1 : opC g run tm h nx op = e) : oneC g run tm h nx ⟨d, op, none⟩ = e := h1
theorem g_do {d : Option Nat} {op : COp} {e : Option Ef} {t : Nat} {w : Bool} (h0 : look .ud tm t = .bl w) (h1 : opC g run tm h nx op = e) : oneC g run tm h nx ⟨d, op, some (t, w)⟩ = e := by
  simp only [oneC, wants, h0, beq_self_eq_true]; exact h1
theorem g_sk {d : Option Nat} {op : COp} {t : Nat} {w : Bool} (h0 : look .ud tm t = .bl (!w)) : oneC g run tm h nx ⟨d, op, some (t, w)⟩ = some ⟨.tp [], h, nx⟩ := by
  simp only [oneC, wants, h0]; cases w <;> rfl
theorem g_st {d : Option Nat} {op : COp} {t : Nat} {w : Bool} (h0 : look .ud tm t = .bl true) (hw : w = false) : oneC g run tm h nx ⟨d, op, some (t, w)⟩ = some ⟨.tp [], h, nx⟩ := by
  subst hw; exact g_sk h0
theorem g_sf {d : Option Nat} {op : COp} {t : Nat} {w : Bool} (h0 : look .ud tm t = .bl false) (hw : w = true) : oneC g run tm h nx ⟨d, op, some (t, w)⟩ = some ⟨.tp [], h, nx⟩ := by
  subst hw; exact g_sk h0

theorem l_hit {n : Nat} {v : AV} : look .ud ((n, v) :: tm) n = v := by simp [look]
theorem l_mis {n m : Nat} {v w : AV} (hne : (n == m) = false) (h1 : look .ud tm m = w) : look .ud ((n, v) :: tm) m = w := by
  have : n ≠ m := by simpa using hne
  simp [look, this, h1]
theorem r_t {n : Nat} {v : AV} (h1 : look .ud tm n = v) : rd tm (.t n) = v := h1
theorem r_c {v : AV} : rd tm (.c v) = v := rfl

theorem rV_int (k : IntKind) (n : Int) : refsV (.int k n) = [] := rfl
theorem rC_int (k : IntKind) (n : Int) : refs (.int k n) = [] := rfl
theorem lV_int (p : Nat → Bool) (q : Nat → Nat) (k : IntKind) (n : Int) : lrV p q (.int k n) = (.int k n) := rfl
theorem lC_int (p : Nat → Bool) (q : Nat → Nat) (k : IntKind) (n : Int) : lrC p q (.int k n) = (.int k n) := rfl
theorem rV_bl (b : Bool) : refsV (.bl b) = [] := rfl
theorem rC_bl (b : Bool) : refs (.bl b) = [] := rfl
theorem lV_bl (p : Nat → Bool) (q : Nat → Nat) (b : Bool) : lrV p q (.bl b) = (.bl b) := rfl
theorem lC_bl (p : Nat → Bool) (q : Nat → Nat) (b : Bool) : lrC p q (.bl b) = (.bl b) := rfl
theorem rV_st (s : ByteArray) : refsV (.st s) = [] := rfl
theorem rC_st (s : ByteArray) : refs (.st s) = [] := rfl
theorem lV_st (p : Nat → Bool) (q : Nat → Nat) (s : ByteArray) : lrV p q (.st s) = (.st s) := rfl
theorem lC_st (p : Nat → Bool) (q : Nat → Nat) (s : ByteArray) : lrC p q (.st s) = (.st s) := rfl
theorem rV_ns  : refsV .ns = [] := rfl
theorem rC_ns  : refs .ns = [] := rfl
theorem lV_ns (p : Nat → Bool) (q : Nat → Nat)  : lrV p q .ns = .ns := rfl
theorem lC_ns (p : Nat → Bool) (q : Nat → Nat)  : lrC p q .ns = .ns := rfl
theorem rV_np  : refsV .np = [] := rfl
theorem rC_np  : refs .np = [] := rfl
theorem lV_np (p : Nat → Bool) (q : Nat → Nat)  : lrV p q .np = .np := rfl
theorem lC_np (p : Nat → Bool) (q : Nat → Nat)  : lrC p q .np = .np := rfl
theorem rV_ni  : refsV .ni = [] := rfl
theorem rC_ni  : refs .ni = [] := rfl
theorem lV_ni (p : Nat → Bool) (q : Nat → Nat)  : lrV p q .ni = .ni := rfl
theorem lC_ni (p : Nat → Bool) (q : Nat → Nat)  : lrC p q .ni = .ni := rfl
theorem rV_nf  : refsV .nf = [] := rfl
theorem rC_nf  : refs .nf = [] := rfl
theorem lV_nf (p : Nat → Bool) (q : Nat → Nat)  : lrV p q .nf = .nf := rfl
theorem lC_nf (p : Nat → Bool) (q : Nat → Nat)  : lrC p q .nf = .nf := rfl
theorem rV_nm  : refsV .nm = [] := rfl
theorem rC_nm  : refs .nm = [] := rfl
theorem lV_nm (p : Nat → Bool) (q : Nat → Nat)  : lrV p q .nm = .nm := rfl
theorem lC_nm (p : Nat → Bool) (q : Nat → Nat)  : lrC p q .nm = .nm := rfl
theorem rV_ez  : refsV .ez = [] := rfl
theorem rC_ez  : refs .ez = [] := rfl
theorem lV_ez (p : Nat → Bool) (q : Nat → Nat)  : lrV p q .ez = .ez := rfl
theorem lC_ez (p : Nat → Bool) (q : Nat → Nat)  : lrC p q .ez = .ez := rfl
theorem rV_ls (sz : Nat) (es : List (List AV)) : refsV (.ls sz es) = [] := rfl
theorem rC_ls (sz : Nat) (es : List (List AV)) : refs (.ls sz es) = [] := rfl
theorem lV_ls (p : Nat → Bool) (q : Nat → Nat) (sz : Nat) (es : List (List AV)) : lrV p q (.ls sz es) = (.ls sz es) := rfl
theorem lC_ls (p : Nat → Bool) (q : Nat → Nat) (sz : Nat) (es : List (List AV)) : lrC p q (.ls sz es) = (.ls sz es) := rfl
theorem rV_ri (sz : Nat) (es : List (List AV)) (i o : Nat) : refsV (.ri sz es i o) = [] := rfl
theorem rC_ri (sz : Nat) (es : List (List AV)) (i o : Nat) : refs (.ri sz es i o) = [] := rfl
theorem lV_ri (p : Nat → Bool) (q : Nat → Nat) (sz : Nat) (es : List (List AV)) (i o : Nat) : lrV p q (.ri sz es i o) = (.ri sz es i o) := rfl
theorem lC_ri (p : Nat → Bool) (q : Nat → Nat) (sz : Nat) (es : List (List AV)) (i o : Nat) : lrC p q (.ri sz es i o) = (.ri sz es i o) := rfl
theorem rV_ag (cs : List AV) : refsV (.ag cs) = cs.flatMap refs := rfl
theorem lV_ag (p : Nat → Bool) (q : Nat → Nat) (cs : List AV) : lrV p q (.ag cs) = .ag (cs.map (lrC p q)) := rfl
theorem rV_tp0 : refsV (.tp []) = [] := rfl
theorem lV_tp0 (p : Nat → Bool) (q : Nat → Nat) : lrV p q (.tp []) = .tp [] := rfl
theorem rV_fn (f : Nat) : refsV (.fn f []) = [] := rfl
theorem lV_fn (p : Nat → Bool) (q : Nat → Nat) (f : Nat) : lrV p q (.fn f []) = .fn f [] := rfl
theorem rV_re (sz b i o : Nat) : refsV (.re sz b i o) = [b] := rfl
theorem lV_re (p : Nat → Bool) (q : Nat → Nat) (sz b i o : Nat) : lrV p q (.re sz b i o) = if p b then .re sz (q b) i o else .ud := rfl
/-- A slice: its elements, of so many cells. -/
def SlA (sz : Nat) (es : List (List AV)) (A : AV) : Prop := (A = .ns ∧ es = []) ∨ A = .ls sz es
theorem SlA.lr {sz : Nat} {es : List (List AV)} {A : AV} (h : SlA sz es A) (p : Nat → Bool) (q : Nat → Nat) : lrC p q A = A := by
  rcases h with ⟨rfl, _⟩ | rfl <;> rfl
theorem SlA.lrv {sz : Nat} {es : List (List AV)} {A : AV} (h : SlA sz es A) (p : Nat → Bool) (q : Nat → Nat) : lrV p q A = A := by
  rcases h with ⟨rfl, _⟩ | rfl <;> rfl
theorem SlA.rfv {sz : Nat} {es : List (List AV)} {A : AV} (h : SlA sz es A) : refsV A = [] := by
  rcases h with ⟨rfl, _⟩ | rfl <;> rfl
theorem SlA.ud {sz : Nat} {es : List (List AV)} {A : AV} (h : SlA sz es A) : isUd A = false := by
  rcases h with ⟨rfl, _⟩ | rfl <;> rfl
theorem SlA.rf {sz : Nat} {es : List (List AV)} {A : AV} (h : SlA sz es A) : refs A = [] := by
  rcases h with ⟨rfl, _⟩ | rfl <;> rfl

variable {x y : Opd} {v w : AV}
theorem c_mv (h1 : rd tm x = v) : opC g run tm h nx (.mv x) = some ⟨v, h, nx⟩ := by subst h1; rfl
theorem c_pkt {c : Opd} (h0 : rd tm c = .bl true) (h1 : rd tm x = v) : opC g run tm h nx (.pk c x y) = some ⟨v, h, nx⟩ := by subst h1; simp [opC, opA, h0, one]
theorem c_pkf {c : Opd} (h0 : rd tm c = .bl false) (h1 : rd tm y = v) : opC g run tm h nx (.pk c x y) = some ⟨v, h, nx⟩ := by subst h1; simp [opC, opA, h0, one]
theorem c_bx {t : Nat} {cs : List AV} {n : Nat} (h1 : rd tm x = .ag cs) (hn : cs.length = n) : opC g run tm h nx (.bx t x) = some ⟨.re n nx 0 0, (nx, .rw true n [cs] t) :: h, nx + 1⟩ := by
  subst hn; simp [opC, opA, h1, cellsOf, ins]
theorem c_le {A : AV} {sz : Nat} {es : List (List AV)} (h1 : rd tm x = A) (h2 : SlA sz es A) : opC g run tm h nx (.le 1 x) = some ⟨.int .i64 ((es.length : Nat) : Int), h, nx⟩ := by
  rcases h2 with ⟨rfl, rfl⟩ | rfl <;> simp [opC, opA, h1, lenA, one]
theorem c_ia {A : AV} {sz : Nat} {es : List (List AV)} {i : Nat} (h1 : rd tm x = A) (h2 : SlA sz es A) (h3 : rd tm y = .int .i64 ((i : Nat) : Int)) (h4 : i < es.length) : opC g run tm h nx (.ia none sz x y) = some ⟨.ri sz es i 0, h, nx⟩ := by
  rcases h2 with ⟨rfl, rfl⟩ | rfl
  · simp at h4
  · simp only [opC, opA, h1, h3, bound]
    rw [if_neg (by simp), if_pos (by omega)]
    rfl
theorem c_fai {sz : Nat} {es : List (List AV)} {i o off o2 : Nat} (h1 : rd tm x = .ri sz es i o) (h3 : o + off = o2) : opC g run tm h nx (.fa off x) = some ⟨.ri sz es i o2, h, nx⟩ := by
  subst h3; simp [opC, opA, h1, moveP, one]
theorem c_fae {sz b i o off o2 : Nat} (h1 : rd tm x = .re sz b i o) (h2 : alive h b = true) (h3 : o + off = o2) : opC g run tm h nx (.fa off x) = some ⟨.re sz b i o2, h, nx⟩ := by
  subst h3
  simp only [opC, opA, h1, moveP, one]
  have : ∀ k, blk h b = k → k ≠ .dd := fun k hk hd => by rw [alive, hk, hd] at h2; simp at h2
  cases hk : blk h b <;> first | rfl | exact absurd rfl (this _ hk)
theorem c_ldi1 {sz : Nat} {es : List (List AV)} {i o : Nat} {e : List AV} (h1 : rd tm x = .ri sz es i o) (h2 : es[i]? = some e) (h3 : e[o]? = some v) : opC g run tm h nx (.ld none x) = some ⟨v, h, nx⟩ := by
  have ho := (List.getElem?_eq_some_iff.1 h3).1
  have : (e.drop o).take 1 = [v] := by rw [List.drop_eq_getElem_cons ho, ← (List.getElem?_eq_some_iff.1 h3).2]; rfl
  simp only [opC, opA, h1, loadA, cellsAt, cellsOfEl, h2, this]
  rw [if_pos (by omega)]; rfl
theorem c_ldin {sz : Nat} {es : List (List AV)} {i : Nat} {e : List AV} {n : Nat} (h1 : rd tm x = .ri sz es i 0) (h2 : es[i]? = some e) (h3 : e.length = n) : opC g run tm h nx (.ld (some n) x) = some ⟨.ag e, h, nx⟩ := by
  subst h3
  simp only [opC, opA, h1, loadA, cellsAt, cellsOfEl, h2]
  rw [if_pos (by omega)]; simp [one]
theorem c_lde1 {sz b o : Nat} {cs : List AV} {t : Nat} (h1 : rd tm x = .re sz b 0 o) (h2 : blk h b = .rw true sz [cs] t) (h3 : cs[o]? = some v) : opC g run tm h nx (.ld none x) = some ⟨v, h, nx⟩ := by
  have ho := (List.getElem?_eq_some_iff.1 h3).1
  have : (cs.drop o).take 1 = [v] := by rw [List.drop_eq_getElem_cons ho, ← (List.getElem?_eq_some_iff.1 h3).2]; rfl
  simp only [opC, opA, h1, loadA, cellsAt, h2, if_true, cellsOfEl, List.getElem?_cons_zero, this]
  rw [if_pos (by omega)]; rfl
theorem c_lden {sz b o n : Nat} {cs ds : List AV} {t : Nat} (h1 : rd tm x = .re sz b 0 o) (h2 : blk h b = .rw true sz [cs] t) (h3 : o + n ≤ cs.length) (h4 : (cs.drop o).take n = ds) : opC g run tm h nx (.ld (some n) x) = some ⟨.ag ds, h, nx⟩ := by
  simp only [opC, opA, h1, loadA, cellsAt, h2, if_true, cellsOfEl, List.getElem?_cons_zero, h4]
  rw [if_pos h3]; rfl
theorem c_nott (h1 : rd tm x = .bl true) : opC g run tm h nx (.un .not x) = some ⟨.bl false, h, nx⟩ := by simp [opC, opA, h1, one]
theorem c_notf (h1 : rd tm x = .bl false) : opC g run tm h nx (.un .not x) = some ⟨.bl true, h, nx⟩ := by simp [opC, opA, h1, one]
theorem c_add {i : Nat} (h1 : rd tm x = .int .i64 ((i : Nat) : Int)) (h2 : rd tm y = .int .i64 (.ofNat 1)) (h3 : i < 9223372036854775807) : opC g run tm h nx (.bn .add x y) = some ⟨.int .i64 ((i + 1 : Nat) : Int), h, nx⟩ := by
  simp only [opC, opA, h1, h2, binA, ne_eq, not_true_eq_false, if_false, Option.bind_some, one]
  have : IntKind.i64.wrap ((i : Int) + Int.ofNat 1) = ((i + 1 : Nat) : Int) := wrap_pos .i64 (i + 1) (by simp [mxK]; omega)
  rw [this]
theorem c_lsst {k : IntKind} {m n : Int} (h1 : rd tm x = .int k m) (h2 : rd tm y = .int k n) (h3 : m < n) : opC g run tm h nx (.bn .lss x y) = some ⟨.bl true, h, nx⟩ := by
  simp [opC, opA, h1, h2, binA, one, h3]
theorem c_lssf {k : IntKind} {m n : Int} (h1 : rd tm x = .int k m) (h2 : rd tm y = .int k n) (h3 : ¬ m < n) : opC g run tm h nx (.bn .lss x y) = some ⟨.bl false, h, nx⟩ := by
  simp [opC, opA, h1, h2, binA, one]; omega
theorem c_gtr {k : IntKind} {m n : Int} {t : Bool} (h1 : rd tm x = .int k m) (h2 : rd tm y = .int k n) (h3 : decide (m > n) = t) : opC g run tm h nx (.bn .gtr x y) = some ⟨.bl t, h, nx⟩ := by
  subst h3; simp [opC, opA, h1, h2, binA, one]
theorem c_eqli {k : IntKind} {m n : Int} {t : Bool} (h1 : rd tm x = .int k m) (h2 : rd tm y = .int k n) (h3 : (m == n) = t) : opC g run tm h nx (.bn .eql x y) = some ⟨.bl t, h, nx⟩ := by
  subst h3; simp [opC, opA, h1, h2, binA, one]
theorem c_neqit {k : IntKind} {m n : Int} (h1 : rd tm x = .int k m) (h2 : rd tm y = .int k n) (h3 : (m == n) = true) : opC g run tm h nx (.bn .neq x y) = some ⟨.bl false, h, nx⟩ := by
  simp [opC, opA, h1, h2, binA, one, bne, h3]
theorem c_neqif {k : IntKind} {m n : Int} (h1 : rd tm x = .int k m) (h2 : rd tm y = .int k n) (h3 : (m == n) = false) : opC g run tm h nx (.bn .neq x y) = some ⟨.bl true, h, nx⟩ := by
  simp [opC, opA, h1, h2, binA, one, bne, h3]
theorem c_eqls {m n : ByteArray} {t : Bool} (h1 : rd tm x = .st m) (h2 : rd tm y = .st n) (h3 : (m.toList == n.toList) = t) : opC g run tm h nx (.bn .eql x y) = some ⟨.bl t, h, nx⟩ := by
  subst h3; simp [opC, opA, h1, h2, binA, one]
theorem c_neqst {m n : ByteArray} (h1 : rd tm x = .st m) (h2 : rd tm y = .st n) (h3 : (m.toList == n.toList) = true) : opC g run tm h nx (.bn .neq x y) = some ⟨.bl false, h, nx⟩ := by
  simp [opC, opA, h1, h2, binA, one, h3]
theorem c_neqsf {m n : ByteArray} (h1 : rd tm x = .st m) (h2 : rd tm y = .st n) (h3 : (m.toList == n.toList) = false) : opC g run tm h nx (.bn .neq x y) = some ⟨.bl true, h, nx⟩ := by
  simp [opC, opA, h1, h2, binA, one, h3]
theorem c_eatt {ks : List Nat} {cs ds : List AV} (h1 : rd tm x = .ag cs) (h2 : rd tm y = .ag ds) (h3 : cs.length = ks.length) (h4 : ds.length = ks.length) (h5 : eqCs ks cs ds = some true) :
    opC g run tm h nx (.ea true ks x y) = some ⟨.bl false, h, nx⟩ := by simp [opC, opA, h1, h2, h3, h4, h5, one]
theorem c_eatf {ks : List Nat} {cs ds : List AV} (h1 : rd tm x = .ag cs) (h2 : rd tm y = .ag ds) (h3 : cs.length = ks.length) (h4 : ds.length = ks.length) (h5 : eqCs ks cs ds = some true) :
    opC g run tm h nx (.ea false ks x y) = some ⟨.bl true, h, nx⟩ := by simp [opC, opA, h1, h2, h3, h4, h5, one]
theorem c_eaft {ks : List Nat} {cs ds : List AV} (h1 : rd tm x = .ag cs) (h2 : rd tm y = .ag ds) (h3 : cs.length = ks.length) (h4 : ds.length = ks.length) (h5 : eqCs ks cs ds = some false) :
    opC g run tm h nx (.ea true ks x y) = some ⟨.bl true, h, nx⟩ := by simp [opC, opA, h1, h2, h3, h4, h5, one]
theorem c_eaff {ks : List Nat} {cs ds : List AV} (h1 : rd tm x = .ag cs) (h2 : rd tm y = .ag ds) (h3 : cs.length = ks.length) (h4 : ds.length = ks.length) (h5 : eqCs ks cs ds = some false) :
    opC g run tm h nx (.ea false ks x y) = some ⟨.bl false, h, nx⟩ := by simp [opC, opA, h1, h2, h3, h4, h5, one]
theorem c_ebttt (h1 : rd tm x = .bl true) (h2 : rd tm y = .bl true) : opC g run tm h nx (.eb true x y) = some ⟨.bl false, h, nx⟩ := by simp [opC, opA, h1, h2, one]
theorem c_ebttf (h1 : rd tm x = .bl true) (h2 : rd tm y = .bl true) : opC g run tm h nx (.eb false x y) = some ⟨.bl true, h, nx⟩ := by simp [opC, opA, h1, h2, one]
theorem c_ebtft (h1 : rd tm x = .bl true) (h2 : rd tm y = .bl false) : opC g run tm h nx (.eb true x y) = some ⟨.bl true, h, nx⟩ := by simp [opC, opA, h1, h2, one]
theorem c_ebtff (h1 : rd tm x = .bl true) (h2 : rd tm y = .bl false) : opC g run tm h nx (.eb false x y) = some ⟨.bl false, h, nx⟩ := by simp [opC, opA, h1, h2, one]
theorem c_ebftt (h1 : rd tm x = .bl false) (h2 : rd tm y = .bl true) : opC g run tm h nx (.eb true x y) = some ⟨.bl true, h, nx⟩ := by simp [opC, opA, h1, h2, one]
theorem c_ebftf (h1 : rd tm x = .bl false) (h2 : rd tm y = .bl true) : opC g run tm h nx (.eb false x y) = some ⟨.bl false, h, nx⟩ := by simp [opC, opA, h1, h2, one]
theorem c_ebfft (h1 : rd tm x = .bl false) (h2 : rd tm y = .bl false) : opC g run tm h nx (.eb true x y) = some ⟨.bl false, h, nx⟩ := by simp [opC, opA, h1, h2, one]
theorem c_ebfff (h1 : rd tm x = .bl false) (h2 : rd tm y = .bl false) : opC g run tm h nx (.eb false x y) = some ⟨.bl true, h, nx⟩ := by simp [opC, opA, h1, h2, one]
theorem c_al {z : List AV} {t : Nat} {n : Nat} (hn : z.length = n) : opC g run tm h nx (.al z t) = some ⟨.re n nx 0 0, (nx, .rw true n [z] t) :: h, nx + 1⟩ := by
  subst hn; rfl
theorem c_sr0 {sz b n : Nat} {cs new : List AV} {t : Nat} (h1 : rd tm x = .re sz b 0 0) (h2 : blk h b = .rw true sz [cs] t) (h3 : rd tm y = .ag new) (h4 : new.length = n) (h5 : cs.length = n) (h6 : new.any isUd = false) :
    opC g run tm h nx (.sr n x y) = some ⟨.ud, put h b (.rw true sz [new] t), nx⟩ := by
  subst h4
  have hs : splice cs new 0 = new := by simp [splice, h5]
  simp only [opC, opA, h1, h2, h3, cellsOf, h6]
  simp [h5, hs]
/-- A call of which a contract is known. -/
theorem c_cf {f : FuncId} {xs : List Opd} {as : List AV} (h1 : xs.map (rd tm) = as) (hi : g.inl f = false) (h2 : snapL (snapV h) as = some as) (h3 : g.ext f as = some v) (h4 : as.all (okV fun _ => false) = true) (h5 : inR nx v = (v, [], nx)) :
    opC g run tm h nx (.cf f xs) = some ⟨v, h, nx⟩ := by
  simp only [opC, h1, callA, hi, Bool.false_eq_true, if_false, h2, callP, h3, h4, Bool.true_or, if_true, h5, List.nil_append]
theorem clo_nil (h : HH) (n : Nat) (seen : List Nat) : clo h n [] seen = seen := by cases n <;> rfl
theorem wI_nil {o : CI} : wI g tm h o [] = [] := by
  unfold wI
  split
  · rfl
  · split
    · split
      · split
        · split <;> simp_all
        · rfl
      · rfl
    · rfl
theorem p_nil {ix : Nat} {fs : List Foot} : parC g run [] ix fs S = some S := rfl
/-- One operation of a drawn region, where no value that it reads names a block. -/
theorem p_flat {o : CI} {dp : List Nat} {l : List (CI × List Nat)} {ix : Nat} {fs : List Foot} {tm' : TT} {q : Option St} (h1 : ((readsI o).flatMap fun t => refsV (look .ud tm t)) = []) (h0 : lotT tm [] (readsI o) = tm')
    (h2 : oneC g run tm' [] nx o = some ⟨v, [], nx⟩) (h3 : lrV (domD [] nx nx) id v = v) (h4 : parC g run l (ix + 1) (⟨ix, [], [], [], []⟩ :: fs) ⟨putD o.dst v tm, h, nx, bs⟩ = q) :
    parC g run ((o, dp) :: l) ix fs ⟨tm, h, nx, bs⟩ = q := by
  rw [← h4]
  subst h0
  have hac : (if agn o.op = true then ([] : List Nat) else []) = [] := by split <;> rfl
  simp only [parC, h1, clo_nil, hac]
  have : lotH h [] [] = [] := rfl
  rw [this, h2]
  simp only [List.all_nil, if_true, Nat.sub_self, show upto nx 0 = [] from rfl, wI_nil, List.append_nil, Nat.le_refl, decide_true, Bool.true_and, h3, over]
  rw [if_pos]
  rw [List.all_eq_true]
  intro f _
  simp only [away_nil]
  simp [away]
theorem p_fs {d : Nat} {op : COp} {gd : Option (Nat × Bool)} {dp : List Nat} {l : List (CI × List Nat)} {ix : Nat} {fs : List Foot} {tm' : TT} {q : Option St} (h1 : ((readsI ⟨some d, op, gd⟩).flatMap fun t => refsV (look .ud tm t)) = []) (h0 : lotT tm [] (readsI ⟨some d, op, gd⟩) = tm')
    (h2 : oneC g run tm' [] nx ⟨some d, op, gd⟩ = some ⟨v, [], nx⟩) (h3 : lrV (domD [] nx nx) id v = v) (h4 : parC g run l (ix + 1) (⟨ix, [], [], [], []⟩ :: fs) ⟨(d, v) :: tm, h, nx, bs⟩ = q) :
    parC g run ((⟨some d, op, gd⟩, dp) :: l) ix fs ⟨tm, h, nx, bs⟩ = q := p_flat h1 h0 h2 h3 h4
/-- One operation of a drawn region that reads own memory alone. -/
theorem p_read {o : CI} {dp us ac : List Nat} {l : List (CI × List Nat)} {ix : Nat} {fs : List Foot} {tm' : TT} {h' : HH} {q : Option St} (hu : clo h 64 ((readsI o).flatMap fun t => refsV (look .ud tm t)) [] = us) (ha : (if agn o.op = true then ([] : List Nat) else us) = ac)
    (h0 : lotT tm us (readsI o) = tm') (hlt : us.all (fun b => decide (b < nx)) = true) (hh : lotH h us ac = h')
    (h2 : oneC g run tm' h' nx o = some ⟨v, h', nx⟩) (hq : qI g tm' o = true) (h3 : lrV (domD us nx nx) id v = v) (hf : fs.all (fun f => f.fr.isEmpty && f.wr.isEmpty) = true)
    (h4 : parC g run l (ix + 1) (⟨ix, us, ac, [], []⟩ :: fs) ⟨putD o.dst v tm, h, nx, bs⟩ = q) :
    parC g run ((o, dp) :: l) ix fs ⟨tm, h, nx, bs⟩ = q := by
  rw [← h4]
  subst h0
  simp only [parC, hu, ha, hh]
  rw [if_pos hlt, h2]
  have hw : wI g (lotT tm us (readsI o)) h' o us = [] := by unfold wI; rw [if_pos hq]
  simp only [Nat.sub_self, show upto nx 0 = [] from rfl, hw, List.append_nil, Nat.le_refl, decide_true, Bool.true_and, h3, over]
  rw [if_pos]
  rw [List.all_eq_true] at hf ⊢
  intro f hm
  have := hf f hm
  simp only [Bool.and_eq_true, List.isEmpty_iff] at this
  simp only [this.1, this.2]
  simp [away]

/-- A loop that ends at the first round that is 'bad', or behind them all. -/
theorem lp_run {live : List Nat} {body : CC} {n : Nat} {bad : Nat → Bool} {κ : Nat → St} {Q : Nat → EX × St → Prop} {Q' : EX × St → Prop}
    (hgo : ∀ run i, i < n → bad i = false → ∃ S', stepC g run body (κ i) = some (.nm, S') ∧ canon live S' = κ (i + 1))
    (hbad : ∀ run i, i < n → bad i = true → ∃ e : EX × St, stepC g run body (κ i) = some e ∧ e.1 ≠ .nm ∧ Q i e)
    (hend : ∀ run, ∃ e : EX × St, stepC g run body (κ n) = some e ∧ e.1 ≠ .nm ∧ Q' e) :
    ∀ (d i : Nat), i + d = n → ∀ K, d ≤ K →
      ((∃ j, i ≤ j ∧ j < n ∧ bad j = true ∧ ∃ e, Q j e ∧ ∀ S, canon live S = κ i → stepC g (evalC g K) (.lp live body) S = some e) ∨
        ((∀ j, i ≤ j → j < n → bad j = false) ∧ ∃ e, Q' e ∧ ∀ S, canon live S = κ i → stepC g (evalC g K) (.lp live body) S = some e)) := by
  intro d
  induction d with
  | zero =>
    intro i hi K hK
    right
    refine ⟨fun j h1 h2 => by omega, ?_⟩
    obtain ⟨e, h3, h1, h2⟩ := hend (evalC g K)
    obtain ⟨ex, S1⟩ := e
    refine ⟨_, h2, fun S hS => ?_⟩
    have hin : i = n := by omega
    simp only [stepC, hS, hin, h3]
    cases ex <;> first | rfl | exact absurd rfl h1
  | succ d ih =>
    intro i hi K hK
    cases hb : bad i with
    | true =>
      left
      obtain ⟨e, h3, h1, h2⟩ := hbad (evalC g K) i (by omega) hb
      obtain ⟨ex, S1⟩ := e
      refine ⟨i, Nat.le_refl _, by omega, hb, _, h2, fun S hS => ?_⟩
      simp only [stepC, hS, h3]
      cases ex <;> first | rfl | exact absurd rfl h1
    | false =>
      obtain ⟨K, rfl⟩ : ∃ k, K = k + 1 := ⟨K - 1, by omega⟩
      obtain ⟨S', h1, h2⟩ := hgo (evalC g (K + 1)) i (by omega) hb
      have hev : ∀ S, canon live S = κ i → stepC g (evalC g (K + 1)) (.lp live body) S = stepC g (evalC g K) (.lp live body) S' := fun S hS => by
        have : stepC g (evalC g (K + 1)) (.lp live body) S = evalC g (K + 1) (.lp live body) S' := by
          generalize evalC g (K + 1) = run at h1 ⊢
          simp only [stepC, hS, h1]
        rw [this]; rfl
      rcases ih (i + 1) (by omega) K (by omega) with ⟨j, h3, h4, h5, e, h6, h7⟩ | ⟨h3, e, h6, h7⟩
      · exact .inl ⟨j, by omega, h4, h5, e, h6, fun S hS => by rw [hev S hS]; exact h7 S' h2⟩
      · refine .inr ⟨fun j h5 h8 => ?_, e, h6, fun S hS => by rw [hev S hS]; exact h7 S' h2⟩
        by_cases hji : j = i
        · subst hji; exact hb
        · exact h3 j (by omega) h8
theorem c_cv {f : FuncId} {xs : List Opd} {as : List AV} (h0 : rd tm x = .fn f []) (h1 : xs.map (rd tm) = as) (hi : g.inl f = false) (h2 : snapL (snapV h) as = some as) (h3 : g.ext f as = some v) (h4 : as.all (okV fun _ => false) = true) (h5 : inR nx v = (v, [], nx)) :
    opC g run tm h nx (.cv x xs) = some ⟨v, h, nx⟩ := by
  simp only [opC, h0, h1, List.append_nil, callA, hi, Bool.false_eq_true, if_false, h2, callP, h3, h4, Bool.true_or, if_true, h5, List.nil_append]
end
end Go.Am
set_option linter.unusedSimpArgs false
set_option linter.unusedVariables false
namespace Go.Am
section
variable {g : Cfg} {run : CC → St → Option (EX × St)} {tm : TT} {h : HH} {nx bs : Nat} {S : St}

theorem canon_flat {live : List Nat} {tm' : TT} (h1 : (live.flatMap fun t => refsV (look .ud tm t)) = []) (h2 : ∀ p q, (live.map fun t => (t, lrV p q (look .ud tm t))) = tm') : canon live ⟨tm, h, nx, 0⟩ = ⟨tm', [], 0, 0⟩ := by
  have hf : (h.filter fun p => decide (p.1 < 0)) = [] := by simp
  simp only [canon, hf, List.flatMap_nil, List.append_nil, h1, List.map_nil, List.nil_append]
  simp only [show ∀ n, reach h 0 n [] [] = [] from fun n => by cases n <;> rfl, num, List.length_nil, h2]
theorem clo_one {b sz t : Nat} {cs : List AV} (hb : blk h b = .rw true sz [cs] t) (hc : cs.flatMap refs = []) : clo h 64 [b] [] = [b] := by
  have : refsB (blk h b) = [] := by rw [hb]; simp [refsB, hc]
  show (if ([] : List Nat).contains b then clo h 63 [] [] else clo h 63 (refsB (blk h b) ++ []) [b]) = [b]
  rw [this]; simp [clo_nil]
theorem lotH_one {b sz t : Nat} {cs : List AV} {U : List Nat} (hb : blk h b = .rw true sz [cs] t) (hr : ∀ p q, cs.map (lrC p q) = cs) : lotH h U [b] = [(b, .rw true sz [cs] t)] := by
  simp [lotH, hb, lrB, hr]
/-- One operation of a drawn region that reads one own variable. -/
theorem p_r1 {d : Nat} {op : COp} {gd : Option (Nat × Bool)} {dp : List Nat} {l : List (CI × List Nat)} {ix : Nat} {fs : List Foot} {tm' : TT} {q : Option St} {b sz t : Nat} {cs : List AV} {v : AV}
    (hu : ((readsI ⟨some d, op, gd⟩).flatMap fun t => refsV (look .ud tm t)) = [b]) (hb : blk h b = .rw true sz [cs] t) (hc : cs.flatMap refs = []) (hr : ∀ p q, cs.map (lrC p q) = cs) (hlt : b < nx) (hag : agn op = false)
    (h0 : lotT tm [b] (readsI ⟨some d, op, gd⟩) = tm') (h2 : oneC g run tm' [(b, .rw true sz [cs] t)] nx ⟨some d, op, gd⟩ = some ⟨v, [(b, .rw true sz [cs] t)], nx⟩) (hq : qI g tm' ⟨some d, op, gd⟩ = true) (h3 : lrV (domD [b] nx nx) id v = v)
    (hf : fs.all (fun f => f.fr.isEmpty && f.wr.isEmpty) = true) (h4 : parC g run l (ix + 1) (⟨ix, [b], [b], [], []⟩ :: fs) ⟨(d, v) :: tm, h, nx, bs⟩ = q) :
    parC g run ((⟨some d, op, gd⟩, dp) :: l) ix fs ⟨tm, h, nx, bs⟩ = q :=
  p_read (us := [b]) (ac := [b]) (by rw [hu]; exact clo_one hb hc) (by rw [hag]; rfl) h0 (by simpa using hlt) (lotH_one hb hr) h2 hq h3 hf h4
theorem canon_two {t1 t2 t3 n1 n2 T1 T2 : Nat} {k : IntKind} {i : Int} {cs cs' : List AV} (e1 : look .ud tm t1 = .re n1 0 0 0) (e2 : look .ud tm t2 = .re n2 1 0 0) (e3 : look .ud tm t3 = .int k i) (b1 : blk h 0 = .rw true n1 [cs] T1) (b2 : blk h 1 = .rw true n2 [cs'] T2)
    (c1 : cs.flatMap refs = []) (c2 : cs'.flatMap refs = []) (r1 : ∀ p q, cs.map (lrC p q) = cs) (r2 : ∀ p q, cs'.map (lrC p q) = cs') :
    canon [t1, t2, t3] ⟨tm, h, nx, 0⟩ = ⟨[(t1, .re n1 0 0 0), (t2, .re n2 1 0 0), (t3, .int k i)], [(0, .rw true n1 [cs] T1), (1, .rw true n2 [cs'] T2)], 2, 0⟩ := by
  have hf : (h.filter fun p => decide (p.1 < 0)) = [] := by simp
  have x1 : refsB (blk h 0) = [] := by rw [b1]; simp [refsB, c1]
  have x2 : refsB (blk h 1) = [] := by rw [b2]; simp [refsB, c2]
  have hm : reach h 0 4096 [0, 1] [] = [0, 1] := by
    show (if decide (0 < 0) || ([] : List Nat).contains 0 then _ else _) = _
    simp only [Nat.lt_irrefl, decide_false, List.contains_nil, Bool.or_false, Bool.false_eq_true, if_false, b1]
    show reach h 0 4095 (refsB (BK.rw true n1 [cs] T1) ++ [1]) ([] ++ [0]) = _
    rw [← b1, x1]
    show (if decide (1 < 0) || ([0] : List Nat).contains 1 then _ else _) = _
    simp only [show decide (1 < 0) = false from rfl, show ([0] : List Nat).contains 1 = false from rfl, Bool.or_false, Bool.false_eq_true, if_false, b2]
    show reach h 0 4094 (refsB (BK.rw true n2 [cs'] T2) ++ []) ([0] ++ [1]) = _
    rw [← b2, x2]
    rfl
  simp only [canon, hf, List.flatMap_cons, List.flatMap_nil, e1, e2, e3, rV_re, rV_int, List.nil_append, List.append_nil, List.cons_append, List.map_nil, List.map_cons, hm]
  simp [num, b1, b2, lrB, r1, r2, lV_re, lV_int, idxOf]
theorem canon_one {t1 t3 n1 T1 : Nat} {k : IntKind} {i : Int} {cs : List AV} (e1 : look .ud tm t1 = .re n1 0 0 0) (e3 : look .ud tm t3 = .int k i) (b1 : blk h 0 = .rw true n1 [cs] T1)
    (c1 : cs.flatMap refs = []) (r1 : ∀ p q, cs.map (lrC p q) = cs) :
    canon [t1, t3] ⟨tm, h, nx, 0⟩ = ⟨[(t1, .re n1 0 0 0), (t3, .int k i)], [(0, .rw true n1 [cs] T1)], 1, 0⟩ := by
  have hf : (h.filter fun p => decide (p.1 < 0)) = [] := by simp
  have x1 : refsB (blk h 0) = [] := by rw [b1]; simp [refsB, c1]
  have hm : reach h 0 4096 [0] [] = [0] := by
    show (if decide (0 < 0) || ([] : List Nat).contains 0 then _ else _) = _
    simp only [Nat.lt_irrefl, decide_false, List.contains_nil, Bool.or_false, Bool.false_eq_true, if_false, b1]
    show reach h 0 4095 (refsB (BK.rw true n1 [cs] T1) ++ []) ([] ++ [0]) = _
    rw [← b1, x1]
    rfl
  simp only [canon, hf, List.flatMap_cons, List.flatMap_nil, e1, e3, rV_re, rV_int, List.nil_append, List.append_nil, List.cons_append, List.map_nil, List.map_cons, hm]
  simp [num, b1, lrB, r1, lV_re, lV_int, idxOf]
theorem callP_bool {f : FuncId} {c : CF} {as : List AV} {b : Bool} {ex : EX} (hc : g.code f = some c) (he : g.ext f as = none) (ho : g.own f = []) (hl : as.length ≤ c.np) (hr : run c.code ⟨entry as, [], 0, 0⟩ = some (ex, S)) (hx : ex = .nm ∨ ex = .rt)
    (hv : results S c.res = some [.bl b]) : callP g run f as = some (.bl b) := by
  unfold callP
  rw [he]
  simp only [hc]
  rw [if_neg (by omega), hr]
  rcases hx with rfl | rfl <;> (simp only [hv, ho]; rfl)
end

theorem SlA.sn {sz : Nat} {es : List (List AV)} {A : AV} (hA : SlA sz es A) (h : HH) : snap h A = some A ∧ snapV h A = some A ∧ snapC h A = some A := by
  rcases hA with ⟨rfl, _⟩ | rfl <;> exact ⟨rfl, rfl, rfl⟩
theorem SlA.ok {sz : Nat} {es : List (List AV)} {A : AV} (hA : SlA sz es A) (p : Nat → Bool) : okV p A = true ∧ okC p A = true := by
  rcases hA with ⟨rfl, _⟩ | rfl <;> exact ⟨rfl, rfl⟩
theorem sV_int (h : HH) (k : IntKind) (n : Int) : snapV h (.int k n) = some (.int k n) := rfl
theorem sN_int (h : HH) (k : IntKind) (n : Int) : snap h (.int k n) = some (.int k n) := rfl
theorem oV_int (p : Nat → Bool) (k : IntKind) (n : Int) : okV p (.int k n) = true := rfl
theorem oC_int (p : Nat → Bool) (k : IntKind) (n : Int) : okC p (.int k n) = true := rfl
theorem sV_bl (h : HH) (b : Bool) : snapV h (.bl b) = some (.bl b) := rfl
theorem sN_bl (h : HH) (b : Bool) : snap h (.bl b) = some (.bl b) := rfl
theorem oV_bl (p : Nat → Bool) (b : Bool) : okV p (.bl b) = true := rfl
theorem oC_bl (p : Nat → Bool) (b : Bool) : okC p (.bl b) = true := rfl
theorem sV_st (h : HH) (s : ByteArray) : snapV h (.st s) = some (.st s) := rfl
theorem sN_st (h : HH) (s : ByteArray) : snap h (.st s) = some (.st s) := rfl
theorem oV_st (p : Nat → Bool) (s : ByteArray) : okV p (.st s) = true := rfl
theorem oC_st (p : Nat → Bool) (s : ByteArray) : okC p (.st s) = true := rfl
theorem sV_fn (h : HH) (f : Nat) : snapV h (.fn f []) = some (.fn f []) := rfl
theorem sN_fn (h : HH) (f : Nat) : snap h (.fn f []) = some (.fn f []) := rfl
theorem oV_fn (p : Nat → Bool) (f : Nat) : okV p (.fn f []) = true := rfl
theorem oC_fn (p : Nat → Bool) (f : Nat) : okC p (.fn f []) = true := rfl
theorem sV_ri (h : HH) (sz : Nat) (es : List (List AV)) (i o : Nat) : snapV h (.ri sz es i o) = some (.ri sz es i o) := rfl
theorem sN_ri (h : HH) (sz : Nat) (es : List (List AV)) (i o : Nat) : snap h (.ri sz es i o) = some (.ri sz es i o) := rfl
theorem oV_ri (p : Nat → Bool) (sz : Nat) (es : List (List AV)) (i o : Nat) : okV p (.ri sz es i o) = true := rfl
theorem oC_ri (p : Nat → Bool) (sz : Nat) (es : List (List AV)) (i o : Nat) : okC p (.ri sz es i o) = true := rfl
theorem sV_ls (h : HH) (sz : Nat) (es : List (List AV)) : snapV h (.ls sz es) = some (.ls sz es) := rfl
theorem sN_ls (h : HH) (sz : Nat) (es : List (List AV)) : snap h (.ls sz es) = some (.ls sz es) := rfl
theorem oV_ls (p : Nat → Bool) (sz : Nat) (es : List (List AV)) : okV p (.ls sz es) = true := rfl
theorem oC_ls (p : Nat → Bool) (sz : Nat) (es : List (List AV)) : okC p (.ls sz es) = true := rfl
theorem sV_ag (h : HH) (cs : List AV) : snapV h (.ag cs) = (snapL (snap h) cs).map .ag := rfl
theorem oV_ag (p : Nat → Bool) (cs : List AV) : okV p (.ag cs) = cs.all (okC p) := rfl
theorem uD_int (k : IntKind) (n : Int) : isUd (.int k n) = false := rfl
theorem uD_bl (b : Bool) : isUd (.bl b) = false := rfl
theorem uD_st (s : ByteArray) : isUd (.st s) = false := rfl
/-- Are two rows alike, element by element? -/
def sameBy (p : List AV → List AV → Bool) : List (List AV) → List (List AV) → Bool
  | [], [] => true
  | x :: xs, y :: ys => p x y && sameBy p xs ys
  | _, _ => false
theorem sameBy_len {p : List AV → List AV → Bool} : ∀ {a b : List (List AV)}, a.length ≠ b.length → sameBy p a b = false
  | [], [], h => by simp at h
  | [], _ :: _, _ => rfl
  | _ :: _, [], _ => rfl
  | x :: xs, y :: ys, h => by simp only [sameBy]; rw [sameBy_len (by simpa using h)]; simp
theorem sameBy_iff {p : List AV → List AV → Bool} : ∀ {a b : List (List AV)}, a.length = b.length → (sameBy p a b = true ↔ ∀ i, i < a.length → p (a.getD i []) (b.getD i []) = true)
  | [], [], h => by simp [sameBy]
  | x :: xs, y :: ys, h => by
    have ih := sameBy_iff (p := p) (a := xs) (b := ys) (by simpa using h)
    simp only [sameBy, Bool.and_eq_true, ih]
    constructor
    · rintro ⟨h1, h2⟩ i hi
      cases i with
      | zero => simpa using h1
      | succ i => simpa using h2 i (by simpa using hi)
    · intro h2
      exact ⟨by simpa using h2 0 (by simp), fun i hi => by simpa using h2 (i + 1) (by simpa using hi)⟩
theorem sameBy_refl {p : List AV → List AV → Bool} : ∀ {a : List (List AV)}, (∀ e ∈ a, p e e = true) → sameBy p a a = true
  | [], _ => rfl
  | x :: xs, h => by
    have h2 : sameBy p xs xs = true := sameBy_refl fun e he => h e (List.mem_cons_of_mem _ he)
    simp [sameBy, h x (List.mem_cons_self ..), h2]

/-- A slice's elements. -/
def el : AV → List (List AV)
  | .ls _ es => es
  | _ => []
/-- A slice whose elements have so many cells, all of this kind. -/
structure RowT (sz : Nat) (T : List AV → Prop) (A : AV) : Prop where
  sl : SlA sz (el A) A
  ok : ∀ e ∈ el A, T e
  len : (el A).length ≤ 9223372036854775807
theorem RowT.get {sz : Nat} {T : List AV → Prop} {A : AV} (h : RowT sz T A) {i : Nat} (hi : i < (el A).length) : ∃ e, (el A)[i]? = some e ∧ (el A).getD i [] = e ∧ T e := by
  refine ⟨(el A)[i], List.getElem?_eq_getElem hi, ?_, h.ok _ (List.getElem_mem hi)⟩
  simp [List.getD_eq_getElem?_getD, List.getElem?_eq_getElem hi]
def IntT (e : List AV) : Prop := ∃ n, e = [.int .i64 n]
def intE : List AV → List AV → Bool
  | [.int _ a], [.int _ b] => a == b
  | _, _ => false
/-- Two cells of the same kind, for '=='. -/
def likeC : AV → AV → Bool
  | .int k _, .int k' _ => decide (k = k')
  | .bl _, .bl _ => true
  | .st _, .st _ => true
  | _, _ => false
def likeL : List AV → List AV → Bool
  | [], [] => true
  | x :: xs, y :: ys => likeC x y && likeL xs ys
  | _, _ => false
def ksOf : List AV → List Nat
  | [] => []
  | .int .. :: l => 1 :: ksOf l
  | .bl _ :: l => 0 :: ksOf l
  | _ :: l => 2 :: ksOf l
def cellsE (ks : List Nat) (x y : List AV) : Bool := eqCs ks x y == some true
theorem eqCs_like : ∀ {z x y : List AV}, likeL z x = true → likeL z y = true → ∃ t, eqCs (ksOf z) x y = some t
  | [], [], [], _, _ => ⟨true, rfl⟩
  | c :: z, a :: x, b :: y, h1, h2 => by
    simp only [likeL, Bool.and_eq_true] at h1 h2
    obtain ⟨t, ht⟩ := eqCs_like h1.2 h2.2
    cases c <;> cases a <;> simp [likeC] at h1 <;> cases b <;> simp [likeC] at h2
    · obtain ⟨rfl, _⟩ := h1
      obtain ⟨rfl, _⟩ := h2
      simp only [ksOf, eqCs, eqC, if_true]
      split
      · exact ⟨t, ht⟩
      · exact ⟨false, rfl⟩
      · rename_i h; simp at h
    · simp only [ksOf, eqCs, eqC]
      split
      · exact ⟨t, ht⟩
      · exact ⟨false, rfl⟩
      · rename_i h; simp at h
    · simp only [ksOf, eqCs, eqC]
      split
      · exact ⟨t, ht⟩
      · exact ⟨false, rfl⟩
      · rename_i h; simp at h
theorem likeL_len : ∀ {z x : List AV}, likeL z x = true → x.length = z.length
  | [], [], _ => rfl
  | c :: z, a :: x, h => by simp only [likeL, Bool.and_eq_true] at h; simp [likeL_len h.2]
theorem likeL_rf : ∀ {z x : List AV}, likeL z x = true → x.flatMap refs = []
  | [], [], _ => rfl
  | c :: z, a :: x, h => by
    simp only [likeL, Bool.and_eq_true] at h
    rw [List.flatMap_cons, likeL_rf h.2]
    cases c <;> cases a <;> simp [likeC] at h <;> rfl
theorem likeL_lr : ∀ {z x : List AV} (p : Nat → Bool) (q : Nat → Nat), likeL z x = true → x.map (lrC p q) = x
  | [], [], _, _, _ => rfl
  | c :: z, a :: x, p, q, h => by
    simp only [likeL, Bool.and_eq_true] at h
    rw [List.map_cons, likeL_lr p q h.2]
    cases c <;> cases a <;> simp [likeC] at h <;> rfl
theorem eqCs_refl : ∀ {z x : List AV}, likeL z x = true → eqCs (ksOf z) x x = some true
  | [], [], _ => rfl
  | c :: z, a :: x, h => by
    simp only [likeL, Bool.and_eq_true] at h
    have := eqCs_refl h.2
    cases c <;> cases a <;> simp [likeC] at h <;> simp [ksOf, eqCs, eqC, this]
def TaskT (e : List AV) : Prop := likeL [.int .u8 0, .int .i64 0, .int .i64 0, .int .i64 0, .int .i64 0] e = true
def EventT (e : List AV) : Prop := likeL [.int .i64 0, .int .u8 0, .int .i64 0, .int .i64 0] e = true
def NodeT (e : List AV) : Prop := ∃ A t w, e = [A, .int .i64 t, .int .i64 w] ∧ RowT 1 IntT A
def nodeE : List AV → List AV → Bool
  | [A, .int _ t, .int _ w], [B, .int _ t', .int _ w'] => (t == t') && (w == w') && sameBy intE (el A) (el B)
  | _, _ => false
def runE : List AV → List AV → Bool
  | [.int _ i, .st k, A, .int _ s, B], [.int _ i', .st k', A', .int _ s', B'] => (i == i') && ((k.toList == k'.toList) && ((s == s') && (sameBy nodeE (el A) (el A') && sameBy (cellsE [1, 1, 1, 1, 1]) (el B) (el B'))))
  | _, _ => false
structure RunC (i : Int) (k : ByteArray) (A : AV) (s : Int) (B : AV) : Prop where
  a : RowT 3 NodeT A
  b : RowT 5 TaskT B
def replyE : List AV → List AV → Bool
  | [.int _ e, .int _ r, .int _ t, .int _ o, a, b, c, d, f, C], [.int _ e', .int _ r', .int _ t', .int _ o', a', b', c', d', f', C'] =>
    (e == e') && ((r == r') && ((t == t') && ((o == o') && (runE [a, b, c, d, f] [a', b', c', d', f'] && sameBy (cellsE [1, 1, 1, 1]) (el C) (el C')))))
  | _, _ => false
end Go.Am
set_option linter.unusedSimpArgs false
set_option linter.unusedVariables false
namespace Go.Am

/-- A cell that names no block. -/
def FlC (c : AV) : Prop := refs c = [] ∧ ∀ p q, lrC p q c = c
def FlL (cs : List AV) : Prop := cs.flatMap refs = [] ∧ ∀ p q, cs.map (lrC p q) = cs
/-- A value that names no block. -/
def Fl (v : AV) : Prop := refsV v = [] ∧ ∀ p q, lrV p q v = v
def AllFl : List AV → Prop
  | [] => True
  | v :: vs => Fl v ∧ AllFl vs
theorem FlC.i {k : IntKind} {n : Int} : FlC (.int k n) := ⟨rfl, fun _ _ => rfl⟩
theorem FlC.b {b : Bool} : FlC (.bl b) := ⟨rfl, fun _ _ => rfl⟩
theorem FlC.s {s : ByteArray} : FlC (.st s) := ⟨rfl, fun _ _ => rfl⟩
theorem FlC.n : FlC .ns := ⟨rfl, fun _ _ => rfl⟩
theorem FlC.l {sz : Nat} {es : List (List AV)} : FlC (.ls sz es) := ⟨rfl, fun _ _ => rfl⟩
theorem Fl.i {k : IntKind} {n : Int} : Fl (.int k n) := ⟨rfl, fun _ _ => rfl⟩
theorem Fl.b {b : Bool} : Fl (.bl b) := ⟨rfl, fun _ _ => rfl⟩
theorem Fl.s {s : ByteArray} : Fl (.st s) := ⟨rfl, fun _ _ => rfl⟩
theorem Fl.n : Fl .ns := ⟨rfl, fun _ _ => rfl⟩
theorem Fl.l {sz : Nat} {es : List (List AV)} : Fl (.ls sz es) := ⟨rfl, fun _ _ => rfl⟩
theorem Fl.r {sz : Nat} {es : List (List AV)} {i o : Nat} : Fl (.ri sz es i o) := ⟨rfl, fun _ _ => rfl⟩
theorem Fl.f {f : Nat} : Fl (.fn f []) := ⟨rfl, fun _ _ => rfl⟩
theorem Fl.t : Fl (.tp []) := ⟨rfl, fun _ _ => rfl⟩
theorem Fl.u : Fl .ud := ⟨rfl, fun _ _ => rfl⟩
theorem FlL.nil : FlL [] := ⟨rfl, fun _ _ => rfl⟩
theorem FlL.cons {c : AV} {cs : List AV} (h : FlC c) (hs : FlL cs) : FlL (c :: cs) := ⟨by rw [List.flatMap_cons, h.1, hs.1]; rfl, fun p q => by rw [List.map_cons, h.2, hs.2]⟩
theorem Fl.a {cs : List AV} (h : FlL cs) : Fl (.ag cs) := ⟨h.1, fun p q => by show AV.ag (cs.map (lrC p q)) = _; rw [h.2]⟩
theorem SlA.fl {sz : Nat} {es : List (List AV)} {A : AV} (h : SlA sz es A) : Fl A := ⟨h.rfv, h.lrv⟩
theorem SlA.fc {sz : Nat} {es : List (List AV)} {A : AV} (h : SlA sz es A) : FlC A := ⟨h.rf, h.lr⟩
theorem likeL_fl {z x : List AV} (h : likeL z x = true) : FlL x := ⟨likeL_rf h, fun p q => likeL_lr p q h⟩
theorem AllFl.cons {v : AV} {vs : List AV} (h : Fl v) (hs : AllFl vs) : AllFl (v :: vs) := ⟨h, hs⟩
theorem AllFl.nil : AllFl [] := trivial
theorem AllFl.rf : ∀ {vs : List AV}, AllFl vs → vs.flatMap refsV = []
  | [], _ => rfl
  | v :: vs, h => by rw [List.flatMap_cons, h.1.1, AllFl.rf h.2]; rfl
theorem AllFl.lr : ∀ {vs : List AV}, AllFl vs → ∀ p q, vs.map (lrV p q) = vs
  | [], _, _, _ => rfl
  | v :: vs, h, p, q => by rw [List.map_cons, h.1.2, AllFl.lr h.2]
theorem zip_map {ts : List Nat} {f : Nat → AV} {vs ws : List AV} {p : Nat → Bool} {q : Nat → Nat} (h : ts.map f = vs) (h2 : vs.map (lrV p q) = ws) : (ts.map fun t => (t, lrV p q (f t))) = ts.zip ws := by
  subst h; subst h2
  induction ts with
  | nil => rfl
  | cons t ts ih => simp only [List.map_cons, List.zip_cons_cons, ih]
theorem flat_map {ts : List Nat} {f : Nat → AV} {vs : List AV} (h : ts.map f = vs) : (ts.flatMap fun t => refsV (f t)) = vs.flatMap refsV := by
  subst h
  induction ts with
  | nil => rfl
  | cons t ts ih => simp only [List.flatMap_cons, List.map_cons, ih]

section
variable {g : Cfg} {run : CC → St → Option (EX × St)} {tm : TT} {h : HH} {nx bs : Nat} {v : AV} {q : Option St}
/-- An operation of a drawn region that sees no own memory. -/
theorem p_n {d : Nat} {op : COp} {gd : Option (Nat × Bool)} {dp rs : List Nat} {vs : List AV} {l : List (CI × List Nat)} {ix : Nat} {fs : List Foot} (hr : readsI ⟨some d, op, gd⟩ = rs) (hl : rs.map (look .ud tm) = vs) (ha : AllFl vs)
    (h2 : oneC g run (rs.zip vs) [] nx ⟨some d, op, gd⟩ = some ⟨v, [], nx⟩) (hv : Fl v) (h4 : parC g run l (ix + 1) (⟨ix, [], [], [], []⟩ :: fs) ⟨(d, v) :: tm, h, nx, bs⟩ = q) :
    parC g run ((⟨some d, op, gd⟩, dp) :: l) ix fs ⟨tm, h, nx, bs⟩ = q :=
  p_fs (tm' := rs.zip vs) (by rw [hr, flat_map hl, ha.rf]) (by rw [hr]; exact zip_map hl (ha.lr _ _)) h2 (hv.2 _ _) h4
/-- An operation of a drawn region that sees one own variable. -/
theorem p_1 {d : Nat} {op : COp} {gd : Option (Nat × Bool)} {dp rs : List Nat} {vs : List AV} {l : List (CI × List Nat)} {ix : Nat} {fs : List Foot} {b sz t : Nat} {cs : List AV} (hr : readsI ⟨some d, op, gd⟩ = rs) (hl : rs.map (look .ud tm) = vs)
    (hu : vs.flatMap refsV = [b]) (ha : vs.map (lrV ([b].contains ·) id) = vs) (hb : blk h b = .rw true sz [cs] t) (hc : FlL cs) (hlt : b < nx) (hag : agn op = false)
    (h2 : oneC g run (rs.zip vs) [(b, .rw true sz [cs] t)] nx ⟨some d, op, gd⟩ = some ⟨v, [(b, .rw true sz [cs] t)], nx⟩) (hq : qI g (rs.zip vs) ⟨some d, op, gd⟩ = true) (hv : lrV (domD [b] nx nx) id v = v)
    (hf : fs.all (fun f => f.fr.isEmpty && f.wr.isEmpty) = true) (h4 : parC g run l (ix + 1) (⟨ix, [b], [b], [], []⟩ :: fs) ⟨(d, v) :: tm, h, nx, bs⟩ = q) :
    parC g run ((⟨some d, op, gd⟩, dp) :: l) ix fs ⟨tm, h, nx, bs⟩ = q :=
  p_r1 (tm' := rs.zip vs) (by rw [hr, flat_map hl, hu]) hb hc.1 hc.2 hlt hag (by rw [hr]; exact zip_map hl ha) h2 hq hv hf h4
theorem canonF {live : List Nat} {vs : List AV} (hl : live.map (look .ud tm) = vs) (ha : AllFl vs) : canon live ⟨tm, h, nx, 0⟩ = ⟨live.zip vs, [], 0, 0⟩ :=
  canon_flat (by rw [flat_map hl, ha.rf]) fun p q => zip_map hl (ha.lr _ _)
/-- What may be lent to a call. -/
def ArgC (c : AV) : Prop := (∀ h, snap h c = some c) ∧ okC (fun _ => false) c = true ∧ isUd c = false
def ArgV (v : AV) : Prop := (∀ h, snapV h v = some v) ∧ okV (fun _ => false) v = true
def ArgCs : List AV → Prop
  | [] => True
  | c :: cs => ArgC c ∧ ArgCs cs
def ArgVs : List AV → Prop
  | [] => True
  | c :: cs => ArgV c ∧ ArgVs cs
theorem ArgC.i {k : IntKind} {n : Int} : ArgC (.int k n) := ⟨fun _ => rfl, rfl, rfl⟩
theorem ArgC.b {b : Bool} : ArgC (.bl b) := ⟨fun _ => rfl, rfl, rfl⟩
theorem ArgC.s {s : ByteArray} : ArgC (.st s) := ⟨fun _ => rfl, rfl, rfl⟩
theorem ArgC.n : ArgC .ns := ⟨fun _ => rfl, rfl, rfl⟩
theorem ArgV.i {k : IntKind} {n : Int} : ArgV (.int k n) := ⟨fun _ => rfl, rfl⟩
theorem ArgV.b {b : Bool} : ArgV (.bl b) := ⟨fun _ => rfl, rfl⟩
theorem ArgV.s {s : ByteArray} : ArgV (.st s) := ⟨fun _ => rfl, rfl⟩
theorem ArgV.f {f : Nat} : ArgV (.fn f []) := ⟨fun _ => rfl, rfl⟩
theorem SlA.ac {sz : Nat} {es : List (List AV)} {A : AV} (h : SlA sz es A) : ArgC A := ⟨fun x => (h.sn x).1, (h.ok _).2, h.ud⟩
theorem SlA.av {sz : Nat} {es : List (List AV)} {A : AV} (h : SlA sz es A) : ArgV A := ⟨fun x => (h.sn x).2.1, (h.ok _).1⟩
theorem ArgCs.nil : ArgCs [] := trivial
theorem ArgCs.cons {c : AV} {cs : List AV} (h : ArgC c) (hs : ArgCs cs) : ArgCs (c :: cs) := ⟨h, hs⟩
theorem ArgVs.nil : ArgVs [] := trivial
theorem ArgVs.cons {c : AV} {cs : List AV} (h : ArgV c) (hs : ArgVs cs) : ArgVs (c :: cs) := ⟨h, hs⟩
theorem ArgCs.sn : ∀ {cs : List AV}, ArgCs cs → ∀ h, snapL (snap h) cs = some cs
  | [], _, _ => rfl
  | c :: cs, hc, h => by simp only [snapL, hc.1.1 h, ArgCs.sn hc.2 h]
theorem ArgCs.ok : ∀ {cs : List AV}, ArgCs cs → cs.all (okC fun _ => false) = true
  | [], _ => rfl
  | c :: cs, hc => by simp only [List.all_cons, hc.1.2.1, ArgCs.ok hc.2, Bool.and_self]
theorem ArgCs.ud : ∀ {cs : List AV}, ArgCs cs → cs.any isUd = false
  | [], _ => rfl
  | c :: cs, hc => by simp only [List.any_cons, hc.1.2.2, ArgCs.ud hc.2, Bool.or_self]
theorem ArgV.a {cs : List AV} (h : ArgCs cs) : ArgV (.ag cs) := ⟨fun x => by simp only [snapV, h.sn x, Option.map_some], h.ok⟩
theorem ArgVs.sn : ∀ {cs : List AV}, ArgVs cs → ∀ h, snapL (snapV h) cs = some cs
  | [], _, _ => rfl
  | c :: cs, hc, h => by simp only [snapL, hc.1.1 h, ArgVs.sn hc.2 h]
theorem ArgVs.ok : ∀ {cs : List AV}, ArgVs cs → cs.all (okV fun _ => false) = true
  | [], _ => rfl
  | c :: cs, hc => by simp only [List.all_cons, hc.1.2, ArgVs.ok hc.2, Bool.and_self]
theorem c_cfa {f : FuncId} {xs : List Opd} {as : List AV} (h1 : xs.map (rd tm) = as) (hi : g.inl f = false) (ha : ArgVs as) (h3 : g.ext f as = some v) (h5 : inR nx v = (v, [], nx)) : opC g run tm h nx (.cf f xs) = some ⟨v, h, nx⟩ :=
  c_cf h1 hi (ha.sn h) h3 ha.ok h5
theorem c_cva {f : FuncId} {x : Opd} {xs : List Opd} {as : List AV} (h0 : rd tm x = .fn f []) (h1 : xs.map (rd tm) = as) (hi : g.inl f = false) (ha : ArgVs as) (h3 : g.ext f as = some v) (h5 : inR nx v = (v, [], nx)) : opC g run tm h nx (.cv x xs) = some ⟨v, h, nx⟩ :=
  c_cv h0 h1 hi (ha.sn h) h3 ha.ok h5
theorem c_sr0a {x y : Opd} {sz b n : Nat} {cs new : List AV} {t : Nat} (h1 : rd tm x = .re sz b 0 0) (h2 : blk h b = .rw true sz [cs] t) (h3 : rd tm y = .ag new) (h4 : new.length = n) (h5 : cs.length = n) (h6 : ArgCs new) :
    opC g run tm h nx (.sr n x y) = some ⟨.ud, put h b (.rw true sz [new] t), nx⟩ := c_sr0 h1 h2 h3 h4 h5 h6.ud
end
end Go.Am
namespace Go.Am
def bigN : List AV → Bool
  | A :: _ => decide ((((el A).length : Nat) : Int) > Int.ofNat 60)
  | _ => false
def greatE (a : List (List AV)) : Bool := decide (((a.length : Nat) : Int) > Int.ofNat 60) || a.any bigN
theorem any_getD {a : List (List AV)} {p : List AV → Bool} : (a.any p = true) ↔ ∃ i, i < a.length ∧ p (a.getD i []) = true := by
  rw [List.any_eq_true]
  constructor
  · rintro ⟨x, hx, hp⟩
    obtain ⟨i, hi⟩ := List.getElem?_of_mem hx
    have hl := (List.getElem?_eq_some_iff.1 hi).1
    exact ⟨i, hl, by rw [List.getD_eq_getElem?_getD, hi]; exact hp⟩
  · rintro ⟨i, hi, hp⟩
    rw [List.getD_eq_getElem?_getD, List.getElem?_eq_getElem hi] at hp
    exact ⟨a[i], List.getElem_mem hi, hp⟩
theorem nodeE_refl {e : List AV} (h : NodeT e) : nodeE e e = true := by
  obtain ⟨A, t, w, rfl, hA⟩ := h
  have h1 : sameBy intE (el A) (el A) = true := sameBy_refl fun e he => by
    obtain ⟨n, rfl⟩ := hA.ok e he
    simp [intE]
  simp [nodeE, h1]
theorem replyE_refl {A B C : AV} {e r t o i s : Int} {ky : ByteArray} (hA : RowT 3 NodeT A) (hB : RowT 5 TaskT B) (hC : RowT 4 EventT C) :
    replyE [.int .i64 e, .int .i64 r, .int .i64 t, .int .i64 o, .int .i64 i, .st ky, A, .int .u8 s, B, C] [.int .i64 e, .int .i64 r, .int .i64 t, .int .i64 o, .int .i64 i, .st ky, A, .int .u8 s, B, C] = true := by
  have h1 : sameBy nodeE (el A) (el A) = true := sameBy_refl fun e he => nodeE_refl (hA.ok e he)
  have h2 : sameBy (cellsE [1, 1, 1, 1, 1]) (el B) (el B) = true := sameBy_refl fun e he => by
    have : eqCs [1, 1, 1, 1, 1] e e = some true := eqCs_refl (hB.ok e he)
    simp [cellsE, this]
  have h3 : sameBy (cellsE [1, 1, 1, 1]) (el C) (el C) = true := sameBy_refl fun e he => by
    have : eqCs [1, 1, 1, 1] e e = some true := eqCs_refl (hC.ok e he)
    simp [cellsE, this]
  simp [replyE, runE, h1, h2, h3]

/-! Contracts, one behind the other. -/
open Classical in
noncomputable def ext1 (E : FuncId → List AV → Option AV) (f0 : FuncId) (dom : List AV → Prop) (val : List AV → AV) : FuncId → List AV → Option AV := fun f as => if f = f0 ∧ dom as then some (val as) else E f as
theorem ext1_hit {E : FuncId → List AV → Option AV} {f0 : FuncId} {dom : List AV → Prop} {val : List AV → AV} {as : List AV} {r : AV} (h : dom as) (hr : val as = r) : ext1 E f0 dom val f0 as = some r := by
  unfold ext1; rw [if_pos ⟨rfl, h⟩, hr]
theorem ext1_mis {E : FuncId → List AV → Option AV} {f f0 : FuncId} {dom : List AV → Prop} {val : List AV → AV} {as : List AV} {r : Option AV} (h : f ≠ f0) (hr : E f as = r) : ext1 E f0 dom val f as = r := by
  unfold ext1; rw [if_neg (fun h2 => h h2.1), hr]
def Tells (P : Program) (E : FuncId → List AV → Option AV) : Prop := ∀ f as r, E f as = some r → Ent P f ∧ PureOk P f as r
theorem tells0 (P : Program) : Tells P fun _ _ => none := fun f as r h => by simp at h
def cfgE (l : List (Nat × CF)) (E : FuncId → List AV → Option AV) : Cfg := { code := find l, own := fun _ => [], inl := fun _ => false, ext := E }
theorem tells1 {P : Program} {l : List (Nat × CF)} {E : FuncId → List AV → Option AV} {f0 : FuncId} {dom : List AV → Prop} {val : List AV → AV} (hm : P.follows .mixedOrders = true) (ht : Tied P l) (hE : Tells P E)
    (h : ∀ as, dom as → ∃ k, ∀ K, k ≤ K → evalP (cfgE l E) K f0 as = some (val as)) : Tells P (ext1 E f0 dom val) := fun f as r hr => by
  unfold ext1 at hr
  split at hr
  · rename_i hd
    obtain ⟨rfl, hd⟩ := hd
    injection hr with hr
    subst hr
    obtain ⟨k, hk⟩ := h as hd
    exact evalP_both (g := cfgE l E) hm ⟨fun f c hc => tied_find ht hc, hE⟩ (hk k (Nat.le_refl _))
  · exact hE f as r hr
end Go.Am
set_option linter.unusedSimpArgs false
set_option linter.unusedVariables false
namespace Go.Am
open Go.RowKit

/-- A type's shape. -/
inductive Sh where
  | int (k : IntKind)
  | bool
  | str
  | row (sz : Nat) (s : Sh)
  | fld (l : List Sh)
mutual
def Has : Sh → List AV → Prop
  | .int k, cs => ∃ m, cs = [.int k m] ∧ (Lit.int k m).wf = true
  | .bool, cs => ∃ b, cs = [.bl b]
  | .str, cs => ∃ s, cs = [.st s] ∧ s.size ≤ maxLen
  | .row sz s, cs => cs = [.ns] ∨ ∃ es, cs = [.ls sz es] ∧ es.length ≤ maxLen ∧ ∀ x ∈ es, x.length = sz ∧ Has s x
  | .fld l, cs => HasL l cs
def HasL : List Sh → List AV → Prop
  | [], cs => cs = []
  | s :: l, cs => ∃ a b, cs = a ++ b ∧ Has s a ∧ HasL l b
end
def shL (f : TypeId → Option Sh) : List Field → Option (List Sh)
  | [] => some []
  | x :: l => match f x.type, shL f l with
    | some s, some r => some (s :: r)
    | _, _ => none
def shOf (P : Program) : Nat → TypeId → Option Sh
  | 0, _ => none
  | n + 1, t => match P.underlying t with
    | some .bool => some .bool
    | some (.int k) => some (.int k)
    | some .string => some .str
    | some (.slice e) => (shOf P n e).map (.row (P.cellsOf e))
    | some (.struct fs) => (shL (shOf P n) fs.toList).map .fld
    | _ => none
theorem hasL_of {T : TypeId → List AV → Prop} {f : TypeId → Option Sh} (hT : ∀ t s cs, f t = some s → T t cs → Has s cs) : ∀ {fs : List Field} {l : List Sh} {cs : List AV}, shL f fs = some l → TyF T fs cs → HasL l cs
  | [], l, cs, h, h2 => by simp [shL] at h; subst h; simpa [HasL, TyF] using h2
  | x :: fs, l, cs, h, h2 => by
    simp only [shL] at h
    cases hx : f x.type with
    | none => rw [hx] at h; simp at h
    | some s =>
      cases hl : shL f fs with
      | none => rw [hx, hl] at h; simp at h
      | some r =>
        rw [hx, hl] at h
        simp only [Option.some.injEq] at h
        subst h
        obtain ⟨a, b, rfl, h3, h4⟩ := h2
        exact ⟨a, b, rfl, hT _ _ _ hx h3, hasL_of hT hl h4⟩
theorem ty_has {P : Program} : ∀ (n : Nat) (t : TypeId) (s : Sh) (cs : List AV), shOf P n t = some s → Ty P n t cs → Has s cs
  | 0, t, s, cs, h, _ => by simp [shOf] at h
  | n + 1, t, s, cs, h, h2 => by
    unfold shOf at h
    unfold Ty at h2
    cases hu : P.underlying t with
    | none => rw [hu] at h; simp at h
    | some ty =>
      rw [hu] at h h2
      cases ty <;> simp only at h h2 <;> first | (cases h; done) | skip
      case bool => simp only [Option.some.injEq] at h; subst h; simpa [Has] using h2
      case int k => simp only [Option.some.injEq] at h; subst h; simpa [Has] using h2
      case string => simp only [Option.some.injEq] at h; subst h; simpa [Has] using h2
      case slice e =>
        simp only [Option.map_eq_some_iff] at h
        obtain ⟨s', hs', rfl⟩ := h
        rcases h2 with h2 | ⟨es, h3, h4, h5⟩
        · exact .inl h2
        · exact .inr ⟨es, h3, h4, fun x hx => ⟨(h5 x hx).1, ty_has n e s' x hs' (h5 x hx).2⟩⟩
      case struct fs =>
        simp only [Option.map_eq_some_iff] at h
        obtain ⟨l, hl, rfl⟩ := h
        exact hasL_of (fun t s cs h1 h2 => ty_has n t s cs h1 h2) hl h2
def isStruct (P : Program) (t : TypeId) : Bool := match P.underlying t with
  | some (.struct _) => true
  | _ => false
/-- A struct argument, as it reads. -/
theorem arg_has {H : Type} {enc : TypeId × Value → H} {P : Program} {W : World} {spare : Nat → Bool} {held : Bool} {n : Nat} {t : TypeId} {s : Sh} {r : Reach} {v : Value} {d : DataW H} {ps : List MemPlace} {b1 b2 : Nat}
    (hp : PlainT P n t = true) (hs : shOf P n t = some s) (hst : isStruct P t = true) (hok : Value.okWide P W r b1 t v) (h : DataW.Trod enc P W b2 spare held t v d ps) : ∃ cs, Has s cs ∧ RpV (AllI W) M0 W (.ag cs) v := by
  obtain ⟨fuel, h⟩ := h
  obtain ⟨as, h1, h2⟩ := read_ok n fuel t _ d ps hp h
  refine ⟨as, ty_has n t s as hs h1, ?_⟩
  unfold Value.okWide at hok
  unfold isStruct at hst
  cases hu : P.underlying t with
  | none => rw [hu] at hst; simp at hst
  | some ty =>
    rw [hu] at hst hok
    cases ty <;> simp only at hst hok <;> first | (simp at hst; done) | skip
    obtain ⟨cs, rfl, _, _⟩ := hok
    exact ⟨cs, rfl, h2⟩
theorem args_walk {P : Program} {f : FuncId} {as : List AV} {b : Bool} (h : PureOk P f as (.bl b)) (W : World) (vals : Array Value) (ha : All2 (RpV (AllI W) M0 W) as vals.toList) :
    Calls P f vals W fun e W' => e = .returned (.bool b) ∧ Below W.heap.size W W' := by
  refine (h (AllI W) W vals (fun _ h => h) ha).mono fun e W' he => ?_
  cases e with
  | returned v =>
    obtain ⟨I', h1, h2, h3, h4, h5, h6, h7, h8⟩ := he
    obtain ⟨Mn, _, _, _, hr⟩ := h8 0
    have hr' : Rp I' Mn W' (.bl b) v := hr
    cases hr'
    exact ⟨rfl, h1, h2, h3, h4, h5⟩
  | panicked c => exact he.elim
  | outgrown => exact he.elim
theorem has_row {sz : Nat} {s : Sh} {T : List AV → Prop} {cs : List AV} (h : Has (.row sz s) cs) (hT : ∀ e, Has s e → T e) : ∃ A, cs = [A] ∧ RowT sz T A := by
  rcases h with rfl | ⟨es, rfl, hl, hx⟩
  · exact ⟨.ns, rfl, .inl ⟨rfl, rfl⟩, fun e he => by simp [el] at he, by simp [el]⟩
  · refine ⟨.ls sz es, rfl, .inr rfl, fun e he => hT e (hx e he).2, ?_⟩
    show es.length ≤ _
    have : maxLen = 9223372036854775807 := by decide
    omega
theorem has_int {k : IntKind} {cs : List AV} (h : Has (.int k) cs) : ∃ m, cs = [.int k m] := by obtain ⟨m, h, _⟩ := h; exact ⟨m, h⟩
theorem has_str {cs : List AV} (h : Has .str cs) : ∃ m, cs = [.st m] := by obtain ⟨m, h, _⟩ := h; exact ⟨m, h⟩
theorem has_cons {s : Sh} {l : List Sh} {cs : List AV} (h : Has (.fld (s :: l)) cs) : ∃ a b, cs = a ++ b ∧ Has s a ∧ Has (.fld l) b := h
theorem has_nil {cs : List AV} (h : Has (.fld []) cs) : cs = [] := h
theorem node_of {e : List AV} (h : Has (.fld [.row 1 (.int .i64), .int .i64, .int .i64]) e) : NodeT e := by
  obtain ⟨a, b, rfl, h1, h⟩ := has_cons h
  obtain ⟨a2, b2, rfl, h2, h⟩ := has_cons h
  obtain ⟨a3, b3, rfl, h3, h⟩ := has_cons h
  obtain rfl := has_nil h
  obtain ⟨A, rfl, hA⟩ := has_row (T := IntT) h1 fun e he => has_int he
  obtain ⟨t, rfl⟩ := has_int h2
  obtain ⟨w, rfl⟩ := has_int h3
  exact ⟨A, t, w, rfl, hA⟩
theorem task_of {e : List AV} (h : Has (.fld [.int .u8, .int .i64, .int .i64, .int .i64, .int .i64]) e) : TaskT e := by
  obtain ⟨a, b, rfl, h1, h⟩ := has_cons h
  obtain ⟨a2, b2, rfl, h2, h⟩ := has_cons h
  obtain ⟨a3, b3, rfl, h3, h⟩ := has_cons h
  obtain ⟨a4, b4, rfl, h4, h⟩ := has_cons h
  obtain ⟨a5, b5, rfl, h5, h⟩ := has_cons h
  obtain rfl := has_nil h
  obtain ⟨x1, rfl⟩ := has_int h1
  obtain ⟨x2, rfl⟩ := has_int h2
  obtain ⟨x3, rfl⟩ := has_int h3
  obtain ⟨x4, rfl⟩ := has_int h4
  obtain ⟨x5, rfl⟩ := has_int h5
  rfl
theorem event_of {e : List AV} (h : Has (.fld [.int .i64, .int .u8, .int .i64, .int .i64]) e) : EventT e := by
  obtain ⟨a, b, rfl, h1, h⟩ := has_cons h
  obtain ⟨a2, b2, rfl, h2, h⟩ := has_cons h
  obtain ⟨a3, b3, rfl, h3, h⟩ := has_cons h
  obtain ⟨a4, b4, rfl, h4, h⟩ := has_cons h
  obtain rfl := has_nil h
  obtain ⟨x1, rfl⟩ := has_int h1
  obtain ⟨x2, rfl⟩ := has_int h2
  obtain ⟨x3, rfl⟩ := has_int h3
  obtain ⟨x4, rfl⟩ := has_int h4
  rfl
def shNode : Sh := .fld [.row 1 (.int .i64), .int .i64, .int .i64]
def shTask : Sh := .fld [.int .u8, .int .i64, .int .i64, .int .i64, .int .i64]
def shEvent : Sh := .fld [.int .i64, .int .u8, .int .i64, .int .i64]
def shRun : Sh := .fld [.int .i64, .str, .fld [.row 3 shNode], .int .u8, .row 5 shTask]
def shReply : Sh := .fld [.int .i64, .int .i64, .int .i64, .int .i64, shRun, .row 4 shEvent]
theorem reply_of {cs : List AV} (h : Has shReply cs) : ∃ (e r t o i : Int) (ky : ByteArray) (A : AV) (s : Int) (B C : AV), cs = [.int .i64 e, .int .i64 r, .int .i64 t, .int .i64 o, .int .i64 i, .st ky, A, .int .u8 s, B, C] ∧ RowT 3 NodeT A ∧ RowT 5 TaskT B ∧ RowT 4 EventT C := by
  obtain ⟨a1, b1, rfl, h1, h⟩ := has_cons h
  obtain ⟨a2, b2, rfl, h2, h⟩ := has_cons h
  obtain ⟨a3, b3, rfl, h3, h⟩ := has_cons h
  obtain ⟨a4, b4, rfl, h4, h⟩ := has_cons h
  obtain ⟨a5, b5, rfl, h5, h⟩ := has_cons h
  obtain ⟨a6, b6, rfl, h6, h⟩ := has_cons h
  obtain rfl := has_nil h
  obtain ⟨c1, d1, rfl, k1, h5⟩ := has_cons h5
  obtain ⟨c2, d2, rfl, k2, h5⟩ := has_cons h5
  obtain ⟨c3, d3, rfl, k3, h5⟩ := has_cons h5
  obtain ⟨c4, d4, rfl, k4, h5⟩ := has_cons h5
  obtain ⟨c5, d5, rfl, k5, h5⟩ := has_cons h5
  obtain rfl := has_nil h5
  obtain ⟨c6, d6, rfl, k6, k3⟩ := has_cons k3
  obtain rfl := has_nil k3
  obtain ⟨e, rfl⟩ := has_int h1
  obtain ⟨r, rfl⟩ := has_int h2
  obtain ⟨t, rfl⟩ := has_int h3
  obtain ⟨o, rfl⟩ := has_int h4
  obtain ⟨i, rfl⟩ := has_int k1
  obtain ⟨ky, rfl⟩ := has_str k2
  obtain ⟨A, rfl, hA⟩ := has_row (T := NodeT) k6 fun e he => node_of he
  obtain ⟨s, rfl⟩ := has_int k4
  obtain ⟨B, rfl, hB⟩ := has_row (T := TaskT) k5 fun e he => task_of he
  obtain ⟨C, rfl, hC⟩ := has_row (T := EventT) h6 fun e he => event_of he
  exact ⟨e, r, t, o, i, ky, A, s, B, C, rfl, hA, hB, hC⟩
end Go.Am
