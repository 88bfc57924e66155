/- An abstract machine for the compiled code, and the proof that what it computes the code computes: part 2. -/
import Derived.Test.YtbkpphmonfeaoaaAmA
import Derived.Orders
import Derived.Conc.EntryLaws
import Derived.Conc.MuLone
set_option linter.unusedSimpArgs false
set_option linter.unusedVariables false
namespace Go.Am

structure SimB (I : Nat → Prop) (M : MU) (c : Nat → BK) (dom : Nat → Prop) (w : World) : Prop where
  blks : ∀ b, RpB I M w b (c b)
  inj : ∀ a b rb oa ob, M a = some (some (rb, oa)) → M b = some (some (rb, ob)) → a = b
  sep : ∀ rb, owned M rb → ¬ I rb
  bnd : ∀ rb, owned M rb → rb < w.heap.size
  ibd : ∀ b, I b → b < w.heap.size
  fr : ∀ b, ¬ dom b → M b = none

theorem SimH.toB {I : Nat → Prop} {M : MU} {h : List (Nat × BK)} {nx : Nat} {w : World} (hs : SimH I M h nx w) : SimB I M (blk h) (· < nx) w :=
  ⟨hs.blks, hs.inj, hs.sep, hs.bnd, hs.ibd, fun b hb => hs.fr b (Nat.le_of_not_lt hb)⟩
theorem SimB.toH {I : Nat → Prop} {M : MU} {h : List (Nat × BK)} {nx : Nat} {w : World} {dom : Nat → Prop} {c : Nat → BK} (hs : SimB I M c dom w)
    (hc : ∀ b, blk h b = c b) (hd : ∀ b, dom b → b < nx) : SimH I M h nx w :=
  ⟨fun b => by rw [hc]; exact hs.blks b, hs.inj, hs.sep, hs.bnd, hs.ibd, fun b hb => hs.fr b fun h => absurd (hd b h) (by omega)⟩

section ren
variable {I : Nat → Prop} {M M' : MU} {w : World} {p : Nat → Bool} {r : Nat → Nat}

theorem renP_ok (hM : ∀ b x, p b = true → M b = some x → M' (r b) = some x) {c : AV} {v : Value} (hc : okP p c = true) (h : Rp I M w c v) : Rp I M' w (renP r c) v := by
  cases h <;> simp only [okP, renP] at hc ⊢ <;> first
    | (constructor; done)
    | (constructor <;> assumption)
    | contradiction
    | skip
  case reD sz b i off hb hv => exact .reD sz (r b) i off v (hM b _ hc hb) hv
  case re sz b i off rb o hb => exact .re sz (r b) i off rb o (hM b _ hc hb)

theorem ren_ok (hM : ∀ b x, p b = true → M b = some x → M' (r b) = some x) {c : AV} {v : Value} (hc : okC p c = true) (h : Rp I M w c v) : Rp I M' w (ren r c) v := by
  cases h <;> simp only [okC, ren] at hc ⊢ <;> first
    | (constructor; done)
    | (constructor <;> assumption)
    | contradiction
    | skip
  case slD sz b lo len hb hv => exact .slD sz (r b) lo len v (hM b _ hc hb) hv
  case sl sz b lo len rb o cap ad t n hlc had hn hb hs => exact .sl sz (r b) lo len rb o cap ad t n (hM b _ hc hb) hlc had hs hn
  case reD sz b i off hb hv => exact .reD sz (r b) i off v (hM b _ hc hb) hv
  case re sz b i off rb o hb => exact .re sz (r b) i off rb o (hM b _ hc hb)
  case mpD b hb hv => exact .mpD (r b) v (hM b _ hc hb) hv
  case mp b rb hb => exact .mp (r b) rb (hM b _ hc hb)
  case fn f caps vs hl f' fs us hfk hr =>
    refine .fn f _ vs (by simpa using hl) (fun i c v h1 h2 => ?_) f' fs us hfk
    rw [List.getElem?_map] at h1
    cases h3 : caps[i]? with
    | none => rw [h3] at h1; simp at h1
    | some c0 =>
      rw [h3] at h1
      simp at h1
      subst h1
      exact renP_ok hM ((List.all_eq_true.1 hc) c0 (List.mem_of_getElem? h3)) (hr i c0 v h3 h2)

theorem lrC_ok (hM : ∀ b x, p b = true → M b = some x → M' (r b) = some x) {c : AV} {v : Value} (h : Rp I M w c v) : Rp I M' w (lrC p r c) v := by
  unfold lrC
  split
  · rename_i hc; exact ren_ok hM hc h
  · exact .ud v

theorem All2.map_left {α β γ : Type} {R : α → β → Prop} {S : γ → β → Prop} {f : α → γ} (hf : ∀ a b, R a b → S (f a) b) {as : List α} {bs : List β} (h : All2 R as bs) : All2 S (as.map f) bs := by
  induction h with
  | nil => exact .nil
  | cons h1 _ ih => exact .cons (hf _ _ h1) ih

theorem ren_shape (r : Nat → Nat) (c : AV) (h : ∀ l, c ≠ .ag l) : ∀ l, ren r c ≠ .ag l := by
  cases c <;> simp [ren] at h ⊢
theorem lrC_shape (p : Nat → Bool) (r : Nat → Nat) (c : AV) : (∀ l, lrC p r c ≠ .ag l) ∧ (∀ l, lrC p r c ≠ .tp l) := by
  unfold lrC
  split
  · rename_i h
    cases c <;> simp [ren, okC] at h ⊢
  · simp

theorem lrW_ok (hM : ∀ b x, p b = true → M b = some x → M' (r b) = some x) {c : AV} {v : Value} (h : RpW I M w c v) : RpW I M' w (lrW p r c) v := by
  have key : ∀ c0, Rp I M w c0 v → RpW I M' w (lrC p r c0) v := fun c0 h0 => by
    have h1 := lrC_ok (p := p) (r := r) hM h0
    have h2 := (lrC_shape p r c0).1
    generalize lrC p r c0 = c1 at h1 h2 ⊢
    cases c1 <;> simp only [RpW] <;> first | exact h1 | (exact absurd rfl (h2 _))
  cases c <;> simp only [RpW, lrW] at h ⊢ <;> first
    | exact key _ h
    | (obtain ⟨vs, rfl, h2⟩ := h
       exact ⟨vs, rfl, h2.map_left fun a b hab => lrC_ok hM hab⟩)

theorem lrV_ok (hM : ∀ b x, p b = true → M b = some x → M' (r b) = some x) {c : AV} {v : Value} (h : RpV I M w c v) : RpV I M' w (lrV p r c) v := by
  have key : ∀ c0, (∀ l, c0 ≠ .tp l) → RpW I M w c0 v → RpV I M' w (lrW p r c0) v := fun c0 hnt h0 => by
    have h1 := lrW_ok (p := p) (r := r) hM h0
    have h2 : ∀ l, lrW p r c0 ≠ .tp l := by
      intro l
      cases c0 <;> simp only [lrW] <;> first | exact (lrC_shape p r _).2 l | simp
    generalize lrW p r c0 = c1 at h1 h2 ⊢
    cases c1 <;> simp only [RpV] <;> first | exact h1 | (exact absurd rfl (h2 _))
  cases c <;> simp only [RpV] at h <;> first
    | (simp only [lrV]; exact key _ (by simp) h)
    | (obtain ⟨vs, rfl, h2⟩ := h
       simp only [lrV, RpV]
       exact ⟨vs, rfl, h2.map_left fun a b hab => lrW_ok hM hab⟩)

theorem lrB_ok (hM : ∀ b x, p b = true → M b = some x → M' (r b) = some x) {b b' : Nat} (hb : ∀ x, M b = some x → M' b' = some x) {k : BK} (h : RpB I M w b k) : RpB I M' w b' (lrB p r k) := by
  cases k with
  | dd => trivial
  | mp es =>
    obtain ⟨rb, ents, ck, h1, h2, h3⟩ := h
    exact ⟨rb, ents, ck, hb _ h1, h2, h3⟩
  | rw v sz es t =>
    obtain ⟨rb, o, arr, t', lo, hi, h1, h2, h3, h4, h5, h6⟩ := h
    cases v with
    | false => exact ⟨rb, o, arr, t', lo, hi, hb _ h1, h2, h3, h4, h5, h6⟩
    | true =>
      refine ⟨rb, o, arr, t', lo, hi, hb _ h1, h2, h3, by simpa using h4, ?_, fun i e j c h7 h8 => ?_⟩
      · intro e he
        obtain ⟨e0, he0, rfl⟩ := List.mem_map.1 he
        simpa using h5 e0 he0
      · rw [List.getElem?_map] at h7
        cases h9 : es[i]? with
        | none => rw [h9] at h7; simp at h7
        | some e0 =>
          rw [h9] at h7; simp at h7; subst h7
          rw [List.getElem?_map] at h8
          cases h10 : e0[j]? with
          | none => rw [h10] at h8; simp at h8
          | some c0 =>
            rw [h10] at h8; simp at h8; subst h8
            obtain ⟨u, hu, hru⟩ := h6 i e0 j c0 h9 h10
            exact ⟨u, hu, lrC_ok hM hru⟩
end ren
end Go.Am
set_option linter.unusedSimpArgs false
set_option linter.unusedVariables false
namespace Go.Am
section
variable {I I' : Nat → Prop} {M M' : MU} {w w' : World} {c : Nat → BK} {dom : Nat → Prop} {U : List Nat} {id0 nx' : Nat} {h' : List (Nat × BK)}

def cutM (M : MU) (U : List Nat) : MU := fun b => if U.contains b then M b else none

theorem cutM_some {b : Nat} {x} (h : cutM M U b = some x) : U.contains b = true ∧ M b = some x := by
  unfold cutM at h
  split at h
  · exact ⟨by assumption, h⟩
  · simp at h
theorem cutM_owned {rb : Nat} (h : owned (cutM M U) rb) : owned M rb := by
  obtain ⟨b, o, hb⟩ := h
  exact ⟨b, o, (cutM_some hb).2⟩

theorem blk_map (f : Nat → BK) (b : Nat) : ∀ U : List Nat, blk (U.map fun b => (b, f b)) b = if U.contains b then f b else .dd
  | [] => by simp [blk, look]
  | a :: U => by
    have ih := blk_map f b U
    unfold blk at ih ⊢
    simp only [List.map_cons, look]
    by_cases e : a = b
    · subst e; simp
    · rw [if_neg e, ih]
      have : (b == a) = false := by simpa using fun h => e h.symm
      have e2 : ¬ b = a := fun h => e h.symm
      simp [e2]

theorem lot_ok {h : List (Nat × BK)} {A : List Nat} (hs : SimB I M c dom w) (hc : ∀ b ∈ A, blk h b = c b) (hA : ∀ b ∈ A, b ∈ U) (hU : ∀ b ∈ U, b < id0) : SimH I (cutM M U) (lotH h U A) id0 w := by
  refine ⟨fun b => ?_, fun a b rb oa ob ha hb => hs.inj a b rb oa ob (cutM_some ha).2 (cutM_some hb).2, fun rb ho => hs.sep rb (cutM_owned ho), fun rb ho => hs.bnd rb (cutM_owned ho), hs.ibd, fun b hb => ?_⟩
  · unfold lotH
    rw [blk_map]
    split
    · rename_i hba
      have hba' : b ∈ A := by simpa using hba
      have hb : U.contains b = true := by simpa using hA b hba'
      rw [hc b hba']
      refine lrB_ok (r := id) (M := M) (fun b x hp hx => by show cutM M U b = _; simp only [cutM, hp, if_true]; exact hx) (fun x hx => by simp only [cutM, hb, if_true]; exact hx) (hs.blks b)
    · trivial
  · unfold cutM
    split
    · rename_i hb2
      have := hU b (by simpa using hb2)
      omega
    · rfl

def glue (M M' : MU) (U : List Nat) (a n : Nat) : MU := fun b => if domD U a n b then M' b else M b

theorem upto_mem {a n b : Nat} : b ∈ upto a n ↔ a ≤ b ∧ b < a + n := by
  induction n generalizing a with
  | zero => simp [upto]
  | succ n ih => simp only [upto, List.mem_cons, ih]; omega

theorem frame_ok {W : List Nat} (hW : ∀ b ∈ W, b ∈ U) (hs : SimB I M c dom w) (hU : ∀ b ∈ U, b < id0) (he : Ev I (cutM M U) w I' M' w') (hs' : SimH I' M' h' nx' w') (hq : ∀ b ∈ U, b ∉ W → ∀ rb o, cutM M U b = some (some (rb, o)) → M' b = some (some (rb, o)) ∧ w'.heap[rb]? = w.heap[rb]?)
    (hf : ∀ b, id0 ≤ b → b < nx' → ¬ dom b) (hUd : ∀ b ∈ U, dom b) (hn : id0 ≤ nx') (c' : Nat → BK)
    (hc1 : ∀ b, b ∈ upto id0 (nx' - id0) ++ W → c' b = lrB (domD U id0 nx') id (blk h' b))
    (hc2 : ∀ b, b ∉ upto id0 (nx' - id0) ++ W → c' b = c b) :
    Ev I M w I' (glue M M' U id0 nx') w' ∧ SimB I' (glue M M' U id0 nx') c' (fun b => dom b ∨ (id0 ≤ b ∧ b < nx')) w' ∧
    (∀ b x, domD U id0 nx' b = true → M' b = some x → glue M M' U id0 nx' (id b) = some x) := by
  have hg : ∀ b x, domD U id0 nx' b = true → M' b = some x → glue M M' U id0 nx' (id b) = some x := fun b x hb hx => by
    show glue M M' U id0 nx' b = _
    unfold glue
    rw [if_pos hb]; exact hx
  have hmm : ∀ b x, M b = some x → glue M M' U id0 nx' b = some x ∨ glue M M' U id0 nx' b = some none := fun b x hb => by
    unfold glue
    split
    · rename_i hd
      simp only [domD, Bool.or_eq_true, Bool.and_eq_true, decide_eq_true_eq] at hd
      rcases hd with hd | ⟨h1, h2⟩
      · exact he.mm b x (by unfold cutM; rw [if_pos hd]; exact hb)
      · have := hs.fr b (hf b h1 h2)
        rw [this] at hb; simp at hb
    · exact .inl hb
  have hown : ∀ rb, owned (glue M M' U id0 nx') rb → (owned M' rb ∧ ∃ b o, domD U id0 nx' b = true ∧ M' b = some (some (rb, o))) ∨ (∃ b o, domD U id0 nx' b = false ∧ M b = some (some (rb, o))) := fun rb ho => by
    obtain ⟨b, o, hb⟩ := ho
    unfold glue at hb
    split at hb
    · rename_i hd; exact .inl ⟨⟨b, o, hb⟩, b, o, hd, hb⟩
    · rename_i hd; exact .inr ⟨b, o, by simpa using hd, hb⟩
  have hnl : ∀ b rb o, domD U id0 nx' b = false → M b = some (some (rb, o)) → ¬ owned (cutM M U) rb := fun b rb o hd hb ho => by
    obtain ⟨b2, o2, h2⟩ := ho
    obtain ⟨h3, h4⟩ := cutM_some h2
    have := hs.inj b b2 rb o o2 hb h4
    subst this
    rw [domD, h3] at hd
    exact absurd hd (by simp)
  have hev : Ev I M w I' (glue M M' U id0 nx') w' := by
    refine ⟨he.os, he.tape, he.output, he.size, he.imm, fun b hb => ?_, fun b hb ho => he.keep b hb fun h => ho (cutM_owned h), he.shp, hmm, fun rb ho => ?_, he.drw⟩
    · rcases he.newI b hb with h1 | h1 | h1
      · exact .inl h1
      · exact .inr (.inl (cutM_owned h1))
      · exact .inr (.inr h1)
    · rcases hown rb ho with ⟨h1, _⟩ | ⟨b, o, _, h2⟩
      · rcases he.own rb h1 with h2 | h2
        · exact .inl (cutM_owned h2)
        · exact .inr h2
      · exact .inl ⟨b, o, h2⟩
  have hrp : ∀ (v : Bool) (c0 : AV) (u : Value), Rp I (Mv v M) w c0 u → Rp I' (Mv v (glue M M' U id0 nx')) w' c0 u := fun v c0 u hr =>
    hr.mono he.imm (fun b hb => he.keep b (hs.ibd b hb) fun ho => hs.sep b (cutM_owned ho) hb) he.shp (Mv_mm hmm)
  refine ⟨hev, ⟨fun b => ?_, fun a b rb oa ob ha hb => ?_, fun rb ho hI => ?_, fun rb ho => ?_, hs'.ibd, fun b hb => ?_⟩, hg⟩
  · by_cases hb : b ∈ upto id0 (nx' - id0) ++ W
    · rw [hc1 b hb]
      have hd : domD U id0 nx' b = true := by
        rcases List.mem_append.1 hb with h1 | h1
        · rw [upto_mem] at h1
          have : decide (id0 ≤ b) = true ∧ decide (b < nx') = true := ⟨by simpa using h1.1, by simp; omega⟩
          simp [domD, this.1, this.2]
        · simp [domD, hW b h1]
      exact lrB_ok (r := id) hg (fun x hx => hg b x hd hx) (hs'.blks b)
    · rw [hc2 b hb]
      have hbk := hs.blks b
      have hsame : ∀ rb o, M b = some (some (rb, o)) → glue M M' U id0 nx' b = some (some (rb, o)) ∧ w'.heap[rb]? = w.heap[rb]? := fun rb o hMb => by
        cases hd : domD U id0 nx' b with
        | false => exact ⟨by unfold glue; rw [hd]; exact hMb, he.keep rb (hs.bnd rb ⟨b, o, hMb⟩) (hnl b rb o hd hMb)⟩
        | true =>
          have hnu : ¬ (id0 ≤ b ∧ b < nx') := fun h => by
            have := hs.fr b (hf b h.1 h.2)
            rw [this] at hMb; simp at hMb
          have hu : U.contains b = true := by
            simp only [domD, Bool.or_eq_true, Bool.and_eq_true, decide_eq_true_eq] at hd
            exact hd.resolve_right hnu
          have hnw : b ∉ W := fun h => hb (List.mem_append.2 (.inr h))
          obtain ⟨h1, h2⟩ := hq b (by simpa using hu) hnw rb o (by unfold cutM; rw [if_pos hu]; exact hMb)
          refine ⟨?_, h2⟩
          unfold glue
          rw [hd, if_pos rfl]; exact h1
      cases hk : c b with
      | dd => trivial
      | rw v0 sz0 es0 t0 =>
        rw [hk] at hbk
        obtain ⟨rb, o, arr0, t1, lo, hi, h1, h2, h3, h4, h5, h6⟩ := hbk
        refine ⟨rb, o, arr0, t1, lo, hi, (hsame rb o h1).1, (hsame rb o h1).2.trans h2, h3, h4, h5, fun i e j c0 ha hb => ?_⟩
        obtain ⟨u, hu, hru⟩ := h6 i e j c0 ha hb
        exact ⟨u, hu, hrp _ _ _ hru⟩
      | mp es0 =>
        rw [hk] at hbk
        obtain ⟨rb, ents, ck, h1, h2, hst, h3⟩ := hbk
        have h0 : ∀ c0 u, Rp I M0 w c0 u → Rp I' M0 w' c0 u := fun c0 u hr => by
          have := hrp false c0 u hr
          exact this
        exact ⟨rb, ents, ck, (hsame rb 0 h1).1, (hsame rb 0 h1).2.trans h2, hst, h3.mono fun p e hp => ⟨h0 _ _ hp.1, RpW.mono' h0 hp.2⟩⟩
  · unfold glue at ha hb
    have cross : ∀ a b oa ob, domD U id0 nx' b = false → M' a = some (some (rb, oa)) → M b = some (some (rb, ob)) → False := fun a b oa ob hdb ha hb => by
      rcases he.own rb ⟨a, oa, ha⟩ with h1 | h1
      · exact hnl b rb ob hdb hb h1
      · have := hs.bnd rb ⟨b, ob, hb⟩; omega
    split at ha <;> split at hb
    · exact hs'.inj a b rb oa ob ha hb
    · exact (cross a b oa ob (by simpa using ‹¬ domD U id0 nx' b = true›) ha hb).elim
    · exact (cross b a ob oa (by simpa using ‹¬ domD U id0 nx' a = true›) hb ha).elim
    · exact hs.inj a b rb oa ob ha hb
  · rcases hown rb ho with ⟨h1, _⟩ | ⟨b, o, hd, h2⟩
    · exact hs'.sep rb h1 hI
    · rcases he.newI rb hI with h3 | h3 | h3
      · exact hs.sep rb ⟨b, o, h2⟩ h3
      · exact hnl b rb o hd h2 h3
      · have := hs.bnd rb ⟨b, o, h2⟩; omega
  · rcases hown rb ho with ⟨h1, _⟩ | ⟨b, o, hd, h2⟩
    · exact hs'.bnd rb h1
    · have := hs.bnd rb ⟨b, o, h2⟩; have := he.size; omega
  · unfold glue
    split
    · rename_i hd
      simp only [domD, Bool.or_eq_true, Bool.and_eq_true, decide_eq_true_eq] at hd
      rcases hd with hd | hd
      · exact absurd (.inl (hUd b (by simpa using hd))) hb
      · exact absurd (.inr hd) hb
    · exact hs.fr b (fun h => hb (.inl h))
end
end Go.Am
set_option linter.unusedSimpArgs false
set_option linter.unusedVariables false
namespace Go.Am
section
variable {I J : Nat → Prop} {M : MU} {w : World} {h : List (Nat × BK)} {nx : Nat}

theorem refs_none {c : AV} (h : okC (fun _ => false) c = true) : refs c = [] := by
  cases c <;> simp [okC, refs] at h ⊢
  intro x hx
  have := h x hx
  cases x <;> simp [okP] at this ⊢

theorem All2.get2 {α β : Type} {R : α → β → Prop} {as : List α} {bs : List β} (h : All2 R as bs) {i : Nat} {b : β} (hb : bs[i]? = some b) : ∃ a, as[i]? = some a ∧ R a b := by
  obtain ⟨a, ha, hr⟩ := h.flip.get i b hb
  exact ⟨a, ha, hr⟩

def RowJ (J : Nat → Prop) (M : MU) (h : List (Nat × BK)) (b : Nat) : Prop := isRow h b = true ∧ ∀ rb o, M b = some (some (rb, o)) → J rb
theorem snapP_ok (hs : SimH I M h nx w) (hJ : ∀ b, I b → J b) {c c' : AV} {v : Value} (hO : (∀ b ∈ refs c, RowJ J M h b) ∨ ∀ rb, owned M rb → J rb) (hc : snapP h c = some c') (hr : Rp I M w c v) : Rp J M0 w c' v := by
  have h0 : ∀ {d : AV} {u : Value}, Rp I M0 w d u → Rp J M0 w d u := fun hd => hd.mono hJ (fun _ _ => rfl) (fun _ _ => rfl) (fun b x hb => by simp [M0] at hb)
  unfold snapP at hc
  split at hc
  · rename_i sz b i off
    split at hc
    · rename_i sz' cs t hk
      replace hO : ∀ rb, owned M rb → J rb := by
        rcases hO with hO | hO
        · have := (hO b (by simp [refs])).1
          rw [isRow, hk] at this
          simp at this
        · exact hO
      simp only [Option.ite_none_right_eq_some, Option.map_eq_some_iff] at hc
      obtain ⟨rfl, cs', hcs, rfl⟩ := hc
      obtain ⟨rb, o, arr, t', lo, hi, h1, h2, h3, h4, h5, h6⟩ := hs.blks b |> fun x => by rw [hk] at x; exact x
      have h7 := snapL_all2 hcs
      have hv : v = .pointer (some ⟨rb, o + i * sz + off, none⟩) := by
        cases hr with
        | reD _ _ _ _ _ hM => rw [h1] at hM; simp at hM
        | re _ _ _ _ rb' o' hM =>
          rw [h1] at hM
          simp only [Option.some.injEq, Prod.mk.injEq] at hM
          obtain ⟨rfl, rfl⟩ := hM
          rfl
      rw [hv]
      refine .ri sz [cs'] i off rb o (fun i j => arr[o + i * sz + j]?.getD undef) (fun e he => ?_) (hO rb ⟨b, o, h1⟩) (fun i e j c0 hi hj => ?_) (fun i e j c0 hi hj => ?_)
      · simp only [List.mem_singleton] at he
        subst he
        rw [← h7.length]; exact h5 cs (by simp)
      all_goals
        cases i with
        | succ i => simp at hi
        | zero =>
          simp only [List.getElem?_cons_zero, Option.some.injEq] at hi
          subst hi
          obtain ⟨c1, hc1, hsn⟩ := h7.get2 hj
          obtain ⟨u, hu, hru⟩ := h6 0 cs j c1 (by simp) hc1
          simp only [Nat.zero_mul, Nat.add_zero] at hu ⊢
          first
            | (rw [cell_of_arr h2, hu]; simp [hu]; done)
            | (simp only [hu, Option.getD_some]
               exact snapC_ok hs hJ hsn hru (fun b rb o _ hM => hO rb ⟨b, o, hM⟩))
    · rename_i sz' es t hk
      replace hO : ∀ rb o, M b = some (some (rb, o)) → J rb := by
        rcases hO with hO | hO
        · exact (hO b (by simp [refs])).2
        · exact fun rb o h => hO rb ⟨b, o, h⟩
      simp only [Option.ite_none_right_eq_some, Option.some.injEq] at hc
      obtain ⟨rfl, rfl⟩ := hc
      obtain ⟨rb, o, arr, t', lo, hi, h1, h2, h3, h4, h5, h6⟩ := hs.blks b |> fun x => by rw [hk] at x; exact x
      have hv : v = .pointer (some ⟨rb, o + i * sz + off, none⟩) := by
        cases hr with
        | reD _ _ _ _ _ hM => rw [h1] at hM; simp at hM
        | re _ _ _ _ rb' o' hM =>
          rw [h1] at hM
          simp only [Option.some.injEq, Prod.mk.injEq] at hM
          obtain ⟨rfl, rfl⟩ := hM
          rfl
      rw [hv]
      refine .ri sz es i off rb o (fun i j => arr[o + i * sz + j]?.getD undef) h5 (hO rb o h1) (fun i e j c0 hi hj => ?_) (fun i e j c0 hi hj => ?_)
      · obtain ⟨u, hu, hru⟩ := h6 i e j c0 hi hj
        rw [cell_of_arr h2, hu]; simp [hu]
      · obtain ⟨u, hu, hru⟩ := h6 i e j c0 hi hj
        simp only [hu, Option.getD_some]
        exact h0 hru
    · simp at hc
  · rename_i sz es i off
    simp only [Option.some.injEq] at hc
    subst hc
    cases hr with
    | ri _ _ _ _ ib io u h1 h2 h3 h4 => exact h0 (.ri sz es i off ib io u h1 h2 h3 h4)
  · simp at hc

theorem snap_ok (hs : SimH I M h nx w) (hJ : ∀ b, I b → J b) {c c' : AV} {v : Value} (hO : (∀ b ∈ refs c, RowJ J M h b) ∨ ∀ rb, owned M rb → J rb) (hc : snap h c = some c') (hr : Rp I M w c v) : Rp J M0 w c' v := by
  unfold snap at hc
  split at hc
  · exact snapP_ok hs hJ hO hc hr
  · rename_i f caps
    simp only [Option.map_eq_some_iff] at hc
    obtain ⟨l, hl, rfl⟩ := hc
    have h2 := snapL_all2 hl
    cases hr with
    | fn _ _ vs hlen hrr f' fs us hfk =>
      refine .fn f l vs (by rw [← h2.length]; exact hlen) (fun i c v h3 h4 => ?_) f' fs us hfk
      obtain ⟨c0, hc0, hsn⟩ := h2.get2 h3
      refine snapP_ok hs hJ (hO.imp (fun h b hb => h b ?_) id) hsn (hrr i c0 v hc0 h4)
      cases c0 <;> simp only [snapP] at hsn <;> first | (cases hsn; done) | skip
      · simp only [refs, List.mem_singleton] at hb
        subst hb
        exact List.mem_flatMap.2 ⟨_, List.mem_of_getElem? hc0, by simp⟩
      · cases hb
  · refine snapC_ok hs hJ hc hr fun b rb o hb hM => ?_
    rcases hO with h | h
    · exact (h b hb).2 rb o hM
    · exact h rb ⟨b, o, hM⟩

theorem snapC_shape {c c' : AV} (hc : snapC h c = some c') : (∀ l, c' ≠ .ag l) ∧ (∀ l, c' ≠ .tp l) := by
  unfold snapC at hc
  split at hc <;> first
    | (split at hc <;> first
        | (split at hc <;> first
            | (injection hc with hc; subst hc; exact ⟨by simp, by simp⟩)
            | (simp at hc; done))
        | (simp at hc; done))
    | (simp at hc; done)
    | (injection hc with hc; subst hc; constructor <;> intro l hl <;> subst hl <;> simp_all)
theorem snapP_shape {c c' : AV} (hc : snapP h c = some c') : (∀ l, c' ≠ .ag l) ∧ (∀ l, c' ≠ .tp l) := by
  unfold snapP at hc
  split at hc
  · split at hc
    · simp only [Option.ite_none_right_eq_some, Option.map_eq_some_iff] at hc
      obtain ⟨_, x, _, rfl⟩ := hc
      exact ⟨by simp, by simp⟩
    · simp only [Option.ite_none_right_eq_some, Option.some.injEq] at hc
      obtain ⟨_, rfl⟩ := hc
      exact ⟨by simp, by simp⟩
    · simp at hc
  · injection hc with hc; subst hc; exact ⟨by simp, by simp⟩
  · simp at hc
theorem snap_shape {c c' : AV} (hc : snap h c = some c') : (∀ l, c' ≠ .ag l) ∧ (∀ l, c' ≠ .tp l) := by
  unfold snap at hc
  split at hc
  · exact snapP_shape hc
  · simp only [Option.map_eq_some_iff] at hc
    obtain ⟨l, hl, rfl⟩ := hc
    exact ⟨by simp, by simp⟩
  · exact snapC_shape hc

theorem RpV.of_rp {c : AV} {v : Value} (hs : (∀ l, c ≠ .ag l) ∧ (∀ l, c ≠ .tp l)) (hr : Rp I M w c v) : RpV I M w c v := RpV.of_scalar hs.1 hs.2 hr

theorem All2.comp {α β γ : Type} {R : α → β → Prop} {S : α → γ → Prop} {T : γ → β → Prop} (hT : ∀ a b c, S a c → R a b → T c b) {as : List α} {bs : List β} {cs : List γ} (h : All2 R as bs) (h' : All2 S as cs) : All2 T cs bs := by
  induction h generalizing cs with
  | nil => cases h'; exact .nil
  | cons h1 _ ih => cases h' with | cons h2 h3 => exact .cons (hT _ _ _ h2 h1) (ih h3)

theorem All2.comp_mem {α β γ : Type} {R : α → β → Prop} {S : α → γ → Prop} {T : γ → β → Prop} {as : List α} {bs : List β} {cs : List γ} (h : All2 R as bs) (h' : All2 S as cs) (hT : ∀ a b c, a ∈ as → S a c → R a b → T c b) : All2 T cs bs := by
  induction h generalizing cs with
  | nil => cases h'; exact .nil
  | cons h1 _ ih => cases h' with | cons h2 h3 => exact .cons (hT _ _ _ (by simp) h2 h1) (ih h3 fun a b c ha => hT a b c (List.mem_cons_of_mem _ ha))

theorem snapV_ok (hs : SimH I M h nx w) (hJ : ∀ b, I b → J b) {c c' : AV} {v : Value} (hO : (∀ b ∈ refsV c, RowJ J M h b) ∨ ∀ rb, owned M rb → J rb) (hc : snapV h c = some c') (hr : RpV I M w c v) : RpV J M0 w c' v := by
  unfold snapV at hc
  split at hc
  · rename_i cs
    simp only [Option.map_eq_some_iff] at hc
    obtain ⟨l, hl, rfl⟩ := hc
    obtain ⟨vs, rfl, h2⟩ := hr
    exact ⟨vs, rfl, h2.comp_mem (snapL_all2 hl) fun a b c ha hS hR => snap_ok hs hJ (hO.imp (fun h b hb => h b (List.mem_flatMap.2 ⟨a, ha, hb⟩)) id) hS hR⟩
  · rename_i hna
    have hnt : ∀ l, c ≠ .tp l := by
      intro l hl
      subst hl
      simp [snap, snapC] at hc
    refine RpV.of_rp (snap_shape hc) (snap_ok hs hJ (hO.imp (fun h b hb => h b ?_) id) hc (hr.scalar_inv hna hnt))
    cases c <;> first | exact hb | (exact absurd rfl (hna _)) | (exact absurd rfl (hnt _))
theorem refsV_none {c : AV} (h : okV (fun _ => false) c = true) : refsV c = [] := by
  cases c
  case ag cs =>
    simp only [refsV]
    rw [List.flatMap_eq_nil_iff]
    intro x hx
    exact refs_none (List.all_eq_true.1 h x hx)
  case tp vs => simp [okV, okC] at h
  all_goals (simp only [okV] at h; exact refs_none h)
end
end Go.Am
set_option linter.unusedSimpArgs false
set_option linter.unusedVariables false
namespace Go.Am

def KeysOk {α : Type} (nx : Nat) (x : α × List (Nat × BK) × Nat) : Prop := nx ≤ x.2.2 ∧ ∀ p ∈ x.2.1, nx ≤ p.1 ∧ p.1 < x.2.2

theorem inC_keys (nx : Nat) (v : AV) : KeysOk nx (inC nx v) := by
  cases v <;> simp [inC, KeysOk]
theorem inCs_keys : ∀ (nx : Nat) (vs : List AV), KeysOk nx (inCs nx vs)
  | nx, [] => by simp [inCs, KeysOk]
  | nx, v :: vs => by
    have h1 := inC_keys nx v
    have h2 := inCs_keys (inC nx v).2.2 vs
    refine ⟨Nat.le_trans h1.1 h2.1, fun p hp => ?_⟩
    rcases List.mem_append.1 hp with h | h
    · have := h1.2 p h; exact ⟨this.1, Nat.lt_of_lt_of_le this.2 h2.1⟩
    · have := h2.2 p h; exact ⟨Nat.le_trans h1.1 this.1, this.2⟩
theorem inV_keys (nx : Nat) (v : AV) : KeysOk nx (inV nx v) := by
  cases v <;> first
    | exact inC_keys nx _
    | (rename_i cs; exact ⟨(inCs_keys nx cs).1, (inCs_keys nx cs).2⟩)
theorem inVs_keys : ∀ (nx : Nat) (vs : List AV), KeysOk nx (inVs nx vs)
  | nx, [] => by simp [inVs, KeysOk]
  | nx, v :: vs => by
    have h1 := inV_keys nx v
    have h2 := inVs_keys (inV nx v).2.2 vs
    refine ⟨Nat.le_trans h1.1 h2.1, fun p hp => ?_⟩
    rcases List.mem_append.1 hp with h | h
    · have := h1.2 p h; exact ⟨this.1, Nat.lt_of_lt_of_le this.2 h2.1⟩
    · have := h2.2 p h; exact ⟨Nat.le_trans h1.1 this.1, this.2⟩
theorem inR_keys (nx : Nat) (v : AV) : KeysOk nx (inR nx v) := by
  cases v <;> first
    | exact inV_keys nx _
    | (rename_i vs; exact ⟨(inVs_keys nx vs).1, (inVs_keys nx vs).2⟩)

def Out (I : Nat → Prop) (w : World) (r : AV) (v : Value) (w' : World) : Prop :=
  ∃ I' : Nat → Prop, w'.os = w.os ∧ w'.tape = w.tape ∧ w'.output = w.output ∧ w.heap.size ≤ w'.heap.size ∧ (∀ b : Nat, b < w.heap.size → w'.heap[b]? = w.heap[b]?) ∧
    (∀ b, I b → I' b) ∧ (∀ b, I' b → I b ∨ w.heap.size ≤ b) ∧
    (∀ nx, ∃ Mn, SimH I' Mn (inR nx r).2.1 (inR nx r).2.2 w' ∧ (∀ b, b < nx → Mn b = none) ∧ (∀ rb, owned Mn rb → w.heap.size ≤ rb) ∧ RpV I' Mn w' (inR nx r).1 v) ∧ DLe w w'

def PureOk (P : Program) (f : FuncId) (as : List AV) (r : AV) : Prop :=
  ∀ (I : Nat → Prop) (w : World) (vals : Array Value), (∀ b, I b → b < w.heap.size) → All2 (RpV I M0 w) as vals.toList →
    Calls P f vals w fun | .returned v, w' => Out I w r v w' | _, _ => False

section
variable {I : Nat → Prop} {M : MU} {w w' : World} {h : List (Nat × BK)} {nx : Nat}

theorem look_append {α : Type} (d : α) (l2 : List (Nat × α)) (n : Nat) : ∀ l1 : List (Nat × α), (∀ p ∈ l1, p.1 ≠ n) → look d (l1 ++ l2) n = look d l2 n
  | [], _ => rfl
  | (k, v) :: l1, hn => by
    have := hn (k, v) (by simp)
    simp only [List.cons_append, look]
    rw [if_neg this]
    exact look_append d l2 n l1 fun p hp => hn p (List.mem_cons_of_mem _ hp)
theorem look_append2 (n : Nat) (l2 : List (Nat × BK)) (h2 : look .dd l2 n = .dd) : ∀ l1 : List (Nat × BK), look .dd (l1 ++ l2) n = look .dd l1 n
  | [] => h2
  | (k, v) :: l1 => by
    simp only [List.cons_append, look]
    by_cases e : k = n
    · rw [if_pos e, if_pos e]
    · rw [if_neg e, if_neg e]; exact look_append2 n l2 h2 l1
theorem blk_none (hs : SimH I M h nx w) {b : Nat} (hb : M b = none) : blk h b = .dd := by
  have := hs.blks b
  cases hk : blk h b with
  | dd => rfl
  | rw => rw [hk] at this; obtain ⟨rb, o, arr, t, lo, hi, h1, _⟩ := this; rw [hb] at h1; simp at h1
  | mp => rw [hk] at this; obtain ⟨rb, e, c, h1, _⟩ := this; rw [hb] at h1; simp at h1

theorem Rp.grow {I' : Nat → Prop} {M' : MU} (hI : ∀ b, I b → I' b) (hi : ∀ b, I b → b < w.heap.size) (hk : ∀ b : Nat, b < w.heap.size → w'.heap[b]? = w.heap[b]?)
    (hm : ∀ b x, M b = some x → M' b = some x) {c : AV} {v : Value} (hr : Rp I M w c v) : Rp I' M' w' c v :=
  hr.mono hI (fun b hb => hk b (hi b hb)) (fun b hb => by unfold World.shape?; rw [hk b hb]) (fun b x hx => .inl (hm b x hx))

theorem RpB.grow {I' : Nat → Prop} {M' : MU} (hI : ∀ b, I b → I' b) (hi : ∀ b, I b → b < w.heap.size) (hw : ∀ rb, owned M rb → rb < w.heap.size) (hk : ∀ b : Nat, b < w.heap.size → w'.heap[b]? = w.heap[b]?)
    (hm : ∀ b x, M b = some x → M' b = some x) {b : Nat} {k : BK} (hb : RpB I M w b k) : RpB I' M' w' b k := by
  cases k with
  | dd => trivial
  | rw v sz es t =>
    obtain ⟨rb, o, arr, t1, lo, hi1, h1, h2, h3, h4, h5, h6⟩ := hb
    refine ⟨rb, o, arr, t1, lo, hi1, hm _ _ h1, (hk rb (hw rb ⟨b, o, h1⟩)).trans h2, h3, h4, h5, fun i e j c0 ha hb => ?_⟩
    obtain ⟨u, hu, hru⟩ := h6 i e j c0 ha hb
    refine ⟨u, hu, hru.grow hI hi hk fun b x hx => ?_⟩
    cases v with
    | true => exact hm b x hx
    | false => simp [Mv, M0] at hx
  | mp es =>
    obtain ⟨rb, ents, ck, h1, h2, hst, h3⟩ := hb
    have h0 : ∀ c0 u, Rp I M0 w c0 u → Rp I' M0 w' c0 u := fun c0 u hr => hr.grow hI hi hk fun b x hx => by simp [M0] at hx
    exact ⟨rb, ents, ck, hm _ _ h1, (hk rb (hw rb ⟨b, 0, h1⟩)).trans h2, hst, h3.mono fun p e hp => ⟨h0 _ _ hp.1, RpW.mono' h0 hp.2⟩⟩

theorem join_ok {r : AV} {v : Value} (hs : SimH I M h nx w) (ho : Out I w r v w') :
    ∃ I' M', Ev I M w I' M' w' ∧ SimH I' M' ((inR nx r).2.1 ++ h) (inR nx r).2.2 w' ∧ RpV I' M' w' (inR nx r).1 v ∧ Quiet I M nx w I' M' w' := by
  obtain ⟨I', h1, h2, h3, h4, h5, h6, h7, h8, hdr⟩ := ho
  obtain ⟨Mn, hn, hlow, hnew, hrv⟩ := h8 nx
  have hkeys := inR_keys nx r
  let M' : MU := fun b => if b < nx then M b else Mn b
  have hM1 : ∀ b x, M b = some x → M' b = some x := fun b x hb => by
    have : b < nx := by
      rcases Nat.lt_or_ge b nx with h | h
      · exact h
      · rw [hs.fr b h] at hb; simp at hb
    simp only [M', this, if_true]; exact hb
  have hM2 : ∀ b x, Mn b = some x → M' b = some x := fun b x hb => by
    have : ¬ b < nx := fun h => by rw [hlow b h] at hb; simp at hb
    simp only [M', this, if_false]; exact hb
  have hinv : ∀ b x, M' b = some x → (b < nx ∧ M b = some x) ∨ (nx ≤ b ∧ Mn b = some x) := fun b x hb => by
    by_cases h : b < nx
    · simp only [M', h, if_true] at hb; exact .inl ⟨h, hb⟩
    · simp only [M', h, if_false] at hb; exact .inr ⟨Nat.le_of_not_lt h, hb⟩
  have hown : ∀ rb, owned M' rb → owned M rb ∨ owned Mn rb := fun rb ⟨b, o, hb⟩ => by
    rcases hinv b _ hb with ⟨_, h⟩ | ⟨_, h⟩
    · exact .inl ⟨b, o, h⟩
    · exact .inr ⟨b, o, h⟩
  refine ⟨I', M', ⟨h1, h2, h3, h4, h6, fun b hb => (h7 b hb).imp id .inr, fun b hb _ => h5 b hb, fun b hb => by unfold World.shape?; rw [h5 b hb], fun b x hb => .inl (hM1 b x hb), fun rb ho => ?_, hdr⟩, ⟨fun b => ?_, fun a b rb oa ob ha hb => ?_, fun rb ho hI => ?_, fun rb ho => ?_, hn.ibd, fun b hb => ?_⟩, ?_, ⟨h5, fun b hb => by simp only [M', hb, if_true], h7⟩⟩
  · exact (hown rb ho).imp id (hnew rb)
  · by_cases hb : b < nx
    · have : blk ((inR nx r).2.1 ++ h) b = blk h b := look_append _ _ _ _ fun p hp => by have := (hkeys.2 p hp).1; omega
      rw [this]
      exact (hs.blks b).grow h6 hs.ibd hs.bnd h5 hM1
    · have : blk ((inR nx r).2.1 ++ h) b = blk (inR nx r).2.1 b := look_append2 _ _ (blk_none hs (hs.fr b (Nat.le_of_not_lt hb))) _
      rw [this]
      exact (hn.blks b).grow (fun _ h => h) hn.ibd hn.bnd (fun _ _ => rfl) hM2
  · rcases hinv a _ ha with ⟨_, ha⟩ | ⟨_, ha⟩ <;> rcases hinv b _ hb with ⟨_, hb⟩ | ⟨_, hb⟩
    · exact hs.inj a b rb oa ob ha hb
    · have := hs.bnd rb ⟨a, oa, ha⟩; have := hnew rb ⟨b, ob, hb⟩; omega
    · have := hs.bnd rb ⟨b, ob, hb⟩; have := hnew rb ⟨a, oa, ha⟩; omega
    · exact hn.inj a b rb oa ob ha hb
  · rcases hown rb ho with h | h
    · rcases h7 rb hI with h9 | h9
      · exact hs.sep rb h h9
      · have := hs.bnd rb h; omega
    · exact hn.sep rb h hI
  · rcases hown rb ho with h | h
    · have := hs.bnd rb h; omega
    · exact hn.bnd rb h
  · have hnx := hkeys.1
    have : ¬ b < nx := by omega
    simp only [M', this, if_false]
    exact hn.fr b hb
  · exact RpV.mono' (fun c v hr => hr.grow (fun _ h => h) hn.ibd (fun _ _ => rfl) hM2) hrv
end
end Go.Am
set_option linter.unusedSimpArgs false
set_option linter.unusedVariables false
namespace Go.Am

def FlatC (c : AV) : Prop := ∀ (I I' : Nat → Prop) (M : MU) (w : World) (v : Value), Rp I M w c v → Rp I' M w c v
def FlatB (k : BK) : Prop := ∀ (I I' : Nat → Prop) (M : MU) (w : World) (b : Nat), RpB I M w b k → RpB I' M w b k
def FlatV (c : AV) : Prop := ∀ (I I' : Nat → Prop) (M : MU) (w : World) (v : Value), RpV I M w c v → RpV I' M w c v
def FlatW (c : AV) : Prop := ∀ (I I' : Nat → Prop) (M : MU) (w : World) (v : Value), RpW I M w c v → RpW I' M w c v

theorem flat_sl (sz b lo len : Nat) : FlatC (.sl sz b lo len) := fun I I' M w v h => by
  cases h with
  | slD _ _ _ _ _ hM hv => exact .slD _ _ _ _ _ hM hv
  | sl _ _ _ _ rb o cap ad t n hM hlc had hs hn => exact .sl _ _ _ _ rb o cap ad t n hM hlc had hs hn

def scal : AV → Bool
  | .int .. | .bl _ | .st _ | .np | .nm | .nf | .ni | .ns | .ez => true
  | _ => false
theorem flat_scal {c : AV} (hc : scal c = true) : FlatC c := fun I I' M w v h => by
  cases c <;> simp [scal] at hc <;> cases h <;> constructor

theorem inC_flat (nx : Nat) {v : AV} (h : flatC v = true) : (FlatC (inC nx v).1 ∧ (∀ l, (inC nx v).1 ≠ .ag l) ∧ (∀ l, (inC nx v).1 ≠ .tp l)) ∧ ∀ p ∈ (inC nx v).2.1, FlatB p.2 := by
  cases v <;> simp only [flatC, Bool.false_eq_true] at h
  case ow sz es =>
    refine ⟨⟨flat_sl _ _ _ _, by simp [inC], by simp [inC]⟩, fun p hp => ?_⟩
    simp only [inC, List.mem_singleton] at hp
    subst hp
    intro I I' M w b hb
    obtain ⟨rb, o, arr, t, lo, hi, h1, h2, h3, h4, h5, h6⟩ := hb
    refine ⟨rb, o, arr, t, lo, hi, h1, h2, h3, h4, h5, fun i e j c hi hj => ?_⟩
    obtain ⟨u, hu, hru⟩ := h6 i e j c hi hj
    refine ⟨u, hu, ?_⟩
    have h7 := (List.all_eq_true.1 h) e (List.mem_of_getElem? hi)
    have h8 := (List.all_eq_true.1 h7) c (List.mem_of_getElem? hj)
    have : scal c = true := by cases c <;> simp [scal] at h8 ⊢
    exact flat_scal this I I' _ w u hru
  all_goals exact ⟨⟨flat_scal rfl, by simp [inC], by simp [inC]⟩, by simp [inC]⟩

theorem inCs_flat : ∀ (nx : Nat) {vs : List AV}, vs.all flatC = true → (∀ c ∈ (inCs nx vs).1, FlatC c) ∧ ∀ p ∈ (inCs nx vs).2.1, FlatB p.2
  | nx, [], _ => by simp [inCs]
  | nx, v :: vs, h => by
    simp only [List.all_cons, Bool.and_eq_true] at h
    have h1 := inC_flat nx h.1
    have h2 := inCs_flat (inC nx v).2.2 h.2
    refine ⟨fun c hc => ?_, fun p hp => ?_⟩
    · rcases List.mem_cons.1 hc with e | e
      · subst e; exact h1.1.1
      · exact h2.1 c e
    · rcases List.mem_append.1 hp with e | e
      · exact h1.2 p e
      · exact h2.2 p e

theorem FlatC.toW {c : AV} (h : FlatC c) (ha : ∀ l, c ≠ .ag l) : FlatW c := fun I I' M w v hr => by
  cases c <;> simp only [RpW] at hr ⊢ <;> first | exact h I I' M w v hr | (exact absurd rfl (ha _))
theorem FlatW.toV {c : AV} (h : FlatW c) (ha : ∀ l, c ≠ .tp l) : FlatV c := fun I I' M w v hr => by
  cases c <;> simp only [RpV] at hr ⊢ <;> first | exact h I I' M w v hr | (exact absurd rfl (ha _))
theorem all2_flat {cs : List AV} {vs : List Value} {I I' : Nat → Prop} {M : MU} {w : World} (h : ∀ c ∈ cs, FlatC c) (hr : All2 (Rp I M w) cs vs) : All2 (Rp I' M w) cs vs := by
  induction hr with
  | nil => exact .nil
  | cons h1 _ ih => exact .cons (h _ (by simp) I I' M w _ h1) (ih fun c hc => h c (List.mem_cons_of_mem _ hc))
theorem all2_flatW {cs : List AV} {vs : List Value} {I I' : Nat → Prop} {M : MU} {w : World} (h : ∀ c ∈ cs, FlatW c) (hr : All2 (RpW I M w) cs vs) : All2 (RpW I' M w) cs vs := by
  induction hr with
  | nil => exact .nil
  | cons h1 _ ih => exact .cons (h _ (by simp) I I' M w _ h1) (ih fun c hc => h c (List.mem_cons_of_mem _ hc))

def flatW (v : AV) : Bool := match v with | .ag cs => cs.all flatC | v => flatC v
theorem inV_flat0 (nx : Nat) (v : AV) (h : flatC v = true) (hi : inV nx v = inC nx v) : (FlatW (inV nx v).1 ∧ (∀ l, (inV nx v).1 ≠ .tp l)) ∧ ∀ p ∈ (inV nx v).2.1, FlatB p.2 := by
  have := inC_flat nx h
  rw [hi]
  exact ⟨⟨this.1.1.toW this.1.2.1, this.1.2.2⟩, this.2⟩
theorem inV_flat (nx : Nat) {v : AV} (h : flatW v = true) : (FlatW (inV nx v).1 ∧ (∀ l, (inV nx v).1 ≠ .tp l)) ∧ ∀ p ∈ (inV nx v).2.1, FlatB p.2 := by
  cases v
  case ag cs =>
    have := inCs_flat nx (vs := cs) h
    exact ⟨⟨fun I I' M w v hr => by
      simp only [inV, RpW] at hr ⊢
      obtain ⟨vs, rfl, h2⟩ := hr
      exact ⟨vs, rfl, all2_flat this.1 h2⟩, by simp [inV]⟩, this.2⟩
  all_goals exact inV_flat0 nx _ h rfl

theorem inVs_flat : ∀ (nx : Nat) {vs : List AV}, (∀ v ∈ vs, flatW v = true) → (∀ c ∈ (inVs nx vs).1, FlatW c) ∧ ∀ p ∈ (inVs nx vs).2.1, FlatB p.2
  | nx, [], _ => by simp [inVs]
  | nx, v :: vs, h => by
    have h1 := inV_flat nx (h v (by simp))
    have h2 := inVs_flat (inV nx v).2.2 (fun x hx => h x (List.mem_cons_of_mem _ hx))
    refine ⟨fun c hc => ?_, fun p hp => ?_⟩
    · rcases List.mem_cons.1 hc with e | e
      · subst e; exact h1.1.1
      · exact h2.1 c e
    · rcases List.mem_append.1 hp with e | e
      · exact h1.2 p e
      · exact h2.2 p e

theorem inR_flat0 (nx : Nat) (v : AV) (h : flatW v = true) (hi : inR nx v = inV nx v) : FlatV (inR nx v).1 ∧ ∀ p ∈ (inR nx v).2.1, FlatB p.2 := by
  have := inV_flat nx h
  rw [hi]
  exact ⟨this.1.1.toV this.1.2, this.2⟩
theorem inR_flat (nx : Nat) {v : AV} (h : flatV v = true) : FlatV (inR nx v).1 ∧ ∀ p ∈ (inR nx v).2.1, FlatB p.2 := by
  cases v
  case tp vs =>
    have hh : ∀ v ∈ vs, flatW v = true := fun v hv => by
      have := (List.all_eq_true.1 h) v hv
      unfold flatW
      cases v <;> simpa using this
    have := inVs_flat nx hh
    exact ⟨fun I I' M w v hr => by
      simp only [inR, RpV] at hr ⊢
      obtain ⟨us, rfl, h2⟩ := hr
      exact ⟨us, rfl, all2_flatW this.1 h2⟩, this.2⟩
  all_goals exact inR_flat0 nx _ h rfl

theorem look_mem {α : Type} (d : α) (n : Nat) : ∀ l : List (Nat × α), look d l n = d ∨ ∃ p ∈ l, p.2 = look d l n
  | [] => .inl rfl
  | (k, v) :: l => by
    simp only [look]
    by_cases e : k = n
    · rw [if_pos e]; exact .inr ⟨(k, v), by simp, rfl⟩
    · rw [if_neg e]
      rcases look_mem d n l with h | ⟨p, hp, h⟩
      · exact .inl h
      · exact .inr ⟨p, List.mem_cons_of_mem _ hp, h⟩

theorem flat_out {I J : Nat → Prop} {w w' : World} {r : AV} {v : Value} (ho : Out J w r v w') (hf : flatV r = true) (hI : ∀ b, I b → b < w.heap.size) : Out I w r v w' := by
  obtain ⟨I', h1, h2, h3, h4, h5, h6, h7, h8, hdr⟩ := ho
  refine ⟨I, h1, h2, h3, h4, h5, fun _ h => h, fun _ h => .inl h, fun nx => ?_, hdr⟩
  obtain ⟨Mn, hn, hlow, hnew, hrv⟩ := h8 nx
  obtain ⟨f1, f2⟩ := inR_flat nx hf
  refine ⟨Mn, ⟨fun b => ?_, hn.inj, fun rb ho hb => ?_, hn.bnd, fun b hb => Nat.lt_of_lt_of_le (hI b hb) h4, hn.fr⟩, hlow, hnew, f1 I' I Mn w' v hrv⟩
  · have hb := hn.blks b
    rcases look_mem (.dd : BK) b (inR nx r).2.1 with h | ⟨p, hp, h⟩
    · unfold blk; rw [h]; trivial
    · unfold blk at hb ⊢
      rw [← h] at hb ⊢
      exact f2 p hp I' I Mn w' b hb
  · have := hnew rb ho; have := hI rb hb; omega
end Go.Am
set_option linter.unusedSimpArgs false
set_option linter.unusedVariables false
namespace Go.Am

theorem snapC_now {h : List (Nat × BK)} {c c' : AV} (hc : snapC h c = some c') : ∀ sz es, c' ≠ .ow sz es := by
  unfold snapC at hc
  split at hc <;> first
    | (split at hc <;> first
        | (split at hc <;> first
            | (injection hc with hc; subst hc; simp)
            | (simp at hc; done))
        | (simp at hc; done))
    | (simp at hc; done)
    | (injection hc with hc; subst hc; intro sz es hl; subst hl; simp_all)
theorem snapP_now {h : List (Nat × BK)} {c c' : AV} (hc : snapP h c = some c') : ∀ sz es, c' ≠ .ow sz es := by
  unfold snapP at hc
  split at hc
  · split at hc
    · simp only [Option.ite_none_right_eq_some, Option.map_eq_some_iff] at hc
      obtain ⟨_, x, _, rfl⟩ := hc
      simp
    · simp only [Option.ite_none_right_eq_some, Option.some.injEq] at hc
      obtain ⟨_, rfl⟩ := hc
      simp
    · simp at hc
  · injection hc with hc; subst hc; simp
  · simp at hc
theorem snap_now {h : List (Nat × BK)} {c c' : AV} (hc : snap h c = some c') : ∀ sz es, c' ≠ .ow sz es := by
  unfold snap at hc
  split at hc
  · exact snapP_now hc
  · simp only [Option.map_eq_some_iff] at hc
    obtain ⟨l, hl, rfl⟩ := hc
    simp
  · exact snapC_now hc
theorem inC_id {nx : Nat} {c : AV} (h : ∀ sz es, c ≠ .ow sz es) : inC nx c = (c, [], nx) := by
  cases c <;> simp only [inC] <;> exact absurd rfl (h _ _)

def Piece (J : Nat → Prop) (w : World) (H : List Nat) (M : MU) (nx : Nat) (hn : List (Nat × BK)) (n' : Nat) (R : MU → Prop) : Prop :=
  ∃ Mn, SimH J Mn hn n' w ∧ (∀ b, b < nx → Mn b = none) ∧ (∀ rb, owned Mn rb → ∃ k ∈ H, ∃ o, M k = some (some (rb, o))) ∧ R Mn

section
variable {I J : Nat → Prop} {M : MU} {w : World} {h : List (Nat × BK)} {nx n0 : Nat} {hd : List Nat}

def killM (hd : List Nat) (M : MU) : MU := fun b => if b ∈ hd then (M b).map (fun _ => none) else M b
theorem killM_mm : ∀ b x, M b = some x → killM hd M b = some x ∨ killM hd M b = some none := fun b x hb => by
  unfold killM
  split
  · exact .inr (by rw [hb]; rfl)
  · exact .inl hb
theorem killM_some {b rb o : Nat} (hb : killM hd M b = some (some (rb, o))) : b ∉ hd ∧ M b = some (some (rb, o)) := by
  unfold killM at hb
  split at hb
  · cases h : M b <;> rw [h] at hb <;> simp at hb
  · exact ⟨by assumption, hb⟩
theorem killM_owned {rb : Nat} (ho : owned (killM hd M) rb) : owned M rb := by
  obtain ⟨b, o, hb⟩ := ho
  exact ⟨b, o, (killM_some hb).2⟩
theorem Rp.kill {c : AV} {v : Value} (hr : Rp I M w c v) : Rp I (killM hd M) w c v :=
  hr.mono (fun _ h => h) (fun _ _ => rfl) (fun _ _ => rfl) killM_mm
theorem killS_ok (hs : SimH I M h nx w) : SimH I (killM hd M) (kill h hd) nx w := by
  refine ⟨fun b => ?_, fun a b rb oa ob ha hb => hs.inj a b rb oa ob (killM_some ha).2 (killM_some hb).2, fun rb ho => hs.sep rb (killM_owned ho), fun rb ho => hs.bnd rb (killM_owned ho), hs.ibd, fun b hb => ?_⟩
  · rw [blk_kill]
    split
    · trivial
    · rename_i hnb
      have hb := hs.blks b
      have hsame : ∀ x, M b = some x → killM hd M b = some x := fun x hx => by unfold killM; rw [if_neg hnb]; exact hx
      cases hk : blk h b with
      | dd => trivial
      | rw v sz es t =>
        rw [hk] at hb
        obtain ⟨rb, o, arr, t1, lo, hi1, h1, h2, h3, h4, h5, h6⟩ := hb
        refine ⟨rb, o, arr, t1, lo, hi1, hsame _ h1, h2, h3, h4, h5, fun i e j c0 ha hb => ?_⟩
        obtain ⟨u, hu, hru⟩ := h6 i e j c0 ha hb
        exact ⟨u, hu, hru.mono (fun _ h => h) (fun _ _ => rfl) (fun _ _ => rfl) (Mv_mm killM_mm)⟩
      | mp es =>
        rw [hk] at hb
        obtain ⟨rb, ents, ck, h1, h2, h3⟩ := hb
        exact ⟨rb, ents, ck, hsame _ h1, h2, h3⟩
  · unfold killM
    rw [hs.fr b hb]
    simp

def outI (I : Nat → Prop) (M : MU) (hd : List Nat) : Nat → Prop := fun b => I b ∨ owned (killM hd M) b

theorem sim_nil (hb : ∀ b, J b → b < w.heap.size) : SimH J M0 [] n0 w :=
  ⟨fun _ => trivial, fun a b rb oa ob ha => by simp [M0] at ha, fun rb ⟨b, o, h⟩ => by simp [M0] at h, fun rb ⟨b, o, h⟩ => by simp [M0] at h, hb, fun _ _ => rfl⟩

theorem outI_lt (hs : SimH I M h nx w) : ∀ b, outI I M hd b → b < w.heap.size := fun b hb => hb.elim (hs.ibd b) fun h => hs.bnd b (killM_owned h)

theorem outC_ok (hs : SimH I M h nx w) {own : Bool} {c a : AV} {v : Value} (hc : outC h (kill h hd) own c = some a) (hr : Rp I M w c v) (hh : ∀ b ∈ handC own c, b ∈ hd) :
    Piece (outI I M hd) w (handC own c) M n0 (inC n0 a).2.1 (inC n0 a).2.2 (fun Mn => Rp (outI I M hd) Mn w (inC n0 a).1 v) := by
  have hsnap : ∀ {c}, snap (kill h hd) c = some a → Rp I M w c v →
      ∀ H, Piece (outI I M hd) w H M n0 (inC n0 a).2.1 (inC n0 a).2.2 (fun Mn => Rp (outI I M hd) Mn w (inC n0 a).1 v) := fun hsn hr H => by
    have h1 := snap_ok (killS_ok hs) (J := outI I M hd) (fun b hb => .inl hb) (.inr fun rb ho => .inr ho) hsn hr.kill
    rw [inC_id (snap_now hsn)]
    exact ⟨M0, sim_nil (outI_lt hs), fun _ _ => rfl, fun rb ⟨b, o, h⟩ => by simp [M0] at h, h1⟩
  unfold outC at hc
  split at hc
  · rename_i sz b lo len
    split at hc
    · rename_i hown
      split at hc
      · rename_i sz2 es hsn
        injection hc with hc; subst hc
        subst hown
        have hbd : b ∈ hd := hh b (by simp [handC])
        simp only [snapC] at hsn
        split at hsn
        · rename_i sz' es' t hk
          simp only [Option.ite_none_right_eq_some, Option.some.injEq, AV.ls.injEq] at hsn
          obtain ⟨⟨rfl, hle⟩, rfl, rfl⟩ := hsn
          obtain ⟨rb, o, arr, t', lo', hi', h1, h2, h3, h4, h5, h6⟩ := hs.blks b |> fun x => by rw [hk] at x; exact x
          have hlen := length_drop_take es' lo len hle
          let Mn : MU := fun k => if k = n0 then some (some (rb, o + lo * sz)) else none
          have hMn : ∀ {k r oo}, Mn k = some (some (r, oo)) → k = n0 ∧ r = rb := fun {k r oo} hk => by
            by_cases e : k = n0
            · simp only [Mn, e, if_true, Option.some.injEq, Prod.mk.injEq] at hk; exact ⟨e, hk.1.symm⟩
            · simp [Mn, e] at hk
          have hnJ : ¬ outI I M hd rb := fun hJ => by
            rcases hJ with hJ | ⟨k, ok, hkk⟩
            · exact hs.sep rb ⟨b, o, h1⟩ hJ
            · obtain ⟨h7, h8⟩ := killM_some hkk
              exact h7 (hs.inj k b rb ok o h8 h1 ▸ hbd)
          refine ⟨Mn, ⟨fun k => ?_, fun a b r oa ob ha hb => (hMn ha).1.trans (hMn hb).1.symm, fun r ⟨k, oo, hk⟩ => (hMn hk).2 ▸ hnJ, fun r ⟨k, oo, hk⟩ => (hMn hk).2 ▸ hs.bnd rb ⟨b, o, h1⟩, outI_lt hs, fun k hk => ?_⟩, fun k hk => ?_, fun r ⟨k, oo, hk⟩ => ⟨b, by simp [handC], o, (hMn hk).2 ▸ h1⟩, ?_⟩
          · simp only [inC, blk, look]
            by_cases e : n0 = k
            · subst e
              rw [if_pos rfl]
              refine ⟨rb, o + lo * sz, arr, t', lo', hi', by simp [Mn], h2, h3, by simp, fun e he => h5 e (List.mem_of_mem_drop (List.mem_of_mem_take he)), fun i e j c hi hj => ?_⟩
              obtain ⟨g1, _⟩ := get_drop_take hi
              obtain ⟨u, hu, hru⟩ := h6 _ _ _ _ g1 hj
              refine ⟨u, by rw [show o + lo * sz + i * sz + j = o + (lo + i) * sz + j by rw [Nat.add_mul]; omega]; exact hu, ?_⟩
              exact hru.mono (fun b hb => .inl hb) (fun _ _ => rfl) (fun _ _ => rfl) (fun b x hb => by simp [Mv, M0] at hb)
            · rw [if_neg e]; trivial
          · simp only [inC] at hk
            have : k ≠ n0 := by omega
            simp [Mn, this]
          · have : k ≠ n0 := by omega
            simp [Mn, this]
          · simp only [inC, hlen]
            cases hr with
            | slD _ _ _ _ _ hM => rw [h1] at hM; simp at hM
            | sl _ _ _ _ rb' o' cap ad t2 n hM hlc had hsh hn =>
              rw [h1] at hM
              simp only [Option.some.injEq, Prod.mk.injEq] at hM
              obtain ⟨rfl, rfl⟩ := hM
              refine .sl sz n0 0 len rb (o + lo * sz) cap ad t2 n (by simp [Mn]) hlc (fun hp => by rw [had hp]; simp) hsh ?_
              rw [Nat.zero_add]
              rw [Nat.add_mul] at hn
              omega
        · simp at hsn
      · simp at hc
    · exact hsnap hc hr _
  · exact hsnap hc hr _

theorem Piece.join {H1 H2 : List Nat} {n1 n2 : Nat} {h1 h2 : List (Nat × BK)} {R1 R2 R : MU → Prop} (hinj : ∀ a b rb oa ob, M a = some (some (rb, oa)) → M b = some (some (rb, ob)) → a = b)
    (p1 : Piece J w H1 M nx h1 n1 R1) (p2 : Piece J w H2 M n1 h2 n2 R2) (hk1 : nx ≤ n1 ∧ ∀ p ∈ h1, nx ≤ p.1 ∧ p.1 < n1) (hk2 : n1 ≤ n2 ∧ ∀ p ∈ h2, n1 ≤ p.1 ∧ p.1 < n2) (hdis : ∀ b ∈ H1, b ∉ H2)
    (hR : ∀ M1 M2 Mn : MU, (∀ b x, M1 b = some x → Mn b = some x) → (∀ b x, M2 b = some x → Mn b = some x) → R1 M1 → R2 M2 → R Mn) : Piece J w (H1 ++ H2) M nx (h1 ++ h2) n2 R := by
  obtain ⟨M1, s1, l1, o1, r1⟩ := p1
  obtain ⟨M2, s2, l2, o2, r2⟩ := p2
  let Mn : MU := fun b => if b < n1 then M1 b else M2 b
  have hm1 : ∀ b x, M1 b = some x → Mn b = some x := fun b x hb => by
    have : b < n1 := by
      rcases Nat.lt_or_ge b n1 with h | h
      · exact h
      · rw [s1.fr b h] at hb; simp at hb
    simp only [Mn, this, if_true]; exact hb
  have hm2 : ∀ b x, M2 b = some x → Mn b = some x := fun b x hb => by
    have : ¬ b < n1 := fun h => by rw [l2 b h] at hb; simp at hb
    simp only [Mn, this, if_false]; exact hb
  have hinv : ∀ b x, Mn b = some x → (b < n1 ∧ M1 b = some x) ∨ (n1 ≤ b ∧ M2 b = some x) := fun b x hb => by
    by_cases h : b < n1
    · simp only [Mn, h, if_true] at hb; exact .inl ⟨h, hb⟩
    · simp only [Mn, h, if_false] at hb; exact .inr ⟨Nat.le_of_not_lt h, hb⟩
  have hown : ∀ rb, owned Mn rb → owned M1 rb ∨ owned M2 rb := fun rb ⟨b, o, hb⟩ => by
    rcases hinv b _ hb with ⟨_, h⟩ | ⟨_, h⟩
    · exact .inl ⟨b, o, h⟩
    · exact .inr ⟨b, o, h⟩
  have hx : ∀ rb, owned M1 rb → owned M2 rb → False := fun rb h1 h2 => by
    obtain ⟨k1, hk1, oa, e1⟩ := o1 rb h1
    obtain ⟨k2, hk2, ob, e2⟩ := o2 rb h2
    exact hdis k1 hk1 (hinj k1 k2 rb oa ob e1 e2 ▸ hk2)
  refine ⟨Mn, ⟨fun b => ?_, fun a b rb oa ob ha hb => ?_, fun rb ho => (hown rb ho).elim (s1.sep rb) (s2.sep rb), fun rb ho => (hown rb ho).elim (s1.bnd rb) (s2.bnd rb), s1.ibd, fun b hb => ?_⟩, fun b hb => ?_, fun rb ho => ?_, hR M1 M2 Mn hm1 hm2 r1 r2⟩
  · by_cases hb : b < n1
    · have : blk (h1 ++ h2) b = blk h1 b := look_append2 _ _ (blk_none s2 (l2 b hb)) _
      rw [this]
      exact (s1.blks b).grow (fun _ h => h) s1.ibd s1.bnd (fun _ _ => rfl) hm1
    · have : blk (h1 ++ h2) b = blk h2 b := look_append _ _ _ _ fun p hp => by have := (hk1.2 p hp).2; omega
      rw [this]
      exact (s2.blks b).grow (fun _ h => h) s2.ibd s2.bnd (fun _ _ => rfl) hm2
  · rcases hinv a _ ha with ⟨_, ha⟩ | ⟨_, ha⟩ <;> rcases hinv b _ hb with ⟨_, hb⟩ | ⟨_, hb⟩
    · exact s1.inj a b rb oa ob ha hb
    · exact (hx rb ⟨a, oa, ha⟩ ⟨b, ob, hb⟩).elim
    · exact (hx rb ⟨b, ob, hb⟩ ⟨a, oa, ha⟩).elim
    · exact s2.inj a b rb oa ob ha hb
  · have : ¬ b < n1 := by omega
    simp only [Mn, this, if_false]; exact s2.fr b hb
  · have : b < n1 := by omega
    simp only [Mn, this, if_true]; exact l1 b hb
  · rcases hown rb ho with h | h
    · obtain ⟨k, hk, o, e⟩ := o1 rb h; exact ⟨k, List.mem_append_left _ hk, o, e⟩
    · obtain ⟨k, hk, o, e⟩ := o2 rb h; exact ⟨k, List.mem_append_right _ hk, o, e⟩
end
end Go.Am
set_option linter.unusedSimpArgs false
set_option linter.unusedVariables false
namespace Go.Am
section
variable {I J : Nat → Prop} {M : MU} {w : World} {h : List (Nat × BK)} {nx n0 : Nat} {hd : List Nat}

theorem nodupB_append : ∀ {l1 l2 : List Nat}, nodupB (l1 ++ l2) = true → nodupB l1 = true ∧ nodupB l2 = true ∧ ∀ b ∈ l1, b ∉ l2
  | [], l2, h => ⟨rfl, h, by simp⟩
  | a :: l1, l2, h => by
    simp only [List.cons_append, nodupB, Bool.and_eq_true, Bool.not_eq_true'] at h
    obtain ⟨h1, h2⟩ := h
    obtain ⟨h3, h4, h5⟩ := nodupB_append h2
    have h6 : a ∉ l1 ∧ a ∉ l2 := by
      have : (l1 ++ l2).contains a = false := h1
      simpa [List.contains_eq_mem] using this
    refine ⟨?_, h4, fun b hb => ?_⟩
    · simp only [nodupB, Bool.and_eq_true, Bool.not_eq_true']
      exact ⟨by simpa using h6.1, h3⟩
    · rcases List.mem_cons.1 hb with e | e
      · subst e; exact h6.2
      · exact h5 b e

theorem Rp.up (hJ : ∀ b, J b → b < w.heap.size) {M' : MU} (hm : ∀ b x, M b = some x → M' b = some x) {c : AV} {v : Value} (hr : Rp J M w c v) : Rp J M' w c v :=
  hr.grow (fun _ h => h) hJ (fun _ _ => rfl) hm
theorem RpW.up (hJ : ∀ b, J b → b < w.heap.size) {M' : MU} (hm : ∀ b x, M b = some x → M' b = some x) {c : AV} {v : Value} (hr : RpW J M w c v) : RpW J M' w c v :=
  RpW.mono' (fun _ _ h => h.up hJ hm) hr
theorem RpV.up (hJ : ∀ b, J b → b < w.heap.size) {M' : MU} (hm : ∀ b x, M b = some x → M' b = some x) {c : AV} {v : Value} (hr : RpV J M w c v) : RpV J M' w c v :=
  RpV.mono' (fun _ _ h => h.up hJ hm) hr

theorem piece_nil {R : MU → Prop} (hs : SimH I M h nx w) (hR : R M0) : Piece (outI I M hd) w [] M n0 [] n0 R :=
  ⟨M0, sim_nil (outI_lt hs), fun _ _ => rfl, fun rb ⟨b, o, h⟩ => by simp [M0] at h, hR⟩

theorem outCs_ok (hs : SimH I M h nx w) (own : List Nat) : ∀ (cs : List AV) (us : List Value) (i n0 : Nat) (l : List AV), All2 (Rp I M w) cs us → outCs h (kill h hd) own i cs = some l →
    nodupB (handCs own i cs) = true → (∀ b ∈ handCs own i cs, b ∈ hd) →
    Piece (outI I M hd) w (handCs own i cs) M n0 (inCs n0 l).2.1 (inCs n0 l).2.2 (fun Mn => All2 (Rp (outI I M hd) Mn w) (inCs n0 l).1 us)
  | [], us, i, n0, l, ha, hc, hn, hh => by
    cases ha
    simp only [outCs, Option.some.injEq] at hc
    subst hc
    exact piece_nil hs .nil
  | c :: cs, us, i, n0, l, ha, hc, hn, hh => by
    cases ha with
    | @cons _ u _ us h1 h2 =>
      simp only [outCs] at hc
      cases ho : outC h (kill h hd) (own.contains i) c with
      | none => rw [ho] at hc; simp at hc
      | some a =>
        cases hl : outCs h (kill h hd) own (i + 1) cs with
        | none => rw [ho, hl] at hc; simp at hc
        | some l' =>
          rw [ho, hl] at hc
          simp only [Option.some.injEq] at hc
          subst hc
          simp only [handCs] at hn hh ⊢
          obtain ⟨_, n2, n3⟩ := nodupB_append hn
          have p1 := outC_ok (n0 := n0) hs ho h1 fun b hb => hh b (List.mem_append_left _ hb)
          have p2 := outCs_ok hs own cs us (i + 1) (inC n0 a).2.2 l' h2 hl n2 fun b hb => hh b (List.mem_append_right _ hb)
          exact Piece.join hs.inj p1 p2 (inC_keys n0 a) (inCs_keys _ l') n3 fun M1 M2 Mn m1 m2 r1 r2 =>
            .cons (r1.up (outI_lt hs) m1) (r2.mono fun _ _ h => h.up (outI_lt hs) m2)

theorem outC_shape {hk : List (Nat × BK)} {own : Bool} {c a : AV} (hc : outC h hk own c = some a) : (∀ l, a ≠ .ag l) ∧ (∀ l, a ≠ .tp l) := by
  unfold outC at hc
  split at hc
  · split at hc
    · split at hc
      · injection hc with hc; subst hc; exact ⟨by simp, by simp⟩
      · simp at hc
    · exact snap_shape hc
  · exact snap_shape hc

theorem inC_shape {n0 : Nat} {a : AV} (h : (∀ l, a ≠ .ag l) ∧ (∀ l, a ≠ .tp l)) : (∀ l, (inC n0 a).1 ≠ .ag l) ∧ (∀ l, (inC n0 a).1 ≠ .tp l) := by
  cases a <;> simp only [inC] <;> first | exact h | exact ⟨by simp, by simp⟩
theorem inV_inC {n0 : Nat} {a : AV} (h : ∀ l, a ≠ .ag l) : inV n0 a = inC n0 a := by
  cases a <;> simp only [inV] <;> exact absurd rfl (h _)
theorem inR_inV {n0 : Nat} {a : AV} (h : ∀ l, a ≠ .tp l) : inR n0 a = inV n0 a := by
  cases a <;> simp only [inR] <;> exact absurd rfl (h _)

theorem RpW.of_rp {c : AV} {v : Value} (h1 : ∀ l, c ≠ .ag l) (hr : Rp I M w c v) : RpW I M w c v := by
  cases c <;> simp only [RpW] <;> first | exact hr | (exact absurd rfl (h1 _))
theorem RpW.inv {c : AV} {v : Value} (h1 : ∀ l, c ≠ .ag l) (hr : RpW I M w c v) : Rp I M w c v := by
  cases c <;> simp only [RpW] at hr <;> first | exact hr | (exact absurd rfl (h1 _))
theorem RpV.toW {c : AV} {v : Value} (h1 : ∀ l, c ≠ .tp l) (hr : RpV I M w c v) : RpW I M w c v := by
  cases c <;> simp only [RpV] at hr <;> first | exact hr | (exact absurd rfl (h1 _))

theorem outV_shape {hk : List (Nat × BK)} {own : List Nat} {i : Nat} {c a : AV} (hc : outV h hk own i c = some a) : ∀ l, a ≠ .tp l := by
  unfold outV at hc
  split at hc
  · simp only [Option.map_eq_some_iff] at hc
    obtain ⟨l, _, rfl⟩ := hc
    simp
  · exact (outC_shape hc).2

theorem outV_ok (hs : SimH I M h nx w) (own : List Nat) {c a : AV} {u : Value} {i n0 : Nat} (hr : RpW I M w c u) (hc : outV h (kill h hd) own i c = some a)
    (hn : nodupB (handV own i c) = true) (hh : ∀ b ∈ handV own i c, b ∈ hd) :
    Piece (outI I M hd) w (handV own i c) M n0 (inV n0 a).2.1 (inV n0 a).2.2 (fun Mn => RpW (outI I M hd) Mn w (inV n0 a).1 u) := by
  by_cases hag : ∃ cs, c = .ag cs
  · obtain ⟨cs, rfl⟩ := hag
    simp only [outV, Option.map_eq_some_iff] at hc
    obtain ⟨l, hl, rfl⟩ := hc
    obtain ⟨vs, rfl, h2⟩ := hr
    obtain ⟨Mn, s, l1, o1, r1⟩ := outCs_ok hs own cs vs.toList i n0 l h2 hl hn hh
    exact ⟨Mn, s, l1, o1, vs, rfl, r1⟩
  · have hna : ∀ cs, c ≠ .ag cs := fun cs h => hag ⟨cs, h⟩
    have e1 : outV h (kill h hd) own i c = outC h (kill h hd) (own.contains i) c := by cases c <;> first | rfl | exact absurd rfl (hna _)
    have e2 : handV own i c = handC (own.contains i) c := by cases c <;> first | rfl | exact absurd rfl (hna _)
    rw [e1] at hc
    rw [e2] at hh ⊢
    have hsh := outC_shape hc
    rw [inV_inC hsh.1]
    obtain ⟨Mn, s, l1, o1, r1⟩ := outC_ok (n0 := n0) hs hc (hr.inv hna) hh
    exact ⟨Mn, s, l1, o1, .of_rp (inC_shape hsh).1 r1⟩

theorem outVs_ok (hs : SimH I M h nx w) (own : List Nat) : ∀ (cs : List AV) (us : List Value) (i n0 : Nat) (l : List AV), All2 (RpW I M w) cs us → outVs h (kill h hd) own i cs = some l →
    nodupB (handVs own i cs) = true → (∀ b ∈ handVs own i cs, b ∈ hd) →
    Piece (outI I M hd) w (handVs own i cs) M n0 (inVs n0 l).2.1 (inVs n0 l).2.2 (fun Mn => All2 (RpW (outI I M hd) Mn w) (inVs n0 l).1 us)
  | [], us, i, n0, l, ha, hc, hn, hh => by
    cases ha
    simp only [outVs, Option.some.injEq] at hc
    subst hc
    exact piece_nil hs .nil
  | c :: cs, us, i, n0, l, ha, hc, hn, hh => by
    cases ha with
    | @cons _ u _ us h1 h2 =>
      simp only [outVs] at hc
      cases ho : outV h (kill h hd) own i c with
      | none => rw [ho] at hc; simp at hc
      | some a =>
        cases hl : outVs h (kill h hd) own (i + widthV c) cs with
        | none => rw [ho, hl] at hc; simp at hc
        | some l' =>
          rw [ho, hl] at hc
          simp only [Option.some.injEq] at hc
          subst hc
          simp only [handVs] at hn hh ⊢
          obtain ⟨n1, n2, n3⟩ := nodupB_append hn
          have p1 := outV_ok (n0 := n0) hs own h1 ho n1 fun b hb => hh b (List.mem_append_left _ hb)
          have p2 := outVs_ok hs own cs us (i + widthV c) (inV n0 a).2.2 l' h2 hl n2 fun b hb => hh b (List.mem_append_right _ hb)
          exact Piece.join hs.inj p1 p2 (inV_keys n0 a) (inVs_keys _ l') n3 fun M1 M2 Mn m1 m2 r1 r2 =>
            .cons (r1.up (outI_lt hs) m1) (r2.mono fun _ _ h => h.up (outI_lt hs) m2)

theorem outVs_notp {hk : List (Nat × BK)} {own : List Nat} : ∀ {cs l : List AV} {i : Nat}, outVs h hk own i cs = some l → ∀ a ∈ l, ∀ x, a ≠ .tp x
  | [], l, i, hc => by simp only [outVs, Option.some.injEq] at hc; subst hc; simp
  | c :: cs, l, i, hc => by
    simp only [outVs] at hc
    cases ho : outV h hk own i c with
    | none => rw [ho] at hc; simp at hc
    | some a =>
      cases hl : outVs h hk own (i + widthV c) cs with
      | none => rw [ho, hl] at hc; simp at hc
      | some l' =>
        rw [ho, hl] at hc
        simp only [Option.some.injEq] at hc
        subst hc
        intro b hb
        rcases List.mem_cons.1 hb with e | e
        · subst e; exact outV_shape ho
        · exact outVs_notp hl b e

def packV (vs : Array Value) : Value := if h : vs.size = 1 then vs[0] else .tuple vs

theorem inV_notp {n0 : Nat} {a : AV} (h : ∀ l, a ≠ .tp l) : ∀ l, (inV n0 a).1 ≠ .tp l := by
  cases a <;> simp only [inV, inC] <;> first | exact h | simp

theorem pack_ok {l : List AV} {vs : Array Value} {Mn : MU} (hn : ∀ a ∈ l, ∀ x, a ≠ .tp x) (h : All2 (RpW J Mn w) (inVs n0 l).1 vs.toList) :
    RpV J Mn w (inR n0 (pack l)).1 (packV vs) ∧ (inR n0 (pack l)).2 = (inVs n0 l).2 := by
  match l, hn, h with
  | [], hn, h =>
    have h0 := h.length
    have hv : vs = #[] := by simpa [inVs, eq_comm] using h0
    subst hv
    exact ⟨⟨#[], rfl, .nil⟩, rfl⟩
  | [a], hn, h =>
    have hna := hn a (by simp)
    simp only [inVs] at h
    generalize hus : vs.toList = us at h
    cases h with
    | @cons _ u _ _ h1 h2 =>
      cases h2
      have hv : vs = #[u] := by apply Array.toList_inj.1; rw [hus]
      subst hv
      simp only [pack]
      rw [inR_inV hna]
      refine ⟨?_, by simp [inVs]⟩
      simp only [packV]
      exact RpW.rpV h1 (inV_notp hna)
  | a :: b :: l, hn, h =>
    refine ⟨?_, rfl⟩
    show RpV J Mn w (.tp (inVs n0 (a :: b :: l)).1) _
    have hlen := h.length
    have hv : vs.size ≠ 1 := by
      simp only [inVs, List.length_cons, Array.length_toList] at hlen
      omega
    simp only [packV, hv, dif_neg, not_false_eq_true]
    exact ⟨vs, rfl, h⟩
end
end Go.Am
set_option linter.unusedSimpArgs false
set_option linter.unusedVariables false
namespace Go.Am

structure EvB (bs : Nat) (I : Nat → Prop) (M : MU) (w : World) (I' : Nat → Prop) (M' : MU) (w' : World) : Prop where
  os : w'.os = w.os
  tape : w'.tape = w.tape
  output : w'.output = w.output
  size : w.heap.size ≤ w'.heap.size
  imm : ∀ b, I b → I' b
  newI : ∀ b, I' b → I b ∨ owned M b ∨ w.heap.size ≤ b
  keep : ∀ b, b < w.heap.size → ¬ owned M b → w'.heap[b]? = w.heap[b]?
  shp : ∀ b, b < w.heap.size → w'.shape? b = w.shape? b
  mm : ∀ b x, b < bs → M b = some x → M' b = some x ∨ M' b = some none
  own : ∀ rb, owned M' rb → owned M rb ∨ w.heap.size ≤ rb
  drw : DLe w w'

section
variable {P : Program} {I I' I'' : Nat → Prop} {M M' M'' : MU} {w w' w'' : World} {h : List (Nat × BK)} {nx nt bs : Nat} {tm : List (Nat × AV)} {a : Act} {o : Oper}

theorem Ev.toB (h : Ev I M w I' M' w') : EvB bs I M w I' M' w' := ⟨h.os, h.tape, h.output, h.size, h.imm, h.newI, h.keep, h.shp, fun b x _ => h.mm b x, h.own, h.drw⟩
theorem EvB.toEv (h : EvB bs I M w I' M' w') (hf : ∀ b, bs ≤ b → M b = none) : Ev I M w I' M' w' :=
  ⟨h.os, h.tape, h.output, h.size, h.imm, h.newI, h.keep, h.shp, fun b x hb => by
    rcases Nat.lt_or_ge b bs with hl | hl
    · exact h.mm b x hl hb
    · rw [hf b hl] at hb; simp at hb, h.own, h.drw⟩
theorem EvB.trans (h : EvB bs I M w I' M' w') (k : EvB bs I' M' w' I'' M'' w'') : EvB bs I M w I'' M'' w'' where
  os := k.os.trans h.os
  tape := k.tape.trans h.tape
  output := k.output.trans h.output
  size := Nat.le_trans h.size k.size
  imm := fun b hb => k.imm b (h.imm b hb)
  newI := fun b hb => by
    rcases k.newI b hb with h1 | h1 | h1
    · exact h.newI b h1
    · rcases h.own b h1 with h2 | h2
      · exact .inr (.inl h2)
      · exact .inr (.inr h2)
    · exact .inr (.inr (Nat.le_trans h.size h1))
  keep := fun b hb ho => (k.keep b (Nat.lt_of_lt_of_le hb h.size) fun ho' => by
    rcases h.own b ho' with h1 | h1
    · exact ho h1
    · omega).trans (h.keep b hb ho)
  shp := fun b hb => (k.shp b (Nat.lt_of_lt_of_le hb h.size)).trans (h.shp b hb)
  mm := fun b x hl hb => by
    rcases h.mm b x hl hb with h1 | h1
    · exact k.mm b x hl h1
    · rcases k.mm b none hl h1 with h2 | h2 <;> exact .inr h2
  drw := h.drw.trans k.drw
  own := fun rb ho => by
    rcases k.own rb ho with h1 | h1
    · exact h.own rb h1
    · exact .inr (Nat.le_trans h.size h1)
theorem EvB.refl (bs : Nat) (I : Nat → Prop) (M : MU) (w : World) : EvB bs I M w I M w := (Ev.refl I M w).toB

structure Did (I : Nat → Prop) (M : MU) (nx : Nat) (w : World) (e : Ef) (q : Bool) (v : Value) (I' : Nat → Prop) (M' : MU) (w' : World) : Prop where
  ev : Ev I M w I' M' w'
  sim : SimH I' M' e.h e.nx w'
  val : RpV I' M' w' e.v v
  qu : q = true → Quiet I M nx w I' M' w'

theorem OpOk.wp {e : Ef} {q : Bool} {next : Act → World → Prop} {Q : Exit → Act → World → Prop} (h : OpOk P I M nx w (execOp a.eval o) e q)
    (hk : ∀ v I' M' w', Did I M nx w e q v I' M' w' → next (a.put o.dst v) w') : o.wp P a w next Q := by
  obtain ⟨nv, v, w', I', M', h1, h2, h3, h4, h5, h6⟩ := h
  unfold Oper.wp
  rw [h1]
  cases h2 with
  | val v => exact hk v I' M' w' ⟨h3, h4, h5, h6⟩
  | skip => exact hk undef I' M' w' ⟨h3, h4, h5, h6⟩

def exOf : EX → Exit
  | .nm => .normal
  | .xt id => .exit id
  | .rt => .ret

def SoundAt (P : Program) (run : CC → St → Option (EX × St)) (code : Code) : Prop :=
  ∀ nt live n cc m, compC P nt live code n = some (cc, m) → ∀ S ex S', run cc S = some (ex, S') →
    ∀ I M a w, SimT I M S.tm nt a.tmps w → SimH I M S.h S.nx w → S.bs ≤ S.nx →
      ∀ Q, (∀ a' w' I' M', EvB S.bs I M w I' M' w' → SimT I' M' S'.tm nt a'.tmps w' → SimH I' M' S'.h S'.nx w' → S'.bs = S.bs → S.bs ≤ S'.nx → a'.defers = a.defers → Q (exOf ex) a' w') →
        code.wp P Q a w
def Sound (P : Program) (run : CC → St → Option (EX × St)) : Prop := ∀ code, SoundAt P run code

def Ent (P : Program) (f : FuncId) : Prop := ∃ fn c, P.funcs[f]? = some fn ∧ (fn.name == "runtime.NumGoroutine") = false ∧ fn.body = some c
structure CfgOk (P : Program) (g : Cfg) : Prop where
  code : ∀ f c, g.code f = some c → ∃ fn live, P.funcs[f]? = some fn ∧ compF P live fn = some c
  ext : ∀ f as r, g.ext f as = some r → Ent P f ∧ PureOk P f as r
  wr : ∀ f as h nx e, g.wr f as h nx = some e → ∀ (I : Nat → Prop) (M : MU) (w : World) (vals : Array Value), SimH I M h nx w → All2 (RpV I M w) as vals.toList →
    Ent P f ∧ ∀ R : Ending → World → Prop, (∀ v I' M' w', Did I M nx w e false v I' M' w' → R (.returned v) w') → Calls P f vals w R

theorem compF_inv {live : Nat → List Nat} {fn : Func} {c : CF} (h : compF P live fn = some c) :
    ∃ b m, fn.body = some b ∧ (fn.name == "runtime.NumGoroutine") = false ∧ compC P fn.ntmps live b 0 = some (c.code, m) ∧ c.np = fn.ntmps ∧
      All2 (fun (x : ResultVar) (y : CR) => match x with | .tmp t => y = .tm t | .cell a t => ∃ n, shapeT P t = some n ∧ y = .cl a n) fn.results.toList c.res := by
  simp only [compF, Option.bind_eq_bind, Option.bind_eq_some_iff, Option.ite_none_left_eq_some, Option.some.injEq] at h
  obtain ⟨b, hb, ⟨c0, m⟩, hc, rs, hr, hn, rfl⟩ := h
  refine ⟨b, m, hb, by simpa using hn, hc, rfl, (mapM_all2 hr).mono fun x y hxy => ?_⟩
  cases x with
  | tmp t => simpa [eq_comm] using hxy
  | cell a t =>
    simp only [Option.bind_eq_some_iff, Option.some.injEq] at hxy
    obtain ⟨n, hn, rfl⟩ := hxy
    exact ⟨n, hn, rfl⟩

theorem entry_look : ∀ (as : List AV) (i t : Nat), look .ud (entry as i) t = if i ≤ t then (as[t - i]?).getD .ud else .ud
  | [], i, t => by simp [entry, look]
  | a :: as, i, t => by
    simp only [entry, look]
    rw [entry_look as (i + 1) t]
    by_cases h1 : i = t
    · subst h1; simp
    · by_cases h2 : i ≤ t
      · have h3 : i + 1 ≤ t := by omega
        have h4 : t - i = (t - (i + 1)) + 1 := by omega
        simp [h1, h2, h3, h4]
      · have h3 : ¬ i + 1 ≤ t := by omega
        simp [h1, h2, h3]

theorem entry_ok {as : List AV} {vals : Array Value} (h : All2 (RpV I M w) as vals.toList) (hn : as.length ≤ nt) :
    SimT I M (entry as) nt (vals ++ Array.replicate (nt - vals.size) undef) w := by
  have hl := h.length
  simp only [Array.length_toList] at hl
  refine ⟨by simp; omega, fun t => ?_⟩
  rw [entry_look]
  simp only [Nat.zero_le, if_true, Nat.sub_zero]
  cases ha : as[t]? with
  | none =>
    have hge : as.length ≤ t := by simpa using ha
    exact Rp.ud _
  | some c =>
    obtain ⟨b, hb, hr⟩ := h.get t c ha
    have hlt : t < vals.size := by
      have := (List.getElem?_eq_some_iff.1 hb).1
      simpa using this
    have : (vals ++ Array.replicate (nt - vals.size) undef).getD t undef = b := by
      rw [Array.getD_eq_getD_getElem?, Array.getElem?_append_left hlt]
      simp only [Array.getElem?_toList] at hb
      rw [hb]; rfl
    rw [this]
    simpa using hr
end
end Go.Am
set_option linter.unusedSimpArgs false
set_option linter.unusedVariables false
namespace Go.Am
section
variable {P : Program} {I I' I'' : Nat → Prop} {M M' M'' : MU} {w w' w'' : World} {h : List (Nat × BK)} {nx nt bs : Nat} {tm : List (Nat × AV)} {a : Act} {o : Oper} {S : St}

theorem loadAt_loadVar {t : TypeId} {ad : Addr} {u : Value} (h : (Instr.loadAt t (.pointer (some ad))).run P w = .ok u w) : (loadVar t ad).run P w = .ok u w := by
  simpa [Instr.loadAt, Instr.sureAddr] using h

def resOne (tmps : Array Value) : ResultVar → Sem Value
  | .tmp t => pure (tmps.getD t undef)
  | .cell b t => do loadVar t (← asAddr (tmps.getD b undef))

theorem resOne_cell {tmps : Array Value} {b : Tmp} {t : TypeId} {ad : Addr} (h : tmps.getD b undef = .pointer (some ad)) : resOne tmps (.cell b t) = loadVar t ad := by
  simp only [resOne, h, asAddr, pure_bind]

theorem loadA_ntp (hs : SimH I M h nx w) {n : Option Nat} {p c : AV} {v : Value} (hc : loadA h n p = some c) (hp : RpV I M w p v) : ∀ l, c ≠ .tp l := by
  have hp' : Rp I M w p v := by
    refine hp.scalar_inv ?_ ?_ <;> (rintro l rfl; cases n <;> simp [loadA, cellsAt] at hc)
  cases n with
  | some n =>
    simp only [loadA, Option.map_eq_some_iff] at hc
    obtain ⟨cs, hcs, rfl⟩ := hc
    simp
  | none =>
    simp only [loadA] at hc
    cases hcs : cellsAt h 1 p with
    | none => rw [hcs] at hc; simp at hc
    | some cs =>
      rw [hcs] at hc
      obtain ⟨rb, k, rfl, hl, hcell⟩ := cellsAt_ok hs hcs hp'
      match cs, hl, hc, hcell with
      | [c'], _, hc, hcell =>
        simp only [Option.some.injEq] at hc
        subst hc
        obtain ⟨u, hu, hru⟩ := hcell 0 _ rfl
        rintro l rfl
        cases hru

theorem results_list (hs : SimH I M S.h nx w) (ht : SimT I M S.tm nt a.tmps w) : ∀ {rs : List ResultVar} {cs : List CR} {vs : List AV},
    All2 (fun (x : ResultVar) (y : CR) => match x with | .tmp t => y = .tm t | .cell a t => ∃ n, shapeT P t = some n ∧ y = .cl a n) rs cs → results S cs = some vs →
    ∃ us : List Value, (rs.mapM (resOne a.tmps)).run P w = .ok us w ∧ All2 (RpW I M w) vs us
  | [], cs, vs, h2, hr => by
    cases h2
    simp only [results, Option.some.injEq] at hr
    subst hr
    exact ⟨[], by simp, .nil⟩
  | r :: rs, cs, vs, h2, hr => by
    cases h2 with
    | @cons _ c _ cs h3 h4 =>
      cases r with
      | tmp t =>
        simp only at h3
        subst h3
        simp only [results] at hr
        split at hr
        · simp at hr
        · rename_i hnt
          simp only [Option.map_eq_some_iff] at hr
          obtain ⟨l, hl, rfl⟩ := hr
          obtain ⟨us, hu, h5⟩ := results_list hs ht h4 hl
          refine ⟨a.tmps.getD t undef :: us, ?_, .cons ((ht.get t).toW hnt) h5⟩
          rw [List.mapM_cons, show resOne a.tmps (.tmp t) = pure (a.tmps.getD t undef) from rfl]
          simp only [Sem.run_bind, Sem.run_pure, Result.andThen_ok, hu]
      | cell b t =>
        simp only at h3
        obtain ⟨n, hn, rfl⟩ := h3
        simp only [results] at hr
        cases hld : loadA S.h n (look .ud S.tm b) with
        | none => rw [hld] at hr; simp at hr
        | some v =>
          cases hrs : results S cs with
          | none => rw [hld, hrs] at hr; simp at hr
          | some l =>
            rw [hld, hrs] at hr
            simp only [Option.some.injEq] at hr
            subst hr
            obtain ⟨us, hu, h5⟩ := results_list hs ht h4 hrs
            obtain ⟨u, hu2, hru, ad, had⟩ := loadA_ok (P := P) hs hn hld (ht.get b)
            rw [had] at hu2
            have hu3 := loadAt_loadVar hu2
            refine ⟨u :: us, ?_, .cons (hru.toW (loadA_ntp hs hld (ht.get b))) h5⟩
            rw [List.mapM_cons, resOne_cell had]
            simp only [Sem.run_bind, Sem.run_pure, Result.andThen_ok, hu, hu3]

theorem results_ok {fn : Func} {cs : List CR} {vs : List AV} (hs : SimH I M S.h nx w) (ht : SimT I M S.tm nt a.tmps w)
    (h2 : All2 (fun (x : ResultVar) (y : CR) => match x with | .tmp t => y = .tm t | .cell a t => ∃ n, shapeT P t = some n ∧ y = .cl a n) fn.results.toList cs) (hr : results S cs = some vs) :
    ∃ us : Array Value, (Go.results fn a.tmps).run P w = .ok (packV us) w ∧ All2 (RpW I M w) vs us.toList := by
  obtain ⟨us, hu, h3⟩ := results_list (P := P) hs ht h2 hr
  refine ⟨us.toArray, ?_, by simpa using h3⟩
  show (do let vs ← fn.results.mapM (resOne a.tmps); pure (packV vs) : Sem Value).run P w = _
  rw [Array.mapM_eq_mapM_toList]
  simp only [Sem.run_bind, Sem.run_map]
  rw [hu]
  rfl
end
end Go.Am
set_option linter.unusedSimpArgs false
set_option linter.unusedVariables false
namespace Go.Am
section
variable {P : Program} {I I' I'' : Nat → Prop} {M M' M'' : MU} {w w' w'' : World} {h : List (Nat × BK)} {nx nt bs : Nat} {tm : List (Nat × AV)} {a : Act} {o : Oper} {S : St} {g : Cfg} {run : CC → St → Option (EX × St)}

theorem rpW_ntp {c : AV} {v : Value} (hr : RpW I M w c v) : ∀ l, c ≠ .tp l := by
  rintro l rfl
  cases (show Rp I M w (.tp l) v from hr)

theorem packA_ok {l : List AV} {vs : Array Value} (h : All2 (RpW I M w) l vs.toList) : RpV I M w (pack l) (packV vs) := by
  match l, h with
  | [], h =>
    have h0 := h.length
    have hv : vs = #[] := by simpa [eq_comm] using h0
    subst hv
    exact ⟨#[], rfl, .nil⟩
  | [a], h =>
    generalize hus : vs.toList = us at h
    cases h with
    | @cons _ u _ _ h1 h2 =>
      cases h2
      have hv : vs = #[u] := by apply Array.toList_inj.1; rw [hus]
      subst hv
      simp only [packV]
      exact RpW.rpV h1 (rpW_ntp h1)
  | a :: b :: l, h =>
    have hlen := h.length
    have hv : vs.size ≠ 1 := by
      simp only [List.length_cons, Array.length_toList] at hlen
      omega
    simp only [packV, hv, dif_neg, not_false_eq_true]
    exact ⟨vs, rfl, h⟩

theorem callP_ok (hg : CfgOk P g) (hr : Sound P run) {f : FuncId} {as : List AV} {r : AV} (hc : callP g run f as = some r) : Ent P f ∧ PureOk P f as r := by
  unfold callP at hc
  split at hc
  · rename_i r' he
    injection hc with hc; subst hc
    exact hg.ext f as _ he
  · split at hc
    · simp at hc
    · rename_i c hcode
      simp only [Option.ite_none_left_eq_some] at hc
      obtain ⟨hlen, hc⟩ := hc
      obtain ⟨fn, live, hf, hcf⟩ := hg.code f c hcode
      obtain ⟨b, m, hb, hname, hcc, hnp, hres⟩ := compF_inv hcf
      refine ⟨⟨fn, b, hf, hname, hb⟩, fun I w vals hI hargs => calls_of_wp hf hb ?_⟩
      have hfin : ∀ ex S', run c.code { tm := entry as, h := [], nx := 0, bs := 0 } = some (ex, S') → (ex = .nm ∨ ex = .rt) →
          (match results S' c.res with
            | some vs => if nodupB (handVs (g.own f) 0 vs) then (outVs S'.h (kill S'.h (handVs (g.own f) 0 vs)) (g.own f) 0 vs).map pack else none
            | none => none) = some r →
          b.wp P (bodyPost P fn (fun | .returned v, w' => Out I w r v w' | _, _ => False)) { tmps := vals ++ Array.replicate (fn.ntmps - vals.size) undef, defers := [] } w := fun ex S' hrun hex hout => by
        refine hr b fn.ntmps live 0 c.code m hcc _ ex S' hrun I M0 _ w (entry_ok hargs (by rw [← hnp]; omega)) (sim_nil hI) (Nat.le_refl _) _ fun a' w' I' M' hev ht hs hbs _ hd => ?_
        split at hout
        · rename_i vs hvs
          simp only [Option.ite_none_right_eq_some, Option.map_eq_some_iff] at hout
          obtain ⟨hnd, l, hl, rfl⟩ := hout
          obtain ⟨us, hu, h3⟩ := results_ok (P := P) hs ht hres hvs
          have hO : Out I w (pack l) (packV us) w' := by
            refine ⟨outI I' M' (handVs (g.own f) 0 vs), hev.os, hev.tape, hev.output, hev.size, fun b hb => hev.keep b hb (fun ⟨k, o, hk⟩ => by simp [M0] at hk), fun b hb => .inl (hev.imm b hb), fun b hb => ?_, fun nx => ?_, hev.drw⟩
            · have hnew : ∀ b, owned M' b → w.heap.size ≤ b := fun b ho => by
                rcases hev.own b ho with ⟨k, o, hk⟩ | h1
                · simp [M0] at hk
                · exact h1
              rcases hb with hb | hb
              · rcases hev.newI b hb with h1 | ⟨k, o, hk⟩ | h1
                · exact .inl h1
                · simp [M0] at hk
                · exact .inr h1
              · exact .inr (hnew b (killM_owned hb))
            · obtain ⟨Mn, s, l1, o1, r1⟩ := outVs_ok (hd := handVs (g.own f) 0 vs) hs (g.own f) vs us.toList 0 nx l h3 hl hnd (fun b hb => hb)
              obtain ⟨p1, p2⟩ := pack_ok (outVs_notp hl) r1
              refine ⟨Mn, ?_, l1, fun rb ho => ?_, p1⟩
              · rw [p2]; exact s
              · obtain ⟨k, _, o, hk⟩ := o1 rb ho
                rcases hev.own rb ⟨k, o, hk⟩ with ⟨k, o, hk⟩ | h1
                · simp [M0] at hk
                · exact h1
          rcases hex with rfl | rfl <;> exact ⟨hd, packV us, hu, hO⟩
        · simp at hout
      split at hc <;> first
        | (simp at hc; done)
        | skip
      rename_i ex S' hx hrun
      refine hfin ex S' hrun ?_ hc
      cases ex with
      | nm => exact .inl rfl
      | rt => exact .inr rfl
      | xt id => exact (hx id rfl).elim

theorem All2.map_right {α β γ : Type} {R : α → β → Prop} {S : α → γ → Prop} {f : β → γ} (hf : ∀ a b, R a b → S a (f b)) {as : List α} {bs : List β} (h : All2 R as bs) : All2 S as (bs.map f) := by
  induction h with
  | nil => exact .nil
  | cons h1 _ ih => exact .cons (hf _ _ h1) ih

theorem blkOver (f : Nat → BK) (h : List (Nat × BK)) (b : Nat) : ∀ wr : List Nat, blk (over h f wr) b = if b ∈ wr then f b else blk h b
  | [] => by simp [over]
  | a :: wr => by
    simp only [over, blk_put, blkOver f h b wr]
    by_cases e : a = b
    · subst e; simp
    · have : ¬ b = a := fun h => e h.symm
      simp [e, this]

theorem callA_ok (hg : CfgOk P g) (hr : Sound P run) {f : FuncId} {as : List AV} {e : Ef} {vals : Array Value} (hc : callA g run f as h nx = some e) (hs : SimH I M h nx w) (ha : All2 (RpV I M w) as vals.toList) :
    Ent P f ∧ ∀ R : Ending → World → Prop, (∀ v I' M' w', Did I M nx w e (!g.inl f && !g.kl f) v I' M' w' → R (.returned v) w') → Calls P f vals w R := by
  unfold callA at hc
  split at hc
  · rename_i hinl
    split at hc
    · obtain ⟨he, hk⟩ := hg.wr f as h nx e hc I M w vals hs ha
      refine ⟨he, fun R hR => hk R fun v I' M' w' hD => hR v I' M' w' ?_⟩
      rw [hinl]
      exact hD
    · rename_i c hcode
      generalize clo h 64 (as.flatMap refsV) [] = U at hc
      unfold inlA at hc
      simp only [Option.ite_none_left_eq_some] at hc
      obtain ⟨hlen, hc⟩ := hc
      split at hc <;> first
        | (simp at hc; done)
        | skip
      rename_i hall
      obtain ⟨fn, live, hf, hcf⟩ := hg.code f c hcode
      obtain ⟨b, m, hb, hname, hcc, hnp, hres⟩ := compF_inv hcf
      refine ⟨⟨fn, b, hf, hname, hb⟩, fun R hR => calls_of_wp hf hb ?_⟩
      split at hc <;> first
        | (simp at hc; done)
        | skip
      rename_i ex S' hx hrun
      split at hc
      · rename_i vs hvs
        injection hc with hc; subst hc
        have hU : ∀ b ∈ U, b < nx := fun b hb => by simpa using (List.all_eq_true.1 hall) b hb
        have hcut : ∀ (b : Nat) (x), U.contains b = true → M b = some x → cutM M U (id b) = some x := fun b x hb hx => by
          show cutM M U b = _
          unfold cutM
          rw [if_pos hb]; exact hx
        have hloc : SimH I (cutM M U) (lotH h U U) nx w := lot_ok hs.toB (fun _ _ => rfl) (fun _ h => h) hU
        have ha' : All2 (RpV I (cutM M U) w) (as.map (lrV (U.contains ·) id)) vals.toList := All2.map_left (fun a b hab => lrV_ok (r := id) (M := M) hcut hab) ha
        refine hr b fn.ntmps live 0 c.code m hcc _ ex S' hrun I (cutM M U) _ w (entry_ok ha' (by rw [← hnp, List.length_map]; omega)) hloc (Nat.le_refl _) _ fun a' w' I' M' hev ht hs' hbs hle hd => ?_
        obtain ⟨us, hu, h3⟩ := results_ok (P := P) hs' ht hres hvs
        obtain ⟨f1, f2, f3⟩ := frame_ok (W := U) (fun _ h => h) hs.toB hU (hev.toEv hloc.fr) hs' (fun b h1 h2 => absurd h1 h2) (fun b h1 h2 h3 => by omega) hU hle (blk (over h (fun b => lrB (domD U nx S'.nx) id (blk S'.h b)) (upto nx (S'.nx - nx) ++ U)))
          (fun b hb => by rw [blkOver, if_pos hb]) (fun b hb => by rw [blkOver, if_neg hb])
        have hle' : nx ≤ S'.nx := hle
        have hD : Did I M nx w ⟨lrV (domD U nx S'.nx) id (pack vs), over h (fun b => lrB (domD U nx S'.nx) id (blk S'.h b)) (upto nx (S'.nx - nx) ++ U), S'.nx⟩ (!g.inl f && !g.kl f) (packV us) I' (glue M M' U nx S'.nx) w' :=
          ⟨f1, f2.toH (fun _ => rfl) (fun b hb => by show b < S'.nx; rcases hb with h | h <;> omega), lrV_ok (r := id) f3 (packA_ok h3), by rw [hinl]; simp⟩
        cases ex with
        | nm => exact ⟨hd, packV us, hu, hR _ _ _ _ hD⟩
        | rt => exact ⟨hd, packV us, hu, hR _ _ _ _ hD⟩
        | xt id => exact (hx id rfl).elim
      · simp at hc
  · rename_i hinl
    split at hc
    · simp at hc
    · rename_i as' has
      split at hc
      · simp at hc
      · rename_i r hcp
        obtain ⟨hent, hpure⟩ := callP_ok hg hr hcp
        refine ⟨hent, fun R hR => ?_⟩
        split at hc
        · rename_i hkl
          split at hc
          · rename_i hrow
            simp only [Option.some.injEq] at hc
            subst hc
            simp only [List.all_eq_true] at hrow
            have hs' := kill_ok hs (as.flatMap refsV)
            have hev := kill_ev (I := I) (M := M) (w := w) (as.flatMap refsV)
            have hargs : All2 (RpV (deadI (as.flatMap refsV) I M) M0 w) as' vals.toList := ha.comp_mem (snapL_all2 has) fun a b c ham hS hRR =>
              snapV_ok hs (fun _ h => .inl h) (.inl fun b hb => by
                have hm := List.mem_flatMap.2 ⟨a, ham, hb⟩
                exact ⟨hrow b hm, fun rb o hM => .inr ⟨b, o, hm, hM⟩⟩) hS hRR
            refine Calls.mono (hpure _ w vals hs'.ibd hargs) fun e w' he => ?_
            cases e with
            | returned v =>
              obtain ⟨I', M', h1, h2, h3, h4⟩ := join_ok hs' he
              exact hR v I' M' w' ⟨hev.trans h1, h2, h3, fun h => by rw [hkl] at h; simp at h⟩
            | panicked c => exact he.elim
            | outgrown => exact he.elim
          · simp at hc
        · split at hc
          · rename_i hcond
            simp only [Option.some.injEq] at hc
            subst hc
            have key : ∀ J : Nat → Prop, (∀ b, I b → J b) → (∀ b, J b → b < w.heap.size) → (as.all (okV fun _ => false) = true ∨ ∀ rb, owned M rb → J rb) → (∀ v w', Out J w r v w' → Out I w r v w') → Calls P f vals w R := fun J hJ hJb hO hout => by
              have hargs : All2 (RpV J M0 w) as' vals.toList := ha.comp_mem (snapL_all2 has) fun a b c ham hS hRR =>
                snapV_ok hs hJ (hO.imp (fun h b hb => by rw [refsV_none ((List.all_eq_true.1 h) a ham)] at hb; cases hb) id) hS hRR
              refine Calls.mono (hpure J w vals hJb hargs) fun e w' he => ?_
              cases e with
              | returned v =>
                obtain ⟨I', M', h1, h2, h3, h4⟩ := join_ok hs (hout v w' he)
                exact hR v I' M' w' ⟨h1, h2, h3, fun _ => h4⟩
              | panicked c => exact he.elim
              | outgrown => exact he.elim
            simp only [Bool.or_eq_true] at hcond
            rcases hcond with hcond | hcond
            · exact key I (fun _ h => h) hs.ibd (.inl hcond) fun _ _ h => h
            · exact key (fun b => I b ∨ owned M b) (fun _ h => .inl h) (fun b hb => hb.elim (hs.ibd b) (hs.bnd b)) (.inr fun _ h => .inr h) fun v w' ho => flat_out ho hcond hs.ibd
          · simp at hc
end
end Go.Am
set_option linter.unusedSimpArgs false
set_option linter.unusedVariables false
namespace Go.Am

def isCall : COp → Bool
  | .cf .. | .cv .. => true
  | _ => false

theorem nilCmp_nocall {neg : Bool} {d : TypeDesc} {x y : Operand} {c : COp} (h : nilCmp neg d x y = some c) : isCall c = false := by
  obtain ⟨k, x', _, _, rfl⟩ := nilCmp_some h
  rfl

theorem compOp0_nocall {P : Program} {o : Oper} {c : COp} (h : compOp0 P o = some c) (hn : ∀ k, o.op ≠ .call k) : isCall c = false := by
  unfold compOp0 at h
  split at h <;> (try simp only [Option.bind_eq_bind, Option.bind_eq_some_iff, Option.some.injEq, Option.ite_none_right_eq_some] at h)
  all_goals first
    | (rename_i k hk; exact absurd hk (hn k))
    | (simp at h; done)
    | skip
  all_goals (repeat' (first | rfl | (obtain ⟨_, h⟩ := h) | (subst h; rfl) | (split at h) | (simp only [Option.bind_eq_some_iff, Option.some.injEq, Option.ite_none_left_eq_some, Option.ite_none_right_eq_some] at h) | exact nilCmp_nocall h | (exact absurd h (by simp))))

theorem compOp0_call {P : Program} {o : Oper} {c : COp} {k : Call} (h : compOp0 P o = some c) (hk : o.op = .call k) :
    isCall c = false ∨ ∃ as, k.args.toList.mapM ofOpd = some as ∧ ((∃ f, k.callee = .value (.func f) ∧ c = .cf f as) ∨ (∃ x y, k.callee = .value x ∧ ofOpd x = some y ∧ c = .cv y as)) := by
  unfold compOp0 at h
  rw [hk] at h
  simp only [Option.bind_eq_bind, Option.bind_eq_some_iff] at h
  obtain ⟨as, has, h⟩ := h
  split at h
  · rename_i f hc
    injection h with h; subst h
    exact .inr ⟨_, has, .inl ⟨f, hc, rfl⟩⟩
  · rename_i x hx hc
    simp only [Option.bind_eq_some_iff, Option.some.injEq] at h
    obtain ⟨y, hy, rfl⟩ := h
    exact .inr ⟨_, has, .inr ⟨_, y, hc, hy, rfl⟩⟩
  all_goals left
  all_goals (repeat' (first | rfl | (obtain ⟨_, h⟩ := h) | (subst h; rfl) | (split at h) | (simp only [Option.bind_eq_some_iff, Option.some.injEq, Option.ite_none_left_eq_some, Option.ite_none_right_eq_some] at h) | (exact absurd h (by simp))))

theorem compOp_nocall {P : Program} {o : Oper} {c : COp} (h : compOp P o = some c) (hn : ∀ k, o.op ≠ .call k) : isCall c = false := by
  rcases compOp_cases h with h | rfl
  · exact compOp0_nocall h hn
  · rfl
theorem compOp_call {P : Program} {o : Oper} {c : COp} {k : Call} (h : compOp P o = some c) (hk : o.op = .call k) :
    isCall c = false ∨ ∃ as, k.args.toList.mapM ofOpd = some as ∧ ((∃ f, k.callee = .value (.func f) ∧ c = .cf f as) ∨ (∃ x y, k.callee = .value x ∧ ofOpd x = some y ∧ c = .cv y as)) := by
  rcases compOp_cases h with h | rfl
  · exact compOp0_call h hk
  · exact .inl rfl
end Go.Am
set_option linter.unusedSimpArgs false
set_option linter.unusedVariables false
namespace Go.Am
section
variable {P : Program} {I I' I'' : Nat → Prop} {M M' M'' : MU} {w w' w'' : World} {h : List (Nat × BK)} {nx nt bs : Nat} {tm : List (Nat × AV)} {a : Act} {o : Oper} {S : St} {g : Cfg} {run : CC → St → Option (EX × St)}
  {next : Act → World → Prop} {Q : Exit → Act → World → Prop} {e : Ef}

theorem ent_run {f : FuncId} (h : Ent P f) (args : Array Value) (w : World) : (callFunc f args).run P w = .ok (.enter f args) w := by
  obtain ⟨fn, c, hf, hname, hb⟩ := h
  have h1 : fn.name ≠ "runtime.NumGoroutine" := by simpa using hname
  simp [callFunc, hf, h1, hb]

theorem opA_nocall {c : COp} (h' : opA tm h nx c = some e) : isCall c = false := by
  cases c <;> first | rfl | (simp [opA] at h')

theorem opds_ok (ht : SimT I M tm nt a.tmps w) {xs : Array Operand} {ys : List Opd} (h : xs.toList.mapM ofOpd = some ys) : All2 (RpV I M w) (ys.map (rd tm)) (xs.map a.eval).toList := by
  rw [Array.toList_map]
  have := mapM_all2 h
  clear h
  generalize xs.toList = l at this
  induction this with
  | nil => exact .nil
  | cons h1 _ ih => exact .cons (opd_ok ht h1) ih

theorem wp_enter {f : FuncId} {args : Array Value} (hx : (execOp a.eval o).run P w = .ok (.enter f args) w) (hc : Calls P f args w fun | .returned v, w' => next (a.put o.dst v) w' | _, _ => False) : o.wp P a w next Q := by
  unfold Oper.wp
  rw [hx]
  refine Calls.mono hc fun e w' he => ?_
  cases e with
  | returned v => exact he
  | panicked c => exact he.elim
  | outgrown => exact he.elim

theorem kept_quiet (hs : SimH I M h nx w) {I' : Nat → Prop} {M' : MU} {w' : World} (hq : Quiet I M nx w I' M' w') {b : Nat} (hb : b < nx) : Kept M w M' w' b := fun rb o hM => by
  obtain ⟨h1, h2, _⟩ := hq
  exact ⟨by rw [h2 b hb]; exact hM, h1 rb (hs.bnd rb ⟨b, o, hM⟩)⟩
def Keeps (g : Cfg) (tm : List (Nat × AV)) (h : List (Nat × BK)) (c : CI) (nx : Nat) (M : MU) (w : World) (M' : MU) (w' : World) : Prop :=
  ∀ us : List Nat, (∀ b ∈ us, b < nx) → ∀ b ∈ us, b ∉ wI g tm h c us → Kept M w M' w' b
theorem keeps_did (hs : SimH I M h nx w) {c : CI} {e : Ef} {v : Value} {I' : Nat → Prop} {M' : MU} {w' : World} (hd : Did I M nx w e (qI g tm c) v I' M' w')
    (hw : ∀ us, qI g tm c = false → wI g tm h c us = us) : Keeps g tm h c nx M w M' w' := fun us hus b hb hnw => by
  cases hq : qI g tm c with
  | true => exact kept_quiet hs (hd.qu hq) (hus b hb)
  | false => rw [hw us hq] at hnw; exact absurd hb hnw

theorem compOp0_sr {P : Program} {o : Oper} {n : Nat} {x y : Opd} (h : compOp0 P o = some (.sr n x y)) : ∃ t x0 y0, o.op = .store t x0 y0 ∧ (P.info? t).isSome = true ∧ n = P.cellsOf t ∧ ofOpd x0 = some x ∧ ofOpd y0 = some y := by
  unfold compOp0 at h
  split at h <;> (try simp only [Option.bind_eq_bind, Option.bind_eq_some_iff, Option.some.injEq, Option.ite_none_right_eq_some] at h)
  case h_9 t x0 y0 ho =>
    obtain ⟨hi, x', hx, y', hy, he⟩ := h
    injection he with h1 h2 h3
    subst h1 h2 h3
    exact ⟨t, x0, y0, ho, hi, rfl, hx, hy⟩
  all_goals exfalso
  all_goals (repeat' (first | (obtain ⟨_, h⟩ := h) | (cases h; done) | (split at h) | (obtain ⟨k, x', _, _, h⟩ := nilCmp_some h; cases h; done) | (simp only [Option.bind_eq_some_iff, Option.some.injEq, Option.ite_none_left_eq_some, Option.ite_none_right_eq_some] at h)))

theorem wI_sr {dst : Option Nat} {gd : Option (Nat × Bool)} {n : Nat} {x y : Opd} {us : List Nat} {b : Nat} (hq : qI g tm ⟨dst, .sr n x y, gd⟩ = false) (hb : b ∈ us) (hnw : b ∉ wI g tm h ⟨dst, .sr n x y, gd⟩ us) :
    ∃ sz bb i off sz' es tt, rd tm x = .re sz bb i off ∧ blk h bb = .rw true sz' es tt ∧ b ≠ bb := by
  unfold wI at hnw
  rw [if_neg (by rw [hq]; simp)] at hnw
  dsimp only at hnw
  split at hnw
  · rename_i sz bb i off hr
    split at hnw
    · rename_i sz' es tt hk
      split at hnw
      · exact ⟨sz, bb, i, off, sz', es, tt, hr, hk, by simpa using hnw⟩
      · exact absurd hb hnw
    · exact absurd hb hnw
  · exact absurd hb hnw
theorem opC_okW (hg : CfgOk P g) (hr : Sound P run) {c : CI} (ht : SimT I M tm nt a.tmps w) (hs : SimH I M h nx w) (hc : compOp P o = some c.op) (he : opC g run tm h nx c.op = some e)
    (hk0 : ∀ v I' M' w', Did I M nx w e (qI g tm c) v I' M' w' → Keeps g tm h c nx M w M' w' → next (a.put o.dst v) w') : o.wp P a w next Q := by
  obtain ⟨dst, op, gd⟩ := c
  simp only at hc he
  by_cases hcall : isCall op = true
  · have hk : ∀ v I' M' w', Did I M nx w e (qI g tm ⟨dst, op, gd⟩) v I' M' w' → next (a.put o.dst v) w' := fun v I' M' w' hd => hk0 v I' M' w' hd (keeps_did hs hd fun us hq => by
      unfold wI
      rw [if_neg (by rw [hq]; simp)]
      cases op <;> first | rfl | (simp [isCall] at hcall))
    have hcl : ∃ k, o.op = .call k := by
      apply Classical.byContradiction
      intro hn
      have := compOp_nocall hc fun k hk => hn ⟨k, hk⟩
      rw [this] at hcall; simp at hcall
    obtain ⟨k, hko⟩ := hcl
    rcases compOp_call hc hko with h1 | ⟨as, has, ⟨f, hcal, rfl⟩ | ⟨x, y, hcal, hy, rfl⟩⟩
    · rw [h1] at hcall; simp at hcall
    · simp only [opC] at he
      obtain ⟨hent, hcalls⟩ := callA_ok hg hr he hs (opds_ok ht has)
      refine wp_enter (f := f) (args := k.args.map a.eval) ?_ (hcalls _ fun v I' M' w' hd => hk v I' M' w' hd)
      have : execOp a.eval o = callFunc f (k.args.map a.eval) := by
        unfold execOp
        simp [hko, resolve, hcal, Deferred.ofValue, invoke, show a.eval (.func f) = .func (.func f) #[] #[] from rfl]
      rw [this]
      exact ent_run hent _ w
    · simp only [opC] at he
      split at he
      · rename_i f caps hrd
        have hv := opd_ok ht hy
        rw [hrd] at hv
        have hv2 : Rp I M w (.fn f caps) (a.eval x) := hv
        generalize hxv : a.eval x = xv at hv2
        cases hv2 with
        | fn _ _ vs hl hrr f' fs us hfk =>
          split at he
          · rename_i hu
            have hcaps : All2 (RpV I M w) caps vs.toList := All2.of_get hl fun i c v h1 h2 => by
              have h3 := hrr i c v h1 h2
              refine RpV.of_scalar ?_ ?_ h3 <;> (rintro l rfl; cases h3)
            have hargs : All2 (RpV I M w) (as.map (rd tm) ++ caps) ((k.args.map a.eval) ++ vs).toList := by
              rw [Array.toList_append]; exact (opds_ok ht has).append hcaps
            obtain ⟨hent, hcalls⟩ := callA_ok hg hr he hs hargs
            refine wp_enter (f := fnN f) (args := k.args.map a.eval ++ vs) ?_ (hcalls _ fun v I' M' w' hd => hk v I' M' w' ?_)
            · have hD : execOp a.eval o = callFunc (fnN f) (k.args.map a.eval ++ vs) := by
                rcases hfk with ⟨h1, e1, e2, e3⟩ | ⟨h1, e1, e2, e3⟩
                · subst e2 e3
                  rw [e1] at hxv
                  unfold execOp
                  simp [hko, resolve, hcal, hxv, Deferred.ofValue, invoke, fnN, h1]
                · subst e2 e3
                  rw [e1] at hxv
                  have hz : k.args = #[] := by
                    simp only [fnU, Bool.or_eq_true, decide_eq_true_eq, List.isEmpty_iff] at hu
                    rcases hu with hu | hu
                    · exact absurd hu (Nat.not_lt.2 h1)
                    · subst hu
                      have := (mapM_all2 has).length
                      simp at this
                      exact this
                  unfold execOp
                  simp [hko, resolve, hcal, hxv, Deferred.ofValue, invoke, fnN, Nat.not_lt.2 h1, hz]
              rw [hD]
              exact ent_run hent _ w
            · simpa only [qI, hrd] using hd
          · simp at he
      · simp at he
  · have hcall' : isCall op = false := by simpa using hcall
    have he' : opA tm h nx op = some e := by cases op <;> first | exact he | (simp [isCall] at hcall')
    have hq : qI g tm ⟨dst, op, gd⟩ = qOp tm op := by cases op <;> first | rfl | (simp [isCall] at hcall')
    by_cases hsr : ∃ n x y, op = .sr n x y
    · obtain ⟨n, x, y, rfl⟩ := hsr
      obtain ⟨t, x0, y0, ho, hi, rfl, hx, hy⟩ : ∃ t x0 y0, o.op = .store t x0 y0 ∧ (P.info? t).isSome = true ∧ n = P.cellsOf t ∧ ofOpd x0 = some x ∧ ofOpd y0 = some y := by
        rcases compOp_cases hc with h1 | h1
        · exact compOp0_sr h1
        · cases h1
      obtain ⟨nv, v, w', I', M', h1, h2, h3, h4, h5, h6⟩ := ok_srS ht hs hx hy hi ho he'
      have hD : Did I M nx w e (qI g tm ⟨dst, .sr (P.cellsOf t) x y, gd⟩) v I' M' w' := ⟨h3, h4, h5, fun h => by rw [hq] at h; simp [qOp] at h⟩
      have hK : Keeps g tm h ⟨dst, .sr (P.cellsOf t) x y, gd⟩ nx M w M' w' := fun us hus b hb hnw => by
        obtain ⟨sz, bb, i, off, sz', es, tt, e1, e2, e3⟩ := wI_sr (by rw [hq]; rfl) hb hnw
        exact h6 _ _ _ _ _ _ _ e1 e2 b e3
      unfold Oper.wp
      rw [h1]
      cases h2 with
      | val v => exact hk0 v I' M' w' hD hK
      | skip => exact hk0 undef I' M' w' hD hK
    · have hk : ∀ v I' M' w', Did I M nx w e (qI g tm ⟨dst, op, gd⟩) v I' M' w' → next (a.put o.dst v) w' := fun v I' M' w' hd => hk0 v I' M' w' hd (keeps_did hs hd fun us hq => by
        unfold wI
        rw [if_neg (by rw [hq]; simp)]
        cases op <;> first | rfl | exact absurd ⟨_, _, _, rfl⟩ hsr)
      rw [hq] at hk
      exact (opA_ok ht hs hc he').wp hk


structure CiOk (P : Program) (ops : Array Oper) (nt : Nat) (o : Oper) (c : CI) : Prop where
  dst : c.dst = o.dst
  op : compOp P o = some c.op
  lt : ∀ d, o.dst = some d → d < nt
  gd : (o.guard = none ∧ c.guard = none) ∨ ∃ j b t, o.guard = some (j, b) ∧ (ops[j]?).bind (·.dst) = some t ∧ c.guard = some (t, b)

theorem compR_ok {ops : Array Oper} {l : List CI} (h : compR P nt ops = some l) : All2 (CiOk P ops nt) ops.toList l := by
  refine (mapM_all2 h).mono fun o c hoc => ?_
  simp only [Option.bind_eq_bind, Option.bind_eq_some_iff] at hoc
  obtain ⟨gd, hgd, c0, hc0, hoc⟩ := hoc
  simp only [Option.ite_none_right_eq_some, Option.some.injEq] at hoc
  obtain ⟨hlt, rfl⟩ := hoc
  refine ⟨rfl, hc0, fun d hd => ?_, ?_⟩
  · rw [hd] at hlt; simpa [dstOk] using hlt
  · generalize hog : o.guard = og at hgd
    unfold gdOf at hgd
    split at hgd
    · injection hgd with hgd; subst hgd
      exact .inl ⟨rfl, rfl⟩
    · rename_i j b
      simp only [Option.bind_eq_bind, Option.bind_eq_some_iff, Option.some.injEq] at hgd
      obtain ⟨o', ho', t, hd, rfl⟩ := hgd
      exact .inr ⟨j, b, t, rfl, by simp [ho', hd], rfl⟩

theorem wants_ok {ops : Array Oper} {c : CI} {b : Bool} (ht : SimT I M tm nt a.tmps w) (hc : CiOk P ops nt o c) (hw : wants tm c.guard = some b) : Region.wanted o (yielded ops a.tmps) = b := by
  rcases hc.gd with ⟨h1, h2⟩ | ⟨j, x, t, h1, h2, h3⟩
  · rw [h2] at hw
    simp only [wants, Option.some.injEq] at hw
    subst hw
    simp [Region.wanted, h1]
  · rw [h3] at hw
    simp only [wants] at hw
    have hv := ht.get t
    have hy : ∀ z, a.tmps.getD t undef = z → yielded ops a.tmps j = match z with | .bool b => some b | _ => none := by
      intro z hz
      unfold yielded
      rw [h2]
      simp only [Option.bind_some]
      rw [Array.getD_eq_getD_getElem?] at hz
      cases ht2 : a.tmps[t]? with
      | none =>
        rw [ht2] at hz
        simp only [Option.getD_none] at hz
        subst hz
        rfl
      | some y =>
        rw [ht2] at hz
        simp only [Option.getD_some] at hz
        subst hz
        cases y <;> rfl
    split at hw
    · rename_i b0 hb0
      injection hw with hw; subst hw
      rw [hb0] at hv
      have := hy _ (bool_inv hv)
      simp only [Region.wanted, h1, this]
      cases b0 <;> cases x <;> rfl
    · rename_i hb0
      injection hw with hw; subst hw
      rw [hb0] at hv
      obtain ⟨vs, hvs, hnil⟩ := hv
      have := hy _ hvs
      simp only [Region.wanted, h1, this]
      rfl
    · simp at hw

theorem did_skip (hs : SimH I M h nx w) {q : Bool} : Did I M nx w ⟨.tp [], h, nx⟩ q undef I M w :=
  ⟨Ev.refl I M w, hs, ⟨#[], rfl, .nil⟩, fun _ => Quiet.refl I M nx w⟩

theorem oneC_okW (hg : CfgOk P g) (hr : Sound P run) {ops : Array Oper} {i : Nat} {c : CI} (ho : ops[i]? = some o) (hc : CiOk P ops nt o c) (ht : SimT I M tm nt a.tmps w) (hs : SimH I M h nx w) (he : oneC g run tm h nx c = some e)
    (hk : ∀ v I' M' w', Did I M nx w e (qI g tm c) v I' M' w' → Keeps g tm h c nx M w M' w' → next (a.put o.dst v) w') : wpOp P ops Q i next a w := by
  unfold oneC at he
  unfold wpOp
  simp only [ho]
  split at he
  · rename_i hw
    rw [wants_ok ht hc hw]
    exact .inl (opC_okW hg hr ht hs hc.op he hk)
  · rename_i hw
    rw [wants_ok ht hc hw]
    injection he with he; subst he
    exact hk undef I M w (did_skip hs) fun us _ b _ _ rb o hM => ⟨hM, rfl⟩
  · simp at he

theorem oneC_ok (hg : CfgOk P g) (hr : Sound P run) {ops : Array Oper} {i : Nat} {c : CI} (ho : ops[i]? = some o) (hc : CiOk P ops nt o c) (ht : SimT I M tm nt a.tmps w) (hs : SimH I M h nx w) (he : oneC g run tm h nx c = some e)
    (hk : ∀ v I' M' w', Did I M nx w e (qI g tm c) v I' M' w' → next (a.put o.dst v) w') : wpOp P ops Q i next a w :=
  oneC_okW hg hr ho hc ht hs he fun v I' M' w' hd _ => hk v I' M' w' hd

theorem put_ok {d : Option Tmp} {c : AV} {v : Value} (ht : SimT I M tm nt a.tmps w) (hd : ∀ t, d = some t → t < nt) (hr : RpV I M w c v) : SimT I M (putD d c tm) nt (a.put d v).tmps w := by
  cases d with
  | none => exact ht
  | some t => exact ht.put t c v (hd t rfl) hr
theorem put_defers {d : Option Tmp} {v : Value} : (a.put d v).defers = a.defers := by cases d <;> rfl

theorem opsC_ok (hg : CfgOk P g) (hr : Sound P run) {ops : Array Oper} : ∀ (os : List Oper) (cs : List CI) (k : Nat) (S S' : St) (I : Nat → Prop) (M : MU) (a : Act) (w : World), All2 (CiOk P ops nt) os cs → (∀ i o, os[i]? = some o → ops[k + i]? = some o) →
    opsC g run cs S = some S' → SimT I M S.tm nt a.tmps w → SimH I M S.h S.nx w → S.bs ≤ S.nx →
    (∀ a' w' I' M', EvB S.bs I M w I' M' w' → SimT I' M' S'.tm nt a'.tmps w' → SimH I' M' S'.h S'.nx w' → S'.bs = S.bs → S.bs ≤ S'.nx → a'.defers = a.defers → Q .normal a' w') → wpOps P ops Q (List.range' k os.length) a w
  | [], cs, k, S, S', I, M, a, w, h2, hk, he, ht, hs, hb, hQ => by
    cases h2
    simp only [opsC, Option.some.injEq] at he
    subst he
    simp only [List.length_nil, List.range'_zero, wpOps]
    exact hQ a w I M (EvB.refl _ I M w) ht hs rfl hb rfl
  | o :: os, cs, k, S, S', I, M, a, w, h2, hk, he, ht, hs, hb, hQ => by
    cases h2 with
    | @cons _ c _ cs hc h3 =>
      simp only [opsC] at he
      split at he
      · rename_i e he1
        simp only [Option.ite_none_right_eq_some] at he
        obtain ⟨hle, he⟩ := he
        rw [List.length_cons, List.range'_succ, wpOps_cons]
        refine oneC_ok hg hr (hk 0 o rfl) hc ht hs he1 fun v I' M' w' hd => ?_
        have ht' := put_ok (a := a) (d := o.dst) (c := e.v) (v := v) (ht.go hs hd.ev) hc.lt hd.val
        refine opsC_ok hg hr os cs (k + 1) _ S' I' M' _ w' h3 (fun i o' hi => ?_) he (by rw [hc.dst]; exact ht') hd.sim hle fun a' w'' I'' M'' hev ht2 hs2 hbs hb2 hdf => ?_
        · have := hk (i + 1) o' (by simpa using hi)
          rw [show k + 1 + i = k + (i + 1) by omega]; exact this
        · exact hQ a' w'' I'' M'' (hd.ev.toB.trans hev) ht2 hs2 hbs hb2 (hdf.trans put_defers)
      · simp at he
end
end Go.Am
set_option linter.unusedSimpArgs false
set_option linter.unusedVariables false
namespace Go.Am

theorem reach_spec (h : List (Nat × BK)) (bs : Nat) : ∀ (n : Nat) (todo seen : List Nat), seen.Nodup → (∀ b ∈ seen, bs ≤ b) → (reach h bs n todo seen).Nodup ∧ ∀ b ∈ reach h bs n todo seen, bs ≤ b
  | 0, todo, seen, h1, h2 => ⟨h1, h2⟩
  | n + 1, [], seen, h1, h2 => ⟨h1, h2⟩
  | n + 1, b :: todo, seen, h1, h2 => by
    have hadd : ¬ (decide (b < bs) || seen.contains b) = true → (seen ++ [b]).Nodup ∧ ∀ x ∈ seen ++ [b], bs ≤ x := fun hn => by
      simp only [Bool.or_eq_true, decide_eq_true_eq, not_or, List.contains_iff_mem] at hn
      refine ⟨?_, fun x hx => ?_⟩
      · rw [List.nodup_append]
        refine ⟨h1, by simp, fun a ha c hc => ?_⟩
        simp only [List.mem_singleton] at hc
        subst hc
        intro he; subst he; exact hn.2 ha
      · rcases List.mem_append.1 hx with hx | hx
        · exact h2 x hx
        · simp only [List.mem_singleton] at hx
          subst hx; exact Nat.le_of_not_lt hn.1
    simp only [reach]
    split
    · exact reach_spec h bs n todo seen h1 h2
    · rename_i hn
      obtain ⟨h3, h4⟩ := hadd hn
      split
      · exact reach_spec h bs n todo seen h1 h2
      · exact reach_spec h bs n _ _ h3 h4

theorem idxOf_spec : ∀ (l : List Nat) (b n : Nat), b ∈ l → ∃ i, idxOf l b n = n + i ∧ l[i]? = some b
  | [], b, n, h => by cases h
  | a :: l, b, n, h => by
    simp only [idxOf]
    by_cases e : a = b
    · subst e; exact ⟨0, by simp, rfl⟩
    · rw [if_neg e]
      obtain ⟨i, h1, h2⟩ := idxOf_spec l b (n + 1) ((List.mem_cons.1 h).resolve_left fun h => e h.symm)
      exact ⟨i + 1, by omega, by simpa using h2⟩

theorem look_old (p : BK → BK) (hp : p .dd = .dd) (bs b : Nat) : ∀ h : List (Nat × BK), look .dd ((h.filter fun q => q.1 < bs).map fun q => (q.1, p q.2)) b = if b < bs then p (look .dd h b) else .dd
  | [] => by simp [look, hp]
  | (k, v) :: h => by
    have ih := look_old p hp bs b h
    simp only [List.filter_cons]
    by_cases e : k < bs
    · simp only [e, decide_true, if_true, List.map_cons, look]
      by_cases e2 : k = b
      · subst e2; simp [e]
      · rw [if_neg e2, if_neg e2]; exact ih
    · simp only [e, decide_false, Bool.false_eq_true, if_false, look]
      by_cases e2 : k = b
      · subst e2; rw [ih, if_neg e, if_neg e]
      · rw [if_neg e2]; exact ih

theorem look_num (f : Nat → BK) (b : Nat) : ∀ (l : List Nat) (n : Nat), look .dd (num f n l) b = if n ≤ b then (match l[b - n]? with | some x => f x | none => .dd) else .dd
  | [], n => by simp [num, look]
  | a :: l, n => by
    simp only [num, look]
    rw [look_num f b l (n + 1)]
    by_cases e : n = b
    · subst e; simp
    · by_cases e2 : n ≤ b
      · have h3 : n + 1 ≤ b := by omega
        have h4 : b - n = (b - (n + 1)) + 1 := by omega
        simp [e, e2, h3, h4]
      · have h3 : ¬ n + 1 ≤ b := by omega
        simp [e, e2, h3]

theorem num_keys (f : Nat → BK) : ∀ (l : List Nat) (n : Nat), ∀ p ∈ num f n l, n ≤ p.1
  | [], n, p, h => by simp [num] at h
  | a :: l, n, p, h => by
    simp only [num, List.mem_cons] at h
    rcases h with h | h
    · subst h; exact Nat.le_refl _
    · have := num_keys f l (n + 1) p h; omega

section
variable {I : Nat → Prop} {M : MU} {w : World} {nt : Nat} {S : St} {tmps : Array Value}

theorem look_live {f : Nat → AV} (live : List Nat) (t : Nat) : look .ud (live.map fun t => (t, f t)) t = if t ∈ live then f t else .ud := by
  induction live with
  | nil => simp [look]
  | cons a l ih =>
    simp only [List.map_cons, look]
    by_cases e : a = t
    · subst e; simp
    · rw [if_neg e, ih]
      have : ¬ t = a := fun h => e h.symm
      simp [this]

theorem canon_ok (live : List Nat) (ht : SimT I M S.tm nt tmps w) (hs : SimH I M S.h S.nx w) (hb : S.bs ≤ S.nx) :
    ∃ M', EvB S.bs I M w I M' w ∧ SimT I M' (canon live S).tm nt tmps w ∧ SimH I M' (canon live S).h (canon live S).nx w ∧ S.bs ≤ (canon live S).nx := by
  generalize hm : reach S.h S.bs 4096 (live.flatMap (fun t => refsV (look .ud S.tm t)) ++ (S.h.filter fun p => p.1 < S.bs).flatMap fun p => refsB p.2) [] = m
  obtain ⟨hnd, hge⟩ := reach_spec S.h S.bs 4096 (live.flatMap (fun t => refsV (look .ud S.tm t)) ++ (S.h.filter fun p => p.1 < S.bs).flatMap fun p => refsB p.2) [] List.nodup_nil (by simp)
  rw [hm] at hnd hge
  let p : Nat → Bool := fun b => decide (b < S.bs) || m.contains b
  let r : Nat → Nat := fun b => if b < S.bs then b else idxOf m b S.bs
  have htm : (canon live S).tm = live.map fun t => (t, lrV p r (look .ud S.tm t)) := by simp only [canon, hm, p, r]
  have hh : (canon live S).h = (S.h.filter fun p => p.1 < S.bs).map (fun q => (q.1, lrB p r q.2)) ++ num (fun b => lrB p r (blk S.h b)) S.bs m := by simp only [canon, hm, p, r]
  have hnx : (canon live S).nx = S.bs + m.length := by simp only [canon, hm]
  let M' : MU := fun b => if b < S.bs then M b else match m[b - S.bs]? with | some x => M x | none => none
  have hM : ∀ b x, p b = true → M b = some x → M' (r b) = some x := fun b x hp hx => by
    by_cases e : b < S.bs
    · simp only [M', r, e, if_true]; exact hx
    · have hmem : b ∈ m := by simpa [p, e] using hp
      obtain ⟨i, h1, h2⟩ := idxOf_spec m b S.bs hmem
      have e2 : ¬ S.bs + i < S.bs := by omega
      simp only [M', r, e, if_false, h1, e2, Nat.add_sub_cancel_left, h2]
      exact hx
  have hinv : ∀ b x, M' b = some x → (b < S.bs ∧ M b = some x) ∨ (S.bs ≤ b ∧ ∃ y, m[b - S.bs]? = some y ∧ M y = some x) := fun b x hx => by
    by_cases e : b < S.bs
    · simp only [M', e, if_true] at hx; exact .inl ⟨e, hx⟩
    · simp only [M', e, if_false] at hx
      split at hx
      · rename_i y hy; exact .inr ⟨Nat.le_of_not_lt e, y, hy, hx⟩
      · simp at hx
  have hown : ∀ rb, owned M' rb → owned M rb := fun rb ⟨b, o, hx⟩ => by
    rcases hinv b _ hx with ⟨_, h⟩ | ⟨_, y, _, h⟩
    · exact ⟨b, o, h⟩
    · exact ⟨y, o, h⟩
  refine ⟨M', ⟨rfl, rfl, rfl, Nat.le_refl _, fun _ h => h, fun _ h => .inl h, fun _ _ _ => rfl, fun _ _ => rfl, fun b x hl hx => .inl (by simp only [M', hl, if_true]; exact hx), fun rb ho => .inl (hown rb ho), .refl _⟩, ⟨ht.size, fun t => ?_⟩,
    ⟨fun b => ?_, fun a b rb oa ob ha hb => ?_, fun rb ho => hs.sep rb (hown rb ho), fun rb ho => hs.bnd rb (hown rb ho), hs.ibd, fun b hb => ?_⟩, by rw [hnx]; omega⟩
  · rw [htm, look_live]
    split
    · exact lrV_ok hM (ht.get t)
    · exact Rp.ud _
  · rw [hh]
    unfold blk
    have hdd : lrB p r .dd = .dd := rfl
    by_cases e : b < S.bs
    · rw [look_append2 _ _ (by
        rw [look_num]
        have : ¬ S.bs ≤ b := by omega
        simp [this]), look_old (lrB p r) hdd, if_pos e]
      exact lrB_ok hM (fun x hx => by simp only [M', e, if_true]; exact hx) (hs.blks b)
    · rw [look_append _ _ _ _ (fun q hq => by
        obtain ⟨q0, hq0, rfl⟩ := List.mem_map.1 hq
        have := (List.mem_filter.1 hq0).2
        simp only [decide_eq_true_eq] at this
        simp only
        omega), look_num, if_pos (Nat.le_of_not_lt e)]
      split
      · rename_i y hy
        exact lrB_ok hM (b := y) (fun x hx => by simp only [M', e, if_false, hy]; exact hx) (hs.blks y)
      · trivial
  · rcases hinv a _ ha with ⟨h1, ha⟩ | ⟨h1, y, hy, ha⟩ <;> rcases hinv b _ hb with ⟨h2, hb⟩ | ⟨h2, z, hz, hb⟩
    · exact hs.inj a b rb oa ob ha hb
    · have := hs.inj a z rb oa ob ha hb
      have := hge z (List.mem_of_getElem? hz)
      omega
    · have := hs.inj b y rb ob oa hb ha
      have := hge y (List.mem_of_getElem? hy)
      omega
    · have := hs.inj y z rb oa ob ha hb
      subst this
      have hlt : a - S.bs < m.length := (List.getElem?_eq_some_iff.1 hy).1
      have hpw : ∀ (i j : Nat) (y : Nat), i < j → m[i]? = some y → m[j]? = some y → False := fun i j y hij h1 h2 => by
        obtain ⟨l1, e1⟩ := List.getElem?_eq_some_iff.1 h1
        obtain ⟨l2, e2⟩ := List.getElem?_eq_some_iff.1 h2
        exact List.pairwise_iff_getElem.1 hnd i j l1 l2 hij (e1.trans e2.symm)
      have he : a - S.bs = b - S.bs := by
        rcases Nat.lt_trichotomy (a - S.bs) (b - S.bs) with h | h | h
        · exact (hpw _ _ y h hy hz).elim
        · exact h
        · exact (hpw _ _ y h hz hy).elim
      omega
  · rw [hnx] at hb
    have e : ¬ b < S.bs := by omega
    simp only [M', e, if_false]
    rw [List.getElem?_eq_none (by omega)]
end
end Go.Am
set_option linter.unusedSimpArgs false
set_option linter.unusedVariables false
namespace Go.Am

structure Rec where
  o : CI
  dp : List Nat
  us : List Nat
  ac : List Nat
  fr : List Nat
  wr : List Nat
  v : AV
  f : Nat → BK
  a : Nat
  n : Nat

def stepK (x : Bool) (r : Rec) (c : Nat → BK) : Nat → BK := if x then fun b => if b ∈ r.wr then r.f b else c b else c
def stepT (x : Bool) (r : Rec) (c : Nat → AV) : Nat → AV := if x then fun t => if r.o.dst = some t then r.v else c t else c
def cont (X : Nat → Bool) : Nat → List Rec → (Nat → BK) → Nat → BK
  | _, [], c => c
  | i, r :: rs, c => cont X (i + 1) rs (stepK (X i) r c)
def tcont (X : Nat → Bool) : Nat → List Rec → (Nat → AV) → Nat → AV
  | _, [], c => c
  | i, r :: rs, c => tcont X (i + 1) rs (stepT (X i) r c)

theorem cont_congr {X Y : Nat → Bool} {b : Nat} : ∀ (rs : List Rec) (ix : Nat) (c d : Nat → BK), c b = d b → (∀ i r, rs[i]? = some r → X (ix + i) ≠ Y (ix + i) → b ∉ r.wr) → cont X ix rs c b = cont Y ix rs d b
  | [], ix, c, d, h, _ => h
  | r :: rs, ix, c, d, h, hd => by
    simp only [cont]
    refine cont_congr rs (ix + 1) _ _ ?_ fun i r' hi hne => hd (i + 1) r' (by simpa using hi) (by rw [show ix + (i + 1) = ix + 1 + i by omega]; exact hne)
    have h0 := hd 0 r rfl
    simp only [Nat.add_zero] at h0
    unfold stepK
    cases hx : X ix <;> cases hy : Y ix <;> rw [hx, hy] at h0 <;> simp at h0 ⊢
    · exact h
    · rw [if_neg h0]; exact h
    · rw [if_neg h0]; exact h
    · rw [h]
theorem tcont_congr {X Y : Nat → Bool} {t : Nat} : ∀ (rs : List Rec) (ix : Nat) (c d : Nat → AV), c t = d t → (∀ i r, rs[i]? = some r → X (ix + i) ≠ Y (ix + i) → r.o.dst ≠ some t) → tcont X ix rs c t = tcont Y ix rs d t
  | [], ix, c, d, h, _ => h
  | r :: rs, ix, c, d, h, hd => by
    simp only [tcont]
    refine tcont_congr rs (ix + 1) _ _ ?_ fun i r' hi hne => hd (i + 1) r' (by simpa using hi) (by rw [show ix + (i + 1) = ix + 1 + i by omega]; exact hne)
    have h0 := hd 0 r rfl
    simp only [Nat.add_zero] at h0
    unfold stepT
    cases hx : X ix <;> cases hy : Y ix <;> rw [hx, hy] at h0 <;> simp at h0 ⊢
    · exact h
    · rw [if_neg h0]; exact h
    · rw [if_neg h0]; exact h
    · rw [h]
theorem cont_last {X : Nat → Bool} {b : Nat} : ∀ (rs : List Rec) (ix : Nat) (c : Nat → BK) (j : Nat) (r : Rec), rs[j]? = some r → X (ix + j) = true → b ∈ r.wr → (∀ i r', j < i → rs[i]? = some r' → X (ix + i) = true → b ∉ r'.wr) → cont X ix rs c b = r.f b
  | [], ix, c, j, r, h, _, _, _ => by simp at h
  | r0 :: rs, ix, c, 0, r, h, hx, hb, hl => by
    simp only [List.getElem?_cons_zero, Option.some.injEq] at h
    subst h
    simp only [cont, Nat.add_zero] at hx ⊢
    have : cont X (ix + 1) rs (stepK (X ix) r0 c) b = cont (fun _ => false) (ix + 1) rs (stepK (X ix) r0 c) b :=
      cont_congr rs (ix + 1) _ _ rfl fun i r' hi hne => hl (i + 1) r' (by omega) (by simpa using hi) (by rw [show ix + (i + 1) = ix + 1 + i by omega]; simpa using hne)
    rw [this]
    have hf : ∀ (rs : List Rec) (ix : Nat) (c : Nat → BK), cont (fun _ => false) ix rs c = c := by
      intro rs
      induction rs with
      | nil => intro ix c; rfl
      | cons r rs ih => intro ix c; simp only [cont, stepK]; exact ih _ _
    rw [hf, hx]
    simp [stepK, hb]
  | r0 :: rs, ix, c, j + 1, r, h, hx, hb, hl => by
    simp only [cont]
    exact cont_last rs (ix + 1) _ j r (by simpa using h) (by rw [show ix + 1 + j = ix + (j + 1) by omega]; exact hx) hb fun i r' hi h1 h2 =>
      hl (i + 1) r' (by omega) (by simpa using h1) (by rw [show ix + (i + 1) = ix + 1 + i by omega]; exact h2)
theorem tcont_last {X : Nat → Bool} {t : Nat} : ∀ (rs : List Rec) (ix : Nat) (c : Nat → AV) (j : Nat) (r : Rec), rs[j]? = some r → X (ix + j) = true → r.o.dst = some t → (∀ i r', j < i → rs[i]? = some r' → X (ix + i) = true → r'.o.dst ≠ some t) → tcont X ix rs c t = r.v
  | [], ix, c, j, r, h, _, _, _ => by simp at h
  | r0 :: rs, ix, c, 0, r, h, hx, hb, hl => by
    simp only [List.getElem?_cons_zero, Option.some.injEq] at h
    subst h
    simp only [tcont, Nat.add_zero] at hx ⊢
    have : tcont X (ix + 1) rs (stepT (X ix) r0 c) t = tcont (fun _ => false) (ix + 1) rs (stepT (X ix) r0 c) t :=
      tcont_congr rs (ix + 1) _ _ rfl fun i r' hi hne => hl (i + 1) r' (by omega) (by simpa using hi) (by rw [show ix + (i + 1) = ix + 1 + i by omega]; simpa using hne)
    rw [this]
    have hf : ∀ (rs : List Rec) (ix : Nat) (c : Nat → AV), tcont (fun _ => false) ix rs c = c := by
      intro rs
      induction rs with
      | nil => intro ix c; rfl
      | cons r rs ih => intro ix c; simp only [tcont, stepT]; exact ih _ _
    rw [hf, hx]
    simp [stepT, hb]
  | r0 :: rs, ix, c, j + 1, r, h, hx, hb, hl => by
    simp only [tcont]
    exact tcont_last rs (ix + 1) _ j r (by simpa using h) (by rw [show ix + 1 + j = ix + (j + 1) by omega]; exact hx) hb fun i r' hi h1 h2 =>
      hl (i + 1) r' (by omega) (by simpa using h1) (by rw [show ix + (i + 1) = ix + 1 + i by omega]; exact h2)

theorem blk_over (f : Nat → BK) (h : List (Nat × BK)) (b : Nat) : ∀ wr : List Nat, blk (over h f wr) b = if b ∈ wr then f b else blk h b
  | [] => by simp [over]
  | a :: wr => by
    simp only [over, blk_put, blk_over f h b wr]
    by_cases e : a = b
    · subst e; simp
    · have : ¬ b = a := fun h => e h.symm
      simp [e, this]

def Meet (us ac fr wr us' ac' fr' wr' : List Nat) : Prop := (∀ b ∈ wr, b ∉ ac') ∧ (∀ b ∈ wr', b ∉ ac) ∧ (∀ b ∈ fr, b ∉ us') ∧ (∀ b ∈ fr', b ∉ us) ∧ ∀ b ∈ wr, b ∉ wr'
theorem away_ok {l m : List Nat} (h : away l m = true) : ∀ b ∈ l, b ∉ m := fun b hb hn => by
  have := (List.all_eq_true.1 h) b hb
  simp only [Bool.not_eq_true', List.contains_eq_mem, decide_eq_false_iff_not] at this
  exact this hn
structure RecOk (g : Cfg) (run : CC → St → Option (EX × St)) (S S' : St) (ix : Nat) (rs : List Rec) (j : Nat) (r : Rec) : Prop where
  at_ : ∃ (Sj : St) (e : Ef), (∀ b ∈ r.us, b < Sj.nx) ∧ oneC g run (lotT Sj.tm r.us (readsI r.o)) (lotH Sj.h r.us r.ac) Sj.nx r.o = some e ∧ (∀ b ∈ r.ac, b ∈ r.us) ∧ r.fr = upto Sj.nx (e.nx - Sj.nx) ∧ r.a = Sj.nx ∧ r.n = e.nx ∧ Sj.nx ≤ e.nx ∧
    r.wr = upto Sj.nx (e.nx - Sj.nx) ++ wI g (lotT Sj.tm r.us (readsI r.o)) (lotH Sj.h r.us r.ac) r.o r.us ∧ r.v = lrV (domD r.us Sj.nx e.nx) id e.v ∧ r.f = (fun b => lrB (domD r.us Sj.nx e.nx) id (blk e.h b)) ∧
    (∀ b, blk Sj.h b = cont (fun i => decide (i < ix + j)) ix rs (blk S.h) b) ∧ (∀ t, look .ud Sj.tm t = tcont (fun i => decide (i < ix + j)) ix rs (look .ud S.tm) t)
  lo : S.nx ≤ r.a
  hi : r.n ≤ S'.nx
  cov : ∀ b, S.nx ≤ b → b < r.a → ∃ i ri, i < j ∧ rs[i]? = some ri ∧ ri.a ≤ b ∧ b < ri.n

theorem cont_lt0 (rs : List Rec) (ix : Nat) (c : Nat → BK) (b : Nat) : cont (fun i => decide (i < ix + 0)) ix rs c b = c b := by
  have : ∀ (rs : List Rec) (ix k : Nat) (c : Nat → BK), ix ≤ k → cont (fun i => decide (i < ix)) k rs c = c := by
    intro rs
    induction rs with
    | nil => intro ix k c _; rfl
    | cons r rs ih =>
      intro ix k c h
      have : ¬ k < ix := by omega
      simp only [cont, stepK, this, decide_false, Bool.false_eq_true, if_false]
      exact ih ix (k + 1) c (by omega)
  rw [Nat.add_zero, this rs ix ix c (Nat.le_refl _)]
theorem tcont_lt0 (rs : List Rec) (ix : Nat) (c : Nat → AV) (t : Nat) : tcont (fun i => decide (i < ix + 0)) ix rs c t = c t := by
  have : ∀ (rs : List Rec) (ix k : Nat) (c : Nat → AV), ix ≤ k → tcont (fun i => decide (i < ix)) k rs c = c := by
    intro rs
    induction rs with
    | nil => intro ix k c _; rfl
    | cons r rs ih =>
      intro ix k c h
      have : ¬ k < ix := by omega
      simp only [tcont, stepT, this, decide_false, Bool.false_eq_true, if_false]
      exact ih ix (k + 1) c (by omega)
  rw [Nat.add_zero, this rs ix ix c (Nat.le_refl _)]

theorem tr_ok (g : Cfg) (run : CC → St → Option (EX × St)) : ∀ (l : List (CI × List Nat)) (ix : Nat) (fs : List Foot) (S S' : St), parC g run l ix fs S = some S' →
    ∃ rs : List Rec, rs.length = l.length ∧ S'.bs = S.bs ∧ S.nx ≤ S'.nx ∧ (∀ b, blk S'.h b = cont (fun _ => true) ix rs (blk S.h) b) ∧ (∀ t, look .ud S'.tm t = tcont (fun _ => true) ix rs (look .ud S.tm) t) ∧
      (∀ j r, rs[j]? = some r → l[j]? = some (r.o, r.dp) ∧ RecOk g run S S' ix rs j r ∧ ∀ f ∈ fs, f.ix ∈ r.dp ∨ Meet f.us f.ac f.fr f.wr r.us r.ac r.fr r.wr) ∧
      (∀ i j ri rj, i < j → rs[i]? = some ri → rs[j]? = some rj → ri.n ≤ rj.a ∧ (ix + i ∈ rj.dp ∨ Meet ri.us ri.ac ri.fr ri.wr rj.us rj.ac rj.fr rj.wr))
  | [], ix, fs, S, S', h => by
    simp only [parC, Option.some.injEq] at h
    subst h
    exact ⟨[], rfl, rfl, Nat.le_refl _, fun _ => rfl, fun _ => rfl, by simp, by simp⟩
  | (o, dp) :: l, ix, fs, S, S', h => by
    simp only [parC, Option.ite_none_right_eq_some] at h
    obtain ⟨hus, h⟩ := h
    split at h
    · rename_i e he
      simp only [Option.ite_none_right_eq_some, Bool.and_eq_true, decide_eq_true_eq] at h
      obtain ⟨⟨hle, hfs⟩, h⟩ := h
      obtain ⟨rs, hlen, hbs, hnx, hK, hT, hj, hp⟩ := tr_ok g run l (ix + 1) _ _ S' h
      let us := clo S.h 64 ((readsI o).flatMap fun t => refsV (look .ud S.tm t)) []
      let ac := if agn o.op then [] else us
      let fr := upto S.nx (e.nx - S.nx)
      let wr := fr ++ wI g (lotT S.tm us (readsI o)) (lotH S.h us ac) o us
      have hac : ∀ b ∈ ac, b ∈ us := fun b hb => by
        simp only [ac] at hb
        split at hb
        · cases hb
        · exact hb
      let r : Rec := ⟨o, dp, us, ac, fr, wr, lrV (domD us S.nx e.nx) id e.v, fun b => lrB (domD us S.nx e.nx) id (blk e.h b), S.nx, e.nx⟩
      have hc1 : blk (over S.h (fun b => lrB (domD us S.nx e.nx) id (blk e.h b)) wr) = stepK true r (blk S.h) := by
        funext b
        rw [blk_over]; simp only [stepK, if_true]; rfl
      have ht1 : look .ud (putD o.dst (lrV (domD us S.nx e.nx) id e.v) S.tm) = stepT true r (look .ud S.tm) := by
        funext t
        simp only [stepT, if_true]
        show look .ud (putD o.dst r.v S.tm) t = if o.dst = some t then r.v else look .ud S.tm t
        cases hd : o.dst with
        | none => simp [putD]
        | some d =>
          simp only [putD, look, Option.some.injEq]
      refine ⟨r :: rs, by simp [hlen], hbs, Nat.le_trans hle hnx, fun b => ?_, fun t => ?_, fun j r' hr' => ?_, fun i j ri rj hij hi hj' => ?_⟩
      · rw [hK b]; simp only [cont]; rw [← hc1]
      · rw [hT t]; simp only [tcont]; rw [← ht1]
      · cases j with
        | zero =>
          simp only [List.getElem?_cons_zero, Option.some.injEq] at hr'
          subst hr'
          refine ⟨rfl, ⟨⟨S, e, fun b hb => ?_, he, hac, rfl, rfl, rfl, hle, rfl, rfl, rfl, fun b => (cont_lt0 _ _ _ _).symm, fun t => (tcont_lt0 _ _ _ _).symm⟩, Nat.le_refl _, hnx, fun b h1 h2 => ?_⟩, fun f hf => ?_⟩
          · simpa using (List.all_eq_true.1 hus) b hb
          · have : b < S.nx := h2; omega
          · have := (List.all_eq_true.1 hfs) f hf
            simp only [Bool.or_eq_true, Bool.and_eq_true] at this
            rcases this with h1 | ⟨⟨⟨⟨h1, h2⟩, h3⟩, h4⟩, h5⟩
            · exact .inl (by simpa using h1)
            · exact .inr ⟨away_ok h1, away_ok h2, away_ok h3, away_ok h4, away_ok h5⟩
        | succ j =>
          have hr'' : rs[j]? = some r' := by simpa using hr'
          obtain ⟨h1, h2, h3⟩ := hj j r' hr''
          refine ⟨by simpa using h1, ?_, fun f hf => h3 f (List.mem_cons_of_mem _ hf)⟩
          obtain ⟨⟨Sj, e', q1, q2, qa, qb, q3, q4, q5, q6, q7, q8, q9, q10⟩, q11, q12, q13⟩ := h2
          refine ⟨⟨Sj, e', q1, q2, qa, qb, q3, q4, q5, q6, q7, q8, fun b => ?_, fun t => ?_⟩, Nat.le_trans hle q11, q12, fun b hb1 hb2 => ?_⟩
          · rw [q9 b]
            simp only [cont]
            have : decide (ix < ix + (j + 1)) = true := by simp
            rw [this, ← hc1, show ix + (j + 1) = ix + 1 + j by omega]
          · rw [q10 t]
            simp only [tcont]
            have : decide (ix < ix + (j + 1)) = true := by simp
            rw [this, ← ht1, show ix + (j + 1) = ix + 1 + j by omega]
          · by_cases hb : b < e.nx
            · exact ⟨0, r, by omega, rfl, hb1, hb⟩
            · obtain ⟨i, ri, h4, h5, h6⟩ := q13 b (Nat.le_of_not_lt hb) hb2
              exact ⟨i + 1, ri, by omega, by simpa using h5, h6⟩
      · cases j with
        | zero => omega
        | succ j =>
          have hj'' : rs[j]? = some rj := by simpa using hj'
          cases i with
          | zero =>
            simp only [List.getElem?_cons_zero, Option.some.injEq] at hi
            subst hi
            obtain ⟨_, h2, h3⟩ := hj j rj hj''
            refine ⟨h2.lo, ?_⟩
            have := h3 ⟨ix, us, ac, fr, wr⟩ (List.mem_cons_self ..)
            simpa using this
          | succ i =>
            obtain ⟨h1, h2⟩ := hp i j ri rj (by omega) (by simpa using hi) hj''
            refine ⟨h1, ?_⟩
            rw [show ix + (i + 1) = ix + 1 + i by omega]; exact h2
    · simp at h
end Go.Am
set_option linter.unusedSimpArgs false
set_option linter.unusedVariables false
namespace Go.Am

section
variable {P : Program} {I : Nat → Prop} {M : MU} {w : World} {nt bs : Nat} {a : Act} {S S' : St} {g : Cfg} {run : CC → St → Option (EX × St)} {rs : List Rec} {ops : Array Oper} {Q : Exit → Act → World → Prop}

def domX (nx : Nat) (rs : List Rec) (X : Nat → Bool) (b : Nat) : Prop := b < nx ∨ ∃ (i : Nat) (ri : Rec), X i = true ∧ rs[i]? = some ri ∧ ri.a ≤ b ∧ b < ri.n

def ParInv (nt : Nat) (S : St) (rs : List Rec) (I0 : Nat → Prop) (M0' : MU) (a0 : Act) (w0 : World) (X : Nat → Bool) (a : Act) (w : World) : Prop :=
  ∃ (I : Nat → Prop) (M : MU), EvB S.bs I0 M0' w0 I M w ∧ SimB I M (cont X 0 rs (blk S.h)) (domX S.nx rs X) w ∧ a.tmps.size = nt ∧ (∀ t, RpV I M w (tcont X 0 rs (look .ud S.tm) t) (a.tmps.getD t undef)) ∧ a.defers = a0.defers

structure ParOk (P : Program) (g : Cfg) (run : CC → St → Option (EX × St)) (ops : Array Oper) (nt : Nat) (S S' : St) (rs : List Rec) : Prop where
  len : rs.length = ops.size
  rec_ : ∀ (j : Nat) (r : Rec), rs[j]? = some r → RecOk g run S S' 0 rs j r
  meet : ∀ (i j : Nat) (ri rj : Rec), i < j → rs[i]? = some ri → rs[j]? = some rj → ri.n ≤ rj.a ∧ (i ∈ rj.dp ∨ Meet ri.us ri.ac ri.fr ri.wr rj.us rj.ac rj.fr rj.wr)
  tmp : ∀ (i j : Nat) (ri rj : Rec), i < j → rs[i]? = some ri → rs[j]? = some rj → i ∈ rj.dp ∨ ((∀ d, ri.o.dst = some d → d ∉ readsI rj.o ∧ rj.o.dst ≠ some d) ∧ ∀ d, rj.o.dst = some d → d ∉ readsI ri.o)
  ci : ∀ (j : Nat) (r : Rec) (o : Oper), rs[j]? = some r → ops[j]? = some o → CiOk P ops nt o r.o
  lt : ∀ (j : Nat) (r : Rec), rs[j]? = some r → ∀ i ∈ r.dp, i < j

theorem wI_sub {tm : List (Nat × AV)} {h : List (Nat × BK)} {o : CI} {us : List Nat} : ∀ b ∈ wI g tm h o us, b ∈ us := fun b hb => by
  unfold wI at hb
  split at hb
  · cases hb
  · split at hb
    · split at hb
      · split at hb
        · split at hb
          · rename_i hc
            simp only [List.mem_singleton] at hb
            subst hb
            simpa using hc
          · exact hb
        · exact hb
      · exact hb
    · exact hb
theorem wr_dom {j : Nat} {r : Rec} (h : RecOk g run S S' 0 rs j r) : (∀ b ∈ r.wr, b ∈ r.us ∨ (r.a ≤ b ∧ b < r.n)) ∧ (∀ b, r.a ≤ b → b < r.n → b ∈ r.wr) ∧ (∀ b ∈ r.us, b < r.a) ∧ ∀ b, r.a ≤ b → b < r.n → b ∈ r.fr := by
  obtain ⟨Sj, e, q1, q2, qa, qb, q3, q4, q5, q6, q7, q8, q9, q10⟩ := h.at_
  refine ⟨fun b hb => ?_, fun b h1 h2 => ?_, fun b hb => by rw [q3]; exact q1 b hb, fun b h1 h2 => by rw [qb]; exact upto_mem.2 ⟨by omega, by omega⟩⟩
  · rw [q6] at hb
    rcases List.mem_append.1 hb with h | h
    · rw [upto_mem] at h; exact .inr ⟨by omega, by omega⟩
    · exact .inl (wI_sub b h)
  · rw [q6]
    exact List.mem_append_left _ (upto_mem.2 ⟨by omega, by omega⟩)

theorem ParOk.apart (hp : ParOk P g run ops nt S S' rs) {i j : Nat} {ri rj : Rec} (hij : i ≠ j) (hi : rs[i]? = some ri) (hj : rs[j]? = some rj) (h1 : i ∉ rj.dp) (h2 : j ∉ ri.dp) :
    (∀ b ∈ ri.wr, b ∉ rj.ac) ∧ (∀ b ∈ ri.wr, b ∉ rj.wr) ∧ (∀ d, ri.o.dst = some d → d ∉ readsI rj.o ∧ rj.o.dst ≠ some d) ∧ ∀ b ∈ ri.fr, b ∉ rj.us := by
  rcases Nat.lt_or_gt_of_ne hij with h | h
  · obtain ⟨m1, m2⟩ := hp.meet i j ri rj h hi hj
    have m3 := m2.resolve_left h1
    have m4 := (hp.tmp i j ri rj h hi hj).resolve_left h1
    exact ⟨m3.1, m3.2.2.2.2, m4.1, m3.2.2.1⟩
  · obtain ⟨m1, m2⟩ := hp.meet j i rj ri h hj hi
    have m3 := m2.resolve_left h2
    have m4 := (hp.tmp j i rj ri h hj hi).resolve_left h2
    exact ⟨m3.2.1, fun b hb hb2 => m3.2.2.2.2 b hb2 hb, fun d hd => ⟨m4.2 d hd, fun hd2 => (m4.1 d hd2).2 hd⟩, m3.2.2.2.1⟩

theorem par_step (hg : CfgOk P g) (hr : Sound P run) (hp : ParOk P g run ops nt S S' rs) {I0 : Nat → Prop} {M0' : MU} {a0 : Act} {w0 : World} {X Y : Nat → Bool} {j : Nat} {r : Rec} {o : Oper} {K : Act → World → Prop}
    (hinv : ParInv nt S rs I0 M0' a0 w0 X a w) (hj : rs[j]? = some r) (ho : ops[j]? = some o) (hX : X j = false) (hdp : ∀ i ∈ r.dp, X i = true) (hdown : ∀ (i : Nat) (ri : Rec), X i = true → rs[i]? = some ri → ∀ k ∈ ri.dp, X k = true)
    (hY : ∀ i, Y i = if i = j then true else X i) (hK : ∀ a' w', ParInv nt S rs I0 M0' a0 w0 Y a' w' → K a' w') : wpOp P ops Q j K a w := by
  obtain ⟨I, M, hev, hs, hsz, ht, hdf⟩ := hinv
  have hrec := hp.rec_ j r hj
  obtain ⟨w1, w2, w3, w4⟩ := wr_dom hrec
  obtain ⟨Sj, e, q1, q2, qa, qb, q3, q4, q5, q6, q7, q8, q9, q10⟩ := hrec.at_
  simp only [Nat.zero_add] at q9 q10
  have hapart : ∀ (i : Nat) (ri : Rec), rs[i]? = some ri → X i ≠ decide (i < j) → i ≠ j ∧ i ∉ r.dp ∧ j ∉ ri.dp := fun i ri hi hne => by
    by_cases hx : X i = true
    · have hge : ¬ i < j := fun h => hne (by rw [hx]; simp [h])
      refine ⟨fun h => ?_, fun h => hge (hp.lt j r hj i h), fun h => ?_⟩
      · subst h; rw [hx] at hX; simp at hX
      · have := hdown i ri hx hi j h
        rw [this] at hX; simp at hX
    · have hx' : X i = false := by simpa using hx
      have hlt : i < j := by
        apply Classical.byContradiction
        intro h
        exact hne (by rw [hx']; simp [h])
      refine ⟨by omega, fun h => ?_, fun h => ?_⟩
      · have := hdp i h; rw [this] at hx'; simp at hx'
      · have := hp.lt i ri hi j h; omega
  have hblk : ∀ b ∈ r.ac, blk Sj.h b = cont X 0 rs (blk S.h) b := fun b hb => by
    rw [q9 b]
    refine cont_congr rs 0 _ _ rfl fun i ri hi hne => ?_
    rw [Nat.zero_add] at hne
    obtain ⟨n1, n2, n3⟩ := hapart i ri hi (Ne.symm hne)
    intro hw
    exact (hp.apart n1 hi hj n2 n3).1 b hw hb
  have htm : ∀ t ∈ readsI r.o, look .ud Sj.tm t = tcont X 0 rs (look .ud S.tm) t := fun t hb => by
    rw [q10 t]
    refine tcont_congr rs 0 _ _ rfl fun i ri hi hne => ?_
    rw [Nat.zero_add] at hne
    obtain ⟨n1, n2, n3⟩ := hapart i ri hi (Ne.symm hne)
    intro hd
    exact ((hp.apart n1 hi hj n2 n3).2.2.1 t hd).1 hb
  have hloc : SimH I (cutM M r.us) (lotH Sj.h r.us r.ac) Sj.nx w := lot_ok hs hblk qa q1
  have hlt : SimT I (cutM M r.us) (lotT Sj.tm r.us (readsI r.o)) nt a.tmps w := by
    refine ⟨hsz, fun t => ?_⟩
    unfold lotT
    rw [look_live]
    split
    · rename_i htr
      rw [htm t htr]
      exact lrV_ok (r := id) (M := M) (fun b x hb hx => by show cutM M r.us b = _; unfold cutM; rw [if_pos hb]; exact hx) (ht t)
    · exact Rp.ud _
  have hci := hp.ci j r o hj ho
  refine oneC_okW hg hr ho hci hlt hloc q2 fun v I' M' w' hd hkeep => hK _ _ ?_
  have hfresh : ∀ b, Sj.nx ≤ b → b < e.nx → ¬ domX S.nx rs X b := fun b h1 h2 hdom => by
    rcases hdom with h3 | ⟨i, ri, hx, hi, h4, h5⟩
    · have := hrec.lo; omega
    · have hne : i ≠ j := fun h => by subst h; rw [hx] at hX; simp at hX
      rcases Nat.lt_or_gt_of_ne hne with h | h
      · have := (hp.meet i j ri r h hi hj).1; omega
      · have := (hp.meet j i r ri h hj hi).1; omega
  have hUd : ∀ b ∈ r.us, domX S.nx rs X b := fun b hb => by
    by_cases hb0 : b < S.nx
    · exact .inl hb0
    · obtain ⟨i, ri, h1, h2, h3, h4⟩ := hrec.cov b (Nat.le_of_not_lt hb0) (w3 b hb)
      by_cases hx : X i = true
      · exact .inr ⟨i, ri, hx, h2, h3, h4⟩
      · obtain ⟨n1, n2, n3⟩ := hapart i ri h2 (by rw [show X i = false by simpa using hx]; simp [h1])
        exact absurd hb ((hp.apart n1 h2 hj n2 n3).2.2.2 b ((wr_dom (hp.rec_ i ri h2)).2.2.2 b h3 h4))
  have hXY : ∀ i, i ≠ j → X i = Y i := fun i hi => by rw [hY i, if_neg hi]
  have hYj : Y j = true := by rw [hY j, if_pos rfl]
  have hafter : ∀ (i : Nat) (ri : Rec), j < i → rs[i]? = some ri → Y i = true → i ≠ j ∧ i ∉ r.dp ∧ j ∉ ri.dp := fun i ri hlt hi hy => by
    have hne : i ≠ j := by omega
    have hx : X i = true := by rw [hXY i hne]; exact hy
    refine hapart i ri hi ?_
    rw [hx]
    have : ¬ i < j := by omega
    simp [this]
  obtain ⟨f1, f2, f3⟩ := frame_ok (W := wI g (lotT Sj.tm r.us (readsI r.o)) (lotH Sj.h r.us r.ac) r.o r.us) wI_sub hs q1 hd.ev hd.sim (fun b hb hnw rb o hM => hkeep r.us q1 b hb hnw rb o hM) hfresh hUd q5 (cont Y 0 rs (blk S.h)) (fun b hb => by
    rw [← q6] at hb
    rw [cont_last rs 0 _ j r hj (by rw [Nat.zero_add]; exact hYj) hb fun i ri hlt hi hy => ?_, q8]
    rw [Nat.zero_add] at hy
    obtain ⟨n1, n2, n3⟩ := hafter i ri hlt hi hy
    exact fun hw => (hp.apart n1 hi hj n2 n3).2.1 b hw hb) (fun b hb => by
    rw [← q6] at hb
    refine cont_congr rs 0 _ _ rfl fun i ri hi hne => ?_
    rw [Nat.zero_add] at hne
    have : i = j := by
      apply Classical.byContradiction
      intro h
      exact hne (hXY i h).symm
    subst this
    rw [hj] at hi
    injection hi with hi
    subst hi
    exact hb)
  refine ⟨I', _, hev.trans f1.toB, ⟨f2.blks, f2.inj, f2.sep, f2.bnd, f2.ibd, fun b hb => f2.fr b fun hd => hb ?_⟩, ?_, fun t => ?_, put_defers.trans hdf⟩
  · rcases hd with (h | ⟨i, ri, hx, hi, h4, h5⟩) | h
    · exact .inl h
    · refine .inr ⟨i, ri, ?_, hi, h4, h5⟩
      rw [← hXY i (fun h => by subst h; rw [hx] at hX; simp at hX)]; exact hx
    · exact .inr ⟨j, r, hYj, hj, by omega, by omega⟩
  · cases o.dst <;> simp [Act.put, hsz]
  · have hold : ∀ c u, RpV I M w c u → RpV I' (glue M M' r.us Sj.nx e.nx) w' c u := fun c u hr =>
      RpV.mono' (fun c u h => h.mono f1.imm (fun b hb => f1.keep b (hs.ibd b hb) fun ho => hs.sep b ho hb) f1.shp f1.mm) hr
    have hval : RpV I' (glue M M' r.us Sj.nx e.nx) w' r.v v := by
      rw [q7]; exact lrV_ok (r := id) f3 hd.val
    by_cases hdt : o.dst = some t
    · have hlt2 : t < a.tmps.size := by rw [hsz]; exact hci.lt t hdt
      rw [tcont_last rs 0 _ j r hj (by rw [Nat.zero_add]; exact hYj) (by rw [hci.dst]; exact hdt) fun i ri hlt hi hy => ?_]
      · have : (a.put o.dst v).tmps.getD t undef = v := by
          rw [hdt]
          simp [Act.put, Array.getD_eq_getD_getElem?, hlt2]
        rw [this]; exact hval
      · rw [Nat.zero_add] at hy
        obtain ⟨n1, n2, n3⟩ := hafter i ri hlt hi hy
        intro hd2
        exact ((hp.apart n1 hi hj n2 n3).2.2.1 t hd2).2 (by rw [hci.dst]; exact hdt)
    · have h1 : tcont Y 0 rs (look .ud S.tm) t = tcont X 0 rs (look .ud S.tm) t := tcont_congr rs 0 _ _ rfl fun i ri hi hne => by
        rw [Nat.zero_add] at hne
        have : i = j := by
          apply Classical.byContradiction
          intro h
          exact hne (hXY i h).symm
        subst this
        rw [hj] at hi
        injection hi with hi
        subst hi
        rw [hci.dst]; exact hdt
      have h2 : (a.put o.dst v).tmps.getD t undef = a.tmps.getD t undef := by
        cases hdd : o.dst with
        | none => rfl
        | some d =>
          have : d ≠ t := fun h => hdt (by rw [hdd, h])
          simp [Act.put, Array.getD_eq_getD_getElem?, Array.getElem?_setIfInBounds_ne this]
      rw [h1, h2]
      exact hold _ _ (ht t)
end
end Go.Am
set_option linter.unusedSimpArgs false
set_option linter.unusedVariables false
namespace Go.Am

def depOf (acc : List (List Nat)) (o : Oper) : List Nat :=
  (o.after.toList.filter (Region.binds .any)).foldl (fun s e => if s.contains e.on then s else e.on :: (acc.getD e.on []).foldl (fun s i => if s.contains i then s else i :: s) s) []

theorem depsR_cons (o : Oper) (l : List Oper) (acc : List (List Nat)) : depsR (o :: l) acc = depsR l (acc ++ [depOf acc o]) := rfl

theorem addAll_mem (l : List Nat) : ∀ (s : List Nat) (i : Nat), i ∈ l.foldl (fun s i => if s.contains i then s else i :: s) s ↔ i ∈ s ∨ i ∈ l := by
  induction l with
  | nil => intro s i; simp
  | cons a l ih =>
    intro s i
    rw [List.foldl_cons, ih]
    by_cases h : s.contains a = true
    · rw [if_pos h]
      have : a ∈ s := by simpa using h
      constructor
      · rintro (h1 | h1)
        · exact .inl h1
        · exact .inr (List.mem_cons_of_mem _ h1)
      · rintro (h1 | h1)
        · exact .inl h1
        · rcases List.mem_cons.1 h1 with h2 | h2
          · subst h2; exact .inl this
          · exact .inr h2
    · rw [if_neg h]
      constructor
      · rintro (h1 | h1)
        · rcases List.mem_cons.1 h1 with h2 | h2
          · subst h2; exact .inr (List.mem_cons_self ..)
          · exact .inl h2
        · exact .inr (List.mem_cons_of_mem _ h1)
      · rintro (h1 | h1)
        · exact .inl (List.mem_cons_of_mem _ h1)
        · rcases List.mem_cons.1 h1 with h2 | h2
          · subst h2; exact .inl (List.mem_cons_self ..)
          · exact .inr h2

theorem depOf_mem (acc : List (List Nat)) : ∀ (es : List Edge) (s : List Nat),
    (∀ i, i ∈ es.foldl (fun s e => if s.contains e.on then s else e.on :: (acc.getD e.on []).foldl (fun s i => if s.contains i then s else i :: s) s) s → i ∈ s ∨ ∃ e ∈ es, i = e.on ∨ i ∈ acc.getD e.on []) ∧
    (∀ i, (i ∈ s ∨ ∃ e ∈ es, i = e.on) → i ∈ es.foldl (fun s e => if s.contains e.on then s else e.on :: (acc.getD e.on []).foldl (fun s i => if s.contains i then s else i :: s) s) s)
  | [], s => ⟨fun i h => .inl h, fun i h => by
      rcases h with h | ⟨e, he, _⟩
      · exact h
      · cases he⟩
  | e :: es, s => by
    obtain ⟨h1, h2⟩ := depOf_mem acc es (if s.contains e.on then s else e.on :: (acc.getD e.on []).foldl (fun s i => if s.contains i then s else i :: s) s)
    refine ⟨fun i hi => ?_, fun i hi => ?_⟩
    · rw [List.foldl_cons] at hi
      rcases h1 i hi with h | ⟨e', he', h⟩
      · split at h
        · exact .inl h
        · rcases List.mem_cons.1 h with h | h
          · exact .inr ⟨e, List.mem_cons_self .., .inl h⟩
          · rcases (addAll_mem _ _ _).1 h with h | h
            · exact .inl h
            · exact .inr ⟨e, List.mem_cons_self .., .inr h⟩
      · exact .inr ⟨e', List.mem_cons_of_mem _ he', h⟩
    · rw [List.foldl_cons]
      refine h2 i ?_
      rcases hi with h | ⟨e', he', h⟩
      · left
        split
        · exact h
        · exact List.mem_cons_of_mem _ ((addAll_mem _ _ _).2 (.inl h))
      · rcases List.mem_cons.1 he' with h3 | h3
        · subst h3
          left
          split
          · rename_i hc; rw [h]; simpa using hc
          · rw [h]; exact List.mem_cons_self ..
        · exact .inr ⟨e', h3, h⟩

theorem depsR_spec : ∀ (l : List Oper) (acc : List (List Nat)), ∃ D, depsR l acc = acc ++ D ∧ D.length = l.length ∧ ∀ (j : Nat) (o : Oper), l[j]? = some o → D[j]? = some (depOf (acc ++ D.take j) o)
  | [], acc => ⟨[], by simp [depsR], rfl, by simp⟩
  | o :: l, acc => by
    obtain ⟨D, h1, h2, h3⟩ := depsR_spec l (acc ++ [depOf acc o])
    refine ⟨depOf acc o :: D, by rw [depsR_cons, h1]; simp, by simp [h2], fun j o' hj => ?_⟩
    cases j with
    | zero => simp at hj; subst hj; simp
    | succ j =>
      have := h3 j o' (by simpa using hj)
      simpa using this

theorem deps_facts {ops : Array Oper} {j : Nat} {o : Oper} {dp : List Nat} (hlt : ∀ (i : Nat) (d : List Nat), (depsR ops.toList [])[i]? = some d → ∀ k ∈ d, k < i) (ho : ops[j]? = some o) (hd : (depsR ops.toList [])[j]? = some dp) :
    (∀ e ∈ o.after, Region.binds .any e = true → e.on ∈ dp) ∧ ∀ i ∈ dp, ∃ e ∈ o.after, Region.binds .any e = true ∧ (i = e.on ∨ ∃ d, (depsR ops.toList [])[e.on]? = some d ∧ i ∈ d) := by
  obtain ⟨D, h1, h2, h3⟩ := depsR_spec ops.toList []
  rw [List.nil_append] at h1
  rw [h1] at hd hlt
  have h4 := h3 j o (by simpa using ho)
  rw [h4] at hd
  injection hd with hd
  subst hd
  obtain ⟨g1, g2⟩ := depOf_mem (D.take j) (o.after.toList.filter (Region.binds .any)) []
  rw [List.nil_append] at *
  have hall : ∀ e ∈ o.after, Region.binds .any e = true → e.on ∈ depOf (D.take j) o := fun e he hb => g2 e.on (.inr ⟨e, List.mem_filter.2 ⟨by simpa using he, hb⟩, rfl⟩)
  refine ⟨hall, fun i hi => ?_⟩
  rcases g1 i hi with h | ⟨e, he, h⟩
  · cases h
  · obtain ⟨he1, he2⟩ := List.mem_filter.1 he
    have he1' : e ∈ o.after := by simpa using he1
    refine ⟨e, he1', he2, h.imp id fun h => ?_⟩
    rw [h1]
    have hej := hlt j _ h4 e.on (hall e he1' he2)
    rw [List.getD_eq_getElem?_getD, List.getElem?_take, if_pos hej] at h
    cases hD : D[e.on]? with
    | none => rw [hD] at h; simp at h
    | some d => rw [hD] at h; exact ⟨d, rfl, by simpa using h⟩

theorem apartR_spec : ∀ (l : List (CI × List Nat)) (bef : List (Nat × CI)) (ix : Nat), apartR l bef ix = true →
    (∀ (j : Nat) (o : CI) (dp : List Nat), l[j]? = some (o, dp) → (∀ i ∈ dp, i < ix + j) ∧ ∀ p ∈ bef, p.1 ∈ dp ∨ ((∀ d, p.2.dst = some d → d ∉ readsI o ∧ o.dst ≠ some d) ∧ ∀ d, o.dst = some d → d ∉ readsI p.2)) ∧
    (∀ (i j : Nat) (oi : CI) (di : List Nat) (oj : CI) (dj : List Nat), i < j → l[i]? = some (oi, di) → l[j]? = some (oj, dj) → ix + i ∈ dj ∨ ((∀ d, oi.dst = some d → d ∉ readsI oj ∧ oj.dst ≠ some d) ∧ ∀ d, oj.dst = some d → d ∉ readsI oi))
  | [], bef, ix, h => by simp
  | (o, dp) :: l, bef, ix, h => by
    simp only [apartR, Bool.and_eq_true] at h
    obtain ⟨⟨hdp, hbef⟩, hrest⟩ := h
    obtain ⟨g1, g2⟩ := apartR_spec l ((ix, o) :: bef) (ix + 1) hrest
    have key : ∀ p ∈ bef, p.1 ∈ dp ∨ ((∀ d, p.2.dst = some d → d ∉ readsI o ∧ o.dst ≠ some d) ∧ ∀ d, o.dst = some d → d ∉ readsI p.2) := fun p hp => by
      have := (List.all_eq_true.1 hbef) p hp
      simp only [Bool.or_eq_true, Bool.and_eq_true] at this
      rcases this with h1 | ⟨h1, h2⟩
      · exact .inl (by simpa using h1)
      · refine .inr ⟨fun d hd => ?_, fun d hd => ?_⟩
        · rw [hd] at h1
          simp only [Bool.and_eq_true, Bool.not_eq_true', List.contains_eq_mem, decide_eq_false_iff_not, bne_iff_ne] at h1
          exact h1
        · rw [hd] at h2
          simp only [Bool.not_eq_true', List.contains_eq_mem, decide_eq_false_iff_not] at h2
          exact h2
    refine ⟨fun j o' dp' hj => ?_, fun i j oi di oj dj hij hi hj => ?_⟩
    · cases j with
      | zero =>
        simp only [List.getElem?_cons_zero, Option.some.injEq, Prod.mk.injEq] at hj
        obtain ⟨rfl, rfl⟩ := hj
        exact ⟨fun i hi => by have := (List.all_eq_true.1 hdp) i hi; simp only [decide_eq_true_eq] at this; omega, key⟩
      | succ j =>
        obtain ⟨g3, g4⟩ := g1 j o' dp' (by simpa using hj)
        exact ⟨fun i hi => by have := g3 i hi; omega, fun p hp => g4 p (List.mem_cons_of_mem _ hp)⟩
    · cases j with
      | zero => omega
      | succ j =>
        cases i with
        | zero =>
          simp only [List.getElem?_cons_zero, Option.some.injEq, Prod.mk.injEq] at hi
          obtain ⟨rfl, rfl⟩ := hi
          exact (g1 j oj dj (by simpa using hj)).2 (ix, o) (List.mem_cons_self ..)
        | succ i =>
          have := g2 i j oi di oj dj (by omega) (by simpa using hi) (by simpa using hj)
          rw [show ix + (i + 1) = ix + 1 + i by omega]; exact this
end Go.Am
set_option linter.unusedSimpArgs false
set_option linter.unusedVariables false
namespace Go.Am
section
variable {P : Program} {I : Nat → Prop} {M : MU} {w : World} {nt bs : Nat} {a : Act} {S S' : St} {g : Cfg} {run : CC → St → Option (EX × St)} {rs : List Rec} {ops : Array Oper} {Q : Exit → Act → World → Prop}

theorem par_any (hg : CfgOk P g) (hr : Sound P run) (hp : ParOk P g run ops nt S S' rs) {I0 : Nat → Prop} {M0' : MU} {a0 : Act} {w0 : World}
    (hdeps : ∀ (j : Nat) (r : Rec) (o : Oper), rs[j]? = some r → ops[j]? = some o → (∀ e ∈ o.after, Region.binds .any e = true → e.on ∈ r.dp) ∧ ∀ i ∈ r.dp, ∃ e ∈ o.after, Region.binds .any e = true ∧ (i = e.on ∨ ∃ rd, rs[e.on]? = some rd ∧ i ∈ rd.dp))
    (hQ : ∀ a' w', ParInv nt S rs I0 M0' a0 w0 (fun _ => true) a' w' → Q .normal a' w') :
    ∀ (fuel : Nat) (listed : Array Bool) (a : Act) (w : World), listed.size = ops.size → listed.toList.countP (fun b => !b) ≤ fuel →
      (∀ (i : Nat) (ri : Rec), listed.getD i false = true → rs[i]? = some ri → ∀ k ∈ ri.dp, listed.getD k false = true) →
      ParInv nt S rs I0 M0' a0 w0 (fun i => listed.getD i false) a w → wpAny P .any ops Q fuel listed a w := by
  have hfull : ∀ (listed : Array Bool) (a : Act) (w : World), listed.size = ops.size → (∀ i, i < ops.size → listed.getD i false = true) → ParInv nt S rs I0 M0' a0 w0 (fun i => listed.getD i false) a w → Q .normal a w := fun listed a w hsz hall hinv => by
    refine hQ a w ?_
    obtain ⟨I, M, h1, h2, h3, h4, h5⟩ := hinv
    have hx : ∀ (i : Nat) (r : Rec), rs[i]? = some r → listed.getD i false = true := fun i r hi => hall i (by rw [← hp.len]; exact (List.getElem?_eq_some_iff.1 hi).1)
    refine ⟨I, M, h1, ⟨fun b => ?_, h2.inj, h2.sep, h2.bnd, h2.ibd, fun b hb => h2.fr b fun hd => hb ?_⟩, h3, fun t => ?_, h5⟩
    · rw [← cont_congr (X := fun i => listed.getD i false) (Y := fun _ => true) rs 0 (blk S.h) (blk S.h) rfl fun i r hi hne => absurd (hx i r hi) (by rw [Nat.zero_add] at hne; exact hne)]
      exact h2.blks b
    · rcases hd with h | ⟨i, ri, _, hi, h6⟩
      · exact .inl h
      · exact .inr ⟨i, ri, rfl, hi, h6⟩
    · rw [← tcont_congr (X := fun i => listed.getD i false) (Y := fun _ => true) rs 0 (look .ud S.tm) (look .ud S.tm) rfl fun i r hi hne => absurd (hx i r hi) (by rw [Nat.zero_add] at hne; exact hne)]
      exact h4 t
  have hready : ∀ (listed : Array Bool), listed.size = ops.size → Region.ready .any ops listed = [] → ∀ i, i < ops.size → listed.getD i false = true := fun listed hsz hnil i => by
    induction i using Nat.strongRecOn with
    | _ i ih =>
      intro hi
      apply Classical.byContradiction
      intro hne
      have hmem : i ∈ Region.ready .any ops listed := by
        rw [mem_ready]
        refine ⟨?_, ops[i], by simp [hi], fun e he hb => ?_⟩
        · rw [Array.getD_eq_getD_getElem?] at hne ⊢
          rw [Array.getElem?_eq_getElem (by omega)] at hne ⊢
          simpa using hne
        · have hri : i < rs.length := by rw [hp.len]; exact hi
          have hr1 : rs[i]? = some rs[i] := by simp [hri]
          have ho1 : ops[i]? = some ops[i] := by simp [hi]
          have hin := (hdeps i rs[i] ops[i] hr1 ho1).1 e he hb
          have hlt := hp.lt i rs[i] hr1 e.on hin
          exact ih e.on hlt (by omega)
      rw [hnil] at hmem
      cases hmem
  intro fuel
  induction fuel with
  | zero =>
    intro listed a w hsz hcnt hdown hinv
    have hall : ∀ i, i < ops.size → listed.getD i false = true := fun i hi => by
      have hz : listed.toList.countP (fun b => !b) = 0 := by omega
      rw [List.countP_eq_zero] at hz
      have hi' : i < listed.size := by omega
      have := hz listed[i] (by simp)
      rw [Array.getD_eq_getD_getElem?, Array.getElem?_eq_getElem hi']
      simpa using this
    refine ⟨?_, hfull listed a w hsz hall hinv⟩
    rw [List.eq_nil_iff_forall_not_mem]
    intro i hi
    obtain ⟨h0, o, ho, _⟩ := mem_ready.1 hi
    have hlt : i < ops.size := (Array.getElem?_eq_some_iff.1 ho).1
    have := hall i hlt
    rw [Array.getD_eq_getD_getElem?] at h0 this
    rw [Array.getElem?_eq_getElem (by omega)] at h0 this
    simp at h0 this
    rw [h0] at this
    cases this
  | succ fuel ih =>
    intro listed a w hsz hcnt hdown hinv
    refine ⟨fun hnil => hfull listed a w hsz (hready listed hsz hnil) hinv, fun j hj => ?_⟩
    obtain ⟨h0, o, ho, hall⟩ := mem_ready.1 hj
    have hlt : j < ops.size := (Array.getElem?_eq_some_iff.1 ho).1
    have hjl : j < listed.size := by omega
    have hjr : j < rs.length := by rw [hp.len]; exact hlt
    have hr1 : rs[j]? = some rs[j] := by simp [hjr]
    have hX : listed.getD j false = false := by
      rw [Array.getD_eq_getD_getElem?, Array.getElem?_eq_getElem hjl] at h0 ⊢
      simpa using h0
    obtain ⟨d1, d2⟩ := hdeps j rs[j] o hr1 ho
    have hdp : ∀ i ∈ rs[j].dp, listed.getD i false = true := fun i hi => by
      obtain ⟨e, he, hb, h | ⟨rd, hrd, hid⟩⟩ := d2 i hi
      · rw [h]; exact hall e he hb
      · exact hdown e.on rd (hall e he hb) hrd i hid
    have hY : ∀ i, (listed.setIfInBounds j true).getD i false = if i = j then true else listed.getD i false := fun i => by
      by_cases e : i = j
      · subst e
        rw [if_pos rfl, Array.getD_eq_getD_getElem?]
        simp [hjl]
      · rw [if_neg e, Array.getD_eq_getD_getElem?, Array.getElem?_setIfInBounds_ne (Ne.symm e), Array.getD_eq_getD_getElem?]
    refine par_step (X := fun i => listed.getD i false) (Y := fun i => (listed.setIfInBounds j true).getD i false) hg hr hp hinv hr1 ho hX hdp hdown hY fun a' w' hinv' => ih (listed.setIfInBounds j true) a' w' (by simpa using hsz) ?_ ?_ hinv'
    · have hlf : listed.toList[j]? = some false := by
        rw [Array.getElem?_toList, Array.getElem?_eq_getElem hjl]
        rw [Array.getD_eq_getD_getElem?, Array.getElem?_eq_getElem hjl] at hX
        simpa using hX
      have hjl' : j < listed.toList.length := by simpa using hjl
      have := List.countP_set (p := fun b => !b) (l := listed.toList) (i := j) (a := true) hjl'
      have hlf' : listed.toList[j] = false := by
        rw [List.getElem?_eq_getElem hjl'] at hlf
        simpa using hlf
      rw [hlf'] at this
      rw [Array.toList_setIfInBounds, this]
      simp only [Bool.not_false, Bool.not_true, if_true, Bool.false_eq_true, if_false]
      omega
    · intro i ri hi hri k hk
      rw [hY] at hi ⊢
      by_cases e : i = j
      · subst e
        rw [hr1] at hri
        injection hri with hri
        subst hri
        split
        · rfl
        · exact hdp k hk
      · rw [if_neg e] at hi
        split
        · rfl
        · exact hdown i ri hi hri k hk

theorem zip_get {α β : Type} {l : List α} {m : List β} {j : Nat} {x : α} {y : β} (h : (l.zip m)[j]? = some (x, y)) : l[j]? = some x ∧ m[j]? = some y := by
  rw [List.getElem?_zip_eq_some] at h
  exact h

theorem par_ok (hm : P.follows .mixedOrders = true) (hg : CfgOk P g) (hr : Sound P run) {rid : Nat} {l0 : List CI} (hc : compR P nt ops = some l0) (hap : apartR (l0.zip (depsR ops.toList [])) [] 0 = true)
    (hlen : (l0.zip (depsR ops.toList [])).length = ops.size) (he : parC g run (l0.zip (depsR ops.toList [])) 0 [] S = some S') (ht : SimT I M S.tm nt a.tmps w) (hs : SimH I M S.h S.nx w)
    (hQ : ∀ a' w' I' M', EvB S.bs I M w I' M' w' → SimT I' M' S'.tm nt a'.tmps w' → SimH I' M' S'.h S'.nx w' → S'.bs = S.bs → S.nx ≤ S'.nx → a'.defers = a.defers → Q .normal a' w') : (Code.region rid ops true).wp P Q a w := by
  obtain ⟨rs, t1, t2, t3, t4, t5, t6, t7⟩ := tr_ok g run _ 0 [] S S' he
  obtain ⟨p1, p2⟩ := apartR_spec _ _ _ hap
  have hci := compR_ok hc
  have hat : ∀ (j : Nat) (r : Rec), rs[j]? = some r → l0[j]? = some r.o ∧ (depsR ops.toList [])[j]? = some r.dp := fun j r hj => zip_get (t6 j r hj).1
  have hltD : ∀ (i : Nat) (d : List Nat), (depsR ops.toList [])[i]? = some d → ∀ k ∈ d, k < i := fun i d hd k hk => by
    obtain ⟨D, e1, e2, _⟩ := depsR_spec ops.toList []
    have hl0 : l0.length = ops.size := by rw [← hci.length]; simp
    have hil : i < l0.length := by
      have h1 := (List.getElem?_eq_some_iff.1 hd).1
      rw [e1] at h1
      simp only [List.nil_append] at h1
      rw [e2] at h1
      rw [hl0]; simpa using h1
    have hz : (l0.zip (depsR ops.toList []))[i]? = some (l0[i], d) := by
      rw [List.getElem?_zip_eq_some]
      exact ⟨by simp [hil], hd⟩
    have := (p1 i l0[i] d hz).1 k hk
    omega
  have hp : ParOk P g run ops nt S S' rs := by
    refine ⟨t1.trans hlen, fun j r hj => (t6 j r hj).2.1, fun i j ri rj hij hi hj => ?_, fun i j ri rj hij hi hj => ?_, fun j r o hj ho => ?_, fun j r hj i hi => hltD j r.dp (hat j r hj).2 i hi⟩
    · have := t7 i j ri rj hij hi hj
      rwa [Nat.zero_add] at this
    · have := p2 i j ri.o ri.dp rj.o rj.dp hij (t6 i ri hi).1 (t6 j rj hj).1
      rwa [Nat.zero_add] at this
    · obtain ⟨c, hc1, hc2⟩ := hci.get j o (by simpa using ho)
      rw [(hat j r hj).1] at hc1
      injection hc1 with hc1
      subst hc1
      exact hc2
  refine wp_region_any hm ?_
  refine par_any hg hr hp (I0 := I) (M0' := M) (a0 := a) (w0 := w) (fun j r o hj ho => ?_) (fun a' w' hinv => ?_) ops.size _ a _ (by simp) ?_ ?_ ?_
  · obtain ⟨d1, d2⟩ := deps_facts hltD ho (hat j r hj).2
    refine ⟨d1, fun i hi => ?_⟩
    obtain ⟨e, he1, he2, h⟩ := d2 i hi
    refine ⟨e, he1, he2, h.imp id fun ⟨d, hd, hid⟩ => ?_⟩
    have hel : e.on < rs.length := by
      have h1 := hltD j r.dp (hat j r hj).2 e.on (d1 e he1 he2)
      have h2 := (List.getElem?_eq_some_iff.1 hj).1
      omega
    have hre : rs[e.on]? = some rs[e.on] := by simp [hel]
    refine ⟨rs[e.on], hre, ?_⟩
    have := (hat e.on _ hre).2
    rw [hd] at this
    injection this with this
    rw [← this]; exact hid
  · obtain ⟨I', M', h1, h2, h3, h4, h5⟩ := hinv
    refine hQ a' w' I' M' h1 ⟨h3, fun t => by rw [t5]; exact h4 t⟩ (h2.toH t4 fun b hb => ?_) t2 t3 h5
    rcases hb with h | ⟨i, ri, _, hi, _, h7⟩
    · omega
    · have := (t6 i ri hi).2.1.hi; omega
  · simp only [Array.toList_replicate]
    exact Nat.le_trans List.countP_le_length (by simp)
  · intro i ri hi
    rw [Array.getD_eq_getD_getElem?] at hi
    by_cases h : i < ops.size <;> simp [h] at hi
  · have hX : ∀ i, (Array.replicate ops.size false).getD i false = false := fun i => by
      rw [Array.getD_eq_getD_getElem?]
      by_cases h : i < ops.size <;> simp [h]
    have hc0 : ∀ (rs : List Rec) (k : Nat) (c : Nat → BK), cont (fun i => (Array.replicate ops.size false).getD i false) k rs c = c := by
      intro rs
      induction rs with
      | nil => intro k c; rfl
      | cons r rs ih =>
        intro k c
        show cont _ (k + 1) rs (stepK ((Array.replicate ops.size false).getD k false) r c) = c
        rw [hX k]
        exact ih _ _
    have ht0 : ∀ (rs : List Rec) (k : Nat) (c : Nat → AV), tcont (fun i => (Array.replicate ops.size false).getD i false) k rs c = c := by
      intro rs
      induction rs with
      | nil => intro k c; rfl
      | cons r rs ih =>
        intro k c
        show tcont _ (k + 1) rs (stepT ((Array.replicate ops.size false).getD k false) r c) = c
        rw [hX k]
        exact ih _ _
    refine ⟨I, M, (Ev.drawn _).toB, ?_, ht.size, fun t => ?_, rfl⟩
    · rw [hc0]
      have hd : Ev I M w I M { w with drawn := w.drawn + 1 } := Ev.drawn _
      exact ⟨fun b => RpB.go hs hd (hs.blks b) rfl fun _ _ _ => rfl, hs.inj, hs.sep, hs.bnd, hs.ibd, fun b hb => hs.fr b (Nat.le_of_not_lt fun h => hb (.inl h))⟩
    · rw [ht0]
      exact hs.rpV (Ev.drawn _) (ht.get t)
end
end Go.Am
set_option linter.unusedSimpArgs false
set_option linter.unusedVariables false
namespace Go.Am

theorem least {p : Nat → Prop} (h : ∃ k, p k) : ∃ k, p k ∧ ∀ m, p m → k ≤ m := by
  obtain ⟨k, hk⟩ := h
  induction k using Nat.strongRecOn with
  | _ k ih =>
    by_cases h : ∃ m, m < k ∧ p m
    · obtain ⟨m, hm, hp⟩ := h; exact ih m hm hp
    · exact ⟨k, hk, fun m hm => Nat.le_of_not_lt fun hl => h ⟨m, hl, hm⟩⟩

theorem wp_loop_n {P : Program} {Q : Exit → Act → World → Prop} {c : Code} (J : Nat → Act → World → Prop)
    (round : ∀ k a w, J k a w → c.wp P (Exit.then (fun a' w' => ∃ k', k' < k ∧ J k' a' w') Q) a w) {k : Nat} {a : Act} {w : World} (h : J k a w) : (Code.loop c).wp P Q a w := by
  classical
  let μ : Act → World → Nat := fun a w => if h : ∃ k, J k a w then Classical.choose (least h) else 0
  have hμ : ∀ a w, (∃ k, J k a w) → J (μ a w) a w ∧ ∀ m, J m a w → μ a w ≤ m := fun a w h => by
    have := Classical.choose_spec (least h)
    simp only [μ, h, dif_pos]
    exact this
  refine wp_loop (fun a w => ∃ k, J k a w) μ ⟨k, h⟩ fun a w hI => ?_
  obtain ⟨h1, h2⟩ := hμ a w hI
  refine wp_mono (round _ a w h1) fun e a' w' he => ?_
  cases e with
  | normal =>
    obtain ⟨k', hk', hj⟩ := he
    exact ⟨⟨k', hj⟩, Nat.lt_of_le_of_lt ((hμ a' w' ⟨k', hj⟩).2 k' hj) hk'⟩
  | _ => exact he

section
variable {P : Program} {g : Cfg}

theorem stepC_ok (hm : P.follows .mixedOrders = true) (hg : CfgOk P g) {K : Nat} (hK : ∀ j, j < K → Sound P (evalC g j)) : ∀ (code : Code) (j : Nat), j < K → SoundAt P (stepC g (evalC g j)) code := by
  intro code
  induction code with
  | skip =>
    intro j hj nt live n cc m hc S ex S' hrun I M a w ht hs hb Q hQ
    simp only [compC, Option.some.injEq, Prod.mk.injEq] at hc
    obtain ⟨rfl, rfl⟩ := hc
    simp only [stepC, Option.some.injEq, Prod.mk.injEq] at hrun
    obtain ⟨rfl, rfl⟩ := hrun
    exact wp_skip (hQ a w I M (EvB.refl _ I M w) ht hs rfl hb rfl)
  | region id ops draw =>
    intro j hj nt live n cc m hc S ex S' hrun I M a w ht hs hb Q hQ
    cases draw with
    | false =>
      simp only [compC, Option.some.injEq, Prod.mk.injEq] at hc
      obtain ⟨hc, rfl⟩ := hc
      cases hl : compR P nt ops with
      | none => rw [hl] at hc; subst hc; simp [stepC] at hrun
      | some l =>
      rw [hl] at hc
      subst hc
      simp only [stepC, Option.map_eq_some_iff] at hrun
      obtain ⟨S1, hS1, hrun⟩ := hrun
      simp only [Prod.mk.injEq] at hrun
      obtain ⟨rfl, rfl⟩ := hrun
      refine wp_region ?_
      have hsz : ops.size = ops.toList.length := by simp
      rw [List.range_eq_range', hsz]
      refine opsC_ok hg (hK j hj) ops.toList l 0 S S1 I M a w (compR_ok hl) (fun i o hi => by rw [Nat.zero_add]; simpa using hi) hS1 ht hs hb fun a' w' I' M' hev ht' hs' hbs hb2 hdf => hQ a' w' I' M' hev ht' hs' hbs hb2 hdf
    | true =>
      simp only [compC, Option.some.injEq, Prod.mk.injEq] at hc
      obtain ⟨hc, rfl⟩ := hc
      cases hl : compR P nt ops with
      | none => rw [hl] at hc; subst hc; simp [stepC] at hrun
      | some l =>
      rw [hl] at hc
      simp only [Bool.and_eq_true, decide_eq_true_eq] at hc
      split at hc
      case isFalse => subst hc; simp [stepC] at hrun
      rename_i hh
      obtain ⟨hap, hlen⟩ := hh
      subst hc
      simp only [stepC, Option.map_eq_some_iff] at hrun
      obtain ⟨S1, hS1, hrun⟩ := hrun
      simp only [Prod.mk.injEq] at hrun
      obtain ⟨rfl, rfl⟩ := hrun
      exact par_ok hm hg (hK j hj) hl hap hlen hS1 ht hs fun a' w' I' M' hev ht' hs' hbs hnx hdf => hQ a' w' I' M' hev ht' hs' hbs (Nat.le_trans hb hnx) hdf
  | seq x y ihx ihy =>
    intro j hj nt live n cc m hc S ex S' hrun I M a w ht hs hb Q hQ
    simp only [compC, Option.bind_eq_bind, Option.bind_eq_some_iff, Option.some.injEq] at hc
    obtain ⟨⟨cx, m1⟩, hx, ⟨cy, m2⟩, hy, hc⟩ := hc
    simp only [Prod.mk.injEq] at hc
    obtain ⟨rfl, rfl⟩ := hc
    refine wp_seq ?_
    simp only [stepC] at hrun
    cases hr1 : stepC g (evalC g j) cx S with
    | none => rw [hr1] at hrun; simp at hrun
    | some r1 =>
      obtain ⟨ex1, S1⟩ := r1
      rw [hr1] at hrun
      refine ihx j hj nt live n cx m1 hx S ex1 S1 hr1 I M a w ht hs hb _ fun a' w' I' M' hev ht' hs' hbs hb' hdf => ?_
      cases ex1 with
      | nm =>
        exact ihy j hj nt live m1 cy m2 hy S1 ex S' hrun I' M' a' w' ht' hs' (by rw [hbs]; exact hb') Q fun a'' w'' I'' M'' hev2 ht2 hs2 hbs2 hb2 hdf2 =>
          hQ a'' w'' I'' M'' (hev.trans (by rw [hbs] at hev2; exact hev2)) ht2 hs2 (hbs2.trans hbs) (by rw [hbs] at hb2; exact hb2) (hdf2.trans hdf)
      | xt id =>
        simp only [Option.some.injEq, Prod.mk.injEq] at hrun
        obtain ⟨rfl, rfl⟩ := hrun
        exact hQ a' w' I' M' hev ht' hs' hbs hb' hdf
      | rt =>
        simp only [Option.some.injEq, Prod.mk.injEq] at hrun
        obtain ⟨rfl, rfl⟩ := hrun
        exact hQ a' w' I' M' hev ht' hs' hbs hb' hdf
  | cond c x y ihx ihy =>
    intro j hj nt live n cc m hc S ex S' hrun I M a w ht hs hb Q hQ
    simp only [compC, Option.bind_eq_bind, Option.bind_eq_some_iff, Option.some.injEq] at hc
    obtain ⟨⟨cx, m1⟩, hx, ⟨cy, m2⟩, hy, hc⟩ := hc
    simp only [Prod.mk.injEq] at hc
    obtain ⟨hc, rfl⟩ := hc
    cases hc' : ofOpd c with
    | none => rw [hc'] at hc; subst hc; simp [stepC] at hrun
    | some c' =>
    rw [hc'] at hc
    subst hc
    have hv := opd_ok ht hc'
    simp only [stepC] at hrun
    split at hrun
    · rename_i hrd
      rw [hrd] at hv
      exact wp_cond_true (bool_inv hv) (ihx j hj nt live n cx m1 hx S ex S' hrun I M a w ht hs hb Q hQ)
    · rename_i hrd
      rw [hrd] at hv
      exact wp_cond_false (bool_inv hv) (ihy j hj nt live m1 cy m2 hy S ex S' hrun I M a w ht hs hb Q hQ)
    · simp at hrun
  | block id x ihx =>
    intro j hj nt live n cc m hc S ex S' hrun I M a w ht hs hb Q hQ
    simp only [compC, Option.bind_eq_bind, Option.bind_eq_some_iff, Option.some.injEq] at hc
    obtain ⟨⟨cx, m1⟩, hx, hc⟩ := hc
    simp only [Prod.mk.injEq] at hc
    obtain ⟨rfl, rfl⟩ := hc
    refine wp_block ?_
    simp only [stepC] at hrun
    cases hr1 : stepC g (evalC g j) cx S with
    | none => rw [hr1] at hrun; simp at hrun
    | some r1 =>
      obtain ⟨ex1, S1⟩ := r1
      rw [hr1] at hrun
      refine ihx j hj nt live n cx m1 hx S ex1 S1 hr1 I M a w ht hs hb _ fun a' w' I' M' hev ht' hs' hbs hb' hdf => ?_
      cases ex1 with
      | nm =>
        simp only [Option.some.injEq, Prod.mk.injEq] at hrun
        obtain ⟨rfl, rfl⟩ := hrun
        exact hQ a' w' I' M' hev ht' hs' hbs hb' hdf
      | rt =>
        simp only [Option.some.injEq, Prod.mk.injEq] at hrun
        obtain ⟨rfl, rfl⟩ := hrun
        exact hQ a' w' I' M' hev ht' hs' hbs hb' hdf
      | xt i =>
        simp only [Option.some.injEq, Prod.mk.injEq] at hrun
        obtain ⟨hex, rfl⟩ := hrun
        have hq := hQ a' w' I' M' hev ht' hs' hbs hb' hdf
        simp only [exOf, Exit.inBlock]
        split
        · rename_i e
          rw [if_pos e] at hex
          subst hex
          exact hq
        · rename_i e
          rw [if_neg e] at hex
          subst hex
          exact hq
  | loop x ihx =>
    intro j hj nt live n cc m hc S ex S' hrun I M a w ht hs hb Q hQ
    simp only [compC, Option.bind_eq_bind, Option.bind_eq_some_iff, Option.some.injEq] at hc
    obtain ⟨⟨cx, m1⟩, hx, hc⟩ := hc
    simp only [Prod.mk.injEq] at hc
    obtain ⟨rfl, rfl⟩ := hc
    refine wp_loop_n (fun k a1 w1 => k < K ∧ ∃ (S1 : St) (I1 : Nat → Prop) (M1 : MU), stepC g (evalC g k) (.lp (live n) cx) S1 = some (ex, S') ∧ SimT I1 M1 S1.tm nt a1.tmps w1 ∧ SimH I1 M1 S1.h S1.nx w1 ∧ S1.bs ≤ S1.nx ∧ S1.bs = S.bs ∧
      EvB S.bs I M w I1 M1 w1 ∧ a1.defers = a.defers) ?_ (k := j) ⟨hj, S, I, M, hrun, ht, hs, hb, rfl, EvB.refl _ I M w, rfl⟩
    rintro k a1 w1 ⟨hk, S1, I1, M1, h1, h2, h3, h4, h5, h6, h7⟩
    obtain ⟨M2, c1, c2, c3, c4⟩ := canon_ok (live n) h2 h3 h4
    simp only [stepC] at h1
    cases hr1 : stepC g (evalC g k) cx (canon (live n) S1) with
    | none => rw [hr1] at h1; simp at h1
    | some r1 =>
      obtain ⟨ex1, S2⟩ := r1
      rw [hr1] at h1
      have hcb : (canon (live n) S1).bs = S1.bs := rfl
      refine ihx k hk nt live (n + 1) cx m1 hx _ ex1 S2 hr1 I1 M2 a1 w1 c2 c3 c4 _ fun a' w' I' M' hev ht' hs' hbs hb' hdf => ?_
      have hbs2 : S2.bs = S.bs := hbs.trans (hcb.trans h5)
      have hev2 : EvB S.bs I M w I' M' w' := by
        rw [h5] at c1
        rw [hcb, h5] at hev
        exact (h6.trans c1).trans hev
      have hb2 : S.bs ≤ S2.nx := by rw [hcb, h5] at hb'; exact hb'
      cases ex1 with
      | nm =>
        cases k with
        | zero => simp [evalC] at h1
        | succ k =>
          exact ⟨k, Nat.lt_succ_self k, by omega, S2, I', M', h1, ht', hs', by rw [hbs2]; exact hb2, hbs2, hev2, hdf.trans h7⟩
      | xt id =>
        simp only [Option.some.injEq, Prod.mk.injEq] at h1
        obtain ⟨rfl, rfl⟩ := h1
        exact hQ a' w' I' M' hev2 ht' hs' hbs2 hb2 (hdf.trans h7)
      | rt =>
        simp only [Option.some.injEq, Prod.mk.injEq] at h1
        obtain ⟨rfl, rfl⟩ := h1
        exact hQ a' w' I' M' hev2 ht' hs' hbs2 hb2 (hdf.trans h7)
  | exit id =>
    intro j hj nt live n cc m hc S ex S' hrun I M a w ht hs hb Q hQ
    simp only [compC, Option.some.injEq, Prod.mk.injEq] at hc
    obtain ⟨rfl, rfl⟩ := hc
    simp only [stepC, Option.some.injEq, Prod.mk.injEq] at hrun
    obtain ⟨rfl, rfl⟩ := hrun
    exact wp_exit (hQ a w I M (EvB.refl _ I M w) ht hs rfl hb rfl)
  | ret =>
    intro j hj nt live n cc m hc S ex S' hrun I M a w ht hs hb Q hQ
    simp only [compC, Option.some.injEq, Prod.mk.injEq] at hc
    obtain ⟨rfl, rfl⟩ := hc
    simp only [stepC, Option.some.injEq, Prod.mk.injEq] at hrun
    obtain ⟨rfl, rfl⟩ := hrun
    exact wp_ret (hQ a w I M (EvB.refl _ I M w) ht hs rfl hb rfl)
  | rangeFunc | scope | label | goto | refuse =>
    intro j hj nt live n cc m hc S ex S' hrun
    simp only [compC, Option.some.injEq, Prod.mk.injEq] at hc
    obtain ⟨rfl, rfl⟩ := hc
    simp [stepC] at hrun

theorem evalC_ok (hm : P.follows .mixedOrders = true) (hg : CfgOk P g) : ∀ k, Sound P (evalC g k) := by
  intro k
  induction k using Nat.strongRecOn with
  | _ k ih =>
    cases k with
    | zero =>
      intro code nt live n cc m hc S ex S' hrun
      simp [evalC] at hrun
    | succ k =>
      intro code
      exact stepC_ok hm hg ih code k (Nat.lt_succ_self k)

theorem evalP_ok (hm : P.follows .mixedOrders = true) (hg : CfgOk P g) {k : Nat} {f : FuncId} {as : List AV} {r : AV} (h : evalP g k f as = some r) : PureOk P f as r :=
  (callP_ok hg (evalC_ok hm hg k) h).2
end
end Go.Am
