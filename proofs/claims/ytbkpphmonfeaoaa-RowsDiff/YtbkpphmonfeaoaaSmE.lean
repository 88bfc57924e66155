/- A machine on typed values, whose runs are trees, and the proof that what they tell the abstract machine computes: part 5. -/
import Derived.Test.YtbkpphmonfeaoaaSmD
import Derived.Shelf.SlIter.Nil
set_option linter.unusedSimpArgs false
set_option linter.unusedVariables false
set_option linter.constructorNameAsVariable false
namespace Go.Am
open Go.Shelf Go.RowKit Go.Proofs Go.Maps Go.WideShapes
theorem max63 : maxLen = 9223372036854775807 := rfl
abbrev R0_ : Value → Option (DataW Unit × List MemPlace) := fun _ => some (.nil, [])
theorem key_vals {I : Nat → Prop} {w : World} : ∀ {ks : List ByteArray} {es : List (AV × AV)} {ents : List MapEntry}, All2 (fun (k : ByteArray) (q : AV × AV) => q.1 = .st k) ks es →
    All2 (fun (p : AV × AV) (e : MapEntry) => Rp I M0 w p.1 e.key ∧ RpW I M0 w p.2 e.val) es ents → ents.map (·.key) = ks.map .string
  | [], [], [], _, _ => rfl
  | k :: ks, q :: es, e :: ents, h1, h2 => by
    cases h1 with
    | cons a1 a2 => cases h2 with
      | cons b1 b2 =>
        obtain ⟨q1, q2⟩ := q
        simp only at a1
        subst a1
        have hk : e.key = .string k := by
          have := b1.1
          generalize e.key = x at this
          cases this
          rfl
        simp only [List.map_cons, hk, key_vals a2 b2]
  | [], _ :: _, _, h, _ => by cases h
  | _ :: _, [], _, h, _ => by cases h
  | _, [], _ :: _, _, h => by cases h
  | _, _ :: _, [], _, h => by cases h
theorem owns_of {P : Program} {w : World} {k : TypeId} {b : Nat} {ents : Array MapEntry} {clock : Nat} {ks : List ByteArray} (hk : P.underlying k = some .string) (hb : w.heap[b]? = some (.map ents clock)) (hst : MapKept.Stamped ents clock)
    (hkey : ents.toList.map (·.key) = ks.map .string) (hf : fewK ks = true) :
    ∃ D : DataW Unit, w.ownsMap P k R0_ b ents.size D ∧ Maps.size D = ks.length ∧ (strKeys D).Perm (ks.map fun k => k.data.toList) := by
  simp only [fewK, Bool.and_eq_true, decide_eq_true_eq, List.all_eq_true] at hf
  obtain ⟨hf1, hf2⟩ := hf
  have hlen : ents.size = ks.length := by
    have := congrArg List.length hkey
    simpa using this
  have hmem : ∀ x ∈ ents.toList, ∃ s : ByteArray, s ∈ ks ∧ x.key = .string s := fun x hx => by
    have : x.key ∈ ents.toList.map (·.key) := List.mem_map_of_mem hx
    rw [hkey] at this
    obtain ⟨s, h1, h2⟩ := List.mem_map.1 this
    exact ⟨s, h1, h2.symm⟩
  have hrd : ∀ x ∈ ents.toList, ∃ s : ByteArray, s ∈ ks ∧ x.key = .string s ∧ WideElems.rd P k R0_ x = some (.string s.data.toList, DataW.nil) := fun x hx => by
    obtain ⟨s, h1, h2⟩ := hmem x hx
    refine ⟨s, h1, h2, ?_⟩
    have := hf2 s h1
    unfold WideElems.rd
    rw [h2, WideMaps.keyOf_string_mk hk (by rw [max63]; omega)]
    rfl
  have hfit : WideElems.Fit P k R0_ ents clock := ⟨by rw [max63]; omega, hst, fun x hx => by obtain ⟨_, _, _, h⟩ := hrd x hx; exact ⟨_, h⟩⟩
  refine ⟨_, ⟨ents, clock, hb, hfit, Nat.le_refl _, rfl⟩, ?_, ?_⟩
  · show ((ents.toList.map (WideElems.rg P k R0_)).foldr DataW.insert []).length = ks.length
    rw [(sorted_perm _).length_eq]
    simp [hlen]
  · show (((ents.toList.map (WideElems.rg P k R0_)).foldr DataW.insert []).map fun p => strOf p.1).Perm _
    refine ((sorted_perm _).map _).trans ?_
    have e : (ents.toList.map (WideElems.rg P k R0_)).map (fun p => strOf p.1) = ks.map fun k => k.data.toList := by
      have h1 : ∀ x ∈ ents.toList, strOf (WideElems.rg P k R0_ x).1 = match x.key with | .string s => s.data.toList | _ => [] := fun x hx => by
        obtain ⟨s, _, h2, h3⟩ := hrd x hx
        unfold WideElems.rg
        rw [h3, h2]
        rfl
      rw [List.map_map]
      have h2 : ents.toList.map ((fun p => strOf p.1) ∘ WideElems.rg P k R0_) = (ents.toList.map (·.key)).map fun v => match v with | .string s => s.data.toList | _ => [] := by
        rw [List.map_map]
        exact List.map_congr_left fun x hx => h1 x hx
      rw [h2, hkey, List.map_map]
      exact List.map_congr_left fun _ _ => rfl
    rw [e]
theorem few_len {ks : List ByteArray} (hf : fewK ks = true) : ks.length ≤ 1099511627776 := by
  simp only [fewK, Bool.and_eq_true, decide_eq_true_eq] at hf
  exact hf.1
theorem did_row {I : Nat → Prop} {M : MU} {h : List (Nat × BK)} {nx : Nat} {w w' : World} {t : TypeId} {v : Value} {ks : List ByteArray} (hs : SimH I M h nx w) (hb : Below w.heap.size w w') (hd : DLe w w')
    (hrow : w'.ownsRow w.heap.size t 1 v ks.length (ks.map .string)) (hnil : ks = [] → v = .slice none 0 0) : ∃ I', Did I M nx w ⟨rowK ks, h, nx⟩ false v I' M w' := by
  have hkeep : ∀ b, b < w.heap.size → w'.heap[b]? = w.heap[b]? := hb.block
  have hev : ∀ I', (∀ b, I b → I' b) → (∀ b, I' b → I b ∨ w.heap.size ≤ b) → Ev I M w I' M w' := fun I' h1 h2 =>
    ⟨hb.os, hb.tape, hb.output, hb.size, h1, fun b hb => (h2 b hb).imp id .inr, fun b hb _ => hkeep b hb, fun b hb => by unfold World.shape?; rw [hkeep b hb], fun b x hx => .inl hx, fun rb h => .inl h, hd⟩
  have hsim : ∀ I', (∀ b, I b → I' b) → (∀ b, I' b → I b ∨ w.heap.size ≤ b) → (∀ b, I' b → b < w'.heap.size) → SimH I' M h nx w' := fun I' h1 h2 h3 =>
    ⟨fun b => RpB.go hs (hev I' h1 h2) (hs.blks b) rfl fun rb o hM => hkeep rb (hs.bnd rb ⟨b, o, hM⟩), hs.inj, fun rb ho hI => (h2 rb hI).elim (hs.sep rb ho) fun hle => absurd (hs.bnd rb ho) (by omega), fun rb ho => Nat.lt_of_lt_of_le (hs.bnd rb ho) hb.size, h3, hs.fr⟩
  obtain ⟨hxl, hrow⟩ := hrow
  rcases hrow with ⟨rfl, hz⟩ | ⟨g, cap, cur, rfl, hbase, hgb, r1, r2, r3, r4⟩
  · obtain rfl : ks = [] := List.eq_nil_of_length_eq_zero hz
    exact ⟨I, hev I (fun _ h => h) fun _ h => .inl h, hsim I (fun _ h => h) (fun _ h => .inl h) fun b h => Nat.lt_of_lt_of_le (hs.ibd b h) hb.size, Rp.ns, fun h => by cases h⟩
  · have hg : g < w'.heap.size := (Array.getElem?_eq_some_iff.1 hgb).1
    refine ⟨fun b => I b ∨ b = g, hev _ (fun _ h => .inl h) (fun b h => h.imp id fun e => by subst e; exact hbase), hsim _ (fun _ h => .inl h) (fun b h => h.imp id fun e => by subst e; exact hbase) (fun b h => h.elim (fun h => Nat.lt_of_lt_of_le (hs.ibd b h) hb.size) fun e => by subst e; exact hg), ?_, fun h => by cases h⟩
    have hcell : ∀ (i : Nat) (k : ByteArray), ks[i]? = some k → w'.cell? ⟨g, i, none⟩ = some (.string k) := fun i k hk => by
      have h1 : (ks.map Value.string)[i]? = some (.string k) := by rw [List.getElem?_map, hk]; rfl
      rw [← r4, List.getElem?_take] at h1
      split at h1
      · unfold World.cell?
        simp only [hgb]
        rw [Array.getElem?_toList] at h1
        simpa using h1
      · cases h1
    match ks, hcell, hnil with
    | [], _, hnil => cases hnil rfl
    | k :: ks, hcell, _ =>
      have := Rp.ls (I := fun b => I b ∨ b = g) (M := M) (w := w') 1 ((k :: ks).map fun k => [.st k]) g 0 cap (fun i j => match (k :: ks)[i]? with | some k => .string k | none => undef) (by simp) (by simpa using r1)
        (fun e he => by obtain ⟨x, _, rfl⟩ := List.mem_map.1 he; rfl) (.inr rfl) (fun i e j c hi hj => by
          rw [List.getElem?_map] at hi
          cases hx : (k :: ks)[i]? with
          | none => rw [hx] at hi; cases hi
          | some x =>
            rw [hx] at hi
            simp only [Option.map_some, Option.some.injEq] at hi
            subst hi
            obtain ⟨rfl, rfl⟩ : j = 0 ∧ c = .st x := by
              cases j with
              | zero => simpa using hj.symm
              | succ j => simp at hj
            have := hcell i x hx
            simp only [hx]
            simpa using this) (fun i e j c hi hj => by
          rw [List.getElem?_map] at hi
          cases hx : (k :: ks)[i]? with
          | none => rw [hx] at hi; cases hi
          | some x =>
            rw [hx] at hi
            simp only [Option.map_some, Option.some.injEq] at hi
            subst hi
            obtain ⟨rfl, rfl⟩ : j = 0 ∧ c = .st x := by
              cases j with
              | zero => simpa using hj.symm
              | succ j => simp at hj
            simp only [hx]
            exact .st x)
      simpa [rowK, RpV, RpW] using this
theorem re_ptr {I : Nat → Prop} {M : MU} {w : World} {nb rb o : Nat} {v : Value} (hM : M nb = some (some (rb, o))) (h : Rp I M w (.re 1 nb 0 0) v) : v = .pointer (some ⟨rb, o, none⟩) := by
  cases h with
  | reD _ _ _ _ _ h _ => rw [hM] at h; simp at h
  | re _ _ _ _ rb' o' h =>
    rw [hM] at h
    simp only [Option.some.injEq, Prod.mk.injEq] at h
    obtain ⟨rfl, rfl⟩ := h
    simp
theorem fn_one {I : Nat → Prop} {M : MU} {w : World} {f nb rb o : Nat} {v : Value} (hf : f < fnB) (hM : M nb = some (some (rb, o))) (h : Rp I M w (.fn f [.re 1 nb 0 0]) v) : v = .func (.func f) #[] #[.pointer (some ⟨rb, o, none⟩)] := by
  cases h with
  | fn _ caps vs hl hr f' fs us hk =>
    rcases hk with ⟨_, rfl, rfl, rfl⟩ | ⟨h, _⟩
    · obtain ⟨l⟩ := us
      match l, hl with
      | [p], _ =>
        rw [re_ptr hM (hr 0 _ p rfl rfl)]
    · exact absurd (Nat.lt_of_lt_of_le hf h) (Nat.lt_irrefl _)
theorem keys_ok (hlose : LoseD) {P : Program} {ρk ρs : Ren} (L7 : SlLaysZ.n7 P ρk) (L6 : SlLaysZ.n6 P ρs) (hsort : ∀ m, AnyZ.SortsIn P ρs Fence.wide m) (he : Ent P (ρs.f 6)) (hgB : ρk.f 10 < fnB)
    (e9 : ∀ args w, (callFunc (ρs.f 9) args).run P w = .ok (.enter (ρs.f 9) args) w) (eg : ∀ args w, (callFunc (ρk.f 10) args).run P w = .ok (.enter (ρk.f 10) args) w) : StOk P (ρs.f 6) ⟨.s, 0, fun _ => none, some (ρk.f 10)⟩ where
  row := fun _ _ _ _ _ _ _ _ _ h => by cases h
  nor := fun h => by cases h
  key := by
    rintro f' hg h nx nb b t es ks hnb hb hks hfew I M w vals hs ha
    obtain rfl : ρk.f 10 = f' := by injection hg
    refine ⟨he, fun R hR => ?_⟩
    obtain ⟨v, hv, hv1⟩ : ∃ v, vals.toList = [v] ∧ RpV I M w (.fn (ρk.f 10) [.re 1 nb 0 0]) v := by
      generalize vals.toList = l at ha
      cases ha with
      | cons h1 h2 => cases h2; exact ⟨_, rfl, h1⟩
    obtain rfl : vals = #[v] := by
      cases vals; simp at hv; simp [hv]
    obtain ⟨rb, o, arr, t', lo, hi, g1, g2, g3, g4, g5, g6⟩ := (blk_rw hs hnb).row
    obtain ⟨_, rfl⟩ := g4 rfl
    obtain rfl := fn_one hgB g1 hv1
    obtain ⟨u, hu, hur⟩ := g6 0 [.mp b] 0 (.mp b) rfl rfl
    have hbb : RpB I M w b (.mp es) := hb ▸ hs.blks b
    obtain ⟨rb2, ents, clock, m1, m2, mst, m3⟩ := hbb
    have hur : Rp I M w (.mp b) u := hur
    obtain rfl : u = .map (some rb2) := by
      cases hur with
      | mpD _ _ h => rw [m1] at h; simp at h
      | mp _ rb' h =>
        rw [m1] at h
        simp only [Option.some.injEq, Prod.mk.injEq, and_true] at h
        rw [h]
    have hcell : w.cell? ⟨rb, 0, none⟩ = some (.map (some rb2)) := by
      unfold World.cell?
      simp only [g2]
      simpa using hu
    obtain ⟨D, hown, hsz, hperm⟩ := owns_of (k := ρk.t 26) L7.t26 m2 mst (key_vals hks m3) hfew
    have hlen := few_len hfew
    have hlt : rb < w.heap.size := hs.bnd rb ⟨nb, 0, g1⟩
    have hseq : SeqGives Fence.wide 2 P (ρk.f 10) #[.pointer (some ⟨rb, 0, none⟩)] encStr (fun ss => ss.Perm (strKeys D)) (Maps.size D) w :=
      AnyZ.keys_gives (ρ := ρk) { L7 with } Fence.wide _ trivial rfl (by omega) rb rb2 ents.size D w hlt hcell hown
    have cS := AnyZ.sorted_in L6 Fence.wide 5 trivial trivial trivial trivial rfl (by omega) (hsort _) e9 (ρk.f 10) #[.pointer (some ⟨rb, 0, none⟩)] trivial eg _ (Maps.size D) (by rw [hsz, max63]; omega) (by rw [hsz]; omega) _ hseq
    refine Calls.mono ((callsIn_wide (n := 5)).1 cS) fun e w' hq => ?_
    obtain ⟨v, ss, rfl, hS, hrow, hnil, hbe⟩ := hq
    have hkk : (ss.mergeSort fun x y => decide (x ≤ y)).map encStr = (sortK ks).map .string := by
      have : ss.mergeSort (fun x y => decide (x ≤ y)) = (ks.map fun k => k.data.toList).mergeSort (fun x y => decide (x ≤ y)) := mergeSort_of_perm (hS.trans hperm)
      rw [this, sortK, List.map_map]
      rfl
    have hkl : ss.length = (sortK ks).length := by
      have := congrArg List.length hkk
      simpa using this
    rw [hkk, hkl] at hrow
    obtain ⟨I', hD⟩ := did_row (t := ρs.t 26) hs hbe (.inl hlose) hrow (fun h => hnil.2 (by
      rw [h] at hkl
      exact List.eq_nil_of_length_eq_zero hkl))
    exact hR v I' M w' hD
end Go.Am
set_option linter.unusedVariables false
set_option linter.unusedSimpArgs false
namespace Go.Am

section
variable {X Y : Type} {st : X → Option (X ⊕ Y)}
theorem loopF_hoare (m : X → Nat) (Inv : X → Prop) (Q : Y → Prop) (h : ∀ x, Inv x → (∃ x', st x = some (.inl x') ∧ Inv x' ∧ m x' < m x) ∨ (∃ y, st x = some (.inr y) ∧ Q y)) : ∀ x, Inv x → ∃ y, loopF st x = some y ∧ Q y := by
  intro x
  generalize hn : m x = n
  induction n using Nat.strongRecOn generalizing x with
  | _ n ih =>
    intro hx
    rcases h x hx with ⟨x', h1, h2, h3⟩ | ⟨y, h1, h2⟩
    · obtain ⟨y, h4, h5⟩ := ih (m x') (by omega) x' rfl h2
      exact ⟨y, by rw [loopF_eq, h1]; exact h4, h5⟩
    · exact ⟨y, by rw [loopF_eq, h1], h2⟩
variable {T A : Type}
def foldE (g : Nat → T → A → A ⊕ Y) (fin : A → Y) : Nat → List T → A → Y
  | _, [], a => fin a
  | i, t :: ts, a => match g i t a with
    | .inl a' => foldE g fin (i + 1) ts a'
    | .inr y => y
theorem loopF_list (ts : List T) (d : T) (mk : Nat → A → X) (fin : A → Y) (g : Nat → T → A → A ⊕ Y)
    (h1 : ∀ i a, i < ts.length → st (mk i a) = some (match g i (ts.getD i d) a with | .inl a' => .inl (mk (i + 1) a') | .inr y => .inr y))
    (h2 : ∀ a, st (mk ts.length a) = some (.inr (fin a))) : ∀ (n i : Nat) (a : A), i + n = ts.length → loopF st (mk i a) = some (foldE g fin i (ts.drop i) a)
  | 0, i, a, h => by
    have : i = ts.length := by omega
    subst this
    rw [loopF_eq, h2, List.drop_length]
    rfl
  | n + 1, i, a, h => by
    have hi : i < ts.length := by omega
    rw [loopF_eq, h1 i a hi, List.drop_eq_getElem_cons hi]
    have hd : ts.getD i d = ts[i] := by rw [List.getD_eq_getElem?_getD, List.getElem?_eq_getElem hi]; rfl
    rw [hd]
    simp only [foldE]
    cases hg : g i ts[i] a with
    | inl a' => simp only; exact loopF_list ts d mk fin g h1 h2 n (i + 1) a' (by omega)
    | inr y => rfl
theorem loopF_list0 (ts : List T) (d : T) (mk : Nat → A → X) (fin : A → Y) (g : Nat → T → A → A ⊕ Y)
    (h1 : ∀ i a, i < ts.length → st (mk i a) = some (match g i (ts.getD i d) a with | .inl a' => .inl (mk (i + 1) a') | .inr y => .inr y))
    (h2 : ∀ a, st (mk ts.length a) = some (.inr (fin a))) (a : A) : loopF st (mk 0 a) = some (foldE g fin 0 ts a) := by
  have := loopF_list ts d mk fin g h1 h2 ts.length 0 a (by omega)
  rwa [List.drop_zero] at this
end
theorem rg_lt {i n : Nat} (h : i < n) : decide ((i : Int) < (n : Int)) = true := by simp [h]
theorem rg_end {n : Nat} : decide ((n : Int) < (n : Int)) = false := by simp
theorem rg_in {i n : Nat} (h : i < n) : within 0 (i : Int) ((n : Int) - 1) = true := by simp [within]; omega
theorem rg_nat {i n : Nat} (h : i < n) : decide ((i : Int).toNat < n) = true := by simp [h]
theorem wrap_add1 {a : Int} (h1 : -9223372036854775808 ≤ a) (h2 : a < 9223372036854775807) : IntKind.i64.wrap (a + Int.ofNat 1) = a + 1 := by
  unfold IntKind.wrap
  simp [IntKind.bits, IntKind.signed]
  omega
theorem rg_wrap {i : Nat} (h : i < 9223372036854775807) : IntKind.i64.wrap ((i : Int) + Int.ofNat 1) = ((i + 1 : Nat) : Int) := by
  rw [wrap_add1 (by omega) (by omega)]; rfl
end Go.Am
namespace Go.Am
theorem rg_ltn {i n : Nat} (h : i < n) : decide (i < n) = true := decide_eq_true h
theorem ofN (n : Nat) : Int.ofNat n = (n : Int) := rfl
theorem br_match {X Y A : Type} (b : Bool) (f : A → X) (a1 a2 : A ⊕ Y) {p q : Option (X ⊕ Y)} (h1 : b = true → p = some (match a1 with | .inl a' => .inl (f a') | .inr y => .inr y)) (h2 : b = false → q = some (match a2 with | .inl a' => .inl (f a') | .inr y => .inr y)) :
    (bif b then p else q) = some (match (bif b then a1 else a2) with | .inl a' => .inl (f a') | .inr y => .inr y) := by
  cases b
  · exact h2 rfl
  · exact h1 rfl
theorem rng_hoare {X Y A : Type} {st : X → Option (X ⊕ Y)} (n : Nat) (mk : Nat → A → X) (Inv : Nat → A → Prop) (Q : Y → Prop)
    (h1 : ∀ i a, i < n → Inv i a → (∃ a', st (mk i a) = some (.inl (mk (i + 1) a')) ∧ Inv (i + 1) a') ∨ (∃ y, st (mk i a) = some (.inr y) ∧ Q y))
    (h2 : ∀ a, Inv n a → ∃ y, st (mk n a) = some (.inr y) ∧ Q y) (a : A) (h : Inv 0 a) : ∃ y, loopF st (mk 0 a) = some y ∧ Q y := by
  have go : ∀ (m i : Nat) (a : A), i + m = n → Inv i a → ∃ y, loopF st (mk i a) = some y ∧ Q y := by
    intro m
    induction m with
    | zero =>
      intro i a hi hv
      have : i = n := by omega
      subst this
      obtain ⟨y, h3, h4⟩ := h2 a hv
      exact ⟨y, by rw [loopF_eq, h3], h4⟩
    | succ m ih =>
      intro i a hi hv
      rcases h1 i a (by omega) hv with ⟨a', h3, h4⟩ | ⟨y, h3, h4⟩
      · obtain ⟨y, h5, h6⟩ := ih (i + 1) a' (by omega) h4
        exact ⟨y, by rw [loopF_eq, h3]; exact h5, h6⟩
      · exact ⟨y, by rw [loopF_eq, h3], h4⟩
  exact go n 0 a (by omega) h
theorem getD_mem {α : Type} {l : List α} {i : Nat} (h : i < l.length) (d : α) : l.getD i d ∈ l := by
  rw [List.getD_eq_getElem?_getD, List.getElem?_eq_getElem h]; exact List.getElem_mem h
theorem getD_get {α : Type} {l : List α} {i : Nat} (h : i < l.length) (d : α) : l.getD i d = l[i] := by
  rw [List.getD_eq_getElem?_getD, List.getElem?_eq_getElem h]; rfl
theorem mem_take_succ {α : Type} {l : List α} {i : Nat} (h : i < l.length) (d : α) {t : α} (ht : t ∈ l.take (i + 1)) : t ∈ l.take i ∨ t = l.getD i d := by
  rw [List.take_succ_eq_append_getElem h] at ht
  rcases List.mem_append.1 ht with ht | ht
  · exact .inl ht
  · exact .inr (by rw [getD_get h]; simpa using ht)
end Go.Am
