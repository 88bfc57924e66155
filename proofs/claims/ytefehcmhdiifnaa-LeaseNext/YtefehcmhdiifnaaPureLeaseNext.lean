/- What the functions of the law compute answers as the law says: for all data that an argument may hold. -/
import Derived.Test.YtefehcmhdiifnaaDefLeaseNext
set_option linter.unusedVariables false
set_option linter.unusedSimpArgs false
namespace Go.Am

/-! Plain helpers: loops over lists and numbers. -/
section
variable {X Y : Type} {st : X → Option (X ⊕ Y)}
/-- A loop whose rounds keep what holds, and lower a measure. -/
theorem loopF_hoare (m : X → Nat) (Inv : X → Prop) (Q : Y → Prop) (h : ∀ x, Inv x → (∃ x', st x = some (.inl x') ∧ Inv x' ∧ m x' < m x) ∨ (∃ y, st x = some (.inr y) ∧ Q y)) : ∀ x, Inv x → ∃ y, loopF st x = some y ∧ Q y := by
  intro x
  generalize hn : m x = n
  induction n using Nat.strongRecOn generalizing x with
  | _ n ih =>
    intro hx
    rcases h x hx with ⟨x', h1, h2, h3⟩ | ⟨y, h1, h2⟩
    · obtain ⟨y, h4, h5⟩ := ih (m x') (by omega) x' rfl h2
      exact ⟨y, by rw [loopF_eq, h1]; exact h4, h5⟩
    · exact ⟨y, by rw [loopF_eq, h1], h2⟩
variable {T A : Type}
/-- A list, element by element, with a way out. -/
def foldE (g : Nat → T → A → A ⊕ Y) (fin : A → Y) : Nat → List T → A → Y
  | _, [], a => fin a
  | i, t :: ts, a => match g i t a with
    | .inl a' => foldE g fin (i + 1) ts a'
    | .inr y => y
theorem loopF_list (ts : List T) (d : T) (mk : Nat → A → X) (fin : A → Y) (g : Nat → T → A → A ⊕ Y)
    (h1 : ∀ i a, i < ts.length → st (mk i a) = some (match g i (ts.getD i d) a with | .inl a' => .inl (mk (i + 1) a') | .inr y => .inr y))
    (h2 : ∀ a, st (mk ts.length a) = some (.inr (fin a))) : ∀ (n i : Nat) (a : A), i + n = ts.length → loopF st (mk i a) = some (foldE g fin i (ts.drop i) a)
  | 0, i, a, h => by
    have : i = ts.length := by omega
    subst this
    rw [loopF_eq, h2, List.drop_length]
    rfl
  | n + 1, i, a, h => by
    have hi : i < ts.length := by omega
    rw [loopF_eq, h1 i a hi, List.drop_eq_getElem_cons hi]
    have hd : ts.getD i d = ts[i] := by rw [List.getD_eq_getElem?_getD, List.getElem?_eq_getElem hi]; rfl
    rw [hd]
    simp only [foldE]
    cases hg : g i ts[i] a with
    | inl a' => simp only; exact loopF_list ts d mk fin g h1 h2 n (i + 1) a' (by omega)
    | inr y => rfl
theorem loopF_list0 (ts : List T) (d : T) (mk : Nat → A → X) (fin : A → Y) (g : Nat → T → A → A ⊕ Y)
    (h1 : ∀ i a, i < ts.length → st (mk i a) = some (match g i (ts.getD i d) a with | .inl a' => .inl (mk (i + 1) a') | .inr y => .inr y))
    (h2 : ∀ a, st (mk ts.length a) = some (.inr (fin a))) (a : A) : loopF st (mk 0 a) = some (foldE g fin 0 ts a) := by
  have := loopF_list ts d mk fin g h1 h2 ts.length 0 a (by omega)
  rwa [List.drop_zero] at this
end
/-! Range loops' tests. -/
theorem rg_lt {i n : Nat} (h : i < n) : decide ((i : Int) < (n : Int)) = true := by simp [h]
theorem rg_end {n : Nat} : decide ((n : Int) < (n : Int)) = false := by simp
theorem rg_in {i n : Nat} (h : i < n) : within 0 (i : Int) ((n : Int) - 1) = true := by simp [within]; omega
theorem rg_nat {i n : Nat} (h : i < n) : decide ((i : Int).toNat < n) = true := by simp [h]
theorem wrap_add1 {a : Int} (h1 : -9223372036854775808 ≤ a) (h2 : a < 9223372036854775807) : IntKind.i64.wrap (a + Int.ofNat 1) = a + 1 := by
  unfold IntKind.wrap
  simp [IntKind.bits, IntKind.signed]
  omega
theorem rg_wrap {i : Nat} (h : i < 9223372036854775807) : IntKind.i64.wrap ((i : Int) + Int.ofNat 1) = ((i + 1 : Nat) : Int) := by
  rw [wrap_add1 (by omega) (by omega)]; rfl
end Go.Am
namespace Go.Am
theorem rg_ltn {i n : Nat} (h : i < n) : decide (i < n) = true := decide_eq_true h
theorem ofN (n : Nat) : Int.ofNat n = (n : Int) := rfl
/-- A branch inside and outside. -/
theorem br_match {X Y A : Type} (b : Bool) (f : A → X) (a1 a2 : A ⊕ Y) {p q : Option (X ⊕ Y)} (h1 : b = true → p = some (match a1 with | .inl a' => .inl (f a') | .inr y => .inr y)) (h2 : b = false → q = some (match a2 with | .inl a' => .inl (f a') | .inr y => .inr y)) :
    (bif b then p else q) = some (match (bif b then a1 else a2) with | .inl a' => .inl (f a') | .inr y => .inr y) := by
  cases b
  · exact h2 rfl
  · exact h1 rfl
/-- A range loop with something kept. -/
theorem rng_hoare {X Y A : Type} {st : X → Option (X ⊕ Y)} (n : Nat) (mk : Nat → A → X) (Inv : Nat → A → Prop) (Q : Y → Prop)
    (h1 : ∀ i a, i < n → Inv i a → (∃ a', st (mk i a) = some (.inl (mk (i + 1) a')) ∧ Inv (i + 1) a') ∨ (∃ y, st (mk i a) = some (.inr y) ∧ Q y))
    (h2 : ∀ a, Inv n a → ∃ y, st (mk n a) = some (.inr y) ∧ Q y) (a : A) (h : Inv 0 a) : ∃ y, loopF st (mk 0 a) = some y ∧ Q y := by
  have go : ∀ (m i : Nat) (a : A), i + m = n → Inv i a → ∃ y, loopF st (mk i a) = some y ∧ Q y := by
    intro m
    induction m with
    | zero =>
      intro i a hi hv
      have : i = n := by omega
      subst this
      obtain ⟨y, h3, h4⟩ := h2 a hv
      exact ⟨y, by rw [loopF_eq, h3], h4⟩
    | succ m ih =>
      intro i a hi hv
      rcases h1 i a (by omega) hv with ⟨a', h3, h4⟩ | ⟨y, h3, h4⟩
      · obtain ⟨y, h5, h6⟩ := ih (i + 1) a' (by omega) h4
        exact ⟨y, by rw [loopF_eq, h3]; exact h5, h6⟩
      · exact ⟨y, by rw [loopF_eq, h3], h4⟩
  exact go n 0 a (by omega) h
theorem getD_mem {α : Type} {l : List α} {i : Nat} (h : i < l.length) (d : α) : l.getD i d ∈ l := by
  rw [List.getD_eq_getElem?_getD, List.getElem?_eq_getElem h]; exact List.getElem_mem h
theorem getD_get {α : Type} {l : List α} {i : Nat} (h : i < l.length) (d : α) : l.getD i d = l[i] := by
  rw [List.getD_eq_getElem?_getD, List.getElem?_eq_getElem h]; rfl
theorem mem_take_succ {α : Type} {l : List α} {i : Nat} (h : i < l.length) (d : α) {t : α} (ht : t ∈ l.take (i + 1)) : t ∈ l.take i ∨ t = l.getD i d := by
  rw [List.take_succ_eq_append_getElem h] at ht
  rcases List.mem_append.1 ht with ht | ht
  · exact .inl ht
  · exact .inr (by rw [getD_get h]; simpa using ht)
end Go.Am
set_option maxRecDepth 100000
set_option linter.unusedVariables false
set_option linter.unusedSimpArgs false
set_option linter.constructorNameAsVariable false
namespace Go.Proofs.Ytefehcmhdiifnaa.leaseNext.Code
open Go Go.Am
abbrev Node := List Int × Int × Int × Unit
abbrev Task := Int × Int × Int × Int × Int × Unit
abbrev Run := Int × ByteArray × (List Node × Unit) × Int × List Task × Unit

/-! The reference's limits: total. -/
theorem f10 (ns : List Node) (hn : ns.length ≤ 9223372036854775807) : ∃ b, F10 ((ns, ()), ()) = some (b, ()) := by
  have hloop := loopF_list0 (st := L10_1000640t) ns (dft sNode) (fun i (_ : Unit) => ((i : Int), ns, ())) (fun _ => .inr (ns, ())) (fun i t _ => bif decide ((t.1.length : Int) > Int.ofNat 60) then .inr (.inl (true, ns, ())) else .inl ())
    (fun i a hi => by
      simp only [L10_1000640t, L10_1000640s0, rg_lt hi, rg_in hi, rg_nat hi, cond_true]
      exact br_match _ _ _ _ (fun _ => rfl) (fun _ => by rw [rg_wrap (by omega)]))
    (fun a => by simp only [L10_1000640t, L10_1000640s0, rg_end, cond_false]) ()
  simp only [F10]
  cases decide (((ns.length : Nat) : Int) > Int.ofNat 60)
  · simp only [cond_false, L10_1000640]
    rw [show ((Int.ofNat 0, ns, ()) : Int × List Node × Unit) = (((0 : Nat) : Int), ns, ()) from rfl]
    rw [hloop]
    simp only [Option.bind_some]
    split <;> exact ⟨_, rfl⟩
  · exact ⟨_, rfl⟩
theorem f65 (r : Run) (hn : r.2.2.1.1.length ≤ 9223372036854775807) : ∃ b, F65 (r, ()) = some (b, ()) := by
  obtain ⟨b, hb⟩ := f10 r.2.2.1.1 hn
  simp only [F65, hb, Option.bind_some]
  cases b
  · simp only [cond_false]
    cases decide ((r.2.2.2.2.1.length : Int) > Int.ofNat 60) <;> exact ⟨_, rfl⟩
  · exact ⟨_, rfl⟩
theorem f29 (l : List Run) (hl : l.length ≤ 9223372036854775807) (hr : ∀ r ∈ l, r.2.2.1.1.length ≤ 9223372036854775807) : ∃ b, F29 (l, ()) = some (b, ()) := by
  simp only [F29]
  cases decide ((l.length : Int) > Int.ofNat 60)
  · obtain ⟨y, hy, _⟩ := loopF_hoare (st := L29_1001856t) (fun x => l.length - x.2.1.toNat) (fun x => ∃ i : Nat, x = (l, (i : Int), ()) ∧ i ≤ l.length) (fun _ => True) (fun x hx => by
      obtain ⟨i, rfl, hi⟩ := hx
      rcases Nat.lt_or_ge i l.length with h | h
      · obtain ⟨b, hb⟩ := f65 (l.getD i (dft sRun)) (hr _ (by rw [List.getD_eq_getElem?_getD, List.getElem?_eq_getElem h]; exact List.getElem_mem h))
        simp only [L29_1001856t, L29_1001856s0, rg_lt h, rg_in h, rg_nat h, cond_true]
        have hb' : F65 (((l.getD ((i : Int).toNat) (dft sRun)).1, ((l.getD ((i : Int).toNat) (dft sRun)).2.1, (((l.getD ((i : Int).toNat) (dft sRun)).2.2.1.1, ()), ((l.getD ((i : Int).toNat) (dft sRun)).2.2.2.1, ((l.getD ((i : Int).toNat) (dft sRun)).2.2.2.2.1, ()))))), ()) = some (b, ()) := hb
        rw [hb']
        simp only [Option.bind_some]
        cases b
        · refine .inl ⟨_, rfl, ⟨i + 1, by rw [rg_wrap (by omega)], h⟩, ?_⟩
          rw [rg_wrap (by omega)]
          simp only [Int.toNat_natCast]
          omega
        · exact .inr ⟨_, rfl, trivial⟩
      · have : i = l.length := by omega
        subst this
        exact .inr ⟨.inr (), by simp only [L29_1001856t, L29_1001856s0, rg_end, cond_false], trivial⟩) (l, ((0 : Nat) : Int), ()) ⟨0, rfl, by omega⟩
    have hy' : L29_1001856 (l, Int.ofNat 0, ()) = some y := hy
    simp only [cond_false, hy', Option.bind_some]
    cases y <;> exact ⟨_, rfl⟩
  · exact ⟨_, rfl⟩

/-! Is a number in a list? -/
theorem idx_fold (v : Int) : ∀ (l : List Int) (i : Nat), (∃ j : Nat, i ≤ j ∧ foldE (A := Unit) (fun i t _ => bif v == t then .inr (.inl ((i : Int), ())) else .inl ()) (fun _ => .inr ()) i l () = (.inl ((j : Int), ()) : (Int × Unit) ⊕ Unit) ∧ v ∈ l) ∨
    (foldE (A := Unit) (fun i t _ => bif v == t then .inr (.inl ((i : Int), ())) else .inl ()) (fun _ => .inr ()) i l () = (.inr () : (Int × Unit) ⊕ Unit) ∧ v ∉ l)
  | [], i => .inr ⟨rfl, by simp⟩
  | t :: l, i => by
    simp only [foldE]
    cases hv : v == t
    · simp only [cond_false]
      have hne : v ≠ t := by simpa using hv
      rcases idx_fold v l (i + 1) with ⟨j, h1, h2, h3⟩ | ⟨h1, h2⟩
      · exact .inl ⟨j, by omega, h2, List.mem_cons_of_mem _ h3⟩
      · exact .inr ⟨h1, by simp [hne, h2]⟩
    · simp only [cond_true]
      have : v = t := by simpa using hv
      exact .inl ⟨i, Nat.le_refl _, rfl, by simp [this]⟩
theorem f161 (l : List Int) (v : Int) (hl : l.length ≤ 9223372036854775807) : F161 (l, v, ()) = some (decide (v ∈ l), ()) := by
  have hloop := loopF_list0 (st := L175_1011200t) l (dft (Sh.i IntKind.u8)) (fun i (_ : Unit) => (l, v, (l.length : Int), (i : Int), ())) (fun _ => .inr ()) (fun i t _ => bif v == t then .inr (.inl ((i : Int), ())) else .inl ())
    (fun i a hi => by
      simp only [L175_1011200t, L175_1011200s0, rg_lt hi, rg_in hi, rg_nat hi, cond_true]
      exact br_match _ _ _ _ (fun _ => rfl) (fun _ => by rw [rg_wrap (by omega)]))
    (fun a => by simp only [L175_1011200t, L175_1011200s0, rg_end, cond_false]) ()
  have hl0 : L175_1011200 (l, v, (l.length : Int), Int.ofNat 0, ()) = some (foldE (A := Unit) (fun i t _ => bif v == t then .inr (.inl ((i : Int), ())) else .inl ()) (fun _ => .inr ()) 0 l ()) := hloop
  simp only [F161, F175, hl0, Option.bind_some]
  rcases idx_fold v l 0 with ⟨j, _, h2, h3⟩ | ⟨h1, h2⟩
  · rw [h2]
    simp only [Option.bind_some, h3, decide_true]
    rw [decide_eq_true (show (j : Int) ≥ Int.ofNat 0 from Int.natCast_nonneg j)]
  · rw [h1]
    simp only [Option.bind_some, h2, decide_false]
    rfl
theorem f131 (t : Task) (l : List Int) (hl : l.length ≤ 9223372036854775807) : F131 (t, l, ()) = some (decide (t.1 ∈ l), ()) := by
  simp only [F131, f161 l t.1 hl, Option.bind_some]
theorem eN (r : Node) : (r.1, r.2.1, r.2.2.1, ()) = r := rfl
theorem eT (r : Task) : (r.1, r.2.1, r.2.2.1, r.2.2.2.1, r.2.2.2.2.1, ()) = r := rfl
theorem eR (r : Run) : (r.1, r.2.1, (r.2.2.1.1, ()), r.2.2.2.1, r.2.2.2.2.1, ()) = r := rfl
/-- The way out of 'is there one', told by what it says alone. -/
def found {Y Z : Type} : (Int × Y) ⊕ Z → Bool
  | .inl y => decide (y.1 ≥ Int.ofNat 0)
  | .inr _ => false
theorem neg_ge : decide (Int.negSucc 0 ≥ Int.ofNat 0) = false := by decide
theorem nat_ge (i : Nat) : decide ((i : Int) ≥ Int.ofNat 0) = true := decide_eq_true (Int.natCast_nonneg i)
theorem f104 (r : Run) (l : List Int) (hl : l.length ≤ 9223372036854775807) (hr : r.2.2.2.2.1.length ≤ 9223372036854775807) : F104 (r, l, ()) = some (decide (∀ t ∈ r.2.2.2.2.1, t.1 ∈ l), ()) := by
  obtain ⟨id, key, ⟨ns, _⟩, state, ts, _⟩ := r
  simp only at hr
  obtain ⟨y, hy, hq⟩ := rng_hoare (st := L104_1010240t) ts.length (fun i (_ : Unit) => (ts, (ts.length : Int), (i : Int), l, id, key, ns, state, ts, ())) (fun i _ => ∀ t ∈ ts.take i, t.1 ∈ l)
    (fun y => found y = !decide (∀ t ∈ ts, t.1 ∈ l)) (fun i _ h hx => by
      simp only [L104_1010240t, L104_1010240s0, rg_lt h, rg_in h, rg_ltn h, Int.toNat_natCast, cond_true, eT, f131 _ l hl, Option.bind_some, Bool.not_true, Bool.not_false]
      by_cases hm : (ts.getD i (dft sTask)).1 ∈ l
      · rw [decide_eq_true hm]
        refine .inl ⟨(), by rw [rg_wrap (by omega)]; rfl, fun t ht => ?_⟩
        rcases mem_take_succ h (dft sTask) ht with h1 | h1
        · exact hx t h1
        · rw [h1]; exact hm
      · rw [decide_eq_false hm]
        refine .inr ⟨_, rfl, ?_⟩
        simp only [found]
        rw [nat_ge, decide_eq_false (fun hall => hm (hall _ (getD_mem h _)))]
        rfl) (fun _ hx => ⟨.inr (l, id, key, ns, state, ts, ()), by simp only [L104_1010240t, L104_1010240s0, rg_end, cond_false], by
        rw [List.take_length] at hx
        simp only [found]
        rw [decide_eq_true hx]
        rfl⟩) () (by simp)
  have hy' : L104_1010240 (ts, (ts.length : Int), Int.ofNat 0, l, id, key, ns, state, ts, ()) = some y := hy
  simp only [F104, hy', Option.bind_some]
  cases y with
  | inl a =>
    simp only [found] at hq
    simp only [hq, Bool.not_not]
  | inr b =>
    simp only [found] at hq
    have : decide (∀ t ∈ ts, t.1 ∈ l) = true := by simpa using hq
    rw [this]
    rfl
theorem f105 (r : Run) (l : List Int) (hl : l.length ≤ 9223372036854775807) (hr : r.2.2.2.2.1.length ≤ 9223372036854775807) : F105 (r, l, ()) = some (decide (∃ t ∈ r.2.2.2.2.1, t.1 ∈ l), ()) := by
  obtain ⟨id, key, ⟨ns, _⟩, state, ts, _⟩ := r
  simp only at hr
  obtain ⟨y, hy, hq⟩ := rng_hoare (st := L105_1010240t) ts.length (fun i (_ : Unit) => (ts, (ts.length : Int), (i : Int), l, id, key, ns, state, ts, ())) (fun i _ => ∀ t ∈ ts.take i, t.1 ∉ l)
    (fun y => found y = decide (∃ t ∈ ts, t.1 ∈ l)) (fun i _ h hx => by
      simp only [L105_1010240t, L105_1010240s0, rg_lt h, rg_in h, rg_ltn h, Int.toNat_natCast, cond_true, eT, f131 _ l hl, Option.bind_some, Bool.not_true, Bool.not_false]
      by_cases hm : (ts.getD i (dft sTask)).1 ∈ l
      · rw [decide_eq_true hm]
        refine .inr ⟨_, rfl, ?_⟩
        simp only [found]
        rw [nat_ge, decide_eq_true ⟨_, getD_mem h _, hm⟩]
      · rw [decide_eq_false hm]
        refine .inl ⟨(), by rw [rg_wrap (by omega)]; rfl, fun t ht => ?_⟩
        rcases mem_take_succ h (dft sTask) ht with h1 | h1
        · exact hx t h1
        · rw [h1]; exact hm) (fun _ hx => ⟨.inr (l, id, key, ns, state, ts, ()), by simp only [L105_1010240t, L105_1010240s0, rg_end, cond_false], by
        rw [List.take_length] at hx
        simp only [found]
        rw [decide_eq_false (fun ⟨t, h1, h2⟩ => hx t h1 h2)]⟩) () (by simp)
  have hy' : L105_1010240 (ts, (ts.length : Int), Int.ofNat 0, l, id, key, ns, state, ts, ()) = some y := hy
  simp only [F105, hy', Option.bind_some]
  cases y with
  | inl a =>
    simp only [found] at hq
    simp only [hq]
  | inr b =>
    simp only [found] at hq
    rw [neg_ge, hq]
def InR (n : Nat) (l : List Int) : Prop := ∀ v ∈ l, 0 ≤ v ∧ v < n
theorem f103 (r : Run) (nd : Node) (hn : nd.1.length ≤ 9223372036854775807) (hr : InR r.2.2.2.2.1.length nd.1) : ∃ b, F103 (r, nd, ()) = some (b, ()) := by
  obtain ⟨id, key, ⟨ns, _⟩, state, ts, _⟩ := r
  obtain ⟨l, n1, n2, _⟩ := nd
  simp only at hr hn
  obtain ⟨y, hy, hq⟩ := rng_hoare (st := L103_1010176t) l.length (fun i (_ : Unit) => (l, (l.length : Int), (i : Int), l, n1, n2, id, key, ns, state, ts, ())) (fun i _ => True)
    (fun y => True) (fun i _ h hx => by
      have hv := hr _ (getD_mem h (dft (.i .i64)))
      have hw : within 0 (l.getD i (dft (.i .i64))) ((ts.length : Int) - 1) = true := by simp only [within, Bool.and_eq_true, decide_eq_true_eq]; omega
      have hd : decide ((l.getD i (dft (.i .i64))).toNat < ts.length) = true := decide_eq_true (by omega)
      simp only [L103_1010176t, L103_1010176s0, rg_lt h, rg_in h, rg_ltn h, cond_true, Int.toNat_natCast, hw, hd]
      cases ((ts.getD (l.getD i (dft (.i .i64))).toNat (dft sTask)).1 != Int.ofNat 4)
      · exact .inl ⟨(), by rw [rg_wrap (by omega)]; rfl, trivial⟩
      · exact .inr ⟨_, rfl, trivial⟩) (fun _ hx => ⟨.inr (l, n1, n2, id, key, ns, state, ts, ()), by simp only [L103_1010176t, L103_1010176s0, rg_end, cond_false], trivial⟩) () trivial
  have hy' : L103_1010176 (l, (l.length : Int), Int.ofNat 0, l, n1, n2, id, key, ns, state, ts, ()) = some y := hy
  simp only [F103, hy', Option.bind_some]
  cases y <;> exact ⟨_, rfl⟩
/-- What a node may be told: its needs lie among so many. -/
def NdR (n : Nat) (ns : List Node) : Prop := ∀ nd ∈ ns, InR n nd.1 ∧ nd.1.length ≤ 9223372036854775807
theorem f72 (r : Run) (hns : r.2.2.1.1.length = r.2.2.2.2.1.length) (ht : r.2.2.2.2.1.length ≤ 9223372036854775807) (hr : NdR r.2.2.2.2.1.length r.2.2.1.1) : ∃ b, F72 (r, ()) = some (b, ()) ∧ (b = true → r.2.2.2.1 = 1 ∨ ∀ t ∈ r.2.2.2.2.1, t.1 ≠ 1) := by
  obtain ⟨id, key, ⟨ns, _⟩, state, ts, _⟩ := r
  simp only at hr hns ht
  obtain ⟨y, hy, hq⟩ := rng_hoare (st := L72_1004608t) ns.length (fun i (_ : Unit) => (ns, (ns.length : Int), (i : Int), id, key, ns, state, ts, ())) (fun i _ => True)
    (fun y => ∀ b, y = .inr b → b = (id, key, ns, state, ts, ())) (fun i _ h hx => by
      have hv := hr _ (getD_mem h (dft sNode))
      obtain ⟨b, hb⟩ := f103 (id, key, (ns, ()), state, ts, ()) (ns.getD i (dft sNode)) hv.2 hv.1
      simp only [L72_1004608t, L72_1004608s0, rg_lt h, rg_in h, rg_ltn h, cond_true, Int.toNat_natCast, eN, hb, Option.bind_some, rg_in (hns ▸ h : i < ts.length), rg_ltn (hns ▸ h : i < ts.length)]
      generalize (if false = true then !b == ((ts.getD i (dft sTask)).1 == Int.ofNat 0) else b == ((ts.getD i (dft sTask)).1 == Int.ofNat 0)) = c
      cases c
      · exact .inl ⟨(), by rw [rg_wrap (by omega)]; rfl, trivial⟩
      · exact .inr ⟨_, rfl, by intro b hb; cases hb⟩) (fun _ hx => ⟨.inr (id, key, ns, state, ts, ()), by simp only [L72_1004608t, L72_1004608s0, rg_end, cond_false], by intro b hb; cases hb; rfl⟩) () trivial
  have hy' : L72_1004608 (ns, (ns.length : Int), Int.ofNat 0, id, key, ns, state, ts, ()) = some y := hy
  have g4 : ∀ l : List Int, l.length ≤ 3 → _ := fun l hl => f104 (id, key, (ns, ()), state, ts, ()) l (by omega) ht
  have g5 : ∀ l : List Int, l.length ≤ 3 → _ := fun l hl => f105 (id, key, (ns, ()), state, ts, ()) l (by omega) ht
  have no1 : ∀ l : List Int, 1 ∉ l → (decide (∀ t ∈ ts, t.1 ∈ l)) = true → ∀ t ∈ ts, t.1 ≠ 1 := fun l h1 h2 t h3 h4 => h1 (h4 ▸ of_decide_eq_true h2 t h3)
  simp only [F72, hy', Option.bind_some]
  rcases hs : state == Int.ofNat 1 with _ | _
  · simp only [cond_false]
    cases state == Int.ofNat 2
    · simp only [cond_false]
      cases state == Int.ofNat 3
      · simp only [cond_false]
        cases state == Int.ofNat 4
        · exact ⟨_, rfl, fun h => nomatch h⟩
        · simp (disch := decide) only [cond_true, g5, Option.bind_some]
          cases decide (∃ t ∈ ts, t.1 ∈ List.take ((List.replicate 1 (Int.ofNat 0)).set 0 (Int.ofNat 6)).length (List.drop 0 ((List.replicate 1 (Int.ofNat 0)).set 0 (Int.ofNat 6))))
          · exact ⟨_, rfl, fun h => nomatch h⟩
          · simp (disch := decide) only [cond_true, g4, Option.bind_some]
            exact ⟨_, rfl, fun h => .inr (no1 _ (by decide) h)⟩
      · simp (disch := decide) only [cond_true, g5, Option.bind_some]
        cases decide (∃ t ∈ ts, t.1 ∈ List.take ((List.replicate 1 (Int.ofNat 0)).set 0 (Int.ofNat 5)).length (List.drop 0 ((List.replicate 1 (Int.ofNat 0)).set 0 (Int.ofNat 5))))
        · exact ⟨_, rfl, fun h => nomatch h⟩
        · simp (disch := decide) only [cond_true, g4, Option.bind_some]
          exact ⟨_, rfl, fun h => .inr (no1 _ (by decide) h)⟩
    · simp (disch := decide) only [cond_true, g4, Option.bind_some]
      exact ⟨_, rfl, fun h => .inr (no1 _ (by decide) h)⟩
  · simp only [cond_true]
    have h1 : state = 1 := by simpa using hs
    cases y with
    | inl a => exact ⟨_, rfl, fun _ => .inl h1⟩
    | inr b =>
      have := hq b rfl
      subst this
      simp (disch := decide) only [g4, Option.bind_some]
      cases !decide (∀ t ∈ ts, t.1 ∈ List.take ((List.replicate 1 (Int.ofNat 0)).set 0 (Int.ofNat 4)).length (List.drop 0 ((List.replicate 1 (Int.ofNat 0)).set 0 (Int.ofNat 4))))
      · exact ⟨_, rfl, fun h => .inl h1⟩
      · simp (disch := decide) only [cond_true, g5, Option.bind_some]
        exact ⟨_, rfl, fun _ => .inl h1⟩

/-! The graph's check: total; where it says yes, the needs lie among the nodes. -/
theorem f100 (i n : Int) (nd : Node) (hn : nd.1.length ≤ 9223372036854775807) : ∃ b, F100 (i, n, nd, ()) = some (b, ()) ∧ (b = true → ∀ v ∈ nd.1, 0 ≤ v ∧ v < n) := by
  obtain ⟨l, n1, n2, _⟩ := nd
  simp only at hn
  obtain ⟨y, hy, hq⟩ := rng_hoare (st := L100_1006400t) l.length (fun j (p : Int) => (i, n, p, l, (l.length : Int), (j : Int), ())) (fun j p => -1 ≤ p ∧ ∀ v ∈ l.take j, 0 ≤ v ∧ v < n)
    (fun y => (∀ a, y = .inl a → a = (false, ())) ∧ (∀ b, y = .inr b → ∀ v ∈ l, 0 ≤ v ∧ v < n)) (fun j p h hx => by
      simp only [L100_1006400t, L100_1006400s0, rg_lt h, rg_in h, rg_ltn h, cond_true, Int.toNat_natCast]
      by_cases h1 : l.getD j (dft (Sh.i IntKind.i64)) ≤ p
      · rw [decide_eq_true h1]
        exact .inr ⟨_, rfl, fun a ha => by cases ha; rfl, fun b hb => by cases hb⟩
      · rw [decide_eq_false h1]
        by_cases h2 : l.getD j (dft (Sh.i IntKind.i64)) ≥ n
        · rw [decide_eq_true h2]
          exact .inr ⟨_, rfl, fun a ha => by cases ha; rfl, fun b hb => by cases hb⟩
        · rw [decide_eq_false h2]
          cases (l.getD j (dft (Sh.i IntKind.i64)) == i)
          · refine .inl ⟨l.getD j (dft (Sh.i IntKind.i64)), by rw [rg_wrap (by omega)]; rfl, by omega, fun v hv => ?_⟩
            rcases mem_take_succ h (dft (Sh.i IntKind.i64)) hv with h3 | h3
            · exact hx.2 v h3
            · rw [h3]; omega
          · exact .inr ⟨_, rfl, fun a ha => by cases ha; rfl, fun b hb => by cases hb⟩)
    (fun p hx => ⟨.inr (), by simp only [L100_1006400t, L100_1006400s0, rg_end, cond_false], fun a ha => (by cases ha), fun b hb v hv => hx.2 v (by rw [List.take_length]; exact hv)⟩) (-1) ⟨by omega, by simp⟩
  have hy' : L100_1006400 (i, n, Int.negSucc 0, l, (l.length : Int), Int.ofNat 0, ()) = some y := hy
  simp only [F100, hy', Option.bind_some]
  cases decide (n1 < Int.ofNat 1)
  · cases decide (n1 > Int.ofNat 5)
    · cases decide (n2 < Int.ofNat 0)
      · cases decide (n2 > Int.ofNat 1048576)
        · cases y with
          | inl a => have := hq.1 a rfl; subst this; exact ⟨_, rfl, fun h => nomatch h⟩
          | inr b => exact ⟨_, rfl, fun _ => hq.2 b rfl⟩
        · exact ⟨_, rfl, fun h => nomatch h⟩
      · exact ⟨_, rfl, fun h => nomatch h⟩
    · exact ⟨_, rfl, fun h => nomatch h⟩
  · exact ⟨_, rfl, fun h => nomatch h⟩
abbrev Arr := List Bool
theorem cell_ok {a : Arr} (ha : a.length = 144) {i j : Nat} (hi : i < 12) (hj : j < 12) : (decide (0 + i * 12 + j * 1 < a.length) && decide (144 = a.length)) = true := by
  rw [ha]; simp; omega
theorem in12 {i : Nat} (h : i < 12) : within 0 (i : Int) ((↑12 : Int) - 1) = true := by simp [within]; omega
theorem l486 (n : Nat) (hn : n ≤ 12) (a : Arr) (ha : a.length = 144) : ∃ y, L70_1004486 ((n : Int), Int.ofNat 0, a, ()) = some y := by
  obtain ⟨y, hy, _⟩ := rng_hoare (st := L70_1004486t) n (fun i (_ : Unit) => ((n : Int), (i : Int), a, ())) (fun _ _ => True) (fun _ => True) (fun i _ h hx => by
      have hi : i < 12 := by omega
      simp only [L70_1004486t, L70_1004486s0, rg_lt h, in12 hi, cond_true, Int.toNat_natCast, cell_ok ha hi hi]
      cases a.getD (0 + i * 12 + i * 1) (dft Sh.b)
      · exact .inl ⟨(), by rw [rg_wrap (by omega)]; rfl, trivial⟩
      · exact .inr ⟨_, rfl, trivial⟩) (fun _ _ => ⟨.inr (a, ()), by simp only [L70_1004486t, L70_1004486s0, rg_end, cond_false], trivial⟩) () trivial
  exact ⟨y, hy⟩
theorem l485 (n k i : Nat) (hn : n ≤ 12) (hk : k < 12) (hi : i < 12) (x1 x2 x3 x4 : Int) (a : Arr) (ha : a.length = 144) : ∃ a' : Arr, L70_1004485 ((n : Int), (k : Int), (i : Int), x1, x2, x3, x4, (n : Int), Int.ofNat 0, a, ()) = some ((n : Int), (k : Int), x1, x2, x3, x4, a', ()) ∧ a'.length = 144 := by
  obtain ⟨y, hy, a', rfl, h⟩ := rng_hoare (st := L70_1004485t) n (fun j (a : Arr) => ((n : Int), (k : Int), (i : Int), x1, x2, x3, x4, (n : Int), (j : Int), a, ())) (fun _ a => a.length = 144)
    (fun y => ∃ a' : Arr, y = ((n : Int), (k : Int), x1, x2, x3, x4, a', ()) ∧ a'.length = 144) (fun j a h hx => by
      have hj : j < 12 := by omega
      simp only [L70_1004485t, L70_1004485s0, rg_lt h, in12 hi, in12 hj, in12 hk, cond_true, Int.toNat_natCast, cell_ok hx hi hj, cell_ok hx hi hk, cell_ok hx hk hj]
      rw [rg_wrap (by omega)]
      refine .inl ?_
      cases a.getD (0 + i * 12 + j * 1) (dft Sh.b)
      · cases a.getD (0 + i * 12 + k * 1) (dft Sh.b)
        · exact ⟨_, rfl, by rw [List.length_set]; exact hx⟩
        · exact ⟨_, rfl, by rw [List.length_set]; exact hx⟩
      · exact ⟨_, rfl, by rw [List.length_set]; exact hx⟩) (fun a hx => ⟨_, by simp only [L70_1004485t, L70_1004485s0, rg_end, cond_false], a, rfl, hx⟩) a ha
  exact ⟨a', hy, h⟩
theorem l484 (n k : Nat) (hn : n ≤ 12) (hk : k < 12) (x1 x2 : Int) (a : Arr) (ha : a.length = 144) : ∃ a' : Arr, L70_1004484 ((n : Int), (k : Int), x1, x2, (n : Int), Int.ofNat 0, a, ()) = some ((n : Int), x1, x2, a', ()) ∧ a'.length = 144 := by
  obtain ⟨y, hy, a', rfl, h⟩ := rng_hoare (st := L70_1004484t) n (fun j (a : Arr) => ((n : Int), (k : Int), x1, x2, (n : Int), (j : Int), a, ())) (fun _ a => a.length = 144)
    (fun y => ∃ a' : Arr, y = ((n : Int), x1, x2, a', ()) ∧ a'.length = 144) (fun j a h hx => by
      obtain ⟨a', h1, h2⟩ := l485 n k j hn hk (by omega) x1 x2 (n : Int) (j : Int) a hx
      simp only [L70_1004484t, L70_1004484s0, rg_lt h, cond_true, h1, Option.bind_some]
      rw [rg_wrap (by omega)]
      exact .inl ⟨a', rfl, h2⟩) (fun a hx => ⟨_, by simp only [L70_1004484t, L70_1004484s0, rg_end, cond_false], a, rfl, hx⟩) a ha
  exact ⟨a', hy, h⟩
theorem l483 (n : Nat) (hn : n ≤ 12) (a : Arr) (ha : a.length = 144) : ∃ a' : Arr, L70_1004483 ((n : Int), (n : Int), Int.ofNat 0, a, ()) = some ((n : Int), a', ()) ∧ a'.length = 144 := by
  obtain ⟨y, hy, a', rfl, h⟩ := rng_hoare (st := L70_1004483t) n (fun j (a : Arr) => ((n : Int), (n : Int), (j : Int), a, ())) (fun _ a => a.length = 144)
    (fun y => ∃ a' : Arr, y = ((n : Int), a', ()) ∧ a'.length = 144) (fun j a h hx => by
      obtain ⟨a', h1, h2⟩ := l484 n j hn (by omega) (n : Int) (j : Int) a hx
      simp only [L70_1004483t, L70_1004483s0, rg_lt h, cond_true, h1, Option.bind_some]
      rw [rg_wrap (by omega)]
      exact .inl ⟨a', rfl, h2⟩) (fun a hx => ⟨_, by simp only [L70_1004483t, L70_1004483s0, rg_end, cond_false], a, rfl, hx⟩) a ha
  exact ⟨a', hy, h⟩
theorem l482 (n i : Nat) (hn : n ≤ 12) (hi : i < 12) (ns : List Node) (x1 x2 : Int) (l : List Int) (hl : l.length ≤ 9223372036854775807) (hr : InR n l) (a : Arr) (ha : a.length = 144) : ∃ a' : Arr, L70_1004482 ((n : Int), (i : Int), ns, x1, x2, l, (l.length : Int), Int.ofNat 0, a, ()) = some ((n : Int), ns, x1, x2, a', ()) ∧ a'.length = 144 := by
  obtain ⟨y, hy, a', rfl, h⟩ := rng_hoare (st := L70_1004482t) l.length (fun j (a : Arr) => ((n : Int), (i : Int), ns, x1, x2, l, (l.length : Int), (j : Int), a, ())) (fun _ a => a.length = 144)
    (fun y => ∃ a' : Arr, y = ((n : Int), ns, x1, x2, a', ()) ∧ a'.length = 144) (fun j a h hx => by
      have hv := hr _ (getD_mem h (dft (Sh.i IntKind.i64)))
      obtain ⟨v, hv2⟩ : ∃ v : Nat, l.getD j (dft (Sh.i IntKind.i64)) = (v : Int) := ⟨(l.getD j (dft (Sh.i IntKind.i64))).toNat, by omega⟩
      have hv3 : v < 12 := by omega
      simp only [L70_1004482t, L70_1004482s0, rg_lt h, rg_in h, rg_ltn h, in12 hi, cond_true, Int.toNat_natCast, hv2, in12 hv3, cell_ok hx hi hv3]
      rw [rg_wrap (by omega)]
      exact .inl ⟨_, rfl, by rw [List.length_set]; exact hx⟩) (fun a hx => ⟨_, by simp only [L70_1004482t, L70_1004482s0, rg_end, cond_false], a, rfl, hx⟩) a ha
  exact ⟨a', hy, h⟩
theorem l481 (n : Nat) (hn : n ≤ 12) (ns : List Node) (hl : ns.length = n) (hr : NdR n ns) (a : Arr) (ha : a.length = 144) : ∃ a' : Arr, L70_1004481 ((n : Int), ns, (ns.length : Int), Int.ofNat 0, a, ()) = some ((n : Int), a', ()) ∧ a'.length = 144 := by
  obtain ⟨y, hy, a', rfl, h⟩ := rng_hoare (st := L70_1004481t) ns.length (fun j (a : Arr) => ((n : Int), ns, (ns.length : Int), (j : Int), a, ())) (fun _ a => a.length = 144)
    (fun y => ∃ a' : Arr, y = ((n : Int), a', ()) ∧ a'.length = 144) (fun j a h hx => by
      have hv := hr _ (getD_mem h (dft sNode))
      obtain ⟨a', h1, h2⟩ := l482 n j hn (by omega) ns (ns.length : Int) (j : Int) _ hv.2 hv.1 a hx
      simp only [L70_1004481t, L70_1004481s0, rg_lt h, rg_in h, rg_ltn h, cond_true, Int.toNat_natCast, h1, Option.bind_some]
      rw [rg_wrap (by omega)]
      exact .inl ⟨a', rfl, h2⟩) (fun a hx => ⟨_, by simp only [L70_1004481t, L70_1004481s0, rg_end, cond_false], a, rfl, hx⟩) a ha
  exact ⟨a', hy, h⟩
theorem l480 (n : Nat) (ns : List Node) (hl : ns.length = n) (hn : n ≤ 12) (hr : ∀ nd ∈ ns, nd.1.length ≤ 9223372036854775807) : ∃ y, L70_1004480 ((n : Int), ns, (ns.length : Int), Int.ofNat 0, ns, ()) = some y ∧ (∀ b, y = .inr b → b = ((n : Int), ns, ()) ∧ NdR n ns) ∧ (∀ a, y = .inl a → a.1 = 230) := by
  obtain ⟨y, hy, h⟩ := rng_hoare (st := L70_1004480t) ns.length (fun j (_ : Unit) => ((n : Int), ns, (ns.length : Int), (j : Int), ns, ())) (fun j _ => NdR n (ns.take j))
    (fun y => (∀ b, y = .inr b → b = ((n : Int), ns, ()) ∧ NdR n ns) ∧ (∀ a, y = .inl a → a.1 = 230)) (fun j a h hx => by
      obtain ⟨b, h1, h2⟩ := f100 (j : Int) (n : Int) _ (hr _ (getD_mem h (dft sNode)))
      simp only [L70_1004480t, L70_1004480s0, rg_lt h, rg_in h, rg_ltn h, cond_true, Int.toNat_natCast, eN, h1, Option.bind_some]
      rw [rg_wrap (by omega)]
      cases b
      · exact .inr ⟨_, rfl, fun b hb => by (cases hb), fun a ha => by cases ha; rfl⟩
      · refine .inl ⟨(), rfl, fun nd hnd => ?_⟩
        rcases mem_take_succ h (dft sNode) hnd with h3 | h3
        · exact hx nd h3
        · rw [h3]; exact ⟨h2 rfl, hr _ (getD_mem h (dft sNode))⟩) (fun a hx => ⟨.inr ((n : Int), ns, ()), by simp only [L70_1004480t, L70_1004480s0, rg_end, cond_false], fun b hb => by cases hb; exact ⟨rfl, by rw [List.take_length] at hx; exact hx⟩, fun a ha => by cases ha⟩) () (by intro nd h; simp at h)
  exact ⟨y, hy, h⟩
theorem f70 (ns : List Node) (hr : ∀ nd ∈ ns, nd.1.length ≤ 9223372036854775807) : ∃ v, F70 ((ns, ()), ()) = some (v, ()) ∧ (v = 0 → ns.length ≤ 12 ∧ NdR ns.length ns) := by
  simp only [F70]
  by_cases h1 : ((ns.length : Nat) : Int) < Int.ofNat 1
  · rw [decide_eq_true h1]; exact ⟨_, rfl, fun h => absurd h (by decide)⟩
  · rw [decide_eq_false h1]
    by_cases h2 : ((ns.length : Nat) : Int) > Int.ofNat 12
    · rw [decide_eq_true h2]; exact ⟨_, rfl, fun h => absurd h (by decide)⟩
    · rw [decide_eq_false h2]
      have h12 : ns.length ≤ 12 := by simp only [ofN] at h2; omega
      obtain ⟨y, hy, h3, h4⟩ := l480 ns.length ns rfl h12 hr
      simp only [cond_false, hy, Option.bind_some]
      cases y with
      | inl a => exact ⟨_, rfl, fun h => absurd ((h4 a rfl).symm.trans h) (by decide)⟩
      | inr b =>
        obtain ⟨rfl, hnd⟩ := h3 b rfl
        simp only
        obtain ⟨a1, e1, g1⟩ := l481 ns.length h12 ns rfl hnd (List.replicate 144 false) (by simp)
        have e1' := e1
        simp only [List.replicate] at e1'
        rw [e1']
        simp only [Option.bind_some]
        obtain ⟨a2, e2, g2⟩ := l483 ns.length h12 a1 g1
        rw [e2]
        simp only [Option.bind_some]
        obtain ⟨y3, e3⟩ := l486 ns.length h12 a2 g2
        rw [e3]
        simp only [Option.bind_some]
        cases y3 <;> exact ⟨_, rfl, fun _ => ⟨h12, hnd⟩⟩

/-! A run's check. -/
theorem bif_ex {c : Bool} {p q : Option (Bool × Unit)} (h1 : ∃ b, p = some (b, ())) (h2 : ∃ b, q = some (b, ())) : ∃ b, (bif c then p else q) = some (b, ()) := by cases c <;> assumption
theorem bind_ex {A : Type} {p : Option A} {f : A → Option (Bool × Unit)} (h1 : ∃ a, p = some a) (h2 : ∀ a, ∃ b, f a = some (b, ())) : ∃ b, p.bind f = some (b, ()) := by
  obtain ⟨a, rfl⟩ := h1; exact h2 a
theorem f125 (n : Int) : ∃ b, F125 (n, ()) = some b := by simp only [F125]; cases decide (n ≥ Int.ofNat 0) <;> exact ⟨_, rfl⟩
theorem f126 (n : Int) : ∃ b, F126 (n, ()) = some b := by simp only [F126]; cases decide (n ≥ Int.ofNat 0) <;> exact ⟨_, rfl⟩
theorem f101 (nd : Node) : ∃ b, F101 (nd, ()) = some (b, ()) := by
  simp only [F101]
  repeat' first | exact ⟨_, rfl⟩ | apply bif_ex
theorem f102 (nd : Node) (t : Task) : ∃ b, F102 (nd, t, ()) = some (b, ()) := by
  simp only [F102]
  repeat' first | exact ⟨_, rfl⟩ | apply bif_ex | (apply bind_ex (f125 _); intro _) | (apply bind_ex (f126 _); intro _)
theorem f71 (nd : Node) (t : Task) : ∃ v, F71 (nd, t, ()) = some (v, ()) := by
  obtain ⟨b1, h1⟩ := f101 nd
  obtain ⟨b2, h2⟩ := f102 nd t
  simp only [F71, eN, eT, h1, h2, Option.bind_some]
  cases b1 <;> cases b2 <;> exact ⟨_, rfl⟩
/-- What is known of a run that was read. -/
def OkR (r : Run) : Prop := r.2.2.1.1.length ≤ 9223372036854775807 ∧ (∀ nd ∈ r.2.2.1.1, nd.1.length ≤ 9223372036854775807) ∧ r.2.2.2.2.1.length ≤ 9223372036854775807
theorem f36 (r : Run) (hr : OkR r) : ∃ v, F36 (r, ()) = some (v, ()) ∧ (v = 0 → r.2.2.2.1 = 1 ∨ ∀ t ∈ r.2.2.2.2.1, t.1 ≠ 1) := by
  obtain ⟨id, key, ⟨ns, _⟩, state, ts, _⟩ := r
  obtain ⟨hr1, hr2, hr3⟩ := hr
  simp only at hr1 hr2 hr3
  have ne8 : ∀ p : Prop, (Int.ofNat 8 = 0 → p) := fun p h => absurd h (by decide)
  simp only [F36]
  cases decide (id < Int.ofNat 0)
  · cases decide (id > Int.ofNat 1099511627776)
    · cases decide ((key.size : Int) < Int.ofNat 1)
      · cases decide ((key.size : Int) > Int.ofNat 24)
        · obtain ⟨v, hv, hv0⟩ := f70 ns hr2
          simp only [cond_false, hv, Option.bind_some]
          by_cases hz : v = 0
          · obtain ⟨h12, hnd⟩ := hv0 hz
            rw [show (v != Int.ofNat 0) = false by rw [hz]; rfl]
            simp only [cond_false]
            rcases hlen : ((ts.length : Int) != (ns.length : Int)) with _ | _
            · have hl : ns.length = ts.length := by
                have : (ts.length : Int) = (ns.length : Int) := by simpa using hlen
                omega
              obtain ⟨y, hy, hq1, hq2⟩ := rng_hoare (st := L36_1002304t) ns.length (fun i (_ : Unit) => (ns, (ns.length : Int), (i : Int), id, key, ns, state, ts, ())) (fun i _ => True)
                (fun y => (∀ b, y = .inr b → b = (id, key, ns, state, ts, ())) ∧ (∀ a, y = .inl a → a.1 = Int.ofNat 8)) (fun i _ h hx => by
                  obtain ⟨v, hv⟩ := f71 (ns.getD i (dft sNode)) (ts.getD i (dft sTask))
                  simp only [L36_1002304t, L36_1002304s0, rg_lt h, rg_in h, rg_ltn h, cond_true, Int.toNat_natCast, eN, eT, hv, Option.bind_some, rg_in (hl ▸ h : i < ts.length), rg_ltn (hl ▸ h : i < ts.length)]
                  rw [rg_wrap (by omega)]
                  cases (v != Int.ofNat 0)
                  · exact .inl ⟨(), rfl, trivial⟩
                  · exact .inr ⟨_, rfl, fun b hb => (by cases hb), fun a ha => by cases ha; rfl⟩) (fun _ hx => ⟨.inr (id, key, ns, state, ts, ()), by simp only [L36_1002304t, L36_1002304s0, rg_end, cond_false], fun b hb => (by cases hb; rfl), fun a ha => by cases ha⟩) () trivial
              have hy' : L36_1002304 (ns, (ns.length : Int), Int.ofNat 0, id, key, ns, state, ts, ()) = some y := hy
              simp only [cond_false, hy', Option.bind_some]
              cases y with
              | inl a => exact ⟨_, rfl, fun h => absurd ((hq2 a rfl).symm.trans h) (by decide)⟩
              | inr b =>
                have := hq1 b rfl
                subst this
                obtain ⟨b, hb, hb2⟩ := f72 (id, key, (ns, ()), state, ts, ()) hl hr3 (by simp only; rw [← hl]; exact hnd)
                simp only [hb, Option.bind_some]
                cases b
                · exact ⟨_, rfl, ne8 _⟩
                · exact ⟨_, rfl, fun _ => hb2 rfl⟩
            · exact ⟨_, rfl, ne8 _⟩
          · rw [show (v != Int.ofNat 0) = true by simpa using hz]
            exact ⟨_, rfl, ne8 _⟩
        · exact ⟨_, rfl, ne8 _⟩
      · exact ⟨_, rfl, ne8 _⟩
    · exact ⟨_, rfl, ne8 _⟩
  · exact ⟨_, rfl, ne8 _⟩

/-! The whole check. -/
def rdyT (ts : List Task) : List Int := (ts.filter (fun t => t.1 == Int.ofNat 1)).map (fun t => t.2.2.2.2.1)
def rdy (rs : List Run) : List Int := rs.flatMap (fun r => rdyT r.2.2.2.2.1)
theorem rdyT_succ {ts : List Task} {j : Nat} (h : j < ts.length) (d : Task) : rdyT (ts.take (j + 1)) = rdyT (ts.take j) ++ (bif (ts.getD j d).1 == Int.ofNat 1 then [(ts.getD j d).2.2.2.2.1] else []) := by
  rw [List.take_succ_eq_append_getElem h, getD_get h]
  simp only [rdyT, List.filter_append, List.map_append, List.filter_cons, List.filter_nil]
  cases ts[j].1 == Int.ofNat 1 <;> rfl
theorem rdy_succ {rs : List Run} {j : Nat} (h : j < rs.length) (d : Run) : rdy (rs.take (j + 1)) = rdy (rs.take j) ++ rdyT (rs.getD j d).2.2.2.2.1 := by
  rw [List.take_succ_eq_append_getElem h, getD_get h]
  simp only [rdy, List.flatMap_append, List.flatMap_cons, List.flatMap_nil, List.append_nil]
theorem has_set {K V : Type} [BEq K] [LawfulBEq K] (v : V) (x k : K) : ∀ l : List (K × V), mapHas (mapSet l x v) k = (k == x || mapHas l k)
  | [] => by simp [mapSet, mapHas]
  | (a, w) :: l => by
    simp only [mapSet]
    by_cases h : x == a
    · have : x = a := by simpa using h
      subst this
      simp [mapHas]
    · rw [if_neg h]
      simp only [mapHas, has_set v x k l]
      cases k == a <;> cases k == x <;> rfl
abbrev Mp := List (Int × Unit)
/-- The map holds these numbers, each once. -/
def MOk (m : Mp) (l : List Int) : Prop := (∀ k, mapHas m k = true ↔ k ∈ l) ∧ l.Nodup
theorem mok_set {m : Mp} {l : List Int} {x : Int} (h : MOk m l) (hx : mapHas m x = false) : MOk (mapSet m x ()) (l ++ [x]) := by
  have hn : x ∉ l := fun h2 => by rw [(h.1 x).2 h2] at hx; cases hx
  refine ⟨fun k => ?_, ?_⟩
  · rw [has_set]
    simp only [Bool.or_eq_true, beq_iff_eq, h.1 k, List.mem_append, List.mem_singleton]
    exact Or.comm
  · rw [List.nodup_append]
    exact ⟨h.2, by simp, fun a ha b hb => by simp only [List.mem_singleton] at hb; subst hb; exact fun e => hn (e ▸ ha)⟩
theorem l40t (rs : List Run) (x1 x2 : Int) (ts : List Task) (ht : ts.length ≤ 9223372036854775807) (m1 m2 : Mp) (l : List Int) (hm : MOk m2 l) :
    ∃ y, L40_1002561 (rs, rs, x1, x2, ts, (ts.length : Int), Int.ofNat 0, m1, m2, ()) = some y ∧ ((∃ a, y = .inl a ∧ a.1 = 8) ∨ (∃ a, y = .inr (.inl a) ∧ a.1 = 8) ∨ (∃ m1' m2' : Mp, y = .inr (.inr (rs, rs, x1, x2, m1', m2', ())) ∧ MOk m2' (l ++ rdyT ts))) := by
  obtain ⟨y, hy, hq⟩ := rng_hoare (st := L40_1002561t) ts.length (fun j (a : Mp × Mp) => (rs, rs, x1, x2, ts, (ts.length : Int), (j : Int), a.1, a.2, ())) (fun j a => MOk a.2 (l ++ rdyT (ts.take j)))
    (fun y => ((∃ a, y = .inl a ∧ a.1 = 8) ∨ (∃ a, y = .inr (.inl a) ∧ a.1 = 8) ∨ (∃ m1' m2' : Mp, y = .inr (.inr (rs, rs, x1, x2, m1', m2', ())) ∧ MOk m2' (l ++ rdyT ts)))) (fun j a h hx => by
      obtain ⟨m1, m2⟩ := a
      simp only at hx
      simp only [L40_1002561t, L40_1002561s0, rg_lt h, rg_in h, rg_ltn h, cond_true, Int.toNat_natCast]
      rw [rg_wrap (by omega)]
      have hs := rdyT_succ h (dft sTask)
      generalize ts.getD j (dft sTask) = t at hs
      have step : ∀ m : Mp, m = m2 → (t.1 == Int.ofNat 1) = false → MOk m (l ++ rdyT (ts.take (j + 1))) := fun m e h2 => by
        rw [hs, h2, e]; simpa using hx
      have step2 : (t.1 == Int.ofNat 1) = true → mapHas m2 t.2.2.2.2.1 = false → MOk (mapSet m2 t.2.2.2.2.1 ()) (l ++ rdyT (ts.take (j + 1))) := fun h2 h3 => by
        rw [hs, h2, cond_true, ← List.append_assoc]; exact mok_set hx h3
      cases (t.1 == Int.ofNat 2)
      · simp only [cond_false]
        rcases h2 : (t.1 == Int.ofNat 1) with _ | _
        · exact .inl ⟨(m1, m2), rfl, step _ rfl h2⟩
        · simp only [cond_true]
          rcases h3 : mapHas m2 t.2.2.2.2.1 with _ | _
          · exact .inl ⟨(m1, _), rfl, step2 h2 h3⟩
          · exact .inr ⟨_, rfl, .inl ⟨_, rfl, rfl⟩⟩
      · simp only [cond_true]
        cases mapHas m1 t.2.2.2.1
        · simp only [cond_false]
          rcases h2 : (t.1 == Int.ofNat 1) with _ | _
          · exact .inl ⟨(_, m2), rfl, step _ rfl h2⟩
          · simp only [cond_true]
            rcases h3 : mapHas m2 t.2.2.2.2.1 with _ | _
            · exact .inl ⟨(_, _), rfl, step2 h2 h3⟩
            · exact .inr ⟨_, rfl, .inr (.inl ⟨_, rfl, rfl⟩)⟩
        · exact .inr ⟨_, rfl, .inl ⟨_, rfl, rfl⟩⟩) (fun a hx => ⟨_, by simp only [L40_1002561t, L40_1002561s0, rg_end, cond_false], .inr (.inr ⟨a.1, a.2, rfl, by rw [List.take_length] at hx; exact hx⟩)⟩) (m1, m2) (by simpa [rdyT] using hm)
  exact ⟨y, hy, hq⟩
theorem l40k (rs : List Run) (hl : rs.length ≤ 9223372036854775807) (r : Run) :
    ∃ y, L40_1006784 (rs, (rs.length : Int), Int.ofNat 0, r.1, r.2.1, r.2.2.1.1, r.2.2.2.1, r.2.2.2.2.1, ()) = some y ∧ ((∃ a, y = .inl a ∧ decide (a.1 ≥ Int.ofNat 0) = true) ∨ (y = .inr (r.1, r.2.1, r.2.2.1.1, r.2.2.2.1, r.2.2.2.2.1, ()))) := by
  obtain ⟨y, hy, hq⟩ := rng_hoare (st := L40_1006784t) rs.length (fun j (_ : Unit) => (rs, (rs.length : Int), (j : Int), r.1, r.2.1, r.2.2.1.1, r.2.2.2.1, r.2.2.2.2.1, ())) (fun j a => True)
    (fun y => ((∃ a, y = .inl a ∧ decide (a.1 ≥ Int.ofNat 0) = true) ∨ (y = .inr (r.1, r.2.1, r.2.2.1.1, r.2.2.2.1, r.2.2.2.2.1, ())))) (fun j a h hx => by
      simp only [L40_1006784t, L40_1006784s0, rg_lt h, rg_in h, rg_ltn h, cond_true, Int.toNat_natCast]
      rw [rg_wrap (by omega)]
      cases (ByteArray.toList (rs.getD j (dft sRun)).2.1 == ByteArray.toList r.2.1)
      · exact .inl ⟨(), rfl, trivial⟩
      · exact .inr ⟨_, rfl, .inl ⟨_, rfl, nat_ge j⟩⟩) (fun a hx => ⟨_, by simp only [L40_1006784t, L40_1006784s0, rg_end, cond_false], .inr rfl⟩) () trivial
  exact ⟨y, hy, hq⟩

theorem wrap_sub1 {i : Nat} (h1 : 0 < i) (h : i < 9223372036854775807) : IntKind.i64.wrap ((i : Int) - Int.ofNat 1) = ((i - 1 : Nat) : Int) := by
  unfold IntKind.wrap
  simp [IntKind.bits, IntKind.signed]
  omega
theorem comb {X Y : Type} (rs : List Run) (i : Nat) (h : i < rs.length) (hm : rs.length ≤ 9223372036854775807) (r : Run) (e : Y) (z : X ⊕ Y) :
    (bif decide ((i : Int) > Int.ofNat 0) then (bif within 0 (IntKind.i64.wrap ((i : Int) - Int.ofNat 1)) ((rs.length : Int) - 1) then (bif decide ((IntKind.i64.wrap ((i : Int) - Int.ofNat 1)).toNat < rs.length) then (bif decide (r.1 ≤ (rs.getD (IntKind.i64.wrap ((i : Int) - Int.ofNat 1)).toNat (dft sRun)).1) then (some (.inr e)) else bif within 0 (i : Int) (rs.length : Int) then (some z) else none) else none) else none) else bif within 0 (i : Int) (rs.length : Int) then (some z) else none)
      = some (if 0 < i ∧ r.1 ≤ (rs.getD (i - 1) (dft sRun)).1 then .inr e else z) := by
  have hw : within 0 (i : Int) (rs.length : Int) = true := by simp [within]; omega
  rw [hw]
  rcases Nat.eq_zero_or_pos i with rfl | hp
  · rfl
  · rw [wrap_sub1 hp (by omega), rg_in (show i - 1 < rs.length by omega), Int.toNat_natCast, rg_ltn (show i - 1 < rs.length by omega), decide_eq_true (show (i : Int) > Int.ofNat 0 by simp only [ofN]; omega)]
    simp only [cond_true]
    by_cases hc : r.1 ≤ (rs.getD (i - 1) (dft sRun)).1
    · rw [decide_eq_true hc, if_pos ⟨hp, hc⟩]; rfl
    · rw [decide_eq_false hc, if_neg fun h => hc h.2]; rfl
/-- What the whole check tells. -/
structure Good (rs : List Run) (rs0 : List Run) : Prop where
  up : ∀ i j : Nat, i < j → j < rs.length → (rs.getD i (dft sRun)).1 < (rs.getD j (dft sRun)).1
  chk : ∀ r ∈ rs, F36 (r, ()) = some (Int.ofNat 0, ())
  rd : (rdy rs).Nodup
def code {A B C D E : Type} : (Int × A) ⊕ ((Int × B) ⊕ ((Int × C) ⊕ ((Int × D) ⊕ E))) → Int
  | .inl a => a.1
  | .inr (.inl a) => a.1
  | .inr (.inr (.inl a)) => a.1
  | .inr (.inr (.inr (.inl a))) => a.1
  | .inr (.inr (.inr (.inr _))) => 0
theorem getD_take {α : Type} {l : List α} {n i : Nat} (h : i < n) (d : α) : (l.take n).getD i d = l.getD i d := by
  simp [List.getD_eq_getElem?_getD, List.getElem?_take, h]
theorem l40 (rs : List Run) (hm : rs.length ≤ 9223372036854775807) (hr : ∀ r ∈ rs, OkR r) :
    ∃ y, L40_1002560 (rs, rs, (rs.length : Int), Int.ofNat 0, [], [], ()) = some y ∧ (code y = 0 → Good rs rs) := by
  obtain ⟨y, hy, hq⟩ := rng_hoare (st := L40_1002560t) rs.length (fun j (a : Mp × Mp) => (rs, rs, (rs.length : Int), (j : Int), a.1, a.2, ())) (fun j a => Good (rs.take j) rs ∧ MOk a.2 (rdy (rs.take j)))
    (fun y => code y = 0 → Good rs rs) (fun j a h hx => by
      obtain ⟨m1, m2⟩ := a
      obtain ⟨hg, hmm⟩ := hx
      simp only at hmm
      have ne8 : ∀ p : Prop, ((8 : Int) = 0 → p) := fun p h => absurd h (by decide)
      have hok := hr _ (getD_mem h (dft sRun))
      obtain ⟨v, hv, -⟩ := f36 _ hok
      have hs := rdy_succ h (dft sRun)
      have hcons : ¬(0 < j ∧ (rs.getD j (dft sRun)).1 ≤ (rs.getD (j - 1) (dft sRun)).1) → v = Int.ofNat 0 → (rdy (rs.take (j + 1))).Nodup → Good (rs.take (j + 1)) rs := fun h1 h2 h3 => by
        refine ⟨fun a b hab hb => ?_, fun r hr => ?_, h3⟩
        · rw [List.length_take] at hb
          rw [getD_take (by omega), getD_take (by omega)]
          have hj : ∀ a, a < j → (rs.getD a (dft sRun)).1 < (rs.getD j (dft sRun)).1 := fun a ha => by
            have h4 : (rs.getD (j - 1) (dft sRun)).1 < (rs.getD j (dft sRun)).1 := by
              have := fun h => h1 ⟨by omega, h⟩
              omega
            rcases Nat.lt_or_ge a (j - 1) with h5 | h5
            · have := hg.up a (j - 1) h5 (by rw [List.length_take]; omega)
              rw [getD_take (by omega), getD_take (by omega)] at this
              omega
            · have : a = j - 1 := by omega
              rw [this]; exact h4
          rcases Nat.lt_or_ge b j with h5 | h5
          · have := hg.up a b hab (by rw [List.length_take]; omega)
            rwa [getD_take (by omega), getD_take (by omega)] at this
          · have : b = j := by omega
            subst this
            exact hj a hab
        · rcases mem_take_succ h (dft sRun) hr with h4 | h4
          · exact hg.chk r h4
          · rw [h4, ← h2]; exact hv
      generalize hrr : rs.getD j (dft sRun) = r at hok hv hs hcons
      simp only [L40_1002560t, L40_1002560s0, rg_lt h, rg_in h, rg_ltn h, cond_true, Int.toNat_natCast, hrr, eR, hv, Option.bind_some]
      by_cases hz : v = Int.ofNat 0
      · rw [show (v != Int.ofNat 0) = false by rw [hz]; rfl]
        simp only [cond_false]
        obtain ⟨yk, hk, hkq⟩ := l40k (List.take (j - 0) (List.drop 0 rs)) (by rw [List.length_take, List.drop_zero]; omega) r
        rw [hk]
        simp only [Option.bind_some]
        rcases hkq with ⟨a, rfl, ha⟩ | rfl
        · simp only [ha, cond_true]
          rw [comb rs j h hm r]
          split
          · exact .inr ⟨_, rfl, ne8 _⟩
          · exact .inr ⟨_, rfl, ne8 _⟩
        · simp only
          obtain ⟨yt, ht, htq⟩ := l40t rs (rs.length : Int) (j : Int) r.2.2.2.2.1 hok.2.2 m1 m2 _ hmm
          rw [ht]
          simp only [Option.bind_some]
          rcases htq with ⟨a, rfl, ha⟩ | ⟨a, rfl, ha⟩ | ⟨m1', m2', rfl, hm'⟩
          · simp only
            rw [comb rs j h hm r]
            split
            · exact .inr ⟨_, rfl, ne8 _⟩
            · exact .inr ⟨_, rfl, by simp only [code, ha]; exact ne8 _⟩
          · simp only
            rw [comb rs j h hm r]
            split
            · exact .inr ⟨_, rfl, ne8 _⟩
            · exact .inr ⟨_, rfl, by simp only [code, ha]; exact ne8 _⟩
          · simp only
            rw [comb rs j h hm r]
            split
            · exact .inr ⟨_, rfl, ne8 _⟩
            · rename_i hc
              rw [rg_wrap (by omega)]
              rw [← hs] at hm'
              exact .inl ⟨(m1', m2'), rfl, hcons hc hz hm'.2, hm'⟩
      · rw [show (v != Int.ofNat 0) = true by simpa using hz]
        exact .inr ⟨_, rfl, ne8 _⟩) (fun a hx => ⟨.inr (.inr (.inr (.inr (a.1, a.2, ())))), by simp only [L40_1002560t, L40_1002560s0, rg_end, cond_false], fun _ => by have := hx.1; rw [List.take_length] at this; exact this⟩) ([], []) ⟨⟨by simp, by simp, by simp [rdy]⟩, by simp [MOk, mapHas, rdy]⟩
  exact ⟨y, hy, hq⟩
theorem f40 (rs : List Run) (hm : rs.length ≤ 9223372036854775807) (hr : ∀ r ∈ rs, OkR r) : ∃ v, F40 (rs, ()) = some (v, ()) ∧ (v = 0 → rs.length ≤ 32 ∧ Good rs rs) := by
  simp only [F40]
  by_cases h2 : ((rs.length : Nat) : Int) > Int.ofNat 32
  · rw [decide_eq_true h2]; exact ⟨_, rfl, fun h => absurd h (by decide)⟩
  · rw [decide_eq_false h2]
    have h32 : rs.length ≤ 32 := by simp only [ofN] at h2; omega
    obtain ⟨y, hy, hq⟩ := l40 rs hm hr
    simp only [cond_false, hy, Option.bind_some]
    match y, hq with
    | .inl a, hq => exact ⟨_, rfl, fun h => ⟨h32, hq h⟩⟩
    | .inr (.inl a), hq => exact ⟨_, rfl, fun h => ⟨h32, hq h⟩⟩
    | .inr (.inr (.inl a)), hq => exact ⟨_, rfl, fun h => ⟨h32, hq h⟩⟩
    | .inr (.inr (.inr (.inl a))), hq => exact ⟨_, rfl, fun h => ⟨h32, hq h⟩⟩
    | .inr (.inr (.inr (.inr a))), hq => exact ⟨_, rfl, fun h => ⟨h32, hq rfl⟩⟩

/-! The first of the ready. -/
theorem rdyT_sub (ts : List Task) (j : Nat) : (rdyT (ts.take j)).Sublist (rdyT ts) := ((List.take_sublist j ts).filter _).map _
theorem rdy_sub (rs : List Run) (i : Nat) : (rdy (rs.take i)).Sublist (rdy rs) := by
  have : rdy rs = rdy (rs.take i) ++ rdy (rs.drop i) := by
    simp only [rdy]
    rw [← List.flatMap_append, List.take_append_drop]
  rw [this]
  exact List.sublist_append_left _ _
theorem rdy_pre (rs : List Run) {i : Nat} (h : i < rs.length) (d : Run) (j : Nat) : (rdy (rs.take i) ++ rdyT ((rs.getD i d).2.2.2.2.1.take j)).Sublist (rdy rs) := by
  refine List.Sublist.trans ?_ (rdy_sub rs (i + 1))
  rw [rdy_succ h d]
  exact List.Sublist.append (List.Sublist.refl _) (rdyT_sub _ _)
/-- What was chosen among those seen. -/
def Sel (rs : List Run) (l : List Int) (best : Int) (found : Bool) (k1 k2 k3 : Int) : Prop :=
  (found = false ∧ l = []) ∨ (found = true ∧ best ∈ l ∧ (∀ x ∈ l, best ≤ x) ∧ ∃ a b : Nat, a < rs.length ∧ b < (rs.getD a (dft sRun)).2.2.2.2.1.length ∧ k1 = (rs.getD a (dft sRun)).1 ∧ k2 = (b : Int) ∧ k3 = 0 ∧ (((rs.getD a (dft sRun)).2.2.2.2.1).getD b (dft sTask)).1 = 1 ∧ (((rs.getD a (dft sRun)).2.2.2.2.1).getD b (dft sTask)).2.2.2.2.1 = best)
abbrev SelT := Int × Bool × Int × Int × Int
theorem l35t (rs : List Run) (x1 z1 z2 z3 : Int) (i : Nat) (hi : i < rs.length) (r : Run) (hr : rs.getD i (dft sRun) = r) (ht : r.2.2.2.2.1.length ≤ 9223372036854775807) (l : List Int) (s : SelT) (hs : Sel rs l s.1 s.2.1 s.2.2.1 s.2.2.2.1 s.2.2.2.2) :
    ∃ s' : SelT, L35_1002241 (s.1, s.2.1, rs, x1, (i : Int), r.2.2.2.2.1, (r.2.2.2.2.1.length : Int), Int.ofNat 0, z1, z2, z3, s.2.2.1, s.2.2.2.1, s.2.2.2.2, r.1, r.2.1, r.2.2.1.1, r.2.2.2.1, r.2.2.2.2.1, ()) = some (s'.1, s'.2.1, rs, x1, (i : Int), z1, z2, z3, s'.2.2.1, s'.2.2.2.1, s'.2.2.2.2, r.1, r.2.1, r.2.2.1.1, r.2.2.2.1, r.2.2.2.2.1, ()) ∧ Sel rs (l ++ rdyT r.2.2.2.2.1) s'.1 s'.2.1 s'.2.2.1 s'.2.2.2.1 s'.2.2.2.2 := by
  obtain ⟨y, hy, s', rfl, h⟩ := rng_hoare (st := L35_1002241t) r.2.2.2.2.1.length (fun j (s : SelT) => (s.1, s.2.1, rs, x1, (i : Int), r.2.2.2.2.1, (r.2.2.2.2.1.length : Int), (j : Int), z1, z2, z3, s.2.2.1, s.2.2.2.1, s.2.2.2.2, r.1, r.2.1, r.2.2.1.1, r.2.2.2.1, r.2.2.2.2.1, ())) (fun j s => Sel rs (l ++ rdyT (r.2.2.2.2.1.take j)) s.1 s.2.1 s.2.2.1 s.2.2.2.1 s.2.2.2.2)
    (fun y => ∃ s' : SelT, y = (s'.1, s'.2.1, rs, x1, (i : Int), z1, z2, z3, s'.2.2.1, s'.2.2.2.1, s'.2.2.2.2, r.1, r.2.1, r.2.2.1.1, r.2.2.2.1, r.2.2.2.2.1, ()) ∧ Sel rs (l ++ rdyT r.2.2.2.2.1) s'.1 s'.2.1 s'.2.2.1 s'.2.2.2.1 s'.2.2.2.2) (fun j s h hx => by
      obtain ⟨best, found, k1, k2, k3⟩ := s
      simp only at hx
      have hs := rdyT_succ h (dft sTask)
      have htt : (((rs.getD i (dft sRun)).2.2.2.2.1).getD j (dft sTask)) = r.2.2.2.2.1.getD j (dft sTask) := by rw [hr]
      obtain ⟨t, hte⟩ : ∃ t : Task, r.2.2.2.2.1.getD j (dft sTask) = t := ⟨_, rfl⟩
      rw [hte] at hs htt
      simp only [L35_1002241t, L35_1002241s0, rg_lt h, rg_in h, rg_ltn h, cond_true, Int.toNat_natCast, hte]
      rw [rg_wrap (by omega)]
      refine .inl ?_
      rcases h1 : (t.1 == Int.ofNat 1) with _ | _
      · rw [h1] at hs
        exact ⟨(best, found, k1, k2, k3), rfl, by rw [hs]; simpa using hx⟩
      · rw [h1, cond_true] at hs
        simp only [cond_true]
        have t1 : t.1 = 1 := by simpa using h1
        have new : (∀ x ∈ l ++ rdyT (r.2.2.2.2.1.take j), t.2.2.2.2.1 ≤ x) → Sel rs (l ++ rdyT (r.2.2.2.2.1.take (j + 1))) t.2.2.2.2.1 true r.1 (j : Int) (Int.ofNat 0) := fun hle => by
          rw [hs, ← List.append_assoc]
          refine .inr ⟨rfl, by simp, fun x hx => ?_, i, j, hi, by rw [hr]; exact h, by rw [hr], rfl, rfl, by rw [htt]; exact t1, by rw [htt]⟩
          rcases List.mem_append.1 hx with hx | hx
          · exact hle x hx
          · simp only [List.mem_singleton] at hx; omega
        rcases hx with ⟨rfl, hnil⟩ | ⟨rfl, hb, hle, hex⟩
        · exact ⟨(_, _, _, _, _), rfl, new (by rw [hnil]; simp)⟩
        · simp only [Bool.not_true, cond_false]
          by_cases hlt : t.2.2.2.2.1 < best
          · rw [decide_eq_true hlt]
            exact ⟨(_, _, _, _, _), rfl, new fun x hx => by have := hle x hx; omega⟩
          · rw [decide_eq_false hlt]
            refine ⟨(best, true, k1, k2, k3), rfl, ?_⟩
            simp only
            rw [hs, ← List.append_assoc]
            refine .inr ⟨rfl, List.mem_append_left _ hb, fun x hx => ?_, hex⟩
            rcases List.mem_append.1 hx with hx | hx
            · exact hle x hx
            · simp only [List.mem_singleton] at hx; omega) (fun s hx => ⟨_, by simp only [L35_1002241t, L35_1002241s0, rg_end, cond_false], s, rfl, by rw [List.take_length] at hx; exact hx⟩) s (by simpa [rdyT] using hs)
  exact ⟨s', hy, h⟩
theorem l35 (rs : List Run) (hm : rs.length ≤ 9223372036854775807) (hr : ∀ r ∈ rs, OkR r) :
    ∃ (s : SelT) (z1 z2 z3 : Int), L35_1002240 (Int.ofNat 0, false, rs, (rs.length : Int), Int.ofNat 0, Int.ofNat 0, Int.ofNat 0, Int.ofNat 0, Int.ofNat 0, Int.ofNat 0, Int.ofNat 0, ()) = some (s.2.1, z1, z2, z3, s.2.2.1, s.2.2.2.1, s.2.2.2.2, ()) ∧ Sel rs (rdy rs) s.1 s.2.1 s.2.2.1 s.2.2.2.1 s.2.2.2.2 := by
  obtain ⟨y, hy, s', rfl, h⟩ := rng_hoare (st := L35_1002240t) rs.length (fun j (s : SelT) => (s.1, s.2.1, rs, (rs.length : Int), (j : Int), Int.ofNat 0, Int.ofNat 0, Int.ofNat 0, s.2.2.1, s.2.2.2.1, s.2.2.2.2, ())) (fun j s => Sel rs (rdy (rs.take j)) s.1 s.2.1 s.2.2.1 s.2.2.2.1 s.2.2.2.2)
    (fun y => ∃ s : SelT, y = (s.2.1, Int.ofNat 0, Int.ofNat 0, Int.ofNat 0, s.2.2.1, s.2.2.2.1, s.2.2.2.2, ()) ∧ Sel rs (rdy rs) s.1 s.2.1 s.2.2.1 s.2.2.2.1 s.2.2.2.2) (fun j s h hx => by
      have hok := hr _ (getD_mem h (dft sRun))
      obtain ⟨s', h1, h2⟩ := l35t rs (rs.length : Int) (Int.ofNat 0) (Int.ofNat 0) (Int.ofNat 0) j h _ rfl hok.2.2 _ s hx
      simp only [L35_1002240t, L35_1002240s0, rg_lt h, rg_in h, rg_ltn h, cond_true, Int.toNat_natCast, h1, Option.bind_some]
      rw [rg_wrap (by omega)]
      exact .inl ⟨s', rfl, by rw [rdy_succ h (dft sRun)]; exact h2⟩) (fun s hx => ⟨_, by simp only [L35_1002240t, L35_1002240s0, rg_end, cond_false], s, rfl, by rw [List.take_length] at hx; exact hx⟩) (0, false, 0, 0, 0) (.inl ⟨rfl, by simp [rdy]⟩)
  exact ⟨s', _, _, _, hy, h⟩
theorem f35 (rs : List Run) (hm : rs.length ≤ 9223372036854775807) (hr : ∀ r ∈ rs, OkR r) :
    (∃ v, v ≠ 0 ∧ F35 (rs, ()) = some ((Int.ofNat 0, Int.ofNat 0, Int.ofNat 0, ()), false, v, ())) ∨
    (rs.length ≤ 32 ∧ Good rs rs ∧ F40 (rs, ()) = some (Int.ofNat 0, ()) ∧ ∃ s : SelT, F35 (rs, ()) = some ((s.2.2.1, s.2.2.2.1, s.2.2.2.2, ()), s.2.1, Int.ofNat 0, ()) ∧ Sel rs (rdy rs) s.1 s.2.1 s.2.2.1 s.2.2.2.1 s.2.2.2.2) := by
  obtain ⟨v, hv, hv0⟩ := f40 rs hm hr
  simp only [F35, hv, Option.bind_some]
  by_cases hz : v = 0
  · subst hz
    obtain ⟨h32, hg⟩ := hv0 rfl
    obtain ⟨s, z1, z2, z3, h1, h2⟩ := l35 rs hm hr
    refine .inr ⟨h32, hg, rfl, s, ?_, h2⟩
    rw [show ((0 : Int) != Int.ofNat 0) = false from rfl]
    simp only [cond_false, h1, Option.bind_some]
  · rw [show (v != Int.ofNat 0) = true by simpa using hz]
    exact .inl ⟨v, hz, rfl⟩
theorem f69 (a b : Int) : F69 (a, b, ()) = some (if a < b then Int.negSucc 0 else if a > b then Int.ofNat 1 else Int.ofNat 0, ()) := by
  simp only [F69, F99, Option.bind_some]
  rw [show (a != a) = false by simp, show (b != b) = false by simp]
  simp only [cond_false]
  by_cases h : a < b
  · rw [decide_eq_true h, if_pos h]; rfl
  · rw [decide_eq_false h, if_neg h]
    by_cases h2 : a > b
    · rw [decide_eq_true h2, if_pos h2]; rfl
    · rw [decide_eq_false h2, if_neg h2]; rfl
theorem mid_ok {lo hi : Nat} (h : lo + hi < 1000) : IntKind.i64.wrap ((IntKind.u64.wrap (IntKind.i64.wrap ((lo : Int) + (hi : Int)))).fdiv (2 ^ min (Int.ofNat 1).toNat IntKind.u64.bits)) = (((lo + hi) / 2 : Nat) : Int) := by
  have e1 : IntKind.i64.wrap ((lo : Int) + (hi : Int)) = ((lo + hi : Nat) : Int) := by
    unfold IntKind.wrap
    simp [IntKind.bits, IntKind.signed]
    omega
  have e2 : IntKind.u64.wrap ((lo + hi : Nat) : Int) = ((lo + hi : Nat) : Int) := by
    unfold IntKind.wrap
    simp [IntKind.bits, IntKind.signed]
    omega
  have e3 : (2 : Int) ^ min (Int.ofNat 1).toNat IntKind.u64.bits = 2 := by decide
  rw [e1, e2, e3, Int.fdiv_eq_ediv_of_nonneg _ (by omega)]
  unfold IntKind.wrap
  simp [IntKind.bits, IntKind.signed]
  omega
theorem l32 (rs : List Run) (hm : rs.length ≤ 32) (hg : Good rs rs) (a : Nat) (ha : a < rs.length) :
    L32_1004288 (rs, (rs.getD a (dft sRun)).1, (rs.length : Int), Int.ofNat 0, (rs.length : Int), ()) = some (rs, (rs.getD a (dft sRun)).1, (rs.length : Int), (a : Int), ()) := by
  obtain ⟨y, hy, hq⟩ := loopF_hoare (st := L32_1004288t) (fun x => x.2.2.2.2.1.toNat - x.2.2.2.1.toNat) (fun x => ∃ lo hi : Nat, x = (rs, (rs.getD a (dft sRun)).1, (rs.length : Int), (lo : Int), (hi : Int), ()) ∧ lo ≤ a ∧ a ≤ hi ∧ hi ≤ rs.length)
    (fun y => y = (rs, (rs.getD a (dft sRun)).1, (rs.length : Int), (a : Int), ())) (fun x hx => by
      obtain ⟨lo, hi, rfl, h1, h2, h3⟩ := hx
      rcases Nat.lt_or_ge lo hi with h | h
      · have hmid : (lo + hi) / 2 < rs.length := by omega
        refine .inl ?_
        simp only [L32_1004288t, L32_1004288s0, rg_lt h, mid_ok (show lo + hi < 1000 by omega), rg_in hmid, Int.toNat_natCast, rg_ltn hmid, cond_true, f69, Option.bind_some]
        by_cases hc : (rs.getD ((lo + hi) / 2) (dft sRun)).1 < (rs.getD a (dft sRun)).1
        · rw [if_pos hc, show decide (Int.negSucc 0 < Int.ofNat 0) = true by decide, rg_wrap (by omega)]
          refine ⟨_, rfl, ⟨(lo + hi) / 2 + 1, hi, rfl, ?_, h2, h3⟩, ?_⟩
          · rcases Nat.lt_or_ge ((lo + hi) / 2) a with h4 | h4
            · omega
            · rcases Nat.eq_or_lt_of_le h4 with h5 | h5
              · rw [← h5] at hc; omega
              · have := hg.up a _ h5 hmid
                omega
          · simp only [Int.toNat_natCast]; omega
        · rw [if_neg hc]
          have e : decide ((if (rs.getD ((lo + hi) / 2) (dft sRun)).1 > (rs.getD a (dft sRun)).1 then Int.ofNat 1 else Int.ofNat 0) < Int.ofNat 0) = false := by split <;> decide
          rw [e]
          refine ⟨_, rfl, ⟨lo, (lo + hi) / 2, rfl, h1, ?_, by omega⟩, ?_⟩
          · rcases Nat.lt_or_ge ((lo + hi) / 2) a with h4 | h4
            · exact absurd (hg.up _ a h4 ha) hc
            · exact h4
          · simp only [Int.toNat_natCast]; omega
      · have e1 : lo = a := by omega
        have e2 : hi = a := by omega
        subst e1
        subst e2
        exact .inr ⟨_, by simp only [L32_1004288t, L32_1004288s0, rg_end, cond_false], rfl⟩) (rs, (rs.getD a (dft sRun)).1, (rs.length : Int), ((0 : Nat) : Int), (rs.length : Int), ()) ⟨0, rs.length, rfl, by omega, by omega, by omega⟩
  subst hq
  exact hy
theorem f32 (rs : List Run) (hm : rs.length ≤ 32) (hg : Good rs rs) (hc : F40 (rs, ()) = some (Int.ofNat 0, ())) (a : Nat) (ha : a < rs.length) : F32 (rs, (rs.getD a (dft sRun)).1, ()) = some ((a : Int), true, Int.ofNat 0, ()) := by
  simp only [F32, hc, Option.bind_some, l32 rs hm hg a ha, rg_lt ha, rg_in ha, Int.toNat_natCast, rg_ltn ha, cond_true, f69]
  simp

/-! The law. -/
/-- How often the best was met. -/
def Cnt (best : Int) (l : List Int) (n : Int) : Prop := (n = 0 ∧ best ∉ l) ∨ (n = 1 ∧ best ∈ l)
theorem l7t (rs : List Run) (found : Bool) (best : Int) (hall : ∀ x ∈ rdy rs, found = true ∧ best ≤ x) (hnd : (rdy rs).Nodup) (i : Nat) (hi : i < rs.length) (r : Run) (hr : rs.getD i (dft sRun) = r) (ht : r.2.2.2.2.1.length ≤ 9223372036854775807) (n : Int) (hn : Cnt best (rdy (rs.take i)) n) :
    ∃ n' : Int, L7_1000449 (rs, found, best, n, (i : Int), Int.ofNat 0, ()) = some (.inr (rs, found, best, n', (i : Int), ())) ∧ Cnt best (rdy (rs.take (i + 1))) n' := by
  obtain ⟨y, hy, n', rfl, h⟩ := rng_hoare (st := L7_1000449t) r.2.2.2.2.1.length (fun j (n : Int) => (rs, found, best, n, (i : Int), (j : Int), ())) (fun j n => Cnt best (rdy (rs.take i) ++ rdyT (r.2.2.2.2.1.take j)) n)
    (fun y => ∃ n' : Int, y = .inr (rs, found, best, n', (i : Int), ()) ∧ Cnt best (rdy (rs.take (i + 1))) n') (fun j n h hx => by
      have hs := rdyT_succ h (dft sTask)
      have hsub := rdy_pre rs hi (dft sRun) (j + 1)
      obtain ⟨t, hte⟩ : ∃ t : Task, r.2.2.2.2.1.getD j (dft sTask) = t := ⟨_, rfl⟩
      rw [hte] at hs
      rw [hr, hs, ← List.append_assoc] at hsub
      simp only [L7_1000449t, L7_1000449s0, hr, rg_lt h, rg_in h, rg_ltn h, rg_in hi, rg_ltn hi, cond_true, Int.toNat_natCast, hte]
      rw [rg_wrap (by omega)]
      refine .inl ?_
      rcases h1 : (t.1 == Int.ofNat 1) with _ | _
      · rw [h1] at hs
        exact ⟨n, rfl, by rw [hs]; simpa using hx⟩
      · rw [h1, cond_true] at hs hsub
        rw [hs, ← List.append_assoc]
        obtain ⟨hf, hle⟩ := hall t.2.2.2.2.1 (hsub.subset (by simp))
        have hnd2 := hnd.sublist hsub
        subst hf
        simp only [cond_true, Bool.not_true, cond_false]
        rw [decide_eq_false (show ¬ t.2.2.2.2.1 < best by omega)]
        simp only [cond_false]
        rcases h2 : (t.2.2.2.2.1 == best) with _ | _
        · have hne : best ≠ t.2.2.2.2.1 := fun e => by rw [e] at h2; simp at h2
          refine ⟨n, rfl, ?_⟩
          rcases hx with ⟨e, hx⟩ | ⟨e, hx⟩
          · exact .inl ⟨e, by simp only [List.mem_append, List.mem_singleton, not_or]; simp only [List.mem_append, not_or] at hx; exact ⟨hx, hne⟩⟩
          · exact .inr ⟨e, List.mem_append_left _ hx⟩
        · have he : t.2.2.2.2.1 = best := by simpa using h2
          rw [he] at hnd2 ⊢
          rcases hx with ⟨e, hx⟩ | ⟨e, hx⟩
          · subst e
            exact ⟨1, rfl, .inr ⟨rfl, by simp⟩⟩
          · have := (List.nodup_append.1 hnd2).2.2 best hx best (by simp)
            exact absurd rfl this) (fun n hx => ⟨_, by simp only [L7_1000449t, L7_1000449s0, hr, rg_end, rg_in hi, rg_ltn hi, Int.toNat_natCast, cond_true, cond_false], n, rfl, by rw [List.take_length] at hx; rw [rdy_succ hi (dft sRun), hr]; exact hx⟩) n (by simpa [rdyT] using hn)
  exact ⟨n', hy, h⟩
theorem l7 (rs : List Run) (hm : rs.length ≤ 9223372036854775807) (hr : ∀ r ∈ rs, OkR r) (found : Bool) (best : Int) (hall : ∀ x ∈ rdy rs, found = true ∧ best ≤ x) (hnd : (rdy rs).Nodup) :
    ∃ n : Int, L7_1000448 (rs, found, best, Int.ofNat 0, Int.ofNat 0, ()) = some (.inr (found, n, ())) ∧ Cnt best (rdy rs) n := by
  obtain ⟨y, hy, n', rfl, h⟩ := rng_hoare (st := L7_1000448t) rs.length (fun j (n : Int) => (rs, found, best, n, (j : Int), ())) (fun j n => Cnt best (rdy (rs.take j)) n)
    (fun y => ∃ n' : Int, y = .inr (found, n', ()) ∧ Cnt best (rdy rs) n') (fun j n h hx => by
      have hok := hr _ (getD_mem h (dft sRun))
      obtain ⟨n', h1, h2⟩ := l7t rs found best hall hnd j h _ rfl hok.2.2 n hx
      simp only [L7_1000448t, L7_1000448s0, rg_lt h, cond_true, h1, Option.bind_some]
      rw [rg_wrap (by omega)]
      exact .inl ⟨n', rfl, h2⟩) (fun n hx => ⟨_, by simp only [L7_1000448t, L7_1000448s0, rg_end, cond_false], n, rfl, by rw [List.take_length] at hx; exact hx⟩) 0 (.inl ⟨rfl, by simp [rdy]⟩)
  exact ⟨n', hy, h⟩
theorem f7 (rs : List Run) (hm : rs.length ≤ 9223372036854775807) (hr : ∀ r ∈ rs, OkR r) : F7 (rs, ()) = some (true, ()) := by
  obtain ⟨b, hb⟩ := f29 rs hm fun r h => (hr r h).1
  simp only [F7, F28, hb, Option.bind_some]
  cases b
  · simp only [cond_false, Bool.not_true]
    rcases f35 rs hm hr with ⟨v, hv, h⟩ | ⟨h32, hg, h40, s, h, hs⟩
    · rw [h]
      simp only [Option.bind_some]
      rw [show (v != Int.ofNat 0) = true by simpa using hv]
      rfl
    · rw [h]
      simp only [Option.bind_some]
      obtain ⟨best, found, k1, k2, k3⟩ := s
      simp only at hs
      rw [show ((Int.ofNat 0) != Int.ofNat 0) = false from rfl]
      simp only [cond_false]
      rcases hs with ⟨rfl, hnil⟩ | ⟨rfl, hbest, hle, a, b, ha, hb, rfl, rfl, rfl, ht1, htr⟩
      · obtain ⟨n, hn, hc⟩ := l7 rs hm hr false (Int.negSucc 0) (by rw [hnil]; simp) hg.rd
        have : n = 0 := by
          rcases hc with ⟨e, _⟩ | ⟨_, e⟩
          · exact e
          · rw [hnil] at e; simp at e
        subst this
        simp only [cond_false, hn, Option.bind_some]
        rfl
      · obtain ⟨r, hra⟩ : ∃ r : Run, rs.getD a (dft sRun) = r := ⟨_, rfl⟩
        have hmem : r ∈ rs := by rw [← hra]; exact getD_mem ha _
        have hf := f32 rs h32 hg h40 a ha
        rw [hra] at hf hb ht1 htr
        obtain ⟨t, htb⟩ : ∃ t : Task, r.2.2.2.2.1.getD b (dft sTask) = t := ⟨_, rfl⟩
        rw [htb] at ht1 htr
        have hchk := hg.chk r hmem
        obtain ⟨v, hv, hv0⟩ := f36 r (hr r hmem)
        have hst : r.2.2.2.1 = 1 := by
          rw [hchk] at hv
          have : v = 0 := by simpa using hv.symm
          rcases hv0 this with h | h
          · exact h
          · exact absurd ht1 (h t (by rw [← htb]; exact getD_mem hb _))
        obtain ⟨n, hn, hc⟩ := l7 rs hm hr true best (fun x hx => ⟨rfl, hle x hx⟩) hg.rd
        have : n = 1 := by
          rcases hc with ⟨_, e⟩ | ⟨e, _⟩
          · exact absurd hbest e
          · exact e
        subst this
        have hbn : decide ((b : Int) < Int.ofNat 0) = false := decide_eq_false (by simp only [ofN]; omega)
        have hbg : decide ((b : Int) ≥ (r.2.2.2.2.1.length : Int)) = false := decide_eq_false (by omega)
        have hne : (t.1 != Int.ofNat 1) = false := by rw [ht1]; rfl
        have hse : (r.2.2.2.1 != Int.ofNat 1) = false := by rw [hst]; rfl
        have h00 : ((0 : Int) != Int.ofNat 0) = false := rfl
        have h00' : (Int.ofNat 0 != Int.ofNat 0) = false := rfl
        simp only [hra, hf, Option.bind_some, h00, h00', cond_true, cond_false, Bool.not_true, hbn, hbg, rg_in ha, rg_ltn ha, Int.toNat_natCast, rg_in hb, rg_ltn hb, htb, hne, hse, eR, hchk, htr, hn]
        rfl
  · rfl
theorem pure : ∀ x : Den (.cons (.row sRun) .nil), OkD (.cons (.row sRun) .nil) x → ∃ y, F7 x = some y ∧ y.1 = true := by
  intro x hx
  obtain ⟨rs, _⟩ := x
  obtain ⟨⟨h1, h2⟩, _⟩ := hx
  refine ⟨_, f7 rs h1 fun r hr => ?_, rfl⟩
  obtain ⟨_, _, ⟨⟨h3, h4⟩, _⟩, _, ⟨h5, _⟩, _⟩ := h2 r hr
  exact ⟨h3, fun nd hnd => (h4 nd hnd).1.1, h5⟩
end Go.Proofs.Ytefehcmhdiifnaa.leaseNext.Code
