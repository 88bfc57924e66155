/- What the functions of the law compute answers as the law says: for all data that an argument may hold. -/
import Derived.Test.YtefehcmhdiifnaaSrtLeaseOrder
set_option maxRecDepth 100000
set_option linter.unusedVariables false
set_option linter.unusedSimpArgs false
set_option linter.constructorNameAsVariable false
namespace Go.Proofs.Ytefehcmhdiifnaa.leaseOrder.Code
open Go Go.Am
abbrev Node := List Int × Int × Int × Unit
abbrev Task := Int × Int × Int × Int × Int × Unit
abbrev Run := Int × ByteArray × (List Node × Unit) × Int × List Task × Unit

/-! The reference's limits: total. -/
theorem f10 (ns : List Node) (hn : ns.length ≤ 9223372036854775807) : ∃ b, F10 ((ns, ()), ()) = some (b, ()) := by
  have hloop := loopF_list0 (st := L10_1000640t) ns (dft sNode) (fun i (_ : Unit) => ((i : Int), ns, ())) (fun _ => .inr (ns, ())) (fun i t _ => bif decide ((t.1.length : Int) > Int.ofNat 60) then .inr (.inl (true, ns, ())) else .inl ())
    (fun i a hi => by
      simp only [L10_1000640t, L10_1000640s0, rg_lt hi, rg_in hi, rg_nat hi, cond_true]
      exact br_match _ _ _ _ (fun _ => rfl) (fun _ => by rw [rg_wrap (by omega)]))
    (fun a => by simp only [L10_1000640t, L10_1000640s0, rg_end, cond_false]) ()
  simp only [F10]
  cases decide (((ns.length : Nat) : Int) > Int.ofNat 60)
  · simp only [cond_false, L10_1000640]
    rw [show ((Int.ofNat 0, ns, ()) : Int × List Node × Unit) = (((0 : Nat) : Int), ns, ()) from rfl]
    rw [hloop]
    simp only [Option.bind_some]
    split <;> exact ⟨_, rfl⟩
  · exact ⟨_, rfl⟩
theorem f65 (r : Run) (hn : r.2.2.1.1.length ≤ 9223372036854775807) : ∃ b, F65 (r, ()) = some (b, ()) := by
  obtain ⟨b, hb⟩ := f10 r.2.2.1.1 hn
  simp only [F65, hb, Option.bind_some]
  cases b
  · simp only [cond_false]
    cases decide ((r.2.2.2.2.1.length : Int) > Int.ofNat 60) <;> exact ⟨_, rfl⟩
  · exact ⟨_, rfl⟩
theorem f29 (l : List Run) (hl : l.length ≤ 9223372036854775807) (hr : ∀ r ∈ l, r.2.2.1.1.length ≤ 9223372036854775807) : ∃ b, F29 (l, ()) = some (b, ()) := by
  simp only [F29]
  cases decide ((l.length : Int) > Int.ofNat 60)
  · obtain ⟨y, hy, _⟩ := loopF_hoare (st := L29_1001856t) (fun x => l.length - x.2.1.toNat) (fun x => ∃ i : Nat, x = (l, (i : Int), ()) ∧ i ≤ l.length) (fun _ => True) (fun x hx => by
      obtain ⟨i, rfl, hi⟩ := hx
      rcases Nat.lt_or_ge i l.length with h | h
      · obtain ⟨b, hb⟩ := f65 (l.getD i (dft sRun)) (hr _ (by rw [List.getD_eq_getElem?_getD, List.getElem?_eq_getElem h]; exact List.getElem_mem h))
        simp only [L29_1001856t, L29_1001856s0, rg_lt h, rg_in h, rg_nat h, cond_true]
        have hb' : F65 (((l.getD ((i : Int).toNat) (dft sRun)).1, ((l.getD ((i : Int).toNat) (dft sRun)).2.1, (((l.getD ((i : Int).toNat) (dft sRun)).2.2.1.1, ()), ((l.getD ((i : Int).toNat) (dft sRun)).2.2.2.1, ((l.getD ((i : Int).toNat) (dft sRun)).2.2.2.2.1, ()))))), ()) = some (b, ()) := hb
        rw [hb']
        simp only [Option.bind_some]
        cases b
        · refine .inl ⟨_, rfl, ⟨i + 1, by rw [rg_wrap (by omega)], h⟩, ?_⟩
          rw [rg_wrap (by omega)]
          simp only [Int.toNat_natCast]
          omega
        · exact .inr ⟨_, rfl, trivial⟩
      · have : i = l.length := by omega
        subst this
        exact .inr ⟨.inr (), by simp only [L29_1001856t, L29_1001856s0, rg_end, cond_false], trivial⟩) (l, ((0 : Nat) : Int), ()) ⟨0, rfl, by omega⟩
    have hy' : L29_1001856 (l, Int.ofNat 0, ()) = some y := hy
    simp only [cond_false, hy', Option.bind_some]
    cases y <;> exact ⟨_, rfl⟩
  · exact ⟨_, rfl⟩

/-! Is a number in a list? -/
theorem idx_fold (v : Int) : ∀ (l : List Int) (i : Nat), (∃ j : Nat, i ≤ j ∧ foldE (A := Unit) (fun i t _ => bif v == t then .inr (.inl ((i : Int), ())) else .inl ()) (fun _ => .inr ()) i l () = (.inl ((j : Int), ()) : (Int × Unit) ⊕ Unit) ∧ v ∈ l) ∨
    (foldE (A := Unit) (fun i t _ => bif v == t then .inr (.inl ((i : Int), ())) else .inl ()) (fun _ => .inr ()) i l () = (.inr () : (Int × Unit) ⊕ Unit) ∧ v ∉ l)
  | [], i => .inr ⟨rfl, by simp⟩
  | t :: l, i => by
    simp only [foldE]
    cases hv : v == t
    · simp only [cond_false]
      have hne : v ≠ t := by simpa using hv
      rcases idx_fold v l (i + 1) with ⟨j, h1, h2, h3⟩ | ⟨h1, h2⟩
      · exact .inl ⟨j, by omega, h2, List.mem_cons_of_mem _ h3⟩
      · exact .inr ⟨h1, by simp [hne, h2]⟩
    · simp only [cond_true]
      have : v = t := by simpa using hv
      exact .inl ⟨i, Nat.le_refl _, rfl, by simp [this]⟩
theorem f161 (l : List Int) (v : Int) (hl : l.length ≤ 9223372036854775807) : F161 (l, v, ()) = some (decide (v ∈ l), ()) := by
  have hloop := loopF_list0 (st := L175_1011200t) l (dft (Sh.i IntKind.u8)) (fun i (_ : Unit) => (l, v, (l.length : Int), (i : Int), ())) (fun _ => .inr ()) (fun i t _ => bif v == t then .inr (.inl ((i : Int), ())) else .inl ())
    (fun i a hi => by
      simp only [L175_1011200t, L175_1011200s0, rg_lt hi, rg_in hi, rg_nat hi, cond_true]
      exact br_match _ _ _ _ (fun _ => rfl) (fun _ => by rw [rg_wrap (by omega)]))
    (fun a => by simp only [L175_1011200t, L175_1011200s0, rg_end, cond_false]) ()
  have hl0 : L175_1011200 (l, v, (l.length : Int), Int.ofNat 0, ()) = some (foldE (A := Unit) (fun i t _ => bif v == t then .inr (.inl ((i : Int), ())) else .inl ()) (fun _ => .inr ()) 0 l ()) := hloop
  simp only [F161, F175, hl0, Option.bind_some]
  rcases idx_fold v l 0 with ⟨j, _, h2, h3⟩ | ⟨h1, h2⟩
  · rw [h2]
    simp only [Option.bind_some, h3, decide_true]
    rw [decide_eq_true (show (j : Int) ≥ Int.ofNat 0 from Int.natCast_nonneg j)]
  · rw [h1]
    simp only [Option.bind_some, h2, decide_false]
    rfl
theorem f131 (t : Task) (l : List Int) (hl : l.length ≤ 9223372036854775807) : F131 (t, l, ()) = some (decide (t.1 ∈ l), ()) := by
  simp only [F131, f161 l t.1 hl, Option.bind_some]
theorem eN (r : Node) : (r.1, r.2.1, r.2.2.1, ()) = r := rfl
theorem eT (r : Task) : (r.1, r.2.1, r.2.2.1, r.2.2.2.1, r.2.2.2.2.1, ()) = r := rfl
theorem eR (r : Run) : (r.1, r.2.1, (r.2.2.1.1, ()), r.2.2.2.1, r.2.2.2.2.1, ()) = r := rfl
/-- The way out of 'is there one', told by what it says alone. -/
def found {Y Z : Type} : (Int × Y) ⊕ Z → Bool
  | .inl y => decide (y.1 ≥ Int.ofNat 0)
  | .inr _ => false
theorem neg_ge : decide (Int.negSucc 0 ≥ Int.ofNat 0) = false := by decide
theorem nat_ge (i : Nat) : decide ((i : Int) ≥ Int.ofNat 0) = true := decide_eq_true (Int.natCast_nonneg i)
theorem f104 (r : Run) (l : List Int) (hl : l.length ≤ 9223372036854775807) (hr : r.2.2.2.2.1.length ≤ 9223372036854775807) : F104 (r, l, ()) = some (decide (∀ t ∈ r.2.2.2.2.1, t.1 ∈ l), ()) := by
  obtain ⟨id, key, ⟨ns, _⟩, state, ts, _⟩ := r
  simp only at hr
  obtain ⟨y, hy, hq⟩ := rng_hoare (st := L104_1010240t) ts.length (fun i (_ : Unit) => (ts, (ts.length : Int), (i : Int), l, id, key, ns, state, ts, ())) (fun i _ => ∀ t ∈ ts.take i, t.1 ∈ l)
    (fun y => found y = !decide (∀ t ∈ ts, t.1 ∈ l)) (fun i _ h hx => by
      simp only [L104_1010240t, L104_1010240s0, rg_lt h, rg_in h, rg_ltn h, Int.toNat_natCast, cond_true, eT, f131 _ l hl, Option.bind_some, Bool.not_true, Bool.not_false]
      by_cases hm : (ts.getD i (dft sTask)).1 ∈ l
      · rw [decide_eq_true hm]
        refine .inl ⟨(), by rw [rg_wrap (by omega)]; rfl, fun t ht => ?_⟩
        rcases mem_take_succ h (dft sTask) ht with h1 | h1
        · exact hx t h1
        · rw [h1]; exact hm
      · rw [decide_eq_false hm]
        refine .inr ⟨_, rfl, ?_⟩
        simp only [found]
        rw [nat_ge, decide_eq_false (fun hall => hm (hall _ (getD_mem h _)))]
        rfl) (fun _ hx => ⟨.inr (l, id, key, ns, state, ts, ()), by simp only [L104_1010240t, L104_1010240s0, rg_end, cond_false], by
        rw [List.take_length] at hx
        simp only [found]
        rw [decide_eq_true hx]
        rfl⟩) () (by simp)
  have hy' : L104_1010240 (ts, (ts.length : Int), Int.ofNat 0, l, id, key, ns, state, ts, ()) = some y := hy
  simp only [F104, hy', Option.bind_some]
  cases y with
  | inl a =>
    simp only [found] at hq
    simp only [hq, Bool.not_not]
  | inr b =>
    simp only [found] at hq
    have : decide (∀ t ∈ ts, t.1 ∈ l) = true := by simpa using hq
    rw [this]
    rfl
theorem f105 (r : Run) (l : List Int) (hl : l.length ≤ 9223372036854775807) (hr : r.2.2.2.2.1.length ≤ 9223372036854775807) : F105 (r, l, ()) = some (decide (∃ t ∈ r.2.2.2.2.1, t.1 ∈ l), ()) := by
  obtain ⟨id, key, ⟨ns, _⟩, state, ts, _⟩ := r
  simp only at hr
  obtain ⟨y, hy, hq⟩ := rng_hoare (st := L105_1010240t) ts.length (fun i (_ : Unit) => (ts, (ts.length : Int), (i : Int), l, id, key, ns, state, ts, ())) (fun i _ => ∀ t ∈ ts.take i, t.1 ∉ l)
    (fun y => found y = decide (∃ t ∈ ts, t.1 ∈ l)) (fun i _ h hx => by
      simp only [L105_1010240t, L105_1010240s0, rg_lt h, rg_in h, rg_ltn h, Int.toNat_natCast, cond_true, eT, f131 _ l hl, Option.bind_some, Bool.not_true, Bool.not_false]
      by_cases hm : (ts.getD i (dft sTask)).1 ∈ l
      · rw [decide_eq_true hm]
        refine .inr ⟨_, rfl, ?_⟩
        simp only [found]
        rw [nat_ge, decide_eq_true ⟨_, getD_mem h _, hm⟩]
      · rw [decide_eq_false hm]
        refine .inl ⟨(), by rw [rg_wrap (by omega)]; rfl, fun t ht => ?_⟩
        rcases mem_take_succ h (dft sTask) ht with h1 | h1
        · exact hx t h1
        · rw [h1]; exact hm) (fun _ hx => ⟨.inr (l, id, key, ns, state, ts, ()), by simp only [L105_1010240t, L105_1010240s0, rg_end, cond_false], by
        rw [List.take_length] at hx
        simp only [found]
        rw [decide_eq_false (fun ⟨t, h1, h2⟩ => hx t h1 h2)]⟩) () (by simp)
  have hy' : L105_1010240 (ts, (ts.length : Int), Int.ofNat 0, l, id, key, ns, state, ts, ()) = some y := hy
  simp only [F105, hy', Option.bind_some]
  cases y with
  | inl a =>
    simp only [found] at hq
    simp only [hq]
  | inr b =>
    simp only [found] at hq
    rw [neg_ge, hq]
def InR (n : Nat) (l : List Int) : Prop := ∀ v ∈ l, 0 ≤ v ∧ v < n
theorem f103 (r : Run) (nd : Node) (hn : nd.1.length ≤ 9223372036854775807) (hr : InR r.2.2.2.2.1.length nd.1) : ∃ b, F103 (r, nd, ()) = some (b, ()) := by
  obtain ⟨id, key, ⟨ns, _⟩, state, ts, _⟩ := r
  obtain ⟨l, n1, n2, _⟩ := nd
  simp only at hr hn
  obtain ⟨y, hy, hq⟩ := rng_hoare (st := L103_1010176t) l.length (fun i (_ : Unit) => (l, (l.length : Int), (i : Int), l, n1, n2, id, key, ns, state, ts, ())) (fun i _ => True)
    (fun y => True) (fun i _ h hx => by
      have hv := hr _ (getD_mem h (dft (.i .i64)))
      have hw : within 0 (l.getD i (dft (.i .i64))) ((ts.length : Int) - 1) = true := by simp only [within, Bool.and_eq_true, decide_eq_true_eq]; omega
      have hd : decide ((l.getD i (dft (.i .i64))).toNat < ts.length) = true := decide_eq_true (by omega)
      simp only [L103_1010176t, L103_1010176s0, rg_lt h, rg_in h, rg_ltn h, cond_true, Int.toNat_natCast, hw, hd]
      cases ((ts.getD (l.getD i (dft (.i .i64))).toNat (dft sTask)).1 != Int.ofNat 4)
      · exact .inl ⟨(), by rw [rg_wrap (by omega)]; rfl, trivial⟩
      · exact .inr ⟨_, rfl, trivial⟩) (fun _ hx => ⟨.inr (l, n1, n2, id, key, ns, state, ts, ()), by simp only [L103_1010176t, L103_1010176s0, rg_end, cond_false], trivial⟩) () trivial
  have hy' : L103_1010176 (l, (l.length : Int), Int.ofNat 0, l, n1, n2, id, key, ns, state, ts, ()) = some y := hy
  simp only [F103, hy', Option.bind_some]
  cases y <;> exact ⟨_, rfl⟩
/-- What a node may be told: its needs lie among so many. -/
def NdR (n : Nat) (ns : List Node) : Prop := ∀ nd ∈ ns, InR n nd.1 ∧ nd.1.length ≤ 9223372036854775807
theorem f72 (r : Run) (hns : r.2.2.1.1.length = r.2.2.2.2.1.length) (ht : r.2.2.2.2.1.length ≤ 9223372036854775807) (hr : NdR r.2.2.2.2.1.length r.2.2.1.1) : ∃ b, F72 (r, ()) = some (b, ()) ∧ (b = true → r.2.2.2.1 = 1 ∨ ∀ t ∈ r.2.2.2.2.1, t.1 ≠ 1) := by
  obtain ⟨id, key, ⟨ns, _⟩, state, ts, _⟩ := r
  simp only at hr hns ht
  obtain ⟨y, hy, hq⟩ := rng_hoare (st := L72_1004608t) ns.length (fun i (_ : Unit) => (ns, (ns.length : Int), (i : Int), id, key, ns, state, ts, ())) (fun i _ => True)
    (fun y => ∀ b, y = .inr b → b = (id, key, ns, state, ts, ())) (fun i _ h hx => by
      have hv := hr _ (getD_mem h (dft sNode))
      obtain ⟨b, hb⟩ := f103 (id, key, (ns, ()), state, ts, ()) (ns.getD i (dft sNode)) hv.2 hv.1
      simp only [L72_1004608t, L72_1004608s0, rg_lt h, rg_in h, rg_ltn h, cond_true, Int.toNat_natCast, eN, hb, Option.bind_some, rg_in (hns ▸ h : i < ts.length), rg_ltn (hns ▸ h : i < ts.length)]
      generalize (if false = true then !b == ((ts.getD i (dft sTask)).1 == Int.ofNat 0) else b == ((ts.getD i (dft sTask)).1 == Int.ofNat 0)) = c
      cases c
      · exact .inl ⟨(), by rw [rg_wrap (by omega)]; rfl, trivial⟩
      · exact .inr ⟨_, rfl, by intro b hb; cases hb⟩) (fun _ hx => ⟨.inr (id, key, ns, state, ts, ()), by simp only [L72_1004608t, L72_1004608s0, rg_end, cond_false], by intro b hb; cases hb; rfl⟩) () trivial
  have hy' : L72_1004608 (ns, (ns.length : Int), Int.ofNat 0, id, key, ns, state, ts, ()) = some y := hy
  have g4 : ∀ l : List Int, l.length ≤ 3 → _ := fun l hl => f104 (id, key, (ns, ()), state, ts, ()) l (by omega) ht
  have g5 : ∀ l : List Int, l.length ≤ 3 → _ := fun l hl => f105 (id, key, (ns, ()), state, ts, ()) l (by omega) ht
  have no1 : ∀ l : List Int, 1 ∉ l → (decide (∀ t ∈ ts, t.1 ∈ l)) = true → ∀ t ∈ ts, t.1 ≠ 1 := fun l h1 h2 t h3 h4 => h1 (h4 ▸ of_decide_eq_true h2 t h3)
  simp only [F72, hy', Option.bind_some]
  rcases hs : state == Int.ofNat 1 with _ | _
  · simp only [cond_false]
    cases state == Int.ofNat 2
    · simp only [cond_false]
      cases state == Int.ofNat 3
      · simp only [cond_false]
        cases state == Int.ofNat 4
        · exact ⟨_, rfl, fun h => nomatch h⟩
        · simp (disch := decide) only [cond_true, g5, Option.bind_some]
          cases decide (∃ t ∈ ts, t.1 ∈ List.take ((List.replicate 1 (Int.ofNat 0)).set 0 (Int.ofNat 6)).length (List.drop 0 ((List.replicate 1 (Int.ofNat 0)).set 0 (Int.ofNat 6))))
          · exact ⟨_, rfl, fun h => nomatch h⟩
          · simp (disch := decide) only [cond_true, g4, Option.bind_some]
            exact ⟨_, rfl, fun h => .inr (no1 _ (by decide) h)⟩
      · simp (disch := decide) only [cond_true, g5, Option.bind_some]
        cases decide (∃ t ∈ ts, t.1 ∈ List.take ((List.replicate 1 (Int.ofNat 0)).set 0 (Int.ofNat 5)).length (List.drop 0 ((List.replicate 1 (Int.ofNat 0)).set 0 (Int.ofNat 5))))
        · exact ⟨_, rfl, fun h => nomatch h⟩
        · simp (disch := decide) only [cond_true, g4, Option.bind_some]
          exact ⟨_, rfl, fun h => .inr (no1 _ (by decide) h)⟩
    · simp (disch := decide) only [cond_true, g4, Option.bind_some]
      exact ⟨_, rfl, fun h => .inr (no1 _ (by decide) h)⟩
  · simp only [cond_true]
    have h1 : state = 1 := by simpa using hs
    cases y with
    | inl a => exact ⟨_, rfl, fun _ => .inl h1⟩
    | inr b =>
      have := hq b rfl
      subst this
      simp (disch := decide) only [g4, Option.bind_some]
      cases !decide (∀ t ∈ ts, t.1 ∈ List.take ((List.replicate 1 (Int.ofNat 0)).set 0 (Int.ofNat 4)).length (List.drop 0 ((List.replicate 1 (Int.ofNat 0)).set 0 (Int.ofNat 4))))
      · exact ⟨_, rfl, fun h => .inl h1⟩
      · simp (disch := decide) only [cond_true, g5, Option.bind_some]
        exact ⟨_, rfl, fun _ => .inl h1⟩

/-! The graph's check: total; where it says yes, the needs lie among the nodes. -/
theorem f100 (i n : Int) (nd : Node) (hn : nd.1.length ≤ 9223372036854775807) : ∃ b, F100 (i, n, nd, ()) = some (b, ()) ∧ (b = true → ∀ v ∈ nd.1, 0 ≤ v ∧ v < n) := by
  obtain ⟨l, n1, n2, _⟩ := nd
  simp only at hn
  obtain ⟨y, hy, hq⟩ := rng_hoare (st := L100_1006400t) l.length (fun j (p : Int) => (i, n, p, l, (l.length : Int), (j : Int), ())) (fun j p => -1 ≤ p ∧ ∀ v ∈ l.take j, 0 ≤ v ∧ v < n)
    (fun y => (∀ a, y = .inl a → a = (false, ())) ∧ (∀ b, y = .inr b → ∀ v ∈ l, 0 ≤ v ∧ v < n)) (fun j p h hx => by
      simp only [L100_1006400t, L100_1006400s0, rg_lt h, rg_in h, rg_ltn h, cond_true, Int.toNat_natCast]
      by_cases h1 : l.getD j (dft (Sh.i IntKind.i64)) ≤ p
      · rw [decide_eq_true h1]
        exact .inr ⟨_, rfl, fun a ha => by cases ha; rfl, fun b hb => by cases hb⟩
      · rw [decide_eq_false h1]
        by_cases h2 : l.getD j (dft (Sh.i IntKind.i64)) ≥ n
        · rw [decide_eq_true h2]
          exact .inr ⟨_, rfl, fun a ha => by cases ha; rfl, fun b hb => by cases hb⟩
        · rw [decide_eq_false h2]
          cases (l.getD j (dft (Sh.i IntKind.i64)) == i)
          · refine .inl ⟨l.getD j (dft (Sh.i IntKind.i64)), by rw [rg_wrap (by omega)]; rfl, by omega, fun v hv => ?_⟩
            rcases mem_take_succ h (dft (Sh.i IntKind.i64)) hv with h3 | h3
            · exact hx.2 v h3
            · rw [h3]; omega
          · exact .inr ⟨_, rfl, fun a ha => by cases ha; rfl, fun b hb => by cases hb⟩)
    (fun p hx => ⟨.inr (), by simp only [L100_1006400t, L100_1006400s0, rg_end, cond_false], fun a ha => (by cases ha), fun b hb v hv => hx.2 v (by rw [List.take_length]; exact hv)⟩) (-1) ⟨by omega, by simp⟩
  have hy' : L100_1006400 (i, n, Int.negSucc 0, l, (l.length : Int), Int.ofNat 0, ()) = some y := hy
  simp only [F100, hy', Option.bind_some]
  cases decide (n1 < Int.ofNat 1)
  · cases decide (n1 > Int.ofNat 5)
    · cases decide (n2 < Int.ofNat 0)
      · cases decide (n2 > Int.ofNat 1048576)
        · cases y with
          | inl a => have := hq.1 a rfl; subst this; exact ⟨_, rfl, fun h => nomatch h⟩
          | inr b => exact ⟨_, rfl, fun _ => hq.2 b rfl⟩
        · exact ⟨_, rfl, fun h => nomatch h⟩
      · exact ⟨_, rfl, fun h => nomatch h⟩
    · exact ⟨_, rfl, fun h => nomatch h⟩
  · exact ⟨_, rfl, fun h => nomatch h⟩
abbrev Arr := List Bool
theorem cell_ok {a : Arr} (ha : a.length = 144) {i j : Nat} (hi : i < 12) (hj : j < 12) : (decide (0 + i * 12 + j * 1 < a.length) && decide (144 = a.length)) = true := by
  rw [ha]; simp; omega
theorem in12 {i : Nat} (h : i < 12) : within 0 (i : Int) ((↑12 : Int) - 1) = true := by simp [within]; omega
theorem l486 (n : Nat) (hn : n ≤ 12) (a : Arr) (ha : a.length = 144) : ∃ y, L70_1004486 ((n : Int), Int.ofNat 0, a, ()) = some y := by
  obtain ⟨y, hy, _⟩ := rng_hoare (st := L70_1004486t) n (fun i (_ : Unit) => ((n : Int), (i : Int), a, ())) (fun _ _ => True) (fun _ => True) (fun i _ h hx => by
      have hi : i < 12 := by omega
      simp only [L70_1004486t, L70_1004486s0, rg_lt h, in12 hi, cond_true, Int.toNat_natCast, cell_ok ha hi hi]
      cases a.getD (0 + i * 12 + i * 1) (dft Sh.b)
      · exact .inl ⟨(), by rw [rg_wrap (by omega)]; rfl, trivial⟩
      · exact .inr ⟨_, rfl, trivial⟩) (fun _ _ => ⟨.inr (a, ()), by simp only [L70_1004486t, L70_1004486s0, rg_end, cond_false], trivial⟩) () trivial
  exact ⟨y, hy⟩
theorem l485 (n k i : Nat) (hn : n ≤ 12) (hk : k < 12) (hi : i < 12) (x1 x2 x3 x4 : Int) (a : Arr) (ha : a.length = 144) : ∃ a' : Arr, L70_1004485 ((n : Int), (k : Int), (i : Int), x1, x2, x3, x4, (n : Int), Int.ofNat 0, a, ()) = some ((n : Int), (k : Int), x1, x2, x3, x4, a', ()) ∧ a'.length = 144 := by
  obtain ⟨y, hy, a', rfl, h⟩ := rng_hoare (st := L70_1004485t) n (fun j (a : Arr) => ((n : Int), (k : Int), (i : Int), x1, x2, x3, x4, (n : Int), (j : Int), a, ())) (fun _ a => a.length = 144)
    (fun y => ∃ a' : Arr, y = ((n : Int), (k : Int), x1, x2, x3, x4, a', ()) ∧ a'.length = 144) (fun j a h hx => by
      have hj : j < 12 := by omega
      simp only [L70_1004485t, L70_1004485s0, rg_lt h, in12 hi, in12 hj, in12 hk, cond_true, Int.toNat_natCast, cell_ok hx hi hj, cell_ok hx hi hk, cell_ok hx hk hj]
      rw [rg_wrap (by omega)]
      refine .inl ?_
      cases a.getD (0 + i * 12 + j * 1) (dft Sh.b)
      · cases a.getD (0 + i * 12 + k * 1) (dft Sh.b)
        · exact ⟨_, rfl, by rw [List.length_set]; exact hx⟩
        · exact ⟨_, rfl, by rw [List.length_set]; exact hx⟩
      · exact ⟨_, rfl, by rw [List.length_set]; exact hx⟩) (fun a hx => ⟨_, by simp only [L70_1004485t, L70_1004485s0, rg_end, cond_false], a, rfl, hx⟩) a ha
  exact ⟨a', hy, h⟩
theorem l484 (n k : Nat) (hn : n ≤ 12) (hk : k < 12) (x1 x2 : Int) (a : Arr) (ha : a.length = 144) : ∃ a' : Arr, L70_1004484 ((n : Int), (k : Int), x1, x2, (n : Int), Int.ofNat 0, a, ()) = some ((n : Int), x1, x2, a', ()) ∧ a'.length = 144 := by
  obtain ⟨y, hy, a', rfl, h⟩ := rng_hoare (st := L70_1004484t) n (fun j (a : Arr) => ((n : Int), (k : Int), x1, x2, (n : Int), (j : Int), a, ())) (fun _ a => a.length = 144)
    (fun y => ∃ a' : Arr, y = ((n : Int), x1, x2, a', ()) ∧ a'.length = 144) (fun j a h hx => by
      obtain ⟨a', h1, h2⟩ := l485 n k j hn hk (by omega) x1 x2 (n : Int) (j : Int) a hx
      simp only [L70_1004484t, L70_1004484s0, rg_lt h, cond_true, h1, Option.bind_some]
      rw [rg_wrap (by omega)]
      exact .inl ⟨a', rfl, h2⟩) (fun a hx => ⟨_, by simp only [L70_1004484t, L70_1004484s0, rg_end, cond_false], a, rfl, hx⟩) a ha
  exact ⟨a', hy, h⟩
theorem l483 (n : Nat) (hn : n ≤ 12) (a : Arr) (ha : a.length = 144) : ∃ a' : Arr, L70_1004483 ((n : Int), (n : Int), Int.ofNat 0, a, ()) = some ((n : Int), a', ()) ∧ a'.length = 144 := by
  obtain ⟨y, hy, a', rfl, h⟩ := rng_hoare (st := L70_1004483t) n (fun j (a : Arr) => ((n : Int), (n : Int), (j : Int), a, ())) (fun _ a => a.length = 144)
    (fun y => ∃ a' : Arr, y = ((n : Int), a', ()) ∧ a'.length = 144) (fun j a h hx => by
      obtain ⟨a', h1, h2⟩ := l484 n j hn (by omega) (n : Int) (j : Int) a hx
      simp only [L70_1004483t, L70_1004483s0, rg_lt h, cond_true, h1, Option.bind_some]
      rw [rg_wrap (by omega)]
      exact .inl ⟨a', rfl, h2⟩) (fun a hx => ⟨_, by simp only [L70_1004483t, L70_1004483s0, rg_end, cond_false], a, rfl, hx⟩) a ha
  exact ⟨a', hy, h⟩
theorem l482 (n i : Nat) (hn : n ≤ 12) (hi : i < 12) (ns : List Node) (x1 x2 : Int) (l : List Int) (hl : l.length ≤ 9223372036854775807) (hr : InR n l) (a : Arr) (ha : a.length = 144) : ∃ a' : Arr, L70_1004482 ((n : Int), (i : Int), ns, x1, x2, l, (l.length : Int), Int.ofNat 0, a, ()) = some ((n : Int), ns, x1, x2, a', ()) ∧ a'.length = 144 := by
  obtain ⟨y, hy, a', rfl, h⟩ := rng_hoare (st := L70_1004482t) l.length (fun j (a : Arr) => ((n : Int), (i : Int), ns, x1, x2, l, (l.length : Int), (j : Int), a, ())) (fun _ a => a.length = 144)
    (fun y => ∃ a' : Arr, y = ((n : Int), ns, x1, x2, a', ()) ∧ a'.length = 144) (fun j a h hx => by
      have hv := hr _ (getD_mem h (dft (Sh.i IntKind.i64)))
      obtain ⟨v, hv2⟩ : ∃ v : Nat, l.getD j (dft (Sh.i IntKind.i64)) = (v : Int) := ⟨(l.getD j (dft (Sh.i IntKind.i64))).toNat, by omega⟩
      have hv3 : v < 12 := by omega
      simp only [L70_1004482t, L70_1004482s0, rg_lt h, rg_in h, rg_ltn h, in12 hi, cond_true, Int.toNat_natCast, hv2, in12 hv3, cell_ok hx hi hv3]
      rw [rg_wrap (by omega)]
      exact .inl ⟨_, rfl, by rw [List.length_set]; exact hx⟩) (fun a hx => ⟨_, by simp only [L70_1004482t, L70_1004482s0, rg_end, cond_false], a, rfl, hx⟩) a ha
  exact ⟨a', hy, h⟩
theorem l481 (n : Nat) (hn : n ≤ 12) (ns : List Node) (hl : ns.length = n) (hr : NdR n ns) (a : Arr) (ha : a.length = 144) : ∃ a' : Arr, L70_1004481 ((n : Int), ns, (ns.length : Int), Int.ofNat 0, a, ()) = some ((n : Int), a', ()) ∧ a'.length = 144 := by
  obtain ⟨y, hy, a', rfl, h⟩ := rng_hoare (st := L70_1004481t) ns.length (fun j (a : Arr) => ((n : Int), ns, (ns.length : Int), (j : Int), a, ())) (fun _ a => a.length = 144)
    (fun y => ∃ a' : Arr, y = ((n : Int), a', ()) ∧ a'.length = 144) (fun j a h hx => by
      have hv := hr _ (getD_mem h (dft sNode))
      obtain ⟨a', h1, h2⟩ := l482 n j hn (by omega) ns (ns.length : Int) (j : Int) _ hv.2 hv.1 a hx
      simp only [L70_1004481t, L70_1004481s0, rg_lt h, rg_in h, rg_ltn h, cond_true, Int.toNat_natCast, h1, Option.bind_some]
      rw [rg_wrap (by omega)]
      exact .inl ⟨a', rfl, h2⟩) (fun a hx => ⟨_, by simp only [L70_1004481t, L70_1004481s0, rg_end, cond_false], a, rfl, hx⟩) a ha
  exact ⟨a', hy, h⟩
theorem l480 (n : Nat) (ns : List Node) (hl : ns.length = n) (hn : n ≤ 12) (hr : ∀ nd ∈ ns, nd.1.length ≤ 9223372036854775807) : ∃ y, L70_1004480 ((n : Int), ns, (ns.length : Int), Int.ofNat 0, ns, ()) = some y ∧ (∀ b, y = .inr b → b = ((n : Int), ns, ()) ∧ NdR n ns) ∧ (∀ a, y = .inl a → a.1 = 230) := by
  obtain ⟨y, hy, h⟩ := rng_hoare (st := L70_1004480t) ns.length (fun j (_ : Unit) => ((n : Int), ns, (ns.length : Int), (j : Int), ns, ())) (fun j _ => NdR n (ns.take j))
    (fun y => (∀ b, y = .inr b → b = ((n : Int), ns, ()) ∧ NdR n ns) ∧ (∀ a, y = .inl a → a.1 = 230)) (fun j a h hx => by
      obtain ⟨b, h1, h2⟩ := f100 (j : Int) (n : Int) _ (hr _ (getD_mem h (dft sNode)))
      simp only [L70_1004480t, L70_1004480s0, rg_lt h, rg_in h, rg_ltn h, cond_true, Int.toNat_natCast, eN, h1, Option.bind_some]
      rw [rg_wrap (by omega)]
      cases b
      · exact .inr ⟨_, rfl, fun b hb => by (cases hb), fun a ha => by cases ha; rfl⟩
      · refine .inl ⟨(), rfl, fun nd hnd => ?_⟩
        rcases mem_take_succ h (dft sNode) hnd with h3 | h3
        · exact hx nd h3
        · rw [h3]; exact ⟨h2 rfl, hr _ (getD_mem h (dft sNode))⟩) (fun a hx => ⟨.inr ((n : Int), ns, ()), by simp only [L70_1004480t, L70_1004480s0, rg_end, cond_false], fun b hb => by cases hb; exact ⟨rfl, by rw [List.take_length] at hx; exact hx⟩, fun a ha => by cases ha⟩) () (by intro nd h; simp at h)
  exact ⟨y, hy, h⟩
theorem f70 (ns : List Node) (hr : ∀ nd ∈ ns, nd.1.length ≤ 9223372036854775807) : ∃ v, F70 ((ns, ()), ()) = some (v, ()) ∧ (v = 0 → ns.length ≤ 12 ∧ NdR ns.length ns) := by
  simp only [F70]
  by_cases h1 : ((ns.length : Nat) : Int) < Int.ofNat 1
  · rw [decide_eq_true h1]; exact ⟨_, rfl, fun h => absurd h (by decide)⟩
  · rw [decide_eq_false h1]
    by_cases h2 : ((ns.length : Nat) : Int) > Int.ofNat 12
    · rw [decide_eq_true h2]; exact ⟨_, rfl, fun h => absurd h (by decide)⟩
    · rw [decide_eq_false h2]
      have h12 : ns.length ≤ 12 := by simp only [ofN] at h2; omega
      obtain ⟨y, hy, h3, h4⟩ := l480 ns.length ns rfl h12 hr
      simp only [cond_false, hy, Option.bind_some]
      cases y with
      | inl a => exact ⟨_, rfl, fun h => absurd ((h4 a rfl).symm.trans h) (by decide)⟩
      | inr b =>
        obtain ⟨rfl, hnd⟩ := h3 b rfl
        simp only
        obtain ⟨a1, e1, g1⟩ := l481 ns.length h12 ns rfl hnd (List.replicate 144 false) (by simp)
        have e1' := e1
        simp only [List.replicate] at e1'
        rw [e1']
        simp only [Option.bind_some]
        obtain ⟨a2, e2, g2⟩ := l483 ns.length h12 a1 g1
        rw [e2]
        simp only [Option.bind_some]
        obtain ⟨y3, e3⟩ := l486 ns.length h12 a2 g2
        rw [e3]
        simp only [Option.bind_some]
        cases y3 <;> exact ⟨_, rfl, fun _ => ⟨h12, hnd⟩⟩

/-! A run's check. -/
theorem bif_ex {c : Bool} {p q : Option (Bool × Unit)} (h1 : ∃ b, p = some (b, ())) (h2 : ∃ b, q = some (b, ())) : ∃ b, (bif c then p else q) = some (b, ()) := by cases c <;> assumption
theorem bind_ex {A : Type} {p : Option A} {f : A → Option (Bool × Unit)} (h1 : ∃ a, p = some a) (h2 : ∀ a, ∃ b, f a = some (b, ())) : ∃ b, p.bind f = some (b, ()) := by
  obtain ⟨a, rfl⟩ := h1; exact h2 a
theorem f125 (n : Int) : ∃ b, F125 (n, ()) = some b := by simp only [F125]; cases decide (n ≥ Int.ofNat 0) <;> exact ⟨_, rfl⟩
theorem f126 (n : Int) : ∃ b, F126 (n, ()) = some b := by simp only [F126]; cases decide (n ≥ Int.ofNat 0) <;> exact ⟨_, rfl⟩
theorem f101 (nd : Node) : ∃ b, F101 (nd, ()) = some (b, ()) := by
  simp only [F101]
  repeat' first | exact ⟨_, rfl⟩ | apply bif_ex
theorem f102 (nd : Node) (t : Task) : ∃ b, F102 (nd, t, ()) = some (b, ()) := by
  simp only [F102]
  repeat' first | exact ⟨_, rfl⟩ | apply bif_ex | (apply bind_ex (f125 _); intro _) | (apply bind_ex (f126 _); intro _)
theorem f71 (nd : Node) (t : Task) : ∃ v, F71 (nd, t, ()) = some (v, ()) := by
  obtain ⟨b1, h1⟩ := f101 nd
  obtain ⟨b2, h2⟩ := f102 nd t
  simp only [F71, eN, eT, h1, h2, Option.bind_some]
  cases b1 <;> cases b2 <;> exact ⟨_, rfl⟩
/-- What is known of a run that was read. -/
def OkR (r : Run) : Prop := r.2.2.1.1.length ≤ 9223372036854775807 ∧ (∀ nd ∈ r.2.2.1.1, nd.1.length ≤ 9223372036854775807) ∧ r.2.2.2.2.1.length ≤ 9223372036854775807
theorem f36 (r : Run) (hr : OkR r) : ∃ v, F36 (r, ()) = some (v, ()) ∧ (v = 0 → r.2.2.2.2.1.length ≤ 12) := by
  obtain ⟨id, key, ⟨ns, _⟩, state, ts, _⟩ := r
  obtain ⟨hr1, hr2, hr3⟩ := hr
  simp only at hr1 hr2 hr3
  have ne8 : ∀ p : Prop, (Int.ofNat 8 = 0 → p) := fun p h => absurd h (by decide)
  simp only [F36]
  cases decide (id < Int.ofNat 0)
  · cases decide (id > Int.ofNat 1099511627776)
    · cases decide ((key.size : Int) < Int.ofNat 1)
      · cases decide ((key.size : Int) > Int.ofNat 24)
        · obtain ⟨v, hv, hv0⟩ := f70 ns hr2
          simp only [cond_false, hv, Option.bind_some]
          by_cases hz : v = 0
          · obtain ⟨h12, hnd⟩ := hv0 hz
            rw [show (v != Int.ofNat 0) = false by rw [hz]; rfl]
            simp only [cond_false]
            rcases hlen : ((ts.length : Int) != (ns.length : Int)) with _ | _
            · have hl : ns.length = ts.length := by
                have : (ts.length : Int) = (ns.length : Int) := by simpa using hlen
                omega
              obtain ⟨y, hy, hq1, hq2⟩ := rng_hoare (st := L36_1002304t) ns.length (fun i (_ : Unit) => (ns, (ns.length : Int), (i : Int), id, key, ns, state, ts, ())) (fun i _ => True)
                (fun y => (∀ b, y = .inr b → b = (id, key, ns, state, ts, ())) ∧ (∀ a, y = .inl a → a.1 = Int.ofNat 8)) (fun i _ h hx => by
                  obtain ⟨v, hv⟩ := f71 (ns.getD i (dft sNode)) (ts.getD i (dft sTask))
                  simp only [L36_1002304t, L36_1002304s0, rg_lt h, rg_in h, rg_ltn h, cond_true, Int.toNat_natCast, eN, eT, hv, Option.bind_some, rg_in (hl ▸ h : i < ts.length), rg_ltn (hl ▸ h : i < ts.length)]
                  rw [rg_wrap (by omega)]
                  cases (v != Int.ofNat 0)
                  · exact .inl ⟨(), rfl, trivial⟩
                  · exact .inr ⟨_, rfl, fun b hb => (by cases hb), fun a ha => by cases ha; rfl⟩) (fun _ hx => ⟨.inr (id, key, ns, state, ts, ()), by simp only [L36_1002304t, L36_1002304s0, rg_end, cond_false], fun b hb => (by cases hb; rfl), fun a ha => by cases ha⟩) () trivial
              have hy' : L36_1002304 (ns, (ns.length : Int), Int.ofNat 0, id, key, ns, state, ts, ()) = some y := hy
              simp only [cond_false, hy', Option.bind_some]
              cases y with
              | inl a => exact ⟨_, rfl, fun h => absurd ((hq2 a rfl).symm.trans h) (by decide)⟩
              | inr b =>
                have := hq1 b rfl
                subst this
                obtain ⟨b, hb, hb2⟩ := f72 (id, key, (ns, ()), state, ts, ()) hl hr3 (by simp only; rw [← hl]; exact hnd)
                simp only [hb, Option.bind_some]
                cases b
                · exact ⟨_, rfl, ne8 _⟩
                · exact ⟨_, rfl, fun _ => (by show ts.length ≤ 12; omega)⟩
            · exact ⟨_, rfl, ne8 _⟩
          · rw [show (v != Int.ofNat 0) = true by simpa using hz]
            exact ⟨_, rfl, ne8 _⟩
        · exact ⟨_, rfl, ne8 _⟩
      · exact ⟨_, rfl, ne8 _⟩
    · exact ⟨_, rfl, ne8 _⟩
  · exact ⟨_, rfl, ne8 _⟩

/-! The whole check. -/
def rdyT (ts : List Task) : List Int := (ts.filter (fun t => t.1 == Int.ofNat 1)).map (fun t => t.2.2.2.2.1)
def rdy (rs : List Run) : List Int := rs.flatMap (fun r => rdyT r.2.2.2.2.1)
theorem rdyT_succ {ts : List Task} {j : Nat} (h : j < ts.length) (d : Task) : rdyT (ts.take (j + 1)) = rdyT (ts.take j) ++ (bif (ts.getD j d).1 == Int.ofNat 1 then [(ts.getD j d).2.2.2.2.1] else []) := by
  rw [List.take_succ_eq_append_getElem h, getD_get h]
  simp only [rdyT, List.filter_append, List.map_append, List.filter_cons, List.filter_nil]
  cases ts[j].1 == Int.ofNat 1 <;> rfl
theorem rdy_succ {rs : List Run} {j : Nat} (h : j < rs.length) (d : Run) : rdy (rs.take (j + 1)) = rdy (rs.take j) ++ rdyT (rs.getD j d).2.2.2.2.1 := by
  rw [List.take_succ_eq_append_getElem h, getD_get h]
  simp only [rdy, List.flatMap_append, List.flatMap_cons, List.flatMap_nil, List.append_nil]
theorem has_set {K V : Type} [BEq K] [LawfulBEq K] (v : V) (x k : K) : ∀ l : List (K × V), mapHas (mapSet l x v) k = (k == x || mapHas l k)
  | [] => by simp [mapSet, mapHas]
  | (a, w) :: l => by
    simp only [mapSet]
    by_cases h : x == a
    · have : x = a := by simpa using h
      subst this
      simp [mapHas]
    · rw [if_neg h]
      simp only [mapHas, has_set v x k l]
      cases k == a <;> cases k == x <;> rfl
abbrev Mp := List (Int × Unit)
/-- The map holds these numbers, each once. -/
def MOk (m : Mp) (l : List Int) : Prop := (∀ k, mapHas m k = true ↔ k ∈ l) ∧ l.Nodup
theorem mok_set {m : Mp} {l : List Int} {x : Int} (h : MOk m l) (hx : mapHas m x = false) : MOk (mapSet m x ()) (l ++ [x]) := by
  have hn : x ∉ l := fun h2 => by rw [(h.1 x).2 h2] at hx; cases hx
  refine ⟨fun k => ?_, ?_⟩
  · rw [has_set]
    simp only [Bool.or_eq_true, beq_iff_eq, h.1 k, List.mem_append, List.mem_singleton]
    exact Or.comm
  · rw [List.nodup_append]
    exact ⟨h.2, by simp, fun a ha b hb => by simp only [List.mem_singleton] at hb; subst hb; exact fun e => hn (e ▸ ha)⟩
theorem l40t (rs : List Run) (x1 x2 : Int) (ts : List Task) (ht : ts.length ≤ 9223372036854775807) (m1 m2 : Mp) (l : List Int) (hm : MOk m2 l) :
    ∃ y, L40_1002561 (rs, rs, x1, x2, ts, (ts.length : Int), Int.ofNat 0, m1, m2, ()) = some y ∧ ((∃ a, y = .inl a ∧ a.1 = 8) ∨ (∃ a, y = .inr (.inl a) ∧ a.1 = 8) ∨ (∃ m1' m2' : Mp, y = .inr (.inr (rs, rs, x1, x2, m1', m2', ())) ∧ MOk m2' (l ++ rdyT ts))) := by
  obtain ⟨y, hy, hq⟩ := rng_hoare (st := L40_1002561t) ts.length (fun j (a : Mp × Mp) => (rs, rs, x1, x2, ts, (ts.length : Int), (j : Int), a.1, a.2, ())) (fun j a => MOk a.2 (l ++ rdyT (ts.take j)))
    (fun y => ((∃ a, y = .inl a ∧ a.1 = 8) ∨ (∃ a, y = .inr (.inl a) ∧ a.1 = 8) ∨ (∃ m1' m2' : Mp, y = .inr (.inr (rs, rs, x1, x2, m1', m2', ())) ∧ MOk m2' (l ++ rdyT ts)))) (fun j a h hx => by
      obtain ⟨m1, m2⟩ := a
      simp only at hx
      simp only [L40_1002561t, L40_1002561s0, rg_lt h, rg_in h, rg_ltn h, cond_true, Int.toNat_natCast]
      rw [rg_wrap (by omega)]
      have hs := rdyT_succ h (dft sTask)
      generalize ts.getD j (dft sTask) = t at hs
      have step : ∀ m : Mp, m = m2 → (t.1 == Int.ofNat 1) = false → MOk m (l ++ rdyT (ts.take (j + 1))) := fun m e h2 => by
        rw [hs, h2, e]; simpa using hx
      have step2 : (t.1 == Int.ofNat 1) = true → mapHas m2 t.2.2.2.2.1 = false → MOk (mapSet m2 t.2.2.2.2.1 ()) (l ++ rdyT (ts.take (j + 1))) := fun h2 h3 => by
        rw [hs, h2, cond_true, ← List.append_assoc]; exact mok_set hx h3
      cases (t.1 == Int.ofNat 2)
      · simp only [cond_false]
        rcases h2 : (t.1 == Int.ofNat 1) with _ | _
        · exact .inl ⟨(m1, m2), rfl, step _ rfl h2⟩
        · simp only [cond_true]
          rcases h3 : mapHas m2 t.2.2.2.2.1 with _ | _
          · exact .inl ⟨(m1, _), rfl, step2 h2 h3⟩
          · exact .inr ⟨_, rfl, .inl ⟨_, rfl, rfl⟩⟩
      · simp only [cond_true]
        cases mapHas m1 t.2.2.2.1
        · simp only [cond_false]
          rcases h2 : (t.1 == Int.ofNat 1) with _ | _
          · exact .inl ⟨(_, m2), rfl, step _ rfl h2⟩
          · simp only [cond_true]
            rcases h3 : mapHas m2 t.2.2.2.2.1 with _ | _
            · exact .inl ⟨(_, _), rfl, step2 h2 h3⟩
            · exact .inr ⟨_, rfl, .inr (.inl ⟨_, rfl, rfl⟩)⟩
        · exact .inr ⟨_, rfl, .inl ⟨_, rfl, rfl⟩⟩) (fun a hx => ⟨_, by simp only [L40_1002561t, L40_1002561s0, rg_end, cond_false], .inr (.inr ⟨a.1, a.2, rfl, by rw [List.take_length] at hx; exact hx⟩)⟩) (m1, m2) (by simpa [rdyT] using hm)
  exact ⟨y, hy, hq⟩
theorem l40k (rs : List Run) (hl : rs.length ≤ 9223372036854775807) (r : Run) :
    ∃ y, L40_1006784 (rs, (rs.length : Int), Int.ofNat 0, r.1, r.2.1, r.2.2.1.1, r.2.2.2.1, r.2.2.2.2.1, ()) = some y ∧ ((∃ a, y = .inl a ∧ decide (a.1 ≥ Int.ofNat 0) = true) ∨ (y = .inr (r.1, r.2.1, r.2.2.1.1, r.2.2.2.1, r.2.2.2.2.1, ()))) := by
  obtain ⟨y, hy, hq⟩ := rng_hoare (st := L40_1006784t) rs.length (fun j (_ : Unit) => (rs, (rs.length : Int), (j : Int), r.1, r.2.1, r.2.2.1.1, r.2.2.2.1, r.2.2.2.2.1, ())) (fun j a => True)
    (fun y => ((∃ a, y = .inl a ∧ decide (a.1 ≥ Int.ofNat 0) = true) ∨ (y = .inr (r.1, r.2.1, r.2.2.1.1, r.2.2.2.1, r.2.2.2.2.1, ())))) (fun j a h hx => by
      simp only [L40_1006784t, L40_1006784s0, rg_lt h, rg_in h, rg_ltn h, cond_true, Int.toNat_natCast]
      rw [rg_wrap (by omega)]
      cases (ByteArray.toList (rs.getD j (dft sRun)).2.1 == ByteArray.toList r.2.1)
      · exact .inl ⟨(), rfl, trivial⟩
      · exact .inr ⟨_, rfl, .inl ⟨_, rfl, nat_ge j⟩⟩) (fun a hx => ⟨_, by simp only [L40_1006784t, L40_1006784s0, rg_end, cond_false], .inr rfl⟩) () trivial
  exact ⟨y, hy, hq⟩

theorem wrap_sub1 {i : Nat} (h1 : 0 < i) (h : i < 9223372036854775807) : IntKind.i64.wrap ((i : Int) - Int.ofNat 1) = ((i - 1 : Nat) : Int) := by
  unfold IntKind.wrap
  simp [IntKind.bits, IntKind.signed]
  omega
theorem comb {X Y : Type} (rs : List Run) (i : Nat) (h : i < rs.length) (hm : rs.length ≤ 9223372036854775807) (r : Run) (e : Y) (z : X ⊕ Y) :
    (bif decide ((i : Int) > Int.ofNat 0) then (bif within 0 (IntKind.i64.wrap ((i : Int) - Int.ofNat 1)) ((rs.length : Int) - 1) then (bif decide ((IntKind.i64.wrap ((i : Int) - Int.ofNat 1)).toNat < rs.length) then (bif decide (r.1 ≤ (rs.getD (IntKind.i64.wrap ((i : Int) - Int.ofNat 1)).toNat (dft sRun)).1) then (some (.inr e)) else bif within 0 (i : Int) (rs.length : Int) then (some z) else none) else none) else none) else bif within 0 (i : Int) (rs.length : Int) then (some z) else none)
      = some (if 0 < i ∧ r.1 ≤ (rs.getD (i - 1) (dft sRun)).1 then .inr e else z) := by
  have hw : within 0 (i : Int) (rs.length : Int) = true := by simp [within]; omega
  rw [hw]
  rcases Nat.eq_zero_or_pos i with rfl | hp
  · rfl
  · rw [wrap_sub1 hp (by omega), rg_in (show i - 1 < rs.length by omega), Int.toNat_natCast, rg_ltn (show i - 1 < rs.length by omega), decide_eq_true (show (i : Int) > Int.ofNat 0 by simp only [ofN]; omega)]
    simp only [cond_true]
    by_cases hc : r.1 ≤ (rs.getD (i - 1) (dft sRun)).1
    · rw [decide_eq_true hc, if_pos ⟨hp, hc⟩]; rfl
    · rw [decide_eq_false hc, if_neg fun h => hc h.2]; rfl
/-- What the whole check tells. -/
structure Good (rs : List Run) (rs0 : List Run) : Prop where
  up : ∀ i j : Nat, i < j → j < rs.length → (rs.getD i (dft sRun)).1 < (rs.getD j (dft sRun)).1
  chk : ∀ r ∈ rs, F36 (r, ()) = some (Int.ofNat 0, ())
  rd : (rdy rs).Nodup
def code {A B C D E : Type} : (Int × A) ⊕ ((Int × B) ⊕ ((Int × C) ⊕ ((Int × D) ⊕ E))) → Int
  | .inl a => a.1
  | .inr (.inl a) => a.1
  | .inr (.inr (.inl a)) => a.1
  | .inr (.inr (.inr (.inl a))) => a.1
  | .inr (.inr (.inr (.inr _))) => 0
theorem getD_take {α : Type} {l : List α} {n i : Nat} (h : i < n) (d : α) : (l.take n).getD i d = l.getD i d := by
  simp [List.getD_eq_getElem?_getD, List.getElem?_take, h]
theorem l40 (rs : List Run) (hm : rs.length ≤ 9223372036854775807) (hr : ∀ r ∈ rs, OkR r) :
    ∃ y, L40_1002560 (rs, rs, (rs.length : Int), Int.ofNat 0, [], [], ()) = some y ∧ (code y = 0 → Good rs rs) := by
  obtain ⟨y, hy, hq⟩ := rng_hoare (st := L40_1002560t) rs.length (fun j (a : Mp × Mp) => (rs, rs, (rs.length : Int), (j : Int), a.1, a.2, ())) (fun j a => Good (rs.take j) rs ∧ MOk a.2 (rdy (rs.take j)))
    (fun y => code y = 0 → Good rs rs) (fun j a h hx => by
      obtain ⟨m1, m2⟩ := a
      obtain ⟨hg, hmm⟩ := hx
      simp only at hmm
      have ne8 : ∀ p : Prop, ((8 : Int) = 0 → p) := fun p h => absurd h (by decide)
      have hok := hr _ (getD_mem h (dft sRun))
      obtain ⟨v, hv, -⟩ := f36 _ hok
      have hs := rdy_succ h (dft sRun)
      have hcons : ¬(0 < j ∧ (rs.getD j (dft sRun)).1 ≤ (rs.getD (j - 1) (dft sRun)).1) → v = Int.ofNat 0 → (rdy (rs.take (j + 1))).Nodup → Good (rs.take (j + 1)) rs := fun h1 h2 h3 => by
        refine ⟨fun a b hab hb => ?_, fun r hr => ?_, h3⟩
        · rw [List.length_take] at hb
          rw [getD_take (by omega), getD_take (by omega)]
          have hj : ∀ a, a < j → (rs.getD a (dft sRun)).1 < (rs.getD j (dft sRun)).1 := fun a ha => by
            have h4 : (rs.getD (j - 1) (dft sRun)).1 < (rs.getD j (dft sRun)).1 := by
              have := fun h => h1 ⟨by omega, h⟩
              omega
            rcases Nat.lt_or_ge a (j - 1) with h5 | h5
            · have := hg.up a (j - 1) h5 (by rw [List.length_take]; omega)
              rw [getD_take (by omega), getD_take (by omega)] at this
              omega
            · have : a = j - 1 := by omega
              rw [this]; exact h4
          rcases Nat.lt_or_ge b j with h5 | h5
          · have := hg.up a b hab (by rw [List.length_take]; omega)
            rwa [getD_take (by omega), getD_take (by omega)] at this
          · have : b = j := by omega
            subst this
            exact hj a hab
        · rcases mem_take_succ h (dft sRun) hr with h4 | h4
          · exact hg.chk r h4
          · rw [h4, ← h2]; exact hv
      generalize hrr : rs.getD j (dft sRun) = r at hok hv hs hcons
      simp only [L40_1002560t, L40_1002560s0, rg_lt h, rg_in h, rg_ltn h, cond_true, Int.toNat_natCast, hrr, eR, hv, Option.bind_some]
      by_cases hz : v = Int.ofNat 0
      · rw [show (v != Int.ofNat 0) = false by rw [hz]; rfl]
        simp only [cond_false]
        obtain ⟨yk, hk, hkq⟩ := l40k (List.take (j - 0) (List.drop 0 rs)) (by rw [List.length_take, List.drop_zero]; omega) r
        rw [hk]
        simp only [Option.bind_some]
        rcases hkq with ⟨a, rfl, ha⟩ | rfl
        · simp only [ha, cond_true]
          rw [comb rs j h hm r]
          split
          · exact .inr ⟨_, rfl, ne8 _⟩
          · exact .inr ⟨_, rfl, ne8 _⟩
        · simp only
          obtain ⟨yt, ht, htq⟩ := l40t rs (rs.length : Int) (j : Int) r.2.2.2.2.1 hok.2.2 m1 m2 _ hmm
          rw [ht]
          simp only [Option.bind_some]
          rcases htq with ⟨a, rfl, ha⟩ | ⟨a, rfl, ha⟩ | ⟨m1', m2', rfl, hm'⟩
          · simp only
            rw [comb rs j h hm r]
            split
            · exact .inr ⟨_, rfl, ne8 _⟩
            · exact .inr ⟨_, rfl, by simp only [code, ha]; exact ne8 _⟩
          · simp only
            rw [comb rs j h hm r]
            split
            · exact .inr ⟨_, rfl, ne8 _⟩
            · exact .inr ⟨_, rfl, by simp only [code, ha]; exact ne8 _⟩
          · simp only
            rw [comb rs j h hm r]
            split
            · exact .inr ⟨_, rfl, ne8 _⟩
            · rename_i hc
              rw [rg_wrap (by omega)]
              rw [← hs] at hm'
              exact .inl ⟨(m1', m2'), rfl, hcons hc hz hm'.2, hm'⟩
      · rw [show (v != Int.ofNat 0) = true by simpa using hz]
        exact .inr ⟨_, rfl, ne8 _⟩) (fun a hx => ⟨.inr (.inr (.inr (.inr (a.1, a.2, ())))), by simp only [L40_1002560t, L40_1002560s0, rg_end, cond_false], fun _ => by have := hx.1; rw [List.take_length] at this; exact this⟩) ([], []) ⟨⟨by simp, by simp, by simp [rdy]⟩, by simp [MOk, mapHas, rdy]⟩
  exact ⟨y, hy, hq⟩
theorem f40 (rs : List Run) (hm : rs.length ≤ 9223372036854775807) (hr : ∀ r ∈ rs, OkR r) : ∃ v, F40 (rs, ()) = some (v, ()) ∧ (v = 0 → rs.length ≤ 32 ∧ Good rs rs) := by
  simp only [F40]
  by_cases h2 : ((rs.length : Nat) : Int) > Int.ofNat 32
  · rw [decide_eq_true h2]; exact ⟨_, rfl, fun h => absurd h (by decide)⟩
  · rw [decide_eq_false h2]
    have h32 : rs.length ≤ 32 := by simp only [ofN] at h2; omega
    obtain ⟨y, hy, hq⟩ := l40 rs hm hr
    simp only [cond_false, hy, Option.bind_some]
    match y, hq with
    | .inl a, hq => exact ⟨_, rfl, fun h => ⟨h32, hq h⟩⟩
    | .inr (.inl a), hq => exact ⟨_, rfl, fun h => ⟨h32, hq h⟩⟩
    | .inr (.inr (.inl a)), hq => exact ⟨_, rfl, fun h => ⟨h32, hq h⟩⟩
    | .inr (.inr (.inr (.inl a))), hq => exact ⟨_, rfl, fun h => ⟨h32, hq h⟩⟩
    | .inr (.inr (.inr (.inr a))), hq => exact ⟨_, rfl, fun h => ⟨h32, hq rfl⟩⟩

theorem f69 (a b : Int) : F69 (a, b, ()) = some (if a < b then Int.negSucc 0 else if a > b then Int.ofNat 1 else Int.ofNat 0, ()) := by
  simp only [F69, F99, Option.bind_some]
  rw [show (a != a) = false by simp, show (b != b) = false by simp]
  simp only [cond_false]
  by_cases h : a < b
  · rw [decide_eq_true h, if_pos h]; rfl
  · rw [decide_eq_false h, if_neg h]
    by_cases h2 : a > b
    · rw [decide_eq_true h2, if_pos h2]; rfl
    · rw [decide_eq_false h2, if_neg h2]; rfl
theorem mid_ok {lo hi : Nat} (h : lo + hi < 1000) : IntKind.i64.wrap ((IntKind.u64.wrap (IntKind.i64.wrap ((lo : Int) + (hi : Int)))).fdiv (2 ^ min (Int.ofNat 1).toNat IntKind.u64.bits)) = (((lo + hi) / 2 : Nat) : Int) := by
  have e1 : IntKind.i64.wrap ((lo : Int) + (hi : Int)) = ((lo + hi : Nat) : Int) := by
    unfold IntKind.wrap
    simp [IntKind.bits, IntKind.signed]
    omega
  have e2 : IntKind.u64.wrap ((lo + hi : Nat) : Int) = ((lo + hi : Nat) : Int) := by
    unfold IntKind.wrap
    simp [IntKind.bits, IntKind.signed]
    omega
  have e3 : (2 : Int) ^ min (Int.ofNat 1).toNat IntKind.u64.bits = 2 := by decide
  rw [e1, e2, e3, Int.fdiv_eq_ediv_of_nonneg _ (by omega)]
  unfold IntKind.wrap
  simp [IntKind.bits, IntKind.signed]
  omega
theorem l32 (rs : List Run) (hm : rs.length ≤ 32) (hg : Good rs rs) (a : Nat) (ha : a < rs.length) :
    L32_1004288 (rs, (rs.getD a (dft sRun)).1, (rs.length : Int), Int.ofNat 0, (rs.length : Int), ()) = some (rs, (rs.getD a (dft sRun)).1, (rs.length : Int), (a : Int), ()) := by
  obtain ⟨y, hy, hq⟩ := loopF_hoare (st := L32_1004288t) (fun x => x.2.2.2.2.1.toNat - x.2.2.2.1.toNat) (fun x => ∃ lo hi : Nat, x = (rs, (rs.getD a (dft sRun)).1, (rs.length : Int), (lo : Int), (hi : Int), ()) ∧ lo ≤ a ∧ a ≤ hi ∧ hi ≤ rs.length)
    (fun y => y = (rs, (rs.getD a (dft sRun)).1, (rs.length : Int), (a : Int), ())) (fun x hx => by
      obtain ⟨lo, hi, rfl, h1, h2, h3⟩ := hx
      rcases Nat.lt_or_ge lo hi with h | h
      · have hmid : (lo + hi) / 2 < rs.length := by omega
        refine .inl ?_
        simp only [L32_1004288t, L32_1004288s0, rg_lt h, mid_ok (show lo + hi < 1000 by omega), rg_in hmid, Int.toNat_natCast, rg_ltn hmid, cond_true, f69, Option.bind_some]
        by_cases hc : (rs.getD ((lo + hi) / 2) (dft sRun)).1 < (rs.getD a (dft sRun)).1
        · rw [if_pos hc, show decide (Int.negSucc 0 < Int.ofNat 0) = true by decide, rg_wrap (by omega)]
          refine ⟨_, rfl, ⟨(lo + hi) / 2 + 1, hi, rfl, ?_, h2, h3⟩, ?_⟩
          · rcases Nat.lt_or_ge ((lo + hi) / 2) a with h4 | h4
            · omega
            · rcases Nat.eq_or_lt_of_le h4 with h5 | h5
              · rw [← h5] at hc; omega
              · have := hg.up a _ h5 hmid
                omega
          · simp only [Int.toNat_natCast]; omega
        · rw [if_neg hc]
          have e : decide ((if (rs.getD ((lo + hi) / 2) (dft sRun)).1 > (rs.getD a (dft sRun)).1 then Int.ofNat 1 else Int.ofNat 0) < Int.ofNat 0) = false := by split <;> decide
          rw [e]
          refine ⟨_, rfl, ⟨lo, (lo + hi) / 2, rfl, h1, ?_, by omega⟩, ?_⟩
          · rcases Nat.lt_or_ge ((lo + hi) / 2) a with h4 | h4
            · exact absurd (hg.up _ a h4 ha) hc
            · exact h4
          · simp only [Int.toNat_natCast]; omega
      · have e1 : lo = a := by omega
        have e2 : hi = a := by omega
        subst e1
        subst e2
        exact .inr ⟨_, by simp only [L32_1004288t, L32_1004288s0, rg_end, cond_false], rfl⟩) (rs, (rs.getD a (dft sRun)).1, (rs.length : Int), ((0 : Nat) : Int), (rs.length : Int), ()) ⟨0, rs.length, rfl, by omega, by omega, by omega⟩
  subst hq
  exact hy
theorem f32 (rs : List Run) (hm : rs.length ≤ 32) (hg : Good rs rs) (hc : F40 (rs, ()) = some (Int.ofNat 0, ())) (a : Nat) (ha : a < rs.length) : F32 (rs, (rs.getD a (dft sRun)).1, ()) = some ((a : Int), true, Int.ofNat 0, ()) := by
  simp only [F32, hc, Option.bind_some, l32 rs hm hg a ha, rg_lt ha, rg_in ha, Int.toNat_natCast, rg_ltn ha, cond_true, f69]
  simp

/-! Places. -/
abbrev Place := Int × Int × Int × Unit
def due (t : Task) (now : Int) : Bool := (t.1 == Int.ofNat 2 || t.1 == Int.ofNat 3) && decide (t.2.2.1 ≤ now)
theorem f33 (t : Task) (now : Int) : F33 (t, now, ()) = some (due t now, ()) := by
  simp only [F33, due]
  cases t.1 == Int.ofNat 2 <;> cases t.1 == Int.ofNat 3 <;> rfl
def plT (id now : Int) : Nat → List Task → List Place
  | _, [] => []
  | k, t :: ts => (bif due t now then [(id, (k : Int), t.2.2.1, ())] else []) ++ plT id now (k + 1) ts
theorem plT_app (id now : Int) (t : Task) : ∀ (l : List Task) (k : Nat), plT id now k (l ++ [t]) = plT id now k l ++ (bif due t now then [(id, ((k + l.length : Nat) : Int), t.2.2.1, ())] else [])
  | [], k => by simp [plT]
  | a :: l, k => by
    simp only [List.cons_append, plT, plT_app id now t l (k + 1), List.append_assoc, List.length_cons]
    rw [show k + 1 + l.length = k + (l.length + 1) by omega]
theorem plT_succ {id now : Int} {ts : List Task} {j : Nat} (h : j < ts.length) (d : Task) : plT id now 0 (ts.take (j + 1)) = plT id now 0 (ts.take j) ++ (bif due (ts.getD j d) now then [(id, (j : Int), (ts.getD j d).2.2.1, ())] else []) := by
  rw [List.take_succ_eq_append_getElem h, plT_app, getD_get h, List.length_take, Nat.min_eq_left (by omega), Nat.zero_add]
theorem plT_len (id now : Int) : ∀ (ts : List Task) (k : Nat), (plT id now k ts).length ≤ ts.length
  | [], _ => Nat.le_refl _
  | t :: ts, k => by
    have := plT_len id now ts (k + 1)
    simp only [plT, List.length_append, List.length_cons]
    cases due t now <;> simp <;> omega
theorem plT_mem {id now : Int} {p : Place} : ∀ {ts : List Task} {k : Nat}, p ∈ plT id now k ts → ∃ j, j < ts.length ∧ due (ts.getD j (dft sTask)) now = true ∧ p = (id, ((k + j : Nat) : Int), (ts.getD j (dft sTask)).2.2.1, ())
  | [], _, h => by cases h
  | t :: ts, k, h => by
    simp only [plT, List.mem_append] at h
    rcases h with h | h
    · rcases hd : due t now with _ | _
      · rw [hd] at h; cases h
      · rw [hd] at h
        simp only [cond_true, List.mem_singleton] at h
        exact ⟨0, by simp, hd, h⟩
    · obtain ⟨j, h1, h2, h3⟩ := plT_mem h
      exact ⟨j + 1, by simpa using h1, h2, by rw [h3, show k + 1 + j = k + (j + 1) by omega]; rfl⟩
theorem plT_flt (id : Int) {now M : Int} (h : now ≤ M) : ∀ (ts : List Task) (k : Nat), plT id now k ts = (plT id M k ts).filter (fun p => decide (p.2.2.1 ≤ now))
  | [], _ => rfl
  | t :: ts, k => by
    simp only [plT, List.filter_append, plT_flt id h ts (k + 1)]
    congr 1
    simp only [due]
    by_cases h1 : t.2.2.1 ≤ now
    · have h2 : t.2.2.1 ≤ M := by omega
      rw [decide_eq_true h1, decide_eq_true h2]
      cases (t.1 == Int.ofNat 2 || t.1 == Int.ofNat 3) <;> simp [h1]
    · rw [decide_eq_false h1, Bool.and_false, cond_false]
      cases (t.1 == Int.ofNat 2 || t.1 == Int.ofNat 3) && decide (t.2.2.1 ≤ M) <;> simp; omega
theorem plT_pw (id now : Int) : ∀ (ts : List Task) (k : Nat), (plT id now k ts).Pairwise (fun x y => x.2.1 < y.2.1)
  | [], _ => .nil
  | t :: ts, k => by
    simp only [plT]
    rw [List.pairwise_append]
    refine ⟨by cases due t now <;> simp, plT_pw id now ts (k + 1), fun a ha b hb => ?_⟩
    obtain ⟨j, _, _, e⟩ := plT_mem hb
    cases hd : due t now with
    | false => rw [hd] at ha; cases ha
    | true =>
      rw [hd] at ha
      simp only [cond_true, List.mem_singleton] at ha
      subst ha e
      show (k : Int) < ((k + 1 + j : Nat) : Int)
      omega
def pl (rs : List Run) (now : Int) : List Place := rs.flatMap (fun r => plT r.1 now 0 r.2.2.2.2.1)
theorem pl_succ {rs : List Run} {j : Nat} (h : j < rs.length) (now : Int) (d : Run) : pl (rs.take (j + 1)) now = pl (rs.take j) now ++ plT (rs.getD j d).1 now 0 (rs.getD j d).2.2.2.2.1 := by
  rw [List.take_succ_eq_append_getElem h, getD_get h]
  simp only [pl, List.flatMap_append, List.flatMap_cons, List.flatMap_nil, List.append_nil]
theorem pl_len {now : Int} : ∀ {rs : List Run}, (∀ r ∈ rs, r.2.2.2.2.1.length ≤ 12) → (pl rs now).length ≤ 12 * rs.length
  | [], _ => Nat.le_refl _
  | r :: rs, h => by
    have h1 := pl_len (now := now) (rs := rs) fun r hr => h r (List.mem_cons_of_mem _ hr)
    have h2 := plT_len r.1 now r.2.2.2.2.1 0
    have h3 := h r (List.mem_cons_self ..)
    simp only [pl, List.flatMap_cons, List.length_append, List.length_cons] at h1 ⊢
    omega
theorem pl_take_len {now : Int} {rs : List Run} (h : ∀ r ∈ rs, r.2.2.2.2.1.length ≤ 12) (hm : rs.length ≤ 32) (i : Nat) : (pl (rs.take i) now).length ≤ 384 := by
  have := pl_len (now := now) (rs := rs.take i) fun r hr => h r (List.mem_of_mem_take hr)
  have h2 : (rs.take i).length ≤ rs.length := by rw [List.length_take]; omega
  omega
theorem pl_mem {rs : List Run} {now : Int} {p : Place} (h : p ∈ pl rs now) : ∃ a j : Nat, a < rs.length ∧ j < (rs.getD a (dft sRun)).2.2.2.2.1.length ∧ due ((rs.getD a (dft sRun)).2.2.2.2.1.getD j (dft sTask)) now = true ∧ p = ((rs.getD a (dft sRun)).1, (j : Int), ((rs.getD a (dft sRun)).2.2.2.2.1.getD j (dft sTask)).2.2.1, ()) := by
  simp only [pl, List.mem_flatMap] at h
  obtain ⟨r, hr, hp⟩ := h
  obtain ⟨a, ha, rfl⟩ := List.mem_iff_getElem.1 hr
  obtain ⟨j, h1, h2, h3⟩ := plT_mem hp
  rw [Nat.zero_add] at h3
  refine ⟨a, j, ha, ?_⟩
  rw [getD_get ha]
  exact ⟨h1, h2, h3⟩
theorem pl_flt (rs : List Run) {now M : Int} (h : now ≤ M) : pl rs now = (pl rs M).filter (fun p => decide (p.2.2.1 ≤ now)) := by
  induction rs with
  | nil => rfl
  | cons r rs ih =>
    simp only [pl, List.flatMap_cons, List.filter_append] at ih ⊢
    rw [ih, plT_flt r.1 h]
theorem pl_ne {rs : List Run} (up : ∀ i j : Nat, i < j → j < rs.length → (rs.getD i (dft sRun)).1 < (rs.getD j (dft sRun)).1) (now : Int) : (pl rs now).Pairwise (fun x y => x ≠ y) := by
  unfold pl
  rw [List.pairwise_flatMap]
  refine ⟨fun r _ => (plT_pw r.1 now r.2.2.2.2.1 0).imp fun {x y} h e => by rw [e] at h; omega, ?_⟩
  rw [List.pairwise_iff_getElem]
  intro i j hi hj hij x hx y hy e
  have h := up i j hij hj
  rw [getD_get hi, getD_get hj] at h
  obtain ⟨_, _, _, e1⟩ := plT_mem hx
  obtain ⟨_, _, _, e2⟩ := plT_mem hy
  have e3 : x.1 = rs[i].1 := by rw [e1]
  have e4 : y.1 = rs[j].1 := by rw [e2]
  rw [e] at e3
  omega
theorem one1 {α : Type} (a v : α) : (List.replicate 1 a).set 0 v = [v] := rfl
theorem all1 {α : Type} (l : List α) : List.take l.length (List.drop 0 l) = l := by rw [List.drop_zero, List.take_length]
/-- The inner loop's states. -/
def mkI (now : Int) (rs : List Run) (n i : Int) (r : Run) (ts : List Task) (tn j : Int) : List Place → (Int × List Run × Int × Int × List Task × Int × Int × Int × ByteArray × List Node × Int × List Task × Unit) ⊕ (Int × Nat × List Run × Int × Int × List Task × Int × Int × List Place × Int × ByteArray × List Node × Int × List Task × Unit)
  | [] => .inl (now, rs, n, i, ts, tn, j, r.1, r.2.1, r.2.2.1.1, r.2.2.2.1, r.2.2.2.2.1, ())
  | a :: l => .inr (now, (a :: l).length, rs, n, i, ts, tn, j, a :: l, r.1, r.2.1, r.2.2.1.1, r.2.2.2.1, r.2.2.2.2.1, ())
def outI (now : Int) (rs : List Run) (n i : Int) (r : Run) : List Place → (Int × List Run × Int × Int × Int × ByteArray × List Node × Int × List Task × Unit) ⊕ (Int × Nat × List Run × Int × Int × List Place × Int × ByteArray × List Node × Int × List Task × Unit)
  | [] => .inl (now, rs, n, i, r.1, r.2.1, r.2.2.1.1, r.2.2.2.1, r.2.2.2.2.1, ())
  | a :: l => .inr (now, (a :: l).length, rs, n, i, a :: l, r.1, r.2.1, r.2.2.1.1, r.2.2.2.1, r.2.2.2.2.1, ())
theorem room {n : Nat} (h : n ≤ 384) : (decide (n * 24 ≤ maxRoom) && decide (n ≤ maxRoom)) = true := by
  have : maxRoom = 70368744177664 := by decide
  rw [this]
  simp; omega
theorem l66t (now : Int) (rs : List Run) (n i : Int) (r : Run) (ht : r.2.2.2.2.1.length ≤ 12) (pre : List Place) (hp : pre.length + 12 ≤ 384) :
    L66_1004225 (mkI now rs n i r r.2.2.2.2.1 (r.2.2.2.2.1.length : Int) (Int.ofNat 0) pre) = some (outI now rs n i r (pre ++ plT r.1 now 0 r.2.2.2.2.1)) := by
  obtain ⟨y, hy, rfl⟩ := rng_hoare (st := L66_1004225t) r.2.2.2.2.1.length (fun j (A : List Place) => mkI now rs n i r r.2.2.2.2.1 (r.2.2.2.2.1.length : Int) (j : Int) A) (fun j A => A = pre ++ plT r.1 now 0 (r.2.2.2.2.1.take j))
    (fun y => y = outI now rs n i r (pre ++ plT r.1 now 0 r.2.2.2.2.1)) (fun j A h hx => by
      have hs := plT_succ (id := r.1) (now := now) h (dft sTask)
      have hlen : A.length + 1 ≤ 384 := by
        rw [hx, List.length_append]
        have := plT_len r.1 now (r.2.2.2.2.1.take j) 0
        rw [List.length_take] at this
        omega
      obtain ⟨t, hte⟩ : ∃ t : Task, r.2.2.2.2.1.getD j (dft sTask) = t := ⟨_, rfl⟩
      rw [hte] at hs
      refine .inl ?_
      cases A with
      | nil =>
        simp only [mkI, L66_1004225t, L66_1004225s0, rg_lt h, rg_in h, rg_ltn h, cond_true, Int.toNat_natCast, hte, eT, f33, Option.bind_some, one1, all1]
        rw [rg_wrap (by omega)]
        rcases hd : due t now with _ | _
        · rw [hd] at hs
          exact ⟨[], rfl, by rw [hs, ← List.append_assoc, ← hx]; rfl⟩
        · rw [hd] at hs
          exact ⟨[(r.1, (j : Int), t.2.2.1, ())], rfl, by rw [hs, ← List.append_assoc, ← hx]; rfl⟩
      | cons a l =>
        simp only [mkI, L66_1004225t, L66_1004225s1, rg_lt h, rg_in h, rg_ltn h, cond_true, Int.toNat_natCast, hte, eT, f33, Option.bind_some, one1, all1]
        rw [rg_wrap (by omega)]
        rcases hd : due t now with _ | _
        · rw [hd] at hs
          exact ⟨a :: l, rfl, by rw [hs, ← List.append_assoc, ← hx]; simp⟩
        · rw [hd] at hs
          refine ⟨(a :: l) ++ [(r.1, (j : Int), t.2.2.1, ())], ?_, by rw [hs, ← List.append_assoc, ← hx]; rfl⟩
          have e1 : decide (0 + (a :: l).length ≤ (a :: l).length) = true := decide_eq_true (by omega)
          have e2 : decide (0 + (a :: l).length = (a :: l).length) = true := decide_eq_true (by omega)
          have e3 := room (n := (a :: l).length + [(r.1, (j : Int), t.2.2.1, ())].length) hlen
          rw [cond_true, e1, cond_true, e3, cond_true, e2, cond_true]
          rfl) (fun A hx => ⟨outI now rs n i r A, by cases A <;> simp only [mkI, outI, L66_1004225t, L66_1004225s0, L66_1004225s1, rg_end, cond_false], by rw [hx, List.take_length]⟩) pre (by simp [plT])
  exact hy
def mkO (now : Int) (rs : List Run) (n i : Int) : List Place → (Int × List Run × Int × Int × Unit) ⊕ (Int × Nat × List Run × Int × Int × List Place × Unit)
  | [] => .inl (now, rs, n, i, ())
  | a :: l => .inr (now, (a :: l).length, rs, n, i, a :: l, ())
def outO : List Place → Unit ⊕ (Nat × List Place × Unit)
  | [] => .inl ()
  | a :: l => .inr ((a :: l).length, a :: l, ())
theorem l66 (now : Int) (rs : List Run) (hm : rs.length ≤ 32) (ht : ∀ r ∈ rs, r.2.2.2.2.1.length ≤ 12) :
    L66_1004224 (.inl (now, rs, (rs.length : Int), Int.ofNat 0, ())) = some (outO (pl rs now)) := by
  obtain ⟨y, hy, rfl⟩ := rng_hoare (st := L66_1004224t) rs.length (fun j (A : List Place) => mkO now rs (rs.length : Int) (j : Int) A) (fun j A => A = pl (rs.take j) now)
    (fun y => y = outO (pl rs now)) (fun j A h hx => by
      have hs := pl_succ h now (dft sRun)
      have htj := ht _ (getD_mem h (dft sRun))
      have hlen : A.length + 12 ≤ 384 := by
        rw [hx]
        have := pl_len (now := now) (rs := rs.take j) fun r hr => ht r (List.mem_of_mem_take hr)
        rw [List.length_take] at this
        omega
      refine .inl ⟨A ++ plT (rs.getD j (dft sRun)).1 now 0 (rs.getD j (dft sRun)).2.2.2.2.1, ?_, by rw [hs, ← hx]⟩
      generalize hrr : rs.getD j (dft sRun) = r at htj
      have h1 := l66t now rs (rs.length : Int) (j : Int) r htj A hlen
      cases A with
      | nil =>
        simp only [mkI] at h1
        simp only [mkO, L66_1004224t, L66_1004224s0, rg_lt h, rg_in h, rg_ltn h, cond_true, Int.toNat_natCast, hrr, h1, Option.bind_some]
        rw [List.nil_append]
        cases plT r.1 now 0 r.2.2.2.2.1 with
        | nil => simp only [outI, mkO]; rw [rg_wrap (by omega)]
        | cons a l => simp only [outI, mkO]; rw [rg_wrap (by omega)]
      | cons a l =>
        simp only [mkI] at h1
        simp only [mkO, L66_1004224t, L66_1004224s1, rg_lt h, rg_in h, rg_ltn h, cond_true, Int.toNat_natCast, hrr, h1, Option.bind_some]
        simp only [List.cons_append, outI, mkO]
        rw [rg_wrap (by omega)]) (fun A hx => ⟨outO A, by cases A <;> simp only [mkO, outO, L66_1004224t, L66_1004224s0, L66_1004224s1, rg_end, cond_false], by rw [hx, List.take_length]⟩) [] (by simp [pl])
  exact hy
/-- Places in their order. -/
def Srt (S : List Place) : Prop := S.Pairwise (fun x y => ¬ (y.2.2.1 < x.2.2.1 ∨ y.2.2.1 = x.2.2.1 ∧ (y.1 < x.1 ∨ y.1 = x.1 ∧ y.2.1 < x.2.1)))
theorem f66 (rs : List Run) (now : Int) (hm : rs.length ≤ 32) (ht : ∀ r ∈ rs, r.2.2.2.2.1.length ≤ 12) :
    ∃ S, F66 (rs, now, ()) = some (S, ()) ∧ S.Perm (pl rs now) ∧ Srt S := by
  simp only [F66, l66 now rs hm ht, Option.bind_some]
  have hlen := pl_len (now := now) ht
  cases hB : pl rs now with
  | nil => exact ⟨[], rfl, .refl _, .nil⟩
  | cons a l =>
    obtain ⟨S, h1, h2, h3⟩ := sort_list (s := sPlace) swo97 (a :: l) (by rw [← hB]; omega)
    refine ⟨S, ?_, h2, h3.imp fun {x y} h => ?_⟩
    · simp only [outO, decide_true, cond_true]
      rw [show G96 (a :: l) = some S from h1, Option.bind_some, ← h2.length_eq, all1, decide_eq_true (by omega : 0 + S.length ≤ S.length)]
      rfl
    · intro hlt
      unfold ltOf at h
      rw [cf97] at h
      exact absurd ((cmpP_neg y x).2 hlt) (of_decide_eq_false h)
theorem f34 (p q : Place) (h : ¬ (q.2.2.1 < p.2.2.1 ∨ q.2.2.1 = p.2.2.1 ∧ (q.1 < p.1 ∨ q.1 = p.1 ∧ q.2.1 < p.2.1))) (hne : p ≠ q) : F34 (p, q, ()) = some (true, ()) := by
  obtain ⟨p1, p2, p3, _⟩ := p
  obtain ⟨q1, q2, q3, _⟩ := q
  simp only at h
  simp only [F34]
  by_cases h1 : p3 < q3
  · rw [decide_eq_true h1]; rfl
  · have e1 : p3 = q3 := by omega
    subst e1
    rw [decide_eq_false h1, cond_false, show (p3 == p3) = true by simp, cond_true]
    by_cases h2 : p1 < q1
    · rw [decide_eq_true h2]; rfl
    · have e2 : p1 = q1 := by omega
      subst e2
      rw [decide_eq_false h2, cond_false, show (p1 == p1) = true by simp, cond_true]
      have h3 : p2 < q2 := by
        have : p2 ≠ q2 := fun e => hne (by rw [e])
        omega
      rw [decide_eq_true h3]
theorem ok40 (rs : List Run) (hr : ∀ r ∈ rs, OkR r) (hg : Good rs rs) : ∀ r ∈ rs, r.2.2.2.2.1.length ≤ 12 := fun r h => by
  obtain ⟨v, hv, hv0⟩ := f36 r (hr r h)
  have := hg.chk r h
  rw [this] at hv
  exact hv0 (by simpa using hv.symm)
/-- What is due. -/
theorem f30 (rs : List Run) (now : Int) (hm : rs.length ≤ 9223372036854775807) (hr : ∀ r ∈ rs, OkR r) :
    (∃ v, v ≠ 0 ∧ F30 (rs, now, ()) = some ([], v, ())) ∨
    (rs.length ≤ 32 ∧ Good rs rs ∧ F40 (rs, ()) = some (Int.ofNat 0, ()) ∧ now ≤ 1099511627776 ∧ ∃ S, F30 (rs, now, ()) = some (S, Int.ofNat 0, ()) ∧ S.Perm (pl rs now) ∧ Srt S) := by
  obtain ⟨v, hv, hv0⟩ := f40 rs hm hr
  simp only [F30, hv, Option.bind_some]
  by_cases hz : v = 0
  · subst hz
    obtain ⟨h32, hg⟩ := hv0 rfl
    rw [show ((0 : Int) != Int.ofNat 0) = false from rfl, cond_false]
    by_cases h1 : now < Int.ofNat 0
    · rw [decide_eq_true h1]; exact .inl ⟨Int.ofNat 2, by decide, rfl⟩
    · rw [decide_eq_false h1, cond_false]
      by_cases h2 : now > Int.ofNat 1099511627776
      · rw [decide_eq_true h2]; exact .inl ⟨Int.ofNat 2, by decide, rfl⟩
      · rw [decide_eq_false h2, cond_false]
        obtain ⟨S, e1, e2, e3⟩ := f66 rs now h32 (ok40 rs hr hg)
        refine .inr ⟨h32, hg, rfl, by simp only [ofN] at h2; omega, S, ?_, e2, e3⟩
        rw [e1]; rfl
  · rw [show (v != Int.ofNat 0) = true by simpa using hz]
    exact .inl ⟨v, hz, rfl⟩
/-- When something will be due. -/
theorem f31 (rs : List Run) (hm : rs.length ≤ 9223372036854775807) (hr : ∀ r ∈ rs, OkR r) :
    (∃ v, v ≠ 0 ∧ F31 (rs, ()) = some (Int.ofNat 0, false, v, ())) ∨
    (rs.length ≤ 32 ∧ Good rs rs ∧ (F31 (rs, ()) = some (Int.ofNat 0, false, Int.ofNat 0, ()) ∧ pl rs 1099511627776 = [] ∨ ∃ p, F31 (rs, ()) = some (p.2.2.1, true, Int.ofNat 0, ()) ∧ p ∈ pl rs 1099511627776 ∧ ∀ q ∈ pl rs 1099511627776, p.2.2.1 ≤ q.2.2.1)) := by
  obtain ⟨v, hv, hv0⟩ := f40 rs hm hr
  simp only [F31, hv, Option.bind_some]
  by_cases hz : v = 0
  · subst hz
    obtain ⟨h32, hg⟩ := hv0 rfl
    rw [show ((0 : Int) != Int.ofNat 0) = false from rfl, cond_false]
    obtain ⟨S, e1, e2, e3⟩ := f66 rs (Int.ofNat 1099511627776) h32 (ok40 rs hr hg)
    refine .inr ⟨h32, hg, ?_⟩
    rw [e1, Option.bind_some]
    cases S with
    | nil => exact .inl ⟨rfl, e2.symm.eq_nil⟩
    | cons p S =>
      refine .inr ⟨p, ?_, e2.subset (List.mem_cons_self ..), fun q hq => ?_⟩
      · simp only [List.length_cons]
        rw [show (((S.length + 1 : Nat) : Int) == Int.ofNat 0) = false by simp; omega, cond_false, show within 0 (Int.ofNat 0) (((S.length + 1 : Nat) : Int) - 1) = true from rg_in (i := 0) (by omega), cond_true, show decide ((Int.ofNat 0).toNat < S.length + 1) = true from decide_eq_true (Nat.succ_pos _), cond_true]
        rfl
      · have hq' := e2.symm.subset hq
        rcases List.mem_cons.1 hq' with rfl | hq'
        · exact Int.le_refl _
        · have := List.rel_of_pairwise_cons e3 hq'
          omega
  · rw [show (v != Int.ofNat 0) = true by simpa using hz]
    exact .inl ⟨v, hz, rfl⟩

/-! The law. -/
theorem l6t (rs : List Run) (hm : rs.length ≤ 32) (now : Int) (S : List Place) (u : Int) (is : Bool) (i : Nat) (hi : i < rs.length) (hall : ∀ r ∈ rs, r.2.2.2.2.1.length ≤ 12) :
    L6_1000386 (rs, now, S, u, is, (((pl (rs.take i) now).length : Nat) : Int), (i : Int), Int.ofNat 0, ()) = some (rs, now, S, u, is, (((pl (rs.take (i + 1)) now).length : Nat) : Int), (i : Int), ()) := by
  obtain ⟨r, hr⟩ : ∃ r : Run, rs.getD i (dft sRun) = r := ⟨_, rfl⟩
  have ht : r.2.2.2.2.1.length ≤ 12 := by rw [← hr]; exact hall _ (getD_mem hi _)
  have hp := pl_succ hi now (dft sRun)
  have hle := pl_take_len (now := now) hall hm (i + 1)
  rw [hr] at hp
  rw [hp, List.length_append] at hle
  obtain ⟨y, hy, rfl⟩ := rng_hoare (st := L6_1000386t) r.2.2.2.2.1.length (fun j (n : Nat) => (rs, now, S, u, is, (n : Int), (i : Int), (j : Int), ())) (fun j n => n = (pl (rs.take i) now).length + (plT r.1 now 0 (r.2.2.2.2.1.take j)).length)
    (fun y => y = (rs, now, S, u, is, (((pl (rs.take (i + 1)) now).length : Nat) : Int), (i : Int), ())) (fun j n h hx => by
      have hs := plT_succ (id := r.1) (now := now) h (dft sTask)
      obtain ⟨t, hte⟩ : ∃ t : Task, r.2.2.2.2.1.getD j (dft sTask) = t := ⟨_, rfl⟩
      rw [hte] at hs
      simp only [L6_1000386t, L6_1000386s0, hr, rg_lt h, rg_in h, rg_ltn h, rg_in hi, rg_ltn hi, cond_true, Int.toNat_natCast, hte, eT, f33, Option.bind_some]
      have hn : n ≤ 1000 := by
        have h1 := plT_len r.1 now (r.2.2.2.2.1.take j) 0
        have h2 := pl_take_len (now := now) hall hm i
        rw [List.length_take] at h1
        omega
      rw [rg_wrap (i := n) (by omega), rg_wrap (i := j) (by omega)]
      refine .inl ?_
      rcases hd : due t now with _ | _
      · rw [hd] at hs
        exact ⟨n, rfl, by rw [hs, hx]; simp⟩
      · rw [hd] at hs
        exact ⟨n + 1, rfl, by rw [hs, hx]; simp; omega⟩) (fun n hx => ⟨(rs, now, S, u, is, (n : Int), (i : Int), ()), by simp only [L6_1000386t, L6_1000386s0, hr, rg_end, rg_in hi, rg_ltn hi, Int.toNat_natCast, cond_true, cond_false], by rw [hx, List.take_length, hp, List.length_append]⟩) (pl (rs.take i) now).length (by simp [plT])
  exact hy
theorem l6n (rs : List Run) (hm : rs.length ≤ 32) (now : Int) (S : List Place) (u : Int) (is : Bool) (hall : ∀ r ∈ rs, r.2.2.2.2.1.length ≤ 12) :
    L6_1000385 (rs, now, S, u, is, Int.ofNat 0, Int.ofNat 0, ()) = some (now, S, u, is, (((pl rs now).length : Nat) : Int), ()) := by
  obtain ⟨y, hy, rfl⟩ := rng_hoare (st := L6_1000385t) rs.length (fun j (n : Nat) => (rs, now, S, u, is, (n : Int), (j : Int), ())) (fun j n => n = (pl (rs.take j) now).length)
    (fun y => y = (now, S, u, is, (((pl rs now).length : Nat) : Int), ())) (fun j n h hx => by
      have h1 := l6t rs hm now S u is j h hall
      subst hx
      simp only [L6_1000385t, L6_1000385s0, rg_lt h, cond_true, h1, Option.bind_some]
      rw [rg_wrap (by omega)]
      exact .inl ⟨_, rfl, rfl⟩) (fun n hx => ⟨(now, S, u, is, (n : Int), ()), by simp only [L6_1000385t, L6_1000385s0, rg_end, cond_false], by rw [hx, List.take_length]⟩) 0 (by simp [pl])
  exact hy
theorem l6p (rs : List Run) (h32 : rs.length ≤ 32) (hg : Good rs rs) (h40 : F40 (rs, ()) = some (Int.ofNat 0, ())) (hall : ∀ r ∈ rs, r.2.2.2.2.1.length ≤ 12) (now : Int) (S : List Place) (hS : S.Perm (pl rs now)) (hs : Srt S) (u : Int) (is : Bool) :
    L6_1000384 (rs, now, S, u, is, Int.ofNat 0, ()) = some (.inr (rs, now, S, u, is, ())) := by
  have hlen : S.length ≤ 384 := by
    have := pl_len (now := now) hall
    rw [hS.length_eq]; omega
  have hne : S.Pairwise (fun x y => x ≠ y) := (hS.pairwise_iff (fun {x y} h e => h e.symm)).2 (pl_ne hg.up now)
  obtain ⟨y, hy, rfl⟩ := rng_hoare (st := L6_1000384t) S.length (fun j (_ : Unit) => (rs, now, S, u, is, (j : Int), ())) (fun _ _ => True)
    (fun y => y = .inr (rs, now, S, u, is, ())) (fun j _ h _ => by
      obtain ⟨a, b, ha, hb, hd, he⟩ := pl_mem (hS.subset (getD_mem h (dft sPlace)))
      have hf := f32 rs h32 hg h40 a ha
      have hlast : 0 < j → F34 (S.getD (j - 1) (dft sPlace), S.getD j (dft sPlace), ()) = some (true, ()) := fun h0 => by
        have h1 : j - 1 < S.length := by omega
        rw [getD_get h1, getD_get h]
        exact f34 _ _ (List.pairwise_iff_getElem.1 hs _ _ h1 h (by omega)) (List.pairwise_iff_getElem.1 hne _ _ h1 h (by omega))
      obtain ⟨q, hq⟩ : ∃ q : Place, S.getD (j - 1) (dft sPlace) = q := ⟨_, rfl⟩
      rw [hq] at hlast
      obtain ⟨p, hpp⟩ : ∃ p : Place, S.getD j (dft sPlace) = p := ⟨_, rfl⟩
      rw [hpp] at he hlast
      obtain ⟨r, hra⟩ : ∃ r : Run, rs.getD a (dft sRun) = r := ⟨_, rfl⟩
      rw [hra] at he hb hd hf
      obtain ⟨t, htb⟩ : ∃ t : Task, r.2.2.2.2.1.getD b (dft sTask) = t := ⟨_, rfl⟩
      rw [htb] at he hd
      have hp1 : p.1 = r.1 := by rw [he]
      have hp2 : p.2.1 = (b : Int) := by rw [he]
      have hp3 : p.2.2.1 = t.2.2.1 := by rw [he]
      have ep : (p.1, p.2.1, p.2.2.1, ()) = p := rfl
      have eq : (q.1, q.2.1, q.2.2.1, ()) = q := rfl
      have hbn : decide ((b : Int) < Int.ofNat 0) = false := decide_eq_false (by simp only [ofN]; omega)
      have hbg : decide ((b : Int) ≥ (r.2.2.2.2.1.length : Int)) = false := decide_eq_false (by omega)
      have h00 : (Int.ofNat 0 != Int.ofNat 0) = false := rfl
      have hu : (t.2.2.1 != t.2.2.1) = false := by simp
      refine .inl ⟨(), ?_, trivial⟩
      simp only [L6_1000384t, L6_1000384s0, rg_lt h, rg_in h, rg_ltn h, cond_true, Int.toNat_natCast, hpp, hp1, hf, Option.bind_some, h00, cond_false, Bool.not_true, hp2, hbn, rg_in ha, rg_ltn ha, hra, hbg, rg_in hb, rg_ltn hb, htb, hp3, hu, eT, f33, hd]
      by_cases h0 : 0 < j
      · have hj1 : j - 1 < S.length := by omega
        have := hlast h0
        rw [← ep, hp1, hp2, hp3] at this
        rw [show decide ((j : Int) > Int.ofNat 0) = true from decide_eq_true (by simp only [ofN]; omega), cond_true, wrap_sub1 h0 (by omega)]
        simp only [rg_in hj1, rg_ltn hj1, Int.toNat_natCast, cond_true, hq, eq, this, Option.bind_some, Bool.not_true, cond_false]
        rw [rg_wrap (by omega)]
      · rw [show decide ((j : Int) > Int.ofNat 0) = false from decide_eq_false (by simp only [ofN]; omega), cond_false]
        rw [rg_wrap (by omega)]) (fun _ _ => ⟨.inr (rs, now, S, u, is, ()), by simp only [L6_1000384t, L6_1000384s0, rg_end, cond_false], rfl⟩) () trivial
  exact hy
theorem f6 (rs : List Run) (now : Int) (hm : rs.length ≤ 9223372036854775807) (hr : ∀ r ∈ rs, OkR r) : F6 (rs, now, ()) = some (true, ()) := by
  obtain ⟨b, hb⟩ := f29 rs hm fun r h => (hr r h).1
  simp only [F6, F28, hb, Option.bind_some]
  cases b
  · simp only [cond_false, Bool.not_true]
    rcases f30 rs now hm hr with ⟨v, hv, h⟩ | ⟨h32, hg, h40, hnow, S, h, hS, hs⟩
    · rw [h]
      obtain ⟨z, hz⟩ : ∃ z, F31 (rs, ()) = some z := by
        rcases f31 rs hm hr with ⟨v, _, h⟩ | ⟨_, _, ⟨h, _⟩ | ⟨p, h, _⟩⟩ <;> exact ⟨_, h⟩
      rw [hz]
      simp only [Option.bind_some]
      rw [show (v != Int.ofNat 0) = true by simpa using hv]
      rfl
    · rw [h]
      have hall := ok40 rs hr hg
      rcases f31 rs hm hr with ⟨v, hv, h'⟩ | ⟨_, _, h'⟩
      · exfalso
        -- the check said yes
        have : F31 (rs, ()) = F31 (rs, ()) := rfl
        simp only [F31, h40, Option.bind_some] at h'
        rw [show (Int.ofNat 0 != Int.ofNat 0) = false from rfl, cond_false] at h'
        obtain ⟨S', e1, _, _⟩ := f66 rs (Int.ofNat 1099511627776) h32 hall
        rw [e1, Option.bind_some] at h'
        revert h'
        cases S' with
        | nil => intro h'; simp at h'; exact hv h'.symm
        | cons p S' =>
          simp only [List.length_cons]
          rw [show (((S'.length + 1 : Nat) : Int) == Int.ofNat 0) = false by simp; omega, cond_false, show within 0 (Int.ofNat 0) (((S'.length + 1 : Nat) : Int) - 1) = true from rg_in (i := 0) (by omega), cond_true, show decide ((Int.ofNat 0).toNat < S'.length + 1) = true from decide_eq_true (Nat.succ_pos _), cond_true]
          intro h'; simp at h'
      · have h00 : (Int.ofNat 0 != Int.ofNat 0) = false := rfl
        have hflt := pl_flt rs hnow
        have hSl := hS.length_eq
        have hnn : ∀ {α : Type} (l : List α), l ≠ [] → decide (((l.length : Nat) : Int) > Int.ofNat 0) = true ∧ (((l.length : Nat) : Int) == Int.ofNat 0) = false := fun l hl => by
          have : 0 < l.length := List.length_pos_iff.2 hl
          exact ⟨decide_eq_true (by simp only [ofN]; omega), by simp; exact hl⟩
        rcases h' with ⟨h', hnil⟩ | ⟨p, h', hp, hmin⟩
        · have h1 : pl rs now = [] := by rw [hflt, hnil]; rfl
          rw [h']
          simp only [Option.bind_some, h00, cond_false, l6p rs h32 hg h40 hall now S hS hs, l6n rs h32 now S _ _ hall, hSl, h1]
          rfl
        · rw [h']
          simp only [Option.bind_some, h00, cond_false, l6p rs h32 hg h40 hall now S hS hs, l6n rs h32 now S _ _ hall, hSl]
          rw [show ((((pl rs now).length : Nat) : Int) == (((pl rs now).length : Nat) : Int)) = true by simp]
          simp only [cond_true]
          by_cases hle : p.2.2.1 ≤ now
          · have hmem : p ∈ pl rs now := by rw [hflt]; exact List.mem_filter.2 ⟨hp, decide_eq_true hle⟩
            have hne : pl rs now ≠ [] := fun e => by rw [e] at hmem; cases hmem
            rw [(hnn _ hne).1, decide_eq_true hle, (hnn _ hne).2]
            simp only [cond_true, cond_false]
            cases S with
            | nil => exact absurd hS.symm.eq_nil hne
            | cons q S =>
              rw [← hSl]
              simp only [List.length_cons]
              rw [show (if false = true then !true == true else true == true) = true from rfl, cond_true, show within 0 (Int.ofNat 0) (((S.length + 1 : Nat) : Int) - 1) = true from rg_in (i := 0) (by omega), cond_true, show decide ((Int.ofNat 0).toNat < S.length + 1) = true from decide_eq_true (Nat.succ_pos _), cond_true]
              have h1 : q.2.2.1 ≤ p.2.2.1 := by
                rcases List.mem_cons.1 (hS.symm.subset hmem) with rfl | h2
                · exact Int.le_refl _
                · have := List.rel_of_pairwise_cons hs h2
                  omega
              have h2 : p.2.2.1 ≤ q.2.2.1 := by
                have := hS.subset (List.mem_cons_self (a := q) (l := S))
                rw [hflt] at this
                exact hmin q (List.mem_filter.1 this).1
              have h3 : q.2.2.1 = p.2.2.1 := by omega
              have h4 : ((q :: S).getD (Int.ofNat 0).toNat (dft sPlace)).2.2.1 = q.2.2.1 := rfl
              rw [h4, h3]
              simp
          · have h1 : pl rs now = [] := by
              rw [hflt, List.filter_eq_nil_iff]
              intro q hq h2
              have := hmin q hq
              simp only [decide_eq_true_eq] at h2
              omega
            rw [h1, decide_eq_false hle]
            rfl
  · rfl
theorem pure : ∀ x : Den (.cons (.row sRun) (.cons (.i .i64) .nil)), OkD (.cons (.row sRun) (.cons (.i .i64) .nil)) x → ∃ y, F6 x = some y ∧ y.1 = true := by
  intro x hx
  obtain ⟨rs, now, _⟩ := x
  obtain ⟨⟨h1, h2⟩, _⟩ := hx
  refine ⟨_, f6 rs now h1 fun r hr => ?_, rfl⟩
  obtain ⟨_, _, ⟨⟨h3, h4⟩, _⟩, _, ⟨h5, _⟩, _⟩ := h2 r hr
  exact ⟨h3, fun nd hnd => (h4 nd hnd).1.1, h5⟩
end Go.Proofs.Ytefehcmhdiifnaa.leaseOrder.Code
