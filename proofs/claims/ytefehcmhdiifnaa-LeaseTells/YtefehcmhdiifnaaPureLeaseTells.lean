/- What the functions of the law compute answers as the law says: for all data that an argument may hold. -/
import Derived.Test.YtefehcmhdiifnaaSrtLeaseTells
set_option linter.unusedVariables false
set_option linter.unusedSimpArgs false
namespace Go.Am
section
variable (E : Nat → Nat → Prop)
def Rch : Nat → Nat → Nat → Prop
  | 0, i, j => E i j
  | k + 1, i, j => Rch k i j ∨ (Rch k i k ∧ Rch k k j)
theorem Rch_trans : ∀ (K : Nat) {i m j : Nat}, m < K → Rch E K i m → Rch E K m j → Rch E K i j
  | 0, _, _, _, h, _, _ => absurd h (Nat.not_lt_zero _)
  | K + 1, i, m, j, h, h1, h2 => by
    rcases Nat.lt_or_ge m K with hm | hm
    · rcases h1 with h1 | ⟨h1, h1'⟩ <;> rcases h2 with h2 | ⟨h2, h2'⟩
      · exact .inl (Rch_trans K hm h1 h2)
      · exact .inr ⟨Rch_trans K hm h1 h2, h2'⟩
      · exact .inr ⟨h1, Rch_trans K hm h1' h2⟩
      · exact .inr ⟨h1, h2'⟩
    · have e : m = K := by omega
      subst e
      have g1 : Rch E m i m := h1.elim id (·.1)
      have g2 : Rch E m m j := h2.elim id (·.2)
      exact .inr ⟨g1, g2⟩
theorem Rch_first : ∀ (K : Nat) {i j : Nat}, Rch E K i j → ∃ k, E i k ∧ (k = j ∨ Rch E K k j)
  | 0, i, j, h => ⟨j, h, .inl rfl⟩
  | K + 1, i, j, h => by
    rcases h with h | ⟨h, h'⟩
    · obtain ⟨k, h1, h2⟩ := Rch_first K h
      exact ⟨k, h1, h2.imp id .inl⟩
    · obtain ⟨k, h1, h2⟩ := Rch_first K h
      refine ⟨k, h1, .inr ?_⟩
      rcases h2 with rfl | h2
      · exact .inl h'
      · exact .inr ⟨h2, h'⟩
theorem Rch_closed {D : Nat → Prop} (hD : ∀ i j, D i → E i j → D j) : ∀ (K : Nat) {i j : Nat}, Rch E K i j → D i → D j
  | 0, _, _, h, hi => hD _ _ hi h
  | K + 1, _, _, h, hi => by
    rcases h with h | ⟨h, h'⟩
    · exact Rch_closed hD K h hi
    · exact Rch_closed hD K h' (Rch_closed hD K h hi)
theorem Rch_edge : ∀ (K : Nat) {i j : Nat}, E i j → Rch E K i j
  | 0, _, _, h => h
  | K + 1, _, _, h => .inl (Rch_edge K h)
end
theorem sink {n : Nat} {R : Nat → Nat → Prop} (ht : ∀ i m j, m < n → R i m → R m j → R i j) : ∀ (U : List Nat), U ≠ [] → (∀ u ∈ U, u < n ∧ ¬ R u u) → ∃ u ∈ U, ∀ v ∈ U, ¬ R u v
  | [], h, _ => absurd rfl h
  | [a], _, h => ⟨a, List.mem_singleton.2 rfl, fun v hv => by rw [List.mem_singleton.1 hv]; exact (h a (List.mem_singleton.2 rfl)).2⟩
  | a :: b :: l, _, h => by
    obtain ⟨u, hu, hs⟩ := sink ht (b :: l) (by simp) fun u hu => h u (List.mem_cons_of_mem _ hu)
    by_cases hua : R u a
    · refine ⟨a, List.mem_cons_self .., fun v hv hav => ?_⟩
      rcases List.mem_cons.1 hv with rfl | hv
      · exact (h v (List.mem_cons_self ..)).2 hav
      · exact hs v hv (ht u a v (h a (List.mem_cons_self ..)).1 hua hav)
    · refine ⟨u, List.mem_cons_of_mem _ hu, fun v hv => ?_⟩
      rcases List.mem_cons.1 hv with rfl | hv
      · exact hua
      · exact hs v hv
structure Part (E : Nat → Nat → Prop) (n : Nat) (d : List Bool) : Prop where
  len : d.length = n
  cl : ∀ i j, d.getD i false = true → E i j → d.getD j false = true
  ac : ∀ i, d.getD i false = true → ¬ Rch E n i i
theorem getD_lt {d : List Bool} {i : Nat} (h : d.getD i false = true) : i < d.length := by
  rcases Nat.lt_or_ge i d.length with h1 | h1
  · exact h1
  · rw [List.getD_eq_getElem?_getD, List.getElem?_eq_none h1] at h; cases h
theorem getD_set {d : List Bool} {i : Nat} (h : i < d.length) (j : Nat) : (d.set i true).getD j false = (decide (j = i) || d.getD j false) := by
  rw [List.getD_eq_getElem?_getD, List.getElem?_set, List.getD_eq_getElem?_getD]
  by_cases hij : i = j
  · subst hij; simp [h]
  · rw [if_neg hij, decide_eq_false (fun e => hij e.symm)]; rfl
theorem Part.step {E : Nat → Nat → Prop} {n : Nat} {d : List Bool} (h : Part E n d) {i : Nat} (hi : i < n) (hu : d.getD i false = false) (hm : ∀ j, E i j → d.getD j false = true) : Part E n (d.set i true) := by
  have hi' : i < d.length := by rw [h.len]; exact hi
  refine ⟨by rw [List.length_set, h.len], fun a j ha he => ?_, fun a ha hr => ?_⟩
  · rw [getD_set hi'] at ha ⊢
    rw [Bool.or_eq_true] at ha ⊢
    rcases ha with ha | ha
    · rw [of_decide_eq_true ha] at he; exact .inr (hm _ he)
    · exact .inr (h.cl _ _ ha he)
  · rw [getD_set hi'] at ha
    rw [Bool.or_eq_true] at ha
    rcases ha with ha | ha
    · have e := of_decide_eq_true ha
      subst e
      obtain ⟨k, h1, h2⟩ := Rch_first E n hr
      have hk := hm k h1
      rcases h2 with rfl | h2
      · rw [hu] at hk; cases hk
      · have := Rch_closed E (D := fun x => d.getD x false = true) (fun i j hi he => h.cl i j hi he) n h2 hk
        rw [hu] at this; cases this
    · exact h.ac a ha hr
def Acyc (E : Nat → Nat → Prop) (n : Nat) : Prop := ∀ i, i < n → ¬ Rch E n i i
theorem Part.all {E : Nat → Nat → Prop} {n : Nat} {d : List Bool} (h : Part E n d) (hc : d.countP id = n) : Acyc E n := fun i hi => by
  refine h.ac i ?_
  have h1 := List.countP_eq_length.1 (hc.trans h.len.symm)
  have hi' : i < d.length := by rw [h.len]; exact hi
  rw [getD_get hi']
  exact h1 _ (List.getElem_mem hi')
theorem Part.next {E : Nat → Nat → Prop} {n : Nat} {d : List Bool} (h : Part E n d) (hE : ∀ i j, E i j → j < n) (ha : Acyc E n) (hc : d.countP id < n) : ∃ i, i < n ∧ d.getD i false = false ∧ ∀ j, E i j → d.getD j false = true := by
  have hne : (List.range n).filter (fun i => !d.getD i false) ≠ [] := fun e => by
    have : d.countP id = d.length := List.countP_eq_length.2 fun b hb => by
      obtain ⟨i, hi, rfl⟩ := List.mem_iff_getElem.1 hb
      rw [List.filter_eq_nil_iff] at e
      have := e i (List.mem_range.2 (by rw [← h.len]; exact hi))
      rw [getD_get hi] at this
      simpa using this
    rw [h.len] at this
    omega
  obtain ⟨u, hu, hs⟩ := sink (R := Rch E n) (fun i m j hm => Rch_trans E n hm) _ hne fun u hu => by
    have := (List.mem_filter.1 hu).1
    have hl := List.mem_range.1 this
    exact ⟨hl, ha u hl⟩
  obtain ⟨h1, h2⟩ := List.mem_filter.1 hu
  refine ⟨u, List.mem_range.1 h1, by simpa using h2, fun j hj => ?_⟩
  rcases hd : d.getD j false with _ | _
  · exact absurd (Rch_edge E n hj) (hs j (List.mem_filter.2 ⟨List.mem_range.2 (hE _ _ hj), by rw [hd]; rfl⟩))
  · rfl
theorem count_set {d : List Bool} {i : Nat} (h : i < d.length) (hu : d.getD i false = false) : (d.set i true).countP id = d.countP id + 1 := by
  rw [List.countP_set (by exact h)]
  rw [getD_get h] at hu
  simp [hu]
end Go.Am
set_option maxRecDepth 100000
set_option linter.unusedVariables false
set_option linter.unusedSimpArgs false
set_option linter.constructorNameAsVariable false
namespace Go.Proofs.Ytefehcmhdiifnaa.leaseTells.Code
open Go Go.Am
abbrev Node := List Int × Int × Int × Unit
abbrev Task := Int × Int × Int × Int × Int × Unit
abbrev Run := Int × ByteArray × (List Node × Unit) × Int × List Task × Unit
abbrev Arr := List Bool
theorem eN (r : Node) : (r.1, r.2.1, r.2.2.1, ()) = r := rfl
theorem eT (r : Task) : (r.1, r.2.1, r.2.2.1, r.2.2.2.1, r.2.2.2.2.1, ()) = r := rfl
theorem eR (r : Run) : (r.1, r.2.1, (r.2.2.1.1, ()), r.2.2.2.1, r.2.2.2.2.1, ()) = r := rfl
theorem wrap_sub1 {i : Nat} (h1 : 0 < i) (h : i < 9223372036854775807) : IntKind.i64.wrap ((i : Int) - Int.ofNat 1) = ((i - 1 : Nat) : Int) := by
  unfold IntKind.wrap
  simp [IntKind.bits, IntKind.signed]
  omega
theorem one1 {α : Type} (a v : α) : (List.replicate 1 a).set 0 v = [v] := rfl
theorem all1 {α : Type} (l : List α) : List.take l.length (List.drop 0 l) = l := by rw [List.drop_zero, List.take_length]
theorem room8 {n : Nat} (h : n ≤ 100000) : (decide (n * 8 ≤ maxRoom) && decide (n ≤ maxRoom)) = true := by
  have : maxRoom = 70368744177664 := by decide
  rw [this]
  simp; omega

abbrev z0 : Int := dft (Sh.i IntKind.i64)
def NeedOk (i n : Int) (l : List Int) (j : Nat) : Prop := 0 ≤ l.getD j z0 ∧ l.getD j z0 < n ∧ l.getD j z0 ≠ i ∧ (0 < j → l.getD (j - 1) z0 < l.getD j z0)
def ShOk (i n : Int) (nd : Node) : Prop := (1 ≤ nd.2.1 ∧ nd.2.1 ≤ 5) ∧ (0 ≤ nd.2.2.1 ∧ nd.2.2.1 ≤ 1048576) ∧ ∀ j, j < nd.1.length → NeedOk i n nd.1 j
theorem all_succ {P : Nat → Prop} {j : Nat} (h : ∀ m, m < j → P m) (hj : P j) : ∀ m, m < j + 1 → P m := fun m hm => by
  rcases Nat.lt_or_ge m j with h1 | h1
  · exact h m h1
  · have : m = j := by omega
    rw [this]; exact hj
theorem f100 (i n : Int) (nd : Node) (hn : nd.1.length ≤ 9223372036854775807) : ∃ b, F100 (i, n, nd, ()) = some (b, ()) ∧ (b = true ↔ ShOk i n nd) := by
  obtain ⟨l, n1, n2, _⟩ := nd
  simp only at hn
  obtain ⟨y, hy, hq⟩ := rng_hoare (st := L100_1006400t) l.length (fun j (p : Int) => (i, n, p, l, (l.length : Int), (j : Int), ())) (fun j p => (j = 0 → p = -1) ∧ (0 < j → p = l.getD (j - 1) z0) ∧ -1 ≤ p ∧ ∀ m, m < j → NeedOk i n l m)
    (fun y => (y = .inl (false, ()) ∧ ∃ m, m < l.length ∧ ¬ NeedOk i n l m) ∨ (y = .inr () ∧ ∀ m, m < l.length → NeedOk i n l m)) (fun j p h hx => by
      obtain ⟨hx1, hx2, hx3, hx4⟩ := hx
      simp only [L100_1006400t, L100_1006400s0, rg_lt h, rg_in h, rg_ltn h, cond_true, Int.toNat_natCast]
      by_cases h1 : l.getD j (dft (Sh.i IntKind.i64)) ≤ p
      · rw [decide_eq_true h1]
        refine .inr ⟨_, rfl, .inl ⟨rfl, j, h, fun hk => ?_⟩⟩
        obtain ⟨k1, k2, k3, k4⟩ := hk
        rcases Nat.eq_zero_or_pos j with h0 | h0
        · rw [hx1 h0] at h1; simp only [z0] at *; omega
        · have := k4 h0; rw [← hx2 h0] at this; simp only [z0] at *; omega
      · rw [decide_eq_false h1]
        by_cases h2 : l.getD j (dft (Sh.i IntKind.i64)) ≥ n
        · rw [decide_eq_true h2]
          exact .inr ⟨_, rfl, .inl ⟨rfl, j, h, fun hk => by have := hk.2.1; simp only [z0] at *; omega⟩⟩
        · rw [decide_eq_false h2]
          rcases h3 : (l.getD j (dft (Sh.i IntKind.i64)) == i) with _ | _
          · have h3' : l.getD j z0 ≠ i := fun e => by simp only [z0] at e; rw [e] at h3; simp at h3
            refine .inl ⟨l.getD j (dft (Sh.i IntKind.i64)), by rw [rg_wrap (by omega)]; rfl, fun h0 => by omega, fun _ => by simp, by simp only [z0] at *; omega, ?_⟩
            refine all_succ hx4 ⟨?_, by simp only [z0] at *; omega, h3', fun h0 => by rw [← hx2 h0]; simp only [z0] at *; omega⟩
            simp only [z0] at *; omega
          · have h3' : l.getD j z0 = i := by simpa using h3
            exact .inr ⟨_, rfl, .inl ⟨rfl, j, h, fun hk => hk.2.2.1 h3'⟩⟩)
    (fun p hx => ⟨.inr (), by simp only [L100_1006400t, L100_1006400s0, rg_end, cond_false], .inr ⟨rfl, hx.2.2.2⟩⟩) (-1) ⟨fun _ => rfl, fun h => absurd h (by omega), by omega, fun m h => absurd h (Nat.not_lt_zero _)⟩
  have hy' : L100_1006400 (i, n, Int.negSucc 0, l, (l.length : Int), Int.ofNat 0, ()) = some y := hy
  simp only [F100, hy', Option.bind_some, ShOk]
  simp only [ofN]
  by_cases c1 : n1 < ((1 : Nat) : Int)
  · rw [decide_eq_true c1]; exact ⟨_, rfl, (fun h => nomatch h), fun h => by omega⟩
  · rw [decide_eq_false c1]
    by_cases c2 : n1 > ((5 : Nat) : Int)
    · rw [decide_eq_true c2]; exact ⟨_, rfl, (fun h => nomatch h), fun h => by omega⟩
    · rw [decide_eq_false c2]
      by_cases c3 : n2 < ((0 : Nat) : Int)
      · rw [decide_eq_true c3]; exact ⟨_, rfl, (fun h => nomatch h), fun h => by omega⟩
      · rw [decide_eq_false c3]
        by_cases c4 : n2 > ((1048576 : Nat) : Int)
        · rw [decide_eq_true c4]; exact ⟨_, rfl, (fun h => nomatch h), fun h => by omega⟩
        · rw [decide_eq_false c4]
          rcases hq with ⟨rfl, m, h1, h2⟩ | ⟨rfl, hq⟩
          · exact ⟨_, rfl, (fun h => nomatch h), fun h => absurd (h.2.2 m h1) h2⟩
          · exact ⟨_, rfl, fun _ => ⟨by omega, by omega, hq⟩, fun _ => rfl⟩
theorem f162 (ns : List Node) (i : Nat) (hi : i < ns.length) (hn : (ns.getD i (dft sNode)).1.length ≤ 9223372036854775807) : ∃ b, F162 ((ns, ()), (i : Int), ()) = some (b, ()) ∧ (b = true ↔ ShOk i ns.length (ns.getD i (dft sNode))) := by
  obtain ⟨nd, hnd⟩ : ∃ nd : Node, ns.getD i (dft sNode) = nd := ⟨_, rfl⟩
  simp only [F162, rg_in hi, rg_ltn hi, cond_true, Int.toNat_natCast, hnd]
  rw [hnd] at hn
  obtain ⟨l, n1, n2, _⟩ := nd
  simp only at hn
  obtain ⟨y, hy, hq⟩ := rng_hoare (st := L162_1010368t) l.length (fun j (_ : Unit) => ((i : Int), (j : Int), ns, l, n1, n2, ())) (fun j _ => ∀ m, m < j → NeedOk i ns.length l m)
    (fun y => (y = .inl (false, ns, l, n1, n2, ()) ∧ ∃ m, m < l.length ∧ ¬ NeedOk i ns.length l m) ∨ (y = .inr (ns, l, n1, n2, ()) ∧ ∀ m, m < l.length → NeedOk i ns.length l m)) (fun j _ h hx => by
      simp only [L162_1010368t, L162_1010368s0, rg_lt h, rg_in h, rg_ltn h, cond_true, Int.toNat_natCast]
      by_cases h1 : l.getD j (dft (Sh.i IntKind.i64)) < Int.ofNat 0
      · rw [decide_eq_true h1]
        exact .inr ⟨_, rfl, .inl ⟨rfl, j, h, fun hk => by have := hk.1; simp only [z0, ofN] at *; omega⟩⟩
      · rw [decide_eq_false h1]
        by_cases h2 : l.getD j (dft (Sh.i IntKind.i64)) ≥ (ns.length : Int)
        · rw [decide_eq_true h2]
          exact .inr ⟨_, rfl, .inl ⟨rfl, j, h, fun hk => by have := hk.2.1; simp only [z0] at *; omega⟩⟩
        · rw [decide_eq_false h2]
          rcases h3 : (l.getD j (dft (Sh.i IntKind.i64)) == (i : Int)) with _ | _
          · have h3' : l.getD j z0 ≠ i := fun e => by simp only [z0] at e; rw [e] at h3; simp at h3
            simp only [cond_false]
            rw [rg_wrap (by omega)]
            by_cases h0 : 0 < j
            · have hj1 : j - 1 < l.length := by omega
              rw [show decide ((j : Int) > Int.ofNat 0) = true from decide_eq_true (by simp only [ofN]; omega), wrap_sub1 h0 (by omega)]
              simp only [rg_in hj1, rg_ltn hj1, Int.toNat_natCast, cond_true]
              by_cases h4 : l.getD j (dft (Sh.i IntKind.i64)) ≤ l.getD (j - 1) (dft (Sh.i IntKind.i64))
              · rw [decide_eq_true h4]
                exact .inr ⟨_, rfl, .inl ⟨rfl, j, h, fun hk => by have := hk.2.2.2 h0; simp only [z0] at *; omega⟩⟩
              · rw [decide_eq_false h4]
                exact .inl ⟨(), rfl, all_succ hx ⟨by simp only [z0, ofN] at *; omega, by simp only [z0] at *; omega, h3', fun _ => by simp only [z0] at *; omega⟩⟩
            · rw [show decide ((j : Int) > Int.ofNat 0) = false from decide_eq_false (by simp only [ofN]; omega)]
              exact .inl ⟨(), rfl, all_succ hx ⟨by simp only [z0, ofN] at *; omega, by simp only [z0] at *; omega, h3', fun h => absurd h h0⟩⟩
          · have h3' : l.getD j z0 = i := by simpa using h3
            exact .inr ⟨_, rfl, .inl ⟨rfl, j, h, fun hk => hk.2.2.1 h3'⟩⟩)
    (fun _ hx => ⟨.inr (ns, l, n1, n2, ()), by simp only [L162_1010368t, L162_1010368s0, rg_end, cond_false], .inr ⟨rfl, hx⟩⟩) () (fun m h => absurd h (Nat.not_lt_zero _))
  have hy' : L162_1010368 ((i : Int), Int.ofNat 0, ns, l, n1, n2, ()) = some y := hy
  simp only [hy', Option.bind_some, ShOk]
  simp only [ofN]
  by_cases c1 : n1 < ((1 : Nat) : Int)
  · rw [decide_eq_true c1]; exact ⟨_, rfl, (fun h => nomatch h), fun h => by omega⟩
  · rw [decide_eq_false c1]
    by_cases c2 : n1 > ((5 : Nat) : Int)
    · rw [decide_eq_true c2]; exact ⟨_, rfl, (fun h => nomatch h), fun h => by omega⟩
    · rw [decide_eq_false c2]
      by_cases c3 : n2 < ((0 : Nat) : Int)
      · rw [decide_eq_true c3]; exact ⟨_, rfl, (fun h => nomatch h), fun h => by omega⟩
      · rw [decide_eq_false c3]
        by_cases c4 : n2 > ((1048576 : Nat) : Int)
        · rw [decide_eq_true c4]; exact ⟨_, rfl, (fun h => nomatch h), fun h => by omega⟩
        · rw [decide_eq_false c4]
          rcases hq with ⟨rfl, m, h1, h2⟩ | ⟨rfl, hq⟩
          · exact ⟨_, rfl, (fun h => nomatch h), fun h => absurd (h.2.2 m h1) h2⟩
          · exact ⟨_, rfl, fun _ => ⟨by omega, by omega, hq⟩, fun _ => rfl⟩
end Go.Proofs.Ytefehcmhdiifnaa.leaseTells.Code
set_option maxRecDepth 100000
set_option linter.unusedVariables false
set_option linter.unusedSimpArgs false
set_option linter.constructorNameAsVariable false
namespace Go.Proofs.Ytefehcmhdiifnaa.leaseTells.Code
open Go Go.Am
def EdG (ns : List Node) (i j : Nat) : Prop := i < ns.length ∧ (j : Int) ∈ (ns.getD i (dft sNode)).1
def ShAll (ns : List Node) : Prop := ∀ i : Nat, i < ns.length → ShOk i ns.length (ns.getD i (dft sNode))
def Dag (ns : List Node) : Prop := (1 ≤ ns.length ∧ ns.length ≤ 12) ∧ ShAll ns ∧ Acyc (EdG ns) ns.length
theorem sh_mem {i n : Int} {nd : Node} (h : ShOk i n nd) : ∀ v ∈ nd.1, 0 ≤ v ∧ v < n := fun v hv => by
  obtain ⟨j, hj, rfl⟩ := List.mem_iff_getElem.1 hv
  have := h.2.2 j hj
  unfold NeedOk at this
  rw [getD_get hj] at this
  exact ⟨this.1, this.2.1⟩
theorem edg_lt {ns : List Node} (h : ShAll ns) {i j : Nat} (he : EdG ns i j) : j < ns.length := by
  have := sh_mem (h i he.1) _ he.2
  omega
theorem rch_lt {ns : List Node} (h : ShAll ns) : ∀ (K : Nat) {i j : Nat}, Rch (EdG ns) K i j → i < ns.length ∧ j < ns.length
  | 0, _, _, he => ⟨he.1, edg_lt h he⟩
  | K + 1, _, _, he => by
    rcases he with he | ⟨h1, h2⟩
    · exact rch_lt h K he
    · exact ⟨(rch_lt h K h1).1, (rch_lt h K h2).2⟩
def Mat (a : Arr) (P : Nat → Nat → Prop) : Prop := a.length = 144 ∧ ∀ x y, x < 12 → y < 12 → (a.getD (x * 12 + y) false = true ↔ P x y)
theorem ix (i j : Nat) : 0 + i * 12 + j * 1 = i * 12 + j := by omega
theorem cell_ok {a : Arr} (ha : a.length = 144) {i j : Nat} (hi : i < 12) (hj : j < 12) : (decide (i * 12 + j < a.length) && decide (144 = a.length)) = true := by
  rw [ha]; simp; omega
theorem in12 {i : Nat} (h : i < 12) : within 0 (i : Int) ((↑12 : Int) - 1) = true := by simp [within]; omega
theorem mat_get {a : Arr} {P : Nat → Nat → Prop} (h : Mat a P) {x y : Nat} (hx : x < 12) (hy : y < 12) : a.getD (x * 12 + y) (dft Sh.b) = true ↔ P x y := h.2 x y hx hy
theorem mat_set {a : Arr} {P Q : Nat → Nat → Prop} (h : Mat a P) {i j : Nat} (hi : i < 12) (hj : j < 12) (b : Bool) (h1 : b = true ↔ Q i j) (h2 : ∀ x y, x < 12 → y < 12 → ¬ (x = i ∧ y = j) → (P x y ↔ Q x y)) : Mat (a.set (i * 12 + j) b) Q := by
  refine ⟨by rw [List.length_set]; exact h.1, fun x y hx hy => ?_⟩
  rw [List.getD_eq_getElem?_getD, List.getElem?_set]
  by_cases e : i * 12 + j = x * 12 + y
  · have ex : x = i := by omega
    have ey : y = j := by omega
    subst ex ey
    rw [if_pos e, if_pos (by rw [h.1]; omega)]
    exact h1
  · rw [if_neg e, ← List.getD_eq_getElem?_getD, h.2 x y hx hy]
    exact h2 x y hx hy fun ⟨e1, e2⟩ => e (by rw [e1, e2])
theorem mat_iff {a : Arr} {P Q : Nat → Nat → Prop} (h : Mat a P) (h2 : ∀ x y, x < 12 → y < 12 → (P x y ↔ Q x y)) : Mat a Q := ⟨h.1, fun x y hx hy => (h.2 x y hx hy).trans (h2 x y hx hy)⟩
theorem l486 (n : Nat) (hn : n ≤ 12) (a : Arr) (P : Nat → Nat → Prop) (ha : Mat a P) : ∃ y, L70_1004486 ((n : Int), Int.ofNat 0, a, ()) = some y ∧ ((y = .inl (Int.ofNat 230, a, ()) ∧ ∃ i, i < n ∧ P i i) ∨ (y = .inr (a, ()) ∧ ∀ i, i < n → ¬ P i i)) := by
  obtain ⟨y, hy, h⟩ := rng_hoare (st := L70_1004486t) n (fun i (_ : Unit) => ((n : Int), (i : Int), a, ())) (fun j _ => ∀ i, i < j → ¬ P i i) (fun y => (y = .inl (Int.ofNat 230, a, ()) ∧ ∃ i, i < n ∧ P i i) ∨ (y = .inr (a, ()) ∧ ∀ i, i < n → ¬ P i i)) (fun i _ h hx => by
      have hi : i < 12 := by omega
      simp only [L70_1004486t, L70_1004486s0, rg_lt h, in12 hi, cond_true, Int.toNat_natCast, ix, cell_ok ha.1 hi hi]
      have hg := mat_get ha hi hi
      rw [rg_wrap (by omega)]
      rcases hb : a.getD (i * 12 + i) (dft Sh.b) with _ | _
      · rw [hb] at hg
        exact .inl ⟨(), rfl, all_succ hx fun h => nomatch hg.2 h⟩
      · exact .inr ⟨_, rfl, .inl ⟨rfl, i, h, hg.1 hb⟩⟩) (fun _ hx => ⟨.inr (a, ()), by simp only [L70_1004486t, L70_1004486s0, rg_end, cond_false], .inr ⟨rfl, hx⟩⟩) () (fun i h => absurd h (Nat.not_lt_zero _))
  exact ⟨y, hy, h⟩
theorem l485 (n k i : Nat) (hn : n ≤ 12) (hk : k < 12) (hi : i < 12) (x1 x2 x3 x4 : Int) (a : Arr) (P : Nat → Nat → Prop) (ha : Mat a P) : ∃ a' : Arr, L70_1004485 ((n : Int), (k : Int), (i : Int), x1, x2, x3, x4, (n : Int), Int.ofNat 0, a, ()) = some ((n : Int), (k : Int), x1, x2, x3, x4, a', ()) ∧ Mat a' (fun x y => P x y ∨ (x = i ∧ y < n ∧ P i k ∧ P k y)) := by
  obtain ⟨y, hy, a', rfl, h⟩ := rng_hoare (st := L70_1004485t) n (fun j (a : Arr) => ((n : Int), (k : Int), (i : Int), x1, x2, x3, x4, (n : Int), (j : Int), a, ())) (fun j a => Mat a (fun x y => P x y ∨ (x = i ∧ y < j ∧ P i k ∧ P k y)))
    (fun y => ∃ a' : Arr, y = ((n : Int), (k : Int), x1, x2, x3, x4, a', ()) ∧ Mat a' (fun x y => P x y ∨ (x = i ∧ y < n ∧ P i k ∧ P k y))) (fun j a h hx => by
      have hj : j < 12 := by omega
      have g1 := mat_get hx hi hj
      have g2 := mat_get hx hi hk
      have g3 := mat_get hx hk hj
      simp only [L70_1004485t, L70_1004485s0, rg_lt h, in12 hi, in12 hj, in12 hk, cond_true, Int.toNat_natCast, ix, cell_ok hx.1 hi hj, cell_ok hx.1 hi hk, cell_ok hx.1 hk hj]
      rw [rg_wrap (by omega)]
      refine .inl ?_
      have new : ∀ b : Bool, (b = true ↔ P i j ∨ (P i k ∧ P k j)) → Mat (a.set (i * 12 + j) b) (fun x y => P x y ∨ (x = i ∧ y < j + 1 ∧ P i k ∧ P k y)) := fun b hb => by
        refine mat_set hx hi hj b ?_ fun x y _ _ hne => ?_
        · rw [hb]
          exact ⟨fun h => h.imp id fun h => ⟨rfl, Nat.lt_succ_self _, h⟩, fun h => h.imp id fun h => h.2.2⟩
        · refine ⟨fun h => h.imp id fun h => ⟨h.1, by omega, h.2.2⟩, fun h => h.imp id fun h => ⟨h.1, ?_, h.2.2⟩⟩
          have := h.1
          have := h.2.1
          omega
      have e1 : (P i j ∨ (i = i ∧ j < j ∧ P i k ∧ P k j)) ↔ P i j := ⟨fun h => h.elim id fun h => absurd h.2.1 (Nat.lt_irrefl _), .inl⟩
      have e2 : (P i k ∨ (i = i ∧ k < j ∧ P i k ∧ P k k)) ↔ P i k := ⟨fun h => h.elim id fun h => h.2.2.1, .inl⟩
      have e3 : (P k j ∨ (k = i ∧ j < j ∧ P i k ∧ P k j)) ↔ P k j := ⟨fun h => h.elim id fun h => absurd h.2.1 (Nat.lt_irrefl _), .inl⟩
      rw [e1] at g1
      rw [e2] at g2
      rw [e3] at g3
      rcases hb1 : a.getD (i * 12 + j) (dft Sh.b) with _ | _
      · rcases hb2 : a.getD (i * 12 + k) (dft Sh.b) with _ | _
        · refine ⟨_, rfl, new false ⟨fun h => (nomatch h), fun h => ?_⟩⟩
          rcases h with h | h
          · rw [g1.2 h] at hb1; cases hb1
          · rw [g2.2 h.1] at hb2; cases hb2
        · refine ⟨_, rfl, new _ (g3.trans ⟨fun h => .inr ⟨g2.1 hb2, h⟩, fun h => ?_⟩)⟩
          rcases h with h | h
          · rw [g1.2 h] at hb1; cases hb1
          · exact h.2
      · exact ⟨_, rfl, new true ⟨fun _ => .inl (g1.1 hb1), fun _ => rfl⟩⟩) (fun a hx => ⟨((n : Int), (k : Int), x1, x2, x3, x4, a, ()), by simp only [L70_1004485t, L70_1004485s0, rg_end, cond_false], a, rfl, hx⟩) a (mat_iff ha fun x y _ _ => ⟨.inl, fun h => h.elim id fun h => absurd h.2.1 (Nat.not_lt_zero _)⟩)
  exact ⟨a', hy, h⟩
theorem l484 (n k : Nat) (hn : n ≤ 12) (hk : k < 12) (x1 x2 : Int) (a : Arr) (P : Nat → Nat → Prop) (ha : Mat a P) : ∃ a' : Arr, L70_1004484 ((n : Int), (k : Int), x1, x2, (n : Int), Int.ofNat 0, a, ()) = some ((n : Int), x1, x2, a', ()) ∧ Mat a' (fun x y => P x y ∨ (x < n ∧ y < n ∧ P x k ∧ P k y)) := by
  obtain ⟨y, hy, a', rfl, h⟩ := rng_hoare (st := L70_1004484t) n (fun j (a : Arr) => ((n : Int), (k : Int), x1, x2, (n : Int), (j : Int), a, ())) (fun j a => Mat a (fun x y => P x y ∨ (x < j ∧ y < n ∧ P x k ∧ P k y)))
    (fun y => ∃ a' : Arr, y = ((n : Int), x1, x2, a', ()) ∧ Mat a' (fun x y => P x y ∨ (x < n ∧ y < n ∧ P x k ∧ P k y))) (fun j a h hx => by
      obtain ⟨a', h1, h2⟩ := l485 n k j hn hk (by omega) x1 x2 (n : Int) (j : Int) a _ hx
      simp only [L70_1004484t, L70_1004484s0, rg_lt h, cond_true, h1, Option.bind_some]
      rw [rg_wrap (by omega)]
      refine .inl ⟨a', rfl, mat_iff h2 fun x y _ _ => ⟨fun h => ?_, fun h => ?_⟩⟩
      · rcases h with (h | h) | ⟨rfl, hy, h3, h4⟩
        · exact .inl h
        · exact .inr ⟨by omega, h.2⟩
        · refine .inr ⟨Nat.lt_succ_self _, hy, ?_, ?_⟩
          · exact h3.elim id fun h => h.2.2.1
          · exact h4.elim id fun h => h.2.2.2
      · rcases h with h | ⟨hx1, hy, h3, h4⟩
        · exact .inl (.inl h)
        · rcases Nat.lt_or_ge x j with h5 | h5
          · exact .inl (.inr ⟨h5, hy, h3, h4⟩)
          · have e : x = j := by omega
            subst e
            exact .inr ⟨rfl, hy, .inl h3, .inl h4⟩) (fun a hx => ⟨((n : Int), x1, x2, a, ()), by simp only [L70_1004484t, L70_1004484s0, rg_end, cond_false], a, rfl, hx⟩) a (mat_iff ha fun x y _ _ => ⟨.inl, fun h => h.elim id fun h => absurd h.1 (Nat.not_lt_zero _)⟩)
  exact ⟨a', hy, h⟩
theorem l483 (ns : List Node) (hn : ns.length ≤ 12) (hs : ShAll ns) (a : Arr) (ha : Mat a (EdG ns)) : ∃ a' : Arr, L70_1004483 ((ns.length : Int), (ns.length : Int), Int.ofNat 0, a, ()) = some ((ns.length : Int), a', ()) ∧ Mat a' (Rch (EdG ns) ns.length) := by
  obtain ⟨y, hy, a', rfl, h⟩ := rng_hoare (st := L70_1004483t) ns.length (fun j (a : Arr) => ((ns.length : Int), (ns.length : Int), (j : Int), a, ())) (fun j a => Mat a (Rch (EdG ns) j))
    (fun y => ∃ a' : Arr, y = ((ns.length : Int), a', ()) ∧ Mat a' (Rch (EdG ns) ns.length)) (fun j a h hx => by
      obtain ⟨a', h1, h2⟩ := l484 ns.length j hn (by omega) (ns.length : Int) (j : Int) a _ hx
      simp only [L70_1004483t, L70_1004483s0, rg_lt h, cond_true, h1, Option.bind_some]
      rw [rg_wrap (by omega)]
      exact .inl ⟨a', rfl, mat_iff h2 fun x y _ _ => ⟨fun h => h.imp id fun h => h.2.2, fun h => h.imp id fun h => ⟨(rch_lt hs j h.1).1, (rch_lt hs j h.2).2, h⟩⟩⟩) (fun a hx => ⟨((ns.length : Int), a, ()), by simp only [L70_1004483t, L70_1004483s0, rg_end, cond_false], a, rfl, hx⟩) a ha
  exact ⟨a', hy, h⟩
theorem l482 (n i : Nat) (hi : i < 12) (ns : List Node) (x1 x2 : Int) (l : List Int) (hl : l.length ≤ 9223372036854775807) (hr : ∀ v ∈ l, 0 ≤ v ∧ v < 12) (a : Arr) (P : Nat → Nat → Prop) (ha : Mat a P) : ∃ a' : Arr, L70_1004482 ((n : Int), (i : Int), ns, x1, x2, l, (l.length : Int), Int.ofNat 0, a, ()) = some ((n : Int), ns, x1, x2, a', ()) ∧ Mat a' (fun x y => P x y ∨ (x = i ∧ (y : Int) ∈ l)) := by
  obtain ⟨y, hy, a', rfl, h⟩ := rng_hoare (st := L70_1004482t) l.length (fun j (a : Arr) => ((n : Int), (i : Int), ns, x1, x2, l, (l.length : Int), (j : Int), a, ())) (fun j a => Mat a (fun x y => P x y ∨ (x = i ∧ (y : Int) ∈ l.take j)))
    (fun y => ∃ a' : Arr, y = ((n : Int), ns, x1, x2, a', ()) ∧ Mat a' (fun x y => P x y ∨ (x = i ∧ (y : Int) ∈ l))) (fun j a h hx => by
      have hv := hr _ (getD_mem h (dft (Sh.i IntKind.i64)))
      obtain ⟨v, hv2⟩ : ∃ v : Nat, l.getD j (dft (Sh.i IntKind.i64)) = (v : Int) := ⟨(l.getD j (dft (Sh.i IntKind.i64))).toNat, by omega⟩
      have hv3 : v < 12 := by omega
      simp only [L70_1004482t, L70_1004482s0, rg_lt h, rg_in h, rg_ltn h, in12 hi, cond_true, Int.toNat_natCast, hv2, in12 hv3, ix, cell_ok hx.1 hi hv3]
      rw [rg_wrap (by omega)]
      have ht : ∀ y : Nat, (y : Int) ∈ l.take (j + 1) ↔ (y : Int) ∈ l.take j ∨ y = v := fun y => by
        rw [List.take_succ_eq_append_getElem h, List.mem_append, List.mem_singleton, ← getD_get h (dft (Sh.i IntKind.i64)), hv2]
        constructor
        · rintro (h | h)
          · exact .inl h
          · exact .inr (by omega)
        · rintro (h | h)
          · exact .inl h
          · exact .inr (by omega)
      refine .inl ⟨_, rfl, mat_set hx hi hv3 true ⟨fun _ => .inr ⟨rfl, (ht v).2 (.inr rfl)⟩, fun _ => rfl⟩ fun x y _ _ hne => ?_⟩
      rw [ht y]
      constructor
      · rintro (h | h)
        · exact .inl h
        · exact .inr ⟨h.1, .inl h.2⟩
      · rintro (h | ⟨h, h3 | h3⟩)
        · exact .inl h
        · exact .inr ⟨h, h3⟩
        · exact absurd ⟨h, h3⟩ hne) (fun a hx => ⟨((n : Int), ns, x1, x2, a, ()), by simp only [L70_1004482t, L70_1004482s0, rg_end, cond_false], a, rfl, by rw [List.take_length] at hx; exact hx⟩) a (mat_iff ha fun x y _ _ => ⟨.inl, fun h => h.elim id fun h => by simp at h⟩)
  exact ⟨a', hy, h⟩
theorem l481 (ns : List Node) (hn : ns.length ≤ 12) (hs : ShAll ns) (hl : ∀ nd ∈ ns, nd.1.length ≤ 9223372036854775807) (a : Arr) (ha : Mat a (fun _ _ => False)) : ∃ a' : Arr, L70_1004481 ((ns.length : Int), ns, (ns.length : Int), Int.ofNat 0, a, ()) = some ((ns.length : Int), a', ()) ∧ Mat a' (EdG ns) := by
  obtain ⟨y, hy, a', rfl, h⟩ := rng_hoare (st := L70_1004481t) ns.length (fun j (a : Arr) => ((ns.length : Int), ns, (ns.length : Int), (j : Int), a, ())) (fun j a => Mat a (fun x y => x < j ∧ (y : Int) ∈ (ns.getD x (dft sNode)).1))
    (fun y => ∃ a' : Arr, y = ((ns.length : Int), a', ()) ∧ Mat a' (EdG ns)) (fun j a h hx => by
      obtain ⟨a', h1, h2⟩ := l482 ns.length j (by omega) ns (ns.length : Int) (j : Int) (ns.getD j (dft sNode)).1 (hl _ (getD_mem h (dft sNode))) (fun v hv => by have := sh_mem (hs j h) v hv; omega) a _ hx
      simp only [L70_1004481t, L70_1004481s0, rg_lt h, rg_in h, rg_ltn h, cond_true, Int.toNat_natCast, h1, Option.bind_some]
      rw [rg_wrap (by omega)]
      refine .inl ⟨a', rfl, mat_iff h2 fun x y _ _ => ⟨fun h => ?_, fun h => ?_⟩⟩
      · rcases h with h | ⟨rfl, h⟩
        · exact ⟨by omega, h.2⟩
        · exact ⟨Nat.lt_succ_self _, h⟩
      · rcases Nat.lt_or_ge x j with h5 | h5
        · exact .inl ⟨h5, h.2⟩
        · have e : x = j := by omega
          subst e
          exact .inr ⟨rfl, h.2⟩) (fun a hx => ⟨((ns.length : Int), a, ()), by simp only [L70_1004481t, L70_1004481s0, rg_end, cond_false], a, rfl, hx⟩) a (mat_iff ha fun x y _ _ => ⟨False.elim, fun h => absurd h.1 (Nat.not_lt_zero _)⟩)
  exact ⟨a', hy, h⟩
theorem l480 (ns : List Node) (hn : ns.length ≤ 12) (hr : ∀ nd ∈ ns, nd.1.length ≤ 9223372036854775807) : ∃ y, L70_1004480 ((ns.length : Int), ns, (ns.length : Int), Int.ofNat 0, ns, ()) = some y ∧ ((∃ r, y = .inl (Int.ofNat 230, r) ∧ ¬ ShAll ns) ∨ (y = .inr ((ns.length : Int), ns, ()) ∧ ShAll ns)) := by
  obtain ⟨y, hy, h⟩ := rng_hoare (st := L70_1004480t) ns.length (fun j (_ : Unit) => ((ns.length : Int), ns, (ns.length : Int), (j : Int), ns, ())) (fun j _ => ∀ i : Nat, i < j → ShOk i ns.length (ns.getD i (dft sNode)))
    (fun y => (∃ r, y = .inl (Int.ofNat 230, r) ∧ ¬ ShAll ns) ∨ (y = .inr ((ns.length : Int), ns, ()) ∧ ShAll ns)) (fun j a h hx => by
      obtain ⟨b, h1, h2⟩ := f100 (j : Int) (ns.length : Int) _ (hr _ (getD_mem h (dft sNode)))
      simp only [L70_1004480t, L70_1004480s0, rg_lt h, rg_in h, rg_ltn h, cond_true, Int.toNat_natCast, eN, h1, Option.bind_some]
      rw [rg_wrap (by omega)]
      cases b
      · exact .inr ⟨_, rfl, .inl ⟨_, rfl, fun hs => nomatch h2.2 (hs j h)⟩⟩
      · exact .inl ⟨(), rfl, all_succ hx (h2.1 rfl)⟩) (fun a hx => ⟨.inr ((ns.length : Int), ns, ()), by simp only [L70_1004480t, L70_1004480s0, rg_end, cond_false], .inr ⟨rfl, hx⟩⟩) () (fun i h => absurd h (Nat.not_lt_zero _))
  exact ⟨y, hy, h⟩
theorem f70 (ns : List Node) (hr : ∀ nd ∈ ns, nd.1.length ≤ 9223372036854775807) : ∃ v, F70 ((ns, ()), ()) = some (v, ()) ∧ ((v = 0 ∧ Dag ns) ∨ (v = 230 ∧ ¬ Dag ns)) := by
  simp only [F70]
  by_cases h1 : ((ns.length : Nat) : Int) < Int.ofNat 1
  · rw [decide_eq_true h1]; exact ⟨_, rfl, .inr ⟨rfl, fun h => by have := h.1.1; simp only [ofN] at h1; omega⟩⟩
  · rw [decide_eq_false h1]
    by_cases h2 : ((ns.length : Nat) : Int) > Int.ofNat 12
    · rw [decide_eq_true h2]; exact ⟨_, rfl, .inr ⟨rfl, fun h => by have := h.1.2; simp only [ofN] at h2; omega⟩⟩
    · rw [decide_eq_false h2]
      have h12 : ns.length ≤ 12 := by simp only [ofN] at h2; omega
      have h01 : 1 ≤ ns.length := by simp only [ofN] at h1; omega
      obtain ⟨y, hy, hq⟩ := l480 ns h12 hr
      simp only [cond_false, hy, Option.bind_some]
      rcases hq with ⟨r, rfl, hs⟩ | ⟨rfl, hs⟩
      · exact ⟨_, rfl, .inr ⟨rfl, fun h => hs h.2.1⟩⟩
      · simp only
        obtain ⟨a1, e1, g1⟩ := l481 ns h12 hs hr (List.replicate 144 false) ⟨by simp, fun x y hx hy => ⟨fun h => (by rw [List.getD_eq_getElem?_getD, List.getElem?_replicate] at h; split at h <;> cases h), False.elim⟩⟩
        have e1' := e1
        simp only [List.replicate] at e1'
        rw [e1']
        simp only [Option.bind_some]
        obtain ⟨a2, e2, g2⟩ := l483 ns h12 hs a1 g1
        rw [e2]
        simp only [Option.bind_some]
        obtain ⟨y3, e3, g3⟩ := l486 ns.length h12 a2 _ g2
        rw [e3]
        simp only [Option.bind_some]
        rcases g3 with ⟨rfl, i, hi, hp⟩ | ⟨rfl, hp⟩
        · exact ⟨_, rfl, .inr ⟨rfl, fun h => h.2.2 i hi hp⟩⟩
        · exact ⟨_, rfl, .inl ⟨rfl, ⟨h01, h12⟩, hs, hp⟩⟩
end Go.Proofs.Ytefehcmhdiifnaa.leaseTells.Code
set_option maxRecDepth 100000
set_option linter.unusedVariables false
set_option linter.unusedSimpArgs false
set_option linter.constructorNameAsVariable false
namespace Go.Proofs.Ytefehcmhdiifnaa.leaseTells.Code
open Go Go.Am
theorem f176 (nd : Node) (d : List Bool) (hl : nd.1.length ≤ 9223372036854775807) (hd : d.length ≤ 9223372036854775807) (hn : ∀ v ∈ nd.1, 0 ≤ v ∧ v < (d.length : Int)) : ∃ b, F176 (nd, d, ()) = some (b, ()) ∧ (b = true ↔ ∀ v ∈ nd.1, d.getD v.toNat false = true) := by
  obtain ⟨l, n1, n2, _⟩ := nd
  simp only at hl hn
  obtain ⟨y, hy, hq⟩ := rng_hoare (st := L176_1011264t) l.length (fun j (_ : Unit) => (d, (j : Int), l, n1, n2, ())) (fun j _ => ∀ v ∈ l.take j, d.getD v.toNat false = true)
    (fun y => (y = .inl (false, l, n1, n2, ()) ∧ ¬ ∀ v ∈ l, d.getD v.toNat false = true) ∨ (y = .inr (l, n1, n2, ()) ∧ ∀ v ∈ l, d.getD v.toNat false = true)) (fun j _ h hx => by
      have hv := hn _ (getD_mem h (dft (Sh.i IntKind.i64)))
      have hw : within 0 (l.getD j (dft (Sh.i IntKind.i64))) ((d.length : Int) - 1) = true := by simp only [within, Bool.and_eq_true, decide_eq_true_eq]; omega
      have hd2 : decide ((l.getD j (dft (Sh.i IntKind.i64))).toNat < d.length) = true := decide_eq_true (by omega)
      simp only [L176_1011264t, L176_1011264s0, rg_lt h, rg_in h, rg_ltn h, cond_true, Int.toNat_natCast, hw, hd2]
      rw [rg_wrap (by omega)]
      rcases hb : d.getD (l.getD j (dft (Sh.i IntKind.i64))).toNat (dft Sh.b) with _ | _
      · exact .inr ⟨_, rfl, .inl ⟨rfl, fun h2 => by have h3 := h2 _ (getD_mem h (dft (Sh.i IntKind.i64))); rw [show false = dft Sh.b from rfl, hb] at h3; cases h3⟩⟩
      · refine .inl ⟨(), rfl, fun v hv => ?_⟩
        rcases mem_take_succ h (dft (Sh.i IntKind.i64)) hv with h3 | h3
        · exact hx v h3
        · rw [h3]; exact hb)
    (fun _ hx => ⟨.inr (l, n1, n2, ()), by simp only [L176_1011264t, L176_1011264s0, rg_end, cond_false], .inr ⟨rfl, by rw [List.take_length] at hx; exact hx⟩⟩) () (by simp)
  have hy' : L176_1011264 (d, Int.ofNat 0, l, n1, n2, ()) = some y := hy
  simp only [F176, hy', Option.bind_some]
  rcases hq with ⟨rfl, h⟩ | ⟨rfl, h⟩
  · exact ⟨_, rfl, (fun h => nomatch h), fun h2 => absurd h2 h⟩
  · exact ⟨_, rfl, fun _ => h, fun _ => rfl⟩
def Cand (ns : List Node) (d : List Bool) (i : Nat) : Prop := d.getD i false = false ∧ ∀ j, EdG ns i j → d.getD j false = true
theorem all2 {α : Type} {l : List α} {n : Nat} (h : l.length = n) : List.take n (List.drop 0 l) = l := by rw [← h]; exact all1 l
theorem met_iff {ns : List Node} (hs : ShAll ns) {i : Nat} (hi : i < ns.length) (d : List Bool) : (∀ v ∈ (ns.getD i (dft sNode)).1, d.getD v.toNat false = true) ↔ ∀ j, EdG ns i j → d.getD j false = true := by
  refine ⟨fun h j hj => by have := h _ hj.2; rwa [Int.toNat_natCast] at this, fun h v hv => h _ ⟨hi, ?_⟩⟩
  have := sh_mem (hs i hi) v hv
  rw [show ((v.toNat : Nat) : Int) = v by omega]
  exact hv
def inI (n : Nat) (ag i : Int) (ns : List Node) (d : List Bool) : List Int → (Nat × Int × Int × List Node × List Bool × Unit) ⊕ (Nat × Nat × Int × Int × List Node × List Bool × List Int × Unit)
  | [] => .inl (n, ag, i, ns, d, ())
  | a :: l => .inr (n, (a :: l).length, ag, i, ns, d, a :: l, ())
abbrev RowY := (Nat × Nat × Int × List Int × List Int × List Node × List Bool × Unit) ⊕ ((Nat × Int × List Node × List Bool × Unit) ⊕ ((Nat × Nat × Int × List Int × List Int × List Node × List Bool × Unit) ⊕ (Nat × Nat × Int × List Node × List Bool × List Int × Unit)))
def notY (n : Nat) (ag : Int) (ns : List Node) (d : List Bool) : List Int → RowY
  | [] => .inr (.inl (n, ag, ns, d, ()))
  | a :: l => .inr (.inr (.inr (n, (a :: l).length, ag, ns, d, a :: l, ())))
def yesY (n : Nat) (ag : Int) (ns : List Node) (d : List Bool) (i : Nat) : List Int → RowY
  | [] => .inl (n, [(i : Int)].length, ag, [(i : Int)], [(i : Int)], ns, d.set i true, ())
  | a :: l => .inr (.inr (.inl (n, (a :: l ++ [(i : Int)]).length, ag, a :: l ++ [(i : Int)], [(i : Int)], ns, d.set i true, ())))
theorem l433 (ns : List Node) (hn : ns.length ≤ 12) (hs : ShAll ns) (hr : ∀ nd ∈ ns, nd.1.length ≤ 9223372036854775807) (ag : Int) (d : List Bool) (hd : d.length = ns.length) (out : List Int) (ho : out.length ≤ 100) :
    ∃ y, L163_1010433 (inI ns.length ag (Int.ofNat 0) ns d out) = some y ∧ ((∃ i, i < ns.length ∧ Cand ns d i ∧ y = yesY ns.length ag ns d i out) ∨ (y = notY ns.length ag ns d out ∧ ∀ i, i < ns.length → ¬ Cand ns d i)) := by
  obtain ⟨y, hy, h⟩ := rng_hoare (st := L163_1010433t) ns.length (fun j (_ : Unit) => inI ns.length ag (j : Int) ns d out) (fun j _ => ∀ i, i < j → ¬ Cand ns d i)
    (fun y => (∃ i, i < ns.length ∧ Cand ns d i ∧ y = yesY ns.length ag ns d i out) ∨ (y = notY ns.length ag ns d out ∧ ∀ i, i < ns.length → ¬ Cand ns d i)) (fun j _ h hx => by
      have hj : j < d.length := by omega
      obtain ⟨b, h1, h2⟩ := f176 (ns.getD j (dft sNode)) d (hr _ (getD_mem h (dft sNode))) (by omega) (fun v hv => by rw [hd]; exact sh_mem (hs j h) v hv)
      rw [met_iff hs h] at h2
      have z : 0 + j = j := by omega
      have hdl : decide (0 + ns.length ≤ d.length) = true := decide_eq_true (by omega)
      cases out with
      | nil =>
        simp only [inI, L163_1010433t, L163_1010433s0, rg_lt h, rg_in h, rg_ltn h, rg_ltn hj, cond_true, Int.toNat_natCast, z, hdl, all2 hd, eN, h1, Option.bind_some, one1, all1]
        rw [rg_wrap (by omega)]
        rcases hb : d.getD j (dft Sh.b) with _ | _
        · cases b
          · exact .inl ⟨(), rfl, all_succ hx fun hc => nomatch h2.2 hc.2⟩
          · exact .inr ⟨_, rfl, .inl ⟨j, h, ⟨hb, h2.1 rfl⟩, rfl⟩⟩
        · refine .inl ⟨(), rfl, all_succ hx fun hc => ?_⟩
          have := hc.1
          rw [show false = dft Sh.b from rfl, hb] at this
          cases this
      | cons a l =>
        have e1 : decide (0 + (a :: l).length ≤ (a :: l).length) = true := decide_eq_true (by omega)
        have e2 : decide (0 + (a :: l).length = (a :: l).length) = true := decide_eq_true (by omega)
        have e3 := room8 (n := (a :: l).length + [(j : Int)].length) (by simp only [List.length_cons, List.length_nil] at ho ⊢; omega)
        simp only [inI, L163_1010433t, L163_1010433s1, rg_lt h, rg_in h, rg_ltn h, rg_ltn hj, cond_true, Int.toNat_natCast, z, hdl, all2 hd, eN, h1, Option.bind_some, one1, all1]
        rw [rg_wrap (by omega)]
        rcases hb : d.getD j (dft Sh.b) with _ | _
        · cases b
          · exact .inl ⟨(), rfl, all_succ hx fun hc => nomatch h2.2 hc.2⟩
          · rw [e1, e3, e2]
            exact .inr ⟨_, rfl, .inl ⟨j, h, ⟨hb, h2.1 rfl⟩, rfl⟩⟩
        · refine .inl ⟨(), rfl, all_succ hx fun hc => ?_⟩
          have := hc.1
          rw [show false = dft Sh.b from rfl, hb] at this
          cases this)
    (fun _ hx => ⟨notY ns.length ag ns d out, by cases out <;> simp only [inI, notY, L163_1010433t, L163_1010433s0, L163_1010433s1, rg_end, cond_false], .inr ⟨rfl, hx⟩⟩) () (fun i h => absurd h (Nat.not_lt_zero _))
  exact ⟨y, hy, h⟩
def inO (n : Nat) (ag : Int) (ns : List Node) (d : List Bool) : List Int → (Nat × Int × List Node × List Bool × Unit) ⊕ (Nat × Nat × Int × List Node × List Bool × List Int × Unit)
  | [] => .inl (n, ag, ns, d, ())
  | a :: l => .inr (n, (a :: l).length, ag, ns, d, a :: l, ())
def outR (ns : List Node) (d : List Bool) : List Int → (List Node × List Bool × Unit) ⊕ (Nat × List Node × List Bool × List Int × Unit)
  | [] => .inl (ns, d, ())
  | a :: l => .inr ((a :: l).length, ns, d, a :: l, ())
def RowInv (ns : List Node) (t : Nat) (d : List Bool) (out : List Int) : Prop := Part (EdG ns) ns.length d ∧ out.length = d.countP id ∧ d.countP id ≤ ns.length ∧ (d.countP id = t ∨ (d.countP id < ns.length ∧ ∀ i, i < ns.length → ¬ Cand ns d i))
theorem l432 (ns : List Node) (hn : ns.length ≤ 12) (hs : ShAll ns) (hr : ∀ nd ∈ ns, nd.1.length ≤ 9223372036854775807) :
    ∃ d out, L163_1010432 (.inl (ns.length, Int.ofNat 0, ns, List.replicate ns.length false, ())) = some (outR ns d out) ∧ RowInv ns ns.length d out := by
  obtain ⟨y, hy, d, out, rfl, h⟩ := rng_hoare (st := L163_1010432t) ns.length (fun t (s : List Bool × List Int) => inO ns.length (t : Int) ns s.1 s.2) (fun t s => RowInv ns t s.1 s.2)
    (fun y => ∃ d out, y = outR ns d out ∧ RowInv ns ns.length d out) (fun t s h hx => by
      obtain ⟨d, out⟩ := s
      obtain ⟨hp, hc, hle, ht⟩ := hx
      simp only at hp hc hle ht
      obtain ⟨y, h1, h2⟩ := l433 ns hn hs hr (t : Int) d hp.len out (by omega)
      refine .inl ?_
      have yes : ∀ i, i < ns.length → Cand ns d i → ∀ o : List Int, o.length = out.length + 1 → RowInv ns (t + 1) (d.set i true) o := fun i hi hcd o hol => by
        have hi' : i < d.length := by rw [hp.len]; exact hi
        have hcs := count_set hi' hcd.1
        have hpn := hp.step hi hcd.1 hcd.2
        have hle2 : (d.set i true).countP id ≤ ns.length := by
          have := List.countP_le_length (p := id) (l := d.set i true)
          rw [hpn.len] at this; exact this
        refine ⟨hpn, by omega, hle2, .inl ?_⟩
        rcases ht with ht | ⟨_, ht⟩
        · omega
        · exact absurd hcd (ht i hi)
      have no : (∀ i, i < ns.length → ¬ Cand ns d i) → RowInv ns (t + 1) d out := fun hno => by
        refine ⟨hp, hc, hle, ?_⟩
        rcases ht with ht | ht
        · exact .inr ⟨by omega, hno⟩
        · exact .inr ht
      cases out with
      | nil =>
        simp only [inI] at h1
        simp only [inO, L163_1010432t, L163_1010432s0, rg_lt h, cond_true, h1, Option.bind_some]
        rcases h2 with ⟨i, hi, hcd, rfl⟩ | ⟨rfl, hno⟩
        · simp only [yesY]
          rw [rg_wrap (by omega)]
          exact ⟨(d.set i true, [(i : Int)]), rfl, yes i hi hcd _ rfl⟩
        · simp only [notY]
          rw [rg_wrap (by omega)]
          exact ⟨(d, []), rfl, no hno⟩
      | cons a l =>
        simp only [inI] at h1
        simp only [inO, L163_1010432t, L163_1010432s1, rg_lt h, cond_true, h1, Option.bind_some]
        rcases h2 with ⟨i, hi, hcd, rfl⟩ | ⟨rfl, hno⟩
        · simp only [yesY]
          rw [rg_wrap (by omega)]
          exact ⟨(d.set i true, a :: l ++ [(i : Int)]), rfl, yes i hi hcd _ (by simp)⟩
        · simp only [notY]
          rw [rg_wrap (by omega)]
          exact ⟨(d, a :: l), rfl, no hno⟩)
    (fun s hx => ⟨outR ns s.1 s.2, by obtain ⟨d, out⟩ := s; cases out <;> simp only [inO, outR, L163_1010432t, L163_1010432s0, L163_1010432s1, rg_end, cond_false], s.1, s.2, rfl, hx⟩) (List.replicate ns.length false, []) (by
      have g : ∀ i, (List.replicate ns.length false).getD i false = false := fun i => by
        rw [List.getD_eq_getElem?_getD, List.getElem?_replicate]; split <;> rfl
      have c0 : (List.replicate ns.length false).countP id = 0 := by
        rw [List.countP_eq_zero]; intro a ha; rw [(List.mem_replicate.1 ha).2]; simp
      refine ⟨⟨by simp, fun i j h => ?_, fun i h => ?_⟩, c0.symm, by rw [c0]; omega, .inl c0⟩
      · rw [g] at h; cases h
      · rw [g] at h; cases h)
  exact ⟨d, out, hy, h⟩
theorem f163 (ns : List Node) (hn : ns.length ≤ 12) (hs : ShAll ns) (hr : ∀ nd ∈ ns, nd.1.length ≤ 9223372036854775807) :
    ∃ out, F163 ((ns, ()), ()) = some (out, ()) ∧ (out.length = ns.length ↔ Acyc (EdG ns) ns.length) := by
  obtain ⟨d, out, h1, hp, hc, hle, ht⟩ := l432 ns hn hs hr
  have hcond : (decide (0 ≤ (ns.length : Int)) && decide ((ns.length : Int) ≤ (ns.length : Int)) && decide ((ns.length : Int) ≤ (maxRoom : Int)) && decide ((1 : Int) * (ns.length : Int) ≤ (maxRoom : Int))) = true := by
    have : maxRoom = 70368744177664 := by decide
    rw [this]
    simp; omega
  have hres : out.length = ns.length ↔ Acyc (EdG ns) ns.length := by
    refine ⟨fun h => hp.all (by omega), fun ha => ?_⟩
    rcases ht with ht | ⟨hlt, hno⟩
    · omega
    · obtain ⟨i, hi, h2, h3⟩ := hp.next (fun i j he => edg_lt hs he) ha hlt
      exact absurd ⟨h2, h3⟩ (hno i hi)
  refine ⟨out, ?_, hres⟩
  simp only [F163, Int.toNat_natCast, hcond, cond_true, h1, Option.bind_some]
  cases out with
  | nil => rfl
  | cons a l =>
    simp only [outR, all1]
    rw [decide_eq_true (by omega : 0 + (a :: l).length ≤ (a :: l).length)]
    rfl
theorem f134 (ns : List Node) (hr : ∀ nd ∈ ns, nd.1.length ≤ 9223372036854775807) : ∃ b, F134 ((ns, ()), ()) = some (b, ()) ∧ (b = true ↔ Dag ns) := by
  simp only [F134]
  by_cases h1 : ((ns.length : Nat) : Int) < Int.ofNat 1
  · rw [decide_eq_true h1]; exact ⟨_, rfl, (fun h => nomatch h), fun h => by have := h.1.1; simp only [ofN] at h1; omega⟩
  · rw [decide_eq_false h1]
    by_cases h2 : ((ns.length : Nat) : Int) > Int.ofNat 12
    · rw [decide_eq_true h2]; exact ⟨_, rfl, (fun h => nomatch h), fun h => by have := h.1.2; simp only [ofN] at h2; omega⟩
    · rw [decide_eq_false h2]
      have h12 : ns.length ≤ 12 := by simp only [ofN] at h2; omega
      have h01 : 1 ≤ ns.length := by simp only [ofN] at h1; omega
      obtain ⟨y, hy, hq⟩ := rng_hoare (st := L134_1008576t) ns.length (fun j (_ : Unit) => ((j : Int), ns, ())) (fun j _ => ∀ i : Nat, i < j → ShOk i ns.length (ns.getD i (dft sNode)))
        (fun y => (y = .inl (false, ns, ()) ∧ ¬ ShAll ns) ∨ (y = .inr (ns, ()) ∧ ShAll ns)) (fun j _ h hx => by
          obtain ⟨b, h1, h2⟩ := f162 ns j h (hr _ (getD_mem h (dft sNode)))
          simp only [L134_1008576t, L134_1008576s0, rg_lt h, cond_true, h1, Option.bind_some]
          rw [rg_wrap (by omega)]
          cases b
          · exact .inr ⟨_, rfl, .inl ⟨rfl, fun hs => nomatch h2.2 (hs j h)⟩⟩
          · exact .inl ⟨(), rfl, all_succ hx (h2.1 rfl)⟩) (fun _ hx => ⟨.inr (ns, ()), by simp only [L134_1008576t, L134_1008576s0, rg_end, cond_false], .inr ⟨rfl, hx⟩⟩) () (fun i h => absurd h (Nat.not_lt_zero _))
      have hy' : L134_1008576 (Int.ofNat 0, ns, ()) = some y := hy
      simp only [cond_false, hy', Option.bind_some]
      rcases hq with ⟨rfl, hs⟩ | ⟨rfl, hs⟩
      · exact ⟨_, rfl, (fun h => nomatch h), fun h => absurd h.2.1 hs⟩
      · obtain ⟨out, e1, e2⟩ := f163 ns h12 hs hr
        simp only [e1, Option.bind_some]
        refine ⟨_, rfl, fun h => ⟨⟨h01, h12⟩, hs, e2.1 ?_⟩, fun h => ?_⟩
        · have : (out.length : Int) = (ns.length : Int) := by simpa using h
          omega
        · rw [e2.2 h.2.2]; simp
end Go.Proofs.Ytefehcmhdiifnaa.leaseTells.Code
set_option maxRecDepth 100000
set_option linter.unusedVariables false
set_option linter.unusedSimpArgs false
set_option linter.constructorNameAsVariable false
namespace Go.Proofs.Ytefehcmhdiifnaa.leaseTells.Code
open Go Go.Am
theorem bif_some (c a b : Bool) : (bif c then some (a, ()) else some (b, ())) = some ((bif c then a else b), ()) := by cases c <;> rfl
theorem bif_true (c a b : Bool) : (bif c then a else b) = true ↔ (c = true ∧ a = true) ∨ (c = false ∧ b = true) := by cases c <;> simp
theorem o0 : Int.ofNat 0 = 0 := rfl
theorem o1 : Int.ofNat 1 = 1 := rfl
theorem o2 : Int.ofNat 2 = 2 := rfl
theorem o3 : Int.ofNat 3 = 3 := rfl
theorem o4 : Int.ofNat 4 = 4 := rfl
theorem o5 : Int.ofNat 5 = 5 := rfl
theorem o6 : Int.ofNat 6 = 6 := rfl
theorem oM : Int.ofNat 1099511627776 = 1099511627776 := rfl
def InC (n : Int) : Prop := 0 ≤ n ∧ n ≤ 1099511627776
instance (n : Int) : Decidable (InC n) := inferInstanceAs (Decidable (0 ≤ n ∧ n ≤ 1099511627776))
def TkOk (nt s tr un tk rk : Int) : Prop := (0 ≤ tr ∧ tr ≤ nt) ∧ InC un ∧ InC tk ∧ InC rk ∧ (rk ≠ 0 → s = 1) ∧ (un ≠ 0 → s = 2 ∨ s = 3) ∧ (tk ≠ 0 ↔ s = 2) ∧ ((s = 0 ∧ tr = 0) ∨ (s = 1 ∧ tr < nt) ∨ (s = 2 ∧ 1 ≤ tr) ∨ (s = 3 ∧ 1 ≤ tr ∧ tr < nt) ∨ (s = 4 ∧ 1 ≤ tr) ∨ (s = 5 ∧ tr = nt) ∨ s = 6)
theorem f125 (n : Int) : F125 (n, ()) = some (decide (InC n), ()) := by
  simp only [F125, bif_some, o0, oM]
  congr 2
  rw [Bool.eq_iff_iff, bif_true]
  simp only [decide_eq_true_eq, decide_eq_false_iff_not, Bool.false_eq_true, and_false, or_false]
  exact Iff.rfl
theorem f126 (n : Int) : F126 (n, ()) = some (decide (InC n), ()) := f125 n
theorem f81 (n : Int) : F81 (n, ()) = some (decide (InC n), ()) := f125 n
theorem f102 (l : List Int) (nt w s tr un tk rk : Int) (hs : 0 ≤ s) : ∃ b, F102 ((l, nt, w, ()), (s, tr, un, tk, rk, ()), ()) = some (b, ()) ∧ (b = true ↔ TkOk nt s tr un tk rk) := by
  simp only [F102, f125, f126, Option.bind_some, o0, o1, o2, o3, o4, o5, o6, bif_some]
  refine ⟨_, rfl, ?_⟩
  have h : s = 0 ∨ s = 1 ∨ s = 2 ∨ s = 3 ∨ s = 4 ∨ s = 5 ∨ s = 6 ∨ 6 < s := by omega
  rcases h with rfl | rfl | rfl | rfl | rfl | rfl | rfl | h
  all_goals simp only [bif_true, decide_eq_true_eq, decide_eq_false_iff_not, Bool.not_eq_true', Bool.not_eq_false', beq_iff_eq, beq_eq_false_iff_ne, Bool.false_eq_true, and_false, or_false, false_or, ne_eq, TkOk, not_true_eq_false, false_and, true_and, Int.reduceEq, not_false_eq_true, imp_false, Decidable.not_not, iff_false, iff_true, or_true, true_or, and_true, or_self, forall_const, imp_self, implies_true]
  all_goals by_cases hu : un = 0 <;> by_cases ht : tk = 0 <;> by_cases hr : rk = 0
  all_goals simp only [hu, ht, hr, and_false, or_false, false_or, not_true_eq_false, false_and, true_and, not_false_eq_true, imp_false, or_true, true_or, and_true, or_self]
  all_goals simp only [InC]
  all_goals first | omega | (refine ⟨fun h => ?_, fun h => ?_⟩ <;> first | omega | exact h.elim)
theorem f135 (l : List Int) (nt w s tr un tk rk : Int) (hs : 0 ≤ s) (hn : 1 ≤ nt) : ∃ b, F135 ((l, nt, w, ()), (s, tr, un, tk, rk, ()), ()) = some (b, ()) ∧ (b = true ↔ TkOk nt s tr un tk rk) := by
  simp only [F135, f81, Option.bind_some, o0, o1, o2, o3, o4, o5, o6, bif_some]
  refine ⟨_, rfl, ?_⟩
  have h : s = 0 ∨ s = 1 ∨ s = 2 ∨ s = 3 ∨ s = 4 ∨ s = 5 ∨ s = 6 ∨ 6 < s := by omega
  rcases h with rfl | rfl | rfl | rfl | rfl | rfl | rfl | h
  all_goals simp only [bif_true, bne, if_true, Int.reduceBEq, Bool.not_not, Bool.not_false, Bool.not_true, beq_false, beq_true, ↓reduceIte, Bool.and_true, Bool.true_eq_false, decide_eq_true_eq, decide_eq_false_iff_not, Bool.not_eq_true', Bool.not_eq_false', beq_iff_eq, beq_eq_false_iff_ne, Bool.false_eq_true, and_false, or_false, false_or, ne_eq, TkOk, not_true_eq_false, false_and, true_and, Int.reduceEq, not_false_eq_true, imp_false, Decidable.not_not, iff_false, iff_true, or_true, true_or, and_true, or_self, forall_const, imp_self, implies_true]
  all_goals by_cases hu : un = 0 <;> by_cases ht : tk = 0 <;> by_cases hr : rk = 0
  all_goals simp only [hu, ht, hr, and_false, or_false, false_or, not_true_eq_false, false_and, true_and, not_false_eq_true, imp_false, or_true, true_or, and_true, or_self]
  all_goals simp only [InC]
  all_goals first | omega | (refine ⟨fun h => ?_, fun h => ?_⟩ <;> first | omega | exact h.elim)
end Go.Proofs.Ytefehcmhdiifnaa.leaseTells.Code
set_option maxRecDepth 100000
set_option linter.unusedVariables false
set_option linter.unusedSimpArgs false
set_option linter.constructorNameAsVariable false
namespace Go.Proofs.Ytefehcmhdiifnaa.leaseTells.Code
open Go Go.Am
theorem idx_fold (v : Int) : ∀ (l : List Int) (i : Nat), (∃ j : Nat, i ≤ j ∧ foldE (A := Unit) (fun i t _ => bif v == t then .inr (.inl ((i : Int), ())) else .inl ()) (fun _ => .inr ()) i l () = (.inl ((j : Int), ()) : (Int × Unit) ⊕ Unit) ∧ v ∈ l) ∨
    (foldE (A := Unit) (fun i t _ => bif v == t then .inr (.inl ((i : Int), ())) else .inl ()) (fun _ => .inr ()) i l () = (.inr () : (Int × Unit) ⊕ Unit) ∧ v ∉ l)
  | [], i => .inr ⟨rfl, by simp⟩
  | t :: l, i => by
    simp only [foldE]
    cases hv : v == t
    · simp only [cond_false]
      have hne : v ≠ t := by simpa using hv
      rcases idx_fold v l (i + 1) with ⟨j, h1, h2, h3⟩ | ⟨h1, h2⟩
      · exact .inl ⟨j, by omega, h2, List.mem_cons_of_mem _ h3⟩
      · exact .inr ⟨h1, by simp [hne, h2]⟩
    · simp only [cond_true]
      have : v = t := by simpa using hv
      exact .inl ⟨i, Nat.le_refl _, rfl, by simp [this]⟩
theorem f161 (l : List Int) (v : Int) (hl : l.length ≤ 9223372036854775807) : F161 (l, v, ()) = some (decide (v ∈ l), ()) := by
  have hloop := loopF_list0 (st := L175_1011200t) l (dft (Sh.i IntKind.u8)) (fun i (_ : Unit) => (l, v, (l.length : Int), (i : Int), ())) (fun _ => .inr ()) (fun i t _ => bif v == t then .inr (.inl ((i : Int), ())) else .inl ())
    (fun i a hi => by
      simp only [L175_1011200t, L175_1011200s0, rg_lt hi, rg_in hi, rg_nat hi, cond_true]
      exact br_match _ _ _ _ (fun _ => rfl) (fun _ => by rw [rg_wrap (by omega)]))
    (fun a => by simp only [L175_1011200t, L175_1011200s0, rg_end, cond_false]) ()
  have hl0 : L175_1011200 (l, v, (l.length : Int), Int.ofNat 0, ()) = some (foldE (A := Unit) (fun i t _ => bif v == t then .inr (.inl ((i : Int), ())) else .inl ()) (fun _ => .inr ()) 0 l ()) := hloop
  simp only [F161, F175, hl0, Option.bind_some]
  rcases idx_fold v l 0 with ⟨j, _, h2, h3⟩ | ⟨h1, h2⟩
  · rw [h2]
    simp only [Option.bind_some, h3, decide_true]
    rw [decide_eq_true (show (j : Int) ≥ Int.ofNat 0 from Int.natCast_nonneg j)]
  · rw [h1]
    simp only [Option.bind_some, h2, decide_false]
    rfl
theorem f131 (t : Task) (l : List Int) (hl : l.length ≤ 9223372036854775807) : F131 (t, l, ()) = some (decide (t.1 ∈ l), ()) := by
  simp only [F131, f161 l t.1 hl, Option.bind_some]
def found {Y Z : Type} : (Int × Y) ⊕ Z → Bool
  | .inl y => decide (y.1 ≥ Int.ofNat 0)
  | .inr _ => false
theorem neg_ge : decide (Int.negSucc 0 ≥ Int.ofNat 0) = false := by decide
theorem nat_ge (i : Nat) : decide ((i : Int) ≥ Int.ofNat 0) = true := decide_eq_true (Int.natCast_nonneg i)
theorem f104 (r : Run) (l : List Int) (hl : l.length ≤ 9223372036854775807) (hr : r.2.2.2.2.1.length ≤ 9223372036854775807) : F104 (r, l, ()) = some (decide (∀ t ∈ r.2.2.2.2.1, t.1 ∈ l), ()) := by
  obtain ⟨id, key, ⟨ns, _⟩, state, ts, _⟩ := r
  simp only at hr
  obtain ⟨y, hy, hq⟩ := rng_hoare (st := L104_1010240t) ts.length (fun i (_ : Unit) => (ts, (ts.length : Int), (i : Int), l, id, key, ns, state, ts, ())) (fun i _ => ∀ t ∈ ts.take i, t.1 ∈ l)
    (fun y => found y = !decide (∀ t ∈ ts, t.1 ∈ l)) (fun i _ h hx => by
      simp only [L104_1010240t, L104_1010240s0, rg_lt h, rg_in h, rg_ltn h, Int.toNat_natCast, cond_true, eT, f131 _ l hl, Option.bind_some, Bool.not_true, Bool.not_false]
      by_cases hm : (ts.getD i (dft sTask)).1 ∈ l
      · rw [decide_eq_true hm]
        refine .inl ⟨(), by rw [rg_wrap (by omega)]; rfl, fun t ht => ?_⟩
        rcases mem_take_succ h (dft sTask) ht with h1 | h1
        · exact hx t h1
        · rw [h1]; exact hm
      · rw [decide_eq_false hm]
        refine .inr ⟨_, rfl, ?_⟩
        simp only [found]
        rw [nat_ge, decide_eq_false (fun hall => hm (hall _ (getD_mem h _)))]
        rfl) (fun _ hx => ⟨.inr (l, id, key, ns, state, ts, ()), by simp only [L104_1010240t, L104_1010240s0, rg_end, cond_false], by
        rw [List.take_length] at hx
        simp only [found]
        rw [decide_eq_true hx]
        rfl⟩) () (by simp)
  have hy' : L104_1010240 (ts, (ts.length : Int), Int.ofNat 0, l, id, key, ns, state, ts, ()) = some y := hy
  simp only [F104, hy', Option.bind_some]
  cases y with
  | inl a =>
    simp only [found] at hq
    simp only [hq, Bool.not_not]
  | inr b =>
    simp only [found] at hq
    have : decide (∀ t ∈ ts, t.1 ∈ l) = true := by simpa using hq
    rw [this]
    rfl
theorem f105 (r : Run) (l : List Int) (hl : l.length ≤ 9223372036854775807) (hr : r.2.2.2.2.1.length ≤ 9223372036854775807) : F105 (r, l, ()) = some (decide (∃ t ∈ r.2.2.2.2.1, t.1 ∈ l), ()) := by
  obtain ⟨id, key, ⟨ns, _⟩, state, ts, _⟩ := r
  simp only at hr
  obtain ⟨y, hy, hq⟩ := rng_hoare (st := L105_1010240t) ts.length (fun i (_ : Unit) => (ts, (ts.length : Int), (i : Int), l, id, key, ns, state, ts, ())) (fun i _ => ∀ t ∈ ts.take i, t.1 ∉ l)
    (fun y => found y = decide (∃ t ∈ ts, t.1 ∈ l)) (fun i _ h hx => by
      simp only [L105_1010240t, L105_1010240s0, rg_lt h, rg_in h, rg_ltn h, Int.toNat_natCast, cond_true, eT, f131 _ l hl, Option.bind_some, Bool.not_true, Bool.not_false]
      by_cases hm : (ts.getD i (dft sTask)).1 ∈ l
      · rw [decide_eq_true hm]
        refine .inr ⟨_, rfl, ?_⟩
        simp only [found]
        rw [nat_ge, decide_eq_true ⟨_, getD_mem h _, hm⟩]
      · rw [decide_eq_false hm]
        refine .inl ⟨(), by rw [rg_wrap (by omega)]; rfl, fun t ht => ?_⟩
        rcases mem_take_succ h (dft sTask) ht with h1 | h1
        · exact hx t h1
        · rw [h1]; exact hm) (fun _ hx => ⟨.inr (l, id, key, ns, state, ts, ()), by simp only [L105_1010240t, L105_1010240s0, rg_end, cond_false], by
        rw [List.take_length] at hx
        simp only [found]
        rw [decide_eq_false (fun ⟨t, h1, h2⟩ => hx t h1 h2)]⟩) () (by simp)
  have hy' : L105_1010240 (ts, (ts.length : Int), Int.ofNat 0, l, id, key, ns, state, ts, ()) = some y := hy
  simp only [F105, hy', Option.bind_some]
  cases y with
  | inl a =>
    simp only [found] at hq
    simp only [hq]
  | inr b =>
    simp only [found] at hq
    rw [neg_ge, hq]
def MetP (ts : List Task) (nd : Node) : Prop := ∀ v ∈ nd.1, (ts.getD v.toNat (dft sTask)).1 = 4
def StP (ns : List Node) (ts : List Task) (state : Int) : Prop :=
  (state = 1 ∧ (∀ i : Nat, i < ns.length → (MetP ts (ns.getD i (dft sNode)) ↔ (ts.getD i (dft sTask)).1 ≠ 0)) ∧ ¬ (∀ t ∈ ts, t.1 = 4) ∧ ¬ ∃ t ∈ ts, t.1 = 5 ∨ t.1 = 6) ∨
  (state = 2 ∧ ∀ t ∈ ts, t.1 = 4) ∨ (state = 3 ∧ (∃ t ∈ ts, t.1 = 5) ∧ ∀ t ∈ ts, t.1 = 4 ∨ t.1 = 5 ∨ t.1 = 6) ∨ (state = 4 ∧ (∃ t ∈ ts, t.1 = 6) ∧ ∀ t ∈ ts, t.1 = 4 ∨ t.1 = 6)
def InR (n : Nat) (l : List Int) : Prop := ∀ v ∈ l, 0 ≤ v ∧ v < n
theorem met_step {ts : List Task} {l : List Int} {i : Nat} (h : i < l.length) (hx : ∀ v ∈ List.take i l, (ts.getD v.toNat (dft sTask)).1 = 4) (hv : (ts.getD (l.getD i (dft (Sh.i IntKind.i64))).toNat (dft sTask)).1 = 4) : ∀ v ∈ l.take (i + 1), (ts.getD v.toNat (dft sTask)).1 = 4 := fun v h2 => by
  rcases mem_take_succ h (dft (Sh.i IntKind.i64)) h2 with h3 | h3
  · exact hx v h3
  · rw [h3]; exact hv
theorem f103 (r : Run) (nd : Node) (hn : nd.1.length ≤ 9223372036854775807) (hr : InR r.2.2.2.2.1.length nd.1) : ∃ b, F103 (r, nd, ()) = some (b, ()) ∧ (b = true ↔ MetP r.2.2.2.2.1 nd) := by
  obtain ⟨id, key, ⟨ns, _⟩, state, ts, _⟩ := r
  obtain ⟨l, n1, n2, _⟩ := nd
  simp only at hr hn
  obtain ⟨y, hy, hq⟩ := rng_hoare (st := L103_1010176t) l.length (fun i (_ : Unit) => (l, (l.length : Int), (i : Int), l, n1, n2, id, key, ns, state, ts, ())) (fun i _ => ∀ v ∈ l.take i, (ts.getD v.toNat (dft sTask)).1 = 4)
    (fun y => (∃ i : Nat, ∃ r, y = .inl ((i : Int), r) ∧ ¬ ∀ v ∈ l, (ts.getD v.toNat (dft sTask)).1 = 4) ∨ (∃ r, y = .inr r ∧ ∀ v ∈ l, (ts.getD v.toNat (dft sTask)).1 = 4)) (fun i _ h hx => by
      have hv := hr _ (getD_mem h (dft (.i .i64)))
      have hw : within 0 (l.getD i (dft (.i .i64))) ((ts.length : Int) - 1) = true := by simp only [within, Bool.and_eq_true, decide_eq_true_eq]; omega
      have hd : decide ((l.getD i (dft (.i .i64))).toNat < ts.length) = true := decide_eq_true (by omega)
      simp only [L103_1010176t, L103_1010176s0, rg_lt h, rg_in h, rg_ltn h, cond_true, Int.toNat_natCast, hw, hd]
      rcases hb : ((ts.getD (l.getD i (dft (.i .i64))).toNat (dft sTask)).1 != Int.ofNat 4) with _ | _
      · exact .inl ⟨(), by rw [rg_wrap (by omega)]; rfl, met_step h hx (by simpa using hb)⟩
      · exact .inr ⟨_, rfl, .inl ⟨i, _, rfl, fun h2 => by have h3 := h2 _ (getD_mem h (dft (.i .i64))); rw [h3] at hb; cases hb⟩⟩) (fun _ hx => ⟨.inr (l, n1, n2, id, key, ns, state, ts, ()), by simp only [L103_1010176t, L103_1010176s0, rg_end, cond_false], .inr ⟨_, rfl, by rw [List.take_length] at hx; exact hx⟩⟩) () (by simp)
  have hy' : L103_1010176 (l, (l.length : Int), Int.ofNat 0, l, n1, n2, id, key, ns, state, ts, ()) = some y := hy
  simp only [F103, hy', Option.bind_some, MetP]
  rcases hq with ⟨i, r, rfl, h⟩ | ⟨r, rfl, h⟩
  · simp only [nat_ge]
    exact ⟨_, rfl, (fun h => nomatch h), fun h2 => absurd h2 h⟩
  · simp only [neg_ge]
    exact ⟨_, rfl, fun _ => h, fun _ => rfl⟩
theorem f165 (r : Run) (i : Nat) (hi : i < r.2.2.1.1.length) (hn : (r.2.2.1.1.getD i (dft sNode)).1.length ≤ 9223372036854775807) (hr : InR r.2.2.2.2.1.length (r.2.2.1.1.getD i (dft sNode)).1) : ∃ b, F165 (r, (i : Int), ()) = some (b, ()) ∧ (b = true ↔ MetP r.2.2.2.2.1 (r.2.2.1.1.getD i (dft sNode))) := by
  obtain ⟨id, key, ⟨ns, _⟩, state, ts, _⟩ := r
  simp only at hr hn hi
  simp only [F165, rg_in hi, rg_ltn hi, cond_true, Int.toNat_natCast]
  generalize hnd : ns.getD i (dft sNode) = nd at hr hn
  obtain ⟨l, n1, n2, _⟩ := nd
  simp only at hr hn
  obtain ⟨y, hy, hq⟩ := rng_hoare (st := L165_1010560t) l.length (fun i (_ : Unit) => (l, (i : Int), id, key, ns, state, ts, ())) (fun i _ => ∀ v ∈ l.take i, (ts.getD v.toNat (dft sTask)).1 = 4)
    (fun y => (∃ r, y = .inl (false, r) ∧ ¬ ∀ v ∈ l, (ts.getD v.toNat (dft sTask)).1 = 4) ∨ (∃ r, y = .inr r ∧ ∀ v ∈ l, (ts.getD v.toNat (dft sTask)).1 = 4)) (fun i _ h hx => by
      have hv := hr _ (getD_mem h (dft (.i .i64)))
      have hw : within 0 (l.getD i (dft (.i .i64))) ((ts.length : Int) - 1) = true := by simp only [within, Bool.and_eq_true, decide_eq_true_eq]; omega
      have hd : decide ((l.getD i (dft (.i .i64))).toNat < ts.length) = true := decide_eq_true (by omega)
      simp only [L165_1010560t, L165_1010560s0, rg_lt h, rg_in h, rg_ltn h, cond_true, Int.toNat_natCast, hw, hd]
      rcases hb : ((ts.getD (l.getD i (dft (.i .i64))).toNat (dft sTask)).1 != Int.ofNat 4) with _ | _
      · exact .inl ⟨(), by rw [rg_wrap (by omega)]; rfl, met_step h hx (by simpa using hb)⟩
      · exact .inr ⟨_, rfl, .inl ⟨_, rfl, fun h2 => by have h3 := h2 _ (getD_mem h (dft (.i .i64))); rw [h3] at hb; cases hb⟩⟩) (fun _ hx => ⟨.inr (id, key, ns, state, ts, ()), by simp only [L165_1010560t, L165_1010560s0, rg_end, cond_false], .inr ⟨_, rfl, by rw [List.take_length] at hx; exact hx⟩⟩) () (by simp)
  have hy' : L165_1010560 (l, Int.ofNat 0, id, key, ns, state, ts, ()) = some y := hy
  simp only [hy', Option.bind_some, MetP]
  rcases hq with ⟨r, rfl, h⟩ | ⟨r, rfl, h⟩
  · exact ⟨_, rfl, (fun h => nomatch h), fun h2 => absurd h2 h⟩
  · exact ⟨_, rfl, fun _ => h, fun _ => rfl⟩
theorem f164 (r : Run) (s : Int) (ht : r.2.2.2.2.1.length ≤ 100) : F164 (r, s, ()) = some (((r.2.2.2.2.1.countP (fun t => t.1 == s) : Nat) : Int), ()) := by
  obtain ⟨id, key, ⟨ns, _⟩, state, ts, _⟩ := r
  simp only at ht
  obtain ⟨y, hy, rfl⟩ := rng_hoare (st := L164_1010496t) ts.length (fun i (n : Nat) => (s, (n : Int), (i : Int), id, key, ns, state, ts, ())) (fun i n => n = (ts.take i).countP (fun t => t.1 == s))
    (fun y => y = (((ts.countP (fun t => t.1 == s) : Nat) : Int), id, key, ns, state, ts, ())) (fun i n h hx => by
      have hn : n ≤ 100 := by
        have := List.countP_le_length (p := fun t : Task => t.1 == s) (l := ts.take i)
        rw [List.length_take] at this
        omega
      simp only [L164_1010496t, L164_1010496s0, rg_lt h, rg_in h, rg_ltn h, cond_true, Int.toNat_natCast]
      rw [rg_wrap (i := n) (by omega), rg_wrap (i := i) (by omega)]
      have hs : (ts.take (i + 1)).countP (fun t => t.1 == s) = (ts.take i).countP (fun t => t.1 == s) + (if (ts.getD i (dft sTask)).1 == s then 1 else 0) := by
        rw [List.take_succ_eq_append_getElem h, List.countP_append, getD_get h]
        simp [List.countP_cons]
      rcases hb : ((ts.getD i (dft sTask)).1 == s) with _ | _
      · exact .inl ⟨n, rfl, by rw [hs, hb, hx]; rfl⟩
      · exact .inl ⟨n + 1, rfl, by rw [hs, hb, hx]; rfl⟩) (fun n hx => ⟨((n : Int), id, key, ns, state, ts, ()), by simp only [L164_1010496t, L164_1010496s0, rg_end, cond_false], by rw [hx, List.take_length]⟩) 0 (by simp)
  have hy' : L164_1010496 (s, Int.ofNat 0, Int.ofNat 0, id, key, ns, state, ts, ()) = some _ := hy
  simp only [F164, hy', Option.bind_some]
theorem cnt0 {ts : List Task} {s : Int} : ts.countP (fun t => t.1 == s) = 0 ↔ ¬ ∃ t ∈ ts, t.1 = s := by
  rw [List.countP_eq_zero]
  exact ⟨fun h ⟨t, h1, h2⟩ => h t h1 (by simpa using h2), fun h t h1 h2 => h ⟨t, h1, by simpa using h2⟩⟩
theorem cntN {ts : List Task} {s : Int} : ts.countP (fun t => t.1 == s) = ts.length ↔ ∀ t ∈ ts, t.1 = s := by
  rw [List.countP_eq_length]
  simp
theorem cnt2 : ∀ (ts : List Task) (a b : Int), a ≠ b → ts.countP (fun t => t.1 == a) + ts.countP (fun t => t.1 == b) = ts.countP (fun t => t.1 == a || t.1 == b)
  | [], _, _, _ => rfl
  | t :: ts, a, b, h => by
    have := cnt2 ts a b h
    simp only [List.countP_cons]
    by_cases h1 : t.1 = a
    · have h2 : t.1 ≠ b := fun e => h (h1.symm.trans e)
      simp [h1, h]; omega
    · by_cases h2 : t.1 = b
      · simp [h2, Ne.symm h]; omega
      · simp [h1, h2]; omega
theorem cnt3 : ∀ (ts : List Task) (a b c : Int), a ≠ b → a ≠ c → b ≠ c → ts.countP (fun t => t.1 == a) + ts.countP (fun t => t.1 == b) + ts.countP (fun t => t.1 == c) = ts.countP (fun t => t.1 == a || (t.1 == b || t.1 == c))
  | [], _, _, _, _, _, _ => rfl
  | t :: ts, a, b, c, h, h', h'' => by
    have := cnt3 ts a b c h h' h''
    simp only [List.countP_cons]
    by_cases h1 : t.1 = a
    · simp [h1, h, h']; omega
    · by_cases h2 : t.1 = b
      · simp [h2, Ne.symm h, h'']; omega
      · by_cases h3 : t.1 = c
        · simp [h3, Ne.symm h', Ne.symm h'']; omega
        · simp [h1, h2, h3]; omega
structure Fit (r : Run) : Prop where
  len : r.2.2.1.1.length = r.2.2.2.2.1.length
  n12 : r.2.2.2.2.1.length ≤ 12
  sh : ShAll r.2.2.1.1
  ln : ∀ nd ∈ r.2.2.1.1, nd.1.length ≤ 9223372036854775807
theorem Fit.inr {r : Run} (h : Fit r) {i : Nat} (hi : i < r.2.2.1.1.length) : InR r.2.2.2.2.1.length (r.2.2.1.1.getD i (dft sNode)).1 := fun v hv => by
  have := sh_mem (h.sh i hi) v hv
  rw [h.len] at this
  exact this
theorem f136 (r : Run) (hf : Fit r) : ∃ b, F136 (r, ()) = some (b, ()) ∧ (b = true ↔ StP r.2.2.1.1 r.2.2.2.2.1 r.2.2.2.1) := by
  have h4 := f164 r 4 (by have := hf.n12; omega)
  have h5 := f164 r 5 (by have := hf.n12; omega)
  have h6 := f164 r 6 (by have := hf.n12; omega)
  have i1 := hf.ln
  have i2 := hf.len
  have i3 := hf.n12
  have k1 := fun i hi hn => f165 r i hi hn (hf.inr hi)
  have k2 := fun i hi => k1 i hi (i1 _ (getD_mem hi (dft sNode)))
  clear k1
  obtain ⟨id, key, ⟨ns, _⟩, state, ts, _⟩ := r
  simp only at h4 h5 h6 i1 i2 i3 k2
  have e4 := cntN (ts := ts) (s := 4)
  have e5 := cnt0 (ts := ts) (s := 5)
  have e6 := cnt0 (ts := ts) (s := 6)
  have l46 := List.countP_le_length (p := fun t : Task => t.1 == 4) (l := ts)
  have l5 := List.countP_le_length (p := fun t : Task => t.1 == 5) (l := ts)
  have l6 := List.countP_le_length (p := fun t : Task => t.1 == 6) (l := ts)
  have c2 := cnt2 ts 4 6 (by decide)
  have c3 := cnt3 ts 4 5 6 (by decide) (by decide) (by decide)
  have a2 : ts.countP (fun t => t.1 == 4 || t.1 == 6) = ts.length ↔ ∀ t ∈ ts, t.1 = 4 ∨ t.1 = 6 := by rw [List.countP_eq_length]; simp
  have a3 : ts.countP (fun t => t.1 == 4 || (t.1 == 5 || t.1 == 6)) = ts.length ↔ ∀ t ∈ ts, t.1 = 4 ∨ t.1 = 5 ∨ t.1 = 6 := by rw [List.countP_eq_length]; simp
  rw [← c2] at a2
  rw [← c3] at a3
  clear c2 c3
  generalize ts.countP (fun t => t.1 == 4) = d at *
  generalize ts.countP (fun t => t.1 == 5) = f at *
  generalize ts.countP (fun t => t.1 == 6) = x at *
  have w3 : IntKind.i64.wrap (IntKind.i64.wrap ((d : Int) + (f : Int)) + (x : Int)) = ((d + f + x : Nat) : Int) := by
    unfold IntKind.wrap; simp [IntKind.bits, IntKind.signed]; omega
  have w2 : IntKind.i64.wrap ((d : Int) + (x : Int)) = ((d + x : Nat) : Int) := by
    unfold IntKind.wrap; simp [IntKind.bits, IntKind.signed]; omega
  simp only [F136, o4, o5, o6, h4, h5, h6, Option.bind_some]
  by_cases s1 : state = 1
  · subst s1
    obtain ⟨y, hy, hq⟩ := rng_hoare (st := L136_1008704t) ts.length (fun i (_ : Unit) => ((ts.length : Int), (d : Int), (f : Int), (x : Int), (i : Int), id, key, ns, 1, ts, ())) (fun j _ => ∀ i : Nat, i < j → (MetP ts (ns.getD i (dft sNode)) ↔ (ts.getD i (dft sTask)).1 ≠ 0))
      (fun y => ((∃ r, y = .inl (false, r)) ∧ ¬ ∀ i : Nat, i < ts.length → (MetP ts (ns.getD i (dft sNode)) ↔ (ts.getD i (dft sTask)).1 ≠ 0)) ∨ (y = .inr ((ts.length : Int), (d : Int), (f : Int), (x : Int), id, key, ns, 1, ts, ()) ∧ ∀ i : Nat, i < ts.length → (MetP ts (ns.getD i (dft sNode)) ↔ (ts.getD i (dft sTask)).1 ≠ 0))) (fun j _ h hx => by
        obtain ⟨b, h1, h2⟩ := k2 j (by omega)
        simp only [L136_1008704t, L136_1008704s0, rg_lt h, rg_in h, rg_ltn h, cond_true, Int.toNat_natCast, h1, Option.bind_some, ↓reduceIte]
        rw [rg_wrap (by omega)]
        have hb : ((ts.getD j (dft sTask)).1 != Int.ofNat 0) = true ↔ (ts.getD j (dft sTask)).1 ≠ 0 := by simp
        generalize ((ts.getD j (dft sTask)).1 != Int.ofNat 0) = c at hb ⊢
        cases b <;> cases c
        · exact .inl ⟨(), rfl, all_succ hx ⟨fun h => (nomatch h2.2 h), fun h => (nomatch hb.2 h)⟩⟩
        · exact .inr ⟨_, rfl, .inl ⟨⟨_, rfl⟩, fun hall => nomatch h2.2 ((hall j h).2 (hb.1 rfl))⟩⟩
        · exact .inr ⟨_, rfl, .inl ⟨⟨_, rfl⟩, fun hall => nomatch hb.2 ((hall j h).1 (h2.1 rfl))⟩⟩
        · exact .inl ⟨(), rfl, all_succ hx ⟨fun _ => hb.1 rfl, fun _ => h2.1 rfl⟩⟩) (fun _ hx => ⟨.inr ((ts.length : Int), (d : Int), (f : Int), (x : Int), id, key, ns, 1, ts, ()), by simp only [L136_1008704t, L136_1008704s0, rg_end, cond_false], .inr ⟨rfl, hx⟩⟩) () (fun i h => absurd h (Nat.not_lt_zero _))
    have hy' : L136_1008704 ((ts.length : Int), (d : Int), (f : Int), (x : Int), Int.ofNat 0, id, key, ns, 1, ts, ()) = some y := hy
    have hst : StP ns ts 1 ↔ (∀ i : Nat, i < ts.length → (MetP ts (ns.getD i (dft sNode)) ↔ (ts.getD i (dft sTask)).1 ≠ 0)) ∧ ¬ (∀ t ∈ ts, t.1 = 4) ∧ ¬ ∃ t ∈ ts, t.1 = 5 ∨ t.1 = 6 := by
      simp only [StP, i2]
      refine ⟨fun h => ?_, fun h => .inl ⟨trivial, h⟩⟩
      rcases h with h | h | h | h
      · exact h.2
      · exact absurd h.1 (by decide)
      · exact absurd h.1 (by decide)
      · exact absurd h.1 (by decide)
    have hno : (¬ ∃ t ∈ ts, t.1 = 5 ∨ t.1 = 6) ↔ f = 0 ∧ x = 0 := by
      rw [e5, e6]
      exact ⟨fun h => ⟨fun ⟨t, h1, h2⟩ => h ⟨t, h1, .inl h2⟩, fun ⟨t, h1, h2⟩ => h ⟨t, h1, .inr h2⟩⟩, fun ⟨ha, hb⟩ ⟨t, h1, h2⟩ => h2.elim (fun h2 => ha ⟨t, h1, h2⟩) fun h2 => hb ⟨t, h1, h2⟩⟩
    rw [hst, hno, ← e4]
    simp only [o1, show ((1 : Int) == 1) = true from rfl, cond_true, hy', Option.bind_some]
    rcases hq with ⟨⟨r, rfl⟩, hq⟩ | ⟨rfl, hq⟩
    · exact ⟨_, rfl, (fun h => nomatch h), fun h => absurd h.1 hq⟩
    · simp only [o0, bif_some]
      refine ⟨_, rfl, ?_⟩
      simp only [bif_true, decide_eq_true_eq, beq_iff_eq, Bool.false_eq_true, and_false, or_false]
      exact ⟨fun h => ⟨hq, by omega, by omega⟩, fun h => ⟨by omega, by omega, by omega⟩⟩
  · have n1 : (state == Int.ofNat 1) = false := by simpa using s1
    rw [n1]
    simp only [cond_false, o0, o2, o3, w2, w3, bif_some]
    refine ⟨_, rfl, ?_⟩
    simp only [bif_true, decide_eq_true_eq, beq_iff_eq, Bool.false_eq_true, and_false, or_false, beq_eq_false_iff_ne, StP, s1, false_and, false_or]
    rw [← e4]
    have q5 : (∃ t ∈ ts, t.1 = 5) ↔ ¬ f = 0 := by rw [e5, Classical.not_not]
    have q6 : (∃ t ∈ ts, t.1 = 6) ↔ ¬ x = 0 := by rw [e6, Classical.not_not]
    rw [q5, q6, ← a2, ← a3]
    omega
end Go.Proofs.Ytefehcmhdiifnaa.leaseTells.Code
set_option maxRecDepth 100000
set_option linter.unusedVariables false
set_option linter.unusedSimpArgs false
set_option linter.constructorNameAsVariable false
namespace Go.Proofs.Ytefehcmhdiifnaa.leaseTells.Code
open Go Go.Am
theorem lit1 (a : Int) : List.take ((List.replicate 1 (Int.ofNat 0)).set 0 a).length (List.drop 0 ((List.replicate 1 (Int.ofNat 0)).set 0 a)) = [a] := rfl
theorem lit2 (a b : Int) : List.take (((List.replicate 2 (Int.ofNat 0)).set 0 a).set 1 b).length (List.drop 0 (((List.replicate 2 (Int.ofNat 0)).set 0 a).set 1 b)) = [a, b] := rfl
theorem lit3 (a b c : Int) : List.take ((((List.replicate 3 (Int.ofNat 0)).set 0 a).set 1 b).set 2 c).length (List.drop 0 ((((List.replicate 3 (Int.ofNat 0)).set 0 a).set 1 b).set 2 c)) = [a, b, c] := rfl
theorem f72 (r : Run) (hf : Fit r) : ∃ b, F72 (r, ()) = some (b, ()) ∧ (b = true ↔ StP r.2.2.1.1 r.2.2.2.2.1 r.2.2.2.1) := by
  have i1 := hf.ln
  have i2 := hf.len
  have i3 := hf.n12
  have k2 := fun i (hi : i < r.2.2.1.1.length) => f103 r (r.2.2.1.1.getD i (dft sNode)) (i1 _ (getD_mem hi (dft sNode))) (hf.inr hi)
  obtain ⟨id, key, ⟨ns, _⟩, state, ts, _⟩ := r
  simp only at i1 i2 i3 k2
  have g4 := fun (l : List Int) (hl : l.length ≤ 9223372036854775807) => f104 (id, key, (ns, ()), state, ts, ()) l hl (by simp only; omega)
  have g5 := fun (l : List Int) (hl : l.length ≤ 9223372036854775807) => f105 (id, key, (ns, ()), state, ts, ()) l hl (by simp only; omega)
  simp only [F72, lit1, lit2, lit3]
  by_cases s1 : state = 1
  · subst s1
    obtain ⟨y, hy, hq⟩ := rng_hoare (st := L72_1004608t) ns.length (fun i (_ : Unit) => (ns, (ns.length : Int), (i : Int), id, key, ns, 1, ts, ())) (fun j _ => ∀ i : Nat, i < j → (MetP ts (ns.getD i (dft sNode)) ↔ (ts.getD i (dft sTask)).1 ≠ 0))
      (fun y => ((∃ r, y = .inl (false, r)) ∧ ¬ ∀ i : Nat, i < ns.length → (MetP ts (ns.getD i (dft sNode)) ↔ (ts.getD i (dft sTask)).1 ≠ 0)) ∨ (y = .inr (id, key, ns, 1, ts, ()) ∧ ∀ i : Nat, i < ns.length → (MetP ts (ns.getD i (dft sNode)) ↔ (ts.getD i (dft sTask)).1 ≠ 0))) (fun j _ h hx => by
        obtain ⟨b, h1, h2⟩ := k2 j h
        simp only [L72_1004608t, L72_1004608s0, rg_lt h, rg_in h, rg_ltn h, cond_true, Int.toNat_natCast, eN, h1, Option.bind_some, rg_in (i2 ▸ h : j < ts.length), rg_ltn (i2 ▸ h : j < ts.length)]
        rw [rg_wrap (by omega)]
        have hb : ((ts.getD j (dft sTask)).1 == Int.ofNat 0) = true ↔ (ts.getD j (dft sTask)).1 = 0 := by simp
        generalize ((ts.getD j (dft sTask)).1 == Int.ofNat 0) = c at hb ⊢
        cases b <;> cases c
        · exact .inr ⟨_, rfl, .inl ⟨⟨_, rfl⟩, fun hall => nomatch h2.2 ((hall j h).2 fun e => nomatch hb.2 e)⟩⟩
        · exact .inl ⟨(), rfl, all_succ hx ⟨fun h => (nomatch h2.2 h), fun h => absurd (hb.1 rfl) h⟩⟩
        · exact .inl ⟨(), rfl, all_succ hx ⟨fun _ e => (nomatch hb.2 e), fun _ => h2.1 rfl⟩⟩
        · exact .inr ⟨_, rfl, .inl ⟨⟨_, rfl⟩, fun hall => (hall j h).1 (h2.1 rfl) (hb.1 rfl)⟩⟩) (fun _ hx => ⟨.inr (id, key, ns, 1, ts, ()), by simp only [L72_1004608t, L72_1004608s0, rg_end, cond_false], .inr ⟨rfl, hx⟩⟩) () (fun i h => absurd h (Nat.not_lt_zero _))
    have hy' : L72_1004608 (ns, (ns.length : Int), Int.ofNat 0, id, key, ns, 1, ts, ()) = some y := hy
    have hst : StP ns ts 1 ↔ (∀ i : Nat, i < ns.length → (MetP ts (ns.getD i (dft sNode)) ↔ (ts.getD i (dft sTask)).1 ≠ 0)) ∧ ¬ (∀ t ∈ ts, t.1 = 4) ∧ ¬ ∃ t ∈ ts, t.1 = 5 ∨ t.1 = 6 := by
      simp only [StP]
      refine ⟨fun h => ?_, fun h => .inl ⟨trivial, h⟩⟩
      rcases h with h | h | h | h
      · exact h.2
      · exact absurd h.1 (by decide)
      · exact absurd h.1 (by decide)
      · exact absurd h.1 (by decide)
    rw [hst]
    simp only [o1, o4, o5, o6, show ((1 : Int) == 1) = true from rfl, cond_true, hy', Option.bind_some]
    rcases hq with ⟨⟨r, rfl⟩, hq⟩ | ⟨rfl, hq⟩
    · exact ⟨_, rfl, (fun h => nomatch h), fun h => absurd h.1 hq⟩
    · simp only [g4 [4] (by decide), g5 [5, 6] (by decide), Option.bind_some, bif_some]
      refine ⟨_, rfl, ?_⟩
      simp only [bif_true, Bool.not_eq_true', decide_eq_false_iff_not, Bool.false_eq_true, and_false, or_false, List.mem_cons, List.not_mem_nil]
      exact ⟨fun h => ⟨hq, h⟩, fun h => h.2⟩
  · have n1 : (state == Int.ofNat 1) = false := by simpa using s1
    rw [n1]
    simp only [cond_false, o4, o5, o6, g4 [4] (by decide), g4 [4, 6] (by decide), g4 [4, 5, 6] (by decide), g5 [5] (by decide), g5 [6] (by decide), Option.bind_some, bif_some]
    simp only [o2, o3]
    refine ⟨_, rfl, ?_⟩
    simp only [bif_true, decide_eq_true_eq, beq_iff_eq, Bool.false_eq_true, and_false, or_false, beq_eq_false_iff_ne, StP, s1, false_and, false_or, List.mem_cons, List.not_mem_nil]
    by_cases s2 : state = 2
    · subst s2; simp
    · by_cases s3 : state = 3
      · subst s3; simp
      · by_cases s4 : state = 4
        · subst s4; simp
        · simp [s2, s3, s4]
def TkT (nd : Node) (t : Task) : Prop := TkOk nd.2.1 t.1 t.2.1 t.2.2.1 t.2.2.2.1 t.2.2.2.2.1
def NdOk (nd : Node) : Prop := (1 ≤ nd.2.1 ∧ nd.2.1 ≤ 5) ∧ (0 ≤ nd.2.2.1 ∧ nd.2.2.1 ≤ 1048576)
theorem f101 (nd : Node) (h : NdOk nd) : F101 (nd, ()) = some (true, ()) := by
  obtain ⟨⟨h1, h2⟩, h3, h4⟩ := h
  simp only [F101]
  rw [decide_eq_true (show nd.2.1 ≥ Int.ofNat 1 from h1), decide_eq_true (show nd.2.1 ≤ Int.ofNat 5 from h2), decide_eq_true (show nd.2.2.1 ≥ Int.ofNat 0 from h3), decide_eq_true (show nd.2.2.1 ≤ Int.ofNat 1048576 from h4)]
  rfl
theorem f71 (nd : Node) (t : Task) (h : NdOk nd) (hs : 0 ≤ t.1) : ∃ v, F71 (nd, t, ()) = some (v, ()) ∧ ((v = 0 ∧ TkT nd t) ∨ (v = 8 ∧ ¬ TkT nd t)) := by
  obtain ⟨b, h1, h2⟩ := f102 nd.1 nd.2.1 nd.2.2.1 t.1 t.2.1 t.2.2.1 t.2.2.2.1 t.2.2.2.2.1 hs
  have h1' : F102 (nd, t, ()) = some (b, ()) := h1
  simp only [F71, eN, eT, f101 nd h, h1', Option.bind_some]
  cases b
  · exact ⟨_, rfl, .inr ⟨rfl, fun h => nomatch h2.2 h⟩⟩
  · exact ⟨_, rfl, .inl ⟨rfl, h2.1 rfl⟩⟩
theorem f135' (nd : Node) (t : Task) (h : NdOk nd) (hs : 0 ≤ t.1) : ∃ b, F135 (nd, t, ()) = some (b, ()) ∧ (b = true ↔ TkT nd t) :=
  f135 nd.1 nd.2.1 nd.2.2.1 t.1 t.2.1 t.2.2.1 t.2.2.2.1 t.2.2.2.2.1 hs h.1.1
theorem sh_nd {ns : List Node} (h : ShAll ns) {i : Nat} (hi : i < ns.length) : NdOk (ns.getD i (dft sNode)) := ⟨(h i hi).1, (h i hi).2.1⟩
structure OkR (r : Run) : Prop where
  ln : ∀ nd ∈ r.2.2.1.1, nd.1.length ≤ 9223372036854775807
  tl : r.2.2.2.2.1.length ≤ 9223372036854775807
  ts : ∀ t ∈ r.2.2.2.2.1, 0 ≤ t.1
structure ROk (r : Run) : Prop where
  id : InC r.1
  key : 1 ≤ r.2.1.size ∧ r.2.1.size ≤ 24
  dag : Dag r.2.2.1.1
  len : r.2.2.2.2.1.length = r.2.2.1.1.length
  tks : ∀ i : Nat, i < r.2.2.2.2.1.length → TkT (r.2.2.1.1.getD i (dft sNode)) (r.2.2.2.2.1.getD i (dft sTask))
  st : StP r.2.2.1.1 r.2.2.2.2.1 r.2.2.2.1
theorem f36 (r : Run) (hr : OkR r) : ∃ v, F36 (r, ()) = some (v, ()) ∧ ((v = 0 ∧ ROk r) ∨ (v = 8 ∧ ¬ ROk r)) := by
  obtain ⟨hr2, hr3, hr4⟩ := hr
  have hst := fun hf => f72 r hf
  obtain ⟨id, key, ⟨ns, _⟩, state, ts, _⟩ := r
  simp only at hr2 hr3 hr4 hst
  simp only [F36]
  by_cases c1 : id < Int.ofNat 0
  · rw [decide_eq_true c1]; exact ⟨_, rfl, .inr ⟨rfl, fun h => by have := h.id.1; simp only [ofN] at *; omega⟩⟩
  rw [decide_eq_false c1, cond_false]
  by_cases c2 : id > Int.ofNat 1099511627776
  · rw [decide_eq_true c2]; exact ⟨_, rfl, .inr ⟨rfl, fun h => by have := h.id.2; simp only [ofN] at *; omega⟩⟩
  rw [decide_eq_false c2, cond_false]
  by_cases c3 : (key.size : Int) < Int.ofNat 1
  · rw [decide_eq_true c3]; exact ⟨_, rfl, .inr ⟨rfl, fun h => by have := h.key.1; simp only [ofN] at *; omega⟩⟩
  rw [decide_eq_false c3, cond_false]
  by_cases c4 : (key.size : Int) > Int.ofNat 24
  · rw [decide_eq_true c4]; exact ⟨_, rfl, .inr ⟨rfl, fun h => by have := h.key.2; simp only [ofN] at *; omega⟩⟩
  rw [decide_eq_false c4, cond_false]
  obtain ⟨v, hv, hv0⟩ := f70 ns hr2
  simp only [hv, Option.bind_some]
  rcases hv0 with ⟨rfl, hd⟩ | ⟨rfl, hd⟩
  · rw [show ((0 : Int) != Int.ofNat 0) = false from rfl, cond_false]
    by_cases c5 : ts.length = ns.length
    · rw [show ((ts.length : Int) != (ns.length : Int)) = false by simp [c5], cond_false]
      have h12 := hd.1.2
      obtain ⟨y, hy, hq⟩ := rng_hoare (st := L36_1002304t) ns.length (fun i (_ : Unit) => (ns, (ns.length : Int), (i : Int), id, key, ns, state, ts, ())) (fun j _ => ∀ i : Nat, i < j → TkT (ns.getD i (dft sNode)) (ts.getD i (dft sTask)))
        (fun y => ((∃ r, y = .inl (Int.ofNat 8, r)) ∧ ¬ ∀ i : Nat, i < ns.length → TkT (ns.getD i (dft sNode)) (ts.getD i (dft sTask))) ∨ (y = .inr (id, key, ns, state, ts, ()) ∧ ∀ i : Nat, i < ns.length → TkT (ns.getD i (dft sNode)) (ts.getD i (dft sTask)))) (fun j _ h hx => by
          have hj : j < ts.length := by omega
          obtain ⟨v, hv, h2⟩ := f71 (ns.getD j (dft sNode)) (ts.getD j (dft sTask)) (sh_nd hd.2.1 h) (hr4 _ (getD_mem hj (dft sTask)))
          simp only [L36_1002304t, L36_1002304s0, rg_lt h, rg_in h, rg_ltn h, cond_true, Int.toNat_natCast, eN, eT, hv, Option.bind_some, rg_in hj, rg_ltn hj]
          rw [rg_wrap (by omega)]
          rcases h2 with ⟨rfl, h2⟩ | ⟨rfl, h2⟩
          · exact .inl ⟨(), rfl, all_succ hx h2⟩
          · exact .inr ⟨_, rfl, .inl ⟨⟨_, rfl⟩, fun hall => h2 (hall j h)⟩⟩) (fun _ hx => ⟨.inr (id, key, ns, state, ts, ()), by simp only [L36_1002304t, L36_1002304s0, rg_end, cond_false], .inr ⟨rfl, hx⟩⟩) () (fun i h => absurd h (Nat.not_lt_zero _))
      have hy' : L36_1002304 (ns, (ns.length : Int), Int.ofNat 0, id, key, ns, state, ts, ()) = some y := hy
      simp only [hy', Option.bind_some]
      rcases hq with ⟨⟨r, rfl⟩, hq⟩ | ⟨rfl, hq⟩
      · exact ⟨_, rfl, .inr ⟨rfl, fun h => hq fun i hi => h.tks i (by simp only; omega)⟩⟩
      · obtain ⟨b, hb, hb2⟩ := hst ⟨c5.symm, by simp only; omega, hd.2.1, hr2⟩
        simp only [hb, Option.bind_some]
        cases b
        · exact ⟨_, rfl, .inr ⟨rfl, fun h => nomatch hb2.2 h.st⟩⟩
        · exact ⟨_, rfl, .inl ⟨rfl, ⟨by simp only [InC, ofN] at *; omega, by simp only [ofN] at *; omega, hd, c5, fun i hi => hq i (by simp only at hi; omega), hb2.1 rfl⟩⟩⟩
    · rw [show ((ts.length : Int) != (ns.length : Int)) = true by simp; omega]
      exact ⟨_, rfl, .inr ⟨rfl, fun h => c5 h.len⟩⟩
  · exact ⟨_, rfl, .inr ⟨rfl, fun h => hd h.dag⟩⟩
theorem f110 (r : Run) (hr : OkR r) : ∃ b, F110 (r, ()) = some (b, ()) ∧ (b = true ↔ ROk r) := by
  obtain ⟨hr2, hr3, hr4⟩ := hr
  have hst := fun hf => f136 r hf
  obtain ⟨id, key, ⟨ns, _⟩, state, ts, _⟩ := r
  simp only at hr2 hr3 hr4 hst
  simp only [F110, f81, Option.bind_some]
  by_cases c1 : InC id
  rotate_left
  · rw [decide_eq_false c1]; exact ⟨_, rfl, (fun h => nomatch h), fun h => absurd h.id c1⟩
  rw [decide_eq_true c1, Bool.not_true, cond_false]
  by_cases c3 : (key.size : Int) < Int.ofNat 1
  · rw [decide_eq_true c3]; exact ⟨_, rfl, (fun h => nomatch h), fun h => by have := h.key.1; simp only [ofN] at *; omega⟩
  rw [decide_eq_false c3, cond_false]
  by_cases c4 : (key.size : Int) > Int.ofNat 24
  · rw [decide_eq_true c4]; exact ⟨_, rfl, (fun h => nomatch h), fun h => by have := h.key.2; simp only [ofN] at *; omega⟩
  rw [decide_eq_false c4, cond_false]
  obtain ⟨v, hv, hv0⟩ := f134 ns hr2
  simp only [hv, Option.bind_some]
  cases v
  · exact ⟨_, rfl, (fun h => nomatch h), fun h => nomatch hv0.2 h.dag⟩
  · have hd := hv0.1 rfl
    rw [Bool.not_true, cond_false]
    by_cases c5 : ts.length = ns.length
    · rw [show ((ts.length : Int) != (ns.length : Int)) = false by simp [c5], cond_false]
      have h12 := hd.1.2
      obtain ⟨y, hy, hq⟩ := rng_hoare (st := L110_1007040t) ts.length (fun i (_ : Unit) => ((i : Int), id, key, ns, state, ts, ())) (fun j _ => ∀ i : Nat, i < j → TkT (ns.getD i (dft sNode)) (ts.getD i (dft sTask)))
        (fun y => ((∃ r, y = .inl (false, r)) ∧ ¬ ∀ i : Nat, i < ts.length → TkT (ns.getD i (dft sNode)) (ts.getD i (dft sTask))) ∨ (y = .inr (id, key, ns, state, ts, ()) ∧ ∀ i : Nat, i < ts.length → TkT (ns.getD i (dft sNode)) (ts.getD i (dft sTask)))) (fun j _ h hx => by
          have hj : j < ns.length := by omega
          obtain ⟨b, hv, h2⟩ := f135' (ns.getD j (dft sNode)) (ts.getD j (dft sTask)) (sh_nd hd.2.1 hj) (hr4 _ (getD_mem h (dft sTask)))
          simp only [L110_1007040t, L110_1007040s0, rg_lt h, rg_in h, rg_ltn h, cond_true, Int.toNat_natCast, eN, eT, hv, Option.bind_some, rg_in hj, rg_ltn hj]
          rw [rg_wrap (by omega)]
          cases b
          · exact .inr ⟨_, rfl, .inl ⟨⟨_, rfl⟩, fun hall => nomatch h2.2 (hall j h)⟩⟩
          · exact .inl ⟨(), rfl, all_succ hx (h2.1 rfl)⟩) (fun _ hx => ⟨.inr (id, key, ns, state, ts, ()), by simp only [L110_1007040t, L110_1007040s0, rg_end, cond_false], .inr ⟨rfl, hx⟩⟩) () (fun i h => absurd h (Nat.not_lt_zero _))
      have hy' : L110_1007040 (Int.ofNat 0, id, key, ns, state, ts, ()) = some y := hy
      simp only [hy', Option.bind_some]
      rcases hq with ⟨⟨r, rfl⟩, hq⟩ | ⟨rfl, hq⟩
      · exact ⟨_, rfl, (fun h => nomatch h), fun h => absurd h.tks hq⟩
      · obtain ⟨b, hb, hb2⟩ := hst ⟨c5.symm, by simp only; omega, hd.2.1, hr2⟩
        simp only [hb, Option.bind_some]
        exact ⟨_, rfl, fun h => ⟨c1, by simp only [ofN] at *; omega, hd, c5, hq, hb2.1 h⟩, fun h => hb2.2 h.st⟩
    · rw [show ((ts.length : Int) != (ns.length : Int)) = true by simp; omega]
      exact ⟨_, rfl, (fun h => nomatch h), fun h => absurd h.len c5⟩
end Go.Proofs.Ytefehcmhdiifnaa.leaseTells.Code
set_option maxRecDepth 100000
set_option linter.unusedVariables false
set_option linter.unusedSimpArgs false
set_option linter.constructorNameAsVariable false
namespace Go.Proofs.Ytefehcmhdiifnaa.leaseTells.Code
open Go Go.Am
def tok (t : Task) : Int := t.2.2.2.1
def rnk (t : Task) : Int := t.2.2.2.2.1
def selT (s : Int) (f : Task → Int) (ts : List Task) : List Int := (ts.filter (fun t => t.1 == s)).map f
def NC (x y : Task) : Prop := ¬ (x.1 = 2 ∧ y.1 = 2 ∧ tok x = tok y) ∧ ¬ (x.1 = 1 ∧ y.1 = 1 ∧ rnk x = rnk y)
theorem NC.symm {x y : Task} (h : NC x y) : NC y x := ⟨fun ⟨a, b, c⟩ => h.1 ⟨b, a, c.symm⟩, fun ⟨a, b, c⟩ => h.2 ⟨b, a, c.symm⟩⟩
theorem selT_app (s : Int) (f : Task → Int) (l : List Task) (t : Task) : selT s f (l ++ [t]) = selT s f l ++ (bif t.1 == s then [f t] else []) := by
  simp only [selT, List.filter_append, List.map_append, List.filter_cons, List.filter_nil]
  cases t.1 == s <;> rfl
theorem selT_mem {s : Int} {f : Task → Int} {l : List Task} {v : Int} : v ∈ selT s f l ↔ ∃ t ∈ l, t.1 = s ∧ f t = v := by
  simp only [selT, List.mem_map, List.mem_filter, beq_iff_eq]
  exact ⟨fun ⟨t, ⟨a, b⟩, c⟩ => ⟨t, a, b, c⟩, fun ⟨t, a, b, c⟩ => ⟨t, ⟨a, b⟩, c⟩⟩
theorem nc_of {l : List Task} (h1 : (selT 2 tok l).Nodup) (h2 : (selT 1 rnk l).Nodup) : l.Pairwise NC := by
  simp only [selT, List.Nodup, List.pairwise_map, List.pairwise_filter] at h1 h2
  refine (h1.and h2).imp fun {x y} h => ⟨fun ⟨a, b, c⟩ => h.1 (by simpa using a) (by simpa using b) c, fun ⟨a, b, c⟩ => h.2 (by simpa using a) (by simpa using b) c⟩
def FT (rs : List Run) : List Task := rs.flatMap (fun r => r.2.2.2.2.1)
theorem FT_succ {rs : List Run} {j : Nat} (h : j < rs.length) (d : Run) : FT (rs.take (j + 1)) = FT (rs.take j) ++ (rs.getD j d).2.2.2.2.1 := by
  rw [List.take_succ_eq_append_getElem h, getD_get h]
  simp only [FT, List.flatMap_append, List.flatMap_cons, List.flatMap_nil, List.append_nil]
theorem FT_pre (rs : List Run) {i : Nat} (h : i < rs.length) (d : Run) (j : Nat) : (FT (rs.take i) ++ (rs.getD i d).2.2.2.2.1.take j).Sublist (FT rs) := by
  have h1 : FT rs = FT (rs.take (i + 1)) ++ FT (rs.drop (i + 1)) := by
    simp only [FT]
    rw [← List.flatMap_append, List.take_append_drop]
  rw [h1, FT_succ h d]
  exact (List.Sublist.append (List.Sublist.refl _) (List.take_sublist _ _)).trans (List.sublist_append_left _ _)
abbrev keyL (r : Run) : List UInt8 := ByteArray.toList r.2.1
structure GoodX (rs : List Run) : Prop where
  up : ∀ a b : Nat, a < b → b < rs.length → (rs.getD a (dft sRun)).1 < (rs.getD b (dft sRun)).1
  keys : ∀ a b : Nat, a < b → b < rs.length → keyL (rs.getD a (dft sRun)) ≠ keyL (rs.getD b (dft sRun))
  chk : ∀ a : Nat, a < rs.length → ROk (rs.getD a (dft sRun))
  ap : (FT rs).Pairwise NC
theorem has_set {K V : Type} [BEq K] [LawfulBEq K] (v : V) (x k : K) : ∀ l : List (K × V), mapHas (mapSet l x v) k = (k == x || mapHas l k)
  | [] => by simp [mapSet, mapHas]
  | (a, w) :: l => by
    simp only [mapSet]
    by_cases h : x == a
    · have : x = a := by simpa using h
      subst this
      simp [mapHas]
    · rw [if_neg h]
      simp only [mapHas, has_set v x k l]
      cases k == a <;> cases k == x <;> rfl
abbrev Mp := List (Int × Unit)
def MOk (m : Mp) (l : List Int) : Prop := (∀ k, mapHas m k = true ↔ k ∈ l) ∧ l.Nodup
theorem mok_set {m : Mp} {l : List Int} {x : Int} (h : MOk m l) (hx : mapHas m x = false) : MOk (mapSet m x ()) (l ++ [x]) := by
  have hn : x ∉ l := fun h2 => by rw [(h.1 x).2 h2] at hx; cases hx
  refine ⟨fun k => ?_, ?_⟩
  · rw [has_set]
    simp only [Bool.or_eq_true, beq_iff_eq, h.1 k, List.mem_append, List.mem_singleton]
    exact Or.comm
  · rw [List.nodup_append]
    exact ⟨h.2, by simp, fun a ha b hb => by simp only [List.mem_singleton] at hb; subst hb; exact fun e => hn (e ▸ ha)⟩

theorem mok_clash {s : Int} {f : Task → Int} {m : Mp} {l : List Task} {t : Task} (hm : MOk m (selT s f l)) (ht : mapHas m (f t) = true) : ∃ x ∈ l, x.1 = s ∧ f x = f t := selT_mem.1 ((hm.1 _).1 ht)
theorem not_pw {l : List Task} {t x : Task} (hx : x ∈ l) (h : ¬ NC x t) : ¬ (l ++ [t]).Pairwise NC := fun hp => h ((List.pairwise_append.1 hp).2.2 x hx t (List.mem_singleton.2 rfl))
theorem l40t (rs : List Run) (x1 x2 : Int) (ts : List Task) (ht : ts.length ≤ 9223372036854775807) (m1 m2 : Mp) (l : List Task) (hm1 : MOk m1 (selT 2 tok l)) (hm2 : MOk m2 (selT 1 rnk l)) :
    ∃ y, L40_1002561 (rs, rs, x1, x2, ts, (ts.length : Int), Int.ofNat 0, m1, m2, ()) = some y ∧ ((((∃ a, y = .inl (Int.ofNat 8, a)) ∨ (∃ a, y = .inr (.inl (Int.ofNat 8, a)))) ∧ ∃ j, ¬ (l ++ ts.take j).Pairwise NC) ∨ (∃ m1' m2' : Mp, y = .inr (.inr (rs, rs, x1, x2, m1', m2', ())) ∧ MOk m1' (selT 2 tok (l ++ ts)) ∧ MOk m2' (selT 1 rnk (l ++ ts)))) := by
  obtain ⟨y, hy, hq⟩ := rng_hoare (st := L40_1002561t) ts.length (fun j (a : Mp × Mp) => (rs, rs, x1, x2, ts, (ts.length : Int), (j : Int), a.1, a.2, ())) (fun j a => MOk a.1 (selT 2 tok (l ++ ts.take j)) ∧ MOk a.2 (selT 1 rnk (l ++ ts.take j)))
    (fun y => ((((∃ a, y = .inl (Int.ofNat 8, a)) ∨ (∃ a, y = .inr (.inl (Int.ofNat 8, a)))) ∧ ∃ j, ¬ (l ++ ts.take j).Pairwise NC) ∨ (∃ m1' m2' : Mp, y = .inr (.inr (rs, rs, x1, x2, m1', m2', ())) ∧ MOk m1' (selT 2 tok (l ++ ts)) ∧ MOk m2' (selT 1 rnk (l ++ ts))))) (fun j a h hx => by
      obtain ⟨m1, m2⟩ := a
      obtain ⟨hx1, hx2⟩ := hx
      simp only at hx1 hx2
      simp only [L40_1002561t, L40_1002561s0, rg_lt h, rg_in h, rg_ltn h, cond_true, Int.toNat_natCast]
      rw [rg_wrap (by omega)]
      have hts : l ++ ts.take (j + 1) = (l ++ ts.take j) ++ [ts.getD j (dft sTask)] := by rw [List.take_succ_eq_append_getElem h, getD_get h, List.append_assoc]
      generalize ts.getD j (dft sTask) = t at hts
      have s1 := selT_app 2 tok (l ++ ts.take j) t
      have s2 := selT_app 1 rnk (l ++ ts.take j) t
      rw [← hts] at s1 s2
      have no1 : (t.1 == Int.ofNat 2) = false → MOk m1 (selT 2 tok (l ++ ts.take (j + 1))) := fun h2 => by rw [s1, show (t.1 == 2) = false from h2]; simpa using hx1
      have no2 : (t.1 == Int.ofNat 1) = false → MOk m2 (selT 1 rnk (l ++ ts.take (j + 1))) := fun h2 => by rw [s2, show (t.1 == 1) = false from h2]; simpa using hx2
      have yes1 : (t.1 == Int.ofNat 2) = true → mapHas m1 t.2.2.2.1 = false → MOk (mapSet m1 t.2.2.2.1 ()) (selT 2 tok (l ++ ts.take (j + 1))) := fun h2 h3 => by rw [s1, show (t.1 == 2) = true from h2, cond_true]; exact mok_set hx1 h3
      have yes2 : (t.1 == Int.ofNat 1) = true → mapHas m2 t.2.2.2.2.1 = false → MOk (mapSet m2 t.2.2.2.2.1 ()) (selT 1 rnk (l ++ ts.take (j + 1))) := fun h2 h3 => by rw [s2, show (t.1 == 1) = true from h2, cond_true]; exact mok_set hx2 h3
      have bad1 : (t.1 == Int.ofNat 2) = true → mapHas m1 t.2.2.2.1 = true → ¬ (l ++ ts.take (j + 1)).Pairwise NC := fun h2 h3 => by
        obtain ⟨x, hxl, e1, e2⟩ := mok_clash (f := tok) hx1 h3
        rw [hts]
        exact not_pw hxl fun hn => hn.1 ⟨e1, by simpa using h2, e2⟩
      have bad2 : (t.1 == Int.ofNat 1) = true → mapHas m2 t.2.2.2.2.1 = true → ¬ (l ++ ts.take (j + 1)).Pairwise NC := fun h2 h3 => by
        obtain ⟨x, hxl, e1, e2⟩ := mok_clash (f := rnk) hx2 h3
        rw [hts]
        exact not_pw hxl fun hn => hn.2 ⟨e1, by simpa using h2, e2⟩
      rcases h1 : (t.1 == Int.ofNat 2) with _ | _
      · simp only [cond_false]
        rcases h2 : (t.1 == Int.ofNat 1) with _ | _
        · exact .inl ⟨(m1, m2), rfl, no1 h1, no2 h2⟩
        · simp only [cond_true]
          rcases h3 : mapHas m2 t.2.2.2.2.1 with _ | _
          · exact .inl ⟨(m1, _), rfl, no1 h1, yes2 h2 h3⟩
          · exact .inr ⟨_, rfl, .inl ⟨.inl ⟨_, rfl⟩, _, bad2 h2 h3⟩⟩
      · simp only [cond_true]
        rcases h4 : mapHas m1 t.2.2.2.1 with _ | _
        · simp only [cond_false]
          rcases h2 : (t.1 == Int.ofNat 1) with _ | _
          · exact .inl ⟨(_, m2), rfl, yes1 h1 h4, no2 h2⟩
          · simp only [cond_true]
            rcases h3 : mapHas m2 t.2.2.2.2.1 with _ | _
            · exact .inl ⟨(_, _), rfl, yes1 h1 h4, yes2 h2 h3⟩
            · exact .inr ⟨_, rfl, .inl ⟨.inr ⟨_, rfl⟩, _, bad2 h2 h3⟩⟩
        · exact .inr ⟨_, rfl, .inl ⟨.inl ⟨_, rfl⟩, _, bad1 h1 h4⟩⟩) (fun a hx => ⟨.inr (.inr (rs, rs, x1, x2, a.1, a.2, ())), by simp only [L40_1002561t, L40_1002561s0, rg_end, cond_false], .inr ⟨a.1, a.2, rfl, by rw [List.take_length] at hx; exact hx⟩⟩) (m1, m2) (by simpa using ⟨hm1, hm2⟩)
  exact ⟨y, hy, hq⟩
theorem l40k (rs : List Run) (hl : rs.length ≤ 9223372036854775807) (r : Run) :
    ∃ y, L40_1006784 (rs, (rs.length : Int), Int.ofNat 0, r.1, r.2.1, r.2.2.1.1, r.2.2.2.1, r.2.2.2.2.1, ()) = some y ∧ ((∃ a, y = .inl a ∧ decide (a.1 ≥ Int.ofNat 0) = true ∧ ∃ j, j < rs.length ∧ keyL (rs.getD j (dft sRun)) = keyL r) ∨ (y = .inr (r.1, r.2.1, r.2.2.1.1, r.2.2.2.1, r.2.2.2.2.1, ()) ∧ ∀ j, j < rs.length → keyL (rs.getD j (dft sRun)) ≠ keyL r)) := by
  obtain ⟨y, hy, hq⟩ := rng_hoare (st := L40_1006784t) rs.length (fun j (_ : Unit) => (rs, (rs.length : Int), (j : Int), r.1, r.2.1, r.2.2.1.1, r.2.2.2.1, r.2.2.2.2.1, ())) (fun i a => ∀ j, j < i → keyL (rs.getD j (dft sRun)) ≠ keyL r)
    (fun y => ((∃ a, y = .inl a ∧ decide (a.1 ≥ Int.ofNat 0) = true ∧ ∃ j, j < rs.length ∧ keyL (rs.getD j (dft sRun)) = keyL r) ∨ (y = .inr (r.1, r.2.1, r.2.2.1.1, r.2.2.2.1, r.2.2.2.2.1, ()) ∧ ∀ j, j < rs.length → keyL (rs.getD j (dft sRun)) ≠ keyL r))) (fun j a h hx => by
      simp only [L40_1006784t, L40_1006784s0, rg_lt h, rg_in h, rg_ltn h, cond_true, Int.toNat_natCast]
      rw [rg_wrap (by omega)]
      rcases hb : (ByteArray.toList (rs.getD j (dft sRun)).2.1 == ByteArray.toList r.2.1) with _ | _
      · exact .inl ⟨(), rfl, all_succ hx fun e => by rw [show ByteArray.toList (rs.getD j (dft sRun)).2.1 = ByteArray.toList r.2.1 from e] at hb; simp at hb⟩
      · exact .inr ⟨_, rfl, .inl ⟨_, rfl, nat_ge j, j, h, by simpa using hb⟩⟩) (fun a hx => ⟨.inr (r.1, r.2.1, r.2.2.1.1, r.2.2.2.1, r.2.2.2.2.1, ()), by simp only [L40_1006784t, L40_1006784s0, rg_end, cond_false], .inr ⟨rfl, hx⟩⟩) () (fun j h => absurd h (Nat.not_lt_zero _))
  exact ⟨y, hy, hq⟩
theorem comb {X Y : Type} (rs : List Run) (i : Nat) (h : i < rs.length) (hm : rs.length ≤ 9223372036854775807) (r : Run) (e : Y) (z : X ⊕ Y) :
    (bif decide ((i : Int) > Int.ofNat 0) then (bif within 0 (IntKind.i64.wrap ((i : Int) - Int.ofNat 1)) ((rs.length : Int) - 1) then (bif decide ((IntKind.i64.wrap ((i : Int) - Int.ofNat 1)).toNat < rs.length) then (bif decide (r.1 ≤ (rs.getD (IntKind.i64.wrap ((i : Int) - Int.ofNat 1)).toNat (dft sRun)).1) then (some (.inr e)) else bif within 0 (i : Int) (rs.length : Int) then (some z) else none) else none) else none) else bif within 0 (i : Int) (rs.length : Int) then (some z) else none)
      = some (if 0 < i ∧ r.1 ≤ (rs.getD (i - 1) (dft sRun)).1 then .inr e else z) := by
  have hw : within 0 (i : Int) (rs.length : Int) = true := by simp [within]; omega
  rw [hw]
  rcases Nat.eq_zero_or_pos i with rfl | hp
  · rfl
  · rw [wrap_sub1 hp (by omega), rg_in (show i - 1 < rs.length by omega), Int.toNat_natCast, rg_ltn (show i - 1 < rs.length by omega), decide_eq_true (show (i : Int) > Int.ofNat 0 by simp only [ofN]; omega)]
    simp only [cond_true]
    by_cases hc : r.1 ≤ (rs.getD (i - 1) (dft sRun)).1
    · rw [decide_eq_true hc, if_pos ⟨hp, hc⟩]; rfl
    · rw [decide_eq_false hc, if_neg fun h => hc h.2]; rfl
def code {A B C D E : Type} : (Int × A) ⊕ ((Int × B) ⊕ ((Int × C) ⊕ ((Int × D) ⊕ E))) → Int
  | .inl a => a.1
  | .inr (.inl a) => a.1
  | .inr (.inr (.inl a)) => a.1
  | .inr (.inr (.inr (.inl a))) => a.1
  | .inr (.inr (.inr (.inr _))) => 0

theorem getD_take {α : Type} {l : List α} {n i : Nat} (h : i < n) (d : α) : (l.take n).getD i d = l.getD i d := by
  simp [List.getD_eq_getElem?_getD, List.getElem?_take, h]
structure Pre (rs : List Run) (j : Nat) (m : Mp × Mp) : Prop where
  up : ∀ a b : Nat, a < b → b < j → (rs.getD a (dft sRun)).1 < (rs.getD b (dft sRun)).1
  keys : ∀ a b : Nat, a < b → b < j → keyL (rs.getD a (dft sRun)) ≠ keyL (rs.getD b (dft sRun))
  chk : ∀ a : Nat, a < j → ROk (rs.getD a (dft sRun))
  m1 : MOk m.1 (selT 2 tok (FT (rs.take j)))
  m2 : MOk m.2 (selT 1 rnk (FT (rs.take j)))
theorem l40 (rs : List Run) (hm : rs.length ≤ 9223372036854775807) (hr : ∀ r ∈ rs, OkR r) :
    ∃ y, L40_1002560 (rs, rs, (rs.length : Int), Int.ofNat 0, [], [], ()) = some y ∧ ((code y = 8 ∧ ¬ GoodX rs) ∨ (code y = 0 ∧ GoodX rs)) := by
  obtain ⟨y, hy, hq⟩ := rng_hoare (st := L40_1002560t) rs.length (fun j (a : Mp × Mp) => (rs, rs, (rs.length : Int), (j : Int), a.1, a.2, ())) (fun j a => Pre rs j a)
    (fun y => (code y = 8 ∧ ¬ GoodX rs) ∨ (code y = 0 ∧ GoodX rs)) (fun j a h hx => by
      obtain ⟨m1, m2⟩ := a
      have hok := hr _ (getD_mem h (dft sRun))
      obtain ⟨v, hv, hv0⟩ := f36 _ hok
      have hs := FT_succ h (dft sRun)
      have hpre := FT_pre rs h (dft sRun)
      have hup := fun (g : GoodX rs) (h0 : 0 < j) => g.up (j - 1) j (by omega) h
      have hkey := fun (g : GoodX rs) (i : Nat) (h0 : i < j) => g.keys i j h0 h
      have hchk := fun (g : GoodX rs) => g.chk j h
      have hx1 := hx.m1
      have hx2 := hx.m2
      have hcons : ∀ m : Mp × Mp, ROk (rs.getD j (dft sRun)) → ¬(0 < j ∧ (rs.getD j (dft sRun)).1 ≤ (rs.getD (j - 1) (dft sRun)).1) → (∀ i, i < j → keyL (rs.getD i (dft sRun)) ≠ keyL (rs.getD j (dft sRun))) → MOk m.1 (selT 2 tok (FT (rs.take (j + 1)))) → MOk m.2 (selT 1 rnk (FT (rs.take (j + 1)))) → Pre rs (j + 1) m := fun m h1 h2 h3 h4 h5 => by
        refine ⟨fun a b hab hb => ?_, fun a b hab hb => ?_, all_succ hx.chk h1, h4, h5⟩
        · rcases Nat.lt_or_ge b j with hb' | hb'
          · exact hx.up a b hab hb'
          · have e : b = j := by omega
            subst e
            have h6 : (rs.getD (b - 1) (dft sRun)).1 < (rs.getD b (dft sRun)).1 := by
              have := fun h => h2 ⟨by omega, h⟩
              omega
            rcases Nat.lt_or_ge a (b - 1) with h7 | h7
            · exact Int.lt_trans (hx.up a (b - 1) h7 (by omega)) h6
            · have e : a = b - 1 := by omega
              rw [e]; exact h6
        · rcases Nat.lt_or_ge b j with hb' | hb'
          · exact hx.keys a b hab hb'
          · have e : b = j := by omega
            subst e
            exact h3 a hab
      generalize hrr : rs.getD j (dft sRun) = r at hok hv hv0 hs hpre hup hkey hchk hcons
      simp only [L40_1002560t, L40_1002560s0, rg_lt h, rg_in h, rg_ltn h, cond_true, Int.toNat_natCast, hrr, eR, hv, Option.bind_some]
      rcases hv0 with ⟨rfl, hz⟩ | ⟨rfl, hz⟩
      · rw [show ((0 : Int) != Int.ofNat 0) = false from rfl]
        simp only [cond_false]
        obtain ⟨yk, hk, hkq⟩ := l40k (List.take (j - 0) (List.drop 0 rs)) (by rw [List.length_take, List.drop_zero]; omega) r
        rw [hk]
        simp only [Option.bind_some]
        have hpr : 0 < j ∧ r.1 ≤ (rs.getD (j - 1) (dft sRun)).1 → ¬ GoodX rs := fun h1 g => by have := hup g h1.1; omega
        rcases hkq with ⟨a, rfl, ha, i, hi, hik⟩ | ⟨rfl, hk2⟩
        · have hbad : ¬ GoodX rs := fun g => by
            simp only [List.length_take, List.drop_zero, Nat.sub_zero] at hi
            rw [List.drop_zero, Nat.sub_zero, getD_take (by omega)] at hik
            exact hkey g i (by omega) hik
          simp only [ha, cond_true]
          rw [comb rs j h hm r]
          split
          · exact .inr ⟨_, rfl, .inl ⟨rfl, hbad⟩⟩
          · exact .inr ⟨_, rfl, .inl ⟨rfl, hbad⟩⟩
        · have hk3 : ∀ i, i < j → keyL (rs.getD i (dft sRun)) ≠ keyL r := fun i hi => by
            have := hk2 i (by simp only [List.length_take, List.drop_zero, Nat.sub_zero]; omega)
            rwa [List.drop_zero, Nat.sub_zero, getD_take hi] at this
          simp only
          obtain ⟨yt, ht, htq⟩ := l40t rs (rs.length : Int) (j : Int) r.2.2.2.2.1 hok.tl m1 m2 _ hx1 hx2
          rw [ht]
          simp only [Option.bind_some]
          rcases htq with ⟨⟨a, rfl⟩ | ⟨a, rfl⟩, i, hb⟩ | ⟨m1', m2', rfl, hm1, hm2⟩
          · have hbad : ¬ GoodX rs := fun g => hb (g.ap.sublist (hpre i))
            simp only
            rw [comb rs j h hm r]
            split
            · exact .inr ⟨_, rfl, .inl ⟨rfl, hbad⟩⟩
            · exact .inr ⟨_, rfl, .inl ⟨rfl, hbad⟩⟩
          · have hbad : ¬ GoodX rs := fun g => hb (g.ap.sublist (hpre i))
            simp only
            rw [comb rs j h hm r]
            split
            · exact .inr ⟨_, rfl, .inl ⟨rfl, hbad⟩⟩
            · exact .inr ⟨_, rfl, .inl ⟨rfl, hbad⟩⟩
          · simp only
            rw [comb rs j h hm r]
            split
            · rename_i hc
              exact .inr ⟨_, rfl, .inl ⟨rfl, hpr hc⟩⟩
            · rename_i hc
              rw [rg_wrap (by omega)]
              rw [← hs] at hm1 hm2
              exact .inl ⟨(m1', m2'), rfl, hcons (m1', m2') hz hc hk3 hm1 hm2⟩
      · rw [show ((8 : Int) != Int.ofNat 0) = true from rfl]
        exact .inr ⟨_, rfl, .inl ⟨rfl, fun g => hz (hchk g)⟩⟩) (fun a hx => ⟨.inr (.inr (.inr (.inr (a.1, a.2, ())))), by simp only [L40_1002560t, L40_1002560s0, rg_end, cond_false], .inr ⟨rfl, by
        have h1 := hx.m1.2
        have h2 := hx.m2.2
        rw [List.take_length] at h1 h2
        exact ⟨hx.up, hx.keys, hx.chk, nc_of h1 h2⟩⟩⟩) ([], []) ⟨fun a b _ h => absurd h (Nat.not_lt_zero _), fun a b _ h => absurd h (Nat.not_lt_zero _), fun a h => absurd h (Nat.not_lt_zero _), by simp [MOk, mapHas, FT, selT], by simp [MOk, mapHas, FT, selT]⟩
  exact ⟨y, hy, hq⟩
def Fine (rs : List Run) : Prop := rs.length ≤ 32 ∧ GoodX rs
def chkV (rs : List Run) (v : Int) : Prop := (rs.length > 32 ∧ v = 4) ∨ (rs.length ≤ 32 ∧ ¬ GoodX rs ∧ v = 8) ∨ (Fine rs ∧ v = 0)
theorem chkV_uniq {rs : List Run} {v w : Int} (h1 : chkV rs v) (h2 : chkV rs w) : v = w := by
  rcases h1 with ⟨a, rfl⟩ | ⟨a, b, rfl⟩ | ⟨a, rfl⟩ <;> rcases h2 with ⟨c, rfl⟩ | ⟨c, d, rfl⟩ | ⟨c, rfl⟩
  · rfl
  · omega
  · have := c.1; omega
  · omega
  · rfl
  · exact absurd c.2 b
  · have := a.1; omega
  · exact absurd a.2 d
  · rfl
theorem f40 (rs : List Run) (hm : rs.length ≤ 9223372036854775807) (hr : ∀ r ∈ rs, OkR r) : ∃ v, F40 (rs, ()) = some (v, ()) ∧ chkV rs v := by
  simp only [F40]
  by_cases h2 : ((rs.length : Nat) : Int) > Int.ofNat 32
  · rw [decide_eq_true h2]; exact ⟨_, rfl, .inl ⟨by simp only [ofN] at h2; omega, rfl⟩⟩
  · rw [decide_eq_false h2]
    have h32 : rs.length ≤ 32 := by simp only [ofN] at h2; omega
    obtain ⟨y, hy, hq⟩ := l40 rs hm hr
    simp only [cond_false, hy, Option.bind_some]
    have fin : ∀ v : Int, code y = v → chkV rs v := fun v e => by
      rcases hq with ⟨h, hg⟩ | ⟨h, hg⟩
      · exact .inr (.inl ⟨h32, hg, by omega⟩)
      · exact .inr (.inr ⟨⟨h32, hg⟩, by omega⟩)
    match y, fin with
    | .inl a, fin => exact ⟨_, rfl, fin _ rfl⟩
    | .inr (.inl a), fin => exact ⟨_, rfl, fin _ rfl⟩
    | .inr (.inr (.inl a)), fin => exact ⟨_, rfl, fin _ rfl⟩
    | .inr (.inr (.inr (.inl a))), fin => exact ⟨_, rfl, fin _ rfl⟩
    | .inr (.inr (.inr (.inr a))), fin => exact ⟨_, rfl, fin _ rfl⟩
end Go.Proofs.Ytefehcmhdiifnaa.leaseTells.Code
set_option maxRecDepth 100000
set_option linter.unusedVariables false
set_option linter.unusedSimpArgs false
set_option linter.constructorNameAsVariable false
namespace Go.Proofs.Ytefehcmhdiifnaa.leaseTells.Code
open Go Go.Am
theorem f137 (a b : Task) : ∃ r, F137 (a, b, ()) = some (r, ()) ∧ (r = true ↔ ¬ NC a b) := by
  obtain ⟨a1, a2, a3, a4, a5, _⟩ := a
  obtain ⟨b1, b2, b3, b4, b5, _⟩ := b
  simp only [F137, bif_some, o1, o2]
  refine ⟨_, rfl, ?_⟩
  simp only [NC, tok, rnk, bif_true, beq_iff_eq, beq_eq_false_iff_ne, Bool.false_eq_true, and_false, or_false, and_true]
  omega
theorem l7105 (one : Bool) (i : Nat) (a b : Run) (hi : i < a.2.2.2.2.1.length) (hb : b.2.2.2.2.1.length ≤ 9223372036854775807) :
    ∃ y, L111_1007105 (one, (i : Int), Int.ofNat 0, a.1, a.2.1, a.2.2.1.1, a.2.2.2.1, a.2.2.2.2.1, b.1, b.2.1, b.2.2.1.1, b.2.2.2.1, b.2.2.2.2.1, ()) = some y ∧
      ((∃ z, y = .inl (false, z) ∧ ¬ ∀ k, k < b.2.2.2.2.1.length → ¬ NC (a.2.2.2.2.1.getD i (dft sTask)) (b.2.2.2.2.1.getD k (dft sTask)) → one = true ∧ i = k) ∨ (y = .inr (one, (i : Int), a.1, a.2.1, a.2.2.1.1, a.2.2.2.1, a.2.2.2.2.1, b.1, b.2.1, b.2.2.1.1, b.2.2.2.1, b.2.2.2.2.1, ()) ∧ ∀ k, k < b.2.2.2.2.1.length → ¬ NC (a.2.2.2.2.1.getD i (dft sTask)) (b.2.2.2.2.1.getD k (dft sTask)) → one = true ∧ i = k)) := by
  obtain ⟨y, hy, hq⟩ := rng_hoare (st := L111_1007105t) b.2.2.2.2.1.length (fun k (_ : Unit) => (one, (i : Int), (k : Int), a.1, a.2.1, a.2.2.1.1, a.2.2.2.1, a.2.2.2.2.1, b.1, b.2.1, b.2.2.1.1, b.2.2.2.1, b.2.2.2.2.1, ())) (fun m _ => ∀ k, k < m → ¬ NC (a.2.2.2.2.1.getD i (dft sTask)) (b.2.2.2.2.1.getD k (dft sTask)) → one = true ∧ i = k)
    (fun y => ((∃ z, y = .inl (false, z) ∧ ¬ ∀ k, k < b.2.2.2.2.1.length → ¬ NC (a.2.2.2.2.1.getD i (dft sTask)) (b.2.2.2.2.1.getD k (dft sTask)) → one = true ∧ i = k) ∨ (y = .inr (one, (i : Int), a.1, a.2.1, a.2.2.1.1, a.2.2.2.1, a.2.2.2.2.1, b.1, b.2.1, b.2.2.1.1, b.2.2.2.1, b.2.2.2.2.1, ()) ∧ ∀ k, k < b.2.2.2.2.1.length → ¬ NC (a.2.2.2.2.1.getD i (dft sTask)) (b.2.2.2.2.1.getD k (dft sTask)) → one = true ∧ i = k))) (fun k _ h hx => by
      obtain ⟨r, h1, h2⟩ := f137 (a.2.2.2.2.1.getD i (dft sTask)) (b.2.2.2.2.1.getD k (dft sTask))
      simp only [L111_1007105t, L111_1007105s0, rg_lt h, rg_in h, rg_ltn h, rg_in hi, rg_ltn hi, cond_true, Int.toNat_natCast, eT, h1, Option.bind_some]
      rw [rg_wrap (by omega)]
      cases r
      · exact .inl ⟨(), rfl, all_succ hx fun hn => nomatch h2.2 hn⟩
      · have hn := h2.1 rfl
        cases one
        · exact .inr ⟨_, rfl, .inl ⟨_, rfl, fun hall => nomatch (hall k h hn).1⟩⟩
        · simp only [cond_true]
          rcases he : ((i : Int) == (k : Int)) with _ | _
          · exact .inr ⟨_, rfl, .inl ⟨_, rfl, fun hall => by have := (hall k h hn).2; rw [this] at he; simp at he⟩⟩
          · have hik : i = k := by
              have : (i : Int) = (k : Int) := by simpa using he
              omega
            exact .inl ⟨(), rfl, all_succ (fun m hm hn => ⟨trivial, (hx m hm hn).2⟩) fun _ => ⟨trivial, hik⟩⟩) (fun _ hx => ⟨.inr (one, (i : Int), a.1, a.2.1, a.2.2.1.1, a.2.2.2.1, a.2.2.2.2.1, b.1, b.2.1, b.2.2.1.1, b.2.2.2.1, b.2.2.2.2.1, ()), by simp only [L111_1007105t, L111_1007105s0, rg_end, cond_false], .inr ⟨rfl, hx⟩⟩) () (fun k h => absurd h (Nat.not_lt_zero _))
  exact ⟨y, hy, hq⟩
def Apart (a b : Run) (one : Bool) : Prop := ∀ i, i < a.2.2.2.2.1.length → ∀ k, k < b.2.2.2.2.1.length → ¬ NC (a.2.2.2.2.1.getD i (dft sTask)) (b.2.2.2.2.1.getD k (dft sTask)) → one = true ∧ i = k
theorem f111 (a b : Run) (one : Bool) (ha : a.2.2.2.2.1.length ≤ 9223372036854775807) (hb : b.2.2.2.2.1.length ≤ 9223372036854775807) : ∃ r, F111 (a, b, one, ()) = some (r, ()) ∧ (r = true ↔ Apart a b one) := by
  obtain ⟨y, hy, hq⟩ := rng_hoare (st := L111_1007104t) a.2.2.2.2.1.length (fun i (_ : Unit) => (one, (i : Int), a.1, a.2.1, a.2.2.1.1, a.2.2.2.1, a.2.2.2.2.1, b.1, b.2.1, b.2.2.1.1, b.2.2.2.1, b.2.2.2.2.1, ())) (fun m _ => ∀ i, i < m → ∀ k, k < b.2.2.2.2.1.length → ¬ NC (a.2.2.2.2.1.getD i (dft sTask)) (b.2.2.2.2.1.getD k (dft sTask)) → one = true ∧ i = k)
    (fun y => ((∃ z, y = .inl (false, z)) ∧ ¬ Apart a b one) ∨ ((∃ z, y = .inr z) ∧ Apart a b one)) (fun i _ h hx => by
      obtain ⟨y, h1, h2⟩ := l7105 one i a b h hb
      simp only [L111_1007104t, L111_1007104s0, rg_lt h, cond_true, h1, Option.bind_some]
      rcases h2 with ⟨z, rfl, h2⟩ | ⟨rfl, h2⟩
      · exact .inr ⟨_, rfl, .inl ⟨⟨_, rfl⟩, fun hall => h2 (hall i h)⟩⟩
      · simp only
        rw [rg_wrap (by omega)]
        exact .inl ⟨(), rfl, all_succ hx h2⟩) (fun _ hx => ⟨.inr (a.1, a.2.1, a.2.2.1.1, a.2.2.2.1, a.2.2.2.2.1, b.1, b.2.1, b.2.2.1.1, b.2.2.2.1, b.2.2.2.2.1, ()), by simp only [L111_1007104t, L111_1007104s0, rg_end, cond_false], .inr ⟨⟨_, rfl⟩, hx⟩⟩) () (fun k h => absurd h (Nat.not_lt_zero _))
  have hy' : L111_1007104 (one, Int.ofNat 0, a.1, a.2.1, a.2.2.1.1, a.2.2.2.1, a.2.2.2.2.1, b.1, b.2.1, b.2.2.1.1, b.2.2.2.1, b.2.2.2.2.1, ()) = some y := hy
  simp only [F111, hy', Option.bind_some]
  rcases hq with ⟨⟨z, rfl⟩, hq⟩ | ⟨⟨z, rfl⟩, hq⟩
  · exact ⟨_, rfl, (fun h => nomatch h), fun h => absurd h hq⟩
  · exact ⟨_, rfl, fun _ => hq, fun _ => rfl⟩
theorem apart1 (r : Run) : Apart r r true ↔ r.2.2.2.2.1.Pairwise NC := by
  rw [List.pairwise_iff_getElem]
  constructor
  · intro h i k hi hk hik
    apply Classical.byContradiction
    intro hn
    have := (h i hi k hk (by rw [getD_get hi, getD_get hk]; exact hn)).2
    omega
  · intro h i hi k hk hn
    refine ⟨rfl, ?_⟩
    rw [getD_get hi, getD_get hk] at hn
    rcases Nat.lt_trichotomy i k with h1 | h1 | h1
    · exact absurd (h i k hi hk h1) hn
    · exact h1
    · exact absurd (h k i hk hi h1).symm hn
theorem apart2 (a b : Run) : Apart a b false ↔ ∀ x ∈ a.2.2.2.2.1, ∀ y ∈ b.2.2.2.2.1, NC x y := by
  constructor
  · intro h x hx y hy
    obtain ⟨i, hi, rfl⟩ := List.mem_iff_getElem.1 hx
    obtain ⟨k, hk, rfl⟩ := List.mem_iff_getElem.1 hy
    apply Classical.byContradiction
    intro hn
    exact nomatch (h i hi k hk (by rw [getD_get hi, getD_get hk]; exact hn)).1
  · intro h i hi k hk hn
    exact absurd (h _ (getD_mem hi (dft sTask)) _ (getD_mem hk (dft sTask))) hn
def Beside (rs : List Run) (i k : Nat) : Prop := (rs.getD k (dft sRun)).1 < (rs.getD i (dft sRun)).1 ∧ keyL (rs.getD k (dft sRun)) ≠ keyL (rs.getD i (dft sRun)) ∧ Apart (rs.getD i (dft sRun)) (rs.getD k (dft sRun)) false
def MayI (rs : List Run) (i : Nat) : Prop := ROk (rs.getD i (dft sRun)) ∧ Apart (rs.getD i (dft sRun)) (rs.getD i (dft sRun)) true ∧ ∀ k, k < i → Beside rs i k
theorem mayI_iff (rs : List Run) : (∀ i, i < rs.length → MayI rs i) ↔ GoodX rs := by
  constructor
  · intro h
    refine ⟨fun a b hab hb => ((h b hb).2.2 a hab).1, fun a b hab hb => ((h b hb).2.2 a hab).2.1, fun a ha => (h a ha).1, ?_⟩
    unfold FT
    rw [List.pairwise_flatMap]
    refine ⟨fun r hr => ?_, ?_⟩
    · obtain ⟨i, hi, rfl⟩ := List.mem_iff_getElem.1 hr
      have := (apart1 _).1 (h i hi).2.1
      rwa [getD_get hi] at this
    · rw [List.pairwise_iff_getElem]
      intro a b ha hb hab x hx y hy
      have := (apart2 _ _).1 ((h b hb).2.2 a hab).2.2
      rw [getD_get ha, getD_get hb] at this
      exact (this y hy x hx).symm
  · intro g i hi
    have hap := g.ap
    unfold FT at hap
    rw [List.pairwise_flatMap] at hap
    refine ⟨g.chk i hi, (apart1 _).2 (hap.1 _ (getD_mem hi (dft sRun))), fun k hk => ⟨g.up k i hk hi, g.keys k i hk hi, (apart2 _ _).2 fun x hx y hy => ?_⟩⟩
    have hk' : k < rs.length := by omega
    rw [getD_get hi] at hx
    rw [getD_get hk'] at hy
    exact (List.pairwise_iff_getElem.1 hap.2 k i hk' hi hk y hy x hx).symm
theorem l83k (rs : List Run) (hm : rs.length ≤ 9223372036854775807) (hr : ∀ r ∈ rs, OkR r) (i : Nat) (hi : i < rs.length) :
    ∃ y, L83_1005313 (rs, (i : Int), Int.ofNat 0, ()) = some y ∧ ((y = .inl (false, ()) ∧ ¬ ∀ k, k < i → Beside rs i k) ∨ (y = .inr (rs, (i : Int), ()) ∧ ∀ k, k < i → Beside rs i k)) := by
  obtain ⟨y, hy, hq⟩ := rng_hoare (st := L83_1005313t) i (fun k (_ : Unit) => (rs, (i : Int), (k : Int), ())) (fun m _ => ∀ k, k < m → Beside rs i k)
    (fun y => ((y = .inl (false, ()) ∧ ¬ ∀ k, k < i → Beside rs i k) ∨ (y = .inr (rs, (i : Int), ()) ∧ ∀ k, k < i → Beside rs i k))) (fun k _ h hx => by
      have hk : k < rs.length := by omega
      obtain ⟨b, h1, h2⟩ := f111 (rs.getD i (dft sRun)) (rs.getD k (dft sRun)) false (hr _ (getD_mem hi (dft sRun))).tl (hr _ (getD_mem hk (dft sRun))).tl
      simp only [L83_1005313t, L83_1005313s0, rg_lt h, rg_in hi, rg_ltn hi, rg_in hk, rg_ltn hk, cond_true, Int.toNat_natCast, eR, h1, Option.bind_some]
      rw [rg_wrap (by omega)]
      by_cases c1 : (rs.getD k (dft sRun)).1 ≥ (rs.getD i (dft sRun)).1
      · rw [decide_eq_true c1]
        exact .inr ⟨_, rfl, .inl ⟨rfl, fun hall => by have := (hall k h).1; omega⟩⟩
      · rw [decide_eq_false c1, cond_false]
        rcases c2 : (ByteArray.toList (rs.getD k (dft sRun)).2.1 == ByteArray.toList (rs.getD i (dft sRun)).2.1) with _ | _
        · simp only [cond_false]
          cases b
          · exact .inr ⟨_, rfl, .inl ⟨rfl, fun hall => nomatch h2.2 (hall k h).2.2⟩⟩
          · exact .inl ⟨(), rfl, all_succ hx ⟨by omega, fun e => by rw [show ByteArray.toList (rs.getD k (dft sRun)).2.1 = ByteArray.toList (rs.getD i (dft sRun)).2.1 from e] at c2; simp at c2, h2.1 rfl⟩⟩
        · exact .inr ⟨_, rfl, .inl ⟨rfl, fun hall => (hall k h).2.1 (by simpa using c2)⟩⟩) (fun _ hx => ⟨.inr (rs, (i : Int), ()), by simp only [L83_1005313t, L83_1005313s0, rg_end, cond_false], .inr ⟨rfl, hx⟩⟩) () (fun k h => absurd h (Nat.not_lt_zero _))
  exact ⟨y, hy, hq⟩
theorem f83 (rs : List Run) (hm : rs.length ≤ 9223372036854775807) (hr : ∀ r ∈ rs, OkR r) : ∃ b, F83 (rs, ()) = some (b, ()) ∧ (b = true ↔ GoodX rs) := by
  obtain ⟨y, hy, hq⟩ := rng_hoare (st := L83_1005312t) rs.length (fun i (_ : Unit) => (rs, (i : Int), ())) (fun m _ => ∀ i, i < m → MayI rs i)
    (fun y => (y = .inl (false, ()) ∧ ¬ ∀ i, i < rs.length → MayI rs i) ∨ (y = .inr () ∧ ∀ i, i < rs.length → MayI rs i)) (fun i _ h hx => by
      have hok := hr _ (getD_mem h (dft sRun))
      obtain ⟨b, h1, h2⟩ := f110 (rs.getD i (dft sRun)) hok
      obtain ⟨b', h3, h4⟩ := f111 (rs.getD i (dft sRun)) (rs.getD i (dft sRun)) true hok.tl hok.tl
      obtain ⟨y, h5, h6⟩ := l83k rs hm hr i h
      simp only [L83_1005312t, L83_1005312s0, rg_lt h, rg_in h, rg_ltn h, cond_true, Int.toNat_natCast, eR, h1, h3, h5, Option.bind_some]
      cases b
      · exact .inr ⟨_, rfl, .inl ⟨rfl, fun hall => nomatch h2.2 (hall i h).1⟩⟩
      · cases b'
        · exact .inr ⟨_, rfl, .inl ⟨rfl, fun hall => nomatch h4.2 (hall i h).2.1⟩⟩
        · simp only [Bool.not_true, cond_false]
          rcases h6 with ⟨rfl, h6⟩ | ⟨rfl, h6⟩
          · exact .inr ⟨_, rfl, .inl ⟨rfl, fun hall => h6 (hall i h).2.2⟩⟩
          · simp only
            rw [rg_wrap (by omega)]
            exact .inl ⟨(), rfl, all_succ hx ⟨h2.1 rfl, h4.1 rfl, h6⟩⟩) (fun _ hx => ⟨.inr (), by simp only [L83_1005312t, L83_1005312s0, rg_end, cond_false], .inr ⟨rfl, hx⟩⟩) () (fun k h => absurd h (Nat.not_lt_zero _))
  have hy' : L83_1005312 (rs, Int.ofNat 0, ()) = some y := hy
  rw [mayI_iff] at hq
  simp only [F83, hy', Option.bind_some]
  rcases hq with ⟨rfl, hq⟩ | ⟨rfl, hq⟩
  · exact ⟨_, rfl, (fun h => nomatch h), fun h => absurd h hq⟩
  · exact ⟨_, rfl, fun _ => hq, fun _ => rfl⟩
theorem f49 (rs : List Run) (hm : rs.length ≤ 9223372036854775807) (hr : ∀ r ∈ rs, OkR r) : ∃ v, F49 (rs, ()) = some (v, ()) ∧ chkV rs v := by
  simp only [F49]
  by_cases h2 : ((rs.length : Nat) : Int) > Int.ofNat 32
  · rw [decide_eq_true h2]; exact ⟨_, rfl, .inl ⟨by simp only [ofN] at h2; omega, rfl⟩⟩
  · rw [decide_eq_false h2]
    have h32 : rs.length ≤ 32 := by simp only [ofN] at h2; omega
    obtain ⟨b, h3, h4⟩ := f83 rs hm hr
    simp only [cond_false, h3, Option.bind_some]
    cases b
    · exact ⟨_, rfl, .inr (.inl ⟨h32, fun h => (nomatch h4.2 h), rfl⟩)⟩
    · exact ⟨_, rfl, .inr (.inr ⟨⟨h32, h4.1 rfl⟩, rfl⟩)⟩
end Go.Proofs.Ytefehcmhdiifnaa.leaseTells.Code
set_option maxRecDepth 100000
set_option linter.unusedVariables false
set_option linter.unusedSimpArgs false
set_option linter.constructorNameAsVariable false
namespace Go.Proofs.Ytefehcmhdiifnaa.leaseTells.Code
open Go Go.Am
def SmN (ns : List Node) : Prop := ns.length ≤ 60 ∧ ∀ i, i < ns.length → (ns.getD i (dft sNode)).1.length ≤ 60
def SmR (r : Run) : Prop := SmN r.2.2.1.1 ∧ r.2.2.2.2.1.length ≤ 60
def Sm (rs : List Run) : Prop := rs.length ≤ 60 ∧ ∀ i, i < rs.length → SmR (rs.getD i (dft sRun))
theorem f10 (ns : List Node) (hn : ns.length ≤ 9223372036854775807) : ∃ b, F10 ((ns, ()), ()) = some (b, ()) ∧ (b = false → SmN ns) := by
  simp only [F10]
  by_cases c1 : ((ns.length : Nat) : Int) > Int.ofNat 60
  · rw [decide_eq_true c1]; exact ⟨_, rfl, fun h => nomatch h⟩
  · rw [decide_eq_false c1]
    obtain ⟨y, hy, hq⟩ := rng_hoare (st := L10_1000640t) ns.length (fun i (_ : Unit) => ((i : Int), ns, ())) (fun m _ => ∀ i, i < m → (ns.getD i (dft sNode)).1.length ≤ 60)
      (fun y => (∃ z, y = .inl (true, z)) ∨ ((∃ z, y = .inr z) ∧ ∀ i, i < ns.length → (ns.getD i (dft sNode)).1.length ≤ 60)) (fun i _ h hx => by
        simp only [L10_1000640t, L10_1000640s0, rg_lt h, rg_in h, rg_ltn h, cond_true, Int.toNat_natCast]
        rw [rg_wrap (by omega)]
        by_cases c : (((ns.getD i (dft sNode)).1.length : Nat) : Int) > Int.ofNat 60
        · rw [decide_eq_true c]; exact .inr ⟨_, rfl, .inl ⟨_, rfl⟩⟩
        · rw [decide_eq_false c]; exact .inl ⟨(), rfl, all_succ hx (by simp only [ofN] at c; omega)⟩) (fun _ hx => ⟨.inr (ns, ()), by simp only [L10_1000640t, L10_1000640s0, rg_end, cond_false], .inr ⟨⟨_, rfl⟩, hx⟩⟩) () (fun k h => absurd h (Nat.not_lt_zero _))
    have hy' : L10_1000640 (Int.ofNat 0, ns, ()) = some y := hy
    simp only [cond_false, hy', Option.bind_some]
    rcases hq with ⟨z, rfl⟩ | ⟨⟨z, rfl⟩, hq⟩
    · exact ⟨_, rfl, fun h => nomatch h⟩
    · exact ⟨_, rfl, fun _ => ⟨by simp only [ofN] at c1; omega, hq⟩⟩
theorem f65 (r : Run) (hn : r.2.2.1.1.length ≤ 9223372036854775807) : ∃ b, F65 (r, ()) = some (b, ()) ∧ (b = false → SmR r) := by
  obtain ⟨b, hb, hb2⟩ := f10 r.2.2.1.1 hn
  simp only [F65, hb, Option.bind_some]
  cases b
  · simp only [cond_false]
    by_cases c : ((r.2.2.2.2.1.length : Nat) : Int) > Int.ofNat 60
    · rw [decide_eq_true c]; exact ⟨_, rfl, fun h => nomatch h⟩
    · rw [decide_eq_false c]; exact ⟨_, rfl, fun _ => ⟨hb2 rfl, by simp only [ofN] at c; omega⟩⟩
  · exact ⟨_, rfl, fun h => nomatch h⟩
theorem f29 (rs : List Run) (hl : rs.length ≤ 9223372036854775807) (hr : ∀ r ∈ rs, r.2.2.1.1.length ≤ 9223372036854775807) : ∃ b, F29 (rs, ()) = some (b, ()) ∧ (b = false → Sm rs) := by
  simp only [F29]
  by_cases c1 : ((rs.length : Nat) : Int) > Int.ofNat 60
  · rw [decide_eq_true c1]; exact ⟨_, rfl, fun h => nomatch h⟩
  · rw [decide_eq_false c1]
    obtain ⟨y, hy, hq⟩ := rng_hoare (st := L29_1001856t) rs.length (fun i (_ : Unit) => (rs, (i : Int), ())) (fun m _ => ∀ i, i < m → SmR (rs.getD i (dft sRun)))
      (fun y => y = .inl (true, ()) ∨ (y = .inr () ∧ ∀ i, i < rs.length → SmR (rs.getD i (dft sRun)))) (fun i _ h hx => by
        obtain ⟨b, h1, h2⟩ := f65 (rs.getD i (dft sRun)) (hr _ (getD_mem h (dft sRun)))
        simp only [L29_1001856t, L29_1001856s0, rg_lt h, rg_in h, rg_ltn h, cond_true, Int.toNat_natCast, eR, h1, Option.bind_some]
        rw [rg_wrap (by omega)]
        cases b
        · exact .inl ⟨(), rfl, all_succ hx (h2 rfl)⟩
        · exact .inr ⟨_, rfl, .inl rfl⟩) (fun _ hx => ⟨.inr (), by simp only [L29_1001856t, L29_1001856s0, rg_end, cond_false], .inr ⟨rfl, hx⟩⟩) () (fun k h => absurd h (Nat.not_lt_zero _))
    have hy' : L29_1001856 (rs, Int.ofNat 0, ()) = some y := hy
    simp only [cond_false, hy', Option.bind_some]
    rcases hq with rfl | ⟨rfl, hq⟩
    · exact ⟨_, rfl, fun h => nomatch h⟩
    · exact ⟨_, rfl, fun _ => ⟨by simp only [ofN] at c1; omega, hq⟩⟩

theorem roomK {n k : Nat} (h : n ≤ 1000) (hk : k ≤ 1000) : (decide (n * k ≤ maxRoom) && decide (n ≤ maxRoom)) = true := by
  have : maxRoom = 70368744177664 := by decide
  rw [this]
  have : n * k ≤ 1000 * 1000 := Nat.mul_le_mul h hk
  simp; omega
theorem room2 {n k : Nat} (h : n ≤ 1000) (hk : k ≤ 1000) : (decide (n * k ≤ 2 ^ 46) && decide (n ≤ 2 ^ 46)) = true := roomK h hk
def inT (i : Int) (ns : List Node) : List Node → (Int × List Node × Unit) ⊕ (Int × List Node × Nat × List Node × Unit)
  | [] => .inl (i, ns, ())
  | a :: l => .inr (i, ns, (a :: l).length, a :: l, ())
def outT (ns : List Node) : List Node → (List Node × Unit) ⊕ (List Node × Nat × List Node × Unit)
  | [] => .inl (ns, ())
  | a :: l => .inr (ns, (a :: l).length, a :: l, ())
theorem take_get {α : Type} {l : List α} {i : Nat} (h : i < l.length) (d : α) : l.take (i + 1) = l.take i ++ [l.getD i d] := by
  rw [List.take_succ_eq_append_getElem h, getD_get h]
theorem f107 (ns : List Node) (hs : SmN ns) : F107 ((ns, ()), ()) = some ((ns, ()), ()) := by
  obtain ⟨hs1, hs2⟩ := hs
  obtain ⟨y, hy, rfl⟩ := rng_hoare (st := L107_1006848t) ns.length (fun i (A : List Node) => inT (i : Int) ns A) (fun i A => A = ns.take i) (fun y => y = outT ns ns) (fun i A h hx => by
      have hn := hs2 i h
      have hlen : A.length = i := by rw [hx, List.length_take]; omega
      have ht := take_get h (dft sNode)
      rw [← hx] at ht
      obtain ⟨nd, hnd⟩ : ∃ nd : Node, ns.getD i (dft sNode) = nd := ⟨_, rfl⟩
      rw [hnd] at hn ht
      refine .inl ⟨A ++ [nd], ?_, ht.symm⟩
      obtain ⟨l, n1, n2, _⟩ := nd
      simp only at hn
      have r1 := roomK (n := l.length) (k := 8) (by omega) (by omega)
      have d1 : decide (l.length ≤ l.length) = true := decide_eq_true (Nat.le_refl _)
      cases A with
      | nil =>
        simp only [inT, L107_1006848t, L107_1006848s0, rg_lt h, rg_in h, rg_ltn h, cond_true, Int.toNat_natCast, hnd, Nat.zero_add, r1, d1, one1, all1]
        rw [rg_wrap (by omega)]
        cases l with
        | nil => rfl
        | cons x l => rfl
      | cons a B =>
        have hB : (a :: B).length + 1 ≤ 1000 := by rw [hlen]; omega
        have e1 : decide ((a :: B).length ≤ (a :: B).length) = true := decide_eq_true (Nat.le_refl _)
        have e2 : decide ((a :: B).length = (a :: B).length) = true := decide_eq_true rfl
        have e3 : ∀ v : Node, (decide (((a :: B).length + [v].length) * 40 ≤ 2 ^ 46) && decide ((a :: B).length + [v].length ≤ 2 ^ 46)) = true := fun v => room2 (n := (a :: B).length + [v].length) hB (by omega)
        simp only [inT, L107_1006848t, L107_1006848s1, rg_lt h, rg_in h, rg_ltn h, cond_true, Int.toNat_natCast, hnd, Nat.zero_add, r1, d1, one1, all1, e1, e2, e3]
        rw [rg_wrap (by omega)]
        cases l with
        | nil => rfl
        | cons x l => rfl) (fun A hx => ⟨outT ns A, by cases A <;> simp only [inT, outT, L107_1006848t, L107_1006848s0, L107_1006848s1, rg_end, cond_false], by rw [hx, List.take_length]⟩) [] (by simp)
  have hy' : L107_1006848 (.inl (Int.ofNat 0, ns, ())) = some (outT ns ns) := hy
  simp only [F107, hy', Option.bind_some]
  cases ns with
  | nil => rfl
  | cons a l =>
    simp only [outT, all1]
    rw [decide_eq_true (by omega : 0 + (a :: l).length ≤ (a :: l).length)]
    rfl
theorem f77 (r : Run) (hs : SmR r) : F77 (r, ()) = some (r, ()) := by
  obtain ⟨id, key, ⟨ns, _⟩, state, ts, _⟩ := r
  obtain ⟨h1, h2⟩ := hs
  simp only at h1 h2
  have r1 := roomK (n := ts.length) (k := 40) (by omega) (by omega)
  simp only [F77, f107 ns h1, Option.bind_some, Nat.zero_add, r1, all1, cond_true]
  rw [decide_eq_true (Nat.le_refl ts.length)]
  cases ts with
  | nil => rfl
  | cons a l => rfl
def inU (i : Int) (rs : List Run) : List Run → (List Run × Int × Unit) ⊕ (List Run × Nat × Int × List Run × Unit)
  | [] => .inl (rs, i, ())
  | a :: l => .inr (rs, (a :: l).length, i, a :: l, ())
def outU : List Run → Unit ⊕ (Nat × List Run × Unit)
  | [] => .inl ()
  | a :: l => .inr ((a :: l).length, a :: l, ())
theorem f41 (rs : List Run) (hs : Sm rs) : F41 (rs, ()) = some (rs, ()) := by
  obtain ⟨hs1, hs2⟩ := hs
  obtain ⟨y, hy, rfl⟩ := rng_hoare (st := L41_1002624t) rs.length (fun i (A : List Run) => inU (i : Int) rs A) (fun i A => A = rs.take i) (fun y => y = outU rs) (fun i A h hx => by
      have hn := f77 _ (hs2 i h)
      have hlen : A.length = i := by rw [hx, List.length_take]; omega
      have ht := take_get h (dft sRun)
      rw [← hx] at ht
      obtain ⟨r, hrr⟩ : ∃ r : Run, rs.getD i (dft sRun) = r := ⟨_, rfl⟩
      rw [hrr] at hn ht
      refine .inl ⟨A ++ [r], ?_, ht.symm⟩
      cases A with
      | nil =>
        simp only [inU, L41_1002624t, L41_1002624s0, rg_lt h, rg_in h, rg_ltn h, cond_true, Int.toNat_natCast, hrr, eR, hn, Option.bind_some, one1, all1]
        rw [rg_wrap (by omega)]
        rfl
      | cons a B =>
        have hB : (a :: B).length + 1 ≤ 1000 := by rw [hlen]; omega
        have e1 : decide ((a :: B).length ≤ (a :: B).length) = true := decide_eq_true (Nat.le_refl _)
        have e2 : decide ((a :: B).length = (a :: B).length) = true := decide_eq_true rfl
        have e3 : ∀ v : Run, (decide (((a :: B).length + [v].length) * 80 ≤ maxRoom) && decide ((a :: B).length + [v].length ≤ maxRoom)) = true := fun v => roomK (n := (a :: B).length + [v].length) hB (by omega)
        simp only [inU, L41_1002624t, L41_1002624s1, rg_lt h, rg_in h, rg_ltn h, cond_true, Int.toNat_natCast, hrr, eR, hn, Option.bind_some, one1, all1, Nat.zero_add, e1, e2, e3]
        rw [rg_wrap (by omega)]
        rfl) (fun A hx => ⟨outU A, by cases A <;> simp only [inU, outU, L41_1002624t, L41_1002624s0, L41_1002624s1, rg_end, cond_false], by rw [hx, List.take_length]⟩) [] (by simp)
  have hy' : L41_1002624 (.inl (rs, Int.ofNat 0, ())) = some (outU rs) := hy
  simp only [F41, hy', Option.bind_some]
  cases rs with
  | nil => rfl
  | cons a l =>
    simp only [outU, all1]
    rw [decide_eq_true (by omega : 0 + (a :: l).length ≤ (a :: l).length)]
    rfl

theorem f115 (l : List Int) (hl : l.length ≤ 9223372036854775807) : F115 (l, l, ()) = some (true, ()) := by
  obtain ⟨y, hy, rfl⟩ := rng_hoare (st := L115_1007360t) l.length (fun i (_ : Unit) => (l, l, (i : Int), ())) (fun _ _ => True) (fun y => y = .inr ()) (fun i _ h _ => by
      simp only [L115_1007360t, L115_1007360s0, rg_lt h, rg_in h, rg_ltn h, cond_true, Int.toNat_natCast, bne_self_eq_false, cond_false]
      rw [rg_wrap (by omega)]
      exact .inl ⟨(), rfl, trivial⟩) (fun _ _ => ⟨.inr (), by simp only [L115_1007360t, L115_1007360s0, rg_end, cond_false], rfl⟩) () trivial
  have hy' : L115_1007360 (l, l, Int.ofNat 0, ()) = some (.inr ()) := hy
  simp only [F115, bne_self_eq_false, cond_false, hy', Option.bind_some]
theorem f86 (ns : List Node) (hn : ns.length ≤ 9223372036854775807) (hl : ∀ nd ∈ ns, nd.1.length ≤ 9223372036854775807) : F86 ((ns, ()), (ns, ()), ()) = some (true, ()) := by
  obtain ⟨y, hy, rfl⟩ := rng_hoare (st := L86_1005504t) ns.length (fun i (_ : Unit) => ((i : Int), ns, ns, ())) (fun _ _ => True) (fun y => y = .inr (ns, ns, ())) (fun i _ h _ => by
      have h1 := f115 _ (hl _ (getD_mem h (dft sNode)))
      simp only [L86_1005504t, L86_1005504s0, rg_lt h, rg_in h, rg_ltn h, cond_true, Int.toNat_natCast, bne_self_eq_false, cond_false, h1, Option.bind_some, Bool.not_true]
      rw [rg_wrap (by omega)]
      exact .inl ⟨(), rfl, trivial⟩) (fun _ _ => ⟨.inr (ns, ns, ()), by simp only [L86_1005504t, L86_1005504s0, rg_end, cond_false], rfl⟩) () trivial
  have hy' : L86_1005504 (Int.ofNat 0, ns, ns, ()) = some (.inr (ns, ns, ())) := hy
  simp only [F86, bne_self_eq_false, cond_false, hy', Option.bind_some]
theorem f53 (r : Run) (hn : r.2.2.1.1.length ≤ 9223372036854775807) (hr : OkR r) : F53 (r, r, ()) = some (true, ()) := by
  obtain ⟨h1, h2, _⟩ := hr
  obtain ⟨id, key, ⟨ns, _⟩, state, ts, _⟩ := r
  simp only at h1 h2 hn
  obtain ⟨y, hy, hq⟩ := rng_hoare (st := L53_1003392t) ts.length (fun i (_ : Unit) => ((i : Int), id, key, ns, state, ts, id, key, ns, state, ts, ())) (fun _ _ => True) (fun y => ∃ z, y = .inr z) (fun i _ h _ => by
      simp only [L53_1003392t, L53_1003392s0, rg_lt h, rg_in h, rg_ltn h, cond_true, Int.toNat_natCast, beq_self_eq_true, Bool.and_true, Bool.not_true, ↓reduceIte, cond_false]
      rw [rg_wrap (by omega)]
      exact .inl ⟨(), rfl, trivial⟩) (fun _ _ => ⟨.inr (id, key, ns, state, ts, id, key, ns, state, ts, ()), by simp only [L53_1003392t, L53_1003392s0, rg_end, cond_false], _, rfl⟩) () trivial
  obtain ⟨z, rfl⟩ := hq
  have hy' : L53_1003392 (Int.ofNat 0, id, key, ns, state, ts, id, key, ns, state, ts, ()) = some (.inr z) := hy
  simp only [F53, bne_self_eq_false, beq_self_eq_true, Bool.not_true, cond_false, f86 ns hn h1, Option.bind_some, hy']
theorem f50 (rs : List Run) (hm : rs.length ≤ 9223372036854775807) (hn : ∀ r ∈ rs, r.2.2.1.1.length ≤ 9223372036854775807) (hr : ∀ r ∈ rs, OkR r) : F50 (rs, rs, ()) = some (true, ()) := by
  obtain ⟨y, hy, rfl⟩ := rng_hoare (st := L50_1003200t) rs.length (fun i (_ : Unit) => (rs, rs, (i : Int), ())) (fun _ _ => True) (fun y => y = .inr ()) (fun i _ h _ => by
      have h1 := f53 _ (hn _ (getD_mem h (dft sRun))) (hr _ (getD_mem h (dft sRun)))
      simp only [L50_1003200t, L50_1003200s0, rg_lt h, rg_in h, rg_ltn h, cond_true, Int.toNat_natCast, eR, h1, Option.bind_some, Bool.not_true, cond_false]
      rw [rg_wrap (by omega)]
      exact .inl ⟨(), rfl, trivial⟩) (fun _ _ => ⟨.inr (), by simp only [L50_1003200t, L50_1003200s0, rg_end, cond_false], rfl⟩) () trivial
  have hy' : L50_1003200 (rs, rs, Int.ofNat 0, ()) = some (.inr ()) := hy
  simp only [F50, bne_self_eq_false, cond_false, hy', Option.bind_some]
end Go.Proofs.Ytefehcmhdiifnaa.leaseTells.Code
set_option maxRecDepth 100000
set_option linter.unusedVariables false
set_option linter.unusedSimpArgs false
set_option linter.constructorNameAsVariable false
namespace Go.Proofs.Ytefehcmhdiifnaa.leaseTells.Code
open Go Go.Am
theorem both (rs : List Run) (hm : rs.length ≤ 9223372036854775807) (hr : ∀ r ∈ rs, OkR r) : ∃ v, F40 (rs, ()) = some (v, ()) ∧ F49 (rs, ()) = some (v, ()) ∧ ((v != Int.ofNat 0) = true ∨ (v = Int.ofNat 0 ∧ Fine rs)) := by
  obtain ⟨v, h1, h2⟩ := f40 rs hm hr
  obtain ⟨w, h3, h4⟩ := f49 rs hm hr
  have e := chkV_uniq h2 h4
  subst e
  refine ⟨v, h1, h3, ?_⟩
  rcases h2 with ⟨_, rfl⟩ | ⟨_, _, rfl⟩ | ⟨h, rfl⟩
  · exact .inl rfl
  · exact .inl rfl
  · exact .inr ⟨rfl, h⟩
theorem ne00 : (Int.ofNat 0 != Int.ofNat 0) = false := rfl
theorem f69 (a b : Int) : F69 (a, b, ()) = some (if a < b then Int.negSucc 0 else if a > b then Int.ofNat 1 else Int.ofNat 0, ()) := by
  simp only [F69, F99, Option.bind_some]
  rw [show (a != a) = false by simp, show (b != b) = false by simp]
  simp only [cond_false]
  by_cases h : a < b
  · rw [decide_eq_true h, if_pos h]; rfl
  · rw [decide_eq_false h, if_neg h]
    by_cases h2 : a > b
    · rw [decide_eq_true h2, if_pos h2]; rfl
    · rw [decide_eq_false h2, if_neg h2]; rfl
theorem mid_ok {lo hi : Nat} (h : lo + hi < 1000) : IntKind.i64.wrap ((IntKind.u64.wrap (IntKind.i64.wrap ((lo : Int) + (hi : Int)))).fdiv (2 ^ min (Int.ofNat 1).toNat IntKind.u64.bits)) = (((lo + hi) / 2 : Nat) : Int) := by
  have e1 : IntKind.i64.wrap ((lo : Int) + (hi : Int)) = ((lo + hi : Nat) : Int) := by
    unfold IntKind.wrap
    simp [IntKind.bits, IntKind.signed]
    omega
  have e2 : IntKind.u64.wrap ((lo + hi : Nat) : Int) = ((lo + hi : Nat) : Int) := by
    unfold IntKind.wrap
    simp [IntKind.bits, IntKind.signed]
    omega
  have e3 : (2 : Int) ^ min (Int.ofNat 1).toNat IntKind.u64.bits = 2 := by decide
  rw [e1, e2, e3, Int.fdiv_eq_ediv_of_nonneg _ (by omega)]
  unfold IntKind.wrap
  simp [IntKind.bits, IntKind.signed]
  omega

theorem l32 (rs : List Run) (hf : Fine rs) (id : Int) :
    ∃ p : Nat, L32_1004288 (rs, id, (rs.length : Int), Int.ofNat 0, (rs.length : Int), ()) = some (rs, id, (rs.length : Int), (p : Int), ()) ∧ p ≤ rs.length ∧ (∀ a, a < p → (rs.getD a (dft sRun)).1 < id) ∧ (∀ a, p ≤ a → a < rs.length → id ≤ (rs.getD a (dft sRun)).1) := by
  obtain ⟨h32, hg⟩ := hf
  obtain ⟨y, hy, p, rfl, hq⟩ := loopF_hoare (st := L32_1004288t) (fun x => x.2.2.2.2.1.toNat - x.2.2.2.1.toNat) (fun x => ∃ lo hi : Nat, x = (rs, id, (rs.length : Int), (lo : Int), (hi : Int), ()) ∧ lo ≤ hi ∧ hi ≤ rs.length ∧ (∀ a, a < lo → (rs.getD a (dft sRun)).1 < id) ∧ (∀ a, hi ≤ a → a < rs.length → id ≤ (rs.getD a (dft sRun)).1))
    (fun y => ∃ p : Nat, y = (rs, id, (rs.length : Int), (p : Int), ()) ∧ p ≤ rs.length ∧ (∀ a, a < p → (rs.getD a (dft sRun)).1 < id) ∧ (∀ a, p ≤ a → a < rs.length → id ≤ (rs.getD a (dft sRun)).1)) (fun x hx => by
      obtain ⟨lo, hi, rfl, h1, h2, h3, h4⟩ := hx
      rcases Nat.lt_or_ge lo hi with h | h
      · have hmid : (lo + hi) / 2 < rs.length := by omega
        refine .inl ?_
        simp only [L32_1004288t, L32_1004288s0, rg_lt h, mid_ok (show lo + hi < 1000 by omega), rg_in hmid, Int.toNat_natCast, rg_ltn hmid, cond_true, f69, Option.bind_some]
        by_cases hc : (rs.getD ((lo + hi) / 2) (dft sRun)).1 < id
        · rw [if_pos hc, show decide (Int.negSucc 0 < Int.ofNat 0) = true by decide, rg_wrap (by omega)]
          refine ⟨_, rfl, ⟨(lo + hi) / 2 + 1, hi, rfl, by omega, h2, fun a ha => ?_, h4⟩, ?_⟩
          · rcases Nat.lt_or_ge a ((lo + hi) / 2) with h5 | h5
            · have := hg.up a _ h5 hmid
              omega
            · have e : a = (lo + hi) / 2 := by omega
              rw [e]; exact hc
          · simp only [Int.toNat_natCast]; omega
        · rw [if_neg hc]
          have e : decide ((if (rs.getD ((lo + hi) / 2) (dft sRun)).1 > id then Int.ofNat 1 else Int.ofNat 0) < Int.ofNat 0) = false := by split <;> decide
          rw [e]
          refine ⟨_, rfl, ⟨lo, (lo + hi) / 2, rfl, by omega, by omega, h3, fun a ha hal => ?_⟩, ?_⟩
          · rcases Nat.lt_or_ge ((lo + hi) / 2) a with h5 | h5
            · have := hg.up _ a h5 hal
              omega
            · have e : a = (lo + hi) / 2 := by omega
              rw [e]; omega
          · simp only [Int.toNat_natCast]; omega
      · have e : hi = lo := by omega
        subst e
        exact .inr ⟨(rs, id, (rs.length : Int), (hi : Int), ()), by simp only [L32_1004288t, L32_1004288s0, rg_end, cond_false], hi, rfl, h2, h3, h4⟩) (rs, id, (rs.length : Int), ((0 : Nat) : Int), (rs.length : Int), ()) ⟨0, rs.length, rfl, by omega, by omega, fun a h => absurd h (Nat.not_lt_zero _), fun a h1 h2 => by omega⟩
  exact ⟨p, hy, hq⟩
theorem f78 (rs : List Run) (hm : rs.length ≤ 9223372036854775807) (id : Int) :
    (∃ a : Nat, a < rs.length ∧ (rs.getD a (dft sRun)).1 = id ∧ F78 (rs, id, ()) = some ((a : Int), ())) ∨ ((∀ a, a < rs.length → (rs.getD a (dft sRun)).1 ≠ id) ∧ F78 (rs, id, ()) = some (Int.negSucc 0, ())) := by
  obtain ⟨y, hy, hq⟩ := rng_hoare (st := L78_1004992t) rs.length (fun i (_ : Unit) => (rs, id, (i : Int), ())) (fun m _ => ∀ a, a < m → (rs.getD a (dft sRun)).1 ≠ id)
    (fun y => (∃ a : Nat, a < rs.length ∧ (rs.getD a (dft sRun)).1 = id ∧ y = .inl ((a : Int), ())) ∨ (y = .inr () ∧ ∀ a, a < rs.length → (rs.getD a (dft sRun)).1 ≠ id)) (fun i _ h hx => by
      simp only [L78_1004992t, L78_1004992s0, rg_lt h, rg_in h, rg_ltn h, cond_true, Int.toNat_natCast]
      rw [rg_wrap (by omega)]
      rcases hb : ((rs.getD i (dft sRun)).1 == id) with _ | _
      · exact .inl ⟨(), rfl, all_succ hx (by simpa using hb)⟩
      · exact .inr ⟨_, rfl, .inl ⟨i, h, by simpa using hb, rfl⟩⟩) (fun _ hx => ⟨.inr (), by simp only [L78_1004992t, L78_1004992s0, rg_end, cond_false], .inr ⟨rfl, hx⟩⟩) () (fun k h => absurd h (Nat.not_lt_zero _))
  have hy' : L78_1004992 (rs, id, Int.ofNat 0, ()) = some y := hy
  simp only [F78, hy', Option.bind_some]
  rcases hq with ⟨a, h1, h2, rfl⟩ | ⟨rfl, hq⟩
  · exact .inl ⟨a, h1, h2, rfl⟩
  · exact .inr ⟨hq, rfl⟩
theorem findS (rs : List Run) (hm : rs.length ≤ 9223372036854775807) (hr : ∀ r ∈ rs, OkR r) (id : Int) : ∃ X, F32 (rs, id, ()) = some X ∧ F42 (rs, id, ()) = some X := by
  obtain ⟨v, h1, h2, h3⟩ := both rs hm hr
  obtain ⟨w, hw⟩ : ∃ w, F78 (rs, id, ()) = some w := by
    rcases f78 rs hm id with ⟨a, _, _, h⟩ | ⟨_, h⟩ <;> exact ⟨_, h⟩
  rcases h3 with h3 | ⟨rfl, hf⟩
  · simp only [F32, F42, h1, h2, h3, hw, Option.bind_some, cond_true]
    exact ⟨_, rfl, rfl⟩
  · obtain ⟨p, e1, e2, e3, e4⟩ := l32 rs hf id
    simp only [F32, F42, h1, h2, e1, ne00, Option.bind_some, cond_false, f69]
    rcases f78 rs hm id with ⟨a, g1, g2, g3⟩ | ⟨g1, g3⟩
    · have hpa : p = a := by
        rcases Nat.lt_trichotomy a p with h | h | h
        · have := e3 a h; omega
        · exact h.symm
        · have h5 := e4 p (Nat.le_refl _) (by omega)
          have h6 := hf.2.up p a h g1
          omega
      subst hpa
      rw [g3]
      simp only [Option.bind_some, rg_lt g1, rg_in g1, rg_ltn g1, cond_true, Int.toNat_natCast, g2]
      rw [if_neg (Int.lt_irrefl _), if_neg (Int.lt_irrefl _), show decide ((p : Int) < Int.ofNat 0) = false from decide_eq_false (by simp only [ofN]; omega)]
      exact ⟨_, rfl, rfl⟩
    · rw [g3]
      simp only [Option.bind_some]
      rw [show decide (Int.negSucc 0 < Int.ofNat 0) = true by decide, cond_true]
      rcases Nat.lt_or_ge p rs.length with h | h
      · simp only [rg_lt h, rg_in h, rg_ltn h, cond_true, Int.toNat_natCast]
        have h5 := g1 p h
        have h6 := e4 p (Nat.le_refl _) h
        rw [if_neg (by omega), if_pos (by omega)]
        exact ⟨_, rfl, rfl⟩
      · have e : p = rs.length := by omega
        subst e
        simp only [rg_end, cond_false]
        exact ⟨_, rfl, rfl⟩

theorem l79 (rs : List Run) (hm : rs.length ≤ 9223372036854775807) (key : ByteArray) :
    ∃ y1 y2, L79_1005056 (rs, key, Int.ofNat 0, ()) = some y1 ∧ L39_1002496 (key, rs, (rs.length : Int), Int.ofNat 0, ()) = some y2 ∧ ((∃ (n : Int) (z : _), y1 = .inl (n, true, ()) ∧ y2 = .inl (n, true, Int.ofNat 0, z)) ∨ (y1 = .inr () ∧ y2 = .inr ())) := by
  obtain ⟨y1, hy1, hq1⟩ := rng_hoare (st := L79_1005056t) rs.length (fun i (_ : Unit) => (rs, key, (i : Int), ())) (fun m _ => ∀ a, a < m → keyL (rs.getD a (dft sRun)) ≠ key.toList)
    (fun y => (∃ a, a < rs.length ∧ keyL (rs.getD a (dft sRun)) = key.toList ∧ (∀ b, b < a → keyL (rs.getD b (dft sRun)) ≠ key.toList) ∧ y = .inl ((rs.getD a (dft sRun)).1, true, ())) ∨ (y = .inr () ∧ ∀ a, a < rs.length → keyL (rs.getD a (dft sRun)) ≠ key.toList)) (fun i _ h hx => by
      simp only [L79_1005056t, L79_1005056s0, rg_lt h, rg_in h, rg_ltn h, cond_true, Int.toNat_natCast]
      rw [rg_wrap (by omega)]
      rcases hb : (ByteArray.toList (rs.getD i (dft sRun)).2.1 == key.toList) with _ | _
      · exact .inl ⟨(), rfl, all_succ hx (by simpa using hb)⟩
      · exact .inr ⟨_, rfl, .inl ⟨i, h, by simpa using hb, hx, rfl⟩⟩) (fun _ hx => ⟨.inr (), by simp only [L79_1005056t, L79_1005056s0, rg_end, cond_false], .inr ⟨rfl, hx⟩⟩) () (fun k h => absurd h (Nat.not_lt_zero _))
  obtain ⟨y2, hy2, hq2⟩ := rng_hoare (st := L39_1002496t) rs.length (fun i (_ : Unit) => (key, rs, (rs.length : Int), (i : Int), ())) (fun m _ => ∀ a, a < m → keyL (rs.getD a (dft sRun)) ≠ key.toList)
    (fun y => (∃ a z, a < rs.length ∧ keyL (rs.getD a (dft sRun)) = key.toList ∧ (∀ b, b < a → keyL (rs.getD b (dft sRun)) ≠ key.toList) ∧ y = .inl ((rs.getD a (dft sRun)).1, true, Int.ofNat 0, z)) ∨ (y = .inr () ∧ ∀ a, a < rs.length → keyL (rs.getD a (dft sRun)) ≠ key.toList)) (fun i _ h hx => by
      simp only [L39_1002496t, L39_1002496s0, rg_lt h, rg_in h, rg_ltn h, cond_true, Int.toNat_natCast]
      rw [rg_wrap (by omega)]
      rcases hb : (ByteArray.toList (rs.getD i (dft sRun)).2.1 == key.toList) with _ | _
      · exact .inl ⟨(), rfl, all_succ hx (by simpa using hb)⟩
      · exact .inr ⟨_, rfl, .inl ⟨i, _, h, by simpa using hb, hx, rfl⟩⟩) (fun _ hx => ⟨.inr (), by simp only [L39_1002496t, L39_1002496s0, rg_end, cond_false], .inr ⟨rfl, hx⟩⟩) () (fun k h => absurd h (Nat.not_lt_zero _))
  refine ⟨y1, y2, hy1, hy2, ?_⟩
  rcases hq1 with ⟨a, a1, a2, a3, rfl⟩ | ⟨rfl, h1⟩ <;> rcases hq2 with ⟨b, z, b1, b2, b3, rfl⟩ | ⟨rfl, h2⟩
  · have e : a = b := by
      rcases Nat.lt_trichotomy a b with h | h | h
      · exact absurd a2 (b3 a h)
      · exact h
      · exact absurd b2 (a3 b h)
    subst e
    exact .inl ⟨_, _, rfl, rfl⟩
  · exact absurd a2 (h2 a a1)
  · exact absurd b2 (h1 b b1)
  · exact .inr ⟨rfl, rfl⟩
theorem knownS (rs : List Run) (hm : rs.length ≤ 9223372036854775807) (hr : ∀ r ∈ rs, OkR r) (key : ByteArray) : ∃ X, F39 (rs, key, ()) = some X ∧ F43 (rs, key, ()) = some X := by
  obtain ⟨v, h1, h2, h3⟩ := both rs hm hr
  rcases h3 with h3 | ⟨rfl, hf⟩
  · simp only [F39, F43, h1, h2, h3, Option.bind_some, cond_true]
    exact ⟨_, rfl, rfl⟩
  · obtain ⟨y1, y2, e1, e2, e3⟩ := l79 rs hm key
    simp only [F39, F43, F79, h1, h2, e1, e2, ne00, Option.bind_some, cond_false]
    rcases e3 with ⟨n, z, rfl, rfl⟩ | ⟨rfl, rfl⟩
    · exact ⟨_, rfl, rfl⟩
    · exact ⟨_, rfl, rfl⟩

def foldI {S : Type} (f : Nat → Task → S → S) : Nat → List Task → S → S
  | _, [], s => s
  | k, t :: l, s => foldI f (k + 1) l (f k t s)
theorem foldI_app {S : Type} (f : Nat → Task → S → S) (t : Task) : ∀ (l : List Task) (k : Nat) (s : S), foldI f k (l ++ [t]) s = f (k + l.length) t (foldI f k l s)
  | [], _, _ => rfl
  | a :: l, k, s => by
    simp only [List.cons_append, foldI, foldI_app f t l (k + 1), List.length_cons]
    rw [show k + 1 + l.length = k + (l.length + 1) by omega]
theorem foldI_succ {S : Type} (f : Nat → Task → S → S) {ts : List Task} {j : Nat} (h : j < ts.length) (s : S) : foldI f 0 (ts.take (j + 1)) s = f j (ts.getD j (dft sTask)) (foldI f 0 (ts.take j) s) := by
  rw [List.take_succ_eq_append_getElem h, foldI_app, getD_get h, List.length_take, Nat.min_eq_left (by omega), Nat.zero_add]
def foldR {S : Type} (f : Run → Nat → Task → S → S) (rs : List Run) (s : S) : S := rs.foldl (fun s r => foldI (f r) 0 r.2.2.2.2.1 s) s
theorem foldR_succ {S : Type} (f : Run → Nat → Task → S → S) {rs : List Run} {j : Nat} (h : j < rs.length) (s : S) : foldR f (rs.take (j + 1)) s = foldI (f (rs.getD j (dft sRun))) 0 (rs.getD j (dft sRun)).2.2.2.2.1 (foldR f (rs.take j) s) := by
  rw [take_get h (dft sRun)]
  simp only [foldR, List.foldl_append, List.foldl_cons, List.foldl_nil]
abbrev NxS := Int × Bool × Int × Int × Int
def nxF (r : Run) (k : Nat) (t : Task) (s : NxS) : NxS :=
  bif t.1 == Int.ofNat 1 then (bif !s.2.1 then (t.2.2.2.2.1, true, r.1, (k : Int), Int.ofNat 0) else bif decide (t.2.2.2.2.1 < s.1) then (t.2.2.2.2.1, true, r.1, (k : Int), Int.ofNat 0) else s) else s
theorem l35t (rs : List Run) (x1 z1 z2 z3 : Int) (i : Nat) (r : Run) (ht : r.2.2.2.2.1.length ≤ 9223372036854775807) (s : NxS) :
    L35_1002241 (s.1, s.2.1, rs, x1, (i : Int), r.2.2.2.2.1, (r.2.2.2.2.1.length : Int), Int.ofNat 0, z1, z2, z3, s.2.2.1, s.2.2.2.1, s.2.2.2.2, r.1, r.2.1, r.2.2.1.1, r.2.2.2.1, r.2.2.2.2.1, ()) = some ((foldI (nxF r) 0 r.2.2.2.2.1 s).1, (foldI (nxF r) 0 r.2.2.2.2.1 s).2.1, rs, x1, (i : Int), z1, z2, z3, (foldI (nxF r) 0 r.2.2.2.2.1 s).2.2.1, (foldI (nxF r) 0 r.2.2.2.2.1 s).2.2.2.1, (foldI (nxF r) 0 r.2.2.2.2.1 s).2.2.2.2, r.1, r.2.1, r.2.2.1.1, r.2.2.2.1, r.2.2.2.2.1, ()) := by
  obtain ⟨y, hy, rfl⟩ := rng_hoare (st := L35_1002241t) r.2.2.2.2.1.length (fun j (s : NxS) => (s.1, s.2.1, rs, x1, (i : Int), r.2.2.2.2.1, (r.2.2.2.2.1.length : Int), (j : Int), z1, z2, z3, s.2.2.1, s.2.2.2.1, s.2.2.2.2, r.1, r.2.1, r.2.2.1.1, r.2.2.2.1, r.2.2.2.2.1, ())) (fun j s' => s' = foldI (nxF r) 0 (r.2.2.2.2.1.take j) s)
    (fun y => y = ((foldI (nxF r) 0 r.2.2.2.2.1 s).1, (foldI (nxF r) 0 r.2.2.2.2.1 s).2.1, rs, x1, (i : Int), z1, z2, z3, (foldI (nxF r) 0 r.2.2.2.2.1 s).2.2.1, (foldI (nxF r) 0 r.2.2.2.2.1 s).2.2.2.1, (foldI (nxF r) 0 r.2.2.2.2.1 s).2.2.2.2, r.1, r.2.1, r.2.2.1.1, r.2.2.2.1, r.2.2.2.2.1, ())) (fun j s' h hx => by
      have hs := foldI_succ (nxF r) h s
      rw [← hx] at hs
      refine .inl ⟨nxF r j (r.2.2.2.2.1.getD j (dft sTask)) s', ?_, hs.symm⟩
      simp only [L35_1002241t, L35_1002241s0, rg_lt h, rg_in h, rg_ltn h, cond_true, Int.toNat_natCast, nxF]
      rw [rg_wrap (by omega)]
      cases (r.2.2.2.2.1.getD j (dft sTask)).1 == Int.ofNat 1
      · rfl
      · obtain ⟨p, q, a, b, c⟩ := s'
        cases q
        · rfl
        · simp only
          cases decide ((r.2.2.2.2.1.getD j (dft sTask)).2.2.2.2.1 < p) <;> rfl) (fun s' hx => ⟨(s'.1, s'.2.1, rs, x1, (i : Int), z1, z2, z3, s'.2.2.1, s'.2.2.2.1, s'.2.2.2.2, r.1, r.2.1, r.2.2.1.1, r.2.2.2.1, r.2.2.2.2.1, ()), by simp only [L35_1002241t, L35_1002241s0, rg_end, cond_false], by rw [hx, List.take_length]⟩) s (by simp [foldI])
  exact hy
def nxZ : NxS := (0, false, 0, 0, 0)
theorem l35 (rs : List Run) (hm : rs.length ≤ 9223372036854775807) (hr : ∀ r ∈ rs, OkR r) :
    ∃ z1 z2 z3 : Int, L35_1002240 (Int.ofNat 0, false, rs, (rs.length : Int), Int.ofNat 0, Int.ofNat 0, Int.ofNat 0, Int.ofNat 0, Int.ofNat 0, Int.ofNat 0, Int.ofNat 0, ()) = some ((foldR nxF rs nxZ).2.1, z1, z2, z3, (foldR nxF rs nxZ).2.2.1, (foldR nxF rs nxZ).2.2.2.1, (foldR nxF rs nxZ).2.2.2.2, ()) := by
  obtain ⟨y, hy, rfl⟩ := rng_hoare (st := L35_1002240t) rs.length (fun j (s : NxS) => (s.1, s.2.1, rs, (rs.length : Int), (j : Int), Int.ofNat 0, Int.ofNat 0, Int.ofNat 0, s.2.2.1, s.2.2.2.1, s.2.2.2.2, ())) (fun j s => s = foldR nxF (rs.take j) nxZ)
    (fun y => y = ((foldR nxF rs nxZ).2.1, Int.ofNat 0, Int.ofNat 0, Int.ofNat 0, (foldR nxF rs nxZ).2.2.1, (foldR nxF rs nxZ).2.2.2.1, (foldR nxF rs nxZ).2.2.2.2, ())) (fun j s h hx => by
      have hok := hr _ (getD_mem h (dft sRun))
      have h1 := l35t rs (rs.length : Int) (Int.ofNat 0) (Int.ofNat 0) (Int.ofNat 0) j _ hok.tl s
      simp only [L35_1002240t, L35_1002240s0, rg_lt h, rg_in h, rg_ltn h, cond_true, Int.toNat_natCast, h1, Option.bind_some]
      rw [rg_wrap (by omega)]
      exact .inl ⟨_, rfl, by rw [foldR_succ nxF h, ← hx]⟩) (fun s hx => ⟨(s.2.1, Int.ofNat 0, Int.ofNat 0, Int.ofNat 0, s.2.2.1, s.2.2.2.1, s.2.2.2.2, ()), by simp only [L35_1002240t, L35_1002240s0, rg_end, cond_false], by rw [hx, List.take_length]⟩) nxZ (by simp [foldR])
  exact ⟨_, _, _, hy⟩
theorem l80t (rs : List Run) (z1 z2 z3 : Int) (i : Nat) (hi : i < rs.length) (r : Run) (hrr : rs.getD i (dft sRun) = r) (ht : r.2.2.2.2.1.length ≤ 9223372036854775807) (s : NxS) :
    L80_1005121 (rs, s.2.1, s.1, (i : Int), Int.ofNat 0, z1, z2, z3, s.2.2.1, s.2.2.2.1, s.2.2.2.2, ()) = some (rs, (foldI (nxF r) 0 r.2.2.2.2.1 s).2.1, (foldI (nxF r) 0 r.2.2.2.2.1 s).1, (i : Int), z1, z2, z3, (foldI (nxF r) 0 r.2.2.2.2.1 s).2.2.1, (foldI (nxF r) 0 r.2.2.2.2.1 s).2.2.2.1, (foldI (nxF r) 0 r.2.2.2.2.1 s).2.2.2.2, ()) := by
  obtain ⟨y, hy, rfl⟩ := rng_hoare (st := L80_1005121t) r.2.2.2.2.1.length (fun j (s : NxS) => (rs, s.2.1, s.1, (i : Int), (j : Int), z1, z2, z3, s.2.2.1, s.2.2.2.1, s.2.2.2.2, ())) (fun j s' => s' = foldI (nxF r) 0 (r.2.2.2.2.1.take j) s)
    (fun y => y = (rs, (foldI (nxF r) 0 r.2.2.2.2.1 s).2.1, (foldI (nxF r) 0 r.2.2.2.2.1 s).1, (i : Int), z1, z2, z3, (foldI (nxF r) 0 r.2.2.2.2.1 s).2.2.1, (foldI (nxF r) 0 r.2.2.2.2.1 s).2.2.2.1, (foldI (nxF r) 0 r.2.2.2.2.1 s).2.2.2.2, ())) (fun j s' h hx => by
      have hs := foldI_succ (nxF r) h s
      rw [← hx] at hs
      refine .inl ⟨nxF r j (r.2.2.2.2.1.getD j (dft sTask)) s', ?_, hs.symm⟩
      simp only [L80_1005121t, L80_1005121s0, rg_in hi, rg_ltn hi, Int.toNat_natCast, hrr, rg_lt h, rg_in h, rg_ltn h, cond_true, nxF]
      rw [rg_wrap (by omega)]
      cases (r.2.2.2.2.1.getD j (dft sTask)).1 == Int.ofNat 1
      · rfl
      · obtain ⟨p, q, a, b, c⟩ := s'
        cases q
        · rfl
        · simp only
          cases decide ((r.2.2.2.2.1.getD j (dft sTask)).2.2.2.2.1 < p) <;> rfl) (fun s' hx => ⟨(rs, s'.2.1, s'.1, (i : Int), z1, z2, z3, s'.2.2.1, s'.2.2.2.1, s'.2.2.2.2, ()), by simp only [L80_1005121t, L80_1005121s0, rg_in hi, rg_ltn hi, Int.toNat_natCast, hrr, cond_true, rg_end, cond_false], by rw [hx, List.take_length]⟩) s (by simp [foldI])
  exact hy
theorem l80 (rs : List Run) (hm : rs.length ≤ 9223372036854775807) (hr : ∀ r ∈ rs, OkR r) :
    ∃ z1 z2 z3 : Int, L80_1005120 (rs, false, Int.ofNat 0, Int.ofNat 0, Int.ofNat 0, Int.ofNat 0, Int.ofNat 0, Int.ofNat 0, Int.ofNat 0, Int.ofNat 0, ()) = some ((foldR nxF rs nxZ).2.1, z1, z2, z3, (foldR nxF rs nxZ).2.2.1, (foldR nxF rs nxZ).2.2.2.1, (foldR nxF rs nxZ).2.2.2.2, ()) := by
  obtain ⟨y, hy, rfl⟩ := rng_hoare (st := L80_1005120t) rs.length (fun j (s : NxS) => (rs, s.2.1, s.1, (j : Int), Int.ofNat 0, Int.ofNat 0, Int.ofNat 0, s.2.2.1, s.2.2.2.1, s.2.2.2.2, ())) (fun j s => s = foldR nxF (rs.take j) nxZ)
    (fun y => y = ((foldR nxF rs nxZ).2.1, Int.ofNat 0, Int.ofNat 0, Int.ofNat 0, (foldR nxF rs nxZ).2.2.1, (foldR nxF rs nxZ).2.2.2.1, (foldR nxF rs nxZ).2.2.2.2, ())) (fun j s h hx => by
      have hok := hr _ (getD_mem h (dft sRun))
      have h1 := l80t rs (Int.ofNat 0) (Int.ofNat 0) (Int.ofNat 0) j h _ rfl hok.tl s
      simp only [L80_1005120t, L80_1005120s0, rg_lt h, cond_true, h1, Option.bind_some]
      rw [rg_wrap (by omega)]
      exact .inl ⟨_, rfl, by rw [foldR_succ nxF h, ← hx]⟩) (fun s hx => ⟨(s.2.1, Int.ofNat 0, Int.ofNat 0, Int.ofNat 0, s.2.2.1, s.2.2.2.1, s.2.2.2.2, ()), by simp only [L80_1005120t, L80_1005120s0, rg_end, cond_false], by rw [hx, List.take_length]⟩) nxZ (by simp [foldR])
  exact ⟨_, _, _, hy⟩
theorem nextS (rs : List Run) (hm : rs.length ≤ 9223372036854775807) (hr : ∀ r ∈ rs, OkR r) : ∃ X, F35 (rs, ()) = some X ∧ F44 (rs, ()) = some X := by
  obtain ⟨v, h1, h2, h3⟩ := both rs hm hr
  rcases h3 with h3 | ⟨rfl, hf⟩
  · simp only [F35, F44, h1, h2, h3, Option.bind_some, cond_true]
    exact ⟨_, rfl, rfl⟩
  · obtain ⟨a1, a2, a3, e1⟩ := l35 rs hm hr
    obtain ⟨b1, b2, b3, e2⟩ := l80 rs hm hr
    simp only [F35, F44, F80, h1, h2, e1, e2, ne00, Option.bind_some, cond_false]
    exact ⟨_, rfl, rfl⟩

def hdF (_ : Run) (_ : Nat) (t : Task) (n : Int) : Int := bif t.1 == Int.ofNat 2 then IntKind.i64.wrap (n + Int.ofNat 1) else n
theorem l38t (rs : List Run) (x1 : Int) (i : Nat) (r : Run) (ht : r.2.2.2.2.1.length ≤ 9223372036854775807) (n : Int) :
    L38_1002433 (n, rs, x1, (i : Int), r.2.2.2.2.1, (r.2.2.2.2.1.length : Int), Int.ofNat 0, ()) = some (foldI (hdF r) 0 r.2.2.2.2.1 n, rs, x1, (i : Int), ()) := by
  obtain ⟨y, hy, rfl⟩ := rng_hoare (st := L38_1002433t) r.2.2.2.2.1.length (fun j (n : Int) => (n, rs, x1, (i : Int), r.2.2.2.2.1, (r.2.2.2.2.1.length : Int), (j : Int), ())) (fun j n' => n' = foldI (hdF r) 0 (r.2.2.2.2.1.take j) n)
    (fun y => y = (foldI (hdF r) 0 r.2.2.2.2.1 n, rs, x1, (i : Int), ())) (fun j n' h hx => by
      have hs := foldI_succ (hdF r) h n
      rw [← hx] at hs
      refine .inl ⟨hdF r j (r.2.2.2.2.1.getD j (dft sTask)) n', ?_, hs.symm⟩
      simp only [L38_1002433t, L38_1002433s0, rg_lt h, rg_in h, rg_ltn h, cond_true, Int.toNat_natCast, hdF]
      rw [rg_wrap (i := j) (by omega)]
      cases (r.2.2.2.2.1.getD j (dft sTask)).1 == Int.ofNat 2 <;> rfl) (fun n' hx => ⟨(n', rs, x1, (i : Int), ()), by simp only [L38_1002433t, L38_1002433s0, rg_end, cond_false], by rw [hx, List.take_length]⟩) n (by simp [foldI])
  exact hy
theorem l47t (rs : List Run) (i : Nat) (hi : i < rs.length) (r : Run) (hrr : rs.getD i (dft sRun) = r) (ht : r.2.2.2.2.1.length ≤ 9223372036854775807) (n : Int) :
    L47_1003009 (rs, n, (i : Int), Int.ofNat 0, ()) = some (rs, foldI (hdF r) 0 r.2.2.2.2.1 n, (i : Int), ()) := by
  obtain ⟨y, hy, rfl⟩ := rng_hoare (st := L47_1003009t) r.2.2.2.2.1.length (fun j (n : Int) => (rs, n, (i : Int), (j : Int), ())) (fun j n' => n' = foldI (hdF r) 0 (r.2.2.2.2.1.take j) n)
    (fun y => y = (rs, foldI (hdF r) 0 r.2.2.2.2.1 n, (i : Int), ())) (fun j n' h hx => by
      have hs := foldI_succ (hdF r) h n
      rw [← hx] at hs
      refine .inl ⟨hdF r j (r.2.2.2.2.1.getD j (dft sTask)) n', ?_, hs.symm⟩
      simp only [L47_1003009t, L47_1003009s0, rg_in hi, rg_ltn hi, Int.toNat_natCast, hrr, rg_lt h, rg_in h, rg_ltn h, cond_true, hdF]
      rw [rg_wrap (i := j) (by omega)]
      cases (r.2.2.2.2.1.getD j (dft sTask)).1 == Int.ofNat 2 <;> rfl) (fun n' hx => ⟨(rs, n', (i : Int), ()), by simp only [L47_1003009t, L47_1003009s0, rg_in hi, rg_ltn hi, Int.toNat_natCast, hrr, cond_true, rg_end, cond_false], by rw [hx, List.take_length]⟩) n (by simp [foldI])
  exact hy
theorem l38 (rs : List Run) (hm : rs.length ≤ 9223372036854775807) (hr : ∀ r ∈ rs, OkR r) : L38_1002432 (Int.ofNat 0, rs, (rs.length : Int), Int.ofNat 0, ()) = some (foldR hdF rs 0, ()) := by
  obtain ⟨y, hy, rfl⟩ := rng_hoare (st := L38_1002432t) rs.length (fun j (n : Int) => (n, rs, (rs.length : Int), (j : Int), ())) (fun j n => n = foldR hdF (rs.take j) 0)
    (fun y => y = (foldR hdF rs 0, ())) (fun j n h hx => by
      have h1 := l38t rs (rs.length : Int) j _ (hr _ (getD_mem h (dft sRun))).tl n
      simp only [L38_1002432t, L38_1002432s0, rg_lt h, rg_in h, rg_ltn h, cond_true, Int.toNat_natCast, h1, Option.bind_some]
      rw [rg_wrap (by omega)]
      exact .inl ⟨_, rfl, by rw [foldR_succ hdF h, ← hx]⟩) (fun n hx => ⟨(n, ()), by simp only [L38_1002432t, L38_1002432s0, rg_end, cond_false], by rw [hx, List.take_length]⟩) 0 (by simp [foldR])
  exact hy
theorem l47 (rs : List Run) (hm : rs.length ≤ 9223372036854775807) (hr : ∀ r ∈ rs, OkR r) : L47_1003008 (rs, Int.ofNat 0, Int.ofNat 0, ()) = some (foldR hdF rs 0, ()) := by
  obtain ⟨y, hy, rfl⟩ := rng_hoare (st := L47_1003008t) rs.length (fun j (n : Int) => (rs, n, (j : Int), ())) (fun j n => n = foldR hdF (rs.take j) 0)
    (fun y => y = (foldR hdF rs 0, ())) (fun j n h hx => by
      have h1 := l47t rs j h _ rfl (hr _ (getD_mem h (dft sRun))).tl n
      simp only [L47_1003008t, L47_1003008s0, rg_lt h, cond_true, h1, Option.bind_some]
      rw [rg_wrap (by omega)]
      exact .inl ⟨_, rfl, by rw [foldR_succ hdF h, ← hx]⟩) (fun n hx => ⟨(n, ()), by simp only [L47_1003008t, L47_1003008s0, rg_end, cond_false], by rw [hx, List.take_length]⟩) 0 (by simp [foldR])
  exact hy
theorem heldS (rs : List Run) (hm : rs.length ≤ 9223372036854775807) (hr : ∀ r ∈ rs, OkR r) : ∃ X, F38 (rs, ()) = some X ∧ F47 (rs, ()) = some X := by
  obtain ⟨v, h1, h2, h3⟩ := both rs hm hr
  rcases h3 with h3 | ⟨rfl, hf⟩
  · simp only [F38, F47, h1, h2, h3, Option.bind_some, cond_true]
    exact ⟨_, rfl, rfl⟩
  · simp only [F38, F47, h1, h2, l38 rs hm hr, l47 rs hm hr, ne00, Option.bind_some, cond_false]
    exact ⟨_, rfl, rfl⟩
end Go.Proofs.Ytefehcmhdiifnaa.leaseTells.Code
set_option maxRecDepth 100000
set_option linter.unusedVariables false
set_option linter.unusedSimpArgs false
set_option linter.constructorNameAsVariable false
namespace Go.Proofs.Ytefehcmhdiifnaa.leaseTells.Code
open Go Go.Am
abbrev Place := Int × Int × Int × Unit
def due (t : Task) (now : Int) : Bool := (t.1 == Int.ofNat 2 || t.1 == Int.ofNat 3) && decide (t.2.2.1 ≤ now)
theorem f33 (t : Task) (now : Int) : F33 (t, now, ()) = some (due t now, ()) := by
  simp only [F33, due]
  cases t.1 == Int.ofNat 2 <;> cases t.1 == Int.ofNat 3 <;> rfl
def plT (id now : Int) : Nat → List Task → List Place
  | _, [] => []
  | k, t :: ts => (bif due t now then [(id, (k : Int), t.2.2.1, ())] else []) ++ plT id now (k + 1) ts
theorem plT_app (id now : Int) (t : Task) : ∀ (l : List Task) (k : Nat), plT id now k (l ++ [t]) = plT id now k l ++ (bif due t now then [(id, ((k + l.length : Nat) : Int), t.2.2.1, ())] else [])
  | [], k => by simp [plT]
  | a :: l, k => by
    simp only [List.cons_append, plT, plT_app id now t l (k + 1), List.append_assoc, List.length_cons]
    rw [show k + 1 + l.length = k + (l.length + 1) by omega]
theorem plT_succ {id now : Int} {ts : List Task} {j : Nat} (h : j < ts.length) (d : Task) : plT id now 0 (ts.take (j + 1)) = plT id now 0 (ts.take j) ++ (bif due (ts.getD j d) now then [(id, (j : Int), (ts.getD j d).2.2.1, ())] else []) := by
  rw [List.take_succ_eq_append_getElem h, plT_app, getD_get h, List.length_take, Nat.min_eq_left (by omega), Nat.zero_add]
theorem plT_len (id now : Int) : ∀ (ts : List Task) (k : Nat), (plT id now k ts).length ≤ ts.length
  | [], _ => Nat.le_refl _
  | t :: ts, k => by
    have := plT_len id now ts (k + 1)
    simp only [plT, List.length_append, List.length_cons]
    cases due t now <;> simp <;> omega
theorem plT_mem {id now : Int} {p : Place} : ∀ {ts : List Task} {k : Nat}, p ∈ plT id now k ts → ∃ j, j < ts.length ∧ due (ts.getD j (dft sTask)) now = true ∧ p = (id, ((k + j : Nat) : Int), (ts.getD j (dft sTask)).2.2.1, ())
  | [], _, h => by cases h
  | t :: ts, k, h => by
    simp only [plT, List.mem_append] at h
    rcases h with h | h
    · rcases hd : due t now with _ | _
      · rw [hd] at h; cases h
      · rw [hd] at h
        simp only [cond_true, List.mem_singleton] at h
        exact ⟨0, by simp, hd, h⟩
    · obtain ⟨j, h1, h2, h3⟩ := plT_mem h
      exact ⟨j + 1, by simpa using h1, h2, by rw [h3, show k + 1 + j = k + (j + 1) by omega]; rfl⟩
theorem plT_flt (id : Int) {now M : Int} (h : now ≤ M) : ∀ (ts : List Task) (k : Nat), plT id now k ts = (plT id M k ts).filter (fun p => decide (p.2.2.1 ≤ now))
  | [], _ => rfl
  | t :: ts, k => by
    simp only [plT, List.filter_append, plT_flt id h ts (k + 1)]
    congr 1
    simp only [due]
    by_cases h1 : t.2.2.1 ≤ now
    · have h2 : t.2.2.1 ≤ M := by omega
      rw [decide_eq_true h1, decide_eq_true h2]
      cases (t.1 == Int.ofNat 2 || t.1 == Int.ofNat 3) <;> simp [h1]
    · rw [decide_eq_false h1, Bool.and_false, cond_false]
      cases (t.1 == Int.ofNat 2 || t.1 == Int.ofNat 3) && decide (t.2.2.1 ≤ M) <;> simp; omega
theorem plT_pw (id now : Int) : ∀ (ts : List Task) (k : Nat), (plT id now k ts).Pairwise (fun x y => x.2.1 < y.2.1)
  | [], _ => .nil
  | t :: ts, k => by
    simp only [plT]
    rw [List.pairwise_append]
    refine ⟨by cases due t now <;> simp, plT_pw id now ts (k + 1), fun a ha b hb => ?_⟩
    obtain ⟨j, _, _, e⟩ := plT_mem hb
    cases hd : due t now with
    | false => rw [hd] at ha; cases ha
    | true =>
      rw [hd] at ha
      simp only [cond_true, List.mem_singleton] at ha
      subst ha e
      show (k : Int) < ((k + 1 + j : Nat) : Int)
      omega
def pl (rs : List Run) (now : Int) : List Place := rs.flatMap (fun r => plT r.1 now 0 r.2.2.2.2.1)
theorem pl_succ {rs : List Run} {j : Nat} (h : j < rs.length) (now : Int) (d : Run) : pl (rs.take (j + 1)) now = pl (rs.take j) now ++ plT (rs.getD j d).1 now 0 (rs.getD j d).2.2.2.2.1 := by
  rw [List.take_succ_eq_append_getElem h, getD_get h]
  simp only [pl, List.flatMap_append, List.flatMap_cons, List.flatMap_nil, List.append_nil]
theorem pl_len {now : Int} : ∀ {rs : List Run}, (∀ r ∈ rs, r.2.2.2.2.1.length ≤ 12) → (pl rs now).length ≤ 12 * rs.length
  | [], _ => Nat.le_refl _
  | r :: rs, h => by
    have h1 := pl_len (now := now) (rs := rs) fun r hr => h r (List.mem_cons_of_mem _ hr)
    have h2 := plT_len r.1 now r.2.2.2.2.1 0
    have h3 := h r (List.mem_cons_self ..)
    simp only [pl, List.flatMap_cons, List.length_append, List.length_cons] at h1 ⊢
    omega
theorem pl_take_len {now : Int} {rs : List Run} (h : ∀ r ∈ rs, r.2.2.2.2.1.length ≤ 12) (hm : rs.length ≤ 32) (i : Nat) : (pl (rs.take i) now).length ≤ 384 := by
  have := pl_len (now := now) (rs := rs.take i) fun r hr => h r (List.mem_of_mem_take hr)
  have h2 : (rs.take i).length ≤ rs.length := by rw [List.length_take]; omega
  omega
theorem pl_mem {rs : List Run} {now : Int} {p : Place} (h : p ∈ pl rs now) : ∃ a j : Nat, a < rs.length ∧ j < (rs.getD a (dft sRun)).2.2.2.2.1.length ∧ due ((rs.getD a (dft sRun)).2.2.2.2.1.getD j (dft sTask)) now = true ∧ p = ((rs.getD a (dft sRun)).1, (j : Int), ((rs.getD a (dft sRun)).2.2.2.2.1.getD j (dft sTask)).2.2.1, ()) := by
  simp only [pl, List.mem_flatMap] at h
  obtain ⟨r, hr, hp⟩ := h
  obtain ⟨a, ha, rfl⟩ := List.mem_iff_getElem.1 hr
  obtain ⟨j, h1, h2, h3⟩ := plT_mem hp
  rw [Nat.zero_add] at h3
  refine ⟨a, j, ha, ?_⟩
  rw [getD_get ha]
  exact ⟨h1, h2, h3⟩
theorem pl_flt (rs : List Run) {now M : Int} (h : now ≤ M) : pl rs now = (pl rs M).filter (fun p => decide (p.2.2.1 ≤ now)) := by
  induction rs with
  | nil => rfl
  | cons r rs ih =>
    simp only [pl, List.flatMap_cons, List.filter_append] at ih ⊢
    rw [ih, plT_flt r.1 h]
theorem pl_ne {rs : List Run} (up : ∀ i j : Nat, i < j → j < rs.length → (rs.getD i (dft sRun)).1 < (rs.getD j (dft sRun)).1) (now : Int) : (pl rs now).Pairwise (fun x y => x ≠ y) := by
  unfold pl
  rw [List.pairwise_flatMap]
  refine ⟨fun r _ => (plT_pw r.1 now r.2.2.2.2.1 0).imp fun {x y} h e => by rw [e] at h; omega, ?_⟩
  rw [List.pairwise_iff_getElem]
  intro i j hi hj hij x hx y hy e
  have h := up i j hij hj
  rw [getD_get hi, getD_get hj] at h
  obtain ⟨_, _, _, e1⟩ := plT_mem hx
  obtain ⟨_, _, _, e2⟩ := plT_mem hy
  have e3 : x.1 = rs[i].1 := by rw [e1]
  have e4 : y.1 = rs[j].1 := by rw [e2]
  rw [e] at e3
  omega
def mkI (now : Int) (rs : List Run) (n i : Int) (r : Run) (ts : List Task) (tn j : Int) : List Place → (Int × List Run × Int × Int × List Task × Int × Int × Int × ByteArray × List Node × Int × List Task × Unit) ⊕ (Int × Nat × List Run × Int × Int × List Task × Int × Int × List Place × Int × ByteArray × List Node × Int × List Task × Unit)
  | [] => .inl (now, rs, n, i, ts, tn, j, r.1, r.2.1, r.2.2.1.1, r.2.2.2.1, r.2.2.2.2.1, ())
  | a :: l => .inr (now, (a :: l).length, rs, n, i, ts, tn, j, a :: l, r.1, r.2.1, r.2.2.1.1, r.2.2.2.1, r.2.2.2.2.1, ())
def outI (now : Int) (rs : List Run) (n i : Int) (r : Run) : List Place → (Int × List Run × Int × Int × Int × ByteArray × List Node × Int × List Task × Unit) ⊕ (Int × Nat × List Run × Int × Int × List Place × Int × ByteArray × List Node × Int × List Task × Unit)
  | [] => .inl (now, rs, n, i, r.1, r.2.1, r.2.2.1.1, r.2.2.2.1, r.2.2.2.2.1, ())
  | a :: l => .inr (now, (a :: l).length, rs, n, i, a :: l, r.1, r.2.1, r.2.2.1.1, r.2.2.2.1, r.2.2.2.2.1, ())
theorem room {n : Nat} (h : n ≤ 384) : (decide (n * 24 ≤ maxRoom) && decide (n ≤ maxRoom)) = true := by
  have : maxRoom = 70368744177664 := by decide
  rw [this]
  simp; omega
theorem l66t (now : Int) (rs : List Run) (n i : Int) (r : Run) (ht : r.2.2.2.2.1.length ≤ 12) (pre : List Place) (hp : pre.length + 12 ≤ 384) :
    L66_1004225 (mkI now rs n i r r.2.2.2.2.1 (r.2.2.2.2.1.length : Int) (Int.ofNat 0) pre) = some (outI now rs n i r (pre ++ plT r.1 now 0 r.2.2.2.2.1)) := by
  obtain ⟨y, hy, rfl⟩ := rng_hoare (st := L66_1004225t) r.2.2.2.2.1.length (fun j (A : List Place) => mkI now rs n i r r.2.2.2.2.1 (r.2.2.2.2.1.length : Int) (j : Int) A) (fun j A => A = pre ++ plT r.1 now 0 (r.2.2.2.2.1.take j))
    (fun y => y = outI now rs n i r (pre ++ plT r.1 now 0 r.2.2.2.2.1)) (fun j A h hx => by
      have hs := plT_succ (id := r.1) (now := now) h (dft sTask)
      have hlen : A.length + 1 ≤ 384 := by
        rw [hx, List.length_append]
        have := plT_len r.1 now (r.2.2.2.2.1.take j) 0
        rw [List.length_take] at this
        omega
      obtain ⟨t, hte⟩ : ∃ t : Task, r.2.2.2.2.1.getD j (dft sTask) = t := ⟨_, rfl⟩
      rw [hte] at hs
      refine .inl ?_
      cases A with
      | nil =>
        simp only [mkI, L66_1004225t, L66_1004225s0, rg_lt h, rg_in h, rg_ltn h, cond_true, Int.toNat_natCast, hte, eT, f33, Option.bind_some, one1, all1]
        rw [rg_wrap (by omega)]
        rcases hd : due t now with _ | _
        · rw [hd] at hs
          exact ⟨[], rfl, by rw [hs, ← List.append_assoc, ← hx]; rfl⟩
        · rw [hd] at hs
          exact ⟨[(r.1, (j : Int), t.2.2.1, ())], rfl, by rw [hs, ← List.append_assoc, ← hx]; rfl⟩
      | cons a l =>
        simp only [mkI, L66_1004225t, L66_1004225s1, rg_lt h, rg_in h, rg_ltn h, cond_true, Int.toNat_natCast, hte, eT, f33, Option.bind_some, one1, all1]
        rw [rg_wrap (by omega)]
        rcases hd : due t now with _ | _
        · rw [hd] at hs
          exact ⟨a :: l, rfl, by rw [hs, ← List.append_assoc, ← hx]; simp⟩
        · rw [hd] at hs
          refine ⟨(a :: l) ++ [(r.1, (j : Int), t.2.2.1, ())], ?_, by rw [hs, ← List.append_assoc, ← hx]; rfl⟩
          have e1 : decide (0 + (a :: l).length ≤ (a :: l).length) = true := decide_eq_true (by omega)
          have e2 : decide (0 + (a :: l).length = (a :: l).length) = true := decide_eq_true (by omega)
          have e3 := room (n := (a :: l).length + [(r.1, (j : Int), t.2.2.1, ())].length) hlen
          rw [cond_true, e1, cond_true, e3, cond_true, e2, cond_true]
          rfl) (fun A hx => ⟨outI now rs n i r A, by cases A <;> simp only [mkI, outI, L66_1004225t, L66_1004225s0, L66_1004225s1, rg_end, cond_false], by rw [hx, List.take_length]⟩) pre (by simp [plT])
  exact hy
def mkO (now : Int) (rs : List Run) (n i : Int) : List Place → (Int × List Run × Int × Int × Unit) ⊕ (Int × Nat × List Run × Int × Int × List Place × Unit)
  | [] => .inl (now, rs, n, i, ())
  | a :: l => .inr (now, (a :: l).length, rs, n, i, a :: l, ())
def outO : List Place → Unit ⊕ (Nat × List Place × Unit)
  | [] => .inl ()
  | a :: l => .inr ((a :: l).length, a :: l, ())
theorem l66 (now : Int) (rs : List Run) (hm : rs.length ≤ 32) (ht : ∀ r ∈ rs, r.2.2.2.2.1.length ≤ 12) :
    L66_1004224 (.inl (now, rs, (rs.length : Int), Int.ofNat 0, ())) = some (outO (pl rs now)) := by
  obtain ⟨y, hy, rfl⟩ := rng_hoare (st := L66_1004224t) rs.length (fun j (A : List Place) => mkO now rs (rs.length : Int) (j : Int) A) (fun j A => A = pl (rs.take j) now)
    (fun y => y = outO (pl rs now)) (fun j A h hx => by
      have hs := pl_succ h now (dft sRun)
      have htj := ht _ (getD_mem h (dft sRun))
      have hlen : A.length + 12 ≤ 384 := by
        rw [hx]
        have := pl_len (now := now) (rs := rs.take j) fun r hr => ht r (List.mem_of_mem_take hr)
        rw [List.length_take] at this
        omega
      refine .inl ⟨A ++ plT (rs.getD j (dft sRun)).1 now 0 (rs.getD j (dft sRun)).2.2.2.2.1, ?_, by rw [hs, ← hx]⟩
      generalize hrr : rs.getD j (dft sRun) = r at htj
      have h1 := l66t now rs (rs.length : Int) (j : Int) r htj A hlen
      cases A with
      | nil =>
        simp only [mkI] at h1
        simp only [mkO, L66_1004224t, L66_1004224s0, rg_lt h, rg_in h, rg_ltn h, cond_true, Int.toNat_natCast, hrr, h1, Option.bind_some]
        rw [List.nil_append]
        cases plT r.1 now 0 r.2.2.2.2.1 with
        | nil => simp only [outI, mkO]; rw [rg_wrap (by omega)]
        | cons a l => simp only [outI, mkO]; rw [rg_wrap (by omega)]
      | cons a l =>
        simp only [mkI] at h1
        simp only [mkO, L66_1004224t, L66_1004224s1, rg_lt h, rg_in h, rg_ltn h, cond_true, Int.toNat_natCast, hrr, h1, Option.bind_some]
        simp only [List.cons_append, outI, mkO]
        rw [rg_wrap (by omega)]) (fun A hx => ⟨outO A, by cases A <;> simp only [mkO, outO, L66_1004224t, L66_1004224s0, L66_1004224s1, rg_end, cond_false], by rw [hx, List.take_length]⟩) [] (by simp [pl])
  exact hy
def Srt (S : List Place) : Prop := S.Pairwise (fun x y => ¬ (y.2.2.1 < x.2.2.1 ∨ y.2.2.1 = x.2.2.1 ∧ (y.1 < x.1 ∨ y.1 = x.1 ∧ y.2.1 < x.2.1)))
theorem f66 (rs : List Run) (now : Int) (hm : rs.length ≤ 32) (ht : ∀ r ∈ rs, r.2.2.2.2.1.length ≤ 12) :
    ∃ S, F66 (rs, now, ()) = some (S, ()) ∧ S.Perm (pl rs now) ∧ Srt S := by
  simp only [F66, l66 now rs hm ht, Option.bind_some]
  have hlen := pl_len (now := now) ht
  cases hB : pl rs now with
  | nil => exact ⟨[], rfl, .refl _, .nil⟩
  | cons a l =>
    obtain ⟨S, h1, h2, h3⟩ := sort_list (s := sPlace) swo97 (a :: l) (by rw [← hB]; omega)
    refine ⟨S, ?_, h2, h3.imp fun {x y} h => ?_⟩
    · simp only [outO, decide_true, cond_true]
      rw [show G96 (a :: l) = some S from h1, Option.bind_some, ← h2.length_eq, all1, decide_eq_true (by omega : 0 + S.length ≤ S.length)]
      rfl
    · intro hlt
      unfold ltOf at h
      rw [cf97] at h
      exact absurd ((cmpP_neg y x).2 hlt) (of_decide_eq_false h)

def LT (x y : Place) : Prop := x.2.2.1 < y.2.2.1 ∨ x.2.2.1 = y.2.2.1 ∧ (x.1 < y.1 ∨ x.1 = y.1 ∧ x.2.1 < y.2.1)
instance (x y : Place) : Decidable (LT x y) := inferInstanceAs (Decidable (_ ∨ _))
theorem LT.trans {x y z : Place} (h1 : LT x y) (h2 : LT y z) : LT x z := by unfold LT at *; omega
theorem LT.asymm {x y : Place} (h1 : LT x y) (h2 : LT y x) : False := by unfold LT at *; omega
theorem LT.tri {x y : Place} (h1 : ¬ LT x y) (h2 : x ≠ y) : LT y x := by
  obtain ⟨x1, x2, x3, _⟩ := x
  obtain ⟨y1, y2, y3, _⟩ := y
  have : ¬ (x1 = y1 ∧ x2 = y2 ∧ x3 = y3) := fun ⟨a, b, c⟩ => h2 (by rw [a, b, c])
  unfold LT at *
  simp only at *
  omega
theorem eq_of_LT : ∀ {l1 l2 : List Place}, l1.Pairwise LT → l2.Pairwise LT → l1.Perm l2 → l1 = l2
  | [], l2, _, _, hp => hp.symm.eq_nil.symm
  | a :: l1, [], _, _, hp => absurd hp.eq_nil (by simp)
  | a :: l1, b :: l2, h1, h2, hp => by
    have hab : a = b := by
      rcases List.mem_cons.1 (hp.subset (List.mem_cons_self ..)) with h | h
      · exact h
      · rcases List.mem_cons.1 (hp.symm.subset (List.mem_cons_self ..)) with h' | h'
        · exact h'.symm
        · exact (LT.asymm (List.rel_of_pairwise_cons h2 h) (List.rel_of_pairwise_cons h1 h')).elim
    subst hab
    rw [eq_of_LT (List.Pairwise.of_cons h1) (List.Pairwise.of_cons h2) (List.Perm.cons_inv hp)]
theorem f133 (x y : Place) : F133 (x, y, ()) = some (decide (LT x y), ()) := by
  simp only [F133, bif_some]
  congr 2
  rw [Bool.eq_iff_iff, bif_true, bif_true]
  simp only [bne, Bool.not_eq_true', Bool.not_eq_false', beq_iff_eq, beq_eq_false_iff_ne, decide_eq_true_eq, ne_eq]
  unfold LT
  omega
theorem f108 (t : Task) (now : Int) : F108 (t, now, ()) = some (due t now, ()) := by
  simp only [F108, due, ge_iff_le]
  cases t.1 == Int.ofNat 2 <;> cases t.1 == Int.ofNat 3 <;> rfl
theorem eP (p : Place) : (p.1, p.2.1, p.2.2.1, ()) = p := rfl
def inP (l : List Place) (put : Bool) (j : Int) (p : Place) : List Place → (List Place × Bool × Int × Int × Int × Int × Unit) ⊕ (List Place × Nat × Bool × Int × Int × Int × Int × List Place × Unit)
  | [] => .inl (l, put, j, p.1, p.2.1, p.2.2.1, ())
  | a :: A => .inr (l, (a :: A).length, put, j, p.1, p.2.1, p.2.2.1, a :: A, ())
def outP (put : Bool) (p : Place) : List Place → (Bool × Int × Int × Int × Unit) ⊕ (Nat × Bool × Int × Int × Int × List Place × Unit)
  | [] => .inl (put, p.1, p.2.1, p.2.2.1, ())
  | a :: A => .inr ((a :: A).length, put, p.1, p.2.1, p.2.2.1, a :: A, ())
def PutI (l : List Place) (p : Place) (j : Nat) (s : Bool × List Place) : Prop :=
  (s.1 = false ∧ s.2 = l.take j ∧ ∀ x ∈ l.take j, ¬ LT p x) ∨ (s.1 = true ∧ s.2.Perm (p :: l.take j) ∧ (∃ x ∈ l.take j, LT p x) ∧ (l.Pairwise LT → p ∉ l → s.2.Pairwise LT))
theorem room24 {n : Nat} (h : n ≤ 1000) : (decide (n * 24 ≤ maxRoom) && decide (n ≤ maxRoom)) = true := roomK h (by omega)
theorem pre_lt {l : List Place} (h : l.Pairwise LT) {j : Nat} (hj : j < l.length) : ∀ x ∈ l.take j, LT x (l.getD j (dft sPlace)) := fun x hx => by
  obtain ⟨i, hi, rfl⟩ := List.mem_iff_getElem.1 hx
  rw [List.length_take] at hi
  rw [List.getElem_take, getD_get hj]
  exact List.pairwise_iff_getElem.1 h i j (by omega) hj (by omega)
theorem putI_len {l : List Place} {p : Place} {j : Nat} {s : Bool × List Place} (h : PutI l p j s) (hl : l.length ≤ 384) : s.2.length ≤ 385 := by
  rcases h with ⟨_, h, _⟩ | ⟨_, h, _⟩
  · rw [h, List.length_take]; omega
  · rw [h.length_eq, List.length_cons, List.length_take]; omega
theorem putI_next {l : List Place} {p : Place} {j : Nat} {s : Bool × List Place} (h : PutI l p j s) (hj : j < l.length) (hx : s.1 = true ∨ ¬ LT p (l.getD j (dft sPlace))) : PutI l p (j + 1) (s.1, s.2 ++ [l.getD j (dft sPlace)]) := by
  have ht := take_get hj (dft sPlace)
  rcases h with ⟨h1, h2, h3⟩ | ⟨h1, h2, ⟨x0, h3, h3'⟩, h4⟩
  · refine .inl ⟨h1, by rw [ht, h2], fun x hxx => ?_⟩
    rw [ht] at hxx
    rcases List.mem_append.1 hxx with hxx | hxx
    · exact h3 x hxx
    · rw [List.mem_singleton.1 hxx]
      rcases hx with hx | hx
      · rw [h1] at hx; cases hx
      · exact hx
  · refine .inr ⟨h1, by rw [ht, ← List.cons_append]; exact h2.append_right _, ⟨x0, by rw [ht]; exact List.mem_append_left _ h3, h3'⟩, fun hl hp => ?_⟩
    simp only
    rw [List.pairwise_append]
    refine ⟨h4 hl hp, by simp, fun a ha b hb => ?_⟩
    rw [List.mem_singleton.1 hb]
    rcases List.mem_cons.1 (h2.subset ha) with rfl | ha
    · exact LT.trans h3' (pre_lt hl hj x0 h3)
    · exact pre_lt hl hj a ha
theorem putI_put {l : List Place} {p : Place} {j : Nat} {s : Bool × List Place} (h : PutI l p j s) (hj : j < l.length) (h1 : s.1 = false) (hx : LT p (l.getD j (dft sPlace))) : PutI l p (j + 1) (true, (s.2 ++ [p]) ++ [l.getD j (dft sPlace)]) := by
  have ht := take_get hj (dft sPlace)
  rcases h with ⟨_, h2, h3⟩ | ⟨h1', _⟩
  · have h5 : l.Pairwise LT → p ∉ l → ∀ y ∈ l.take j, LT y p := fun _ hp y hy => LT.tri (h3 y hy) fun e => hp (e ▸ List.mem_of_mem_take hy)
    refine .inr ⟨rfl, ?_, ⟨_, by rw [ht]; exact List.mem_append_right _ (List.mem_singleton.2 rfl), hx⟩, fun hl hp => ?_⟩
    · simp only
      rw [ht, h2, ← List.cons_append]
      exact (List.perm_append_singleton p (l.take j)).append_right _
    · simp only
      rw [h2, List.pairwise_append, List.pairwise_append]
      refine ⟨⟨hl.sublist (List.take_sublist _ _), by simp, fun a ha b hb => ?_⟩, by simp, fun a ha b hb => ?_⟩
      · rw [List.mem_singleton.1 hb]; exact h5 hl hp a ha
      · rw [List.mem_singleton.1 hb]
        rcases List.mem_append.1 ha with ha | ha
        · exact pre_lt hl hj a ha
        · rw [List.mem_singleton.1 ha]; exact hx
  · rw [h1] at h1'; cases h1'
theorem f109 (l : List Place) (p : Place) (hl : l.length ≤ 384) : ∃ T, F109 (l, p, ()) = some (T, ()) ∧ T.Perm (p :: l) ∧ (l.Pairwise LT → p ∉ l → T.Pairwise LT) := by
  obtain ⟨y, hy, s, rfl, hs⟩ := rng_hoare (st := L109_1006976t) l.length (fun j (s : Bool × List Place) => inP l s.1 (j : Int) p s.2) (fun j s => PutI l p j s) (fun y => ∃ s, y = outP s.1 p s.2 ∧ PutI l p l.length s) (fun j s h hx => by
      have hlen := putI_len hx hl
      have nx := putI_next hx h
      have pt := putI_put hx h
      obtain ⟨x, hxx⟩ : ∃ x : Place, l.getD j (dft sPlace) = x := ⟨_, rfl⟩
      rw [hxx] at nx pt
      obtain ⟨put, A⟩ := s
      simp only at hlen nx pt
      refine .inl ?_
      cases A with
      | nil =>
        have hput : put = false := by
          rcases hx with ⟨h1, _⟩ | ⟨_, h2, _⟩
          · exact h1
          · exact absurd h2.symm.eq_nil (by simp)
        subst hput
        simp only [inP, L109_1006976t, L109_1006976s0, rg_lt h, rg_in h, rg_ltn h, cond_true, Int.toNat_natCast, hxx, eP, f133, Option.bind_some, one1, all1, Bool.not_false]
        rw [rg_wrap (by omega)]
        by_cases hlt : LT p x
        · rw [decide_eq_true hlt]
          exact ⟨(true, [p] ++ [x]), rfl, pt rfl hlt⟩
        · rw [decide_eq_false hlt]
          exact ⟨(false, [x]), rfl, nx (.inr hlt)⟩
      | cons a A =>
        have d1 : ∀ B : List Place, decide (0 + B.length ≤ B.length) = true := fun B => decide_eq_true (by omega)
        have d2 : ∀ B : List Place, decide (0 + B.length = B.length) = true := fun B => decide_eq_true (by omega)
        have r1 : ∀ v : Place, (decide (((a :: A).length + [v].length) * 24 ≤ maxRoom) && decide ((a :: A).length + [v].length ≤ maxRoom)) = true := fun v => room24 (by simp only [List.length_cons, List.length_nil] at hlen ⊢; omega)
        have r2 : ∀ v w : Place, (decide (((a :: A ++ [v]).length + [w].length) * 24 ≤ maxRoom) && decide ((a :: A ++ [v]).length + [w].length ≤ maxRoom)) = true := fun v w => room24 (by simp only [List.length_cons, List.length_nil, List.length_append] at hlen ⊢; omega)
        simp only [inP, L109_1006976t, L109_1006976s1, rg_lt h, rg_in h, rg_ltn h, cond_true, Int.toNat_natCast, hxx, eP, f133, Option.bind_some, one1, all1, d1, d2, r1, r2]
        rw [rg_wrap (by omega)]
        cases put
        · simp only [Bool.not_false, cond_true]
          by_cases hlt : LT p x
          · rw [decide_eq_true hlt]
            exact ⟨(true, (a :: A ++ [p]) ++ [x]), rfl, pt rfl hlt⟩
          · rw [decide_eq_false hlt]
            exact ⟨(false, a :: A ++ [x]), rfl, nx (.inr hlt)⟩
        · exact ⟨(true, a :: A ++ [x]), rfl, nx (.inl rfl)⟩)
    (fun s hx => ⟨outP s.1 p s.2, by obtain ⟨put, A⟩ := s; cases A <;> simp only [inP, outP, L109_1006976t, L109_1006976s0, L109_1006976s1, rg_end, cond_false], s, rfl, hx⟩) (false, []) (.inl ⟨rfl, rfl, by simp⟩)
  have hy' : L109_1006976 (.inl (l, false, Int.ofNat 0, p.1, p.2.1, p.2.2.1, ())) = some (outP s.1 p s.2) := hy
  simp only [F109, hy', Option.bind_some]
  have hlen := putI_len hs hl
  obtain ⟨put, A⟩ := s
  simp only at hlen
  have fin : put = false → A ++ [p] = A ++ [p] ∧ (A ++ [p]).Perm (p :: l) ∧ (l.Pairwise LT → p ∉ l → (A ++ [p]).Pairwise LT) := fun hput => by
    rcases hs with ⟨_, h2, h3⟩ | ⟨h1, _⟩
    · simp only [List.take_length] at h2 h3
      subst h2
      refine ⟨rfl, List.perm_append_singleton _ _, fun hl hp => ?_⟩
      rw [List.pairwise_append]
      refine ⟨hl, by simp, fun a ha b hb => ?_⟩
      rw [List.mem_singleton.1 hb]
      exact LT.tri (h3 a ha) fun e => hp (e ▸ ha)
    · simp only at h1; rw [hput] at h1; cases h1
  have fin2 : put = true → A.Perm (p :: l) ∧ (l.Pairwise LT → p ∉ l → A.Pairwise LT) := fun hput => by
    rcases hs with ⟨h1, _⟩ | ⟨_, h2, _, h4⟩
    · simp only at h1; rw [hput] at h1; cases h1
    · rw [List.take_length] at h2; exact ⟨h2, h4⟩
  cases A with
  | nil =>
    simp only [outP, one1, all1, eP]
    cases put
    · exact ⟨[p], rfl, (fin rfl).2⟩
    · exact absurd (fin2 rfl).1.symm.eq_nil (by simp)
  | cons a A =>
    have d1 : ∀ B : List Place, decide (0 + B.length ≤ B.length) = true := fun B => decide_eq_true (by omega)
    have d2 : ∀ B : List Place, decide (0 + B.length = B.length) = true := fun B => decide_eq_true (by omega)
    have r1 : ∀ v : Place, (decide (((a :: A).length + [v].length) * 24 ≤ maxRoom) && decide ((a :: A).length + [v].length ≤ maxRoom)) = true := fun v => room24 (by simp only [List.length_cons, List.length_nil] at hlen ⊢; omega)
    simp only [outP, one1, all1, eP, d1, d2, r1]
    cases put
    · exact ⟨a :: A ++ [p], rfl, (fin rfl).2⟩
    · exact ⟨a :: A, rfl, fin2 rfl⟩
end Go.Proofs.Ytefehcmhdiifnaa.leaseTells.Code
set_option maxRecDepth 100000
set_option linter.unusedVariables false
set_option linter.unusedSimpArgs false
set_option linter.constructorNameAsVariable false
namespace Go.Proofs.Ytefehcmhdiifnaa.leaseTells.Code
open Go Go.Am
theorem plT_app2 (id now : Int) : ∀ (l1 l2 : List Task) (k : Nat), plT id now k (l1 ++ l2) = plT id now k l1 ++ plT id now (k + l1.length) l2
  | [], l2, k => rfl
  | a :: l1, l2, k => by
    simp only [List.cons_append, plT, plT_app2 id now l1 l2 (k + 1), List.append_assoc, List.length_cons]
    rw [show k + 1 + l1.length = k + (l1.length + 1) by omega]
theorem plT_sub (id now : Int) (ts : List Task) (j : Nat) : (plT id now 0 (ts.take j)).Sublist (plT id now 0 ts) := by
  have h := plT_app2 id now (ts.take j) (ts.drop j) 0
  rw [List.take_append_drop] at h
  rw [h]
  exact List.sublist_append_left _ _
theorem pl_sub (rs : List Run) (now : Int) {i : Nat} (h : i < rs.length) : (pl (rs.take i) now ++ plT (rs.getD i (dft sRun)).1 now 0 (rs.getD i (dft sRun)).2.2.2.2.1).Sublist (pl rs now) := by
  have h1 : pl rs now = pl (rs.take (i + 1)) now ++ pl (rs.drop (i + 1)) now := by
    simp only [pl]
    rw [← List.flatMap_append, List.take_append_drop]
  rw [h1, pl_succ h now (dft sRun)]
  exact List.sublist_append_left _ _
def inQ (rs : List Run) (now i j : Int) : List Place → (List Run × Int × Int × Int × Unit) ⊕ (List Run × Int × List Place × Int × Int × Unit)
  | [] => .inl (rs, now, i, j, ())
  | a :: A => .inr (rs, now, a :: A, i, j, ())
def outQ (rs : List Run) (now i : Int) : List Place → (List Run × Int × Int × Unit) ⊕ (List Run × Int × List Place × Int × Unit)
  | [] => .inl (rs, now, i, ())
  | a :: A => .inr (rs, now, a :: A, i, ())
theorem l82t (rs : List Run) (now : Int) (i : Nat) (hi : i < rs.length) (r : Run) (hrr : rs.getD i (dft sRun) = r) (ht : r.2.2.2.2.1.length ≤ 9223372036854775807) (Q : List Place) (hlen : (Q ++ plT r.1 now 0 r.2.2.2.2.1).length ≤ 384) (hne : (Q ++ plT r.1 now 0 r.2.2.2.2.1).Pairwise (fun x y => x ≠ y)) (A : List Place) (hA : A.Perm Q) (hs : A.Pairwise LT) :
    ∃ B, L82_1005249 (inQ rs now (i : Int) (Int.ofNat 0) A) = some (outQ rs now (i : Int) B) ∧ B.Perm (Q ++ plT r.1 now 0 r.2.2.2.2.1) ∧ B.Pairwise LT := by
  obtain ⟨y, hy, B, rfl, hB⟩ := rng_hoare (st := L82_1005249t) r.2.2.2.2.1.length (fun j (A : List Place) => inQ rs now (i : Int) (j : Int) A) (fun j A => A.Perm (Q ++ plT r.1 now 0 (r.2.2.2.2.1.take j)) ∧ A.Pairwise LT)
    (fun y => ∃ B, y = outQ rs now (i : Int) B ∧ B.Perm (Q ++ plT r.1 now 0 r.2.2.2.2.1) ∧ B.Pairwise LT) (fun j A h hx => by
      obtain ⟨hp, hsA⟩ := hx
      have hsc := plT_succ (id := r.1) (now := now) h (dft sTask)
      have hle : A.length ≤ 384 := by
        have h1 := (plT_sub r.1 now r.2.2.2.2.1 j).length_le
        rw [hp.length_eq, List.length_append]
        rw [List.length_append] at hlen
        omega
      have hsub : (Q ++ plT r.1 now 0 (r.2.2.2.2.1.take (j + 1))).Sublist (Q ++ plT r.1 now 0 r.2.2.2.2.1) := List.Sublist.append (List.Sublist.refl _) (plT_sub _ _ _ _)
      have hn2 := hne.sublist hsub
      obtain ⟨t, hte⟩ : ∃ t : Task, r.2.2.2.2.1.getD j (dft sTask) = t := ⟨_, rfl⟩
      rw [hte] at hsc
      rw [hsc, ← List.append_assoc] at hn2
      obtain ⟨T, e1, e2, e3⟩ := f109 A (r.1, (j : Int), t.2.2.1, ()) hle
      have stay : due t now = false → A.Perm (Q ++ plT r.1 now 0 (r.2.2.2.2.1.take (j + 1))) := fun hd => by
        rw [hsc, hd]; simpa using hp
      have put : due t now = true → T.Perm (Q ++ plT r.1 now 0 (r.2.2.2.2.1.take (j + 1))) ∧ T.Pairwise LT := fun hd => by
        rw [hd] at hn2
        refine ⟨?_, e3 hsA fun hm => ?_⟩
        · rw [hsc, hd, ← List.append_assoc]
          exact e2.trans ((List.Perm.cons _ hp).trans (List.perm_append_singleton _ _).symm)
        · exact (List.pairwise_append.1 hn2).2.2 _ (hp.subset hm) _ (List.mem_singleton.2 rfl) rfl
      have hT : ∃ a B, T = a :: B := by
        cases T with
        | nil => exact absurd e2.symm.eq_nil (by simp)
        | cons a B => exact ⟨a, B, rfl⟩
      refine .inl ?_
      cases A with
      | nil =>
        simp only [inQ, L82_1005249t, L82_1005249s0, rg_in hi, rg_ltn hi, Int.toNat_natCast, hrr, rg_lt h, rg_in h, rg_ltn h, cond_true, hte, eT, f108, Option.bind_some, e1]
        rw [rg_wrap (by omega)]
        rcases hd : due t now with _ | _
        · exact ⟨[], rfl, stay hd, hsA⟩
        · obtain ⟨a, B, rfl⟩ := hT
          exact ⟨a :: B, rfl, put hd⟩
      | cons a A =>
        simp only [inQ, L82_1005249t, L82_1005249s1, rg_in hi, rg_ltn hi, Int.toNat_natCast, hrr, rg_lt h, rg_in h, rg_ltn h, cond_true, hte, eT, f108, Option.bind_some, e1]
        rw [rg_wrap (by omega)]
        rcases hd : due t now with _ | _
        · exact ⟨a :: A, rfl, stay hd, hsA⟩
        · obtain ⟨a, B, rfl⟩ := hT
          exact ⟨a :: B, rfl, put hd⟩)
    (fun A hx => ⟨outQ rs now (i : Int) A, by cases A <;> simp only [inQ, outQ, L82_1005249t, L82_1005249s0, L82_1005249s1, rg_in hi, rg_ltn hi, Int.toNat_natCast, hrr, cond_true, rg_end, cond_false], A, rfl, by rw [List.take_length] at hx; exact hx⟩) A ⟨by simpa [plT] using hA, hs⟩
  exact ⟨B, hy, hB⟩
def inV (rs : List Run) (now i : Int) : List Place → (List Run × Int × Int × Unit) ⊕ (List Run × Int × List Place × Int × Unit)
  | [] => .inl (rs, now, i, ())
  | a :: A => .inr (rs, now, a :: A, i, ())
def outV : List Place → Unit ⊕ (List Place × Unit)
  | [] => .inl ()
  | a :: A => .inr (a :: A, ())
theorem tk12 {rs : List Run} (hf : Fine rs) : ∀ r ∈ rs, r.2.2.2.2.1.length ≤ 12 := fun r hr => by
  obtain ⟨i, hi, rfl⟩ := List.mem_iff_getElem.1 hr
  have h := hf.2.chk i hi
  rw [getD_get hi] at h
  rw [h.len]; exact h.dag.1.2
theorem f82 (rs : List Run) (hf : Fine rs) (now : Int) : ∃ T, F82 (rs, now, ()) = some (T, ()) ∧ T.Perm (pl rs now) ∧ T.Pairwise LT := by
  have ht := tk12 hf
  have hne := pl_ne hf.2.up now
  have hll := pl_len (now := now) ht
  have h32 := hf.1
  obtain ⟨y, hy, T, rfl, hT⟩ := rng_hoare (st := L82_1005248t) rs.length (fun i (A : List Place) => inV rs now (i : Int) A) (fun i A => A.Perm (pl (rs.take i) now) ∧ A.Pairwise LT)
    (fun y => ∃ T, y = outV T ∧ T.Perm (pl rs now) ∧ T.Pairwise LT) (fun i A h hx => by
      have hsub := pl_sub rs now h
      obtain ⟨r, hrr⟩ : ∃ r : Run, rs.getD i (dft sRun) = r := ⟨_, rfl⟩
      have hsc := pl_succ h now (dft sRun)
      rw [hrr] at hsub hsc
      have htr : r.2.2.2.2.1.length ≤ 12 := by rw [← hrr]; exact ht _ (getD_mem h _)
      obtain ⟨B, e1, e2, e3⟩ := l82t rs now i h r hrr (by omega) (pl (rs.take i) now) (by have := hsub.length_le; omega) (hne.sublist hsub) A hx.1 hx.2
      refine .inl ⟨B, ?_, by rw [hsc]; exact e2, e3⟩
      cases A with
      | nil =>
        simp only [inQ] at e1
        simp only [inV, L82_1005248t, L82_1005248s0, rg_lt h, cond_true, e1, Option.bind_some]
        cases B <;> simp only [outQ, inV] <;> rw [rg_wrap (by omega)]
      | cons a A =>
        simp only [inQ] at e1
        simp only [inV, L82_1005248t, L82_1005248s1, rg_lt h, cond_true, e1, Option.bind_some]
        cases B <;> simp only [outQ, inV] <;> rw [rg_wrap (by omega)])
    (fun A hx => ⟨outV A, by cases A <;> simp only [inV, outV, L82_1005248t, L82_1005248s0, L82_1005248s1, rg_end, cond_false], A, rfl, by rw [List.take_length] at hx; exact hx⟩) [] ⟨by simp [pl], .nil⟩
  have hy' : L82_1005248 (.inl (rs, now, Int.ofNat 0, ())) = some (outV T) := hy
  refine ⟨T, ?_, hT⟩
  simp only [F82, hy', Option.bind_some]
  cases T <;> rfl
theorem srt_LT {S : List Place} (h : Srt S) (hn : S.Pairwise (fun x y => x ≠ y)) : S.Pairwise LT := (h.and hn).imp fun {x y} ⟨h1, h2⟩ => Classical.byContradiction fun h3 => h1 (LT.tri h3 h2)
theorem dueS (rs : List Run) (hm : rs.length ≤ 9223372036854775807) (hr : ∀ r ∈ rs, OkR r) (now : Int) : ∃ X v, F30 (rs, now, ()) = some (X, v, ()) ∧ F45 (rs, now, ()) = some (X, v, ()) ∧ X.length ≤ 384 := by
  obtain ⟨v, h1, h2, h3⟩ := both rs hm hr
  rcases h3 with h3 | ⟨rfl, hf⟩
  · simp only [F30, F45, h1, h2, h3, Option.bind_some, cond_true]
    exact ⟨[], v, rfl, rfl, by simp⟩
  · simp only [F30, F45, f81, h1, h2, ne00, Option.bind_some, cond_false]
    by_cases c1 : now < Int.ofNat 0
    · rw [decide_eq_true c1, decide_eq_false (show ¬ InC now from fun h => by have := h.1; simp only [ofN] at c1; omega)]
      exact ⟨[], Int.ofNat 2, rfl, rfl, by simp⟩
    · rw [decide_eq_false c1]
      by_cases c2 : now > Int.ofNat 1099511627776
      · rw [decide_eq_true c2, decide_eq_false (show ¬ InC now from fun h => by have := h.2; simp only [ofN] at c2; omega)]
        exact ⟨[], Int.ofNat 2, rfl, rfl, by simp⟩
      · rw [decide_eq_false c2, decide_eq_true (show InC now from ⟨by simp only [ofN] at c1; omega, by simp only [ofN] at c2; omega⟩)]
        obtain ⟨S, e1, e2, e3⟩ := f66 rs now hf.1 (tk12 hf)
        obtain ⟨T, g1, g2, g3⟩ := f82 rs hf now
        have hne := pl_ne hf.2.up now
        have hS := srt_LT e3 ((e2.pairwise_iff (fun {x y} h e => h e.symm)).2 hne)
        have e : S = T := eq_of_LT hS g3 (e2.trans g2.symm)
        subst e
        rw [e1, g1]
        refine ⟨S, Int.ofNat 0, rfl, rfl, ?_⟩
        have := pl_len (now := now) (tk12 hf)
        have := hf.1
        rw [e2.length_eq]; omega
theorem f48 (S : List Place) (hS : S.length ≤ 384) : F48 (S, S, ()) = some (true, ()) := by
  obtain ⟨y, hy, rfl⟩ := rng_hoare (st := L48_1003072t) S.length (fun i (_ : Unit) => (S, S, (i : Int), ())) (fun _ _ => True) (fun y => y = .inr ()) (fun i _ h _ => by
      simp only [L48_1003072t, L48_1003072s0, rg_lt h, rg_in h, rg_ltn h, cond_true, Int.toNat_natCast, beq_self_eq_true, Bool.and_true, Bool.not_true, ↓reduceIte, cond_false]
      rw [rg_wrap (by omega)]
      exact .inl ⟨(), rfl, trivial⟩) (fun _ _ => ⟨.inr (), by simp only [L48_1003072t, L48_1003072s0, rg_end, cond_false], rfl⟩) () trivial
  have hy' : L48_1003072 (S, S, Int.ofNat 0, ()) = some (.inr ()) := hy
  simp only [F48, bne_self_eq_false, cond_false, hy', Option.bind_some]

def SnI (Q : List Place) (s : Int × Bool) : Prop := (s.2 = false ∧ Q = [] ∧ s.1 = 0) ∨ (s.2 = true ∧ (∃ p ∈ Q, p.2.2.1 = s.1) ∧ ∀ q ∈ Q, s.1 ≤ q.2.2.1)
theorem sn_new {Q : List Place} {s : Int × Bool} (h : SnI Q s) (p : Place) (hc : s.2 = false ∨ p.2.2.1 < s.1) : SnI (Q ++ [p]) (p.2.2.1, true) := by
  refine .inr ⟨rfl, ⟨p, by simp, rfl⟩, fun q hq => ?_⟩
  rcases List.mem_append.1 hq with hq | hq
  · rcases h with ⟨_, h2, _⟩ | ⟨h1, _, h3⟩
    · rw [h2] at hq; cases hq
    · rcases hc with hc | hc
      · rw [h1] at hc; cases hc
      · have := h3 q hq
        show p.2.2.1 ≤ q.2.2.1
        omega
  · rw [List.mem_singleton.1 hq]; exact Int.le_refl _
theorem sn_old {Q : List Place} {s : Int × Bool} (h : SnI Q s) (p : Place) (h1 : s.2 = true) (hc : ¬ p.2.2.1 < s.1) : SnI (Q ++ [p]) s := by
  rcases h with ⟨h0, _, _⟩ | ⟨_, ⟨x, h2, h2'⟩, h3⟩
  · rw [h1] at h0; cases h0
  · refine .inr ⟨h1, ⟨x, List.mem_append_left _ h2, h2'⟩, fun q hq => ?_⟩
    rcases List.mem_append.1 hq with hq | hq
    · exact h3 q hq
    · rw [List.mem_singleton.1 hq]; omega
theorem due_max {nd : Node} {t : Task} (h : TkT nd t) : due t 1099511627776 = (t.1 == Int.ofNat 2 || t.1 == Int.ofNat 3) := by
  have h1 : t.2.2.1 ≤ 1099511627776 := h.2.1.2
  simp only [due, decide_eq_true h1, Bool.and_true]
theorem l46t (rs : List Run) (i : Nat) (hi : i < rs.length) (r : Run) (hrr : rs.getD i (dft sRun) = r) (ht : r.2.2.2.2.1.length ≤ 9223372036854775807) (hok : ROk r) (Q : List Place) (s : Int × Bool) (hs : SnI Q s) :
    ∃ s' : Int × Bool, L46_1002945 (rs, s.1, s.2, (i : Int), Int.ofNat 0, ()) = some (rs, s'.1, s'.2, (i : Int), ()) ∧ SnI (Q ++ plT r.1 1099511627776 0 r.2.2.2.2.1) s' := by
  obtain ⟨y, hy, s', rfl, h⟩ := rng_hoare (st := L46_1002945t) r.2.2.2.2.1.length (fun j (s : Int × Bool) => (rs, s.1, s.2, (i : Int), (j : Int), ())) (fun j s => SnI (Q ++ plT r.1 1099511627776 0 (r.2.2.2.2.1.take j)) s)
    (fun y => ∃ s' : Int × Bool, y = (rs, s'.1, s'.2, (i : Int), ()) ∧ SnI (Q ++ plT r.1 1099511627776 0 r.2.2.2.2.1) s') (fun j s h hx => by
      have hsc := plT_succ (id := r.1) (now := 1099511627776) h (dft sTask)
      have hd := due_max (hok.tks j h)
      obtain ⟨t, hte⟩ : ∃ t : Task, r.2.2.2.2.1.getD j (dft sTask) = t := ⟨_, rfl⟩
      rw [hte] at hsc hd
      obtain ⟨o, is⟩ := s
      simp only [L46_1002945t, L46_1002945s0, rg_in hi, rg_ltn hi, Int.toNat_natCast, hrr, rg_lt h, rg_in h, rg_ltn h, cond_true, hte]
      rw [rg_wrap (by omega)]
      refine .inl ?_
      have upd : due t 1099511627776 = true → (is = false ∨ t.2.2.1 < o) → SnI (Q ++ plT r.1 1099511627776 0 (r.2.2.2.2.1.take (j + 1))) (t.2.2.1, true) := fun h1 h2 => by
        rw [hsc, h1, cond_true, ← List.append_assoc]; exact sn_new hx (r.1, (j : Int), t.2.2.1, ()) h2
      have keep : due t 1099511627776 = true → is = true → ¬ t.2.2.1 < o → SnI (Q ++ plT r.1 1099511627776 0 (r.2.2.2.2.1.take (j + 1))) (o, is) := fun h1 h2 h3 => by
        rw [hsc, h1, cond_true, ← List.append_assoc]; exact sn_old hx (r.1, (j : Int), t.2.2.1, ()) h2 h3
      have stay : due t 1099511627776 = false → SnI (Q ++ plT r.1 1099511627776 0 (r.2.2.2.2.1.take (j + 1))) (o, is) := fun h1 => by
        rw [hsc, h1]; simpa using hx
      rcases h2 : (t.1 == Int.ofNat 2) with _ | _
      · rcases h3 : (t.1 == Int.ofNat 3) with _ | _
        · rw [h2, h3] at hd
          exact ⟨(o, is), rfl, stay hd⟩
        · rw [h2, h3] at hd
          cases is
          · exact ⟨(t.2.2.1, true), rfl, upd hd (.inl rfl)⟩
          · by_cases hlt : t.2.2.1 < o
            · rw [decide_eq_true hlt]; exact ⟨(t.2.2.1, true), rfl, upd hd (.inr hlt)⟩
            · rw [decide_eq_false hlt]; exact ⟨(o, true), rfl, keep hd rfl hlt⟩
      · rw [h2] at hd
        have hd' : due t 1099511627776 = true := by rw [hd]; rfl
        cases is
        · exact ⟨(t.2.2.1, true), rfl, upd hd' (.inl rfl)⟩
        · by_cases hlt : t.2.2.1 < o
          · rw [decide_eq_true hlt]; exact ⟨(t.2.2.1, true), rfl, upd hd' (.inr hlt)⟩
          · rw [decide_eq_false hlt]; exact ⟨(o, true), rfl, keep hd' rfl hlt⟩) (fun s hx => ⟨(rs, s.1, s.2, (i : Int), ()), by simp only [L46_1002945t, L46_1002945s0, rg_in hi, rg_ltn hi, Int.toNat_natCast, hrr, cond_true, rg_end, cond_false], s, rfl, by rw [List.take_length] at hx; exact hx⟩) s (by simpa [plT] using hs)
  exact ⟨s', hy, h⟩
theorem l46 (rs : List Run) (hf : Fine rs) : ∃ s : Int × Bool, L46_1002944 (rs, Int.ofNat 0, false, Int.ofNat 0, ()) = some (s.1, s.2, ()) ∧ SnI (pl rs 1099511627776) s := by
  have h32 := hf.1
  obtain ⟨y, hy, s', rfl, h⟩ := rng_hoare (st := L46_1002944t) rs.length (fun j (s : Int × Bool) => (rs, s.1, s.2, (j : Int), ())) (fun j s => SnI (pl (rs.take j) 1099511627776) s)
    (fun y => ∃ s : Int × Bool, y = (s.1, s.2, ()) ∧ SnI (pl rs 1099511627776) s) (fun j s h hx => by
      have h12 := tk12 hf _ (getD_mem h (dft sRun))
      obtain ⟨s', e1, e2⟩ := l46t rs j h _ rfl (by omega) (hf.2.chk j h) _ s hx
      simp only [L46_1002944t, L46_1002944s0, rg_lt h, cond_true, e1, Option.bind_some]
      rw [rg_wrap (by omega)]
      exact .inl ⟨s', rfl, by rw [pl_succ h _ (dft sRun)]; exact e2⟩) (fun s hx => ⟨(s.1, s.2, ()), by simp only [L46_1002944t, L46_1002944s0, rg_end, cond_false], s, rfl, by rw [List.take_length] at hx; exact hx⟩) (0, false) (.inl ⟨rfl, by simp [pl], rfl⟩)
  exact ⟨s', hy, h⟩
theorem soonS (rs : List Run) (hm : rs.length ≤ 9223372036854775807) (hr : ∀ r ∈ rs, OkR r) : ∃ X, F31 (rs, ()) = some X ∧ F46 (rs, ()) = some X := by
  obtain ⟨v, h1, h2, h3⟩ := both rs hm hr
  rcases h3 with h3 | ⟨rfl, hf⟩
  · simp only [F31, F46, h1, h2, h3, Option.bind_some, cond_true]
    exact ⟨_, rfl, rfl⟩
  · obtain ⟨S, e1, e2, e3⟩ := f66 rs (Int.ofNat 1099511627776) hf.1 (tk12 hf)
    obtain ⟨⟨o, is⟩, g1, g2⟩ := l46 rs hf
    simp only [F31, F46, h1, h2, e1, g1, ne00, Option.bind_some, cond_false]
    have e2' : S.Perm (pl rs 1099511627776) := e2
    cases S with
    | nil =>
      have hnil := e2'.symm.eq_nil
      rcases g2 with ⟨a, _, c⟩ | ⟨_, ⟨x, h, _⟩, _⟩
      · simp only at a c
        subst a c
        exact ⟨_, rfl, rfl⟩
      · rw [hnil] at h; cases h
    | cons p S =>
      rcases g2 with ⟨_, b, _⟩ | ⟨a, ⟨x, h, hx⟩, c⟩
      · rw [b] at e2'; exact absurd e2'.eq_nil (by simp)
      · simp only at a c hx
        subst a
        have k1 : o ≤ p.2.2.1 := c p (e2'.subset (List.mem_cons_self ..))
        have k2 : p.2.2.1 ≤ o := by
          rcases List.mem_cons.1 (e2'.symm.subset h) with rfl | h'
          · omega
          · have := List.rel_of_pairwise_cons e3 h'
            omega
        have k : p.2.2.1 = o := by omega
        simp only [List.length_cons]
        rw [show (((S.length + 1 : Nat) : Int) == Int.ofNat 0) = false by simp; omega, cond_false, show within 0 (Int.ofNat 0) (((S.length + 1 : Nat) : Int) - 1) = true from rg_in (i := 0) (by omega), cond_true, show decide ((Int.ofNat 0).toNat < S.length + 1) = true from decide_eq_true (Nat.succ_pos _), cond_true, show ((p :: S).getD (Int.ofNat 0).toNat (dft sPlace)).2.2.1 = p.2.2.1 from rfl, k]
        exact ⟨_, rfl, rfl⟩

theorem f9 (rs : List Run) (id : Int) (key : ByteArray) (now : Int) (hm : rs.length ≤ 9223372036854775807) (hn : ∀ r ∈ rs, r.2.2.1.1.length ≤ 9223372036854775807) (hr : ∀ r ∈ rs, OkR r) : F9 (rs, id, key, now, ()) = some (true, ()) := by
  obtain ⟨b, hb, hb2⟩ := f29 rs hm hn
  simp only [F9, hb, Option.bind_some]
  cases b
  · simp only [cond_false]
    cases decide ((key.size : Int) > Int.ofNat 1000)
    · obtain ⟨⟨a1, a2, a3, _⟩, e1, e2⟩ := findS rs hm hr id
      obtain ⟨⟨b1, b2, b3, _⟩, e3, e4⟩ := knownS rs hm hr key
      obtain ⟨⟨⟨c1, c2, c3, _⟩, c4, c5, _⟩, e5, e6⟩ := nextS rs hm hr
      obtain ⟨X, dv, e7, e8, e9⟩ := dueS rs hm hr now
      obtain ⟨⟨f1, f2, f3, _⟩, e10, e11⟩ := soonS rs hm hr
      obtain ⟨⟨g1, g2, _⟩, e12, e13⟩ := heldS rs hm hr
      obtain ⟨v, e14, e15, _⟩ := both rs hm hr
      simp only [cond_false, f41 rs (hb2 rfl), e1, e2, e3, e4, e5, e6, e7, e8, e10, e11, e12, e13, e14, e15, f48 X e9, f50 rs hm hn hr, Option.bind_some, beq_self_eq_true, cond_true, Bool.and_true, ↓reduceIte, Bool.false_eq_true]
    · rfl
  · rfl
theorem pure : ∀ x : Den (.cons (.row sRun) (.cons (.i .i64) (.cons .s (.cons (.i .i64) .nil)))), OkD (.cons (.row sRun) (.cons (.i .i64) (.cons .s (.cons (.i .i64) .nil)))) x → ∃ y, F9 x = some y ∧ y.1 = true := by
  intro x hx
  obtain ⟨rs, id, key, now, _⟩ := x
  obtain ⟨⟨h1, h2⟩, _⟩ := hx
  refine ⟨_, f9 rs id key now h1 (fun r hr => (h2 r hr).2.2.1.1.1) fun r hr => ?_, rfl⟩
  obtain ⟨_, _, ⟨⟨h3, h4⟩, _⟩, _, ⟨h5, h6⟩, _⟩ := h2 r hr
  refine ⟨fun nd hnd => (h4 nd hnd).1.1, h5, fun t ht => ?_⟩
  have hw : (Lit.int .u8 t.1).wf = true := (h6 t ht).1
  simp only [Lit.wf, IntKind.signed, IntKind.bits] at hw
  simp at hw
  have e : IntKind.u8.min = 0 := by decide
  omega
end Go.Proofs.Ytefehcmhdiifnaa.leaseTells.Code
