/- What the functions of the law compute answers as the law says: for all data that an argument may hold. -/
import Derived.Test.YtbkpphmonfeaoaaSrtRowsDiff
set_option maxRecDepth 100000
set_option linter.unusedVariables false
set_option linter.unusedSectionVars false
set_option linter.unusedSimpArgs false
set_option linter.constructorNameAsVariable false
namespace Go.Proofs.Ytbkpphmonfeaoaa.rowsDiff.Code
open Go Go.Am
abbrev Pr : Type := ByteArray × ByteArray × Unit
abbrev Op_ : Type := ByteArray × Bool × ByteArray × Unit
abbrev ky (p : Pr) : List UInt8 := ByteArray.toList p.1
theorem all1 {α : Type} (l : List α) : List.take l.length (List.drop 0 l) = l := by simp
theorem sgE {α : Type} (z v : α) : (List.replicate 1 z).set 0 v = [v] := rfl
theorem ba_inj {a b : ByteArray} (h : a.toList = b.toList) : a = b := by
  rw [ByteArray.toList_eq, ByteArray.toList_eq] at h
  obtain ⟨⟨x⟩⟩ := a
  obtain ⟨⟨y⟩⟩ := b
  simp only at h
  rw [h]
theorem lt_or (a b : List UInt8) : a < b ∨ a = b ∨ b < a := by
  by_cases h1 : a < b
  · exact .inl h1
  · by_cases h2 : b < a
    · exact .inr (.inr h2)
    · exact .inr (.inl (List.le_antisymm (List.not_lt.1 h2) (List.not_lt.1 h1)))
theorem lt_tr {a b c : List UInt8} (h1 : a < b) (h2 : b < c) : a < c := List.lt_trans h1 h2
theorem lt_ne {a b : List UInt8} (h1 : a < b) : a ≠ b := fun e => List.lt_irrefl _ (e ▸ h1)
theorem lt_as {a b : List UInt8} (h1 : a < b) : ¬ b < a := fun h2 => List.lt_irrefl _ (lt_tr h1 h2)
theorem bless : ∀ a b : List UInt8, Op.bytesLess a b = decide (a < b)
  | [], [] => by simp [Op.bytesLess]
  | _ :: _, [] => by simp [Op.bytesLess]
  | [], _ :: _ => by simp [Op.bytesLess]
  | a :: x, b :: y => by
    simp only [Op.bytesLess, bless x y, List.cons_lt_cons_iff]
    by_cases h1 : a < b
    · simp [h1]
    · by_cases h2 : a = b <;> simp [h1, h2]
theorem rg_pred {j : Nat} (h : j < 9223372036854775807) : IntKind.i64.wrap (((j + 1 : Nat) : Int) - Int.ofNat 1) = (j : Int) := by
  rw [IntKind.wrap_i64]; simp only [ofN]; omega
abbrev at_ (l : List Pr) (i : Nat) : Pr := l.getD i (dft sPair)
def okP (p : Pr) : Prop := 1 ≤ p.1.size ∧ p.1.size ≤ 64 ∧ p.2.1.size ≤ 512
structure MayP (l : List Pr) : Prop where
  sz : ∀ i : Nat, i < l.length → okP (at_ l i)
  up : ∀ i : Nat, i + 1 < l.length → ky (at_ l i) < ky (at_ l (i + 1))
theorem lt_of_not {a b : List UInt8} (h : (Op.bytesLess b a || b == a) = false) : a < b := by
  rw [bless] at h
  simp only [Bool.or_eq_false_iff, decide_eq_false_iff_not, beq_eq_false_iff_ne] at h
  rcases lt_or a b with h1 | h1 | h1
  · exact h1
  · exact absurd h1.symm h.2
  · exact absurd h1 h.1
theorem not_of {a b : List UInt8} (h : (Op.bytesLess b a || b == a) = true) : ¬ a < b := fun h1 => by
  rw [bless] at h
  simp only [Bool.or_eq_true, decide_eq_true_eq, beq_iff_eq] at h
  rcases h with h | h
  · exact lt_as h1 h
  · exact lt_ne h1 h.symm
theorem f24 (l : List Pr) (hl : l.length ≤ 1024) : ∃ b, F24 (l, ()) = some (b, ()) ∧ (b = true ↔ MayP l) := by
  obtain ⟨y, hy, hq⟩ := rng_hoare (st := L24_1001536t) l.length (fun i (_ : Unit) => (l, l, (l.length : Int), (i : Int), ())) (fun i _ => (∀ j : Nat, j < i → okP (at_ l j)) ∧ ∀ j : Nat, j + 1 < i → ky (at_ l j) < ky (at_ l (j + 1)))
    (fun y => (∃ z, y = .inl (false, z) ∧ ¬ MayP l) ∨ (y = .inr () ∧ MayP l)) (fun i _ h hx => by
      simp only [L24_1001536t, L24_1001536s0, L24_1001536s0r, rg_lt h, rg_in h, rg_ltn h, cond_true, Int.toNat_natCast]
      by_cases c1 : (at_ l i).1.size < 1
      · rw [show decide (((at_ l i).1.size : Int) < Int.ofNat 1) = true from decide_eq_true (by simp only [ofN]; omega), cond_true]
        exact .inr ⟨_, rfl, .inl ⟨_, rfl, fun hm => by have := (hm.sz i h).1; omega⟩⟩
      rw [show decide (((at_ l i).1.size : Int) < Int.ofNat 1) = false from decide_eq_false (by simp only [ofN]; omega), cond_false]
      by_cases c2 : (at_ l i).1.size > 64
      · rw [show decide (((at_ l i).1.size : Int) > Int.ofNat 64) = true from decide_eq_true (by simp only [ofN]; omega), cond_true]
        exact .inr ⟨_, rfl, .inl ⟨_, rfl, fun hm => by have := (hm.sz i h).2.1; omega⟩⟩
      rw [show decide (((at_ l i).1.size : Int) > Int.ofNat 64) = false from decide_eq_false (by simp only [ofN]; omega), cond_false]
      by_cases c3 : (at_ l i).2.1.size > 512
      · rw [show decide (((at_ l i).2.1.size : Int) > Int.ofNat 512) = true from decide_eq_true (by simp only [ofN]; omega), cond_true]
        exact .inr ⟨_, rfl, .inl ⟨_, rfl, fun hm => by have := (hm.sz i h).2.2; omega⟩⟩
      rw [show decide (((at_ l i).2.1.size : Int) > Int.ofNat 512) = false from decide_eq_false (by simp only [ofN]; omega), cond_false]
      have hok : okP (at_ l i) := ⟨by omega, by omega, by omega⟩
      have hs : ∀ j : Nat, j < i + 1 → okP (at_ l j) := fun j hj => by
        rcases Nat.lt_or_ge j i with c | c
        · exact hx.1 j c
        · obtain rfl : j = i := by omega
          exact hok
      cases i with
      | zero =>
        rw [show decide (((0 : Nat) : Int) > Int.ofNat 0) = false from rfl, cond_false, rg_wrap (by omega)]
        exact .inl ⟨(), rfl, hs, fun j hj => absurd hj (by omega)⟩
      | succ i =>
        have h2 : i < l.length := by omega
        rw [show decide (((i + 1 : Nat) : Int) > Int.ofNat 0) = true from decide_eq_true (by simp only [ofN]; omega), cond_true, rg_pred (by omega)]
        simp only [rg_in h2, rg_ltn h2, cond_true, Int.toNat_natCast]
        cases hb : (Op.bytesLess (ky (at_ l (i + 1))) (ky (at_ l i)) || ky (at_ l (i + 1)) == ky (at_ l i)) with
        | true =>
          rw [cond_true]
          exact .inr ⟨_, rfl, .inl ⟨_, rfl, fun hm => not_of hb (hm.up i h)⟩⟩
        | false =>
          rw [cond_false, rg_wrap (by omega)]
          refine .inl ⟨(), rfl, hs, fun j hj => ?_⟩
          rcases Nat.lt_or_ge (j + 1) (i + 1) with c | c
          · exact hx.2 j c
          · obtain rfl : j = i := by omega
            exact lt_of_not hb) (fun _ hx => ⟨_, by simp only [L24_1001536t, L24_1001536s0, L24_1001536s0r, rg_end, cond_false], .inr ⟨rfl, hx.1, hx.2⟩⟩) () ⟨fun _ h => absurd h (Nat.not_lt_zero _), fun _ h => absurd h (Nat.not_lt_zero _)⟩
  have hy' : L24_1001536 (l, l, (l.length : Int), Int.ofNat 0, ()) = some y := hy
  simp only [F24, hy', Option.bind_some]
  rcases hq with ⟨z, rfl, hn⟩ | ⟨rfl, hm⟩
  · exact ⟨false, rfl, ⟨fun h => absurd h (by decide), fun h => absurd h hn⟩⟩
  · exact ⟨true, rfl, ⟨fun _ => hm, fun _ => rfl⟩⟩
theorem f25 (l : List Pr) (hl : l.length ≤ 1024) : ∃ b, F25 (l, ()) = some (b, ()) ∧ (b = true ↔ MayP l) := by
  obtain ⟨y, hy, hq⟩ := rng_hoare (st := L25_1001600t) l.length (fun i (_ : Unit) => (l, (i : Int), ())) (fun i _ => (∀ j : Nat, j < i → okP (at_ l j)) ∧ ∀ j : Nat, j + 1 < i → ky (at_ l j) < ky (at_ l (j + 1)))
    (fun y => (y = .inl (false, ()) ∧ ¬ MayP l) ∨ (y = .inr () ∧ MayP l)) (fun i _ h hx => by
      simp only [L25_1001600t, L25_1001600s0, rg_lt h, rg_in h, rg_ltn h, cond_true, Int.toNat_natCast]
      by_cases c1 : (at_ l i).1.size < 1
      · rw [show decide (((at_ l i).1.size : Int) < Int.ofNat 1) = true from decide_eq_true (by simp only [ofN]; omega), cond_true]
        exact .inr ⟨_, rfl, .inl ⟨rfl, fun hm => by have := (hm.sz i h).1; omega⟩⟩
      rw [show decide (((at_ l i).1.size : Int) < Int.ofNat 1) = false from decide_eq_false (by simp only [ofN]; omega), cond_false]
      by_cases c2 : (at_ l i).1.size > 64
      · rw [show decide (((at_ l i).1.size : Int) > Int.ofNat 64) = true from decide_eq_true (by simp only [ofN]; omega), cond_true]
        exact .inr ⟨_, rfl, .inl ⟨rfl, fun hm => by have := (hm.sz i h).2.1; omega⟩⟩
      rw [show decide (((at_ l i).1.size : Int) > Int.ofNat 64) = false from decide_eq_false (by simp only [ofN]; omega), cond_false]
      by_cases c3 : (at_ l i).2.1.size > 512
      · rw [show decide (((at_ l i).2.1.size : Int) > Int.ofNat 512) = true from decide_eq_true (by simp only [ofN]; omega), cond_true]
        exact .inr ⟨_, rfl, .inl ⟨rfl, fun hm => by have := (hm.sz i h).2.2; omega⟩⟩
      rw [show decide (((at_ l i).2.1.size : Int) > Int.ofNat 512) = false from decide_eq_false (by simp only [ofN]; omega), cond_false]
      have hok : okP (at_ l i) := ⟨by omega, by omega, by omega⟩
      have hs : ∀ j : Nat, j < i + 1 → okP (at_ l j) := fun j hj => by
        rcases Nat.lt_or_ge j i with c | c
        · exact hx.1 j c
        · obtain rfl : j = i := by omega
          exact hok
      cases i with
      | zero =>
        rw [show decide (((0 : Nat) : Int) > Int.ofNat 0) = false from rfl, cond_false, rg_wrap (by omega)]
        exact .inl ⟨(), rfl, hs, fun j hj => absurd hj (by omega)⟩
      | succ i =>
        have h2 : i < l.length := by omega
        rw [show decide (((i + 1 : Nat) : Int) > Int.ofNat 0) = true from decide_eq_true (by simp only [ofN]; omega), cond_true]
        simp only [rg_pred (show i < 9223372036854775807 by omega), rg_in h2, rg_ltn h2, cond_true, Int.toNat_natCast]
        cases hb : (Op.bytesLess (ky (at_ l (i + 1))) (ky (at_ l i)) || ky (at_ l (i + 1)) == ky (at_ l i)) with
        | true =>
          rw [cond_true]
          exact .inr ⟨_, rfl, .inl ⟨rfl, fun hm => not_of hb (hm.up i h)⟩⟩
        | false =>
          rw [cond_false, rg_wrap (by omega)]
          refine .inl ⟨(), rfl, hs, fun j hj => ?_⟩
          rcases Nat.lt_or_ge (j + 1) (i + 1) with c | c
          · exact hx.2 j c
          · obtain rfl : j = i := by omega
            exact lt_of_not hb) (fun _ hx => ⟨_, by simp only [L25_1001600t, L25_1001600s0, rg_end, cond_false], .inr ⟨rfl, hx.1, hx.2⟩⟩) () ⟨fun _ h => absurd h (Nat.not_lt_zero _), fun _ h => absurd h (Nat.not_lt_zero _)⟩
  have hy' : L25_1001600 (l, Int.ofNat 0, ()) = some y := hy
  simp only [F25, hy', Option.bind_some]
  rcases hq with ⟨rfl, hn⟩ | ⟨rfl, hm⟩
  · exact ⟨false, rfl, ⟨fun h => absurd h (by decide), fun h => absurd h hn⟩⟩
  · exact ⟨true, rfl, ⟨fun _ => hm, fun _ => rfl⟩⟩
theorem may_same {l : List Pr} {a b : Bool} (h1 : a = true ↔ MayP l) (h2 : b = true ↔ MayP l) : a = b := by
  cases a <;> cases b
  · rfl
  · exact absurd (h1.2 (h2.1 rfl)) (by simp)
  · exact absurd (h2.2 (h1.1 rfl)) (by simp)
  · rfl
end Go.Proofs.Ytbkpphmonfeaoaa.rowsDiff.Code
set_option maxRecDepth 100000
set_option linter.unusedVariables false
set_option linter.unusedSimpArgs false
set_option linter.constructorNameAsVariable false
namespace Go.Proofs.Ytbkpphmonfeaoaa.rowsDiff.Code
open Go Go.Am
theorem f12 (l : List Pr) (hl : l.length ≤ 9223372036854775807) : ∃ b, F12 (l, ()) = some (b, ()) ∧ (b = false → l.length ≤ 1100) := by
  have key : ∃ b, ((L12_1000768 (l, Int.ofNat 0, Int.ofNat 0, ())).bind fun y6 => (match y6 with | .inl a7 => some a7 | .inr b7 => some (false, ()))) = some (b, ()) := by
    obtain ⟨y, hy, hq⟩ := rng_hoare (st := L12_1000768t) l.length (fun i (a : Int) => (l, a, (i : Int), ())) (fun _ _ => True) (fun y => y = .inl (true, ()) ∨ y = .inr ()) (fun i a h _ => by
      simp only [L12_1000768t, L12_1000768s0, rg_lt h, rg_in h, rg_ltn h, cond_true, Int.toNat_natCast]
      rw [rg_wrap (by omega)]
      cases decide (IntKind.i64.wrap (a + IntKind.i64.wrap (((ByteArray.size (l.getD i (dft sPair)).1 : Nat) : Int) + ((ByteArray.size (l.getD i (dft sPair)).2.1 : Nat) : Int))) > Int.ofNat 100000) with
      | true => exact .inr ⟨_, rfl, .inl rfl⟩
      | false => exact .inl ⟨_, rfl, trivial⟩) (fun _ _ => ⟨_, by simp only [L12_1000768t, L12_1000768s0, rg_end, cond_false], .inr rfl⟩) 0 trivial
    have hy' : L12_1000768 (l, Int.ofNat 0, Int.ofNat 0, ()) = some y := hy
    rw [hy', Option.bind_some]
    rcases hq with rfl | rfl
    · exact ⟨_, rfl⟩
    · exact ⟨_, rfl⟩
  obtain ⟨b, hb⟩ := key
  simp only [F12]
  by_cases c1 : l.length > 120
  · rw [show decide (((l.length : Nat) : Int) > Int.ofNat 120) = true from decide_eq_true (by simp only [ofN]; omega), cond_true]
    by_cases c2 : l.length ≤ 1024
    · rw [show decide (((l.length : Nat) : Int) ≤ Int.ofNat 1024) = true from decide_eq_true (by simp only [ofN]; omega), cond_true]
      exact ⟨_, rfl, fun h => by cases h⟩
    · rw [show decide (((l.length : Nat) : Int) ≤ Int.ofNat 1024) = false from decide_eq_false (by simp only [ofN]; omega), cond_false]
      by_cases c3 : l.length > 1100
      · rw [show decide (((l.length : Nat) : Int) > Int.ofNat 1100) = true from decide_eq_true (by simp only [ofN]; omega), cond_true]
        exact ⟨_, rfl, fun h => by cases h⟩
      · rw [show decide (((l.length : Nat) : Int) > Int.ofNat 1100) = false from decide_eq_false (by simp only [ofN]; omega), cond_false]
        exact ⟨b, hb, fun h => by omega⟩
  · rw [show decide (((l.length : Nat) : Int) > Int.ofNat 120) = false from decide_eq_false (by simp only [ofN]; omega), cond_false, show decide (((l.length : Nat) : Int) > Int.ofNat 1100) = false from decide_eq_false (by simp only [ofN]; omega), cond_false]
    exact ⟨b, hb, fun h => by omega⟩
theorem f13 (l : List Op_) (hl : l.length ≤ 9223372036854775807) : ∃ b, F13 (l, ()) = some (b, ()) ∧ (b = false → l.length ≤ 1100) := by
  have key : ∃ b, ((L13_1000832 (l, Int.ofNat 0, Int.ofNat 0, ())).bind fun y6 => (match y6 with | .inl a7 => some a7 | .inr b7 => some (false, ()))) = some (b, ()) := by
    obtain ⟨y, hy, hq⟩ := rng_hoare (st := L13_1000832t) l.length (fun i (a : Int) => (l, a, (i : Int), ())) (fun _ _ => True) (fun y => y = .inl (true, ()) ∨ y = .inr ()) (fun i a h _ => by
      simp only [L13_1000832t, L13_1000832s0, rg_lt h, rg_in h, rg_ltn h, cond_true, Int.toNat_natCast]
      rw [rg_wrap (by omega)]
      cases decide (IntKind.i64.wrap (a + IntKind.i64.wrap (((ByteArray.size (l.getD i (dft sOp)).1 : Nat) : Int) + ((ByteArray.size (l.getD i (dft sOp)).2.2.1 : Nat) : Int))) > Int.ofNat 100000) with
      | true => exact .inr ⟨_, rfl, .inl rfl⟩
      | false => exact .inl ⟨_, rfl, trivial⟩) (fun _ _ => ⟨_, by simp only [L13_1000832t, L13_1000832s0, rg_end, cond_false], .inr rfl⟩) 0 trivial
    have hy' : L13_1000832 (l, Int.ofNat 0, Int.ofNat 0, ()) = some y := hy
    rw [hy', Option.bind_some]
    rcases hq with rfl | rfl
    · exact ⟨_, rfl⟩
    · exact ⟨_, rfl⟩
  obtain ⟨b, hb⟩ := key
  simp only [F13]
  by_cases c1 : l.length > 120
  · rw [show decide (((l.length : Nat) : Int) > Int.ofNat 120) = true from decide_eq_true (by simp only [ofN]; omega), cond_true]
    by_cases c2 : l.length ≤ 1024
    · rw [show decide (((l.length : Nat) : Int) ≤ Int.ofNat 1024) = true from decide_eq_true (by simp only [ofN]; omega), cond_true]
      exact ⟨_, rfl, fun h => by cases h⟩
    · rw [show decide (((l.length : Nat) : Int) ≤ Int.ofNat 1024) = false from decide_eq_false (by simp only [ofN]; omega), cond_false]
      by_cases c3 : l.length > 1100
      · rw [show decide (((l.length : Nat) : Int) > Int.ofNat 1100) = true from decide_eq_true (by simp only [ofN]; omega), cond_true]
        exact ⟨_, rfl, fun h => by cases h⟩
      · rw [show decide (((l.length : Nat) : Int) > Int.ofNat 1100) = false from decide_eq_false (by simp only [ofN]; omega), cond_false]
        exact ⟨b, hb, fun h => by omega⟩
  · rw [show decide (((l.length : Nat) : Int) > Int.ofNat 120) = false from decide_eq_false (by simp only [ofN]; omega), cond_false, show decide (((l.length : Nat) : Int) > Int.ofNat 1100) = false from decide_eq_false (by simp only [ofN]; omega), cond_false]
    exact ⟨b, hb, fun h => by omega⟩
theorem f18 (l : List Op_) (hl : l.length ≤ 9223372036854775807) : F18 (l, l, ()) = some (true, ()) := by
  obtain ⟨y, hy, hq⟩ := rng_hoare (st := L18_1001152t) l.length (fun i (_ : Unit) => (l, l, (i : Int), ())) (fun _ _ => True) (fun y => y = .inr ()) (fun i a h _ => by
      simp only [L18_1001152t, L18_1001152s0, rg_lt h, rg_in h, rg_ltn h, cond_true, Int.toNat_natCast]
      rw [rg_wrap (by omega)]
      simp only [beq_self_eq_true, Bool.and_true, Bool.not_true, if_true, cond_false]
      exact .inl ⟨(), trivial, trivial⟩) (fun _ _ => ⟨_, by simp only [L18_1001152t, L18_1001152s0, rg_end, cond_false], rfl⟩) () trivial
  have hy' : L18_1001152 (l, l, Int.ofNat 0, ()) = some y := hy
  subst hq
  simp only [F18, hy', Option.bind_some, bne_self_eq_false, cond_false]
theorem f19 (l : List Pr) (hl : l.length ≤ 9223372036854775807) : F19 (l, l, ()) = some (true, ()) := by
  obtain ⟨y, hy, hq⟩ := rng_hoare (st := L19_1001216t) l.length (fun i (_ : Unit) => (l, l, (i : Int), ())) (fun _ _ => True) (fun y => y = .inr ()) (fun i a h _ => by
      simp only [L19_1001216t, L19_1001216s0, rg_lt h, rg_in h, rg_ltn h, cond_true, Int.toNat_natCast]
      rw [rg_wrap (by omega)]
      simp only [beq_self_eq_true, Bool.and_true, Bool.not_true, if_true, cond_false]
      exact .inl ⟨(), trivial, trivial⟩) (fun _ _ => ⟨_, by simp only [L19_1001216t, L19_1001216s0, rg_end, cond_false], rfl⟩) () trivial
  have hy' : L19_1001216 (l, l, Int.ofNat 0, ()) = some y := hy
  subst hq
  simp only [F19, hy', Option.bind_some, bne_self_eq_false, cond_false]
end Go.Proofs.Ytbkpphmonfeaoaa.rowsDiff.Code
set_option maxRecDepth 100000
set_option linter.unusedVariables false
set_option linter.unusedSimpArgs false
set_option linter.constructorNameAsVariable false
namespace Go.Proofs.Ytbkpphmonfeaoaa.rowsDiff.Code
open Go Go.Am
abbrev delO (p : Pr) : Op_ := (p.1, true, e0_, ())
abbrev putO (p : Pr) : Op_ := (p.1, false, p.2.1, ())
inductive Dif : List Pr → List Pr → List Op_ → Prop
  | nil : Dif [] [] []
  | delE (f : Pr) (fs : List Pr) (r : List Op_) : Dif fs [] r → Dif (f :: fs) [] (delO f :: r)
  | putE (t : Pr) (ts : List Pr) (r : List Op_) : Dif [] ts r → Dif [] (t :: ts) (putO t :: r)
  | del (f t : Pr) (fs ts : List Pr) (r : List Op_) : ky f < ky t → Dif fs (t :: ts) r → Dif (f :: fs) (t :: ts) (delO f :: r)
  | put (f t : Pr) (fs ts : List Pr) (r : List Op_) : ky t < ky f → Dif (f :: fs) ts r → Dif (f :: fs) (t :: ts) (putO t :: r)
  | same (f t : Pr) (fs ts : List Pr) (r : List Op_) : ky f = ky t → f.2.1.toList = t.2.1.toList → Dif fs ts r → Dif (f :: fs) (t :: ts) r
  | chg (f t : Pr) (fs ts : List Pr) (r : List Op_) : ky f = ky t → f.2.1.toList ≠ t.2.1.toList → Dif fs ts r → Dif (f :: fs) (t :: ts) (putO t :: r)
theorem dif_ex : ∀ fs ts : List Pr, ∃ r, Dif fs ts r
  | [], [] => ⟨_, .nil⟩
  | f :: fs, [] => by
    obtain ⟨r, h⟩ := dif_ex fs []
    exact ⟨_, .delE f fs r h⟩
  | [], t :: ts => by
    obtain ⟨r, h⟩ := dif_ex [] ts
    exact ⟨_, .putE t ts r h⟩
  | f :: fs, t :: ts => by
    rcases lt_or (ky f) (ky t) with h | h | h
    · obtain ⟨r, hr⟩ := dif_ex fs (t :: ts)
      exact ⟨_, .del f t fs ts r h hr⟩
    · obtain ⟨r, hr⟩ := dif_ex fs ts
      by_cases c : f.2.1.toList = t.2.1.toList
      · exact ⟨_, .same f t fs ts r h c hr⟩
      · exact ⟨_, .chg f t fs ts r h c hr⟩
    · obtain ⟨r, hr⟩ := dif_ex (f :: fs) ts
      exact ⟨_, .put f t fs ts r h hr⟩
  termination_by fs ts => fs.length + ts.length
theorem dif_len {fs ts : List Pr} {r : List Op_} (h : Dif fs ts r) : r.length ≤ fs.length + ts.length := by
  induction h <;> simp only [List.length_cons, List.length_nil] at * <;> omega
inductive Stp (a b : List Pr) (i k : Nat) (r : List Op_) : Prop
  | fin : i = a.length → k = b.length → r = [] → Stp a b i k r
  | delE (r' : List Op_) : i < a.length → k = b.length → r = delO (at_ a i) :: r' → Dif (a.drop (i + 1)) (b.drop k) r' → Stp a b i k r
  | putE (r' : List Op_) : i = a.length → k < b.length → r = putO (at_ b k) :: r' → Dif (a.drop i) (b.drop (k + 1)) r' → Stp a b i k r
  | del (r' : List Op_) : i < a.length → k < b.length → ky (at_ a i) < ky (at_ b k) → r = delO (at_ a i) :: r' → Dif (a.drop (i + 1)) (b.drop k) r' → Stp a b i k r
  | put (r' : List Op_) : i < a.length → k < b.length → ky (at_ b k) < ky (at_ a i) → r = putO (at_ b k) :: r' → Dif (a.drop i) (b.drop (k + 1)) r' → Stp a b i k r
  | same : i < a.length → k < b.length → ky (at_ a i) = ky (at_ b k) → (at_ a i).2.1.toList = (at_ b k).2.1.toList → Dif (a.drop (i + 1)) (b.drop (k + 1)) r → Stp a b i k r
  | chg (r' : List Op_) : i < a.length → k < b.length → ky (at_ a i) = ky (at_ b k) → (at_ a i).2.1.toList ≠ (at_ b k).2.1.toList → r = putO (at_ b k) :: r' → Dif (a.drop (i + 1)) (b.drop (k + 1)) r' → Stp a b i k r
theorem drop_nil' {α : Type} {l : List α} {i : Nat} (hi : i ≤ l.length) (h : l.drop i = []) : i = l.length := by
  have := List.drop_eq_nil_iff.1 h; omega
theorem drop_cons {l : List Pr} {i : Nat} {f : Pr} {fs : List Pr} (h : l.drop i = f :: fs) : i < l.length ∧ at_ l i = f ∧ l.drop (i + 1) = fs := by
  have hi : i < l.length := by
    have := congrArg List.length h
    rw [List.length_drop, List.length_cons] at this
    omega
  have h2 : l.drop i = l[i] :: l.drop (i + 1) := List.drop_eq_getElem_cons hi
  rw [h] at h2
  injection h2 with h3 h4
  exact ⟨hi, by rw [at_, getD_get hi]; exact h3.symm, h4.symm⟩
theorem stp_of {a b : List Pr} {i k : Nat} {r : List Op_} (hi : i ≤ a.length) (hk : k ≤ b.length) (h : Dif (a.drop i) (b.drop k) r) : Stp a b i k r := by
  generalize hA : a.drop i = A at h
  generalize hB : b.drop k = B at h
  cases h with
  | nil => exact .fin (drop_nil' hi hA) (drop_nil' hk hB) rfl
  | delE f fs r h =>
    obtain ⟨h1, rfl, rfl⟩ := drop_cons hA
    exact .delE r h1 (drop_nil' hk hB) rfl (by rw [hB]; exact h)
  | putE t ts r h =>
    obtain ⟨h1, rfl, rfl⟩ := drop_cons hB
    exact .putE r (drop_nil' hi hA) h1 rfl (by rw [hA]; exact h)
  | del f t fs ts r hlt h =>
    obtain ⟨h1, rfl, rfl⟩ := drop_cons hA
    obtain ⟨h2, rfl, rfl⟩ := drop_cons hB
    exact .del r h1 h2 hlt rfl (by rw [hB]; exact h)
  | put f t fs ts r hlt h =>
    obtain ⟨h1, rfl, rfl⟩ := drop_cons hA
    obtain ⟨h2, rfl, rfl⟩ := drop_cons hB
    exact .put r h1 h2 hlt rfl (by rw [hA]; exact h)
  | same f t fs ts r he hv h =>
    obtain ⟨h1, rfl, rfl⟩ := drop_cons hA
    obtain ⟨h2, rfl, rfl⟩ := drop_cons hB
    exact .same h1 h2 he hv h
  | chg f t fs ts r he hv h =>
    obtain ⟨h1, rfl, rfl⟩ := drop_cons hA
    obtain ⟨h2, rfl, rfl⟩ := drop_cons hB
    exact .chg r h1 h2 he hv rfl h
theorem roomD {n : Nat} (h : n ≤ 5000) : (decide ((n + 1) * 40 ≤ maxRoom) && decide (n + 1 ≤ maxRoom)) = true := by
  show (decide ((n + 1) * 40 ≤ 2 ^ 46) && decide (n + 1 ≤ 2 ^ 46)) = true
  simp only [Bool.and_eq_true, decide_eq_true_eq]; omega
theorem roomD' {n : Nat} (h : n ≤ 5000) : (decide ((n + 1) * 40 ≤ 2 ^ 46) && decide (n + 1 ≤ 2 ^ 46)) = true := by
  simp only [Bool.and_eq_true, decide_eq_true_eq]; omega
theorem eq_t {a : Int} : (a == a) = true := by simp
theorem eq_f {a b : Nat} (h : a ≠ b) : (((a : Nat) : Int) == ((b : Nat) : Int)) = false := by simp; omega
theorem lt_f {a : Nat} : decide (((a : Nat) : Int) < ((a : Nat) : Int)) = false := by simp
theorem bl_t {a b : List UInt8} (h : a < b) : Op.bytesLess a b = true := by rw [bless]; exact decide_eq_true h
theorem bl_f {a b : List UInt8} (h : ¬ a < b) : Op.bytesLess a b = false := by rw [bless]; exact decide_eq_false h
theorem be_f {a b : List UInt8} (h : a ≠ b) : (a == b) = false := by simpa using h
def stD (a b : List Pr) (out : List Op_) (i k : Nat) : Y40 := match out with
  | [] => .inl (a, b, (i : Int), (k : Int), ())
  | o :: os => .inr (a, b, (o :: os).length, (i : Int), (k : Int), o :: os, ())
theorem stD_app {a b : List Pr} {out : List Op_} {x : Op_} {i k : Nat} : stD a b (out ++ [x]) i k = .inr (a, b, (out ++ [x]).length, (i : Int), (k : Int), out ++ [x], ()) := by
  cases out <;> rfl
abbrev endD (out : List Op_) : Y18 := match out with
  | [] => .inl ()
  | o :: os => .inr ((o :: os).length, o :: os, ())
section
variable {a b : List Pr} (ha : a.length ≤ 1100) (hb : b.length ≤ 1100)
include ha hb
set_option maxHeartbeats 1000000 in
theorem step14 {out : List Op_} (ho : out.length ≤ 2200) {i k : Nat} {r : List Op_} (h : Stp a b i k r) :
    (i = a.length ∧ k = b.length ∧ r = [] ∧ L14_1000896t (stD a b out i k) = some (.inr (endD out))) ∨ ∃ out' i' k' r', L14_1000896t (stD a b out i k) = some (.inl (stD a b out' i' k')) ∧ out' ++ r' = out ++ r ∧ Dif (a.drop i') (b.drop k') r' ∧ i' ≤ a.length ∧ k' ≤ b.length ∧ a.length - i' + (b.length - k') < a.length - i + (b.length - k) := by
  have r1 := roomD (n := out.length) (by omega)
  have r2 := roomD' (n := out.length) (by omega)
  cases h with
  | fin h1 h2 h3 =>
    subst h1 h2
    refine .inl ⟨rfl, rfl, h3, ?_⟩
    cases out with
    | nil => simp only [stD, L14_1000896t, L14_1000896s0, L14_1000896s0r, lt_f, cond_false]
    | cons o os => simp only [stD, L14_1000896t, L14_1000896s1, L14_1000896s1r, lt_f, cond_false]
  | delE r' h1 h2 h3 h4 =>
    subst h2 h3
    refine .inr ⟨out ++ [delO (at_ a i)], i + 1, _, r', ?_, by simp, h4, by omega, Nat.le_refl _, by omega⟩
    rw [stD_app]
    cases out with
    | nil => simp only [stD, L14_1000896t, L14_1000896s0, L14_1000896s0r, rg_lt h1, rg_in h1, rg_ltn h1, Int.toNat_natCast, eq_t, cond_true, rg_wrap (show i < 9223372036854775807 by omega), all1, sgE]; rfl
    | cons o os => simp only [stD, L14_1000896t, L14_1000896s1, L14_1000896s1r, rg_lt h1, rg_in h1, rg_ltn h1, Int.toNat_natCast, eq_t, cond_true, rg_wrap (show i < 9223372036854775807 by omega), all1, sgE, Nat.zero_add, Nat.le_refl, decide_true, List.length_singleton, r1, r2]
  | putE r' h1 h2 h3 h4 =>
    subst h1 h3
    refine .inr ⟨out ++ [putO (at_ b k)], _, k + 1, r', ?_, by simp, h4, Nat.le_refl _, by omega, by omega⟩
    rw [stD_app]
    have e1 := eq_f (a := k) (b := b.length) (by omega)
    cases out with
    | nil => simp only [stD, L14_1000896t, L14_1000896s0, L14_1000896s0r, lt_f, rg_lt h2, rg_in h2, rg_ltn h2, Int.toNat_natCast, eq_t, e1, cond_true, cond_false, rg_wrap (show k < 9223372036854775807 by omega), all1, sgE]; rfl
    | cons o os => simp only [stD, L14_1000896t, L14_1000896s1, L14_1000896s1r, lt_f, rg_lt h2, rg_in h2, rg_ltn h2, Int.toNat_natCast, eq_t, e1, cond_true, cond_false, rg_wrap (show k < 9223372036854775807 by omega), all1, sgE, Nat.zero_add, Nat.le_refl, decide_true, List.length_singleton, r1, r2]
  | del r' h1 h2 hlt h3 h4 =>
    subst h3
    refine .inr ⟨out ++ [delO (at_ a i)], i + 1, k, r', ?_, by simp, h4, by omega, by omega, by omega⟩
    rw [stD_app]
    have e1 := eq_f (a := k) (b := b.length) (by omega)
    have e2 := bl_t hlt
    cases out with
    | nil => simp only [stD, L14_1000896t, L14_1000896s0, L14_1000896s0r, rg_lt h1, rg_in h1, rg_ltn h1, rg_lt h2, rg_in h2, rg_ltn h2, Int.toNat_natCast, e1, e2, cond_true, cond_false, rg_wrap (show i < 9223372036854775807 by omega), all1, sgE]; rfl
    | cons o os => simp only [stD, L14_1000896t, L14_1000896s1, L14_1000896s1r, rg_lt h1, rg_in h1, rg_ltn h1, rg_lt h2, rg_in h2, rg_ltn h2, Int.toNat_natCast, e1, e2, cond_true, cond_false, rg_wrap (show i < 9223372036854775807 by omega), all1, sgE, Nat.zero_add, Nat.le_refl, decide_true, List.length_singleton, r1, r2]
  | put r' h1 h2 hlt h3 h4 =>
    subst h3
    refine .inr ⟨out ++ [putO (at_ b k)], i, k + 1, r', ?_, by simp, h4, by omega, by omega, by omega⟩
    rw [stD_app]
    have e1 := eq_f (a := k) (b := b.length) (by omega)
    have e3 := eq_f (a := i) (b := a.length) (by omega)
    have e2 := bl_f (lt_as hlt)
    have e4 := bl_t hlt
    cases out with
    | nil => simp only [stD, L14_1000896t, L14_1000896s0, L14_1000896s0r, rg_lt h1, rg_in h1, rg_ltn h1, rg_lt h2, rg_in h2, rg_ltn h2, Int.toNat_natCast, e1, e2, e3, e4, cond_true, cond_false, rg_wrap (show k < 9223372036854775807 by omega), all1, sgE]; rfl
    | cons o os => simp only [stD, L14_1000896t, L14_1000896s1, L14_1000896s1r, rg_lt h1, rg_in h1, rg_ltn h1, rg_lt h2, rg_in h2, rg_ltn h2, Int.toNat_natCast, e1, e2, e3, e4, cond_true, cond_false, rg_wrap (show k < 9223372036854775807 by omega), all1, sgE, Nat.zero_add, Nat.le_refl, decide_true, List.length_singleton, r1, r2]
  | same h1 h2 he hv h4 =>
    refine .inr ⟨out, i + 1, k + 1, r, ?_, rfl, h4, by omega, by omega, by omega⟩
    have e1 := eq_f (a := k) (b := b.length) (by omega)
    have e3 := eq_f (a := i) (b := a.length) (by omega)
    have e2 := bl_f (a := ky (at_ a i)) (b := ky (at_ b k)) (by rw [he]; exact List.lt_irrefl _)
    have e4 := bl_f (a := ky (at_ b k)) (b := ky (at_ a i)) (by rw [he]; exact List.lt_irrefl _)
    have e5 : ((at_ a i).2.1.toList == (at_ b k).2.1.toList) = true := by rw [hv]; simp
    cases out with
    | nil => simp only [stD, L14_1000896t, L14_1000896s0, L14_1000896s0r, rg_lt h1, rg_in h1, rg_ltn h1, rg_lt h2, rg_in h2, rg_ltn h2, Int.toNat_natCast, e1, e2, e3, e4, e5, Bool.not_true, cond_true, cond_false, rg_wrap (show k < 9223372036854775807 by omega), rg_wrap (show i < 9223372036854775807 by omega)]
    | cons o os => simp only [stD, L14_1000896t, L14_1000896s1, L14_1000896s1r, rg_lt h1, rg_in h1, rg_ltn h1, rg_lt h2, rg_in h2, rg_ltn h2, Int.toNat_natCast, e1, e2, e3, e4, e5, Bool.not_true, cond_true, cond_false, rg_wrap (show k < 9223372036854775807 by omega), rg_wrap (show i < 9223372036854775807 by omega)]
  | chg r' h1 h2 he hv h3 h4 =>
    subst h3
    refine .inr ⟨out ++ [putO (at_ b k)], i + 1, k + 1, r', ?_, by simp, h4, by omega, by omega, by omega⟩
    rw [stD_app]
    have e1 := eq_f (a := k) (b := b.length) (by omega)
    have e3 := eq_f (a := i) (b := a.length) (by omega)
    have e2 := bl_f (a := ky (at_ a i)) (b := ky (at_ b k)) (by rw [he]; exact List.lt_irrefl _)
    have e4 := bl_f (a := ky (at_ b k)) (b := ky (at_ a i)) (by rw [he]; exact List.lt_irrefl _)
    have e5 := be_f hv
    cases out with
    | nil => simp only [stD, L14_1000896t, L14_1000896s0, L14_1000896s0r, rg_lt h1, rg_in h1, rg_ltn h1, rg_lt h2, rg_in h2, rg_ltn h2, Int.toNat_natCast, e1, e2, e3, e4, e5, Bool.not_false, cond_true, cond_false, rg_wrap (show k < 9223372036854775807 by omega), rg_wrap (show i < 9223372036854775807 by omega), all1, sgE]; rfl
    | cons o os => simp only [stD, L14_1000896t, L14_1000896s1, L14_1000896s1r, rg_lt h1, rg_in h1, rg_ltn h1, rg_lt h2, rg_in h2, rg_ltn h2, Int.toNat_natCast, e1, e2, e3, e4, e5, Bool.not_false, cond_true, cond_false, rg_wrap (show k < 9223372036854775807 by omega), rg_wrap (show i < 9223372036854775807 by omega), all1, sgE, Nat.zero_add, Nat.le_refl, decide_true, List.length_singleton, r1, r2]
theorem loop14 (total : List Op_) : ∀ (n : Nat) (out : List Op_) (i k : Nat) (r : List Op_), i ≤ a.length → k ≤ b.length → Dif (a.drop i) (b.drop k) r → out ++ r = total → total.length ≤ 2200 → a.length - i + (b.length - k) ≤ n → L14_1000896 (stD a b out i k) = some (endD total) := fun n => by
  induction n with
  | zero =>
    intro out i k r hi hk hd ht htl hn
    have hol : out.length ≤ 2200 := by rw [← ht, List.length_append] at htl; omega
    rcases step14 ha hb hol (stp_of hi hk hd) with ⟨h1, h2, h3, h4⟩ | ⟨out', i', k', r', h1, h2, h3, h4, h5, h6⟩
    · rw [L14_1000896, loopF_eq, h4, ← ht, h3, List.append_nil]
    · omega
  | succ n ih =>
    intro out i k r hi hk hd ht htl hn
    have hol : out.length ≤ 2200 := by rw [← ht, List.length_append] at htl; omega
    rcases step14 ha hb hol (stp_of hi hk hd) with ⟨h1, h2, h3, h4⟩ | ⟨out', i', k', r', h1, h2, h3, h4, h5, h6⟩
    · rw [L14_1000896, loopF_eq, h4, ← ht, h3, List.append_nil]
    · rw [L14_1000896, loopF_eq, h1]
      exact ih out' i' k' r' h4 h5 h3 (h2.trans ht) htl (by omega)
end
end Go.Proofs.Ytbkpphmonfeaoaa.rowsDiff.Code
set_option maxRecDepth 100000
set_option linter.unusedVariables false
set_option linter.unusedSimpArgs false
set_option linter.constructorNameAsVariable false
namespace Go.Proofs.Ytbkpphmonfeaoaa.rowsDiff.Code
open Go Go.Am
def stE (a : List Pr) (out : List Op_) (i : Nat) : Y25 := match out with
  | [] => .inl (a, (i : Int), ())
  | o :: os => .inr (a, (o :: os).length, (i : Int), o :: os, ())
theorem stE_app {a : List Pr} {out : List Op_} {x : Op_} {i : Nat} : stE a (out ++ [x]) i = .inr (a, (out ++ [x]).length, (i : Int), out ++ [x], ()) := by
  cases out <;> rfl
section
variable {a b : List Pr} (ha : a.length ≤ 1100) (hb : b.length ≤ 1100)
include ha hb
theorem exit961 {out : List Op_} {i k : Nat} (hk : k < b.length) (hi : i ≤ a.length) (h : i = a.length ∨ ¬ ky (at_ a i) < ky (at_ b k)) : L15_1000961t (stD a b out i k) = some (.inr (stD a b out i k)) := by
  by_cases c : i = a.length
  · subst c
    cases out with
    | nil => simp only [stD, L15_1000961t, L15_1000961s0, lt_f, cond_false]
    | cons o os => simp only [stD, L15_1000961t, L15_1000961s1, L15_1000961s1r, lt_f, cond_false]
  · have h1 : i < a.length := by omega
    have e2 := bl_f (h.resolve_left c)
    cases out with
    | nil => simp only [stD, L15_1000961t, L15_1000961s0, rg_lt h1, rg_in h1, rg_ltn h1, rg_lt hk, rg_in hk, rg_ltn hk, Int.toNat_natCast, e2, cond_true, cond_false]
    | cons o os => simp only [stD, L15_1000961t, L15_1000961s1, L15_1000961s1r, rg_lt h1, rg_in h1, rg_ltn h1, rg_lt hk, rg_in hk, rg_ltn hk, Int.toNat_natCast, e2, cond_true, cond_false]
theorem step961 {out : List Op_} (ho : out.length ≤ 2200) {i k : Nat} (hk : k < b.length) (h1 : i < a.length) (hlt : ky (at_ a i) < ky (at_ b k)) : L15_1000961t (stD a b out i k) = some (.inl (stD a b (out ++ [delO (at_ a i)]) (i + 1) k)) := by
  have r1 := roomD (n := out.length) (by omega)
  have r2 := roomD' (n := out.length) (by omega)
  have e2 := bl_t hlt
  rw [stD_app]
  cases out with
  | nil => simp only [stD, L15_1000961t, L15_1000961s0, rg_lt h1, rg_in h1, rg_ltn h1, rg_lt hk, rg_in hk, rg_ltn hk, Int.toNat_natCast, e2, cond_true, rg_wrap (show i < 9223372036854775807 by omega), all1, sgE]; rfl
  | cons o os => simp only [stD, L15_1000961t, L15_1000961s1, L15_1000961s1r, rg_lt h1, rg_in h1, rg_ltn h1, rg_lt hk, rg_in hk, rg_ltn hk, Int.toNat_natCast, e2, cond_true, rg_wrap (show i < 9223372036854775807 by omega), all1, sgE, Nat.zero_add, Nat.le_refl, decide_true, List.length_singleton, r1, r2]
theorem loop961 (total : List Op_) (htl : total.length ≤ 2200) {k : Nat} (hk : k < b.length) : ∀ (n : Nat) (out : List Op_) (i : Nat) (r : List Op_), i ≤ a.length → Dif (a.drop i) (b.drop k) r → out ++ r = total → a.length - i ≤ n →
    ∃ out' i' r', L15_1000961 (stD a b out i k) = some (stD a b out' i' k) ∧ out' ++ r' = total ∧ Dif (a.drop i') (b.drop k) r' ∧ i' ≤ a.length ∧ (i' = a.length ∨ ¬ ky (at_ a i') < ky (at_ b k)) := fun n => by
  induction n with
  | zero =>
    intro out i r hi hd ht hn
    exact ⟨out, i, r, by rw [L15_1000961, loopF_eq, exit961 ha hb hk hi (.inl (by omega))], ht, hd, hi, .inl (by omega)⟩
  | succ n ih =>
    intro out i r hi hd ht hn
    have hol : out.length ≤ 2200 := by rw [← ht, List.length_append] at htl; omega
    by_cases c : i < a.length ∧ ky (at_ a i) < ky (at_ b k)
    · obtain ⟨c1, c2⟩ := c
      have hst := stp_of hi (Nat.le_of_lt hk) hd
      obtain ⟨r', hr, hd'⟩ : ∃ r', r = delO (at_ a i) :: r' ∧ Dif (a.drop (i + 1)) (b.drop k) r' := by
        cases hst with
        | fin h1 h2 h3 => omega
        | delE r' h1 h2 h3 h4 => omega
        | putE r' h1 h2 h3 h4 => omega
        | del r' h1 h2 hlt h3 h4 => exact ⟨r', h3, h4⟩
        | put r' h1 h2 hlt h3 h4 => exact absurd c2 (lt_as hlt)
        | same h1 h2 he hv h4 => exact absurd (he ▸ c2) (List.lt_irrefl _)
        | chg r' h1 h2 he hv h3 h4 => exact absurd (he ▸ c2) (List.lt_irrefl _)
      obtain ⟨out', i', r2, h1, h2, h3, h4, h5⟩ := ih (out ++ [delO (at_ a i)]) (i + 1) r' (by omega) hd' (by rw [← ht, hr]; simp) (by omega)
      exact ⟨out', i', r2, by rw [L15_1000961, loopF_eq, step961 ha hb hol hk c1 c2]; exact h1, h2, h3, h4, h5⟩
    · have hx : i = a.length ∨ ¬ ky (at_ a i) < ky (at_ b k) := by
        by_cases c1 : i < a.length
        · exact .inr fun c2 => c ⟨c1, c2⟩
        · exact .inl (by omega)
      exact ⟨out, i, r, by rw [L15_1000961, loopF_eq, exit961 ha hb hk hi hx], ht, hd, hi, hx⟩
set_option maxHeartbeats 2000000 in
theorem step960 (total : List Op_) (htl : total.length ≤ 2200) {out : List Op_} {i k : Nat} {r : List Op_} (hi : i ≤ a.length) (hk : k < b.length) (hd : Dif (a.drop i) (b.drop k) r) (ht : out ++ r = total) :
    ∃ out' i' r', L15_1000960t (stD a b out i k) = some (.inl (stD a b out' i' (k + 1))) ∧ out' ++ r' = total ∧ Dif (a.drop i') (b.drop (k + 1)) r' ∧ i' ≤ a.length := by
  obtain ⟨o1, i1, r1, h1, h2, h3, h4, h5⟩ := loop961 ha hb total htl hk _ out i r hi hd ht (Nat.le_refl _)
  have hol : o1.length ≤ 2200 := by rw [← h2, List.length_append] at htl; omega
  have rm1 := roomD (n := o1.length) (by omega)
  have rm2 := roomD' (n := o1.length) (by omega)
  have hrun : ∀ X : Option (Y40 ⊕ Y25), (∀ y, L15_1000961 (stD a b out i k) = some y → True) → True := fun _ _ => trivial
  have hst := stp_of h4 (Nat.le_of_lt hk) h3
  have key : ∀ out' i' r', out' ++ r' = total → Dif (a.drop i') (b.drop (k + 1)) r' → i' ≤ a.length → L15_1000960t (stD a b out i k) = some (.inl (stD a b out' i' (k + 1))) → ∃ out' i' r', L15_1000960t (stD a b out i k) = some (.inl (stD a b out' i' (k + 1))) ∧ out' ++ r' = total ∧ Dif (a.drop i') (b.drop (k + 1)) r' ∧ i' ≤ a.length := fun o i r h1 h2 h3 h4 => ⟨o, i, r, h4, h1, h2, h3⟩
  cases hst with
  | fin g1 g2 g3 => omega
  | delE r' g1 g2 g3 g4 => omega
  | del r' g1 g2 hlt g3 g4 => exact absurd hlt (h5.resolve_left (by omega))
  | putE r' g1 g2 g3 g4 =>
    refine key (o1 ++ [putO (at_ b k)]) i1 r' (by rw [← h2, g3]; simp) g4 h4 ?_
    rw [stD_app]
    subst g1
    cases out with
    | nil =>
      simp only [stD] at h1
      simp only [stD, L15_1000960t, L15_1000960s0, rg_lt hk, cond_true, h1, Option.bind_some]
      cases o1 with
      | nil => simp only [lt_f, rg_in hk, rg_ltn hk, Int.toNat_natCast, cond_true, cond_false, rg_wrap (show k < 9223372036854775807 by omega), all1, sgE]; rfl
      | cons o os => simp only [lt_f, rg_in hk, rg_ltn hk, Int.toNat_natCast, cond_true, cond_false, rg_wrap (show k < 9223372036854775807 by omega), all1, sgE, Nat.zero_add, Nat.le_refl, decide_true, List.length_singleton, rm1, rm2]
    | cons oo oos =>
      simp only [stD] at h1
      simp only [stD, L15_1000960t, L15_1000960s1, rg_lt hk, cond_true, h1, Option.bind_some]
      cases o1 with
      | nil => simp only [lt_f, rg_in hk, rg_ltn hk, Int.toNat_natCast, cond_true, cond_false, rg_wrap (show k < 9223372036854775807 by omega), all1, sgE]; rfl
      | cons o os => simp only [lt_f, rg_in hk, rg_ltn hk, Int.toNat_natCast, cond_true, cond_false, rg_wrap (show k < 9223372036854775807 by omega), all1, sgE, Nat.zero_add, Nat.le_refl, decide_true, List.length_singleton, rm1, rm2]
  | put r' g1 g2 hlt g3 g4 =>
    refine key (o1 ++ [putO (at_ b k)]) i1 r' (by rw [← h2, g3]; simp) g4 h4 ?_
    rw [stD_app]
    have e1 := be_f (a := ky (at_ a i1)) (b := ky (at_ b k)) (fun e => lt_ne hlt e.symm)
    cases out with
    | nil =>
      simp only [stD] at h1
      simp only [stD, L15_1000960t, L15_1000960s0, rg_lt hk, cond_true, h1, Option.bind_some]
      cases o1 with
      | nil => simp only [rg_lt g1, rg_in g1, rg_ltn g1, rg_in hk, rg_ltn hk, Int.toNat_natCast, e1, Bool.not_false, cond_true, cond_false, rg_wrap (show k < 9223372036854775807 by omega), all1, sgE]; rfl
      | cons o os => simp only [rg_lt g1, rg_in g1, rg_ltn g1, rg_in hk, rg_ltn hk, Int.toNat_natCast, e1, Bool.not_false, cond_true, cond_false, rg_wrap (show k < 9223372036854775807 by omega), all1, sgE, Nat.zero_add, Nat.le_refl, decide_true, List.length_singleton, rm1, rm2]
    | cons oo oos =>
      simp only [stD] at h1
      simp only [stD, L15_1000960t, L15_1000960s1, rg_lt hk, cond_true, h1, Option.bind_some]
      cases o1 with
      | nil => simp only [rg_lt g1, rg_in g1, rg_ltn g1, rg_in hk, rg_ltn hk, Int.toNat_natCast, e1, Bool.not_false, cond_true, cond_false, rg_wrap (show k < 9223372036854775807 by omega), all1, sgE]; rfl
      | cons o os => simp only [rg_lt g1, rg_in g1, rg_ltn g1, rg_in hk, rg_ltn hk, Int.toNat_natCast, e1, Bool.not_false, cond_true, cond_false, rg_wrap (show k < 9223372036854775807 by omega), all1, sgE, Nat.zero_add, Nat.le_refl, decide_true, List.length_singleton, rm1, rm2]
  | same g1 g2 he hv g4 =>
    refine key o1 (i1 + 1) r1 h2 g4 (by omega) ?_
    have e1 : (ky (at_ a i1) == ky (at_ b k)) = true := by rw [he]; simp
    have e5 : ((at_ a i1).2.1.toList == (at_ b k).2.1.toList) = true := by rw [hv]; simp
    cases out with
    | nil =>
      simp only [stD] at h1
      simp only [stD, L15_1000960t, L15_1000960s0, rg_lt hk, cond_true, h1, Option.bind_some]
      cases o1 with
      | nil => simp only [rg_lt g1, rg_in g1, rg_ltn g1, rg_in hk, rg_ltn hk, Int.toNat_natCast, e1, e5, Bool.not_true, cond_true, cond_false, rg_wrap (show k < 9223372036854775807 by omega), rg_wrap (show i1 < 9223372036854775807 by omega)]
      | cons o os => simp only [rg_lt g1, rg_in g1, rg_ltn g1, rg_in hk, rg_ltn hk, Int.toNat_natCast, e1, e5, Bool.not_true, cond_true, cond_false, rg_wrap (show k < 9223372036854775807 by omega), rg_wrap (show i1 < 9223372036854775807 by omega)]
    | cons oo oos =>
      simp only [stD] at h1
      simp only [stD, L15_1000960t, L15_1000960s1, rg_lt hk, cond_true, h1, Option.bind_some]
      cases o1 with
      | nil => simp only [rg_lt g1, rg_in g1, rg_ltn g1, rg_in hk, rg_ltn hk, Int.toNat_natCast, e1, e5, Bool.not_true, cond_true, cond_false, rg_wrap (show k < 9223372036854775807 by omega), rg_wrap (show i1 < 9223372036854775807 by omega)]
      | cons o os => simp only [rg_lt g1, rg_in g1, rg_ltn g1, rg_in hk, rg_ltn hk, Int.toNat_natCast, e1, e5, Bool.not_true, cond_true, cond_false, rg_wrap (show k < 9223372036854775807 by omega), rg_wrap (show i1 < 9223372036854775807 by omega)]
  | chg r' g1 g2 he hv g3 g4 =>
    refine key (o1 ++ [putO (at_ b k)]) (i1 + 1) r' (by rw [← h2, g3]; simp) g4 (by omega) ?_
    rw [stD_app]
    have e1 : (ky (at_ a i1) == ky (at_ b k)) = true := by rw [he]; simp
    have e5 := be_f hv
    cases out with
    | nil =>
      simp only [stD] at h1
      simp only [stD, L15_1000960t, L15_1000960s0, rg_lt hk, cond_true, h1, Option.bind_some]
      cases o1 with
      | nil => simp only [rg_lt g1, rg_in g1, rg_ltn g1, rg_in hk, rg_ltn hk, Int.toNat_natCast, e1, e5, Bool.not_true, Bool.not_false, cond_true, cond_false, rg_wrap (show k < 9223372036854775807 by omega), rg_wrap (show i1 < 9223372036854775807 by omega), all1, sgE]; rfl
      | cons o os => simp only [rg_lt g1, rg_in g1, rg_ltn g1, rg_in hk, rg_ltn hk, Int.toNat_natCast, e1, e5, Bool.not_true, Bool.not_false, cond_true, cond_false, rg_wrap (show k < 9223372036854775807 by omega), rg_wrap (show i1 < 9223372036854775807 by omega), all1, sgE, Nat.zero_add, Nat.le_refl, decide_true, List.length_singleton, rm1, rm2]
    | cons oo oos =>
      simp only [stD] at h1
      simp only [stD, L15_1000960t, L15_1000960s1, rg_lt hk, cond_true, h1, Option.bind_some]
      cases o1 with
      | nil => simp only [rg_lt g1, rg_in g1, rg_ltn g1, rg_in hk, rg_ltn hk, Int.toNat_natCast, e1, e5, Bool.not_true, Bool.not_false, cond_true, cond_false, rg_wrap (show k < 9223372036854775807 by omega), rg_wrap (show i1 < 9223372036854775807 by omega), all1, sgE]; rfl
      | cons o os => simp only [rg_lt g1, rg_in g1, rg_ltn g1, rg_in hk, rg_ltn hk, Int.toNat_natCast, e1, e5, Bool.not_true, Bool.not_false, cond_true, cond_false, rg_wrap (show k < 9223372036854775807 by omega), rg_wrap (show i1 < 9223372036854775807 by omega), all1, sgE, Nat.zero_add, Nat.le_refl, decide_true, List.length_singleton, rm1, rm2]
theorem exit960 {out : List Op_} {i : Nat} : L15_1000960t (stD a b out i b.length) = some (.inr (stE a out i)) := by
  cases out with
  | nil => simp only [stD, stE, L15_1000960t, L15_1000960s0, lt_f, cond_false]
  | cons o os => simp only [stD, stE, L15_1000960t, L15_1000960s1, lt_f, cond_false]
theorem loop960 (total : List Op_) (htl : total.length ≤ 2200) : ∀ (n k : Nat) (out : List Op_) (i : Nat) (r : List Op_), i ≤ a.length → k ≤ b.length → b.length - k ≤ n → Dif (a.drop i) (b.drop k) r → out ++ r = total →
    ∃ out' i' r', L15_1000960 (stD a b out i k) = some (stE a out' i') ∧ out' ++ r' = total ∧ Dif (a.drop i') [] r' ∧ i' ≤ a.length := fun n => by
  induction n with
  | zero =>
    intro k out i r hi hk hn hd ht
    obtain rfl : k = b.length := by omega
    exact ⟨out, i, r, by rw [L15_1000960, loopF_eq, exit960 ha hb], ht, by rwa [List.drop_length] at hd, hi⟩
  | succ n ih =>
    intro k out i r hi hk hn hd ht
    by_cases c : k = b.length
    · subst c
      exact ⟨out, i, r, by rw [L15_1000960, loopF_eq, exit960 ha hb], ht, by rwa [List.drop_length] at hd, hi⟩
    · obtain ⟨o1, i1, r1, h1, h2, h3, h4⟩ := step960 ha hb total htl hi (by omega) hd ht
      obtain ⟨o2, i2, r2, g1, g2, g3, g4⟩ := ih (k + 1) o1 i1 r1 h4 (by omega) (by omega) h3 h2
      exact ⟨o2, i2, r2, by rw [L15_1000960, loopF_eq, h1]; exact g1, g2, g3, g4⟩
theorem loop962 (total : List Op_) (htl : total.length ≤ 2200) : ∀ (n : Nat) (out : List Op_) (i : Nat) (r : List Op_), i ≤ a.length → a.length - i ≤ n → Dif (a.drop i) [] r → out ++ r = total → L15_1000962 (stE a out i) = some (endD total) := fun n => by
  have hex : ∀ (out r : List Op_), Dif (a.drop a.length) [] r → out ++ r = total → L15_1000962t (stE a out a.length) = some (.inr (endD total)) := fun out r hd ht => by
    rw [List.drop_length] at hd
    cases hd
    rw [List.append_nil] at ht
    subst ht
    cases out with
    | nil => simp only [stE, L15_1000962t, L15_1000962s0, lt_f, cond_false]
    | cons o os => simp only [stE, L15_1000962t, L15_1000962s1, lt_f, cond_false]
  induction n with
  | zero =>
    intro out i r hi hn hd ht
    obtain rfl : i = a.length := by omega
    rw [L15_1000962, loopF_eq, hex out r hd ht]
  | succ n ih =>
    intro out i r hi hn hd ht
    by_cases c : i = a.length
    · subst c
      rw [L15_1000962, loopF_eq, hex out r hd ht]
    · have h1 : i < a.length := by omega
      have hol : out.length ≤ 2200 := by rw [← ht, List.length_append] at htl; omega
      have r1 := roomD (n := out.length) (by omega)
      have r2 := roomD' (n := out.length) (by omega)
      obtain ⟨r', hr, hd'⟩ : ∃ r', r = delO (at_ a i) :: r' ∧ Dif (a.drop (i + 1)) [] r' := by
        have hd2 : a.drop i = a[i] :: a.drop (i + 1) := List.drop_eq_getElem_cons h1
        rw [hd2] at hd
        cases hd with
        | delE f fs r h => exact ⟨r, by rw [at_, getD_get h1], h⟩
      have hs : L15_1000962t (stE a out i) = some (.inl (stE a (out ++ [delO (at_ a i)]) (i + 1))) := by
        rw [stE_app]
        cases out with
        | nil => simp only [stE, L15_1000962t, L15_1000962s0, rg_lt h1, rg_in h1, rg_ltn h1, Int.toNat_natCast, cond_true, rg_wrap (show i < 9223372036854775807 by omega), all1, sgE]; rfl
        | cons o os => simp only [stE, L15_1000962t, L15_1000962s1, rg_lt h1, rg_in h1, rg_ltn h1, Int.toNat_natCast, cond_true, rg_wrap (show i < 9223372036854775807 by omega), all1, sgE, Nat.zero_add, Nat.le_refl, decide_true, List.length_singleton, r1, r2]
      rw [L15_1000962, loopF_eq, hs]
      exact ih _ (i + 1) r' (by omega) (by omega) hd' (by rw [← ht, hr]; simp)
end
theorem gt_t {n m : Nat} (h : n > m) : decide (((n : Nat) : Int) > Int.ofNat m) = true := decide_eq_true (by simp only [ofN]; omega)
theorem gt_f {n m : Nat} (h : ¬ n > m) : decide (((n : Nat) : Int) > Int.ofNat m) = false := decide_eq_false (by simp only [ofN]; omega)
theorem diff_same (a b : List Pr) (ha : a.length ≤ 1100) (hb : b.length ≤ 1100) : ∃ r e, F14 (a, b, ()) = some (r, e, ()) ∧ F15 (a, b, ()) = some (r, e, ()) ∧ r.length ≤ 2200 := by
  by_cases c1 : a.length > 1024
  · exact ⟨[], Int.ofNat 4, by simp only [F14, gt_t c1, cond_true], by simp only [F15, gt_t c1, cond_true], by simp⟩
  by_cases c2 : b.length > 1024
  · exact ⟨[], Int.ofNat 4, by simp only [F14, gt_f c1, gt_t c2, cond_true, cond_false], by simp only [F15, gt_f c1, gt_t c2, cond_true, cond_false], by simp⟩
  obtain ⟨x, hx, ix⟩ := f24 a (by omega)
  obtain ⟨x', hx', ix'⟩ := f25 a (by omega)
  obtain rfl := may_same ix ix'
  obtain ⟨y, hy, iy⟩ := f24 b (by omega)
  obtain ⟨y', hy', iy'⟩ := f25 b (by omega)
  obtain rfl := may_same iy iy'
  cases x with
  | false => exact ⟨[], Int.ofNat 8, by simp only [F14, gt_f c1, gt_f c2, hx, Option.bind_some, Bool.not_false, cond_true, cond_false], by simp only [F15, gt_f c1, gt_f c2, hx', Option.bind_some, Bool.not_false, cond_true, cond_false], by simp⟩
  | true =>
  cases y with
  | false => exact ⟨[], Int.ofNat 8, by simp only [F14, gt_f c1, gt_f c2, hx, hy, Option.bind_some, Bool.not_false, Bool.not_true, cond_true, cond_false], by simp only [F15, gt_f c1, gt_f c2, hx', hy', Option.bind_some, Bool.not_false, Bool.not_true, cond_true, cond_false], by simp⟩
  | true =>
  obtain ⟨r, hr⟩ := dif_ex a b
  have hl := dif_len hr
  have h14 : L14_1000896 (.inl (a, b, Int.ofNat 0, Int.ofNat 0, ())) = some (endD r) := loop14 ha hb r _ [] 0 0 r (Nat.zero_le _) (Nat.zero_le _) hr rfl (by omega) (Nat.le_refl _)
  obtain ⟨o1, i1, r1, g1, g2, g3, g4⟩ := loop960 ha hb r (by omega) _ 0 [] 0 r (Nat.zero_le _) (Nat.zero_le _) (Nat.le_refl _) hr rfl
  have g1 : L15_1000960 (.inl (a, b, Int.ofNat 0, Int.ofNat 0, ())) = some (stE a o1 i1) := g1
  have g5 := loop962 ha hb r (by omega) _ o1 i1 r1 g4 (Nat.le_refl _) g3 g2
  refine ⟨r, Int.ofNat 0, ?_, ?_, by omega⟩
  · simp only [F14, gt_f c1, gt_f c2, hx, hy, Option.bind_some, Bool.not_true, cond_false, h14]
    cases r with
    | nil => rfl
    | cons o os => simp only [endD, Nat.zero_add, Nat.le_refl, decide_true, cond_true, all1, List.isEmpty_cons, cond_false]
  · simp only [F15, gt_f c1, gt_f c2, hx', hy', Option.bind_some, Bool.not_true, cond_false, g1]
    have fin : ∀ Z : Option (List Op_ × Int × Unit), True := fun _ => trivial
    cases o1 with
    | nil =>
      have g5 : L15_1000962 (.inl (a, (i1 : Int), ())) = some (endD r) := g5
      simp only [stE, g5, Option.bind_some]
      cases r with
      | nil => rfl
      | cons o os => simp only [endD, Nat.zero_add, Nat.le_refl, decide_true, cond_true, all1]
    | cons o os =>
      have g5 : L15_1000962 (.inr (a, (o :: os).length, (i1 : Int), o :: os, ())) = some (endD r) := g5
      simp only [stE, g5, Option.bind_some]
      cases r with
      | nil => rfl
      | cons o os => simp only [endD, Nat.zero_add, Nat.le_refl, decide_true, cond_true, all1]
end Go.Proofs.Ytbkpphmonfeaoaa.rowsDiff.Code
set_option maxRecDepth 100000
set_option linter.unusedVariables false
set_option linter.unusedSimpArgs false
set_option linter.constructorNameAsVariable false
namespace Go.Proofs.Ytbkpphmonfeaoaa.rowsDiff.Code
open Go Go.Am
abbrev Mp : Type := List (ByteArray × ByteArray)
theorem ba_beq (a b : ByteArray) : (a == b) = true ↔ a = b := by
  constructor
  · intro h
    obtain ⟨x⟩ := a
    obtain ⟨y⟩ := b
    have : (x == y) = true := h
    rw [eq_of_beq this]
  · rintro rfl
    obtain ⟨x⟩ := a
    show (x == x) = true
    simp
theorem ba_ne {a b : ByteArray} (h : a ≠ b) : (a == b) = false := by
  cases hb : (a == b) with
  | true => exact absurd ((ba_beq a b).1 hb) h
  | false => rfl
theorem ba_self (a : ByteArray) : (a == a) = true := (ba_beq a a).2 rfl
section
variable {k : ByteArray} {v : ByteArray}
theorem set_keys : ∀ (m : Mp), (∀ x, x ∈ (mapSet m k v).map (·.1) ↔ x = k ∨ x ∈ m.map (·.1))
  | [], x => by simp [mapSet]
  | (a, w) :: m, x => by
    simp only [mapSet]
    by_cases h : k = a
    · subst h
      rw [ba_self, if_pos rfl]
      simp
    · rw [ba_ne h, if_neg (by simp)]
      simp only [List.map_cons, List.mem_cons, set_keys m x]
      exact ⟨fun h => by rcases h with h | h | h <;> simp [h], fun h => by rcases h with h | h | h <;> simp [h]⟩
theorem set_nd : ∀ {m : Mp}, (m.map (·.1)).Nodup → ((mapSet m k v).map (·.1)).Nodup
  | [], _ => by simp [mapSet]
  | (a, w) :: m, h => by
    simp only [List.map_cons, List.nodup_cons] at h
    simp only [mapSet]
    by_cases hk : k = a
    · subst hk
      rw [ba_self, if_pos rfl]
      simpa using h
    · rw [ba_ne hk, if_neg (by simp)]
      simp only [List.map_cons, List.nodup_cons]
      refine ⟨fun hx => ?_, set_nd h.2⟩
      rcases (set_keys m a).1 hx with e | e
      · exact hk e.symm
      · exact h.1 e
theorem set_mem : ∀ {m : Mp}, (m.map (·.1)).Nodup → ∀ x y, (x, y) ∈ mapSet m k v ↔ (x = k ∧ y = v) ∨ (x ≠ k ∧ (x, y) ∈ m)
  | [], _, x, y => by simp [mapSet]
  | (a, w) :: m, h, x, y => by
    simp only [List.map_cons, List.nodup_cons] at h
    simp only [mapSet]
    by_cases hk : k = a
    · subst hk
      rw [ba_self, if_pos rfl]
      simp only [List.mem_cons, Prod.mk.injEq]
      constructor
      · rintro (h1 | h1)
        · exact .inl h1
        · exact .inr ⟨fun e => h.1 (by rw [← e]; exact List.mem_map.2 ⟨_, h1, rfl⟩), .inr h1⟩
      · rintro (h1 | ⟨h1, h2 | h2⟩)
        · exact .inl h1
        · exact absurd h2.1 h1
        · exact .inr h2
    · rw [ba_ne hk, if_neg (by simp)]
      simp only [List.mem_cons, Prod.mk.injEq, set_mem h.2 x y]
      constructor
      · rintro (h1 | h1 | h1)
        · exact .inr ⟨fun e => hk (e.symm.trans h1.1), .inl h1⟩
        · exact .inl h1
        · exact .inr ⟨h1.1, .inr h1.2⟩
      · rintro (h1 | ⟨h1, h2 | h2⟩)
        · exact .inr (.inl h1)
        · exact .inl h2
        · exact .inr (.inr ⟨h1, h2⟩)
theorem del_sub : ∀ (m : Mp), (mapDel m k).Sublist m
  | [] => List.Sublist.refl _
  | (a, w) :: m => by
    simp only [mapDel]
    split
    · exact List.sublist_cons_self _ _
    · exact (del_sub m).cons_cons _
theorem del_mem : ∀ {m : Mp}, (m.map (·.1)).Nodup → ∀ x y, (x, y) ∈ mapDel m k ↔ x ≠ k ∧ (x, y) ∈ m
  | [], _, x, y => by simp [mapDel]
  | (a, w) :: m, h, x, y => by
    simp only [List.map_cons, List.nodup_cons] at h
    simp only [mapDel]
    by_cases hk : k = a
    · subst hk
      rw [ba_self, if_pos rfl]
      simp only [List.mem_cons, Prod.mk.injEq]
      constructor
      · intro h1
        exact ⟨fun e => h.1 (by rw [← e]; exact List.mem_map.2 ⟨_, h1, rfl⟩), .inr h1⟩
      · rintro ⟨h1, h2 | h2⟩
        · exact absurd h2.1 h1
        · exact h2
    · rw [ba_ne hk, if_neg (by simp)]
      simp only [List.mem_cons, Prod.mk.injEq, del_mem h.2 x y]
      constructor
      · rintro (h1 | h1)
        · exact ⟨fun e => hk (e.symm.trans h1.1), .inl h1⟩
        · exact ⟨h1.1, .inr h1.2⟩
      · rintro ⟨h1, h2 | h2⟩
        · exact .inl h2
        · exact .inr ⟨h1, h2⟩
theorem get_mem {d : ByteArray} : ∀ {m : Mp}, (m.map (·.1)).Nodup → ∀ {x y}, (x, y) ∈ m → mapGet d m x = y
  | [], _, x, y, h => absurd h List.not_mem_nil
  | (a, w) :: m, hn, x, y, h => by
    simp only [List.map_cons, List.nodup_cons] at hn
    simp only [mapGet]
    rcases List.mem_cons.1 h with h1 | h1
    · obtain ⟨rfl, rfl⟩ := Prod.mk.inj h1
      rw [ba_self, if_pos rfl]
    · have : x ≠ a := fun e => hn.1 (by rw [← e]; exact List.mem_map.2 ⟨_, h1, rfl⟩)
      rw [ba_ne this, if_neg (by simp)]
      exact get_mem hn.2 h1
end
def ins (x : Pr) : List Pr → List Pr
  | [] => [x]
  | p :: l => if ky x < ky p then x :: p :: l else p :: ins x l
theorem ins_mem {x p : Pr} : ∀ {l : List Pr}, p ∈ ins x l ↔ p = x ∨ p ∈ l
  | [] => by simp [ins]
  | q :: l => by
    simp only [ins]
    split
    · simp
    · simp only [List.mem_cons, ins_mem (l := l)]
      exact ⟨fun h => by rcases h with h | h | h <;> simp [h], fun h => by rcases h with h | h | h <;> simp [h]⟩
theorem ins_len {x : Pr} : ∀ (l : List Pr), (ins x l).length = l.length + 1
  | [] => rfl
  | q :: l => by
    simp only [ins]
    split
    · rfl
    · simp [ins_len l]
abbrev Up (l : List Pr) : Prop := l.Pairwise fun p q => ky p < ky q
theorem ins_up {x : Pr} : ∀ {l : List Pr}, Up l → (∀ p ∈ l, ky p ≠ ky x) → Up (ins x l)
  | [], _, _ => by simp [ins, Up]
  | q :: l, h, hn => by
    obtain ⟨h1, h2⟩ := List.pairwise_cons.1 h
    simp only [ins]
    split
    · rename_i hlt
      refine List.pairwise_cons.2 ⟨fun p hp => ?_, h⟩
      rcases List.mem_cons.1 hp with rfl | hp
      · exact hlt
      · exact lt_tr hlt (h1 p hp)
    · rename_i hlt
      refine List.pairwise_cons.2 ⟨fun p hp => ?_, ins_up h2 fun p hp => hn p (List.mem_cons_of_mem _ hp)⟩
      rcases ins_mem.1 hp with rfl | hp
      · rcases lt_or (ky p) (ky q) with e | e | e
        · exact absurd e hlt
        · exact absurd e.symm (hn q List.mem_cons_self)
        · exact e
      · exact h1 p hp
theorem ins_last {x : Pr} : ∀ {l : List Pr}, (∀ p ∈ l, ky p < ky x) → ins x l = l ++ [x]
  | [], _ => rfl
  | q :: l, h => by
    simp only [ins]
    rw [if_neg (lt_as (h q List.mem_cons_self)), ins_last fun p hp => h p (List.mem_cons_of_mem _ hp)]
    rfl
abbrev wo (k : ByteArray) (l : List Pr) : List Pr := l.filter fun p => !(ByteArray.toList p.1 == k.toList)
theorem wo_mem {k : ByteArray} {l : List Pr} {p : Pr} : p ∈ wo k l ↔ p ∈ l ∧ p.1 ≠ k := by
  rw [List.mem_filter]
  simp only [Bool.not_eq_true', beq_eq_false_iff_ne, ne_eq]
  exact ⟨fun h => ⟨h.1, fun e => h.2 (by rw [e])⟩, fun h => ⟨h.1, fun e => h.2 (ba_inj e)⟩⟩
theorem wo_len {k : ByteArray} {l : List Pr} : (wo k l).length ≤ l.length := List.length_filter_le _ _
structure Rep (m : Mp) (out : List Pr) : Prop where
  nd : (m.map (·.1)).Nodup
  up : Up out
  mem : ∀ x y, (x, y) ∈ m ↔ (x, y, ()) ∈ out
theorem ky_inj {p q : Pr} (h : ky p = ky q) : p.1 = q.1 := ba_inj h
theorem rep_set {m : Mp} {out : List Pr} (h : Rep m out) (k v : ByteArray) : Rep (mapSet m k v) (ins (k, v, ()) (wo k out)) where
  nd := set_nd h.nd
  up := ins_up (h.up.sublist List.filter_sublist) fun p hp e => (wo_mem.1 hp).2 (ky_inj (q := (k, v, ())) e)
  mem := fun x y => by
    rw [set_mem h.nd, ins_mem, wo_mem, h.mem]
    constructor
    · rintro (⟨rfl, rfl⟩ | ⟨h1, h2⟩)
      · exact .inl rfl
      · exact .inr ⟨h2, h1⟩
    · rintro (h1 | ⟨h1, h2⟩)
      · obtain ⟨rfl, h2⟩ := Prod.mk.inj h1
        obtain ⟨rfl, _⟩ := Prod.mk.inj h2
        exact .inl ⟨rfl, rfl⟩
      · exact .inr ⟨h2, h1⟩
theorem rep_del {m : Mp} {out : List Pr} (h : Rep m out) (k : ByteArray) : Rep (mapDel m k) (wo k out) where
  nd := ((del_sub m).map _).nodup h.nd
  up := h.up.sublist List.filter_sublist
  mem := fun x y => by
    rw [del_mem h.nd, wo_mem, h.mem]
    exact ⟨fun h => ⟨h.2, h.1⟩, fun h => ⟨h.2, h.1⟩⟩
theorem rep_nil : Rep [] [] := ⟨List.nodup_nil, .nil, fun x y => by simp⟩
theorem rep_last {m : Mp} {out : List Pr} (h : Rep m out) (p : Pr) (hp : ∀ q ∈ out, ky q < ky p) : Rep (mapSet m p.1 p.2.1) (out ++ [p]) := by
  have h1 := rep_set h p.1 p.2.1
  have h2 : wo p.1 out = out := List.filter_eq_self.2 fun q hq => by
    have := lt_ne (hp q hq)
    simpa using this
  rw [h2, ins_last hp] at h1
  exact h1
theorem up_nd {l : List Pr} (h : Up l) : (l.map (·.1)).Nodup :=
  List.pairwise_map.2 (h.imp fun {p q} (hlt : ky p < ky q) => show p.1 ≠ q.1 from fun e => lt_ne hlt (by rw [ky, ky, e]))
theorem rep_keys {m : Mp} {out : List Pr} (h : Rep m out) : (m.map (·.1)).Perm (out.map (·.1)) := by
  refine (List.perm_ext_iff_of_nodup h.nd (up_nd h.up)).2 fun x => ?_
  rw [List.mem_map, List.mem_map]
  constructor
  · rintro ⟨⟨a, b⟩, h1, rfl⟩
    exact ⟨(a, b, ()), (h.mem a b).1 h1, rfl⟩
  · rintro ⟨⟨a, b, _⟩, h1, rfl⟩
    exact ⟨(a, b), (h.mem a b).2 h1, rfl⟩
theorem rep_len {m : Mp} {out : List Pr} (h : Rep m out) : m.length = out.length := by
  have := (rep_keys h).length_eq
  simpa using this
theorem rep_sort {m : Mp} {out : List Pr} (h : Rep m out) : sortK (m.map (·.1)) = out.map (·.1) := by
  have h1 : ((m.map (·.1)).map fun k : ByteArray => k.data.toList).Perm (out.map fun p : Pr => p.1.data.toList) := by
    have := (rep_keys h).map fun k : ByteArray => k.data.toList
    rwa [List.map_map (l := out)] at this
  have h2 : ((m.map (·.1)).map fun k : ByteArray => k.data.toList).mergeSort (fun x y => decide (x ≤ y)) = out.map fun p : Pr => p.1.data.toList := by
    refine (mergeSort_of_perm h1).trans ?_
    refine List.mergeSort_of_pairwise ?_
    refine List.pairwise_map.2 (h.up.imp fun {p q} hlt => ?_)
    have hlt : ByteArray.toList p.1 < ByteArray.toList q.1 := hlt
    rw [ByteArray.toList_eq, ByteArray.toList_eq] at hlt
    exact decide_eq_true (List.le_of_lt hlt)
  unfold sortK
  rw [h2, List.map_map]
  exact List.map_congr_left fun p _ => rfl
theorem rep_out {m : Mp} {out : List Pr} (h : Rep m out) (d : ByteArray) : (out.map (·.1)).map (fun k => ((k, mapGet d m k, ()) : Pr)) = out := by
  rw [List.map_map]
  have : out.map ((fun k => ((k, mapGet d m k, ()) : Pr)) ∘ fun p : Pr => p.1) = out.map id := List.map_congr_left fun p hp => by
    obtain ⟨a, b, _⟩ := p
    show (a, mapGet d m a, ()) = (a, b, ())
    rw [get_mem h.nd ((h.mem a b).2 hp)]
  rw [this, List.map_id]
end Go.Proofs.Ytbkpphmonfeaoaa.rowsDiff.Code
set_option maxRecDepth 100000
set_option linter.unusedVariables false
set_option linter.unusedSimpArgs false
set_option linter.unusedSectionVars false
set_option linter.constructorNameAsVariable false
namespace Go.Proofs.Ytbkpphmonfeaoaa.rowsDiff.Code
open Go Go.Am
theorem roomP {n : Nat} (h : n ≤ 5000) : (decide ((n + 1) * 32 ≤ maxRoom) && decide (n + 1 ≤ maxRoom)) = true := by
  show (decide ((n + 1) * 32 ≤ 2 ^ 46) && decide (n + 1 ≤ 2 ^ 46)) = true
  simp only [Bool.and_eq_true, decide_eq_true_eq]; omega
theorem roomP' {n : Nat} (h : n ≤ 5000) : (decide ((n + 1) * 32 ≤ 2 ^ 46) && decide (n + 1 ≤ 2 ^ 46)) = true := by
  simp only [Bool.and_eq_true, decide_eq_true_eq]; omega
def stW (l : List Pr) (k : ByteArray) (out : List Pr) (i : Nat) : Y13 ⊕ Y32 := match out with
  | [] => .inl (l, k, (i : Int), ())
  | o :: os => .inr (l, k, (o :: os).length, (i : Int), o :: os, ())
theorem stW_app {l : List Pr} {k : ByteArray} {out : List Pr} {x : Pr} {i : Nat} : stW l k (out ++ [x]) i = .inr (l, k, (out ++ [x]).length, (i : Int), out ++ [x], ()) := by
  cases out <;> rfl
abbrev endW (out : List Pr) : Unit ⊕ Y6 := match out with
  | [] => .inl ()
  | o :: os => .inr ((o :: os).length, o :: os, ())
theorem drop_at {l : List Pr} {i : Nat} (h : i < l.length) : l.drop i = at_ l i :: l.drop (i + 1) := by
  rw [List.drop_eq_getElem_cons h, at_, getD_get h]
section
variable {l : List Pr} (hl : l.length ≤ 3000) {k : ByteArray}
include hl
theorem loop28 (total : List Pr) (htl : total.length ≤ 3000) : ∀ (n : Nat) (out : List Pr) (i : Nat), i ≤ l.length → l.length - i ≤ n → out ++ wo k (l.drop i) = total → L28_1001792 (stW l k out i) = some (endW total) := fun n => by
  have hex : ∀ out : List Pr, out ++ wo k (l.drop l.length) = total → L28_1001792t (stW l k out l.length) = some (.inr (endW total)) := fun out ht => by
    rw [List.drop_length] at ht
    have : out = total := by simpa using ht
    subst this
    cases out with
    | nil => simp only [stW, L28_1001792t, L28_1001792s0, lt_f, cond_false]
    | cons o os => simp only [stW, L28_1001792t, L28_1001792s1, L28_1001792s1r, lt_f, cond_false]
  induction n with
  | zero =>
    intro out i hi hn ht
    obtain rfl : i = l.length := by omega
    rw [L28_1001792, loopF_eq, hex out ht]
  | succ n ih =>
    intro out i hi hn ht
    by_cases c : i = l.length
    · subst c
      rw [L28_1001792, loopF_eq, hex out ht]
    · have h1 : i < l.length := by omega
      have hol : out.length ≤ 3000 := by rw [← ht, List.length_append] at htl; omega
      have r1 := roomP (n := out.length) (by omega)
      have r2 := roomP' (n := out.length) (by omega)
      rw [drop_at h1] at ht
      cases hb : (ByteArray.toList (at_ l i).1 == k.toList) with
      | true =>
        have hs : L28_1001792t (stW l k out i) = some (.inl (stW l k out (i + 1))) := by
          cases out with
          | nil => simp only [stW, L28_1001792t, L28_1001792s0, rg_lt h1, rg_in h1, rg_ltn h1, Int.toNat_natCast, hb, Bool.not_true, cond_true, cond_false, rg_wrap (show i < 9223372036854775807 by omega)]
          | cons o os => simp only [stW, L28_1001792t, L28_1001792s1, L28_1001792s1r, rg_lt h1, rg_in h1, rg_ltn h1, Int.toNat_natCast, hb, Bool.not_true, cond_true, cond_false, rg_wrap (show i < 9223372036854775807 by omega)]
        rw [L28_1001792, loopF_eq, hs]
        refine ih out (i + 1) (by omega) (by omega) ?_
        rw [wo, List.filter_cons, hb] at ht
        simpa using ht
      | false =>
        have hs : L28_1001792t (stW l k out i) = some (.inl (stW l k (out ++ [at_ l i]) (i + 1))) := by
          rw [stW_app]
          cases out with
          | nil => simp only [stW, L28_1001792t, L28_1001792s0, rg_lt h1, rg_in h1, rg_ltn h1, Int.toNat_natCast, hb, Bool.not_false, cond_true, cond_false, rg_wrap (show i < 9223372036854775807 by omega), all1, sgE]; rfl
          | cons o os => simp only [stW, L28_1001792t, L28_1001792s1, L28_1001792s1r, rg_lt h1, rg_in h1, rg_ltn h1, Int.toNat_natCast, hb, Bool.not_false, cond_true, cond_false, rg_wrap (show i < 9223372036854775807 by omega), all1, sgE, Nat.zero_add, Nat.le_refl, decide_true, List.length_singleton, r1, r2]
        rw [L28_1001792, loopF_eq, hs]
        refine ih _ (i + 1) (by omega) (by omega) ?_
        rw [wo, List.filter_cons, hb] at ht
        simpa using ht
theorem f28 : F28 (l, k, ()) = some (wo k l, ()) := by
  have h : L28_1001792 (.inl (l, k, Int.ofNat 0, ())) = some (endW (wo k l)) := loop28 (k := k) hl (wo k l) (Nat.le_trans wo_len hl) _ [] 0 (Nat.zero_le _) (Nat.le_refl _) rfl
  simp only [F28, h, Option.bind_some]
  cases hw : wo k l with
  | nil => rfl
  | cons o os => simp only [endW, Nat.zero_add, Nat.le_refl, decide_true, cond_true, all1]
end
def stI (l : List Pr) (x : Pr) (out : List Pr) (put : Bool) (i : Nat) : Y37 ⊕ Y46 := match out with
  | [] => .inl (l, put, (i : Int), x.1, x.2.1, ())
  | o :: os => .inr (l, (o :: os).length, put, (i : Int), x.1, x.2.1, o :: os, ())
theorem stI_app {l : List Pr} {x y : Pr} {out : List Pr} {put : Bool} {i : Nat} : stI l x (out ++ [y]) put i = .inr (l, (out ++ [y]).length, put, (i : Int), x.1, x.2.1, out ++ [y], ()) := by
  cases out <;> rfl
abbrev endI (x : Pr) (out : List Pr) (put : Bool) : Y14 ⊕ Y38 := match out with
  | [] => .inl (put, x.1, x.2.1, ())
  | o :: os => .inr ((o :: os).length, put, x.1, x.2.1, o :: os, ())
section
variable {l : List Pr} (hl : l.length ≤ 3000) {x : Pr}
include hl
theorem exit29 (out : List Pr) (put : Bool) : L29_1001856t (stI l x out put l.length) = some (.inr (endI x out put)) := by
  cases out with
  | nil => simp only [stI, L29_1001856t, L29_1001856s0, L29_1001856s0r, lt_f, cond_false]
  | cons o os => simp only [stI, L29_1001856t, L29_1001856s1, L29_1001856s1r, lt_f, cond_false]
set_option maxHeartbeats 1000000 in
theorem step29 {out : List Pr} {put : Bool} {i : Nat} (hol : out.length ≤ 3001) (h1 : i < l.length) :
    L29_1001856t (stI l x out put i) = some (.inl (if put = false ∧ ky x < ky (at_ l i) then stI l x (out ++ [x] ++ [at_ l i]) true (i + 1) else stI l x (out ++ [at_ l i]) put (i + 1))) := by
  have r1 := roomP (n := out.length) (by omega)
  have r2 := roomP' (n := out.length) (by omega)
  have r3 := roomP (n := out.length + 1) (by omega)
  have r4 := roomP' (n := out.length + 1) (by omega)
  have hw := rg_wrap (show i < 9223372036854775807 by omega)
  obtain ⟨xk, xv, _⟩ := x
  cases put with
  | true =>
    rw [if_neg (by simp), stI_app]
    cases out with
    | nil => simp only [stI, L29_1001856t, L29_1001856s0, L29_1001856s0r, rg_lt h1, rg_in h1, rg_ltn h1, Int.toNat_natCast, Bool.not_true, cond_true, cond_false, hw, all1, sgE]; rfl
    | cons o os => simp only [stI, L29_1001856t, L29_1001856s1, L29_1001856s1r, rg_lt h1, rg_in h1, rg_ltn h1, Int.toNat_natCast, Bool.not_true, cond_true, cond_false, hw, all1, sgE, Nat.zero_add, Nat.le_refl, decide_true, List.length_singleton, r1, r2]
  | false =>
    by_cases c : xk.toList < ky (at_ l i)
    · rw [if_pos ⟨rfl, c⟩, stI_app]
      have e := bl_t c
      cases out with
      | nil => simp only [stI, L29_1001856t, L29_1001856s0, L29_1001856s0r, rg_lt h1, rg_in h1, rg_ltn h1, Int.toNat_natCast, Bool.not_false, e, cond_true, cond_false, hw, all1, sgE]; rfl
      | cons o os => simp only [stI, L29_1001856t, L29_1001856s1, L29_1001856s1r, rg_lt h1, rg_in h1, rg_ltn h1, Int.toNat_natCast, Bool.not_false, e, cond_true, cond_false, hw, all1, sgE, Nat.zero_add, Nat.le_refl, decide_true, List.length_singleton, List.length_append, r1, r2, r3, r4]
    · rw [if_neg (fun h => c h.2), stI_app]
      have e := bl_f c
      cases out with
      | nil => simp only [stI, L29_1001856t, L29_1001856s0, L29_1001856s0r, rg_lt h1, rg_in h1, rg_ltn h1, Int.toNat_natCast, Bool.not_false, e, cond_true, cond_false, hw, all1, sgE]; rfl
      | cons o os => simp only [stI, L29_1001856t, L29_1001856s1, L29_1001856s1r, rg_lt h1, rg_in h1, rg_ltn h1, Int.toNat_natCast, Bool.not_false, e, cond_true, cond_false, hw, all1, sgE, Nat.zero_add, Nat.le_refl, decide_true, List.length_singleton, List.length_append, r1, r2, r3, r4]
theorem loop29 (total : List Pr) (htl : total.length ≤ 3001) : ∀ (n : Nat) (out : List Pr) (put : Bool) (i : Nat), i ≤ l.length → l.length - i ≤ n → out ++ (if put = true then l.drop i else ins x (l.drop i)) = total →
    ∃ out' put', L29_1001856 (stI l x out put i) = some (endI x out' put') ∧ (if put' = true then out' else out' ++ [x]) = total := fun n => by
  have hfin : ∀ (out : List Pr) (put : Bool), out ++ (if put = true then l.drop l.length else ins x (l.drop l.length)) = total → ∃ out' put', L29_1001856 (stI l x out put l.length) = some (endI x out' put') ∧ (if put' = true then out' else out' ++ [x]) = total := fun out put ht => by
    refine ⟨out, put, by rw [L29_1001856, loopF_eq, exit29 hl], ?_⟩
    rw [List.drop_length] at ht
    cases put with
    | true => simpa using ht
    | false => simpa [ins] using ht
  induction n with
  | zero =>
    intro out put i hi hn ht
    obtain rfl : i = l.length := by omega
    exact hfin out put ht
  | succ n ih =>
    intro out put i hi hn ht
    by_cases c : i = l.length
    · subst c
      exact hfin out put ht
    · have h1 : i < l.length := by omega
      have hol : out.length ≤ 3001 := by rw [← ht, List.length_append] at htl; omega
      have hs := step29 (x := x) (put := put) hl hol h1
      rw [drop_at h1] at ht
      by_cases cc : put = false ∧ ky x < ky (at_ l i)
      · rw [if_pos cc] at hs
        obtain ⟨rfl, hlt⟩ := cc
        obtain ⟨o', p', g1, g2⟩ := ih (out ++ [x] ++ [at_ l i]) true (i + 1) (by omega) (by omega) (by
          rw [← ht, if_pos rfl, if_neg (by simp), ins, if_pos hlt]; simp)
        exact ⟨o', p', by rw [L29_1001856, loopF_eq, hs]; exact g1, g2⟩
      · rw [if_neg cc] at hs
        obtain ⟨o', p', g1, g2⟩ := ih (out ++ [at_ l i]) put (i + 1) (by omega) (by omega) (by
          rw [← ht]
          cases put with
          | true => simp
          | false =>
            have hlt : ¬ ky x < ky (at_ l i) := fun h => cc ⟨rfl, h⟩
            rw [if_neg (by simp), if_neg (by simp), ins, if_neg hlt]; simp)
        exact ⟨o', p', by rw [L29_1001856, loopF_eq, hs]; exact g1, g2⟩
theorem f29 : F29 (l, x, ()) = some (ins x l, ()) := by
  obtain ⟨o, p, h1, h2⟩ := loop29 (x := x) hl (ins x l) (by rw [ins_len]; omega) _ [] false 0 (Nat.zero_le _) (Nat.le_refl _) (by simp)
  have h1 : L29_1001856 (.inl (l, false, Int.ofNat 0, x.1, x.2.1, ())) = some (endI x o p) := h1
  have hol : o.length ≤ 3001 := by
    have := congrArg List.length h2
    rw [ins_len] at this
    cases p with
    | true => simp at this; omega
    | false => simp at this; omega
  have r1 := roomP (n := o.length) (by omega)
  have r2 := roomP' (n := o.length) (by omega)
  simp only [F29, h1, Option.bind_some]
  obtain ⟨xk, xv, _⟩ := x
  rw [← h2]
  cases o with
  | nil =>
    cases p with
    | true => rfl
    | false => simp only [endI, Bool.not_false, cond_true, all1, sgE]; rfl
  | cons o os =>
    cases p with
    | true => simp only [endI, Bool.not_true, cond_false, cond_true, Nat.zero_add, Nat.le_refl, decide_true, all1, if_true]
    | false => simp only [endI, Bool.not_false, cond_true, Nat.zero_add, Nat.le_refl, decide_true, all1, sgE, List.length_singleton, r1, r2]; rfl
end
end Go.Proofs.Ytbkpphmonfeaoaa.rowsDiff.Code
set_option maxRecDepth 100000
set_option linter.unusedVariables false
set_option linter.unusedSimpArgs false
set_option linter.unusedSectionVars false
set_option linter.constructorNameAsVariable false
namespace Go.Proofs.Ytbkpphmonfeaoaa.rowsDiff.Code
open Go Go.Am
abbrev atO (l : List Op_) (i : Nat) : Op_ := l.getD i (dft sOp)
def okO (o : Op_) : Prop := 1 ≤ o.1.size ∧ o.1.size ≤ 64 ∧ o.2.2.1.size ≤ 512
def opS (o : Op_) (out : List Pr) : List Pr := if o.2.1 = true then wo o.1 out else ins (o.1, o.2.2.1, ()) (wo o.1 out)
def opM (o : Op_) (m : Mp) : Mp := if o.2.1 = true then mapDel m o.1 else mapSet m o.1 o.2.2.1
theorem rep_op {m : Mp} {out : List Pr} (h : Rep m out) (o : Op_) : Rep (opM o m) (opS o out) := by
  unfold opM opS
  split
  · exact rep_del h o.1
  · exact rep_set h o.1 o.2.2.1
theorem opS_len (o : Op_) (out : List Pr) : (opS o out).length ≤ out.length + 1 := by
  unfold opS
  have := wo_len (k := o.1) (l := out)
  split
  · omega
  · rw [ins_len]; omega
abbrev Short (l : List Pr) : Prop := ∀ p ∈ l, p.1.size ≤ 64
theorem short_op {o : Op_} {out : List Pr} (ho : okO o) (h : Short out) : Short (opS o out) := by
  unfold opS
  split
  · exact fun p hp => h p (wo_mem.1 hp).1
  · intro p hp
    rcases ins_mem.1 hp with rfl | hp
    · exact ho.2.1
    · exact h p (wo_mem.1 hp).1
theorem s_lt {n : Nat} (h : n < 1) : decide (((n : Nat) : Int) < Int.ofNat 1) = true := decide_eq_true (by simp only [ofN]; omega)
theorem s_ge {n : Nat} (h : ¬ n < 1) : decide (((n : Nat) : Int) < Int.ofNat 1) = false := decide_eq_false (by simp only [ofN]; omega)
section
variable {ops : List Op_} (hops : ops.length ≤ 1100)
include hops
theorem stepM {i : Nat} (h : i < ops.length) (m : Mp) : (okO (atO ops i) ∧ L16_1001025t (ops, (ops.length : Int), (i : Int), m, ()) = some (.inl (ops, (ops.length : Int), ((i + 1 : Nat) : Int), opM (atO ops i) m, ()))) ∨
    (¬ okO (atO ops i) ∧ ∃ z, L16_1001025t (ops, (ops.length : Int), (i : Int), m, ()) = some (.inr (.inl (Int.ofNat 3, z)))) := by
  simp only [L16_1001025t, L16_1001025s0, rg_lt h, rg_in h, rg_ltn h, cond_true, Int.toNat_natCast]
  by_cases c1 : (atO ops i).1.size < 1
  · rw [s_lt c1, cond_true]
    exact .inr ⟨fun hk => by have := hk.1; omega, _, rfl⟩
  rw [s_ge c1, cond_false]
  by_cases c2 : (atO ops i).1.size > 64
  · rw [gt_t c2, cond_true]
    exact .inr ⟨fun hk => by have := hk.2.1; omega, _, rfl⟩
  rw [gt_f c2, cond_false]
  by_cases c3 : (atO ops i).2.2.1.size > 512
  · rw [gt_t c3, cond_true]
    exact .inr ⟨fun hk => by have := hk.2.2; omega, _, rfl⟩
  rw [gt_f c3, cond_false, rg_wrap (by omega)]
  refine .inl ⟨⟨by omega, by omega, by omega⟩, ?_⟩
  unfold opM
  cases (atO ops i).2.1 with
  | true => rfl
  | false => rfl
def stO (ops : List Op_) (w : Nat) (out : List Pr) (i : Nat) : Y22 := match w with
  | 0 => .inl (ops, (i : Int), ())
  | 1 => .inr (.inl (ops, out, (i : Int), ()))
  | _ => .inr (.inr (ops, out.length, (i : Int), out, ()))
set_option maxHeartbeats 1000000 in
theorem stepL {i : Nat} (h : i < ops.length) {w : Nat} {out : List Pr} (hol : out.length ≤ 3000) (hw0 : w = 0 → out = []) (hw : w ≤ 2) :
    (okO (atO ops i) ∧ L17_1001088t (stO ops w out i) = some (.inl (stO ops 1 (opS (atO ops i) out) (i + 1)))) ∨
    (¬ okO (atO ops i) ∧ ∃ z, L17_1001088t (stO ops w out i) = some (.inr z) ∧ ((∃ y, z = .inl (Int.ofNat 3, y)) ∨ ∃ y, z = .inr (.inr (.inr (.inl (Int.ofNat 3, y)))))) := by
  have h28 := f28 (l := out) (k := (atO ops i).1) hol
  have h29 := f29 (l := wo (atO ops i).1 out) (x := ((atO ops i).1, (atO ops i).2.2.1, ())) (Nat.le_trans wo_len hol)
  have hwr := rg_wrap (show i < 9223372036854775807 by omega)
  have hcase : w = 0 ∨ w = 1 ∨ w = 2 := by omega
  by_cases c1 : (atO ops i).1.size < 1
  · refine .inr ⟨fun hk => by have := hk.1; omega, ?_⟩
    rcases hcase with rfl | rfl | rfl
    · exact ⟨_, by simp only [stO, L17_1001088t, L17_1001088s0, rg_lt h, rg_in h, rg_ltn h, cond_true, Int.toNat_natCast, s_lt c1]; rfl, .inl ⟨_, rfl⟩⟩
    · exact ⟨_, by simp only [stO, L17_1001088t, L17_1001088s1, rg_lt h, rg_in h, rg_ltn h, cond_true, Int.toNat_natCast, s_lt c1]; rfl, .inl ⟨_, rfl⟩⟩
    · exact ⟨_, by simp only [stO, L17_1001088t, L17_1001088s2, rg_lt h, rg_in h, rg_ltn h, cond_true, Int.toNat_natCast, s_lt c1]; rfl, .inr ⟨_, rfl⟩⟩
  by_cases c2 : (atO ops i).1.size > 64
  · refine .inr ⟨fun hk => by have := hk.2.1; omega, ?_⟩
    rcases hcase with rfl | rfl | rfl
    · exact ⟨_, by simp only [stO, L17_1001088t, L17_1001088s0, rg_lt h, rg_in h, rg_ltn h, cond_true, cond_false, Int.toNat_natCast, s_ge c1, gt_t c2]; rfl, .inl ⟨_, rfl⟩⟩
    · exact ⟨_, by simp only [stO, L17_1001088t, L17_1001088s1, rg_lt h, rg_in h, rg_ltn h, cond_true, cond_false, Int.toNat_natCast, s_ge c1, gt_t c2]; rfl, .inl ⟨_, rfl⟩⟩
    · exact ⟨_, by simp only [stO, L17_1001088t, L17_1001088s2, rg_lt h, rg_in h, rg_ltn h, cond_true, cond_false, Int.toNat_natCast, s_ge c1, gt_t c2]; rfl, .inr ⟨_, rfl⟩⟩
  by_cases c3 : (atO ops i).2.2.1.size > 512
  · refine .inr ⟨fun hk => by have := hk.2.2; omega, ?_⟩
    rcases hcase with rfl | rfl | rfl
    · exact ⟨_, by simp only [stO, L17_1001088t, L17_1001088s0, rg_lt h, rg_in h, rg_ltn h, cond_true, cond_false, Int.toNat_natCast, s_ge c1, gt_f c2, gt_t c3]; rfl, .inl ⟨_, rfl⟩⟩
    · exact ⟨_, by simp only [stO, L17_1001088t, L17_1001088s1, rg_lt h, rg_in h, rg_ltn h, cond_true, cond_false, Int.toNat_natCast, s_ge c1, gt_f c2, gt_t c3]; rfl, .inl ⟨_, rfl⟩⟩
    · exact ⟨_, by simp only [stO, L17_1001088t, L17_1001088s2, rg_lt h, rg_in h, rg_ltn h, cond_true, cond_false, Int.toNat_natCast, s_ge c1, gt_f c2, gt_t c3]; rfl, .inr ⟨_, rfl⟩⟩
  refine .inl ⟨⟨by omega, by omega, by omega⟩, ?_⟩
  have hd : (atO ops i).2.1 = true ∨ (atO ops i).2.1 = false := by cases (atO ops i).2.1 <;> simp
  rcases hcase with rfl | rfl | rfl
  · obtain rfl := hw0 rfl
    rcases hd with hd | hd
    · simp only [stO, opS, L17_1001088t, L17_1001088s0, rg_lt h, rg_in h, rg_ltn h, cond_true, cond_false, Int.toNat_natCast, s_ge c1, gt_f c2, gt_f c3, h28, Option.bind_some, hd, Bool.not_true, hwr, if_true]
    · simp only [stO, opS, L17_1001088t, L17_1001088s0, rg_lt h, rg_in h, rg_ltn h, cond_true, cond_false, Int.toNat_natCast, s_ge c1, gt_f c2, gt_f c3, h28, h29, Option.bind_some, hd, Bool.not_false, hwr]; rfl
  · rcases hd with hd | hd
    · simp only [stO, opS, L17_1001088t, L17_1001088s1, rg_lt h, rg_in h, rg_ltn h, cond_true, cond_false, Int.toNat_natCast, s_ge c1, gt_f c2, gt_f c3, h28, Option.bind_some, hd, Bool.not_true, hwr, if_true]
    · simp only [stO, opS, L17_1001088t, L17_1001088s1, rg_lt h, rg_in h, rg_ltn h, cond_true, cond_false, Int.toNat_natCast, s_ge c1, gt_f c2, gt_f c3, h28, h29, Option.bind_some, hd, Bool.not_false, hwr]; rfl
  · rcases hd with hd | hd
    · simp only [stO, opS, L17_1001088t, L17_1001088s2, rg_lt h, rg_in h, rg_ltn h, cond_true, cond_false, Int.toNat_natCast, s_ge c1, gt_f c2, gt_f c3, Nat.zero_add, Nat.le_refl, decide_true, all1, h28, Option.bind_some, hd, Bool.not_true, hwr, if_true]
    · simp only [stO, opS, L17_1001088t, L17_1001088s2, rg_lt h, rg_in h, rg_ltn h, cond_true, cond_false, Int.toNat_natCast, s_ge c1, gt_f c2, gt_f c3, Nat.zero_add, Nat.le_refl, decide_true, all1, h28, h29, Option.bind_some, hd, Bool.not_false, hwr]; rfl
abbrev endO (w : Nat) (out : List Pr) : Y36 := match w with
  | 0 => .inr (.inl ())
  | 1 => .inr (.inr (.inl (out, ())))
  | _ => .inr (.inr (.inr (.inr (out.length, out, ()))))
theorem exitL {w : Nat} {out : List Pr} (hw : w ≤ 2) : L17_1001088t (stO ops w out ops.length) = some (.inr (endO w out)) := by
  have hcase : w = 0 ∨ w = 1 ∨ w = 2 := by omega
  rcases hcase with rfl | rfl | rfl
  · simp only [stO, L17_1001088t, L17_1001088s0, lt_f, cond_false]; rfl
  · simp only [stO, L17_1001088t, L17_1001088s1, lt_f, cond_false]; rfl
  · simp only [stO, L17_1001088t, L17_1001088s2, lt_f, cond_false]; rfl
theorem exitM (m : Mp) : L16_1001025t (ops, (ops.length : Int), (ops.length : Int), m, ()) = some (.inr (.inr (m, ()))) := by
  simp only [L16_1001025t, L16_1001025s0, lt_f, cond_false]
theorem both : ∀ (n : Nat) (i w : Nat) (m : Mp) (out : List Pr), i ≤ ops.length → ops.length - i ≤ n → w ≤ 2 → (w = 0 → out = []) → Rep m out → Short out → out.length ≤ 1100 + i →
    ((∃ z, L16_1001025 (ops, (ops.length : Int), (i : Int), m, ()) = some (.inl (Int.ofNat 3, z))) ∧ ∃ z, L17_1001088 (stO ops w out i) = some z ∧ ((∃ y, z = .inl (Int.ofNat 3, y)) ∨ ∃ y, z = .inr (.inr (.inr (.inl (Int.ofNat 3, y)))))) ∨
    ∃ m' out' w', L16_1001025 (ops, (ops.length : Int), (i : Int), m, ()) = some (.inr (m', ())) ∧ L17_1001088 (stO ops w out i) = some (endO w' out') ∧ Rep m' out' ∧ Short out' ∧ out'.length ≤ 2200 ∧ w' ≤ 2 ∧ (w' = 0 → out' = []) := fun n => by
  have hfin : ∀ (w : Nat) (m : Mp) (out : List Pr), w ≤ 2 → (w = 0 → out = []) → Rep m out → Short out → out.length ≤ 1100 + ops.length → ∃ m' out' w', L16_1001025 (ops, (ops.length : Int), (ops.length : Int), m, ()) = some (.inr (m', ())) ∧ L17_1001088 (stO ops w out ops.length) = some (endO w' out') ∧ Rep m' out' ∧ Short out' ∧ out'.length ≤ 2200 ∧ w' ≤ 2 ∧ (w' = 0 → out' = []) := fun w m out hw h0 hr hsh hl =>
    ⟨m, out, w, by rw [L16_1001025, loopF_eq, exitM hops], by rw [L17_1001088, loopF_eq, exitL hops hw], hr, hsh, by omega, hw, h0⟩
  induction n with
  | zero =>
    intro i w m out hi hn hw h0 hr hsh hl
    obtain rfl : i = ops.length := by omega
    exact .inr (hfin w m out hw h0 hr hsh hl)
  | succ n ih =>
    intro i w m out hi hn hw h0 hr hsh hl
    by_cases c : i = ops.length
    · subst c
      exact .inr (hfin w m out hw h0 hr hsh hl)
    · have h : i < ops.length := by omega
      rcases stepM hops h m with ⟨hk, h1⟩ | ⟨hk, z, h1⟩
      · rcases stepL hops h (w := w) (out := out) (by omega) h0 hw with ⟨_, h2⟩ | ⟨hn2, _⟩
        · have hlen := opS_len (atO ops i) out
          have := ih (i + 1) 1 (opM (atO ops i) m) (opS (atO ops i) out) (by omega) (by omega) (by omega) (fun h => absurd h (by omega)) (rep_op hr _) (short_op hk hsh) (by omega)
          rw [L16_1001025, loopF_eq, h1, L17_1001088, loopF_eq, h2]
          exact this
        · exact absurd hk hn2
      · rcases stepL hops h (w := w) (out := out) (by omega) h0 hw with ⟨hk2, _⟩ | ⟨_, z2, h2, hz⟩
        · exact absurd hk2 hk
        · exact .inl ⟨⟨z, by rw [L16_1001025, loopF_eq, h1]⟩, z2, by rw [L17_1001088, loopF_eq, h2], hz⟩
end
theorem build (ops : List Op_) {l : List Pr} (hl : l.length ≤ 1100) (hm : MayP l) : ∃ m, L16_1001024 (ops, l, (l.length : Int), Int.ofNat 0, [], ()) = some (ops, m, ()) ∧ Rep m l := by
  have hup : ∀ i j : Nat, i < j → j < l.length → ky (at_ l i) < ky (at_ l j) := fun i j => by
    induction j with
    | zero => intro h; exact absurd h (Nat.not_lt_zero _)
    | succ j ih =>
      intro h hj
      by_cases c : i = j
      · subst c; exact hm.up i hj
      · exact lt_tr (ih (by omega) (by omega)) (hm.up j hj)
  obtain ⟨y, hy, m, rfl, hr⟩ := rng_hoare (st := L16_1001024t) l.length (fun i (m : Mp) => (ops, l, (l.length : Int), (i : Int), m, ())) (fun i m => Rep m (l.take i)) (fun y => ∃ m, y = (ops, m, ()) ∧ Rep m l) (fun i m h hr => by
      simp only [L16_1001024t, L16_1001024s0, rg_lt h, rg_in h, rg_ltn h, cond_true, Int.toNat_natCast]
      rw [rg_wrap (by omega)]
      refine .inl ⟨_, rfl, ?_⟩
      have ht : l.take (i + 1) = l.take i ++ [at_ l i] := by rw [List.take_succ_eq_append_getElem h, at_, getD_get h]
      rw [ht]
      refine rep_last hr (at_ l i) fun q hq => ?_
      obtain ⟨j, hj, rfl⟩ := List.mem_iff_getElem.1 hq
      rw [List.length_take] at hj
      rw [List.getElem_take]
      have := hup j i (by omega) h
      rwa [at_, getD_get (by omega)] at this) (fun m hr => ⟨_, by simp only [L16_1001024t, L16_1001024s0, rg_end, cond_false], m, rfl, by rwa [List.take_length] at hr⟩) [] rep_nil
  exact ⟨m, hy, hr⟩
abbrev endK (m : Mp) (out : List Pr) : Y11 := match out with
  | [] => .inl (m, ())
  | o :: os => .inr ((o :: os).length, m, o :: os, ())
def stK (ks : List ByteArray) (m : Mp) (out : List Pr) (i : Nat) : Y28 ⊕ Y45 := match out with
  | [] => .inl (ks, (ks.length : Int), (i : Int), m, ())
  | o :: os => .inr ((o :: os).length, ks, (ks.length : Int), (i : Int), m, o :: os, ())
theorem stK_app {ks : List ByteArray} {m : Mp} {out : List Pr} {x : Pr} {i : Nat} : stK ks m (out ++ [x]) i = .inr ((out ++ [x]).length, ks, (ks.length : Int), (i : Int), m, out ++ [x], ()) := by
  cases out <;> rfl
theorem listK (m : Mp) {ks : List ByteArray} (hk : ks.length ≤ 3000) : L16_1001026 (.inl (ks, (ks.length : Int), Int.ofNat 0, m, ())) = some (endK m (ks.map fun k => (k, mapGet e0_ m k, ()))) := by
  have key : ∀ (n : Nat) (out : List Pr) (i : Nat), i ≤ ks.length → ks.length - i ≤ n → out.length ≤ i → out ++ (ks.drop i).map (fun k => ((k, mapGet e0_ m k, ()) : Pr)) = ks.map (fun k => (k, mapGet e0_ m k, ())) → L16_1001026 (stK ks m out i) = some (endK m (ks.map fun k => (k, mapGet e0_ m k, ()))) := fun n => by
    have hex : ∀ out : List Pr, out ++ (ks.drop ks.length).map (fun k => ((k, mapGet e0_ m k, ()) : Pr)) = ks.map (fun k => (k, mapGet e0_ m k, ())) → L16_1001026t (stK ks m out ks.length) = some (.inr (endK m (ks.map fun k => (k, mapGet e0_ m k, ())))) := fun out ht => by
      rw [List.drop_length, List.map_nil, List.append_nil] at ht
      rw [← ht]
      cases out with
      | nil => simp only [stK, L16_1001026t, L16_1001026s0, lt_f, cond_false]
      | cons o os => simp only [stK, L16_1001026t, L16_1001026s1, L16_1001026s1r, lt_f, cond_false]
    induction n with
    | zero =>
      intro out i hi hn hol ht
      obtain rfl : i = ks.length := by omega
      rw [L16_1001026, loopF_eq, hex out ht]
    | succ n ih =>
      intro out i hi hn hol ht
      by_cases c : i = ks.length
      · subst c
        rw [L16_1001026, loopF_eq, hex out ht]
      · have h1 : i < ks.length := by omega
        have r1 := roomP (n := out.length) (by omega)
        have r2 := roomP' (n := out.length) (by omega)
        have hs : L16_1001026t (stK ks m out i) = some (.inl (stK ks m (out ++ [(ks.getD i (dft Sh.s), mapGet e0_ m (ks.getD i (dft Sh.s)), ())]) (i + 1))) := by
          rw [stK_app]
          cases out with
          | nil => simp only [stK, L16_1001026t, L16_1001026s0, rg_lt h1, rg_in h1, rg_ltn h1, Int.toNat_natCast, cond_true, rg_wrap (show i < 9223372036854775807 by omega), all1, sgE]; rfl
          | cons o os => simp only [stK, L16_1001026t, L16_1001026s1, L16_1001026s1r, rg_lt h1, rg_in h1, rg_ltn h1, Int.toNat_natCast, cond_true, rg_wrap (show i < 9223372036854775807 by omega), all1, sgE, Nat.zero_add, Nat.le_refl, decide_true, List.length_singleton, r1, r2]
        rw [L16_1001026, loopF_eq, hs]
        refine ih _ (i + 1) (by omega) (by omega) (by rw [List.length_append, List.length_singleton]; omega) ?_
        rw [← ht, List.drop_eq_getElem_cons h1, getD_get h1, List.map_cons, List.append_assoc]
        rfl
  exact key _ [] 0 (Nat.zero_le _) (Nat.le_refl _) (Nat.le_refl _) rfl
theorem room0 {n : Nat} (h : n ≤ 5000) : (decide ((0 + n) * 32 ≤ maxRoom) && decide (0 + n ≤ maxRoom)) = true := by
  show (decide ((0 + n) * 32 ≤ 2 ^ 46) && decide (0 + n ≤ 2 ^ 46)) = true
  simp only [Bool.and_eq_true, decide_eq_true_eq]; omega
theorem gt_t2 {n m : Nat} (h : n > m) : decide (((n : Nat) : Int) > Int.ofNat m) = true := gt_t h
theorem end16 {m : Mp} {out : List Pr} (hr : Rep m out) (hl : out.length ≤ 1024) (hk : ∀ p ∈ out, p.1.size ≤ 1099511627776) :
    (bif fewK (List.map (fun x => x.1) m) then ((L16_1001026 (.inl (sortK (List.map (fun x => x.1) m), (↑(sortK (List.map (fun x => x.1) m)).length : Int), Int.ofNat 0, m, ()))).bind fun y306 => (match y306 with | .inl a307 => some (([], Int.ofNat 0, ()) : List Pr × Int × Unit) | .inr b307 => bif decide (0 + b307.1 ≤ b307.2.2.1.length) then (bif (List.take b307.1 (List.drop 0 b307.2.2.1)).isEmpty then (none) else (some (List.take b307.1 (List.drop 0 b307.2.2.1), Int.ofNat 0, ()))) else none)) else none) = some (out, Int.ofNat 0, ()) := by
  have hfew : fewK (List.map (fun x => x.1) m) = true := by
    simp only [fewK, Bool.and_eq_true, decide_eq_true_eq, List.all_eq_true]
    refine ⟨by rw [List.length_map, rep_len hr]; omega, fun k hkm => ?_⟩
    obtain ⟨⟨a, b⟩, h1, rfl⟩ := List.mem_map.1 hkm
    exact hk _ ((hr.mem a b).1 h1)
  have hs := rep_sort hr
  have hlk := listK m (ks := out.map (·.1)) (by rw [List.length_map]; omega)
  rw [rep_out hr] at hlk
  rw [hfew, cond_true, hs, hlk, Option.bind_some]
  cases out with
  | nil => rfl
  | cons o os => simp only [endK, Nat.zero_add, Nat.le_refl, decide_true, cond_true, all1, List.isEmpty_cons, cond_false]
end Go.Proofs.Ytbkpphmonfeaoaa.rowsDiff.Code
set_option maxRecDepth 100000
set_option linter.unusedVariables false
set_option linter.unusedSimpArgs false
set_option linter.unusedSectionVars false
set_option linter.constructorNameAsVariable false
namespace Go.Proofs.Ytbkpphmonfeaoaa.rowsDiff.Code
open Go Go.Am
theorem with_same (l : List Pr) (ops : List Op_) (hl : l.length ≤ 1100) (ho : ops.length ≤ 1100) : ∃ r e, F16 (l, ops, ()) = some (r, e, ()) ∧ F17 (l, ops, ()) = some (r, e, ()) ∧ r.length ≤ 2200 := by
  by_cases c1 : l.length > 1024
  · exact ⟨[], Int.ofNat 4, by simp only [F16, gt_t c1, cond_true], by simp only [F17, gt_t c1, cond_true], by simp⟩
  by_cases c2 : ops.length > 1024
  · exact ⟨[], Int.ofNat 4, by simp only [F16, gt_f c1, gt_t c2, cond_true, cond_false], by simp only [F17, gt_f c1, gt_t c2, cond_true, cond_false], by simp⟩
  obtain ⟨x, hx, ix⟩ := f24 l (by omega)
  obtain ⟨x', hx', ix'⟩ := f25 l (by omega)
  obtain rfl := may_same ix ix'
  cases x with
  | false => exact ⟨[], Int.ofNat 8, by simp only [F16, gt_f c1, gt_f c2, hx, Option.bind_some, Bool.not_false, cond_true, cond_false], by simp only [F17, gt_f c1, gt_f c2, hx', Option.bind_some, Bool.not_false, cond_true, cond_false], by simp⟩
  | true =>
  have hm : MayP l := ix.1 rfl
  obtain ⟨m, hbm, hr⟩ := build ops (by omega) hm
  have hsl : Short l := fun p hp => by
    obtain ⟨j, hj, rfl⟩ := List.mem_iff_getElem.1 hp
    have := (hm.sz j hj).2.1
    rwa [at_, getD_get hj] at this
  have hroom := room0 (n := l.length) (by omega)
  -- the state at the start
  obtain ⟨w, hw, h0, hst⟩ : ∃ w, w ≤ 2 ∧ (w = 0 → l = []) ∧ ((l = [] ∧ w = 0) ∨ (l ≠ [] ∧ w = 2)) := by
    by_cases c : l = []
    · exact ⟨0, by omega, fun _ => c, .inl ⟨c, rfl⟩⟩
    · exact ⟨2, by omega, fun h => absurd h (by omega), .inr ⟨c, rfl⟩⟩
  have hF17 : ∀ (z : Y36) (res : List Pr × Int × Unit), L17_1001088 (stO ops w l 0) = some z → (match z with | .inl a68 => some (([], a68.1, ()) : List Pr × Int × Unit) | .inr b68 => (match b68 with | .inl a70 => some ([], Int.ofNat 0, ()) | .inr b70 => (match b70 with | .inl a72 => bif decide ((↑a72.1.length : Int) > Int.ofNat 1024) then (some ([], Int.ofNat 4, ())) else (some (a72.1, Int.ofNat 0, ())) | .inr b72 => (match b72 with | .inl a74 => some ([], a74.1, ()) | .inr b74 => bif decide ((↑b74.1 : Int) > Int.ofNat 1024) then (some ([], Int.ofNat 4, ())) else bif decide (0 + b74.1 ≤ b74.2.1.length) then (some (List.take b74.1 (List.drop 0 b74.2.1), Int.ofNat 0, ())) else none)))) = some res → F17 (l, ops, ()) = some res := fun z res h1 h2 => by
    simp only [F17, gt_f c1, gt_f c2, hx', Option.bind_some, Bool.not_true, cond_false, hroom, cond_true]
    rcases hst with ⟨rfl, rfl⟩ | ⟨hne, rfl⟩
    · have h1 : L17_1001088 (.inl (ops, Int.ofNat 0, ())) = some z := h1
      simp only [List.isEmpty_nil, cond_true, h1, Option.bind_some]
      exact h2
    · have h1 : L17_1001088 (.inr (.inr (ops, l.length, Int.ofNat 0, l, ()))) = some z := h1
      have he : l.isEmpty = false := by cases l with
        | nil => exact absurd rfl hne
        | cons a l => rfl
      simp only [he, cond_false, h1, Option.bind_some]
      exact h2
  rcases both ho _ 0 w m l (Nat.zero_le _) (Nat.le_refl _) hw h0 hr hsl (by omega) with ⟨⟨z, h1⟩, z2, h2, hz⟩ | ⟨m', out, w', h1, h2, hr', hshort, hol, hw', h0'⟩
  · have h1 : L16_1001025 (ops, (ops.length : Int), Int.ofNat 0, m, ()) = some (.inl (Int.ofNat 3, z)) := h1
    refine ⟨[], Int.ofNat 3, by simp only [F16, gt_f c1, gt_f c2, hx, Option.bind_some, Bool.not_true, cond_false, hbm, h1], hF17 z2 _ h2 ?_, by simp⟩
    rcases hz with ⟨y, rfl⟩ | ⟨y, rfl⟩ <;> rfl
  · have h1 : L16_1001025 (ops, (ops.length : Int), Int.ofNat 0, m, ()) = some (.inr (m', ())) := h1
    have hml := rep_len hr'
    have hcase : w' = 0 ∨ w' = 1 ∨ w' = 2 := by omega
    by_cases c3 : out.length > 1024
    · have c4 : m'.length > 1024 := by omega
      refine ⟨[], Int.ofNat 4, by simp only [F16, gt_f c1, gt_f c2, hx, Option.bind_some, Bool.not_true, cond_false, hbm, h1, gt_t c4, cond_true], hF17 _ _ h2 ?_, by simp⟩
      rcases hcase with rfl | rfl | rfl
      · rw [h0' rfl] at c3; exact absurd c3 (by simp)
      · simp only [endO, gt_t c3, cond_true]
      · simp only [endO, gt_t c3, cond_true]
    · have c4 : ¬ m'.length > 1024 := by omega
      have hk : ∀ p ∈ out, p.1.size ≤ 1099511627776 := fun p hp => Nat.le_trans (hshort p hp) (by omega)
      have he := end16 hr' (by omega) hk
      refine ⟨out, Int.ofNat 0, ?_, hF17 _ _ h2 ?_, by omega⟩
      · simp only [F16, gt_f c1, gt_f c2, hx, Option.bind_some, Bool.not_true, cond_false, hbm, h1, gt_f c4]
        exact he
      · rcases hcase with rfl | rfl | rfl
        · rw [h0' rfl]
          rfl
        · simp only [endO, gt_f c3, cond_false]
        · simp only [endO, gt_f c3, cond_false, Nat.zero_add, Nat.le_refl, decide_true, cond_true, all1]
end Go.Proofs.Ytbkpphmonfeaoaa.rowsDiff.Code
set_option maxRecDepth 100000
set_option linter.unusedVariables false
set_option linter.unusedSimpArgs false
set_option linter.unusedSectionVars false
set_option linter.constructorNameAsVariable false
namespace Go.Proofs.Ytbkpphmonfeaoaa.rowsDiff.Code
open Go Go.Am
theorem lw4_1 (q : List Pr) (bl : Bool) (rows : List Pr) (hl : rows.length ≤ 3000) : ∃ rows', L4_1000256 (.inr (.inl (q, rows.length, bl, Int.ofNat 0, rows, ()))) = some (.inr (.inl (q, bl, rows', ()))) := by
  obtain ⟨y, hy, rows', rfl⟩ := rng_hoare (st := L4_1000256t) rows.length (fun i (rs : List Pr) => .inr (.inl (q, rows.length, bl, (i : Int), rs, ()))) (fun _ rs => rs.length = rows.length) (fun y => ∃ rows', y = .inr (.inl (q, bl, rows', ()))) (fun i rs h hr => by
      have h2 : 0 + i < rs.length := by omega
      simp only [L4_1000256t, L4_1000256s1, rg_lt h, rg_in h, rg_ltn h, decide_eq_true h2, cond_true, Int.toNat_natCast]
      rw [rg_wrap (by omega)]
      exact .inl ⟨_, rfl, by rw [List.length_set]; exact hr⟩) (fun rs _ => ⟨_, by simp only [L4_1000256t, L4_1000256s1, rg_end, cond_false], rs, rfl⟩) rows rfl
  exact ⟨rows', hy⟩
theorem lw4_3 (q own : List Pr) (n : Nat) (bl : Bool) (rows : List Pr) (hl : rows.length ≤ 3000) : ∃ rows', L4_1000256 (.inr (.inr (.inr (q, n, rows.length, bl, Int.ofNat 0, own, rows, ())))) = some (.inr (.inr (.inr (q, n, bl, own, rows', ())))) := by
  obtain ⟨y, hy, rows', rfl⟩ := rng_hoare (st := L4_1000256t) rows.length (fun i (rs : List Pr) => .inr (.inr (.inr (q, n, rows.length, bl, (i : Int), own, rs, ())))) (fun _ rs => rs.length = rows.length) (fun y => ∃ rows', y = .inr (.inr (.inr (q, n, bl, own, rows', ())))) (fun i rs h hr => by
      have h2 : 0 + i < rs.length := by omega
      simp only [L4_1000256t, L4_1000256s3, rg_lt h, rg_in h, rg_ltn h, decide_eq_true h2, cond_true, Int.toNat_natCast]
      rw [rg_wrap (by omega)]
      exact .inl ⟨_, rfl, by rw [List.length_set]; exact hr⟩) (fun rs _ => ⟨_, by simp only [L4_1000256t, L4_1000256s3, rg_end, cond_false], rs, rfl⟩) rows rfl
  exact ⟨rows', hy⟩
theorem lw4_0 (q : List Pr) (bl : Bool) : L4_1000256 (.inl (q, bl, Int.ofNat 0, ())) = some (.inl (q, bl, ())) := by
  rw [L4_1000256, loopF_eq]
  rfl
theorem lw4_2 (q own : List Pr) (n : Nat) (bl : Bool) : L4_1000256 (.inr (.inr (.inl (q, n, bl, Int.ofNat 0, own, ())))) = some (.inr (.inr (.inl (q, n, bl, own, ())))) := by
  rw [L4_1000256, loopF_eq]
  rfl
set_option maxHeartbeats 2000000 in
theorem f4 (a b : List Pr) (ops : List Op_) (ha : a.length ≤ 9223372036854775807) (hb : b.length ≤ 9223372036854775807) (ho : ops.length ≤ 9223372036854775807) : F4 (a, b, ops, ()) = some (true, ()) := by
  obtain ⟨b1, h1, i1⟩ := f12 a ha
  obtain ⟨b2, h2, i2⟩ := f12 b hb
  obtain ⟨b3, h3, i3⟩ := f13 ops ho
  simp only [F4, F4r, h1, h2, h3, Option.bind_some]
  cases b1 with
  | true => rfl
  | false =>
  cases b2 with
  | true => rfl
  | false =>
  cases b3 with
  | true => rfl
  | false =>
  have ha := i1 rfl
  have hb := i2 rfl
  have ho := i3 rfl
  have hroom := room0 (n := a.length) (by omega)
  obtain ⟨r, e, h14, h15, hrl⟩ := diff_same a b ha hb
  obtain ⟨s, f, h16, h17, hsl⟩ := with_same a ops ha ho
  have h18 := f18 r (by omega)
  have h19 := f19 s (by omega)
  have h19a := f19 a (by omega)
  obtain ⟨s1, hs1⟩ := lw4_1 a true s (by omega)
  obtain ⟨s3, hs3⟩ := lw4_3 a a a.length true s (by omega)
  have hs0 := lw4_0 a true
  have hs2 := lw4_2 a a a.length true
  simp only [hroom, cond_true, cond_false]
  cases a with
  | nil =>
    cases r with
    | nil =>
      cases s with
      | nil => simp only [List.isEmpty_nil, cond_true, h14, h15, h16, h17, h18, h19, h19a, Option.bind_some, beq_self_eq_true, hs0]
      | cons s0 ss => simp only [List.isEmpty_nil, List.isEmpty_cons, cond_true, cond_false, h14, h15, h16, h17, h18, h19, h19a, Option.bind_some, beq_self_eq_true, all1, Nat.zero_add, Nat.le_refl, decide_true, hs1]
    | cons r0 rr =>
      cases s with
      | nil => simp only [List.isEmpty_nil, List.isEmpty_cons, cond_true, cond_false, h14, h15, h16, h17, h18, h19, h19a, Option.bind_some, beq_self_eq_true, all1, Nat.zero_add, Nat.le_refl, decide_true, hs0]
      | cons s0 ss => simp only [List.isEmpty_nil, List.isEmpty_cons, cond_true, cond_false, h14, h15, h16, h17, h18, h19, h19a, Option.bind_some, beq_self_eq_true, all1, Nat.zero_add, Nat.le_refl, decide_true, hs1]
  | cons a0 aa =>
    cases r with
    | nil =>
      cases s with
      | nil => simp only [List.isEmpty_nil, List.isEmpty_cons, cond_true, cond_false, h14, h15, h16, h17, h18, h19, h19a, Option.bind_some, beq_self_eq_true, all1, Nat.zero_add, Nat.le_refl, decide_true, hs2]
      | cons s0 ss => simp only [List.isEmpty_nil, List.isEmpty_cons, cond_true, cond_false, h14, h15, h16, h17, h18, h19, h19a, Option.bind_some, beq_self_eq_true, all1, Nat.zero_add, Nat.le_refl, decide_true, hs3]
    | cons r0 rr =>
      cases s with
      | nil => simp only [List.isEmpty_nil, List.isEmpty_cons, cond_true, cond_false, h14, h15, h16, h17, h18, h19, h19a, Option.bind_some, beq_self_eq_true, all1, Nat.zero_add, Nat.le_refl, decide_true, hs2]
      | cons s0 ss => simp only [List.isEmpty_nil, List.isEmpty_cons, cond_true, cond_false, h14, h15, h16, h17, h18, h19, h19a, Option.bind_some, beq_self_eq_true, all1, Nat.zero_add, Nat.le_refl, decide_true, hs3]
theorem pure : ∀ x : Den (.cons (.row sPair) (.cons (.row sPair) (.cons (.row sOp) .nil))), OkD (.cons (.row sPair) (.cons (.row sPair) (.cons (.row sOp) .nil))) x → ∃ y, F4 x = some y ∧ y.1 = true := by
  intro x hx
  obtain ⟨a, b, ops, _⟩ := x
  obtain ⟨⟨h1, _⟩, ⟨h2, _⟩, ⟨h3, _⟩, _⟩ := hx
  exact ⟨_, f4 a b ops h1 h2 h3, rfl⟩
end Go.Proofs.Ytbkpphmonfeaoaa.rowsDiff.Code
