/- Plain lemmas on loops with a number of rounds, on the wrap of 64 bits and on single bits: no program in sight. No conditions beyond those that each lemma names. -/
import Derived.Test.YthplaakckfhaaaaGreatVMs
import Derived.Laws.BitsLemmas
namespace Go.Proofs.YthplaakckfhaaaaGreat.Gen
open Go.RowKit Go.Proofs.YthplaakckfhaaaaGreatW.PrintWords
/-- A loop with a number of rounds: from place i on, with enough rounds, it ends in what is wanted. -/
theorem loop_inv {σ ρ : Type} (F : Nat → σ → Option ρ) (P : Nat → σ → Prop) (Q : ρ → Prop) (n K : Nat)
    (hs : ∀ k i s, K ≤ k → i < n → P i s → (∃ s', P (i + 1) s' ∧ F (k + 1) s = F k s') ∨ ∃ r, Q r ∧ F (k + 1) s = some r)
    (he : ∀ k s, K ≤ k → P n s → ∃ r, Q r ∧ F (k + 1) s = some r) :
    ∀ d i k s, i + d = n → d + K < k → P i s → ∃ r, Q r ∧ F k s = some r := by
  intro d
  induction d with
  | zero =>
    intro i k s hd hk hP
    obtain ⟨k, rfl⟩ : ∃ m, k = m + 1 := ⟨k - 1, by omega⟩
    obtain rfl : i = n := by omega
    exact he k s (by omega) hP
  | succ d ih =>
    intro i k s hd hk hP
    obtain ⟨k, rfl⟩ : ∃ m, k = m + 1 := ⟨k - 1, by omega⟩
    rcases hs k i s (by omega) (by omega) hP with ⟨s', hP', he'⟩ | h
    · rw [he']
      exact ih (i + 1) k s' (by omega) (by omega) hP'
    · exact h
/-- The same with one answer. -/
theorem loop_to {σ ρ : Type} (F : Nat → σ → Option ρ) (P : Nat → σ → Prop) (n K : Nat) (r : ρ)
    (hs : ∀ k i s, K ≤ k → i < n → P i s → ∃ s', P (i + 1) s' ∧ F (k + 1) s = F k s')
    (he : ∀ k s, K ≤ k → P n s → F (k + 1) s = some r) (i k : Nat) (s : σ) (hi : i ≤ n) (hk : n - i + K < k) (h : P i s) : F k s = some r := by
  obtain ⟨r', rfl, h⟩ := loop_inv F P (· = r) n K (fun k i s h1 h2 h3 => .inl (hs k i s h1 h2 h3)) (fun k s h1 h2 => ⟨r, rfl, he k s h1 h2⟩) (n - i) i k s (by omega) hk h
  exact h
theorem wrap_of {x : Int} (h0 : -9223372036854775808 ≤ x) (h1 : x ≤ 9223372036854775807) : wrap64 x = x := by unfold wrap64; omega
theorem wraps_i64 (n : Int) (h0 : 0 ≤ n) (h1 : n < 2 ^ 63) : IntKind.i64.wrap n = n := by rw [IntKind.wrap_i64]; omega
theorem i64_mask (n : Int) (j : Nat) (hj : j < 63) : Go.bits .and .i64 n ((2 : Int) ^ j - 1) = n % (2 : Int) ^ j := by
  have hp : (0 : Nat) < 2 ^ j := Nat.two_pow_pos j
  have hb : (2 : Nat) ^ j ≤ 2 ^ 62 := Nat.pow_le_pow_right (by decide) (by omega)
  have hc : ((2 : Int) ^ j - 1) = ((2 ^ j - 1 : Nat) : Int) := by rw [Int.natCast_sub hp]; simp
  have h1 : (BitVec.ofInt 64 ((2 ^ j - 1 : Nat) : Int)).toNat = 2 ^ j - 1 := by
    rw [BitVec.ofInt_natCast, BitVec.toNat_ofNat]
    exact Nat.mod_eq_of_lt (by omega)
  have key : (BitVec.ofInt 64 n &&& BitVec.ofInt 64 ((2 ^ j - 1 : Nat) : Int)).toNat = (n % ((2 ^ 64 : Nat) : Int)).toNat % 2 ^ j := by
    rw [BitVec.toNat_and, BitVec.toNat_ofInt, h1, Nat.and_two_pow_sub_one_eq_mod]
  rw [hc]
  show IntKind.i64.wrap ((BitVec.ofInt 64 n &&& BitVec.ofInt 64 ((2 ^ j - 1 : Nat) : Int)).toNat : Nat) = _
  rw [key]
  have h2 : ((n % ((2 ^ 64 : Nat) : Int)).toNat % 2 ^ j : Nat) < 2 ^ j := Nat.mod_lt _ hp
  rw [wraps_i64 _ (Int.natCast_nonneg _) (by omega)]
  have h3 : 0 ≤ n % ((2 ^ 64 : Nat) : Int) := Int.emod_nonneg _ (by decide)
  rw [Int.natCast_emod, Int.toNat_of_nonneg h3]
  have h4 : (((2 ^ j : Nat) : Int)) ∣ ((2 ^ 64 : Nat) : Int) := Int.natCast_dvd_natCast.2 (Nat.pow_dvd_pow 2 (by omega))
  rw [Int.emod_emod_of_dvd _ h4]
  simp
theorem and255 (n : Int) : Go.bits .and .i64 n 255 = n % 256 := i64_mask n 8 (by decide)
theorem nat_and2 (a : Nat) : a &&& 2 = 2 * (a / 2 % 2) := by
  have h1 : a &&& 2 ≤ 2 := Nat.and_le_right
  have h2 : (a &&& 2) % 2 ^ 2 = (a % 2 ^ 2) &&& (2 % 2 ^ 2) := Nat.and_mod_two_pow
  have h3 : a % 4 = 0 ∨ a % 4 = 1 ∨ a % 4 = 2 ∨ a % 4 = 3 := by omega
  have h4 : (a &&& 2) % 4 = (a % 4) &&& 2 := h2
  rcases h3 with h | h | h | h <;> rw [h] at h4 <;> simp at h4 <;> omega
theorem and2 (n : Int) : Go.bits .and .i64 n 2 = 2 * (n / 2 % 2) := by
  show IntKind.i64.wrap ((BitVec.ofInt 64 n &&& BitVec.ofInt 64 2).toNat : Nat) = _
  have h1 : (BitVec.ofInt 64 2).toNat = 2 := by decide
  rw [BitVec.toNat_and, BitVec.toNat_ofInt, h1, nat_and2, wraps_i64 _ (Int.natCast_nonneg _) (by omega)]
  omega
/-- It answers, and the answer is as wanted. -/
def Ok {α : Type} (P : α → Prop) (o : Option α) : Prop := ∃ r, o = some r ∧ P r
theorem Ok.bind {α β : Type} {P : α → Prop} {Q : β → Prop} {o : Option α} {f : α → Option β} (h : Ok P o) (hf : ∀ r, P r → Ok Q (f r)) : Ok Q (o.bind f) := by
  obtain ⟨r, rfl, hr⟩ := h
  exact hf r hr
theorem Ok.ite {α : Type} {P : α → Prop} {c : Prop} [Decidable c] {a b : Option α} (h1 : c → Ok P a) (h2 : ¬ c → Ok P b) : Ok P (if c then a else b) := by
  by_cases h : c
  · rw [if_pos h]
    exact h1 h
  · rw [if_neg h]
    exact h2 h
theorem Ok.mono {α : Type} {P Q : α → Prop} {o : Option α} (h : Ok P o) (hi : ∀ r, P r → Q r) : Ok Q o := by
  obtain ⟨r, e, hr⟩ := h
  exact ⟨r, e, hi r hr⟩
theorem rd_get {l : List Int} {i : Nat} (h : i < l.length) : rd l (i : Int) = l[i] := by
  unfold rd
  rw [Int.toNat_natCast, List.getD_eq_getElem?_getD, List.getElem?_eq_getElem h]
  rfl
end Go.Proofs.YthplaakckfhaaaaGreat.Gen
