/- Proved: at every argument the program's Used returns what the reference's returns, and the law's function answers true. Conditions: none beyond the given row's. -/
import Derived.Laws.BitsLemmas
import Derived.Test.YtmpdflbopbiliaaPFnExactUsedx1
namespace Go.Proofs.Ytmpdflbopbiliaa.Pure
open Go.RowKit Go.Proofs.Ytmpdflbopbiliaa.PFnExactUsed Go.Proofs.YtmpdflbopbiliaaW.PrintWords Go.Proofs.YtmpdflbopbiliaaW.PrintLast
theorem nat_and2 (a : Nat) : a &&& 2 = 2 * (a / 2 % 2) := by
  have h1 : a &&& 2 ≤ 2 := Nat.and_le_right
  have h2 : (a &&& 2) % 2 ^ 2 = (a % 2 ^ 2) &&& (2 % 2 ^ 2) := Nat.and_mod_two_pow
  have h3 : a % 4 = 0 ∨ a % 4 = 1 ∨ a % 4 = 2 ∨ a % 4 = 3 := by omega
  have h4 : (a &&& 2) % 4 = (a % 4) &&& 2 := h2
  rcases h3 with h | h | h | h <;> rw [h] at h4 <;> simp at h4 <;> omega
theorem wraps_i64 (n : Int) (h0 : 0 ≤ n) (h1 : n < 2 ^ 63) : IntKind.i64.wrap n = n := by rw [IntKind.wrap_i64]; omega
theorem and1 (x : Int) (h0 : 0 ≤ x) (h1 : x ≤ 4000003) : Go.bits .and .i64 x 1 = x % 2 := by
  obtain ⟨a, rfl⟩ := Int.eq_ofNat_of_zero_le h0
  have := (bits_nat .i64 63 (by decide) wraps_i64 a 1 (by omega) (by decide)).1
  rw [show ((1 : Int)) = ((1 : Nat) : Int) from rfl, this, Nat.and_one_is_mod]
  omega
theorem and2 (x : Int) (h0 : 0 ≤ x) (h1 : x ≤ 4000003) : Go.bits .and .i64 x 2 = 2 * (x / 2 % 2) := by
  obtain ⟨a, rfl⟩ := Int.eq_ofNat_of_zero_le h0
  have := (bits_nat .i64 63 (by decide) wraps_i64 a 2 (by omega) (by decide)).1
  rw [show ((2 : Int)) = ((2 : Nat) : Int) from rfl, this, nat_and2]
  omega
theorem half (x : Int) (h0 : 0 ≤ x) (h1 : x ≤ 4000003) : wrap64 (Int.tdiv x 2) = x / 2 := by
  rw [Int.tdiv_eq_ediv_of_nonneg h0]; unfold wrap64; omega
theorem FnExactUsed : laws_FnExactUsed.Pure := by
  intro a _
  by_cases h : a ≥ 0
  · by_cases h1 : a ≤ 4000003
    · simp [laws_FnExactUsed.f, spec_Used.f, impl_Used.f, spec_HeadOk.f, impl_isHead.f, spec_l1In.f, impl_within.f, h, h1]
      rw [and2 a h h1, half a h h1, Int.tmod_eq_emod_of_nonneg (by omega)]
      rcases (by omega : a / 2 % 2 = 0 ∨ a / 2 % 2 = 1) with e | e <;> rw [e] <;> decide
    · simp [laws_FnExactUsed.f, spec_Used.f, impl_Used.f, spec_HeadOk.f, impl_isHead.f, spec_l1In.f, impl_within.f, h, h1]
  · simp [laws_FnExactUsed.f, spec_Used.f, impl_Used.f, spec_HeadOk.f, impl_isHead.f, spec_l1In.f, impl_within.f, h]
end Go.Proofs.Ytmpdflbopbiliaa.Pure
