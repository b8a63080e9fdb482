/- Proved: the law FnExactSpread answers true at every argument: the program answers as the reference, wherever the law's own guards let the argument in. Conditions: none beyond the given row's. -/
import Derived.Test.YtodgacnioeoogaaSFnExactSpread
import Derived.Test.YtodgacnioeoogaaGenBk
namespace Go.Proofs.Ytodgacnioeoogaa.Pure
open Go.RowKit Go.Proofs.Ytodgacnioeoogaa.XBk Go.Proofs.Ytodgacnioeoogaa.Opened Go.Proofs.YtodgacnioeoogaaW.PrintWords Go.Proofs.YtodgacnioeoogaaW.PrintLast Go.Proofs.Ytodgacnioeoogaa.SFnExactSpread Go.Proofs.Ytodgacnioeoogaa.Gen
set_option linter.unusedSimpArgs false
set_option linter.unusedVariables false
theorem in_ (a b c : Int) : spec_l1In.f a b c = some (decide (b ≤ a ∧ a ≤ c)) := by
  unfold spec_l1In.f
  by_cases h : a ≥ b <;> simp [h]
theorem within_ (a b c : Int) : impl_within.f a b c = some (decide (b ≤ a ∧ a ≤ c)) := by
  unfold impl_within.f
  by_cases h : a ≥ b <;> simp [h]
theorem spread_cases : ∀ r : Fin 7, ∀ m : Fin 9, 1 ≤ r.val → 1 ≤ m.val → laws_FnExactSpread.f 60 (r.val : Int) (m.val : Int) = some true := by decide +kernel
theorem FnExactSpread : SFnExactSpread.Pure := by
  intro a b ha hb
  refine ⟨60, ?_⟩
  by_cases h1 : 1 ≤ a ∧ a ≤ 6
  · by_cases h2 : 1 ≤ b ∧ b ≤ 8
    · have := spread_cases ⟨a.toNat, by omega⟩ ⟨b.toNat, by omega⟩ (by show 1 ≤ a.toNat; omega) (by show 1 ≤ b.toNat; omega)
      rw [show ((⟨a.toNat, (by omega : a.toNat < 7)⟩ : Fin 7).val : Int) = a from by show ((a.toNat : Nat) : Int) = a; omega, show ((⟨b.toNat, (by omega : b.toNat < 9)⟩ : Fin 9).val : Int) = b from by show ((b.toNat : Nat) : Int) = b; omega] at this
      exact this
    · have hs : spec_Spread.f 60 a b = some ([], false) := by
        simp only [spec_Spread.f, in_, Option.bind_some]
        rw [if_pos (by simpa using h1), decide_eq_false h2]
        rfl
      have hi : impl_Spread.f 60 a b = some ([], false) := by
        simp only [impl_Spread.f, within_, Option.bind_some]
        rw [if_pos (by simpa using h1), if_neg (by simpa using h2)]
      simp only [laws_FnExactSpread.f, hs, hi, Option.bind_some]
      rfl
  · have hs : spec_Spread.f 60 a b = some ([], false) := by
      simp only [spec_Spread.f, in_, Option.bind_some]
      rw [if_neg (by simpa using h1)]
      rfl
    have hi : impl_Spread.f 60 a b = some ([], false) := by
      simp only [impl_Spread.f, within_, Option.bind_some]
      rw [if_neg (by simpa using h1)]
    simp only [laws_FnExactSpread.f, hs, hi, Option.bind_some]
    rfl
end Go.Proofs.Ytodgacnioeoogaa.Pure
