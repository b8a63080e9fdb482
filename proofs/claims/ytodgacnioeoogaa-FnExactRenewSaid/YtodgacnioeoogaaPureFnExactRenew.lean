/- Proved: the law FnExactRenew answers true at every argument: the program answers as the reference, wherever the law's own guards let the argument in. Conditions: none beyond the given row's. -/
import Derived.Test.YtodgacnioeoogaaSFnExactRenew
import Derived.Test.YtodgacnioeoogaaGen
namespace Go.Proofs.Ytodgacnioeoogaa.Pure
open Go.RowKit Go.Proofs.Ytodgacnioeoogaa.XLe Go.Proofs.Ytodgacnioeoogaa.Opened Go.Proofs.YtodgacnioeoogaaW.PrintWords Go.Proofs.YtodgacnioeoogaaW.PrintLast Go.Proofs.Ytodgacnioeoogaa.SFnExactRenew Go.Proofs.Ytodgacnioeoogaa.Gen
theorem in_ (a b c : Int) : spec_l1In.f a b c = some (decide (b ≤ a ∧ a ≤ c)) := by
  unfold spec_l1In.f
  by_cases h : a ≥ b <;> simp [h]
theorem within_ (a b c : Int) : impl_within.f a b c = some (decide (b ≤ a ∧ a ≤ c)) := by
  unfold impl_within.f
  by_cases h : a ≥ b <;> simp [h]
def okl (a b c : Int) : Prop := (0 ≤ a ∧ a ≤ 7) ∧ (0 ≤ b ∧ b ≤ 1000000000000) ∧ (1 ≤ c ∧ c ≤ 1000000000000)
instance (a b c : Int) : Decidable (okl a b c) := by unfold okl; exact inferInstance
theorem spec_lease (a b c : Int) : spec_LeaseOk.f a b c = some (decide (okl a b c)) := by
  simp only [spec_LeaseOk.f, spec_l1Machine.f, spec_l4Time.f, in_, Option.bind_some, okl]
  by_cases h1 : (0 ≤ a ∧ a ≤ 7) <;> by_cases h2 : (0 ≤ b ∧ b ≤ 1000000000000) <;> simp [h1, h2]
theorem impl_lease (a b c : Int) : impl_isLease.f a b c = some (decide (okl a b c)) := by
  simp only [impl_isLease.f, impl_isMachine.f, within_, Option.bind_some, okl]
  by_cases h1 : (0 ≤ a ∧ a ≤ 7) <;> by_cases h2 : (0 ≤ b ∧ b ≤ 1000000000000) <;> simp [h1, h2]
theorem spec_renew (a b c n : Int) : spec_Renew.f a b c n = some (if okl a b c ∧ (0 ≤ n ∧ n ≤ 1000000000000) ∧ b ≤ n then (a, n, c) else (0, 0, 0)) := by
  simp only [spec_Renew.f, spec_lease, spec_l4Time.f, in_, Option.bind_some]
  by_cases h1 : okl a b c <;> by_cases h2 : (0 ≤ n ∧ n ≤ 1000000000000) <;> by_cases h3 : n < b
  all_goals first | (have h4 : b ≤ n := by omega) | (have h4 : ¬ b ≤ n := by omega)
  all_goals simp [h1, h2, h3, h4]
theorem impl_renew (a b c n : Int) : impl_Renew.f a b c n = spec_Renew.f a b c n := by
  rw [spec_renew]
  simp only [impl_Renew.f, impl_lease, within_, Option.bind_some]
  by_cases h1 : okl a b c
  · have h5 := h1.2.1.1
    by_cases h2 : (b ≤ n ∧ n ≤ 1000000000000)
    · have h3 : (0 ≤ n ∧ n ≤ 1000000000000) ∧ b ≤ n := by omega
      simp [h1, h2, h3]
    · have h3 : ¬ ((0 ≤ n ∧ n ≤ 1000000000000) ∧ b ≤ n) := by omega
      simp only [h1, h2, h3]
      simp
  · simp [h1]
theorem FnExactRenew : SFnExactRenew.Pure := by
  intro a b c n _ _ _ _
  simp only [laws_FnExactRenew.f, laws_toLease.f, Option.bind_some, impl_renew]
  obtain ⟨⟨x, y, z⟩, e⟩ : ∃ r, spec_Renew.f a b c n = some r := ⟨_, spec_renew a b c n⟩
  rw [e]
  simp [laws_eqLease.f]
end Go.Proofs.Ytodgacnioeoogaa.Pure
