/- Proved: the law FnExactNewTx answers true at every argument: the program answers as the reference, wherever the law's own guards let the argument in. Conditions: none beyond the given row's. -/
import Derived.Test.YtodgacnioeoogaaPFnExactNewTxx4
import Derived.Test.YtodgacnioeoogaaGen
namespace Go.Proofs.Ytodgacnioeoogaa.Pure
open Go.RowKit Go.Proofs.Ytodgacnioeoogaa.PFnExactNewTx Go.Proofs.YtodgacnioeoogaaW.PrintWords Go.Proofs.YtodgacnioeoogaaW.PrintLast Go.Proofs.Ytodgacnioeoogaa.Gen
theorem in_ (a b c : Int) : spec_l1In.f a b c = some (decide (b ≤ a ∧ a ≤ c)) := by
  unfold spec_l1In.f
  by_cases h : a ≥ b <;> simp [h]
theorem within_ (a b c : Int) : impl_within.f a b c = some (decide (b ≤ a ∧ a ≤ c)) := by
  unfold impl_within.f
  by_cases h : a ≥ b <;> simp [h]
theorem newTx_eq (a b : Int) : impl_NewTx.f a b = spec_NewTx.f a b := by
  simp only [impl_NewTx.f, spec_NewTx.f, impl_isId.f, impl_isMachine.f, spec_l1Id.f, spec_l1Machine.f, in_, within_, Option.bind_some]
theorem eqTx_nil (k : Nat) (a b c d e : Int) : laws_eqTx.f (k + 1) a b c d [] [] e a b c d [] [] e = some true := by
  simp [laws_eqTx.f, laws_eqNoteS.f, laws_eqSetS.f, laws_eqNoteS.l0, laws_eqSetS.l0]
theorem markTx_nil (k : Nat) (a b c d e : Int) : laws_markTx.f (k + 1) a b c d [] [] e 1 = some (1, [], []) := by
  simp [laws_markTx.f, laws_markNoteS.f, laws_markSetS.f, laws_markNoteS.l0, laws_markSetS.l0]
theorem heldTx_nil (k : Nat) (a b c d e : Int) : laws_heldTx.f (k + 1) a b c d [] [] e 1 = some 1 := by
  simp [laws_heldTx.f, laws_heldNoteS.f, laws_heldSetS.f, laws_heldNoteS.l0, laws_heldSetS.l0]
theorem end_ok (a b : Int) (x : Int × Int × Int × Int × Int) (ok : Bool) (h : spec_NewTx.f a b = some (x.1, x.2.1, x.2.2.1, x.2.2.2.1, [], [], x.2.2.2.2, ok)) (k : Nat) : laws_FnExactNewTx.f (k + 1 + 1 + 1) a b = some true := by
  simp only [laws_FnExactNewTx.f, newTx_eq, h, Option.bind_some, eqTx_nil]
  simp [laws_FnExactNewTx.j0, laws_FnExactNewTx.j1, newTx_eq, h, eqTx_nil, markTx_nil, heldTx_nil]
theorem FnExactNewTx : laws_FnExactNewTx.Pure := by
  intro a b _ _
  by_cases h1 : 1 ≤ a ∧ a ≤ 1000000
  · by_cases h2 : 0 ≤ b ∧ b ≤ 7
    · exact ⟨_, end_ok a b (a, b, 1, 0, 0) true (by simp [spec_NewTx.f, spec_l1Id.f, spec_l1Machine.f, in_, h1, h2]) 0⟩
    · exact ⟨_, end_ok a b (0, 0, 0, 0, 0) false (by simp [spec_NewTx.f, spec_l1Id.f, spec_l1Machine.f, in_, h1, h2]) 0⟩
  · exact ⟨_, end_ok a b (0, 0, 0, 0, 0) false (by simp [spec_NewTx.f, spec_l1Id.f, spec_l1Machine.f, in_, h1]) 0⟩
end Go.Proofs.Ytodgacnioeoogaa.Pure
