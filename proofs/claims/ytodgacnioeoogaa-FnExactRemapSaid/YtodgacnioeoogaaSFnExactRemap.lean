/- What is left of the law FnExactRemap as a statement over numbers and lists, and that the readings of its arguments show such. No conditions. -/
import Derived.Test.YtodgacnioeoogaaXRm7
import Derived.Test.YtodgacnioeoogaaOpenRm
import Derived.KernelRfl
namespace Go.Proofs.Ytodgacnioeoogaa.SFnExactRemap
open Go.RowKit Go.Proofs.Ytodgacnioeoogaa.XRm Go.Proofs.Ytodgacnioeoogaa.Opened Go.Proofs.YtodgacnioeoogaaW.PrintWords Go.Proofs.YtodgacnioeoogaaW.PrintLast
/-- Every number of it is a number of its kind, and no list is longer than can be. -/
def ok110 (x : S110) : Prop := (x.f0.length ≤ maxLen ∧ ∀ y ∈ x.f0, (Lit.int .i64 y).wf = true)
theorem tells110 : Tells Try.prog 110 k110 ok110 :=
  tells_mono (tells_struct (fun x : S110 => (x.f0)) (fun z => (⟨z⟩ : S110)) (fun _ => rfl) Try.underlying110 (by kernel_rfl) (tellsF_one (tells_slice Try.underlying64 (by kernel_rfl) (tells_int Try.underlying2 (by kernel_rfl))) rfl)) (fun _ h => h)
/-- The pure statement. -/
def Pure : Prop := ∀ (l0 : List S110) (l1 : List Bool), l0.length ≤ maxLen → (∀ x ∈ l0, ok110 x) → l1.length ≤ maxLen → (∀ x ∈ l1, True) → ∃ k, laws_FnExactRemap.f k l0 l1 = some true
end Go.Proofs.Ytodgacnioeoogaa.SFnExactRemap
