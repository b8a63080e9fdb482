/- What is left of the law FnExactInstall as a statement over numbers and lists, and that the readings of its arguments show such. No conditions. -/
import Derived.Test.YtgdfbjmjgegicaaXIn10
import Derived.Test.YtgdfbjmjgegicaaOpenIn
import Derived.KernelRfl
namespace Go.Proofs.Ytgdfbjmjgegicaa.SFnExactInstall
open Go.RowKit Go.Proofs.Ytgdfbjmjgegicaa.XIn Go.Proofs.Ytgdfbjmjgegicaa.Opened Go.Proofs.YtgdfbjmjgegicaaW.PrintWords Go.Proofs.YtgdfbjmjgegicaaW.PrintLast
/-- Every number of it is a number of its kind, and no list is longer than can be. -/
def ok87 (x : S87) : Prop := (Lit.int .i64 x.f0).wf = true ∧ (Lit.int .i64 x.f1).wf = true
theorem tells87 : Tells Try.prog 87 k87 ok87 :=
  tells_mono (tells_struct (fun x : S87 => (x.f0, x.f1)) (fun z => (⟨z.1, z.2⟩ : S87)) (fun _ => rfl) Try.underlying87 (by kernel_rfl) (tellsF_cons (tells_int Try.underlying2 (by kernel_rfl)) rfl rfl (tellsF_one (tells_int Try.underlying2 (by kernel_rfl)) rfl))) (fun _ h => h)
/-- Every number of it is a number of its kind, and no list is longer than can be. -/
def ok97 (x : S97) : Prop := (Lit.int .i64 x.f0).wf = true ∧ (Lit.int .i64 x.f1).wf = true ∧ (Lit.int .i64 x.f2).wf = true ∧ True ∧ (Lit.int .i64 x.f4).wf = true
theorem tells97 : Tells Try.prog 97 k97 ok97 :=
  tells_mono (tells_struct (fun x : S97 => (x.f0, x.f1, x.f2, x.f3, x.f4)) (fun z => (⟨z.1, z.2.1, z.2.2.1, z.2.2.2.1, z.2.2.2.2⟩ : S97)) (fun _ => rfl) Try.underlying97 (by kernel_rfl) (tellsF_cons (tells_int Try.underlying2 (by kernel_rfl)) rfl rfl (tellsF_cons (tells_int Try.underlying2 (by kernel_rfl)) rfl rfl (tellsF_cons (tells_int Try.underlying2 (by kernel_rfl)) rfl rfl (tellsF_cons (tells_bool Try.underlying4 (by kernel_rfl)) rfl rfl (tellsF_one (tells_int Try.underlying2 (by kernel_rfl)) rfl)))))) (fun _ h => h)
/-- The pure statement. -/
def Pure : Prop := ∀ (l0 : List S87) (l1 : List S97), l0.length ≤ maxLen → (∀ x ∈ l0, ok87 x) → l1.length ≤ maxLen → (∀ x ∈ l1, ok97 x) → ∃ k, laws_FnExactInstall.f k l0 l1 = some true
end Go.Proofs.Ytgdfbjmjgegicaa.SFnExactInstall
