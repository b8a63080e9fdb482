/- What is left of the law FnExactRecordOk as a statement over numbers and lists, and that the readings of its arguments show such. No conditions. -/
import Derived.Test.YtgdfbjmjgegicaaXRc8
import Derived.Test.YtgdfbjmjgegicaaOpenRc
import Derived.KernelRfl
namespace Go.Proofs.Ytgdfbjmjgegicaa.SFnExactRecordOk
open Go.RowKit Go.Proofs.Ytgdfbjmjgegicaa.XRc Go.Proofs.Ytgdfbjmjgegicaa.Opened Go.Proofs.YtgdfbjmjgegicaaW.PrintWords Go.Proofs.YtgdfbjmjgegicaaW.PrintLast
/-- Every number of it is a number of its kind, and no list is longer than can be. -/
def ok97 (x : S97) : Prop := (Lit.int .i64 x.f0).wf = true ∧ (Lit.int .i64 x.f1).wf = true ∧ (Lit.int .i64 x.f2).wf = true ∧ True ∧ (Lit.int .i64 x.f4).wf = true
theorem tells97 : Tells Try.prog 97 k97 ok97 :=
  tells_mono (tells_struct (fun x : S97 => (x.f0, x.f1, x.f2, x.f3, x.f4)) (fun z => (⟨z.1, z.2.1, z.2.2.1, z.2.2.2.1, z.2.2.2.2⟩ : S97)) (fun _ => rfl) Try.underlying97 (by kernel_rfl) (tellsF_cons (tells_int Try.underlying2 (by kernel_rfl)) rfl rfl (tellsF_cons (tells_int Try.underlying2 (by kernel_rfl)) rfl rfl (tellsF_cons (tells_int Try.underlying2 (by kernel_rfl)) rfl rfl (tellsF_cons (tells_bool Try.underlying4 (by kernel_rfl)) rfl rfl (tellsF_one (tells_int Try.underlying2 (by kernel_rfl)) rfl)))))) (fun _ h => h)
def q62 : Kd (Int × Int × Int × (List S97)) := Kd.iso (Kd.pair (Kd.int .i64) (Kd.pair (Kd.int .i64) (Kd.pair (Kd.int .i64) (Kd.slice 97 k97)))) (fun x => x)
/-- Every number of it is a number of its kind, and no list is longer than can be. -/
def ok62 (x : (Int × Int × Int × (List S97))) : Prop := (Lit.int .i64 x.1).wf = true ∧ (Lit.int .i64 x.2.1).wf = true ∧ (Lit.int .i64 x.2.2.1).wf = true ∧ (x.2.2.2.length ≤ maxLen ∧ ∀ y ∈ x.2.2.2, ok97 y)
theorem tells62 : Tells Try.prog 62 q62 ok62 :=
  tells_mono (tells_struct (fun x : (Int × Int × Int × (List S97)) => x) (fun z => z) (fun _ => rfl) Try.underlying62 (by kernel_rfl) (tellsF_cons (tells_int Try.underlying2 (by kernel_rfl)) rfl rfl (tellsF_cons (tells_int Try.underlying2 (by kernel_rfl)) rfl rfl (tellsF_cons (tells_int Try.underlying2 (by kernel_rfl)) rfl rfl (tellsF_one (tells_slice Try.underlying45 (by kernel_rfl) tells97) rfl))))) (fun _ h => h)
/-- The pure statement. -/
def Pure : Prop := ∀ (a0_0 : Int) (a0_1 : Int) (a0_2 : Int) (l0_3 : List S97), (Lit.int .i64 a0_0).wf = true → (Lit.int .i64 a0_1).wf = true → (Lit.int .i64 a0_2).wf = true → l0_3.length ≤ maxLen → (∀ x ∈ l0_3, ok97 x) → ∃ k, laws_FnExactRecordOk.f k a0_0 a0_1 a0_2 l0_3 = some true
end Go.Proofs.Ytgdfbjmjgegicaa.SFnExactRecordOk
