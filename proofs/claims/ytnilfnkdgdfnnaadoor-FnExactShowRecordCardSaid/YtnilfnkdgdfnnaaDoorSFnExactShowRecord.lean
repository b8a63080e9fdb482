/- What is left of the law FnExactShowRecord as a statement over numbers and lists, and that the readings of its arguments show such. No conditions. -/
import Derived.Test.YtnilfnkdgdfnnaaDoorXSh11
import Derived.Test.YtnilfnkdgdfnnaaDoorOpenSh
import Derived.KernelRfl
namespace Go.Proofs.YtnilfnkdgdfnnaaDoor.SFnExactShowRecord
open Go.RowKit Go.Proofs.YtnilfnkdgdfnnaaDoor.XSh Go.Proofs.YtnilfnkdgdfnnaaDoor.Opened Go.Proofs.YtnilfnkdgdfnnaaDoorW.PrintWords Go.Proofs.YtnilfnkdgdfnnaaDoorW.PrintLast
/-- Every number of it is a number of its kind, and no list is longer than can be. -/
def ok56 (x : S56) : Prop := (Lit.int .i64 x.f0).wf = true ∧ (Lit.int .i64 x.f1).wf = true ∧ (Lit.int .i64 x.f2).wf = true ∧ True ∧ (Lit.int .i64 x.f4).wf = true
theorem tells56 : Tells Tryd.prog 56 k56 ok56 :=
  tells_mono (tells_struct (fun x : S56 => (x.f0, x.f1, x.f2, x.f3, x.f4)) (fun z => (⟨z.1, z.2.1, z.2.2.1, z.2.2.2.1, z.2.2.2.2⟩ : S56)) (fun _ => rfl) Tryd.underlying56 (by kernel_rfl) (tellsF_cons (tells_int Tryd.underlying2 (by kernel_rfl)) rfl rfl (tellsF_cons (tells_int Tryd.underlying2 (by kernel_rfl)) rfl rfl (tellsF_cons (tells_int Tryd.underlying2 (by kernel_rfl)) rfl rfl (tellsF_cons (tells_bool Tryd.underlying4 (by kernel_rfl)) rfl rfl (tellsF_one (tells_int Tryd.underlying2 (by kernel_rfl)) rfl)))))) (fun _ h => h)
def q24 : Kd (Int × Int × Int × (List S56)) := Kd.iso (Kd.pair (Kd.int .i64) (Kd.pair (Kd.int .i64) (Kd.pair (Kd.int .i64) (Kd.slice 56 k56)))) (fun x => x)
/-- Every number of it is a number of its kind, and no list is longer than can be. -/
def ok24 (x : (Int × Int × Int × (List S56))) : Prop := (Lit.int .i64 x.1).wf = true ∧ (Lit.int .i64 x.2.1).wf = true ∧ (Lit.int .i64 x.2.2.1).wf = true ∧ (x.2.2.2.length ≤ maxLen ∧ ∀ y ∈ x.2.2.2, ok56 y)
theorem tells24 : Tells Tryd.prog 24 q24 ok24 :=
  tells_mono (tells_struct (fun x : (Int × Int × Int × (List S56)) => x) (fun z => z) (fun _ => rfl) Tryd.underlying24 (by kernel_rfl) (tellsF_cons (tells_int Tryd.underlying2 (by kernel_rfl)) rfl rfl (tellsF_cons (tells_int Tryd.underlying2 (by kernel_rfl)) rfl rfl (tellsF_cons (tells_int Tryd.underlying2 (by kernel_rfl)) rfl rfl (tellsF_one (tells_slice Tryd.underlying22 (by kernel_rfl) tells56) rfl))))) (fun _ h => h)
/-- The pure statement. -/
def Pure : Prop := ∀ (a0_0 : Int) (a0_1 : Int) (a0_2 : Int) (l0_3 : List S56), (Lit.int .i64 a0_0).wf = true → (Lit.int .i64 a0_1).wf = true → (Lit.int .i64 a0_2).wf = true → l0_3.length ≤ maxLen → (∀ x ∈ l0_3, ok56 x) → ∃ k, laws_FnExactShowRecord.f k a0_0 a0_1 a0_2 l0_3 = some true
end Go.Proofs.YtnilfnkdgdfnnaaDoor.SFnExactShowRecord
