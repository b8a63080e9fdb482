/- What is left of the law FnExactRenew as a statement over numbers and lists, and that the readings of its arguments show such. No conditions. -/
import Derived.Test.YtodgacnioeoogaaXLe5
import Derived.Test.YtodgacnioeoogaaOpen
import Derived.KernelRfl
namespace Go.Proofs.Ytodgacnioeoogaa.SFnExactRenew
open Go.RowKit Go.Proofs.Ytodgacnioeoogaa.XLe Go.Proofs.Ytodgacnioeoogaa.Opened Go.Proofs.YtodgacnioeoogaaW.PrintWords Go.Proofs.YtodgacnioeoogaaW.PrintLast
def q23 : Kd (Int × Int × Int) := Kd.iso (Kd.pair (Kd.int .i64) (Kd.pair (Kd.int .i64) (Kd.int .i64))) (fun x => x)
/-- Every number of it is a number of its kind, and no list is longer than can be. -/
def ok23 (x : (Int × Int × Int)) : Prop := (Lit.int .i64 x.1).wf = true ∧ (Lit.int .i64 x.2.1).wf = true ∧ (Lit.int .i64 x.2.2).wf = true
theorem tells23 : Tells Try.prog 23 q23 ok23 :=
  tells_mono (tells_struct (fun x : (Int × Int × Int) => x) (fun z => z) (fun _ => rfl) Try.underlying23 (by kernel_rfl) (tellsF_cons (tells_int Try.underlying2 (by kernel_rfl)) rfl rfl (tellsF_cons (tells_int Try.underlying2 (by kernel_rfl)) rfl rfl (tellsF_one (tells_int Try.underlying2 (by kernel_rfl)) rfl)))) (fun _ h => h)
/-- The pure statement. -/
def Pure : Prop := ∀ (a0_0 : Int) (a0_1 : Int) (a0_2 : Int) (a1 : Int), (Lit.int .i64 a0_0).wf = true → (Lit.int .i64 a0_1).wf = true → (Lit.int .i64 a0_2).wf = true → (Lit.int .i64 a1).wf = true → laws_FnExactRenew.f a0_0 a0_1 a0_2 a1 = some true
end Go.Proofs.Ytodgacnioeoogaa.SFnExactRenew
