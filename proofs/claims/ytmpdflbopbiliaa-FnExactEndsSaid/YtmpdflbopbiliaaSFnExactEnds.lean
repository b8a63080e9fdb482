/- What is left of the law FnExactEnds as a statement over numbers and lists, and that the readings of its arguments show such. No conditions. -/
import Derived.Test.YtmpdflbopbiliaaPFnExactEndsx1
import Derived.Test.YtmpdflbopbiliaaOpen
import Derived.KernelRfl
namespace Go.Proofs.Ytmpdflbopbiliaa.SFnExactEnds
open Go.RowKit Go.Proofs.Ytmpdflbopbiliaa.PFnExactEnds Go.Proofs.Ytmpdflbopbiliaa.Opened Go.Proofs.YtmpdflbopbiliaaW.PrintWords Go.Proofs.YtmpdflbopbiliaaW.PrintLast
def q26 : Kd (Int × Int × Int) := Kd.iso (Kd.pair (Kd.int .i64) (Kd.pair (Kd.int .i64) (Kd.int .i64))) (fun x => x)
/-- Every number of it is a number of its kind, and no list is longer than can be. -/
def ok26 (x : (Int × Int × Int)) : Prop := (Lit.int .i64 x.1).wf = true ∧ (Lit.int .i64 x.2.1).wf = true ∧ (Lit.int .i64 x.2.2).wf = true
theorem tells26 : Tells Try.prog 26 q26 ok26 :=
  tells_mono (tells_struct (fun x : (Int × Int × Int) => x) (fun z => z) (fun _ => rfl) Try.underlying26 (by kernel_rfl) (tellsF_cons (tells_int Try.underlying2 (by kernel_rfl)) rfl rfl (tellsF_cons (tells_int Try.underlying2 (by kernel_rfl)) rfl rfl (tellsF_one (tells_int Try.underlying2 (by kernel_rfl)) rfl)))) (fun _ h => h)
/-- The pure statement. -/
def Pure : Prop := ∀ (a0_0 : Int) (a0_1 : Int) (a0_2 : Int), (Lit.int .i64 a0_0).wf = true → (Lit.int .i64 a0_1).wf = true → (Lit.int .i64 a0_2).wf = true → laws_FnExactEnds.f a0_0 a0_1 a0_2 = some true
end Go.Proofs.Ytmpdflbopbiliaa.SFnExactEnds
