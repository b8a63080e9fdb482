/- What is left of the law FnExactSetOk as a statement over numbers and lists, and that the readings of its arguments show such. No conditions. -/
import Derived.Test.YtmpdflbopbiliaaPFnExactSetOkx1
import Derived.Test.YtmpdflbopbiliaaOpen
import Derived.KernelRfl
namespace Go.Proofs.Ytmpdflbopbiliaa.SFnExactSetOk
open Go.RowKit Go.Proofs.Ytmpdflbopbiliaa.PFnExactSetOk Go.Proofs.Ytmpdflbopbiliaa.Opened Go.Proofs.YtmpdflbopbiliaaW.PrintWords Go.Proofs.YtmpdflbopbiliaaW.PrintLast
def q32 : Kd (Int × Int × Int × Bool × Int) := Kd.iso (Kd.pair (Kd.int .i64) (Kd.pair (Kd.int .i64) (Kd.pair (Kd.int .i64) (Kd.pair Kd.bool (Kd.int .i64))))) (fun x => x)
/-- Every number of it is a number of its kind, and no list is longer than can be. -/
def ok32 (x : (Int × Int × Int × Bool × Int)) : Prop := (Lit.int .i64 x.1).wf = true ∧ (Lit.int .i64 x.2.1).wf = true ∧ (Lit.int .i64 x.2.2.1).wf = true ∧ True ∧ (Lit.int .i64 x.2.2.2.2).wf = true
theorem tells32 : Tells Try.prog 32 q32 ok32 :=
  tells_mono (tells_struct (fun x : (Int × Int × Int × Bool × Int) => x) (fun z => z) (fun _ => rfl) Try.underlying32 (by kernel_rfl) (tellsF_cons (tells_int Try.underlying2 (by kernel_rfl)) rfl rfl (tellsF_cons (tells_int Try.underlying2 (by kernel_rfl)) rfl rfl (tellsF_cons (tells_int Try.underlying2 (by kernel_rfl)) rfl rfl (tellsF_cons (tells_bool Try.underlying4 (by kernel_rfl)) rfl rfl (tellsF_one (tells_int Try.underlying2 (by kernel_rfl)) rfl)))))) (fun _ h => h)
/-- The pure statement. -/
def Pure : Prop := ∀ (a0_0 : Int) (a0_1 : Int) (a0_2 : Int) (a0_3 : Bool) (a0_4 : Int), (Lit.int .i64 a0_0).wf = true → (Lit.int .i64 a0_1).wf = true → (Lit.int .i64 a0_2).wf = true → (Lit.int .i64 a0_4).wf = true → laws_FnExactSetOk.f a0_0 a0_1 a0_2 a0_3 a0_4 = some true
end Go.Proofs.Ytmpdflbopbiliaa.SFnExactSetOk
