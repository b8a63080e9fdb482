/- What is left of the law FnExactTxOk as a statement over numbers and lists, and that the readings of its arguments show such. No conditions. -/
import Derived.Test.YtodgacnioeoogaaXTx7
import Derived.Test.YtodgacnioeoogaaOpen
import Derived.KernelRfl
namespace Go.Proofs.Ytodgacnioeoogaa.SFnExactTxOk
open Go.RowKit Go.Proofs.Ytodgacnioeoogaa.XTx Go.Proofs.Ytodgacnioeoogaa.Opened Go.Proofs.YtodgacnioeoogaaW.PrintWords Go.Proofs.YtodgacnioeoogaaW.PrintLast
/-- Every number of it is a number of its kind, and no list is longer than can be. -/
def ok139 (x : S139) : Prop := (Lit.int .i64 x.f0).wf = true ∧ (Lit.int .i64 x.f1).wf = true ∧ (Lit.int .i64 x.f2).wf = true ∧ (Lit.int .i64 x.f3).wf = true ∧ True
theorem tells139 : Tells Try.prog 139 k139 ok139 :=
  tells_mono (tells_struct (fun x : S139 => (x.f0, x.f1, x.f2, x.f3, x.f4)) (fun z => (⟨z.1, z.2.1, z.2.2.1, z.2.2.2.1, z.2.2.2.2⟩ : S139)) (fun _ => rfl) Try.underlying139 (by kernel_rfl) (tellsF_cons (tells_int Try.underlying2 (by kernel_rfl)) rfl rfl (tellsF_cons (tells_int Try.underlying2 (by kernel_rfl)) rfl rfl (tellsF_cons (tells_int Try.underlying2 (by kernel_rfl)) rfl rfl (tellsF_cons (tells_int Try.underlying2 (by kernel_rfl)) rfl rfl (tellsF_one (tells_bool Try.underlying4 (by kernel_rfl)) rfl)))))) (fun _ h => h)
/-- Every number of it is a number of its kind, and no list is longer than can be. -/
def ok141 (x : S141) : Prop := (Lit.int .i64 x.f0).wf = true ∧ (Lit.int .i64 x.f1).wf = true ∧ (Lit.int .i64 x.f2).wf = true ∧ True ∧ (Lit.int .i64 x.f4).wf = true
theorem tells141 : Tells Try.prog 141 k141 ok141 :=
  tells_mono (tells_struct (fun x : S141 => (x.f0, x.f1, x.f2, x.f3, x.f4)) (fun z => (⟨z.1, z.2.1, z.2.2.1, z.2.2.2.1, z.2.2.2.2⟩ : S141)) (fun _ => rfl) Try.underlying141 (by kernel_rfl) (tellsF_cons (tells_int Try.underlying2 (by kernel_rfl)) rfl rfl (tellsF_cons (tells_int Try.underlying2 (by kernel_rfl)) rfl rfl (tellsF_cons (tells_int Try.underlying2 (by kernel_rfl)) rfl rfl (tellsF_cons (tells_bool Try.underlying4 (by kernel_rfl)) rfl rfl (tellsF_one (tells_int Try.underlying2 (by kernel_rfl)) rfl)))))) (fun _ h => h)
def q79 : Kd (Int × Int × Int × Int × (List S139) × (List S141) × Int) := Kd.iso (Kd.pair (Kd.int .i64) (Kd.pair (Kd.int .i64) (Kd.pair (Kd.int .i64) (Kd.pair (Kd.int .i64) (Kd.pair (Kd.slice 139 k139) (Kd.pair (Kd.slice 141 k141) (Kd.int .i64))))))) (fun x => x)
/-- Every number of it is a number of its kind, and no list is longer than can be. -/
def ok79 (x : (Int × Int × Int × Int × (List S139) × (List S141) × Int)) : Prop := (Lit.int .i64 x.1).wf = true ∧ (Lit.int .i64 x.2.1).wf = true ∧ (Lit.int .i64 x.2.2.1).wf = true ∧ (Lit.int .i64 x.2.2.2.1).wf = true ∧ (x.2.2.2.2.1.length ≤ maxLen ∧ ∀ y ∈ x.2.2.2.2.1, ok139 y) ∧ (x.2.2.2.2.2.1.length ≤ maxLen ∧ ∀ y ∈ x.2.2.2.2.2.1, ok141 y) ∧ (Lit.int .i64 x.2.2.2.2.2.2).wf = true
theorem tells79 : Tells Try.prog 79 q79 ok79 :=
  tells_mono (tells_struct (fun x : (Int × Int × Int × Int × (List S139) × (List S141) × Int) => x) (fun z => z) (fun _ => rfl) Try.underlying79 (by kernel_rfl) (tellsF_cons (tells_int Try.underlying2 (by kernel_rfl)) rfl rfl (tellsF_cons (tells_int Try.underlying2 (by kernel_rfl)) rfl rfl (tellsF_cons (tells_int Try.underlying2 (by kernel_rfl)) rfl rfl (tellsF_cons (tells_int Try.underlying2 (by kernel_rfl)) rfl rfl (tellsF_cons (tells_slice Try.underlying76 (by kernel_rfl) tells139) rfl rfl (tellsF_cons (tells_slice Try.underlying77 (by kernel_rfl) tells141) rfl rfl (tellsF_one (tells_int Try.underlying2 (by kernel_rfl)) rfl)))))))) (fun _ h => h)
/-- The pure statement. -/
def Pure : Prop := ∀ (a0_0 : Int) (a0_1 : Int) (a0_2 : Int) (a0_3 : Int) (l0_4 : List S139) (l0_5 : List S141) (a0_6 : Int), (Lit.int .i64 a0_0).wf = true → (Lit.int .i64 a0_1).wf = true → (Lit.int .i64 a0_2).wf = true → (Lit.int .i64 a0_3).wf = true → l0_4.length ≤ maxLen → (∀ x ∈ l0_4, ok139 x) → l0_5.length ≤ maxLen → (∀ x ∈ l0_5, ok141 x) → (Lit.int .i64 a0_6).wf = true → ∃ k, laws_FnExactTxOk.f k a0_0 a0_1 a0_2 a0_3 l0_4 l0_5 a0_6 = some true
end Go.Proofs.Ytodgacnioeoogaa.SFnExactTxOk
