/- What is left of the law FnExactReplace as a statement over numbers and lists, and that the readings of its arguments show such. No conditions. -/
import Derived.Test.YthplaakckfhaaaaXRp25
import Derived.Test.YthplaakckfhaaaaOpenRp
import Derived.KernelRfl
namespace Go.Proofs.Ythplaakckfhaaaa.SFnExactReplace
open Go.RowKit Go.Proofs.Ythplaakckfhaaaa.XRp Go.Proofs.Ythplaakckfhaaaa.Opened Go.Proofs.YthplaakckfhaaaaW.PrintWords Go.Proofs.YthplaakckfhaaaaW.PrintLast
/-- Every number of it is a number of its kind, and no list is longer than can be. -/
def ok110 (x : S110) : Prop := (Lit.int .i64 x.f0).wf = true ∧ (Lit.int .i64 x.f1).wf = true
theorem tells110 : Tells Try.prog 110 k110 ok110 :=
  tells_mono (tells_struct (fun x : S110 => (x.f0, x.f1)) (fun z => (⟨z.1, z.2⟩ : S110)) (fun _ => rfl) Try.underlying110 (by kernel_rfl) (tellsF_cons (tells_int Try.underlying2 (by kernel_rfl)) rfl rfl (tellsF_one (tells_int Try.underlying2 (by kernel_rfl)) rfl))) (fun _ h => h)
/-- Every number of it is a number of its kind, and no list is longer than can be. -/
def ok123 (x : S123) : Prop := (Lit.int .i64 x.f0).wf = true ∧ (x.f1.length ≤ maxLen ∧ ∀ y ∈ x.f1, ok110 y)
theorem tells123 : Tells Try.prog 123 k123 ok123 :=
  tells_mono (tells_struct (fun x : S123 => (x.f0, x.f1)) (fun z => (⟨z.1, z.2⟩ : S123)) (fun _ => rfl) Try.underlying123 (by kernel_rfl) (tellsF_cons (tells_int Try.underlying2 (by kernel_rfl)) rfl rfl (tellsF_one (tells_slice Try.underlying61 (by kernel_rfl) tells110) rfl))) (fun _ h => h)
/-- Every number of it is a number of its kind, and no list is longer than can be. -/
def ok135 (x : S135) : Prop := (Lit.int .i64 x.f0).wf = true ∧ (Lit.int .i64 x.f1).wf = true ∧ (Lit.int .i64 x.f2).wf = true ∧ True ∧ (Lit.int .i64 x.f4).wf = true
theorem tells135 : Tells Try.prog 135 k135 ok135 :=
  tells_mono (tells_struct (fun x : S135 => (x.f0, x.f1, x.f2, x.f3, x.f4)) (fun z => (⟨z.1, z.2.1, z.2.2.1, z.2.2.2.1, z.2.2.2.2⟩ : S135)) (fun _ => rfl) Try.underlying135 (by kernel_rfl) (tellsF_cons (tells_int Try.underlying2 (by kernel_rfl)) rfl rfl (tellsF_cons (tells_int Try.underlying2 (by kernel_rfl)) rfl rfl (tellsF_cons (tells_int Try.underlying2 (by kernel_rfl)) rfl rfl (tellsF_cons (tells_bool Try.underlying4 (by kernel_rfl)) rfl rfl (tellsF_one (tells_int Try.underlying2 (by kernel_rfl)) rfl)))))) (fun _ h => h)
/-- Every number of it is a number of its kind, and no list is longer than can be. -/
def ok53 (x : S53) : Prop := (Lit.int .i64 x.f0).wf = true ∧ (Lit.int .i64 x.f1).wf = true ∧ (Lit.int .i64 x.f2).wf = true ∧ (x.f3.length ≤ maxLen ∧ ∀ y ∈ x.f3, ok135 y)
theorem tells53 : Tells Try.prog 53 k53 ok53 :=
  tells_mono (tells_struct (fun x : S53 => (x.f0, x.f1, x.f2, x.f3)) (fun z => (⟨z.1, z.2.1, z.2.2.1, z.2.2.2⟩ : S53)) (fun _ => rfl) Try.underlying53 (by kernel_rfl) (tellsF_cons (tells_int Try.underlying2 (by kernel_rfl)) rfl rfl (tellsF_cons (tells_int Try.underlying2 (by kernel_rfl)) rfl rfl (tellsF_cons (tells_int Try.underlying2 (by kernel_rfl)) rfl rfl (tellsF_one (tells_slice Try.underlying51 (by kernel_rfl) tells135) rfl))))) (fun _ h => h)
def q26 : Kd (Bool × (List S123) × (List S53) × (List Int)) := Kd.iso (Kd.pair Kd.bool (Kd.pair (Kd.slice 123 k123) (Kd.pair (Kd.slice 53 k53) (Kd.slice 2 (Kd.int .i64))))) (fun x => x)
/-- Every number of it is a number of its kind, and no list is longer than can be. -/
def ok26 (x : (Bool × (List S123) × (List S53) × (List Int))) : Prop := True ∧ (x.2.1.length ≤ maxLen ∧ ∀ y ∈ x.2.1, ok123 y) ∧ (x.2.2.1.length ≤ maxLen ∧ ∀ y ∈ x.2.2.1, ok53 y) ∧ (x.2.2.2.length ≤ maxLen ∧ ∀ y ∈ x.2.2.2, (Lit.int .i64 y).wf = true)
theorem tells26 : Tells Try.prog 26 q26 ok26 :=
  tells_mono (tells_struct (fun x : (Bool × (List S123) × (List S53) × (List Int)) => x) (fun z => z) (fun _ => rfl) Try.underlying26 (by kernel_rfl) (tellsF_cons (tells_bool Try.underlying4 (by kernel_rfl)) rfl rfl (tellsF_cons (tells_slice Try.underlying22 (by kernel_rfl) tells123) rfl rfl (tellsF_cons (tells_slice Try.underlying23 (by kernel_rfl) tells53) rfl rfl (tellsF_one (tells_slice Try.underlying24 (by kernel_rfl) (tells_int Try.underlying2 (by kernel_rfl))) rfl))))) (fun _ h => h)
/-- The pure statement. -/
def Pure : Prop := ∀ (a0_0 : Bool) (l0_1 : List S123) (l0_2 : List S53) (l0_3 : List Int) (a1 : Int) (l2 : List S110), l0_1.length ≤ maxLen → (∀ x ∈ l0_1, ok123 x) → l0_2.length ≤ maxLen → (∀ x ∈ l0_2, ok53 x) → l0_3.length ≤ maxLen → (∀ x ∈ l0_3, (Lit.int .i64 x).wf = true) → (Lit.int .i64 a1).wf = true → l2.length ≤ maxLen → (∀ x ∈ l2, ok110 x) → ∃ k, laws_FnExactReplace.f k a0_0 l0_1 l0_2 l0_3 a1 l2 = some true
end Go.Proofs.Ythplaakckfhaaaa.SFnExactReplace
