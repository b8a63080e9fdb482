/- What is left of the law FnExactClear as a statement over numbers and lists, and that the readings of its arguments show such. No conditions. -/
import Derived.Test.YthplaakckfhaaaaGreatXCr24
import Derived.Test.YthplaakckfhaaaaGreatOpenCr
import Derived.KernelRfl
namespace Go.Proofs.YthplaakckfhaaaaGreat.SFnExactClear
open Go.RowKit Go.Proofs.YthplaakckfhaaaaGreat.XCr Go.Proofs.YthplaakckfhaaaaGreat.Opened Go.Proofs.YthplaakckfhaaaaGreatW.PrintWords Go.Proofs.YthplaakckfhaaaaGreatW.PrintLast
/-- Every number of it is a number of its kind, and no list is longer than can be. -/
def ok151 (x : S151) : Prop := (Lit.int .i64 x.f0).wf = true ∧ (Lit.int .i64 x.f1).wf = true
theorem tells151 : Tells Tryz.prog 151 k151 ok151 :=
  tells_mono (tells_struct (fun x : S151 => (x.f0, x.f1)) (fun z => (⟨z.1, z.2⟩ : S151)) (fun _ => rfl) Tryz.underlying151 (by kernel_rfl) (tellsF_cons (tells_int Tryz.underlying2 (by kernel_rfl)) rfl rfl (tellsF_one (tells_int Tryz.underlying2 (by kernel_rfl)) rfl))) (fun _ h => h)
/-- Every number of it is a number of its kind, and no list is longer than can be. -/
def ok96 (x : S96) : Prop := (Lit.int .i64 x.f0).wf = true ∧ (x.f1.length ≤ maxLen ∧ ∀ y ∈ x.f1, ok151 y)
theorem tells96 : Tells Tryz.prog 96 k96 ok96 :=
  tells_mono (tells_struct (fun x : S96 => (x.f0, x.f1)) (fun z => (⟨z.1, z.2⟩ : S96)) (fun _ => rfl) Tryz.underlying96 (by kernel_rfl) (tellsF_cons (tells_int Tryz.underlying2 (by kernel_rfl)) rfl rfl (tellsF_one (tells_slice Tryz.underlying94 (by kernel_rfl) tells151) rfl))) (fun _ h => h)
/-- Every number of it is a number of its kind, and no list is longer than can be. -/
def ok153 (x : S153) : Prop := (Lit.int .i64 x.f0).wf = true ∧ (Lit.int .i64 x.f1).wf = true ∧ (Lit.int .i64 x.f2).wf = true ∧ True ∧ (Lit.int .i64 x.f4).wf = true
theorem tells153 : Tells Tryz.prog 153 k153 ok153 :=
  tells_mono (tells_struct (fun x : S153 => (x.f0, x.f1, x.f2, x.f3, x.f4)) (fun z => (⟨z.1, z.2.1, z.2.2.1, z.2.2.2.1, z.2.2.2.2⟩ : S153)) (fun _ => rfl) Tryz.underlying153 (by kernel_rfl) (tellsF_cons (tells_int Tryz.underlying2 (by kernel_rfl)) rfl rfl (tellsF_cons (tells_int Tryz.underlying2 (by kernel_rfl)) rfl rfl (tellsF_cons (tells_int Tryz.underlying2 (by kernel_rfl)) rfl rfl (tellsF_cons (tells_bool Tryz.underlying4 (by kernel_rfl)) rfl rfl (tellsF_one (tells_int Tryz.underlying2 (by kernel_rfl)) rfl)))))) (fun _ h => h)
/-- Every number of it is a number of its kind, and no list is longer than can be. -/
def ok100 (x : S100) : Prop := (Lit.int .i64 x.f0).wf = true ∧ (Lit.int .i64 x.f1).wf = true ∧ (Lit.int .i64 x.f2).wf = true ∧ (x.f3.length ≤ maxLen ∧ ∀ y ∈ x.f3, ok153 y)
theorem tells100 : Tells Tryz.prog 100 k100 ok100 :=
  tells_mono (tells_struct (fun x : S100 => (x.f0, x.f1, x.f2, x.f3)) (fun z => (⟨z.1, z.2.1, z.2.2.1, z.2.2.2⟩ : S100)) (fun _ => rfl) Tryz.underlying100 (by kernel_rfl) (tellsF_cons (tells_int Tryz.underlying2 (by kernel_rfl)) rfl rfl (tellsF_cons (tells_int Tryz.underlying2 (by kernel_rfl)) rfl rfl (tellsF_cons (tells_int Tryz.underlying2 (by kernel_rfl)) rfl rfl (tellsF_one (tells_slice Tryz.underlying98 (by kernel_rfl) tells153) rfl))))) (fun _ h => h)
def q26 : Kd (Bool × (List S96) × (List S100) × (List Int)) := Kd.iso (Kd.pair Kd.bool (Kd.pair (Kd.slice 96 k96) (Kd.pair (Kd.slice 100 k100) (Kd.slice 2 (Kd.int .i64))))) (fun x => x)
/-- Every number of it is a number of its kind, and no list is longer than can be. -/
def ok26 (x : (Bool × (List S96) × (List S100) × (List Int))) : Prop := True ∧ (x.2.1.length ≤ maxLen ∧ ∀ y ∈ x.2.1, ok96 y) ∧ (x.2.2.1.length ≤ maxLen ∧ ∀ y ∈ x.2.2.1, ok100 y) ∧ (x.2.2.2.length ≤ maxLen ∧ ∀ y ∈ x.2.2.2, (Lit.int .i64 y).wf = true)
theorem tells26 : Tells Tryz.prog 26 q26 ok26 :=
  tells_mono (tells_struct (fun x : (Bool × (List S96) × (List S100) × (List Int)) => x) (fun z => z) (fun _ => rfl) Tryz.underlying26 (by kernel_rfl) (tellsF_cons (tells_bool Tryz.underlying4 (by kernel_rfl)) rfl rfl (tellsF_cons (tells_slice Tryz.underlying22 (by kernel_rfl) tells96) rfl rfl (tellsF_cons (tells_slice Tryz.underlying23 (by kernel_rfl) tells100) rfl rfl (tellsF_one (tells_slice Tryz.underlying24 (by kernel_rfl) (tells_int Tryz.underlying2 (by kernel_rfl))) rfl))))) (fun _ h => h)
/-- The pure statement. -/
def Pure : Prop := ∀ (a0_0 : Bool) (l0_1 : List S96) (l0_2 : List S100) (l0_3 : List Int) (a1 : Int) (a2 : Int) (a3 : Bool), l0_1.length ≤ maxLen → (∀ x ∈ l0_1, ok96 x) → l0_2.length ≤ maxLen → (∀ x ∈ l0_2, ok100 x) → l0_3.length ≤ maxLen → (∀ x ∈ l0_3, (Lit.int .i64 x).wf = true) → (Lit.int .i64 a1).wf = true → (Lit.int .i64 a2).wf = true → ∃ k, laws_FnExactClear.f k a0_0 l0_1 l0_2 l0_3 a1 a2 a3 = some true
end Go.Proofs.YthplaakckfhaaaaGreat.SFnExactClear
