/- Small lemmas for the texts of this session beside the kit's print. No conditions beyond those that each names. -/
import Derived.Test.YthplaakckfhaaaaGreatVMs
import Derived.Shelf.Abstract
namespace Go.Proofs.YthplaakckfhaaaaGreat.Aid
section
open Go.RowKit
variable {P : Program} {ops : Array Oper} {rest : List Oper} {o : Oper} {a : Act} {Q : Exit → Act → World → Prop} {W : World}
/-- The operation that stands next is a call of this function. -/
theorem gcal_ {f : FuncId} {xs : Array Operand} {ts : Array TypeId} (_ho : o.op = .call { callee := .value (.func f), args := xs, argTypes := ts }) (h : wpList P ops Q (o :: rest) a W) : wpList P ops Q (o :: rest) a W := h
/-- The operation that stands next is a call of this builtin. -/
theorem gblt_ {b : Builtin} {xs : Array Operand} {ts : Array TypeId} (_ho : o.op = .call { callee := .builtin b, args := xs, argTypes := ts }) (h : wpList P ops Q (o :: rest) a W) : wpList P ops Q (o :: rest) a W := h
end
/-- The place of the first element of which it holds, counted from i on; -1. -/
def idxFrom {α : Type} (pf : α → Option Bool) : List α → Nat → Option Int
  | [], _ => some (-1)
  | x :: t, i => (pf x).bind fun b => if b = true then some (i : Int) else idxFrom pf t (i + 1)
theorem idx_total {α : Type} (pf : α → Option Bool) (q : α → Bool) (l : List α) (hq : ∀ x, x ∈ l → pf x = some (q x)) (i : Nat) : ∃ r, idxFrom pf l i = some r ∧ decide (r ≥ 0) = l.any q := by
  induction l generalizing i with
  | nil => exact ⟨-1, rfl, rfl⟩
  | cons x t ih =>
    simp only [idxFrom, hq x List.mem_cons_self, Option.bind_some]
    cases hx : q x with
    | true => exact ⟨i, by simp, by simp [hx]⟩
    | false =>
      obtain ⟨r, e, hr⟩ := ih (fun y hy => hq y (List.mem_cons_of_mem _ hy)) (i + 1)
      exact ⟨r, by simpa using e, by simp [hx, hr]⟩
end Go.Proofs.YthplaakckfhaaaaGreat.Aid
