/- Small lemmas for the texts of this session beside the kit's print. No conditions beyond those that each names. -/
import Derived.Test.YtodgacnioeoogaaWWords
namespace Go.Proofs.Ytodgacnioeoogaa.Aid
section
open Go.RowKit
variable {P : Program} {ops : Array Oper} {rest : List Oper} {o : Oper} {a : Act} {Q : Exit → Act → World → Prop} {W : World}
/-- The operation that stands next is a call of this function. -/
theorem gcal_ {f : FuncId} {as : Array Operand} {ts : Array TypeId} (_ho : o.op = .call { callee := .value (.func f), args := as, argTypes := ts }) (h : wpList P ops Q (o :: rest) a W) : wpList P ops Q (o :: rest) a W := h
/-- The operation that stands next is a call of this builtin. -/
theorem gblt_ {b : Builtin} {xs : Array Operand} {ts : Array TypeId} (_ho : o.op = .call { callee := .builtin b, args := xs, argTypes := ts }) (h : wpList P ops Q (o :: rest) a W) : wpList P ops Q (o :: rest) a W := h
end
theorem calls_arr {P : Program} {f : FuncId} {args args' : Array Value} {w : World} {Q : Ending → World → Prop} (h : args' = args) (hc : Calls P f args w Q) : Calls P f args' w Q := by rw [h]; exact hc
end Go.Proofs.Ytodgacnioeoogaa.Aid
