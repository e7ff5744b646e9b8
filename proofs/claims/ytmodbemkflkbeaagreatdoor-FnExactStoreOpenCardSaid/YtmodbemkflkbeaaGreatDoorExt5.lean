import Derived.Test.YtmodbemkflkbeaaGreatDoorExt4
namespace Go.Proofs.YtmodbemkflkbeaaGreatDoorW.PrintWords
open Go.Proofs.YtmodbemkflkbeaaGreatDoorW.PrintLast in
theorem cg_ {P : Program} {ops : Array Oper} {Q : Exit → Act → World → Prop} {W : World} {rest : List Oper} {o : Oper} {a : Act} (f : FuncId) {os : Array Operand} {ts : Array TypeId} (_ho : o.op = .call { callee := .value (.func f), args := os, argTypes := ts }) (h : wpList P ops Q (o :: rest) a W) : wpList P ops Q (o :: rest) a W := h
open Go.Proofs.YtmodbemkflkbeaaGreatDoorW.PrintLast in
/-- A call in a plain region: the callee's contract stands ready. -/
theorem ca_ {P : Program} {ops : Array Oper} {Q : Exit → Act → World → Prop} {w : World} {rest : List Oper} {oi : Oper} {a : Act} {Q1 : Ending → World → Prop} (N : Option Tmp) {f : FuncId} {fn : Func} (hf : P.funcs[f]? = some fn) (args : Array Value) {os : Array Operand} {ts : Array TypeId}
    (hc : Calls P f args w Q1) (h : ∀ e w', Q1 e w' → ∃ v, e = .returned v ∧ wpList P ops Q rest (a.put N v) w') (hd : oi.dst = N := by rfl) (hg : oi.guard = none := by rfl) (hname : (fn.name == "runtime.NumGoroutine") = false := by kernel_rfl) (hb : fn.body.isSome = true := by rfl)
    (hop : oi.op = .call { callee := .value (.func f), args := os, argTypes := ts } := by rfl) (hargs : os.map a.eval = args := by ((try simp only [List.map_toArray, List.map_cons, List.map_nil]); first | done | rfl | (simp only [List.length_drop, List.length_take]; rfl))) : wpList P ops Q (oi :: rest) a w :=
  gl_ N hf args (hc.mono h) hd hg hname hb hop hargs
end Go.Proofs.YtmodbemkflkbeaaGreatDoorW.PrintWords
