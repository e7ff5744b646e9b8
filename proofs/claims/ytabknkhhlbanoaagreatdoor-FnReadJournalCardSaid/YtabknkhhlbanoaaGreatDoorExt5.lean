import Derived.Test.YtabknkhhlbanoaaGreatDoorExt4
namespace Go.Proofs.YtabknkhhlbanoaaGreatDoorW.PrintWords
open Go.Proofs.YtabknkhhlbanoaaGreatDoorW.PrintLast in
theorem ca_ {P:Program} {ops:Array Oper} {Q:Exit→Act→World→Prop} {w:World} {rest:List Oper} {oi:Oper} {a:Act} {Q1:Ending→World→Prop} (N:Option Tmp) {f:FuncId} {fn:Func} (hf:P.funcs[f]?=some fn) (args:Array Value) {os:Array Operand} {ts:Array TypeId}
    (hc : Calls P f args w Q1) (h : ∀ e w', Q1 e w' → ∃ v, e = .returned v ∧ wpList P ops Q rest (a.put N v) w') (hd : oi.dst = N := by rfl) (hg : oi.guard = none := by rfl) (hname : (fn.name == "runtime.NumGoroutine") = false := by kernel_rfl) (hb : fn.body.isSome = true := by rfl)
    (hop:oi.op=.call { callee:=.value (.func f),args:=os,argTypes:=ts }:=by rfl) (hargs:os.map a.eval=args:=by ((try simp only [List.map_toArray,List.map_cons,List.map_nil]);first|done|rfl|(simp only [List.length_drop,List.length_take];rfl))):wpList P ops Q (oi :: rest) a w :=
  gl_ N hf args (hc.mono h) hd hg hname hb hop hargs
end Go.Proofs.YtabknkhhlbanoaaGreatDoorW.PrintWords
