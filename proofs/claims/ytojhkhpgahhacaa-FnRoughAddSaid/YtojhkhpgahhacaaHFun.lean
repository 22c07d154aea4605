/- A call of a function value that lies in a place, as goes_ of the words tells a call by name. No condition. -/
import Derived.Test.YtojhkhpgahhacaaPAx0
namespace Go.Proofs.Ytojhkhpgahhacaa.H
open Go.RowKit Go.Proofs.YtojhkhpgahhacaaW.PrintWords Go.Proofs.YtojhkhpgahhacaaW.PrintLast Go.Proofs.YtojhkhpgahhacaaW.PrintMore

theorem goesV_ {P : Program} {ops : Array Oper} {Q : Exit → Act → World → Prop} {oi : Oper} {N : Option Tmp} {a : Act} {w : World} {K : Act → World → Prop} {f : FuncId} {fn : Func} {x : Tmp} {xs : Array Operand} {ts : Array TypeId} (hf : P.funcs[f]? = some fn) (hname : (fn.name == "runtime.NumGoroutine") = false) (hb : fn.body.isSome = true) (args : Array Value)
    (hw : Region.wanted oi (yielded ops a.tmps) = true) (hN : oi.dst = N) (hop : oi.op = .call { callee := .value (.tmp x), args := xs, argTypes := ts }) (hx : a.tmps.getD x undef = .func (.func f) #[] #[]) (hargs : xs.map a.eval = args)
    (h : Calls P f args w fun e w' => ∃ v, e = .returned v ∧ K (a.put N v) w') : if Region.wanted oi (yielded ops a.tmps) = true then Oper.wp P oi a w K Q else K (a.put N undef) w := by
  refine call_ f args hw hN ?_ h
  have he := enters_ hf hname hb args w
  have hx' : a.eval (.tmp x) = .func (.func f) #[] #[] := hx
  unfold execOp
  simp [hop, resolve, Deferred.ofValue, invoke, hx', hargs, he]

end Go.Proofs.Ytojhkhpgahhacaa.H
