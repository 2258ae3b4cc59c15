/- Words of this session's: a call of a function value by what is told of it. No condition beyond those that stand in each line. -/
import Derived.Test.YteecolnemffffaaWWords
import Derived.Test.YteecolnemffffaaWLast
import Derived.Test.YteecolnemffffaaWMore
namespace Go.Proofs.YteecolnemffffaaV
open Go.RowKit Go.Proofs.YteecolnemffffaaW.PrintWords Go.Proofs.YteecolnemffffaaW.PrintLast Go.Proofs.YteecolnemffffaaW.PrintMore
section
variable {P : Program} {ops : Array Oper} {rest : List Oper} {o : Oper} {a : Act} {Q : Exit → Act → World → Prop} {W : World}
/-- The operation calls the function value in this place. -/
theorem gate_calleeV {j : Tmp} {as : Array Operand} {ts : Array TypeId} (_ho : o.op = .call { callee := .value (.tmp j), args := as, argTypes := ts }) (h : wpList P ops Q (o :: rest) a W) : wpList P ops Q (o :: rest) a W := h
/-- A call of a function value in a plain region. -/
theorem goesVL_ {oi : Oper} {w : World} (N : Option Tmp) (hd : oi.dst = N) (hg : oi.guard = none) {f : FuncId} {fn : Func} {as : Array Operand} {ts : Array TypeId} {j : Operand} (hf : P.funcs[f]? = some fn) (hname : (fn.name == "runtime.NumGoroutine") = false) (hb : fn.body.isSome = true) (args : Array Value) {cp : Array Value}
    (hop : oi.op = .call { callee := .value j, args := as, argTypes := ts }) (hv : a.eval j = .func (.func f) #[] cp) (hargs : as.map a.eval = args)
    (h : Calls P f (args ++ cp) w fun e w' => ∃ v, e = .returned v ∧ wpList P ops Q rest (a.put N v) w') : wpList P ops Q (oi :: rest) a w := by
  refine wpList_plain hg fun K hK => ?_
  have he := enters_ hf hname hb (args ++ cp) w
  have hrun : (execOp a.eval oi).run P w = .ok (.enter f (args ++ cp)) w := by
    unfold execOp
    simp [hop, resolve, Deferred.ofValue, invoke, hv, hargs, he]
  unfold Oper.wp
  rw [hrun, Oper.upon_enter]
  refine h.mono fun e w'' hh => ?_
  obtain ⟨v, rfl, hk⟩ := hh
  subst hd
  exact hK _ _ hk
/-- The same, as one step of a region that draws. -/
theorem goesV_ {oi : Oper} {N : Option Tmp} {w : World} {K : Act → World → Prop} {f : FuncId} {fn : Func} {as : Array Operand} {ts : Array TypeId} {j : Operand} (hf : P.funcs[f]? = some fn) (hname : (fn.name == "runtime.NumGoroutine") = false) (hb : fn.body.isSome = true) (args : Array Value) {cp : Array Value}
    (hw : Region.wanted oi (yielded ops a.tmps) = true) (hN : oi.dst = N) (hop : oi.op = .call { callee := .value j, args := as, argTypes := ts }) (hv : a.eval j = .func (.func f) #[] cp) (hargs : as.map a.eval = args)
    (h : Calls P f (args ++ cp) w fun e w' => ∃ v, e = .returned v ∧ K (a.put N v) w') : if Region.wanted oi (yielded ops a.tmps) = true then Oper.wp P oi a w K Q else K (a.put N undef) w := by
  refine call_ f (args ++ cp) hw hN ?_ h
  have he := enters_ hf hname hb (args ++ cp) w
  unfold execOp
  simp [hop, resolve, Deferred.ofValue, invoke, hv, hargs, he]
end
end Go.Proofs.YteecolnemffffaaV
