-- (what is not named in this seat's texts is left out)
import Derived.Test.YtgmjlhpigfaicaaWFloat
namespace Go.Proofs.YtgmjlhpigfaicaaW.PrintWords
open Go.RowKit
theorem ne_c {w : World} {a : Addr} {v : Value} {g : Nat} (h : w.cell? a = some v) (hg : w.heap.size ≤ g) : a.block ≠ g := Nat.ne_of_lt (Nat.lt_of_lt_of_le (World.block_lt_of_cell? _ _ h) hg)
section
variable {P : Program} {Q : Exit → Act → World → Prop} {ops : Array Oper}
theorem gate_calleeV {rest : List Oper} {o : Oper} {a : Act} {W : World} {c : Operand} {as : Array Operand} {ts : Array TypeId} (_ho : o.op = .call { callee := .value c, args := as, argTypes := ts }) (h : wpList P ops Q (o :: rest) a W) : wpList P ops Q (o :: rest) a W := h
theorem goesLC_ {rest : List Oper} {oi : Oper} {a : Act} {w : World} (caps : Array Value) (N : Option Tmp) (hd : oi.dst = N) (hg : oi.guard = none) {f : FuncId} {fn : Func} {c : Operand} {as : Array Operand} {ts : Array TypeId} (hf : P.funcs[f]? = some fn) (hname : (fn.name == "runtime.NumGoroutine") = false) (hb : fn.body.isSome = true) (args : Array Value)
    (hop : oi.op = .call { callee := .value c, args := as, argTypes := ts }) (hargs0 : (as.map a.eval).toList ++ caps.toList = args.toList)
    (h : Calls P f args w fun e w' => ∃ v, e = .returned v ∧ wpList P ops Q rest (a.put N v) w')
    (hc : a.eval c = .func (.func f) #[] caps := by rfl) : wpList P ops Q (oi :: rest) a w := by
  have hargs : as.map a.eval ++ caps = args := by
    apply Array.ext'
    rw [Array.toList_append]
    exact hargs0
  refine wpList_plain hg fun K hK => ?_
  have he := PrintLast.enters_ hf hname hb args w
  have hrun : (execOp a.eval oi).run P w = .ok (.enter f args) w := by
    unfold execOp
    simp [hop, resolve, hc, Deferred.ofValue, invoke, hargs, he]
  unfold Oper.wp
  rw [hrun, Oper.upon_enter]
  refine h.mono fun e w'' hh => ?_
  obtain ⟨v, rfl, hk⟩ := hh
  subst hd
  exact hK _ _ hk
end
end Go.Proofs.YtgmjlhpigfaicaaW.PrintWords
