/- Words of this session's: function values that are whole functions of the program, told by their numbers (a number below nothing: nil). -/
import Derived.Test.YtcbgichkeecgiaaZWWords
import Derived.Test.YtcbgichkeecgiaaZAlm
set_option linter.unusedVariables false
namespace Go.Proofs.Ytcbgichkeecgiaa.Print
open Go.RowKit Go.Proofs.YtcbgichkeecgiaaW.PrintWords Go.Proofs.YtcbgichkeecgiaaW.PrintMore Go.Proofs.YtcbgichkeecgiaaW.PrintLast
def encFn (x : Int) : Value := if x < 0 then .nilFunc else .func (.func x.toNat) #[] #[]
def FnOk (P : Program) (x : Int) : Prop := 0 ≤ x ∧ ∃ fn, P.funcs[x.toNat]? = some fn ∧ (fn.name == "runtime.NumGoroutine") = false ∧ fn.body.isSome = true
theorem encFn_of {x : Int} (h : 0 ≤ x) : encFn x = .func (.func x.toNat) #[] #[] := if_neg (by omega)
section
variable {P : Program} {ops : Array Oper} {Q : Exit → Act → World → Prop}
theorem fn_run {oi : Oper} {a : Act} {w : World} {x : Int} (hok : FnOk P x) {T : Operand} {as : Array Operand} {ts : Array TypeId} (args : Array Value)
    (hop : oi.op = .call { callee := .value T, args := as, argTypes := ts }) (hv : a.eval T = encFn x) (hargs : as.map a.eval = args) : (execOp a.eval oi).run P w = .ok (.enter x.toNat args) w := by
  obtain ⟨h0, fn, hf, hname, hb⟩ := hok
  have he := enters_ hf hname hb args w
  rw [encFn_of h0] at hv
  unfold execOp
  simp [hop, resolve, Deferred.ofValue, invoke, hv, hargs, he]
theorem gate_value {o : Oper} {rest : List Oper} {a : Act} {w : World} {T : Tmp} {as : Array Operand} {ts : Array TypeId} (_ho : o.op = .call { callee := .value (.tmp T), args := as, argTypes := ts }) (h : wpList P ops Q (o :: rest) a w) : wpList P ops Q (o :: rest) a w := h
theorem goesLV_ {rest : List Oper} {oi : Oper} {a : Act} {w : World} (N : Option Tmp) (hd : oi.dst = N) (hg : oi.guard = none) {x : Int} (hok : FnOk P x) {T : Operand} {as : Array Operand} {ts : Array TypeId} (args : Array Value)
    (hop : oi.op = .call { callee := .value T, args := as, argTypes := ts }) (hv : a.eval T = encFn x) (hargs : as.map a.eval = args)
    (h : Calls P x.toNat args w fun e w' => ∃ v, e = .returned v ∧ wpList P ops Q rest (a.put N v) w') : wpList P ops Q (oi :: rest) a w := by
  refine wpList_plain hg fun K hK => ?_
  unfold Oper.wp
  rw [fn_run hok args hop hv hargs, Oper.upon_enter]
  refine h.mono fun e w'' hh => ?_
  obtain ⟨v, rfl, hk⟩ := hh
  subst hd
  exact hK _ _ hk
end
end Go.Proofs.Ytcbgichkeecgiaa.Print
