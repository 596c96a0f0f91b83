/- Words of this session's: function values that are whole functions of the program, told by their numbers (a number below nothing: nil). -/
import Derived.Test.YtdiopojnkjkgmaaDoorZWWords
import Derived.Test.YtdiopojnkjkgmaaDoorZAlm
set_option linter.unusedVariables false
namespace Go.Proofs.YtdiopojnkjkgmaaDoor.Print
open Go.RowKit Go.Proofs.YtdiopojnkjkgmaaDoorW.PrintWords Go.Proofs.YtdiopojnkjkgmaaDoorW.PrintMore Go.Proofs.YtdiopojnkjkgmaaDoorW.PrintLast
def encFn (x : Int) : Value := if x < 0 then .nilFunc else .func (.func x.toNat) #[] #[]
def FnOk (P : Program) (x : Int) : Prop := 0 ≤ x ∧ ∃ fn, P.funcs[x.toNat]? = some fn ∧ (fn.name == "runtime.NumGoroutine") = false ∧ fn.body.isSome = true
theorem encFn_of {x : Int} (h : 0 ≤ x) : encFn x = .func (.func x.toNat) #[] #[] := if_neg (by omega)
theorem equalIn_fn {P : Program} {w : World} {t : TypeId} {ps rs : Array TypeId} {b : Bool} (ht : P.underlying t = some (.func ps rs b)) (d : Nat) (x : Int) : (Op.equalIn (d + 1) t (encFn x) .nilFunc).run P w = .ok (decide (x < 0)) w := by
  unfold encFn
  by_cases h : x < 0
  · rw [if_pos h, decide_eq_true h]
    simp only [Op.equalIn, Sem.run_bind, run_underlying ht, Result.andThen_ok, Sem.run_pure]
  · rw [if_neg h, decide_eq_false h]
    simp only [Op.equalIn, Sem.run_bind, run_underlying ht, Result.andThen_ok, Sem.run_pure]
theorem eql_fn {P : Program} {w : World} {t : TypeId} {ps rs : Array TypeId} {b : Bool} (ht : P.underlying t = some (.func ps rs b)) (x : Int) : (Op.equal t (encFn x) .nilFunc).run P w = .ok (decide (x < 0)) w :=
  equalIn_fn ht 9999 x
theorem binEql_fn {P : Program} {w : World} {t : TypeId} {ps rs : Array TypeId} {b : Bool} (ht : P.underlying t = some (.func ps rs b)) (x : Int) : (binOp .eql t (encFn x) .nilFunc).run P w = .ok (.bool (decide (x < 0))) w := by
  have h : binOp .eql t (encFn x) .nilFunc = (do pure (.bool (← Op.equal t (encFn x) .nilFunc))) := by unfold encFn; split <;> rfl
  rw [h]
  simp only [Sem.run_bind, eql_fn ht, Result.andThen_ok, Sem.run_pure]
theorem binNeq_fn {P : Program} {w : World} {t : TypeId} {ps rs : Array TypeId} {b : Bool} (ht : P.underlying t = some (.func ps rs b)) (x : Int) : (binOp .neq t (encFn x) .nilFunc).run P w = .ok (.bool (!decide (x < 0))) w := by
  have h : binOp .neq t (encFn x) .nilFunc = (do pure (.bool (!(← Op.equal t (encFn x) .nilFunc)))) := by unfold encFn; split <;> rfl
  rw [h]
  simp only [Sem.run_bind, eql_fn ht, Result.andThen_ok, Sem.run_pure]
theorem eqGuard_fn (op : BinOp) (t : TypeId) (x y : Operand) (z : Int) (v : Value) : eqGuard op t x y (encFn z) v = pure () := by unfold encFn; split <;> cases op <;> rfl
section
variable {P : Program} {ops : Array Oper} {Q : Exit → Act → World → Prop}
theorem fn_run {oi : Oper} {a : Act} {w : World} {x : Int} (hok : FnOk P x) {T : Operand} {as : Array Operand} {ts : Array TypeId} (args : Array Value)
    (hop : oi.op = .call { callee := .value T, args := as, argTypes := ts }) (hv : a.eval T = encFn x) (hargs : as.map a.eval = args) : (execOp a.eval oi).run P w = .ok (.enter x.toNat args) w := by
  obtain ⟨h0, fn, hf, hname, hb⟩ := hok
  have he := enters_ hf hname hb args w
  rw [encFn_of h0] at hv
  unfold execOp
  simp [hop, resolve, Deferred.ofValue, invoke, hv, hargs, he]
theorem cl_run {oi : Oper} {a : Act} {w : World} {x : Int} (hok : FnOk P x) {T : Operand} {as : Array Operand} {ts : Array TypeId} (args cap : Array Value)
    (hop : oi.op = .call { callee := .value T, args := as, argTypes := ts }) (hv : a.eval T = .func (.func x.toNat) #[] cap) (hargs : as.map a.eval = args) : (execOp a.eval oi).run P w = .ok (.enter x.toNat (args ++ cap)) w := by
  obtain ⟨h0, fn, hf, hname, hb⟩ := hok
  have he := enters_ hf hname hb (args ++ cap) w
  unfold execOp
  simp [hop, resolve, Deferred.ofValue, invoke, hv, hargs, he]
theorem goesCL_ {rest : List Oper} {oi : Oper} {a : Act} {w : World} (N : Option Tmp) (hd : oi.dst = N) (hg : oi.guard = none) {x : Int} (hok : FnOk P x) {T : Operand} {as : Array Operand} {ts : Array TypeId} (args cap : Array Value)
    (hop : oi.op = .call { callee := .value T, args := as, argTypes := ts }) (hv : a.eval T = .func (.func x.toNat) #[] cap) (hargs : as.map a.eval = args)
    (h : Calls P x.toNat (args ++ cap) w fun e w' => ∃ v, e = .returned v ∧ wpList P ops Q rest (a.put N v) w') : wpList P ops Q (oi :: rest) a w := by
  refine wpList_plain hg fun K hK => ?_
  unfold Oper.wp
  rw [cl_run hok args cap hop hv hargs, Oper.upon_enter]
  refine h.mono fun e w'' hh => ?_
  obtain ⟨v, rfl, hk⟩ := hh
  subst hd
  exact hK _ _ hk
theorem gate_value {o : Oper} {rest : List Oper} {a : Act} {w : World} {T : Tmp} {as : Array Operand} {ts : Array TypeId} (_ho : o.op = .call { callee := .value (.tmp T), args := as, argTypes := ts }) (h : wpList P ops Q (o :: rest) a w) : wpList P ops Q (o :: rest) a w := h
theorem goesLV_ {rest : List Oper} {oi : Oper} {a : Act} {w : World} (N : Option Tmp) (hd : oi.dst = N) (hg : oi.guard = none) {x : Int} (hok : FnOk P x) {T : Operand} {as : Array Operand} {ts : Array TypeId} (args : Array Value)
    (hop : oi.op = .call { callee := .value T, args := as, argTypes := ts }) (hv : a.eval T = encFn x) (hargs : as.map a.eval = args)
    (h : Calls P x.toNat args w fun e w' => ∃ v, e = .returned v ∧ wpList P ops Q rest (a.put N v) w') : wpList P ops Q (oi :: rest) a w := by
  refine wpList_plain hg fun K hK => ?_
  unfold Oper.wp
  rw [fn_run hok args hop hv hargs, Oper.upon_enter]
  refine h.mono fun e w'' hh => ?_
  obtain ⟨v, rfl, hk⟩ := hh
  subst hd
  exact hK _ _ hk
theorem goesV_ {oi : Oper} {N : Option Tmp} {a : Act} {w : World} {K : Act → World → Prop} {x : Int} (hok : FnOk P x) {T : Operand} {as : Array Operand} {ts : Array TypeId} (args : Array Value)
    (hw : Region.wanted oi (yielded ops a.tmps) = true) (hN : oi.dst = N) (hop : oi.op = .call { callee := .value T, args := as, argTypes := ts }) (hv : a.eval T = encFn x) (hargs : as.map a.eval = args)
    (h : Calls P x.toNat args w fun e w' => ∃ v, e = .returned v ∧ K (a.put N v) w') : if Region.wanted oi (yielded ops a.tmps) = true then Oper.wp P oi a w K Q else K (a.put N undef) w :=
  call_ x.toNat args hw hN (fn_run hok args hop hv hargs) h
end
end Go.Proofs.YtdiopojnkjkgmaaDoor.Print
