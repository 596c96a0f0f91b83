/- Words of this session's: make([]T, 0, n) is an empty row of the call's own. -/
import Derived.Test.YtdiopojnkjkgmaaDoorZWWords
import Derived.Test.YtdiopojnkjkgmaaDoorZAlm
set_option linter.unusedVariables false
namespace Go.Proofs.YtdiopojnkjkgmaaDoor.Print
open Go.RowKit Go.Proofs.YtdiopojnkjkgmaaDoorW.PrintWords Go.Proofs.YtdiopojnkjkgmaaDoorW.PrintMore
section
variable {P : Program} {ops : Array Oper} {rest : List Oper} {o : Oper} {a : Act} {Q : Exit → Act → World → Prop} {α : Type}
end
theorem min2_mn (k k' : IntKind) (x y : Int) : Builtin.min2 (.int k x) (.int k' y) = pure (.int k (mn x y)) := min2_int k k' x y
theorem max2_mx (k k' : IntKind) (x y : Int) : Builtin.max2 (.int k x) (.int k' y) = pure (.int k (mx x y)) := max2_int k k' x y
end Go.Proofs.YtdiopojnkjkgmaaDoor.Print
