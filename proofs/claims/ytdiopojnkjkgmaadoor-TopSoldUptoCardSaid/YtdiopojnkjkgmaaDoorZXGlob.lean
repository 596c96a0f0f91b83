/- Words of this session's: the third number of the library's table of tens (internal/strconv.uint64pow10) lies where it was laid. -/
import Derived.Test.YtdiopojnkjkgmaaDoorZWWords
set_option linter.unusedVariables false
namespace Go.Proofs.YtdiopojnkjkgmaaDoor.Print
open Go.RowKit Go.Proofs.YtdiopojnkjkgmaaDoorW.PrintWords
def GlobOk (w : World) : Prop := w.cell? ⟨0, 2, none⟩ = some (.int .u64 100)
theorem GlobOk.below {w w1 : World} (h : GlobOk w) (hb : Below w.heap.size w w1) : GlobOk w1 := pw_cell_below hb h
end Go.Proofs.YtdiopojnkjkgmaaDoor.Print
