/- Words of this session's: a variable of the library's own (internal/bytealg.MaxLen) holds some whole number, whatever it is. -/
import Derived.Test.YtcbgichkeecgiaaDoorZWWords
set_option linter.unusedVariables false
namespace Go.Proofs.YtcbgichkeecgiaaDoor.Print
open Go.RowKit Go.Proofs.YtcbgichkeecgiaaDoorW.PrintWords
def GlobOk (w : World) : Prop := ∃ m, w.cell? ⟨0, 0, none⟩ = some (.int .i64 m)
theorem GlobOk.below {w w1 : World} (h : GlobOk w) (hb : Below w.heap.size w w1) : GlobOk w1 := by
  obtain ⟨m, hm⟩ := h
  exact ⟨m, pw_cell_below hb hm⟩
end Go.Proofs.YtcbgichkeecgiaaDoor.Print
