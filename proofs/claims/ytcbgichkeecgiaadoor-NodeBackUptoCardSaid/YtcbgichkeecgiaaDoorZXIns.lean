/- Words of this session's: what slices.Insert does to a row of the call's own, whatever the elements' size. -/
import Derived.Shelf.Spec.SlicesInsert
import Derived.Lib.AppendZerosOnto
import Derived.Laws.CopyRow
import Derived.Laws.NewBlocks
import Derived.Laws.CopyOwn
import Derived.Lib.SliceRun
import Derived.Test.YtcbgichkeecgiaaDoorZWWords
import Derived.Test.YtcbgichkeecgiaaDoorZAlm
set_option linter.unusedVariables false
set_option linter.unusedSimpArgs false
namespace Go.Proofs.YtcbgichkeecgiaaDoor.Print
open Go.RowKit Go.Proofs.YtcbgichkeecgiaaDoorW.PrintWords Go.Proofs.YtcbgichkeecgiaaDoorW.PrintMore
section
variable {P : Program}
end
theorem w64_in {x : Int} (h0 : 0 ≤ x) (h1 : x ≤ 9223372036854775807) : wrap64 x = x := by unfold wrap64; omega
theorem wi64_in {x : Int} (h0 : 0 ≤ x) (h1 : x ≤ 9223372036854775807) : IntKind.i64.wrap x = x := by rw [IntKind.wrap_i64]; omega
theorem wu64_in {x : Int} (h0 : 0 ≤ x) (h1 : x ≤ 9223372036854775807) : IntKind.u64.wrap x = x := by rw [IntKind.wrap_u64]; omega
theorem half_in {i j m : Nat} (hm : m = (i + j) / 2) (h : (i : Int) + (j : Int) ≤ 9223372036854775807) : wrap64 (((i : Int) + (j : Int)) / 2) = (m : Int) := by
  rw [w64_in (by omega) (by omega)]; omega
def bsN (p : Nat → Bool) : Nat → Nat → Nat → Nat
  | 0, i, _ => i
  | k + 1, i, j => if i < j then (if p ((i + j) / 2) then bsN p k ((i + j) / 2 + 1) j else bsN p k i ((i + j) / 2)) else i
theorem bsN_le (p : Nat → Bool) : ∀ k i j, i ≤ j → bsN p k i j ≤ j
  | 0, i, j, h => h
  | k + 1, i, j, h => by
    rw [bsN]
    split
    · split
      · exact bsN_le p k _ _ (by omega)
      · exact Nat.le_trans (bsN_le p k _ _ (by omega)) (by omega)
    · exact h
end Go.Proofs.YtcbgichkeecgiaaDoor.Print
