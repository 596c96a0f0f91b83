-- What the claim uses alone (wip/slim.py). Lean checks it.
import Derived.Test.YtfpdipnaefomiaaDoorZPrint0
import Derived.Test.YtfpdipnaefomiaaDoorZPrint4
import Derived.Test.YtfpdipnaefomiaaDoorZPrint5
import Derived.Test.YtfpdipnaefomiaaDoorZPrint15
namespace Go.Proofs.YtfpdipnaefomiaaDoor.Print
open Go.RowKit Go.Proofs.YtfpdipnaefomiaaDoorW.PrintWords Go.Proofs.YtfpdipnaefomiaaDoorW.PrintLast Go.Proofs.YtfpdipnaefomiaaDoorW.PrintMore
attribute [local go_sem] max2_mx min2_mn max_two min_two max_three min_three max_four min_four
set_option linter.unusedVariables false
set_option linter.unusedSimpArgs false
def codec_cursor_take.f (l0_0 : List Int) (a0_1 : Int) (a1 : Int) : Option (List Int × List Int × Int) := if a1 > (IntKind.u64.wrap ((l0_0.length : Int))) then ((codec_cursor_fail.f l0_0 a0_1 6).bind fun bt346 => (if bt346.2 = 0 then (if 0 ≤ a1 then (if a1 ≤ (bt346.1.length : Int) then ((codec_own.f (bt346.1.take (a1 : Int).toNat)).bind fun t350 => (some (t350, bt346.1.drop (a1 : Int).toNat, bt346.2))) else (none)) else (none)) else (some (([] : List Int), bt346.1, bt346.2)))) else (if a0_1 = 0 then (if 0 ≤ a1 then (if a1 ≤ (l0_0.length : Int) then ((codec_own.f (l0_0.take (a1 : Int).toNat)).bind fun t355 => (some (t355, l0_0.drop (a1 : Int).toNat, a0_1))) else (none)) else (none)) else (some (([] : List Int), l0_0, a0_1)))
end Go.Proofs.YtfpdipnaefomiaaDoor.Print
