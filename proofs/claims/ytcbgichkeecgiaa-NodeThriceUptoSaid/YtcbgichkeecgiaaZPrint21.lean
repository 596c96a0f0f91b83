-- What the claim uses alone (wip/slim.py). Lean checks it.
import Derived.Test.YtcbgichkeecgiaaZAb
import Derived.Test.YtcbgichkeecgiaaZPrint0
namespace Go.Proofs.Ytcbgichkeecgiaa.Print
open Go.RowKit Go.Proofs.YtcbgichkeecgiaaW.PrintWords Go.Proofs.YtcbgichkeecgiaaW.PrintLast Go.Proofs.YtcbgichkeecgiaaW.PrintMore
attribute [local go_sem] max2_mx min2_mn max_two min_two max_three min_three max_four min_four
set_option linter.unusedVariables false
set_option linter.unusedSimpArgs false
def ladingref06_bytes.f (l0 : List Int) : Option (List Int) := (some (([] : List Int) : List Int)).bind fun y269 => (if y269.length + l0.length < 140737488355328 then (some (y269 ++ l0)) else (none))
def ladingref06_lists.l0 : Nat → List (List Int) → List (List Int) → Int → Int → Option ((List (List Int)))
 | 0, _, _, _, _ => none
 | k + 1, x3, x6, x7, x8 => if x8 < x7 then (if 0 ≤ x8 then (if x8 < (x6.length : Int) then ((ladingref06_bytes.f (rd_L1 x6 x8)).bind fun t276 => (if x3.length < 5864062014805 then (ladingref06_lists.l0 k (x3 ++ [t276]) x6 x7 (wrap64 (x8 + 1))) else (none))) else (none)) else (none)) else (some x3)
def ladingref06_lists.f (k : Nat) (l0 : List (List Int)) : Option ((List (List Int))) := ladingref06_lists.l0 k ([] : List (List Int)) l0 (l0.length : Int) 0
end Go.Proofs.Ytcbgichkeecgiaa.Print
