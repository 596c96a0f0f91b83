/-
  No cell of these rows narrows 'for every input' (looked for: loops, veiled, ifaces, maps, wideKeys, modest, calm, conditions, laid).
  DERIVED. THE GIVEN ROWS OF THIS SEAT. 6 by the template 'for every input the law returns true; each argument reads behind the call as it read before'; 0 by the template 'total and deterministic' (their statements: YtkgbdahkncefhaaTotals.lean).
  GIVEN WITH THE SEED: the statements are not yours to turn. If you find one false, say at which input.
  Laid BY PROGRAM, IN A SANDBOX (cutbox-rows.mjs): the forced cells as the released guide's own fill.sh prints them over the translation 838da89a4a984d6f… (all of the seat's roots in one cut). By AI agents, Wed Nov 11 2026. No macro, syntax, notation, axiom, sorry.
-/
import Derived.Test.YtkgbdahkncefhaaChecked
import GoSem.Claim
import GoSem.ClaimJoined
import GoSem.ClaimMapViews
import Derived.JoinedTies
import Derived.KernelRfl
namespace Go.Proofs.Ytkgbdahkncefhaa
/- THE CELL 'sum', in the pinned program and in every row, IS THE sha256 OF THE DUMP (.gsa) THAT YtkgbdahkncefhaaProg.lean LOADS. Nothing in Lean hashes anything: it is a label: what it is worth is what the hold of that sum in a sandbox is worth. -/
noncomputable def Try.pinned : Pinned := { name := "ytkgbdahkncefhaa", sum := "838da89a4a984d6f59799c14df5e6eacd917cb1202679b7eac8d286e9c8c0154", checked := Try.checked }
namespace Rows
def none {H : Type} : Left H := { results := [], args := [] }

/-- 'ladinglaw13.StockApart': WHATEVER THE INPUT: true; the input reads as it did. -/
def stockApartSpec : ChangeSpec := { name := "stockApart", fn := fun _ => fun
  | [d1, d2, d3, d4, d5, d6, d7] => { results := [.lit (.bool true)], args := [d1, d2, d3, d4, d5, d6, d7] }
  | _ => none }
def stockApartRow : OpenClaim := { program := "ytkgbdahkncefhaa", sum := "838da89a4a984d6f59799c14df5e6eacd917cb1202679b7eac8d286e9c8c0154", func := "lading/ladinglaw13.StockApart", spec := "stockApart", inPlace := ["slices.overlaps[lading/api.Cell]"], unfollowed := true, recurses := true, apart := false }
def StockApartSaid : Prop := stockApartRow.holds Try.pinned (OpenSpec.ofChange stockApartSpec)

/-- ITS FALSE NEIGHBOUR: 'it returns false'. Refute it at one input. -/
def stockApartWrong : ChangeSpec := { name := "stockApart", fn := fun _ => fun
  | [d1, d2, d3, d4, d5, d6, d7] => { results := [.lit (.bool false)], args := [d1, d2, d3, d4, d5, d6, d7] }
  | _ => none }
def StockApartWrongFalsely : Prop := stockApartRow.holds Try.pinned (OpenSpec.ofChange stockApartWrong)

/-- 'ladinglaw13.StockMoves': WHATEVER THE INPUT: true; the input reads as it did. -/
def stockMovesSpec : ChangeSpec := { name := "stockMoves", fn := fun _ => fun
  | [d1, d2, d3, d4] => { results := [.lit (.bool true)], args := [d1, d2, d3, d4] }
  | _ => none }
def stockMovesRow : OpenClaim := { program := "ytkgbdahkncefhaa", sum := "838da89a4a984d6f59799c14df5e6eacd917cb1202679b7eac8d286e9c8c0154", func := "lading/ladinglaw13.StockMoves", spec := "stockMoves", inPlace := ["slices.overlaps[lading/api.Cell]"], unfollowed := true, recurses := true, apart := false }
def StockMovesSaid : Prop := stockMovesRow.holds Try.pinned (OpenSpec.ofChange stockMovesSpec)

/-- ITS FALSE NEIGHBOUR: 'it returns false'. Refute it at one input. -/
def stockMovesWrong : ChangeSpec := { name := "stockMoves", fn := fun _ => fun
  | [d1, d2, d3, d4] => { results := [.lit (.bool false)], args := [d1, d2, d3, d4] }
  | _ => none }
def StockMovesWrongFalsely : Prop := stockMovesRow.holds Try.pinned (OpenSpec.ofChange stockMovesWrong)

/-- 'ladinglaw13.StockWhole': WHATEVER THE INPUT: true; the input reads as it did. -/
def stockWholeSpec : ChangeSpec := { name := "stockWhole", fn := fun _ => fun
  | [d1, d2, d3, d4, d5, d6] => { results := [.lit (.bool true)], args := [d1, d2, d3, d4, d5, d6] }
  | _ => none }
def stockWholeRow : OpenClaim := { program := "ytkgbdahkncefhaa", sum := "838da89a4a984d6f59799c14df5e6eacd917cb1202679b7eac8d286e9c8c0154", func := "lading/ladinglaw13.StockWhole", spec := "stockWhole", inPlace := ["slices.overlaps[lading/api.Cell]"], unfollowed := true, recurses := true, apart := false }
def StockWholeSaid : Prop := stockWholeRow.holds Try.pinned (OpenSpec.ofChange stockWholeSpec)

/-- ITS FALSE NEIGHBOUR: 'it returns false'. Refute it at one input. -/
def stockWholeWrong : ChangeSpec := { name := "stockWhole", fn := fun _ => fun
  | [d1, d2, d3, d4, d5, d6] => { results := [.lit (.bool false)], args := [d1, d2, d3, d4, d5, d6] }
  | _ => none }
def StockWholeWrongFalsely : Prop := stockWholeRow.holds Try.pinned (OpenSpec.ofChange stockWholeWrong)

/-- 'ladinglaw13.StockBack': WHATEVER THE INPUT: true; the input reads as it did. -/
def stockBackSpec : ChangeSpec := { name := "stockBack", fn := fun _ => fun
  | [d1, d2, d3, d4] => { results := [.lit (.bool true)], args := [d1, d2, d3, d4] }
  | _ => none }
def stockBackRow : OpenClaim := { program := "ytkgbdahkncefhaa", sum := "838da89a4a984d6f59799c14df5e6eacd917cb1202679b7eac8d286e9c8c0154", func := "lading/ladinglaw13.StockBack", spec := "stockBack", inPlace := ["slices.overlaps[lading/api.Cell]"], unfollowed := true, recurses := true, apart := false }
def StockBackSaid : Prop := stockBackRow.holds Try.pinned (OpenSpec.ofChange stockBackSpec)

/-- ITS FALSE NEIGHBOUR: 'it returns false'. Refute it at one input. -/
def stockBackWrong : ChangeSpec := { name := "stockBack", fn := fun _ => fun
  | [d1, d2, d3, d4] => { results := [.lit (.bool false)], args := [d1, d2, d3, d4] }
  | _ => none }
def StockBackWrongFalsely : Prop := stockBackRow.holds Try.pinned (OpenSpec.ofChange stockBackWrong)

/-- 'ladinglaw13.StockParts': WHATEVER THE INPUT: true; the input reads as it did. -/
def stockPartsSpec : ChangeSpec := { name := "stockParts", fn := fun _ => fun
  | [d1, d2, d3] => { results := [.lit (.bool true)], args := [d1, d2, d3] }
  | _ => none }
def stockPartsRow : OpenClaim := { program := "ytkgbdahkncefhaa", sum := "838da89a4a984d6f59799c14df5e6eacd917cb1202679b7eac8d286e9c8c0154", func := "lading/ladinglaw13.StockParts", spec := "stockParts", inPlace := ["slices.overlaps[lading/api.Cell]"], unfollowed := true, recurses := true, apart := false }
def StockPartsSaid : Prop := stockPartsRow.holds Try.pinned (OpenSpec.ofChange stockPartsSpec)

/-- ITS FALSE NEIGHBOUR: 'it returns false'. Refute it at one input. -/
def stockPartsWrong : ChangeSpec := { name := "stockParts", fn := fun _ => fun
  | [d1, d2, d3] => { results := [.lit (.bool false)], args := [d1, d2, d3] }
  | _ => none }
def StockPartsWrongFalsely : Prop := stockPartsRow.holds Try.pinned (OpenSpec.ofChange stockPartsWrong)

/-- 'ladinglaw13.StockLines': WHATEVER THE INPUT: true; the input reads as it did. -/
def stockLinesSpec : ChangeSpec := { name := "stockLines", fn := fun _ => fun
  | [d1, d2] => { results := [.lit (.bool true)], args := [d1, d2] }
  | _ => none }
def stockLinesRow : OpenClaim := { program := "ytkgbdahkncefhaa", sum := "838da89a4a984d6f59799c14df5e6eacd917cb1202679b7eac8d286e9c8c0154", func := "lading/ladinglaw13.StockLines", spec := "stockLines", inPlace := ["slices.overlaps[lading/api.Cell]"], unfollowed := true, recurses := true, apart := false }
def StockLinesSaid : Prop := stockLinesRow.holds Try.pinned (OpenSpec.ofChange stockLinesSpec)

/-- ITS FALSE NEIGHBOUR: 'it returns false'. Refute it at one input. -/
def stockLinesWrong : ChangeSpec := { name := "stockLines", fn := fun _ => fun
  | [d1, d2] => { results := [.lit (.bool false)], args := [d1, d2] }
  | _ => none }
def StockLinesWrongFalsely : Prop := stockLinesRow.holds Try.pinned (OpenSpec.ofChange stockLinesWrong)

/- THE SECOND FORM. 'bulk': how many values and letters a reading holds, each counted each time it is reached (what is shared counts as often as it is met; a slice's spare places count too). A statement '..UptoSaid' is the law's where the arguments, and the package variables that the reading takes, are together of bulk at most 1048576: NARROWER than '..Said'. Prove '..Said' where nothing that the law and all that it calls make is longer than what came in: it says more and counts as full. Else prove '..UptoSaid'. A law counts once. -/
mutual
def uptoBulk {H : Type} : DataW H → Nat
  | .lit (.string bytes) => bytes.length + 1
  | .lit _ => 1
  | .nil => 1
  | .ptr d => uptoBulk d + 1
  | .slice elems spare => uptoBulkAll elems + uptoBulkAll spare + 1
  | .agg parts => uptoBulkAll parts + 1
  | .iface _ d => uptoBulk d + 1
  | .map entries => uptoBulkEntries entries + 1
  | .held _ => 1
def uptoBulkAll {H : Type} : List (DataW H) → Nat
  | [] => 0
  | d :: r => uptoBulk d + uptoBulkAll r
def uptoBulkEntries {H : Type} : List (Lit × DataW H) → Nat
  | [] => 0
  | x :: r => uptoBulkEntry x + uptoBulkEntries r
def uptoBulkEntry {H : Type} : Lit × DataW H → Nat
  | (.string bytes, d) => bytes.length + uptoBulk d + 1
  | (_, d) => uptoBulk d + 1
 end
def uptoSmall : (H : Type) → List (DataW H) → Bool := fun _ ds => decide (uptoBulkAll ds ≤ 1048576)
def OpenSpec.upto (s : _root_.Go.ChangeSpec) : _root_.Go.OpenSpec := { _root_.Go.OpenSpec.ofChange s with cond := some uptoSmall }

/-- 'ladinglaw13.StockApart', WHERE WHAT IT READS IS OF BULK AT MOST 1048576: true; the input reads as it did. -/
def stockApartUptoRow : OpenClaim := { program := "ytkgbdahkncefhaa", sum := "838da89a4a984d6f59799c14df5e6eacd917cb1202679b7eac8d286e9c8c0154", func := "lading/ladinglaw13.StockApart", spec := "stockApart", inPlace := ["slices.overlaps[lading/api.Cell]"], unfollowed := true, recurses := true, apart := false, narrowed := true }
def StockApartUptoSaid : Prop := stockApartUptoRow.holds Try.pinned (OpenSpec.upto stockApartSpec)

/-- 'ladinglaw13.StockMoves', WHERE WHAT IT READS IS OF BULK AT MOST 1048576: true; the input reads as it did. -/
def stockMovesUptoRow : OpenClaim := { program := "ytkgbdahkncefhaa", sum := "838da89a4a984d6f59799c14df5e6eacd917cb1202679b7eac8d286e9c8c0154", func := "lading/ladinglaw13.StockMoves", spec := "stockMoves", inPlace := ["slices.overlaps[lading/api.Cell]"], unfollowed := true, recurses := true, apart := false, narrowed := true }
def StockMovesUptoSaid : Prop := stockMovesUptoRow.holds Try.pinned (OpenSpec.upto stockMovesSpec)

/-- 'ladinglaw13.StockWhole', WHERE WHAT IT READS IS OF BULK AT MOST 1048576: true; the input reads as it did. -/
def stockWholeUptoRow : OpenClaim := { program := "ytkgbdahkncefhaa", sum := "838da89a4a984d6f59799c14df5e6eacd917cb1202679b7eac8d286e9c8c0154", func := "lading/ladinglaw13.StockWhole", spec := "stockWhole", inPlace := ["slices.overlaps[lading/api.Cell]"], unfollowed := true, recurses := true, apart := false, narrowed := true }
def StockWholeUptoSaid : Prop := stockWholeUptoRow.holds Try.pinned (OpenSpec.upto stockWholeSpec)

/-- 'ladinglaw13.StockBack', WHERE WHAT IT READS IS OF BULK AT MOST 1048576: true; the input reads as it did. -/
def stockBackUptoRow : OpenClaim := { program := "ytkgbdahkncefhaa", sum := "838da89a4a984d6f59799c14df5e6eacd917cb1202679b7eac8d286e9c8c0154", func := "lading/ladinglaw13.StockBack", spec := "stockBack", inPlace := ["slices.overlaps[lading/api.Cell]"], unfollowed := true, recurses := true, apart := false, narrowed := true }
def StockBackUptoSaid : Prop := stockBackUptoRow.holds Try.pinned (OpenSpec.upto stockBackSpec)

/-- 'ladinglaw13.StockParts', WHERE WHAT IT READS IS OF BULK AT MOST 1048576: true; the input reads as it did. -/
def stockPartsUptoRow : OpenClaim := { program := "ytkgbdahkncefhaa", sum := "838da89a4a984d6f59799c14df5e6eacd917cb1202679b7eac8d286e9c8c0154", func := "lading/ladinglaw13.StockParts", spec := "stockParts", inPlace := ["slices.overlaps[lading/api.Cell]"], unfollowed := true, recurses := true, apart := false, narrowed := true }
def StockPartsUptoSaid : Prop := stockPartsUptoRow.holds Try.pinned (OpenSpec.upto stockPartsSpec)

/-- 'ladinglaw13.StockLines', WHERE WHAT IT READS IS OF BULK AT MOST 1048576: true; the input reads as it did. -/
def stockLinesUptoRow : OpenClaim := { program := "ytkgbdahkncefhaa", sum := "838da89a4a984d6f59799c14df5e6eacd917cb1202679b7eac8d286e9c8c0154", func := "lading/ladinglaw13.StockLines", spec := "stockLines", inPlace := ["slices.overlaps[lading/api.Cell]"], unfollowed := true, recurses := true, apart := false, narrowed := true }
def StockLinesUptoSaid : Prop := stockLinesUptoRow.holds Try.pinned (OpenSpec.upto stockLinesSpec)

end Rows
end Go.Proofs.Ytkgbdahkncefhaa
