/-
  DERIVED. GIVEN WITH THE SEED: THE CARDS: each row of YtdiopojnkjkgmaaDoorRows.lean that lists a variable, with what it lists TIED to the program's text (the seventh form; the later family's looks); each row that meets fmt, with fmt's text TOLD by the authors' own Lean function (tested against real Go, not proved from fmt's source: count such statements apart). THE CARD IS WHAT COUNTS. Prove the row's statement (the work); the ties are given (YtdiopojnkjkgmaaDoorTie.lean); close each card by the builder's one call (the guide's Derived/Test/ToyasCard.lean, 'card_holds'). Laid BY PROGRAM, IN A SANDBOX (cutbox-door.mjs). By AI agents, Wed Nov 11 2026. No macro, syntax, notation, axiom, sorry.
-/
import Derived.Test.YtdiopojnkjkgmaaDoorRows
import GoSem.ClaimSeven
namespace Go.Proofs.YtdiopojnkjkgmaaDoor
namespace Rows

/-- THE TIED CARD OF 'ladingtop.TopSold'. -/
def topSoldCard : Claim7 := { stood := { row := topSoldRow, standIns := [], harness := (true, "29fac21720595ecce9b0e70568786544807599a2bb5d64ffe0159786982ad24c"), looks := false }, kinds := [], alts := [], laidByText := true, laidKinds := [.data, .data, .data], laidTests := true, laidLooks := .later }
def TopSoldCardSaid : Prop := Claim7.holds Tryd.pinned (.plain (OpenSpec.ofChange topSoldSpec)) topSoldCard

/-- THE SECOND FORM's CARD OF 'ladingtop.TopSold'. -/
def topSoldUptoCard : Claim7 := { stood := { row := topSoldUptoRow, standIns := [], harness := (true, "29fac21720595ecce9b0e70568786544807599a2bb5d64ffe0159786982ad24c"), looks := false }, kinds := [], alts := [], laidByText := true, laidKinds := [.data, .data, .data], laidTests := true, laidLooks := .later }
def TopSoldUptoCardSaid : Prop := Claim7.holds Tryd.pinned (.plain (OpenSpec.upto topSoldSpec)) topSoldUptoCard
end Rows
end Go.Proofs.YtdiopojnkjkgmaaDoor
