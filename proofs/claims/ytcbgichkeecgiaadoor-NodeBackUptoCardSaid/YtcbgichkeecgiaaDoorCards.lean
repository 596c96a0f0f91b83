/-
  DERIVED. GIVEN WITH THE SEED: THE CARDS: each row of YtcbgichkeecgiaaDoorRows.lean that lists a variable, with what it lists TIED to the program's text (the seventh form; the later family's looks); each row that meets fmt, with fmt's text TOLD by the authors' own Lean function (tested against real Go, not proved from fmt's source: count such statements apart). THE CARD IS WHAT COUNTS. Prove the row's statement (the work); the ties are given (YtcbgichkeecgiaaDoorTie.lean); close each card by the builder's one call (the guide's Derived/Test/ToyasCard.lean, 'card_holds'). Laid BY PROGRAM, IN A SANDBOX (cutbox-door.mjs). By AI agents, Wed Nov 11 2026. No macro, syntax, notation, axiom, sorry.
-/
import Derived.Test.YtcbgichkeecgiaaDoorRows
import GoSem.ClaimSeven
namespace Go.Proofs.YtcbgichkeecgiaaDoor
namespace Rows

/-- THE TIED CARD OF 'ladinglaw06.NodeCodes'. -/
def nodeCodesCard : Claim7 := { stood := { row := nodeCodesRow, standIns := [], harness := (true, "83c14cc6737d2420212962f38515add13dbed9529ef3e2cf7dfaf250eea81a3c"), looks := false }, kinds := [], alts := [], laidByText := true, laidKinds := [.data, .pinned], laidTests := true, laidLooks := .later }
def NodeCodesCardSaid : Prop := Claim7.holds Tryd.pinned (.plain (OpenSpec.ofChange nodeCodesSpec)) nodeCodesCard

/-- THE TIED CARD OF 'ladinglaw06.NodeBack'. -/
def nodeBackCard : Claim7 := { stood := { row := nodeBackRow, standIns := [], harness := (true, "83c14cc6737d2420212962f38515add13dbed9529ef3e2cf7dfaf250eea81a3c"), looks := false }, kinds := [], alts := [], laidByText := true, laidKinds := [.data, .pinned], laidTests := true, laidLooks := .later }
def NodeBackCardSaid : Prop := Claim7.holds Tryd.pinned (.plain (OpenSpec.ofChange nodeBackSpec)) nodeBackCard

/-- THE SECOND FORM's CARD OF 'ladinglaw06.NodeCodes'. -/
def nodeCodesUptoCard : Claim7 := { stood := { row := nodeCodesUptoRow, standIns := [], harness := (true, "83c14cc6737d2420212962f38515add13dbed9529ef3e2cf7dfaf250eea81a3c"), looks := false }, kinds := [], alts := [], laidByText := true, laidKinds := [.data, .pinned], laidTests := true, laidLooks := .later }
def NodeCodesUptoCardSaid : Prop := Claim7.holds Tryd.pinned (.plain (OpenSpec.upto nodeCodesSpec)) nodeCodesUptoCard

/-- THE SECOND FORM's CARD OF 'ladinglaw06.NodeBack'. -/
def nodeBackUptoCard : Claim7 := { stood := { row := nodeBackUptoRow, standIns := [], harness := (true, "83c14cc6737d2420212962f38515add13dbed9529ef3e2cf7dfaf250eea81a3c"), looks := false }, kinds := [], alts := [], laidByText := true, laidKinds := [.data, .pinned], laidTests := true, laidLooks := .later }
def NodeBackUptoCardSaid : Prop := Claim7.holds Tryd.pinned (.plain (OpenSpec.upto nodeBackSpec)) nodeBackUptoCard
end Rows
end Go.Proofs.YtcbgichkeecgiaaDoor
