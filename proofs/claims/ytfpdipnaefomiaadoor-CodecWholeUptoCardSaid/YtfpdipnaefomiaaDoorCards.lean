/-
  DERIVED. GIVEN WITH THE SEED: THE CARDS: each row of YtfpdipnaefomiaaDoorRows.lean that lists a variable, with what it lists TIED to the program's text (the seventh form; the later family's looks); each row that meets fmt, with fmt's text TOLD by the authors' own Lean function (tested against real Go, not proved from fmt's source: count such statements apart). THE CARD IS WHAT COUNTS. Prove the row's statement (the work); the ties are given (YtfpdipnaefomiaaDoorTie.lean); close each card by the builder's one call (the guide's Derived/Test/ToyasCard.lean, 'card_holds'). Laid BY PROGRAM, IN A SANDBOX (cutbox-door.mjs). By AI agents, Wed Nov 11 2026. No macro, syntax, notation, axiom, sorry.
-/
import Derived.Test.YtfpdipnaefomiaaDoorRows
import GoSem.ClaimSeven
namespace Go.Proofs.YtfpdipnaefomiaaDoor
namespace Rows

/-- THE TIED CARD OF 'ladinglaw03.CodecOrder'. -/
def codecOrderCard : Claim7 := { stood := { row := codecOrderRow, standIns := [], harness := (true, "93162b2c919769b76b3a42c42a2f1cae8268af05b412bc55208d96aacb6475f5"), looks := false }, kinds := [], alts := [], laidByText := true, laidKinds := [.data, .pinned], laidTests := true, laidLooks := .later }
def CodecOrderCardSaid : Prop := Claim7.holds Tryd.pinned (.plain (OpenSpec.ofChange codecOrderSpec)) codecOrderCard

/-- THE TIED CARD OF 'ladinglaw03.CodecWrites'. -/
def codecWritesCard : Claim7 := { stood := { row := codecWritesRow, standIns := [], harness := (true, "93162b2c919769b76b3a42c42a2f1cae8268af05b412bc55208d96aacb6475f5"), looks := false }, kinds := [], alts := [], laidByText := true, laidKinds := [.data, .pinned], laidTests := true, laidLooks := .later }
def CodecWritesCardSaid : Prop := Claim7.holds Tryd.pinned (.plain (OpenSpec.ofChange codecWritesSpec)) codecWritesCard

/-- THE TIED CARD OF 'ladinglaw03.CodecShort'. -/
def codecShortCard : Claim7 := { stood := { row := codecShortRow, standIns := [], harness := (true, "93162b2c919769b76b3a42c42a2f1cae8268af05b412bc55208d96aacb6475f5"), looks := false }, kinds := [], alts := [], laidByText := true, laidKinds := [.data, .pinned], laidTests := true, laidLooks := .later }
def CodecShortCardSaid : Prop := Claim7.holds Tryd.pinned (.plain (OpenSpec.ofChange codecShortSpec)) codecShortCard

/-- THE TIED CARD OF 'ladinglaw03.CodecApart'. -/
def codecApartCard : Claim7 := { stood := { row := codecApartRow, standIns := [], harness := (true, "93162b2c919769b76b3a42c42a2f1cae8268af05b412bc55208d96aacb6475f5"), looks := false }, kinds := [], alts := [], laidByText := true, laidKinds := [.data, .pinned], laidTests := true, laidLooks := .later }
def CodecApartCardSaid : Prop := Claim7.holds Tryd.pinned (.plain (OpenSpec.ofChange codecApartSpec)) codecApartCard

/-- THE TIED CARD OF 'ladinglaw03.CodecReads'. -/
def codecReadsCard : Claim7 := { stood := { row := codecReadsRow, standIns := [], harness := (true, "93162b2c919769b76b3a42c42a2f1cae8268af05b412bc55208d96aacb6475f5"), looks := false }, kinds := [], alts := [], laidByText := true, laidKinds := [.data, .pinned], laidTests := true, laidLooks := .later }
def CodecReadsCardSaid : Prop := Claim7.holds Tryd.pinned (.plain (OpenSpec.ofChange codecReadsSpec)) codecReadsCard

/-- THE TIED CARD OF 'ladinglaw03.CodecBack'. -/
def codecBackCard : Claim7 := { stood := { row := codecBackRow, standIns := [], harness := (true, "93162b2c919769b76b3a42c42a2f1cae8268af05b412bc55208d96aacb6475f5"), looks := false }, kinds := [], alts := [], laidByText := true, laidKinds := [.data, .pinned], laidTests := true, laidLooks := .later }
def CodecBackCardSaid : Prop := Claim7.holds Tryd.pinned (.plain (OpenSpec.ofChange codecBackSpec)) codecBackCard

/-- THE TIED CARD OF 'ladinglaw03.CodecEntries'. -/
def codecEntriesCard : Claim7 := { stood := { row := codecEntriesRow, standIns := [], harness := (true, "93162b2c919769b76b3a42c42a2f1cae8268af05b412bc55208d96aacb6475f5"), looks := false }, kinds := [], alts := [], laidByText := true, laidKinds := [.data, .pinned], laidTests := true, laidLooks := .later }
def CodecEntriesCardSaid : Prop := Claim7.holds Tryd.pinned (.plain (OpenSpec.ofChange codecEntriesSpec)) codecEntriesCard

/-- THE TIED CARD OF 'ladinglaw03.CodecKeys'. -/
def codecKeysCard : Claim7 := { stood := { row := codecKeysRow, standIns := [], harness := (true, "93162b2c919769b76b3a42c42a2f1cae8268af05b412bc55208d96aacb6475f5"), looks := false }, kinds := [], alts := [], laidByText := true, laidKinds := [.data, .pinned], laidTests := true, laidLooks := .later }
def CodecKeysCardSaid : Prop := Claim7.holds Tryd.pinned (.plain (OpenSpec.ofChange codecKeysSpec)) codecKeysCard

/-- THE TIED CARD OF 'ladinglaw03.CodecWhole'. -/
def codecWholeCard : Claim7 := { stood := { row := codecWholeRow, standIns := [], harness := (true, "93162b2c919769b76b3a42c42a2f1cae8268af05b412bc55208d96aacb6475f5"), looks := false }, kinds := [], alts := [], laidByText := true, laidKinds := [.data, .pinned], laidTests := true, laidLooks := .later }
def CodecWholeCardSaid : Prop := Claim7.holds Tryd.pinned (.plain (OpenSpec.ofChange codecWholeSpec)) codecWholeCard

/-- THE SECOND FORM's CARD OF 'ladinglaw03.CodecOrder'. -/
def codecOrderUptoCard : Claim7 := { stood := { row := codecOrderUptoRow, standIns := [], harness := (true, "93162b2c919769b76b3a42c42a2f1cae8268af05b412bc55208d96aacb6475f5"), looks := false }, kinds := [], alts := [], laidByText := true, laidKinds := [.data, .pinned], laidTests := true, laidLooks := .later }
def CodecOrderUptoCardSaid : Prop := Claim7.holds Tryd.pinned (.plain (OpenSpec.upto codecOrderSpec)) codecOrderUptoCard

/-- THE SECOND FORM's CARD OF 'ladinglaw03.CodecWrites'. -/
def codecWritesUptoCard : Claim7 := { stood := { row := codecWritesUptoRow, standIns := [], harness := (true, "93162b2c919769b76b3a42c42a2f1cae8268af05b412bc55208d96aacb6475f5"), looks := false }, kinds := [], alts := [], laidByText := true, laidKinds := [.data, .pinned], laidTests := true, laidLooks := .later }
def CodecWritesUptoCardSaid : Prop := Claim7.holds Tryd.pinned (.plain (OpenSpec.upto codecWritesSpec)) codecWritesUptoCard

/-- THE SECOND FORM's CARD OF 'ladinglaw03.CodecShort'. -/
def codecShortUptoCard : Claim7 := { stood := { row := codecShortUptoRow, standIns := [], harness := (true, "93162b2c919769b76b3a42c42a2f1cae8268af05b412bc55208d96aacb6475f5"), looks := false }, kinds := [], alts := [], laidByText := true, laidKinds := [.data, .pinned], laidTests := true, laidLooks := .later }
def CodecShortUptoCardSaid : Prop := Claim7.holds Tryd.pinned (.plain (OpenSpec.upto codecShortSpec)) codecShortUptoCard

/-- THE SECOND FORM's CARD OF 'ladinglaw03.CodecApart'. -/
def codecApartUptoCard : Claim7 := { stood := { row := codecApartUptoRow, standIns := [], harness := (true, "93162b2c919769b76b3a42c42a2f1cae8268af05b412bc55208d96aacb6475f5"), looks := false }, kinds := [], alts := [], laidByText := true, laidKinds := [.data, .pinned], laidTests := true, laidLooks := .later }
def CodecApartUptoCardSaid : Prop := Claim7.holds Tryd.pinned (.plain (OpenSpec.upto codecApartSpec)) codecApartUptoCard

/-- THE SECOND FORM's CARD OF 'ladinglaw03.CodecReads'. -/
def codecReadsUptoCard : Claim7 := { stood := { row := codecReadsUptoRow, standIns := [], harness := (true, "93162b2c919769b76b3a42c42a2f1cae8268af05b412bc55208d96aacb6475f5"), looks := false }, kinds := [], alts := [], laidByText := true, laidKinds := [.data, .pinned], laidTests := true, laidLooks := .later }
def CodecReadsUptoCardSaid : Prop := Claim7.holds Tryd.pinned (.plain (OpenSpec.upto codecReadsSpec)) codecReadsUptoCard

/-- THE SECOND FORM's CARD OF 'ladinglaw03.CodecBack'. -/
def codecBackUptoCard : Claim7 := { stood := { row := codecBackUptoRow, standIns := [], harness := (true, "93162b2c919769b76b3a42c42a2f1cae8268af05b412bc55208d96aacb6475f5"), looks := false }, kinds := [], alts := [], laidByText := true, laidKinds := [.data, .pinned], laidTests := true, laidLooks := .later }
def CodecBackUptoCardSaid : Prop := Claim7.holds Tryd.pinned (.plain (OpenSpec.upto codecBackSpec)) codecBackUptoCard

/-- THE SECOND FORM's CARD OF 'ladinglaw03.CodecEntries'. -/
def codecEntriesUptoCard : Claim7 := { stood := { row := codecEntriesUptoRow, standIns := [], harness := (true, "93162b2c919769b76b3a42c42a2f1cae8268af05b412bc55208d96aacb6475f5"), looks := false }, kinds := [], alts := [], laidByText := true, laidKinds := [.data, .pinned], laidTests := true, laidLooks := .later }
def CodecEntriesUptoCardSaid : Prop := Claim7.holds Tryd.pinned (.plain (OpenSpec.upto codecEntriesSpec)) codecEntriesUptoCard

/-- THE SECOND FORM's CARD OF 'ladinglaw03.CodecKeys'. -/
def codecKeysUptoCard : Claim7 := { stood := { row := codecKeysUptoRow, standIns := [], harness := (true, "93162b2c919769b76b3a42c42a2f1cae8268af05b412bc55208d96aacb6475f5"), looks := false }, kinds := [], alts := [], laidByText := true, laidKinds := [.data, .pinned], laidTests := true, laidLooks := .later }
def CodecKeysUptoCardSaid : Prop := Claim7.holds Tryd.pinned (.plain (OpenSpec.upto codecKeysSpec)) codecKeysUptoCard

/-- THE SECOND FORM's CARD OF 'ladinglaw03.CodecWhole'. -/
def codecWholeUptoCard : Claim7 := { stood := { row := codecWholeUptoRow, standIns := [], harness := (true, "93162b2c919769b76b3a42c42a2f1cae8268af05b412bc55208d96aacb6475f5"), looks := false }, kinds := [], alts := [], laidByText := true, laidKinds := [.data, .pinned], laidTests := true, laidLooks := .later }
def CodecWholeUptoCardSaid : Prop := Claim7.holds Tryd.pinned (.plain (OpenSpec.upto codecWholeSpec)) codecWholeUptoCard
end Rows
end Go.Proofs.YtfpdipnaefomiaaDoor
