/-
  No cell of these rows narrows 'for every input' (looked for: loops, veiled, ifaces, maps, wideKeys, modest, calm, conditions, laid).
  DERIVED. THE GIVEN ROWS OF THIS SEAT. 5 by the template 'for every input the law returns true; each argument reads behind the call as it read before'; 0 by the template 'total and deterministic' (their statements: YthagaplbeccmhaaTotals.lean).
  GIVEN WITH THE SEED: the statements are not yours to turn. If you find one false, say at which input.
  Laid BY PROGRAM, IN A SANDBOX (cutbox-rows.mjs): the forced cells as the released guide's own fill.sh prints them over the translation b41542980f631f02… (all of the seat's roots in one cut). By AI agents, Wed Nov 11 2026. No macro, syntax, notation, axiom, sorry.
-/
import Derived.Test.YthagaplbeccmhaaChecked
import GoSem.Claim
import GoSem.ClaimJoined
import GoSem.ClaimMapViews
import Derived.JoinedTies
import Derived.KernelRfl
namespace Go.Proofs.Ythagaplbeccmhaa
/- THE CELL 'sum', in the pinned program and in every row, IS THE sha256 OF THE DUMP (.gsa) THAT YthagaplbeccmhaaProg.lean LOADS. Nothing in Lean hashes anything: it is a label: what it is worth is what the hold of that sum in a sandbox is worth. -/
noncomputable def Try.pinned : Pinned := { name := "ythagaplbeccmhaa", sum := "b41542980f631f02f53ef7b497fe036014dd061e5baeadb79fb9357e53ab0f05", checked := Try.checked }
namespace Rows
def none {H : Type} : Left H := { results := [], args := [] }

/-- 'ladinglaw15.ShipLists': WHATEVER THE INPUT: true; the input reads as it did. -/
def shipListsSpec : ChangeSpec := { name := "shipLists", fn := fun _ => fun
  | [d1, d2, d3, d4] => { results := [.lit (.bool true)], args := [d1, d2, d3, d4] }
  | _ => none }
def shipListsRow : OpenClaim := { program := "ythagaplbeccmhaa", sum := "b41542980f631f02f53ef7b497fe036014dd061e5baeadb79fb9357e53ab0f05", func := "lading/ladinglaw15.ShipLists", spec := "shipLists", inPlace := ["slices.overlaps[lading/api.Shipment]"], unfollowed := true, recurses := true, apart := false }
def ShipListsSaid : Prop := shipListsRow.holds Try.pinned (OpenSpec.ofChange shipListsSpec)

/-- ITS FALSE NEIGHBOUR: 'it returns false'. Refute it at one input. -/
def shipListsWrong : ChangeSpec := { name := "shipLists", fn := fun _ => fun
  | [d1, d2, d3, d4] => { results := [.lit (.bool false)], args := [d1, d2, d3, d4] }
  | _ => none }
def ShipListsWrongFalsely : Prop := shipListsRow.holds Try.pinned (OpenSpec.ofChange shipListsWrong)

/-- 'ladinglaw15.ShipAgrees': WHATEVER THE INPUT: true; the input reads as it did. -/
def shipAgreesSpec : ChangeSpec := { name := "shipAgrees", fn := fun _ => fun
  | [d1, d2, d3, d4] => { results := [.lit (.bool true)], args := [d1, d2, d3, d4] }
  | _ => none }
def shipAgreesRow : OpenClaim := { program := "ythagaplbeccmhaa", sum := "b41542980f631f02f53ef7b497fe036014dd061e5baeadb79fb9357e53ab0f05", func := "lading/ladinglaw15.ShipAgrees", spec := "shipAgrees", inPlace := ["slices.overlaps[lading/api.Shipment]"], unfollowed := true, recurses := true, apart := false }
def ShipAgreesSaid : Prop := shipAgreesRow.holds Try.pinned (OpenSpec.ofChange shipAgreesSpec)

/-- ITS FALSE NEIGHBOUR: 'it returns false'. Refute it at one input. -/
def shipAgreesWrong : ChangeSpec := { name := "shipAgrees", fn := fun _ => fun
  | [d1, d2, d3, d4] => { results := [.lit (.bool false)], args := [d1, d2, d3, d4] }
  | _ => none }
def ShipAgreesWrongFalsely : Prop := shipAgreesRow.holds Try.pinned (OpenSpec.ofChange shipAgreesWrong)

/-- 'ladinglaw15.ShipApart': WHATEVER THE INPUT: true; the input reads as it did. -/
def shipApartSpec : ChangeSpec := { name := "shipApart", fn := fun _ => fun
  | [d1, d2, d3, d4, d5] => { results := [.lit (.bool true)], args := [d1, d2, d3, d4, d5] }
  | _ => none }
def shipApartRow : OpenClaim := { program := "ythagaplbeccmhaa", sum := "b41542980f631f02f53ef7b497fe036014dd061e5baeadb79fb9357e53ab0f05", func := "lading/ladinglaw15.ShipApart", spec := "shipApart", inPlace := ["slices.overlaps[lading/api.Shipment]"], unfollowed := true, recurses := true, apart := false }
def ShipApartSaid : Prop := shipApartRow.holds Try.pinned (OpenSpec.ofChange shipApartSpec)

/-- ITS FALSE NEIGHBOUR: 'it returns false'. Refute it at one input. -/
def shipApartWrong : ChangeSpec := { name := "shipApart", fn := fun _ => fun
  | [d1, d2, d3, d4, d5] => { results := [.lit (.bool false)], args := [d1, d2, d3, d4, d5] }
  | _ => none }
def ShipApartWrongFalsely : Prop := shipApartRow.holds Try.pinned (OpenSpec.ofChange shipApartWrong)

/-- 'ladinglaw15.ShipMoves': WHATEVER THE INPUT: true; the input reads as it did. -/
def shipMovesSpec : ChangeSpec := { name := "shipMoves", fn := fun _ => fun
  | [d1, d2] => { results := [.lit (.bool true)], args := [d1, d2] }
  | _ => none }
def shipMovesRow : OpenClaim := { program := "ythagaplbeccmhaa", sum := "b41542980f631f02f53ef7b497fe036014dd061e5baeadb79fb9357e53ab0f05", func := "lading/ladinglaw15.ShipMoves", spec := "shipMoves", inPlace := ["slices.overlaps[lading/api.Shipment]"], unfollowed := true, recurses := true, apart := false }
def ShipMovesSaid : Prop := shipMovesRow.holds Try.pinned (OpenSpec.ofChange shipMovesSpec)

/-- ITS FALSE NEIGHBOUR: 'it returns false'. Refute it at one input. -/
def shipMovesWrong : ChangeSpec := { name := "shipMoves", fn := fun _ => fun
  | [d1, d2] => { results := [.lit (.bool false)], args := [d1, d2] }
  | _ => none }
def ShipMovesWrongFalsely : Prop := shipMovesRow.holds Try.pinned (OpenSpec.ofChange shipMovesWrong)

/-- 'ladinglaw15.ShipEnds': WHATEVER THE INPUT: true; the input reads as it did. -/
def shipEndsSpec : ChangeSpec := { name := "shipEnds", fn := fun _ => fun
  | [d1, d2, d3, d4] => { results := [.lit (.bool true)], args := [d1, d2, d3, d4] }
  | _ => none }
def shipEndsRow : OpenClaim := { program := "ythagaplbeccmhaa", sum := "b41542980f631f02f53ef7b497fe036014dd061e5baeadb79fb9357e53ab0f05", func := "lading/ladinglaw15.ShipEnds", spec := "shipEnds", inPlace := ["slices.overlaps[lading/api.Shipment]"], unfollowed := true, recurses := true, apart := false }
def ShipEndsSaid : Prop := shipEndsRow.holds Try.pinned (OpenSpec.ofChange shipEndsSpec)

/-- ITS FALSE NEIGHBOUR: 'it returns false'. Refute it at one input. -/
def shipEndsWrong : ChangeSpec := { name := "shipEnds", fn := fun _ => fun
  | [d1, d2, d3, d4] => { results := [.lit (.bool false)], args := [d1, d2, d3, d4] }
  | _ => none }
def ShipEndsWrongFalsely : Prop := shipEndsRow.holds Try.pinned (OpenSpec.ofChange shipEndsWrong)

/- THE SECOND FORM. 'bulk': how many values and letters a reading holds, each counted each time it is reached (what is shared counts as often as it is met; a slice's spare places count too). A statement '..UptoSaid' is the law's where the arguments, and the package variables that the reading takes, are together of bulk at most 1048576: NARROWER than '..Said'. Prove '..Said' where nothing that the law and all that it calls make is longer than what came in: it says more and counts as full. Else prove '..UptoSaid'. A law counts once. -/
mutual
def uptoBulk {H : Type} : DataW H → Nat
  | .lit (.string bytes) => bytes.length + 1
  | .lit _ => 1
  | .nil => 1
  | .ptr d => uptoBulk d + 1
  | .slice elems spare => uptoBulkAll elems + uptoBulkAll spare + 1
  | .agg parts => uptoBulkAll parts + 1
  | .iface _ d => uptoBulk d + 1
  | .map entries => uptoBulkEntries entries + 1
  | .held _ => 1
def uptoBulkAll {H : Type} : List (DataW H) → Nat
  | [] => 0
  | d :: r => uptoBulk d + uptoBulkAll r
def uptoBulkEntries {H : Type} : List (Lit × DataW H) → Nat
  | [] => 0
  | x :: r => uptoBulkEntry x + uptoBulkEntries r
def uptoBulkEntry {H : Type} : Lit × DataW H → Nat
  | (.string bytes, d) => bytes.length + uptoBulk d + 1
  | (_, d) => uptoBulk d + 1
 end
def uptoSmall : (H : Type) → List (DataW H) → Bool := fun _ ds => decide (uptoBulkAll ds ≤ 1048576)
def OpenSpec.upto (s : _root_.Go.ChangeSpec) : _root_.Go.OpenSpec := { _root_.Go.OpenSpec.ofChange s with cond := some uptoSmall }

/-- 'ladinglaw15.ShipLists', WHERE WHAT IT READS IS OF BULK AT MOST 1048576: true; the input reads as it did. -/
def shipListsUptoRow : OpenClaim := { program := "ythagaplbeccmhaa", sum := "b41542980f631f02f53ef7b497fe036014dd061e5baeadb79fb9357e53ab0f05", func := "lading/ladinglaw15.ShipLists", spec := "shipLists", inPlace := ["slices.overlaps[lading/api.Shipment]"], unfollowed := true, recurses := true, apart := false, narrowed := true }
def ShipListsUptoSaid : Prop := shipListsUptoRow.holds Try.pinned (OpenSpec.upto shipListsSpec)

/-- 'ladinglaw15.ShipAgrees', WHERE WHAT IT READS IS OF BULK AT MOST 1048576: true; the input reads as it did. -/
def shipAgreesUptoRow : OpenClaim := { program := "ythagaplbeccmhaa", sum := "b41542980f631f02f53ef7b497fe036014dd061e5baeadb79fb9357e53ab0f05", func := "lading/ladinglaw15.ShipAgrees", spec := "shipAgrees", inPlace := ["slices.overlaps[lading/api.Shipment]"], unfollowed := true, recurses := true, apart := false, narrowed := true }
def ShipAgreesUptoSaid : Prop := shipAgreesUptoRow.holds Try.pinned (OpenSpec.upto shipAgreesSpec)

/-- 'ladinglaw15.ShipApart', WHERE WHAT IT READS IS OF BULK AT MOST 1048576: true; the input reads as it did. -/
def shipApartUptoRow : OpenClaim := { program := "ythagaplbeccmhaa", sum := "b41542980f631f02f53ef7b497fe036014dd061e5baeadb79fb9357e53ab0f05", func := "lading/ladinglaw15.ShipApart", spec := "shipApart", inPlace := ["slices.overlaps[lading/api.Shipment]"], unfollowed := true, recurses := true, apart := false, narrowed := true }
def ShipApartUptoSaid : Prop := shipApartUptoRow.holds Try.pinned (OpenSpec.upto shipApartSpec)

/-- 'ladinglaw15.ShipMoves', WHERE WHAT IT READS IS OF BULK AT MOST 1048576: true; the input reads as it did. -/
def shipMovesUptoRow : OpenClaim := { program := "ythagaplbeccmhaa", sum := "b41542980f631f02f53ef7b497fe036014dd061e5baeadb79fb9357e53ab0f05", func := "lading/ladinglaw15.ShipMoves", spec := "shipMoves", inPlace := ["slices.overlaps[lading/api.Shipment]"], unfollowed := true, recurses := true, apart := false, narrowed := true }
def ShipMovesUptoSaid : Prop := shipMovesUptoRow.holds Try.pinned (OpenSpec.upto shipMovesSpec)

/-- 'ladinglaw15.ShipEnds', WHERE WHAT IT READS IS OF BULK AT MOST 1048576: true; the input reads as it did. -/
def shipEndsUptoRow : OpenClaim := { program := "ythagaplbeccmhaa", sum := "b41542980f631f02f53ef7b497fe036014dd061e5baeadb79fb9357e53ab0f05", func := "lading/ladinglaw15.ShipEnds", spec := "shipEnds", inPlace := ["slices.overlaps[lading/api.Shipment]"], unfollowed := true, recurses := true, apart := false, narrowed := true }
def ShipEndsUptoSaid : Prop := shipEndsUptoRow.holds Try.pinned (OpenSpec.upto shipEndsSpec)

end Rows
end Go.Proofs.Ythagaplbeccmhaa
