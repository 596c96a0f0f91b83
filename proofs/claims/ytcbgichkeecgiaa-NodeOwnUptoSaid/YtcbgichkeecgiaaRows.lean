/-
  No cell of these rows narrows 'for every input' (looked for: loops, veiled, ifaces, maps, wideKeys, modest, calm, conditions, laid).
  DERIVED. THE GIVEN ROWS OF THIS SEAT. 6 by the template 'for every input the law returns true; each argument reads behind the call as it read before'; 0 by the template 'total and deterministic' (their statements: YtcbgichkeecgiaaTotals.lean).
  GIVEN WITH THE SEED: the statements are not yours to turn. If you find one false, say at which input.
  Laid BY PROGRAM, IN A SANDBOX (cutbox-rows.mjs): the forced cells as the released guide's own fill.sh prints them over the translation 9e8e0bdba3bf1d9e… (all of the seat's roots in one cut). By AI agents, Wed Nov 11 2026. No macro, syntax, notation, axiom, sorry.
-/
import Derived.Test.YtcbgichkeecgiaaChecked
import GoSem.Claim
import GoSem.ClaimJoined
import GoSem.ClaimMapViews
import Derived.JoinedTies
import Derived.KernelRfl
namespace Go.Proofs.Ytcbgichkeecgiaa
/- THE CELL 'sum', in the pinned program and in every row, IS THE sha256 OF THE DUMP (.gsa) THAT YtcbgichkeecgiaaProg.lean LOADS. Nothing in Lean hashes anything: it is a label: what it is worth is what the hold of that sum in a sandbox is worth. -/
noncomputable def Try.pinned : Pinned := { name := "ytcbgichkeecgiaa", sum := "9e8e0bdba3bf1d9e201728c152e2ee18cb943156055c6c2d0c32b5fa62cad0e2", checked := Try.checked }
namespace Rows
def none {H : Type} : Left H := { results := [], args := [] }

/-- 'ladinglaw06.NodeSame': WHATEVER THE INPUT: true; the input reads as it did. -/
def nodeSameSpec : ChangeSpec := { name := "nodeSame", fn := fun _ => fun
  | [d1, d2, d3] => { results := [.lit (.bool true)], args := [d1, d2, d3] }
  | _ => none }
def nodeSameRow : OpenClaim := { program := "ytcbgichkeecgiaa", sum := "9e8e0bdba3bf1d9e201728c152e2ee18cb943156055c6c2d0c32b5fa62cad0e2", func := "lading/ladinglaw06.NodeSame", spec := "nodeSame", inPlace := ["internal/bytealg.Compare", "slices.overlaps[[]byte]"], unfollowed := true, recurses := true, apart := false }
def NodeSameSaid : Prop := nodeSameRow.holds Try.pinned (OpenSpec.ofChange nodeSameSpec)

/-- ITS FALSE NEIGHBOUR: 'it returns false'. Refute it at one input. -/
def nodeSameWrong : ChangeSpec := { name := "nodeSame", fn := fun _ => fun
  | [d1, d2, d3] => { results := [.lit (.bool false)], args := [d1, d2, d3] }
  | _ => none }
def NodeSameWrongFalsely : Prop := nodeSameRow.holds Try.pinned (OpenSpec.ofChange nodeSameWrong)

/-- 'ladinglaw06.NodeKeys': WHATEVER THE INPUT: true; the input reads as it did. -/
def nodeKeysSpec : ChangeSpec := { name := "nodeKeys", fn := fun _ => fun
  | [d1, d2, d3] => { results := [.lit (.bool true)], args := [d1, d2, d3] }
  | _ => none }
def nodeKeysRow : OpenClaim := { program := "ytcbgichkeecgiaa", sum := "9e8e0bdba3bf1d9e201728c152e2ee18cb943156055c6c2d0c32b5fa62cad0e2", func := "lading/ladinglaw06.NodeKeys", spec := "nodeKeys", inPlace := ["internal/bytealg.Compare", "slices.overlaps[[]byte]"], unfollowed := true, recurses := true, apart := false }
def NodeKeysSaid : Prop := nodeKeysRow.holds Try.pinned (OpenSpec.ofChange nodeKeysSpec)

/-- ITS FALSE NEIGHBOUR: 'it returns false'. Refute it at one input. -/
def nodeKeysWrong : ChangeSpec := { name := "nodeKeys", fn := fun _ => fun
  | [d1, d2, d3] => { results := [.lit (.bool false)], args := [d1, d2, d3] }
  | _ => none }
def NodeKeysWrongFalsely : Prop := nodeKeysRow.holds Try.pinned (OpenSpec.ofChange nodeKeysWrong)

/-- 'ladinglaw06.NodeParts': WHATEVER THE INPUT: true; the input reads as it did. -/
def nodePartsSpec : ChangeSpec := { name := "nodeParts", fn := fun _ => fun
  | [d] => { results := [.lit (.bool true)], args := [d] }
  | _ => none }
def nodePartsRow : OpenClaim := { program := "ytcbgichkeecgiaa", sum := "9e8e0bdba3bf1d9e201728c152e2ee18cb943156055c6c2d0c32b5fa62cad0e2", func := "lading/ladinglaw06.NodeParts", spec := "nodeParts", inPlace := ["internal/bytealg.Compare", "slices.overlaps[[]byte]"], unfollowed := true, recurses := true, apart := false }
def NodePartsSaid : Prop := nodePartsRow.holds Try.pinned (OpenSpec.ofChange nodePartsSpec)

/-- ITS FALSE NEIGHBOUR: 'it returns false'. Refute it at one input. -/
def nodePartsWrong : ChangeSpec := { name := "nodeParts", fn := fun _ => fun
  | [d] => { results := [.lit (.bool false)], args := [d] }
  | _ => none }
def NodePartsWrongFalsely : Prop := nodePartsRow.holds Try.pinned (OpenSpec.ofChange nodePartsWrong)

/-- 'ladinglaw06.NodeFound': WHATEVER THE INPUT: true; the input reads as it did. -/
def nodeFoundSpec : ChangeSpec := { name := "nodeFound", fn := fun _ => fun
  | [d1, d2, d3, d4] => { results := [.lit (.bool true)], args := [d1, d2, d3, d4] }
  | _ => none }
def nodeFoundRow : OpenClaim := { program := "ytcbgichkeecgiaa", sum := "9e8e0bdba3bf1d9e201728c152e2ee18cb943156055c6c2d0c32b5fa62cad0e2", func := "lading/ladinglaw06.NodeFound", spec := "nodeFound", inPlace := ["internal/bytealg.Compare", "slices.overlaps[[]byte]"], unfollowed := true, recurses := true, apart := false }
def NodeFoundSaid : Prop := nodeFoundRow.holds Try.pinned (OpenSpec.ofChange nodeFoundSpec)

/-- ITS FALSE NEIGHBOUR: 'it returns false'. Refute it at one input. -/
def nodeFoundWrong : ChangeSpec := { name := "nodeFound", fn := fun _ => fun
  | [d1, d2, d3, d4] => { results := [.lit (.bool false)], args := [d1, d2, d3, d4] }
  | _ => none }
def NodeFoundWrongFalsely : Prop := nodeFoundRow.holds Try.pinned (OpenSpec.ofChange nodeFoundWrong)

/-- 'ladinglaw06.NodeOwn': WHATEVER THE INPUT: true; the input reads as it did. -/
def nodeOwnSpec : ChangeSpec := { name := "nodeOwn", fn := fun _ => fun
  | [d1, d2, d3] => { results := [.lit (.bool true)], args := [d1, d2, d3] }
  | _ => none }
def nodeOwnRow : OpenClaim := { program := "ytcbgichkeecgiaa", sum := "9e8e0bdba3bf1d9e201728c152e2ee18cb943156055c6c2d0c32b5fa62cad0e2", func := "lading/ladinglaw06.NodeOwn", spec := "nodeOwn", inPlace := ["internal/bytealg.Compare", "slices.overlaps[[]byte]"], unfollowed := true, recurses := true, apart := false }
def NodeOwnSaid : Prop := nodeOwnRow.holds Try.pinned (OpenSpec.ofChange nodeOwnSpec)

/-- ITS FALSE NEIGHBOUR: 'it returns false'. Refute it at one input. -/
def nodeOwnWrong : ChangeSpec := { name := "nodeOwn", fn := fun _ => fun
  | [d1, d2, d3] => { results := [.lit (.bool false)], args := [d1, d2, d3] }
  | _ => none }
def NodeOwnWrongFalsely : Prop := nodeOwnRow.holds Try.pinned (OpenSpec.ofChange nodeOwnWrong)

/-- 'ladinglaw06.NodeThrice': WHATEVER THE INPUT: true; the input reads as it did. -/
def nodeThriceSpec : ChangeSpec := { name := "nodeThrice", fn := fun _ => fun
  | [d1, d2] => { results := [.lit (.bool true)], args := [d1, d2] }
  | _ => none }
def nodeThriceRow : OpenClaim := { program := "ytcbgichkeecgiaa", sum := "9e8e0bdba3bf1d9e201728c152e2ee18cb943156055c6c2d0c32b5fa62cad0e2", func := "lading/ladinglaw06.NodeThrice", spec := "nodeThrice", inPlace := ["internal/bytealg.Compare", "slices.overlaps[[]byte]"], unfollowed := true, recurses := true, apart := false }
def NodeThriceSaid : Prop := nodeThriceRow.holds Try.pinned (OpenSpec.ofChange nodeThriceSpec)

/-- ITS FALSE NEIGHBOUR: 'it returns false'. Refute it at one input. -/
def nodeThriceWrong : ChangeSpec := { name := "nodeThrice", fn := fun _ => fun
  | [d1, d2] => { results := [.lit (.bool false)], args := [d1, d2] }
  | _ => none }
def NodeThriceWrongFalsely : Prop := nodeThriceRow.holds Try.pinned (OpenSpec.ofChange nodeThriceWrong)

/- THE SECOND FORM. 'bulk': how many values and letters a reading holds, each counted each time it is reached (what is shared counts as often as it is met; a slice's spare places count too). A statement '..UptoSaid' is the law's where the arguments, and the package variables that the reading takes, are together of bulk at most 1048576: NARROWER than '..Said'. Prove '..Said' where nothing that the law and all that it calls make is longer than what came in: it says more and counts as full. Else prove '..UptoSaid'. A law counts once. -/
mutual
def uptoBulk {H : Type} : DataW H → Nat
  | .lit (.string bytes) => bytes.length + 1
  | .lit _ => 1
  | .nil => 1
  | .ptr d => uptoBulk d + 1
  | .slice elems spare => uptoBulkAll elems + uptoBulkAll spare + 1
  | .agg parts => uptoBulkAll parts + 1
  | .iface _ d => uptoBulk d + 1
  | .map entries => uptoBulkEntries entries + 1
  | .held _ => 1
def uptoBulkAll {H : Type} : List (DataW H) → Nat
  | [] => 0
  | d :: r => uptoBulk d + uptoBulkAll r
def uptoBulkEntries {H : Type} : List (Lit × DataW H) → Nat
  | [] => 0
  | x :: r => uptoBulkEntry x + uptoBulkEntries r
def uptoBulkEntry {H : Type} : Lit × DataW H → Nat
  | (.string bytes, d) => bytes.length + uptoBulk d + 1
  | (_, d) => uptoBulk d + 1
 end
def uptoSmall : (H : Type) → List (DataW H) → Bool := fun _ ds => decide (uptoBulkAll ds ≤ 1048576)
def OpenSpec.upto (s : _root_.Go.ChangeSpec) : _root_.Go.OpenSpec := { _root_.Go.OpenSpec.ofChange s with cond := some uptoSmall }

/-- 'ladinglaw06.NodeSame', WHERE WHAT IT READS IS OF BULK AT MOST 1048576: true; the input reads as it did. -/
def nodeSameUptoRow : OpenClaim := { program := "ytcbgichkeecgiaa", sum := "9e8e0bdba3bf1d9e201728c152e2ee18cb943156055c6c2d0c32b5fa62cad0e2", func := "lading/ladinglaw06.NodeSame", spec := "nodeSame", inPlace := ["internal/bytealg.Compare", "slices.overlaps[[]byte]"], unfollowed := true, recurses := true, apart := false, narrowed := true }
def NodeSameUptoSaid : Prop := nodeSameUptoRow.holds Try.pinned (OpenSpec.upto nodeSameSpec)

/-- 'ladinglaw06.NodeKeys', WHERE WHAT IT READS IS OF BULK AT MOST 1048576: true; the input reads as it did. -/
def nodeKeysUptoRow : OpenClaim := { program := "ytcbgichkeecgiaa", sum := "9e8e0bdba3bf1d9e201728c152e2ee18cb943156055c6c2d0c32b5fa62cad0e2", func := "lading/ladinglaw06.NodeKeys", spec := "nodeKeys", inPlace := ["internal/bytealg.Compare", "slices.overlaps[[]byte]"], unfollowed := true, recurses := true, apart := false, narrowed := true }
def NodeKeysUptoSaid : Prop := nodeKeysUptoRow.holds Try.pinned (OpenSpec.upto nodeKeysSpec)

/-- 'ladinglaw06.NodeParts', WHERE WHAT IT READS IS OF BULK AT MOST 1048576: true; the input reads as it did. -/
def nodePartsUptoRow : OpenClaim := { program := "ytcbgichkeecgiaa", sum := "9e8e0bdba3bf1d9e201728c152e2ee18cb943156055c6c2d0c32b5fa62cad0e2", func := "lading/ladinglaw06.NodeParts", spec := "nodeParts", inPlace := ["internal/bytealg.Compare", "slices.overlaps[[]byte]"], unfollowed := true, recurses := true, apart := false, narrowed := true }
def NodePartsUptoSaid : Prop := nodePartsUptoRow.holds Try.pinned (OpenSpec.upto nodePartsSpec)

/-- 'ladinglaw06.NodeFound', WHERE WHAT IT READS IS OF BULK AT MOST 1048576: true; the input reads as it did. -/
def nodeFoundUptoRow : OpenClaim := { program := "ytcbgichkeecgiaa", sum := "9e8e0bdba3bf1d9e201728c152e2ee18cb943156055c6c2d0c32b5fa62cad0e2", func := "lading/ladinglaw06.NodeFound", spec := "nodeFound", inPlace := ["internal/bytealg.Compare", "slices.overlaps[[]byte]"], unfollowed := true, recurses := true, apart := false, narrowed := true }
def NodeFoundUptoSaid : Prop := nodeFoundUptoRow.holds Try.pinned (OpenSpec.upto nodeFoundSpec)

/-- 'ladinglaw06.NodeOwn', WHERE WHAT IT READS IS OF BULK AT MOST 1048576: true; the input reads as it did. -/
def nodeOwnUptoRow : OpenClaim := { program := "ytcbgichkeecgiaa", sum := "9e8e0bdba3bf1d9e201728c152e2ee18cb943156055c6c2d0c32b5fa62cad0e2", func := "lading/ladinglaw06.NodeOwn", spec := "nodeOwn", inPlace := ["internal/bytealg.Compare", "slices.overlaps[[]byte]"], unfollowed := true, recurses := true, apart := false, narrowed := true }
def NodeOwnUptoSaid : Prop := nodeOwnUptoRow.holds Try.pinned (OpenSpec.upto nodeOwnSpec)

/-- 'ladinglaw06.NodeThrice', WHERE WHAT IT READS IS OF BULK AT MOST 1048576: true; the input reads as it did. -/
def nodeThriceUptoRow : OpenClaim := { program := "ytcbgichkeecgiaa", sum := "9e8e0bdba3bf1d9e201728c152e2ee18cb943156055c6c2d0c32b5fa62cad0e2", func := "lading/ladinglaw06.NodeThrice", spec := "nodeThrice", inPlace := ["internal/bytealg.Compare", "slices.overlaps[[]byte]"], unfollowed := true, recurses := true, apart := false, narrowed := true }
def NodeThriceUptoSaid : Prop := nodeThriceUptoRow.holds Try.pinned (OpenSpec.upto nodeThriceSpec)

end Rows
end Go.Proofs.Ytcbgichkeecgiaa
