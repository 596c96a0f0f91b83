/- The law ShipLists, for all shipments. -/
import Derived.Test.YthagaplbeccmhaaShipLink
set_option linter.unusedVariables false
namespace Go.Proofs.Ythagaplbeccmhaa.Pure
open Go.RowKit Go.Proofs.Ythagaplbeccmhaa.Print Go.Proofs.YthagaplbeccmhaaW.PrintWords Go.Proofs.YthagaplbeccmhaaW.PrintLast Go.Proofs.YthagaplbeccmhaaW.PrintMore

theorem ShipLists (l : List S43) (a m v : Int) (h0 : l.length * 16 ≤ 140737488351232 ∧ l.length ≤ maxLen ∧ ∀ y2 ∈ l, ((Lit.int .i64 y2.f0).wf = true ∧ (Lit.int .u8 y2.f1).wf = true)) (ha : (Lit.int .i64 a).wf = true) (hm : (Lit.int .u8 m).wf = true) (hv : (Lit.int .u8 v).wf = true) : ∃ k, ladinglaw15_ShipLists.f k l a m v = some true := by
  have range : ∀ {x : Int}, (Lit.int .u8 x).wf = true → 0 ≤ x ∧ x < 256 := fun {x} h => by
    simp [Lit.wf, IntKind.min, IntKind.max, IntKind.bits, IntKind.signed] at h
    omega
  have hl : l.length ≤ 140737488355328 := by have := h0.1; omega
  have hf : ∀ x ∈ l, 0 ≤ x.f1 := fun x hx => (range (h0.2.2 x hx).2).1
  have hm := range hm
  refine ⟨2 * l.length + 40, ?_⟩
  unfold ladinglaw15_ShipLists.f
  have hlen := moveS_len l a m v
  rw [Option.bind_some, if_pos (by simp; omega), Option.bind_some, List.nil_append, move_is l a m v hl hf hm.1 (by omega), Option.bind_some, rmove_is l a m v hl hf hm.1 (by omega), Option.bind_some,
    of_is l a hl (by omega), Option.bind_some, rof_is l a hl hf (by omega), Option.bind_some, lives_is (by omega), Option.bind_some, if_pos rfl, same_is _ (by have := h0.1; omega) (by omega), Option.bind_some, if_pos rfl, if_pos rfl, if_pos rfl, if_pos rfl,
    check_is l hl (by omega), Option.bind_some, rcheck_is l hl hf (by omega), Option.bind_some, if_pos rfl, same_is l hl (by omega), Option.bind_some]
end Go.Proofs.Ythagaplbeccmhaa.Pure
