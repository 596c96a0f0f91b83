/- The law ShipMoves: every state and every move that a byte says, told one by one. -/
import Derived.Test.YthagaplbeccmhaaPrint13
set_option linter.unusedVariables false
namespace Go.Proofs.Ythagaplbeccmhaa.Pure
open Go.RowKit Go.Proofs.Ythagaplbeccmhaa.Print Go.Proofs.YthagaplbeccmhaaW.PrintWords Go.Proofs.YthagaplbeccmhaaW.PrintLast Go.Proofs.YthagaplbeccmhaaW.PrintMore

theorem moves_fin : ∀ a : Nat, a < 256 → ∀ b : Nat, b < 256 → ladinglaw15_ShipMoves.f 30 (a : Int) (b : Int) = some true := by decide +kernel
theorem ShipMoves : ladinglaw15_ShipMoves.Pure := by
  intro a b ha hb
  refine ⟨30, ?_⟩
  have range : ∀ {x : Int}, (Lit.int .u8 x).wf = true → 0 ≤ x ∧ x < 256 := fun {x} h => by
    simp [Lit.wf, IntKind.min, IntKind.max, IntKind.bits, IntKind.signed] at h
    omega
  have ha := range ha
  have hb := range hb
  obtain ⟨a, rfl⟩ := Int.eq_ofNat_of_zero_le ha.1
  obtain ⟨b, rfl⟩ := Int.eq_ofNat_of_zero_le hb.1
  exact moves_fin a (by omega) b (by omega)

end Go.Proofs.Ythagaplbeccmhaa.Pure
