/- The law CrcCombines: any two checksums are put together as the document says: for all numbers. -/
import Derived.Test.YtmplpfcilllmaaaPrint11
set_option linter.unusedVariables false
namespace Go.Proofs.Ytmplpfcilllmaaa.Pure
open Go.RowKit Go.Proofs.Ytmplpfcilllmaaa.Print Go.Proofs.YtmplpfcilllmaaaW.PrintWords Go.Proofs.YtmplpfcilllmaaaW.PrintLast

theorem CrcCombines : ladinglaw02_CrcCombines.Pure := by
  intro a b n ha hb hn
  have ha : 0 ≤ a ∧ a < 4294967296 := by
    simp [Lit.wf, IntKind.min, IntKind.max, IntKind.bits, IntKind.signed] at ha
    omega
  unfold ladinglaw02_CrcCombines.f ladinglaw02_lives.f
  have e : ladingref02_Combine.f a b n = crc_Combine.f a b n := rfl
  obtain ⟨r, hr⟩ : ∃ r, crc_Combine.f a b n = some r := by
    unfold crc_Combine.f
    rw [if_pos ha]
    split
    · exact ⟨_, rfl⟩
    · split <;> exact ⟨_, rfl⟩
  rw [e, hr, Option.bind_some, Option.bind_some, Option.bind_some, if_pos rfl, if_pos rfl]
  exact congrArg some (beq_self_eq_true _)

end Go.Proofs.Ytmplpfcilllmaaa.Pure
