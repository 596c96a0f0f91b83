/- The law CrcSums: every checksum, gone on with or of all at once, is the reference's: for all bytes that memory holds. -/
import Derived.Test.YtmplpfcilllmaaaPrint2
import Derived.Test.YtmplpfcilllmaaaCrcLink
set_option linter.unusedVariables false
namespace Go.Proofs.Ytmplpfcilllmaaa.Pure
open Go.RowKit Go.Proofs.Ytmplpfcilllmaaa.Print Go.Proofs.YtmplpfcilllmaaaW.PrintWords Go.Proofs.YtmplpfcilllmaaaW.PrintLast

theorem CrcSums : ladinglaw02_CrcSums.Pure := by
  intro a l _ _ hl _
  refine ⟨l.length + 10, ?_⟩
  unfold ladinglaw02_CrcSums.f
  have hl2 : l.length ≤ 140737488351232 := by omega
  simp only [Option.bind_some, List.nil_append, List.length_nil]
  rw [if_pos (by omega)]
  simp only [Option.bind_some, ladinglaw02_lives.f, if_true, of_is, rof_is _ l (by omega) (Nat.lt_succ_self _), update_is, rupdate_is _ a l (by omega) (Nat.lt_succ_self _), same_self]

end Go.Proofs.Ytmplpfcilllmaaa.Pure
