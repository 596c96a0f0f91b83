/- The law CrcFrames: any bytes are sealed, and opened or told to be broken, as the reference does it: for all bytes that memory holds. -/
import Derived.Test.YtmplpfcilllmaaaPrint3
import Derived.Test.YtmplpfcilllmaaaCrcLinkB
set_option linter.unusedVariables false
namespace Go.Proofs.Ytmplpfcilllmaaa.Pure
open Go.RowKit Go.Proofs.Ytmplpfcilllmaaa.Print Go.Proofs.YtmplpfcilllmaaaW.PrintWords Go.Proofs.YtmplpfcilllmaaaW.PrintLast Go.Proofs.YtmplpfcilllmaaaW.PrintMore

theorem CrcFrames : ladinglaw02_CrcFrames.Pure := by
  intro l _ hl hw
  have hb := bytesL_wf hw
  refine ⟨l.length + 10, ?_⟩
  unfold ladinglaw02_CrcFrames.f
  rw [open_is l hb (by omega), Option.bind_some, ropen_is _ l (by omega) (by omega), Option.bind_some]
  unfold ladinglaw02_lives.f
  rw [Option.bind_some, if_pos rfl, seal_is l (by omega), Option.bind_some, rseal_is _ l (by omega) (by omega), Option.bind_some, same_self, Option.bind_some, if_pos rfl, same_self, Option.bind_some, if_pos rfl]
  simp

end Go.Proofs.Ytmplpfcilllmaaa.Pure
