/- The law CodecReads, for all bytes. -/
import Derived.Test.YtfpdipnaefomiaaDoorPrint18
import Derived.Test.YtfpdipnaefomiaaDoorCodecRead
set_option linter.unusedVariables false
namespace Go.Proofs.YtfpdipnaefomiaaDoor.Pure
open Go.RowKit Go.Proofs.YtfpdipnaefomiaaDoor.Print Go.Proofs.YtfpdipnaefomiaaDoorW.PrintWords Go.Proofs.YtfpdipnaefomiaaDoorW.PrintLast Go.Proofs.YtfpdipnaefomiaaDoorW.PrintMore

theorem reads_same (l : List Int) : ladingref03_Same.f l l = some true := by
  unfold ladingref03_Same.f
  rw [beq_self_eq_true]
theorem CodecReads (l0 : List Int) (h0 : l0.length * 1 ≤ 140737488351232 ∧ l0.length ≤ maxLen ∧ ∀ y2 ∈ l0, (Lit.int .u8 y2).wf = true) : ∃ k, ladinglaw03_CodecReads.f k l0 = some true := by
  have hb : BytesL l0 := fun x hx => wf_u8 (h0.2.2 x hx)
  have hl := h0.1
  refine ⟨40, ?_⟩
  unfold ladinglaw03_CodecReads.f
  rw [some_bind, if_pos (by simp only [List.length_nil]; omega), List.nil_append, some_bind, read_is 40 l0 (by omega) hb (by omega), some_bind, refRead_is 40 l0 (by omega) hb (by omega), some_bind,
    readInt_is 40 l0 (by omega) hb (by omega), some_bind, refReadInt_is 40 l0 (by omega) hb (by omega), some_bind, readText_is 40 l0 (by omega) hb (by omega), some_bind, refReadText_is 40 l0 (by omega) hb (by omega), some_bind,
    lives_is 40 (by omega), some_bind, if_pos rfl, if_pos rfl, reads_same, some_bind, if_pos rfl, if_pos rfl, if_pos rfl, reads_same, some_bind, if_pos rfl, if_pos rfl, if_pos rfl, reads_same, some_bind, if_pos rfl, if_pos rfl, reads_same, some_bind]
end Go.Proofs.YtfpdipnaefomiaaDoor.Pure
