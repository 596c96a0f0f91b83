/- The law CodecWrites, for bytes and texts that are not too many. -/
import Derived.Test.YtfpdipnaefomiaaDoorPrint10
import Derived.Test.YtfpdipnaefomiaaDoorCodecLink
set_option linter.unusedVariables false
namespace Go.Proofs.YtfpdipnaefomiaaDoor.Pure
open Go.RowKit Go.Proofs.YtfpdipnaefomiaaDoor.Print Go.Proofs.YtfpdipnaefomiaaDoorW.PrintWords Go.Proofs.YtfpdipnaefomiaaDoorW.PrintLast Go.Proofs.YtfpdipnaefomiaaDoorW.PrintMore

theorem same_self (l : List Int) : ladingref03_Same.f l l = some true := by
  unfold ladingref03_Same.f
  rw [beq_self_eq_true]
theorem CodecWritesUpto (l0 : List Int) (a1 : Int) (a2 : Int) (a3 : ByteArray) (h0 : l0.length ≤ 1048576 ∧ ∀ y2 ∈ l0, (Lit.int .u8 y2).wf = true) (h1 : (Lit.int .u64 a1).wf = true) (h2 : (Lit.int .i64 a2).wf = true) (h3 : a3.size ≤ 1048576) : ∃ k, ladinglaw03_CodecWrites.f k l0 a1 a2 a3 = some true := by
  have w1 := wf_u64 h1
  have w2 := wf_i64 h2
  have hl := h0.1
  obtain ⟨n, rfl⟩ : ∃ n : Nat, a1 = n := ⟨a1.toNat, by omega⟩
  refine ⟨40, ?_⟩
  unfold ladinglaw03_CodecWrites.f
  rw [w64 (by omega) (by omega), if_pos (by omega), if_pos (by omega), some_bind, if_pos (by simp; omega), List.nil_append, some_bind, lives_is 40 (by omega), some_bind, if_pos rfl,
    num_is 40 l0 n (by omega) (by omega) (by omega), some_bind, refNum_is 40 l0 n (by omega) (by omega) (by omega), some_bind, same_self, some_bind, if_pos rfl,
    int_is 40 l0 a2 (by omega) w2.1 w2.2 (by omega), some_bind, refInt_is 40 l0 a2 (by omega) w2.1 w2.2 (by omega), some_bind, same_self, some_bind, if_pos rfl,
    text_is 40 l0 a3 (by omega) (by omega), some_bind, refText_is 40 l0 a3 (by omega) (by omega), some_bind, same_self, some_bind, if_pos rfl, same_self, some_bind]
end Go.Proofs.YtfpdipnaefomiaaDoor.Pure
