/- The law CrcSteps: checksums are put together in any order of the putting together: for all numbers. -/
import Derived.Test.YtmplpfcilllmaaaPrint8
import Derived.Test.YtmplpfcilllmaaaCrcLinkC
set_option linter.unusedVariables false
namespace Go.Proofs.Ytmplpfcilllmaaa.Pure
open Go.RowKit Go.Proofs.Ytmplpfcilllmaaa.Print Go.Proofs.YtmplpfcilllmaaaW.PrintWords Go.Proofs.YtmplpfcilllmaaaW.PrintLast Go.Proofs.YtmplpfcilllmaaaW.PrintMore

theorem CrcSteps : ladinglaw02_CrcSteps.Pure := by
  intro a b c n m ha hb hc hn hm
  refine ⟨2, ?_⟩
  have range : ∀ {x : Int}, (Lit.int .u32 x).wf = true → 0 ≤ x ∧ x < 4294967296 := fun {x} h => by
    simp [Lit.wf, IntKind.min, IntKind.max, IntKind.bits, IntKind.signed] at h
    omega
  have ha := range ha
  have hb := range hb
  have hc := range hc
  unfold ladinglaw02_CrcSteps.f ladinglaw02_lives.f
  rw [Option.bind_some, if_pos rfl]
  have hj : ∀ x, x = true → ladinglaw02_CrcSteps.j0 2 a b c n m x = some true := by
    rintro x rfl
    simp only [ladinglaw02_CrcSteps.j0]; exact if_pos trivial
  by_cases h1 : n < 0
  · rw [if_pos h1]; exact hj _ rfl
  · rw [if_neg h1]
    by_cases h2 : m < 0
    · rw [if_pos h2]; exact hj _ rfl
    · rw [if_neg h2]
      by_cases h3 : n > 1073741824
      · rw [if_pos h3]; exact hj _ rfl
      · rw [if_neg h3]
        by_cases h4 : m > 1073741824
        · exact hj _ (decide_eq_true h4)
        · rw [decide_eq_false h4]
          simp only [ladinglaw02_CrcSteps.j0]
          rw [if_neg (by decide)]
          obtain ⟨n, rfl⟩ := Int.eq_ofNat_of_zero_le (show 0 ≤ n by omega)
          obtain ⟨m, rfl⟩ := Int.eq_ofNat_of_zero_le (show 0 ≤ m by omega)
          rw [← iv_ofInt a ha.1 ha.2, ← iv_ofInt b hb.1 hb.2, combine_is _ _ n (by omega), Option.bind_some, combine_is _ _ m (by omega), Option.bind_some, combine_is _ _ m (by omega), Option.bind_some, wrap_ok (by omega) (by omega), show (n : Int) + (m : Int) = ((n + m : Nat) : Int) by omega, combine_is _ _ (n + m) (by omega), Option.bind_some, if_pos rfl, if_pos rfl, if_pos rfl, if_pos rfl]
          congr 1
          rw [beq_iff_eq]
          congr 1
          rw [ofInt_iv, ofInt_iv, shN_xor, show 8 * (n + m) = 8 * n + 8 * m by omega, shN_add, BitVec.xor_assoc]

end Go.Proofs.Ytmplpfcilllmaaa.Pure
