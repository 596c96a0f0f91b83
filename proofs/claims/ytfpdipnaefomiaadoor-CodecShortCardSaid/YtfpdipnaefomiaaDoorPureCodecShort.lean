/- The law CodecShort, for all numbers and texts. -/
import Derived.Test.YtfpdipnaefomiaaDoorPrint11
import Derived.Test.YtfpdipnaefomiaaDoorCodecLink
set_option linter.unusedVariables false
namespace Go.Proofs.YtfpdipnaefomiaaDoor.Pure
open Go.RowKit Go.Proofs.YtfpdipnaefomiaaDoor.Print Go.Proofs.YtfpdipnaefomiaaDoorW.PrintWords Go.Proofs.YtfpdipnaefomiaaDoorW.PrintLast Go.Proofs.YtfpdipnaefomiaaDoorW.PrintMore

theorem short_l (n0 : Nat) (s : ByteArray) (hn0 : n0 < 18446744073709551616) (hs : s.size ≤ 140737488351232) : ∀ (j : Nat) (n w k : Nat), n < 128 ^ (j + 1) → w + (gr j n).length = (num n0).length + 1 → 40 ≤ k →
    ladinglaw03_CodecShort.l0 (k + j + 1) (n0 : Int) s (w : Int) (n : Int) = some true := by
  have e0 := num_len n0
  have e1 := num_len s.size
  have tail : ∀ (w k : Nat), w = (num n0).length → 40 ≤ k → ((codec_Num.f k ([] : List Int) (IntKind.u64.wrap ((s.size : Int)))).bind fun t265 => ((ladinglaw03_lives.f k).bind fun t268 => (if t268 = true then ((codec_Num.f k ([] : List Int) (n0 : Int)).bind fun t269 => (if (t269.length : Int) = (w : Int) then ((codec_Text.f k ([] : List Int) s).bind fun t272 => (some ((t272.length : Int) == (wrap64 ((t265.length : Int) + (s.size : Int)))))) else (some false))) else (some false)))) = some true := by
    intro w k hw hk
    rw [u64 (by omega) (by omega), num_is k [] s.size (by omega) (by omega) (by simp), some_bind, lives_is k hk, some_bind, if_pos rfl, num_is k [] n0 (by omega) hn0 (by simp), some_bind, List.nil_append, if_pos (by omega), text_is k [] s (by omega) (by simp; omega), some_bind]
    simp only [List.nil_append, List.length_append, bytesOf_length]
    rw [w64 (by omega) (by omega)]
    simp
  intro j
  induction j with
  | zero =>
    intro n w k hn hw hk
    unfold ladinglaw03_CodecShort.l0
    rw [if_neg (by omega)]
    exact tail w k (by simp only [gr, List.length_singleton] at hw; omega) hk
  | succ j ih =>
    intro n w k hn hw hk
    rw [show k + (j + 1) + 1 = (k + j + 1) + 1 by omega]
    unfold ladinglaw03_CodecShort.l0
    unfold gr at hw
    by_cases h : n < 128
    · rw [if_neg (by omega)]
      rw [if_pos h] at hw
      exact tail w _ (by rw [List.length_singleton] at hw; omega) (by omega)
    · rw [if_pos (by omega)]
      rw [if_neg h] at hw
      have := gr_len j (n / 128)
      rw [List.length_cons] at hw
      rw [w64 (by omega) (by omega), show (n : Int) / 128 = ((n / 128 : Nat) : Int) by omega, show (w : Int) + 1 = ((w + 1 : Nat) : Int) by omega]
      exact ih _ _ k (by rw [Nat.pow_succ] at hn; omega) (by omega) hk
theorem CodecShort (a0 : Int) (a1 : ByteArray) (h0 : (Lit.int .u64 a0).wf = true) (h1 : a1.size ≤ 140737488351232) : ∃ k, ladinglaw03_CodecShort.f k a0 a1 = some true := by
  have hw := wf_u64 h0
  obtain ⟨n, rfl⟩ : ∃ n : Nat, a0 = n := ⟨a0.toNat, by omega⟩
  refine ⟨40 + 9 + 1, ?_⟩
  unfold ladinglaw03_CodecShort.f
  exact short_l n a1 (by omega) h1 9 n 1 40 (Nat.lt_trans (by omega : n < 18446744073709551616) (by decide)) (by unfold num; omega) (by omega)
end Go.Proofs.YtfpdipnaefomiaaDoor.Pure
