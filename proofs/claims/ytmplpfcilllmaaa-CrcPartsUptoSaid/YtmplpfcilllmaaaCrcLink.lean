/- Plain: what the functions of crc and of its reference come to, in bits. -/
import Derived.Test.YtmplpfcilllmaaaPrint2
import Derived.Test.YtmplpfcilllmaaaXCrcMath
set_option linter.unusedVariables false
namespace Go.Proofs.Ytmplpfcilllmaaa.Pure
open Go.RowKit Go.Proofs.Ytmplpfcilllmaaa.Print Go.Proofs.YtmplpfcilllmaaaW.PrintWords Go.Proofs.YtmplpfcilllmaaaW.PrintLast Go.Proofs.YtmplpfcilllmaaaW.PrintMore

theorem wrap_ok {x : Int} (h0 : -9223372036854775808 ≤ x) (h1 : x ≤ 9223372036854775807) : wrap64 x = x := by unfold wrap64; omega
theorem update_is (a : Int) (l : List Int) : crc_Update.f a l = some (iv (~~~ upd (~~~ BitVec.ofInt 32 a) l)) := by
  unfold crc_Update.f
  rw [not_iv a, upd_iv, not_iv, ofInt_iv]
theorem of_is (l : List Int) : crc_Of.f l = some (iv (sumOf l)) := by
  unfold crc_Of.f
  rw [update_is]
  rfl
theorem bits_l0 : ∀ (d k : Nat) (b : BitVec 32) (i : Int), i + d = 8 → 0 ≤ i → d < k → ladingref02_bits.l0 k (iv b) i = some (iv (shN d b))
  | 0, k, b, i, hd, h0, hk => by
    obtain ⟨k, rfl⟩ : ∃ m, k = m + 1 := ⟨k - 1, by omega⟩
    simp only [ladingref02_bits.l0]
    rw [if_neg (by omega)]; rfl
  | d + 1, k, b, i, hd, h0, hk => by
    obtain ⟨k, rfl⟩ : ∃ m, k = m + 1 := ⟨k - 1, by omega⟩
    simp only [ladingref02_bits.l0]
    rw [if_pos (by omega), wrap_ok (by omega) (by omega), iv_half, xor_iv]
    have e : BitVec.ofInt 32 3988292384 = poly := rfl
    by_cases hc : b.getLsbD 0 = true
    · rw [if_pos ((iv_odd b).mpr hc), bits_l0 d k _ (i + 1) (by omega) (by omega) (by omega), e]
      rw [shN, sh, if_pos hc]
    · rw [if_neg (fun h => hc ((iv_odd b).mp h)), bits_l0 d k _ (i + 1) (by omega) (by omega) (by omega)]
      rw [shN, sh, if_neg hc]
theorem bits_is (k : Nat) (b : BitVec 32) (hk : 8 < k) : ladingref02_bits.f k (iv b) = some (iv (shN 8 b)) := bits_l0 8 k b 0 rfl (by omega) hk
theorem rupd_l0 (l : List Int) (hl : l.length ≤ 140737488355328) : ∀ (d k : Nat) (c : BitVec 32) (i : Nat), i + d = l.length → d + 9 < k →
    ladingref02_Update.l0 k (iv c) l (l.length : Int) (i : Int) = some (iv (~~~ upd c (l.drop i)))
  | 0, k, c, i, hd, hk => by
    obtain ⟨k, rfl⟩ : ∃ m, k = m + 1 := ⟨k - 1, by omega⟩
    simp only [ladingref02_Update.l0]
    rw [if_neg (by omega), not_iv, ofInt_iv, List.drop_of_length_le (by omega)]; rfl
  | d + 1, k, c, i, hd, hk => by
    obtain ⟨k, rfl⟩ : ∃ m, k = m + 1 := ⟨k - 1, by omega⟩
    simp only [ladingref02_Update.l0]
    have hlt : i < l.length := by omega
    rw [if_pos (by omega), if_pos (by omega), if_pos (by omega), xor_iv, ofInt_mod, bits_is k _ (by omega)]
    simp only [Option.bind_some]
    rw [wrap_ok (by omega) (by omega)]
    have e : ((i : Int) + 1) = ((i + 1 : Nat) : Int) := by omega
    rw [e, rupd_l0 l hl d k _ (i + 1) (by omega) (by omega), List.drop_eq_getElem_cons hlt, upd_cons]
    have : rd l (i : Int) = l[i] := by simp [rd, List.getD_eq_getElem?_getD, List.getElem?_eq_getElem hlt]
    rw [this]
theorem rupdate_is (k : Nat) (a : Int) (l : List Int) (hl : l.length ≤ 140737488355328) (hk : l.length + 9 < k) : ladingref02_Update.f k a l = some (iv (~~~ upd (~~~ BitVec.ofInt 32 a) l)) := by
  unfold ladingref02_Update.f
  rw [not_iv]
  exact rupd_l0 l hl l.length k _ 0 (by omega) hk
theorem rof_is (k : Nat) (l : List Int) (hl : l.length ≤ 140737488355328) (hk : l.length + 9 < k) : ladingref02_Of.f k l = some (iv (sumOf l)) := by
  unfold ladingref02_Of.f
  rw [rupdate_is k 0 l hl hk]
  rfl
theorem same_self (l : List Int) : ladingref02_Same.f l l = some true := by unfold ladingref02_Same.f; simp

end Go.Proofs.Ytmplpfcilllmaaa.Pure
