/- The law CrcParts, for bytes that are not too many. -/
import Derived.Test.YtmplpfcilllmaaaPrint7
import Derived.Test.YtmplpfcilllmaaaCrcLinkC
set_option linter.unusedVariables false
namespace Go.Proofs.Ytmplpfcilllmaaa.Pure
open Go.RowKit Go.Proofs.Ytmplpfcilllmaaa.Print Go.Proofs.YtmplpfcilllmaaaW.PrintWords Go.Proofs.YtmplpfcilllmaaaW.PrintLast Go.Proofs.YtmplpfcilllmaaaW.PrintMore

theorem parts_upd (l m : List Int) (c : BitVec 32) : upd c (l ++ m) = upd (upd c l) m := by
  simp only [upd, List.foldl_append]
theorem xor_back (x y : BitVec 32) : x ^^^ (x ^^^ y) = y := by rw [← BitVec.xor_assoc, BitVec.xor_self, BitVec.zero_xor]
theorem xor_ones (x : BitVec 32) : x ^^^ ~~~ 0#32 = ~~~ x := by
  apply BitVec.eq_of_getLsbD_eq
  intro i hi
  simp only [BitVec.getLsbD_xor, BitVec.getLsbD_not, BitVec.getLsbD_zero, hi, decide_true, Bool.true_and]
  cases x.getLsbD i <;> rfl
theorem upd_not (m : List Int) (x : BitVec 32) : upd (~~~ 0#32) m = upd x m ^^^ shN (8 * m.length) (~~~ x) := by
  have h := upd_xor m x (x ^^^ ~~~ 0#32)
  rwa [xor_back, xor_ones] at h
theorem not_parts (s y : BitVec 32) : s ^^^ ~~~ (y ^^^ s) = ~~~ y := by
  apply BitVec.eq_of_getLsbD_eq
  intro i hi
  simp only [BitVec.getLsbD_xor, BitVec.getLsbD_not, hi, decide_true, Bool.true_and]
  cases s.getLsbD i <;> cases y.getLsbD i <;> rfl
theorem parts_comb (l m : List Int) : shN (8 * m.length) (sumOf l) ^^^ sumOf m = sumOf (l ++ m) := by
  show shN (8 * m.length) (~~~ upd (~~~ 0#32) l) ^^^ ~~~ upd (~~~ 0#32) m = ~~~ upd (~~~ 0#32) (l ++ m)
  rw [parts_upd, upd_not m (upd (~~~ 0#32) l), not_parts]
theorem CrcPartsUpto (l0 l1 : List Int) (h0 : l0.length ≤ 1048576) (h1 : l1.length ≤ 1048576) : ladinglaw02_CrcParts.f l0 l1 = some true := by
  unfold ladinglaw02_CrcParts.f ladinglaw02_lives.f
  rw [Option.bind_some, if_pos rfl, Option.bind_some, if_pos (by simp; omega), Option.bind_some, if_pos (by simp; omega), List.nil_append, of_is, of_is, of_is, Option.bind_some, Option.bind_some, Option.bind_some, combine_is _ _ _ (by omega), Option.bind_some, Option.bind_some, update_is, Option.bind_some, if_pos, if_pos rfl, ofInt_iv, parts_comb]
  · simp
  · rw [ofInt_iv]
    congr 1
    unfold sumOf
    rw [parts_upd]; simp
end Go.Proofs.Ytmplpfcilllmaaa.Pure
