/- Words of this session's: '>' and '<=' of strings as the printer spells them. -/
import Derived.Test.YtcbgichkeecgiaaZWWords
import Derived.Test.YtcbgichkeecgiaaZAlm
set_option linter.unusedVariables false
namespace Go.Proofs.Ytcbgichkeecgiaa.Print
open Go.RowKit Go.Proofs.YtcbgichkeecgiaaW.PrintWords Go.Proofs.YtcbgichkeecgiaaW.PrintMore
theorem bytesLess_turn : ∀ (x y : List UInt8), (!(Op.bytesLess x y || x == y)) = Op.bytesLess y x
  | [], [] => by simp [Op.bytesLess]
  | [], _ :: _ => by simp [Op.bytesLess]
  | _ :: _, [] => by simp [Op.bytesLess]
  | a :: x, b :: y => by
    have h := bytesLess_turn x y
    simp only [Op.bytesLess, List.cons_beq_cons]
    rcases Nat.lt_trichotomy a.toNat b.toNat with h1 | h1 | h1
    · have e1 : a < b := h1
      have e2 : ¬ b < a := by intro h2; have : b.toNat < a.toNat := h2; omega
      have e3 : ¬ b = a := by intro h2; subst h2; omega
      simp [e1, e2, e3]
    · have e0 : a = b := UInt8.toNat_inj.1 h1
      subst e0
      have e2 : ¬ a < a := by intro h2; have : a.toNat < a.toNat := h2; omega
      simp only [e2, decide_false, beq_self_eq_true, Bool.true_and, Bool.false_or, h]
    · have e1 : b < a := h1
      have e2 : ¬ a < b := by intro h2; have : a.toNat < b.toNat := h2; omega
      have e3 : ¬ a = b := by intro h2; subst h2; omega
      simp [e1, e2, e3]
@[go_sem high] theorem binOp_string_gtr_turn (t : TypeId) (a b : ByteArray) : binOp .gtr t (.string a) (.string b) = pure (.bool (Op.bytesLess b.toList a.toList)) := by
  rw [← bytesLess_turn]; simp [binOp, Op.stringOp]
@[go_sem high] theorem binOp_string_leq_turn (t : TypeId) (a b : ByteArray) : binOp .leq t (.string a) (.string b) = pure (.bool (!(Op.bytesLess b.toList a.toList))) := by
  rw [← bytesLess_turn]; simp [binOp, Op.stringOp]
@[go_sem high] theorem binOp_string_geq_turn (t : TypeId) (a b : ByteArray) : binOp .geq t (.string a) (.string b) = pure (.bool (!(Op.bytesLess a.toList b.toList))) := by
  simp [binOp, Op.stringOp]
end Go.Proofs.Ytcbgichkeecgiaa.Print
