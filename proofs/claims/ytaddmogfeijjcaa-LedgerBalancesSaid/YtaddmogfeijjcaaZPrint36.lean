-- A claim's text with what it uses alone (wip/slim.py, over what the kit's print and this session's tools wrote). Not trusted: Lean checks it.
import Derived.Test.YtaddmogfeijjcaaZAb
import Derived.Test.YtaddmogfeijjcaaZPrint0
import Derived.Test.YtaddmogfeijjcaaZPrint1
import Derived.Test.YtaddmogfeijjcaaZPrint6
import Derived.Test.YtaddmogfeijjcaaZPrint7
import Derived.Test.YtaddmogfeijjcaaZPrint33
import Derived.Test.YtaddmogfeijjcaaZPrint34
import Derived.Test.YtaddmogfeijjcaaZPrint35
namespace Go.Proofs.Ytaddmogfeijjcaa.Print
open Go.RowKit Go.Proofs.YtaddmogfeijjcaaW.PrintWords Go.Proofs.YtaddmogfeijjcaaW.PrintLast Go.Proofs.YtaddmogfeijjcaaW.PrintMore
attribute [local go_sem] max2_mx min2_mn max_two min_two max_three min_three max_four min_four
set_option linter.unusedVariables false
set_option linter.unusedSimpArgs false
attribute [local go_sem high] eqA31
section
variable (n : Int) (l : List S55) (m i : Int)
end
theorem ladingref14_Check.account_is (a : Int) : ladingref14_account.f a = some (decide (1 ≤ a) && decide (a < 4)) := by
 unfold ladingref14_account.f
 have e : decide (a ≤ 3) = decide (a < 4) := by by_cases h : a < 4 <;> simp [h] <;> omega
 by_cases h : 1 ≤ a
 ·rw [if_pos (show a ≥ 1 from h), decide_eq_true h, Bool.true_and, e]
 ·rw [if_neg (show ¬ a ≥ 1 from h), decide_eq_false h, Bool.false_and]
structure ladingref14_Check.S3 (w wr : World) (gb gp : Nat) (A0_0 : Option Addr) (c0_0 : Nat) (l0_0 : List S31) (A0_1 : Option Addr) (c0_1 : Nat) (l0_1 : List S55) (t : Nat) (cs : Array Value) : Prop where
 BB : wr.heap[gb]? = some (.cells #[.slice A0_0 l0_0.length c0_0, .slice A0_1 l0_1.length c0_1] 25 (0, 0))
 BP : wr.heap[gp]? = some (.cells cs t (0, 0))
 HB : Below w.heap.size w wr
theorem ladingref14_Check.S3.below {w wr w2 : World} {gb gp : Nat} {A0_0 : Option Addr} {c0_0 : Nat} {l0_0 : List S31} {A0_1 : Option Addr} {c0_1 : Nat} {l0_1 : List S55} {t : Nat} {cs : Array Value} (h : ladingref14_Check.S3 w wr gb gp A0_0 c0_0 l0_0 A0_1 c0_1 l0_1 t cs) (hb : Below wr.heap.size wr w2) : ladingref14_Check.S3 w w2 gb gp A0_0 c0_0 l0_0 A0_1 c0_1 l0_1 t cs :=
 ⟨blk_below h.BB hb, blk_below h.BP hb, below_step h.HB hb⟩
theorem ladingref14_Check.S3.drewN {w wr : World} {gb gp : Nat} {A0_0 : Option Addr} {c0_0 : Nat} {l0_0 : List S31} {A0_1 : Option Addr} {c0_1 : Nat} {l0_1 : List S55} {t : Nat} {cs : Array Value} (h : ladingref14_Check.S3 w wr gb gp A0_0 c0_0 l0_0 A0_1 c0_1 l0_1 t cs) (n : Nat) : ladingref14_Check.S3 w (wr.drewN n) gb gp A0_0 c0_0 l0_0 A0_1 c0_1 l0_1 t cs :=
 ⟨h.BB, h.BP, pw_below_drewN h.HB n⟩
def ladingref14_Check.Rel (w : World) (gb : Nat) (A0_0 : Option Addr) (c0_0 : Nat) (l0_0 : List S31) (A0_1 : Option Addr) (c0_1 : Nat) (l0_1 : List S55) (len : Nat) (P : Nat → Prop) (kq : Nat) (v : Value) (wr : World) : Prop :=
 ∃ k : Nat, k ≤ len ∧ k + kq = len + 1 ∧ v = .int .i64 k ∧ wr.heap[gb]? = some (.cells #[.slice A0_0 l0_0.length c0_0, .slice A0_1 l0_1.length c0_1] 25 (0, 0)) ∧ Below w.heap.size w wr ∧ ∀ j, j < k → P j
end Go.Proofs.Ytaddmogfeijjcaa.Print
