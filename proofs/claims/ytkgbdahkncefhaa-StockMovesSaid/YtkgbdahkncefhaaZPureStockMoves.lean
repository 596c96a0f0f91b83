/- The law StockMoves, for all cells, numbers and amounts. -/
import Derived.Test.YtkgbdahkncefhaaZPrint17
import Derived.Test.YtkgbdahkncefhaaZStockRef
set_option linter.unusedVariables false
namespace Go.Proofs.Ytkgbdahkncefhaa.Pure
open Go.RowKit Go.Proofs.Ytkgbdahkncefhaa.Print Go.Proofs.YtkgbdahkncefhaaW.PrintWords Go.Proofs.YtkgbdahkncefhaaW.PrintLast Go.Proofs.YtkgbdahkncefhaaW.PrintMore
theorem moveS_len (q : Nat) (l : List S33) (i w n : Int) : (moveS q l i w n).1.length ≤ 4097 := by
  unfold moveS
  by_cases h0 : (cellS l i w).2 = 0
  · obtain ⟨hl, hok, _⟩ := cellS_ok h0
    rw [if_neg (fun h => h h0)]
    split
    · simp
    · split
      · simp
      · split
        · simp
        · split
          · simp
          · show (put _ l).length ≤ 4097
            rw [rput_len _ l 0 hok]; split <;> omega
  · rw [if_pos h0]; simp
theorem moves_step (l : List S33) (i w n : Int) (k : Nat) (hk : 3 * l.length + 20000 < k) (q : Nat) (hq : q < 5) : ladinglaw13_StockMoves.l0 (k + 1) l i w n l [10, 11, 13, 14, 15] 5 (q : Int) = ladinglaw13_StockMoves.l0 k l i w n l [10, 11, 13, 14, 15] 5 ((q + 1 : Nat) : Int) := by
  have hr : rd [10, 11, 13, 14, 15] (q : Int) = fnK q := by
    match q, hq with
    | 0, _ => rfl
    | 1, _ => rfl
    | 2, _ => rfl
    | 3, _ => rfl
    | 4, _ => rfl
  have hlen := moveS_len q l i w n
  rw [ladinglaw13_StockMoves.l0, if_pos (by omega), if_pos (by omega), if_pos (show (q : Int) < (([10, 11, 13, 14, 15] : List Int).length : Int) from show (q : Int) < 5 by omega), hr, call_is q hq l i w n (by omega), some_bind, rmove_is q hq l i w n (by omega), some_bind, same_is _ (by omega) (by omega), some_bind, if_pos rfl, if_pos rfl, w64n q (by omega)]
theorem StockMoves (l : List S33) (i w n : Int) (h0 : l.length * 48 ≤ 140737488351232 ∧ l.length ≤ maxLen ∧ ∀ y2 ∈ l, ((Lit.int .i64 y2.f0).wf = true ∧ (Lit.int .i64 y2.f1).wf = true ∧ (Lit.int .i64 y2.f2).wf = true ∧ (Lit.int .i64 y2.f3).wf = true ∧ (Lit.int .i64 y2.f4).wf = true ∧ (Lit.int .i64 y2.f5).wf = true)) (_ : (Lit.int .i64 i).wf = true) (_ : (Lit.int .i64 w).wf = true) (_ : (Lit.int .i64 n).wf = true) : ∃ k, ladinglaw13_StockMoves.f k l i w n = some true := by
  obtain ⟨k, hk⟩ : ∃ k, k = 3 * l.length + 20001 := ⟨_, rfl⟩
  refine ⟨k + 6, ?_⟩
  unfold ladinglaw13_StockMoves.f
  rw [some_bind, if_pos (by have := h0.1; rw [List.length_nil]; omega), some_bind]
  show ladinglaw13_StockMoves.l0 (k + 5 + 1) l i w n l [10, 11, 13, 14, 15] 5 ((0 : Nat) : Int) = some true
  rw [moves_step l i w n (k + 5) (by omega) 0 (by decide), moves_step l i w n (k + 4) (by omega) 1 (by decide), moves_step l i w n (k + 3) (by omega) 2 (by decide), moves_step l i w n (k + 2) (by omega) 3 (by decide), moves_step l i w n (k + 1) (by omega) 4 (by decide)]
  rw [ladinglaw13_StockMoves.l0, if_neg (by omega), cell_is l i w (by omega), some_bind, rcell_is l i w (by omega), some_bind, lives_is (by omega), some_bind, if_pos rfl]
  dsimp only
  simp only [beq_self_eq_true, Bool.and_self, if_true]
  rw [check_is l (by omega), some_bind, rcheck_is l (by omega), some_bind, if_pos rfl, same_is l (by omega) (by omega), some_bind]
end Go.Proofs.Ytkgbdahkncefhaa.Pure
