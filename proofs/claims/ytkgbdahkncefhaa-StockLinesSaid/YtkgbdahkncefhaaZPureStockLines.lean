/- The law StockLines, for all cells and lines. -/
import Derived.Test.YtkgbdahkncefhaaZPrint23
import Derived.Test.YtkgbdahkncefhaaZStockLines0
import Derived.Test.YtkgbdahkncefhaaZStockRef
set_option linter.unusedVariables false
namespace Go.Proofs.Ytkgbdahkncefhaa.Pure
open Go.RowKit Go.Proofs.Ytkgbdahkncefhaa.Print Go.Proofs.YtkgbdahkncefhaaW.PrintWords Go.Proofs.YtkgbdahkncefhaaW.PrintLast Go.Proofs.YtkgbdahkncefhaaW.PrintMore
theorem rlines_l0 (q : Nat) (hq : q < 5) (r : List S44) (hr : r.length ≤ 140737488355328) (L : Nat) (hL : 4097 ≤ L) : ∀ (d k j : Nat) (out : List S33), j + d = r.length → out.length ≤ L → 3 * L + 12 + d < k →
    ladingref13_Lines.l0 k (q : Int) out r (r.length : Int) (j : Int) = some (linesS q out (r.drop j))
  | 0, k, j, out, h, ho, hk => by
    obtain ⟨k, rfl⟩ : ∃ p, k = p + 1 := ⟨k - 1, by omega⟩
    rw [ladingref13_Lines.l0, if_neg (by omega), List.drop_of_length_le (by omega)]; rfl
  | d + 1, k, j, out, h, ho, hk => by
    obtain ⟨k, rfl⟩ : ∃ p, k = p + 1 := ⟨k - 1, by omega⟩
    have hi : j < r.length := by omega
    rw [ladingref13_Lines.l0, if_pos (by omega), if_pos (by omega), if_pos (by omega), rd44 r j hi, rmove_is q hq out _ _ _ (by omega), some_bind, List.drop_eq_getElem_cons hi, linesS]
    split
    · rw [w64n j (by omega), rlines_l0 q hq r hr L hL d k (j + 1) _ (by omega) (Nat.le_trans (moveS_length q out _ _ _) hL) (by omega)]
    · rfl
theorem rlines_is (q : Nat) (hq : q < 5) (l : List S33) (r : List S44) (hl : l.length < 2932031007402) (hr : r.length ≤ 140737488355328) {k : Nat} (hk : 3 * (l.length + 4097) + r.length + 12 < k) : ladingref13_Lines.f k (q : Int) l r = some (linesS q l r) := by
  unfold ladingref13_Lines.f
  rw [some_bind, if_pos (by rw [List.length_nil]; omega)]
  have := rlines_l0 q hq r hr (l.length + 4097) (by omega) r.length k 0 l (by omega) (by omega) (by omega)
  rwa [List.drop_zero] at this
theorem l1_is (l : List S33) (r : List S44) (hr : r.length ≤ 140737488355328) : ∀ (d k j : Nat), j + d = r.length → d + 50 < k → ladinglaw13_StockLines.l1 k l r r (r.length : Int) (j : Int) = some true
  | 0, k, j, h, hk => by
    obtain ⟨k, rfl⟩ : ∃ p, k = p + 1 := ⟨k - 1, by omega⟩
    rw [ladinglaw13_StockLines.l1, if_neg (by omega)]
    unfold stock_Lines.f
    rw [if_pos (by decide), some_bind, lives_is (by omega), some_bind, if_pos rfl]; rfl
  | d + 1, k, j, h, hk => by
    obtain ⟨k, rfl⟩ : ∃ p, k = p + 1 := ⟨k - 1, by omega⟩
    rw [ladinglaw13_StockLines.l1, if_pos (by omega), if_pos (by omega), if_pos (by omega), if_pos (by omega), if_neg (by simp), w64n j (by omega), l1_is l r hr d k (j + 1) (by omega) (by omega)]
theorem lines_step (l : List S33) (r : List S44) (hl : l.length * 48 ≤ 140737488351232) (hr : r.length * 32 ≤ 140737488351232) (k : Nat) (hk : 3 * l.length + r.length + 30000 < k) (q : Nat) (hq : q < 5) :
    ladinglaw13_StockLines.l0 (k + 1) l r r [10, 11, 13, 14, 15] 5 (q : Int) = ladinglaw13_StockLines.l0 k l r r [10, 11, 13, 14, 15] 5 ((q + 1 : Nat) : Int) := by
  have hf : rd [10, 11, 13, 14, 15] (q : Int) = fnK q := by
    match q, hq with
    | 0, _ => rfl
    | 1, _ => rfl
    | 2, _ => rfl
    | 3, _ => rfl
    | 4, _ => rfl
  have hlen := linesS_length q (l.length + 4097) (by omega) r l (by omega)
  rw [ladinglaw13_StockLines.l0, if_pos (by omega), if_pos (by omega), if_pos (show (q : Int) < (([10, 11, 13, 14, 15] : List Int).length : Int) from show (q : Int) < 5 by omega), hf, lines_is q hq l r (by omega) (by omega) (by omega), some_bind, rlines_is q hq l r (by omega) (by omega) (by omega), some_bind, same_is _ (by omega) (by omega), some_bind, if_pos rfl, if_pos rfl, w64n q (by omega)]
theorem StockLines (l : List S33) (r : List S44) (h0 : l.length * 48 ≤ 140737488351232 ∧ l.length ≤ maxLen ∧ ∀ y2 ∈ l, ((Lit.int .i64 y2.f0).wf = true ∧ (Lit.int .i64 y2.f1).wf = true ∧ (Lit.int .i64 y2.f2).wf = true ∧ (Lit.int .i64 y2.f3).wf = true ∧ (Lit.int .i64 y2.f4).wf = true ∧ (Lit.int .i64 y2.f5).wf = true)) (h1 : r.length * 32 ≤ 140737488351232 ∧ r.length ≤ maxLen ∧ ∀ y2 ∈ r, ((Lit.int .i64 y2.f0).wf = true ∧ (Lit.int .i64 y2.f1).wf = true ∧ (Lit.int .i64 y2.f2).wf = true ∧ (Lit.int .i64 y2.f3).wf = true)) : ∃ k, ladinglaw13_StockLines.f k l r = some true := by
  obtain ⟨k, hk⟩ : ∃ k, k = 3 * l.length + r.length + 30001 := ⟨_, rfl⟩
  have hl := h0.1
  have hr := h1.1
  refine ⟨k + 6, ?_⟩
  unfold ladinglaw13_StockLines.f
  rw [some_bind, if_pos (by rw [List.length_nil]; omega), some_bind]
  show ladinglaw13_StockLines.l0 (k + 5 + 1) l r r [10, 11, 13, 14, 15] 5 ((0 : Nat) : Int) = some true
  rw [lines_step l r hl hr (k + 5) (by omega) 0 (by decide), lines_step l r hl hr (k + 4) (by omega) 1 (by decide), lines_step l r hl hr (k + 3) (by omega) 2 (by decide), lines_step l r hl hr (k + 2) (by omega) 3 (by decide), lines_step l r hl hr (k + 1) (by omega) 4 (by decide)]
  rw [ladinglaw13_StockLines.l0, if_neg (by omega)]
  exact l1_is l r (by omega) r.length k 0 (by omega) (by omega)
end Go.Proofs.Ytkgbdahkncefhaa.Pure
