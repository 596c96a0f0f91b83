/- The law StockParts, for all cells, lines and places. -/
import Derived.Test.YtkgbdahkncefhaaPrint21
import Derived.Test.YtkgbdahkncefhaaStockLines0
set_option linter.unusedVariables false
namespace Go.Proofs.Ytkgbdahkncefhaa.Pure
open Go.RowKit Go.Proofs.Ytkgbdahkncefhaa.Print Go.Proofs.YtkgbdahkncefhaaW.PrintWords Go.Proofs.YtkgbdahkncefhaaW.PrintLast Go.Proofs.YtkgbdahkncefhaaW.PrintMore

theorem StockParts (l : List S33) (r : List S44) (at_ : Int) (h0 : l.length * 48 ≤ 140737488351232 ∧ l.length ≤ maxLen ∧ ∀ y2 ∈ l, ((Lit.int .i64 y2.f0).wf = true ∧ (Lit.int .i64 y2.f1).wf = true ∧ (Lit.int .i64 y2.f2).wf = true ∧ (Lit.int .i64 y2.f3).wf = true ∧ (Lit.int .i64 y2.f4).wf = true ∧ (Lit.int .i64 y2.f5).wf = true)) (h1 : r.length * 32 ≤ 140737488351232 ∧ r.length ≤ maxLen ∧ ∀ y2 ∈ r, ((Lit.int .i64 y2.f0).wf = true ∧ (Lit.int .i64 y2.f1).wf = true ∧ (Lit.int .i64 y2.f2).wf = true ∧ (Lit.int .i64 y2.f3).wf = true)) (_ : (Lit.int .i64 at_).wf = true) : ∃ k, ladinglaw13_StockParts.f k l r at_ = some true := by
  obtain ⟨k, hk⟩ : ∃ k, k = 2 * l.length + r.length + 20000 := ⟨_, rfl⟩
  have hl := h0.1
  have hr := h1.1
  refine ⟨k + 1, ?_⟩
  unfold ladinglaw13_StockParts.f
  rw [lives_is (by omega), some_bind, if_pos rfl]
  by_cases c1 : at_ < 0
  · rw [if_pos c1, ladinglaw13_StockParts.j0, if_pos rfl]
  · rw [if_neg c1]
    by_cases c2 : at_ > (r.length : Int)
    · rw [decide_eq_true c2, ladinglaw13_StockParts.j0, if_pos rfl]
    · obtain ⟨p, rfl⟩ := Int.eq_ofNat_of_zero_le (show 0 ≤ at_ by omega)
      have hp : p ≤ r.length := by omega
      have e : (11 : Int) = fnK 1 := rfl
      have hT : (r.take p).length ≤ r.length := by rw [List.length_take]; omega
      have hD : (r.drop p).length ≤ r.length := by rw [List.length_drop]; omega
      rw [decide_eq_false c2, ladinglaw13_StockParts.j0, if_neg (by decide), Int.toNat_natCast, e, lines_is 1 (by decide) l r (by omega) (by omega) (by omega), some_bind, if_pos (by omega), if_pos (by omega), lines_is 1 (by decide) l (r.take p) (by omega) (by omega) (by omega), some_bind]
      have happ := linesS_append 1 (r.take p) (r.drop p) l
      rw [List.take_append_drop] at happ
      by_cases c3 : (linesS 1 l (r.take p)).2 = 0
      · have hlen := linesS_length 1 (l.length + 4097) (by omega) (r.take p) l (by omega)
        have hlen2 := linesS_length 1 (l.length + 4097) (by omega) r l (by omega)
        rw [if_pos c3] at happ
        have hb : (linesS 1 l (r.take p)).1.length * 48 ≤ 140737488355328 := by
          have h2 : (linesS 1 l (r.take p)).1.length ≤ max l.length 4097 := linesS_length 1 _ (Nat.le_max_right _ _) _ _ (Nat.le_max_left _ _)
          omega
        rw [if_pos c3, lines_is 1 (by decide) (linesS 1 l (r.take p)).1 (r.drop p) hb (by omega) (by omega), some_bind, ← happ, if_pos rfl, same_is _ (by omega) (by omega), some_bind]
      · rw [if_neg c3] at happ
        rw [if_neg c3, happ, if_pos rfl, linesS_err 1 _ _ c3]; rfl
end Go.Proofs.Ytkgbdahkncefhaa.Pure
