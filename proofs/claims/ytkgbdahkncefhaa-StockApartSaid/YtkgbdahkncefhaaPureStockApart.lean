/- The law StockApart, for all cells, numbers and amounts. -/
import Derived.Test.YtkgbdahkncefhaaPrint11
import Derived.Test.YtkgbdahkncefhaaStockLinkB
set_option linter.unusedVariables false
namespace Go.Proofs.Ytkgbdahkncefhaa.Pure
open Go.RowKit Go.Proofs.Ytkgbdahkncefhaa.Print Go.Proofs.YtkgbdahkncefhaaW.PrintWords Go.Proofs.YtkgbdahkncefhaaW.PrintLast Go.Proofs.YtkgbdahkncefhaaW.PrintMore

theorem StockApart (l : List S33) (i w n o t m : Int) (h0 : l.length * 48 ≤ 140737488351232 ∧ l.length ≤ maxLen ∧ ∀ y2 ∈ l, ((Lit.int .i64 y2.f0).wf = true ∧ (Lit.int .i64 y2.f1).wf = true ∧ (Lit.int .i64 y2.f2).wf = true ∧ (Lit.int .i64 y2.f3).wf = true ∧ (Lit.int .i64 y2.f4).wf = true ∧ (Lit.int .i64 y2.f5).wf = true)) (_ : (Lit.int .i64 i).wf = true) (_ : (Lit.int .i64 w).wf = true) (_ : (Lit.int .i64 n).wf = true) (_ : (Lit.int .i64 o).wf = true) (_ : (Lit.int .i64 t).wf = true) (_ : (Lit.int .i64 m).wf = true) : ∃ k, ladinglaw13_StockApart.f k l i w n o t m = some true := by
  obtain ⟨k, hk⟩ : ∃ k, k = l.length + 5000 := ⟨_, rfl⟩
  refine ⟨k + 2, ?_⟩
  unfold ladinglaw13_StockApart.f
  rw [lives_is (by omega), some_bind, if_pos rfl]
  have main : ¬ (i = o ∧ w = t) → ladinglaw13_StockApart.j0 (k + 2) l i w n o t m false = some true := fun hne => by
    rw [ladinglaw13_StockApart.j0, if_neg (by decide), restock_is l i w n (by omega), some_bind, reserve_is l o t m (by omega), some_bind]
    by_cases h1 : (moveS 0 l i w n).2 = 0
    · rw [if_pos h1]
      by_cases h2 : (moveS 1 l o t m).2 = 0
      · rw [show ((moveS 1 l o t m).2 != 0) = false from bne_eq_false_iff_eq.mpr h2, ladinglaw13_StockApart.j1, if_neg (by decide)]
        have a := moveS_ok h1
        have b := moveS_ok h2
        obtain ⟨ga, ka⟩ := a.good
        obtain ⟨gb, kb⟩ := b.good
        obtain ⟨la, oka⟩ := a.next
        obtain ⟨lb, okb⟩ := b.next
        have hkey : key i w ≠ key o t := fun h => hne ((key_inj a.hw b.hw).1 h)
        have hb := b.has (by decide)
        have ea := put_at_other (mvK 0 n (cellAt i w l)) o t (by rw [ka]; exact hkey) l
        have eb := put_at_other (mvK 1 m (cellAt o t l)) i w (by rw [kb]; exact fun h => hkey h.symm) l
        have hlb := put_len (mvK 1 m (cellAt o t l)) l 0 a.hok
        rw [kb, if_pos hb] at hlb
        have va : MoveOk 1 (put (mvK 0 n (cellAt i w l)) l) o t m := ⟨la, oka, b.hi, b.hw, b.hn, by rw [ea]; exact b.h2, by rw [ea]; exact b.h3, by rw [ea]; exact b.h4, by rw [ea]; exact b.h5,
          fun h => by rw [put_has_other _ _ (by rw [ka]; exact fun h => hkey h.symm), hb] at h; cases h.1⟩
        have vb : MoveOk 0 (put (mvK 1 m (cellAt o t l)) l) i w n := ⟨lb, okb, a.hi, a.hw, a.hn, by rw [eb]; exact a.h2, by rw [eb]; exact a.h3, by rw [eb]; exact a.h4, by rw [eb]; exact a.h5,
          fun h => by rw [put_has_other _ _ (by rw [kb]; exact hkey), hlb] at h; exact a.hroom h⟩
        rw [moveS_yes a, moveS_yes b]
        dsimp only
        rw [reserve_is _ o t m (by omega), some_bind, restock_is _ i w n (by omega), some_bind, moveS_yes va, moveS_yes vb, ea, eb]
        dsimp only
        have hc := put_comm (mvK 0 n (cellAt i w l)) (mvK 1 m (cellAt o t l)) (by rw [ka, kb]; exact hkey) l
        have hln := (va.next).1
        rw [ea] at hln
        rw [if_pos rfl, if_pos rfl, hc, same_is _ (by omega) (by omega), some_bind]
      · rw [show ((moveS 1 l o t m).2 != 0) = true from bne_iff_ne.mpr h2, ladinglaw13_StockApart.j1, if_pos rfl]
    · rw [if_neg h1, ladinglaw13_StockApart.j1, if_pos rfl]
  by_cases h1 : i = o
  · rw [if_pos h1]
    by_cases h2 : w = t
    · rw [show (w == t) = true from beq_iff_eq.mpr h2, ladinglaw13_StockApart.j0, if_pos rfl]
    · rw [show (w == t) = false from beq_eq_false_iff_ne.mpr h2]; exact main (fun h => h2 h.2)
  · rw [if_neg h1]; exact main (fun h => h1 h.1)
end Go.Proofs.Ytkgbdahkncefhaa.Pure
