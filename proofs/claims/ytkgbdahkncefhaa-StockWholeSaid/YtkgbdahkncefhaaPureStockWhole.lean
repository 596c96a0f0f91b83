/- The law StockWhole, for all cells, numbers and amounts. -/
import Derived.Test.YtkgbdahkncefhaaPrint18
import Derived.Test.YtkgbdahkncefhaaStockLinkB
set_option linter.unusedVariables false
namespace Go.Proofs.Ytkgbdahkncefhaa.Pure
open Go.RowKit Go.Proofs.Ytkgbdahkncefhaa.Print Go.Proofs.YtkgbdahkncefhaaW.PrintWords Go.Proofs.YtkgbdahkncefhaaW.PrintLast Go.Proofs.YtkgbdahkncefhaaW.PrintMore

theorem whole_step (l : List S33) (hc : checkS l = 0) (i w n o t : Int) (k : Nat) (hk : l.length + 6000 < k) (q : Nat) (hq : q < 5) :
    ∃ k', k' + 3 = k + 3 ∧ ladinglaw13_StockWhole.l0 (k + 3) l i w n o t (cellS l i w).2 (cellS l o t).2 [10, 11, 13, 14, 15] 5 (q : Int) (cellS l i w).1.f0 (cellS l i w).1.f1 (cellS l i w).1.f2 (cellS l i w).1.f3 (cellS l i w).1.f4 (cellS l i w).1.f5 (cellS l o t).1.f0 (cellS l o t).1.f1 (cellS l o t).1.f2 (cellS l o t).1.f3 (cellS l o t).1.f4 (cellS l o t).1.f5 =
      ladinglaw13_StockWhole.l0 (if (moveS q l i w n).2 = 0 then k else k + 2) l i w n o t (cellS l i w).2 (cellS l o t).2 [10, 11, 13, 14, 15] 5 ((q + 1 : Nat) : Int) (cellS l i w).1.f0 (cellS l i w).1.f1 (cellS l i w).1.f2 (cellS l i w).1.f3 (cellS l i w).1.f4 (cellS l i w).1.f5 (cellS l o t).1.f0 (cellS l o t).1.f1 (cellS l o t).1.f2 (cellS l o t).1.f3 (cellS l o t).1.f4 (cellS l o t).1.f5 := by
  refine ⟨k, rfl, ?_⟩
  have hr : rd [10, 11, 13, 14, 15] (q : Int) = fnK q := by
    match q, hq with
    | 0, _ => rfl
    | 1, _ => rfl
    | 2, _ => rfl
    | 3, _ => rfl
    | 4, _ => rfl
  rw [ladinglaw13_StockWhole.l0, if_pos (by omega), if_pos (by omega), if_pos (show (q : Int) < (([10, 11, 13, 14, 15] : List Int).length : Int) from show (q : Int) < 5 by omega), hr, call_is q hq l i w n (by omega), some_bind]
  by_cases h1 : (moveS q l i w n).2 = 0
  · have a := moveS_ok h1
    obtain ⟨ga, ka⟩ := a.good
    obtain ⟨la, oka⟩ := a.next
    have hcell : cellS l i w = (cellAt i w l, 0) := by
      unfold cellS; rw [if_pos hc, if_pos ⟨a.hi, a.hw⟩]
    have hcheck : checkS (put (mvK q n (cellAt i w l)) l) = 0 := by unfold checkS; rw [if_pos ⟨la, oka⟩]
    have hcell2 : cellS (put (mvK q n (cellAt i w l)) l) i w = (mvK q n (cellAt i w l), 0) := by
      unfold cellS; rw [if_pos hcheck, if_pos ⟨a.hi, a.hw⟩, put_at _ i w ka]
    have hoth2 : (cellS (put (mvK q n (cellAt i w l)) l) o t).2 = (cellS l o t).2 := by
      unfold cellS; rw [if_pos hcheck, if_pos hc]; split <;> rfl
    have hoth : ¬ (o = i ∧ t = w) → (cellS (put (mvK q n (cellAt i w l)) l) o t).1 = (cellS l o t).1 := fun hne => by
      unfold cellS; rw [if_pos hcheck, if_pos hc]
      split
      · rename_i ho
        exact put_at_other _ o t (by rw [ka]; exact fun h => hne ((key_inj ho.2 a.hw).1 h.symm)) l
      · rfl
    rw [if_pos h1, if_pos h1, moveS_yes a]
    dsimp only
    rw [cell_is _ i w (by omega), some_bind, cell_is _ o t (by omega), some_bind, hcell2, hoth2, hcell]
    dsimp only
    rw [if_pos rfl, if_pos rfl, if_pos rfl, check_is _ (by omega), some_bind, if_pos hcheck]
    have g2 := ga.2.2.1; have g3 := ga.2.2.2.1; have g4 := ga.2.2.2.2.1; have g5 := ga.2.2.2.2.2.1; have g6 := ga.2.2.2.2.2.2
    have c5 := a.at_.1.2.2.2.2.2.1
    have hn := a.hn
    rw [if_neg (by omega), if_neg (by omega), if_neg (by omega), w64 (x := (mvK q n (cellAt i w l)).f2 + (mvK q n (cellAt i w l)).f3) (by omega) (by omega), w64 (x := (mvK q n (cellAt i w l)).f2 + (mvK q n (cellAt i w l)).f3 + (mvK q n (cellAt i w l)).f4) (by omega) (by omega), g6, bne_self_eq_false, ladinglaw13_StockWhole.j1, if_neg (by decide), w64 (x := (cellAt i w l).f5 + n) (by omega) (by omega)]
    have hj2 : ∀ x : Bool, x = false → ladinglaw13_StockWhole.j2 (k + 1) l i w n o t 0 (cellS l o t).2 [10, 11, 13, 14, 15] 5 (q : Int) x (cellAt i w l).f0 (cellAt i w l).f1 (cellAt i w l).f2 (cellAt i w l).f3 (cellAt i w l).f4 (cellAt i w l).f5 (cellS l o t).1.f0 (cellS l o t).1.f1 (cellS l o t).1.f2 (cellS l o t).1.f3 (cellS l o t).1.f4 (cellS l o t).1.f5 (cellS (put (mvK q n (cellAt i w l)) l) o t).1.f0 (cellS (put (mvK q n (cellAt i w l)) l) o t).1.f1 (cellS (put (mvK q n (cellAt i w l)) l) o t).1.f2 (cellS (put (mvK q n (cellAt i w l)) l) o t).1.f3 (cellS (put (mvK q n (cellAt i w l)) l) o t).1.f4 (cellS (put (mvK q n (cellAt i w l)) l) o t).1.f5 =
        ladinglaw13_StockWhole.l0 k l i w n o t 0 (cellS l o t).2 [10, 11, 13, 14, 15] 5 ((q + 1 : Nat) : Int) (cellAt i w l).f0 (cellAt i w l).f1 (cellAt i w l).f2 (cellAt i w l).f3 (cellAt i w l).f4 (cellAt i w l).f5 (cellS l o t).1.f0 (cellS l o t).1.f1 (cellS l o t).1.f2 (cellS l o t).1.f3 (cellS l o t).1.f4 (cellS l o t).1.f5 := fun x hx => by
      subst hx
      rw [ladinglaw13_StockWhole.j2, if_neg (by decide), w64n q (by omega)]
      by_cases e1 : o = i
      · rw [if_pos e1]
        by_cases e2 : t = w
        · rw [if_pos e2]
        · rw [if_neg e2, hoth (fun h => e2 h.2), if_neg (by simp)]
      · rw [if_neg e1, hoth (fun h => e1 h.1), if_neg (by simp)]
    match q, hq with
    | 0, _ =>
      rw [if_pos (show ((0 : Nat) : Int) = 0 from rfl), if_pos (show (mvK 0 n (cellAt i w l)).f5 = (cellAt i w l).f5 + n from rfl), if_neg (by decide)]
      exact hj2 false rfl
    | q + 1, _ =>
      have hm : (mvK (q + 1) n (cellAt i w l)).f5 = (cellAt i w l).f5 := by
        simp only [mvK]; split <;> first | rfl | (rename_i h; exact absurd h (by omega))
      rw [if_neg (show ¬ ((q + 1 : Nat) : Int) = 0 by omega), if_pos (show ((q + 1 : Nat) : Int) > 0 by omega)]
      exact hj2 _ (by rw [hm]; exact bne_self_eq_false _)
  · rw [if_neg h1, if_neg h1, moveS_err h1, if_neg (by simp), w64n q (by omega)]
theorem whole_l0 (l : List S33) (hc : checkS l = 0) (i w n o t : Int) : ∀ (d q k : Nat), q + d = 5 → l.length + 6010 + 3 * d < k →
    ladinglaw13_StockWhole.l0 k l i w n o t (cellS l i w).2 (cellS l o t).2 [10, 11, 13, 14, 15] 5 (q : Int) (cellS l i w).1.f0 (cellS l i w).1.f1 (cellS l i w).1.f2 (cellS l i w).1.f3 (cellS l i w).1.f4 (cellS l i w).1.f5 (cellS l o t).1.f0 (cellS l o t).1.f1 (cellS l o t).1.f2 (cellS l o t).1.f3 (cellS l o t).1.f4 (cellS l o t).1.f5 = some true
  | 0, q, k, hq, hk => by
    obtain ⟨k, rfl⟩ : ∃ p, k = p + 1 := ⟨k - 1, by omega⟩
    rw [ladinglaw13_StockWhole.l0, if_neg (by omega)]
  | d + 1, q, k, hq, hk => by
    obtain ⟨k, rfl⟩ : ∃ p, k = p + 3 := ⟨k - 3, by omega⟩
    obtain ⟨_, _, h⟩ := whole_step l hc i w n o t k (by omega) q (by omega)
    rw [h]
    exact whole_l0 l hc i w n o t d (q + 1) _ (by omega) (by split <;> omega)
theorem StockWhole (l : List S33) (i w n o t : Int) (h0 : l.length * 48 ≤ 140737488351232 ∧ l.length ≤ maxLen ∧ ∀ y2 ∈ l, ((Lit.int .i64 y2.f0).wf = true ∧ (Lit.int .i64 y2.f1).wf = true ∧ (Lit.int .i64 y2.f2).wf = true ∧ (Lit.int .i64 y2.f3).wf = true ∧ (Lit.int .i64 y2.f4).wf = true ∧ (Lit.int .i64 y2.f5).wf = true)) (_ : (Lit.int .i64 i).wf = true) (_ : (Lit.int .i64 w).wf = true) (_ : (Lit.int .i64 n).wf = true) (_ : (Lit.int .i64 o).wf = true) (_ : (Lit.int .i64 t).wf = true) : ∃ k, ladinglaw13_StockWhole.f k l i w n o t = some true := by
  refine ⟨l.length + 7000, ?_⟩
  unfold ladinglaw13_StockWhole.f
  rw [lives_is (by omega), some_bind, if_pos rfl, check_is l (by omega), some_bind]
  by_cases hc : checkS l = 0
  · rw [if_pos hc, cell_is l i w (by omega), some_bind, cell_is l o t (by omega), some_bind, some_bind]
    exact whole_l0 l hc i w n o t 5 0 _ rfl (by omega)
  · rw [if_neg hc]
end Go.Proofs.Ytkgbdahkncefhaa.Pure
