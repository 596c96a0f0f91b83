/- The law StockBack, for all cells, numbers and amounts. -/
import Derived.Test.YtkgbdahkncefhaaPrint19
import Derived.Test.YtkgbdahkncefhaaStockLinkB
set_option linter.unusedVariables false
namespace Go.Proofs.Ytkgbdahkncefhaa.Pure
open Go.RowKit Go.Proofs.Ytkgbdahkncefhaa.Print Go.Proofs.YtkgbdahkncefhaaW.PrintWords Go.Proofs.YtkgbdahkncefhaaW.PrintLast Go.Proofs.YtkgbdahkncefhaaW.PrintMore

theorem S33_ext {a b : S33} (h0 : a.f0 = b.f0) (h1 : a.f1 = b.f1) (h2 : a.f2 = b.f2) (h3 : a.f3 = b.f3) (h4 : a.f4 = b.f4) (h5 : a.f5 = b.f5) : a = b := by
  cases a; cases b; simp only at h0 h1 h2 h3 h4 h5; subst h0 h1 h2 h3 h4 h5; rfl
theorem StockBack (l : List S33) (i w n : Int) (h0 : l.length * 48 ≤ 140737488351232 ∧ l.length ≤ maxLen ∧ ∀ y2 ∈ l, ((Lit.int .i64 y2.f0).wf = true ∧ (Lit.int .i64 y2.f1).wf = true ∧ (Lit.int .i64 y2.f2).wf = true ∧ (Lit.int .i64 y2.f3).wf = true ∧ (Lit.int .i64 y2.f4).wf = true ∧ (Lit.int .i64 y2.f5).wf = true)) (_ : (Lit.int .i64 i).wf = true) (_ : (Lit.int .i64 w).wf = true) (_ : (Lit.int .i64 n).wf = true) : ∃ k, ladinglaw13_StockBack.f k l i w n = some true := by
  obtain ⟨k, hk⟩ : ∃ k, k = l.length + 5000 := ⟨_, rfl⟩
  refine ⟨k + 1, ?_⟩
  unfold ladinglaw13_StockBack.f
  rw [lives_is (by omega), some_bind, if_pos rfl, reserve_is l i w n (by omega), some_bind]
  by_cases h1 : (moveS 1 l i w n).2 = 0
  · rw [if_pos h1]
    have a := moveS_ok h1
    obtain ⟨ga, ka⟩ := a.good
    obtain ⟨la, oka⟩ := a.next
    obtain ⟨gc, kc⟩ := a.at_
    have hh := a.has (by decide)
    rw [moveS_yes a]
    dsimp only
    have e1 := put_at (mvK 1 n (cellAt i w l)) i w ka l
    have hself := put_self i w l 0 a.hok hh
    have hhas := put_has (mvK 1 n (cellAt i w l)) l
    rw [ka] at hhas
    have hn := a.hn
    have x2 := a.h2; have x3 := a.h3; have x4 := a.h4; have x5 := a.h5
    have hp : ∀ d, kk d = key i w → put (cellAt i w l) (put d l) = l := fun d hd => by rw [put_put _ _ (by rw [hd, kc]), hself]
    generalize hc : cellAt i w l = c at *
    have b : MoveOk 2 (put (mvK 1 n c) l) i w n := ⟨la, oka, a.hi, a.hw, a.hn, by rw [e1]; simp only [mvK] at *; omega, by rw [e1]; simp only [mvK] at *; omega, by rw [e1]; simp only [mvK] at *; omega, by rw [e1]; simp only [mvK] at *; omega, fun h => by rw [hhas] at h; cases h.1⟩
    have d : MoveOk 3 (put (mvK 1 n c) l) i w n := ⟨la, oka, a.hi, a.hw, a.hn, by rw [e1]; simp only [mvK] at *; omega, by rw [e1]; simp only [mvK] at *; omega, by rw [e1]; simp only [mvK] at *; omega, by rw [e1]; simp only [mvK] at *; omega, fun h => by rw [hhas] at h; cases h.1⟩
    have c2 : mvK 2 n (mvK 1 n c) = c := S33_ext rfl rfl (by simp only [mvK]; omega) (by simp only [mvK]; omega) rfl rfl
    have c4 : mvK 4 n (mvK 3 n (mvK 1 n c)) = c := S33_ext rfl rfl (by simp only [mvK]; omega) (by simp only [mvK]; omega) (by simp only [mvK]; omega) rfl
    obtain ⟨gd, kd⟩ := d.good
    obtain ⟨ld, okd⟩ := d.next
    rw [e1] at gd kd ld okd
    have e3 := put_at (mvK 3 n (mvK 1 n c)) i w kd (put (mvK 1 n c) l)
    have hhas3 := put_has (mvK 3 n (mvK 1 n c)) (put (mvK 1 n c) l)
    rw [kd] at hhas3
    have f : MoveOk 4 (put (mvK 3 n (mvK 1 n c)) (put (mvK 1 n c) l)) i w n := ⟨ld, okd, a.hi, a.hw, a.hn, by rw [e3]; simp only [mvK] at *; omega, by rw [e3]; simp only [mvK] at *; omega, by rw [e3]; simp only [mvK] at *; omega, by rw [e3]; simp only [mvK] at *; omega, fun h => by rw [hhas3] at h; cases h.1⟩
    rw [release_is _ i w n (by omega), some_bind, moveS_yes b, e1]
    dsimp only
    rw [if_pos rfl, c2, hp _ ka, same_is l (by omega) (by omega), some_bind, ladinglaw13_StockBack.j0, if_neg (by decide), send_is _ i w n (by omega), some_bind, moveS_yes d, e1]
    dsimp only
    rw [takeBack_is _ i w n (by omega), some_bind, moveS_yes f, e3]
    dsimp only
    rw [if_pos rfl, if_pos rfl, c4, put_put c _ (by rw [kd, kc]), hp _ ka, same_is l (by omega) (by omega), some_bind]
  · rw [if_neg h1, moveS_err h1]; rfl
end Go.Proofs.Ytkgbdahkncefhaa.Pure
