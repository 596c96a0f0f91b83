/- LedgerDoes: everything that is paid, and every question, comes to what the document says. -/
import Derived.Test.YtaddmogfeijjcaaZAll
import Derived.Test.YtaddmogfeijjcaaZPrint60
set_option linter.unusedVariables false
namespace Go.Proofs.Ytaddmogfeijjcaa.Pure
open Go.RowKit Go.Proofs.Ytaddmogfeijjcaa.Print Go.Proofs.YtaddmogfeijjcaaW.PrintWords Go.Proofs.YtaddmogfeijjcaaW.PrintLast Go.Proofs.YtaddmogfeijjcaaW.PrintMore
def Small (c : List S31) (d : List S55) : Prop := c.length ≤ 1024 ∧ d.length ≤ 16384
theorem small_no : Small [] [] := ⟨by simp, by simp⟩
theorem small_good {c : List S31} {d : List S55} (G : Good c d) : Small c d := ⟨G.plen, G.len⟩
theorem auth_small (ps : List S31) (qs : List S55) (n a : Int) : Small (authV ps qs n a).1 (authV ps qs n a).2.1 := by
  rcases auth_ways ps qs n a with ⟨_, e1, e2⟩ | ⟨_, _, _, _, X⟩
  · rw [e1, e2]
    exact small_no
  · exact small_good X.good
theorem ref_small (ps : List S31) (qs : List S55) (n a : Int) : Small (refV ps qs n a).1 (refV ps qs n a).2.1 := by
  rcases ref_ways ps qs n a with ⟨_, e1, e2⟩ | ⟨_, _, _, _, X⟩
  · rw [e1, e2]
    exact small_no
  · exact small_good X.good
theorem set_small (ps : List S31) (qs : List S55) (n t : Int) (ht : t = 1 ∨ t = 3) : Small (setlV ps qs n t).1 (setlV ps qs n t).2.1 := by
  by_cases hb : goodL ps qs = true ∧ 1 ≤ n ∧ n ≤ 1024
  · have G := (good_iff _ _).mp hb.1
    by_cases ho : (lookP n ps).f1 = 0
    · rw [set_none t G hb.2 ho]
      exact small_no
    · rcases ht with rfl | rfl
      · rcases void_ways G hb.2 ho with ⟨_, e⟩ | ⟨e, X⟩
        · rw [e]
          exact small_no
        · exact small_good X.good
      · rcases capt_ways G hb.2 ho with ⟨_, e⟩ | e | ⟨e, X⟩
        · rw [e]
          exact small_no
        · rw [e]
          exact small_no
        · exact small_good X.good
  · obtain ⟨e, he, h⟩ := set_bad t hb
    rw [h]
    exact small_no
theorem same_small {c : List S31} {d : List S55} (h : Small c d) {k : Nat} (hk : 20000 < k) : ladingref14_Same.f k c d c d = some true :=
  same_is c d (by have := h.1; omega) (by have := h.2; omega) (by have := h.1; have := h.2; omega)
theorem LedgerDoes_at (ps : List S31) (qs : List S55) (n a t : Int) (h1 : ps.length * 32 ≤ 140737488351232) (h2 : qs.length * 24 ≤ 140737488351232) {k : Nat} (hk : 20000 + ps.length + qs.length < k) : ladinglaw14_LedgerDoes.f (k + 2) ps qs n a t = some true := by
  have g1 : ps.length * 32 ≤ 140737488355328 := by omega
  have g2 : qs.length * 24 ≤ 140737488355328 := by omega
  unfold ladinglaw14_LedgerDoes.f
  rw [rcopy_is ps qs h1 h2, some_bind]
  simp only
  rw [auth_is ps qs n a g1 g2, some_bind, rauth_is ps qs n a g1 (k := k + 1) (by omega), some_bind]
  rw [void_is ps qs n g1 g2, some_bind, rvoid_is ps qs n g1 (by omega), some_bind]
  rw [capture_is ps qs n g1 g2, some_bind, rcapture_is ps qs n g1 (by omega), some_bind]
  rw [ref_is ps qs n a g1 g2, some_bind, rref_is ps qs n a g1 (k := k + 1) (by omega), some_bind]
  rw [same_small (auth_small ps qs n a) (by omega), some_bind, if_pos rfl, if_pos rfl]
  rw [same_small (set_small ps qs n 1 (Or.inl rfl)) (by omega), some_bind, if_pos rfl, if_pos rfl, if_pos rfl]
  rw [same_small (set_small ps qs n 3 (Or.inr rfl)) (by omega), some_bind, if_pos rfl, if_pos rfl, if_pos rfl]
  rw [same_small (ref_small ps qs n a) (by omega), some_bind, if_pos rfl]
  rw [show ((refV ps qs n a).2.2 != (refV ps qs n a).2.2) = false by simp]
  rw [ladinglaw14_LedgerDoes.j0, if_neg (by simp)]
  rw [pay_is ps qs n g1 g2, some_bind, rpay_is ps qs n g1 (by omega), some_bind, bal_is ps qs t (by omega), some_bind, rbal_is ps qs t (by omega), some_bind, lives_is, some_bind, if_pos rfl]
  rw [if_pos (by simp), if_pos rfl, if_pos rfl, if_pos rfl, check_is, some_bind, rcheck_is, some_bind, if_pos rfl]
  rw [same_is ps qs (by omega) (by omega) (by omega)]
  rfl
theorem LedgerDoes : ∀ (a0 : S25) (a1 : Int) (a2 : Int) (a3 : Int), ((a0.f0.length * 32 ≤ 140737488351232 ∧ a0.f0.length ≤ maxLen ∧ ∀ y5 ∈ a0.f0, ((Lit.int .i64 y5.f0).wf = true ∧ (Lit.int .i64 y5.f1).wf = true ∧ (Lit.int .i64 y5.f2).wf = true ∧ (Lit.int .i64 y5.f3).wf = true)) ∧ (a0.f1.length * 24 ≤ 140737488351232 ∧ a0.f1.length ≤ maxLen ∧ ∀ y5 ∈ a0.f1, ((Lit.int .i64 y5.f0).wf = true ∧ (Lit.int .u8 y5.f1).wf = true ∧ (Lit.int .u8 y5.f2).wf = true ∧ (Lit.int .i64 y5.f3).wf = true))) → (Lit.int .i64 a1).wf = true → (Lit.int .i64 a2).wf = true → (Lit.int .u8 a3).wf = true → ∃ k, ladinglaw14_LedgerDoes.f k a0.f0 a0.f1 a1 a2 a3 = some true := by
  intro a0 a1 a2 a3 h _ _ _
  exact ⟨_, LedgerDoes_at _ _ _ _ _ h.1.1 h.2.1 (Nat.lt_succ_self _)⟩
end Go.Proofs.Ytaddmogfeijjcaa.Pure
