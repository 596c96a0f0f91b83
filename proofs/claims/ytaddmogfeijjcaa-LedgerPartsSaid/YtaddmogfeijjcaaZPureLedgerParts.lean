/- LedgerParts: a refund in two parts comes to what one comes to. -/
import Derived.Test.YtaddmogfeijjcaaZAll
import Derived.Test.YtaddmogfeijjcaaZPrint29
set_option linter.unusedVariables false
namespace Go.Proofs.Ytaddmogfeijjcaa.Pure
open Go.RowKit Go.Proofs.Ytaddmogfeijjcaa.Print Go.Proofs.YtaddmogfeijjcaaW.PrintWords Go.Proofs.YtaddmogfeijjcaaW.PrintLast Go.Proofs.YtaddmogfeijjcaaW.PrintMore
theorem LedgerParts_at (ps : List S31) (qs : List S55) (n a b : Int) (h1 : ps.length * 32 ≤ 140737488355328) (h2 : qs.length * 24 ≤ 140737488355328) (hi : -9223372036854775808 ≤ b) {k : Nat} (hk : 16384 < k) : ladinglaw14_LedgerParts.f (k + 1) ps qs n a b = some true := by
  unfold ladinglaw14_LedgerParts.f
  rw [lives_is, some_bind, if_pos rfl, ref_is ps qs n a h1 h2, some_bind]
  rcases ref_ways ps qs n a with ⟨he, e1, e2⟩ | ⟨he, hn, ha, ho, X⟩
  · rw [if_neg he, e2]
    rfl
  · rw [if_pos he]
    have hgo : ∀ fl, (fl = false → 1 ≤ b ∧ b < a) → ladinglaw14_LedgerParts.j0 (k + 1) n a b fl ps qs (refV ps qs n a).1 (refV ps qs n a).2.1 = some true := by
      intro fl hfl
      rw [ladinglaw14_LedgerParts.j0]
      cases fl with
      | true => rw [if_pos rfl]
      | false =>
        have hb := hfl rfl
        rw [if_neg (by simp), ref_is ps qs n b h1 h2, some_bind]
        obtain ⟨e1, Y⟩ := ref_ok X.was hn (a := b) (by omega) (by omega) X.room
        generalize refV ps qs n b = c at e1 Y
        have L := Y.look n
        rw [if_pos rfl] at L
        rw [w64 (by omega) (by omega), ref_is c.1 c.2.1 n (a - b) Y.good.b32 Y.good.b24, some_bind]
        by_cases hl : c.2.1.length < 16384
        · obtain ⟨e2, Z⟩ := ref_ok Y.good hn (a := a - b) (by omega) (by rw [L]; simp only; omega) hl
          have L2 := Z.look n
          rw [if_pos rfl, L] at L2
          simp only at L2
          generalize refV c.1 c.2.1 n (a - b) = d at e2 Z L2
          have LX := X.look n
          rw [if_pos rfl] at LX
          rw [if_neg (by rw [e2]; decide), pay_good X.good hn, some_bind, pay_good Z.good hn, some_bind, bal_good X.good (by decide) hk, some_bind, bal_good Z.good (by decide) hk, some_bind]
          simp only
          have hB : balQ 3 d.2.1 = balQ 3 (refV ps qs n a).2.1 := by
            have p1 : d.2.1 = _ := Z.posts
            have p2 : c.2.1 = _ := Y.posts
            have p3 : (refV ps qs n a).2.1 = _ := X.posts
            rw [p1, p3]
            simp only
            rw [p2, balQ_app, balQ_app, balQ_app]
            simp only [balQ, sgn]
            simp
            omega
          have hE : (lookP n d.1) = lookP n (refV ps qs n a).1 := by
            rw [L2, LX]
            simp only [S31.mk.injEq, true_and]
            omega
          rw [if_pos e1, if_pos e2, hB, hE]
          simp
        · rw [ref_yes Y.good hn (by omega) (by rw [L]; simp only; omega), post_many _ hl]
          rw [if_pos rfl]
    by_cases hb : b < 1
    · rw [if_pos hb]
      exact hgo true (by simp)
    · rw [if_neg hb]
      refine hgo _ (fun h => ?_)
      have := of_decide_eq_false h
      omega
theorem LedgerParts : ∀ (a0 : S25) (a1 : Int) (a2 : Int) (a3 : Int), ((a0.f0.length * 32 ≤ 140737488351232 ∧ a0.f0.length ≤ maxLen ∧ ∀ y5 ∈ a0.f0, ((Lit.int .i64 y5.f0).wf = true ∧ (Lit.int .i64 y5.f1).wf = true ∧ (Lit.int .i64 y5.f2).wf = true ∧ (Lit.int .i64 y5.f3).wf = true)) ∧ (a0.f1.length * 24 ≤ 140737488351232 ∧ a0.f1.length ≤ maxLen ∧ ∀ y5 ∈ a0.f1, ((Lit.int .i64 y5.f0).wf = true ∧ (Lit.int .u8 y5.f1).wf = true ∧ (Lit.int .u8 y5.f2).wf = true ∧ (Lit.int .i64 y5.f3).wf = true))) → (Lit.int .i64 a1).wf = true → (Lit.int .i64 a2).wf = true → (Lit.int .i64 a3).wf = true → ∃ k, ladinglaw14_LedgerParts.f k a0.f0 a0.f1 a1 a2 a3 = some true := by
  intro a0 a1 a2 a3 h _ _ h3
  have := wf_i64 h3
  exact ⟨16386, LedgerParts_at _ _ _ _ _ (by have := h.1.1; omega) (by have := h.2.1; omega) (by omega) (by decide)⟩
end Go.Proofs.Ytaddmogfeijjcaa.Pure
