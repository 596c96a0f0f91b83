/- LedgerBalances: the accounts come to nothing together, whatever is done. -/
import Derived.Test.YtaddmogfeijjcaaZAll
import Derived.Test.YtaddmogfeijjcaaZPrint50
set_option linter.unusedVariables false
namespace Go.Proofs.Ytaddmogfeijjcaa.Pure
open Go.RowKit Go.Proofs.Ytaddmogfeijjcaa.Print Go.Proofs.YtaddmogfeijjcaaW.PrintWords Go.Proofs.YtaddmogfeijjcaaW.PrintLast Go.Proofs.YtaddmogfeijjcaaW.PrintMore
theorem balanced_is {ps : List S31} {qs : List S55} (G : Good ps qs) {k : Nat} (hk : 16384 < k) : ladinglaw14_balanced.f k ps qs = some true := by
  unfold ladinglaw14_balanced.f
  rw [bal_good G (by decide) hk, some_bind, bal_good G (by decide) hk, some_bind, bal_good G (by decide) hk, some_bind]
  have h0 := balQ_none qs G.posts
  generalize balQ 1 qs = x at h0
  generalize balQ 2 qs = y at h0
  generalize balQ 3 qs = z at h0
  unfold balV
  by_cases hx : -9223372036854775808 ≤ x ∧ x ≤ 9223372036854775807
  · by_cases hy : -9223372036854775808 ≤ y ∧ y ≤ 9223372036854775807
    · by_cases hz : -9223372036854775808 ≤ z ∧ z ≤ 9223372036854775807
      · rw [if_pos hx, if_pos hy, if_pos hz, if_pos rfl, if_pos rfl, if_pos rfl]
        congr 1
        rw [beq_iff_eq]
        simp only
        unfold wrap64
        omega
      · rw [if_pos hx, if_pos hy, if_neg hz]
        rfl
    · rw [if_pos hx, if_neg hy]
      rfl
  · rw [if_neg hx]
    split
    · rename_i h; cases h
    · rfl
def Ways (ps : List S31) (qs : List S55) (n : Int) (w : Int) (c1 : List S31) (c2 : List S55) : Prop := (w ≠ 0 ∧ c1 = [] ∧ c2 = []) ∨ (w = 0 ∧ (1 ≤ n ∧ n ≤ 1024) ∧ ∃ x q, x.f0 = n ∧ Next ps qs x q (c1, c2))
theorem set_ways (ps : List S31) (qs : List S55) (n t : Int) (ht : t = 1 ∨ t = 3) : Ways ps qs n (setlV ps qs n t).2.2.2 (setlV ps qs n t).1 (setlV ps qs n t).2.1 := by
  by_cases hb : goodL ps qs = true ∧ 1 ≤ n ∧ n ≤ 1024
  · have G := (good_iff _ _).mp hb.1
    by_cases ho : (lookP n ps).f1 = 0
    · rw [set_none t G hb.2 ho]
      exact Or.inl ⟨by decide, rfl, rfl⟩
    · rcases ht with rfl | rfl
      · rcases void_ways G hb.2 ho with ⟨_, e⟩ | ⟨e, X⟩
        · rw [e]
          exact Or.inl ⟨by decide, rfl, rfl⟩
        · exact Or.inr ⟨by rw [e], hb.2, _, _, rfl, X⟩
      · rcases capt_ways G hb.2 ho with ⟨_, e⟩ | e | ⟨e, X⟩
        · rw [e]
          exact Or.inl ⟨by decide, rfl, rfl⟩
        · rw [e]
          exact Or.inl ⟨by decide, rfl, rfl⟩
        · exact Or.inr ⟨by rw [e], hb.2, _, _, rfl, X⟩
  · obtain ⟨e, he, h⟩ := set_bad t hb
    rw [h]
    exact Or.inl ⟨he, rfl, rfl⟩
theorem auth_w (ps : List S31) (qs : List S55) (n a : Int) : Ways ps qs n (authV ps qs n a).2.2 (authV ps qs n a).1 (authV ps qs n a).2.1 := by
  rcases auth_ways ps qs n a with h | ⟨h, hn, _, _, X⟩
  · exact Or.inl h
  · exact Or.inr ⟨h, hn, _, _, rfl, X⟩
theorem ref_w (ps : List S31) (qs : List S55) (n a : Int) : Ways ps qs n (refV ps qs n a).2.2 (refV ps qs n a).1 (refV ps qs n a).2.1 := by
  rcases ref_ways ps qs n a with h | ⟨h, hn, _, _, X⟩
  · exact Or.inl h
  · exact Or.inr ⟨h, hn, _, _, rfl, X⟩
theorem pay_code (ps : List S31) (qs : List S55) (G : Good ps qs) (m : Int) : payS ps qs m = if 1 ≤ m ∧ m ≤ 1024 then (lookP m ps, 0) else (z31, 2) := by
  unfold payS
  rw [if_pos ((good_iff _ _).mpr G)]
theorem step_is {ps : List S31} {qs : List S55} (G : Good ps qs) (n a m i w : Int) {c1 : List S31} {c2 : List S55} (h : Ways ps qs n w c1 c2) {k : Nat} (hk : 16384 < k) :
    ladinglaw14_LedgerBalances.j1 (k + 1) n a m (payS ps qs m).2 i w ps qs (payS ps qs m).1.f0 (payS ps qs m).1.f1 (payS ps qs m).1.f2 (payS ps qs m).1.f3 c1 c2 =
      ladinglaw14_LedgerBalances.l0 k n a m (payS ps qs m).2 (wrap64 (i + 1)) ps qs (payS ps qs m).1.f0 (payS ps qs m).1.f1 (payS ps qs m).1.f2 (payS ps qs m).1.f3 := by
  rw [ladinglaw14_LedgerBalances.j1]
  rcases h with ⟨hw, rfl, rfl⟩ | ⟨hw, hn, x, q, hx, X⟩
  · rw [if_neg hw, if_neg (by simp [wrap64])]
  · have D : Good c1 c2 := X.good
    rw [if_pos hw, pay_is c1 c2 n D.b32 D.b24, some_bind, pay_is c1 c2 m D.b32 D.b24, some_bind, check_is, some_bind, if_pos X.gl, if_pos rfl, balanced_is D hk, some_bind, if_pos rfl, pay_code c1 c2 D n, if_pos hn]
    have P := D.pos n
    rw [if_pos rfl]
    have hc : (payS ps qs m).2 = (payS c1 c2 m).2 := by
      rw [pay_code _ _ G, pay_code _ _ D]
      split <;> rfl
    rw [if_pos hc, if_neg (by simp only; omega), if_neg (by simp only; omega)]
    by_cases hm : m = n
    · rw [if_pos hm]
    · rw [if_neg hm]
      have he : payS c1 c2 m = payS ps qs m := by
        rw [pay_code _ _ G, pay_code _ _ D]
        have := X.look m
        rw [hx, if_neg hm] at this
        simp only at this
        rw [this]
      rw [he, if_neg (by simp)]
theorem LedgerBalances_at (ps : List S31) (qs : List S55) (n a m : Int) (h1 : ps.length * 32 ≤ 140737488355328) (h2 : qs.length * 24 ≤ 140737488355328) {k : Nat} (hk : 16384 < k) : ladinglaw14_LedgerBalances.f (k + 9) ps qs n a m = some true := by
  unfold ladinglaw14_LedgerBalances.f
  rw [lives_is, some_bind, if_pos rfl, check_is, some_bind]
  by_cases hg : goodL ps qs = true
  · have G := (good_iff _ _).mp hg
    rw [if_pos hg, if_pos rfl, pay_is ps qs m h1 h2, some_bind]
    have turn : ∀ (k : Nat) (i : Int), 16384 < k → 0 ≤ i → i < 4 → ladinglaw14_LedgerBalances.l0 (k + 2) n a m (payS ps qs m).2 i ps qs (payS ps qs m).1.f0 (payS ps qs m).1.f1 (payS ps qs m).1.f2 (payS ps qs m).1.f3 = ladinglaw14_LedgerBalances.l0 k n a m (payS ps qs m).2 (i + 1) ps qs (payS ps qs m).1.f0 (payS ps qs m).1.f1 (payS ps qs m).1.f2 (payS ps qs m).1.f3 := by
      intro k i hk h0 h4
      have e : wrap64 (i + 1) = i + 1 := w64 (by omega) (by omega)
      rw [← e, show k + 2 = (k + 1) + 1 from rfl, ladinglaw14_LedgerBalances.l0, if_pos h4, auth_is ps qs n a h1 h2, some_bind]
      split
      · rw [void_is ps qs n h1 h2, some_bind]
        exact step_is G n a m i _ (set_ways ps qs n 1 (Or.inl rfl)) hk
      · split
        · rw [capture_is ps qs n h1 h2, some_bind]
          exact step_is G n a m i _ (set_ways ps qs n 3 (Or.inr rfl)) hk
        · split
          · rw [ref_is ps qs n a h1 h2, some_bind]
            exact step_is G n a m i _ (ref_w ps qs n a) hk
          · exact step_is G n a m i _ (auth_w ps qs n a) hk
    have t0 := turn (k + 7) 0 (by omega) (by decide) (by decide)
    have t1 := turn (k + 5) 1 (by omega) (by decide) (by decide)
    have t2 := turn (k + 3) 2 (by omega) (by decide) (by decide)
    have t3 := turn (k + 1) 3 (by omega) (by decide) (by decide)
    refine t0.trans (t1.trans (t2.trans (t3.trans ?_)))
    rw [ladinglaw14_LedgerBalances.l0, if_neg (by decide), balanced_is G hk]
    rfl
  · rw [if_neg hg, if_neg (by decide)]
theorem LedgerBalances : ∀ (a0 : S25) (a1 : Int) (a2 : Int) (a3 : Int), ((a0.f0.length * 32 ≤ 140737488351232 ∧ a0.f0.length ≤ maxLen ∧ ∀ y5 ∈ a0.f0, ((Lit.int .i64 y5.f0).wf = true ∧ (Lit.int .i64 y5.f1).wf = true ∧ (Lit.int .i64 y5.f2).wf = true ∧ (Lit.int .i64 y5.f3).wf = true)) ∧ (a0.f1.length * 24 ≤ 140737488351232 ∧ a0.f1.length ≤ maxLen ∧ ∀ y5 ∈ a0.f1, ((Lit.int .i64 y5.f0).wf = true ∧ (Lit.int .u8 y5.f1).wf = true ∧ (Lit.int .u8 y5.f2).wf = true ∧ (Lit.int .i64 y5.f3).wf = true))) → (Lit.int .i64 a1).wf = true → (Lit.int .i64 a2).wf = true → (Lit.int .i64 a3).wf = true → ∃ k, ladinglaw14_LedgerBalances.f k a0.f0 a0.f1 a1 a2 a3 = some true := by
  intro a0 a1 a2 a3 h _ _ _
  exact ⟨16394, LedgerBalances_at _ _ _ _ _ (k := 16385) (by have := h.1.1; omega) (by have := h.2.1; omega) (by decide)⟩
end Go.Proofs.Ytaddmogfeijjcaa.Pure
