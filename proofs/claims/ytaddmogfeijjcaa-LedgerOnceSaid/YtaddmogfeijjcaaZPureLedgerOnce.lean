/- LedgerOnce: what is open is voided or captured once, as a whole. -/
import Derived.Test.YtaddmogfeijjcaaZAll
import Derived.Test.YtaddmogfeijjcaaZPrint51
set_option linter.unusedVariables false
namespace Go.Proofs.Ytaddmogfeijjcaa.Pure
open Go.RowKit Go.Proofs.Ytaddmogfeijjcaa.Print Go.Proofs.YtaddmogfeijjcaaW.PrintWords Go.Proofs.YtaddmogfeijjcaaW.PrintLast Go.Proofs.YtaddmogfeijjcaaW.PrintMore
theorem once_j0 (k : Nat) (n a x10 x11 x14 x16 x17 x20 : Int) (p1 : List S31) (p2 : List S55) (p3 : List S31) (p4 : List S55) : ladinglaw14_LedgerOnce.j0 (k + 1) n a x10 x11 x14 x16 x17 x20 true p1 p2 p3 p4 = some true := by
  rw [ladinglaw14_LedgerOnce.j0, if_pos rfl]
theorem once_set {ps : List S31} {qs : List S55} {x : S55} {q : S31} {c : List S31 × List S55} (X : Next ps qs x q c) (h0 : q.f1 = 0) (t : Int) : setlV c.1 c.2 x.f0 t = ([], [], 0, 9) := by
  refine set_none t X.good ⟨X.n1, X.n2⟩ ?_
  rw [X.look, if_pos rfl, h0]
theorem LedgerOnce_at (ps : List S31) (qs : List S55) (n a : Int) (h1 : ps.length * 32 ≤ 140737488355328) (h2 : qs.length * 24 ≤ 140737488355328) (k : Nat) : ladinglaw14_LedgerOnce.f (k + 3) ps qs n a = some true := by
  unfold ladinglaw14_LedgerOnce.f
  rw [lives_is, some_bind, if_pos rfl, auth_is ps qs n a h1 h2, some_bind]
  rcases auth_ways ps qs n a with ⟨he, e1, e2⟩ | ⟨he, hn, ha, hon, X⟩
  · rw [if_neg he, e2]
    rfl
  rw [if_pos he]
  have G := X.was
  have P0 := G.pos n
  have B0 := G.bd n
  generalize authV ps qs n a = x at X
  obtain ⟨c1, c2, w⟩ := x
  simp only at X ⊢
  have D : Good c1 c2 := X.good
  have L := X.look n
  rw [if_pos rfl] at L
  simp only at L
  have ho : (lookP n c1).f1 ≠ 0 := by rw [L]; simp only; omega
  rw [capture_is c1 c2 n D.b32 D.b24, some_bind]
  rcases capt_ways D hn ho with ⟨hl, e⟩ | e | ⟨e, Y⟩
  · rw [e]
    simp only
    rw [capture_is [] [] n (by simp) (by simp), some_bind, void_is c1 c2 n D.b32 D.b24, some_bind]
    rcases void_ways D hn ho with ⟨_, e3⟩ | ⟨e3, Z⟩
    · rw [e3]
      simp only
      rw [void_is [] [] n (by simp) (by simp), some_bind, if_pos trivial, once_j0]
    · have := Z.room
      omega
  · rw [e]
    simp only
    rw [capture_is [] [] n (by simp) (by simp), some_bind, void_is c1 c2 n D.b32 D.b24, some_bind]
    rcases void_ways D hn ho with ⟨_, e3⟩ | ⟨e3, Z⟩
    · rw [e3]
      simp only
      rw [void_is [] [] n (by simp) (by simp), some_bind, if_pos trivial, once_j0]
    · generalize setlV c1 c2 n 1 = z at e3 Z
      obtain ⟨z1, z2, z3, z4⟩ := z
      simp only [Prod.mk.injEq] at e3
      obtain ⟨rfl, rfl⟩ := e3
      simp only
      rw [void_is z1 z2 n Z.good.b32 Z.good.b24, some_bind, if_neg (by decide), if_neg (by decide)]
      exact once_j0 _ _ _ _ _ _ _ _ _ _ _ _ _
  · rcases void_ways D hn ho with ⟨hl, _⟩ | ⟨e3, Z⟩
    · exact absurd Y.room hl
    · generalize hy : setlV c1 c2 n 3 = y at e Y
      generalize hz : setlV c1 c2 n 1 = z at e3 Z
      obtain ⟨y1, y2, y3, y4⟩ := y
      obtain ⟨z1, z2, z3, z4⟩ := z
      simp only [Prod.mk.injEq] at e e3
      obtain ⟨rfl, rfl⟩ := e
      obtain ⟨rfl, rfl⟩ := e3
      simp only at Y Z ⊢
      have DY : Good y1 y2 := Y.good
      have DZ : Good z1 z2 := Z.good
      have s1 := once_set Y rfl 3
      have s2 := once_set Z rfl 1
      simp only at s1 s2
      rw [capture_is y1 y2 n DY.b32 DY.b24, some_bind, s1, void_is c1 c2 n D.b32 D.b24, some_bind, hz]
      simp only
      rw [void_is z1 z2 n DZ.b32 DZ.b24, some_bind, s2, if_neg (by decide), if_neg (by decide)]
      have LY := Y.look n
      rw [if_pos rfl, L] at LY
      simp only at LY
      have BY := DY.bd n
      have PY := DY.pos n
      rw [LY] at BY PY
      simp only [Bd] at BY PY
      rw [ladinglaw14_LedgerOnce.j0, if_neg (by decide), if_pos rfl, L, if_pos rfl, if_pos rfl, if_pos rfl, if_pos rfl]
      simp only
      rw [show ((9 : Int) != 9) = false from rfl, ladinglaw14_LedgerOnce.j1, if_neg (by decide), pay_good G hn, some_bind, pay_good DY hn, some_bind, if_pos rfl, if_pos rfl, LY]
      simp only
      rw [show ((lookP n ps).f2 + a != wrap64 ((lookP n ps).f2 + a)) = false by rw [w64 (by omega) (by omega)]; simp, ladinglaw14_LedgerOnce.j2, if_neg (by decide), w64 (by omega) (by omega)]
      have hR : ((lookP n ps).f2 + a - (lookP n ps).f3) ≤ (lookP n y1).f2 - (lookP n y1).f3 := by rw [LY]; simp only; omega
      rw [ref_is y1 y2 n _ DY.b32 DY.b24, some_bind]
      by_cases hl : y2.length < 16384
      · obtain ⟨e5, V⟩ := ref_ok DY hn (a := (lookP n ps).f2 + a - (lookP n ps).f3) (by omega) hR hl
        generalize refV y1 y2 n ((lookP n ps).f2 + a - (lookP n ps).f3) = v at e5 V
        obtain ⟨v1, v2, v3⟩ := v
        simp only at e5 V ⊢
        subst e5
        have DV : Good v1 v2 := V.good
        have LV := V.look n
        rw [if_pos rfl, LY] at LV
        simp only at LV
        rw [ref_is v1 v2 n 1 DV.b32 DV.b24, some_bind, if_neg (by decide), if_pos rfl]
        unfold refV
        rw [if_pos V.gl, if_pos hn, if_pos (by decide), if_pos (by rw [LV]; simp only; omega)]
        rfl
      · rw [ref_yes DY hn (by omega) hR, post_many _ hl]
        simp only
        rw [ref_is [] [] n 1 (by simp) (by simp), some_bind, if_pos trivial]
theorem LedgerOnce : ∀ (a0 : S25) (a1 : Int) (a2 : Int), ((a0.f0.length * 32 ≤ 140737488351232 ∧ a0.f0.length ≤ maxLen ∧ ∀ y5 ∈ a0.f0, ((Lit.int .i64 y5.f0).wf = true ∧ (Lit.int .i64 y5.f1).wf = true ∧ (Lit.int .i64 y5.f2).wf = true ∧ (Lit.int .i64 y5.f3).wf = true)) ∧ (a0.f1.length * 24 ≤ 140737488351232 ∧ a0.f1.length ≤ maxLen ∧ ∀ y5 ∈ a0.f1, ((Lit.int .i64 y5.f0).wf = true ∧ (Lit.int .u8 y5.f1).wf = true ∧ (Lit.int .u8 y5.f2).wf = true ∧ (Lit.int .i64 y5.f3).wf = true))) → (Lit.int .i64 a1).wf = true → (Lit.int .i64 a2).wf = true → ∃ k, ladinglaw14_LedgerOnce.f k a0.f0 a0.f1 a1 a2 = some true := by
  intro a0 a1 a2 h _ _
  exact ⟨3, LedgerOnce_at _ _ _ _ (by have := h.1.1; omega) (by have := h.2.1; omega) 0⟩
end Go.Proofs.Ytaddmogfeijjcaa.Pure
