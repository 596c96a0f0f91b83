/- LedgerApart: what is done for two orders goes in either order. -/
import Derived.Test.YtaddmogfeijjcaaZAll
import Derived.Test.YtaddmogfeijjcaaZPrint31
set_option linter.unusedVariables false
namespace Go.Proofs.Ytaddmogfeijjcaa.Pure
open Go.RowKit Go.Proofs.Ytaddmogfeijjcaa.Print Go.Proofs.YtaddmogfeijjcaaW.PrintWords Go.Proofs.YtaddmogfeijjcaaW.PrintLast Go.Proofs.YtaddmogfeijjcaaW.PrintMore
theorem same0 (ps : List S31) (hl : ps.length ≤ 1024) {k : Nat} (hk : 1030 < k) : ladingref14_Same.f k ps ([] : List S55) ps ([] : List S55) = some true := by
  unfold ladingref14_Same.f
  rw [if_pos rfl]
  have hl1 : ∀ k, ladingref14_Same.l1 (k + 1) ((([] : List S55).length : Nat) : Int) 0 ps [] ps [] = some true := fun k => by
    rw [ladingref14_Same.l1, if_neg (by simp)]
  have hl0 : ∀ (d k i : Nat), i + d = ps.length → d + 1 < k → ladingref14_Same.l0 k (ps.length : Int) (i : Int) ps [] ps [] = some true := by
    intro d
    induction d with
    | zero =>
      intro k i hd hk
      obtain ⟨k, rfl⟩ : ∃ j, k = j + 2 := ⟨k - 2, by omega⟩
      rw [ladingref14_Same.l0, if_neg (by omega)]
      exact hl1 k
    | succ d IH =>
      intro k i hd hk
      obtain ⟨k, rfl⟩ : ∃ j, k = j + 1 := ⟨k - 1, by omega⟩
      rw [ladingref14_Same.l0, if_pos (by omega), if_pos (by omega), if_pos (by omega), if_pos (by omega), if_neg (by simp), w64n i (by omega)]
      exact IH k (i + 1) (by omega) (by omega)
  obtain ⟨k, rfl⟩ : ∃ j, k = j + 1 := ⟨k - 1, by omega⟩
  rw [ladingref14_Same.j0, if_neg (by simp)]
  exact hl0 ps.length k 0 (by omega) (by omega)
theorem auth_ok {ps : List S31} {qs : List S55} {n a : Int} (G : Good ps qs) (hn : 1 ≤ n ∧ n ≤ 1024) (ha : 1 ≤ a ∧ a ≤ 1152921504606846976) (ho : (lookP n ps).f1 = 0) (hl : qs.length < 16384) :
    (authV ps qs n a).2.2 = 0 ∧ Next ps qs ⟨n, 1, 2, a⟩ ⟨n, a, (lookP n ps).f2, (lookP n ps).f3⟩ ((authV ps qs n a).1, (authV ps qs n a).2.1) := by
  rw [auth_yes G hn ha ho]
  have B := G.bd n
  have hq := add_auth B hn ha
  rw [lookP_f0, ho, Int.zero_add] at hq
  exact post_next G (okx 1 2 hn ha (by decide)) hl hq ⟨by simp only; omega, by simp only; omega⟩ (G.pos n).2 B.2.1.2
theorem LedgerApart_at (ps : List S31) (qs : List S55) (n m a b : Int) (h1 : ps.length * 32 ≤ 140737488355328) (h2 : qs.length * 24 ≤ 140737488355328) {k : Nat} (hk : 1030 < k) : ladinglaw14_LedgerApart.f (k + 1) ps qs n m a b = some true := by
  unfold ladinglaw14_LedgerApart.f
  rw [lives_is, some_bind, if_pos rfl]
  by_cases hnm : n = m
  · rw [if_pos hnm]
  rw [if_neg hnm, auth_is ps qs n a h1 h2, some_bind, auth_is ps qs m b h1 h2, some_bind]
  have hno : ∀ p1 p2 p3 p4, ladinglaw14_LedgerApart.j0 (k + 1) n m a b true p1 p2 p3 p4 = some true := fun p1 p2 p3 p4 => by
    rw [ladinglaw14_LedgerApart.j0, if_pos rfl]
  rcases auth_ways ps qs n a with ⟨he, _, _⟩ | ⟨he, hn, ha, hon, X⟩
  · rw [if_neg he]
    exact hno _ _ _ _
  rw [if_pos he]
  rcases auth_ways ps qs m b with ⟨he2, _, _⟩ | ⟨he2, hm, hb, hom, Y⟩
  · rw [show ((authV ps qs m b).2.2 != 0) = true by simp [he2]]
    exact hno _ _ _ _
  rw [show ((authV ps qs m b).2.2 != 0) = false by simp [he2], ladinglaw14_LedgerApart.j0, if_neg (by simp)]
  have G := X.was
  generalize authV ps qs n a = x at X
  generalize authV ps qs m b = y at Y
  rw [auth_is x.1 x.2.1 m b X.good.b32 X.good.b24, some_bind, auth_is y.1 y.2.1 n a Y.good.b32 Y.good.b24, some_bind]
  have LX := X.look m
  have LY := Y.look n
  rw [if_neg (fun h => hnm h.symm)] at LX
  rw [if_neg hnm] at LY
  have l1 := X.len
  have l2 := Y.len
  simp only at LX LY l1 l2
  by_cases hl : x.2.1.length < 16384
  · obtain ⟨e1, Z⟩ := auth_ok X.good hm hb (by rw [LX]; exact hom) hl
    obtain ⟨e2, V⟩ := auth_ok Y.good hn ha (by rw [LY]; exact hon) (by simp only; omega)
    generalize authV x.1 x.2.1 m b = z at Z e1
    generalize authV y.1 y.2.1 n a = v at V e2
    rw [if_neg (by rw [e1]; decide), if_pos e1, if_pos e2]
    have hE : z.1 = v.1 := by
      refine pays_ext z.1 v.1 0 Z.good.srt V.good.srt Z.good.nz V.good.nz (fun j => ?_)
      have := Z.look j
      have := V.look j
      have := X.look j
      have := Y.look j
      simp only at *
      simp only [*]
      by_cases h3 : j = n
      · simp [h3, hnm]
      · by_cases h4 : j = m
        · have h5 : ¬ m = n := fun h => hnm h.symm
          simp [h4, h5]
        · simp [h3, h4]
    rw [hE, same0 v.1 V.good.plen hk]
    rfl
  · rw [auth_yes X.good hm hb (by rw [LX]; exact hom), post_many _ hl, if_pos rfl, auth_yes Y.good hn ha (by rw [LY]; exact hon), post_many _ (by simp only; omega)]
    rfl
theorem LedgerApart : ∀ (a0 : S25) (a1 : Int) (a2 : Int) (a3 : Int) (a4 : Int), ((a0.f0.length * 32 ≤ 140737488351232 ∧ a0.f0.length ≤ maxLen ∧ ∀ y5 ∈ a0.f0, ((Lit.int .i64 y5.f0).wf = true ∧ (Lit.int .i64 y5.f1).wf = true ∧ (Lit.int .i64 y5.f2).wf = true ∧ (Lit.int .i64 y5.f3).wf = true)) ∧ (a0.f1.length * 24 ≤ 140737488351232 ∧ a0.f1.length ≤ maxLen ∧ ∀ y5 ∈ a0.f1, ((Lit.int .i64 y5.f0).wf = true ∧ (Lit.int .u8 y5.f1).wf = true ∧ (Lit.int .u8 y5.f2).wf = true ∧ (Lit.int .i64 y5.f3).wf = true))) → (Lit.int .i64 a1).wf = true → (Lit.int .i64 a2).wf = true → (Lit.int .i64 a3).wf = true → (Lit.int .i64 a4).wf = true → ∃ k, ladinglaw14_LedgerApart.f k a0.f0 a0.f1 a1 a2 a3 a4 = some true := by
  intro a0 a1 a2 a3 a4 h _ _ _ _
  exact ⟨1032, LedgerApart_at _ _ _ _ _ _ (by have := h.1.1; omega) (by have := h.2.1; omega) (by decide)⟩
end Go.Proofs.Ytaddmogfeijjcaa.Pure
