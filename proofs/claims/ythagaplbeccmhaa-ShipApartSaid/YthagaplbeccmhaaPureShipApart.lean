/- The law ShipApart, for all shipments. -/
import Derived.Test.YthagaplbeccmhaaPrint12
import Derived.Test.YthagaplbeccmhaaShipLink
set_option linter.unusedVariables false
namespace Go.Proofs.Ythagaplbeccmhaa.Pure
open Go.RowKit Go.Proofs.Ythagaplbeccmhaa.Print Go.Proofs.YthagaplbeccmhaaW.PrintWords Go.Proofs.YthagaplbeccmhaaW.PrintLast Go.Proofs.YthagaplbeccmhaaW.PrintMore

theorem ShipApart (l : List S43) (a b m n : Int) (h0 : l.length * 16 ≤ 140737488351232 ∧ l.length ≤ maxLen ∧ ∀ y2 ∈ l, ((Lit.int .i64 y2.f0).wf = true ∧ (Lit.int .u8 y2.f1).wf = true)) (ha : (Lit.int .i64 a).wf = true) (hb : (Lit.int .i64 b).wf = true) (hm : (Lit.int .u8 m).wf = true) (hn : (Lit.int .u8 n).wf = true) : ∃ k, ladinglaw15_ShipApart.f k l a b m n = some true := by
  have range : ∀ {x : Int}, (Lit.int .u8 x).wf = true → 0 ≤ x ∧ x < 256 := fun {x} h => by
    simp [Lit.wf, IntKind.min, IntKind.max, IntKind.bits, IntKind.signed] at h
    omega
  have hl : l.length ≤ 140737488355328 := by have := h0.1; omega
  have hf : ∀ x ∈ l, 0 ≤ x.f1 := fun x hx => (range (h0.2.2 x hx).2).1
  have hm := range hm
  have hn := range hn
  refine ⟨2 * l.length + 40, ?_⟩
  unfold ladinglaw15_ShipApart.f
  rw [lives_is (by omega), Option.bind_some, if_pos rfl]
  by_cases hab : a = b
  · rw [if_pos hab]
  · rw [if_neg hab, move_is l a m 0 hl hf hm.1 (by omega), Option.bind_some, move_is l b n 0 hl hf hn.1 (by omega), Option.bind_some]
    by_cases h1 : (moveS l a m 0).2 = 0
    · rw [if_pos h1]
      by_cases h2 : (moveS l b n 0).2 = 0
      · rw [show ((moveS l b n 0).2 != 0) = false by rw [h2]; rfl]
        obtain ⟨hok, a1, a2, a3, a4, a5, a6⟩ := moveS_ok h1
        obtain ⟨_, b1, b2, b3, b4, b5, b6⟩ := moveS_ok h2
        have hla := look_range a l hf
        have hlb := look_range b l hf
        have sa := nextS_ok _ m hla a4
        have sb := nextS_ok _ n hlb b4
        have ga := nextS_ge _ m hla
        have gb := nextS_ge _ n hlb
        have hlen := okS_len l 0 (by decide) hok
        have pla : (put a (nextS (look a l) m).1 l).length ≤ l.length + 1 := a6 ▸ moveS_len l a m 0
        have plb : (put b (nextS (look b l) n).1 l).length ≤ l.length + 1 := b6 ▸ moveS_len l b n 0
        rw [a6, b6]
        have oka := put_ok a (nextS (look a l) m).1 a2 sa.1 sa.2 l 0 (by omega) hok
        have okb := put_ok b (nextS (look b l) n).1 b2 sb.1 sb.2 l 0 (by omega) hok
        have ea : look b (put a (nextS (look a l) m).1 l) = look b l := put_look_other a b _ (fun h => hab h.symm) l
        have eb : look a (put b (nextS (look b l) n).1 l) = look a l := put_look_other b a _ hab l
        have fa : ∀ x ∈ put a (nextS (look a l) m).1 l, 0 ≤ x.f1 := fun x hx => by
          rcases put_mem _ _ _ _ hx with rfl | h
          · exact ga
          · exact hf x h
        have fb : ∀ x ∈ put b (nextS (look b l) n).1 l, 0 ≤ x.f1 := fun x hx => by
          rcases put_mem _ _ _ _ hx with rfl | h
          · exact gb
          · exact hf x h
        have va : moveS (put a (nextS (look a l) m).1 l) b n 0 = (put b (nextS (look b l) n).1 (put a (nextS (look a l) m).1 l), 0) := by
          have := moveS_yes (v := 0) (m := n) oka b1 b2 (by decide) (by rw [ea]; exact b4) (fun h => absurd h.2 (by decide))
          rwa [ea] at this
        have vb : moveS (put b (nextS (look b l) n).1 l) a m 0 = (put a (nextS (look a l) m).1 (put b (nextS (look b l) n).1 l), 0) := by
          have := moveS_yes (v := 0) (m := m) okb a1 a2 (by decide) (by rw [eb]; exact a4) (fun h => absurd h.2 (by decide))
          rwa [eb] at this
        have hpl : (moveS (put a (nextS (look a l) m).1 l) b n 0).1.length ≤ (put a (nextS (look a l) m).1 l).length + 1 := moveS_len _ _ _ _
        simp only [ladinglaw15_ShipApart.j0, if_neg (show ¬ (false = true) by decide)]
        rw [va] at hpl
        rw [move_is _ b n 0 (by omega) fa hn.1 (by omega), Option.bind_some, move_is _ a m 0 (by omega) fb hm.1 (by omega), Option.bind_some, va, vb, if_pos rfl, if_pos rfl, put_comm a _ b _ hab l,
          same_is _ (by omega) (by omega), Option.bind_some]
      · rw [show ((moveS l b n 0).2 != 0) = true from bne_iff_ne.mpr h2]; simp [ladinglaw15_ShipApart.j0]
    · rw [if_neg h1]; simp [ladinglaw15_ShipApart.j0]
end Go.Proofs.Ythagaplbeccmhaa.Pure
