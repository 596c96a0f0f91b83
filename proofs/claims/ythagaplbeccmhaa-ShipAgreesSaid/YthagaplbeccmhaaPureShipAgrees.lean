/- The law ShipAgrees, for all shipments. -/
import Derived.Test.YthagaplbeccmhaaPrint11
import Derived.Test.YthagaplbeccmhaaShipLink
set_option linter.unusedVariables false
namespace Go.Proofs.Ythagaplbeccmhaa.Pure
open Go.RowKit Go.Proofs.Ythagaplbeccmhaa.Print Go.Proofs.YthagaplbeccmhaaW.PrintWords Go.Proofs.YthagaplbeccmhaaW.PrintLast Go.Proofs.YthagaplbeccmhaaW.PrintMore

theorem ShipAgrees (l : List S43) (a m v : Int) (h0 : l.length * 16 ≤ 140737488351232 ∧ l.length ≤ maxLen ∧ ∀ y2 ∈ l, ((Lit.int .i64 y2.f0).wf = true ∧ (Lit.int .u8 y2.f1).wf = true)) (ha : (Lit.int .i64 a).wf = true) (hm : (Lit.int .u8 m).wf = true) (hv : (Lit.int .u8 v).wf = true) : ∃ k, ladinglaw15_ShipAgrees.f k l a m v = some true := by
  have range : ∀ {x : Int}, (Lit.int .u8 x).wf = true → 0 ≤ x ∧ x < 256 := fun {x} h => by
    simp [Lit.wf, IntKind.min, IntKind.max, IntKind.bits, IntKind.signed] at h
    omega
  have hl : l.length ≤ 140737488355328 := by have := h0.1; omega
  have hf : ∀ x ∈ l, 0 ≤ x.f1 := fun x hx => (range (h0.2.2 x hx).2).1
  have hm := range hm
  refine ⟨2 * l.length + 40, ?_⟩
  unfold ladinglaw15_ShipAgrees.f
  have hr := ofS_range a hf
  rw [lives_is (by omega), Option.bind_some, if_pos rfl, of_is l a hl (by omega), Option.bind_some, move_is l a m v hl hf hm.1 (by omega), Option.bind_some]
  by_cases h1 : (ofS l a).2 = 0
  · obtain ⟨hok, ha0, ha1, hlk⟩ := ofS_ok h1
    have hlen := okS_len l 0 (by decide) hok
    rw [if_pos h1, next_is _ m hr hm.1, Option.bind_some]
    by_cases h2 : v ≥ 2
    · rw [if_pos h2]; unfold moveS; rw [if_neg (fun h => h h1), if_pos h2]; rfl
    · rw [if_neg h2]
      by_cases h3 : (nextS (ofS l a).1 m).2 = 0
      · rw [if_pos h3, asks_is m (by omega), Option.bind_some]
        have hno : ∀ (h : ¬ (asksS m = true ∧ v = 1)), ladinglaw15_ShipAgrees.j0 (2 * l.length + 40) l a (moveS l a m v).1 (moveS l a m v).2 (nextS (ofS l a).1 m).1 false = some true := fun h => by
          rw [hlk] at h3 ⊢
          have hnx := nextS_ok (look a l) m (by rw [← hlk]; exact hr) h3
          rw [moveS_yes hok ha0 ha1 h2 h3 h]
          have hput := put_ok a (nextS (look a l) m).1 ha1 hnx.1 hnx.2 l 0 (by omega) hok
          have hpl := okS_len _ 0 (by decide) hput
          have hpl2 := put_len a (nextS (look a l) m).1 l
          have e : ofS (put a (nextS (look a l) m).1 l) a = ((nextS (look a l) m).1, 0) := by
            unfold ofS; rw [if_pos ⟨hput, ha0, ha1⟩, put_look]
          have hpl3 : (put a (nextS (look a l) m).1 l).length ≤ l.length + 1 := by
            have := moveS_len l a m v
            rwa [moveS_yes hok ha0 ha1 h2 h3 h] at this
          simp only [ladinglaw15_ShipAgrees.j0, if_neg (show ¬ (false = true) by decide)]
          rw [of_is _ a (by omega) (by omega), Option.bind_some, e, if_pos rfl, if_pos rfl, if_pos trivial, check_is _ (by omega) (by omega), Option.bind_some, if_pos hput, if_pos rfl, decide_eq_true (by omega)]
        by_cases h4 : asksS m = true
        · rw [if_pos h4]
          by_cases h5 : v = 1
          · rw [beq_iff_eq.mpr h5]
            have e : moveS l a m v = ([], 10) := by
              unfold moveS; rw [if_neg (fun h => h h1), if_neg h2, if_neg (fun h => h h3), if_pos ⟨h4, h5⟩]
            rw [e]; simp [ladinglaw15_ShipAgrees.j0]
          · rw [beq_eq_false_iff_ne.mpr h5]; exact hno (fun h => h5 h.2)
        · rw [if_neg h4]; exact hno (fun h => h4 h.1)
      · rw [if_neg h3]
        have e : moveS l a m v = ([], (nextS (ofS l a).1 m).2) := by
          unfold moveS; rw [if_neg (fun h => h h1), if_neg h2, if_pos h3]
        rw [e]; simp
  · rw [if_neg h1]
    have e : moveS l a m v = ([], (ofS l a).2) := by unfold moveS; rw [if_pos h1]
    rw [e, if_pos rfl]; rfl
end Go.Proofs.Ythagaplbeccmhaa.Pure
