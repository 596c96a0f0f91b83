/- The law ShipEnds: no state comes back, whatever moves are made. -/
import Derived.Test.YthagaplbeccmhaaPrint14
import Derived.Test.YthagaplbeccmhaaShipLink
set_option linter.unusedVariables false
namespace Go.Proofs.Ythagaplbeccmhaa.Pure
open Go.RowKit Go.Proofs.Ythagaplbeccmhaa.Print Go.Proofs.YthagaplbeccmhaaW.PrintWords Go.Proofs.YthagaplbeccmhaaW.PrintLast Go.Proofs.YthagaplbeccmhaaW.PrintMore

/-- How far a state is. -/
def rank (s : Int) : Nat := [0, 1, 2, 3, 5, 4, 5].getD s.toNat 0
def rankOk (s m : Nat) : Bool := shipNext (m : Int) (s : Int) == 0 || (decide (rank (s : Int) < rank (shipNext (m : Int) (s : Int))) && decide (s ≠ 4) && decide (s ≠ 6) && decide (rank (s : Int) ≤ 4))
theorem rank_fin : ∀ s : Nat, s < 7 → ∀ m : Nat, m < 7 → rankOk s m = true := by decide +kernel
theorem ends_fin : ∀ s : Nat, s < 7 → s ≠ 4 → s ≠ 6 → ship_Ends.f 9 (s : Int) = some false := by decide +kernel
theorem ends_is (s : Int) (h0 : 0 ≤ s) (h7 : s < 7) (h4 : s ≠ 4) (h6 : s ≠ 6) {k : Nat} (hk : 9 ≤ k) : ship_Ends.f k s = some false := by
  refine up (ship_Ends.mono s) (k := 9) ?_ hk
  obtain ⟨s, rfl⟩ := Int.eq_ofNat_of_zero_le h0
  exact ends_fin s (by omega) (by omega) (by omega)
theorem next_rank {s m : Int} (hs : 0 ≤ s) (hs7 : s < 7) (hm : 0 ≤ m) (h : (nextS s m).2 = 0) : rank s < rank (nextS s m).1 ∧ (s ≠ 4 ∧ s ≠ 6) ∧ rank s ≤ 4 := by
  unfold nextS at h ⊢
  rw [if_neg (by omega)] at h ⊢
  by_cases hm7 : 0 < m ∧ m < 7
  · rw [if_pos hm7] at h ⊢
    by_cases hz : shipNext m s = 0
    · rw [if_pos hz] at h; cases h
    · rw [if_neg hz]
      obtain ⟨s, rfl⟩ := Int.eq_ofNat_of_zero_le hs
      obtain ⟨m, rfl⟩ := Int.eq_ofNat_of_zero_le hm
      have := rank_fin s (by omega) m (by omega)
      unfold rankOk at this
      rw [beq_eq_false_iff_ne.mpr hz, Bool.false_or] at this
      simp only [Bool.and_eq_true, decide_eq_true_eq] at this
      exact ⟨this.1.1.1, ⟨by omega, by omega⟩, this.2⟩
  · rw [if_neg hm7] at h; cases h
/-- What was seen, up to the state of now. -/
structure Seen (seen : List Int) (cur : Int) : Prop where
  len : seen.length ≤ rank cur + 1
  all : ∀ x ∈ seen, 0 ≤ x ∧ x < 7 ∧ rank x ≤ rank cur ∧ (x = cur ∨ (x ≠ 4 ∧ x ≠ 6))
theorem ends_l1 (x1 : List Int) (x2 x3 : Int) (x9 : List S43) (seen : List Int) (s : Int) (x39 : List Int) (n i0 : Int) (hl : seen.length ≤ 5) (hne : ∀ x ∈ seen, 0 ≤ x ∧ x < 7 ∧ x ≠ s ∧ x ≠ 4 ∧ x ≠ 6) : ∀ (d k i : Nat), i + d = seen.length → d + 10 < k →
    ladinglaw15_ShipEnds.l1 k x1 x2 x3 x9 seen s x39 n i0 seen (seen.length : Int) (i : Int) = ladinglaw15_ShipEnds.l0 (k - d - 1) x1 x2 x3 x9 (seen ++ [s]) x39 n (wrap64 (i0 + 1))
  | 0, k, i, h, hk => by
    obtain ⟨k, rfl⟩ : ∃ q, k = q + 1 := ⟨k - 1, by omega⟩
    simp only [ladinglaw15_ShipEnds.l1]
    rw [if_neg (by omega), if_pos (by omega)]; rfl
  | d + 1, k, i, h, hk => by
    obtain ⟨k, rfl⟩ : ∃ q, k = q + 1 := ⟨k - 1, by omega⟩
    have hi : i < seen.length := by omega
    have e : rd seen (i : Int) = seen[i] := by
      unfold rd; rw [Int.toNat_natCast, List.getD_eq_getElem?_getD, List.getElem?_eq_getElem hi]; rfl
    obtain ⟨h0, h7, hs, h4, h6⟩ := hne seen[i] (List.getElem_mem _)
    simp only [ladinglaw15_ShipEnds.l1]
    rw [if_pos (by omega), if_pos (by omega), if_pos (by omega), e, if_neg hs, ends_is _ h0 h7 h4 h6 (by omega), Option.bind_some, if_neg (by decide), w64n i (by omega), ends_l1 x1 x2 x3 x9 seen s x39 n i0 hl hne d k (i + 1) (by omega) (by omega)]
    congr 1
    omega
theorem ends_l0 (x1 : List Int) (a b : Int) (l0 : List Int) (hx1 : ∀ x ∈ x1, 0 ≤ x) (hl0 : ∀ x ∈ l0, 0 ≤ x) (hlen : l0.length ≤ 140737488355328) : ∀ (d k i : Nat) (l : List S43) (seen : List Int), i + d = l0.length → 20 * d + 1100 < k →
    okS 0 l = true → (∀ x ∈ l, 0 ≤ x.f1) → Seen seen (look a l) → (1 ≤ b → b ≤ 1024 → b ≠ a → look b l = 3) →
    ladinglaw15_ShipEnds.l0 k x1 a b l seen l0 (l0.length : Int) (i : Int) = some true
  | 0, k, i, l, seen, h, hk, hok, hf, hs, hb => by
    obtain ⟨k, rfl⟩ : ∃ q, k = q + 1 := ⟨k - 1, by omega⟩
    have hll := okS_len l 0 (by decide) hok
    simp only [ladinglaw15_ShipEnds.l0]
    rw [if_neg (by omega)]
    by_cases h1 : (l.length : Int) = 0
    · rw [if_pos h1]
    · rw [if_neg h1]
      by_cases h2 : b = a
      · rw [if_pos h2]
      · rw [if_neg h2]
        by_cases h3 : b < 1
        · rw [if_pos h3]
        · rw [if_neg h3]
          by_cases h4 : b > 1024
          · rw [if_pos h4]
          · have e : ofS l b = (3, 0) := by
              unfold ofS; rw [if_pos ⟨hok, by omega, by omega⟩, hb (by omega) (by omega) h2]
            rw [if_neg h4, of_is l b (by omega) (by omega), Option.bind_some, e, if_pos rfl]; rfl
  | d + 1, k, i, l, seen, h, hk, hok, hf, hs, hb => by
    obtain ⟨k, rfl⟩ : ∃ q, k = q + 4 := ⟨k - 4, by omega⟩
    have hll := okS_len l 0 (by decide) hok
    have hi : i < l0.length := by omega
    have e0 : rd l0 (i : Int) = l0[i] := by
      unfold rd; rw [Int.toNat_natCast, List.getD_eq_getElem?_getD, List.getElem?_eq_getElem hi]; rfl
    have hm := hl0 l0[i] (List.getElem_mem _)
    have main : ∀ v : Int, ladinglaw15_ShipEnds.j3 (k + 3) x1 a b l seen (rd l0 (i : Int)) v l0 (l0.length : Int) (i : Int) = some true := by
      intro v
      have hml := moveS_len l a l0[i] v
      simp only [ladinglaw15_ShipEnds.j3]
      rw [e0, move_is l a l0[i] v (by omega) hf hm (by omega), Option.bind_some]
      by_cases h1 : (moveS l a l0[i] v).2 = 0
      · obtain ⟨_, a1, a2, a3, a4, a5, a6⟩ := moveS_ok h1
        have hla := look_range a l hf
        have hl7 := look_lt a l 0 hok
        have sa := nextS_ok _ l0[i] hla a4
        have ga := nextS_ge _ l0[i] hla
        have hr := next_rank hla hl7 hm a4
        rw [if_pos h1, a6]
        rw [a6] at hml
        have hput := put_ok a (nextS (look a l) l0[i]).1 a2 sa.1 sa.2 l 0 (by omega) hok
        have e : ofS (put a (nextS (look a l) l0[i]).1 l) a = ((nextS (look a l) l0[i]).1, 0) := by
          unfold ofS; rw [if_pos ⟨hput, a1, a2⟩, put_look]
        have hs5 : seen.length ≤ 5 := by have := hs.len; omega
        rw [of_is _ a (by omega) (by omega), Option.bind_some, e, if_pos rfl, check_is _ (by omega) (by omega), Option.bind_some, if_pos hput, if_pos rfl, decide_eq_false (by omega)]
        simp only [ladinglaw15_ShipEnds.j4]
        rw [if_neg (by decide)]
        have hl1 := ends_l1 x1 a b (put a (nextS (look a l) l0[i]).1 l) seen (nextS (look a l) l0[i]).1 l0 (l0.length : Int) (i : Int) hs5 (fun x hx => by
          obtain ⟨p0, p7, pr, pc⟩ := hs.all x hx
          refine ⟨p0, p7, ?_, ?_⟩
          · rintro rfl; omega
          · rcases pc with rfl | pc
            · exact hr.2.1
            · exact pc) seen.length (k + 1) 0 (by omega) (by omega)
        rw [show ((0 : Nat) : Int) = 0 from rfl] at hl1
        rw [hl1, w64n i (by omega)]
        refine ends_l0 x1 a b l0 hx1 hl0 hlen d _ (i + 1) _ _ (by omega) (by omega) hput ?_ ?_ ?_
        · intro x hx
          rcases put_mem _ _ _ _ hx with rfl | h
          · exact ga
          · exact hf x h
        · rw [put_look]
          refine ⟨by rw [List.length_append, List.length_singleton]; have := hs.len; omega, fun x hx => ?_⟩
          rcases List.mem_append.1 hx with hx | hx
          · obtain ⟨p0, p7, pr, pc⟩ := hs.all x hx
            refine ⟨p0, p7, by omega, .inr ?_⟩
            rcases pc with rfl | pc
            · exact hr.2.1
            · exact pc
          · obtain rfl := List.mem_singleton.1 hx
            exact ⟨ga, sa.2, Nat.le_refl _, .inl rfl⟩
        · intro b1 b2 b3
          rw [put_look_other a b _ b3]; exact hb b1 b2 b3
      · have hne : (moveS l a l0[i] v).1 = [] := by
          unfold moveS at h1 ⊢
          split
          · rfl
          · split
            · rfl
            · split
              · rfl
              · split
                · rfl
                · rename_i q1 q2 q3 q4
                  rw [if_neg q1, if_neg q2, if_neg q3, if_neg q4] at h1
                  exact absurd rfl h1
        rw [if_neg h1, hne, if_neg (by decide), w64n i (by omega)]
        exact ends_l0 x1 a b l0 hx1 hl0 hlen d _ (i + 1) l seen (by omega) (by omega) hok hf hs hb
    simp only [ladinglaw15_ShipEnds.l0]
    rw [if_pos (by omega), if_pos (by omega), if_pos (by omega)]
    split
    · exact main _
    · exact main _
theorem ShipEnds : ladinglaw15_ShipEnds.Pure := by
  intro l0 l1 a b hl0 _ hw0 hl1 _ hw1 ha hb
  have range : ∀ {x : Int}, (Lit.int .u8 x).wf = true → 0 ≤ x := fun {x} h => by
    simp [Lit.wf, IntKind.min, IntKind.max, IntKind.bits, IntKind.signed] at h
    omega
  refine ⟨20 * l0.length + 1200, ?_⟩
  simp only [maxLen] at hl0
  have start : ∀ (l : List S43), okS 0 l = true → (∀ x ∈ l, 0 ≤ x.f1) → look a l = 0 → (1 ≤ b → b ≤ 1024 → b ≠ a → look b l = 3) → ladinglaw15_ShipEnds.j1 (20 * l0.length + 1198) l0 l1 a b l = some true := fun l hok hf hz hb => by
    simp only [ladinglaw15_ShipEnds.j1]
    exact ends_l0 l1 a b l0 (fun x hx => range (hw1 x hx)) (fun x hx => range (hw0 x hx)) (by omega) l0.length _ 0 l [0] (by omega) (by omega) hok hf (by rw [hz]; exact ⟨by decide, fun x hx => by obtain rfl := List.mem_singleton.1 hx; exact ⟨by decide, by decide, Nat.le_refl _, .inl rfl⟩⟩) hb
  unfold ladinglaw15_ShipEnds.f
  rw [lives_is (by omega), Option.bind_some, if_pos rfl]
  have none_ : ∀ (h : ¬ (1 ≤ b ∧ b ≤ 1024 ∧ b ≠ a)), ladinglaw15_ShipEnds.j0 (20 * l0.length + 1200) l0 l1 a b [] false = some true := fun h => by
    simp only [ladinglaw15_ShipEnds.j0, if_neg (show ¬ (false = true) by decide)]
    exact up (fun k => (ladinglaw15_ShipEnds.mono_l k).2.1 _ _ _ _ _) (start [] rfl (fun x hx => by cases hx) rfl (fun h1 h2 h3 => absurd ⟨h1, h2, h3⟩ h)) (by omega)
  by_cases h1 : b ≥ 1
  · rw [if_pos h1]
    by_cases h2 : b ≤ 1024
    · rw [if_pos h2]
      by_cases h3 : b = a
      · rw [show (b != a) = false by rw [h3]; simp]; exact none_ (fun h => h.2.2 h3)
      · rw [show (b != a) = true from bne_iff_ne.mpr h3]
        simp only [ladinglaw15_ShipEnds.j0, if_true]
        refine up (fun k => (ladinglaw15_ShipEnds.mono_l k).2.1 _ _ _ _ _) (start [⟨b, 3⟩] ?_ ?_ ?_ ?_) (by omega)
        · simp [okS]; omega
        · intro x hx; obtain rfl := List.mem_singleton.1 hx; show (0 : Int) ≤ 3; decide
        · show (if b = a then (3 : Int) else 0) = 0; rw [if_neg h3]
        · intro _ _ _; show (if b = b then (3 : Int) else 0) = 3; rw [if_pos rfl]
    · rw [if_neg h2]; exact none_ (fun h => h2 h.2.1)
  · rw [if_neg h1]; exact none_ (fun h => h1 h.1)
end Go.Proofs.Ythagaplbeccmhaa.Pure
