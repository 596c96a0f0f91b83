/- Plain: what shipments' checks, questions and moves say. -/
import Derived.Test.YthagaplbeccmhaaPrint13
set_option linter.unusedVariables false
namespace Go.Proofs.Ythagaplbeccmhaa.Pure
open Go.RowKit Go.Proofs.Ythagaplbeccmhaa.Print Go.Proofs.YthagaplbeccmhaaW.PrintWords Go.Proofs.YthagaplbeccmhaaW.PrintLast Go.Proofs.YthagaplbeccmhaaW.PrintMore

theorem up {α : Type} {f : Nat → Option α} (hm : ∀ k, LeO (f k) (f (k + 1))) {k n : Nat} {r : α} (h : f k = some r) (hk : k ≤ n) : f n = some r := by
  obtain ⟨d, rfl⟩ : ∃ d, n = k + d := ⟨n - k, by omega⟩
  induction d with
  | zero => exact h
  | succ d ih => exact hm (k + d) r (ih (by omega))
theorem lives_is {k : Nat} (hk : 30 ≤ k) : ladinglaw15_lives.f k = some true :=
  up ladinglaw15_lives.mono (k := 30) (by decide +kernel) hk
theorem w64 {x : Int} (h0 : -9223372036854775808 ≤ x) (h1 : x ≤ 9223372036854775807) : wrap64 x = x := by unfold wrap64; omega
theorem w64n (i : Nat) (h : i < 9223372036854775807) : wrap64 ((i : Int) + 1) = ((i + 1 : Nat) : Int) := by rw [w64 (by omega) (by omega)]; rfl
theorem rd_at (l : List S43) (i : Nat) (h : i < l.length) : rd_T43 l (i : Int) = l[i] := by
  unfold rd_T43
  rw [Int.toNat_natCast, List.getD_eq_getElem?_getD, List.getElem?_eq_getElem h]; rfl
theorem drop_at (l : List S43) (i : Nat) (h : i < l.length) : l.drop i = l[i] :: l.drop (i + 1) := List.drop_eq_getElem_cons h
/-- Shipments in order behind one. -/
def okS : Int → List S43 → Bool
  | _, [] => true
  | last, x :: r => decide (last < x.f0) && decide (x.f0 ≤ 1024) && decide (x.f1 ≠ 0) && decide (x.f1 < 7) && okS x.f0 r
theorem check_l0 (l : List S43) (hl : l.length ≤ 140737488355328) : ∀ (d k : Nat) (last : Int) (i : Nat), i + d = l.length → d < k → ship_Check.l0 k last l (l.length : Int) (i : Int) = some (if okS last (l.drop i) then 0 else 2)
  | 0, k, last, i, h, hk => by
    obtain ⟨k, rfl⟩ : ∃ q, k = q + 1 := ⟨k - 1, by omega⟩
    simp only [ship_Check.l0]
    rw [if_neg (by omega), List.drop_of_length_le (by omega)]; rfl
  | d + 1, k, last, i, h, hk => by
    obtain ⟨k, rfl⟩ : ∃ q, k = q + 1 := ⟨k - 1, by omega⟩
    have hi : i < l.length := by omega
    simp only [ship_Check.l0]
    rw [if_pos (by omega), if_pos (by omega), if_pos (by omega), rd_at l i hi, w64n i (by omega), check_l0 l hl d k _ (i + 1) (by omega) (by omega), drop_at l i hi, okS]
    by_cases h1 : l[i].f0 ≤ last
    · rw [if_pos h1, decide_eq_false (by omega)]; rfl
    · rw [if_neg h1, decide_eq_true (show last < l[i].f0 by omega)]
      by_cases h2 : l[i].f0 > 1024
      · rw [if_pos h2, decide_eq_false (show ¬ l[i].f0 ≤ 1024 by omega)]; rfl
      · rw [if_neg h2, decide_eq_true (show l[i].f0 ≤ 1024 by omega)]
        by_cases h3 : l[i].f1 = 0
        · rw [if_pos h3, decide_eq_false (show ¬ l[i].f1 ≠ 0 by omega)]; rfl
        · rw [if_neg h3, decide_eq_true (show l[i].f1 ≠ 0 from h3)]
          by_cases h4 : l[i].f1 ≥ 7
          · rw [if_pos h4, decide_eq_false (show ¬ l[i].f1 < 7 by omega)]; rfl
          · rw [if_neg h4, decide_eq_true (show l[i].f1 < 7 by omega)]; rfl
theorem check_is (l : List S43) (hl : l.length ≤ 140737488355328) {k : Nat} (hk : l.length < k) : ship_Check.f k l = some (if okS 0 l then 0 else 2) := by
  have := check_l0 l hl l.length k 0 0 (by omega) hk
  rwa [List.drop_zero] at this
/-- What is in order is above where it begins, and there is no more of it than there are numbers. -/
theorem okS_all : ∀ (l : List S43) (last : Int), okS last l = true → ∀ x ∈ l, last < x.f0 ∧ x.f0 ≤ 1024 ∧ x.f1 ≠ 0 ∧ x.f1 < 7
  | [], _, _, x, hx => by cases hx
  | y :: r, last, h, x, hx => by
    simp only [okS, Bool.and_eq_true, decide_eq_true_eq] at h
    obtain ⟨⟨⟨⟨h1, h2⟩, h3⟩, h4⟩, h5⟩ := h
    rcases List.mem_cons.1 hx with rfl | hx
    · exact ⟨h1, h2, h3, h4⟩
    · have := okS_all r y.f0 h5 x hx
      exact ⟨by omega, this.2⟩
theorem okS_len : ∀ (l : List S43) (last : Int), last ≤ 1024 → okS last l = true → (l.length : Int) ≤ 1024 - last
  | [], last, h, _ => by simp; omega
  | y :: r, last, h, hok => by
    simp only [okS, Bool.and_eq_true, decide_eq_true_eq] at hok
    obtain ⟨⟨⟨⟨h1, h2⟩, h3⟩, h4⟩, h5⟩ := hok
    have := okS_len r y.f0 h2 h5
    rw [List.length_cons]; omega
theorem rcheck_l0 (l : List S43) (hl : l.length ≤ 140737488355328) (hf : ∀ x ∈ l, 0 ≤ x.f1) : ∀ (d k : Nat) (last : Int) (i : Nat), i + d = l.length → d < k → 0 ≤ last → (i = 0 → last = 0) → (∀ h : 0 < i ∧ i ≤ l.length, last = (l[i - 1]'(by omega)).f0) →
    ladingref15_Check.l0 k l l (l.length : Int) (i : Int) = some (if okS last (l.drop i) then 0 else 2)
  | 0, k, last, i, h, hk, _, _, _ => by
    obtain ⟨k, rfl⟩ : ∃ q, k = q + 1 := ⟨k - 1, by omega⟩
    simp only [ladingref15_Check.l0]
    rw [if_neg (by omega), List.drop_of_length_le (by omega)]; rfl
  | d + 1, k, last, i, h, hk, h0, hz, hp => by
    obtain ⟨k, rfl⟩ : ∃ q, k = q + 1 := ⟨k - 1, by omega⟩
    have hi : i < l.length := by omega
    have hf1 := hf l[i] (List.getElem_mem _)
    have hnext : 0 ≤ l[i].f0 → ladingref15_Check.l0 k l l (l.length : Int) ((i + 1 : Nat) : Int) = some (if okS l[i].f0 (l.drop (i + 1)) then 0 else 2) := fun hge =>
      rcheck_l0 l hl hf d k l[i].f0 (i + 1) (by omega) (by omega) hge (by omega) (fun _ => rfl)
    simp only [ladingref15_Check.l0]
    rw [if_pos (by omega), if_pos (by omega), if_pos (by omega), rd_at l i hi, w64n i (by omega), drop_at l i hi, okS]
    by_cases h1 : l[i].f0 < 1
    · rw [if_pos h1, decide_eq_false (show ¬ last < l[i].f0 by omega)]; rfl
    · rw [if_neg h1]
      by_cases h2 : l[i].f0 > 1024
      · rw [if_pos h2, decide_eq_false (show ¬ l[i].f0 ≤ 1024 by omega), Bool.and_false]; rfl
      · rw [if_neg h2, decide_eq_true (show l[i].f0 ≤ 1024 by omega), Bool.and_true]
        by_cases h3 : l[i].f1 < 1
        · rw [if_pos h3, decide_eq_false (show ¬ l[i].f1 ≠ 0 by omega), Bool.and_false]; rfl
        · rw [if_neg h3, decide_eq_true (show l[i].f1 ≠ 0 by omega), Bool.and_true]
          by_cases h4 : l[i].f1 ≥ 7
          · rw [if_pos h4, decide_eq_false (show ¬ l[i].f1 < 7 by omega), Bool.and_false]; rfl
          · rw [if_neg h4, decide_eq_true (show l[i].f1 < 7 by omega), Bool.and_true]
            rcases Nat.eq_zero_or_pos i with hi0 | hi0
            · subst hi0
              rw [if_neg (by decide), hnext (by omega), hz rfl, decide_eq_true (show (0 : Int) < l[0].f0 by omega), Bool.true_and]
            · have hp' := hp ⟨hi0, by omega⟩
              rw [if_pos (by omega), show (i : Int) - 1 = ((i - 1 : Nat) : Int) by omega, w64 (by omega) (by omega), if_pos (by omega), if_pos (by omega), rd_at l (i - 1) (by omega), ← hp']
              by_cases h5 : last ≥ l[i].f0
              · rw [if_pos h5, decide_eq_false (by omega)]; rfl
              · rw [if_neg h5, hnext (by omega), decide_eq_true (by omega), Bool.true_and]
theorem rcheck_is (l : List S43) (hl : l.length ≤ 140737488355328) (hf : ∀ x ∈ l, 0 ≤ x.f1) {k : Nat} (hk : l.length < k) : ladingref15_Check.f k l = some (if okS 0 l then 0 else 2) := by
  unfold ladingref15_Check.f
  by_cases h : (l.length : Int) > 1024
  · rw [if_pos h]
    by_cases ho : okS 0 l = true
    · have := okS_len l 0 (by decide) ho; omega
    · rw [if_neg ho]
  · rw [if_neg h]
    have := rcheck_l0 l hl hf l.length k 0 0 (by omega) hk (Int.le_refl _) (fun _ => rfl) (fun h => absurd h.1 (by omega))
    rwa [List.drop_zero] at this
/-- How many stand ahead of an order. -/
def ahead (a : Int) : List S43 → Nat
  | [] => 0
  | x :: r => if x.f0 < a then ahead a r + 1 else 0
theorem ahead_le (a : Int) : ∀ l, ahead a l ≤ l.length
  | [] => Nat.le_refl _
  | x :: r => by
    rw [ahead]; split
    · have := ahead_le a r; rw [List.length_cons]; omega
    · omega
theorem ahead_lt (a : Int) : ∀ (l : List S43) (i : Nat) (h : i < l.length), i < ahead a l → l[i].f0 < a
  | [], i, h, _ => by simp at h
  | x :: r, i, h, hi => by
    rw [ahead] at hi
    split at hi
    · rename_i hx
      cases i with
      | zero => exact hx
      | succ i => exact ahead_lt a r i (by simpa using h) (by omega)
    · omega
theorem ahead_ge (a : Int) : ∀ (l : List S43) (last : Int), okS last l = true → ∀ (i : Nat) (h : i < l.length), ahead a l ≤ i → a ≤ l[i].f0
  | [], _, _, i, h, _ => by simp at h
  | x :: r, last, hok, i, h, hi => by
    have hok' := hok
    simp only [okS, Bool.and_eq_true, decide_eq_true_eq] at hok
    rw [ahead] at hi
    split at hi
    · cases i with
      | zero => omega
      | succ i => exact ahead_ge a r x.f0 hok.2 i (by simpa using h) (by omega)
    · rename_i hx
      cases i with
      | zero => simp; omega
      | succ i =>
        have hi2 : i < r.length := by simpa using h
        have := (okS_all r x.f0 hok.2 (r[i]'hi2) (List.getElem_mem _)).1
        simp only [List.getElem_cons_succ]; omega
theorem bsN_spec (p : Nat → Bool) (n : Nat) : ∀ k i j, i ≤ j → j - i < 2 ^ k → i ≤ n → n ≤ j → (∀ h, h < j → (p h = true ↔ h < n)) → bsN p k i j = n
  | 0, i, j, hij, hk, h1, h2, _ => by rw [bsN]; simp at hk; omega
  | k + 1, i, j, hij, hk, h1, h2, hp => by
    have hpow := Nat.pow_succ 2 k
    rw [bsN]
    split
    · rename_i hlt
      have hm : (i + j) / 2 < j := by omega
      split
      · rename_i ht
        exact bsN_spec p n k _ _ (by omega) (by omega) (by have := (hp _ hm).1 ht; omega) h2 hp
      · rename_i ht
        have hn : n ≤ (i + j) / 2 := by
          rcases Nat.lt_or_ge ((i + j) / 2) n with h | h
          · exact absurd ((hp _ hm).2 h) ht
          · exact h
        exact bsN_spec p n k _ _ (by omega) (by omega) h1 hn (fun h hh => hp h (by omega))
    · omega
theorem place_is (l : List S43) (a : Int) (hl : l.length ≤ 140737488355328) (hok : okS 0 l = true) : ship_place.f l a = some ((ahead a l : Int), decide (ahead a l < l.length) && decide ((rd_T43 l (ahead a l : Int)).f0 = a)) := by
  unfold ship_place.f
  rw [if_pos (by omega), bsN_spec _ (ahead a l) 64 0 l.length (Nat.zero_le _) (by omega) (Nat.zero_le _) (ahead_le a l)]
  intro h hh
  unfold ship_place.P
  rw [rd_at l h hh, decide_eq_true_eq]
  constructor
  · intro hlt
    rcases Nat.lt_or_ge h (ahead a l) with hc | hc
    · exact hc
    · have := ahead_ge a l 0 hok h hh hc; omega
  · exact ahead_lt a l h hh
/-- An order's state, 0 where there is none. -/
def look (a : Int) : List S43 → Int
  | [] => 0
  | x :: r => if x.f0 = a then x.f1 else look a r
theorem look_above (a : Int) : ∀ (l : List S43) (last : Int), okS last l = true → a ≤ last → look a l = 0
  | [], _, _, _ => rfl
  | x :: r, last, hok, h => by
    simp only [okS, Bool.and_eq_true, decide_eq_true_eq] at hok
    rw [look, if_neg (by omega)]
    exact look_above a r x.f0 hok.2 (by omega)
theorem look_ahead (a : Int) : ∀ (l : List S43) (last : Int), okS last l = true → look a l = if h : ahead a l < l.length then (if l[ahead a l].f0 = a then l[ahead a l].f1 else 0) else 0
  | [], _, _ => rfl
  | x :: r, last, hok => by
    have hok' := hok
    simp only [okS, Bool.and_eq_true, decide_eq_true_eq] at hok
    rw [look]
    by_cases h1 : x.f0 < a
    · have e : ahead a (x :: r) = ahead a r + 1 := by rw [ahead, if_pos h1]
      rw [if_neg (by omega), look_ahead a r x.f0 hok.2]
      simp only [e, List.length_cons, Nat.add_lt_add_iff_right, List.getElem_cons_succ]
    · have e : ahead a (x :: r) = 0 := by rw [ahead, if_neg h1]
      simp only [e, List.length_cons, Nat.zero_lt_succ, dite_true, List.getElem_cons_zero]
      by_cases h2 : x.f0 = a
      · rw [if_pos h2, if_pos h2]
      · rw [if_neg h2, if_neg h2, look_above a r x.f0 hok.2 (by omega)]
/-- What Of says. -/
def ofS (l : List S43) (a : Int) : Int × Int := if okS 0 l = true ∧ 1 ≤ a ∧ a ≤ 1024 then (look a l, 0) else (0, 2)
theorem of_is (l : List S43) (a : Int) (hl : l.length ≤ 140737488355328) {k : Nat} (hk : l.length + 1 < k) : ship_Of.f k l a = some (ofS l a) := by
  obtain ⟨k, rfl⟩ : ∃ q, k = q + 1 := ⟨k - 1, by omega⟩
  unfold ship_Of.f ofS
  rw [check_is l hl (by omega), Option.bind_some]
  by_cases hok : okS 0 l = true
  · rw [if_pos hok, if_pos rfl]
    by_cases h1 : a < 1
    · rw [if_pos h1, if_neg (by omega)]; simp [ship_Of.j0]
    · rw [if_neg h1]
      by_cases h2 : a > 1024
      · rw [decide_eq_true h2, if_neg (by omega)]; simp [ship_Of.j0]
      · rw [decide_eq_false h2, if_pos ⟨hok, by omega, by omega⟩]
        simp only [ship_Of.j0]
        rw [if_neg (by decide), place_is l a hl hok, Option.bind_some, look_ahead a l 0 hok]
        by_cases h3 : ahead a l < l.length
        · rw [dif_pos h3, decide_eq_true h3, Bool.true_and, rd_at l _ h3]
          by_cases h4 : l[ahead a l].f0 = a
          · rw [if_pos h4, decide_eq_true h4, if_pos rfl, if_pos (Int.natCast_nonneg _), if_pos (Int.ofNat_lt.mpr h3)]
          · rw [if_neg h4, decide_eq_false h4, if_neg (by simp)]
        · rw [dif_neg h3, decide_eq_false h3, Bool.false_and, if_neg (by simp)]
  · rw [if_neg hok, if_neg (by decide), if_neg (fun h => hok h.1)]; simp [ship_Of.j0]
theorem rof_l0 (l : List S43) (a : Int) (hl : l.length ≤ 140737488355328) : ∀ (d k i : Nat), i + d = l.length → d < k → ladingref15_Of.l0 k a l (l.length : Int) (i : Int) = some (look a (l.drop i), 0)
  | 0, k, i, h, hk => by
    obtain ⟨k, rfl⟩ : ∃ q, k = q + 1 := ⟨k - 1, by omega⟩
    simp only [ladingref15_Of.l0]
    rw [if_neg (by omega), List.drop_of_length_le (by omega)]; rfl
  | d + 1, k, i, h, hk => by
    obtain ⟨k, rfl⟩ : ∃ q, k = q + 1 := ⟨k - 1, by omega⟩
    have hi : i < l.length := by omega
    simp only [ladingref15_Of.l0]
    rw [if_pos (by omega), if_pos (by omega), if_pos (by omega), rd_at l i hi, w64n i (by omega), rof_l0 l a hl d k (i + 1) (by omega) (by omega), drop_at l i hi, look]
    split <;> rfl
theorem rof_is (l : List S43) (a : Int) (hl : l.length ≤ 140737488355328) (hf : ∀ x ∈ l, 0 ≤ x.f1) {k : Nat} (hk : l.length + 2 < k) : ladingref15_Of.f k l a = some (ofS l a) := by
  obtain ⟨k, rfl⟩ : ∃ q, k = q + 1 := ⟨k - 1, by omega⟩
  unfold ladingref15_Of.f ofS
  rw [rcheck_is l hl hf (by omega), Option.bind_some]
  by_cases hok : okS 0 l = true
  · rw [if_pos hok, if_pos rfl]
    by_cases h1 : a < 1
    · rw [if_pos h1, if_neg (by omega)]; simp [ladingref15_Of.j0]
    · rw [if_neg h1]
      by_cases h2 : a > 1024
      · rw [decide_eq_true h2, if_neg (by omega)]; simp [ladingref15_Of.j0]
      · rw [decide_eq_false h2, if_pos ⟨hok, by omega, by omega⟩]
        simp only [ladingref15_Of.j0]
        have := rof_l0 l a hl l.length k 0 (by omega) (by omega)
        rw [List.drop_zero] at this
        rw [if_neg (by decide)]
        exact this
  · rw [if_neg hok, if_neg (by decide), if_neg (fun h => hok h.1)]; simp [ladingref15_Of.j0]
/-- A shipment is put among those in order. -/
def put (a s : Int) : List S43 → List S43
  | [] => [⟨a, s⟩]
  | x :: r => if x.f0 < a then x :: put a s r else if x.f0 = a then ⟨a, s⟩ :: r else ⟨a, s⟩ :: x :: r
theorem put_set (a s : Int) : ∀ (l : List S43) (h : ahead a l < l.length), l[ahead a l].f0 = a → l.set (ahead a l) ⟨a, s⟩ = put a s l
  | [], h, _ => by simp at h
  | x :: r, h, hf => by
    by_cases h1 : x.f0 < a
    · have e : ahead a (x :: r) = ahead a r + 1 := by rw [ahead, if_pos h1]
      simp only [e, List.length_cons, Nat.add_lt_add_iff_right, List.getElem_cons_succ] at h hf
      rw [e, put, if_pos h1, List.set_cons_succ, put_set a s r h hf]
    · have e : ahead a (x :: r) = 0 := by rw [ahead, if_neg h1]
      simp only [e, List.getElem_cons_zero] at hf
      rw [e, put, if_neg h1, if_pos hf, List.set_cons_zero]
theorem put_ins (a s : Int) (z : S43) : ∀ (l : List S43), (∀ h : ahead a l < l.length, l[ahead a l].f0 ≠ a) → (l.take (ahead a l) ++ [z] ++ l.drop (ahead a l)).set (ahead a l) ⟨a, s⟩ = put a s l
  | [], _ => rfl
  | x :: r, hf => by
    by_cases h1 : x.f0 < a
    · have e : ahead a (x :: r) = ahead a r + 1 := by rw [ahead, if_pos h1]
      have ih := put_ins a s z r (fun h => by
        have := hf (by rw [e]; simpa using h)
        simpa only [e, List.getElem_cons_succ] using this)
      rw [e, put, if_pos h1, ← ih]; rfl
    · have e : ahead a (x :: r) = 0 := by rw [ahead, if_neg h1]
      have h2 : x.f0 ≠ a := by
        have := hf (by rw [e]; simp)
        simpa only [e, List.getElem_cons_zero] using this
      rw [e, put, if_neg h1, if_neg h2]; rfl
theorem put_ok (a s : Int) (h2 : a ≤ 1024) (h3 : s ≠ 0) (h4 : s < 7) : ∀ (l : List S43) (last : Int), last < a → okS last l = true → okS last (put a s l) = true
  | [], last, h1, _ => by simp [put, okS, h1, h2, h3, h4]
  | x :: r, last, h1, hok => by
    have hok' := hok
    simp only [okS, Bool.and_eq_true, decide_eq_true_eq] at hok
    rw [put]
    split
    · rename_i hx
      simp only [okS, Bool.and_eq_true, decide_eq_true_eq]
      exact ⟨hok.1, put_ok a s h2 h3 h4 r x.f0 hx hok.2⟩
    · split
      · rename_i hx
        simp only [okS, Bool.and_eq_true, decide_eq_true_eq]
        exact ⟨⟨⟨⟨h1, h2⟩, h3⟩, h4⟩, hx ▸ hok.2⟩
      · simp only [okS, Bool.and_eq_true, decide_eq_true_eq]
        exact ⟨⟨⟨⟨h1, h2⟩, h3⟩, h4⟩, ⟨⟨⟨by omega, hok.1.1.1.2⟩, hok.1.1.2⟩, hok.1.2⟩, hok.2⟩
theorem put_look (a s : Int) : ∀ (l : List S43), look a (put a s l) = s
  | [] => by simp [put, look]
  | x :: r => by
    rw [put]
    split
    · rw [look, if_neg (by omega), put_look a s r]
    · split
      · simp [look]
      · simp [look]
theorem put_look_other (a b s : Int) (hab : b ≠ a) : ∀ (l : List S43), look b (put a s l) = look b l
  | [] => by
    show (if a = b then s else 0) = 0
    rw [if_neg (fun h => hab h.symm)]
  | x :: r => by
    rw [put]
    split
    · rw [look, look, put_look_other a b s hab r]
    · split
      · rename_i hx
        rw [look, look]
        show (if a = b then s else look b r) = _
        rw [if_neg (fun h => hab h.symm), if_neg (by omega)]
      · rw [look]
        show (if a = b then s else look b (x :: r)) = _
        rw [if_neg (fun h => hab h.symm)]
theorem put_len (a s : Int) : ∀ (l : List S43), l.length ≤ (put a s l).length
  | [] => by simp
  | x :: r => by
    rw [put]
    split
    · simp only [List.length_cons]; have := put_len a s r; omega
    · split <;> simp
theorem put_comm (a s b t : Int) (hab : a ≠ b) : ∀ (l : List S43), put a s (put b t l) = put b t (put a s l)
  | [] => by
    show (if b < a then (⟨b, t⟩ : S43) :: [⟨a, s⟩] else if b = a then [⟨a, s⟩] else ⟨a, s⟩ :: [⟨b, t⟩]) = if a < b then (⟨a, s⟩ : S43) :: [⟨b, t⟩] else if a = b then [⟨b, t⟩] else ⟨b, t⟩ :: [⟨a, s⟩]
    by_cases h : b < a
    · rw [if_pos h, if_neg (by omega), if_neg hab]
    · rw [if_neg h, if_neg (by omega), if_pos (by omega)]
  | x :: r => by
    have ih := put_comm a s b t hab r
    by_cases ha : x.f0 < a
    · by_cases hb : x.f0 < b
      · simp only [put, if_pos ha, if_pos hb, ih]
      · by_cases hb2 : x.f0 = b
        · have h1 : b < a := by omega
          have h2 : ¬ a < b := by omega
          simp only [put, if_pos ha, if_neg hb, if_pos hb2, if_pos h1]
        · have h1 : b < a := by omega
          simp only [put, if_pos ha, if_neg hb, if_neg hb2, if_pos h1]
    · by_cases ha2 : x.f0 = a
      · by_cases hb : x.f0 < b
        · have h1 : a < b := by omega
          simp only [put, if_neg ha, if_pos ha2, if_pos hb, if_pos h1]
        · have hb2 : ¬ x.f0 = b := by omega
          have h1 : b < a := by omega
          have h2 : ¬ a < b := by omega
          simp only [put, if_neg ha, if_pos ha2, if_neg hb, if_neg hb2, if_pos h1, if_neg h2, if_neg hab]
      · by_cases hb : x.f0 < b
        · have h1 : a < b := by omega
          simp only [put, if_neg ha, if_neg ha2, if_pos hb, if_pos h1]
        · by_cases hb2 : x.f0 = b
          · have h1 : a < b := by omega
            have h2 : ¬ b < a := by omega
            have h3 : ¬ b = a := by omega
            simp only [put, if_neg ha, if_neg ha2, if_neg hb, if_pos hb2, if_pos h1, if_neg h2, if_neg h3]
          · by_cases h1 : a < b
            · have h2 : ¬ b < a := by omega
              have h3 : ¬ b = a := by omega
              simp only [put, if_neg ha, if_neg ha2, if_neg hb, if_neg hb2, if_pos h1, if_neg h2, if_neg h3]
            · have h2 : b < a := by omega
              simp only [put, if_neg ha, if_neg ha2, if_neg hb, if_neg hb2, if_neg h1, if_pos h2, if_neg hab]
def nextS (s m : Int) : Int × Int := if s ≥ 7 then (0, 15) else if 0 < m ∧ m < 7 then (if shipNext m s = 0 then (0, 9) else (shipNext m s, 0)) else (0, 15)
theorem next_is (s m : Int) (hs : 0 ≤ s) (hm : 0 ≤ m) : ship_Next.f s m = some (nextS s m) := by
  unfold ship_Next.f nextS
  rw [if_pos ⟨hs, hm⟩]
  split
  · rfl
  · split
    · split <;> rfl
    · rfl
theorem nextS_ok (s m : Int) (hs : 0 ≤ s) (h : (nextS s m).2 = 0) : (nextS s m).1 ≠ 0 ∧ (nextS s m).1 < 7 := by
  unfold nextS at h ⊢
  split at h
  · cases h
  · rename_i h7
    split at h
    · rename_i hm
      split at h
      · cases h
      · rename_i hz
        rw [if_neg h7, if_pos hm, if_neg hz]
        refine ⟨hz, ?_⟩
        obtain ⟨s, rfl⟩ := Int.eq_ofNat_of_zero_le hs
        obtain ⟨m, rfl⟩ := Int.eq_ofNat_of_zero_le (show 0 ≤ m by omega)
        have : ∀ m : Nat, m < 7 → ∀ s : Nat, s < 7 → shipNext (m : Int) (s : Int) < 7 := by decide +kernel
        exact this m (by omega) s (by omega)
    · cases h
def asksS (m : Int) : Bool := m == 1 || m == 2 || m == 5
theorem asks_is (m : Int) {k : Nat} (hk : 5 ≤ k) : ship_Asks.f k m = some (asksS m) := by
  refine up (ship_Asks.mono m) (k := 5) ?_ hk
  by_cases h1 : m = 1
  · subst h1; decide +kernel
  · by_cases h2 : m = 2
    · subst h2; decide +kernel
    · by_cases h3 : m = 5
      · subst h3; decide +kernel
      · have w : ∀ x : Int, 0 ≤ x ∧ x ≤ 5 → wrap64 x = x := fun x h => by unfold wrap64; omega
        unfold ship_Asks.f api_ShipMove_29.f api_ShipMove_35.f asksS
        simp [api_ShipMove_35.l0, rd, h1, h2, h3, w]
theorem rasks_is (m : Int) : ladingref15_Asks.f m = some (asksS m) := by
  unfold ladingref15_Asks.f asksS
  by_cases h1 : m = 1
  · subst h1; rfl
  · by_cases h2 : m = 2
    · subst h2; rfl
    · rw [if_neg h1, if_neg h2, beq_eq_false_iff_ne.mpr h1, beq_eq_false_iff_ne.mpr h2]; rfl
/-- What Move says. -/
def moveS (l : List S43) (a m v : Int) : List S43 × Int :=
  if (ofS l a).2 ≠ 0 then ([], (ofS l a).2) else if v ≥ 2 then ([], 15) else if (nextS (ofS l a).1 m).2 ≠ 0 then ([], (nextS (ofS l a).1 m).2) else
  if asksS m = true ∧ v = 1 then ([], 10) else (put a (nextS (ofS l a).1 m).1 l, 0)
theorem ofS_ok {l : List S43} {a : Int} (h : (ofS l a).2 = 0) : okS 0 l = true ∧ 1 ≤ a ∧ a ≤ 1024 ∧ (ofS l a).1 = look a l := by
  unfold ofS at h ⊢
  split at h
  · rename_i hc
    rw [if_pos hc]; exact ⟨hc.1, hc.2.1, hc.2.2, rfl⟩
  · cases h
theorem look_range (a : Int) : ∀ (l : List S43), (∀ x ∈ l, 0 ≤ x.f1) → 0 ≤ look a l
  | [], _ => Int.le_refl _
  | x :: r, h => by
    rw [look]; split
    · exact h x List.mem_cons_self
    · exact look_range a r (fun y hy => h y (List.mem_cons_of_mem _ hy))
theorem look_lt (a : Int) : ∀ (l : List S43) (last : Int), okS last l = true → look a l < 7
  | [], _, _ => by show (0 : Int) < 7; decide
  | x :: r, last, hok => by
    simp only [okS, Bool.and_eq_true, decide_eq_true_eq] at hok
    rw [look]; split
    · exact hok.1.2
    · exact look_lt a r x.f0 hok.2
theorem ofS_range {l : List S43} (a : Int) (hf : ∀ x ∈ l, 0 ≤ x.f1) : 0 ≤ (ofS l a).1 := by
  unfold ofS; split
  · exact look_range a l hf
  · exact Int.le_refl _
theorem j4_is (l : List S43) (a s : Int) (hok : okS 0 l = true) (k : Nat) : ship_Move.j4 (k + 1) l a s 0 = some (put a s l, 0) := by
  have hlen := okS_len l 0 (by decide) hok
  have hal := ahead_le a l
  simp only [ship_Move.j4]
  unfold api_Shipment_22.f
  rw [if_pos trivial, if_pos (by omega), Option.bind_some, place_is l a (by omega) hok, Option.bind_some]
  by_cases h3 : ahead a l < l.length
  · by_cases h4 : l[ahead a l].f0 = a
    · rw [decide_eq_true h3, rd_at l _ h3, decide_eq_true h4, if_pos (show (true && true) = true from rfl), if_pos (Int.natCast_nonneg _), if_pos (Int.ofNat_lt.mpr h3), Int.toNat_natCast, put_set a s l h3 h4]
    · rw [rd_at l _ h3, decide_eq_false h4, Bool.and_false, if_neg (show ¬ (false = true) by decide)]
      unfold api_Shipment_24.f
      rw [if_pos ⟨Int.natCast_nonneg _, Int.ofNat_le.mpr hal, rfl, by omega⟩, Option.bind_some, if_pos (Int.natCast_nonneg _), if_pos, Int.toNat_natCast, put_ins a s ⟨0, 0⟩ l (fun _ => h4)]
      rw [Int.toNat_natCast]
      refine Int.ofNat_lt.mpr ?_
      simp only [List.length_append, List.length_take, List.length_drop, List.length_singleton]; omega
  · rw [decide_eq_false h3, Bool.false_and, if_neg (show ¬ (false = true) by decide)]
    unfold api_Shipment_24.f
    rw [if_pos ⟨Int.natCast_nonneg _, Int.ofNat_le.mpr hal, rfl, by omega⟩, Option.bind_some, if_pos (Int.natCast_nonneg _), if_pos, Int.toNat_natCast, put_ins a s ⟨0, 0⟩ l (fun h => absurd h h3)]
    rw [Int.toNat_natCast]
    refine Int.ofNat_lt.mpr ?_
    simp only [List.length_append, List.length_take, List.length_drop, List.length_singleton]; omega
theorem j4_no (l : List S43) (a s e : Int) (he : e ≠ 0) (k : Nat) : ship_Move.j4 (k + 1) l a s e = some ([], e) := by
  simp only [ship_Move.j4]; rw [if_neg he]
theorem move_is (l : List S43) (a m v : Int) (hl : l.length ≤ 140737488355328) (hf : ∀ x ∈ l, 0 ≤ x.f1) (hm : 0 ≤ m) {k : Nat} (hk : l.length + 11 < k) : ship_Move.f k l a m v = some (moveS l a m v) := by
  obtain ⟨k, rfl⟩ : ∃ q, k = q + 10 := ⟨k - 10, by omega⟩
  unfold ship_Move.f moveS
  rw [of_is l a hl (by omega), Option.bind_some]
  have hr := ofS_range a hf
  by_cases h1 : (ofS l a).2 = 0
  · obtain ⟨hok, ha0, ha1, hlk⟩ := ofS_ok h1
    rw [if_pos h1, if_neg (fun h => h h1), h1]
    by_cases h2 : v ≥ 2
    · rw [decide_eq_true h2, if_pos h2]
      simp only [ship_Move.j0, ship_Move.j1, ship_Move.j2, ship_Move.j3, if_pos, if_neg (show ¬ (15 : Int) = 0 by decide), if_neg (show ¬ (false = true) by decide), j4_no _ _ _ 15 (by decide)]
    · rw [decide_eq_false h2, if_neg h2]
      simp only [ship_Move.j0, ship_Move.j1, if_neg (show ¬ (false = true) by decide), if_true, next_is _ m hr hm, Option.bind_some]
      generalize hn : nextS (ofS l a).1 m = n
      obtain ⟨s, e⟩ := n
      by_cases h3 : e = 0
      · subst h3
        simp only [ship_Move.j2, if_true, asks_is m (show 5 ≤ k + 7 by omega), Option.bind_some, ne_eq, not_true, if_false]
        by_cases h4 : asksS m = true
        · rw [if_pos h4]
          by_cases h5 : v = 1
          · rw [if_pos ⟨h4, h5⟩, beq_iff_eq.mpr h5]
            simp only [ship_Move.j3, if_true, j4_no _ _ _ 10 (by decide)]
          · rw [if_neg (fun h => h5 h.2), beq_eq_false_iff_ne.mpr h5]
            simp only [ship_Move.j3, if_neg (show ¬ (false = true) by decide), j4_is l a s hok]
        · rw [if_neg h4, if_neg (fun h => h4 h.1)]
          simp only [ship_Move.j3, if_neg (show ¬ (false = true) by decide), j4_is l a s hok]
      · rw [if_pos h3]
        simp only [ship_Move.j2, ship_Move.j3, if_neg h3, if_neg (show ¬ (false = true) by decide), j4_no _ _ _ e h3]
  · rw [if_neg h1, if_pos h1]
    simp only [ship_Move.j0, ship_Move.j1, ship_Move.j2, ship_Move.j3, if_neg h1, if_neg (show ¬ (false = true) by decide), j4_no _ _ _ _ h1]
theorem made_fin : ∀ s : Nat, s < 7 → ∀ m : Nat, m < 7 → 0 < m → ladingref15_made.f 6 (s : Int) (m : Int) = some (shipNext (m : Int) (s : Int)) := by decide +kernel
theorem made_is (s m : Int) (hs : 0 ≤ s) (hs7 : s < 7) (hm : 0 < m) (hm7 : m < 7) {k : Nat} (hk : 6 ≤ k) : ladingref15_made.f k s m = some (shipNext m s) := by
  refine up (ladingref15_made.mono s m) (k := 6) ?_ hk
  obtain ⟨s, rfl⟩ := Int.eq_ofNat_of_zero_le hs
  obtain ⟨m, rfl⟩ := Int.eq_ofNat_of_zero_le (Int.le_of_lt hm)
  exact made_fin s (by omega) m (by omega) (by omega)
theorem rmove_done (l : List S43) (a m s : Int) (hl : l.length ≤ 1024) : ∀ (d k i : Nat) (out : List S43), i + d = l.length → 2 * d < k → (∀ x ∈ l.drop i, x.f0 ≠ a) → out.length ≤ i + 1 →
    ladingref15_Move.l0 k a m s out true l (l.length : Int) (i : Int) = some (out ++ l.drop i, 0)
  | 0, k, i, out, h, hk, _, _ => by
    obtain ⟨k, rfl⟩ : ∃ q, k = q + 1 := ⟨k - 1, by omega⟩
    simp only [ladingref15_Move.l0]
    rw [if_neg (by omega), if_pos trivial, List.drop_of_length_le (by omega), List.append_nil]
  | d + 1, k, i, out, h, hk, hx, ho => by
    obtain ⟨k, rfl⟩ : ∃ q, k = q + 2 := ⟨k - 2, by omega⟩
    have hi : i < l.length := by omega
    have hd := drop_at l i hi
    have h0 := hx l[i] (hd ▸ List.mem_cons_self)
    simp only [ladingref15_Move.l0, ladingref15_Move.j3]
    rw [if_pos (by omega), if_pos (by omega), if_pos (by omega), if_pos trivial, if_neg (by decide), rd_at l i hi, if_neg h0, if_pos (by omega), w64n i (by omega),
      rmove_done l a m s hl d k (i + 1) (out ++ [l[i]]) (by omega) (by omega) (fun x hm => hx x (hd ▸ List.mem_cons_of_mem _ hm)) (by rw [List.length_append, List.length_singleton]; omega), hd, List.append_assoc]
    rfl
theorem rmove_l0 (l : List S43) (a m s t : Int) (hl : l.length ≤ 1024) (hmade : ∀ k, 6 ≤ k → ladingref15_made.f k s m = some t) : ∀ (d k i : Nat) (out : List S43) (last : Int), i + d = l.length → 2 * d + 8 < k → okS last (l.drop i) = true → out.length ≤ i →
    ladingref15_Move.l0 k a m s out false l (l.length : Int) (i : Int) = some (out ++ put a t (l.drop i), 0)
  | 0, k, i, out, last, h, hk, _, ho => by
    obtain ⟨k, rfl⟩ : ∃ q, k = q + 1 := ⟨k - 1, by omega⟩
    simp only [ladingref15_Move.l0]
    rw [if_neg (by omega), if_neg (by decide), List.drop_of_length_le (by omega), hmade k (by omega), Option.bind_some, if_pos (by omega)]
    rfl
  | d + 1, k, i, out, last, h, hk, hok, ho => by
    obtain ⟨k, rfl⟩ : ∃ q, k = q + 2 := ⟨k - 2, by omega⟩
    have hi : i < l.length := by omega
    have hd := drop_at l i hi
    rw [hd] at hok ⊢
    have hok' := hok
    simp only [okS, Bool.and_eq_true, decide_eq_true_eq] at hok
    simp only [ladingref15_Move.l0, ladingref15_Move.j3]
    rw [if_pos (by omega), if_pos (by omega), if_pos (by omega), if_neg (by decide), rd_at l i hi, put]
    by_cases h1 : l[i].f0 < a
    · rw [decide_eq_false (by omega), if_neg (by decide), if_neg (by omega), if_pos (by omega), w64n i (by omega), if_pos h1,
        rmove_l0 l a m s t hl hmade d k (i + 1) (out ++ [l[i]]) l[i].f0 (by omega) (by omega) hok.2 (by rw [List.length_append, List.length_singleton]; omega), List.append_assoc]
      rfl
    · have habove : ∀ x ∈ l.drop (i + 1), x.f0 ≠ a := fun x hx => by
        have := (okS_all _ _ hok.2 x hx).1; omega
      rw [decide_eq_true (by omega), if_pos rfl, hmade k (by omega), Option.bind_some, if_pos (by omega), Option.bind_some, if_neg h1, w64n i (by omega)]
      by_cases h2 : l[i].f0 = a
      · rw [if_pos h2, if_pos h2, rmove_done l a m s hl d k (i + 1) _ (by omega) (by omega) habove (by rw [List.length_append, List.length_singleton]; omega), List.append_assoc]
        rfl
      · rw [if_neg h2, if_neg h2, if_pos (by rw [List.length_append, List.length_singleton]; omega), rmove_done l a m s hl d k (i + 1) _ (by omega) (by omega) habove (by simp only [List.length_append, List.length_singleton]; omega), List.append_assoc, List.append_assoc]
        rfl
theorem rmove_is (l : List S43) (a m v : Int) (hl : l.length ≤ 140737488355328) (hf : ∀ x ∈ l, 0 ≤ x.f1) (hm : 0 ≤ m) {k : Nat} (hk : 2 * l.length + 20 < k) : ladingref15_Move.f k l a m v = some (moveS l a m v) := by
  obtain ⟨k, rfl⟩ : ∃ q, k = q + 2 := ⟨k - 2, by omega⟩
  unfold ladingref15_Move.f moveS
  rw [rof_is l a hl hf (by omega), Option.bind_some]
  have hr := ofS_range a hf
  by_cases h1 : (ofS l a).2 = 0
  · obtain ⟨hok, ha0, ha1, hlk⟩ := ofS_ok h1
    have hlen := okS_len l 0 (by decide) hok
    have hs7 := look_lt a l 0 hok
    rw [if_pos h1, if_neg (fun h => h h1)]
    unfold ladingref15_known.f
    rw [hlk] at hr ⊢
    have hknown : (if m ≥ 1 then some (decide (m < 7)) else some false) = some (decide (0 < m ∧ m < 7)) := by
      by_cases h : m ≥ 1
      · rw [if_pos h]; congr 1; exact decide_eq_decide.mpr ⟨fun h2 => ⟨by omega, h2⟩, fun h2 => h2.2⟩
      · rw [if_neg h, decide_eq_false (by omega)]
    rw [hknown, Option.bind_some]
    by_cases h2 : v ≥ 2
    · rw [if_pos h2, decide_eq_true h2, ite_self]
      simp only [ladingref15_Move.j0, if_true]
    · rw [if_neg h2, decide_eq_false h2]
      by_cases h3 : 0 < m ∧ m < 7
      · have hmade : ∀ k, 6 ≤ k → ladingref15_made.f k (look a l) m = some (shipNext m (look a l)) := fun k hk => made_is _ m hr hs7 h3.1 h3.2 hk
        have hn : nextS (look a l) m = if shipNext m (look a l) = 0 then (0, 9) else (shipNext m (look a l), 0) := by
          unfold nextS; rw [if_neg (by omega), if_pos h3]
        rw [decide_eq_true h3, if_pos rfl, hn]
        simp only [ladingref15_Move.j0, if_neg (show ¬ (false = true) by decide), hmade (k + 1) (by omega), Option.bind_some, rasks_is]
        by_cases h4 : shipNext m (look a l) = 0
        · rw [if_pos h4, if_pos h4]; rfl
        · rw [if_neg h4, if_neg h4, if_neg (show ¬ ((shipNext m (look a l), (0 : Int)).2 ≠ 0) from fun h => h rfl)]
          have hj : ladingref15_Move.j1 (k + 1) l a m (look a l) = some (put a (shipNext m (look a l)) l, 0) := by
            simp only [ladingref15_Move.j1]
            have := rmove_l0 l a m (look a l) (shipNext m (look a l)) (by omega) hmade l.length k 0 [] 0 (by omega) (by omega) (by rw [List.drop_zero]; exact hok) (Nat.le_refl _)
            rw [List.drop_zero] at this
            exact this
          rw [hj]
          by_cases h5 : asksS m = true
          · rw [if_pos h5]
            by_cases h6 : v = 1
            · rw [if_pos h6, if_pos ⟨h5, h6⟩]
            · rw [if_neg h6, if_neg (fun h => h6 h.2)]
          · rw [if_neg h5, if_neg (fun h => h5 h.1)]
      · have hn : nextS (look a l) m = (0, 15) := by
          unfold nextS; rw [if_neg (by omega), if_neg h3]
        rw [decide_eq_false h3, if_neg (by decide), hn]
        simp only [ladingref15_Move.j0, if_true]
        rw [if_pos (by decide)]
  · rw [if_neg h1, if_pos h1]
theorem same_l0 (l : List S43) (hl : l.length ≤ 140737488355328) : ∀ (d k i : Nat), i + d = l.length → d < k → ladingref15_Same.l0 k l l (l.length : Int) (i : Int) = some true
  | 0, k, i, h, hk => by
    obtain ⟨k, rfl⟩ : ∃ q, k = q + 1 := ⟨k - 1, by omega⟩
    simp only [ladingref15_Same.l0]
    rw [if_neg (by omega)]
  | d + 1, k, i, h, hk => by
    obtain ⟨k, rfl⟩ : ∃ q, k = q + 1 := ⟨k - 1, by omega⟩
    simp only [ladingref15_Same.l0]
    rw [if_pos (by omega), if_pos (by omega), if_pos (by omega), if_pos (by omega), if_neg (by simp), w64n i (by omega), same_l0 l hl d k (i + 1) (by omega) (by omega)]
theorem same_is (l : List S43) (hl : l.length ≤ 140737488355328) {k : Nat} (hk : l.length < k) : ladingref15_Same.f k l l = some true := by
  unfold ladingref15_Same.f
  rw [if_pos rfl]
  exact same_l0 l hl l.length k 0 (by omega) hk
theorem moveS_len (l : List S43) (a m v : Int) : (moveS l a m v).1.length ≤ l.length + 1 := by
  have hp : ∀ (s : Int) (l : List S43), (put a s l).length ≤ l.length + 1 := by
    intro s l
    induction l with
    | nil => simp [put]
    | cons x r ih =>
      rw [put]; split
      · simp only [List.length_cons]; omega
      · split <;> simp
  unfold moveS
  split
  · simp
  · split
    · simp
    · split
      · simp
      · split
        · simp
        · exact hp _ l
theorem put_mem (a s : Int) : ∀ (l : List S43) (x : S43), x ∈ put a s l → x = ⟨a, s⟩ ∨ x ∈ l
  | [], x, h => by
    rw [put, List.mem_singleton] at h; exact .inl h
  | y :: r, x, h => by
    rw [put] at h
    split at h
    · rcases List.mem_cons.1 h with rfl | h
      · exact .inr List.mem_cons_self
      · exact (put_mem a s r x h).imp id (List.mem_cons_of_mem _)
    · split at h
      · rcases List.mem_cons.1 h with rfl | h
        · exact .inl rfl
        · exact .inr (List.mem_cons_of_mem _ h)
      · rcases List.mem_cons.1 h with rfl | h
        · exact .inl rfl
        · exact .inr h
theorem nextS_ge (s m : Int) (hs : 0 ≤ s) : 0 ≤ (nextS s m).1 := by
  unfold nextS
  split
  · exact Int.le_refl _
  · split
    · split
      · exact Int.le_refl _
      · obtain ⟨s, rfl⟩ := Int.eq_ofNat_of_zero_le hs
        obtain ⟨m, rfl⟩ := Int.eq_ofNat_of_zero_le (show 0 ≤ m by omega)
        have : ∀ m : Nat, m < 7 → ∀ s : Nat, s < 7 → 0 ≤ shipNext (m : Int) (s : Int) := by decide +kernel
        exact this m (by omega) s (by omega)
    · exact Int.le_refl _
theorem moveS_ok {l : List S43} {a m v : Int} (h : (moveS l a m v).2 = 0) : okS 0 l = true ∧ 1 ≤ a ∧ a ≤ 1024 ∧ ¬ v ≥ 2 ∧ (nextS (look a l) m).2 = 0 ∧ ¬ (asksS m = true ∧ v = 1) ∧ (moveS l a m v).1 = put a (nextS (look a l) m).1 l := by
  unfold moveS at h ⊢
  by_cases h1 : (ofS l a).2 = 0
  · obtain ⟨hok, h2, h3, h4⟩ := ofS_ok h1
    rw [h4] at h ⊢
    rw [if_neg (fun h => h h1)] at h ⊢
    by_cases h5 : v ≥ 2
    · rw [if_pos h5] at h; cases h
    · rw [if_neg h5] at h ⊢
      by_cases h6 : (nextS (look a l) m).2 = 0
      · rw [if_neg (fun h => h h6)] at h ⊢
        by_cases h7 : asksS m = true ∧ v = 1
        · rw [if_pos h7] at h; cases h
        · rw [if_neg h7]; exact ⟨hok, h2, h3, h5, h6, h7, rfl⟩
      · rw [if_pos h6] at h; exact absurd h h6
  · rw [if_pos h1] at h; exact absurd h h1
theorem moveS_yes {l : List S43} {a m v : Int} (hok : okS 0 l = true) (h2 : 1 ≤ a) (h3 : a ≤ 1024) (h5 : ¬ v ≥ 2) (h6 : (nextS (look a l) m).2 = 0) (h7 : ¬ (asksS m = true ∧ v = 1)) : moveS l a m v = (put a (nextS (look a l) m).1 l, 0) := by
  have e : ofS l a = (look a l, 0) := by unfold ofS; rw [if_pos ⟨hok, h2, h3⟩]
  unfold moveS
  rw [e, if_neg (fun h => h rfl), if_neg h5, if_neg (fun h => h h6), if_neg h7]

end Go.Proofs.Ythagaplbeccmhaa.Pure
