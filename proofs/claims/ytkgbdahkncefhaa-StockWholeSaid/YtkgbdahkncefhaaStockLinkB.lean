/- Plain: what moves make of cells, one behind the other. -/
import Derived.Test.YtkgbdahkncefhaaStockLink
set_option linter.unusedVariables false
namespace Go.Proofs.Ytkgbdahkncefhaa.Pure
open Go.RowKit Go.Proofs.Ytkgbdahkncefhaa.Print Go.Proofs.YtkgbdahkncefhaaW.PrintWords Go.Proofs.YtkgbdahkncefhaaW.PrintLast Go.Proofs.YtkgbdahkncefhaaW.PrintMore

theorem put_ok (c : S33) (hc : goodC c) : ∀ (l : List S33) (last : Int), last < kk c → okC last l = true → okC last (put c l) = true
  | [], last, h1, _ => okC_cons.2 ⟨h1, hc, rfl⟩
  | x :: r, last, h1, hok => by
    obtain ⟨g1, g2, g3⟩ := okC_cons.1 hok
    rw [put]
    split
    · rename_i hx
      exact okC_cons.2 ⟨g1, g2, put_ok c hc r _ hx g3⟩
    · split
      · rename_i hx
        exact okC_cons.2 ⟨h1, hc, hx ▸ g3⟩
      · exact okC_cons.2 ⟨h1, hc, okC_cons.2 ⟨by omega, g2, g3⟩⟩
theorem put_has (c : S33) : ∀ (l : List S33), hasK (kk c) (put c l) = true
  | [] => by rw [put, hasK, if_pos rfl]
  | x :: r => by
    rw [put]
    split
    · rw [hasK, if_neg (by omega), put_has c r]
    · split
      · rw [hasK, if_pos rfl]
      · rw [hasK, if_pos rfl]
theorem put_has_other (c : S33) (b : Int) (hb : b ≠ kk c) : ∀ (l : List S33), hasK b (put c l) = hasK b l
  | [] => by
    show (if kk c = b then true else hasK b []) = hasK b []
    rw [if_neg (fun h => hb h.symm)]
  | x :: r => by
    rw [put]
    split
    · rw [hasK, hasK, put_has_other c b hb r]
    · split
      · rename_i hx
        rw [hasK, hasK, if_neg (fun h => hb h.symm), if_neg (by omega)]
      · rw [hasK, if_neg (fun h => hb h.symm)]
theorem put_len (c : S33) : ∀ (l : List S33) (last : Int), okC last l = true → (put c l).length = if hasK (kk c) l = true then l.length else l.length + 1
  | [], _, _ => rfl
  | x :: r, last, hok => by
    obtain ⟨g1, g2, g3⟩ := okC_cons.1 hok
    rw [put, hasK]
    by_cases h1 : kk x < kk c
    · rw [if_pos h1, if_neg (show ¬ kk x = kk c by omega), List.length_cons, List.length_cons, put_len c r _ g3]
      split <;> omega
    · rw [if_neg h1]
      by_cases h2 : kk x = kk c
      · rw [if_pos h2, if_pos h2, if_pos rfl]; rfl
      · rw [if_neg h2, if_neg h2, hasK_above (kk c) r _ g3 (by omega)]; rfl
theorem put_at (c : S33) (i w : Int) (hk : kk c = key i w) : ∀ (l : List S33), cellAt i w (put c l) = c
  | [] => by rw [put, cellAt, if_pos hk]
  | x :: r => by
    rw [put]
    split
    · rw [cellAt, if_neg (by omega), put_at c i w hk r]
    · split
      · rw [cellAt, if_pos hk]
      · rw [cellAt, if_pos hk]
theorem put_at_other (c : S33) (i w : Int) (hk : kk c ≠ key i w) : ∀ (l : List S33), cellAt i w (put c l) = cellAt i w l
  | [] => by
    show (if kk c = key i w then c else cellAt i w []) = cellAt i w []
    rw [if_neg hk]
  | x :: r => by
    rw [put]
    split
    · rw [cellAt, cellAt, put_at_other c i w hk r]
    · split
      · rename_i hx
        rw [cellAt, cellAt, if_neg hk, if_neg (by omega)]
      · rw [cellAt, if_neg hk]
theorem put_put (c d : S33) (h : kk d = kk c) : ∀ (l : List S33), put c (put d l) = put c l
  | [] => by
    show (if kk d < kk c then d :: put c [] else if kk d = kk c then [c] else c :: [d]) = [c]
    rw [if_neg (by omega), if_pos h]
  | x :: r => by
    by_cases h1 : kk x < kk c
    · simp only [put, h, if_pos h1, put_put c d h r]
    · by_cases h2 : kk x = kk c
      · simp only [put, h, h2, Int.lt_irrefl, if_true, if_false]
      · simp only [put, h, if_neg h1, if_neg h2, Int.lt_irrefl, if_true, if_false]
theorem put_self (i w : Int) : ∀ (l : List S33) (last : Int), okC last l = true → hasK (key i w) l = true → put (cellAt i w l) l = l
  | [], _, _, h => by cases h
  | x :: r, last, hok, h => by
    obtain ⟨g1, g2, g3⟩ := okC_cons.1 hok
    rw [cellAt]
    by_cases h1 : kk x = key i w
    · rw [if_pos h1, put, if_neg (by omega), if_pos rfl]
    · rw [hasK, if_neg h1] at h
      rw [if_neg h1, put]
      have hlt : kk x < key i w := by
        rcases Int.lt_trichotomy (kk x) (key i w) with hc | hc | hc
        · exact hc
        · exact absurd hc h1
        · rw [hasK_above (key i w) r _ g3 (by omega)] at h; cases h
      have hkey : kk (cellAt i w r) = key i w := by
        clear g3 hok
        induction r with
        | nil => cases h
        | cons y s ih =>
          rw [cellAt]
          rw [hasK] at h
          split
          · assumption
          · rename_i hy
            rw [if_neg hy] at h
            exact ih h
      rw [if_pos (by omega), put_self i w r _ g3 h]
theorem put_comm (a b : S33) (hab : kk a ≠ kk b) : ∀ (l : List S33), put a (put b l) = put b (put a l)
  | [] => by
    show (if kk b < kk a then b :: put a [] else if kk b = kk a then [a] else a :: [b]) = if kk a < kk b then a :: put b [] else if kk a = kk b then [b] else b :: [a]
    by_cases h : kk b < kk a
    · rw [if_pos h, if_neg (by omega), if_neg hab]; rfl
    · rw [if_neg h, if_neg (by omega), if_pos (by omega)]; rfl
  | x :: r => by
    have ih := put_comm a b hab r
    by_cases ha : kk x < kk a
    · by_cases hb : kk x < kk b
      · simp only [put, if_pos ha, if_pos hb, ih]
      · by_cases hb2 : kk x = kk b
        · have h1 : kk b < kk a := by omega
          simp only [put, if_pos ha, if_neg hb, if_pos hb2, if_pos h1]
        · have h1 : kk b < kk a := by omega
          simp only [put, if_pos ha, if_neg hb, if_neg hb2, if_pos h1]
    · by_cases ha2 : kk x = kk a
      · by_cases hb : kk x < kk b
        · have h1 : kk a < kk b := by omega
          simp only [put, if_neg ha, if_pos ha2, if_pos hb, if_pos h1]
        · have hb2 : ¬ kk x = kk b := by omega
          have h1 : kk b < kk a := by omega
          have h2 : ¬ kk a < kk b := by omega
          simp only [put, if_neg ha, if_pos ha2, if_neg hb, if_neg hb2, if_pos h1, if_neg h2, if_neg hab]
      · by_cases hb : kk x < kk b
        · have h1 : kk a < kk b := by omega
          simp only [put, if_neg ha, if_neg ha2, if_pos hb, if_pos h1]
        · by_cases hb2 : kk x = kk b
          · have h1 : kk a < kk b := by omega
            have h2 : ¬ kk b < kk a := by omega
            have h3 : ¬ kk b = kk a := by omega
            simp only [put, if_neg ha, if_neg ha2, if_neg hb, if_pos hb2, if_pos h1, if_neg h2, if_neg h3]
          · by_cases h1 : kk a < kk b
            · have h2 : ¬ kk b < kk a := by omega
              have h3 : ¬ kk b = kk a := by omega
              simp only [put, if_neg ha, if_neg ha2, if_neg hb, if_neg hb2, if_pos h1, if_neg h2, if_neg h3]
            · have h2 : kk b < kk a := by omega
              simp only [put, if_neg ha, if_neg ha2, if_neg hb, if_neg hb2, if_neg h1, if_pos h2, if_neg hab]
/-- What is so where a move goes. -/
structure MoveOk (q : Nat) (l : List S33) (i w n : Int) : Prop where
  hl : l.length ≤ 4096
  hok : okC 0 l = true
  hi : 1 ≤ i ∧ i ≤ 1024
  hw : 1 ≤ w ∧ w ≤ 1024
  hn : 1 ≤ n ∧ n ≤ 1048576
  h2 : 0 ≤ (mvK q n (cellAt i w l)).f2
  h3 : 0 ≤ (mvK q n (cellAt i w l)).f3
  h4 : 0 ≤ (mvK q n (cellAt i w l)).f4
  h5 : (mvK q n (cellAt i w l)).f5 ≤ 1125899906842624
  hroom : ¬ (hasK (key i w) l = false ∧ l.length ≥ 4096)
theorem moveS_yes {q : Nat} {l : List S33} {i w n : Int} (h : MoveOk q l i w n) : moveS q l i w n = (put (mvK q n (cellAt i w l)) l, 0) := by
  have e : cellS l i w = (cellAt i w l, 0) := by
    unfold cellS
    rw [if_pos (show checkS l = 0 by unfold checkS; rw [if_pos ⟨h.hl, h.hok⟩]), if_pos ⟨h.hi, h.hw⟩]
  have := h.hn; have := h.h2; have := h.h3; have := h.h4; have := h.h5
  unfold moveS
  rw [e, if_neg (fun h => h rfl), if_neg (by omega)]
  dsimp only
  rw [if_neg (by omega), if_neg (by omega), if_neg h.hroom]
theorem moveS_ok {q : Nat} {l : List S33} {i w n : Int} (h : (moveS q l i w n).2 = 0) : MoveOk q l i w n := by
  unfold moveS at h
  by_cases h0 : (cellS l i w).2 = 0
  · obtain ⟨hl, hok, hi, hw, he⟩ := cellS_ok h0
    rw [if_neg (fun h => h h0), he] at h
    dsimp only at h
    split at h
    · cases h
    · split at h
      · cases h
      · split at h
        · cases h
        · split at h
          · cases h
          · rename_i a1 a2 a3 a4
            exact ⟨hl, hok, hi, hw, by omega, by omega, by omega, by omega, by omega, a4⟩
  · rw [if_pos h0] at h; exact absurd h h0
theorem moveS_err {q : Nat} {l : List S33} {i w n : Int} (h : (moveS q l i w n).2 ≠ 0) : (moveS q l i w n).1 = [] := by
  unfold moveS at h ⊢
  split
  · rfl
  · rename_i a0
    rw [if_neg a0] at h
    split
    · rfl
    · rename_i a1
      rw [if_neg a1] at h
      split
      · rfl
      · rename_i a2
        rw [if_neg a2] at h
        split
        · rfl
        · rename_i a3
          rw [if_neg a3] at h
          split
          · rfl
          · rename_i a4
            rw [if_neg a4] at h; exact absurd rfl h
theorem mvK_sum (q : Nat) (n : Int) (c : S33) (h : c.f2 + c.f3 + c.f4 = c.f5) : (mvK q n c).f2 + (mvK q n c).f3 + (mvK q n c).f4 = (mvK q n c).f5 := by
  unfold mvK; split <;> dsimp only <;> omega
theorem MoveOk.at_ {q : Nat} {l : List S33} {i w n : Int} (h : MoveOk q l i w n) : goodC (cellAt i w l) ∧ kk (cellAt i w l) = key i w := by
  obtain ⟨h1, h2, h3⟩ := cellAt_good i w h.hi h.hw l 0 h.hok
  exact ⟨h1, by unfold kk; rw [h2, h3]⟩
theorem MoveOk.good {q : Nat} {l : List S33} {i w n : Int} (h : MoveOk q l i w n) : goodC (mvK q n (cellAt i w l)) ∧ kk (mvK q n (cellAt i w l)) = key i w := by
  obtain ⟨h1, h2⟩ := h.at_
  have hs := mvK_sum q n _ h1.2.2.2.2.2.2
  have := h.h2; have := h.h3; have := h.h4; have := h.h5
  obtain ⟨k1, k2⟩ := mvK_key q n (cellAt i w l)
  refine ⟨⟨by rw [k1]; exact h1.1, by rw [k2]; exact h1.2.1, by omega, by omega, by omega, by omega, hs⟩, by rw [mvK_kk]; exact h2⟩
theorem key_pos {i w : Int} (hi : 1 ≤ i ∧ i ≤ 1024) (hw : 1 ≤ w ∧ w ≤ 1024) : 0 < key i w := by unfold key; omega
/-- Behind a move the cells are cells. -/
theorem MoveOk.next {q : Nat} {l : List S33} {i w n : Int} (h : MoveOk q l i w n) : (put (mvK q n (cellAt i w l)) l).length ≤ 4096 ∧ okC 0 (put (mvK q n (cellAt i w l)) l) = true := by
  obtain ⟨g1, g2⟩ := h.good
  refine ⟨?_, put_ok _ g1 l 0 (by rw [g2]; exact key_pos h.hi h.hw) h.hok⟩
  rw [put_len _ l 0 h.hok, g2]
  have := h.hroom
  have := h.hl
  split
  · exact h.hl
  · rename_i hc
    rcases Nat.lt_or_ge l.length 4096 with hlt | hge
    · omega
    · exact absurd ⟨Bool.eq_false_iff.mpr hc, hge⟩ h.hroom
theorem mvK_zero (q : Nat) (hq : q ≠ 0) (n : Int) (hn : 1 ≤ n) (i w : Int) : (mvK q n ⟨i, w, 0, 0, 0, 0⟩).f2 < 0 ∨ (mvK q n ⟨i, w, 0, 0, 0, 0⟩).f3 < 0 ∨ (mvK q n ⟨i, w, 0, 0, 0, 0⟩).f4 < 0 := by
  unfold mvK
  split
  · exact absurd rfl hq
  · dsimp only; omega
  · dsimp only; omega
  · dsimp only; omega
  · dsimp only; omega
/-- What is taken from a cell is there. -/
theorem MoveOk.has {q : Nat} {l : List S33} {i w n : Int} (h : MoveOk q l i w n) (hq : q ≠ 0) : hasK (key i w) l = true := by
  by_cases hc : hasK (key i w) l = true
  · exact hc
  · have h2 := h.h2; have h3 := h.h3; have h4 := h.h4; have := h.hn
    rw [cellAt_no i w l (Bool.eq_false_iff.mpr hc)] at h2 h3 h4
    have := mvK_zero q hq n (by omega) i w
    omega
end Go.Proofs.Ytkgbdahkncefhaa.Pure
