/- Plain: what the document's own checks, questions and moves of cells say. -/
import Derived.Test.YtkgbdahkncefhaaZStockLink
import Derived.Test.YtkgbdahkncefhaaZPrint16
set_option linter.unusedVariables false
namespace Go.Proofs.Ytkgbdahkncefhaa.Pure
open Go.RowKit Go.Proofs.Ytkgbdahkncefhaa.Print Go.Proofs.YtkgbdahkncefhaaW.PrintWords Go.Proofs.YtkgbdahkncefhaaW.PrintLast Go.Proofs.YtkgbdahkncefhaaW.PrintMore
theorem rcheck_l0 (l : List S33) (hl : l.length ≤ 4096) : ∀ (d k : Nat) (last : Int) (i : Nat), i + d = l.length → 3 * d < k → (i = 0 → last = 0) → (∀ h : 0 < i ∧ i ≤ l.length, last = kk (l[i - 1]'(by omega)) ∧ goodC (l[i - 1]'(by omega))) →
    ladingref13_Check.l0 k l l (l.length : Int) (i : Int) = some (if okC last (l.drop i) then 0 else 9)
  | 0, k, last, i, h, hk, _, _ => by
    obtain ⟨k, rfl⟩ : ∃ q, k = q + 1 := ⟨k - 1, by omega⟩
    rw [ladingref13_Check.l0, if_neg (by omega), List.drop_of_length_le (by omega)]; rfl
  | d + 1, k, last, i, h, hk, hz, hp => by
    obtain ⟨k, rfl⟩ : ∃ q, k = q + 3 := ⟨k - 3, by omega⟩
    have hi : i < l.length := by omega
    rw [ladingref13_Check.l0, if_pos (by omega), if_pos (by omega), if_pos (by omega), rd_at l i hi, drop_at l i hi, okC]
    have bad : ∀ a b c d e f : Int, ladingref13_Check.j1 (k + 1 + 1) l (i : Int) l (l.length : Int) (i : Int) true a b c d e f = some 9 := fun a b c d e f => by rw [ladingref13_Check.j1, if_pos rfl]
    have bad2 : ∀ a b c d e f : Int, ladingref13_Check.j2 (k + 1) l (i : Int) l (l.length : Int) (i : Int) true a b c d e f = some 9 := fun a b c d e f => by rw [ladingref13_Check.j2, if_pos rfl]
    by_cases hg : goodC l[i]
    · have hnext := rcheck_l0 l hl d k (kk l[i]) (i + 1) (by omega) (by omega) (by omega) (fun _ => ⟨rfl, hg⟩)
      rw [decide_eq_true hg, Bool.and_true]
      rw [if_neg (by omega), if_neg (by omega), if_neg (by omega), if_neg (by omega), if_neg (by omega), if_neg (by omega), decide_eq_false (by omega), ladingref13_Check.j1, if_neg (by decide),
        if_neg (by omega), if_neg (by omega), if_neg (by omega), if_neg (by omega), w64 (x := l[i].f2 + l[i].f3) (by omega) (by omega), w64 (x := l[i].f2 + l[i].f3 + l[i].f4) (by omega) (by omega),
        show (l[i].f5 != l[i].f2 + l[i].f3 + l[i].f4) = false from bne_eq_false_iff_eq.mpr hg.2.2.2.2.2.2.symm, ladingref13_Check.j2, if_neg (by decide), w64n i (by omega), hnext]
      rcases Nat.eq_zero_or_pos i with hi0 | hi0
      · subst hi0
        rw [if_neg (by decide), hz rfl, decide_eq_true (show (0 : Int) < kk l[0] by unfold kk key; omega), Bool.true_and]
      · obtain ⟨hp1, hp2⟩ := hp ⟨hi0, by omega⟩
        rw [if_pos (by omega), show (i : Int) - 1 = ((i - 1 : Nat) : Int) by omega, w64 (by omega) (by omega), if_pos (by omega), if_pos (by omega), rd_at l (i - 1) (by omega), hp1]
        have hq := hp2.2.1
        have hw := hg.2.1
        by_cases c1 : l[i - 1].f0 > l[i].f0
        · rw [if_pos c1, decide_eq_false (by unfold kk key; omega), Bool.false_and]; rfl
        · rw [if_neg c1]
          by_cases c2 : l[i - 1].f0 = l[i].f0
          · rw [if_pos c2]
            by_cases c3 : l[i - 1].f1 ≥ l[i].f1
            · rw [if_pos c3, decide_eq_false (by unfold kk key; omega), Bool.false_and]; rfl
            · rw [if_neg c3, decide_eq_true (by unfold kk key; omega), Bool.true_and]
          · rw [if_neg c2, decide_eq_true (by unfold kk key; omega), Bool.true_and]
    · rw [decide_eq_false hg, Bool.and_false, Bool.false_and]
      show _ = some 9
      by_cases h0 : l[i].f0 < 1
      · rw [if_pos h0, bad]
      by_cases h1 : l[i].f0 > 1024
      · rw [if_neg h0, if_pos h1, bad]
      by_cases h2 : l[i].f1 < 1
      · rw [if_neg h0, if_neg h1, if_pos h2, bad]
      by_cases h3 : l[i].f1 > 1024
      · rw [if_neg h0, if_neg h1, if_neg h2, if_pos h3, bad]
      by_cases h4 : l[i].f2 < 0
      · rw [if_neg h0, if_neg h1, if_neg h2, if_neg h3, if_pos h4, bad]
      by_cases h5 : l[i].f3 < 0
      · rw [if_neg h0, if_neg h1, if_neg h2, if_neg h3, if_neg h4, if_pos h5, bad]
      by_cases h6 : l[i].f4 < 0
      · rw [if_neg h0, if_neg h1, if_neg h2, if_neg h3, if_neg h4, if_neg h5, decide_eq_true h6, bad]
      rw [if_neg h0, if_neg h1, if_neg h2, if_neg h3, if_neg h4, if_neg h5, decide_eq_false h6, ladingref13_Check.j1, if_neg (by decide)]
      by_cases h7 : l[i].f5 > 1125899906842624
      · rw [if_pos h7, bad2]
      by_cases h8 : l[i].f2 > 1125899906842624
      · rw [if_neg h7, if_pos h8, bad2]
      by_cases h9 : l[i].f3 > 1125899906842624
      · rw [if_neg h7, if_neg h8, if_pos h9, bad2]
      by_cases h10 : l[i].f4 > 1125899906842624
      · rw [if_neg h7, if_neg h8, if_neg h9, if_pos h10, bad2]
      rw [if_neg h7, if_neg h8, if_neg h9, if_neg h10, w64 (x := l[i].f2 + l[i].f3) (by omega) (by omega), w64 (x := l[i].f2 + l[i].f3 + l[i].f4) (by omega) (by omega),
        show (l[i].f5 != l[i].f2 + l[i].f3 + l[i].f4) = true from bne_iff_ne.mpr (by omega), bad2]
theorem rcheck_is (l : List S33) {k : Nat} (hk : 3 * l.length + 1 < k) : ladingref13_Check.f k l = some (checkS l) := by
  unfold ladingref13_Check.f checkS
  by_cases h : (l.length : Int) > 4096
  · rw [if_pos h, if_neg (by omega)]
  · rw [if_neg h]
    have := rcheck_l0 l (by omega) l.length k 0 0 (by omega) (by omega) (fun _ => rfl) (fun h => absurd h.1 (by omega))
    rw [List.drop_zero] at this
    rw [show ((0 : Nat) : Int) = 0 from rfl] at this
    rw [this]
    by_cases ho : okC 0 l = true
    · rw [if_pos ho, if_pos ⟨by omega, ho⟩]
    · rw [if_neg ho, if_neg (fun h => ho h.2)]
theorem wrong_is (l : List S33) (i w : Int) {k : Nat} (hk : 3 * l.length + 1 < k) : ladingref13_wrong.f k l i w = some (cellS l i w).2 := by
  unfold ladingref13_wrong.f cellS
  rw [rcheck_is l hk, some_bind]
  by_cases hc : checkS l = 0
  · rw [if_pos hc, if_pos hc]
    by_cases h1 : i < 1
    · rw [if_pos h1, if_neg (by omega)]
    by_cases h2 : i > 1024
    · rw [if_neg h1, if_pos h2, if_neg (by omega)]
    by_cases h3 : w < 1
    · rw [if_neg h1, if_neg h2, if_pos h3, if_neg (by omega)]
    by_cases h4 : w > 1024
    · rw [if_neg h1, if_neg h2, if_neg h3, if_pos h4, if_neg (by omega)]
    rw [if_neg h1, if_neg h2, if_neg h3, if_neg h4, if_pos (by omega), hc]
  · rw [if_neg hc, if_neg hc, checkS_9 hc]
theorem of_l0 (l : List S33) (i w : Int) (hw : 1 ≤ w ∧ w ≤ 1024) (hl : l.length ≤ 4096) (hg : ∀ x ∈ l, goodC x) : ∀ (d k j : Nat), j + d = l.length → d < k → ladingref13_Of.l0 k i w l (l.length : Int) (j : Int) =
    some ((cellAt i w (l.drop j)).f0, (cellAt i w (l.drop j)).f1, (cellAt i w (l.drop j)).f2, (cellAt i w (l.drop j)).f3, (cellAt i w (l.drop j)).f4, (cellAt i w (l.drop j)).f5)
  | 0, k, j, h, hk => by
    obtain ⟨k, rfl⟩ : ∃ q, k = q + 1 := ⟨k - 1, by omega⟩
    rw [ladingref13_Of.l0, if_neg (by omega), List.drop_of_length_le (by omega)]; rfl
  | d + 1, k, j, h, hk => by
    obtain ⟨k, rfl⟩ : ∃ q, k = q + 1 := ⟨k - 1, by omega⟩
    have hi : j < l.length := by omega
    have hgj := hg l[j] (List.getElem_mem _)
    rw [ladingref13_Of.l0, if_pos (by omega), if_pos (by omega), if_pos (by omega), rd_at l j hi, w64n j (by omega), of_l0 l i w hw hl hg d k (j + 1) (by omega) (by omega), drop_at l j hi, cellAt]
    by_cases hk : kk l[j] = key i w
    · have := (key_inj hgj.2.1 hw).1 hk
      rw [if_pos hk, if_pos this.1, if_pos this.2]
    · rw [if_neg hk]
      by_cases h1 : l[j].f0 = i
      · rw [if_pos h1, if_neg (fun h2 => hk ((key_inj hgj.2.1 hw).2 ⟨h1, h2⟩))]
      · rw [if_neg h1]
theorem of_is (l : List S33) (i w : Int) (hw : 1 ≤ w ∧ w ≤ 1024) (hl : l.length ≤ 4096) (hok : okC 0 l = true) {k : Nat} (hk : l.length < k) : ladingref13_Of.f k l i w =
    some ((cellAt i w l).f0, (cellAt i w l).f1, (cellAt i w l).f2, (cellAt i w l).f3, (cellAt i w l).f4, (cellAt i w l).f5) := by
  have := of_l0 l i w hw hl (fun x hx => (okC_all l 0 hok x hx).2) l.length k 0 (by omega) hk
  rwa [List.drop_zero] at this
theorem rmk_is (q : Nat) (hq : q < 5) (n : Int) (hn : 1 ≤ n ∧ n ≤ 1048576) (c : S33) (hc : smallC c) : ladingref13_moved.f c.f0 c.f1 c.f2 c.f3 c.f4 c.f5 (q : Int) n =
    some ((mvK q n c).f0, (mvK q n c).f1, (mvK q n c).f2, (mvK q n c).f3, (mvK q n c).f4, (mvK q n c).f5, decide (0 ≤ (mvK q n c).f2 ∧ 0 ≤ (mvK q n c).f3 ∧ 0 ≤ (mvK q n c).f4)) := by
  have a0 : wrap64 (c.f2 + n) = c.f2 + n := w64 (by omega) (by omega)
  have a1 : wrap64 (c.f5 + n) = c.f5 + n := w64 (by omega) (by omega)
  have a2 : wrap64 (c.f2 - n) = c.f2 - n := w64 (by omega) (by omega)
  have a3 : wrap64 (c.f3 + n) = c.f3 + n := w64 (by omega) (by omega)
  have a4 : wrap64 (c.f3 - n) = c.f3 - n := w64 (by omega) (by omega)
  have a5 : wrap64 (c.f4 + n) = c.f4 + n := w64 (by omega) (by omega)
  have a6 : wrap64 (c.f4 - n) = c.f4 - n := w64 (by omega) (by omega)
  have e0 : decide (0 ≤ c.f2 + n ∧ 0 ≤ c.f3 ∧ 0 ≤ c.f4) = true := decide_eq_true (by omega)
  have e1 : decide (0 ≤ c.f2 - n ∧ 0 ≤ c.f3 + n ∧ 0 ≤ c.f4) = decide (c.f2 ≥ n) := decide_eq_decide.mpr (by omega)
  have e2 : decide (0 ≤ c.f2 + n ∧ 0 ≤ c.f3 - n ∧ 0 ≤ c.f4) = decide (c.f3 ≥ n) := decide_eq_decide.mpr (by omega)
  have e3 : decide (0 ≤ c.f2 ∧ 0 ≤ c.f3 - n ∧ 0 ≤ c.f4 + n) = decide (c.f3 ≥ n) := decide_eq_decide.mpr (by omega)
  have e4 : decide (0 ≤ c.f2 + n ∧ 0 ≤ c.f3 ∧ 0 ≤ c.f4 - n) = decide (c.f4 ≥ n) := decide_eq_decide.mpr (by omega)
  unfold ladingref13_moved.f
  match q, hq with
  | 0, _ => rw [if_pos (by decide), a0, a1]; simp only [mvK]; rw [e0]
  | 1, _ => rw [if_neg (by decide), if_pos (by decide), a2, a3]; simp only [mvK]; rw [e1]
  | 2, _ => rw [if_neg (by decide), if_neg (by decide), if_pos (by decide), a0, a4]; simp only [mvK]; rw [e2]
  | 3, _ => rw [if_neg (by decide), if_neg (by decide), if_neg (by decide), if_pos (by decide), a4, a5]; simp only [mvK]; rw [e3]
  | 4, _ => rw [if_neg (by decide), if_neg (by decide), if_neg (by decide), if_neg (by decide), a0, a6]; simp only [mvK]; rw [e4]
theorem eta (x : S33) : (⟨x.f0, x.f1, x.f2, x.f3, x.f4, x.f5⟩ : S33) = x := rfl
theorem with_done (l : List S33) (c : S33) (hl : l.length ≤ 4096) (hw : 1 ≤ c.f1 ∧ c.f1 ≤ 1024) (hg : ∀ x ∈ l, goodC x) : ∀ (d k j : Nat) (out : List S33), j + d = l.length → 2 * d < k → (∀ x ∈ l.drop j, kk x ≠ kk c) → out.length ≤ j + 1 →
    ladingref13_with.l0 k out true l (l.length : Int) (j : Int) c.f0 c.f1 c.f2 c.f3 c.f4 c.f5 = some (out ++ l.drop j)
  | 0, k, j, out, h, hk, _, _ => by
    obtain ⟨k, rfl⟩ : ∃ q, k = q + 1 := ⟨k - 1, by omega⟩
    rw [ladingref13_with.l0, if_neg (by omega), if_pos rfl, List.drop_of_length_le (by omega), List.append_nil]
  | d + 1, k, j, out, h, hk, hx, ho => by
    obtain ⟨k, rfl⟩ : ∃ q, k = q + 2 := ⟨k - 2, by omega⟩
    have hi : j < l.length := by omega
    have hd := drop_at l j hi
    have h0 := hx l[j] (hd ▸ List.mem_cons_self)
    have hgj := hg l[j] (List.getElem_mem _)
    have ih := with_done l c hl hw hg d k (j + 1) (out ++ [l[j]]) (by omega) (by omega) (fun x hm => hx x (hd ▸ List.mem_cons_of_mem _ hm)) (by rw [List.length_append, List.length_singleton]; omega)
    rw [ladingref13_with.l0, if_pos (by omega), if_pos (by omega), if_pos (by omega), if_pos rfl, rd_at l j hi, ladingref13_with.j1, if_neg (by decide), eta, w64n j (by omega), ih, if_pos (show out.length < 2932031007402 by omega), hd, List.append_assoc]
    by_cases h1 : l[j].f0 = c.f0
    · rw [if_pos h1, if_neg (fun h2 => h0 ((key_inj hgj.2.1 hw).2 ⟨h1, h2⟩))]; rfl
    · rw [if_neg h1]; rfl
theorem with_l0 (l : List S33) (c : S33) (hl : l.length ≤ 4096) (hw : 1 ≤ c.f1 ∧ c.f1 ≤ 1024) (hg : ∀ x ∈ l, goodC x) : ∀ (d k j : Nat) (out : List S33) (last : Int), j + d = l.length → 2 * d < k → okC last (l.drop j) = true → out.length ≤ j →
    ladingref13_with.l0 k out false l (l.length : Int) (j : Int) c.f0 c.f1 c.f2 c.f3 c.f4 c.f5 = some (out ++ put c (l.drop j))
  | 0, k, j, out, last, h, hk, _, ho => by
    obtain ⟨k, rfl⟩ : ∃ q, k = q + 1 := ⟨k - 1, by omega⟩
    rw [ladingref13_with.l0, if_neg (by omega), if_neg (by decide), List.drop_of_length_le (by omega), if_pos (by omega)]
    rfl
  | d + 1, k, j, out, last, h, hk, hok, ho => by
    obtain ⟨k, rfl⟩ : ∃ q, k = q + 2 := ⟨k - 2, by omega⟩
    have hi : j < l.length := by omega
    have hd := drop_at l j hi
    rw [hd] at hok ⊢
    obtain ⟨g1, g2, g3⟩ := okC_cons.1 hok
    have hq := g2.2.1
    have hlt : kk l[j] < kk c ↔ (l[j].f0 < c.f0 ∨ l[j].f0 = c.f0 ∧ l[j].f1 < c.f1) := by unfold kk key; omega
    have heq : kk l[j] = kk c ↔ l[j].f0 = c.f0 ∧ l[j].f1 = c.f1 := key_inj hq hw
    rw [ladingref13_with.l0, if_pos (by omega), if_pos (by omega), if_pos (by omega), if_neg (by decide), rd_at l j hi, put]
    by_cases h1 : kk l[j] < kk c
    · have hne : ¬ kk l[j] = kk c := by omega
      have ih := with_l0 l c hl hw hg d k (j + 1) (out ++ [l[j]]) _ (by omega) (by omega) g3 (by rw [List.length_append, List.length_singleton]; omega)
      have hj1 : ladingref13_with.j1 (k + 1) out false l (l.length : Int) (j : Int) false c.f0 c.f1 c.f2 c.f3 c.f4 c.f5 l[j].f0 l[j].f1 l[j].f2 l[j].f3 l[j].f4 l[j].f5 = some (out ++ l[j] :: put c (l.drop (j + 1))) := by
        rw [ladingref13_with.j1, if_neg (by decide), eta, w64n j (by omega), ih, if_pos (show out.length < 2932031007402 by omega), List.append_assoc]
        by_cases e1 : l[j].f0 = c.f0
        · rw [if_pos e1, if_neg (fun e2 => hne (heq.2 ⟨e1, e2⟩))]; rfl
        · rw [if_neg e1]; rfl
      rw [if_pos h1]
      rcases hlt.1 h1 with hc | hc
      · rw [if_neg (by omega), if_neg (by omega), hj1]
      · rw [if_neg (by omega), if_pos hc.1, decide_eq_false (by omega), hj1]
    · have habove : ∀ x ∈ l.drop (j + 1), kk x ≠ kk c := fun x hx => by
        have := (okC_all _ _ g3 x hx).1; omega
      rw [if_neg h1]
      have hj1 : ladingref13_with.j1 (k + 1) out false l (l.length : Int) (j : Int) true c.f0 c.f1 c.f2 c.f3 c.f4 c.f5 l[j].f0 l[j].f1 l[j].f2 l[j].f3 l[j].f4 l[j].f5 = some (out ++ (if kk l[j] = kk c then c :: l.drop (j + 1) else c :: l[j] :: l.drop (j + 1))) := by
        rw [ladingref13_with.j1, if_pos rfl, if_pos (show out.length < 2932031007402 by omega), some_bind, eta, eta, w64n j (by omega)]
        by_cases e : kk l[j] = kk c
        · obtain ⟨e1, e2⟩ := heq.1 e
          rw [if_pos e1, if_pos e2, if_pos e, with_done l c hl hw hg d k (j + 1) _ (by omega) (by omega) habove (by rw [List.length_append, List.length_singleton]; omega), List.append_assoc]; rfl
        · have hlen : (out ++ [c]).length < 2932031007402 := by rw [List.length_append, List.length_singleton]; omega
          have ih := with_done l c hl hw hg d k (j + 1) (out ++ [c] ++ [l[j]]) (by omega) (by omega) habove (by simp only [List.length_append, List.length_singleton]; omega)
          rw [if_neg e, if_pos hlen, ih, List.append_assoc, List.append_assoc]
          by_cases e1 : l[j].f0 = c.f0
          · rw [if_pos e1, if_neg (fun e2 => e (heq.2 ⟨e1, e2⟩))]; rfl
          · rw [if_neg e1]; rfl
      by_cases c1 : l[j].f0 > c.f0
      · rw [if_pos c1, hj1]
      · rw [if_neg c1]
        by_cases c2 : l[j].f0 = c.f0
        · rw [if_pos c2, decide_eq_true (by omega), hj1]
        · exact absurd (hlt.2 (.inl (by omega))) h1
theorem with_is (l : List S33) (c : S33) (hl : l.length ≤ 4096) (hw : 1 ≤ c.f1 ∧ c.f1 ≤ 1024) (hok : okC 0 l = true) {k : Nat} (hk : 2 * l.length < k) : ladingref13_with.f k l c.f0 c.f1 c.f2 c.f3 c.f4 c.f5 = some (put c l) := by
  have := with_l0 l c hl hw (fun x hx => (okC_all l 0 hok x hx).2) l.length k 0 [] 0 (by omega) hk (by rw [List.drop_zero]; exact hok) (Nat.le_refl _)
  rwa [List.drop_zero] at this
theorem rput_len (c : S33) : ∀ (l : List S33) (last : Int), okC last l = true → (put c l).length = if hasK (kk c) l = true then l.length else l.length + 1
  | [], _, _ => rfl
  | x :: r, last, hok => by
    obtain ⟨g1, g2, g3⟩ := okC_cons.1 hok
    rw [put, hasK]
    by_cases h1 : kk x < kk c
    · rw [if_pos h1, if_neg (show ¬ kk x = kk c by omega), List.length_cons, List.length_cons, rput_len c r _ g3]
      split <;> omega
    · rw [if_neg h1]
      by_cases h2 : kk x = kk c
      · rw [if_pos h2, if_pos h2, if_pos rfl]; rfl
      · rw [if_neg h2, if_neg h2, hasK_above (kk c) r _ g3 (by omega)]; rfl
theorem rj1_no (q : Int) (l : List S33) (i w n e : Int) (he : e ≠ 0) (k : Nat) : ladingref13_Move.j1 (k + 1) q l i w n e = some ([], e) := by
  rw [ladingref13_Move.j1, if_neg he]
theorem rmove_is (q : Nat) (hq : q < 5) (l : List S33) (i w n : Int) {k : Nat} (hk : 3 * l.length + 4 < k) : ladingref13_Move.f k (q : Int) l i w n = some (moveS q l i w n) := by
  obtain ⟨k, rfl⟩ : ∃ p, k = p + 2 := ⟨k - 2, by omega⟩
  unfold ladingref13_Move.f moveS
  rw [wrong_is l i w (by omega), some_bind]
  by_cases h0 : (cellS l i w).2 = 0
  · obtain ⟨hl, hok, hi, hw, he⟩ := cellS_ok h0
    rw [if_pos h0, if_neg (show ¬ (cellS l i w).2 ≠ 0 from fun h => h h0), he]
    dsimp only
    obtain ⟨hg, hf0, hf1⟩ := cellAt_good i w hi hw l 0 hok
    by_cases hn : 1 ≤ n ∧ n ≤ 1048576
    · rw [if_neg (show ¬ n < 1 by omega), decide_eq_false (show ¬ n > 1048576 by omega), if_neg (show ¬ (n < 1 ∨ n > 1048576) by omega), ladingref13_Move.j0, if_neg (by decide), ladingref13_Move.j1, if_pos rfl, of_is l i w hw hl hok (by omega), some_bind]
      dsimp only
      generalize cellAt i w l = c at hg hf0 hf1
      rw [rmk_is q hq n hn c ⟨hg.2.2.1, hg.2.2.2.1, hg.2.2.2.2.1, hg.2.2.2.2.2.1, hg.2.2.2.2.2.2⟩, some_bind]
      dsimp only
      have hd1 : 1 ≤ (mvK q n c).f1 ∧ (mvK q n c).f1 ≤ 1024 := by rw [(mvK_key q n c).2]; exact hg.2.1
      have hkk : kk (mvK q n c) = key i w := by rw [mvK_kk]; unfold kk; rw [hf0, hf1]
      generalize mvK q n c = d at hkk hd1
      by_cases h2 : 0 ≤ d.f2 ∧ 0 ≤ d.f3 ∧ 0 ≤ d.f4
      · rw [decide_eq_true h2, if_pos rfl, if_neg (show ¬ (d.f2 < 0 ∨ d.f3 < 0 ∨ d.f4 < 0) by omega)]
        by_cases h5 : d.f5 > 1125899906842624
        · rw [if_pos h5, if_pos h5]
        · rw [if_neg h5, if_neg h5, with_is l d hl hd1 hok (by omega), some_bind, rput_len d l 0 hok, hkk]
          by_cases hb : hasK (key i w) l = true
          · rw [if_pos hb, if_neg (by omega), if_neg (fun h => absurd (hb.symm.trans h.1) (by decide))]
          · rw [if_neg hb]
            by_cases h6 : l.length ≥ 4096
            · rw [if_pos (by omega), if_pos ⟨Bool.eq_false_iff.mpr hb, h6⟩]
            · rw [if_neg (by omega), if_neg (fun h => h6 h.2)]
      · rw [decide_eq_false h2, if_neg (by decide), if_pos (show d.f2 < 0 ∨ d.f3 < 0 ∨ d.f4 < 0 by omega)]
    · rw [if_pos (show n < 1 ∨ n > 1048576 by omega)]
      by_cases h1 : n < 1
      · rw [if_pos h1, ladingref13_Move.j0, if_pos rfl, rj1_no _ _ _ _ _ 2 (by decide)]
      · rw [if_neg h1, decide_eq_true (show n > 1048576 by omega), ladingref13_Move.j0, if_pos rfl, rj1_no _ _ _ _ _ 2 (by decide)]
  · rw [if_neg h0, if_pos h0, ladingref13_Move.j0, if_neg (by decide), rj1_no _ _ _ _ _ _ h0]
end Go.Proofs.Ytkgbdahkncefhaa.Pure
