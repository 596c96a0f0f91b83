/- Plain: what checks, questions and moves of cells say. -/
import Derived.Test.YtkgbdahkncefhaaZPrint9
import Derived.Test.YtkgbdahkncefhaaZPrint12
import Derived.Test.YtkgbdahkncefhaaZPrint10
set_option linter.unusedVariables false
namespace Go.Proofs.Ytkgbdahkncefhaa.Pure
open Go.RowKit Go.Proofs.Ytkgbdahkncefhaa.Print Go.Proofs.YtkgbdahkncefhaaW.PrintWords Go.Proofs.YtkgbdahkncefhaaW.PrintLast Go.Proofs.YtkgbdahkncefhaaW.PrintMore
theorem up {α : Type} {f : Nat → Option α} (hm : ∀ k, LeO (f k) (f (k + 1))) {k n : Nat} {r : α} (h : f k = some r) (hk : k ≤ n) : f n = some r := by
  obtain ⟨d, rfl⟩ : ∃ d, n = k + d := ⟨n - k, by omega⟩
  induction d with
  | zero => exact h
  | succ d ih => exact hm (k + d) r (ih (by omega))
theorem w64 {x : Int} (h0 : -9223372036854775808 ≤ x) (h1 : x ≤ 9223372036854775807) : wrap64 x = x := by unfold wrap64; omega
theorem w64n (i : Nat) (h : i < 9223372036854775807) : wrap64 ((i : Int) + 1) = ((i + 1 : Nat) : Int) := by rw [w64 (by omega) (by omega)]; rfl
theorem rd_at (l : List S33) (i : Nat) (h : i < l.length) : rd_T33 l (i : Int) = l[i] := by
  unfold rd_T33
  rw [Int.toNat_natCast, List.getD_eq_getElem?_getD, List.getElem?_eq_getElem h]; rfl
theorem drop_at (l : List S33) (i : Nat) (h : i < l.length) : l.drop i = l[i] :: l.drop (i + 1) := List.drop_eq_getElem_cons h
theorem some_bind {α β : Type} (a : α) (f : α → Option β) : (some a).bind f = f a := rfl
theorem known_is (a : Int) : stock_known.f a = some (decide (1 ≤ a ∧ a ≤ 1024)) := by
  unfold stock_known.f
  by_cases h : a ≥ 1
  · rw [if_pos h]; congr 1; exact decide_eq_decide.mpr ⟨fun h2 => ⟨h, h2⟩, fun h2 => h2.2⟩
  · rw [if_neg h, decide_eq_false (by omega)]
abbrev goodC (x : S33) : Prop := (1 ≤ x.f0 ∧ x.f0 ≤ 1024) ∧ (1 ≤ x.f1 ∧ x.f1 ≤ 1024) ∧ (0 ≤ x.f2 ∧ x.f2 ≤ 1125899906842624) ∧ (0 ≤ x.f3 ∧ x.f3 ≤ 1125899906842624) ∧ (0 ≤ x.f4 ∧ x.f4 ≤ 1125899906842624) ∧ (0 ≤ x.f5 ∧ x.f5 ≤ 1125899906842624) ∧ x.f2 + x.f3 + x.f4 = x.f5
theorem made_step (k : Nat) (L : List Int) (hL : L.length = 4) (i : Nat) (hi : i < 4) (a b c d e f : Int) :
    stock_made.l0 (k + 1) L 4 (i : Int) a b c d e f = if rd L (i : Int) < 0 then some false else if rd L (i : Int) > 1125899906842624 then some false else stock_made.l0 k L 4 ((i + 1 : Nat) : Int) a b c d e f := by
  rw [stock_made.l0, if_pos (by omega), if_pos (by omega), if_pos (by omega), w64n i (by omega)]
theorem made_is (x : S33) {k : Nat} (hk : 5 ≤ k) : stock_made.f k x.f0 x.f1 x.f2 x.f3 x.f4 x.f5 = some (decide (goodC x)) := by
  obtain ⟨k, rfl⟩ : ∃ q, k = q + 5 := ⟨k - 5, by omega⟩
  unfold stock_made.f
  rw [some_bind]
  have s0 := made_step (k + 4) [x.f2, x.f3, x.f4, x.f5] rfl 0 (by decide) x.f0 x.f1 x.f2 x.f3 x.f4 x.f5
  have s1 := made_step (k + 3) [x.f2, x.f3, x.f4, x.f5] rfl 1 (by decide) x.f0 x.f1 x.f2 x.f3 x.f4 x.f5
  have s2 := made_step (k + 2) [x.f2, x.f3, x.f4, x.f5] rfl 2 (by decide) x.f0 x.f1 x.f2 x.f3 x.f4 x.f5
  have s3 := made_step (k + 1) [x.f2, x.f3, x.f4, x.f5] rfl 3 (by decide) x.f0 x.f1 x.f2 x.f3 x.f4 x.f5
  have e0 : rd [x.f2, x.f3, x.f4, x.f5] ((0 : Nat) : Int) = x.f2 := rfl
  have e1 : rd [x.f2, x.f3, x.f4, x.f5] ((1 : Nat) : Int) = x.f3 := rfl
  have e2 : rd [x.f2, x.f3, x.f4, x.f5] ((2 : Nat) : Int) = x.f4 := rfl
  have e3 : rd [x.f2, x.f3, x.f4, x.f5] ((3 : Nat) : Int) = x.f5 := rfl
  rw [e0] at s0; rw [e1] at s1; rw [e2] at s2; rw [e3] at s3
  show stock_made.l0 (k + 4 + 1) [x.f2, x.f3, x.f4, x.f5] 4 ((0 : Nat) : Int) x.f0 x.f1 x.f2 x.f3 x.f4 x.f5 = _
  rw [s0, s1, s2, s3]
  by_cases h0 : x.f2 < 0
  · rw [if_pos h0, decide_eq_false (by omega)]
  by_cases h1 : x.f2 > 1125899906842624
  · rw [if_neg h0, if_pos h1, decide_eq_false (by omega)]
  by_cases h2 : x.f3 < 0
  · rw [if_neg h0, if_neg h1, if_pos h2, decide_eq_false (by omega)]
  by_cases h3 : x.f3 > 1125899906842624
  · rw [if_neg h0, if_neg h1, if_neg h2, if_pos h3, decide_eq_false (by omega)]
  by_cases h4 : x.f4 < 0
  · rw [if_neg h0, if_neg h1, if_neg h2, if_neg h3, if_pos h4, decide_eq_false (by omega)]
  by_cases h5 : x.f4 > 1125899906842624
  · rw [if_neg h0, if_neg h1, if_neg h2, if_neg h3, if_neg h4, if_pos h5, decide_eq_false (by omega)]
  by_cases h6 : x.f5 < 0
  · rw [if_neg h0, if_neg h1, if_neg h2, if_neg h3, if_neg h4, if_neg h5, if_pos h6, decide_eq_false (by omega)]
  by_cases h7 : x.f5 > 1125899906842624
  · rw [if_neg h0, if_neg h1, if_neg h2, if_neg h3, if_neg h4, if_neg h5, if_neg h6, if_pos h7, decide_eq_false (by omega)]
  rw [if_neg h0, if_neg h1, if_neg h2, if_neg h3, if_neg h4, if_neg h5, if_neg h6, if_neg h7, stock_made.l0, if_neg (by omega), known_is, some_bind]
  by_cases h8 : 1 ≤ x.f0 ∧ x.f0 ≤ 1024
  · rw [decide_eq_true h8, if_pos rfl, known_is, some_bind]
    by_cases h9 : 1 ≤ x.f1 ∧ x.f1 ≤ 1024
    · rw [decide_eq_true h9, if_pos rfl, w64 (x := x.f2 + x.f3) (by omega) (by omega), w64 (by omega) (by omega)]
      congr 1
      by_cases h10 : x.f2 + x.f3 + x.f4 = x.f5
      · rw [decide_eq_true (by omega)]; exact beq_iff_eq.mpr h10
      · rw [decide_eq_false (by omega)]; exact beq_eq_false_iff_ne.mpr h10
    · rw [decide_eq_false h9, if_neg (by decide), decide_eq_false (by omega)]
  · rw [decide_eq_false h8, if_neg (by decide), decide_eq_false (by omega)]
def ordS (p q i w : Int) : Int := if p < i then -1 else if p > i then 1 else if q < w then -1 else if q > w then 1 else 0
theorem or_is (a b : Int) {k : Nat} (hk : 3 ≤ k) : cmp_Or_int.f k [a, b] = some (if a ≠ 0 then a else b) := by
  refine up (cmp_Or_int.mono [a, b]) (k := 3) ?_ hk
  have h0 : rd [a, b] 0 = a := rfl
  have h1 : rd [a, b] 1 = b := rfl
  have w1 : wrap64 (0 + 1) = 1 := w64 (by decide) (by decide)
  have w2 : wrap64 (1 + 1) = 2 := w64 (by decide) (by decide)
  unfold cmp_Or_int.f
  show cmp_Or_int.l0 3 0 [a, b] 2 0 = _
  rw [cmp_Or_int.l0, if_pos (by decide), if_pos (by decide), if_pos (by simp), h0, w1]
  by_cases ha : a = 0
  · rw [if_pos ha, if_neg (by omega), cmp_Or_int.l0, if_pos (by decide), if_pos (by decide), if_pos (by simp), h1, w2]
    by_cases hb : b = 0
    · rw [if_pos hb, cmp_Or_int.l0, if_neg (by decide), hb]
    · rw [if_neg hb]
  · rw [if_neg ha, if_pos ha]
theorem cmp_is (a b : Int) : cmp_Compare_int.f a b = some (if a < b then -1 else if a > b then 1 else 0) := by
  unfold cmp_Compare_int.f cmp_isNaN_int.f
  rw [some_bind, some_bind, if_neg (by simp), if_neg (by simp)]
  split
  · rfl
  · split <;> rfl
theorem order_is (p q a b c d i w a' b' c' d' : Int) {k : Nat} (hk : 3 ≤ k) : stock_order.f k p q a b c d i w a' b' c' d' = some (ordS p q i w) := by
  unfold stock_order.f ordS
  rw [cmp_is, some_bind, cmp_is, some_bind, or_is _ _ hk, some_bind]
  congr 1
  by_cases h1 : p < i
  · rw [if_pos h1, if_pos h1, if_pos (by decide)]
  · rw [if_neg h1, if_neg h1]
    by_cases h2 : p > i
    · rw [if_pos h2, if_pos h2, if_pos (by decide)]
    · rw [if_neg h2, if_neg h2, if_neg (by decide)]
def key (i w : Int) : Int := i * 2048 + w
def kk (x : S33) : Int := key x.f0 x.f1
theorem ord_neg {p q i w : Int} (hq : 1 ≤ q ∧ q ≤ 1024) (hw : 1 ≤ w ∧ w ≤ 1024) : ordS p q i w < 0 ↔ key p q < key i w := by
  unfold ordS key
  by_cases h1 : p < i
  · rw [if_pos h1]; omega
  · rw [if_neg h1]
    by_cases h2 : p > i
    · rw [if_pos h2]; omega
    · rw [if_neg h2]
      by_cases h3 : q < w
      · rw [if_pos h3]; omega
      · rw [if_neg h3]; split <;> omega
theorem ord_zero {p q i w : Int} (hq : 1 ≤ q ∧ q ≤ 1024) (hw : 1 ≤ w ∧ w ≤ 1024) : ordS p q i w = 0 ↔ key p q = key i w := by
  unfold ordS key
  by_cases h1 : p < i
  · rw [if_pos h1]; omega
  · rw [if_neg h1]
    by_cases h2 : p > i
    · rw [if_pos h2]; omega
    · rw [if_neg h2]
      by_cases h3 : q < w
      · rw [if_pos h3]; omega
      · rw [if_neg h3]; split <;> omega
theorem key_inj {p q i w : Int} (hq : 1 ≤ q ∧ q ≤ 1024) (hw : 1 ≤ w ∧ w ≤ 1024) : key p q = key i w ↔ p = i ∧ q = w := by
  unfold key; omega
def okC : Int → List S33 → Bool
  | _, [] => true
  | last, x :: r => decide (last < kk x) && decide (goodC x) && okC (kk x) r
theorem okC_cons {last : Int} {x : S33} {r : List S33} : okC last (x :: r) = true ↔ last < kk x ∧ goodC x ∧ okC (kk x) r = true := by
  simp only [okC, Bool.and_eq_true, decide_eq_true_eq, and_assoc]
def checkS (l : List S33) : Int := if l.length ≤ 4096 ∧ okC 0 l = true then 0 else 9
theorem check_l0 (l : List S33) (hl : l.length ≤ 4096) : ∀ (d k : Nat) (last : Int) (i : Nat), i + d = l.length → d + 6 < k → (i = 0 → last = 0) → (∀ h : 0 < i ∧ i ≤ l.length, last = kk (l[i - 1]'(by omega)) ∧ goodC (l[i - 1]'(by omega))) →
    stock_Check.l0 k l l (l.length : Int) (i : Int) = some (if okC last (l.drop i) then 0 else 9)
  | 0, k, last, i, h, hk, _, _ => by
    obtain ⟨k, rfl⟩ : ∃ q, k = q + 1 := ⟨k - 1, by omega⟩
    rw [stock_Check.l0, if_neg (by omega), List.drop_of_length_le (by omega)]; rfl
  | d + 1, k, last, i, h, hk, hz, hp => by
    obtain ⟨k, rfl⟩ : ∃ q, k = q + 1 := ⟨k - 1, by omega⟩
    have hi : i < l.length := by omega
    rw [stock_Check.l0, if_pos (by omega), if_pos (by omega), if_pos (by omega), rd_at l i hi, made_is _ (by omega), some_bind, drop_at l i hi, okC]
    by_cases hg : goodC l[i]
    · have hnext := check_l0 l hl d k (kk l[i]) (i + 1) (by omega) (by omega) (by omega) (fun _ => ⟨rfl, hg⟩)
      rw [decide_eq_true hg, if_pos rfl, Bool.and_true]
      rcases Nat.eq_zero_or_pos i with hi0 | hi0
      · subst hi0
        rw [if_neg (by decide), w64n _ (by omega), hnext, hz rfl, decide_eq_true (show (0 : Int) < kk l[0] by unfold kk key; omega), Bool.true_and]
      · obtain ⟨hp1, hp2⟩ := hp ⟨hi0, by omega⟩
        rw [if_pos (by omega), show (i : Int) - 1 = ((i - 1 : Nat) : Int) by omega, w64 (by omega) (by omega), if_pos (by omega), if_pos (by omega), rd_at l (i - 1) (by omega), order_is _ _ _ _ _ _ _ _ _ _ _ _ (by omega), some_bind, w64n _ (by omega), hnext, hp1]
        have ho := ord_neg (p := l[i - 1].f0) (i := l[i].f0) hp2.2.1 hg.2.1
        by_cases hc : ordS l[i - 1].f0 l[i - 1].f1 l[i].f0 l[i].f1 < 0
        · rw [if_neg (by omega), decide_eq_true (show kk l[i - 1] < kk l[i] from ho.1 hc), Bool.true_and]
        · rw [if_pos (by omega), decide_eq_false (show ¬ kk l[i - 1] < kk l[i] from fun h => hc (ho.2 h)), Bool.false_and]; rfl
    · rw [decide_eq_false hg, if_neg (by decide), Bool.and_false, Bool.false_and]; rfl
theorem check_is (l : List S33) {k : Nat} (hk : l.length + 6 < k) : stock_Check.f k l = some (checkS l) := by
  unfold stock_Check.f checkS
  by_cases h : (l.length : Int) > 4096
  · rw [if_pos h, if_neg (by omega)]
  · rw [if_neg h]
    have := check_l0 l (by omega) l.length k 0 0 (by omega) hk (fun _ => rfl) (fun h => absurd h.1 (by omega))
    rw [List.drop_zero] at this
    rw [show ((0 : Nat) : Int) = 0 from rfl] at this
    rw [this]
    by_cases ho : okC 0 l = true
    · rw [if_pos ho, if_pos ⟨by omega, ho⟩]
    · rw [if_neg ho, if_neg (fun h => ho h.2)]
def ahead (a : Int) : List S33 → Nat
  | [] => 0
  | x :: r => if kk x < a then ahead a r + 1 else 0
theorem ahead_le (a : Int) : ∀ l, ahead a l ≤ l.length
  | [] => Nat.le_refl _
  | x :: r => by
    rw [ahead]; split
    · have := ahead_le a r; rw [List.length_cons]; omega
    · omega
theorem okC_all : ∀ (l : List S33) (last : Int), okC last l = true → ∀ x ∈ l, last < kk x ∧ goodC x
  | [], _, _, x, hx => by cases hx
  | y :: r, last, h, x, hx => by
    obtain ⟨h1, h2, h3⟩ := okC_cons.1 h
    rcases List.mem_cons.1 hx with rfl | hx
    · exact ⟨h1, h2⟩
    · have := okC_all r _ h3 x hx
      exact ⟨by omega, this.2⟩
theorem ahead_lt (a : Int) : ∀ (l : List S33) (i : Nat) (h : i < l.length), i < ahead a l → kk l[i] < a
  | [], i, h, _ => by simp at h
  | x :: r, i, h, hi => by
    rw [ahead] at hi
    split at hi
    · rename_i hx
      cases i with
      | zero => exact hx
      | succ i => exact ahead_lt a r i (by simpa using h) (by omega)
    · omega
theorem ahead_ge (a : Int) : ∀ (l : List S33) (last : Int), okC last l = true → ∀ (i : Nat) (h : i < l.length), ahead a l ≤ i → a ≤ kk l[i]
  | [], _, _, i, h, _ => by simp at h
  | x :: r, last, hok, i, h, hi => by
    obtain ⟨h1, h2, h3⟩ := okC_cons.1 hok
    rw [ahead] at hi
    split at hi
    · cases i with
      | zero => omega
      | succ i => exact ahead_ge a r _ h3 i (by simpa using h) (by omega)
    · rename_i hx
      cases i with
      | zero => simp only [List.getElem_cons_zero]; omega
      | succ i =>
        have hi2 : i < r.length := by simpa using h
        have := (okC_all r _ h3 (r[i]'hi2) (List.getElem_mem _)).1
        simp only [List.getElem_cons_succ]; omega
def hasK (a : Int) : List S33 → Bool
  | [] => false
  | x :: r => if kk x = a then true else hasK a r
theorem hasK_above (a : Int) : ∀ (l : List S33) (last : Int), okC last l = true → a ≤ last → hasK a l = false
  | [], _, _, _ => rfl
  | x :: r, last, hok, h => by
    obtain ⟨h1, h2, h3⟩ := okC_cons.1 hok
    rw [hasK, if_neg (by omega)]
    exact hasK_above a r _ h3 (by omega)
theorem hasK_ahead (a : Int) : ∀ (l : List S33) (last : Int), okC last l = true → hasK a l = if h : ahead a l < l.length then decide (kk l[ahead a l] = a) else false
  | [], _, _ => rfl
  | x :: r, last, hok => by
    obtain ⟨g1, g2, g3⟩ := okC_cons.1 hok
    rw [hasK]
    by_cases h1 : kk x < a
    · have e : ahead a (x :: r) = ahead a r + 1 := by rw [ahead, if_pos h1]
      rw [if_neg (by omega), hasK_ahead a r _ g3]
      simp only [e, List.length_cons, Nat.add_lt_add_iff_right, List.getElem_cons_succ]
    · have e : ahead a (x :: r) = 0 := by rw [ahead, if_neg h1]
      simp only [e, List.length_cons, Nat.zero_lt_succ, dite_true, List.getElem_cons_zero]
      by_cases h2 : kk x = a
      · rw [if_pos h2, decide_eq_true h2]
      · rw [if_neg h2, decide_eq_false h2, hasK_above a r _ g3 (by omega)]
def cellAt (i w : Int) : List S33 → S33
  | [] => ⟨i, w, 0, 0, 0, 0⟩
  | x :: r => if kk x = key i w then x else cellAt i w r
theorem cellAt_no (i w : Int) : ∀ (l : List S33), hasK (key i w) l = false → cellAt i w l = ⟨i, w, 0, 0, 0, 0⟩
  | [], _ => rfl
  | x :: r, h => by
    rw [hasK] at h
    rw [cellAt]
    split at h
    · cases h
    · rename_i hx
      rw [if_neg hx]; exact cellAt_no i w r h
theorem cellAt_ahead (i w : Int) : ∀ (l : List S33) (last : Int), okC last l = true → ∀ (h : ahead (key i w) l < l.length), kk l[ahead (key i w) l] = key i w → cellAt i w l = l[ahead (key i w) l]
  | [], _, _, h, _ => by simp at h
  | x :: r, last, hok, h, hk => by
    obtain ⟨g1, g2, g3⟩ := okC_cons.1 hok
    rw [cellAt]
    by_cases h1 : kk x < key i w
    · have e : ahead (key i w) (x :: r) = ahead (key i w) r + 1 := by rw [ahead, if_pos h1]
      simp only [e, List.length_cons, Nat.add_lt_add_iff_right, List.getElem_cons_succ] at h hk ⊢
      rw [if_neg (by omega)]; exact cellAt_ahead i w r _ g3 h hk
    · have e : ahead (key i w) (x :: r) = 0 := by rw [ahead, if_neg h1]
      simp only [e, List.getElem_cons_zero] at hk ⊢
      rw [if_pos hk]
theorem half_is (i j : Nat) (h : i + j ≤ 100000) : wrap64 ((IntKind.u64.wrap (wrap64 ((i : Int) + (j : Int)))) / 2) = (((i + j) / 2 : Nat) : Int) := by
  rw [w64 (x := (i : Int) + j) (by omega) (by omega), show IntKind.u64.wrap ((i : Int) + j) = (i : Int) + j from wu64_in (by omega) (by omega), w64 (by omega) (by omega)]; omega
theorem bs_l0 (l : List S33) (a b : Int) (n : Nat) (hn : n ≤ l.length) (hl : l.length ≤ 4096) (hp : ∀ h (hh : h < l.length), ordS l[h].f0 l[h].f1 a b < 0 ↔ h < n) : ∀ (d k i j : Nat), j - i ≤ d → d + 4 < k → i ≤ n → n ≤ j → j ≤ l.length →
    api_Cell_39.l0 k l 36 (l.length : Int) (i : Int) (j : Int) a b 0 0 0 0 = some ((n : Int), decide (n < l.length) && decide (ordS (rd_T33 l (n : Int)).f0 (rd_T33 l (n : Int)).f1 a b = 0))
  | d, k, i, j, hd, hk, h1, h2, h3 => by
    obtain ⟨k, rfl⟩ : ∃ q, k = q + 1 := ⟨k - 1, by omega⟩
    rw [api_Cell_39.l0]
    by_cases hij : i < j
    · obtain ⟨d, rfl⟩ : ∃ q, d = q + 1 := ⟨d - 1, by omega⟩
      have hm : (i + j) / 2 < l.length := by omega
      rw [if_pos (by omega), half_is i j (by omega), if_pos (by omega), if_pos (by omega)]
      unfold call_T58.f
      rw [if_pos rfl, order_is _ _ _ _ _ _ _ _ _ _ _ _ (by omega), some_bind, rd_at l _ hm]
      by_cases hc : ordS l[(i + j) / 2].f0 l[(i + j) / 2].f1 a b < 0
      · have := (hp _ hm).1 hc
        rw [if_pos hc, w64n _ (by omega), bs_l0 l a b n hn hl hp d k ((i + j) / 2 + 1) j (by omega) (by omega) (by omega) h2 h3]
      · have : n ≤ (i + j) / 2 := by
          rcases Nat.lt_or_ge ((i + j) / 2) n with h | h
          · exact absurd ((hp _ hm).2 h) hc
          · exact h
        rw [if_neg hc, bs_l0 l a b n hn hl hp d k i ((i + j) / 2) (by omega) (by omega) h1 this (by omega)]
    · obtain rfl : i = n := by omega
      rw [if_neg (by omega)]
      by_cases hlt : i < l.length
      · rw [if_pos (by omega), if_pos (by omega), if_pos (by omega)]
        unfold call_T58.f
        rw [if_pos rfl, order_is _ _ _ _ _ _ _ _ _ _ _ _ (by omega), some_bind, decide_eq_true hlt, Bool.true_and]
        rfl
      · rw [if_neg (by omega), decide_eq_false hlt, Bool.false_and]
  termination_by d => d
theorem place_is (l : List S33) (i w : Int) (hl : l.length ≤ 4096) (hok : okC 0 l = true) (hw : 1 ≤ w ∧ w ≤ 1024) {k : Nat} (hk : l.length + 4 < k) : stock_place.f k l i w = some ((ahead (key i w) l : Int), hasK (key i w) l) := by
  unfold stock_place.f api_Cell_39.f
  have hg : ∀ h (hh : h < l.length), goodC l[h] := fun h hh => (okC_all l 0 hok _ (List.getElem_mem _)).2
  have hbs := bs_l0 l i w (ahead (key i w) l) (ahead_le _ l) hl (fun h hh => by
    rw [ord_neg (hg h hh).2.1 hw]
    constructor
    · intro hlt
      rcases Nat.lt_or_ge h (ahead (key i w) l) with hc | hc
      · exact hc
      · have := ahead_ge (key i w) l 0 hok h hh hc
        unfold kk at this; omega
    · exact ahead_lt (key i w) l h hh) l.length k 0 l.length (by omega) (by omega) (by omega) (ahead_le _ l) (Nat.le_refl _)
  rw [show ((0 : Nat) : Int) = 0 from rfl] at hbs
  rw [hbs, some_bind, hasK_ahead (key i w) l 0 hok]
  dsimp only
  by_cases h3 : ahead (key i w) l < l.length
  · rw [dif_pos h3, decide_eq_true h3, Bool.true_and, rd_at l _ h3]
    congr 2
    exact decide_eq_decide.mpr (ord_zero (hg _ h3).2.1 hw)
  · rw [dif_neg h3, decide_eq_false h3, Bool.false_and]
def cellS (l : List S33) (i w : Int) : S33 × Int :=
  if checkS l = 0 then (if (1 ≤ i ∧ i ≤ 1024) ∧ (1 ≤ w ∧ w ≤ 1024) then (cellAt i w l, 0) else (⟨0, 0, 0, 0, 0, 0⟩, 2)) else (⟨0, 0, 0, 0, 0, 0⟩, 9)
theorem checkS_ok {l : List S33} (h : checkS l = 0) : l.length ≤ 4096 ∧ okC 0 l = true := by
  unfold checkS at h
  split at h
  · assumption
  · cases h
theorem checkS_9 {l : List S33} (h : ¬ checkS l = 0) : checkS l = 9 := by
  unfold checkS at h ⊢
  split
  · rename_i hc; rw [if_pos hc] at h; exact absurd rfl h
  · rfl
theorem cell_is (l : List S33) (i w : Int) {k : Nat} (hk : l.length + 7 < k) : stock_Cell.f k l i w = some ((cellS l i w).1.f0, (cellS l i w).1.f1, (cellS l i w).1.f2, (cellS l i w).1.f3, (cellS l i w).1.f4, (cellS l i w).1.f5, (cellS l i w).2) := by
  obtain ⟨k, rfl⟩ : ∃ q, k = q + 1 := ⟨k - 1, by omega⟩
  unfold stock_Cell.f cellS
  rw [check_is l (by omega), some_bind]
  by_cases hc : checkS l = 0
  · obtain ⟨hl, hok⟩ := checkS_ok hc
    rw [if_pos hc, if_pos hc, known_is, some_bind]
    by_cases hi : 1 ≤ i ∧ i ≤ 1024
    · rw [decide_eq_true hi, if_pos rfl, known_is, some_bind]
      by_cases hw : 1 ≤ w ∧ w ≤ 1024
      · rw [decide_eq_true hw, if_pos ⟨hi, hw⟩, stock_Cell.j0, if_neg (by decide), place_is l i w hl hok hw (by omega), some_bind]
        dsimp only
        have hh := hasK_ahead (key i w) l 0 hok
        by_cases hb : hasK (key i w) l = true
        · rw [if_pos hb, if_pos (Int.natCast_nonneg _)]
          rw [hb] at hh
          have h3 : ahead (key i w) l < l.length := by
            by_cases h3 : ahead (key i w) l < l.length
            · exact h3
            · rw [dif_neg h3] at hh; cases hh
          rw [dif_pos h3] at hh
          have h4 := of_decide_eq_true hh.symm
          rw [if_pos (Int.ofNat_lt.mpr h3), rd_at l _ h3, cellAt_ahead i w l 0 hok h3 h4]
        · rw [if_neg hb, cellAt_no i w l (Bool.eq_false_iff.mpr hb)]
      · rw [decide_eq_false hw, if_neg (fun h => hw h.2), stock_Cell.j0]; rfl
    · rw [decide_eq_false hi, if_neg (by decide), if_neg (fun h => hi h.1), stock_Cell.j0]; rfl
  · rw [if_neg hc, if_neg hc, checkS_9 hc]
def put (c : S33) : List S33 → List S33
  | [] => [c]
  | x :: r => if kk x < kk c then x :: put c r else if kk x = kk c then c :: r else c :: x :: r
theorem put_set (c : S33) : ∀ (l : List S33) (h : ahead (kk c) l < l.length), kk l[ahead (kk c) l] = kk c → l.set (ahead (kk c) l) c = put c l
  | [], h, _ => by simp at h
  | x :: r, h, hf => by
    by_cases h1 : kk x < kk c
    · have e : ahead (kk c) (x :: r) = ahead (kk c) r + 1 := by rw [ahead, if_pos h1]
      simp only [e, List.length_cons, Nat.add_lt_add_iff_right, List.getElem_cons_succ] at h hf
      rw [e, put, if_pos h1, List.set_cons_succ, put_set c r h hf]
    · have e : ahead (kk c) (x :: r) = 0 := by rw [ahead, if_neg h1]
      simp only [e, List.getElem_cons_zero] at hf
      rw [e, put, if_neg h1, if_pos hf, List.set_cons_zero]
theorem put_ins (c : S33) : ∀ (l : List S33), hasK (kk c) l = false → (l.take (ahead (kk c) l) ++ [c] ++ l.drop (ahead (kk c) l)).set (ahead (kk c) l) c = put c l
  | [], _ => rfl
  | x :: r, hf => by
    rw [hasK] at hf
    split at hf
    · cases hf
    · rename_i h2
      by_cases h1 : kk x < kk c
      · have e : ahead (kk c) (x :: r) = ahead (kk c) r + 1 := by rw [ahead, if_pos h1]
        rw [e, put, if_pos h1, ← put_ins c r hf]; rfl
      · have e : ahead (kk c) (x :: r) = 0 := by rw [ahead, if_neg h1]
        rw [e, put, if_neg h1, if_neg h2]; rfl
def mvK (q : Nat) (n : Int) (c : S33) : S33 :=
  match q with
  | 0 => ⟨c.f0, c.f1, c.f2 + n, c.f3, c.f4, c.f5 + n⟩
  | 1 => ⟨c.f0, c.f1, c.f2 - n, c.f3 + n, c.f4, c.f5⟩
  | 2 => ⟨c.f0, c.f1, c.f2 + n, c.f3 - n, c.f4, c.f5⟩
  | 3 => ⟨c.f0, c.f1, c.f2, c.f3 - n, c.f4 + n, c.f5⟩
  | _ => ⟨c.f0, c.f1, c.f2 + n, c.f3, c.f4 - n, c.f5⟩
abbrev smallC (c : S33) : Prop := (0 ≤ c.f2 ∧ c.f2 ≤ 1125899906842624) ∧ (0 ≤ c.f3 ∧ c.f3 ≤ 1125899906842624) ∧ (0 ≤ c.f4 ∧ c.f4 ≤ 1125899906842624) ∧ (0 ≤ c.f5 ∧ c.f5 ≤ 1125899906842624) ∧ c.f2 + c.f3 + c.f4 = c.f5
theorem cl_is (q : Nat) (hq : q < 5) (n : Int) (hn : 1 ≤ n ∧ n ≤ 1048576) (c : S33) (hc : smallC c) :
    cl_T48.f (24 + (q : Int), n) c.f0 c.f1 c.f2 c.f3 c.f4 c.f5 = some ((mvK q n c).f0, (mvK q n c).f1, (mvK q n c).f2, (mvK q n c).f3, (mvK q n c).f4, (mvK q n c).f5) := by
  have a0 : wrap64 (c.f2 + n) = c.f2 + n := w64 (by omega) (by omega)
  have a1 : wrap64 (c.f5 + n) = c.f5 + n := w64 (by omega) (by omega)
  have a2 : wrap64 (c.f2 - n) = c.f2 - n := w64 (by omega) (by omega)
  have a3 : wrap64 (c.f3 + n) = c.f3 + n := w64 (by omega) (by omega)
  have a4 : wrap64 (c.f3 - n) = c.f3 - n := w64 (by omega) (by omega)
  have a5 : wrap64 (c.f4 + n) = c.f4 + n := w64 (by omega) (by omega)
  have a6 : wrap64 (c.f4 - n) = c.f4 - n := w64 (by omega) (by omega)
  unfold cl_T48.f
  match q, hq with
  | 0, _ => simp [mvK, a0, a1]
  | 1, _ => simp [mvK, a2, a3]
  | 2, _ => simp [mvK, a0, a4]
  | 3, _ => simp [mvK, a4, a5]
  | 4, _ => simp [mvK, a0, a6]
theorem mvK_key (q : Nat) (n : Int) (c : S33) : (mvK q n c).f0 = c.f0 ∧ (mvK q n c).f1 = c.f1 := by
  unfold mvK; split <;> exact ⟨rfl, rfl⟩
theorem mvK_kk (q : Nat) (n : Int) (c : S33) : kk (mvK q n c) = kk c := by
  unfold kk; rw [(mvK_key q n c).1, (mvK_key q n c).2]
def moveS (q : Nat) (l : List S33) (i w n : Int) : List S33 × Int :=
  if (cellS l i w).2 ≠ 0 then ([], (cellS l i w).2) else if n < 1 ∨ n > 1048576 then ([], 2) else
  if (mvK q n (cellS l i w).1).f2 < 0 ∨ (mvK q n (cellS l i w).1).f3 < 0 ∨ (mvK q n (cellS l i w).1).f4 < 0 then ([], 13) else
  if (mvK q n (cellS l i w).1).f5 > 1125899906842624 then ([], 5) else if hasK (key i w) l = false ∧ l.length ≥ 4096 then ([], 3) else (put (mvK q n (cellS l i w).1) l, 0)
theorem cellS_ok {l : List S33} {i w : Int} (h : (cellS l i w).2 = 0) : l.length ≤ 4096 ∧ okC 0 l = true ∧ (1 ≤ i ∧ i ≤ 1024) ∧ (1 ≤ w ∧ w ≤ 1024) ∧ cellS l i w = (cellAt i w l, 0) := by
  unfold cellS at h ⊢
  split at h
  · rename_i hc
    obtain ⟨h1, h2⟩ := checkS_ok hc
    split at h
    · rename_i hk
      rw [if_pos hc, if_pos hk]; exact ⟨h1, h2, hk.1, hk.2, rfl⟩
    · cases h
  · cases h
theorem cellAt_good (i w : Int) (hi : 1 ≤ i ∧ i ≤ 1024) (hw : 1 ≤ w ∧ w ≤ 1024) : ∀ (l : List S33) (last : Int), okC last l = true → goodC (cellAt i w l) ∧ (cellAt i w l).f0 = i ∧ (cellAt i w l).f1 = w
  | [], _, _ => by
    refine ⟨⟨hi, hw, ?_⟩, rfl, rfl⟩
    simp [cellAt]
  | x :: r, last, hok => by
    obtain ⟨g1, g2, g3⟩ := okC_cons.1 hok
    rw [cellAt]
    by_cases h : kk x = key i w
    · rw [if_pos h]
      have := (key_inj g2.2.1 hw).1 h
      exact ⟨g2, this.1, this.2⟩
    · rw [if_neg h]; exact cellAt_good i w hi hw r _ g3
theorem moved_j2 (l : List S33) (c : S33) (hl : l.length ≤ 4096) (hok : okC 0 l = true) (b : Bool) (hb : b = (if hasK (kk c) l = true then false else decide ((l.length : Int) ≥ 4096))) (k : Nat) :
    stock_moved.j2 (k + 1) l (ahead (kk c) l : Int) (hasK (kk c) l) b c.f0 c.f1 c.f2 c.f3 c.f4 c.f5 = some (if hasK (kk c) l = false ∧ l.length ≥ 4096 then ([], 3) else (put c l, 0)) := by
  have hh := hasK_ahead (kk c) l 0 hok
  have hal := ahead_le (kk c) l
  rw [stock_moved.j2]
  unfold api_Cell_37.f
  rw [if_pos (show l.length * 48 ≤ 140737488355328 by omega), some_bind]
  by_cases hb1 : hasK (kk c) l = true
  · rw [if_pos hb1] at hb
    subst hb
    rw [if_neg (by decide), if_pos hb1, if_pos (Int.natCast_nonneg _), if_neg (show ¬ (hasK (kk c) l = false ∧ l.length ≥ 4096) from fun h => absurd (hb1.symm.trans h.1) (by decide))]
    rw [hb1] at hh
    have h3 : ahead (kk c) l < l.length := by
      by_cases h3 : ahead (kk c) l < l.length
      · exact h3
      · rw [dif_neg h3] at hh; cases hh
    rw [dif_pos h3] at hh
    rw [if_pos (Int.ofNat_lt.mpr h3), Int.toNat_natCast, put_set c l h3 (of_decide_eq_true hh.symm)]
  · have hb0 : hasK (kk c) l = false := Bool.eq_false_iff.mpr hb1
    rw [if_neg hb1] at hb
    by_cases hm : (l.length : Int) ≥ 4096
    · rw [decide_eq_true hm] at hb
      subst hb
      rw [if_pos rfl, if_pos ⟨hb0, by omega⟩]
    · rw [decide_eq_false hm] at hb
      subst hb
      rw [if_neg (by decide), if_neg hb1, if_neg (show ¬ (hasK (kk c) l = false ∧ l.length ≥ 4096) from fun h => by omega)]
      unfold api_Cell_38.f
      rw [if_pos ⟨Int.natCast_nonneg _, Int.ofNat_le.mpr hal, rfl, by omega⟩, some_bind, if_pos (Int.natCast_nonneg _), if_pos, Int.toNat_natCast, put_ins c l hb0]
      rw [Int.toNat_natCast]
      refine Int.ofNat_lt.mpr ?_
      simp only [List.length_append, List.length_take, List.length_drop, List.length_singleton]; omega
theorem moved_is (q : Nat) (hq : q < 5) (l : List S33) (i w n : Int) {k : Nat} (hk : l.length + 11 < k) : stock_moved.f k l i w n (24 + (q : Int), n) = some (moveS q l i w n) := by
  obtain ⟨k, rfl⟩ : ∃ p, k = p + 3 := ⟨k - 3, by omega⟩
  unfold stock_moved.f moveS
  rw [cell_is l i w (by omega), some_bind]
  dsimp only
  by_cases h0 : (cellS l i w).2 = 0
  · obtain ⟨hl, hok, hi, hw, he⟩ := cellS_ok h0
    rw [if_pos h0, if_neg (show ¬ (cellS l i w).2 ≠ 0 from fun h => h h0), he]
    dsimp only
    obtain ⟨hg, hf0, hf1⟩ := cellAt_good i w hi hw l 0 hok
    generalize cellAt i w l = c at hg hf0 hf1
    by_cases hn : 1 ≤ n ∧ n ≤ 1048576
    · rw [if_neg (show ¬ n < 1 by omega), decide_eq_false (show ¬ n > 1048576 by omega), if_neg (show ¬ (n < 1 ∨ n > 1048576) by omega), stock_moved.j0, if_neg (by decide), cl_is q hq n hn c ⟨hg.2.2.1, hg.2.2.2.1, hg.2.2.2.2.1, hg.2.2.2.2.2.1, hg.2.2.2.2.2.2⟩, some_bind]
      dsimp only
      have hkk : kk (mvK q n c) = key i w := by rw [mvK_kk]; unfold kk; rw [hf0, hf1]
      generalize mvK q n c = d at hkk
      by_cases h2 : d.f2 < 0
      · rw [if_pos h2, stock_moved.j1, if_pos rfl, if_pos (.inl h2)]
      · rw [if_neg h2]
        by_cases h3 : d.f3 < 0
        · rw [if_pos h3, stock_moved.j1, if_pos rfl, if_pos (.inr (.inl h3))]
        · rw [if_neg h3, stock_moved.j1]
          by_cases h4 : d.f4 < 0
          · rw [decide_eq_true h4, if_pos rfl, if_pos (.inr (.inr h4))]
          · rw [decide_eq_false h4, if_neg (by decide), if_neg (show ¬ (d.f2 < 0 ∨ d.f3 < 0 ∨ d.f4 < 0) by omega)]
            by_cases h5 : d.f5 > 1125899906842624
            · rw [if_pos h5, if_pos h5]
            · rw [if_neg h5, if_neg h5, place_is l i w hl hok hw (by omega), some_bind, ← hkk]
              dsimp only
              by_cases hb : hasK (kk d) l = true
              · rw [if_pos hb, moved_j2 l d hl hok false (by rw [if_pos hb]) k]
              · rw [if_neg hb, moved_j2 l d hl hok _ (by rw [if_neg hb]) k]
    · rw [if_pos (show n < 1 ∨ n > 1048576 by omega)]
      by_cases h1 : n < 1
      · rw [if_pos h1, stock_moved.j0, if_pos rfl]
      · rw [if_neg h1, decide_eq_true (show n > 1048576 by omega), stock_moved.j0, if_pos rfl]
  · rw [if_neg h0, if_pos h0]
theorem restock_is (l : List S33) (i w n : Int) {k : Nat} (hk : l.length + 11 < k) : stock_Restock.f k l i w n = some (moveS 0 l i w n) := moved_is 0 (by decide) l i w n hk
theorem reserve_is (l : List S33) (i w n : Int) {k : Nat} (hk : l.length + 11 < k) : stock_Reserve.f k l i w n = some (moveS 1 l i w n) := moved_is 1 (by decide) l i w n hk
theorem send_is (l : List S33) (i w n : Int) {k : Nat} (hk : l.length + 11 < k) : stock_Send.f k l i w n = some (moveS 3 l i w n) := moved_is 3 (by decide) l i w n hk
theorem takeBack_is (l : List S33) (i w n : Int) {k : Nat} (hk : l.length + 11 < k) : stock_TakeBack.f k l i w n = some (moveS 4 l i w n) := moved_is 4 (by decide) l i w n hk
theorem release_is (l : List S33) (i w n : Int) {k : Nat} (hk : l.length + 11 < k) : stock_Release.f k l i w n = some (moveS 2 l i w n) := moved_is 2 (by decide) l i w n hk
def fnK (q : Nat) : Int := match q with | 0 => 10 | 1 => 11 | 2 => 13 | 3 => 14 | _ => 15
theorem call_is (q : Nat) (hq : q < 5) (l : List S33) (i w n : Int) {k : Nat} (hk : l.length + 11 < k) : call_T26.f k (fnK q) l i w n = some (moveS q l i w n) := by
  unfold call_T26.f
  match q, hq with
  | 0, _ => exact restock_is l i w n hk
  | 1, _ => exact reserve_is l i w n hk
  | 2, _ => exact release_is l i w n hk
  | 3, _ => exact send_is l i w n hk
  | 4, _ => exact takeBack_is l i w n hk
theorem same_l0 (l : List S33) (hl : l.length ≤ 140737488355328) : ∀ (d k i : Nat), i + d = l.length → d < k → ladingref13_Same.l0 k l l (l.length : Int) (i : Int) = some true
  | 0, k, i, h, hk => by
    obtain ⟨k, rfl⟩ : ∃ q, k = q + 1 := ⟨k - 1, by omega⟩
    rw [ladingref13_Same.l0, if_neg (by omega)]
  | d + 1, k, i, h, hk => by
    obtain ⟨k, rfl⟩ : ∃ q, k = q + 1 := ⟨k - 1, by omega⟩
    rw [ladingref13_Same.l0, if_pos (by omega), if_pos (by omega), if_pos (by omega), if_pos (by omega), if_neg (by simp), w64n i (by omega), same_l0 l hl d k (i + 1) (by omega) (by omega)]
theorem same_is (l : List S33) (hl : l.length ≤ 140737488355328) {k : Nat} (hk : l.length < k) : ladingref13_Same.f k l l = some true := by
  unfold ladingref13_Same.f
  rw [if_pos rfl]
  exact same_l0 l hl l.length k 0 (by omega) hk
theorem lives_is {k : Nat} (hk : 30 ≤ k) : ladinglaw13_lives.f k = some true :=
  up ladinglaw13_lives.mono (k := 30) (by decide +kernel) hk
end Go.Proofs.Ytkgbdahkncefhaa.Pure
