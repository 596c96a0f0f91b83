/- Plain: what is reserved, paid and sent, and comes back, answers true. -/
import Derived.Test.YtdiopojnkjkgmaaDoorZAlq
import Derived.Test.YtdiopojnkjkgmaaDoorZAlt
import Derived.Test.YtdiopojnkjkgmaaDoorZPrint52
set_option linter.unusedVariables false
namespace Go.Proofs.YtdiopojnkjkgmaaDoor.Pure
open Go.RowKit Go.Proofs.YtdiopojnkjkgmaaDoor.Print Go.Proofs.YtdiopojnkjkgmaaDoorW.PrintWords Go.Proofs.YtdiopojnkjkgmaaDoorW.PrintLast Go.Proofs.YtdiopojnkjkgmaaDoorW.PrintMore
theorem up {α : Type} {f : Nat → Option α} (hm : ∀ k, LeO (f k) (f (k + 1))) {k n : Nat} {r : α} (h : f k = some r) (hk : k ≤ n) : f n = some r := by
  obtain ⟨d, rfl⟩ : ∃ d, n = k + d := ⟨n - k, by omega⟩
  induction d with
  | zero => exact h
  | succ d ih => exact hm (k + d) r (ih (by omega))
theorem w64 {x : Int} (h0 : -9223372036854775808 ≤ x) (h1 : x ≤ 9223372036854775807) : wrap64 x = x := by unfold wrap64; omega
theorem w64n (i : Nat) (h : i < 9223372036854775807) : wrap64 ((i : Int) + 1) = ((i + 1 : Nat) : Int) := by rw [w64 (by omega) (by omega)]; rfl
theorem rd_at (l : List S43) (i : Nat) (h : i < l.length) : rd_T43 l (i : Int) = l[i] := by
  unfold rd_T43
  rw [Int.toNat_natCast, List.getD_eq_getElem?_getD, List.getElem?_eq_getElem h]; rfl
theorem drop_at (l : List S43) (i : Nat) (h : i < l.length) : l.drop i = l[i] :: l.drop (i + 1) := List.drop_eq_getElem_cons h
theorem some_bind {α β : Type} (a : α) (f : α → Option β) : (some a).bind f = f a := rfl
theorem known_is (a : Int) : stock_known.f a = some (decide (1 ≤ a ∧ a ≤ 1024)) := by
  unfold stock_known.f
  by_cases h : a ≥ 1
  · rw [if_pos h]; congr 1; exact decide_eq_decide.mpr ⟨fun h2 => ⟨h, h2⟩, fun h2 => h2.2⟩
  · rw [if_neg h, decide_eq_false (by omega)]
abbrev goodC (x : S43) : Prop := (1 ≤ x.f0 ∧ x.f0 ≤ 1024) ∧ (1 ≤ x.f1 ∧ x.f1 ≤ 1024) ∧ (0 ≤ x.f2 ∧ x.f2 ≤ 1125899906842624) ∧ (0 ≤ x.f3 ∧ x.f3 ≤ 1125899906842624) ∧ (0 ≤ x.f4 ∧ x.f4 ≤ 1125899906842624) ∧ (0 ≤ x.f5 ∧ x.f5 ≤ 1125899906842624) ∧ x.f2 + x.f3 + x.f4 = x.f5
theorem made_step (k : Nat) (L : List Int) (hL : L.length = 4) (i : Nat) (hi : i < 4) (a b c d e f : Int) :
    stock_made.l0 (k + 1) L 4 (i : Int) a b c d e f = if rd L (i : Int) < 0 then some false else if rd L (i : Int) > 1125899906842624 then some false else stock_made.l0 k L 4 ((i + 1 : Nat) : Int) a b c d e f := by
  rw [stock_made.l0, if_pos (by omega), if_pos (by omega), if_pos (by omega), w64n i (by omega)]
theorem made_is (x : S43) {k : Nat} (hk : 5 ≤ k) : stock_made.f k x.f0 x.f1 x.f2 x.f3 x.f4 x.f5 = some (decide (goodC x)) := by
  obtain ⟨k, rfl⟩ : ∃ q, k = q + 5 := ⟨k - 5, by omega⟩
  unfold stock_made.f
  rw [some_bind]
  have s0 := made_step (k + 4) [x.f2, x.f3, x.f4, x.f5] rfl 0 (by decide) x.f0 x.f1 x.f2 x.f3 x.f4 x.f5
  have s1 := made_step (k + 3) [x.f2, x.f3, x.f4, x.f5] rfl 1 (by decide) x.f0 x.f1 x.f2 x.f3 x.f4 x.f5
  have s2 := made_step (k + 2) [x.f2, x.f3, x.f4, x.f5] rfl 2 (by decide) x.f0 x.f1 x.f2 x.f3 x.f4 x.f5
  have s3 := made_step (k + 1) [x.f2, x.f3, x.f4, x.f5] rfl 3 (by decide) x.f0 x.f1 x.f2 x.f3 x.f4 x.f5
  have e0 : rd [x.f2, x.f3, x.f4, x.f5] ((0 : Nat) : Int) = x.f2 := rfl
  have e1 : rd [x.f2, x.f3, x.f4, x.f5] ((1 : Nat) : Int) = x.f3 := rfl
  have e2 : rd [x.f2, x.f3, x.f4, x.f5] ((2 : Nat) : Int) = x.f4 := rfl
  have e3 : rd [x.f2, x.f3, x.f4, x.f5] ((3 : Nat) : Int) = x.f5 := rfl
  rw [e0] at s0; rw [e1] at s1; rw [e2] at s2; rw [e3] at s3
  show stock_made.l0 (k + 4 + 1) [x.f2, x.f3, x.f4, x.f5] 4 ((0 : Nat) : Int) x.f0 x.f1 x.f2 x.f3 x.f4 x.f5 = _
  rw [s0, s1, s2, s3]
  by_cases h0 : x.f2 < 0
  · rw [if_pos h0, decide_eq_false (by omega)]
  by_cases h1 : x.f2 > 1125899906842624
  · rw [if_neg h0, if_pos h1, decide_eq_false (by omega)]
  by_cases h2 : x.f3 < 0
  · rw [if_neg h0, if_neg h1, if_pos h2, decide_eq_false (by omega)]
  by_cases h3 : x.f3 > 1125899906842624
  · rw [if_neg h0, if_neg h1, if_neg h2, if_pos h3, decide_eq_false (by omega)]
  by_cases h4 : x.f4 < 0
  · rw [if_neg h0, if_neg h1, if_neg h2, if_neg h3, if_pos h4, decide_eq_false (by omega)]
  by_cases h5 : x.f4 > 1125899906842624
  · rw [if_neg h0, if_neg h1, if_neg h2, if_neg h3, if_neg h4, if_pos h5, decide_eq_false (by omega)]
  by_cases h6 : x.f5 < 0
  · rw [if_neg h0, if_neg h1, if_neg h2, if_neg h3, if_neg h4, if_neg h5, if_pos h6, decide_eq_false (by omega)]
  by_cases h7 : x.f5 > 1125899906842624
  · rw [if_neg h0, if_neg h1, if_neg h2, if_neg h3, if_neg h4, if_neg h5, if_neg h6, if_pos h7, decide_eq_false (by omega)]
  rw [if_neg h0, if_neg h1, if_neg h2, if_neg h3, if_neg h4, if_neg h5, if_neg h6, if_neg h7, stock_made.l0, if_neg (by omega), known_is, some_bind]
  by_cases h8 : 1 ≤ x.f0 ∧ x.f0 ≤ 1024
  · rw [decide_eq_true h8, if_pos rfl, known_is, some_bind]
    by_cases h9 : 1 ≤ x.f1 ∧ x.f1 ≤ 1024
    · rw [decide_eq_true h9, if_pos rfl, w64 (x := x.f2 + x.f3) (by omega) (by omega), w64 (by omega) (by omega)]
      congr 1
      by_cases h10 : x.f2 + x.f3 + x.f4 = x.f5
      · rw [decide_eq_true (by omega)]; exact beq_iff_eq.mpr h10
      · rw [decide_eq_false (by omega)]; exact beq_eq_false_iff_ne.mpr h10
    · rw [decide_eq_false h9, if_neg (by decide), decide_eq_false (by omega)]
  · rw [decide_eq_false h8, if_neg (by decide), decide_eq_false (by omega)]
def ordS (p q i w : Int) : Int := if p < i then -1 else if p > i then 1 else if q < w then -1 else if q > w then 1 else 0
theorem or_is (a b : Int) {k : Nat} (hk : 3 ≤ k) : cmp_Or_int.f k [a, b] = some (if a ≠ 0 then a else b) := by
  refine up (cmp_Or_int.mono [a, b]) (k := 3) ?_ hk
  have h0 : rd [a, b] 0 = a := rfl
  have h1 : rd [a, b] 1 = b := rfl
  have w1 : wrap64 (0 + 1) = 1 := w64 (by decide) (by decide)
  have w2 : wrap64 (1 + 1) = 2 := w64 (by decide) (by decide)
  unfold cmp_Or_int.f
  show cmp_Or_int.l0 3 0 [a, b] 2 0 = _
  rw [cmp_Or_int.l0, if_pos (by decide), if_pos (by decide), if_pos (by simp), h0, w1]
  by_cases ha : a = 0
  · rw [if_pos ha, if_neg (by omega), cmp_Or_int.l0, if_pos (by decide), if_pos (by decide), if_pos (by simp), h1, w2]
    by_cases hb : b = 0
    · rw [if_pos hb, cmp_Or_int.l0, if_neg (by decide), hb]
    · rw [if_neg hb]
  · rw [if_neg ha, if_pos ha]
theorem cmp_is (a b : Int) : cmp_Compare_int.f a b = some (if a < b then -1 else if a > b then 1 else 0) := by
  unfold cmp_Compare_int.f cmp_isNaN_int.f
  rw [some_bind, some_bind, if_neg (by simp), if_neg (by simp)]
  split
  · rfl
  · split <;> rfl
theorem order_is (p q a b c d i w a' b' c' d' : Int) {k : Nat} (hk : 3 ≤ k) : stock_order.f k p q a b c d i w a' b' c' d' = some (ordS p q i w) := by
  unfold stock_order.f ordS
  rw [cmp_is, some_bind, cmp_is, some_bind, or_is _ _ hk, some_bind]
  congr 1
  by_cases h1 : p < i
  · rw [if_pos h1, if_pos h1, if_pos (by decide)]
  · rw [if_neg h1, if_neg h1]
    by_cases h2 : p > i
    · rw [if_pos h2, if_pos h2, if_pos (by decide)]
    · rw [if_neg h2, if_neg h2, if_neg (by decide)]
def key (i w : Int) : Int := i * 2048 + w
def kk (x : S43) : Int := key x.f0 x.f1
theorem ord_neg {p q i w : Int} (hq : 1 ≤ q ∧ q ≤ 1024) (hw : 1 ≤ w ∧ w ≤ 1024) : ordS p q i w < 0 ↔ key p q < key i w := by
  unfold ordS key
  by_cases h1 : p < i
  · rw [if_pos h1]; omega
  · rw [if_neg h1]
    by_cases h2 : p > i
    · rw [if_pos h2]; omega
    · rw [if_neg h2]
      by_cases h3 : q < w
      · rw [if_pos h3]; omega
      · rw [if_neg h3]; split <;> omega
theorem ord_zero {p q i w : Int} (hq : 1 ≤ q ∧ q ≤ 1024) (hw : 1 ≤ w ∧ w ≤ 1024) : ordS p q i w = 0 ↔ key p q = key i w := by
  unfold ordS key
  by_cases h1 : p < i
  · rw [if_pos h1]; omega
  · rw [if_neg h1]
    by_cases h2 : p > i
    · rw [if_pos h2]; omega
    · rw [if_neg h2]
      by_cases h3 : q < w
      · rw [if_pos h3]; omega
      · rw [if_neg h3]; split <;> omega
theorem key_inj {p q i w : Int} (hq : 1 ≤ q ∧ q ≤ 1024) (hw : 1 ≤ w ∧ w ≤ 1024) : key p q = key i w ↔ p = i ∧ q = w := by
  unfold key; omega
def okC : Int → List S43 → Bool
  | _, [] => true
  | last, x :: r => decide (last < kk x) && decide (goodC x) && okC (kk x) r
theorem okC_cons {last : Int} {x : S43} {r : List S43} : okC last (x :: r) = true ↔ last < kk x ∧ goodC x ∧ okC (kk x) r = true := by
  simp only [okC, Bool.and_eq_true, decide_eq_true_eq, and_assoc]
def checkS (l : List S43) : Int := if l.length ≤ 4096 ∧ okC 0 l = true then 0 else 9
theorem check_l0 (l : List S43) (hl : l.length ≤ 4096) : ∀ (d k : Nat) (last : Int) (i : Nat), i + d = l.length → d + 6 < k → (i = 0 → last = 0) → (∀ h : 0 < i ∧ i ≤ l.length, last = kk (l[i - 1]'(by omega)) ∧ goodC (l[i - 1]'(by omega))) →
    stock_Check.l0 k l l (l.length : Int) (i : Int) = some (if okC last (l.drop i) then 0 else 9)
  | 0, k, last, i, h, hk, _, _ => by
    obtain ⟨k, rfl⟩ : ∃ q, k = q + 1 := ⟨k - 1, by omega⟩
    rw [stock_Check.l0, if_neg (by omega), List.drop_of_length_le (by omega)]; rfl
  | d + 1, k, last, i, h, hk, hz, hp => by
    obtain ⟨k, rfl⟩ : ∃ q, k = q + 1 := ⟨k - 1, by omega⟩
    have hi : i < l.length := by omega
    rw [stock_Check.l0, if_pos (by omega), if_pos (by omega), if_pos (by omega), rd_at l i hi, made_is _ (by omega), some_bind, drop_at l i hi, okC]
    by_cases hg : goodC l[i]
    · have hnext := check_l0 l hl d k (kk l[i]) (i + 1) (by omega) (by omega) (by omega) (fun _ => ⟨rfl, hg⟩)
      rw [decide_eq_true hg, if_pos rfl, Bool.and_true]
      rcases Nat.eq_zero_or_pos i with hi0 | hi0
      · subst hi0
        rw [if_neg (by decide), w64n _ (by omega), hnext, hz rfl, decide_eq_true (show (0 : Int) < kk l[0] by unfold kk key; omega), Bool.true_and]
      · obtain ⟨hp1, hp2⟩ := hp ⟨hi0, by omega⟩
        rw [if_pos (by omega), show (i : Int) - 1 = ((i - 1 : Nat) : Int) by omega, w64 (by omega) (by omega), if_pos (by omega), if_pos (by omega), rd_at l (i - 1) (by omega), order_is _ _ _ _ _ _ _ _ _ _ _ _ (by omega), some_bind, w64n _ (by omega), hnext, hp1]
        have ho := ord_neg (p := l[i - 1].f0) (i := l[i].f0) hp2.2.1 hg.2.1
        by_cases hc : ordS l[i - 1].f0 l[i - 1].f1 l[i].f0 l[i].f1 < 0
        · rw [if_neg (by omega), decide_eq_true (show kk l[i - 1] < kk l[i] from ho.1 hc), Bool.true_and]
        · rw [if_pos (by omega), decide_eq_false (show ¬ kk l[i - 1] < kk l[i] from fun h => hc (ho.2 h)), Bool.false_and]; rfl
    · rw [decide_eq_false hg, if_neg (by decide), Bool.and_false, Bool.false_and]; rfl
theorem check_is (l : List S43) {k : Nat} (hk : l.length + 6 < k) : stock_Check.f k l = some (checkS l) := by
  unfold stock_Check.f checkS
  by_cases h : (l.length : Int) > 4096
  · rw [if_pos h, if_neg (by omega)]
  · rw [if_neg h]
    have := check_l0 l (by omega) l.length k 0 0 (by omega) hk (fun _ => rfl) (fun h => absurd h.1 (by omega))
    rw [List.drop_zero] at this
    rw [show ((0 : Nat) : Int) = 0 from rfl] at this
    rw [this]
    by_cases ho : okC 0 l = true
    · rw [if_pos ho, if_pos ⟨by omega, ho⟩]
    · rw [if_neg ho, if_neg (fun h => ho h.2)]
def ahead (a : Int) : List S43 → Nat
  | [] => 0
  | x :: r => if kk x < a then ahead a r + 1 else 0
theorem ahead_le (a : Int) : ∀ l, ahead a l ≤ l.length
  | [] => Nat.le_refl _
  | x :: r => by
    rw [ahead]; split
    · have := ahead_le a r; rw [List.length_cons]; omega
    · omega
theorem okC_all : ∀ (l : List S43) (last : Int), okC last l = true → ∀ x ∈ l, last < kk x ∧ goodC x
  | [], _, _, x, hx => by cases hx
  | y :: r, last, h, x, hx => by
    obtain ⟨h1, h2, h3⟩ := okC_cons.1 h
    rcases List.mem_cons.1 hx with rfl | hx
    · exact ⟨h1, h2⟩
    · have := okC_all r _ h3 x hx
      exact ⟨by omega, this.2⟩
theorem ahead_lt (a : Int) : ∀ (l : List S43) (i : Nat) (h : i < l.length), i < ahead a l → kk l[i] < a
  | [], i, h, _ => by simp at h
  | x :: r, i, h, hi => by
    rw [ahead] at hi
    split at hi
    · rename_i hx
      cases i with
      | zero => exact hx
      | succ i => exact ahead_lt a r i (by simpa using h) (by omega)
    · omega
theorem ahead_ge (a : Int) : ∀ (l : List S43) (last : Int), okC last l = true → ∀ (i : Nat) (h : i < l.length), ahead a l ≤ i → a ≤ kk l[i]
  | [], _, _, i, h, _ => by simp at h
  | x :: r, last, hok, i, h, hi => by
    obtain ⟨h1, h2, h3⟩ := okC_cons.1 hok
    rw [ahead] at hi
    split at hi
    · cases i with
      | zero => omega
      | succ i => exact ahead_ge a r _ h3 i (by simpa using h) (by omega)
    · rename_i hx
      cases i with
      | zero => simp only [List.getElem_cons_zero]; omega
      | succ i =>
        have hi2 : i < r.length := by simpa using h
        have := (okC_all r _ h3 (r[i]'hi2) (List.getElem_mem _)).1
        simp only [List.getElem_cons_succ]; omega
def hasK (a : Int) : List S43 → Bool
  | [] => false
  | x :: r => if kk x = a then true else hasK a r
theorem hasK_above (a : Int) : ∀ (l : List S43) (last : Int), okC last l = true → a ≤ last → hasK a l = false
  | [], _, _, _ => rfl
  | x :: r, last, hok, h => by
    obtain ⟨h1, h2, h3⟩ := okC_cons.1 hok
    rw [hasK, if_neg (by omega)]
    exact hasK_above a r _ h3 (by omega)
theorem hasK_ahead (a : Int) : ∀ (l : List S43) (last : Int), okC last l = true → hasK a l = if h : ahead a l < l.length then decide (kk l[ahead a l] = a) else false
  | [], _, _ => rfl
  | x :: r, last, hok => by
    obtain ⟨g1, g2, g3⟩ := okC_cons.1 hok
    rw [hasK]
    by_cases h1 : kk x < a
    · have e : ahead a (x :: r) = ahead a r + 1 := by rw [ahead, if_pos h1]
      rw [if_neg (by omega), hasK_ahead a r _ g3]
      simp only [e, List.length_cons, Nat.add_lt_add_iff_right, List.getElem_cons_succ]
    · have e : ahead a (x :: r) = 0 := by rw [ahead, if_neg h1]
      simp only [e, List.length_cons, Nat.zero_lt_succ, dite_true, List.getElem_cons_zero]
      by_cases h2 : kk x = a
      · rw [if_pos h2, decide_eq_true h2]
      · rw [if_neg h2, decide_eq_false h2, hasK_above a r _ g3 (by omega)]
def cellAt (i w : Int) : List S43 → S43
  | [] => ⟨i, w, 0, 0, 0, 0⟩
  | x :: r => if kk x = key i w then x else cellAt i w r
theorem cellAt_no (i w : Int) : ∀ (l : List S43), hasK (key i w) l = false → cellAt i w l = ⟨i, w, 0, 0, 0, 0⟩
  | [], _ => rfl
  | x :: r, h => by
    rw [hasK] at h
    rw [cellAt]
    split at h
    · cases h
    · rename_i hx
      rw [if_neg hx]; exact cellAt_no i w r h
theorem cellAt_ahead (i w : Int) : ∀ (l : List S43) (last : Int), okC last l = true → ∀ (h : ahead (key i w) l < l.length), kk l[ahead (key i w) l] = key i w → cellAt i w l = l[ahead (key i w) l]
  | [], _, _, h, _ => by simp at h
  | x :: r, last, hok, h, hk => by
    obtain ⟨g1, g2, g3⟩ := okC_cons.1 hok
    rw [cellAt]
    by_cases h1 : kk x < key i w
    · have e : ahead (key i w) (x :: r) = ahead (key i w) r + 1 := by rw [ahead, if_pos h1]
      simp only [e, List.length_cons, Nat.add_lt_add_iff_right, List.getElem_cons_succ] at h hk ⊢
      rw [if_neg (by omega)]; exact cellAt_ahead i w r _ g3 h hk
    · have e : ahead (key i w) (x :: r) = 0 := by rw [ahead, if_neg h1]
      simp only [e, List.getElem_cons_zero] at hk ⊢
      rw [if_pos hk]
theorem half_is (i j : Nat) (h : i + j ≤ 100000) : wrap64 ((IntKind.u64.wrap (wrap64 ((i : Int) + (j : Int)))) / 2) = (((i + j) / 2 : Nat) : Int) := by
  rw [w64 (x := (i : Int) + j) (by omega) (by omega), show IntKind.u64.wrap ((i : Int) + j) = (i : Int) + j from wu64_in (by omega) (by omega), w64 (by omega) (by omega)]; omega
theorem bs_l0 (l : List S43) (a b : Int) (n : Nat) (hn : n ≤ l.length) (hl : l.length ≤ 4096) (hp : ∀ h (hh : h < l.length), ordS l[h].f0 l[h].f1 a b < 0 ↔ h < n) : ∀ (d k i j : Nat), j - i ≤ d → d + 4 < k → i ≤ n → n ≤ j → j ≤ l.length →
    api_Cell_52.l0 k l 19 (l.length : Int) (i : Int) (j : Int) a b 0 0 0 0 = some ((n : Int), decide (n < l.length) && decide (ordS (rd_T43 l (n : Int)).f0 (rd_T43 l (n : Int)).f1 a b = 0))
  | d, k, i, j, hd, hk, h1, h2, h3 => by
    obtain ⟨k, rfl⟩ : ∃ q, k = q + 1 := ⟨k - 1, by omega⟩
    rw [api_Cell_52.l0]
    by_cases hij : i < j
    · obtain ⟨d, rfl⟩ : ∃ q, d = q + 1 := ⟨d - 1, by omega⟩
      have hm : (i + j) / 2 < l.length := by omega
      rw [if_pos (by omega), half_is i j (by omega), if_pos (by omega), if_pos (by omega)]
      unfold call_T55.f
      rw [if_pos rfl, order_is _ _ _ _ _ _ _ _ _ _ _ _ (by omega), some_bind, rd_at l _ hm]
      by_cases hc : ordS l[(i + j) / 2].f0 l[(i + j) / 2].f1 a b < 0
      · have := (hp _ hm).1 hc
        rw [if_pos hc, w64n _ (by omega), bs_l0 l a b n hn hl hp d k ((i + j) / 2 + 1) j (by omega) (by omega) (by omega) h2 h3]
      · have : n ≤ (i + j) / 2 := by
          rcases Nat.lt_or_ge ((i + j) / 2) n with h | h
          · exact absurd ((hp _ hm).2 h) hc
          · exact h
        rw [if_neg hc, bs_l0 l a b n hn hl hp d k i ((i + j) / 2) (by omega) (by omega) h1 this (by omega)]
    · obtain rfl : i = n := by omega
      rw [if_neg (by omega)]
      by_cases hlt : i < l.length
      · rw [if_pos (by omega), if_pos (by omega), if_pos (by omega)]
        unfold call_T55.f
        rw [if_pos rfl, order_is _ _ _ _ _ _ _ _ _ _ _ _ (by omega), some_bind, decide_eq_true hlt, Bool.true_and]
        rfl
      · rw [if_neg (by omega), decide_eq_false hlt, Bool.false_and]
  termination_by d => d
theorem place_is (l : List S43) (i w : Int) (hl : l.length ≤ 4096) (hok : okC 0 l = true) (hw : 1 ≤ w ∧ w ≤ 1024) {k : Nat} (hk : l.length + 4 < k) : stock_place.f k l i w = some ((ahead (key i w) l : Int), hasK (key i w) l) := by
  unfold stock_place.f api_Cell_52.f
  have hg : ∀ h (hh : h < l.length), goodC l[h] := fun h hh => (okC_all l 0 hok _ (List.getElem_mem _)).2
  have hbs := bs_l0 l i w (ahead (key i w) l) (ahead_le _ l) hl (fun h hh => by
    rw [ord_neg (hg h hh).2.1 hw]
    constructor
    · intro hlt
      rcases Nat.lt_or_ge h (ahead (key i w) l) with hc | hc
      · exact hc
      · have := ahead_ge (key i w) l 0 hok h hh hc
        unfold kk at this; omega
    · exact ahead_lt (key i w) l h hh) l.length k 0 l.length (by omega) (by omega) (by omega) (ahead_le _ l) (Nat.le_refl _)
  rw [show ((0 : Nat) : Int) = 0 from rfl] at hbs
  rw [hbs, some_bind, hasK_ahead (key i w) l 0 hok]
  dsimp only
  by_cases h3 : ahead (key i w) l < l.length
  · rw [dif_pos h3, decide_eq_true h3, Bool.true_and, rd_at l _ h3]
    congr 2
    exact decide_eq_decide.mpr (ord_zero (hg _ h3).2.1 hw)
  · rw [dif_neg h3, decide_eq_false h3, Bool.false_and]
def cellS (l : List S43) (i w : Int) : S43 × Int :=
  if checkS l = 0 then (if (1 ≤ i ∧ i ≤ 1024) ∧ (1 ≤ w ∧ w ≤ 1024) then (cellAt i w l, 0) else (⟨0, 0, 0, 0, 0, 0⟩, 2)) else (⟨0, 0, 0, 0, 0, 0⟩, 9)
theorem checkS_ok {l : List S43} (h : checkS l = 0) : l.length ≤ 4096 ∧ okC 0 l = true := by
  unfold checkS at h
  split at h
  · assumption
  · cases h
theorem checkS_9 {l : List S43} (h : ¬ checkS l = 0) : checkS l = 9 := by
  unfold checkS at h ⊢
  split
  · rename_i hc; rw [if_pos hc] at h; exact absurd rfl h
  · rfl
theorem cell_is (l : List S43) (i w : Int) {k : Nat} (hk : l.length + 7 < k) : stock_Cell.f k l i w = some ((cellS l i w).1.f0, (cellS l i w).1.f1, (cellS l i w).1.f2, (cellS l i w).1.f3, (cellS l i w).1.f4, (cellS l i w).1.f5, (cellS l i w).2) := by
  obtain ⟨k, rfl⟩ : ∃ q, k = q + 1 := ⟨k - 1, by omega⟩
  unfold stock_Cell.f cellS
  rw [check_is l (by omega), some_bind]
  by_cases hc : checkS l = 0
  · obtain ⟨hl, hok⟩ := checkS_ok hc
    rw [if_pos hc, if_pos hc, known_is, some_bind]
    by_cases hi : 1 ≤ i ∧ i ≤ 1024
    · rw [decide_eq_true hi, if_pos rfl, known_is, some_bind]
      by_cases hw : 1 ≤ w ∧ w ≤ 1024
      · rw [decide_eq_true hw, if_pos ⟨hi, hw⟩, stock_Cell.j0, if_neg (by decide), place_is l i w hl hok hw (by omega), some_bind]
        dsimp only
        have hh := hasK_ahead (key i w) l 0 hok
        by_cases hb : hasK (key i w) l = true
        · rw [if_pos hb, if_pos (Int.natCast_nonneg _)]
          rw [hb] at hh
          have h3 : ahead (key i w) l < l.length := by
            by_cases h3 : ahead (key i w) l < l.length
            · exact h3
            · rw [dif_neg h3] at hh; cases hh
          rw [dif_pos h3] at hh
          have h4 := of_decide_eq_true hh.symm
          rw [if_pos (Int.ofNat_lt.mpr h3), rd_at l _ h3, cellAt_ahead i w l 0 hok h3 h4]
        · rw [if_neg hb, cellAt_no i w l (Bool.eq_false_iff.mpr hb)]
      · rw [decide_eq_false hw, if_neg (fun h => hw h.2), stock_Cell.j0]; rfl
    · rw [decide_eq_false hi, if_neg (by decide), if_neg (fun h => hi h.1), stock_Cell.j0]; rfl
  · rw [if_neg hc, if_neg hc, checkS_9 hc]
def put (c : S43) : List S43 → List S43
  | [] => [c]
  | x :: r => if kk x < kk c then x :: put c r else if kk x = kk c then c :: r else c :: x :: r
theorem put_set (c : S43) : ∀ (l : List S43) (h : ahead (kk c) l < l.length), kk l[ahead (kk c) l] = kk c → l.set (ahead (kk c) l) c = put c l
  | [], h, _ => by simp at h
  | x :: r, h, hf => by
    by_cases h1 : kk x < kk c
    · have e : ahead (kk c) (x :: r) = ahead (kk c) r + 1 := by rw [ahead, if_pos h1]
      simp only [e, List.length_cons, Nat.add_lt_add_iff_right, List.getElem_cons_succ] at h hf
      rw [e, put, if_pos h1, List.set_cons_succ, put_set c r h hf]
    · have e : ahead (kk c) (x :: r) = 0 := by rw [ahead, if_neg h1]
      simp only [e, List.getElem_cons_zero] at hf
      rw [e, put, if_neg h1, if_pos hf, List.set_cons_zero]
theorem put_ins (c : S43) : ∀ (l : List S43), hasK (kk c) l = false → (l.take (ahead (kk c) l) ++ [c] ++ l.drop (ahead (kk c) l)).set (ahead (kk c) l) c = put c l
  | [], _ => rfl
  | x :: r, hf => by
    rw [hasK] at hf
    split at hf
    · cases hf
    · rename_i h2
      by_cases h1 : kk x < kk c
      · have e : ahead (kk c) (x :: r) = ahead (kk c) r + 1 := by rw [ahead, if_pos h1]
        rw [e, put, if_pos h1, ← put_ins c r hf]; rfl
      · have e : ahead (kk c) (x :: r) = 0 := by rw [ahead, if_neg h1]
        rw [e, put, if_neg h1, if_neg h2]; rfl
def mvK (q : Nat) (n : Int) (c : S43) : S43 :=
  match q with
  | 0 => ⟨c.f0, c.f1, c.f2 + n, c.f3, c.f4, c.f5 + n⟩
  | 1 => ⟨c.f0, c.f1, c.f2 - n, c.f3 + n, c.f4, c.f5⟩
  | 2 => ⟨c.f0, c.f1, c.f2 + n, c.f3 - n, c.f4, c.f5⟩
  | 3 => ⟨c.f0, c.f1, c.f2, c.f3 - n, c.f4 + n, c.f5⟩
  | _ => ⟨c.f0, c.f1, c.f2 + n, c.f3, c.f4 - n, c.f5⟩
abbrev smallC (c : S43) : Prop := (0 ≤ c.f2 ∧ c.f2 ≤ 1125899906842624) ∧ (0 ≤ c.f3 ∧ c.f3 ≤ 1125899906842624) ∧ (0 ≤ c.f4 ∧ c.f4 ≤ 1125899906842624) ∧ (0 ≤ c.f5 ∧ c.f5 ≤ 1125899906842624) ∧ c.f2 + c.f3 + c.f4 = c.f5
def okQ (q : Nat) : Prop := q = 1 ∨ q = 3 ∨ q = 4
def clK (q : Nat) : Int := match q with | 1 => 23 | 3 => 31 | _ => 34
theorem cl_is (q : Nat) (hq : okQ q) (n : Int) (hn : 1 ≤ n ∧ n ≤ 1048576) (c : S43) (hc : smallC c) :
    cl_T61.f (clK q, n) c.f0 c.f1 c.f2 c.f3 c.f4 c.f5 = some ((mvK q n c).f0, (mvK q n c).f1, (mvK q n c).f2, (mvK q n c).f3, (mvK q n c).f4, (mvK q n c).f5) := by
  have a0 : wrap64 (c.f2 + n) = c.f2 + n := w64 (by omega) (by omega)
  have a1 : wrap64 (c.f5 + n) = c.f5 + n := w64 (by omega) (by omega)
  have a2 : wrap64 (c.f2 - n) = c.f2 - n := w64 (by omega) (by omega)
  have a3 : wrap64 (c.f3 + n) = c.f3 + n := w64 (by omega) (by omega)
  have a4 : wrap64 (c.f3 - n) = c.f3 - n := w64 (by omega) (by omega)
  have a5 : wrap64 (c.f4 + n) = c.f4 + n := w64 (by omega) (by omega)
  have a6 : wrap64 (c.f4 - n) = c.f4 - n := w64 (by omega) (by omega)
  unfold cl_T61.f
  rcases hq with rfl | rfl | rfl
  · simp [mvK, clK, a2, a3]
  · simp [mvK, clK, a4, a5]
  · simp [mvK, clK, a0, a6]
theorem mvK_key (q : Nat) (n : Int) (c : S43) : (mvK q n c).f0 = c.f0 ∧ (mvK q n c).f1 = c.f1 := by
  unfold mvK; split <;> exact ⟨rfl, rfl⟩
theorem mvK_kk (q : Nat) (n : Int) (c : S43) : kk (mvK q n c) = kk c := by
  unfold kk; rw [(mvK_key q n c).1, (mvK_key q n c).2]
def moveS (q : Nat) (l : List S43) (i w n : Int) : List S43 × Int :=
  if (cellS l i w).2 ≠ 0 then ([], (cellS l i w).2) else if n < 1 ∨ n > 1048576 then ([], 2) else
  if (mvK q n (cellS l i w).1).f2 < 0 ∨ (mvK q n (cellS l i w).1).f3 < 0 ∨ (mvK q n (cellS l i w).1).f4 < 0 then ([], 13) else
  if (mvK q n (cellS l i w).1).f5 > 1125899906842624 then ([], 5) else if hasK (key i w) l = false ∧ l.length ≥ 4096 then ([], 3) else (put (mvK q n (cellS l i w).1) l, 0)
theorem cellS_ok {l : List S43} {i w : Int} (h : (cellS l i w).2 = 0) : l.length ≤ 4096 ∧ okC 0 l = true ∧ (1 ≤ i ∧ i ≤ 1024) ∧ (1 ≤ w ∧ w ≤ 1024) ∧ cellS l i w = (cellAt i w l, 0) := by
  unfold cellS at h ⊢
  split at h
  · rename_i hc
    obtain ⟨h1, h2⟩ := checkS_ok hc
    split at h
    · rename_i hk
      rw [if_pos hc, if_pos hk]; exact ⟨h1, h2, hk.1, hk.2, rfl⟩
    · cases h
  · cases h
theorem cellAt_good (i w : Int) (hi : 1 ≤ i ∧ i ≤ 1024) (hw : 1 ≤ w ∧ w ≤ 1024) : ∀ (l : List S43) (last : Int), okC last l = true → goodC (cellAt i w l) ∧ (cellAt i w l).f0 = i ∧ (cellAt i w l).f1 = w
  | [], _, _ => by
    refine ⟨⟨hi, hw, ?_⟩, rfl, rfl⟩
    simp [cellAt]
  | x :: r, last, hok => by
    obtain ⟨g1, g2, g3⟩ := okC_cons.1 hok
    rw [cellAt]
    by_cases h : kk x = key i w
    · rw [if_pos h]
      have := (key_inj g2.2.1 hw).1 h
      exact ⟨g2, this.1, this.2⟩
    · rw [if_neg h]; exact cellAt_good i w hi hw r _ g3
theorem moved_j2 (l : List S43) (c : S43) (hl : l.length ≤ 4096) (hok : okC 0 l = true) (b : Bool) (hb : b = (if hasK (kk c) l = true then false else decide ((l.length : Int) ≥ 4096))) (k : Nat) :
    stock_moved.j2 (k + 1) l (ahead (kk c) l : Int) (hasK (kk c) l) b c.f0 c.f1 c.f2 c.f3 c.f4 c.f5 = some (if hasK (kk c) l = false ∧ l.length ≥ 4096 then ([], 3) else (put c l, 0)) := by
  have hh := hasK_ahead (kk c) l 0 hok
  have hal := ahead_le (kk c) l
  rw [stock_moved.j2]
  unfold api_Cell_21.f
  rw [if_pos (show l.length * 48 ≤ 140737488355328 by omega), some_bind]
  by_cases hb1 : hasK (kk c) l = true
  · rw [if_pos hb1] at hb
    subst hb
    rw [if_neg (by decide), if_pos hb1, if_pos (Int.natCast_nonneg _), if_neg (show ¬ (hasK (kk c) l = false ∧ l.length ≥ 4096) from fun h => absurd (hb1.symm.trans h.1) (by decide))]
    rw [hb1] at hh
    have h3 : ahead (kk c) l < l.length := by
      by_cases h3 : ahead (kk c) l < l.length
      · exact h3
      · rw [dif_neg h3] at hh; cases hh
    rw [dif_pos h3] at hh
    rw [if_pos (Int.ofNat_lt.mpr h3), Int.toNat_natCast, put_set c l h3 (of_decide_eq_true hh.symm)]
  · have hb0 : hasK (kk c) l = false := Bool.eq_false_iff.mpr hb1
    rw [if_neg hb1] at hb
    by_cases hm : (l.length : Int) ≥ 4096
    · rw [decide_eq_true hm] at hb
      subst hb
      rw [if_pos rfl, if_pos ⟨hb0, by omega⟩]
    · rw [decide_eq_false hm] at hb
      subst hb
      rw [if_neg (by decide), if_neg hb1, if_neg (show ¬ (hasK (kk c) l = false ∧ l.length ≥ 4096) from fun h => by omega)]
      unfold api_Cell_44.f
      rw [if_pos ⟨Int.natCast_nonneg _, Int.ofNat_le.mpr hal, rfl, by omega⟩, some_bind, if_pos (Int.natCast_nonneg _), if_pos, Int.toNat_natCast, put_ins c l hb0]
      rw [Int.toNat_natCast]
      refine Int.ofNat_lt.mpr ?_
      simp only [List.length_append, List.length_take, List.length_drop, List.length_singleton]; omega
theorem moved_is (q : Nat) (hq : okQ q) (l : List S43) (i w n : Int) {k : Nat} (hk : l.length + 11 < k) : stock_moved.f k l i w n (clK q, n) = some (moveS q l i w n) := by
  obtain ⟨k, rfl⟩ : ∃ p, k = p + 3 := ⟨k - 3, by omega⟩
  unfold stock_moved.f moveS
  rw [cell_is l i w (by omega), some_bind]
  dsimp only
  by_cases h0 : (cellS l i w).2 = 0
  · obtain ⟨hl, hok, hi, hw, he⟩ := cellS_ok h0
    rw [if_pos h0, if_neg (show ¬ (cellS l i w).2 ≠ 0 from fun h => h h0), he]
    dsimp only
    obtain ⟨hg, hf0, hf1⟩ := cellAt_good i w hi hw l 0 hok
    generalize cellAt i w l = c at hg hf0 hf1
    by_cases hn : 1 ≤ n ∧ n ≤ 1048576
    · rw [if_neg (show ¬ n < 1 by omega), decide_eq_false (show ¬ n > 1048576 by omega), if_neg (show ¬ (n < 1 ∨ n > 1048576) by omega), stock_moved.j0, if_neg (by decide), cl_is q hq n hn c ⟨hg.2.2.1, hg.2.2.2.1, hg.2.2.2.2.1, hg.2.2.2.2.2.1, hg.2.2.2.2.2.2⟩, some_bind]
      dsimp only
      have hkk : kk (mvK q n c) = key i w := by rw [mvK_kk]; unfold kk; rw [hf0, hf1]
      generalize mvK q n c = d at hkk
      by_cases h2 : d.f2 < 0
      · rw [if_pos h2, stock_moved.j1, if_pos rfl, if_pos (.inl h2)]
      · rw [if_neg h2]
        by_cases h3 : d.f3 < 0
        · rw [if_pos h3, stock_moved.j1, if_pos rfl, if_pos (.inr (.inl h3))]
        · rw [if_neg h3, stock_moved.j1]
          by_cases h4 : d.f4 < 0
          · rw [decide_eq_true h4, if_pos rfl, if_pos (.inr (.inr h4))]
          · rw [decide_eq_false h4, if_neg (by decide), if_neg (show ¬ (d.f2 < 0 ∨ d.f3 < 0 ∨ d.f4 < 0) by omega)]
            by_cases h5 : d.f5 > 1125899906842624
            · rw [if_pos h5, if_pos h5]
            · rw [if_neg h5, if_neg h5, place_is l i w hl hok hw (by omega), some_bind, ← hkk]
              dsimp only
              by_cases hb : hasK (kk d) l = true
              · rw [if_pos hb, moved_j2 l d hl hok false (by rw [if_pos hb]) k]
              · rw [if_neg hb, moved_j2 l d hl hok _ (by rw [if_neg hb]) k]
    · rw [if_pos (show n < 1 ∨ n > 1048576 by omega)]
      by_cases h1 : n < 1
      · rw [if_pos h1, stock_moved.j0, if_pos rfl]
      · rw [if_neg h1, decide_eq_true (show n > 1048576 by omega), stock_moved.j0, if_pos rfl]
  · rw [if_neg h0, if_pos h0]
theorem reserve_is (l : List S43) (i w n : Int) {k : Nat} (hk : l.length + 11 < k) : stock_Reserve.f k l i w n = some (moveS 1 l i w n) := moved_is 1 (by unfold okQ; decide) l i w n hk
theorem send_is (l : List S43) (i w n : Int) {k : Nat} (hk : l.length + 11 < k) : stock_Send.f k l i w n = some (moveS 3 l i w n) := moved_is 3 (by unfold okQ; decide) l i w n hk
theorem takeBack_is (l : List S43) (i w n : Int) {k : Nat} (hk : l.length + 11 < k) : stock_TakeBack.f k l i w n = some (moveS 4 l i w n) := moved_is 4 (by unfold okQ; decide) l i w n hk
def fnK (q : Nat) : Int := match q with | 1 => 8 | 3 => 11 | _ => 13
theorem call_is (q : Nat) (hq : okQ q) (l : List S43) (i w n : Int) {k : Nat} (hk : l.length + 11 < k) : call_T31.f k (fnK q) l i w n = some (moveS q l i w n) := by
  unfold call_T31.f
  rcases hq with rfl | rfl | rfl
  · exact reserve_is l i w n hk
  · exact send_is l i w n hk
  · exact takeBack_is l i w n hk
end Go.Proofs.YtdiopojnkjkgmaaDoor.Pure
set_option linter.unusedVariables false
namespace Go.Proofs.YtdiopojnkjkgmaaDoor.Pure
open Go.RowKit Go.Proofs.YtdiopojnkjkgmaaDoor.Print Go.Proofs.YtdiopojnkjkgmaaDoorW.PrintWords Go.Proofs.YtdiopojnkjkgmaaDoorW.PrintLast Go.Proofs.YtdiopojnkjkgmaaDoorW.PrintMore
theorem put_ok (c : S43) (hc : goodC c) : ∀ (l : List S43) (last : Int), last < kk c → okC last l = true → okC last (put c l) = true
  | [], last, h1, _ => okC_cons.2 ⟨h1, hc, rfl⟩
  | x :: r, last, h1, hok => by
    obtain ⟨g1, g2, g3⟩ := okC_cons.1 hok
    rw [put]
    split
    · rename_i hx
      exact okC_cons.2 ⟨g1, g2, put_ok c hc r _ hx g3⟩
    · split
      · rename_i hx
        exact okC_cons.2 ⟨h1, hc, hx ▸ g3⟩
      · exact okC_cons.2 ⟨h1, hc, okC_cons.2 ⟨by omega, g2, g3⟩⟩
theorem put_len (c : S43) : ∀ (l : List S43) (last : Int), okC last l = true → (put c l).length = if hasK (kk c) l = true then l.length else l.length + 1
  | [], _, _ => rfl
  | x :: r, last, hok => by
    obtain ⟨g1, g2, g3⟩ := okC_cons.1 hok
    rw [put, hasK]
    by_cases h1 : kk x < kk c
    · rw [if_pos h1, if_neg (show ¬ kk x = kk c by omega), List.length_cons, List.length_cons, put_len c r _ g3]
      split <;> omega
    · rw [if_neg h1]
      by_cases h2 : kk x = kk c
      · rw [if_pos h2, if_pos h2, if_pos rfl]; rfl
      · rw [if_neg h2, if_neg h2, hasK_above (kk c) r _ g3 (by omega)]; rfl
theorem put_at (c : S43) (i w : Int) (hk : kk c = key i w) : ∀ (l : List S43), cellAt i w (put c l) = c
  | [] => by rw [put, cellAt, if_pos hk]
  | x :: r => by
    rw [put]
    split
    · rw [cellAt, if_neg (by omega), put_at c i w hk r]
    · split
      · rw [cellAt, if_pos hk]
      · rw [cellAt, if_pos hk]
theorem put_at_other (c : S43) (i w : Int) (hk : kk c ≠ key i w) : ∀ (l : List S43), cellAt i w (put c l) = cellAt i w l
  | [] => by
    show (if kk c = key i w then c else cellAt i w []) = cellAt i w []
    rw [if_neg hk]
  | x :: r => by
    rw [put]
    split
    · rw [cellAt, cellAt, put_at_other c i w hk r]
    · split
      · rename_i hx
        rw [cellAt, cellAt, if_neg hk, if_neg (by omega)]
      · rw [cellAt, if_neg hk]
structure MoveOk (q : Nat) (l : List S43) (i w n : Int) : Prop where
  hl : l.length ≤ 4096
  hok : okC 0 l = true
  hi : 1 ≤ i ∧ i ≤ 1024
  hw : 1 ≤ w ∧ w ≤ 1024
  hn : 1 ≤ n ∧ n ≤ 1048576
  h2 : 0 ≤ (mvK q n (cellAt i w l)).f2
  h3 : 0 ≤ (mvK q n (cellAt i w l)).f3
  h4 : 0 ≤ (mvK q n (cellAt i w l)).f4
  h5 : (mvK q n (cellAt i w l)).f5 ≤ 1125899906842624
  hroom : ¬ (hasK (key i w) l = false ∧ l.length ≥ 4096)
theorem moveS_yes {q : Nat} {l : List S43} {i w n : Int} (h : MoveOk q l i w n) : moveS q l i w n = (put (mvK q n (cellAt i w l)) l, 0) := by
  have e : cellS l i w = (cellAt i w l, 0) := by
    unfold cellS
    rw [if_pos (show checkS l = 0 by unfold checkS; rw [if_pos ⟨h.hl, h.hok⟩]), if_pos ⟨h.hi, h.hw⟩]
  have := h.hn; have := h.h2; have := h.h3; have := h.h4; have := h.h5
  unfold moveS
  rw [e, if_neg (fun h => h rfl), if_neg (by omega)]
  dsimp only
  rw [if_neg (by omega), if_neg (by omega), if_neg h.hroom]
theorem moveS_ok {q : Nat} {l : List S43} {i w n : Int} (h : (moveS q l i w n).2 = 0) : MoveOk q l i w n := by
  unfold moveS at h
  by_cases h0 : (cellS l i w).2 = 0
  · obtain ⟨hl, hok, hi, hw, he⟩ := cellS_ok h0
    rw [if_neg (fun h => h h0), he] at h
    dsimp only at h
    split at h
    · cases h
    · split at h
      · cases h
      · split at h
        · cases h
        · split at h
          · cases h
          · rename_i a1 a2 a3 a4
            exact ⟨hl, hok, hi, hw, by omega, by omega, by omega, by omega, by omega, a4⟩
  · rw [if_pos h0] at h; exact absurd h h0
theorem mvK_sum (q : Nat) (n : Int) (c : S43) (h : c.f2 + c.f3 + c.f4 = c.f5) : (mvK q n c).f2 + (mvK q n c).f3 + (mvK q n c).f4 = (mvK q n c).f5 := by
  unfold mvK; split <;> dsimp only <;> omega
theorem MoveOk.at_ {q : Nat} {l : List S43} {i w n : Int} (h : MoveOk q l i w n) : goodC (cellAt i w l) ∧ kk (cellAt i w l) = key i w := by
  obtain ⟨h1, h2, h3⟩ := cellAt_good i w h.hi h.hw l 0 h.hok
  exact ⟨h1, by unfold kk; rw [h2, h3]⟩
theorem MoveOk.good {q : Nat} {l : List S43} {i w n : Int} (h : MoveOk q l i w n) : goodC (mvK q n (cellAt i w l)) ∧ kk (mvK q n (cellAt i w l)) = key i w := by
  obtain ⟨h1, h2⟩ := h.at_
  have hs := mvK_sum q n _ h1.2.2.2.2.2.2
  have := h.h2; have := h.h3; have := h.h4; have := h.h5
  obtain ⟨k1, k2⟩ := mvK_key q n (cellAt i w l)
  refine ⟨⟨by rw [k1]; exact h1.1, by rw [k2]; exact h1.2.1, by omega, by omega, by omega, by omega, hs⟩, by rw [mvK_kk]; exact h2⟩
theorem key_pos {i w : Int} (hi : 1 ≤ i ∧ i ≤ 1024) (hw : 1 ≤ w ∧ w ≤ 1024) : 0 < key i w := by unfold key; omega
theorem MoveOk.next {q : Nat} {l : List S43} {i w n : Int} (h : MoveOk q l i w n) : (put (mvK q n (cellAt i w l)) l).length ≤ 4096 ∧ okC 0 (put (mvK q n (cellAt i w l)) l) = true := by
  obtain ⟨g1, g2⟩ := h.good
  refine ⟨?_, put_ok _ g1 l 0 (by rw [g2]; exact key_pos h.hi h.hw) h.hok⟩
  rw [put_len _ l 0 h.hok, g2]
  have := h.hroom
  have := h.hl
  split
  · exact h.hl
  · rename_i hc
    rcases Nat.lt_or_ge l.length 4096 with hlt | hge
    · omega
    · exact absurd ⟨Bool.eq_false_iff.mpr hc, hge⟩ h.hroom
theorem mvK_zero (q : Nat) (hq : q ≠ 0) (n : Int) (hn : 1 ≤ n) (i w : Int) : (mvK q n ⟨i, w, 0, 0, 0, 0⟩).f2 < 0 ∨ (mvK q n ⟨i, w, 0, 0, 0, 0⟩).f3 < 0 ∨ (mvK q n ⟨i, w, 0, 0, 0, 0⟩).f4 < 0 := by
  unfold mvK
  split
  · exact absurd rfl hq
  · dsimp only; omega
  · dsimp only; omega
  · dsimp only; omega
  · dsimp only; omega
theorem MoveOk.has {q : Nat} {l : List S43} {i w n : Int} (h : MoveOk q l i w n) (hq : q ≠ 0) : hasK (key i w) l = true := by
  by_cases hc : hasK (key i w) l = true
  · exact hc
  · have h2 := h.h2; have h3 := h.h3; have h4 := h.h4; have := h.hn
    rw [cellAt_no i w l (Bool.eq_false_iff.mpr hc)] at h2 h3 h4
    have := mvK_zero q hq n (by omega) i w
    omega
end Go.Proofs.YtdiopojnkjkgmaaDoor.Pure
set_option linter.unusedVariables false
namespace Go.Proofs.YtdiopojnkjkgmaaDoor.Pure
open Go.RowKit Go.Proofs.YtdiopojnkjkgmaaDoor.Print Go.Proofs.YtdiopojnkjkgmaaDoorW.PrintWords Go.Proofs.YtdiopojnkjkgmaaDoorW.PrintLast Go.Proofs.YtdiopojnkjkgmaaDoorW.PrintMore
theorem rd41 (l : List S41) (i : Nat) (h : i < l.length) : rd_T41 l (i : Int) = l[i] := by
  unfold rd_T41
  rw [Int.toNat_natCast, List.getD_eq_getElem?_getD, List.getElem?_eq_getElem h]; rfl
def linesS (q : Nat) : List S43 → List S41 → List S43 × Int
  | out, [] => (out, 0)
  | out, x :: r => if (moveS q out x.f0 x.f1 x.f2).2 = 0 then linesS q (moveS q out x.f0 x.f1 x.f2).1 r else ([], (moveS q out x.f0 x.f1 x.f2).2)
theorem put_length (c : S43) : ∀ (l : List S43), (put c l).length ≤ l.length + 1
  | [] => Nat.le_refl _
  | x :: r => by
    rw [put]; split
    · simp only [List.length_cons]; have := put_length c r; omega
    · split <;> simp
theorem moveS_length (q : Nat) (l : List S43) (i w n : Int) : (moveS q l i w n).1.length ≤ 4097 := by
  unfold moveS
  by_cases h0 : (cellS l i w).2 = 0
  · obtain ⟨hl, hok, _⟩ := cellS_ok h0
    rw [if_neg (fun h => h h0)]
    split
    · simp
    · split
      · simp
      · split
        · simp
        · split
          · simp
          · show (put _ l).length ≤ 4097
            have := put_length (mvK q n (cellS l i w).1) l; omega
  · rw [if_pos h0]; simp
theorem lines_l0 (q : Nat) (hq : okQ q) (r : List S41) (hr : r.length ≤ 140737488355328) (L : Nat) (hL : 4097 ≤ L) : ∀ (d k j : Nat) (out : List S43), j + d = r.length → out.length ≤ L → L + 12 + d < k →
    stock_Lines.l0 k (fnK q) out r (r.length : Int) (j : Int) = some (linesS q out (r.drop j))
  | 0, k, j, out, h, ho, hk => by
    obtain ⟨k, rfl⟩ : ∃ p, k = p + 1 := ⟨k - 1, by omega⟩
    rw [stock_Lines.l0, if_neg (by omega), List.drop_of_length_le (by omega)]; rfl
  | d + 1, k, j, out, h, ho, hk => by
    obtain ⟨k, rfl⟩ : ∃ p, k = p + 1 := ⟨k - 1, by omega⟩
    have hi : j < r.length := by omega
    rw [stock_Lines.l0, if_pos (by omega), if_pos (by omega), if_pos (by omega), rd41 r j hi, call_is q hq out _ _ _ (by omega), some_bind, List.drop_eq_getElem_cons hi, linesS]
    split
    · rw [w64n j (by omega), lines_l0 q hq r hr L hL d k (j + 1) _ (by omega) (Nat.le_trans (moveS_length q out _ _ _) hL) (by omega)]
    · rfl
theorem fnK_pos (q : Nat) : ¬ fnK q < 0 := by unfold fnK; split <;> decide
theorem lines_is (q : Nat) (hq : okQ q) (l : List S43) (r : List S41) (hl : l.length * 48 ≤ 140737488355328) (hr : r.length ≤ 140737488355328) {k : Nat} (hk : l.length + 4097 + r.length + 12 < k) : stock_Lines.f k l r (fnK q) = some (linesS q l r) := by
  unfold stock_Lines.f api_Cell_21.f
  rw [if_neg (fnK_pos q), if_pos hl, some_bind]
  have := lines_l0 q hq r hr (l.length + 4097) (by omega) r.length k 0 l (by omega) (by omega) (by omega)
  rwa [List.drop_zero] at this
end Go.Proofs.YtdiopojnkjkgmaaDoor.Pure
set_option linter.unusedVariables false
namespace Go.Proofs.YtdiopojnkjkgmaaDoor.Pure
open Go.RowKit Go.Proofs.YtdiopojnkjkgmaaDoor.Print Go.Proofs.YtdiopojnkjkgmaaDoorW.PrintWords Go.Proofs.YtdiopojnkjkgmaaDoorW.PrintLast Go.Proofs.YtdiopojnkjkgmaaDoorW.PrintMore
def manyL (i w : Int) : List S41 → Int
  | [] => 0
  | x :: r => (if x.f0 = i ∧ x.f1 = w then x.f2 else 0) + manyL i w r
def OkL (l : List S43) : Prop := l.length ≤ 4096 ∧ okC 0 l = true
theorem mvK_add (q : Nat) (a b : Int) (c : S43) : mvK q a (mvK q b c) = mvK q (b + a) c := by
  unfold mvK
  split <;> simp only [S43.mk.injEq, true_and, and_true] <;> omega
theorem mvK_nil (q : Nat) (c : S43) : mvK q 0 c = c := by
  unfold mvK
  obtain ⟨a, b, d, e, f, g⟩ := c
  split <;> simp
theorem mvK_f5 (q : Nat) (hq : q ≠ 0) (n : Int) (c : S43) : (mvK q n c).f5 = c.f5 := by
  unfold mvK
  split
  · exact absurd rfl hq
  all_goals rfl
theorem mvK_mid (q : Nat) (n m : Int) (c : S43) (h0 : 0 ≤ n) (h1 : n ≤ m) (hc : 0 ≤ c.f2 ∧ 0 ≤ c.f3 ∧ 0 ≤ c.f4) (hm : 0 ≤ (mvK q m c).f2 ∧ 0 ≤ (mvK q m c).f3 ∧ 0 ≤ (mvK q m c).f4) : 0 ≤ (mvK q n c).f2 ∧ 0 ≤ (mvK q n c).f3 ∧ 0 ≤ (mvK q n c).f4 := by
  unfold mvK at hm ⊢
  split at hm <;> dsimp only at hm ⊢ <;> omega
theorem manyL_pos (i w : Int) : ∀ r : List S41, (∀ x ∈ r, 1 ≤ x.f2) → 0 ≤ manyL i w r
  | [], _ => Int.le_refl _
  | x :: r, h => by
    have ih := manyL_pos i w r (fun y hy => h y (List.mem_cons_of_mem _ hy))
    have := h x (List.mem_cons_self ..)
    rw [manyL]
    split <;> omega
theorem hasK_keys (a : Int) : ∀ (l m : List S43), l.map kk = m.map kk → hasK a l = hasK a m
  | [], [], _ => rfl
  | [], y :: s, h => by simp at h
  | x :: r, [], h => by simp at h
  | x :: r, y :: s, h => by
    simp only [List.map_cons, List.cons.injEq] at h
    rw [hasK, hasK, h.1, hasK_keys a r s h.2]
theorem put_keys (c : S43) : ∀ (l : List S43) (last : Int), okC last l = true → hasK (kk c) l = true → (put c l).map kk = l.map kk
  | [], _, _, h => by cases h
  | x :: r, last, hok, h => by
    have hc := okC_cons.mp hok
    rw [put]
    by_cases h1 : kk x < kk c
    · rw [hasK, if_neg (by omega)] at h
      rw [if_pos h1, List.map_cons, List.map_cons, put_keys c r (kk x) hc.2.2 h]
    · rw [if_neg h1]
      by_cases h2 : kk x = kk c
      · rw [if_pos h2, List.map_cons, List.map_cons, h2]
      · rw [hasK, if_neg h2, hasK_above (kk c) r (kk x) hc.2.2 (by omega)] at h
        cases h
theorem ext_cells : ∀ (l g : List S43) (last last' : Int), okC last l = true → okC last' g = true → l.map kk = g.map kk → (∀ i w, 1 ≤ w ∧ w ≤ 1024 → cellAt i w l = cellAt i w g) → l = g
  | [], [], _, _, _, _, _, _ => rfl
  | [], y :: s, _, _, _, _, h, _ => by simp at h
  | x :: r, [], _, _, _, _, h, _ => by simp at h
  | x :: r, y :: s, last, last', hl, hg, h, hc => by
    simp only [List.map_cons, List.cons.injEq] at h
    have hx := okC_cons.mp hl
    have hy := okC_cons.mp hg
    have e : x = y := by
      have := hc x.f0 x.f1 hx.2.1.2.1
      rw [cellAt, if_pos (show kk x = key x.f0 x.f1 from rfl), cellAt, if_pos (show kk y = key x.f0 x.f1 by rw [← h.1]; rfl)] at this
      exact this
    subst e
    congr 1
    refine ext_cells r s (kk x) (kk x) hx.2.2 hy.2.2 h.2 (fun i w hw => ?_)
    by_cases hk : kk x = key i w
    · rw [cellAt_no i w r (by rw [← hk]; exact hasK_above _ r (kk x) hx.2.2 (Int.le_refl _)), cellAt_no i w s (by rw [← hk]; exact hasK_above _ s (kk x) hy.2.2 (Int.le_refl _))]
    · have := hc i w hw
      rwa [cellAt, if_neg hk, cellAt, if_neg hk] at this
def OkLine (x : S41) : Prop := (1 ≤ x.f0 ∧ x.f0 ≤ 1024) ∧ (1 ≤ x.f1 ∧ x.f1 ≤ 1024) ∧ (1 ≤ x.f2 ∧ x.f2 ≤ 1048576)
structure DoneL (q : Nat) (l : List S43) (r : List S41) : Prop where
  all : ∀ x ∈ r, OkLine x
  has : ∀ x ∈ r, hasK (key x.f0 x.f1) l = true
  ok : OkL (linesS q l r).1
  keys : (linesS q l r).1.map kk = l.map kk
  at_ : ∀ i w, 1 ≤ w ∧ w ≤ 1024 → cellAt i w (linesS q l r).1 = mvK q (manyL i w r) (cellAt i w l)
theorem put_cell {q : Nat} {l : List S43} {x : S41} (M : MoveOk q l x.f0 x.f1 x.f2) (i w : Int) (hw : 1 ≤ w ∧ w ≤ 1024) : cellAt i w (put (mvK q x.f2 (cellAt x.f0 x.f1 l)) l) = mvK q (if x.f0 = i ∧ x.f1 = w then x.f2 else 0) (cellAt i w l) := by
  have hk : kk (mvK q x.f2 (cellAt x.f0 x.f1 l)) = key x.f0 x.f1 := M.good.2
  by_cases h : x.f0 = i ∧ x.f1 = w
  · obtain ⟨rfl, rfl⟩ := h
    rw [put_at _ _ _ hk, if_pos ⟨rfl, rfl⟩]
  · rw [put_at_other _ i w (by rw [hk]; exact fun he => h ((key_inj M.hw hw).mp he)), if_neg h, mvK_nil]
theorem lines_done (q : Nat) (hq : q ≠ 0) : ∀ (r : List S41) (l : List S43), OkL l → (linesS q l r).2 = 0 → DoneL q l r
  | [], l, hl, _ => ⟨by simp, by simp, hl, rfl, fun i w _ => (mvK_nil q _).symm⟩
  | x :: r, l, hl, h => by
    by_cases hm : (moveS q l x.f0 x.f1 x.f2).2 = 0
    · have M := moveS_ok hm
      have e : linesS q l (x :: r) = linesS q (put (mvK q x.f2 (cellAt x.f0 x.f1 l)) l) r := by rw [linesS, if_pos hm, moveS_yes M]
      rw [e] at h
      have hh := M.has hq
      have hkk : kk (mvK q x.f2 (cellAt x.f0 x.f1 l)) = key x.f0 x.f1 := M.good.2
      have hkeys := put_keys (mvK q x.f2 (cellAt x.f0 x.f1 l)) l 0 hl.2 (by rw [hkk]; exact hh)
      have D := lines_done q hq r _ M.next h
      refine ⟨fun y hy => ?_, fun y hy => ?_, by rw [e]; exact D.ok, by rw [e, D.keys, hkeys], fun i w hw => ?_⟩
      · rcases List.mem_cons.mp hy with rfl | hy
        · exact ⟨M.hi, M.hw, M.hn⟩
        · exact D.all y hy
      · rcases List.mem_cons.mp hy with rfl | hy
        · exact hh
        · rw [← hasK_keys _ _ _ hkeys]
          exact D.has y hy
      · rw [e, D.at_ i w hw, put_cell M i w hw, mvK_add, manyL]
    · rw [linesS, if_neg hm] at h
      exact absurd h hm
theorem lines_ok (q : Nat) (hq : q ≠ 0) : ∀ (r : List S41) (l : List S43), OkL l → (∀ x ∈ r, OkLine x) → (∀ x ∈ r, hasK (key x.f0 x.f1) l = true) →
    (∀ i w, 1 ≤ w ∧ w ≤ 1024 → 0 ≤ (mvK q (manyL i w r) (cellAt i w l)).f2 ∧ 0 ≤ (mvK q (manyL i w r) (cellAt i w l)).f3 ∧ 0 ≤ (mvK q (manyL i w r) (cellAt i w l)).f4) → (linesS q l r).2 = 0
  | [], l, _, _, _, _ => rfl
  | x :: r, l, hl, ha, hh, hm => by
    have hx := ha x (List.mem_cons_self ..)
    have hk := hh x (List.mem_cons_self ..)
    have hp := manyL_pos x.f0 x.f1 r (fun y hy => (ha y (List.mem_cons_of_mem _ hy)).2.2.1)
    have G := cellAt_good x.f0 x.f1 hx.1 hx.2.1 l 0 hl.2
    have hmx := hm x.f0 x.f1 hx.2.1
    rw [manyL, if_pos ⟨rfl, rfl⟩] at hmx
    have hg := G.1.2
    have h3 := mvK_mid q x.f2 _ _ (by have := hx.2.2; omega) (by omega) (by have := hg; omega) hmx
    have M : MoveOk q l x.f0 x.f1 x.f2 := ⟨hl.1, hl.2, hx.1, hx.2.1, hx.2.2, h3.1, h3.2.1, h3.2.2, by rw [mvK_f5 q hq]; omega, fun h => by rw [hk] at h; cases h.1⟩
    have hkk : kk (mvK q x.f2 (cellAt x.f0 x.f1 l)) = key x.f0 x.f1 := M.good.2
    have hkeys := put_keys (mvK q x.f2 (cellAt x.f0 x.f1 l)) l 0 hl.2 (by rw [hkk]; exact hk)
    have e : linesS q l (x :: r) = linesS q (put (mvK q x.f2 (cellAt x.f0 x.f1 l)) l) r := by rw [linesS, moveS_yes M, if_pos rfl]
    rw [e]
    refine lines_ok q hq r _ M.next (fun y hy => ha y (List.mem_cons_of_mem _ hy)) (fun y hy => ?_) (fun i w hw => ?_)
    · rw [hasK_keys _ _ _ hkeys]
      exact hh y (List.mem_cons_of_mem _ hy)
    · rw [put_cell M i w hw, mvK_add]
      exact hm i w hw
structure Sold (l : List S43) (r : List S41) : Prop where
  all : ∀ x ∈ r, OkLine x
  send : (linesS 3 (linesS 1 l r).1 r).2 = 0
  back : linesS 4 (linesS 3 (linesS 1 l r).1 r).1 r = (l, 0)
  sent : OkL (linesS 3 (linesS 1 l r).1 r).1
  at_ : ∀ i w, 1 ≤ w ∧ w ≤ 1024 → cellAt i w (linesS 3 (linesS 1 l r).1 r).1 = ⟨(cellAt i w l).f0, (cellAt i w l).f1, (cellAt i w l).f2 - manyL i w r, (cellAt i w l).f3, (cellAt i w l).f4 + manyL i w r, (cellAt i w l).f5⟩
  free : ∀ x ∈ r, manyL x.f0 x.f1 r ≤ 1125899906842624
theorem sold (l : List S43) (r : List S41) (hl : OkL l) (h : (linesS 1 l r).2 = 0) : Sold l r := by
  have D := lines_done 1 (by decide) r l hl h
  have hpos : ∀ i w, 0 ≤ manyL i w r := fun i w => manyL_pos i w r (fun y hy => (D.all y hy).2.2.1)
  have hno : ∀ i w, (∀ x ∈ r, ¬ (x.f0 = i ∧ x.f1 = w)) → manyL i w r = 0 := by
    intro i w
    have : ∀ s : List S41, (∀ x ∈ s, ¬ (x.f0 = i ∧ x.f1 = w)) → manyL i w s = 0 := by
      intro s
      induction s with
      | nil => intro _; rfl
      | cons y s ih =>
        intro hs
        rw [manyL, if_neg (hs y (List.mem_cons_self ..)), ih (fun z hz => hs z (List.mem_cons_of_mem _ hz))]
        rfl
    exact this r
  have hgood : ∀ i w, (1 ≤ w ∧ w ≤ 1024) → ∀ m : List S43, OkL m → manyL i w r ≠ 0 → 0 ≤ (cellAt i w m).f2 ∧ 0 ≤ (cellAt i w m).f3 ∧ 0 ≤ (cellAt i w m).f4 ∧ (cellAt i w m).f2 ≤ 1125899906842624 := by
    intro i w hw m hm hne
    have : ∃ x ∈ r, x.f0 = i ∧ x.f1 = w := by
      refine Classical.byContradiction fun hn => hne (hno i w fun x hx he => hn ⟨x, hx, he⟩)
    obtain ⟨x, hx, rfl, rfl⟩ := this
    have G := (cellAt_good x.f0 x.f1 (D.all x hx).1 (D.all x hx).2.1 m 0 hm.2).1.2
    omega
  have hgood0 : ∀ i w, (1 ≤ w ∧ w ≤ 1024) → ∀ m : List S43, OkL m → 0 ≤ (cellAt i w m).f2 ∧ 0 ≤ (cellAt i w m).f3 ∧ 0 ≤ (cellAt i w m).f4 := by
    intro i w hw m hm
    by_cases hk : hasK (key i w) m = true
    · have : ∀ (s : List S43), (∀ y ∈ s, goodC y) → hasK (key i w) s = true → goodC (cellAt i w s) := by
        intro s
        induction s with
        | nil => intro _ h; cases h
        | cons y s ih =>
          intro hg h
          rw [cellAt]
          by_cases hy : kk y = key i w
          · rw [if_pos hy]
            exact hg y (List.mem_cons_self ..)
          · rw [hasK, if_neg hy] at h
            rw [if_neg hy]
            exact ih (fun z hz => hg z (List.mem_cons_of_mem _ hz)) h
      have G := (this m (fun y hy => (okC_all m 0 hm.2 y hy).2) hk).2
      omega
    · rw [cellAt_no i w m (Bool.eq_false_iff.mpr hk)]
      simp
  have hsend : (linesS 3 (linesS 1 l r).1 r).2 = 0 := by
    refine lines_ok 3 (by decide) r _ D.ok D.all (fun x hx => by rw [hasK_keys _ _ _ D.keys]; exact D.has x hx) (fun i w hw => ?_)
    have h0 := hgood0 i w hw l hl
    have h1 := hgood0 i w hw _ D.ok
    have hp := hpos i w
    rw [D.at_ i w hw] at h1 ⊢
    simp only [mvK] at h1 ⊢
    omega
  have S := lines_done 3 (by decide) r _ D.ok hsend
  have hat : ∀ i w, 1 ≤ w ∧ w ≤ 1024 → cellAt i w (linesS 3 (linesS 1 l r).1 r).1 = ⟨(cellAt i w l).f0, (cellAt i w l).f1, (cellAt i w l).f2 - manyL i w r, (cellAt i w l).f3, (cellAt i w l).f4 + manyL i w r, (cellAt i w l).f5⟩ := by
    intro i w hw
    rw [S.at_ i w hw, D.at_ i w hw]
    simp only [mvK, S43.mk.injEq, true_and, and_true]
    omega
  have hback : (linesS 4 (linesS 3 (linesS 1 l r).1 r).1 r).2 = 0 := by
    refine lines_ok 4 (by decide) r _ S.ok D.all (fun x hx => by rw [hasK_keys _ _ _ S.keys, hasK_keys _ _ _ D.keys]; exact D.has x hx) (fun i w hw => ?_)
    have h0 := hgood0 i w hw l hl
    have hp := hpos i w
    rw [hat i w hw]
    simp only [mvK]
    omega
  have B := lines_done 4 (by decide) r _ S.ok hback
  refine ⟨D.all, hsend, ?_, S.ok, hat, fun x hx => ?_⟩
  · have he : (linesS 4 (linesS 3 (linesS 1 l r).1 r).1 r).1 = l := by
      refine ext_cells _ _ 0 0 B.ok.2 hl.2 (by rw [B.keys, S.keys, D.keys]) (fun i w hw => ?_)
      rw [B.at_ i w hw, hat i w hw]
      generalize cellAt i w l = c
      obtain ⟨a, b, d, e, f, g⟩ := c
      simp only [mvK, S43.mk.injEq, true_and, and_true]
      omega
    exact Prod.ext he hback
  · have h1 := hgood0 x.f0 x.f1 (D.all x hx).2.1 _ D.ok
    have hp := (D.all x hx).2.2.1
    have hm : manyL x.f0 x.f1 r ≠ 0 := by
      have : ∀ s : List S41, (∀ y ∈ s, 1 ≤ y.f2) → x ∈ s → 1 ≤ manyL x.f0 x.f1 s := by
        intro s
        induction s with
        | nil => intro _ h; cases h
        | cons y s ih =>
          intro hs hx
          rw [manyL]
          have h2 := manyL_pos x.f0 x.f1 s (fun z hz => hs z (List.mem_cons_of_mem _ hz))
          have h3 := hs y (List.mem_cons_self ..)
          rcases List.mem_cons.mp hx with rfl | hx
          · rw [if_pos ⟨rfl, rfl⟩]
            omega
          · have := ih (fun z hz => hs z (List.mem_cons_of_mem _ hz)) hx
            split <;> omega
      have := this r (fun y hy => (D.all y hy).2.2.1) hx
      omega
    have h4 := hgood x.f0 x.f1 (D.all x hx).2.1 l hl hm
    rw [D.at_ _ _ (D.all x hx).2.1] at h1
    simp only [mvK] at h1
    omega
end Go.Proofs.YtdiopojnkjkgmaaDoor.Pure
set_option linter.unusedVariables false
namespace Go.Proofs.YtdiopojnkjkgmaaDoor.PureL
open Go.RowKit Go.Proofs.YtdiopojnkjkgmaaDoor.Print Go.Proofs.YtdiopojnkjkgmaaDoorW.PrintWords Go.Proofs.YtdiopojnkjkgmaaDoorW.PrintLast Go.Proofs.YtdiopojnkjkgmaaDoorW.PrintMore
theorem up {α : Type} {f : Nat → Option α} (hm : ∀ k, LeO (f k) (f (k + 1))) {k n : Nat} {r : α} (h : f k = some r) (hk : k ≤ n) : f n = some r := by
  induction hk with
  | refl => exact h
  | step _ ih => exact hm _ _ ih
theorem w64 {x : Int} (h0 : -9223372036854775808 ≤ x) (h1 : x ≤ 9223372036854775807) : wrap64 x = x := by unfold wrap64; omega
theorem w64n (i : Nat) (h : i < 9223372036854775807) : wrap64 ((i : Int) + 1) = ((i + 1 : Nat) : Int) := by rw [w64 (by omega) (by omega)]; rfl
theorem some_bind {α β : Type} (a : α) (f : α → Option β) : (some a).bind f = f a := rfl
def okO : Int → List S47 → Bool
  | _, [] => true
  | last, p :: r => decide (last < p.f0) && (decide (p.f0 ≤ 1024) && okO p.f0 r)
theorem okO_cons {last : Int} {p : S47} {r : List S47} : okO last (p :: r) = true ↔ last < p.f0 ∧ p.f0 ≤ 1024 ∧ okO p.f0 r = true := by
  simp only [okO, Bool.and_eq_true, decide_eq_true_eq]
theorem okO_low {a b : Int} (h : a ≤ b) : ∀ {l : List S47}, okO b l = true → okO a l = true
  | [], _ => rfl
  | p :: r, hl => by
    have := okO_cons.mp hl
    exact okO_cons.mpr ⟨by omega, this.2⟩
theorem okO_len : ∀ (l : List S47) (last : Int), last ≤ 1024 → okO last l = true → (l.length : Int) ≤ 1024 - last
  | [], last, h, _ => by simp only [List.length_nil]; omega
  | p :: r, last, h, hl => by
    have hc := okO_cons.mp hl
    have := okO_len r p.f0 hc.2.1 hc.2.2
    simp only [List.length_cons]
    omega
theorem okO_all : ∀ (l : List S47) (last : Int), okO last l = true → ∀ p ∈ l, last < p.f0 ∧ p.f0 ≤ 1024
  | [], _, _, _, hp => by cases hp
  | q :: r, last, hl, p, hp => by
    have hc := okO_cons.mp hl
    rcases List.mem_cons.mp hp with rfl | hp
    · exact ⟨hc.1, hc.2.1⟩
    · have := okO_all r q.f0 hc.2.2 p hp
      omega
def lookP (n : Int) : List S47 → S47
  | [] => zeroP n
  | p :: r => if p.f0 = n then p else lookP n r
def hasP (n : Int) : List S47 → Bool
  | [] => false
  | p :: r => decide (p.f0 = n) || hasP n r
def ahead (n : Int) : List S47 → Nat
  | [] => 0
  | p :: r => if p.f0 < n then ahead n r + 1 else 0
def noP (p : S47) : Bool := p.f1 == 0 && (p.f2 == 0 && p.f3 == 0)
def putP (n : Int) (q : S47) : List S47 → List S47
  | [] => if noP q = true then [] else [q]
  | p :: r => if p.f0 < n then p :: putP n q r else if p.f0 = n then (if noP q = true then r else q :: r) else (if noP q = true then p :: r else q :: p :: r)
theorem noP_zero {q : S47} (h : noP q = true) : q = zeroP q.f0 := by
  unfold noP at h
  simp only [Bool.and_eq_true, beq_iff_eq] at h
  obtain ⟨a, b, c, d⟩ := q
  simp only at h
  obtain ⟨rfl, rfl, rfl⟩ := h
  rfl
theorem noP_is (q : S47) : noP q = eqP q (zeroP q.f0) := by
  unfold noP eqP zeroP
  simp
theorem lookP_f0 (n : Int) : ∀ l, (lookP n l).f0 = n
  | [] => rfl
  | p :: r => by
    unfold lookP
    split
    · assumption
    · exact lookP_f0 n r
theorem lookP_above {n : Int} : ∀ {l : List S47} {last : Int}, okO last l = true → n ≤ last → lookP n l = zeroP n
  | [], _, _, _ => rfl
  | p :: r, last, h, hn => by
    have hc := okO_cons.mp h
    rw [lookP, if_neg (by omega)]
    exact lookP_above hc.2.2 (by omega)
theorem hasP_above {n : Int} : ∀ {l : List S47} {last : Int}, okO last l = true → n ≤ last → hasP n l = false
  | [], _, _, _ => rfl
  | p :: r, last, h, hn => by
    have hc := okO_cons.mp h
    rw [hasP, hasP_above hc.2.2 (by omega), decide_eq_false (by omega)]
    rfl
theorem hasP_no {n : Int} : ∀ {l : List S47}, hasP n l = false → lookP n l = zeroP n
  | [], _ => rfl
  | p :: r, h => by
    simp only [hasP, Bool.or_eq_false_iff, decide_eq_false_iff_not] at h
    rw [lookP, if_neg h.1]
    exact hasP_no h.2
theorem hasP_mem {n : Int} : ∀ {l : List S47}, hasP n l = true → lookP n l ∈ l ∧ (lookP n l).f0 = n
  | [], h => by cases h
  | p :: r, h => by
    by_cases hp : p.f0 = n
    · rw [lookP, if_pos hp]
      exact ⟨List.mem_cons_self .., hp⟩
    · simp only [hasP, Bool.or_eq_true, decide_eq_true_eq, hp, false_or] at h
      rw [lookP, if_neg hp]
      exact ⟨List.mem_cons_of_mem _ (hasP_mem h).1, (hasP_mem h).2⟩
theorem hasP_of {n : Int} : ∀ {l : List S47} {p : S47}, p ∈ l → p.f0 = n → hasP n l = true
  | q :: r, p, hp, hn => by
    rcases List.mem_cons.mp hp with rfl | hp
    · simp [hasP, hn]
    · simp [hasP, hasP_of hp hn]
theorem lookP_mem {l : List S47} {last : Int} (h : okO last l = true) {p : S47} (hp : p ∈ l) : lookP p.f0 l = p := by
  induction l generalizing last with
  | nil => cases hp
  | cons q r ih =>
    have hc := okO_cons.mp h
    rcases List.mem_cons.mp hp with rfl | hp
    · rw [lookP, if_pos rfl]
    · have := okO_all r q.f0 hc.2.2 p hp
      rw [lookP, if_neg (by omega)]
      exact ih hc.2.2 hp
theorem ahead_le (n : Int) : ∀ l : List S47, ahead n l ≤ l.length
  | [] => Nat.le_refl _
  | p :: r => by
    have := ahead_le n r
    unfold ahead
    split <;> simp <;> omega
theorem ahead_lt (n : Int) : ∀ (l : List S47) (i : Nat), i < l.length → i < ahead n l → (pAt l i).f0 < n
  | [], i, h, _ => by simp at h
  | p :: r, i, h, hi => by
    unfold ahead at hi
    split at hi
    · cases i with
      | zero => assumption
      | succ i => exact ahead_lt n r i (by simpa using h) (by omega)
    · omega
theorem ahead_ge (n : Int) : ∀ (l : List S47) (last : Int), okO last l = true → ∀ i, i < l.length → ahead n l ≤ i → n ≤ (pAt l i).f0
  | [], _, _, i, h, _ => by simp at h
  | p :: r, last, hl, i, h, hi => by
    have hc := okO_cons.mp hl
    unfold ahead at hi
    split at hi
    · cases i with
      | zero => omega
      | succ i => exact ahead_ge n r p.f0 hc.2.2 i (by simpa using h) (by omega)
    · cases i with
      | zero => show n ≤ p.f0; omega
      | succ i =>
        have hm : pAt (p :: r) (i + 1) ∈ r := by
          have hi' : i < r.length := by simpa using h
          show r.getD i z47 ∈ r
          rw [List.getD_eq_getElem?_getD, List.getElem?_eq_getElem hi']
          exact List.getElem_mem hi'
        have := okO_all r p.f0 hc.2.2 _ hm
        omega
theorem bsN_spec (p : Nat → Bool) (n : Nat) : ∀ k i j, i ≤ j → j - i < 2 ^ k → i ≤ n → n ≤ j → (∀ h, h < j → (p h = true ↔ h < n)) → bsN p k i j = n
  | 0, i, j, hij, hk, hin, hnj, hp => by
    have : i = j := by simp at hk; omega
    rw [bsN]
    omega
  | k + 1, i, j, hij, hk, hin, hnj, hp => by
    rw [bsN]
    split
    · have h2 : 2 ^ (k + 1) = 2 * 2 ^ k := by rw [Nat.pow_succ]; omega
      have hm := hp ((i + j) / 2) (by omega)
      split
      · rename_i hlt ht
        exact bsN_spec p n k _ j (by omega) (by omega) (by have := hm.mp ht; omega) hnj hp
      · rename_i hlt ht
        exact bsN_spec p n k i _ (by omega) (by omega) hin (by
          rcases Nat.lt_or_ge ((i + j) / 2) n with h | h
          · exact absurd (hm.mpr h) ht
          · exact h) (fun h hh => hp h (by omega))
    · omega
theorem plcI_is {l : List S47} {last : Int} (n : Int) (hl : l.length ≤ 4000000000000) (h : okO last l = true) : plcI l n = ahead n l := by
  unfold plcI
  refine bsN_spec _ _ 64 0 l.length (Nat.zero_le _) (by omega) (Nat.zero_le _) (ahead_le n l) (fun i hi => ?_)
  unfold ledger_place.P
  rw [rd_pAt, decide_eq_true_eq]
  constructor
  · intro hlt
    rcases Nat.lt_or_ge i (ahead n l) with h1 | h1
    · exact h1
    · have := ahead_ge n l last h i hi h1
      omega
  · exact ahead_lt n l i hi
theorem hasP_ahead {n : Int} : ∀ {l : List S47} {last : Int}, okO last l = true → hasP n l = true → ahead n l < l.length ∧ pAt l (ahead n l) = lookP n l
  | [], _, _, h => by cases h
  | p :: r, last, hl, h => by
    have hc := okO_cons.mp hl
    unfold ahead
    by_cases hlt : p.f0 < n
    · rw [if_pos hlt, lookP, if_neg (by omega)]
      simp only [hasP, Bool.or_eq_true, decide_eq_true_eq] at h
      have ih := hasP_ahead hc.2.2 (h.resolve_left (by omega))
      exact ⟨by simp only [List.length_cons]; omega, ih.2⟩
    · rw [if_neg hlt]
      by_cases he : p.f0 = n
      · rw [lookP, if_pos he]
        exact ⟨by simp, rfl⟩
      · rw [hasP, decide_eq_false he, Bool.false_or, hasP_above hc.2.2 (by omega)] at h
        cases h
theorem ahead_has {n : Int} {l : List S47} (h1 : ahead n l < l.length) (h2 : (pAt l (ahead n l)).f0 = n) : hasP n l = true := by
  refine hasP_of (p := pAt l (ahead n l)) ?_ h2
  unfold pAt
  rw [List.getD_eq_getElem?_getD, List.getElem?_eq_getElem h1]
  exact List.getElem_mem h1
theorem plcB_is {l : List S47} {last : Int} (n : Int) (hl : l.length ≤ 4000000000000) (h : okO last l = true) : plcB l n = hasP n l := by
  unfold plcB
  rw [plcI_is n hl h, rd_pAt]
  cases hh : hasP n l with
  | true =>
    have := hasP_ahead h hh
    rw [decide_eq_true this.1, this.2, decide_eq_true (lookP_f0 n l)]
    rfl
  | false =>
    rw [Bool.and_eq_false_iff]
    rcases Nat.lt_or_ge (ahead n l) l.length with h1 | h1
    · refine Or.inr (decide_eq_false fun h2 => ?_)
      rw [ahead_has h1 h2] at hh
      cases hh
    · exact Or.inl (decide_eq_false (by omega))
theorem payOf_is {l : List S47} {last : Int} (n : Int) (hl : l.length ≤ 4000000000000) (h : okO last l = true) : payOf l n = lookP n l := by
  unfold payOf
  rw [plcB_is n hl h, plcI_is n hl h]
  cases hh : hasP n l with
  | true => rw [if_pos rfl, (hasP_ahead h hh).2]
  | false => rw [if_neg (by simp), hasP_no hh]
theorem putP_has {n : Int} {q : S47} : ∀ {l : List S47} {last : Int}, okO last l = true → hasP n l = true →
    (noP q = true → l.eraseIdx (ahead n l) = putP n q l) ∧ (noP q = false → (l.eraseIdx (ahead n l)).take (ahead n l) ++ [q] ++ (l.eraseIdx (ahead n l)).drop (ahead n l) = putP n q l)
  | [], _, _, h => by cases h
  | p :: r, last, hl, h => by
    have hc := okO_cons.mp hl
    unfold ahead putP
    by_cases hlt : p.f0 < n
    · simp only [hasP, Bool.or_eq_true, decide_eq_true_eq] at h
      have ih := putP_has (q := q) hc.2.2 (h.resolve_left (by omega))
      rw [if_pos hlt, if_pos hlt]
      refine ⟨fun hq => ?_, fun hq => ?_⟩
      · rw [List.eraseIdx_cons_succ, ih.1 hq]
      · rw [List.eraseIdx_cons_succ, List.take_succ_cons, List.drop_succ_cons, ← ih.2 hq]
        rfl
    · by_cases he : p.f0 = n
      · rw [if_neg hlt, if_neg hlt, if_pos he]
        refine ⟨fun hq => by rw [if_pos hq]; rfl, fun hq => by rw [if_neg (by rw [hq]; simp)]; rfl⟩
      · rw [hasP, decide_eq_false he, Bool.false_or, hasP_above hc.2.2 (by omega)] at h
        cases h
theorem putP_no {n : Int} {q : S47} : ∀ {l : List S47}, hasP n l = false →
    (noP q = true → l = putP n q l) ∧ (noP q = false → l.take (ahead n l) ++ [q] ++ l.drop (ahead n l) = putP n q l)
  | [], _ => by
    unfold ahead putP
    refine ⟨fun hq => by rw [if_pos hq], fun hq => by rw [if_neg (by rw [hq]; simp)]; rfl⟩
  | p :: r, h => by
    simp only [hasP, Bool.or_eq_false_iff, decide_eq_false_iff_not] at h
    have ih := putP_no (q := q) h.2
    unfold ahead putP
    by_cases hlt : p.f0 < n
    · rw [if_pos hlt, if_pos hlt]
      refine ⟨fun hq => by rw [← ih.1 hq], fun hq => by rw [List.take_succ_cons, List.drop_succ_cons, ← ih.2 hq]; rfl⟩
    · rw [if_neg hlt, if_neg hlt, if_neg h.1]
      refine ⟨fun hq => by rw [if_pos hq], fun hq => by rw [if_neg (by rw [hq]; simp)]; rfl⟩
theorem postL_is {l : List S47} {last : Int} (x : S69) (hl : l.length ≤ 4000000000000) (h : okO last l = true) : postL l x = putP x.f0 (addP (lookP x.f0 l) x) l := by
  have hf : (addP (lookP x.f0 l) x).f0 = x.f0 := (addP_f0 _ _).trans (lookP_f0 _ _)
  unfold postL postP
  rw [payOf_is x.f0 hl h, plcB_is x.f0 hl h, plcI_is x.f0 hl h, show eqP (addP (lookP x.f0 l) x) (zeroP x.f0) = noP (addP (lookP x.f0 l) x) by rw [noP_is, hf]]
  generalize addP (lookP x.f0 l) x = q
  cases hh : hasP x.f0 l with
  | true =>
    have hp := putP_has (q := q) h hh
    rw [if_pos rfl]
    cases hq : noP q with
    | true => rw [if_pos rfl, hp.1 hq]
    | false => rw [if_neg (by simp), hp.2 hq]
  | false =>
    have hp := putP_no (q := q) hh
    cases hq : noP q with
    | true => rw [if_pos rfl, if_neg (by simp), ← hp.1 hq]
    | false => rw [if_neg (by simp), if_neg (by simp), hp.2 hq]
theorem putP_ok {n : Int} {q : S47} (hq : q.f0 = n) (h2 : n ≤ 1024) : ∀ (l : List S47) (last : Int), last < n → okO last l = true → okO last (putP n q l) = true
  | [], last, h1, h => by
    unfold putP
    split
    · rfl
    · exact okO_cons.mpr ⟨by omega, by omega, rfl⟩
  | p :: r, last, h1, h => by
    have hc := okO_cons.mp h
    unfold putP
    split
    · rename_i hlt
      exact okO_cons.mpr ⟨hc.1, hc.2.1, putP_ok hq h2 r p.f0 hlt hc.2.2⟩
    · split
      · rename_i he
        split
        · exact okO_low (by omega) hc.2.2
        · exact okO_cons.mpr ⟨by omega, by omega, by rw [hq, ← he]; exact hc.2.2⟩
      · split
        · exact h
        · exact okO_cons.mpr ⟨by omega, by omega, okO_cons.mpr ⟨by omega, hc.2.1, hc.2.2⟩⟩
theorem putP_nz {n : Int} {q : S47} : ∀ (l : List S47), (∀ p ∈ l, noP p = false) → ∀ p ∈ putP n q l, noP p = false
  | [], h, p, hp => by
    unfold putP at hp
    split at hp
    · cases hp
    · rename_i hq
      rw [List.mem_singleton.mp hp]
      simpa using hq
  | a :: r, h, p, hp => by
    unfold putP at hp
    split at hp
    · rcases List.mem_cons.mp hp with rfl | hp
      · exact h _ (List.mem_cons_self ..)
      · exact putP_nz r (fun p hp => h p (List.mem_cons_of_mem _ hp)) p hp
    · split at hp
      · split at hp
        · exact h p (List.mem_cons_of_mem _ hp)
        · rename_i hq
          rcases List.mem_cons.mp hp with rfl | hp
          · simpa using hq
          · exact h p (List.mem_cons_of_mem _ hp)
      · split at hp
        · exact h p hp
        · rename_i hq
          rcases List.mem_cons.mp hp with rfl | hp
          · simpa using hq
          · exact h p hp
theorem putP_look {n : Int} {q : S47} (hq : q.f0 = n) (m : Int) : ∀ (l : List S47) (last : Int), okO last l = true → lookP m (putP n q l) = if m = n then q else lookP m l
  | [], last, h => by
    unfold putP
    split
    · rename_i hz
      by_cases hm : m = n
      · rw [if_pos hm, noP_zero hz, hq, hm]; rfl
      · rw [if_neg hm]
    · by_cases hm : m = n
      · rw [if_pos hm, lookP, if_pos (by omega)]
      · rw [if_neg hm]
        show (if q.f0 = m then q else lookP m []) = _
        rw [if_neg (by omega)]
  | p :: r, last, h => by
    have hc := okO_cons.mp h
    unfold putP
    split
    · rename_i hlt
      have ih := putP_look hq m r p.f0 hc.2.2
      rw [lookP]
      by_cases hp : p.f0 = m
      · rw [if_pos hp, if_neg (by omega), lookP, if_pos hp]
      · rw [if_neg hp, ih, lookP, if_neg hp]
    · split
      · rename_i he
        split
        · rename_i hz
          by_cases hm : m = n
          · rw [if_pos hm, noP_zero hz, hq, hm]
            exact lookP_above hc.2.2 (by omega)
          · rw [if_neg hm, lookP, if_neg (by omega)]
        · by_cases hm : m = n
          · rw [if_pos hm, lookP, if_pos (by omega)]
          · rw [if_neg hm, lookP, if_neg (by omega), lookP, if_neg (by omega)]
      · split
        · rename_i hz
          by_cases hm : m = n
          · rw [if_pos hm, noP_zero hz, hq, hm, lookP, if_neg (by omega)]
            exact lookP_above hc.2.2 (by omega)
          · rw [if_neg hm]
        · by_cases hm : m = n
          · rw [if_pos hm, lookP, if_pos (by omega)]
          · rw [if_neg hm, lookP, if_neg (by omega)]
def Bd (p : S47) : Prop := (-1152921504606846976 ≤ p.f1 ∧ p.f1 ≤ 1152921504606846976) ∧ (0 ≤ p.f2 ∧ p.f2 ≤ 1152921504606846976) ∧ 0 ≤ p.f3 ∧ p.f3 ≤ 1152921504606846976
theorem fits_of (p : S47) : fits p = true ↔ p.f1 ≤ 1152921504606846976 ∧ -1152921504606846976 ≤ p.f1 ∧ p.f2 ≤ 1152921504606846976 ∧ p.f3 ≤ 1152921504606846976 := by
  unfold fits
  simp only [Bool.and_eq_true, decide_eq_true_eq]
structure OkX (x : S69) : Prop where
  n1 : 1 ≤ x.f0
  n2 : x.f0 ≤ 1024
  a1 : 1 ≤ x.f3
  a2 : x.f3 ≤ 1152921504606846976
  r1 : 1 ≤ x.f1
  r2 : x.f1 < 4
  t1 : 1 ≤ x.f2
  t2 : x.f2 < 4
  ne : x.f1 ≠ x.f2
theorem postOk_of (x : S69) : postOk x = true ↔ OkX x := by
  unfold postOk
  simp only [Bool.and_eq_true, decide_eq_true_eq, Bool.not_eq_true', beq_eq_false_iff_ne]
  exact ⟨fun ⟨a, b, c, d, e, f, g, h, i⟩ => ⟨a, b, c, d, e, f, g, h, i⟩, fun ⟨a, b, c, d, e, f, g, h, i⟩ => ⟨a, b, c, d, e, f, g, h, i⟩⟩
def amt (b : Prop) [Decidable b] (a : Int) : Int := if b then a else 0
theorem addP_is {p : S47} {x : S69} (hp : Bd p) (hx : OkX x) : addP p x = ⟨p.f0, p.f1 + amt (x.f2 = 2) x.f3 - amt (x.f1 = 2) x.f3, p.f2 + amt (x.f2 = 3) x.f3, p.f3 + amt (x.f1 = 3) x.f3⟩ := by
  have h1 := hx.a1; have h2 := hx.a2
  obtain ⟨hp1, hp2, hp3⟩ := hp
  unfold addP
  have e1 : add1 p x = ⟨p.f0, p.f1 + amt (x.f2 = 2) x.f3, p.f2, p.f3⟩ := by
    unfold add1 amt
    split
    · rw [w64 (by omega) (by omega)]
    · rw [Int.add_zero]
  have b1 : 0 ≤ amt (x.f2 = 2) x.f3 ∧ amt (x.f2 = 2) x.f3 ≤ 1152921504606846976 := by unfold amt; split <;> omega
  have e2 : add2 (add1 p x) x = ⟨p.f0, p.f1 + amt (x.f2 = 2) x.f3 - amt (x.f1 = 2) x.f3, p.f2, p.f3⟩ := by
    rw [e1]
    generalize amt (x.f2 = 2) x.f3 = d at b1 ⊢
    unfold add2 amt
    split
    · simp only
      rw [w64 (by omega) (by omega)]
    · rw [Int.sub_zero]
  have e3 : add3 (add2 (add1 p x) x) x = ⟨p.f0, p.f1 + amt (x.f2 = 2) x.f3 - amt (x.f1 = 2) x.f3, p.f2 + amt (x.f2 = 3) x.f3, p.f3⟩ := by
    rw [e2]
    generalize amt (x.f2 = 2) x.f3 = d
    generalize amt (x.f1 = 2) x.f3 = d'
    unfold add3 amt
    split
    · simp only
      rw [w64 (by omega) (by omega)]
    · rw [Int.add_zero]
  rw [e3]
  generalize amt (x.f2 = 2) x.f3 = d
  generalize amt (x.f1 = 2) x.f3 = d'
  generalize amt (x.f2 = 3) x.f3 = d''
  unfold add4 amt
  split
  · simp only
    rw [w64 (by omega) (by omega)]
  · rw [Int.add_zero]
def okPosts (qs : List S69) : Prop := ∀ k, k < qs.length → OkX (xAt qs k) ∧ fits (sumN (qs.take (k + 1)) (xAt qs k).f0) = true
theorem okX_of (qs : List S69) (k : Nat) : okX qs k = true ↔ OkX (xAt qs k) ∧ fits (sumN (qs.take (k + 1)) (xAt qs k).f0) = true := by
  unfold okX
  rw [Bool.and_eq_true, postOk_of]
theorem sum_Bd {qs : List S69} (h : okPosts qs) : ∀ (j : Nat), j ≤ qs.length → ∀ n, Bd (sumN (qs.take j) n)
  | 0, _, n => by
    show Bd (zeroP n)
    unfold Bd zeroP
    simp only
    omega
  | j + 1, hj, n => by
    have ih := sum_Bd h j (by omega) n
    have hk := h j (by omega)
    have ht := take_xAt qs j (by omega)
    rw [ht, sumN_snoc]
    split
    · rename_i hn
      rw [ht, sumN_snoc, if_pos rfl, hn] at hk
      have hf := (fits_of _).mp hk.2
      have ha := addP_is ih hk.1
      have h1 := hk.1.a1
      have g2 : 0 ≤ amt ((xAt qs j).f2 = 3) (xAt qs j).f3 := by unfold amt; split <;> omega
      have g3 : 0 ≤ amt ((xAt qs j).f1 = 3) (xAt qs j).f3 := by unfold amt; split <;> omega
      obtain ⟨i1, i2, i3⟩ := ih
      have e2 : (addP (sumN (List.take j qs) n) (xAt qs j)).f2 = (sumN (List.take j qs) n).f2 + amt ((xAt qs j).f2 = 3) (xAt qs j).f3 := by rw [ha]
      have e3 : (addP (sumN (List.take j qs) n) (xAt qs j)).f3 = (sumN (List.take j qs) n).f3 + amt ((xAt qs j).f1 = 3) (xAt qs j).f3 := by rw [ha]
      exact ⟨⟨hf.2.1, hf.1⟩, ⟨by omega, hf.2.2.1⟩, by omega, hf.2.2.2⟩
    · exact ih
theorem sum_Bd' {qs : List S69} (h : okPosts qs) (n : Int) : Bd (sumN qs n) := by
  have := sum_Bd h qs.length (Nat.le_refl _) n
  rwa [List.take_length] at this
structure Good (ps : List S47) (qs : List S69) : Prop where
  len : qs.length ≤ 16384
  srt : okO 0 ps = true
  nz : ∀ p ∈ ps, noP p = false
  ok : okPosts qs
  sum : ∀ n, lookP n ps = sumN qs n
  pos : ∀ n, 0 ≤ (lookP n ps).f1 ∧ (lookP n ps).f3 ≤ (lookP n ps).f2
theorem Good.bd {ps : List S47} {qs : List S69} (h : Good ps qs) (n : Int) : Bd (lookP n ps) := by rw [h.sum]; exact sum_Bd' h.ok n
theorem Good.plen {ps : List S47} {qs : List S69} (h : Good ps qs) : ps.length ≤ 1024 := by
  have := okO_len ps 0 (by omega) h.srt
  omega
theorem pAt_mem {l : List S47} {i : Nat} (h : i < l.length) : pAt l i ∈ l := by
  unfold pAt
  rw [List.getD_eq_getElem?_getD, List.getElem?_eq_getElem h]
  exact List.getElem_mem h
theorem mem_pAt {l : List S47} {p : S47} (h : p ∈ l) : ∃ i, i < l.length ∧ pAt l i = p := by
  obtain ⟨i, hi, he⟩ := List.getElem_of_mem h
  refine ⟨i, hi, ?_⟩
  unfold pAt
  rw [List.getD_eq_getElem?_getD, List.getElem?_eq_getElem hi, he]
  rfl
theorem srt_of : ∀ (l : List S47) (last : Int), (∀ i, i < l.length → (i = 0 → last < (pAt l i).f0) ∧ (pAt l i).f0 ≤ 1024 ∧ (0 < i → (pAt l (i - 1)).f0 < (pAt l i).f0)) → okO last l = true
  | [], _, _ => rfl
  | p :: r, last, h => by
    have h0 := h 0 (by simp)
    refine okO_cons.mpr ⟨h0.1 rfl, h0.2.1, srt_of r p.f0 fun i hi => ?_⟩
    have h1 := h (i + 1) (by simpa using hi)
    refine ⟨fun h2 => ?_, h1.2.1, fun h2 => ?_⟩
    · subst h2
      exact h1.2.2 (by omega)
    · have h3 := h1.2.2 (by omega)
      obtain ⟨j, rfl⟩ : ∃ j, i = j + 1 := ⟨i - 1, by omega⟩
      exact h3
theorem of_srt : ∀ (l : List S47) (last : Int), okO last l = true → ∀ i, i < l.length → last < (pAt l i).f0 ∧ (pAt l i).f0 ≤ 1024 ∧ (0 < i → (pAt l (i - 1)).f0 < (pAt l i).f0)
  | [], _, _, i, h => by simp at h
  | p :: r, last, h, i, hi => by
    have hc := okO_cons.mp h
    cases i with
    | zero => exact ⟨hc.1, hc.2.1, fun h => by omega⟩
    | succ i =>
      have ih := of_srt r p.f0 hc.2.2 i (by simpa using hi)
      have h1 : last < (pAt r i).f0 := by omega
      refine ⟨h1, ih.2.1, fun _ => ?_⟩
      cases i with
      | zero => exact ih.1
      | succ i => exact ih.2.2 (by omega)
theorem hasN_at {l : List S69} {n : Int} (h : hasN l n = true) : ∃ k, k < l.length ∧ (xAt l k).f0 = n := by
  unfold hasN at h
  obtain ⟨x, hx, he⟩ := List.any_eq_true.mp h
  obtain ⟨i, hi, hg⟩ := List.getElem_of_mem hx
  refine ⟨i, hi, ?_⟩
  unfold xAt
  rw [List.getD_eq_getElem?_getD, List.getElem?_eq_getElem hi, hg]
  exact beq_iff_eq.mp he
theorem okP1_of (l : List S47) (i : Nat) : okP1 l i = true ↔ 1 ≤ (pAt l i).f0 ∧ (pAt l i).f0 ≤ 1024 ∧ noP (pAt l i) = false ∧ (0 < i → (pAt l (i - 1)).f0 < (pAt l i).f0) ∧ 0 ≤ (pAt l i).f1 ∧ (pAt l i).f3 ≤ (pAt l i).f2 := by
  unfold okP1
  rw [noP_is]
  simp only [Bool.and_eq_true, decide_eq_true_eq, Bool.not_eq_true', Bool.and_eq_false_iff, decide_eq_false_iff_not]
  constructor
  · rintro ⟨a, b, c, d, e, f⟩
    exact ⟨a, b, c, fun h => by omega, by omega, by omega⟩
  · rintro ⟨a, b, c, d, e, f⟩
    refine ⟨a, b, c, ?_, by omega, by omega⟩
    rcases Nat.eq_zero_or_pos i with h | h
    · exact Or.inl (by omega)
    · have := d h
      exact Or.inr (by omega)
theorem good_iff (ps : List S47) (qs : List S69) : goodL ps qs = true ↔ Good ps qs := by
  constructor
  · intro h
    unfold goodL at h
    simp only [Bool.and_eq_true, decide_eq_true_eq, List.all_eq_true, List.mem_range] at h
    obtain ⟨⟨h1, h2⟩, h3, h4, h5⟩ := h
    have hp : ∀ i, i < ps.length → okP1 ps i = true ∧ sumN qs (pAt ps i).f0 = pAt ps i := fun i hi => by
      have := h4 i hi
      unfold okP at this
      rw [Bool.and_eq_true, eqP_iff] at this
      exact this
    have srt : okO 0 ps = true := srt_of ps 0 fun i hi => by
      have := (okP1_of ps i).mp (hp i hi).1
      exact ⟨fun _ => by omega, this.2.1, this.2.2.2.1⟩
    have sum : ∀ n, lookP n ps = sumN qs n := fun n => by
      cases hh : hasP n ps with
      | true =>
        obtain ⟨hm, hn⟩ := hasP_mem hh
        obtain ⟨i, hi, he⟩ := mem_pAt hm
        have := (hp i hi).2
        rw [he, hn] at this
        exact this.symm
      | false =>
        rw [hasP_no hh]
        cases hq : hasN qs n with
        | false => exact (sumN_none qs n hq).symm
        | true =>
          obtain ⟨k, hk, he⟩ := hasN_at hq
          have h6 := h5 k hk
          unfold okR at h6
          rw [he, Bool.or_eq_true, eqP_iff] at h6
          rcases h6 with h6 | h6
          · exfalso
            obtain ⟨p, hm, hn⟩ := List.any_eq_true.mp h6
            rw [hasP_of hm (beq_iff_eq.mp hn)] at hh
            cases hh
          · exact h6.symm
    refine ⟨h2, srt, fun p hm => ?_, fun k hk => (okX_of qs k).mp (h3 k hk), sum, fun n => ?_⟩
    · obtain ⟨i, hi, rfl⟩ := mem_pAt hm
      exact ((okP1_of ps i).mp (hp i hi).1).2.2.1
    · cases hh : hasP n ps with
      | true =>
        obtain ⟨hm, hn⟩ := hasP_mem hh
        obtain ⟨i, hi, he⟩ := mem_pAt hm
        have := (okP1_of ps i).mp (hp i hi).1
        rw [he] at this
        exact this.2.2.2.2
      | false =>
        rw [hasP_no hh]
        exact ⟨Int.le_refl _, Int.le_refl _⟩
  · intro h
    unfold goodL
    simp only [Bool.and_eq_true, decide_eq_true_eq, List.all_eq_true, List.mem_range]
    refine ⟨⟨h.plen, h.len⟩, fun k hk => (okX_of qs k).mpr (h.ok k hk), fun i hi => ?_, fun k hk => ?_⟩
    · have hm := pAt_mem hi
      have hs := of_srt ps 0 h.srt i hi
      have hl := lookP_mem h.srt hm
      have hp := h.pos (pAt ps i).f0
      rw [hl] at hp
      unfold okP
      rw [Bool.and_eq_true, eqP_iff, okP1_of]
      exact ⟨⟨by omega, hs.2.1, h.nz _ hm, hs.2.2, hp.1, hp.2⟩, by rw [← h.sum, hl]⟩
    · unfold okR
      rw [Bool.or_eq_true, eqP_iff]
      cases hh : hasP (xAt qs k).f0 ps with
      | true =>
        obtain ⟨hm, hn⟩ := hasP_mem hh
        exact Or.inl (List.any_eq_true.mpr ⟨_, hm, beq_iff_eq.mpr hn⟩)
      | false => exact Or.inr (by rw [← h.sum, hasP_no hh])
theorem xAt_left {l : List S69} {x : S69} {k : Nat} (h : k < l.length) : xAt (l ++ [x]) k = xAt l k := by
  unfold xAt
  rw [List.getD_eq_getElem?_getD, List.getD_eq_getElem?_getD, List.getElem?_append_left h]
theorem xAt_last (l : List S69) (x : S69) : xAt (l ++ [x]) l.length = x := by
  unfold xAt
  rw [List.getD_eq_getElem?_getD, List.getElem?_append_right (Nat.le_refl _), Nat.sub_self]
  rfl
theorem Good.next {ps : List S47} {qs : List S69} (h : Good ps qs) {x : S69} (hx : OkX x) (hl : qs.length < 16384) (hf : fits (addP (lookP x.f0 ps) x) = true) (h1 : 0 ≤ (addP (lookP x.f0 ps) x).f1) (h2 : (addP (lookP x.f0 ps) x).f3 ≤ (addP (lookP x.f0 ps) x).f2) :
    Good (putP x.f0 (addP (lookP x.f0 ps) x) ps) (qs ++ [x]) := by
  have hq : (addP (lookP x.f0 ps) x).f0 = x.f0 := (addP_f0 _ _).trans (lookP_f0 _ _)
  have hlook := fun n => putP_look hq n ps 0 h.srt
  refine ⟨by simp only [List.length_append, List.length_cons, List.length_nil]; omega, putP_ok hq hx.n2 ps 0 (by have := hx.n1; omega) h.srt, putP_nz ps h.nz, fun k hk => ?_, fun n => ?_, fun n => ?_⟩
  · simp only [List.length_append, List.length_cons, List.length_nil] at hk
    rcases Nat.lt_or_ge k qs.length with hk1 | hk1
    · rw [xAt_left hk1, List.take_append_of_le_length (by omega)]
      exact h.ok k hk1
    · obtain rfl : k = qs.length := by omega
      rw [xAt_last, List.take_of_length_le (by simp), sumN_snoc, if_pos rfl, ← h.sum]
      exact ⟨hx, hf⟩
  · rw [hlook, sumN_snoc]
    by_cases hn : n = x.f0
    · rw [if_pos hn, if_pos hn.symm, hn, ← h.sum]
    · rw [if_neg hn, if_neg (fun he => hn he.symm), h.sum]
  · rw [hlook]
    by_cases hn : n = x.f0
    · rw [if_pos hn]
      exact ⟨h1, h2⟩
    · rw [if_neg hn]
      exact h.pos n
end Go.Proofs.YtdiopojnkjkgmaaDoor.PureL
set_option linter.unusedVariables false
namespace Go.Proofs.YtdiopojnkjkgmaaDoor.PureL
open Go.RowKit Go.Proofs.YtdiopojnkjkgmaaDoor.Print Go.Proofs.YtdiopojnkjkgmaaDoorW.PrintWords Go.Proofs.YtdiopojnkjkgmaaDoorW.PrintLast Go.Proofs.YtdiopojnkjkgmaaDoorW.PrintMore
def postV (ps : List S47) (qs : List S69) (x : S69) : List S47 × List S69 × Int := if 16384 ≤ qs.length then ([], [], 3) else if fits (addP (lookP x.f0 ps) x) = true then (putP x.f0 (addP (lookP x.f0 ps) x) ps, qs ++ [x], 0) else ([], [], 5)
theorem unl_no (c : Int) : unl 0 false c = 0 := if_neg (by simp)
theorem unl_yes (c : Int) : unl 0 true c = c := if_pos ⟨rfl, rfl⟩
theorem unl_keep {y : Int} (h : y ≠ 0) (b : Bool) (c : Int) : unl y b c = y := if_neg (fun h1 => h h1.1)
theorem unl_keep2 {y : Int} (h : y ≠ 0) (b b2 : Bool) (c c2 : Int) : unl (unl y b c) b2 c2 = y := by rw [unl_keep h, unl_keep h]
theorem doneV_no {ps : List S47} {qs : List S69} {y : Int} (h : y ≠ 0) (x : S69) : doneV ps qs y x = ([], [], y) := by
  have e : postE qs y = y := unl_keep h _ _
  have e2 : postWs ps qs y x = y := by unfold postWs; rw [e, if_neg h]
  unfold doneV
  rw [e2, endL_no h, endL_no h]
theorem doneV_is {ps : List S47} {qs : List S69} {last : Int} (hl : ps.length ≤ 4000000000000) (h : okO last ps = true) (x : S69) : doneV ps qs 0 x = postV ps qs x := by
  unfold doneV postV
  by_cases hm : 16384 ≤ qs.length
  · have e : postE qs 0 = 3 := by unfold postE; rw [decide_eq_true (by omega)]; rfl
    have e2 : postWs ps qs 0 x = 3 := by unfold postWs; rw [e]; rfl
    rw [e2, if_pos hm]
    rfl
  · have e : postE qs 0 = 0 := by unfold postE; rw [decide_eq_false (by omega)]; rfl
    have e2 : postWs ps qs 0 x = postW ps x := by unfold postWs; rw [e]; rfl
    have e3 : postPs ps qs 0 x = postL ps x := by unfold postPs; rw [e]; rfl
    have e4 : postQs qs 0 x = qs ++ [x] := by unfold postQs; rw [e]; rfl
    rw [e2, e3, e4, if_neg hm, postL_is x hl h]
    unfold postW
    rw [payOf_is x.f0 hl h]
    cases hf : fits (addP (lookP x.f0 ps) x) with
    | true => rw [if_pos rfl]; rfl
    | false => rw [if_neg (by simp)]; rfl
def authV (ps : List S47) (qs : List S69) (n a : Int) : List S47 × List S69 × Int := if goodL ps qs = true then (if 1 ≤ n ∧ n ≤ 1024 then (if 1 ≤ a ∧ a ≤ 1152921504606846976 then (if 0 < (lookP n ps).f1 then ([], [], 9) else postV ps qs ⟨n, 1, 2, a⟩) else ([], [], 2)) else ([], [], 2)) else ([], [], 9)
def refV (ps : List S47) (qs : List S69) (n a : Int) : List S47 × List S69 × Int := if goodL ps qs = true then (if 1 ≤ n ∧ n ≤ 1024 then (if 1 ≤ a ∧ a ≤ 1152921504606846976 then (if (lookP n ps).f2 - (lookP n ps).f3 < a then ([], [], 13) else postV ps qs ⟨n, 3, 1, a⟩) else ([], [], 2)) else ([], [], 2)) else ([], [], 9)
def setlV (ps : List S47) (qs : List S69) (n to_ : Int) : List S47 × List S69 × Int × Int := if goodL ps qs = true then (if 1 ≤ n ∧ n ≤ 1024 then (if (lookP n ps).f1 = 0 then ([], [], 0, 9) else ((postV ps qs ⟨n, 2, to_, (lookP n ps).f1⟩).1, (postV ps qs ⟨n, 2, to_, (lookP n ps).f1⟩).2.1, (if (postV ps qs ⟨n, 2, to_, (lookP n ps).f1⟩).2.2 = 0 then (lookP n ps).f1 else 0), (postV ps qs ⟨n, 2, to_, (lookP n ps).f1⟩).2.2)) else ([], [], 0, 2)) else ([], [], 0, 9)
def payS (ps : List S47) (qs : List S69) (n : Int) : S47 × Int := if goodL ps qs = true then (if 1 ≤ n ∧ n ≤ 1024 then (lookP n ps, 0) else (z47, 2)) else (z47, 9)
theorem opW_no1 {ps : List S47} {qs : List S69} (h : ¬ goodL ps qs = true) (n : Int) : opW ps qs n = 9 := if_neg h
theorem opW_no2 {ps : List S47} {qs : List S69} (h : goodL ps qs = true) {n : Int} (hn : ¬ (1 ≤ n ∧ n ≤ 1024)) : opW ps qs n = 2 := by unfold opW; rw [if_pos h, if_neg hn]
theorem opW_yes {ps : List S47} {qs : List S69} (h : goodL ps qs = true) {n : Int} (hn : 1 ≤ n ∧ n ≤ 1024) : opW ps qs n = 0 := by unfold opW; rw [if_pos h, if_pos hn]
theorem Good.pl4 {ps : List S47} {qs : List S69} (h : Good ps qs) : ps.length ≤ 4000000000000 := Nat.le_trans h.plen (by decide)
theorem auth_is (ps : List S47) (qs : List S69) (n a : Int) (h1 : ps.length * 32 ≤ 140737488355328) (h2 : qs.length * 24 ≤ 140737488355328) : ledger_Authorise.f ps qs n a = some (authV ps qs n a) := by
  unfold ledger_Authorise.f
  rw [if_pos (by omega)]
  congr 1
  unfold authV authW
  by_cases hg : goodL ps qs = true
  · have G := (good_iff ps qs).mp hg
    rw [if_pos hg]
    by_cases hn : 1 ≤ n ∧ n ≤ 1024
    · rw [if_pos hn, opW_yes hg hn, payOf_is n G.pl4 G.srt]
      by_cases ha : 1 ≤ a ∧ a ≤ 1152921504606846976
      · rw [if_pos ha, decide_eq_true ha.1, decide_eq_true ha.2]
        simp only [Bool.and_self, Bool.not_true]
        rw [unl_no]
        by_cases ho : 0 < (lookP n ps).f1
        · rw [if_pos ho, decide_eq_true ho, unl_yes, doneV_no (by decide)]
        · rw [if_neg ho, decide_eq_false ho, unl_no, doneV_is G.pl4 G.srt]
      · rw [if_neg ha, show (decide (1 ≤ a) && decide (a ≤ 1152921504606846976)) = false by rw [Bool.and_eq_false_iff, decide_eq_false_iff_not, decide_eq_false_iff_not]; omega]
        simp only [Bool.not_false]
        rw [unl_yes, unl_keep (by decide), doneV_no (by decide)]
    · rw [if_neg hn, opW_no2 hg hn, unl_keep2 (by decide), doneV_no (by decide)]
  · rw [if_neg hg, opW_no1 hg, unl_keep2 (by decide), doneV_no (by decide)]
theorem ref_is (ps : List S47) (qs : List S69) (n a : Int) (h1 : ps.length * 32 ≤ 140737488355328) (h2 : qs.length * 24 ≤ 140737488355328) : ledger_Refund.f ps qs n a = some (refV ps qs n a) := by
  unfold ledger_Refund.f
  rw [if_pos (by omega)]
  congr 1
  unfold refV refW
  by_cases hg : goodL ps qs = true
  · have G := (good_iff ps qs).mp hg
    have B := G.bd n
    rw [if_pos hg]
    by_cases hn : 1 ≤ n ∧ n ≤ 1024
    · rw [if_pos hn, opW_yes hg hn, payOf_is n G.pl4 G.srt, w64 (by have := B.2; omega) (by have := B.2; omega)]
      by_cases ha : 1 ≤ a ∧ a ≤ 1152921504606846976
      · rw [if_pos ha, decide_eq_true ha.1, decide_eq_true ha.2]
        simp only [Bool.and_self, Bool.not_true]
        rw [unl_no]
        by_cases ho : (lookP n ps).f2 - (lookP n ps).f3 < a
        · rw [if_pos ho, decide_eq_true ho, unl_yes, doneV_no (by decide)]
        · rw [if_neg ho, decide_eq_false ho, unl_no, doneV_is G.pl4 G.srt]
      · rw [if_neg ha, show (decide (1 ≤ a) && decide (a ≤ 1152921504606846976)) = false by rw [Bool.and_eq_false_iff, decide_eq_false_iff_not, decide_eq_false_iff_not]; omega]
        simp only [Bool.not_false]
        rw [unl_yes, unl_keep (by decide), doneV_no (by decide)]
    · rw [if_neg hn, opW_no2 hg hn, unl_keep2 (by decide), doneV_no (by decide)]
  · rw [if_neg hg, opW_no1 hg, unl_keep2 (by decide), doneV_no (by decide)]
theorem setV_is (ps : List S47) (qs : List S69) (y : Int) (x : S69) : setV ps qs y x = ((doneV ps qs y x).1, (doneV ps qs y x).2.1, (if (doneV ps qs y x).2.2 = 0 then x.f3 else 0), (doneV ps qs y x).2.2) := rfl
theorem settle_is (ps : List S47) (qs : List S69) (n to_ : Int) (h1 : ps.length * 32 ≤ 140737488355328) (h2 : qs.length * 24 ≤ 140737488355328) : ledger_settle.f ps qs n to_ = some (setlV ps qs n to_) := by
  unfold ledger_settle.f
  rw [if_pos (by omega)]
  congr 1
  unfold setlV setW
  rw [setV_is]
  by_cases hg : goodL ps qs = true
  · have G := (good_iff ps qs).mp hg
    rw [if_pos hg]
    by_cases hn : 1 ≤ n ∧ n ≤ 1024
    · rw [if_pos hn, opW_yes hg hn, payOf_is n G.pl4 G.srt]
      by_cases ho : (lookP n ps).f1 = 0
      · rw [if_pos ho, beq_iff_eq.mpr ho, unl_yes, doneV_no (by decide)]
        rfl
      · rw [if_neg ho, beq_eq_false_iff_ne.mpr ho, unl_no, doneV_is G.pl4 G.srt]
    · rw [if_neg hn, opW_no2 hg hn, unl_keep (by decide), doneV_no (by decide)]
      rfl
  · rw [if_neg hg, opW_no1 hg, unl_keep (by decide), doneV_no (by decide)]
    rfl
theorem capture_is (ps : List S47) (qs : List S69) (n : Int) (h1 : ps.length * 32 ≤ 140737488355328) (h2 : qs.length * 24 ≤ 140737488355328) : ledger_Capture.f ps qs n = some (setlV ps qs n 3) := by
  unfold ledger_Capture.f
  rw [settle_is ps qs n 3 h1 h2]
  rfl
theorem pay_is (ps : List S47) (qs : List S69) (n : Int) (h1 : ps.length * 32 ≤ 140737488355328) (h2 : qs.length * 24 ≤ 140737488355328) : ledger_Pay.f ps qs n = some ((payS ps qs n).1.f0, (payS ps qs n).1.f1, (payS ps qs n).1.f2, (payS ps qs n).1.f3, (payS ps qs n).2) := by
  unfold ledger_Pay.f
  rw [if_pos (by omega)]
  congr 1
  unfold payS payV
  by_cases hg : goodL ps qs = true
  · have G := (good_iff ps qs).mp hg
    rw [if_pos hg]
    by_cases hn : 1 ≤ n ∧ n ≤ 1024
    · rw [if_pos hn, opW_yes hg hn, payOf_is n G.pl4 G.srt, if_pos rfl]
    · rw [if_neg hn, opW_no2 hg hn, if_neg (by decide)]
      rfl
  · rw [if_neg hg, opW_no1 hg, if_neg (by decide)]
    rfl
theorem check_is (ps : List S47) (qs : List S69) : ledger_Check.f ps qs = some (if goodL ps qs = true then 0 else 9) := rfl
structure Next (ps : List S47) (qs : List S69) (x : S69) (q : S47) (c : List S47 × List S69) : Prop where
  was : Good ps qs
  n1 : 1 ≤ x.f0
  n2 : x.f0 ≤ 1024
  room : qs.length < 16384
  qf : q.f0 = x.f0
  pays : c.1 = putP x.f0 q ps
  posts : c.2 = qs ++ [x]
  ok : OkX x
  good : Good c.1 c.2
theorem Next.look {ps : List S47} {qs : List S69} {x : S69} {q : S47} {c : List S47 × List S69} (h : Next ps qs x q c) (n : Int) : lookP n c.1 = if n = x.f0 then q else lookP n ps := by
  rw [h.pays]
  exact putP_look h.qf n ps 0 h.was.srt
theorem Next.gl {ps : List S47} {qs : List S69} {x : S69} {q : S47} {c : List S47 × List S69} (h : Next ps qs x q c) : goodL c.1 c.2 = true := (good_iff _ _).mpr h.good
theorem Next.len {ps : List S47} {qs : List S69} {x : S69} {q : S47} {c : List S47 × List S69} (h : Next ps qs x q c) : c.2.length = qs.length + 1 := by rw [h.posts]; simp
theorem post_next {ps : List S47} {qs : List S69} (G : Good ps qs) {x : S69} (hx : OkX x) (hl : qs.length < 16384) {q : S47} (hq : addP (lookP x.f0 ps) x = q) (h1 : 0 ≤ q.f1 ∧ q.f1 ≤ 1152921504606846976) (h2 : q.f3 ≤ q.f2) (h3 : q.f2 ≤ 1152921504606846976) :
    (postV ps qs x).2.2 = 0 ∧ Next ps qs x q ((postV ps qs x).1, (postV ps qs x).2.1) := by
  have hf : fits (addP (lookP x.f0 ps) x) = true := by rw [hq, fits_of]; omega
  have hg := G.next hx hl hf (by rw [hq]; omega) (by rw [hq]; omega)
  unfold postV
  rw [if_neg (by omega), if_pos hf]
  rw [hq] at hg ⊢
  exact ⟨rfl, G, hx.n1, hx.n2, hl, by rw [← hq]; exact (addP_f0 _ _).trans (lookP_f0 _ _), rfl, rfl, hx, hg⟩
theorem post_many {ps : List S47} {qs : List S69} (x : S69) (hl : ¬ qs.length < 16384) : postV ps qs x = ([], [], 3) := by
  unfold postV
  rw [if_pos (by omega)]
theorem okx {n a : Int} (f t : Int) (hn : 1 ≤ n ∧ n ≤ 1024) (ha : 1 ≤ a ∧ a ≤ 1152921504606846976) (hf : (1 ≤ f ∧ f < 4) ∧ (1 ≤ t ∧ t < 4) ∧ f ≠ t) : OkX ⟨n, f, t, a⟩ := ⟨hn.1, hn.2, ha.1, ha.2, hf.1.1, hf.1.2, hf.2.1.1, hf.2.1.2, hf.2.2⟩
theorem add_auth {p : S47} (hp : Bd p) {n a : Int} (hn : 1 ≤ n ∧ n ≤ 1024) (ha : 1 ≤ a ∧ a ≤ 1152921504606846976) : addP p ⟨n, 1, 2, a⟩ = ⟨p.f0, p.f1 + a, p.f2, p.f3⟩ := by
  rw [addP_is hp (okx 1 2 hn ha (by decide))]
  simp [amt]
theorem add_ref {p : S47} (hp : Bd p) {n a : Int} (hn : 1 ≤ n ∧ n ≤ 1024) (ha : 1 ≤ a ∧ a ≤ 1152921504606846976) : addP p ⟨n, 3, 1, a⟩ = ⟨p.f0, p.f1, p.f2, p.f3 + a⟩ := by
  rw [addP_is hp (okx 3 1 hn ha (by decide))]
  simp [amt]
theorem add_capt {p : S47} (hp : Bd p) {n a : Int} (hn : 1 ≤ n ∧ n ≤ 1024) (ha : 1 ≤ a ∧ a ≤ 1152921504606846976) : addP p ⟨n, 2, 3, a⟩ = ⟨p.f0, p.f1 - a, p.f2 + a, p.f3⟩ := by
  rw [addP_is hp (okx 2 3 hn ha (by decide))]
  simp [amt]
theorem auth_ways (ps : List S47) (qs : List S69) (n a : Int) : ((authV ps qs n a).2.2 ≠ 0 ∧ (authV ps qs n a).1 = [] ∧ (authV ps qs n a).2.1 = []) ∨ ((authV ps qs n a).2.2 = 0 ∧ (1 ≤ n ∧ n ≤ 1024) ∧ (1 ≤ a ∧ a ≤ 1152921504606846976) ∧ (lookP n ps).f1 = 0 ∧ Next ps qs ⟨n, 1, 2, a⟩ ⟨n, a, (lookP n ps).f2, (lookP n ps).f3⟩ ((authV ps qs n a).1, (authV ps qs n a).2.1)) := by
  unfold authV
  split
  · rename_i hg
    have G := (good_iff ps qs).mp hg
    split
    · rename_i hn
      split
      · rename_i ha
        split
        · exact Or.inl ⟨by decide, rfl, rfl⟩
        · rename_i ho
          have ho : (lookP n ps).f1 = 0 := by have := (G.pos n).1; omega
          by_cases hl : qs.length < 16384
          · have B := G.bd n
            have P := (G.pos n).2
            have hq := add_auth B hn ha
            rw [lookP_f0, ho, Int.zero_add] at hq
            have := post_next G (okx 1 2 hn ha (by decide)) hl hq ⟨by simp only; omega, by simp only; omega⟩ P B.2.1.2
            exact Or.inr ⟨this.1, hn, ha, ho, this.2⟩
          · rw [post_many _ hl]
            exact Or.inl ⟨by decide, rfl, rfl⟩
      · exact Or.inl ⟨by decide, rfl, rfl⟩
    · exact Or.inl ⟨by decide, rfl, rfl⟩
  · exact Or.inl ⟨by decide, rfl, rfl⟩
theorem auth_yes {ps : List S47} {qs : List S69} {n a : Int} (G : Good ps qs) (hn : 1 ≤ n ∧ n ≤ 1024) (ha : 1 ≤ a ∧ a ≤ 1152921504606846976) (ho : (lookP n ps).f1 = 0) : authV ps qs n a = postV ps qs ⟨n, 1, 2, a⟩ := by
  unfold authV
  rw [if_pos ((good_iff _ _).mpr G), if_pos hn, if_pos ha, if_neg (by omega)]
theorem ref_yes {ps : List S47} {qs : List S69} {n a : Int} (G : Good ps qs) (hn : 1 ≤ n ∧ n ≤ 1024) (ha : 1 ≤ a ∧ a ≤ 1152921504606846976) (ho : a ≤ (lookP n ps).f2 - (lookP n ps).f3) : refV ps qs n a = postV ps qs ⟨n, 3, 1, a⟩ := by
  unfold refV
  rw [if_pos ((good_iff _ _).mpr G), if_pos hn, if_pos ha, if_neg (by omega)]
theorem set_yes {ps : List S47} {qs : List S69} {n : Int} (to_ : Int) (G : Good ps qs) (hn : 1 ≤ n ∧ n ≤ 1024) (ho : (lookP n ps).f1 ≠ 0) : setlV ps qs n to_ = ((postV ps qs ⟨n, 2, to_, (lookP n ps).f1⟩).1, (postV ps qs ⟨n, 2, to_, (lookP n ps).f1⟩).2.1, (if (postV ps qs ⟨n, 2, to_, (lookP n ps).f1⟩).2.2 = 0 then (lookP n ps).f1 else 0), (postV ps qs ⟨n, 2, to_, (lookP n ps).f1⟩).2.2) := by
  unfold setlV
  rw [if_pos ((good_iff _ _).mpr G), if_pos hn, if_neg ho]
end Go.Proofs.YtdiopojnkjkgmaaDoor.PureL
set_option linter.unusedVariables false
namespace Go.Proofs.YtdiopojnkjkgmaaDoor.PureL
open Go.RowKit Go.Proofs.YtdiopojnkjkgmaaDoor.Print Go.Proofs.YtdiopojnkjkgmaaDoorW.PrintWords Go.Proofs.YtdiopojnkjkgmaaDoorW.PrintLast Go.Proofs.YtdiopojnkjkgmaaDoorW.PrintMore
theorem i64_and31 (n : Int) : Go.bits .and .i64 n 2147483647 = n % 2147483648 := by
  have h127 : (BitVec.ofInt 64 2147483647).toNat = 2 ^ 31 - 1 := by decide
  have key : (BitVec.ofInt 64 n &&& BitVec.ofInt 64 2147483647).toNat = (n % ((2 ^ 64 : Nat) : Int)).toNat % 2 ^ 31 := by
    rw [BitVec.toNat_and, BitVec.toNat_ofInt, h127, Nat.and_two_pow_sub_one_eq_mod]
  show IntKind.i64.wrap ((BitVec.ofInt 64 n &&& BitVec.ofInt 64 2147483647).toNat : Nat) = n % 2147483648
  rw [key, IntKind.wrap_i64]
  omega
def sgn (a : Int) (x : S69) : Int := if a = x.f2 then x.f3 else if a = x.f1 then -x.f3 else 0
def balQ (a : Int) : List S69 → Int
  | [] => 0
  | x :: r => sgn a x + balQ a r
def balV (t : Int) : Int × Int := if -9223372036854775808 ≤ t ∧ t ≤ 9223372036854775807 then (t, 0) else (0, 5)
theorem add_small {a b : Int} (h0 : -9223372036854775808 ≤ a) (hb : 0 ≤ b) (h1 : a + b ≤ 9223372036854775807) : money_Add.f a b = some (a + b, 0) := by
  unfold money_Add.f
  rw [w64 (by omega) h1]
  split
  · rename_i h
    have hb' : decide (b < 0) = false := decide_eq_false (by omega)
    rw [hb', beq_iff_eq, decide_eq_false_iff_not] at h
    rw [if_neg]
    rw [decide_eq_false (show ¬ a + b < 0 by omega), decide_eq_false h]
    simp
  · rfl
theorem sgn_lt {a : Int} {x : S69} (hx : OkX x) : -1152921504606846976 ≤ sgn a x ∧ sgn a x ≤ 1152921504606846976 := by
  have := hx.a1; have := hx.a2
  unfold sgn
  split
  · omega
  · split <;> omega
theorem drop_xAt (l : List S69) (i : Nat) (h : i < l.length) : l.drop i = xAt l i :: l.drop (i + 1) := by
  rw [List.drop_eq_getElem_cons h]
  unfold xAt
  rw [List.getD_eq_getElem?_getD, List.getElem?_eq_getElem h]
  rfl
theorem bal_end (hi lo : Int) (h1 : -9223372036854775808 ≤ hi + lo / 2147483648 ∧ hi + lo / 2147483648 ≤ 9223372036854775807) :
    ((money_Mul.f (wrap64 (hi + (lo / 2147483648))) 2147483648).bind fun bt112 => (if bt112.2 = 0 then ((money_Add.f bt112.1 (Go.bits .and .i64 lo 2147483647)).bind fun bt114 => (some (bt114.1, bt114.2))) else (some (0, 5)))) = some (balV (hi * 2147483648 + lo)) := by
  rw [w64 h1.1 h1.2]
  unfold money_Mul.f balV
  rw [if_pos ⟨h1, by omega⟩, i64_and31]
  have hd : hi * 2147483648 + lo = (hi + lo / 2147483648) * 2147483648 + lo % 2147483648 := by omega
  rw [hd]
  have hm : 0 ≤ lo % 2147483648 ∧ lo % 2147483648 < 2147483648 := by omega
  generalize hi + lo / 2147483648 = m at h1
  generalize lo % 2147483648 = r at hm
  by_cases hf : -9223372036854775808 ≤ m * 2147483648 ∧ m * 2147483648 ≤ 9223372036854775807
  · rw [if_pos hf, some_bind, if_pos rfl, add_small hf.1 hm.1 (by omega), some_bind, if_pos (by omega)]
  · rw [if_neg hf, some_bind, if_neg (by decide), if_neg (by omega)]
theorem bal_l0 (qs : List S69) (hq : ∀ k, k < qs.length → OkX (xAt qs k)) (hl : qs.length ≤ 16384) (a : Int) : ∀ (d k i : Nat) (hi lo : Int), i + d = qs.length → d < k → (-((i : Int) * 536870912) ≤ hi ∧ hi ≤ (i : Int) * 536870912) → (0 ≤ lo ∧ lo ≤ (i : Int) * 2147483648) →
    ledger_Balance.l0 k a hi lo qs (qs.length : Int) (i : Int) = some (balV (hi * 2147483648 + lo + balQ a (qs.drop i))) := by
  intro d
  induction d with
  | zero =>
    intro k i hi lo hd hk hh hlo
    obtain ⟨k, rfl⟩ : ∃ j, k = j + 1 := ⟨k - 1, by omega⟩
    rw [ledger_Balance.l0, if_neg (by omega), bal_end hi lo (by omega), List.drop_of_length_le (by omega)]
    unfold balQ
    rw [Int.add_zero]
  | succ d IH =>
    intro k i hi lo hd hk hh hlo
    obtain ⟨k, rfl⟩ : ∃ j, k = j + 1 := ⟨k - 1, by omega⟩
    have hx := hq i (by omega)
    have hs := sgn_lt (a := a) hx
    have ih := fun hi' lo' h1 h2 => IH k (i + 1) hi' lo' (by omega) (by omega) h1 h2
    have hgo : ∀ n, n = sgn a (xAt qs i) → ledger_Balance.l0 k a (wrap64 (hi + n / 2147483648)) (wrap64 (lo + Go.bits .and .i64 n 2147483647)) qs (qs.length : Int) (wrap64 ((i : Int) + 1)) = some (balV (hi * 2147483648 + lo + balQ a (qs.drop i))) := fun n hn => by
      rw [← hn] at hs
      have hdiv : -536870912 ≤ n / 2147483648 ∧ n / 2147483648 ≤ 536870912 := by omega
      have hmod : 0 ≤ n % 2147483648 ∧ n % 2147483648 < 2147483648 := by omega
      have e := Int.mul_ediv_add_emod n 2147483648
      rw [i64_and31, w64n i (by omega), w64 (by omega) (by omega), w64 (by omega) (by omega)]
      rw [ih _ _ (by omega) (by omega), drop_xAt qs i (by omega), balQ, ← hn]
      congr 2
      omega
    rw [ledger_Balance.l0, if_pos (by omega), if_pos (by omega), if_pos (by omega), rd_xAt]
    have ha := hx.a2
    have ha1 := hx.a1
    split
    · rename_i h1
      exact hgo _ (by unfold sgn; rw [if_pos h1])
    · rename_i h1
      split
      · rename_i h2
        rw [w64 (x := -(xAt qs i).f3) (by omega) (by omega)]
        exact hgo _ (by unfold sgn; rw [if_neg h1, if_pos h2])
      · rename_i h2
        exact hgo 0 (by unfold sgn; rw [if_neg h1, if_neg h2])
def balS (ps : List S47) (qs : List S69) (a : Int) : Int × Int := if goodL ps qs = true then (if 1 ≤ a ∧ a < 4 then balV (balQ a qs) else (0, 2)) else (0, 9)
theorem account_is (a : Int) : ledger_account.f a = some (decide (1 ≤ a ∧ a < 4)) := by
  unfold ledger_account.f
  split
  · rename_i h
    congr 1
    exact decide_eq_decide.mpr ⟨fun h1 => ⟨h, h1⟩, fun h1 => h1.2⟩
  · rename_i h
    rw [decide_eq_false (fun h1 => h h1.1)]
theorem bal_is (ps : List S47) (qs : List S69) (a : Int) {k : Nat} (hk : 16384 < k) : ledger_Balance.f k ps qs a = some (balS ps qs a) := by
  unfold ledger_Balance.f balS
  rw [check_is, some_bind]
  by_cases hg : goodL ps qs = true
  · have G := (good_iff ps qs).mp hg
    rw [if_pos hg, if_pos rfl, if_pos hg, account_is, some_bind]
    by_cases ha : 1 ≤ a ∧ a < 4
    · rw [if_pos (decide_eq_true ha), if_pos ha]
      have := bal_l0 qs (fun k hk => (G.ok k hk).1) G.len a qs.length k 0 0 0 (by omega) (by have := G.len; omega) (by omega) (by omega)
      rw [List.drop_zero, Int.zero_mul, Int.add_zero, Int.zero_add] at this
      exact this
    · rw [if_neg (by rw [decide_eq_false ha]; simp), if_neg ha]
  · rw [if_neg hg, if_neg (by decide), if_neg hg]
theorem Good.posts {ps : List S47} {qs : List S69} (h : Good ps qs) : ∀ x ∈ qs, OkX x := fun x hx => by
  obtain ⟨i, hi, he⟩ := List.getElem_of_mem hx
  have := (h.ok i hi).1
  unfold xAt at this
  rw [List.getD_eq_getElem?_getD, List.getElem?_eq_getElem hi, Option.getD_some, he] at this
  exact this
theorem Good.b32 {ps : List S47} {qs : List S69} (h : Good ps qs) : ps.length * 32 ≤ 140737488355328 := by have := h.plen; omega
theorem Good.b24 {ps : List S47} {qs : List S69} (h : Good ps qs) : qs.length * 24 ≤ 140737488355328 := by have := h.len; omega
theorem ref_ok {ps : List S47} {qs : List S69} {n a : Int} (G : Good ps qs) (hn : 1 ≤ n ∧ n ≤ 1024) (ha : 1 ≤ a ∧ a ≤ 1152921504606846976) (ho : a ≤ (lookP n ps).f2 - (lookP n ps).f3) (hl : qs.length < 16384) :
    (refV ps qs n a).2.2 = 0 ∧ Next ps qs ⟨n, 3, 1, a⟩ ⟨n, (lookP n ps).f1, (lookP n ps).f2, (lookP n ps).f3 + a⟩ ((refV ps qs n a).1, (refV ps qs n a).2.1) := by
  rw [ref_yes G hn ha ho]
  have B := G.bd n
  have hq := add_ref B hn ha
  rw [lookP_f0] at hq
  exact post_next G (okx 3 1 hn ha (by decide)) hl hq ⟨(G.pos n).1, B.1.2⟩ (by simp only; omega) B.2.1.2
end Go.Proofs.YtdiopojnkjkgmaaDoor.PureL
set_option linter.unusedVariables false
namespace Go.Proofs.YtdiopojnkjkgmaaDoor.PureL
open Go.RowKit Go.Proofs.YtdiopojnkjkgmaaDoor.Print Go.Proofs.YtdiopojnkjkgmaaDoorW.PrintWords Go.Proofs.YtdiopojnkjkgmaaDoorW.PrintLast Go.Proofs.YtdiopojnkjkgmaaDoorW.PrintMore
theorem good_none : Good [] [] := by
  refine ⟨by simp, rfl, fun p hp => (by cases hp), fun k hk => (by simp at hk), fun n => rfl, fun n => ?_⟩
  rw [show lookP n [] = zeroP n from rfl]
  exact ⟨Int.le_refl _, Int.le_refl _⟩
theorem book_no {n a : Int} (h : (authV [] [] n a).2.2 ≠ 0) : n < 1 ∨ 1024 < n ∨ a < 1 ∨ 1152921504606846976 < a := by
  refine Classical.byContradiction fun hc => h ?_
  have hn : 1 ≤ n ∧ n ≤ 1024 := by omega
  have ha : 1 ≤ a ∧ a ≤ 1152921504606846976 := by omega
  rw [auth_yes good_none hn ha rfl]
  have hq := add_auth (p := lookP n []) (good_none.bd n) hn ha
  rw [lookP_f0, show (lookP n []).f1 = 0 from rfl, Int.zero_add] at hq
  exact (post_next good_none (okx 1 2 hn ha (by decide)) (by simp) hq ⟨by simp only; omega, by simp only; omega⟩ (good_none.pos n).2 (good_none.bd n).2.1.2).1
structure Paid (n a : Int) (c : List S47 × List S69 × Int) : Prop where
  good : Good c.1 c.2.1
  cgood : Good (setlV c.1 c.2.1 n 3).1 (setlV c.1 c.2.1 n 3).2.1
  capt : (setlV c.1 c.2.1 n 3).2.2 = (a, 0)
  hgood : Good (refV (setlV c.1 c.2.1 n 3).1 (setlV c.1 c.2.1 n 3).2.1 n a).1 (refV (setlV c.1 c.2.1 n 3).1 (setlV c.1 c.2.1 n 3).2.1 n a).2.1
  refd : (refV (setlV c.1 c.2.1 n 3).1 (setlV c.1 c.2.1 n 3).2.1 n a).2.2 = 0
  pay : payS (refV (setlV c.1 c.2.1 n 3).1 (setlV c.1 c.2.1 n 3).2.1 n a).1 (refV (setlV c.1 c.2.1 n 3).1 (setlV c.1 c.2.1 n 3).2.1 n a).2.1 n = (⟨n, 0, a, a⟩, 0)
  bal : balS (refV (setlV c.1 c.2.1 n 3).1 (setlV c.1 c.2.1 n 3).2.1 n a).1 (refV (setlV c.1 c.2.1 n 3).1 (setlV c.1 c.2.1 n 3).2.1 n a).2.1 3 = (0, 0)
theorem book_yes {n a : Int} (h : (authV [] [] n a).2.2 = 0) : Paid n a (authV [] [] n a) := by
  rcases auth_ways [] [] n a with ⟨he, _⟩ | ⟨_, hn, ha, _, X⟩
  · exact absurd h he
  generalize authV [] [] n a = c at X
  have D : Good c.1 c.2.1 := X.good
  have L : lookP n c.1 = ⟨n, a, 0, 0⟩ := by
    have := X.look n
    rw [if_pos rfl] at this
    exact this
  have lc : c.2.1 = [] ++ [⟨n, 1, 2, a⟩] := X.posts
  have hl : c.2.1.length < 16384 := by rw [lc]; simp
  have hq := add_capt (D.bd n) hn ha
  rw [L] at hq
  simp only [Int.sub_self, Int.zero_add] at hq
  have P := post_next (x := ⟨n, 2, 3, a⟩) (q := ⟨n, 0, a, 0⟩) D (okx 2 3 hn ha (by decide)) hl (by rw [L]; exact hq) ⟨by simp only; omega, by simp only; omega⟩ (by simp only; omega) (by simp only; omega)
  have e : setlV c.1 c.2.1 n 3 = ((postV c.1 c.2.1 ⟨n, 2, 3, a⟩).1, (postV c.1 c.2.1 ⟨n, 2, 3, a⟩).2.1, a, 0) := by
    rw [set_yes 3 D hn (by rw [L]; simp only; omega), L]
    simp only
    rw [P.1, if_pos rfl]
  have Y := P.2
  have GY : Good (setlV c.1 c.2.1 n 3).1 (setlV c.1 c.2.1 n 3).2.1 := by rw [e]; exact Y.good
  have LY : lookP n (setlV c.1 c.2.1 n 3).1 = ⟨n, 0, a, 0⟩ := by
    have := Y.look n
    rw [if_pos rfl] at this
    rw [e]
    exact this
  have lY : (setlV c.1 c.2.1 n 3).2.1 = ([] ++ [⟨n, 1, 2, a⟩]) ++ [⟨n, 2, 3, a⟩] := by
    rw [e, ← lc]
    exact Y.posts
  have hl2 : (setlV c.1 c.2.1 n 3).2.1.length < 16384 := by rw [lY]; simp
  obtain ⟨r0, Z⟩ := ref_ok GY hn ha (by rw [LY]; simp only; omega) hl2
  refine ⟨D, GY, by rw [e], Z.good, r0, ?_, ?_⟩
  · have LZ := Z.look n
    rw [if_pos rfl, LY] at LZ
    have LZ : lookP n (refV (setlV c.1 c.2.1 n 3).1 (setlV c.1 c.2.1 n 3).2.1 n a).1 = ⟨n, 0, a, a⟩ := by rw [LZ]; simp only [Int.zero_add]
    have g : goodL (refV (setlV c.1 c.2.1 n 3).1 (setlV c.1 c.2.1 n 3).2.1 n a).1 (refV (setlV c.1 c.2.1 n 3).1 (setlV c.1 c.2.1 n 3).2.1 n a).2.1 = true := Z.gl
    unfold payS
    rw [if_pos g, if_pos hn, LZ]
  · have g : goodL (refV (setlV c.1 c.2.1 n 3).1 (setlV c.1 c.2.1 n 3).2.1 n a).1 (refV (setlV c.1 c.2.1 n 3).1 (setlV c.1 c.2.1 n 3).2.1 n a).2.1 = true := Z.gl
    have lZ : (refV (setlV c.1 c.2.1 n 3).1 (setlV c.1 c.2.1 n 3).2.1 n a).2.1 = (setlV c.1 c.2.1 n 3).2.1 ++ [⟨n, 3, 1, a⟩] := Z.posts
    unfold balS
    rw [if_pos g, if_pos (by decide), lZ, lY]
    simp only [List.nil_append, List.cons_append, balQ, sgn]
    unfold balV
    simp
    rw [Int.add_right_neg]
    rfl
end Go.Proofs.YtdiopojnkjkgmaaDoor.PureL
set_option linter.unusedVariables false
namespace Go.Proofs.YtdiopojnkjkgmaaDoor.Pure
open Go.RowKit Go.Proofs.YtdiopojnkjkgmaaDoor.Print Go.Proofs.YtdiopojnkjkgmaaDoorW.PrintWords Go.Proofs.YtdiopojnkjkgmaaDoorW.PrintLast Go.Proofs.YtdiopojnkjkgmaaDoorW.PrintMore
theorem Sum_some (l : List Int) : ∃ p, money_Sum.f l = some p := by
  unfold money_Sum.f
  split
  · exact ⟨_, rfl⟩
  · unfold money_sum.f
    rw [some_bind]
    split <;> exact ⟨_, rfl⟩
theorem tot_l0 (r : List S41) (hr : r.length ≤ 16) : ∀ (d k j : Nat) (x : List Int), j + d = r.length → x.length = r.length → d < k → ∃ p, money_Total.l0 k x r (r.length : Int) (j : Int) = some p
  | 0, k, j, x, h, hx, hk => by
    obtain ⟨k, rfl⟩ : ∃ q, k = q + 1 := ⟨k - 1, by omega⟩
    obtain ⟨p, hp⟩ := Sum_some x
    rw [money_Total.l0, if_neg (by omega), hp, some_bind]
    exact ⟨_, rfl⟩
  | d + 1, k, j, x, h, hx, hk => by
    obtain ⟨k, rfl⟩ : ∃ q, k = q + 1 := ⟨k - 1, by omega⟩
    rw [money_Total.l0, if_pos (by omega), if_pos (by omega), if_pos (by omega)]
    split
    · exact ⟨_, rfl⟩
    · split
      · exact ⟨_, rfl⟩
      · split
        · exact ⟨_, rfl⟩
        · split
          · exact ⟨_, rfl⟩
          · rw [if_pos (by omega), w64n j (by omega)]
            exact tot_l0 r hr d k (j + 1) _ (by omega) (by rw [List.length_set]; exact hx) (by omega)
theorem total_is (r : List S41) {k : Nat} (hk : 17 ≤ k) : ∃ p, money_Total.f k r = some p ∧ (p.2 = 0 → r.length ≤ 16) := by
  unfold money_Total.f
  by_cases h : (r.length : Int) > 16
  · rw [if_pos h]
    exact ⟨_, rfl, fun h => absurd h (by decide)⟩
  · rw [if_neg h, if_pos (by omega), if_pos (by omega), Int.toNat_natCast]
    obtain ⟨p, hp⟩ := tot_l0 r (by omega) r.length k 0 (List.replicate r.length 0) (by omega) (by simp) (by omega)
    exact ⟨p, hp, fun _ => by omega⟩
theorem cell_at {l : List S43} (hl : OkL l) {i w : Int} (hi : 1 ≤ i ∧ i ≤ 1024) (hw : 1 ≤ w ∧ w ≤ 1024) : cellS l i w = (cellAt i w l, 0) := by
  have hc : checkS l = 0 := if_pos hl
  unfold cellS
  rw [if_pos hc, if_pos ⟨hi, hw⟩]
theorem l2_is (l : List S43) (hl : l.length ≤ 4096) : ∀ (d k i : Nat), i + d = l.length → d < k → ladingtop_TopSold.l2 k l l (l.length : Int) (i : Int) = some true
  | 0, k, i, h, hk => by
    obtain ⟨k, rfl⟩ : ∃ q, k = q + 1 := ⟨k - 1, by omega⟩
    rw [ladingtop_TopSold.l2, if_neg (by omega)]
  | d + 1, k, i, h, hk => by
    obtain ⟨k, rfl⟩ : ∃ q, k = q + 1 := ⟨k - 1, by omega⟩
    rw [ladingtop_TopSold.l2, if_pos (by omega), if_pos (by omega), if_pos (by omega), if_pos (by omega), if_neg (by simp), w64n i (by omega)]
    exact l2_is l hl d k (i + 1) (by omega) (by omega)
structure Sent (l : List S43) (r : List S41) (n t : Int) (e : List S43) (ps : List S47) (qs : List S69) : Prop where
  ok : OkL l
  sold : Sold l r
  e_is : e = (linesS 3 (linesS 1 l r).1 r).1
  few : r.length ≤ 16
  good : PureL.Good ps qs
  hgood : PureL.Good (PureL.refV ps qs n t).1 (PureL.refV ps qs n t).2.1
  refd : (PureL.refV ps qs n t).2.2 = 0
  pay : PureL.payS (PureL.refV ps qs n t).1 (PureL.refV ps qs n t).2.1 n = (⟨n, 0, t, t⟩, 0)
  bal : PureL.balS (PureL.refV ps qs n t).1 (PureL.refV ps qs n t).2.1 3 = (0, 0)
section
variable {l : List S43} {r : List S41} {n t : Int} {e : List S43} {ps : List S47} {qs : List S69}
theorem Sent.end_ (S : Sent l r n t e ps qs) {k : Nat} (hk : 40000 ≤ k) : ladingtop_TopSold.l0 k l r n t e r (r.length : Int) (r.length : Int) ps qs = some true := by
  obtain ⟨k, rfl⟩ : ∃ q, k = q + 2 := ⟨k - 2, by omega⟩
  have he : e.length ≤ 4096 := by rw [S.e_is]; exact S.sold.sent.1
  have hl := S.ok.1
  have hf := S.few
  have hL := lines_is 4 (by unfold okQ; decide) e r (by omega) (by omega) (k := k + 1) (by omega)
  rw [show fnK 4 = 13 from rfl, S.e_is, S.sold.back, ← S.e_is] at hL
  rw [ladingtop_TopSold.l0, if_neg (by omega), hL, some_bind, PureL.ref_is ps qs n t S.good.b32 S.good.b24, some_bind]
  try dsimp only
  rw [PureL.pay_is _ _ n S.hgood.b32 S.hgood.b24, S.pay, some_bind, PureL.bal_is _ _ 3 (by omega), S.bal, some_bind]
  try dsimp only
  rw [if_pos rfl, if_pos S.refd, if_pos rfl, if_pos rfl, if_pos rfl, if_pos rfl, ladingtop_TopSold.j4, if_neg (by simp)]
  have := l2_is l hl l.length k 0 (by omega) (by omega)
  exact this
theorem Sent.l1 (S : Sent l r n t e ps qs) (j : Nat) (hj : j < r.length) {K : Nat} (hcont : ∀ k, K ≤ k → ladingtop_TopSold.l0 k l r n t e r (r.length : Int) ((j + 1 : Nat) : Int) ps qs = some true) :
    ∀ (d k m : Nat) (acc : Int), m + d = r.length → K + d + 1 ≤ k → 0 ≤ acc → acc + manyL (r[j]).f0 (r[j]).f1 (r.drop m) = manyL (r[j]).f0 (r[j]).f1 r →
    ladingtop_TopSold.l1 k l r n t e acc r (r.length : Int) (j : Int) r (r.length : Int) (m : Int) ps qs (r[j]).f0 (r[j]).f1 (r[j]).f2 (r[j]).f3
      (cellAt (r[j]).f0 (r[j]).f1 l).f0 (cellAt (r[j]).f0 (r[j]).f1 l).f1 (cellAt (r[j]).f0 (r[j]).f1 l).f2 (cellAt (r[j]).f0 (r[j]).f1 l).f3 (cellAt (r[j]).f0 (r[j]).f1 l).f4 (cellAt (r[j]).f0 (r[j]).f1 l).f5
      (cellAt (r[j]).f0 (r[j]).f1 e).f0 (cellAt (r[j]).f0 (r[j]).f1 e).f1 (cellAt (r[j]).f0 (r[j]).f1 e).f2 (cellAt (r[j]).f0 (r[j]).f1 e).f3 (cellAt (r[j]).f0 (r[j]).f1 e).f4 (cellAt (r[j]).f0 (r[j]).f1 e).f5 = some true
  | 0, k, m, acc, h, hk, ha, hs => by
    obtain ⟨k, rfl⟩ : ∃ q, k = q + 1 := ⟨k - 1, by omega⟩
    have hx := S.sold.all (r[j]) (List.getElem_mem hj)
    have hat := S.sold.at_ (r[j]).f0 (r[j]).f1 hx.2.1
    have hfr := S.sold.free (r[j]) (List.getElem_mem hj)
    have hg := cellAt_good (r[j]).f0 (r[j]).f1 hx.1 hx.2.1 l 0 S.ok.2
    have hf := S.few
    rw [← S.e_is] at hat
    rw [List.drop_of_length_le (by omega), show manyL (r[j]).f0 (r[j]).f1 [] = 0 from rfl, Int.add_zero] at hs
    rw [ladingtop_TopSold.l1, if_neg (by omega), hat, ← hs]
    rw [← hs] at hfr
    have g := hg.1.2.2
    dsimp only
    rw [w64 (by omega) (by omega), if_pos rfl, w64 (by omega) (by omega), if_pos rfl, if_pos rfl, if_pos rfl, w64n j (by omega)]
    exact hcont k (by omega)
  | d + 1, k, m, acc, h, hk, ha, hs => by
    obtain ⟨k, rfl⟩ : ∃ q, k = q + 1 := ⟨k - 1, by omega⟩
    have hm : m < r.length := by omega
    have hf := S.few
    have hfr := S.sold.free (r[j]) (List.getElem_mem hj)
    have hp := manyL_pos (r[j]).f0 (r[j]).f1 (r.drop (m + 1)) (fun y hy => (S.sold.all y (List.mem_of_mem_drop hy)).2.2.1)
    have hq := (S.sold.all (r[m]) (List.getElem_mem hm)).2.2.1
    rw [List.drop_eq_getElem_cons hm, manyL] at hs
    rw [ladingtop_TopSold.l1, if_pos (by omega), if_pos (by omega), if_pos (by omega), rd41 r m hm]
    by_cases h1 : (r[m]).f0 = (r[j]).f0
    · rw [if_pos h1]
      by_cases h2 : (r[m]).f1 = (r[j]).f1
      · rw [if_pos ⟨h1, h2⟩] at hs
        rw [if_pos h2, w64 (x := acc + (r[m]).f2) (by omega) (by omega), w64n m (by omega)]
        exact S.l1 j hj hcont d k (m + 1) _ (by omega) (by omega) (by omega) (by omega)
      · rw [if_neg (fun h => h2 h.2)] at hs
        rw [if_neg h2, w64n m (by omega)]
        exact S.l1 j hj hcont d k (m + 1) _ (by omega) (by omega) (by omega) (by omega)
    · rw [if_neg (fun h => h1 h.1)] at hs
      rw [if_neg h1, w64n m (by omega)]
      exact S.l1 j hj hcont d k (m + 1) _ (by omega) (by omega) (by omega) (by omega)
theorem Sent.l0 (S : Sent l r n t e ps qs) : ∀ (d k j : Nat), j + d = r.length → d * 20 + 40000 ≤ k → ladingtop_TopSold.l0 k l r n t e r (r.length : Int) (j : Int) ps qs = some true
  | 0, k, j, h, hk => by
    obtain rfl : j = r.length := by omega
    exact S.end_ (by omega)
  | d + 1, k, j, h, hk => by
    obtain ⟨k, rfl⟩ : ∃ q, k = q + 1 := ⟨k - 1, by omega⟩
    have hj : j < r.length := by omega
    have hf := S.few
    have hx := S.sold.all (r[j]) (List.getElem_mem hj)
    have he : OkL e := by rw [S.e_is]; exact S.sold.sent
    have hl1 := S.ok.1
    have hl2 := he.1
    rw [ladingtop_TopSold.l0, if_pos (by omega), if_pos (by omega), if_pos (by omega), rd41 r j hj, cell_is l _ _ (by omega), some_bind, cell_is e _ _ (by omega), some_bind, cell_at S.ok hx.1 hx.2.1, cell_at he hx.1 hx.2.1]
    dsimp only
    exact S.l1 j hj (K := d * 20 + 40000) (fun k hk => S.l0 d k (j + 1) (by omega) hk) r.length k 0 0 (by omega) (by omega) (by omega) (by rw [List.drop_zero, Int.zero_add])
end
theorem TopSoldUpto : ∀ (l0 : List (S43)) (l1 : List (S41)) (a2 : Int), (l0.length ≤ 1048576 ∧ ∀ y3 ∈ l0, ((Lit.int .i64 y3.f0).wf = true ∧ (Lit.int .i64 y3.f1).wf = true ∧ (Lit.int .i64 y3.f2).wf = true ∧ (Lit.int .i64 y3.f3).wf = true ∧ (Lit.int .i64 y3.f4).wf = true ∧ (Lit.int .i64 y3.f5).wf = true)) → (l1.length ≤ 1048576 ∧ ∀ y3 ∈ l1, ((Lit.int .i64 y3.f0).wf = true ∧ (Lit.int .i64 y3.f1).wf = true ∧ (Lit.int .i64 y3.f2).wf = true ∧ (Lit.int .i64 y3.f3).wf = true)) → (Lit.int .i64 a2).wf = true → ∃ k, ladingtop_TopSold.f k l0 l1 a2 = some true := by
  intro l r n hl0 hr0 _
  have hl0 := hl0.1
  have hr0 := hr0.1
  refine ⟨3000000, ?_⟩
  unfold ladingtop_TopSold.f
  rw [show ladingtop_begins.f = some true from rfl, some_bind, if_pos rfl, check_is l (by omega), some_bind]
  by_cases hc : checkS l = 0
  case neg => rw [if_neg hc]
  have hl := checkS_ok hc
  obtain ⟨⟨t, why⟩, ht, hfew⟩ := total_is r (k := 3000000) (by decide)
  have hL1 := lines_is 1 (by unfold okQ; decide) l r (by omega) (by omega) (k := 3000000) (by omega)
  rw [show fnK 1 = 8 from rfl] at hL1
  rw [if_pos hc, ht, some_bind, hL1, some_bind]
  try dsimp only
  by_cases hw : why = 0
  case neg =>
    rw [if_neg hw, ladingtop_TopSold.j0, if_pos rfl]
  rw [if_pos hw]
  by_cases h1 : (linesS 1 l r).2 = 0
  case neg =>
    rw [ladingtop_TopSold.j0, if_pos (bne_iff_ne.mpr h1)]
  have hx : ((linesS 1 l r).2 != 0) = false := bne_eq_false_iff_eq.mpr h1
  have hr := hfew hw
  have S := sold l r hl h1
  rw [hx, ladingtop_TopSold.j0, if_neg (by decide), PureL.auth_is [] [] n t (by simp) (by simp), some_bind]
  by_cases ha : (PureL.authV [] [] n t).2.2 = 0
  case neg =>
    have := PureL.book_no ha
    rw [if_neg ha]
    by_cases h2 : n < 1
    · rw [if_pos h2]
    · rw [if_neg h2]
      by_cases h3 : n > 1024
      · rw [if_pos h3]
      · rw [if_neg h3]
        by_cases h4 : t < 1
        · rw [if_pos h4]
        · rw [if_neg h4, decide_eq_true (show t > 1152921504606846976 by omega)]
  have P := PureL.book_yes ha
  have hA := S.all
  have h1l : (linesS 1 l r).1.length ≤ 4096 := (lines_done 1 (by decide) r l hl h1).ok.1
  have hL3 := lines_is 3 (by unfold okQ; decide) (linesS 1 l r).1 r (by omega) (by omega) (k := 2999999) (by omega)
  rw [show fnK 3 = 11 from rfl] at hL3
  rw [if_pos ha, PureL.capture_is _ _ n P.good.b32 P.good.b24, some_bind, hL3, some_bind]
  try dsimp only
  have hcap := P.capt
  rw [if_pos (show (PureL.setlV (PureL.authV [] [] n t).1 (PureL.authV [] [] n t).2.1 n 3).2.2.2 = 0 by rw [hcap]), if_pos (show (PureL.setlV (PureL.authV [] [] n t).1 (PureL.authV [] [] n t).2.1 n 3).2.2.1 = t by rw [hcap]),
    show ((linesS 3 (linesS 1 l r).1 r).2 != 0) = false from bne_eq_false_iff_eq.mpr S.send, ladingtop_TopSold.j1, if_neg (by decide)]
  have T : Sent l r n t (linesS 3 (linesS 1 l r).1 r).1 (PureL.setlV (PureL.authV [] [] n t).1 (PureL.authV [] [] n t).2.1 n 3).1 (PureL.setlV (PureL.authV [] [] n t).1 (PureL.authV [] [] n t).2.1 n 3).2.1 :=
    ⟨hl, S, rfl, hr, P.cgood, P.hgood, P.refd, P.pay, P.bal⟩
  exact T.l0 r.length 2999998 0 (by omega) (by omega)
end Go.Proofs.YtdiopojnkjkgmaaDoor.Pure
