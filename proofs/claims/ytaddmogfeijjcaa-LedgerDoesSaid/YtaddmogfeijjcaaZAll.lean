/- Ledger: the document's own answers are the same. -/
import Derived.Test.YtaddmogfeijjcaaZPrint25
import Derived.Test.YtaddmogfeijjcaaZPrint19
import Derived.Test.YtaddmogfeijjcaaZPrint26
import Derived.Test.YtaddmogfeijjcaaZPrint20
import Derived.Test.YtaddmogfeijjcaaZPrint24
import Derived.Test.YtaddmogfeijjcaaZPrint40
import Derived.Test.YtaddmogfeijjcaaZPrint27
import Derived.Test.YtaddmogfeijjcaaZPrint28
import Derived.Test.YtaddmogfeijjcaaZPrint39
import Derived.Test.YtaddmogfeijjcaaZPrint41
import Derived.Test.YtaddmogfeijjcaaZPrint42
import Derived.Test.YtaddmogfeijjcaaZPrint43
import Derived.Test.YtaddmogfeijjcaaZPrint44
import Derived.Test.YtaddmogfeijjcaaZPrint47
import Derived.Test.YtaddmogfeijjcaaZPrint32
import Derived.Test.YtaddmogfeijjcaaZPrint30
set_option linter.unusedVariables false
namespace Go.Proofs.Ytaddmogfeijjcaa.Pure
open Go.RowKit Go.Proofs.Ytaddmogfeijjcaa.Print Go.Proofs.YtaddmogfeijjcaaW.PrintWords Go.Proofs.YtaddmogfeijjcaaW.PrintLast Go.Proofs.YtaddmogfeijjcaaW.PrintMore
theorem w64 {x : Int} (h0 : -9223372036854775808 ≤ x) (h1 : x ≤ 9223372036854775807) : wrap64 x = x := by unfold wrap64; omega
theorem w64n (i : Nat) (h : i < 9223372036854775807) : wrap64 ((i : Int) + 1) = ((i + 1 : Nat) : Int) := by rw [w64 (by omega) (by omega)]; rfl
theorem some_bind {α β : Type} (a : α) (f : α → Option β) : (some a).bind f = f a := rfl
def okO : Int → List S31 → Bool
  | _, [] => true
  | last, p :: r => decide (last < p.f0) && (decide (p.f0 ≤ 1024) && okO p.f0 r)
theorem okO_cons {last : Int} {p : S31} {r : List S31} : okO last (p :: r) = true ↔ last < p.f0 ∧ p.f0 ≤ 1024 ∧ okO p.f0 r = true := by
  simp only [okO, Bool.and_eq_true, decide_eq_true_eq]
theorem okO_low {a b : Int} (h : a ≤ b) : ∀ {l : List S31}, okO b l = true → okO a l = true
  | [], _ => rfl
  | p :: r, hl => by
    have := okO_cons.mp hl
    exact okO_cons.mpr ⟨by omega, this.2⟩
theorem okO_len : ∀ (l : List S31) (last : Int), last ≤ 1024 → okO last l = true → (l.length : Int) ≤ 1024 - last
  | [], last, h, _ => by simp only [List.length_nil]; omega
  | p :: r, last, h, hl => by
    have hc := okO_cons.mp hl
    have := okO_len r p.f0 hc.2.1 hc.2.2
    simp only [List.length_cons]
    omega
theorem okO_all : ∀ (l : List S31) (last : Int), okO last l = true → ∀ p ∈ l, last < p.f0 ∧ p.f0 ≤ 1024
  | [], _, _, _, hp => by cases hp
  | q :: r, last, hl, p, hp => by
    have hc := okO_cons.mp hl
    rcases List.mem_cons.mp hp with rfl | hp
    · exact ⟨hc.1, hc.2.1⟩
    · have := okO_all r q.f0 hc.2.2 p hp
      omega
def lookP (n : Int) : List S31 → S31
  | [] => zeroP n
  | p :: r => if p.f0 = n then p else lookP n r
def hasP (n : Int) : List S31 → Bool
  | [] => false
  | p :: r => decide (p.f0 = n) || hasP n r
def ahead (n : Int) : List S31 → Nat
  | [] => 0
  | p :: r => if p.f0 < n then ahead n r + 1 else 0
def noP (p : S31) : Bool := p.f1 == 0 && (p.f2 == 0 && p.f3 == 0)
def putP (n : Int) (q : S31) : List S31 → List S31
  | [] => if noP q = true then [] else [q]
  | p :: r => if p.f0 < n then p :: putP n q r else if p.f0 = n then (if noP q = true then r else q :: r) else (if noP q = true then p :: r else q :: p :: r)
theorem noP_zero {q : S31} (h : noP q = true) : q = zeroP q.f0 := by
  unfold noP at h
  simp only [Bool.and_eq_true, beq_iff_eq] at h
  obtain ⟨a, b, c, d⟩ := q
  simp only at h
  obtain ⟨rfl, rfl, rfl⟩ := h
  rfl
theorem noP_is (q : S31) : noP q = eqP q (zeroP q.f0) := by
  unfold noP eqP zeroP
  simp
theorem lookP_f0 (n : Int) : ∀ l, (lookP n l).f0 = n
  | [] => rfl
  | p :: r => by
    unfold lookP
    split
    · assumption
    · exact lookP_f0 n r
theorem lookP_above {n : Int} : ∀ {l : List S31} {last : Int}, okO last l = true → n ≤ last → lookP n l = zeroP n
  | [], _, _, _ => rfl
  | p :: r, last, h, hn => by
    have hc := okO_cons.mp h
    rw [lookP, if_neg (by omega)]
    exact lookP_above hc.2.2 (by omega)
theorem hasP_above {n : Int} : ∀ {l : List S31} {last : Int}, okO last l = true → n ≤ last → hasP n l = false
  | [], _, _, _ => rfl
  | p :: r, last, h, hn => by
    have hc := okO_cons.mp h
    rw [hasP, hasP_above hc.2.2 (by omega), decide_eq_false (by omega)]
    rfl
theorem hasP_no {n : Int} : ∀ {l : List S31}, hasP n l = false → lookP n l = zeroP n
  | [], _ => rfl
  | p :: r, h => by
    simp only [hasP, Bool.or_eq_false_iff, decide_eq_false_iff_not] at h
    rw [lookP, if_neg h.1]
    exact hasP_no h.2
theorem hasP_mem {n : Int} : ∀ {l : List S31}, hasP n l = true → lookP n l ∈ l ∧ (lookP n l).f0 = n
  | [], h => by cases h
  | p :: r, h => by
    by_cases hp : p.f0 = n
    · rw [lookP, if_pos hp]
      exact ⟨List.mem_cons_self .., hp⟩
    · simp only [hasP, Bool.or_eq_true, decide_eq_true_eq, hp, false_or] at h
      rw [lookP, if_neg hp]
      exact ⟨List.mem_cons_of_mem _ (hasP_mem h).1, (hasP_mem h).2⟩
theorem hasP_of {n : Int} : ∀ {l : List S31} {p : S31}, p ∈ l → p.f0 = n → hasP n l = true
  | q :: r, p, hp, hn => by
    rcases List.mem_cons.mp hp with rfl | hp
    · simp [hasP, hn]
    · simp [hasP, hasP_of hp hn]
theorem lookP_mem {l : List S31} {last : Int} (h : okO last l = true) {p : S31} (hp : p ∈ l) : lookP p.f0 l = p := by
  induction l generalizing last with
  | nil => cases hp
  | cons q r ih =>
    have hc := okO_cons.mp h
    rcases List.mem_cons.mp hp with rfl | hp
    · rw [lookP, if_pos rfl]
    · have := okO_all r q.f0 hc.2.2 p hp
      rw [lookP, if_neg (by omega)]
      exact ih hc.2.2 hp
theorem ahead_le (n : Int) : ∀ l : List S31, ahead n l ≤ l.length
  | [] => Nat.le_refl _
  | p :: r => by
    have := ahead_le n r
    unfold ahead
    split <;> simp <;> omega
theorem ahead_lt (n : Int) : ∀ (l : List S31) (i : Nat), i < l.length → i < ahead n l → (pAt l i).f0 < n
  | [], i, h, _ => by simp at h
  | p :: r, i, h, hi => by
    unfold ahead at hi
    split at hi
    · cases i with
      | zero => assumption
      | succ i => exact ahead_lt n r i (by simpa using h) (by omega)
    · omega
theorem ahead_ge (n : Int) : ∀ (l : List S31) (last : Int), okO last l = true → ∀ i, i < l.length → ahead n l ≤ i → n ≤ (pAt l i).f0
  | [], _, _, i, h, _ => by simp at h
  | p :: r, last, hl, i, h, hi => by
    have hc := okO_cons.mp hl
    unfold ahead at hi
    split at hi
    · cases i with
      | zero => omega
      | succ i => exact ahead_ge n r p.f0 hc.2.2 i (by simpa using h) (by omega)
    · cases i with
      | zero => show n ≤ p.f0; omega
      | succ i =>
        have hm : pAt (p :: r) (i + 1) ∈ r := by
          have hi' : i < r.length := by simpa using h
          show r.getD i z31 ∈ r
          rw [List.getD_eq_getElem?_getD, List.getElem?_eq_getElem hi']
          exact List.getElem_mem hi'
        have := okO_all r p.f0 hc.2.2 _ hm
        omega
theorem bsN_spec (p : Nat → Bool) (n : Nat) : ∀ k i j, i ≤ j → j - i < 2 ^ k → i ≤ n → n ≤ j → (∀ h, h < j → (p h = true ↔ h < n)) → bsN p k i j = n
  | 0, i, j, hij, hk, hin, hnj, hp => by
    have : i = j := by simp at hk; omega
    rw [bsN]
    omega
  | k + 1, i, j, hij, hk, hin, hnj, hp => by
    rw [bsN]
    split
    · have h2 : 2 ^ (k + 1) = 2 * 2 ^ k := by rw [Nat.pow_succ]; omega
      have hm := hp ((i + j) / 2) (by omega)
      split
      · rename_i hlt ht
        exact bsN_spec p n k _ j (by omega) (by omega) (by have := hm.mp ht; omega) hnj hp
      · rename_i hlt ht
        exact bsN_spec p n k i _ (by omega) (by omega) hin (by
          rcases Nat.lt_or_ge ((i + j) / 2) n with h | h
          · exact absurd (hm.mpr h) ht
          · exact h) (fun h hh => hp h (by omega))
    · omega
theorem plcI_is {l : List S31} {last : Int} (n : Int) (hl : l.length ≤ 4000000000000) (h : okO last l = true) : plcI l n = ahead n l := by
  unfold plcI
  refine bsN_spec _ _ 64 0 l.length (Nat.zero_le _) (by omega) (Nat.zero_le _) (ahead_le n l) (fun i hi => ?_)
  unfold ledger_place.P
  rw [rd_pAt, decide_eq_true_eq]
  constructor
  · intro hlt
    rcases Nat.lt_or_ge i (ahead n l) with h1 | h1
    · exact h1
    · have := ahead_ge n l last h i hi h1
      omega
  · exact ahead_lt n l i hi
theorem hasP_ahead {n : Int} : ∀ {l : List S31} {last : Int}, okO last l = true → hasP n l = true → ahead n l < l.length ∧ pAt l (ahead n l) = lookP n l
  | [], _, _, h => by cases h
  | p :: r, last, hl, h => by
    have hc := okO_cons.mp hl
    unfold ahead
    by_cases hlt : p.f0 < n
    · rw [if_pos hlt, lookP, if_neg (by omega)]
      simp only [hasP, Bool.or_eq_true, decide_eq_true_eq] at h
      have ih := hasP_ahead hc.2.2 (h.resolve_left (by omega))
      exact ⟨by simp only [List.length_cons]; omega, ih.2⟩
    · rw [if_neg hlt]
      by_cases he : p.f0 = n
      · rw [lookP, if_pos he]
        exact ⟨by simp, rfl⟩
      · rw [hasP, decide_eq_false he, Bool.false_or, hasP_above hc.2.2 (by omega)] at h
        cases h
theorem ahead_has {n : Int} {l : List S31} (h1 : ahead n l < l.length) (h2 : (pAt l (ahead n l)).f0 = n) : hasP n l = true := by
  refine hasP_of (p := pAt l (ahead n l)) ?_ h2
  unfold pAt
  rw [List.getD_eq_getElem?_getD, List.getElem?_eq_getElem h1]
  exact List.getElem_mem h1
theorem plcB_is {l : List S31} {last : Int} (n : Int) (hl : l.length ≤ 4000000000000) (h : okO last l = true) : plcB l n = hasP n l := by
  unfold plcB
  rw [plcI_is n hl h, rd_pAt]
  cases hh : hasP n l with
  | true =>
    have := hasP_ahead h hh
    rw [decide_eq_true this.1, this.2, decide_eq_true (lookP_f0 n l)]
    rfl
  | false =>
    rw [Bool.and_eq_false_iff]
    rcases Nat.lt_or_ge (ahead n l) l.length with h1 | h1
    · refine Or.inr (decide_eq_false fun h2 => ?_)
      rw [ahead_has h1 h2] at hh
      cases hh
    · exact Or.inl (decide_eq_false (by omega))
theorem payOf_is {l : List S31} {last : Int} (n : Int) (hl : l.length ≤ 4000000000000) (h : okO last l = true) : payOf l n = lookP n l := by
  unfold payOf
  rw [plcB_is n hl h, plcI_is n hl h]
  cases hh : hasP n l with
  | true => rw [if_pos rfl, (hasP_ahead h hh).2]
  | false => rw [if_neg (by simp), hasP_no hh]
theorem putP_has {n : Int} {q : S31} : ∀ {l : List S31} {last : Int}, okO last l = true → hasP n l = true →
    (noP q = true → l.eraseIdx (ahead n l) = putP n q l) ∧ (noP q = false → (l.eraseIdx (ahead n l)).take (ahead n l) ++ [q] ++ (l.eraseIdx (ahead n l)).drop (ahead n l) = putP n q l)
  | [], _, _, h => by cases h
  | p :: r, last, hl, h => by
    have hc := okO_cons.mp hl
    unfold ahead putP
    by_cases hlt : p.f0 < n
    · simp only [hasP, Bool.or_eq_true, decide_eq_true_eq] at h
      have ih := putP_has (q := q) hc.2.2 (h.resolve_left (by omega))
      rw [if_pos hlt, if_pos hlt]
      refine ⟨fun hq => ?_, fun hq => ?_⟩
      · rw [List.eraseIdx_cons_succ, ih.1 hq]
      · rw [List.eraseIdx_cons_succ, List.take_succ_cons, List.drop_succ_cons, ← ih.2 hq]
        rfl
    · by_cases he : p.f0 = n
      · rw [if_neg hlt, if_neg hlt, if_pos he]
        refine ⟨fun hq => by rw [if_pos hq]; rfl, fun hq => by rw [if_neg (by rw [hq]; simp)]; rfl⟩
      · rw [hasP, decide_eq_false he, Bool.false_or, hasP_above hc.2.2 (by omega)] at h
        cases h
theorem putP_no {n : Int} {q : S31} : ∀ {l : List S31}, hasP n l = false →
    (noP q = true → l = putP n q l) ∧ (noP q = false → l.take (ahead n l) ++ [q] ++ l.drop (ahead n l) = putP n q l)
  | [], _ => by
    unfold ahead putP
    refine ⟨fun hq => by rw [if_pos hq], fun hq => by rw [if_neg (by rw [hq]; simp)]; rfl⟩
  | p :: r, h => by
    simp only [hasP, Bool.or_eq_false_iff, decide_eq_false_iff_not] at h
    have ih := putP_no (q := q) h.2
    unfold ahead putP
    by_cases hlt : p.f0 < n
    · rw [if_pos hlt, if_pos hlt]
      refine ⟨fun hq => by rw [← ih.1 hq], fun hq => by rw [List.take_succ_cons, List.drop_succ_cons, ← ih.2 hq]; rfl⟩
    · rw [if_neg hlt, if_neg hlt, if_neg h.1]
      refine ⟨fun hq => by rw [if_pos hq], fun hq => by rw [if_neg (by rw [hq]; simp)]; rfl⟩
theorem postL_is {l : List S31} {last : Int} (x : S55) (hl : l.length ≤ 4000000000000) (h : okO last l = true) : postL l x = putP x.f0 (addP (lookP x.f0 l) x) l := by
  have hf : (addP (lookP x.f0 l) x).f0 = x.f0 := (addP_f0 _ _).trans (lookP_f0 _ _)
  unfold postL postP
  rw [payOf_is x.f0 hl h, plcB_is x.f0 hl h, plcI_is x.f0 hl h, show eqP (addP (lookP x.f0 l) x) (zeroP x.f0) = noP (addP (lookP x.f0 l) x) by rw [noP_is, hf]]
  generalize addP (lookP x.f0 l) x = q
  cases hh : hasP x.f0 l with
  | true =>
    have hp := putP_has (q := q) h hh
    rw [if_pos rfl]
    cases hq : noP q with
    | true => rw [if_pos rfl, hp.1 hq]
    | false => rw [if_neg (by simp), hp.2 hq]
  | false =>
    have hp := putP_no (q := q) hh
    cases hq : noP q with
    | true => rw [if_pos rfl, if_neg (by simp), ← hp.1 hq]
    | false => rw [if_neg (by simp), if_neg (by simp), hp.2 hq]
theorem putP_ok {n : Int} {q : S31} (hq : q.f0 = n) (h2 : n ≤ 1024) : ∀ (l : List S31) (last : Int), last < n → okO last l = true → okO last (putP n q l) = true
  | [], last, h1, h => by
    unfold putP
    split
    · rfl
    · exact okO_cons.mpr ⟨by omega, by omega, rfl⟩
  | p :: r, last, h1, h => by
    have hc := okO_cons.mp h
    unfold putP
    split
    · rename_i hlt
      exact okO_cons.mpr ⟨hc.1, hc.2.1, putP_ok hq h2 r p.f0 hlt hc.2.2⟩
    · split
      · rename_i he
        split
        · exact okO_low (by omega) hc.2.2
        · exact okO_cons.mpr ⟨by omega, by omega, by rw [hq, ← he]; exact hc.2.2⟩
      · split
        · exact h
        · exact okO_cons.mpr ⟨by omega, by omega, okO_cons.mpr ⟨by omega, hc.2.1, hc.2.2⟩⟩
theorem putP_nz {n : Int} {q : S31} : ∀ (l : List S31), (∀ p ∈ l, noP p = false) → ∀ p ∈ putP n q l, noP p = false
  | [], h, p, hp => by
    unfold putP at hp
    split at hp
    · cases hp
    · rename_i hq
      rw [List.mem_singleton.mp hp]
      simpa using hq
  | a :: r, h, p, hp => by
    unfold putP at hp
    split at hp
    · rcases List.mem_cons.mp hp with rfl | hp
      · exact h _ (List.mem_cons_self ..)
      · exact putP_nz r (fun p hp => h p (List.mem_cons_of_mem _ hp)) p hp
    · split at hp
      · split at hp
        · exact h p (List.mem_cons_of_mem _ hp)
        · rename_i hq
          rcases List.mem_cons.mp hp with rfl | hp
          · simpa using hq
          · exact h p (List.mem_cons_of_mem _ hp)
      · split at hp
        · exact h p hp
        · rename_i hq
          rcases List.mem_cons.mp hp with rfl | hp
          · simpa using hq
          · exact h p hp
theorem putP_look {n : Int} {q : S31} (hq : q.f0 = n) (m : Int) : ∀ (l : List S31) (last : Int), okO last l = true → lookP m (putP n q l) = if m = n then q else lookP m l
  | [], last, h => by
    unfold putP
    split
    · rename_i hz
      by_cases hm : m = n
      · rw [if_pos hm, noP_zero hz, hq, hm]; rfl
      · rw [if_neg hm]
    · by_cases hm : m = n
      · rw [if_pos hm, lookP, if_pos (by omega)]
      · rw [if_neg hm]
        show (if q.f0 = m then q else lookP m []) = _
        rw [if_neg (by omega)]
  | p :: r, last, h => by
    have hc := okO_cons.mp h
    unfold putP
    split
    · rename_i hlt
      have ih := putP_look hq m r p.f0 hc.2.2
      rw [lookP]
      by_cases hp : p.f0 = m
      · rw [if_pos hp, if_neg (by omega), lookP, if_pos hp]
      · rw [if_neg hp, ih, lookP, if_neg hp]
    · split
      · rename_i he
        split
        · rename_i hz
          by_cases hm : m = n
          · rw [if_pos hm, noP_zero hz, hq, hm]
            exact lookP_above hc.2.2 (by omega)
          · rw [if_neg hm, lookP, if_neg (by omega)]
        · by_cases hm : m = n
          · rw [if_pos hm, lookP, if_pos (by omega)]
          · rw [if_neg hm, lookP, if_neg (by omega), lookP, if_neg (by omega)]
      · split
        · rename_i hz
          by_cases hm : m = n
          · rw [if_pos hm, noP_zero hz, hq, hm, lookP, if_neg (by omega)]
            exact lookP_above hc.2.2 (by omega)
          · rw [if_neg hm]
        · by_cases hm : m = n
          · rw [if_pos hm, lookP, if_pos (by omega)]
          · rw [if_neg hm, lookP, if_neg (by omega)]
def Bd (p : S31) : Prop := (-1152921504606846976 ≤ p.f1 ∧ p.f1 ≤ 1152921504606846976) ∧ (0 ≤ p.f2 ∧ p.f2 ≤ 1152921504606846976) ∧ 0 ≤ p.f3 ∧ p.f3 ≤ 1152921504606846976
theorem fits_of (p : S31) : fits p = true ↔ p.f1 ≤ 1152921504606846976 ∧ -1152921504606846976 ≤ p.f1 ∧ p.f2 ≤ 1152921504606846976 ∧ p.f3 ≤ 1152921504606846976 := by
  unfold fits
  simp only [Bool.and_eq_true, decide_eq_true_eq]
structure OkX (x : S55) : Prop where
  n1 : 1 ≤ x.f0
  n2 : x.f0 ≤ 1024
  a1 : 1 ≤ x.f3
  a2 : x.f3 ≤ 1152921504606846976
  r1 : 1 ≤ x.f1
  r2 : x.f1 < 4
  t1 : 1 ≤ x.f2
  t2 : x.f2 < 4
  ne : x.f1 ≠ x.f2
theorem postOk_of (x : S55) : postOk x = true ↔ OkX x := by
  unfold postOk
  simp only [Bool.and_eq_true, decide_eq_true_eq, Bool.not_eq_true', beq_eq_false_iff_ne]
  exact ⟨fun ⟨a, b, c, d, e, f, g, h, i⟩ => ⟨a, b, c, d, e, f, g, h, i⟩, fun ⟨a, b, c, d, e, f, g, h, i⟩ => ⟨a, b, c, d, e, f, g, h, i⟩⟩
def amt (b : Prop) [Decidable b] (a : Int) : Int := if b then a else 0
theorem addP_is {p : S31} {x : S55} (hp : Bd p) (hx : OkX x) : addP p x = ⟨p.f0, p.f1 + amt (x.f2 = 2) x.f3 - amt (x.f1 = 2) x.f3, p.f2 + amt (x.f2 = 3) x.f3, p.f3 + amt (x.f1 = 3) x.f3⟩ := by
  have h1 := hx.a1; have h2 := hx.a2
  obtain ⟨hp1, hp2, hp3⟩ := hp
  unfold addP
  have e1 : add1 p x = ⟨p.f0, p.f1 + amt (x.f2 = 2) x.f3, p.f2, p.f3⟩ := by
    unfold add1 amt
    split
    · rw [w64 (by omega) (by omega)]
    · rw [Int.add_zero]
  have b1 : 0 ≤ amt (x.f2 = 2) x.f3 ∧ amt (x.f2 = 2) x.f3 ≤ 1152921504606846976 := by unfold amt; split <;> omega
  have e2 : add2 (add1 p x) x = ⟨p.f0, p.f1 + amt (x.f2 = 2) x.f3 - amt (x.f1 = 2) x.f3, p.f2, p.f3⟩ := by
    rw [e1]
    generalize amt (x.f2 = 2) x.f3 = d at b1 ⊢
    unfold add2 amt
    split
    · simp only
      rw [w64 (by omega) (by omega)]
    · rw [Int.sub_zero]
  have e3 : add3 (add2 (add1 p x) x) x = ⟨p.f0, p.f1 + amt (x.f2 = 2) x.f3 - amt (x.f1 = 2) x.f3, p.f2 + amt (x.f2 = 3) x.f3, p.f3⟩ := by
    rw [e2]
    generalize amt (x.f2 = 2) x.f3 = d
    generalize amt (x.f1 = 2) x.f3 = d'
    unfold add3 amt
    split
    · simp only
      rw [w64 (by omega) (by omega)]
    · rw [Int.add_zero]
  rw [e3]
  generalize amt (x.f2 = 2) x.f3 = d
  generalize amt (x.f1 = 2) x.f3 = d'
  generalize amt (x.f2 = 3) x.f3 = d''
  unfold add4 amt
  split
  · simp only
    rw [w64 (by omega) (by omega)]
  · rw [Int.add_zero]
def okPosts (qs : List S55) : Prop := ∀ k, k < qs.length → OkX (xAt qs k) ∧ fits (sumN (qs.take (k + 1)) (xAt qs k).f0) = true
theorem okX_of (qs : List S55) (k : Nat) : okX qs k = true ↔ OkX (xAt qs k) ∧ fits (sumN (qs.take (k + 1)) (xAt qs k).f0) = true := by
  unfold okX
  rw [Bool.and_eq_true, postOk_of]
theorem sum_Bd {qs : List S55} (h : okPosts qs) : ∀ (j : Nat), j ≤ qs.length → ∀ n, Bd (sumN (qs.take j) n)
  | 0, _, n => by
    show Bd (zeroP n)
    unfold Bd zeroP
    simp only
    omega
  | j + 1, hj, n => by
    have ih := sum_Bd h j (by omega) n
    have hk := h j (by omega)
    have ht := take_xAt qs j (by omega)
    rw [ht, sumN_snoc]
    split
    · rename_i hn
      rw [ht, sumN_snoc, if_pos rfl, hn] at hk
      have hf := (fits_of _).mp hk.2
      have ha := addP_is ih hk.1
      have h1 := hk.1.a1
      have g2 : 0 ≤ amt ((xAt qs j).f2 = 3) (xAt qs j).f3 := by unfold amt; split <;> omega
      have g3 : 0 ≤ amt ((xAt qs j).f1 = 3) (xAt qs j).f3 := by unfold amt; split <;> omega
      obtain ⟨i1, i2, i3⟩ := ih
      have e2 : (addP (sumN (List.take j qs) n) (xAt qs j)).f2 = (sumN (List.take j qs) n).f2 + amt ((xAt qs j).f2 = 3) (xAt qs j).f3 := by rw [ha]
      have e3 : (addP (sumN (List.take j qs) n) (xAt qs j)).f3 = (sumN (List.take j qs) n).f3 + amt ((xAt qs j).f1 = 3) (xAt qs j).f3 := by rw [ha]
      exact ⟨⟨hf.2.1, hf.1⟩, ⟨by omega, hf.2.2.1⟩, by omega, hf.2.2.2⟩
    · exact ih
theorem sum_Bd' {qs : List S55} (h : okPosts qs) (n : Int) : Bd (sumN qs n) := by
  have := sum_Bd h qs.length (Nat.le_refl _) n
  rwa [List.take_length] at this
structure Good (ps : List S31) (qs : List S55) : Prop where
  len : qs.length ≤ 16384
  srt : okO 0 ps = true
  nz : ∀ p ∈ ps, noP p = false
  ok : okPosts qs
  sum : ∀ n, lookP n ps = sumN qs n
  pos : ∀ n, 0 ≤ (lookP n ps).f1 ∧ (lookP n ps).f3 ≤ (lookP n ps).f2
theorem Good.bd {ps : List S31} {qs : List S55} (h : Good ps qs) (n : Int) : Bd (lookP n ps) := by rw [h.sum]; exact sum_Bd' h.ok n
theorem Good.plen {ps : List S31} {qs : List S55} (h : Good ps qs) : ps.length ≤ 1024 := by
  have := okO_len ps 0 (by omega) h.srt
  omega
theorem pAt_mem {l : List S31} {i : Nat} (h : i < l.length) : pAt l i ∈ l := by
  unfold pAt
  rw [List.getD_eq_getElem?_getD, List.getElem?_eq_getElem h]
  exact List.getElem_mem h
theorem mem_pAt {l : List S31} {p : S31} (h : p ∈ l) : ∃ i, i < l.length ∧ pAt l i = p := by
  obtain ⟨i, hi, he⟩ := List.getElem_of_mem h
  refine ⟨i, hi, ?_⟩
  unfold pAt
  rw [List.getD_eq_getElem?_getD, List.getElem?_eq_getElem hi, he]
  rfl
theorem srt_of : ∀ (l : List S31) (last : Int), (∀ i, i < l.length → (i = 0 → last < (pAt l i).f0) ∧ (pAt l i).f0 ≤ 1024 ∧ (0 < i → (pAt l (i - 1)).f0 < (pAt l i).f0)) → okO last l = true
  | [], _, _ => rfl
  | p :: r, last, h => by
    have h0 := h 0 (by simp)
    refine okO_cons.mpr ⟨h0.1 rfl, h0.2.1, srt_of r p.f0 fun i hi => ?_⟩
    have h1 := h (i + 1) (by simpa using hi)
    refine ⟨fun h2 => ?_, h1.2.1, fun h2 => ?_⟩
    · subst h2
      exact h1.2.2 (by omega)
    · have h3 := h1.2.2 (by omega)
      obtain ⟨j, rfl⟩ : ∃ j, i = j + 1 := ⟨i - 1, by omega⟩
      exact h3
theorem of_srt : ∀ (l : List S31) (last : Int), okO last l = true → ∀ i, i < l.length → last < (pAt l i).f0 ∧ (pAt l i).f0 ≤ 1024 ∧ (0 < i → (pAt l (i - 1)).f0 < (pAt l i).f0)
  | [], _, _, i, h => by simp at h
  | p :: r, last, h, i, hi => by
    have hc := okO_cons.mp h
    cases i with
    | zero => exact ⟨hc.1, hc.2.1, fun h => by omega⟩
    | succ i =>
      have ih := of_srt r p.f0 hc.2.2 i (by simpa using hi)
      have h1 : last < (pAt r i).f0 := by omega
      refine ⟨h1, ih.2.1, fun _ => ?_⟩
      cases i with
      | zero => exact ih.1
      | succ i => exact ih.2.2 (by omega)
theorem hasN_at {l : List S55} {n : Int} (h : hasN l n = true) : ∃ k, k < l.length ∧ (xAt l k).f0 = n := by
  unfold hasN at h
  obtain ⟨x, hx, he⟩ := List.any_eq_true.mp h
  obtain ⟨i, hi, hg⟩ := List.getElem_of_mem hx
  refine ⟨i, hi, ?_⟩
  unfold xAt
  rw [List.getD_eq_getElem?_getD, List.getElem?_eq_getElem hi, hg]
  exact beq_iff_eq.mp he
theorem okP1_of (l : List S31) (i : Nat) : okP1 l i = true ↔ 1 ≤ (pAt l i).f0 ∧ (pAt l i).f0 ≤ 1024 ∧ noP (pAt l i) = false ∧ (0 < i → (pAt l (i - 1)).f0 < (pAt l i).f0) ∧ 0 ≤ (pAt l i).f1 ∧ (pAt l i).f3 ≤ (pAt l i).f2 := by
  unfold okP1
  rw [noP_is]
  simp only [Bool.and_eq_true, decide_eq_true_eq, Bool.not_eq_true', Bool.and_eq_false_iff, decide_eq_false_iff_not]
  constructor
  · rintro ⟨a, b, c, d, e, f⟩
    exact ⟨a, b, c, fun h => by omega, by omega, by omega⟩
  · rintro ⟨a, b, c, d, e, f⟩
    refine ⟨a, b, c, ?_, by omega, by omega⟩
    rcases Nat.eq_zero_or_pos i with h | h
    · exact Or.inl (by omega)
    · have := d h
      exact Or.inr (by omega)
theorem good_iff (ps : List S31) (qs : List S55) : goodL ps qs = true ↔ Good ps qs := by
  constructor
  · intro h
    unfold goodL at h
    simp only [Bool.and_eq_true, decide_eq_true_eq, List.all_eq_true, List.mem_range] at h
    obtain ⟨⟨h1, h2⟩, h3, h4, h5⟩ := h
    have hp : ∀ i, i < ps.length → okP1 ps i = true ∧ sumN qs (pAt ps i).f0 = pAt ps i := fun i hi => by
      have := h4 i hi
      unfold okP at this
      rw [Bool.and_eq_true, eqP_iff] at this
      exact this
    have srt : okO 0 ps = true := srt_of ps 0 fun i hi => by
      have := (okP1_of ps i).mp (hp i hi).1
      exact ⟨fun _ => by omega, this.2.1, this.2.2.2.1⟩
    have sum : ∀ n, lookP n ps = sumN qs n := fun n => by
      cases hh : hasP n ps with
      | true =>
        obtain ⟨hm, hn⟩ := hasP_mem hh
        obtain ⟨i, hi, he⟩ := mem_pAt hm
        have := (hp i hi).2
        rw [he, hn] at this
        exact this.symm
      | false =>
        rw [hasP_no hh]
        cases hq : hasN qs n with
        | false => exact (sumN_none qs n hq).symm
        | true =>
          obtain ⟨k, hk, he⟩ := hasN_at hq
          have h6 := h5 k hk
          unfold okR at h6
          rw [he, Bool.or_eq_true, eqP_iff] at h6
          rcases h6 with h6 | h6
          · exfalso
            obtain ⟨p, hm, hn⟩ := List.any_eq_true.mp h6
            rw [hasP_of hm (beq_iff_eq.mp hn)] at hh
            cases hh
          · exact h6.symm
    refine ⟨h2, srt, fun p hm => ?_, fun k hk => (okX_of qs k).mp (h3 k hk), sum, fun n => ?_⟩
    · obtain ⟨i, hi, rfl⟩ := mem_pAt hm
      exact ((okP1_of ps i).mp (hp i hi).1).2.2.1
    · cases hh : hasP n ps with
      | true =>
        obtain ⟨hm, hn⟩ := hasP_mem hh
        obtain ⟨i, hi, he⟩ := mem_pAt hm
        have := (okP1_of ps i).mp (hp i hi).1
        rw [he] at this
        exact this.2.2.2.2
      | false =>
        rw [hasP_no hh]
        exact ⟨Int.le_refl _, Int.le_refl _⟩
  · intro h
    unfold goodL
    simp only [Bool.and_eq_true, decide_eq_true_eq, List.all_eq_true, List.mem_range]
    refine ⟨⟨h.plen, h.len⟩, fun k hk => (okX_of qs k).mpr (h.ok k hk), fun i hi => ?_, fun k hk => ?_⟩
    · have hm := pAt_mem hi
      have hs := of_srt ps 0 h.srt i hi
      have hl := lookP_mem h.srt hm
      have hp := h.pos (pAt ps i).f0
      rw [hl] at hp
      unfold okP
      rw [Bool.and_eq_true, eqP_iff, okP1_of]
      exact ⟨⟨by omega, hs.2.1, h.nz _ hm, hs.2.2, hp.1, hp.2⟩, by rw [← h.sum, hl]⟩
    · unfold okR
      rw [Bool.or_eq_true, eqP_iff]
      cases hh : hasP (xAt qs k).f0 ps with
      | true =>
        obtain ⟨hm, hn⟩ := hasP_mem hh
        exact Or.inl (List.any_eq_true.mpr ⟨_, hm, beq_iff_eq.mpr hn⟩)
      | false => exact Or.inr (by rw [← h.sum, hasP_no hh])
theorem xAt_left {l : List S55} {x : S55} {k : Nat} (h : k < l.length) : xAt (l ++ [x]) k = xAt l k := by
  unfold xAt
  rw [List.getD_eq_getElem?_getD, List.getD_eq_getElem?_getD, List.getElem?_append_left h]
theorem xAt_last (l : List S55) (x : S55) : xAt (l ++ [x]) l.length = x := by
  unfold xAt
  rw [List.getD_eq_getElem?_getD, List.getElem?_append_right (Nat.le_refl _), Nat.sub_self]
  rfl
theorem Good.next {ps : List S31} {qs : List S55} (h : Good ps qs) {x : S55} (hx : OkX x) (hl : qs.length < 16384) (hf : fits (addP (lookP x.f0 ps) x) = true) (h1 : 0 ≤ (addP (lookP x.f0 ps) x).f1) (h2 : (addP (lookP x.f0 ps) x).f3 ≤ (addP (lookP x.f0 ps) x).f2) :
    Good (putP x.f0 (addP (lookP x.f0 ps) x) ps) (qs ++ [x]) := by
  have hq : (addP (lookP x.f0 ps) x).f0 = x.f0 := (addP_f0 _ _).trans (lookP_f0 _ _)
  have hlook := fun n => putP_look hq n ps 0 h.srt
  refine ⟨by simp only [List.length_append, List.length_cons, List.length_nil]; omega, putP_ok hq hx.n2 ps 0 (by have := hx.n1; omega) h.srt, putP_nz ps h.nz, fun k hk => ?_, fun n => ?_, fun n => ?_⟩
  · simp only [List.length_append, List.length_cons, List.length_nil] at hk
    rcases Nat.lt_or_ge k qs.length with hk1 | hk1
    · rw [xAt_left hk1, List.take_append_of_le_length (by omega)]
      exact h.ok k hk1
    · obtain rfl : k = qs.length := by omega
      rw [xAt_last, List.take_of_length_le (by simp), sumN_snoc, if_pos rfl, ← h.sum]
      exact ⟨hx, hf⟩
  · rw [hlook, sumN_snoc]
    by_cases hn : n = x.f0
    · rw [if_pos hn, if_pos hn.symm, hn, ← h.sum]
    · rw [if_neg hn, if_neg (fun he => hn he.symm), h.sum]
  · rw [hlook]
    by_cases hn : n = x.f0
    · rw [if_pos hn]
      exact ⟨h1, h2⟩
    · rw [if_neg hn]
      exact h.pos n
end Go.Proofs.Ytaddmogfeijjcaa.Pure
set_option linter.unusedVariables false
namespace Go.Proofs.Ytaddmogfeijjcaa.Pure
open Go.RowKit Go.Proofs.Ytaddmogfeijjcaa.Print Go.Proofs.YtaddmogfeijjcaaW.PrintWords Go.Proofs.YtaddmogfeijjcaaW.PrintLast Go.Proofs.YtaddmogfeijjcaaW.PrintMore
def postV (ps : List S31) (qs : List S55) (x : S55) : List S31 × List S55 × Int := if 16384 ≤ qs.length then ([], [], 3) else if fits (addP (lookP x.f0 ps) x) = true then (putP x.f0 (addP (lookP x.f0 ps) x) ps, qs ++ [x], 0) else ([], [], 5)
theorem unl_no (c : Int) : unl 0 false c = 0 := if_neg (by simp)
theorem unl_yes (c : Int) : unl 0 true c = c := if_pos ⟨rfl, rfl⟩
theorem unl_keep {y : Int} (h : y ≠ 0) (b : Bool) (c : Int) : unl y b c = y := if_neg (fun h1 => h h1.1)
theorem unl_keep2 {y : Int} (h : y ≠ 0) (b b2 : Bool) (c c2 : Int) : unl (unl y b c) b2 c2 = y := by rw [unl_keep h, unl_keep h]
theorem doneV_no {ps : List S31} {qs : List S55} {y : Int} (h : y ≠ 0) (x : S55) : doneV ps qs y x = ([], [], y) := by
  have e : postE qs y = y := unl_keep h _ _
  have e2 : postWs ps qs y x = y := by unfold postWs; rw [e, if_neg h]
  unfold doneV
  rw [e2, endL_no h, endL_no h]
theorem doneV_is {ps : List S31} {qs : List S55} {last : Int} (hl : ps.length ≤ 4000000000000) (h : okO last ps = true) (x : S55) : doneV ps qs 0 x = postV ps qs x := by
  unfold doneV postV
  by_cases hm : 16384 ≤ qs.length
  · have e : postE qs 0 = 3 := by unfold postE; rw [decide_eq_true (by omega)]; rfl
    have e2 : postWs ps qs 0 x = 3 := by unfold postWs; rw [e]; rfl
    rw [e2, if_pos hm]
    rfl
  · have e : postE qs 0 = 0 := by unfold postE; rw [decide_eq_false (by omega)]; rfl
    have e2 : postWs ps qs 0 x = postW ps x := by unfold postWs; rw [e]; rfl
    have e3 : postPs ps qs 0 x = postL ps x := by unfold postPs; rw [e]; rfl
    have e4 : postQs qs 0 x = qs ++ [x] := by unfold postQs; rw [e]; rfl
    rw [e2, e3, e4, if_neg hm, postL_is x hl h]
    unfold postW
    rw [payOf_is x.f0 hl h]
    cases hf : fits (addP (lookP x.f0 ps) x) with
    | true => rw [if_pos rfl]; rfl
    | false => rw [if_neg (by simp)]; rfl
def authV (ps : List S31) (qs : List S55) (n a : Int) : List S31 × List S55 × Int := if goodL ps qs = true then (if 1 ≤ n ∧ n ≤ 1024 then (if 1 ≤ a ∧ a ≤ 1152921504606846976 then (if 0 < (lookP n ps).f1 then ([], [], 9) else postV ps qs ⟨n, 1, 2, a⟩) else ([], [], 2)) else ([], [], 2)) else ([], [], 9)
def refV (ps : List S31) (qs : List S55) (n a : Int) : List S31 × List S55 × Int := if goodL ps qs = true then (if 1 ≤ n ∧ n ≤ 1024 then (if 1 ≤ a ∧ a ≤ 1152921504606846976 then (if (lookP n ps).f2 - (lookP n ps).f3 < a then ([], [], 13) else postV ps qs ⟨n, 3, 1, a⟩) else ([], [], 2)) else ([], [], 2)) else ([], [], 9)
def setlV (ps : List S31) (qs : List S55) (n to_ : Int) : List S31 × List S55 × Int × Int := if goodL ps qs = true then (if 1 ≤ n ∧ n ≤ 1024 then (if (lookP n ps).f1 = 0 then ([], [], 0, 9) else ((postV ps qs ⟨n, 2, to_, (lookP n ps).f1⟩).1, (postV ps qs ⟨n, 2, to_, (lookP n ps).f1⟩).2.1, (if (postV ps qs ⟨n, 2, to_, (lookP n ps).f1⟩).2.2 = 0 then (lookP n ps).f1 else 0), (postV ps qs ⟨n, 2, to_, (lookP n ps).f1⟩).2.2)) else ([], [], 0, 2)) else ([], [], 0, 9)
def payS (ps : List S31) (qs : List S55) (n : Int) : S31 × Int := if goodL ps qs = true then (if 1 ≤ n ∧ n ≤ 1024 then (lookP n ps, 0) else (z31, 2)) else (z31, 9)
theorem opW_no1 {ps : List S31} {qs : List S55} (h : ¬ goodL ps qs = true) (n : Int) : opW ps qs n = 9 := if_neg h
theorem opW_no2 {ps : List S31} {qs : List S55} (h : goodL ps qs = true) {n : Int} (hn : ¬ (1 ≤ n ∧ n ≤ 1024)) : opW ps qs n = 2 := by unfold opW; rw [if_pos h, if_neg hn]
theorem opW_yes {ps : List S31} {qs : List S55} (h : goodL ps qs = true) {n : Int} (hn : 1 ≤ n ∧ n ≤ 1024) : opW ps qs n = 0 := by unfold opW; rw [if_pos h, if_pos hn]
theorem Good.pl4 {ps : List S31} {qs : List S55} (h : Good ps qs) : ps.length ≤ 4000000000000 := Nat.le_trans h.plen (by decide)
theorem auth_is (ps : List S31) (qs : List S55) (n a : Int) (h1 : ps.length * 32 ≤ 140737488355328) (h2 : qs.length * 24 ≤ 140737488355328) : ledger_Authorise.f ps qs n a = some (authV ps qs n a) := by
  unfold ledger_Authorise.f
  rw [if_pos (by omega)]
  congr 1
  unfold authV authW
  by_cases hg : goodL ps qs = true
  · have G := (good_iff ps qs).mp hg
    rw [if_pos hg]
    by_cases hn : 1 ≤ n ∧ n ≤ 1024
    · rw [if_pos hn, opW_yes hg hn, payOf_is n G.pl4 G.srt]
      by_cases ha : 1 ≤ a ∧ a ≤ 1152921504606846976
      · rw [if_pos ha, decide_eq_true ha.1, decide_eq_true ha.2]
        simp only [Bool.and_self, Bool.not_true]
        rw [unl_no]
        by_cases ho : 0 < (lookP n ps).f1
        · rw [if_pos ho, decide_eq_true ho, unl_yes, doneV_no (by decide)]
        · rw [if_neg ho, decide_eq_false ho, unl_no, doneV_is G.pl4 G.srt]
      · rw [if_neg ha, show (decide (1 ≤ a) && decide (a ≤ 1152921504606846976)) = false by rw [Bool.and_eq_false_iff, decide_eq_false_iff_not, decide_eq_false_iff_not]; omega]
        simp only [Bool.not_false]
        rw [unl_yes, unl_keep (by decide), doneV_no (by decide)]
    · rw [if_neg hn, opW_no2 hg hn, unl_keep2 (by decide), doneV_no (by decide)]
  · rw [if_neg hg, opW_no1 hg, unl_keep2 (by decide), doneV_no (by decide)]
theorem ref_is (ps : List S31) (qs : List S55) (n a : Int) (h1 : ps.length * 32 ≤ 140737488355328) (h2 : qs.length * 24 ≤ 140737488355328) : ledger_Refund.f ps qs n a = some (refV ps qs n a) := by
  unfold ledger_Refund.f
  rw [if_pos (by omega)]
  congr 1
  unfold refV refW
  by_cases hg : goodL ps qs = true
  · have G := (good_iff ps qs).mp hg
    have B := G.bd n
    rw [if_pos hg]
    by_cases hn : 1 ≤ n ∧ n ≤ 1024
    · rw [if_pos hn, opW_yes hg hn, payOf_is n G.pl4 G.srt, w64 (by have := B.2; omega) (by have := B.2; omega)]
      by_cases ha : 1 ≤ a ∧ a ≤ 1152921504606846976
      · rw [if_pos ha, decide_eq_true ha.1, decide_eq_true ha.2]
        simp only [Bool.and_self, Bool.not_true]
        rw [unl_no]
        by_cases ho : (lookP n ps).f2 - (lookP n ps).f3 < a
        · rw [if_pos ho, decide_eq_true ho, unl_yes, doneV_no (by decide)]
        · rw [if_neg ho, decide_eq_false ho, unl_no, doneV_is G.pl4 G.srt]
      · rw [if_neg ha, show (decide (1 ≤ a) && decide (a ≤ 1152921504606846976)) = false by rw [Bool.and_eq_false_iff, decide_eq_false_iff_not, decide_eq_false_iff_not]; omega]
        simp only [Bool.not_false]
        rw [unl_yes, unl_keep (by decide), doneV_no (by decide)]
    · rw [if_neg hn, opW_no2 hg hn, unl_keep2 (by decide), doneV_no (by decide)]
  · rw [if_neg hg, opW_no1 hg, unl_keep2 (by decide), doneV_no (by decide)]
theorem setV_is (ps : List S31) (qs : List S55) (y : Int) (x : S55) : setV ps qs y x = ((doneV ps qs y x).1, (doneV ps qs y x).2.1, (if (doneV ps qs y x).2.2 = 0 then x.f3 else 0), (doneV ps qs y x).2.2) := rfl
theorem settle_is (ps : List S31) (qs : List S55) (n to_ : Int) (h1 : ps.length * 32 ≤ 140737488355328) (h2 : qs.length * 24 ≤ 140737488355328) : ledger_settle.f ps qs n to_ = some (setlV ps qs n to_) := by
  unfold ledger_settle.f
  rw [if_pos (by omega)]
  congr 1
  unfold setlV setW
  rw [setV_is]
  by_cases hg : goodL ps qs = true
  · have G := (good_iff ps qs).mp hg
    rw [if_pos hg]
    by_cases hn : 1 ≤ n ∧ n ≤ 1024
    · rw [if_pos hn, opW_yes hg hn, payOf_is n G.pl4 G.srt]
      by_cases ho : (lookP n ps).f1 = 0
      · rw [if_pos ho, beq_iff_eq.mpr ho, unl_yes, doneV_no (by decide)]
        rfl
      · rw [if_neg ho, beq_eq_false_iff_ne.mpr ho, unl_no, doneV_is G.pl4 G.srt]
    · rw [if_neg hn, opW_no2 hg hn, unl_keep (by decide), doneV_no (by decide)]
      rfl
  · rw [if_neg hg, opW_no1 hg, unl_keep (by decide), doneV_no (by decide)]
    rfl
theorem void_is (ps : List S31) (qs : List S55) (n : Int) (h1 : ps.length * 32 ≤ 140737488355328) (h2 : qs.length * 24 ≤ 140737488355328) : ledger_Void.f ps qs n = some (setlV ps qs n 1) := by
  unfold ledger_Void.f
  rw [settle_is ps qs n 1 h1 h2]
  rfl
theorem capture_is (ps : List S31) (qs : List S55) (n : Int) (h1 : ps.length * 32 ≤ 140737488355328) (h2 : qs.length * 24 ≤ 140737488355328) : ledger_Capture.f ps qs n = some (setlV ps qs n 3) := by
  unfold ledger_Capture.f
  rw [settle_is ps qs n 3 h1 h2]
  rfl
theorem pay_is (ps : List S31) (qs : List S55) (n : Int) (h1 : ps.length * 32 ≤ 140737488355328) (h2 : qs.length * 24 ≤ 140737488355328) : ledger_Pay.f ps qs n = some ((payS ps qs n).1.f0, (payS ps qs n).1.f1, (payS ps qs n).1.f2, (payS ps qs n).1.f3, (payS ps qs n).2) := by
  unfold ledger_Pay.f
  rw [if_pos (by omega)]
  congr 1
  unfold payS payV
  by_cases hg : goodL ps qs = true
  · have G := (good_iff ps qs).mp hg
    rw [if_pos hg]
    by_cases hn : 1 ≤ n ∧ n ≤ 1024
    · rw [if_pos hn, opW_yes hg hn, payOf_is n G.pl4 G.srt, if_pos rfl]
    · rw [if_neg hn, opW_no2 hg hn, if_neg (by decide)]
      rfl
  · rw [if_neg hg, opW_no1 hg, if_neg (by decide)]
    rfl
theorem check_is (ps : List S31) (qs : List S55) : ledger_Check.f ps qs = some (if goodL ps qs = true then 0 else 9) := rfl
structure Next (ps : List S31) (qs : List S55) (x : S55) (q : S31) (c : List S31 × List S55) : Prop where
  was : Good ps qs
  n1 : 1 ≤ x.f0
  n2 : x.f0 ≤ 1024
  room : qs.length < 16384
  qf : q.f0 = x.f0
  pays : c.1 = putP x.f0 q ps
  posts : c.2 = qs ++ [x]
  ok : OkX x
  good : Good c.1 c.2
theorem Next.look {ps : List S31} {qs : List S55} {x : S55} {q : S31} {c : List S31 × List S55} (h : Next ps qs x q c) (n : Int) : lookP n c.1 = if n = x.f0 then q else lookP n ps := by
  rw [h.pays]
  exact putP_look h.qf n ps 0 h.was.srt
theorem Next.len {ps : List S31} {qs : List S55} {x : S55} {q : S31} {c : List S31 × List S55} (h : Next ps qs x q c) : c.2.length = qs.length + 1 := by rw [h.posts]; simp
theorem post_next {ps : List S31} {qs : List S55} (G : Good ps qs) {x : S55} (hx : OkX x) (hl : qs.length < 16384) {q : S31} (hq : addP (lookP x.f0 ps) x = q) (h1 : 0 ≤ q.f1 ∧ q.f1 ≤ 1152921504606846976) (h2 : q.f3 ≤ q.f2) (h3 : q.f2 ≤ 1152921504606846976) :
    (postV ps qs x).2.2 = 0 ∧ Next ps qs x q ((postV ps qs x).1, (postV ps qs x).2.1) := by
  have hf : fits (addP (lookP x.f0 ps) x) = true := by rw [hq, fits_of]; omega
  have hg := G.next hx hl hf (by rw [hq]; omega) (by rw [hq]; omega)
  unfold postV
  rw [if_neg (by omega), if_pos hf]
  rw [hq] at hg ⊢
  exact ⟨rfl, G, hx.n1, hx.n2, hl, by rw [← hq]; exact (addP_f0 _ _).trans (lookP_f0 _ _), rfl, rfl, hx, hg⟩
theorem post_many {ps : List S31} {qs : List S55} (x : S55) (hl : ¬ qs.length < 16384) : postV ps qs x = ([], [], 3) := by
  unfold postV
  rw [if_pos (by omega)]
theorem post_over {ps : List S31} {qs : List S55} {x : S55} (hl : qs.length < 16384) (hf : fits (addP (lookP x.f0 ps) x) = false) : postV ps qs x = ([], [], 5) := by
  unfold postV
  rw [if_neg (by omega), if_neg (by rw [hf]; simp)]
theorem okx {n a : Int} (f t : Int) (hn : 1 ≤ n ∧ n ≤ 1024) (ha : 1 ≤ a ∧ a ≤ 1152921504606846976) (hf : (1 ≤ f ∧ f < 4) ∧ (1 ≤ t ∧ t < 4) ∧ f ≠ t) : OkX ⟨n, f, t, a⟩ := ⟨hn.1, hn.2, ha.1, ha.2, hf.1.1, hf.1.2, hf.2.1.1, hf.2.1.2, hf.2.2⟩
theorem add_auth {p : S31} (hp : Bd p) {n a : Int} (hn : 1 ≤ n ∧ n ≤ 1024) (ha : 1 ≤ a ∧ a ≤ 1152921504606846976) : addP p ⟨n, 1, 2, a⟩ = ⟨p.f0, p.f1 + a, p.f2, p.f3⟩ := by
  rw [addP_is hp (okx 1 2 hn ha (by decide))]
  simp [amt]
theorem add_ref {p : S31} (hp : Bd p) {n a : Int} (hn : 1 ≤ n ∧ n ≤ 1024) (ha : 1 ≤ a ∧ a ≤ 1152921504606846976) : addP p ⟨n, 3, 1, a⟩ = ⟨p.f0, p.f1, p.f2, p.f3 + a⟩ := by
  rw [addP_is hp (okx 3 1 hn ha (by decide))]
  simp [amt]
theorem add_void {p : S31} (hp : Bd p) {n a : Int} (hn : 1 ≤ n ∧ n ≤ 1024) (ha : 1 ≤ a ∧ a ≤ 1152921504606846976) : addP p ⟨n, 2, 1, a⟩ = ⟨p.f0, p.f1 - a, p.f2, p.f3⟩ := by
  rw [addP_is hp (okx 2 1 hn ha (by decide))]
  simp [amt]
theorem add_capt {p : S31} (hp : Bd p) {n a : Int} (hn : 1 ≤ n ∧ n ≤ 1024) (ha : 1 ≤ a ∧ a ≤ 1152921504606846976) : addP p ⟨n, 2, 3, a⟩ = ⟨p.f0, p.f1 - a, p.f2 + a, p.f3⟩ := by
  rw [addP_is hp (okx 2 3 hn ha (by decide))]
  simp [amt]
theorem auth_ways (ps : List S31) (qs : List S55) (n a : Int) : ((authV ps qs n a).2.2 ≠ 0 ∧ (authV ps qs n a).1 = [] ∧ (authV ps qs n a).2.1 = []) ∨ ((authV ps qs n a).2.2 = 0 ∧ (1 ≤ n ∧ n ≤ 1024) ∧ (1 ≤ a ∧ a ≤ 1152921504606846976) ∧ (lookP n ps).f1 = 0 ∧ Next ps qs ⟨n, 1, 2, a⟩ ⟨n, a, (lookP n ps).f2, (lookP n ps).f3⟩ ((authV ps qs n a).1, (authV ps qs n a).2.1)) := by
  unfold authV
  split
  · rename_i hg
    have G := (good_iff ps qs).mp hg
    split
    · rename_i hn
      split
      · rename_i ha
        split
        · exact Or.inl ⟨by decide, rfl, rfl⟩
        · rename_i ho
          have ho : (lookP n ps).f1 = 0 := by have := (G.pos n).1; omega
          by_cases hl : qs.length < 16384
          · have B := G.bd n
            have P := (G.pos n).2
            have hq := add_auth B hn ha
            rw [lookP_f0, ho, Int.zero_add] at hq
            have := post_next G (okx 1 2 hn ha (by decide)) hl hq ⟨by simp only; omega, by simp only; omega⟩ P B.2.1.2
            exact Or.inr ⟨this.1, hn, ha, ho, this.2⟩
          · rw [post_many _ hl]
            exact Or.inl ⟨by decide, rfl, rfl⟩
      · exact Or.inl ⟨by decide, rfl, rfl⟩
    · exact Or.inl ⟨by decide, rfl, rfl⟩
  · exact Or.inl ⟨by decide, rfl, rfl⟩
theorem ref_ways (ps : List S31) (qs : List S55) (n a : Int) : ((refV ps qs n a).2.2 ≠ 0 ∧ (refV ps qs n a).1 = [] ∧ (refV ps qs n a).2.1 = []) ∨ ((refV ps qs n a).2.2 = 0 ∧ (1 ≤ n ∧ n ≤ 1024) ∧ (1 ≤ a ∧ a ≤ 1152921504606846976) ∧ a ≤ (lookP n ps).f2 - (lookP n ps).f3 ∧ Next ps qs ⟨n, 3, 1, a⟩ ⟨n, (lookP n ps).f1, (lookP n ps).f2, (lookP n ps).f3 + a⟩ ((refV ps qs n a).1, (refV ps qs n a).2.1)) := by
  unfold refV
  split
  · rename_i hg
    have G := (good_iff ps qs).mp hg
    split
    · rename_i hn
      split
      · rename_i ha
        split
        · exact Or.inl ⟨by decide, rfl, rfl⟩
        · rename_i ho
          by_cases hl : qs.length < 16384
          · have B := G.bd n
            have P := (G.pos n).1
            have hq := add_ref B hn ha
            rw [lookP_f0] at hq
            have := post_next G (okx 3 1 hn ha (by decide)) hl hq ⟨P, B.1.2⟩ (by simp only; omega) B.2.1.2
            exact Or.inr ⟨this.1, hn, ha, by omega, this.2⟩
          · rw [post_many _ hl]
            exact Or.inl ⟨by decide, rfl, rfl⟩
      · exact Or.inl ⟨by decide, rfl, rfl⟩
    · exact Or.inl ⟨by decide, rfl, rfl⟩
  · exact Or.inl ⟨by decide, rfl, rfl⟩
theorem set_yes {ps : List S31} {qs : List S55} {n : Int} (to_ : Int) (G : Good ps qs) (hn : 1 ≤ n ∧ n ≤ 1024) (ho : (lookP n ps).f1 ≠ 0) : setlV ps qs n to_ = ((postV ps qs ⟨n, 2, to_, (lookP n ps).f1⟩).1, (postV ps qs ⟨n, 2, to_, (lookP n ps).f1⟩).2.1, (if (postV ps qs ⟨n, 2, to_, (lookP n ps).f1⟩).2.2 = 0 then (lookP n ps).f1 else 0), (postV ps qs ⟨n, 2, to_, (lookP n ps).f1⟩).2.2) := by
  unfold setlV
  rw [if_pos ((good_iff _ _).mpr G), if_pos hn, if_neg ho]
theorem set_none {ps : List S31} {qs : List S55} {n : Int} (to_ : Int) (G : Good ps qs) (hn : 1 ≤ n ∧ n ≤ 1024) (ho : (lookP n ps).f1 = 0) : setlV ps qs n to_ = ([], [], 0, 9) := by
  unfold setlV
  rw [if_pos ((good_iff _ _).mpr G), if_pos hn, if_pos ho]
theorem void_ways {ps : List S31} {qs : List S55} {n : Int} (G : Good ps qs) (hn : 1 ≤ n ∧ n ≤ 1024) (ho : (lookP n ps).f1 ≠ 0) : (¬ qs.length < 16384 ∧ setlV ps qs n 1 = ([], [], 0, 3)) ∨ ((setlV ps qs n 1).2.2 = ((lookP n ps).f1, 0) ∧ Next ps qs ⟨n, 2, 1, (lookP n ps).f1⟩ ⟨n, 0, (lookP n ps).f2, (lookP n ps).f3⟩ ((setlV ps qs n 1).1, (setlV ps qs n 1).2.1)) := by
  rw [set_yes 1 G hn ho]
  by_cases hl : qs.length < 16384
  · have B := G.bd n
    have P := G.pos n
    have ha : 1 ≤ (lookP n ps).f1 ∧ (lookP n ps).f1 ≤ 1152921504606846976 := by have := B.1; omega
    have hq := add_void B hn ha
    rw [lookP_f0, Int.sub_self] at hq
    have := post_next G (okx 2 1 hn ha (by decide)) hl hq ⟨by simp, by simp⟩ P.2 B.2.1.2
    refine Or.inr ⟨?_, this.2⟩
    rw [this.1]
    rfl
  · rw [post_many _ hl]
    exact Or.inl ⟨hl, rfl⟩
theorem capt_ways {ps : List S31} {qs : List S55} {n : Int} (G : Good ps qs) (hn : 1 ≤ n ∧ n ≤ 1024) (ho : (lookP n ps).f1 ≠ 0) : (¬ qs.length < 16384 ∧ setlV ps qs n 3 = ([], [], 0, 3)) ∨ (setlV ps qs n 3 = ([], [], 0, 5)) ∨ ((setlV ps qs n 3).2.2 = ((lookP n ps).f1, 0) ∧ Next ps qs ⟨n, 2, 3, (lookP n ps).f1⟩ ⟨n, 0, (lookP n ps).f2 + (lookP n ps).f1, (lookP n ps).f3⟩ ((setlV ps qs n 3).1, (setlV ps qs n 3).2.1)) := by
  rw [set_yes 3 G hn ho]
  by_cases hl : qs.length < 16384
  · have B := G.bd n
    have P := G.pos n
    have ha : 1 ≤ (lookP n ps).f1 ∧ (lookP n ps).f1 ≤ 1152921504606846976 := by have := B.1; omega
    have hq := add_capt B hn ha
    rw [lookP_f0, Int.sub_self] at hq
    by_cases ht : (lookP n ps).f2 + (lookP n ps).f1 ≤ 1152921504606846976
    · have := post_next G (okx 2 3 hn ha (by decide)) hl hq ⟨by simp, by simp⟩ (by have := P.2; simp only; omega) ht
      refine Or.inr (Or.inr ⟨?_, this.2⟩)
      rw [this.1]
      rfl
    · rw [post_over hl]
      · exact Or.inr (Or.inl rfl)
      · rw [show (⟨n, 2, 3, (lookP n ps).f1⟩ : S55).f0 = n from rfl, hq, Bool.eq_false_iff]
        intro hf
        have := (fits_of _).mp hf
        simp only at this
        omega
  · rw [post_many _ hl]
    exact Or.inl ⟨hl, rfl⟩
theorem set_bad {ps : List S31} {qs : List S55} {n : Int} (to_ : Int) (h : ¬ (goodL ps qs = true ∧ 1 ≤ n ∧ n ≤ 1024)) : ∃ e, e ≠ 0 ∧ setlV ps qs n to_ = ([], [], 0, e) := by
  unfold setlV
  by_cases hg : goodL ps qs = true
  · rw [if_pos hg, if_neg (fun hn => h ⟨hg, hn⟩)]
    exact ⟨2, by decide, rfl⟩
  · rw [if_neg hg]
    exact ⟨9, by decide, rfl⟩
end Go.Proofs.Ytaddmogfeijjcaa.Pure
set_option linter.unusedVariables false
namespace Go.Proofs.Ytaddmogfeijjcaa.Pure
open Go.RowKit Go.Proofs.Ytaddmogfeijjcaa.Print Go.Proofs.YtaddmogfeijjcaaW.PrintWords Go.Proofs.YtaddmogfeijjcaaW.PrintLast Go.Proofs.YtaddmogfeijjcaaW.PrintMore
theorem i64_and31 (n : Int) : Go.bits .and .i64 n 2147483647 = n % 2147483648 := by
  have h127 : (BitVec.ofInt 64 2147483647).toNat = 2 ^ 31 - 1 := by decide
  have key : (BitVec.ofInt 64 n &&& BitVec.ofInt 64 2147483647).toNat = (n % ((2 ^ 64 : Nat) : Int)).toNat % 2 ^ 31 := by
    rw [BitVec.toNat_and, BitVec.toNat_ofInt, h127, Nat.and_two_pow_sub_one_eq_mod]
  show IntKind.i64.wrap ((BitVec.ofInt 64 n &&& BitVec.ofInt 64 2147483647).toNat : Nat) = n % 2147483648
  rw [key, IntKind.wrap_i64]
  omega
def sgn (a : Int) (x : S55) : Int := if a = x.f2 then x.f3 else if a = x.f1 then -x.f3 else 0
def balQ (a : Int) : List S55 → Int
  | [] => 0
  | x :: r => sgn a x + balQ a r
def balV (t : Int) : Int × Int := if -9223372036854775808 ≤ t ∧ t ≤ 9223372036854775807 then (t, 0) else (0, 5)
theorem add_small {a b : Int} (h0 : -9223372036854775808 ≤ a) (hb : 0 ≤ b) (h1 : a + b ≤ 9223372036854775807) : money_Add.f a b = some (a + b, 0) := by
  unfold money_Add.f
  rw [w64 (by omega) h1]
  split
  · rename_i h
    have hb' : decide (b < 0) = false := decide_eq_false (by omega)
    rw [hb', beq_iff_eq, decide_eq_false_iff_not] at h
    rw [if_neg]
    rw [decide_eq_false (show ¬ a + b < 0 by omega), decide_eq_false h]
    simp
  · rfl
theorem sgn_lt {a : Int} {x : S55} (hx : OkX x) : -1152921504606846976 ≤ sgn a x ∧ sgn a x ≤ 1152921504606846976 := by
  have := hx.a1; have := hx.a2
  unfold sgn
  split
  · omega
  · split <;> omega
theorem drop_xAt (l : List S55) (i : Nat) (h : i < l.length) : l.drop i = xAt l i :: l.drop (i + 1) := by
  rw [List.drop_eq_getElem_cons h]
  unfold xAt
  rw [List.getD_eq_getElem?_getD, List.getElem?_eq_getElem h]
  rfl
theorem bal_end (hi lo : Int) (h1 : -9223372036854775808 ≤ hi + lo / 2147483648 ∧ hi + lo / 2147483648 ≤ 9223372036854775807) :
    ((money_Mul.f (wrap64 (hi + (lo / 2147483648))) 2147483648).bind fun bt112 => (if bt112.2 = 0 then ((money_Add.f bt112.1 (Go.bits .and .i64 lo 2147483647)).bind fun bt114 => (some (bt114.1, bt114.2))) else (some (0, 5)))) = some (balV (hi * 2147483648 + lo)) := by
  rw [w64 h1.1 h1.2]
  unfold money_Mul.f balV
  rw [if_pos ⟨h1, by omega⟩, i64_and31]
  have hd : hi * 2147483648 + lo = (hi + lo / 2147483648) * 2147483648 + lo % 2147483648 := by omega
  rw [hd]
  have hm : 0 ≤ lo % 2147483648 ∧ lo % 2147483648 < 2147483648 := by omega
  generalize hi + lo / 2147483648 = m at h1
  generalize lo % 2147483648 = r at hm
  by_cases hf : -9223372036854775808 ≤ m * 2147483648 ∧ m * 2147483648 ≤ 9223372036854775807
  · rw [if_pos hf, some_bind, if_pos rfl, add_small hf.1 hm.1 (by omega), some_bind, if_pos (by omega)]
  · rw [if_neg hf, some_bind, if_neg (by decide), if_neg (by omega)]
theorem bal_l0 (qs : List S55) (hq : ∀ k, k < qs.length → OkX (xAt qs k)) (hl : qs.length ≤ 16384) (a : Int) : ∀ (d k i : Nat) (hi lo : Int), i + d = qs.length → d < k → (-((i : Int) * 536870912) ≤ hi ∧ hi ≤ (i : Int) * 536870912) → (0 ≤ lo ∧ lo ≤ (i : Int) * 2147483648) →
    ledger_Balance.l0 k a hi lo qs (qs.length : Int) (i : Int) = some (balV (hi * 2147483648 + lo + balQ a (qs.drop i))) := by
  intro d
  induction d with
  | zero =>
    intro k i hi lo hd hk hh hlo
    obtain ⟨k, rfl⟩ : ∃ j, k = j + 1 := ⟨k - 1, by omega⟩
    rw [ledger_Balance.l0, if_neg (by omega), bal_end hi lo (by omega), List.drop_of_length_le (by omega)]
    unfold balQ
    rw [Int.add_zero]
  | succ d IH =>
    intro k i hi lo hd hk hh hlo
    obtain ⟨k, rfl⟩ : ∃ j, k = j + 1 := ⟨k - 1, by omega⟩
    have hx := hq i (by omega)
    have hs := sgn_lt (a := a) hx
    have ih := fun hi' lo' h1 h2 => IH k (i + 1) hi' lo' (by omega) (by omega) h1 h2
    have hgo : ∀ n, n = sgn a (xAt qs i) → ledger_Balance.l0 k a (wrap64 (hi + n / 2147483648)) (wrap64 (lo + Go.bits .and .i64 n 2147483647)) qs (qs.length : Int) (wrap64 ((i : Int) + 1)) = some (balV (hi * 2147483648 + lo + balQ a (qs.drop i))) := fun n hn => by
      rw [← hn] at hs
      have hdiv : -536870912 ≤ n / 2147483648 ∧ n / 2147483648 ≤ 536870912 := by omega
      have hmod : 0 ≤ n % 2147483648 ∧ n % 2147483648 < 2147483648 := by omega
      have e := Int.mul_ediv_add_emod n 2147483648
      rw [i64_and31, w64n i (by omega), w64 (by omega) (by omega), w64 (by omega) (by omega)]
      rw [ih _ _ (by omega) (by omega), drop_xAt qs i (by omega), balQ, ← hn]
      congr 2
      omega
    rw [ledger_Balance.l0, if_pos (by omega), if_pos (by omega), if_pos (by omega), rd_xAt]
    have ha := hx.a2
    have ha1 := hx.a1
    split
    · rename_i h1
      exact hgo _ (by unfold sgn; rw [if_pos h1])
    · rename_i h1
      split
      · rename_i h2
        rw [w64 (x := -(xAt qs i).f3) (by omega) (by omega)]
        exact hgo _ (by unfold sgn; rw [if_neg h1, if_pos h2])
      · rename_i h2
        exact hgo 0 (by unfold sgn; rw [if_neg h1, if_neg h2])
def balS (ps : List S31) (qs : List S55) (a : Int) : Int × Int := if goodL ps qs = true then (if 1 ≤ a ∧ a < 4 then balV (balQ a qs) else (0, 2)) else (0, 9)
theorem account_is (a : Int) : ledger_account.f a = some (decide (1 ≤ a ∧ a < 4)) := by
  unfold ledger_account.f
  split
  · rename_i h
    congr 1
    exact decide_eq_decide.mpr ⟨fun h1 => ⟨h, h1⟩, fun h1 => h1.2⟩
  · rename_i h
    rw [decide_eq_false (fun h1 => h h1.1)]
theorem bal_is (ps : List S31) (qs : List S55) (a : Int) {k : Nat} (hk : 16384 < k) : ledger_Balance.f k ps qs a = some (balS ps qs a) := by
  unfold ledger_Balance.f balS
  rw [check_is, some_bind]
  by_cases hg : goodL ps qs = true
  · have G := (good_iff ps qs).mp hg
    rw [if_pos hg, if_pos rfl, if_pos hg, account_is, some_bind]
    by_cases ha : 1 ≤ a ∧ a < 4
    · rw [if_pos (decide_eq_true ha), if_pos ha]
      have := bal_l0 qs (fun k hk => (G.ok k hk).1) G.len a qs.length k 0 0 0 (by omega) (by have := G.len; omega) (by omega) (by omega)
      rw [List.drop_zero, Int.zero_mul, Int.add_zero, Int.zero_add] at this
      exact this
    · rw [if_neg (by rw [decide_eq_false ha]; simp), if_neg ha]
  · rw [if_neg hg, if_neg (by decide), if_neg hg]
theorem Good.posts {ps : List S31} {qs : List S55} (h : Good ps qs) : ∀ x ∈ qs, OkX x := fun x hx => by
  obtain ⟨i, hi, he⟩ := List.getElem_of_mem hx
  have := (h.ok i hi).1
  unfold xAt at this
  rw [List.getD_eq_getElem?_getD, List.getElem?_eq_getElem hi, Option.getD_some, he] at this
  exact this
theorem lives_is : ladinglaw14_lives.f = some true := rfl
end Go.Proofs.Ytaddmogfeijjcaa.Pure
set_option linter.unusedVariables false
namespace Go.Proofs.Ytaddmogfeijjcaa.Pure
open Go.RowKit Go.Proofs.Ytaddmogfeijjcaa.Print Go.Proofs.YtaddmogfeijjcaaW.PrintWords Go.Proofs.YtaddmogfeijjcaaW.PrintLast Go.Proofs.YtaddmogfeijjcaaW.PrintMore
theorem ofP_is (n : Int) : ∀ ps : List S31, ofP ps n = lookP n ps
  | [] => rfl
  | p :: r => by
    have ih := ofP_is n r
    unfold ofP at ih ⊢
    rw [List.find?_cons]
    by_cases h : p.f0 = n
    · rw [beq_iff_eq.mpr h, lookP, if_pos h]
      rfl
    · rw [beq_eq_false_iff_ne.mpr h, lookP, if_neg h]
      exact ih
theorem fitsN_iff (l : List S55) (n : Int) : fitsN l n = true ↔ ∀ k, k < l.length → (xAt l k).f0 = n → fits (sumN (l.take (k + 1)) n) = true := by
  unfold fitsN
  simp only [List.all_eq_true, List.mem_range, Bool.or_eq_true, Bool.not_eq_true', beq_eq_false_iff_ne, ne_eq]
  constructor
  · intro h k hk he
    rcases h k hk with h | h
    · exact absurd he h
    · exact h
  · intro h k hk
    by_cases he : (xAt l k).f0 = n
    · exact Or.inr (h k hk he)
    · exact Or.inl he
theorem okQ1_of (l : List S31) (i : Nat) : okQ1 l i = true ↔ (1 ≤ (pAt l i).f0 ∧ (pAt l i).f0 ≤ 1024) ∧ noP (pAt l i) = false ∧ (0 < i → (pAt l (i - 1)).f0 < (pAt l i).f0) ∧ 0 ≤ (pAt l i).f1 ∧ (pAt l i).f1 ≤ 1152921504606846976 ∧ 0 ≤ (pAt l i).f2 ∧ (pAt l i).f2 ≤ 1152921504606846976 ∧ 0 ≤ (pAt l i).f3 ∧ (pAt l i).f3 ≤ (pAt l i).f2 := by
  unfold okQ1
  rw [show ((pAt l i).f1 == 0 && ((pAt l i).f2 == 0 && (pAt l i).f3 == 0)) = noP (pAt l i) from rfl]
  simp only [Bool.and_eq_true, decide_eq_true_eq, Bool.not_eq_true', Bool.and_eq_false_iff, decide_eq_false_iff_not]
  constructor
  · rintro ⟨a, b, c, d, e, f, g, h, i⟩
    exact ⟨a, b, fun h => by omega, by omega, by omega, by omega, by omega, by omega, by omega⟩
  · rintro ⟨a, b, c, d, e, f, g, h, j⟩
    refine ⟨a, b, ?_, by omega, by omega, by omega, by omega, by omega, by omega⟩
    rcases Nat.eq_zero_or_pos i with h | h
    · exact Or.inl (by omega)
    · have := c h
      exact Or.inr (by omega)
theorem goodR_iff (ps : List S31) (qs : List S55) : goodR ps qs = true ↔ Good ps qs := by
  constructor
  · intro h
    unfold goodR at h
    simp only [Bool.and_eq_true, decide_eq_true_eq, List.all_eq_true, List.mem_range] at h
    obtain ⟨⟨h1, h2⟩, h3, h4, h5⟩ := h
    have hp : ∀ i, i < ps.length → okQ1 ps i = true ∧ sumN qs (pAt ps i).f0 = pAt ps i := fun i hi => by
      have := h3 i hi
      unfold okQ at this
      rw [Bool.and_eq_true, Bool.and_eq_true, eqP_iff] at this
      exact ⟨this.1, this.2.2⟩
    have hs : ∀ k, k < qs.length → fitsN qs (xAt qs k).f0 = true ∧ sumN qs (xAt qs k).f0 = lookP (xAt qs k).f0 ps := fun k hk => by
      have := h5 k hk
      unfold okS at this
      rw [Bool.and_eq_true, eqP_iff, ofP_is] at this
      exact this
    have srt : okO 0 ps = true := srt_of ps 0 fun i hi => by
      have := (okQ1_of ps i).mp (hp i hi).1
      exact ⟨fun _ => by omega, this.1.2, this.2.2.1⟩
    have sum : ∀ n, lookP n ps = sumN qs n := fun n => by
      cases hh : hasP n ps with
      | true =>
        obtain ⟨hm, hn⟩ := hasP_mem hh
        obtain ⟨i, hi, he⟩ := mem_pAt hm
        have := (hp i hi).2
        rw [he, hn] at this
        exact this.symm
      | false =>
        cases hq : hasN qs n with
        | false => rw [hasP_no hh]; exact (sumN_none qs n hq).symm
        | true =>
          obtain ⟨k, hk, he⟩ := hasN_at hq
          have := (hs k hk).2
          rw [he] at this
          exact this.symm
    refine ⟨h2, srt, fun p hm => ?_, fun k hk => ⟨(postOk_of _).mp (h4 k hk), (fitsN_iff _ _).mp (hs k hk).1 k hk rfl⟩, sum, fun n => ?_⟩
    · obtain ⟨i, hi, rfl⟩ := mem_pAt hm
      exact ((okQ1_of ps i).mp (hp i hi).1).2.1
    · cases hh : hasP n ps with
      | true =>
        obtain ⟨hm, hn⟩ := hasP_mem hh
        obtain ⟨i, hi, he⟩ := mem_pAt hm
        have := (okQ1_of ps i).mp (hp i hi).1
        rw [he] at this
        exact ⟨this.2.2.2.1, this.2.2.2.2.2.2.2.2⟩
      | false =>
        rw [hasP_no hh]
        exact ⟨Int.le_refl _, Int.le_refl _⟩
  · intro h
    have hf : ∀ n, fitsN qs n = true := fun n => (fitsN_iff _ _).mpr fun k hk he => by
      have := (h.ok k hk).2
      rwa [he] at this
    unfold goodR
    simp only [Bool.and_eq_true, decide_eq_true_eq, List.all_eq_true, List.mem_range]
    refine ⟨⟨h.plen, h.len⟩, fun i hi => ?_, fun k hk => (postOk_of _).mpr (h.ok k hk).1, fun k hk => ?_⟩
    · have hm := pAt_mem hi
      have hs := of_srt ps 0 h.srt i hi
      have hl := lookP_mem h.srt hm
      have hp := h.pos (pAt ps i).f0
      have hb := h.bd (pAt ps i).f0
      rw [hl] at hp hb
      unfold Bd at hb
      unfold okQ
      rw [Bool.and_eq_true, Bool.and_eq_true, eqP_iff, okQ1_of]
      exact ⟨⟨⟨by omega, hs.2.1⟩, h.nz _ hm, hs.2.2, by omega, by omega, by omega, by omega, by omega, by omega⟩, hf _, by rw [← h.sum, hl]⟩
    · unfold okS
      rw [Bool.and_eq_true, eqP_iff, ofP_is]
      exact ⟨hf _, (h.sum _).symm⟩
theorem goodR_is (ps : List S31) (qs : List S55) : goodR ps qs = goodL ps qs := by
  rw [Bool.eq_iff_iff, goodR_iff, good_iff]
theorem withA_done (p : S31) (n : Int) : ∀ (l : List S31) (last : Int), okO last l = true → n ≤ last → withA p n l true = l
  | [], _, _, _ => rfl
  | y :: ys, last, h, hn => by
    have hc := okO_cons.mp h
    rw [withA, if_neg (by simp), if_neg (by omega), Bool.true_or, withA_done p n ys y.f0 hc.2.2 (by omega)]
    rfl
theorem withA_is (p : S31) (n : Int) : ∀ (l : List S31) (last : Int), okO last l = true → withA p n l (noneP p) = putP n p l
  | [], _, _ => rfl
  | y :: ys, last, h => by
    have hc := okO_cons.mp h
    have ih := withA_is p n ys y.f0 hc.2.2
    have hN : noneP p = noP p := rfl
    rw [withA, putP]
    by_cases h1 : y.f0 < n
    · rw [if_neg (by omega), if_neg (by omega), decide_eq_false (by omega), Bool.or_false, if_pos h1, ih]
      rfl
    · rw [if_neg h1, decide_eq_true (by omega), Bool.or_true]
      by_cases h2 : y.f0 = n
      · rw [if_pos h2, if_pos h2, withA_done p n ys y.f0 hc.2.2 (by omega), hN]
        cases noP p
        · rw [if_pos ⟨rfl, by omega⟩, if_neg (by simp)]
          rfl
        · rw [if_neg (by simp), if_pos rfl]
          rfl
      · rw [if_neg h2, if_neg h2, withA_done p n ys y.f0 hc.2.2 (by omega), hN]
        cases noP p
        · rw [if_pos ⟨rfl, by omega⟩, if_neg (by simp)]
          rfl
        · rw [if_neg (by simp), if_pos rfl]
          rfl
theorem with_is {ps : List S31} {qs : List S55} (G : Good ps qs) {x : S55} (hx : OkX x) : ladingref14_with.f ps qs x.f0 x.f1 x.f2 x.f3 = some (postV ps qs x) := by
  unfold ladingref14_with.f postV
  rw [if_pos (by have := G.plen; omega)]
  congr 1
  by_cases hm : 16384 ≤ qs.length
  · rw [if_pos hm, if_pos hm]
  · rw [if_neg hm, if_neg hm]
    have hS : sumN (qs ++ [x]) x.f0 = addP (lookP x.f0 ps) x := by rw [sumN_snoc, if_pos rfl, G.sum]
    have hF : fitsN (qs ++ [x]) x.f0 = fits (addP (lookP x.f0 ps) x) := by
      rw [Bool.eq_iff_iff, fitsN_iff]
      constructor
      · intro h
        have := h qs.length (by simp) (by rw [xAt_last])
        rwa [List.take_of_length_le (by simp), hS] at this
      · intro h k hk he
        simp only [List.length_append, List.length_cons, List.length_nil] at hk
        rcases Nat.lt_or_ge k qs.length with hk1 | hk1
        · rw [xAt_left hk1] at he
          rw [List.take_append_of_le_length (by omega)]
          have := (G.ok k hk1).2
          rwa [he] at this
        · obtain rfl : k = qs.length := by omega
          rw [List.take_of_length_le (by simp), hS]
          exact h
    have hW : withA (addP (lookP x.f0 ps) x) x.f0 ps (noneP (addP (lookP x.f0 ps) x)) = putP x.f0 (addP (lookP x.f0 ps) x) ps := withA_is _ _ ps 0 G.srt
    show (if fitsN (qs ++ [x]) x.f0 = true then (withA (sumN (qs ++ [x]) x.f0) x.f0 ps (noneP (sumN (qs ++ [x]) x.f0)), qs ++ [x], (0 : Int)) else ([], [], 5)) = _
    rw [hF, hS, hW]
theorem rcheck_is (ps : List S31) (qs : List S55) : ladingref14_Check.f ps qs = some (if goodL ps qs = true then 0 else 9) := by
  unfold ladingref14_Check.f
  rw [goodR_is]
theorem rwrong_is (ps : List S31) (qs : List S55) (n : Int) : ladingref14_wrong.f ps qs n = some (opW ps qs n) := by
  unfold ladingref14_wrong.f opW
  rw [rcheck_is, some_bind]
  by_cases hg : goodL ps qs = true
  · rw [if_pos hg, if_pos rfl, if_pos hg]
    unfold ladingref14_known.f
    by_cases h : n ≥ 1
    · rw [if_pos h, some_bind]
      by_cases h2 : n ≤ 1024
      · rw [if_pos (decide_eq_true h2), if_pos ⟨h, h2⟩]
      · rw [if_neg (by rw [decide_eq_false h2]; simp), if_neg (fun h => h2 h.2)]
    · rw [if_neg h, some_bind, if_neg (by simp), if_neg (fun h1 => h h1.1)]
  · rw [if_neg hg, if_neg (by decide), if_neg hg]
theorem rof_is (ps : List S31) (qs : List S55) (n : Int) (hl : ps.length * 32 ≤ 140737488355328) {k : Nat} (hk : ps.length < k) : ladingref14_Of.f k ps qs n = some ((lookP n ps).f0, (lookP n ps).f1, (lookP n ps).f2, (lookP n ps).f3) := by
  rw [of_is ps qs n k (by omega) hk, ofP_is]
theorem rauth_is (ps : List S31) (qs : List S55) (n a : Int) (hl : ps.length * 32 ≤ 140737488355328) {k : Nat} (hk : ps.length < k) : ladingref14_Authorise.f (k + 1) ps qs n a = some (authV ps qs n a) := by
  unfold ladingref14_Authorise.f authV
  rw [rwrong_is, some_bind]
  by_cases hg : goodL ps qs = true
  · have G := (good_iff ps qs).mp hg
    rw [if_pos hg]
    by_cases hn : 1 ≤ n ∧ n ≤ 1024
    · rw [if_pos hn, opW_yes hg hn, if_pos rfl]
      by_cases h1 : a < 1
      · rw [if_pos h1, ladingref14_Authorise.j0, if_pos rfl, if_neg (by omega)]
      · rw [if_neg h1]
        by_cases h2 : a > 1152921504606846976
        · rw [decide_eq_true h2, ladingref14_Authorise.j0, if_pos rfl, if_neg (by omega)]
        · have ha : 1 ≤ a ∧ a ≤ 1152921504606846976 := by omega
          rw [decide_eq_false h2, ladingref14_Authorise.j0, if_neg (by simp), if_pos ha, rof_is ps qs n hl hk, some_bind]
          by_cases ho : 0 < (lookP n ps).f1
          · rw [if_pos ho, if_pos ho]
          · have := with_is G (okx 1 2 hn ha (by decide))
            simp only at this
            rw [if_neg ho, if_neg ho, this]
            rfl
    · rw [if_neg hn, opW_no2 hg hn, if_neg (by decide)]
  · rw [if_neg hg, opW_no1 hg, if_neg (by decide)]
theorem rref_is (ps : List S31) (qs : List S55) (n a : Int) (hl : ps.length * 32 ≤ 140737488355328) {k : Nat} (hk : ps.length < k + 1) : ladingref14_Refund.f (k + 1) ps qs n a = some (refV ps qs n a) := by
  unfold ladingref14_Refund.f refV
  rw [rwrong_is, some_bind, rof_is ps qs n hl hk, some_bind]
  by_cases hg : goodL ps qs = true
  · have G := (good_iff ps qs).mp hg
    have B := G.bd n
    rw [if_pos hg]
    by_cases hn : 1 ≤ n ∧ n ≤ 1024
    · rw [if_pos hn, opW_yes hg hn, if_pos rfl]
      by_cases h1 : a < 1
      · rw [if_pos h1, ladingref14_Refund.j0, if_pos rfl, if_neg (by omega)]
      · rw [if_neg h1]
        by_cases h2 : a > 1152921504606846976
        · rw [decide_eq_true h2, ladingref14_Refund.j0, if_pos rfl, if_neg (by omega)]
        · have ha : 1 ≤ a ∧ a ≤ 1152921504606846976 := by omega
          rw [decide_eq_false h2, ladingref14_Refund.j0, if_neg (by simp), if_pos ha]
          simp only
          rw [w64 (by have := B.2; omega) (by have := B.2; omega)]
          by_cases ho : (lookP n ps).f2 - (lookP n ps).f3 < a
          · rw [if_pos ho, if_pos ho]
          · have := with_is G (okx 3 1 hn ha (by decide))
            simp only at this
            rw [if_neg ho, if_neg ho, this]
            rfl
    · rw [if_neg hn, opW_no2 hg hn, if_neg (by decide)]
  · rw [if_neg hg, opW_no1 hg, if_neg (by decide)]
theorem rset_is (ps : List S31) (qs : List S55) (n t : Int) (ht : t = 1 ∨ t = 3) (hl : ps.length * 32 ≤ 140737488355328) {k : Nat} (hk : ps.length < k + 2) : ladingref14_settle.f (k + 2) ps qs n t = some (setlV ps qs n t) := by
  unfold ladingref14_settle.f
  rw [rwrong_is, some_bind, rof_is ps qs n hl hk, some_bind]
  by_cases hg : goodL ps qs = true
  · have G := (good_iff ps qs).mp hg
    by_cases hn : 1 ≤ n ∧ n ≤ 1024
    · rw [opW_yes hg hn, if_pos rfl]
      simp only
      by_cases ho : (lookP n ps).f1 = 0
      · rw [set_none t G hn ho, beq_iff_eq.mpr ho, ladingref14_settle.j0, if_pos rfl, ladingref14_settle.j1, if_neg (by decide)]
      · have B := (G.bd n).1
        have P := (G.pos n).1
        have hw := with_is G (x := ⟨n, 2, t, (lookP n ps).f1⟩) (okx 2 t hn (by omega) (by omega))
        simp only at hw
        rw [set_yes t G hn ho, beq_eq_false_iff_ne.mpr ho, ladingref14_settle.j0, if_neg (by simp), ladingref14_settle.j1, if_pos rfl, hw, some_bind]
        by_cases he : (postV ps qs ⟨n, 2, t, (lookP n ps).f1⟩).2.2 = 0
        · rw [if_pos he, if_pos he, he]
        · rw [if_neg he, if_neg he]
          unfold postV at he ⊢
          split
          · rfl
          · rename_i h1
            rw [if_neg h1] at he
            split
            · rename_i h2
              rw [if_pos h2] at he
              exact absurd rfl he
            · rfl
    · unfold setlV
      rw [opW_no2 hg hn, if_neg (by decide), if_pos hg, if_neg hn, ladingref14_settle.j0, if_neg (by simp), ladingref14_settle.j1, if_neg (by decide)]
  · unfold setlV
    rw [opW_no1 hg, if_neg (by decide), if_neg hg, ladingref14_settle.j0, if_neg (by simp), ladingref14_settle.j1, if_neg (by decide)]
theorem rvoid_is (ps : List S31) (qs : List S55) (n : Int) (hl : ps.length * 32 ≤ 140737488355328) {k : Nat} (hk : ps.length < k + 2) : ladingref14_Void.f (k + 2) ps qs n = some (setlV ps qs n 1) := by
  unfold ladingref14_Void.f
  rw [rset_is ps qs n 1 (Or.inl rfl) hl hk]
  rfl
theorem rcapture_is (ps : List S31) (qs : List S55) (n : Int) (hl : ps.length * 32 ≤ 140737488355328) {k : Nat} (hk : ps.length < k + 2) : ladingref14_Capture.f (k + 2) ps qs n = some (setlV ps qs n 3) := by
  unfold ladingref14_Capture.f
  rw [rset_is ps qs n 3 (Or.inr rfl) hl hk]
  rfl
theorem rpay_is (ps : List S31) (qs : List S55) (n : Int) (hl : ps.length * 32 ≤ 140737488355328) {k : Nat} (hk : ps.length < k) : ladingref14_Pay.f k ps qs n = some ((payS ps qs n).1.f0, (payS ps qs n).1.f1, (payS ps qs n).1.f2, (payS ps qs n).1.f3, (payS ps qs n).2) := by
  unfold ladingref14_Pay.f payS
  rw [rwrong_is, some_bind]
  by_cases hg : goodL ps qs = true
  · rw [if_pos hg]
    by_cases hn : 1 ≤ n ∧ n ≤ 1024
    · rw [if_pos hn, opW_yes hg hn, if_pos rfl, rof_is ps qs n hl hk, some_bind]
    · rw [if_neg hn, opW_no2 hg hn, if_neg (by decide)]
      rfl
  · rw [if_neg hg, opW_no1 hg, if_neg (by decide)]
    rfl
theorem raccount_is (a : Int) : ladingref14_account.f a = some (decide (1 ≤ a ∧ a < 4)) := by
  unfold ladingref14_account.f
  split
  · rename_i h
    congr 1
    exact decide_eq_decide.mpr ⟨fun h1 => ⟨h, by omega⟩, fun h1 => by omega⟩
  · rename_i h
    rw [decide_eq_false (fun h1 => h h1.1)]
theorem sum2_is (h l : Int) (h1 : -2147483648 ≤ h ∧ h ≤ 2147483647) (h2 : 0 ≤ l ∧ l < 4294967296) (k : Nat) : ladingref01_Sum.f (k + 3) [h * 4294967296, l] = some (h * 4294967296 + l, 0) := by
  unfold ladingref01_Sum.f ladingref01_all.f
  rw [if_neg (by simp)]
  have r0 : rd [h * 4294967296, l] 0 = h * 4294967296 := rfl
  have r1 : rd [h * 4294967296, l] 1 = l := rfl
  have w0 : ∀ x : Int, wrap64 (0 + x) = wrap64 x := fun x => by rw [Int.zero_add]
  have e : ladingref01_all.l0 (k + 3) 0 0 [h * 4294967296, l] ((([h * 4294967296, l] : List Int).length : Nat) : Int) 0 = some (h * 4294967296 + l, true) := by
    simp only [List.length_cons, List.length_nil]
    rw [ladingref01_all.l0, if_pos (by decide), if_pos (by decide), if_pos (by simp), r0, w0, w0]
    rw [show h * 4294967296 / 4294967296 = h by omega]
    rw [w64 (x := h) (by omega) (by omega), w64 (x := h * 4294967296) (by omega) (by omega), Int.sub_self, show wrap64 0 = 0 by unfold wrap64; omega, show wrap64 0 = 0 by unfold wrap64; omega, show wrap64 (0 + 1) = 1 by unfold wrap64; omega]
    rw [ladingref01_all.l0, if_pos (by decide), if_pos (by decide), if_pos (by simp), r1, w0]
    rw [show l / 4294967296 = 0 by omega, show wrap64 (0 * 4294967296) = 0 by unfold wrap64; omega, Int.sub_zero, w64 (x := l) (by omega) (by omega), Int.add_zero, w64 (x := h) (by omega) (by omega), w64 (x := l) (by omega) (by omega), show wrap64 (1 + 1) = 2 by unfold wrap64; omega]
    rw [ladingref01_all.l0, if_neg (by simp), show l / 4294967296 = 0 by omega, Int.add_zero, w64 (x := h) (by omega) (by omega), if_neg (by omega), if_neg (by omega)]
    rw [w64 (x := h * 4294967296) (by omega) (by omega), show wrap64 (0 * 4294967296) = 0 by unfold wrap64; omega, Int.sub_zero, w64 (x := l) (by omega) (by omega), w64 (by omega) (by omega)]
  rw [e]
  rfl
theorem rbal_end (k : Nat) (hi lo : Int) (h1 : -4611686018427387904 ≤ hi ∧ hi ≤ 4611686018427387904) (h2 : 0 ≤ lo ∧ lo ≤ 9000000000000000000) :
    (if (wrap64 (hi + (lo / 4294967296))) > 2147483647 then (some ((0 : Int), (5 : Int))) else (if (wrap64 (hi + (lo / 4294967296))) < (-2147483648) then (some (0, 5)) else ((some (([wrap64 ((wrap64 (hi + (lo / 4294967296))) * 4294967296), wrap64 (lo - (wrap64 ((lo / 4294967296) * 4294967296)))] : List Int) : List Int)).bind fun y318 => (if ([] : List Int).length + y318.length < 17592186044416 then ((ladingref01_Sum.f (k + 3) (([] : List Int) ++ y318)).bind fun bt324 => (some (bt324.1, bt324.2))) else (none))))) = some (balV (hi * 4294967296 + lo)) := by
  rw [w64 (x := hi + lo / 4294967296) (by omega) (by omega)]
  unfold balV
  by_cases g1 : hi + lo / 4294967296 > 2147483647
  · rw [if_pos g1, if_neg (by omega)]
  · rw [if_neg g1]
    by_cases g2 : hi + lo / 4294967296 < -2147483648
    · rw [if_pos g2, if_neg (by omega)]
    · rw [if_neg g2, some_bind, if_pos (by simp), List.nil_append, w64 (x := lo / 4294967296 * 4294967296) (by omega) (by omega), w64 (x := lo - lo / 4294967296 * 4294967296) (by omega) (by omega), w64 (by omega) (by omega), sum2_is _ _ (by omega) (by omega) k, some_bind, if_pos (by omega)]
      congr 2
      omega
theorem rbal_l0 (qs : List S55) (hq : ∀ k, k < qs.length → OkX (xAt qs k)) (hl : qs.length ≤ 16384) (a : Int) : ∀ (d k i : Nat) (hi lo : Int), i + d = qs.length → d + 4 < k → (-((i : Int) * 268435456) ≤ hi ∧ hi ≤ (i : Int) * 268435456) → (0 ≤ lo ∧ lo ≤ (i : Int) * 4294967296) →
    ladingref14_Balance.l0 k a hi lo qs (qs.length : Int) (i : Int) = some (balV (hi * 4294967296 + lo + balQ a (qs.drop i))) := by
  intro d
  induction d with
  | zero =>
    intro k i hi lo hd hk hh hlo
    obtain ⟨k, rfl⟩ : ∃ j, k = j + 4 := ⟨k - 4, by omega⟩
    rw [ladingref14_Balance.l0, if_neg (by omega), rbal_end k hi lo (by omega) (by omega), List.drop_of_length_le (by omega)]
    unfold balQ
    rw [Int.add_zero]
  | succ d IH =>
    intro k i hi lo hd hk hh hlo
    obtain ⟨k, rfl⟩ : ∃ j, k = j + 1 := ⟨k - 1, by omega⟩
    have hx := hq i (by omega)
    have hs := sgn_lt (a := a) hx
    have ih := fun hi' lo' h1 h2 => IH k (i + 1) hi' lo' (by omega) (by omega) h1 h2
    have hgo : ∀ n, n = sgn a (xAt qs i) → ladingref14_Balance.l0 k a (wrap64 (hi + n / 4294967296)) (wrap64 (lo + wrap64 (n - wrap64 (n / 4294967296 * 4294967296)))) qs (qs.length : Int) (wrap64 ((i : Int) + 1)) = some (balV (hi * 4294967296 + lo + balQ a (qs.drop i))) := fun n hn => by
      rw [← hn] at hs
      have hdiv : -268435456 ≤ n / 4294967296 ∧ n / 4294967296 ≤ 268435456 := by omega
      have hmod : 0 ≤ n % 4294967296 ∧ n % 4294967296 < 4294967296 := by omega
      have e : n - n / 4294967296 * 4294967296 = n % 4294967296 := by omega
      rw [w64 (x := n / 4294967296 * 4294967296) (by omega) (by omega), e, w64n i (by omega), w64 (x := n % 4294967296) (by omega) (by omega), w64 (by omega) (by omega), w64 (by omega) (by omega)]
      rw [ih _ _ (by omega) (by omega), drop_xAt qs i (by omega), balQ, ← hn]
      congr 2
      omega
    rw [ladingref14_Balance.l0, if_pos (by omega), if_pos (by omega), if_pos (by omega), rd_xAt]
    have ha := hx.a2
    have ha1 := hx.a1
    have hne := hx.ne
    split
    · rename_i h1
      rw [if_neg (by omega)]
      exact hgo _ (by unfold sgn; rw [if_pos h1.symm])
    · rename_i h1
      split
      · rename_i h2
        rw [w64 (x := -(xAt qs i).f3) (by omega) (by omega)]
        exact hgo _ (by unfold sgn; rw [if_neg (fun h => h1 h.symm), if_pos h2.symm])
      · rename_i h2
        have h3 := hgo 0 (by unfold sgn; rw [if_neg (fun h => h1 h.symm), if_neg (fun h => h2 h.symm)])
        rw [show wrap64 (0 - wrap64 (0 / 4294967296 * 4294967296)) = -(0 / 4294967296 * 4294967296) by unfold wrap64; omega] at h3
        exact h3
theorem rbal_is (ps : List S31) (qs : List S55) (a : Int) {k : Nat} (hk : 16400 < k) : ladingref14_Balance.f k ps qs a = some (balS ps qs a) := by
  obtain ⟨k, rfl⟩ : ∃ j, k = j + 2 := ⟨k - 2, by omega⟩
  unfold ladingref14_Balance.f balS
  rw [rcheck_is, some_bind]
  by_cases hg : goodL ps qs = true
  · have G := (good_iff ps qs).mp hg
    rw [if_pos hg, if_pos rfl, if_pos hg, raccount_is, some_bind]
    by_cases ha : 1 ≤ a ∧ a < 4
    · rw [decide_eq_true ha, if_pos ha, ladingref14_Balance.j0, if_neg (by decide), ladingref14_Balance.j1, if_pos rfl]
      have := rbal_l0 qs (fun k hk => (G.ok k hk).1) G.len a qs.length k 0 0 0 (by omega) (by have := G.len; omega) (by omega) (by omega)
      rw [List.drop_zero, Int.zero_mul, Int.add_zero, Int.zero_add] at this
      exact this
    · rw [decide_eq_false ha, if_neg ha, ladingref14_Balance.j0, if_pos (by decide), ladingref14_Balance.j1, if_neg (by decide)]
  · rw [if_neg hg, if_neg (by decide), if_neg hg, ladingref14_Balance.j0, if_neg (by simp), ladingref14_Balance.j1, if_neg (by decide)]
theorem rcopy_is (ps : List S31) (qs : List S55) (h1 : ps.length * 32 ≤ 140737488351232) (h2 : qs.length * 24 ≤ 140737488351232) : ladingref14_Copy.f ps qs = some (ps, qs) := by
  unfold ladingref14_Copy.f
  rw [some_bind, if_pos (by simp only [List.length_nil]; omega), some_bind, if_pos (by simp only [List.length_nil]; omega)]
  rfl
theorem same_is (ps : List S31) (qs : List S55) (h1 : ps.length < 9223372036854775807) (h2 : qs.length < 9223372036854775807) {k : Nat} (hk : ps.length + qs.length + 8 < k) : ladingref14_Same.f k ps qs ps qs = some true := by
  unfold ladingref14_Same.f
  rw [if_pos rfl]
  have hl1 : ∀ (d k i : Nat), i + d = qs.length → d < k → ladingref14_Same.l1 k (qs.length : Int) (i : Int) ps qs ps qs = some true := by
    intro d
    induction d with
    | zero =>
      intro k i hd hk
      obtain ⟨k, rfl⟩ : ∃ j, k = j + 1 := ⟨k - 1, by omega⟩
      rw [ladingref14_Same.l1, if_neg (by omega)]
    | succ d IH =>
      intro k i hd hk
      obtain ⟨k, rfl⟩ : ∃ j, k = j + 1 := ⟨k - 1, by omega⟩
      rw [ladingref14_Same.l1, if_pos (by omega), if_pos (by omega), if_pos (by omega), if_pos (by omega), if_neg (by simp), w64n i (by omega)]
      exact IH k (i + 1) (by omega) (by omega)
  have hl0 : ∀ (d k i : Nat), i + d = ps.length → d + qs.length + 2 < k → ladingref14_Same.l0 k (ps.length : Int) (i : Int) ps qs ps qs = some true := by
    intro d
    induction d with
    | zero =>
      intro k i hd hk
      obtain ⟨k, rfl⟩ : ∃ j, k = j + 1 := ⟨k - 1, by omega⟩
      rw [ladingref14_Same.l0, if_neg (by omega)]
      exact hl1 qs.length k 0 (by omega) (by omega)
    | succ d IH =>
      intro k i hd hk
      obtain ⟨k, rfl⟩ : ∃ j, k = j + 1 := ⟨k - 1, by omega⟩
      rw [ladingref14_Same.l0, if_pos (by omega), if_pos (by omega), if_pos (by omega), if_pos (by omega), if_neg (by simp), w64n i (by omega)]
      exact IH k (i + 1) (by omega) (by omega)
  obtain ⟨k, rfl⟩ : ∃ j, k = j + 1 := ⟨k - 1, by omega⟩
  rw [ladingref14_Same.j0, if_neg (by simp)]
  exact hl0 ps.length k 0 (by omega) (by omega)
end Go.Proofs.Ytaddmogfeijjcaa.Pure
