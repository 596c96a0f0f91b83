/- Plain: what is put stands where it is put; what is cut stands no more. -/
import Derived.Test.YtcbgichkeecgiaaZNodeLinkC
set_option linter.unusedVariables false
namespace Go.Proofs.Ytcbgichkeecgiaa.Pure
open Go.RowKit Go.Proofs.Ytcbgichkeecgiaa.Print Go.Proofs.YtcbgichkeecgiaaW.PrintWords Go.Proofs.YtcbgichkeecgiaaW.PrintLast Go.Proofs.YtcbgichkeecgiaaW.PrintMore
theorem wd_mono : ∀ (m n : Nat), n ≤ m → wd n ≤ wd m := by
  intro m
  induction m using Nat.strongRecOn with
  | _ m ih =>
    intro n h
    by_cases h1 : n ≤ 127
    · rw [wd_small h1]; exact wd_pos m
    · rw [wd_big h1, wd_big (n := m) (by omega)]
      have := ih (m / 128) (by omega) (n / 128) (by omega)
      omega
theorem rise_inj {l : List (List Int)} (h : Rise l) {i j : Nat} (hi : i < l.length) (hj : j < l.length) (e : l[i] = l[j]) : i = j := by
  rcases Nat.lt_trichotomy i j with hl | he | hl
  · have := List.pairwise_iff_getElem.1 h i j hi hj hl
    rw [e] at this
    exact absurd this (cmpL_irr _)
  · exact he
  · have := List.pairwise_iff_getElem.1 h j i hj hi hl
    rw [e] at this
    exact absurd this (cmpL_irr _)
theorem erase_insL : ∀ (l : List (List Int)) (n : Nat) (x : List Int), n ≤ l.length → (insL l n x).eraseIdx n = l
  | l, 0, x, _ => by simp [insL]
  | [], n + 1, x, h => by simp at h
  | a :: r, n + 1, x, h => by
    have e : insL (a :: r) (n + 1) x = a :: insL r n x := rfl
    rw [e, List.eraseIdx_cons_succ, erase_insL r n x (by simpa using h)]
theorem get_insL : ∀ (l : List (List Int)) (n : Nat) (x : List Int), n ≤ l.length → (insL l n x)[n]? = some x
  | l, 0, x, _ => by simp [insL]
  | [], n + 1, x, h => by simp at h
  | a :: r, n + 1, x, h => by
    have e : insL (a :: r) (n + 1) x = a :: insL r n x := rfl
    rw [e, List.getElem?_cons_succ, get_insL r n x (by simpa using h)]
theorem erase_set : ∀ (l : List (List Int)) (n : Nat) (x : List Int), (l.set n x).eraseIdx n = l.eraseIdx n
  | [], n, x => by simp
  | a :: r, 0, x => by simp
  | a :: r, n + 1, x => by
    rw [List.set_cons_succ, List.eraseIdx_cons_succ, List.eraseIdx_cons_succ, erase_set r n x]
theorem rdL_some {l : List (List Int)} {i : Nat} {x : List Int} (h : l[i]? = some x) : rd_L1 l (i : Int) = x := by
  unfold rd_L1
  rw [Int.toNat_natCast, List.getD_eq_getElem?_getD, h]; rfl
theorem rise_insL {ks : List (List Int)} {key : List Int} (h : Rise ks) (hm : key ∉ ks) : Rise (insL ks (bel key ks) key) := by
  have hle := bel_le key ks
  have h1 : ∀ x ∈ ks.take (bel key ks), cmpL x key < 0 := fun x hx => by
    obtain ⟨i, hi, e⟩ := List.getElem_of_mem hx
    rw [List.length_take] at hi
    rw [← e, List.getElem_take]
    exact (bel_spec key ks h i (by omega)).2 (by omega)
  have h2 : ∀ x ∈ ks.drop (bel key ks), cmpL key x < 0 := fun x hx => by
    obtain ⟨i, hi, e⟩ := List.getElem_of_mem hx
    rw [List.length_drop] at hi
    have hn : ¬ cmpL ks[bel key ks + i] key < 0 := fun hc => by
      have := (bel_spec key ks h (bel key ks + i) (by omega)).1 hc
      omega
    rw [List.getElem_drop] at e
    rw [← e]
    refine Decidable.byContradiction fun hc => hm ?_
    rw [← cmpL_tri _ _ hn hc]
    exact List.getElem_mem _
  unfold insL Rise
  rw [List.append_assoc, List.pairwise_append]
  refine ⟨List.Pairwise.sublist (List.take_sublist _ _) h, ?_, fun x hx y hy => ?_⟩
  · rw [List.singleton_append, List.pairwise_cons]
    exact ⟨h2, List.Pairwise.sublist (List.drop_sublist _ _) h⟩
  · rw [List.singleton_append] at hy
    rcases List.mem_cons.1 hy with rfl | hy
    · exact h1 x hx
    · exact cmpL_trans x key y (h1 x hx) (h2 y hy)
theorem rise_erase {ks : List (List Int)} (h : Rise ks) (n : Nat) : Rise (ks.eraseIdx n) := List.Pairwise.sublist (List.eraseIdx_sublist _ _) h
theorem sumL_erase : ∀ (l : List (List Int)) (n : Nat), sumL (l.eraseIdx n) ≤ sumL l
  | [], n => by simp
  | a :: r, 0 => by rw [List.eraseIdx_cons_zero, sumL_cons]; omega
  | a :: r, n + 1 => by rw [List.eraseIdx_cons_succ, sumL_cons, sumL_cons]; have := sumL_erase r n; omega
theorem good_erase {ks vs : List (List Int)} {ds : List Int} (h : Good true ks vs ds) (n : Nat) (hn : n < ks.length) : Good true (ks.eraseIdx n) (vs.eraseIdx n) ds := by
  obtain ⟨hv, rfl⟩ := h.leaf
  have hk : ∀ x ∈ ks.eraseIdx n, x.length ≤ 256 := fun x hx => h.klen x (List.mem_of_mem_eraseIdx hx)
  have hv2 : ∀ x ∈ vs.eraseIdx n, x.length ≤ 512 := fun x hx => h.vlen x (List.mem_of_mem_eraseIdx hx)
  have hl1 := List.length_eraseIdx_of_lt hn
  have hl2 := List.length_eraseIdx_of_lt (show n < vs.length by omega)
  have hl : (vs.eraseIdx n).length = (ks.eraseIdx n).length := by rw [hl1, hl2, hv]
  have ho := leaf_ok (rise_erase h.rise n) hk hv2 hl
  refine ⟨ho, ?_, rise_erase h.rise n, hk, hv2, ?_⟩
  · have h1 := h.small
    have h2 := sumL_erase ks n
    have h3 := sumL_erase vs n
    have h4 := wd_mono ks.length (ks.eraseIdx n).length (by omega)
    unfold Pure.sz at h1 ⊢
    omega
  · unfold okP at ho
    simp only [Bool.and_eq_true] at ho
    exact ho.2.2.2
theorem bd_erase {ks vs : List (List Int)} {ds : List Int} (h : Bd ks vs ds) (n : Nat) : Bd (ks.eraseIdx n) (vs.eraseIdx n) ds := by
  have h1 : (ks.eraseIdx n).length ≤ ks.length := (List.eraseIdx_sublist ks n).length_le
  have h2 : (vs.eraseIdx n).length ≤ vs.length := (List.eraseIdx_sublist vs n).length_le
  have := h.kl
  have := h.vl
  exact ⟨by omega, by omega, h.dl, fun x hx => h.kb x (List.mem_of_mem_eraseIdx hx), fun x hx => h.vb x (List.mem_of_mem_eraseIdx hx)⟩
theorem put_good {ks vs : List (List Int)} {ds : List Int} (h : Good true ks vs ds) (key val : List Int) (hk : key.length ≤ 256) (hv : val.length ≤ 512) (hs : sz (putR ks vs key val).1 (putR ks vs key val).2 ds ≤ 4096) :
    Good true (putR ks vs key val).1 (putR ks vs key val).2 ds ∧ key ∈ (putR ks vs key val).1 ∧ bel key (putR ks vs key val).1 = bel key ks ∧ (putR ks vs key val).2[bel key ks]? = some val := by
  obtain ⟨hvk, rfl⟩ := h.leaf
  have hle := bel_le key ks
  unfold putR at hs ⊢
  by_cases hm : key ∈ ks
  · rw [if_pos hm] at hs ⊢
    obtain ⟨hb, _⟩ := bel_mem h.rise hm
    have hv2 : ∀ x ∈ vs.set (bel key ks) val, x.length ≤ 512 := fun x hx => by
      rcases List.mem_or_eq_of_mem_set hx with hx | rfl
      · exact h.vlen x hx
      · exact hv
    have ho := leaf_ok h.rise h.klen hv2 (by rw [List.length_set]; exact hvk)
    refine ⟨⟨ho, hs, h.rise, h.klen, hv2, ?_⟩, hm, rfl, ?_⟩
    · unfold okP at ho
      simp only [Bool.and_eq_true] at ho
      exact ho.2.2.2
    · exact List.getElem?_set_self (by omega)
  · rw [if_neg hm] at hs ⊢
    have hr := rise_insL h.rise hm
    have hk2 : ∀ x ∈ insL ks (bel key ks) key, x.length ≤ 256 := fun x hx => by
      rcases mem_insL.1 hx with rfl | hx
      · exact hk
      · exact h.klen x hx
    have hv2 : ∀ x ∈ insL vs (bel key ks) val, x.length ≤ 512 := fun x hx => by
      rcases mem_insL.1 hx with rfl | hx
      · exact hv
      · exact h.vlen x hx
    have ho := leaf_ok hr hk2 hv2 (by rw [len_insL, len_insL, hvk])
    have hin : key ∈ insL ks (bel key ks) key := mem_insL.2 (.inl rfl)
    refine ⟨⟨ho, hs, hr, hk2, hv2, ?_⟩, hin, ?_, get_insL vs _ _ (by omega)⟩
    · unfold okP at ho
      simp only [Bool.and_eq_true] at ho
      exact ho.2.2.2
    · obtain ⟨hb, e⟩ := bel_mem hr hin
      have hb2 : bel key ks < (insL ks (bel key ks) key).length := by rw [len_insL]; omega
      refine rise_inj hr hb hb2 (e.trans ?_)
      have := get_insL ks (bel key ks) key hle
      rw [List.getElem?_eq_getElem hb2] at this
      exact (Option.some.inj this).symm
theorem mem_erase {ks : List (List Int)} {key other : List Int} (h : Rise ks) (hm : key ∈ ks) : other ∈ ks.eraseIdx (bel key ks) ↔ other ≠ key ∧ other ∈ ks := by
  obtain ⟨hb, e⟩ := bel_mem h hm
  rw [List.mem_eraseIdx_iff_getElem]
  constructor
  · rintro ⟨i, hi, hne, rfl⟩
    exact ⟨fun e2 => hne (rise_inj h hi hb (e2.trans e.symm)), List.getElem_mem hi⟩
  · rintro ⟨hne, ho⟩
    obtain ⟨i, hi, e2⟩ := List.getElem_of_mem ho
    exact ⟨i, hi, fun e3 => hne (by subst e3; exact e2.symm.trans e), e2⟩
theorem get_erase {ks vs : List (List Int)} {key other : List Int} (h : Rise ks) (hm : key ∈ ks) (hl : vs.length = ks.length) (ho : other ∈ ks.eraseIdx (bel key ks)) :
    ∃ x, vs[bel other ks]? = some x ∧ (vs.eraseIdx (bel key ks))[bel other (ks.eraseIdx (bel key ks))]? = some x := by
  obtain ⟨hne, hoi⟩ := (mem_erase h hm).1 ho
  obtain ⟨hi, ei⟩ := bel_mem h hoi
  obtain ⟨hj, ej⟩ := bel_mem (rise_erase h _) ho
  obtain ⟨hb, _⟩ := bel_mem h hm
  refine ⟨vs[bel other ks]'(by omega), List.getElem?_eq_getElem _, ?_⟩
  have hl1 := List.length_eraseIdx_of_lt hb
  rw [List.getElem_eraseIdx] at ej
  rw [List.getElem?_eraseIdx]
  by_cases hc : bel other (ks.eraseIdx (bel key ks)) < bel key ks
  · rw [dif_pos hc] at ej
    have := rise_inj h _ hi (ej.trans ei.symm)
    rw [if_pos hc, this, List.getElem?_eq_getElem (by omega)]
  · rw [dif_neg hc] at ej
    have := rise_inj h _ hi (ej.trans ei.symm)
    rw [if_neg hc, this, List.getElem?_eq_getElem (by omega)]
end Go.Proofs.Ytcbgichkeecgiaa.Pure
