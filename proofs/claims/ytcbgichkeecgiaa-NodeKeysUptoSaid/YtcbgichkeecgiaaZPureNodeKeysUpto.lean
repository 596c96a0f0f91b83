-- A claim's text with what it uses alone (wip/slim.py, over what the kit's print and this session's tools wrote). Not trusted: Lean checks it.
import Derived.Test.YtcbgichkeecgiaaZPrint28
import Derived.Test.YtcbgichkeecgiaaZAll
set_option linter.unusedVariables false
namespace Go.Proofs.Ytcbgichkeecgiaa.Pure
open Go.RowKit Go.Proofs.Ytcbgichkeecgiaa.Print Go.Proofs.YtcbgichkeecgiaaW.PrintWords
theorem bd_of {b : Bool} {ks vs : List (List Int)} {ds : List Int} (h : (True ∧ (ks.length ≤ 1048576 ∧ ∀ y5 ∈ ks, (y5.length ≤ 1048576 ∧ ∀ y2 ∈ y5, (Lit.int .u8 y2).wf = true)) ∧ (vs.length ≤ 1048576 ∧ ∀ y5 ∈ vs, (y5.length ≤ 1048576 ∧ ∀ y2 ∈ y5, (Lit.int .u8 y2).wf = true)) ∧ (ds.length ≤ 1048576 ∧ ∀ y5 ∈ ds, (Lit.int .i64 y5).wf = true))) : Bd ks vs ds :=
  ⟨h.2.1.1, h.2.2.1.1, h.2.2.2.1, fun x hx => ⟨(h.2.1.2 x hx).1, bytesL_wf (h.2.1.2 x hx).2⟩, fun x hx => ⟨(h.2.2.1.2 x hx).1, bytesL_wf (h.2.2.1.2 x hx).2⟩⟩
theorem putP_lens {b : Bool} {ks vs : List (List Int)} {ds key val : List Int} (h : Bd ks vs ds) :
    (putP b ks vs ds key val).2.1.length ≤ 1048577 ∧ (putP b ks vs ds key val).2.2.1.length ≤ 1048577 ∧ (putP b ks vs ds key val).2.2.2.1.length ≤ 1048577 := by
  have := h.kl
  have := h.vl
  have := h.dl
  have hr : (putR ks vs key val).1.length ≤ 1048577 ∧ (putR ks vs key val).2.length ≤ 1048577 := by
    unfold putR
    split
    · exact ⟨by show ks.length ≤ _; omega, by rw [List.length_set]; omega⟩
    · exact ⟨by rw [len_insL]; omega, by rw [len_insL]; omega⟩
  unfold putP no5
  split
  · split
    · split
      · simp
      · split
        · simp
        · exact ⟨hr.1, hr.2, by simp only; omega⟩
    · simp
  · simp
theorem cutP_lens {b : Bool} {ks vs : List (List Int)} {ds key : List Int} (h : Bd ks vs ds) :
    (cutP b ks vs ds key).2.1.length ≤ 1048577 ∧ (cutP b ks vs ds key).2.2.1.length ≤ 1048577 ∧ (cutP b ks vs ds key).2.2.2.1.length ≤ 1048577 := by
  have := h.kl
  have := h.vl
  have := h.dl
  have h1 : (ks.eraseIdx (bel key ks)).length ≤ ks.length := (List.eraseIdx_sublist ks _).length_le
  have h2 : (vs.eraseIdx (bel key ks)).length ≤ vs.length := (List.eraseIdx_sublist vs _).length_le
  unfold cutP
  split
  · split
    · split
      · exact ⟨by simp only; omega, by simp only; omega, by simp only; omega⟩
      · exact ⟨by simp only; omega, by simp only; omega, by simp only; omega⟩
    · simp
  · simp
theorem NodeKeysUpto : ∀ (a0 : S26) (l1 : List Int) (l2 : List Int), (True ∧ (a0.f1.length ≤ 1048576 ∧ ∀ y5 ∈ a0.f1, (y5.length ≤ 1048576 ∧ ∀ y2 ∈ y5, (Lit.int .u8 y2).wf = true)) ∧ (a0.f2.length ≤ 1048576 ∧ ∀ y5 ∈ a0.f2, (y5.length ≤ 1048576 ∧ ∀ y2 ∈ y5, (Lit.int .u8 y2).wf = true)) ∧ (a0.f3.length ≤ 1048576 ∧ ∀ y5 ∈ a0.f3, (Lit.int .i64 y5).wf = true)) → (l1.length ≤ 1048576 ∧ ∀ y2 ∈ l1, (Lit.int .u8 y2).wf = true) → (l2.length ≤ 1048576 ∧ ∀ y2 ∈ l2, (Lit.int .u8 y2).wf = true) → ∃ k, ladinglaw06_NodeKeys.f k a0.f0 a0.f1 a0.f2 a0.f3 l1 l2 = some true := by
  rintro ⟨b, ks, vs, ds⟩ key val h hk hv
  have hp : Bd ks vs ds := bd_of (b := b) h
  clear h
  have bk := bytesL_wf hk.2
  have bv := bytesL_wf hv.2
  have := hp.kl
  have := hp.vl
  have := hp.dl
  obtain ⟨q, hq⟩ : ∃ q, 4000000 ≤ q := ⟨4000000, Nat.le_refl _⟩
  refine ⟨q + 2, ?_⟩
  have hP := putP_lens (b := b) (key := key) (val := val) hp
  have hC := cutP_lens (b := b) (key := key) hp
  have e1 := same_self (k := q + 2) (putP b ks vs ds key val).1 (putP b ks vs ds key val).2.1 (putP b ks vs ds key val).2.2.1 (putP b ks vs ds key val).2.2.2.1 (by omega) (by omega) (by omega) (by omega)
  have e2 := same_self (k := q + 2) (cutP b ks vs ds key).1 (cutP b ks vs ds key).2.1 (cutP b ks vs ds key).2.2.1 (cutP b ks vs ds key).2.2.2.1 (by omega) (by omega) (by omega) (by omega)
  have e3 := same_self (k := q + 2) b ks vs ds (by omega) (by omega) (by omega) (by omega)
  unfold ladinglaw06_NodeKeys.f ladinglaw06_lives.f
  rw [hp.copy b (by omega), Option.bind_some]
  rw [find_is hp b key bk (by omega), Option.bind_some, rfind_is hp b key bk (by omega), Option.bind_some]
  rw [put_is hp b key val bk bv hk.1 hv.1 (by omega), Option.bind_some, rput_is hp b key val bk bv hk.1 hv.1 (by omega), Option.bind_some]
  rw [cut_is hp b key bk (by omega), Option.bind_some, rcut_is hp b key bk hq, Option.bind_some, Option.bind_some, if_pos rfl, if_pos rfl, if_pos (by simp), if_pos rfl]
  rw [e1, Option.bind_some, if_pos rfl, if_pos rfl, e2, Option.bind_some, if_pos rfl, if_pos (by simp), if_pos rfl, e3]
  rfl
end Go.Proofs.Ytcbgichkeecgiaa.Pure
