/- Plain: more of what parts are written as. -/
import Derived.Test.YtfpdipnaefomiaaDoorCodecOrd
set_option linter.unusedVariables false
namespace Go.Proofs.YtfpdipnaefomiaaDoor.Pure
open Go.RowKit Go.Proofs.YtfpdipnaefomiaaDoor.Print Go.Proofs.YtfpdipnaefomiaaDoorW.PrintWords Go.Proofs.YtfpdipnaefomiaaDoorW.PrintLast Go.Proofs.YtfpdipnaefomiaaDoorW.PrintMore

theorem key_cases (l : List S60) : (∃ c : Int, c ≠ 0 ∧ keyOf l = ([], c)) ∨ (l.length ≤ 16 ∧ (∀ p ∈ l, good p) ∧ (l.flatMap partBytes).length ≤ 256 ∧ keyOf l = (l.flatMap partBytes, 0)) := by
  rw [keyOf_is]
  by_cases h1 : l.length > 16
  · rw [if_pos h1]; exact .inl ⟨3, by decide, rfl⟩
  · rw [if_neg h1]
    by_cases h2 : ∀ p ∈ l, good p
    · rw [if_pos h2]
      by_cases h3 : (l.flatMap partBytes).length > 256
      · rw [if_pos h3]; exact .inl ⟨4, by decide, rfl⟩
      · rw [if_neg h3]; exact .inr ⟨by omega, h2, by omega, rfl⟩
    · rw [if_neg h2]; exact .inl ⟨15, by decide, rfl⟩
theorem esc_bytes (l : List Int) (h : BytesL l) : BytesL (esc l) := by
  intro x hx
  obtain ⟨y, hy, hxy⟩ := List.mem_flatMap.1 hx
  have := h y hy
  by_cases g : y = 0
  · rw [if_pos g] at hxy
    simp only [List.mem_cons, List.mem_nil_iff, or_false] at hxy
    rcases hxy with rfl | rfl <;> omega
  · rw [if_neg g] at hxy
    simp only [List.mem_cons, List.mem_nil_iff, or_false] at hxy
    subst hxy; omega
theorem part_bytes (p : S60) (h : good p) : BytesL (partBytes p) := by
  rcases h with ⟨k1, _⟩ | ⟨k1, _⟩
  · rw [part_num p k1]
    intro x hx
    unfold big8 at hx
    simp only [List.mem_cons, List.mem_nil_iff, or_false] at hx
    rcases hx with h | h | h | h | h | h | h | h | h <;> subst h <;> omega
  · rw [part_str p k1]
    intro x hx
    rcases List.mem_cons.1 hx with rfl | hx
    · omega
    · rcases List.mem_append.1 hx with hx | hx
      · exact esc_bytes _ (bytesOf_bytes _) x hx
      · simp only [List.mem_cons, List.mem_nil_iff, or_false] at hx
        rcases hx with rfl | rfl <;> omega
theorem key_bytes (l : List S60) (h : ∀ p ∈ l, good p) : BytesL (l.flatMap partBytes) := by
  intro x hx
  obtain ⟨p, hp, hxp⟩ := List.mem_flatMap.1 hx
  exact part_bytes p (h p hp) x hxp
theorem strOf_inj {x y : List Int} (hx : BytesL x) (hy : BytesL y) (h : (strOfNums x).toList = (strOfNums y).toList) : x = y := by
  rw [Lib.toList_data, Lib.toList_data] at h
  rw [← bytesOf_strOf x hx, ← bytesOf_strOf y hy]
  unfold bytesOf
  rw [h]
/-- Of keys of as many parts none begins with another one. -/
theorem no_prefix (a b : List S60) (hl : a.length = b.length) (ha : ∀ p ∈ a, good p ∧ 0 ≤ p.f1 ∧ p.f1 < 18446744073709551616) (hb : ∀ p ∈ b, good p ∧ 0 ≤ p.f1 ∧ p.f1 < 18446744073709551616) (z : List Int) (h : b.flatMap partBytes = a.flatMap partBytes ++ z) : z = [] := by
  cases z with
  | nil => rfl
  | cons c w =>
    have e1 := cmp_parts a b [] [] ha hb (.inl hl)
    have e2 := cmp_parts a b (c :: w ++ [300]) [] ha hb (.inl hl)
    rw [h, List.append_nil, List.append_nil] at e1
    have v1 : cmpL (a.flatMap partBytes) (a.flatMap partBytes ++ c :: w) = -1 := by
      have := cmpL_same (a.flatMap partBytes) [] (c :: w)
      rw [List.append_nil] at this
      rw [this]; rfl
    have v2 : cmpL (a.flatMap partBytes ++ (c :: w ++ [300])) (a.flatMap partBytes ++ c :: w) = 1 := by
      rw [cmpL_same]
      have := cmpL_same (c :: w) [300] []
      rw [List.append_nil] at this
      rw [this]; rfl
    rw [v1] at e1
    rw [h, List.append_nil, v2] at e2
    by_cases g : cmpPs a b = 0
    · rw [if_pos g] at e1; simp [cmpL] at e1
    · rw [if_neg g] at e1 e2
      omega
end Go.Proofs.YtfpdipnaefomiaaDoor.Pure
