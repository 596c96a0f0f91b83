/- Plain: what sealing and opening come to. -/
import Derived.Test.YtmplpfcilllmaaaPrint3
import Derived.Test.YtmplpfcilllmaaaCrcLink
import Derived.Lib.Bytes
set_option linter.unusedVariables false
namespace Go.Proofs.Ytmplpfcilllmaaa.Pure
open Go.RowKit Go.Proofs.Ytmplpfcilllmaaa.Print Go.Proofs.YtmplpfcilllmaaaW.PrintWords Go.Proofs.YtmplpfcilllmaaaW.PrintLast Go.Proofs.YtmplpfcilllmaaaW.PrintMore

def BytesL (l : List Int) : Prop := ∀ x ∈ l, 0 ≤ x ∧ x < 256
theorem bytesL_wf {l : List Int} (h : ∀ x ∈ l, (Lit.int .u8 x).wf = true) : BytesL l := fun x hx => by
  have := h x hx
  simp [Lit.wf, IntKind.min, IntKind.max, IntKind.bits, IntKind.signed] at this
  omega
theorem bytesL_take {l : List Int} (h : BytesL l) (n : Nat) : BytesL (l.take n) := fun x hx => h x (List.mem_of_mem_take hx)
theorem bytesL_append {a b : List Int} (ha : BytesL a) (hb : BytesL b) : BytesL (a ++ b) := fun x hx => (List.mem_append.1 hx).elim (ha x) (hb x)
theorem u8_inj {x y : Int} (hx : 0 ≤ x ∧ x < 256) (hy : 0 ≤ y ∧ y < 256) (h : UInt8.ofNat x.toNat = UInt8.ofNat y.toNat) : x = y := by
  have := congrArg UInt8.toNat h
  simp at this
  omega
theorem str_inj : ∀ {a b : List Int}, BytesL a → BytesL b → (strOfNums a).toList = (strOfNums b).toList → a = b := by
  intro a b ha hb h
  rw [Lib.strOfNums_toList, Lib.strOfNums_toList] at h
  revert b
  induction a with
  | nil => intro b hb h; cases b with
    | nil => rfl
    | cons y b => simp [Lib.bytesOf] at h
  | cons x a ih => intro b hb h; cases b with
    | nil => simp [Lib.bytesOf] at h
    | cons y b =>
      simp only [Lib.bytesOf, List.map_cons, List.cons.injEq] at h
      have h1 := u8_inj (ha x List.mem_cons_self) (hb y List.mem_cons_self) h.1
      have h2 := ih (fun z hz => ha z (List.mem_cons_of_mem _ hz)) (fun z hz => hb z (List.mem_cons_of_mem _ hz)) h.2
      rw [h1, h2]
theorem str_ne {a b : List Int} (ha : BytesL a) (hb : BytesL b) (h : a ≠ b) : ¬ (strOfNums a).toList = (strOfNums b).toList := fun e => h (str_inj ha hb e)
def tail4 (s : Int) : List Int := [s % 256, s / 256 % 256, s / 65536 % 256, s / 16777216 % 256]
def sealOf (l : List Int) : List Int := l ++ tail4 (iv (sumOf l))
theorem tail4_bytes (s : Int) : BytesL (tail4 s) := fun x hx => by
  simp only [tail4, List.mem_cons, List.not_mem_nil, or_false] at hx
  rcases hx with h | h | h | h <;> omega
theorem sealOf_bytes {l : List Int} (h : BytesL l) : BytesL (sealOf l) := bytesL_append h (tail4_bytes _)
theorem sealOf_length (l : List Int) : (sealOf l).length = l.length + 4 := by simp [sealOf, tail4]
theorem seal_is (l : List Int) (hl : l.length ≤ 140737488351232) : crc_Seal.f l = some (sealOf l) := by
  have h1 : (0 : Int) ≤ (l.length : Int) + 4 := by omega
  have h2 : ((l.length : Int) + 4).toNat ≤ 281474976710656 := by omega
  have h3 : ([] : List Int).length + l.length < 140737488355328 := by rw [List.length_nil]; omega
  have h4 : ([] ++ l).length + ([iv (sumOf l) % 256, iv (sumOf l) / 256 % 256, iv (sumOf l) / 65536 % 256, iv (sumOf l) / 16777216 % 256] : List Int).length < 140737488355328 := by rw [List.nil_append]; simp only [List.length_cons, List.length_nil]; omega
  unfold crc_Seal.f
  rw [of_is, Option.bind_some, wrap_ok (by omega) (by omega), if_pos h1, if_pos h2, Option.bind_some, if_pos h3, Option.bind_some, Option.bind_some, if_pos h4, List.nil_append]
  rfl
theorem rseal_is (k : Nat) (l : List Int) (hl : l.length ≤ 140737488351232) (hk : l.length + 9 < k) : ladingref02_Seal.f k l = some (sealOf l) := by
  have h3 : ([] : List Int).length + l.length < 140737488355328 := by rw [List.length_nil]; omega
  have h4 : ([] ++ l).length + ([iv (sumOf l) % 256, iv (sumOf l) / 256 % 256, iv (sumOf l) / 65536 % 256, iv (sumOf l) / 16777216 % 256] : List Int).length < 140737488355328 := by rw [List.nil_append]; simp only [List.length_cons, List.length_nil]; omega
  unfold ladingref02_Seal.f
  rw [rof_is k l (by omega) hk]
  simp only [Option.bind_some]
  rw [if_pos h3]
  rw [if_pos h4, List.nil_append]
  rfl
/-- What opening comes to. -/
def openOf (l : List Int) : List Int × Int := if l.length < 4 then ([], 6) else if sealOf (l.take (l.length - 4)) = l then (l.take (l.length - 4), 0) else ([], 6)
theorem open_is (l : List Int) (hb : BytesL l) (hl : l.length ≤ 140737488351236) : crc_Open.f l = some (openOf l) := by
  unfold crc_Open.f openOf
  by_cases h4 : l.length < 4
  · rw [if_pos (by omega), if_pos h4]
  · rw [if_neg (by omega), if_neg h4, wrap_ok (by omega) (by omega), if_pos (by omega), if_pos (by omega)]
    have e : ((l.length : Int) - 4).toNat = l.length - 4 := by omega
    have hlt : (l.take (l.length - 4)).length = l.length - 4 := by rw [List.length_take]; omega
    rw [e, seal_is _ (by omega)]
    simp only [Option.bind_some]
    by_cases hs : sealOf (l.take (l.length - 4)) = l
    · rw [if_pos (by rw [hs]), if_pos (by rw [hlt]; simp only [List.length_nil]; omega), if_pos hs, List.nil_append]
    · rw [if_neg (str_ne (sealOf_bytes (bytesL_take hb _)) hb hs), if_neg hs]
theorem last4 {l : List Int} (h4 : ¬ l.length < 4) : l = l.take (l.length - 4) ++ [l.getD (l.length - 4) 0, l.getD (l.length - 4 + 1) 0, l.getD (l.length - 4 + 2) 0, l.getD (l.length - 4 + 3) 0] := by
  apply List.ext_getElem?
  intro i
  by_cases hi : i < l.length - 4
  · rw [List.getElem?_append_left (by rw [List.length_take]; omega), List.getElem?_take, if_pos hi]
  · rw [List.getElem?_append_right (by rw [List.length_take]; omega), List.length_take, Nat.min_eq_left (by omega)]
    simp only [List.getD_eq_getElem?_getD]
    by_cases hi2 : i < l.length
    · obtain ⟨j, hj, hj4⟩ : ∃ j, i = l.length - 4 + j ∧ j < 4 := ⟨i - (l.length - 4), by omega, by omega⟩
      subst hj
      rw [Nat.add_sub_cancel_left]
      have hg : ∀ q, q < 4 → l[l.length - 4 + q]? = some (l[l.length - 4 + q]?.getD 0) := fun q hq => by
        rw [List.getElem?_eq_getElem (by omega)]; rfl
      match j, hj4 with
      | 0, _ => exact hg 0 (by omega)
      | 1, _ => exact hg 1 (by omega)
      | 2, _ => exact hg 2 (by omega)
      | 3, _ => exact hg 3 (by omega)
    · rw [List.getElem?_eq_none (by omega), List.getElem?_eq_none (by simp only [List.length_cons, List.length_nil]; omega)]
theorem ropen_is (k : Nat) (l : List Int) (hl : l.length ≤ 140737488351236) (hk : l.length + 9 < k) : ladingref02_Open.f k l = some (openOf l) := by
  unfold ladingref02_Open.f openOf
  by_cases h4 : l.length < 4
  · rw [wrap_ok (by omega) (by omega), if_pos (by omega), if_pos h4]
  · have e : ((l.length : Int) - 4).toNat = l.length - 4 := by omega
    have hlt : (l.take (l.length - 4)).length = l.length - 4 := by rw [List.length_take]; omega
    rw [wrap_ok (x := (l.length : Int) - 4) (by omega) (by omega), if_neg (by omega), if_neg h4, if_pos (by omega), if_pos (by omega), e, rof_is k _ (by omega) (by omega)]
    simp only [Option.bind_some]
    rw [wrap_ok (x := (l.length : Int) - 4 + 1) (by omega) (by omega), wrap_ok (x := (l.length : Int) - 4 + 2) (by omega) (by omega), wrap_ok (x := (l.length : Int) - 4 + 3) (by omega) (by omega)]
    have r0 : rd l ((l.length : Int) - 4) = l.getD (l.length - 4) 0 := by unfold rd; rw [e]
    have r1 : rd l ((l.length : Int) - 4 + 1) = l.getD (l.length - 4 + 1) 0 := by unfold rd; rw [show ((l.length : Int) - 4 + 1).toNat = l.length - 4 + 1 by omega]
    have r2 : rd l ((l.length : Int) - 4 + 2) = l.getD (l.length - 4 + 2) 0 := by unfold rd; rw [show ((l.length : Int) - 4 + 2).toNat = l.length - 4 + 2 by omega]
    have r3 : rd l ((l.length : Int) - 4 + 3) = l.getD (l.length - 4 + 3) 0 := by unfold rd; rw [show ((l.length : Int) - 4 + 3).toNat = l.length - 4 + 3 by omega]
    rw [r0, r1, r2, r3, if_pos (by omega)]
    have hl4 := last4 h4
    generalize hT : l.take (l.length - 4) = T at hl4 hlt
    generalize l.getD (l.length - 4) 0 = b0 at hl4
    generalize l.getD (l.length - 4 + 1) 0 = b1 at hl4
    generalize l.getD (l.length - 4 + 2) 0 = b2 at hl4
    generalize l.getD (l.length - 4 + 3) 0 = b3 at hl4
    have hseal : sealOf T = l ↔ (b0 = iv (sumOf T) % 256 ∧ b1 = iv (sumOf T) / 256 % 256 ∧ b2 = iv (sumOf T) / 65536 % 256 ∧ b3 = iv (sumOf T) / 16777216 % 256) := by
      constructor
      · intro h
        rw [hl4] at h
        have h' := List.append_cancel_left h
        simp only [tail4, List.cons.injEq, and_true] at h'
        exact ⟨h'.1.symm, h'.2.1.symm, h'.2.2.1.symm, h'.2.2.2.symm⟩
      · rintro ⟨h0, h1, h2, h3⟩
        rw [hl4, h0, h1, h2, h3]; rfl
    have n1 : (0 : Int) ≤ (l.length : Int) - 4 + 1 := by omega
    have n2 : (l.length : Int) - 4 + 1 < (l.length : Int) := by omega
    have n3 : (0 : Int) ≤ (l.length : Int) - 4 + 2 := by omega
    have n4 : (l.length : Int) - 4 + 2 < (l.length : Int) := by omega
    have n5 : (0 : Int) ≤ (l.length : Int) - 4 + 3 := by omega
    have n6 : (l.length : Int) - 4 + 3 < (l.length : Int) := by omega
    have n7 : ([] : List Int).length + T.length < 140737488355328 := by rw [List.length_nil]; omega
    rw [if_pos n1, if_pos n2, if_pos n3, if_pos n4, if_pos n5, if_pos n6, if_pos n7]
    by_cases h0 : b0 = iv (sumOf T) % 256
    · rw [if_pos h0]
      by_cases h1 : b1 = iv (sumOf T) / 256 % 256
      · rw [if_pos h1]
        by_cases h2 : b2 = iv (sumOf T) / 65536 % 256
        · rw [if_pos h2]
          by_cases h3 : b3 = iv (sumOf T) / 16777216 % 256
          · rw [if_pos h3, if_pos (hseal.mpr ⟨h0, h1, h2, h3⟩), List.nil_append]
          · rw [if_neg h3, if_neg (fun h => h3 (hseal.mp h).2.2.2)]
        · rw [if_neg h2, if_neg (fun h => h2 (hseal.mp h).2.2.1)]
      · rw [if_neg h1, if_neg (fun h => h1 (hseal.mp h).2.1)]
    · rw [if_neg h0, if_neg (fun h => h0 (hseal.mp h).1)]

end Go.Proofs.Ytmplpfcilllmaaa.Pure
