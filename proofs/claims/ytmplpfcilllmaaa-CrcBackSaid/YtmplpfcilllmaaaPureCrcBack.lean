/- The law CrcBack: what is sealed is opened as what it was, with another byte anywhere it is broken: for all bytes that memory holds. -/
import Derived.Test.YtmplpfcilllmaaaPrint5
import Derived.Test.YtmplpfcilllmaaaCrcLinkB
set_option linter.unusedVariables false
namespace Go.Proofs.Ytmplpfcilllmaaa.Pure
open Go.RowKit Go.Proofs.Ytmplpfcilllmaaa.Print Go.Proofs.YtmplpfcilllmaaaW.PrintWords Go.Proofs.YtmplpfcilllmaaaW.PrintLast Go.Proofs.YtmplpfcilllmaaaW.PrintMore

theorem upd_inj : ∀ (l : List Int) (a b : BitVec 32), upd a l = upd b l → a = b
  | [], _, _, h => h
  | x :: l, a, b, h => by
    have h1 := shN_inj 8 _ _ (upd_inj l _ _ h)
    have h2 := congrArg (· ^^^ BitVec.ofInt 32 x) h1
    simpa [BitVec.xor_assoc] using h2
theorem ofInt_byte_inj {x y : Int} (hx : 0 ≤ x ∧ x < 256) (hy : 0 ≤ y ∧ y < 256) (h : BitVec.ofInt 32 x = BitVec.ofInt 32 y) : x = y := by
  rw [← iv_ofInt x hx.1 (by omega), h, iv_ofInt y hy.1 (by omega)]
theorem sumOf_set {l : List Int} {i : Nat} {b : Int} (hi : i < l.length) (hl : BytesL l) (hb : 0 ≤ b ∧ b < 256) (hne : l[i] ≠ b) : sumOf (l.set i b) ≠ sumOf l := by
  intro h
  unfold sumOf at h
  have h1 : upd (BitVec.allOnes 32) (l.set i b) = upd (BitVec.allOnes 32) l := by
    have := congrArg (~~~ ·) h
    simpa using this
  rw [List.set_eq_take_append_cons_drop, if_pos hi] at h1
  have e : l = l.take i ++ l[i] :: l.drop (i + 1) := by rw [← List.drop_eq_getElem_cons hi, List.take_append_drop]
  conv at h1 => rhs; rw [e]
  rw [upd_append, upd_append, upd_cons, upd_cons] at h1
  have h2 := shN_inj 8 _ _ (upd_inj _ _ _ h1)
  have h3 := congrArg (upd (BitVec.allOnes 32) (l.take i) ^^^ ·) h2
  simp only [← BitVec.xor_assoc, BitVec.xor_self, BitVec.zero_xor] at h3
  exact hne (ofInt_byte_inj hb (hl _ (List.getElem_mem hi)) h3).symm
theorem tail4_inj {s t : Int} (hs : 0 ≤ s ∧ s < 4294967296) (ht : 0 ≤ t ∧ t < 4294967296) (h : tail4 s = tail4 t) : s = t := by
  simp only [tail4, List.cons.injEq, and_true] at h
  omega
theorem open_seal (l : List Int) : openOf (sealOf l) = (l, 0) := by
  have h : (sealOf l).length - 4 = l.length := by rw [sealOf_length]; omega
  have ht : (sealOf l).take l.length = l := by rw [sealOf, List.take_left]
  unfold openOf
  rw [if_neg (by rw [sealOf_length]; omega), h, ht, if_pos rfl]
theorem open_broken {l : List Int} {i : Nat} {b : Int} (hi : i < (sealOf l).length) (hl : BytesL l) (hb : 0 ≤ b ∧ b < 256) (hne : (sealOf l)[i] ≠ b) : openOf ((sealOf l).set i b) = ([], 6) := by
  have h : ((sealOf l).set i b).length - 4 = l.length := by rw [List.length_set, sealOf_length]; omega
  unfold openOf
  rw [if_neg (by rw [List.length_set, sealOf_length]; omega), h]
  by_cases hlt : i < l.length
  · have hs : (sealOf l).set i b = l.set i b ++ tail4 (iv (sumOf l)) := by rw [sealOf, List.set_append_left _ _ hlt]
    have ht : ((sealOf l).set i b).take l.length = l.set i b := by
      rw [hs]
      have := List.take_left (l₁ := l.set i b) (l₂ := tail4 (iv (sumOf l)))
      rwa [List.length_set] at this
    rw [ht, hs, if_neg]
    intro hc
    rw [sealOf] at hc
    have h4 := tail4_inj (iv_range _) (iv_range _) (List.append_cancel_left hc)
    have hg : l[i] ≠ b := by
      intro e; apply hne; rw [← e]
      simp only [sealOf]
      exact List.getElem_append_left hlt
    exact sumOf_set hlt hl hb hg (iv_inj h4)
  · have ht : ((sealOf l).set i b).take l.length = l := by
      rw [List.take_set_of_le (by omega), sealOf, List.take_left]
    rw [ht, if_neg]
    intro hc
    apply hne
    have := congrArg (fun z => z[i]?) hc
    simp only [List.getElem?_set_self hi] at this
    rw [List.getElem?_eq_getElem hi] at this
    exact Option.some.inj this
theorem back_l0 (x0 : List Int) (x1 x2 : Int) (x7 : List Int) (n : Nat) (hn : n ≤ 140737488355328) : ∀ (d k : Nat) (x8 : List Int) (i : Nat), x8.length = n → i + d = n → d < k →
    ladinglaw02_CrcBack.l0 k x0 x1 x2 x7 x8 (n : Int) (i : Int) = ((crc_Open.f x7).bind fun bt202 => (if bt202.2 = 0 then (ladinglaw02_CrcBack.j2 (k - d - 1) x1 x2 x7 ((strOfNums bt202.1).toList != (strOfNums x0).toList)) else (ladinglaw02_CrcBack.j2 (k - d - 1) x1 x2 x7 true)))
  | 0, k, x8, i, h8, hd, hk => by
    obtain ⟨k, rfl⟩ : ∃ m, k = m + 1 := ⟨k - 1, by omega⟩
    simp only [ladinglaw02_CrcBack.l0]
    rw [if_neg (by omega)]; rfl
  | d + 1, k, x8, i, h8, hd, hk => by
    obtain ⟨k, rfl⟩ : ∃ m, k = m + 1 := ⟨k - 1, by omega⟩
    simp only [ladinglaw02_CrcBack.l0]
    rw [if_pos (by omega), if_pos (by omega), if_pos (by omega), wrap_ok (by omega) (by omega)]
    rw [show ((i : Int) + 1) = ((i + 1 : Nat) : Int) by omega, back_l0 x0 x1 x2 x7 n hn d k _ (i + 1) (by rw [List.length_set]; exact h8) (by omega) (by omega)]
    rw [show k + 1 - (d + 1) - 1 = k - d - 1 by omega]
theorem CrcBack : ladinglaw02_CrcBack.Pure := by
  intro l a b _ hl hw ha hb
  have hbl := bytesL_wf hw
  have hb' : 0 ≤ b ∧ b < 256 := by
    simp [Lit.wf, IntKind.min, IntKind.max, IntKind.bits, IntKind.signed] at hb
    omega
  have hsl := sealOf_length l
  refine ⟨l.length + 4, ?_⟩
  unfold ladinglaw02_CrcBack.f ladinglaw02_lives.f
  rw [Option.bind_some, if_pos rfl, seal_is l (by omega), Option.bind_some, open_is _ (sealOf_bytes hbl) (by omega), open_seal, Option.bind_some, if_pos rfl, if_pos rfl]
  have e1 : (((sealOf l).length : Int) != wrap64 ((l.length : Int) + 4)) = false := by
    rw [wrap_ok (by omega) (by omega), bne_eq_false_iff_eq]; omega
  rw [e1]
  simp only [ladinglaw02_CrcBack.j0]
  rw [if_neg (by decide), show (0 : Int) = ((0 : Nat) : Int) from rfl, back_l0 l a b (sealOf l) l.length (by omega) l.length _ l 0 rfl (by omega) (by omega), open_is _ (sealOf_bytes hbl) (by omega), open_seal, Option.bind_some, if_pos rfl]
  rw [show l.length + 3 - l.length - 1 = 1 + 1 by omega]
  simp only [ladinglaw02_CrcBack.j2]
  rw [if_neg (by simp)]
  by_cases h1 : a < 0
  · rw [if_pos h1]
  · rw [if_neg h1]
    by_cases h2 : a ≥ ((sealOf l).length : Int)
    · rw [if_pos h2]
    · rw [if_neg h2, if_pos (by omega), if_pos (by omega)]
      by_cases h3 : rd (sealOf l) a = b
      · rw [if_pos h3]
      · have hi : a.toNat < (sealOf l).length := by omega
        have hr : rd (sealOf l) a = (sealOf l)[a.toNat] := by simp [rd, List.getD_eq_getElem?_getD, List.getElem?_eq_getElem hi]
        have hbs : BytesL ((sealOf l).set a.toNat b) := fun x hx => by
          rcases List.mem_or_eq_of_mem_set hx with h | h
          · exact sealOf_bytes hbl x h
          · rw [h]; exact hb'
        rw [if_neg h3, open_is _ hbs (by rw [List.length_set]; omega), open_broken hi hbl hb' (by rw [← hr]; exact h3), Option.bind_some, if_pos rfl]
        rfl

end Go.Proofs.Ytmplpfcilllmaaa.Pure
