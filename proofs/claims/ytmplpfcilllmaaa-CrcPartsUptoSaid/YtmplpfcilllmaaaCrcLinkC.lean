/- Plain: putting sums together is a shift by noughts. -/
import Derived.Test.YtmplpfcilllmaaaPrint7
import Derived.Test.YtmplpfcilllmaaaCrcLink
set_option linter.unusedVariables false
namespace Go.Proofs.Ytmplpfcilllmaaa.Pure
open Go.RowKit Go.Proofs.Ytmplpfcilllmaaa.Print Go.Proofs.YtmplpfcilllmaaaW.PrintWords Go.Proofs.YtmplpfcilllmaaaW.PrintLast Go.Proofs.YtmplpfcilllmaaaW.PrintMore

theorem and_one_iv (b : BitVec 32) : Go.bits .and .u32 (iv b) 1 = if b.getLsbD 0 then 1 else 0 := by
  rw [and_iv, show BitVec.ofInt 32 1 = 1#32 from rfl]
  have e : b &&& 1#32 = if b.getLsbD 0 then 1#32 else 0#32 := by
    apply BitVec.eq_of_getLsbD_eq
    intro i hi
    rw [BitVec.getLsbD_and]
    cases i with
    | zero => cases b.getLsbD 0 <;> rfl
    | succ i =>
      have h1 : (1#32).getLsbD (i + 1) = false := by
        have : ∀ j, j < 31 → (1#32).getLsbD (j + 1) = false := by decide
        exact this i (by omega)
      rw [h1, Bool.and_false]
      split
      · exact h1.symm
      · simp
  rw [e]
  split <;> rfl
theorem and_ones_iv (b : BitVec 32) : Go.bits .and .u32 (iv b) 4294967295 = iv b := by
  rw [and_iv, show BitVec.ofInt 32 4294967295 = BitVec.allOnes 32 from rfl, BitVec.and_allOnes]
/-- A map that takes bits apart. -/
structure Lin (f : BitVec 32 → BitVec 32) : Prop where
  xor : ∀ a b, f (a ^^^ b) = f a ^^^ f b
theorem Lin.zero {f : BitVec 32 → BitVec 32} (h : Lin f) : f 0#32 = 0#32 := by
  have := h.xor 0#32 0#32
  rw [BitVec.xor_self] at this
  rw [this, BitVec.xor_self]
theorem Lin.comp {f g : BitVec 32 → BitVec 32} (hf : Lin f) (hg : Lin g) : Lin (fun x => f (g x)) := ⟨fun a b => by rw [hg.xor, hf.xor]⟩
/-- The lowest k bits. -/
def lowB (b : BitVec 32) : Nat → BitVec 32
  | 0 => 0#32
  | k + 1 => lowB b k ^^^ (if b.getLsbD k then 1#32 <<< k else 0#32)
theorem lowB_get (b : BitVec 32) : ∀ k, k ≤ 32 → ∀ i, i < 32 → (lowB b k).getLsbD i = (decide (i < k) && b.getLsbD i)
  | 0, _, i, hi => by simp [lowB]
  | k + 1, hk, i, hi => by
    rw [lowB, BitVec.getLsbD_xor, lowB_get b k (by omega) i hi]
    have hb : (if b.getLsbD k then 1#32 <<< k else 0#32).getLsbD i = (decide (i = k) && b.getLsbD k) := by
      split
      · rename_i hbk
        rw [hbk, Bool.and_true, BitVec.getLsbD_shiftLeft]
        by_cases hik : i = k
        · subst hik; simp [hi]
        · by_cases hlt : i < k
          · simp [hlt, hik]
          · have h1 : (1#32).getLsbD (i - k) = false := by
              have : ∀ j, j < 31 → (1#32).getLsbD (j + 1) = false := by decide
              have := this (i - k - 1) (by omega)
              rwa [show i - k - 1 + 1 = i - k by omega] at this
            rw [h1]; simp [hik]
      · rename_i hbk
        simp at hbk
        simp [hbk]
    rw [hb]
    by_cases h1 : i < k
    · simp [h1, show i ≠ k by omega, show i < k + 1 by omega]
    · by_cases h2 : i = k
      · subst h2; simp
      · simp [h1, h2, show ¬ i < k + 1 by omega]
theorem lowB_all (b : BitVec 32) : lowB b 32 = b := BitVec.eq_of_getLsbD_eq fun i hi => by rw [lowB_get b 32 (by omega) i hi]; simp [hi]
/-- The matrix of a map. -/
def MRep (m : List Int) (f : BitVec 32 → BitVec 32) : Prop := ∀ i, i < 32 → m.getD i 0 = iv (f (1#32 <<< i))
theorem crcOfN_low {m : List Int} {f : BitVec 32 → BitVec 32} (hm : MRep m f) (hf : Lin f) (b : BitVec 32) : ∀ k, k ≤ 32 → crcOfN m (iv b) k = iv (f (lowB b k))
  | 0, _ => by rw [crcOfN, lowB, hf.zero]; rfl
  | k + 1, hk => by
    rw [crcOfN, crcOfN_low hm hf b k (by omega), iv_shr, and_one_iv, lowB, hf.xor, hm k (by omega)]
    have hg : (b >>> k).getLsbD 0 = b.getLsbD k := by rw [BitVec.getLsbD_ushiftRight, Nat.add_zero]
    rw [hg]
    by_cases h : b.getLsbD k
    · rw [if_pos h, if_pos h, show (-(1 : Int)) % 4294967296 = 4294967295 from rfl, and_ones_iv, xor_iv, ofInt_iv]
    · rw [if_neg h, if_neg h, show (-(0 : Int)) % 4294967296 = 0 from rfl, and_zero_r, hf.zero, xor_iv]; rfl
theorem crcOf_is {m : List Int} {f : BitVec 32 → BitVec 32} (hm : MRep m f) (hf : Lin f) (b : BitVec 32) : crcOfN m (iv b) 32 = iv (f b) := by
  rw [crcOfN_low hm hf b 32 (by omega), lowB_all]
theorem mSq_rep {m : List Int} {f : BitVec 32 → BitVec 32} (hl : m.length = 32) (hm : MRep m f) (hf : Lin f) : MRep (mSq m) (fun x => f (f x)) := fun i hi => by
  rw [mSq_getD (by omega), hm i hi, crcOf_is hm hf]
theorem crcM0_rep : MRep crcM0 (shN 8) := by unfold MRep; decide +kernel
def itn (f : BitVec 32 → BitVec 32) : Nat → BitVec 32 → BitVec 32
  | 0, a => a
  | n + 1, a => itn f n (f a)
theorem itn_two (f : BitVec 32 → BitVec 32) : ∀ (n : Nat) (a : BitVec 32), itn (fun x => f (f x)) n a = itn f (2 * n) a
  | 0, _ => rfl
  | n + 1, a => by rw [itn, itn_two f n, show 2 * (n + 1) = 2 * n + 1 + 1 by omega]; rfl
theorem crcGo_is : ∀ (k : Nat) (m : List Int) (f : BitVec 32 → BitVec 32) (a : BitVec 32) (n : Nat), m.length = 32 → MRep m f → Lin f → n < 2 ^ k → crcGo k m (iv a) (n : Int) = iv (itn f n a)
  | 0, m, f, a, n, hl, hm, hf, hn => by
    obtain rfl : n = 0 := by omega
    rfl
  | k + 1, m, f, a, n, hl, hm, hf, hn => by
    rw [crcGo]
    by_cases h0 : n = 0
    · subst h0; rw [if_neg (by decide)]; rfl
    · rw [if_pos (by omega)]
      have hp : 2 ^ (k + 1) = 2 ^ k * 2 := Nat.pow_succ 2 k
      have e2 : ((n : Int) / 2) = ((n / 2 : Nat) : Int) := by omega
      have hs := crcGo_is k (mSq m) (fun x => f (f x)) 
      by_cases hodd : n % 2 = 1
      · rw [if_pos (by omega), crcOf_is hm hf, e2, hs (f a) (n / 2) (by rw [mSq_length]; exact hl) (mSq_rep hl hm hf) (hf.comp hf) (by omega), itn_two]
        obtain ⟨q, rfl⟩ : ∃ q, n = 2 * q + 1 := ⟨n / 2, by omega⟩
        rw [show (2 * q + 1) / 2 = q by omega]; rfl
      · rw [if_neg (by omega), e2, hs a (n / 2) (by rw [mSq_length]; exact hl) (mSq_rep hl hm hf) (hf.comp hf) (by omega), itn_two]
        rw [show 2 * (n / 2) = n by omega]
theorem itn_shN : ∀ (n : Nat) (a : BitVec 32), itn (shN 8) n a = shN (8 * n) a
  | 0, _ => rfl
  | n + 1, a => by rw [itn, itn_shN n, show 8 * (n + 1) = 8 + 8 * n by omega, shN_add]
theorem shN_lin (n : Nat) : Lin (shN n) := ⟨shN_xor n⟩
theorem combine_is (a : BitVec 32) (b : Int) (n : Nat) (hn : n ≤ 2147483648) : crc_Combine.f (iv a) b (n : Int) = some (iv (shN (8 * n) a ^^^ BitVec.ofInt 32 b), 0) := by
  unfold crc_Combine.f
  rw [if_pos (iv_range a), if_neg (by omega), if_neg (by omega), crcGo_is 33 crcM0 (shN 8) a n crcM0_range.1 crcM0_rep (shN_lin 8) (by omega), itn_shN, xor_iv]
theorem upd_xor : ∀ (l : List Int) (c d : BitVec 32), upd (c ^^^ d) l = upd c l ^^^ shN (8 * l.length) d
  | [], c, d => rfl
  | x :: l, c, d => by
    rw [upd_cons, upd_cons, show c ^^^ d ^^^ BitVec.ofInt 32 x = (c ^^^ BitVec.ofInt 32 x) ^^^ d by rw [BitVec.xor_assoc, BitVec.xor_comm d, ← BitVec.xor_assoc], shN_xor, upd_xor l, List.length_cons, show 8 * (l.length + 1) = 8 + 8 * l.length by omega, shN_add]

end Go.Proofs.Ytmplpfcilllmaaa.Pure
