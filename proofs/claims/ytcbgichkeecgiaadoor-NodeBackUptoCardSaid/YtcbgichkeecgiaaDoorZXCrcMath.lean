/- Plain: the sum of bytes as bits, its table by nibbles, its doublings. -/
import Derived.Test.YtcbgichkeecgiaaDoorZXCrc
set_option linter.unusedVariables false
namespace Go.Proofs.YtcbgichkeecgiaaDoor.Print
open Go.RowKit
def poly : BitVec 32 := 3988292384#32
def sh (b : BitVec 32) : BitVec 32 := if b.getLsbD 0 then (b >>> 1) ^^^ poly else b >>> 1
def shN : Nat → BitVec 32 → BitVec 32
  | 0, b => b
  | n + 1, b => shN n (sh b)
theorem sh_xor (a b : BitVec 32) : sh (a ^^^ b) = sh a ^^^ sh b := by
  unfold sh
  rw [BitVec.getLsbD_xor, BitVec.ushiftRight_xor_distrib]
  cases a.getLsbD 0 <;> cases b.getLsbD 0 <;> simp
  · rw [BitVec.xor_assoc]
  · rw [BitVec.xor_assoc, BitVec.xor_comm (b >>> 1) poly, BitVec.xor_assoc]
  · rw [BitVec.xor_assoc (a >>> 1) poly, ← BitVec.xor_assoc poly (b >>> 1) poly, BitVec.xor_comm poly (b >>> 1), BitVec.xor_assoc (b >>> 1), BitVec.xor_self, BitVec.xor_zero]
theorem shN_xor : ∀ (n : Nat) (a b : BitVec 32), shN n (a ^^^ b) = shN n a ^^^ shN n b
  | 0, _, _ => rfl
  | n + 1, a, b => by rw [shN, sh_xor, shN_xor n]; rfl
theorem shN_add : ∀ (m n : Nat) (b : BitVec 32), shN (m + n) b = shN n (shN m b)
  | 0, n, b => by rw [Nat.zero_add]; rfl
  | m + 1, n, b => by rw [show m + 1 + n = (m + n) + 1 by omega, shN, shN_add m n]; rfl
theorem shN_low : ∀ (n : Nat) (b : BitVec 32), (∀ i, i < n → b.getLsbD i = false) → shN n b = b >>> n
  | 0, b, _ => by simp [shN]
  | n + 1, b, h => by
    have h0 : sh b = b >>> 1 := by unfold sh; rw [h 0 (by omega)]; rfl
    rw [shN, h0, shN_low n (b >>> 1) (fun i hi => by rw [BitVec.getLsbD_ushiftRight]; exact h (1 + i) (by omega)), show n + 1 = 1 + n by omega, BitVec.shiftRight_add]
theorem sh_inj (a b : BitVec 32) (h : sh a = sh b) : a = b := by
  have h1 : sh (a ^^^ b) = 0#32 := by rw [sh_xor, h, BitVec.xor_self]
  have h2 : a ^^^ b = 0#32 := by
    generalize a ^^^ b = c at h1
    unfold sh at h1
    by_cases hc : c.getLsbD 0
    · rw [if_pos hc] at h1
      have := congrArg (fun x => x.getLsbD 31) h1
      simp [poly] at this
    · rw [if_neg hc] at h1
      apply BitVec.eq_of_getLsbD_eq
      intro i hi
      cases i with
      | zero => simpa using hc
      | succ i =>
        have := congrArg (fun x => x.getLsbD i) h1
        rw [BitVec.getLsbD_ushiftRight] at this
        simpa [Nat.add_comm] using this
  have h3 : a ^^^ b ^^^ b = b := by rw [h2, BitVec.zero_xor]
  rwa [BitVec.xor_assoc, BitVec.xor_self, BitVec.xor_zero] at h3
theorem shN_inj : ∀ (n : Nat) (a b : BitVec 32), shN n a = shN n b → a = b
  | 0, _, _, h => h
  | n + 1, a, b, h => sh_inj a b (shN_inj n _ _ h)
theorem split15 (b : BitVec 32) : b = (b &&& 15#32) ^^^ (b &&& ~~~15#32) := by
  apply BitVec.eq_of_getLsbD_eq
  intro i hi
  simp only [BitVec.getLsbD_xor, BitVec.getLsbD_and, BitVec.getLsbD_not]
  cases b.getLsbD i <;> cases (15#32).getLsbD i <;> simp [hi]
theorem shN4_split (b : BitVec 32) : shN 4 b = shN 4 (b &&& 15#32) ^^^ (b >>> 4) := by
  conv => lhs; rw [split15 b]
  rw [shN_xor]
  congr 1
  rw [shN_low]
  · apply BitVec.eq_of_getLsbD_eq
    intro i hi
    simp only [BitVec.getLsbD_ushiftRight, BitVec.getLsbD_and, BitVec.getLsbD_not]
    by_cases h : 4 + i < 32
    · have : (15#32).getLsbD (4 + i) = false := by
        have : ∀ j, j < 28 → (15#32).getLsbD (4 + j) = false := by decide
        exact this i (by omega)
      rw [this]; simp only [Bool.not_false, Bool.and_true, h, decide_true]
    · rw [BitVec.getLsbD_of_ge b (4 + i) (by omega)]; rfl
  · intro i hi
    simp only [BitVec.getLsbD_and, BitVec.getLsbD_not]
    have : ∀ j, j < 4 → (15#32).getLsbD j = true := by decide
    rw [this i hi]; simp only [Bool.not_true, Bool.and_false]
def iv (b : BitVec 32) : Int := (b.toNat : Int)
theorem iv_range (b : BitVec 32) : 0 ≤ iv b ∧ iv b < 4294967296 := by unfold iv; have := b.isLt; omega
theorem ofInt_iv (b : BitVec 32) : BitVec.ofInt 32 (iv b) = b := ofInt_toNat b
theorem iv_ofInt (x : Int) (h0 : 0 ≤ x) (h1 : x < 4294967296) : iv (BitVec.ofInt 32 x) = x := toNat_ofInt x h0 h1
theorem iv_inj {a b : BitVec 32} (h : iv a = iv b) : a = b := by rw [← ofInt_iv a, h, ofInt_iv]
theorem xor_iv (a : BitVec 32) (x : Int) : Go.bits .xor .u32 (iv a) x = iv (a ^^^ BitVec.ofInt 32 x) := by rw [bits_xor, ofInt_iv]; rfl
theorem and_iv (a : BitVec 32) (x : Int) : Go.bits .and .u32 (iv a) x = iv (a &&& BitVec.ofInt 32 x) := by rw [bits_and, ofInt_iv]; rfl
theorem not_iv (x : Int) : Go.bits .xor .u32 4294967295 x = iv (~~~ BitVec.ofInt 32 x) := by
  rw [bits_xor, show BitVec.ofInt 32 4294967295 = BitVec.allOnes 32 from rfl, BitVec.allOnes_xor]; rfl
theorem iv_shr (b : BitVec 32) (k : Nat) : iv b / (2 : Int) ^ k = iv (b >>> k) := by
  unfold iv
  rw [BitVec.toNat_ushiftRight, Nat.shiftRight_eq_div_pow, Int.natCast_ediv]
  norm_cast
theorem iv_16 (b : BitVec 32) : iv b / (16 : Int) = iv (b >>> 4) := iv_shr b 4
theorem ofInt_mod (x : Int) : BitVec.ofInt 32 (x % 4294967296) = BitVec.ofInt 32 x := by
  apply BitVec.eq_of_toNat_eq
  rw [BitVec.toNat_ofInt, BitVec.toNat_ofInt]
  congr 1
  exact Int.emod_emod_of_dvd x (Int.dvd_refl _)
theorem crcTab_shN : ∀ i : Nat, i < 16 → crcTab.getD i 0 = iv (shN 4 (BitVec.ofNat 32 i)) := by decide
theorem crcEnt_iv (b : BitVec 32) : crcEnt (iv b) = iv (shN 4 (b &&& 15#32)) := by
  unfold crcEnt
  rw [and_iv, show BitVec.ofInt 32 15 = 15#32 from rfl]
  have hlt : (b &&& 15#32).toNat < 16 := by
    rw [BitVec.toNat_and]
    exact Nat.lt_succ_of_le Nat.and_le_right
  show crcTab.getD ((b &&& 15#32).toNat : Int).toNat 0 = _
  rw [Int.toNat_natCast, crcTab_shN _ hlt, BitVec.ofNat_toNat, BitVec.setWidth_eq]
theorem crcNib_iv (b : BitVec 32) : crcNib (iv b) = iv (shN 4 b) := by
  unfold crcNib
  rw [crcEnt_iv, xor_iv, iv_16, ofInt_iv, ← shN4_split]
theorem crcStep_iv (b : BitVec 32) (x : Int) : crcStep (iv b) x = iv (shN 8 (b ^^^ BitVec.ofInt 32 x)) := by
  unfold crcStep
  rw [xor_iv, ofInt_mod, crcNib_iv, crcNib_iv, ← shN_add]
def upd (c : BitVec 32) (l : List Int) : BitVec 32 := l.foldl (fun c x => shN 8 (c ^^^ BitVec.ofInt 32 x)) c
theorem upd_iv (l : List Int) : ∀ c : BitVec 32, l.foldl crcStep (iv c) = iv (upd c l) := by
  induction l with
  | nil => intro c; rfl
  | cons x l ih => intro c; rw [List.foldl_cons, crcStep_iv, ih]; rfl
theorem upd_append (c : BitVec 32) (a b : List Int) : upd c (a ++ b) = upd (upd c a) b := List.foldl_append ..
theorem upd_cons (c : BitVec 32) (x : Int) (l : List Int) : upd c (x :: l) = upd (shN 8 (c ^^^ BitVec.ofInt 32 x)) l := rfl
def sumOf (l : List Int) : BitVec 32 := ~~~ (upd (BitVec.allOnes 32) l)
end Go.Proofs.YtcbgichkeecgiaaDoor.Print
