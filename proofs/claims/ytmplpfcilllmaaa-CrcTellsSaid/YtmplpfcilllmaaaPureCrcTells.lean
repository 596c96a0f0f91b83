/- The law CrcTells: bits that are turned within any 32 that stand side by side turn the checksum: for all bytes that memory holds. -/
import Derived.Test.YtmplpfcilllmaaaPrint4
import Derived.Test.YtmplpfcilllmaaaCrcLinkB
set_option linter.unusedVariables false
namespace Go.Proofs.Ytmplpfcilllmaaa.Pure
open Go.RowKit Go.Proofs.Ytmplpfcilllmaaa.Print Go.Proofs.YtmplpfcilllmaaaW.PrintWords Go.Proofs.YtmplpfcilllmaaaW.PrintLast Go.Proofs.YtmplpfcilllmaaaW.PrintMore

theorem xor8 (x y : Int) (hx : 0 ≤ x ∧ x < 256) (hy : 0 ≤ y ∧ y < 256) : Go.bits .xor .u8 x y = ((x.toNat ^^^ y.toNat : Nat) : Int) := by
  obtain ⟨a, rfl⟩ := Int.eq_ofNat_of_zero_le hx.1
  obtain ⟨b, rfl⟩ := Int.eq_ofNat_of_zero_le hy.1
  have ha : a < 256 := by omega
  have hb : b < 256 := by omega
  show IntKind.u8.wrap (((BitVec.ofInt 8 (a : Int) ^^^ BitVec.ofInt 8 (b : Int)).toNat : Nat) : Int) = _
  rw [IntKind.wrap_u8, BitVec.toNat_xor, BitVec.ofInt_natCast, BitVec.ofInt_natCast, BitVec.toNat_ofNat, BitVec.toNat_ofNat, Nat.mod_eq_of_lt ha, Nat.mod_eq_of_lt hb, Int.toNat_natCast, Int.toNat_natCast]
  have := Nat.xor_lt_two_pow (n := 8) ha hb
  omega
theorem xor8_range (x y : Int) (hx : 0 ≤ x ∧ x < 256) (hy : 0 ≤ y ∧ y < 256) : 0 ≤ Go.bits .xor .u8 x y ∧ Go.bits .xor .u8 x y < 256 := by
  rw [xor8 x y hx hy]
  have := Nat.xor_lt_two_pow (x := x.toNat) (y := y.toNat) (n := 8) (by omega) (by omega)
  omega

def bit (b : Bool) : BitVec 32 := if b then 1#32 else 0#32
/-- The first k of some bits, put together. -/
def packB (f : Nat → Bool) : Nat → BitVec 32
  | 0 => 0#32
  | k + 1 => packB f k ^^^ (bit (f k) <<< k)
theorem bit_shl_get (b : Bool) (k i : Nat) (hi : i < 32) : (bit b <<< k).getLsbD i = (decide (i = k) && b) := by
  rw [BitVec.getLsbD_shiftLeft]
  cases b with
  | false => simp [bit]
  | true =>
    simp only [bit, if_true]
    by_cases hik : i = k
    · subst hik; simp [hi]
    · by_cases hlt : i < k
      · simp [hlt, hik]
      · have h1 : (1#32).getLsbD (i - k) = false := by
          have : ∀ j, j < 31 → (1#32).getLsbD (j + 1) = false := by decide
          have := this (i - k - 1) (by omega)
          rwa [show i - k - 1 + 1 = i - k by omega] at this
        rw [h1]; simp [hik]
theorem packB_get (f : Nat → Bool) : ∀ k, ∀ i, i < 32 → (packB f k).getLsbD i = (decide (i < k) && f i)
  | 0, i, hi => by simp [packB]
  | k + 1, i, hi => by
    rw [packB, BitVec.getLsbD_xor, packB_get f k i hi, bit_shl_get _ _ _ hi]
    by_cases h1 : i < k
    · simp [h1, show i ≠ k by omega, show i < k + 1 by omega]
    · by_cases h2 : i = k
      · subst h2; simp
      · simp [h1, h2, show ¬ i < k + 1 by omega]
/-- A sum, gone on with bit by bit. -/
def updF (r : BitVec 32) (f : Nat → Bool) : Nat → BitVec 32
  | 0 => r
  | k + 1 => sh (updF r f k ^^^ bit (f k))
theorem updF_add (r : BitVec 32) (f : Nat → Bool) (m : Nat) : ∀ n, updF r f (m + n) = updF (updF r f m) (fun i => f (m + i)) n
  | 0 => rfl
  | n + 1 => by
    show sh (updF r f (m + n) ^^^ bit (f (m + n))) = _
    rw [updF_add r f m n]; rfl
theorem shN_bit (b : Bool) (k : Nat) (hk : k < 32) : shN k (bit b <<< k) = bit b := by
  rw [shN_low]
  · apply BitVec.eq_of_getLsbD_eq
    intro i hi
    rw [BitVec.getLsbD_ushiftRight]
    by_cases h : k + i < 32
    · rw [bit_shl_get _ _ _ h]
      have := bit_shl_get b 0 i hi
      rw [BitVec.shiftLeft_zero] at this
      rw [this]
      by_cases h0 : i = 0
      · subst h0; simp
      · simp [h0]
    · rw [BitVec.getLsbD_of_ge _ _ (by omega)]
      have := bit_shl_get b 0 i hi
      rw [BitVec.shiftLeft_zero] at this
      rw [this]
      simp [show i ≠ 0 by omega]
  · intro i hi
    rw [bit_shl_get _ _ _ (by omega)]
    simp [show i ≠ k by omega]
theorem shN_succ' (n : Nat) (b : BitVec 32) : shN (n + 1) b = sh (shN n b) := shN_add n 1 b
theorem updF_pack (r : BitVec 32) (f : Nat → Bool) : ∀ m, m ≤ 32 → updF r f m = shN m (r ^^^ packB f m)
  | 0, _ => by simp [updF, packB, shN]
  | m + 1, h => by
    rw [updF, updF_pack r f m (by omega), packB, shN_succ', ← BitVec.xor_assoc, shN_xor m (r ^^^ packB f m), shN_bit _ _ (by omega)]
theorem updF_none (r : BitVec 32) (f : Nat → Bool) : ∀ m, (∀ i, i < m → f i = false) → updF r f m = shN m r
  | 0, _ => rfl
  | m + 1, h => by
    rw [updF, updF_none r f m (fun i hi => h i (by omega)), h m (by omega), shN_succ']
    simp [bit]
theorem updF_xor (r s : BitVec 32) (f g : Nat → Bool) : ∀ m, updF (r ^^^ s) (fun i => f i ^^ g i) m = updF r f m ^^^ updF s g m
  | 0 => rfl
  | m + 1 => by
    rw [updF, updF_xor r s f g m, updF, updF, ← sh_xor]
    congr 1
    have : bit (f m ^^ g m) = bit (f m) ^^^ bit (g m) := by cases f m <;> cases g m <;> rfl
    rw [this]
    generalize updF r f m = x
    generalize updF s g m = y
    rw [BitVec.xor_assoc, BitVec.xor_assoc, ← BitVec.xor_assoc y, BitVec.xor_comm y, BitVec.xor_assoc (bit (f m))]
theorem updF_congr (r : BitVec 32) (f g : Nat → Bool) : ∀ m, (∀ i, i < m → f i = g i) → updF r f m = updF r g m
  | 0, _ => rfl
  | m + 1, h => by rw [updF, updF, updF_congr r f g m (fun i hi => h i (by omega)), h m (by omega)]
/-- A bit of some bytes. -/
def bitAt (l : List Int) (p : Nat) : Bool := (l.getD (p / 8) 0).toNat.testBit (p % 8)
theorem upd_bits : ∀ (l : List Int) (r : BitVec 32), BytesL l → upd r l = updF r (bitAt l) (8 * l.length)
  | [], r, _ => rfl
  | x :: l, r, h => by
    have hx := h x List.mem_cons_self
    rw [upd_cons, upd_bits l _ (fun t ht => h t (List.mem_cons_of_mem _ ht)), List.length_cons, show 8 * (l.length + 1) = 8 + 8 * l.length by omega, updF_add, updF_pack r _ 8 (by omega)]
    have e : packB (bitAt (x :: l)) 8 = BitVec.ofInt 32 x := by
      apply BitVec.eq_of_getLsbD_eq
      intro i hi
      rw [packB_get _ _ _ hi]
      obtain ⟨a, rfl⟩ := Int.eq_ofNat_of_zero_le hx.1
      rw [BitVec.ofInt_natCast, BitVec.getLsbD_ofNat]
      by_cases h8 : i < 8
      · simp [h8, hi, bitAt, show i / 8 = 0 by omega, show i % 8 = i by omega]
      · have : a.testBit i = false := Nat.testBit_lt_two_pow (Nat.lt_of_lt_of_le (show a < 2 ^ 8 by omega) (Nat.pow_le_pow_right (by decide) (by omega)))
        simp [h8, this]
    rw [e]
    refine updF_congr _ _ _ _ (fun i hi => ?_)
    simp [bitAt, show (8 + i) / 8 = i / 8 + 1 by omega, show (8 + i) % 8 = i % 8 by omega]
/-- Bits that are turned within 32 side by side turn the sum. -/
theorem sum_turned {b c : List Int} {A M : Nat} (hl : c.length = b.length) (hb : BytesL b) (hc : BytesL c)
    (hf : ∀ p, p < 8 * b.length → bitAt c p = (bitAt b p ^^ (decide (A ≤ p ∧ p < A + 32) && M.testBit (p - A)))) (hs : ∃ j, j < 32 ∧ A + j < 8 * b.length ∧ M.testBit j = true) : sumOf c ≠ sumOf b := by
  intro h
  unfold sumOf at h
  have h1 : upd (BitVec.allOnes 32) c = upd (BitVec.allOnes 32) b := by
    have := congrArg (~~~ ·) h
    simpa using this
  rw [upd_bits c _ hc, upd_bits b _ hb, hl] at h1
  have h2 := updF_xor (BitVec.allOnes 32) (BitVec.allOnes 32) (bitAt c) (bitAt b) (8 * b.length)
  rw [h1, BitVec.xor_self, BitVec.xor_self] at h2
  have h3 : updF 0#32 (fun p => decide (A ≤ p ∧ p < A + 32) && M.testBit (p - A)) (8 * b.length) = 0#32 := by
    refine (updF_congr _ _ _ _ (fun i hi => ?_)).trans h2
    rw [hf i hi]
    cases bitAt b i <;> simp
  obtain ⟨j, hj, hjb, hm⟩ := hs
  obtain ⟨w, hw⟩ : ∃ w, w = min 32 (8 * b.length - A) := ⟨_, rfl⟩
  rw [show 8 * b.length = A + (w + (8 * b.length - A - w)) by omega, updF_add, updF_add, updF_none _ _ A (fun i hi => by simp [show ¬ A ≤ i by omega]), shN_zero] at h3
  rw [updF_pack _ _ w (by omega), BitVec.zero_xor, updF_none _ _ _ (fun i hi => by
    have : ¬ (A + (w + i) < A + 32) := by omega
    simp [this])] at h3
  have h4 := shN_inj _ _ 0#32 (by rw [h3, shN_zero])
  have h5 := shN_inj _ _ 0#32 (by rw [h4, shN_zero])
  have h6 := congrArg (fun x => x.getLsbD j) h5
  simp only [packB_get _ _ _ hj] at h6
  simp [show j < w by omega, hj, hm] at h6

def Flipped (b : List Int) (A i M : Nat) (c : List Int) : Prop := c.length = b.length ∧ BytesL c ∧ ∀ p, p < 8 * b.length → bitAt c p = (bitAt b p ^^ (decide (A ≤ p ∧ p < A + i) && M.testBit (p - A)))
theorem rd_bytes {l : List Int} (h : BytesL l) {i : Int} (h0 : 0 ≤ i) (hi : i < l.length) : 0 ≤ rd l i ∧ rd l i < 256 := by
  have hl : i.toNat < l.length := by omega
  have : rd l i = l[i.toNat] := by simp [rd, List.getD_eq_getElem?_getD, List.getElem?_eq_getElem hl]
  rw [this]; exact h _ (List.getElem_mem hl)
theorem tells_l0 (b : List Int) (A M : Nat) (hn : b.length ≤ 140737488351232) (hb : BytesL b) (hM : M < 4294967296) (hA : A < 8 * b.length) : ∀ (d k : Nat) (c : List Int) (s : Bool) (i : Nat), i + d = 32 → Flipped b A i M c → (s = true ↔ ∃ j, j < i ∧ A + j < 8 * b.length ∧ M.testBit j = true) → d < k →
    ladinglaw02_CrcTells.l0 k b (A : Int) (M : Int) c s (i : Int) = some true
  | 0, k, c, s, i, hd, hc, hs, hk => by
    obtain ⟨k, rfl⟩ : ∃ m, k = m + 1 := ⟨k - 1, by omega⟩
    obtain rfl : i = 32 := by omega
    simp only [ladinglaw02_CrcTells.l0]
    rw [if_neg (by decide)]
    cases s with
    | false => exact if_neg (by decide)
    | true =>
      rw [if_pos rfl, of_is, Option.bind_some, of_is, Option.bind_some]
      have := sum_turned hc.1 hb hc.2.1 hc.2.2 (hs.mp rfl)
      have hne : iv (sumOf c) ≠ iv (sumOf b) := fun h => this (iv_inj h)
      rw [bne_iff_ne.mpr hne]
  | d + 1, k, c, s, i, hd, hc, hs, hk => by
    obtain ⟨k, rfl⟩ : ∃ m, k = m + 1 := ⟨k - 1, by omega⟩
    simp only [ladinglaw02_CrcTells.l0]
    have hi : i < 32 := by omega
    have hu : IntKind.u64.wrap (i : Int) = (i : Int) := by
      show (i : Int) % 18446744073709551616 = i
      omega
    have hlt : ((i : Int) < 32) := by omega
    rw [if_pos hlt, wrap_ok (x := (A : Int) + i) (by omega) (by omega), wrap_ok (x := 8 * (b.length : Int)) (by omega) (by omega), hu, wrap_ok (x := (i : Int) + 1) (by omega) (by omega), show ((i : Int) + 1) = ((i + 1 : Nat) : Int) by omega]
    by_cases hin : A + i < 8 * b.length
    · rw [if_pos (by omega), if_pos (by omega)]
      have hsh : shr .u32 (M : Int) (i : Int) = ((M >>> i : Nat) : Int) := by
        unfold shr
        rw [Int.toNat_natCast, Nat.min_eq_left (show i ≤ IntKind.u32.bits from Nat.le_of_lt hi), Nat.shiftRight_eq_div_pow, Int.natCast_ediv]
        norm_cast
      have ht : Int.tmod (shr .u32 (M : Int) (i : Int)) 2 = 1 ↔ M.testBit i = true := by
        rw [hsh, Int.tmod_eq_emod_of_nonneg (Int.natCast_nonneg _), Nat.testBit_eq_decide_div_mod_eq, Nat.shiftRight_eq_div_pow, decide_eq_true_iff]
        omega
      by_cases hbit : M.testBit i = true
      · rw [if_pos (ht.mpr hbit)]
        have hq : Int.tdiv ((A : Int) + i) 8 = (((A + i) / 8 : Nat) : Int) := by
          rw [Int.tdiv_eq_ediv_of_nonneg (by omega)]; omega
        have hm : Int.tmod ((A : Int) + i) 8 = (((A + i) % 8 : Nat) : Int) := by
          rw [Int.tmod_eq_emod_of_nonneg (by omega)]; omega
        have hy : (A + i) % 8 < 8 := Nat.mod_lt _ (by decide)
        have hqlt : (A + i) / 8 < b.length := by omega
        have hu2 : IntKind.u64.wrap (((A + i) % 8 : Nat) : Int) = (((A + i) % 8 : Nat) : Int) := by
          show (((A + i) % 8 : Nat) : Int) % 18446744073709551616 = _
          omega
        rw [hq, hm, hu2, wrap_ok (by omega) (by omega), if_pos (by omega), if_pos (by rw [hc.1]; omega), if_pos (by omega), Int.toNat_natCast]
        generalize hY : (A + i) % 8 = y at *
        generalize hQ : (A + i) / 8 = q at *
        have hpow : shl .u8 1 (y : Int) = ((2 ^ y : Nat) : Int) := by
          have hy' : ∀ y : Nat, y < 8 → shl .u8 1 (y : Int) = ((2 ^ y : Nat) : Int) := by decide
          exact hy' y hy
        have hp256 : 2 ^ y < 256 := Nat.pow_lt_pow_right (a := 2) (by decide) (show y < 8 from hy)
        have hr := rd_bytes hc.2.1 (i := (q : Int)) (by omega) (by rw [hc.1]; omega)
        rw [hpow, xor8 _ _ hr ⟨Int.natCast_nonneg _, Int.ofNat_lt.mpr hp256⟩, Int.toNat_natCast]
        have hset : ((rd c (q : Int)).toNat ^^^ 2 ^ y) < 256 := Nat.xor_lt_two_pow (n := 8) (by omega) hp256
        refine tells_l0 b A M hn hb hM hA d k _ true (i + 1) (by omega) ⟨by rw [List.length_set]; exact hc.1, fun x hx => ?_, fun p hp => ?_⟩ ⟨fun _ => ⟨i, by omega, hin, hbit⟩, fun _ => rfl⟩ (by omega)
        · rcases List.mem_or_eq_of_mem_set hx with h | h
          · exact hc.2.1 x h
          · rw [h]; omega
        · have hold := hc.2.2 p hp
          have hql : q < c.length := by rw [hc.1]; exact hqlt
          by_cases hpq : p / 8 = q
          · have e1 : bitAt (c.set q (((rd c (q : Int)).toNat ^^^ 2 ^ y : Nat) : Int)) p = (bitAt c p ^^ decide (y = p % 8)) := by
              unfold bitAt
              rw [hpq, List.getD_eq_getElem?_getD, List.getElem?_set_self hql, Option.getD_some, Int.toNat_natCast, Nat.testBit_xor, Nat.testBit_two_pow]
              rfl
            rw [e1, hold]
            by_cases hpe : p = A + i
            · subst hpe
              rw [show (A + i) - A = i by omega, hbit]
              simp [hY]
            · have hne : y ≠ p % 8 := by omega
              by_cases h1 : A ≤ p ∧ p < A + i
              · simp [hne, h1, show A ≤ p ∧ p < A + (i + 1) by omega]
              · simp [hne, h1, show ¬ (A ≤ p ∧ p < A + (i + 1)) by omega]
          · have e1 : bitAt (c.set q (((rd c (q : Int)).toNat ^^^ 2 ^ y : Nat) : Int)) p = bitAt c p := by
              unfold bitAt
              rw [List.getD_eq_getElem?_getD, List.getElem?_set_ne (Ne.symm hpq), List.getD_eq_getElem?_getD]
            rw [e1, hold]
            by_cases h1 : A ≤ p ∧ p < A + i
            · simp [h1, show A ≤ p ∧ p < A + (i + 1) by omega]
            · simp [h1, show ¬ (A ≤ p ∧ p < A + (i + 1)) by omega]
      · rw [if_neg (fun h => hbit (ht.mp h))]
        refine tells_l0 b A M hn hb hM hA d k _ s (i + 1) (by omega) ⟨hc.1, hc.2.1, fun p hp => ?_⟩ ?_ (by omega)
        · rw [hc.2.2 p hp]
          by_cases hpe : p = A + i
          · subst hpe
            rw [show (A + i) - A = i by omega]
            simp [hbit]
          · by_cases h1 : A ≤ p ∧ p < A + i
            · simp [h1, show A ≤ p ∧ p < A + (i + 1) by omega]
            · simp [h1, show ¬ (A ≤ p ∧ p < A + (i + 1)) by omega]
        · rw [hs]
          constructor
          · rintro ⟨j, h1, h2, h3⟩; exact ⟨j, by omega, h2, h3⟩
          · rintro ⟨j, h1, h2, h3⟩
            refine ⟨j, ?_, h2, h3⟩
            rcases Nat.lt_or_ge j i with h | h
            · exact h
            · obtain rfl : j = i := by omega
              exact absurd h3 hbit
    · rw [if_neg (by omega)]
      refine tells_l0 b A M hn hb hM hA d k _ s (i + 1) (by omega) ⟨hc.1, hc.2.1, fun p hp => ?_⟩ ?_ (by omega)
      · rw [hc.2.2 p hp]
        by_cases h1 : A ≤ p ∧ p < A + i
        · simp [h1, show A ≤ p ∧ p < A + (i + 1) by omega]
        · simp [h1, show ¬ (A ≤ p ∧ p < A + (i + 1)) by omega]
      · rw [hs]
        constructor
        · rintro ⟨j, h1, h2, h3⟩; exact ⟨j, by omega, h2, h3⟩
        · rintro ⟨j, h1, h2, h3⟩; exact ⟨j, by omega, h2, h3⟩
theorem CrcTells : ladinglaw02_CrcTells.Pure := by
  intro b a m _ hl hw ha hm
  have hb := bytesL_wf hw
  have hm' : 0 ≤ m ∧ m < 4294967296 := by
    simp [Lit.wf, IntKind.min, IntKind.max, IntKind.bits, IntKind.signed] at hm
    omega
  refine ⟨34, ?_⟩
  unfold ladinglaw02_CrcTells.f ladinglaw02_lives.f
  rw [Option.bind_some, if_pos rfl]
  have hj : ∀ x, x = true → ladinglaw02_CrcTells.j0 34 b a m x = some true := by
    rintro x rfl
    simp only [ladinglaw02_CrcTells.j0]; exact if_pos trivial
  by_cases h1 : (b.length : Int) = 0
  · rw [if_pos h1]; exact hj _ rfl
  · rw [if_neg h1]
    by_cases h2 : m = 0
    · rw [if_pos h2]; exact hj _ rfl
    · rw [if_neg h2]
      by_cases h3 : a < 0
      · rw [if_pos h3]; exact hj _ rfl
      · rw [if_neg h3, wrap_ok (by omega) (by omega)]
        by_cases h4 : a ≥ 8 * (b.length : Int)
        · exact hj _ (decide_eq_true h4)
        · rw [decide_eq_false h4]
          simp only [ladinglaw02_CrcTells.j0]
          have hlen : ([] : List Int).length + b.length < 140737488355328 := by rw [List.length_nil]; omega
          rw [if_neg (by decide), Option.bind_some, if_pos hlen, List.nil_append]
          obtain ⟨A, rfl⟩ := Int.eq_ofNat_of_zero_le (show 0 ≤ a by omega)
          obtain ⟨M, rfl⟩ := Int.eq_ofNat_of_zero_le hm'.1
          exact tells_l0 b A M (by omega) hb (by omega) (by omega) 32 33 b false 0 (by omega) ⟨rfl, hb, fun p _ => by simp [show ¬ (A ≤ p ∧ p < A) by omega]⟩ (by simp) (by omega)

end Go.Proofs.Ytmplpfcilllmaaa.Pure
