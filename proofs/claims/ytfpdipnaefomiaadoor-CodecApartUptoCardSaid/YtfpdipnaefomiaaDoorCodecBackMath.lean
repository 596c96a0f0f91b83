/- Plain: what is written is read as what it was, and the other way about. -/
import Derived.Test.YtfpdipnaefomiaaDoorCodecRead
set_option linter.unusedVariables false
namespace Go.Proofs.YtfpdipnaefomiaaDoor.Pure
open Go.RowKit Go.Proofs.YtfpdipnaefomiaaDoor.Print Go.Proofs.YtfpdipnaefomiaaDoorW.PrintWords Go.Proofs.YtfpdipnaefomiaaDoorW.PrintLast Go.Proofs.YtfpdipnaefomiaaDoorW.PrintMore

theorem pow7 (i : Nat) : 2 ^ (7 * (i + 1)) = 128 * 2 ^ (7 * i) := by rw [show 7 * (i + 1) = 7 + 7 * i by omega, Nat.pow_add]
theorem rn_gr : ∀ (j i acc n : Nat) (b : List Int), i + j = 9 → n * 2 ^ (7 * i) < 18446744073709551616 → (i > 0 → n ≠ 0) → rn (gr j n ++ b) i acc = some (acc + n * 2 ^ (7 * i), b)
  | 0, i, acc, n, b, hi, hn, h0 => by
    obtain rfl : i = 9 := by omega
    have h1 : n ≤ 1 := by
      rcases Nat.lt_or_ge 1 n with h | h
      · have : 2 * 2 ^ (7 * 9) ≤ n * 2 ^ (7 * 9) := Nat.mul_le_mul_right _ h
        omega
      · exact h
    have := h0 (by omega)
    show rn ((n : Int) :: b) 9 acc = _
    rw [rn_on n b 9 acc (by omega), if_pos (by omega), Nat.mod_eq_of_lt (by omega)]
  | j + 1, i, acc, n, b, hi, hn, h0 => by
    unfold gr
    by_cases h : n < 128
    · rw [if_pos h]
      show rn ((n : Int) :: b) i acc = _
      rw [rn_on n b i acc (by omega), if_pos (by omega), Nat.mod_eq_of_lt h]
    · rw [if_neg h]
      show rn (((n % 128 + 128 : Nat) : Int) :: (gr j (n / 128) ++ b)) i acc = _
      rw [rn_on _ _ i acc (by omega), if_neg (by omega), show (n % 128 + 128) % 128 = n % 128 by omega]
      have e : (n / 128) * 2 ^ (7 * (i + 1)) + n % 128 * 2 ^ (7 * i) = n * 2 ^ (7 * i) := by
        rw [pow7, ← Nat.mul_assoc, ← Nat.add_mul]
        congr 1; omega
      rw [rn_gr j (i + 1) _ (n / 128) b (by omega) (by omega) (by omega)]
      congr 2; omega
theorem rn_num (n : Nat) (b : List Int) (hn : n < 18446744073709551616) : rn (num n ++ b) 0 0 = some (n, b) := by
  have := rn_gr 9 0 0 n b rfl (by simpa using hn) (by omega)
  simpa [num] using this
theorem gr_rn : ∀ (l : List Int) (i acc n : Nat) (r : List Int), BytesL l → i ≤ 9 → rn l i acc = some (n, r) → ∃ n', n = acc + n' * 2 ^ (7 * i) ∧ l = gr (9 - i) n' ++ r ∧ (i > 0 → n' ≠ 0)
  | [], _, _, _, _, _, _, h => by simp [rn] at h
  | x :: t, i, acc, n, r, hb, hi, h => by
    have hx := hb x (by simp)
    obtain ⟨y, rfl⟩ : ∃ y : Nat, x = y := ⟨x.toNat, by omega⟩
    by_cases hs : i > 9 ∨ (i = 9 ∧ y % 128 > 1) ∨ (i > 0 ∧ y = 0)
    · rw [rn_stop y t i acc hs] at h; cases h
    · rw [rn_on y t i acc hs] at h
      by_cases g : (y : Int) < 128
      · rw [if_pos g] at h
        simp only [Option.some.injEq, Prod.mk.injEq] at h
        obtain ⟨rfl, rfl⟩ := h
        refine ⟨y, by rw [Nat.mod_eq_of_lt (by omega)], ?_, by omega⟩
        have : gr (9 - i) y = [(y : Int)] := by
          cases 9 - i with
          | zero => rfl
          | succ j => unfold gr; rw [if_pos (by omega)]
        rw [this]; rfl
      · rw [if_neg g] at h
        have h9 : i + 1 ≤ 9 := by
          rcases Nat.lt_or_ge i 9 with h1 | h1
          · omega
          · obtain rfl : i = 9 := by omega
            have e : rn t (9 + 1) (acc + y % 128 * 2 ^ (7 * 9)) = none := by cases t <;> simp [rn]
            rw [e] at h; cases h
        obtain ⟨n', e1, e2, e3⟩ := gr_rn t (i + 1) _ n r (fun z hz => hb z (by simp [hz])) h9 h
        have h3 := e3 (by omega)
        refine ⟨y % 128 + 128 * n', ?_, ?_, by omega⟩
        · rw [e1, pow7, Nat.add_mul, Nat.mul_comm 128 n', Nat.mul_assoc]; omega
        · rw [show 9 - i = (9 - (i + 1)) + 1 by omega]
          unfold gr
          rw [if_neg (by omega), show (y % 128 + 128 * n') % 128 + 128 = y by omega, show (y % 128 + 128 * n') / 128 = n' by omega, e2]
          rfl
theorem num_rn (l : List Int) (n : Nat) (r : List Int) (hb : BytesL l) (h : rn l 0 0 = some (n, r)) : num n ++ r = l := by
  obtain ⟨n', e1, e2, _⟩ := gr_rn l 0 0 n r hb (by omega) h
  have : n = n' := by simpa using e1
  subst this
  exact e2.symm
theorem zag_zig (m : Int) : zag (zig m) = m := by
  unfold zag zig
  by_cases h : m < 0
  · rw [if_pos h, if_pos (by omega)]; omega
  · rw [if_neg h, if_neg (by omega)]; omega
theorem gr_bytes : ∀ (j n : Nat), n < 128 ^ (j + 1) → BytesL (gr j n)
  | 0, n, h => by intro x hx; simp only [gr, List.mem_singleton] at hx; subst hx; omega
  | j + 1, n, h => by
    unfold gr
    split
    · intro x hx; simp only [List.mem_singleton] at hx; subst hx; omega
    · intro x hx
      rcases List.mem_cons.1 hx with rfl | hx
      · omega
      · exact gr_bytes j (n / 128) (by rw [Nat.pow_succ] at h; omega) x hx
theorem num_bytes (n : Nat) (h : n < 18446744073709551616) : BytesL (num n) := gr_bytes 9 n (Nat.lt_trans h (by decide))
theorem bytesL_append {a b : List Int} (ha : BytesL a) (hb : BytesL b) : BytesL (a ++ b) := fun x hx => by
  rcases List.mem_append.1 hx with h | h
  · exact ha x h
  · exact hb x h
theorem strOf_bytesOf (s : ByteArray) : strOfNums (bytesOf s) = s := by
  unfold strOfNums bytesOf
  rw [List.map_map]
  have : s.data.toList.map ((fun n : Int => UInt8.ofNat n.toNat) ∘ fun b : UInt8 => (b.toNat : Int)) = s.data.toList := by
    conv => rhs; rw [← List.map_id s.data.toList]
    apply List.map_congr_left
    intro b _
    show UInt8.ofNat ((b.toNat : Int)).toNat = b
    rw [Int.toNat_natCast, UInt8.ofNat_toNat]
  rw [this]
theorem bytesOf_strOf (l : List Int) (h : BytesL l) : bytesOf (strOfNums l) = l := by
  unfold bytesOf
  rw [strOfNums_data, List.map_map]
  conv => rhs; rw [← List.map_id l]
  apply List.map_congr_left
  intro x hx
  have := h x hx
  show ((UInt8.ofNat x.toNat).toNat : Int) = x
  rw [UInt8.toNat_ofNat', Nat.mod_eq_of_lt (by omega)]; omega
theorem bytesOf_bytes (s : ByteArray) : BytesL (bytesOf s) := by
  intro x hx
  obtain ⟨b, _, rfl⟩ := List.mem_map.1 hx
  have := b.toNat_lt
  omega
end Go.Proofs.YtfpdipnaefomiaaDoor.Pure
