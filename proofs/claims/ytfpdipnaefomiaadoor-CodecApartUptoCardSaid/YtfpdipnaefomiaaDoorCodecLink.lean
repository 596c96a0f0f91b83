/- Plain: what numbers, whole numbers and texts are written as. -/
import Derived.Test.YtfpdipnaefomiaaDoorPrint6
import Derived.Test.YtfpdipnaefomiaaDoorPrint9
import Derived.Test.YtfpdipnaefomiaaDoorPrint9
import Derived.Test.YtfpdipnaefomiaaDoorPrint9
import Derived.Laws.Bits64
import Derived.Laws.Bits64b
set_option linter.unusedVariables false
namespace Go.Proofs.YtfpdipnaefomiaaDoor.Pure
open Go.RowKit Go.Proofs.YtfpdipnaefomiaaDoor.Print Go.Proofs.YtfpdipnaefomiaaDoorW.PrintWords Go.Proofs.YtfpdipnaefomiaaDoorW.PrintLast Go.Proofs.YtfpdipnaefomiaaDoorW.PrintMore

theorem up {α : Type} {f : Nat → Option α} (hm : ∀ k, LeO (f k) (f (k + 1))) {k n : Nat} {r : α} (h : f k = some r) (hk : k ≤ n) : f n = some r := by
  obtain ⟨d, rfl⟩ : ∃ d, n = k + d := ⟨n - k, by omega⟩
  induction d with
  | zero => exact h
  | succ d ih => exact hm (k + d) r (ih (by omega))
theorem w64 {x : Int} (h0 : -9223372036854775808 ≤ x) (h1 : x ≤ 9223372036854775807) : wrap64 x = x := by unfold wrap64; omega
theorem u64 {x : Int} (h0 : 0 ≤ x) (h1 : x ≤ 18446744073709551615) : IntKind.u64.wrap x = x := by rw [IntKind.wrap_u64]; omega
theorem wf_u8 {x : Int} (h : (Lit.int .u8 x).wf = true) : 0 ≤ x ∧ x < 256 := by
  simp [Lit.wf, IntKind.min, IntKind.max, IntKind.bits, IntKind.signed] at h
  omega
theorem wf_u64 {x : Int} (h : (Lit.int .u64 x).wf = true) : 0 ≤ x ∧ x < 18446744073709551616 := by
  simp [Lit.wf, IntKind.min, IntKind.max, IntKind.bits, IntKind.signed] at h
  omega
theorem wf_i64 {x : Int} (h : (Lit.int .i64 x).wf = true) : -9223372036854775808 ≤ x ∧ x ≤ 9223372036854775807 := by
  simp [Lit.wf, IntKind.min, IntKind.max, IntKind.bits, IntKind.signed] at h
  omega
theorem some_bind {α β : Type} (a : α) (f : α → Option β) : (some a).bind f = f a := rfl
theorem rd_at (l : List Int) (i : Nat) (h : i < l.length) : rd l (i : Int) = l[i] := by
  unfold rd
  rw [Int.toNat_natCast, List.getD_eq_getElem?_getD, List.getElem?_eq_getElem h]; rfl
theorem or128' : ∀ x : Nat, x < 256 → bits .or .u8 (x : Int) 128 = ((x % 128 + 128 : Nat) : Int) := by decide +kernel
theorem and127 : ∀ x : Nat, x < 256 → bits .and .u8 (x : Int) 127 = ((x % 128 : Nat) : Int) := by decide +kernel
/-- A number's groups of seven bits, the lowest ones first. -/
def gr : Nat → Nat → List Int
  | 0, n => [(n : Int)]
  | j + 1, n => if n < 128 then [(n : Int)] else ((n % 128 + 128 : Nat) : Int) :: gr j (n / 128)
theorem gr_len : ∀ j n, 1 ≤ (gr j n).length ∧ (gr j n).length ≤ j + 1
  | 0, n => by simp [gr]
  | j + 1, n => by
    unfold gr
    split
    · simp
    · have := gr_len j (n / 128); simp; omega
theorem groups_is : ∀ (j : Nat) (l : List Int) (n k : Nat), n < 128 ^ (j + 1) → l.length + j < 140737488355328 → codec_groups.l0 (k + j + 1) l (n : Int) = some (l ++ gr j n)
  | 0, l, n, k, hn, hl => by
    unfold codec_groups.l0 gr
    rw [if_neg (by omega), if_pos (by omega)]
    have : ((n : Int)) % 256 = n := by omega
    rw [this]
  | j + 1, l, n, k, hn, hl => by
    rw [show k + (j + 1) + 1 = (k + j + 1) + 1 by omega]
    unfold codec_groups.l0 gr
    by_cases h : n < 128
    · rw [if_neg (by omega), if_pos (by omega), if_pos h]
      have : ((n : Int)) % 256 = n := by omega
      rw [this]
    · rw [if_pos (by omega), if_pos (by omega), if_neg h]
      have e1 : ((n : Int)) % 256 = ((n % 256 : Nat) : Int) := by omega
      have e2 : ((n : Int)) / 128 = ((n / 128 : Nat) : Int) := by omega
      rw [e1, or128' _ (by omega), e2, groups_is j _ (n / 128) k ?_ (by simp; omega)]
      · have : n % 256 % 128 = n % 128 := by omega
        rw [this, List.append_assoc]; rfl
      · rw [Nat.pow_succ] at hn; omega
theorem own_is (l : List Int) (h : l.length < 140737488355328) : codec_own.f l = some l := by
  unfold codec_own.f
  rw [if_pos (by simpa using h)]; rfl
def num (n : Nat) : List Int := gr 9 n
theorem num_len (n : Nat) : 1 ≤ (num n).length ∧ (num n).length ≤ 10 := gr_len 9 n
theorem groups_num (k : Nat) (l : List Int) (n : Nat) (hk : 10 ≤ k) (hn : n < 18446744073709551616) (hl : l.length + 9 < 140737488355328) : codec_groups.f k l (n : Int) = some (l ++ num n) := by
  obtain ⟨d, rfl⟩ : ∃ d, k = d + 9 + 1 := ⟨k - 10, by omega⟩
  exact groups_is 9 l n d (Nat.lt_trans hn (by decide)) hl
theorem num_is (k : Nat) (l : List Int) (n : Nat) (hk : 10 ≤ k) (hn : n < 18446744073709551616) (hl : l.length + 9 < 140737488355328) : codec_Num.f k l (n : Int) = some (l ++ num n) := by
  unfold codec_Num.f
  rw [own_is l (by omega), some_bind, groups_num k l n hk hn hl]; rfl
theorem refNum_l : ∀ (j : Nat) (l : List Int) (n k : Nat), n < 128 ^ (j + 1) → n < 18446744073709551616 → l.length + j < 140737488355328 → ladingref03_Num.l0 (k + j + 1) (n : Int) l = some (l ++ gr j n)
  | 0, l, n, k, hn, _, hl => by
    unfold ladingref03_Num.l0 gr
    rw [if_neg (by omega), if_pos (by omega)]
    have : ((n : Int)) % 256 = n := by omega
    rw [this]
  | j + 1, l, n, k, hn, hn2, hl => by
    rw [show k + (j + 1) + 1 = (k + j + 1) + 1 by omega]
    unfold ladingref03_Num.l0 gr
    by_cases h : n < 128
    · rw [if_neg (by omega), if_pos (by omega), if_pos h]
      have : ((n : Int)) % 256 = n := by omega
      rw [this]
    · rw [if_pos (by omega), if_pos (by omega), if_neg h]
      have e1 : IntKind.u64.wrap (Int.tdiv (n : Int) 128) = ((n / 128 : Nat) : Int) := by rw [Int.tdiv_eq_ediv_of_nonneg (by omega), u64 (by omega) (by omega)]; omega
      have e2 : IntKind.u64.wrap (Int.tmod (n : Int) 128 + 128) % 256 = ((n % 128 + 128 : Nat) : Int) := by rw [Int.tmod_eq_emod_of_nonneg (by omega), u64 (by omega) (by omega)]; omega
      rw [e1, e2, refNum_l j _ (n / 128) k ?_ (by omega) (by simp; omega)]
      · rw [List.append_assoc]; rfl
      · rw [Nat.pow_succ] at hn; omega
theorem refNum_is (k : Nat) (l : List Int) (n : Nat) (hk : 10 ≤ k) (hn : n < 18446744073709551616) (hl : l.length + 9 < 140737488355328) : ladingref03_Num.f k l (n : Int) = some (l ++ num n) := by
  obtain ⟨d, rfl⟩ : ∃ d, k = d + 9 + 1 := ⟨k - 10, by omega⟩
  unfold ladingref03_Num.f
  rw [some_bind, if_pos (by simp; omega), List.nil_append]
  exact refNum_l 9 l n d (Nat.lt_trans hn (by decide)) hn hl
/-- A whole number, folded: the even ones from nought up, the odd ones from -1 down. -/
def zig (m : Int) : Nat := if m < 0 then (-2 * m - 1).toNat else (2 * m).toNat
theorem zig_lt (m : Int) (h0 : -9223372036854775808 ≤ m) (h1 : m ≤ 9223372036854775807) : zig m < 18446744073709551616 := by unfold zig; split <;> omega
theorem xor_ones (x : Nat) (h : x < 18446744073709551616) : bits .xor .u64 (x : Int) 18446744073709551615 = ((18446744073709551615 - x : Nat) : Int) := by
  rw [show (18446744073709551615 : Int) = ((18446744073709551615 : Nat) : Int) from rfl, bits_xor_u64_nat x 18446744073709551615 h (by omega)]
  congr 1
  apply Nat.eq_of_testBit_eq; intro i
  rw [show (18446744073709551615 - x) = 2 ^ 64 - (x + 1) by omega, Nat.testBit_two_pow_sub_succ (by omega), Nat.testBit_xor, show (18446744073709551615 : Nat) = 2 ^ 64 - 1 by decide, Nat.testBit_two_pow_sub_one]
  by_cases hi : i < 64
  · simp [hi]
  · have : x.testBit i = false := Nat.testBit_lt_two_pow (Nat.lt_of_lt_of_le (show x < 2 ^ 64 by omega) (Nat.pow_le_pow_right (by omega) (by omega)))
    simp [hi, this]
theorem xor_zero (x : Nat) (h : x < 18446744073709551616) : bits .xor .u64 (x : Int) 0 = (x : Int) := by
  rw [show (0 : Int) = ((0 : Nat) : Int) from rfl, bits_xor_u64_nat x 0 h (by omega), Nat.xor_zero]
theorem zig_code (m : Int) (h0 : -9223372036854775808 ≤ m) (h1 : m ≤ 9223372036854775807) :
    bits .xor .u64 (IntKind.u64.wrap ((IntKind.u64.wrap m) * 2)) (IntKind.u64.wrap (m / 9223372036854775808)) = ((zig m : Nat) : Int) := by
  unfold zig
  by_cases h : m < 0
  · rw [if_pos h]
    have e1 : IntKind.u64.wrap (m / 9223372036854775808) = 18446744073709551615 := by rw [IntKind.wrap_u64]; omega
    have e2 : IntKind.u64.wrap ((IntKind.u64.wrap m) * 2) = (((18446744073709551616 + 2 * m).toNat : Nat) : Int) := by rw [IntKind.wrap_u64, IntKind.wrap_u64]; omega
    rw [e1, e2, xor_ones _ (by omega)]
    congr 1; omega
  · rw [if_neg h]
    have e1 : IntKind.u64.wrap (m / 9223372036854775808) = 0 := by rw [IntKind.wrap_u64]; omega
    have e2 : IntKind.u64.wrap ((IntKind.u64.wrap m) * 2) = (((2 * m).toNat : Nat) : Int) := by rw [IntKind.wrap_u64, IntKind.wrap_u64]; omega
    rw [e1, e2, xor_zero _ (by omega)]
theorem int_is (k : Nat) (l : List Int) (m : Int) (hk : 10 ≤ k) (h0 : -9223372036854775808 ≤ m) (h1 : m ≤ 9223372036854775807) (hl : l.length + 9 < 140737488355328) : codec_Int.f k l m = some (l ++ num (zig m)) := by
  unfold codec_Int.f
  rw [own_is l (by omega), some_bind, zig_code m h0 h1, groups_num k l _ hk (zig_lt m h0 h1) hl]; rfl
theorem refInt_is (k : Nat) (l : List Int) (m : Int) (hk : 10 ≤ k) (h0 : -9223372036854775808 ≤ m) (h1 : m ≤ 9223372036854775807) (hl : l.length + 9 < 140737488355328) : ladingref03_Int.f k l m = some (l ++ num (zig m)) := by
  have hz := zig_lt m h0 h1
  unfold ladingref03_Int.f
  by_cases h : m < 0
  · rw [if_pos h]
    have e : IntKind.u64.wrap ((IntKind.u64.wrap (2 * (IntKind.u64.wrap (wrap64 (-(wrap64 (m + 1))))))) + 1) = ((zig m : Nat) : Int) := by
      rw [w64 (x := m + 1) (by omega) (by omega), w64 (by omega) (by omega), u64 (x := -(m + 1)) (by omega) (by omega), u64 (x := 2 * -(m + 1)) (by omega) (by omega), u64 (by omega) (by omega)]
      unfold zig; rw [if_pos h]; omega
    rw [e, refNum_is k l _ hk hz hl]; rfl
  · rw [if_neg h]
    have e : IntKind.u64.wrap (2 * (IntKind.u64.wrap m)) = ((zig m : Nat) : Int) := by
      rw [u64 (x := m) (by omega) (by omega), u64 (by omega) (by omega)]
      unfold zig; rw [if_neg h]; omega
    rw [e, refNum_is k l _ hk hz hl]; rfl
theorem text_is (k : Nat) (l : List Int) (s : ByteArray) (hk : 10 ≤ k) (hl : l.length + s.size + 10 < 140737488355328) : codec_Text.f k l s = some (l ++ num s.size ++ bytesOf s) := by
  unfold codec_Text.f
  have := num_len s.size
  rw [u64 (by omega) (by omega), num_is k l s.size hk (by omega) (by omega), some_bind, if_pos (by rw [List.length_append]; omega)]
theorem refText_is (k : Nat) (l : List Int) (s : ByteArray) (hk : 10 ≤ k) (hl : l.length + s.size + 10 < 140737488355328) : ladingref03_Text.f k l s = some (l ++ num s.size ++ bytesOf s) := by
  unfold ladingref03_Text.f
  have := num_len s.size
  rw [u64 (by omega) (by omega), refNum_is k l s.size hk (by omega) (by omega), some_bind, if_pos (by rw [List.length_append]; omega)]
theorem lives_at : ladinglaw03_lives.f 40 = some true := by kernel_rfl
theorem lives_is (k : Nat) (hk : 40 ≤ k) : ladinglaw03_lives.f k = some true := up ladinglaw03_lives.mono lives_at hk
end Go.Proofs.YtfpdipnaefomiaaDoor.Pure
