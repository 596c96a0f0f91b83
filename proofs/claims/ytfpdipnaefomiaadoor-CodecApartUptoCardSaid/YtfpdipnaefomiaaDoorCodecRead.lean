/- Plain: what bytes are read as a number, a whole number, a text. -/
import Derived.Test.YtfpdipnaefomiaaDoorPrint17
import Derived.Test.YtfpdipnaefomiaaDoorPrint17
import Derived.Test.YtfpdipnaefomiaaDoorPrint16
import Derived.Test.YtfpdipnaefomiaaDoorCodecLink
set_option linter.unusedVariables false
namespace Go.Proofs.YtfpdipnaefomiaaDoor.Pure
open Go.RowKit Go.Proofs.YtfpdipnaefomiaaDoor.Print Go.Proofs.YtfpdipnaefomiaaDoorW.PrintWords Go.Proofs.YtfpdipnaefomiaaDoorW.PrintLast Go.Proofs.YtfpdipnaefomiaaDoorW.PrintMore

def BytesL (l : List Int) : Prop := ∀ x ∈ l, 0 ≤ x ∧ x < 256
/-- A number's groups, read from the i-th one on; acc: what was read. -/
def rn : List Int → Nat → Nat → Option (Nat × List Int)
  | [], _, _ => none
  | x :: r, i, acc =>
    if i > 9 then none else if i = 9 ∧ x.toNat % 128 > 1 then none else if i > 0 ∧ x = 0 then none
    else if x < 128 then some (acc + x.toNat % 128 * 2 ^ (7 * i), r) else rn r (i + 1) (acc + x.toNat % 128 * 2 ^ (7 * i))
theorem rn_stop (y : Nat) (d : List Int) (i acc : Nat) (h : i > 9 ∨ (i = 9 ∧ y % 128 > 1) ∨ (i > 0 ∧ y = 0)) : rn ((y : Int) :: d) i acc = none := by
  unfold rn
  rw [Int.toNat_natCast]
  by_cases h1 : i > 9
  · rw [if_pos h1]
  · rw [if_neg h1]
    by_cases h2 : i = 9 ∧ y % 128 > 1
    · rw [if_pos h2]
    · rw [if_neg h2, if_pos (by omega)]
theorem rn_on (y : Nat) (d : List Int) (i acc : Nat) (h : ¬ (i > 9 ∨ (i = 9 ∧ y % 128 > 1) ∨ (i > 0 ∧ y = 0))) :
    rn ((y : Int) :: d) i acc = if (y : Int) < 128 then some (acc + y % 128 * 2 ^ (7 * i), d) else rn d (i + 1) (acc + y % 128 * 2 ^ (7 * i)) := by
  conv => lhs; unfold rn
  rw [Int.toNat_natCast, if_neg (by omega), if_neg (by omega), if_neg (by omega)]
theorem pow_step (i acc y : Nat) (ha : acc < 2 ^ (7 * i)) (hy : y < 128) : acc + y * 2 ^ (7 * i) < 2 ^ (7 * (i + 1)) := by
  rw [show 7 * (i + 1) = 7 * i + 7 by omega, Nat.pow_add]
  have : (y + 1) * 2 ^ (7 * i) ≤ 2 ^ 7 * 2 ^ (7 * i) := Nat.mul_le_mul_right _ (by omega)
  rw [Nat.mul_comm (2 ^ (7 * i))]
  rw [Nat.add_mul] at this
  omega
theorem pow_64 (i acc y : Nat) (hi : i ≤ 9) (ha : acc < 2 ^ (7 * i)) (hy : y < 128) (h9 : i = 9 → y ≤ 1) : acc + y * 2 ^ (7 * i) < 18446744073709551616 := by
  by_cases h : i = 9
  · subst h
    have := h9 rfl
    have : y * 2 ^ 63 ≤ 1 * 2 ^ 63 := Nat.mul_le_mul_right _ this
    omega
  · have h1 := pow_step i acc y ha hy
    have h2 : 2 ^ (7 * (i + 1)) ≤ 2 ^ 63 := Nat.pow_le_pow_right (by omega) (by omega)
    omega
theorem shl_at (y i : Nat) (hi : i ≤ 9) (hy : y < 128) (h9 : i = 9 → y ≤ 1) : shl .u64 (y : Int) (((7 * i : Nat) : Int)) = ((y * 2 ^ (7 * i) : Nat) : Int) := by
  have h1 := pow_64 i 0 y hi (Nat.two_pow_pos _) hy h9
  unfold shl
  rw [Int.toNat_natCast, Nat.min_eq_left (show 7 * i ≤ IntKind.bits .u64 by show 7 * i ≤ 64; omega)]
  rw [show (y : Int) * 2 ^ (7 * i) = ((y * 2 ^ (7 * i) : Nat) : Int) by push_cast; rfl, u64 (by omega) (by omega)]
theorem or_add (acc y i : Nat) (hi : i ≤ 9) (ha : acc < 2 ^ (7 * i)) (hy : y < 128) (h9 : i = 9 → y ≤ 1) :
    bits .or .u64 (acc : Int) ((y * 2 ^ (7 * i) : Nat) : Int) = ((acc + y * 2 ^ (7 * i) : Nat) : Int) := by
  have h1 := pow_64 i acc y hi ha hy h9
  rw [bits_or_u64_nat _ _ (by omega) (by omega)]
  congr 1
  have := Nat.two_pow_add_eq_or_of_lt ha y
  rw [Nat.or_comm, Nat.mul_comm y, ← this]; omega
theorem fail_is (l : List Int) (e : Int) : codec_cursor_fail.f l 0 e = some (l, e) := by unfold codec_cursor_fail.f; rw [if_pos rfl]
theorem fail_not (l : List Int) (a e : Int) (h : a ≠ 0) : codec_cursor_fail.f l a e = some (l, a) := by unfold codec_cursor_fail.f; rw [if_neg h]
/-- What a cursor's number is: the number, what is left, and why. -/
def numOut (l : List Int) (o : Option (Nat × List Int)) : Int × List Int × Int := match o with | some (n, r) => ((n : Int), r, 0) | none => (0, l, 6)
theorem drop_cons {l d : List Int} {i : Nat} {x : Int} (h : l.drop i = x :: d) : i < l.length ∧ rd l (i : Int) = x ∧ l.drop (i + 1) = d ∧ x ∈ l := by
  have hi : i < l.length := by
    rcases Nat.lt_or_ge i l.length with h1 | h1
    · exact h1
    · rw [List.drop_eq_nil_of_le h1] at h; cases h
  have h2 := List.drop_eq_getElem_cons hi
  rw [h] at h2
  injection h2 with h3 h4
  exact ⟨hi, by rw [rd_at l i hi, h3], h4.symm, by rw [h3]; exact List.getElem_mem hi⟩
theorem cnum_l (l : List Int) (hb : BytesL l) (hl : l.length < 9223372036854775807) : ∀ (m i acc k : Nat) (d : List Int), i + m = 10 → l.drop i = d → acc < 2 ^ (7 * i) →
    codec_cursor_num.l0 (k + 2 * m + 2) (acc : Int) l (l.length : Int) (i : Int) l 0 = some (numOut l (rn d i acc)) := by
  intro m
  induction m with
  | zero =>
    intro i acc k d hi hd ha
    obtain rfl : i = 10 := by omega
    unfold codec_cursor_num.l0
    by_cases h : (10 : Nat) < l.length
    · rw [if_pos (by omega), if_pos (by omega), if_pos (by omega), if_pos rfl, if_pos (by omega)]
      unfold codec_cursor_num.j1
      rw [if_pos rfl, fail_is, some_bind]
      rw [List.drop_eq_getElem_cons h] at hd
      subst hd
      simp [rn, numOut]
    · rw [if_neg (by omega), fail_is, some_bind]
      rw [List.drop_eq_nil_of_le (by omega)] at hd
      subst hd
      rfl
  | succ m ih =>
    intro i acc k d hi hd ha
    rw [show k + 2 * (m + 1) + 2 = ((k + 2 * m + 2) + 1) + 1 by omega]
    unfold codec_cursor_num.l0
    cases d with
    | nil =>
      have : l.length ≤ i := by
        rcases Nat.lt_or_ge i l.length with h1 | h1
        · rw [List.drop_eq_getElem_cons h1] at hd; cases hd
        · exact h1
      rw [if_neg (by omega), fail_is, some_bind]; rfl
    | cons x d =>
      obtain ⟨h1, h2, h3, h4⟩ := drop_cons hd
      have hx := hb x h4
      obtain ⟨y, rfl⟩ : ∃ y : Nat, x = y := ⟨x.toNat, by omega⟩
      have e1 : IntKind.u64.wrap (bits .and .u8 (rd l (i : Int)) 127) = ((y % 128 : Nat) : Int) := by rw [h2, and127 y (by omega), u64 (by omega) (by omega)]
      rw [if_pos (by omega), if_pos (by omega), if_pos (by omega), if_pos rfl, if_neg (by omega), e1, h2]
      have go : ∀ b : Bool, (b = true ↔ (i = 9 ∧ y % 128 > 1) ∨ (i > 0 ∧ y = 0)) →
          codec_cursor_num.j1 (k + 2 * m + 2 + 1) (acc : Int) (i : Int) (y : Int) ((y % 128 : Nat) : Int) l (l.length : Int) (i : Int) b l 0 = some (numOut l (rn ((y : Int) :: d) i acc)) := by
        intro b hbv
        unfold codec_cursor_num.j1
        cases b with
        | true =>
          rw [if_pos rfl, fail_is, some_bind]
          have := hbv.1 rfl
          rw [rn_stop y d i acc (.inr this)]; rfl
        | false =>
          have hn : ¬ ((i = 9 ∧ y % 128 > 1) ∨ (i > 0 ∧ y = 0)) := fun h => by have := hbv.2 h; cases this
          have h9 : i = 9 → y % 128 ≤ 1 := by omega
          have p64 := pow_64 i acc (y % 128) (by omega) ha (by omega) h9
          rw [if_neg (by decide), w64 (x := 7 * (i : Int)) (by omega) (by omega), if_pos (by omega), show (7 * (i : Int)) = ((7 * i : Nat) : Int) by omega, shl_at (y % 128) i (by omega) (by omega) h9, or_add acc (y % 128) i (by omega) ha (by omega) h9]
          rw [rn_on y d i acc (by omega), w64 (x := (i : Int) + 1) (by omega) (by omega)]
          by_cases g : (y : Int) < 128
          · rw [if_pos g, if_pos (by omega), if_pos (by omega), if_pos g, show ((i : Int) + 1).toNat = i + 1 by omega, h3]; rfl
          · rw [if_neg g, if_neg g]
            exact ih (i + 1) _ k d (by omega) h3 (pow_step i acc (y % 128) ha (by omega))
      by_cases g9 : i = 9
      · rw [if_pos (by omega)]
        by_cases g1 : y % 128 > 1
        · rw [if_pos (by omega)]; exact go true ⟨fun _ => .inl ⟨g9, g1⟩, fun _ => rfl⟩
        · rw [if_neg (by omega), if_pos (by omega)]
          exact go _ ⟨fun h => by have : (y : Int) = 0 := by simpa using h
                                  exact .inr (by omega), fun h => by have : (y : Int) = 0 := by omega
                                                                     simpa using this⟩
      · rw [if_neg (by omega)]
        by_cases g0 : i > 0
        · rw [if_pos (by omega)]
          exact go _ ⟨fun h => by have : (y : Int) = 0 := by simpa using h
                                  exact .inr (by omega), fun h => by have : (y : Int) = 0 := by omega
                                                                     simpa using this⟩
        · rw [if_neg (by omega)]
          exact go false ⟨fun h => absurd h (by decide), fun h => by omega⟩
theorem cnum_is (k : Nat) (l : List Int) (hk : 22 ≤ k) (hb : BytesL l) (hl : l.length < 140737488355328) : codec_cursor_num.f k l 0 = some (numOut l (rn l 0 0)) := by
  obtain ⟨d, rfl⟩ : ∃ d, k = d + 2 * 10 + 2 := ⟨k - 22, by omega⟩
  unfold codec_cursor_num.f
  exact cnum_l l hb (by omega) 10 0 0 d l rfl rfl (by simp)
theorem rn_shorter : ∀ (l : List Int) (i acc : Nat) (n : Nat) (r : List Int), rn l i acc = some (n, r) → r.length < l.length ∧ (∃ p, l = p ++ r)
  | [], _, _, _, _, h => by simp [rn] at h
  | x :: t, i, acc, n, r, h => by
    unfold rn at h
    split at h
    · cases h
    · split at h
      · cases h
      · split at h
        · cases h
        · split at h
          · simp only [Option.some.injEq, Prod.mk.injEq] at h
            obtain ⟨_, rfl⟩ := h
            exact ⟨by simp, [x], rfl⟩
          · obtain ⟨h1, p, hp⟩ := rn_shorter t _ _ n r h
            exact ⟨by simp; omega, x :: p, by rw [hp]; rfl⟩
theorem rn_lt (l : List Int) : ∀ (i acc n : Nat) (r : List Int), acc < 2 ^ (7 * i) → rn l i acc = some (n, r) → n < 18446744073709551616 := by
  induction l with
  | nil => intro i acc n r _ h; simp [rn] at h
  | cons x t ih =>
    intro i acc n r ha h
    unfold rn at h
    split at h
    · cases h
    · split at h
      · cases h
      · split at h
        · cases h
        · rename_i g1 g2 g3
          have := pow_64 i acc (x.toNat % 128) (by omega) ha (by omega) (fun h9 => by have : ¬ x.toNat % 128 > 1 := fun h1 => g2 ⟨h9, h1⟩
                                                                                      omega)
          split at h
          · simp only [Option.some.injEq, Prod.mk.injEq] at h
            omega
          · exact ih _ _ n r (pow_step i acc _ ha (by omega)) h
/-- What bytes are read as: the number, what is behind, and why. -/
def readOut (o : Option (Nat × List Int)) : Int × List Int × Int := match o with | some (n, r) => ((n : Int), r, 0) | none => (0, [], 6)
theorem rest_is (l : List Int) (hl : l.length < 140737488355328) : codec_cursor_rest.f l 0 = some l := by
  unfold codec_cursor_rest.f
  rw [if_pos rfl, own_is l hl]; rfl
theorem rest_not (l : List Int) (a : Int) (h : a ≠ 0) : codec_cursor_rest.f l a = some [] := by
  unfold codec_cursor_rest.f
  rw [if_neg h]
theorem read_is (k : Nat) (l : List Int) (hk : 22 ≤ k) (hb : BytesL l) (hl : l.length < 140737488355328) : codec_ReadNum.f k l = some (readOut (rn l 0 0)) := by
  unfold codec_ReadNum.f
  rw [cnum_is k l hk hb hl, some_bind]
  cases h : rn l 0 0 with
  | none => simp only [numOut]; rw [rest_not l 6 (by decide), some_bind]; rfl
  | some z => obtain ⟨n, r⟩ := z; have := (rn_shorter l 0 0 n r h).1; simp only [numOut]; rw [rest_is r (by omega), some_bind]; rfl
theorem refRead_l (l : List Int) (hb : BytesL l) (hl : l.length < 140737488355328) : ∀ (m i acc k : Nat) (d : List Int), i + m = 10 → l.drop i = d → acc < 2 ^ (7 * i) →
    ladingref03_ReadNum.l0 (k + 3 * m + 2) l (acc : Int) (i : Int) = some (readOut (rn d i acc)) := by
  intro m
  induction m with
  | zero =>
    intro i acc k d hi hd ha
    obtain rfl : i = 10 := by omega
    unfold ladingref03_ReadNum.l0
    have e : rn d 10 acc = none := by cases d <;> simp [rn]
    rw [e]
    by_cases h : ((10 : Nat) : Int) < (l.length : Int)
    · rw [if_pos h, decide_eq_false (by omega)]; unfold ladingref03_ReadNum.j1; rw [if_neg (by decide)]; rfl
    · rw [if_neg h]; unfold ladingref03_ReadNum.j1; rw [if_neg (by decide)]; rfl
  | succ m ih =>
    intro i acc k d hi hd ha
    rw [show k + 3 * (m + 1) + 2 = ((k + 3 * m + 2) + 1 + 1) + 1 by omega]
    unfold ladingref03_ReadNum.l0
    cases d with
    | nil =>
      have : l.length ≤ i := by
        rcases Nat.lt_or_ge i l.length with h1 | h1
        · rw [List.drop_eq_getElem_cons h1] at hd; cases hd
        · exact h1
      rw [if_neg (by omega)]; unfold ladingref03_ReadNum.j1; rw [if_neg (by decide)]; rfl
    | cons x d =>
      obtain ⟨h1, h2, h3, h4⟩ := drop_cons hd
      have hx := hb x h4
      obtain ⟨y, rfl⟩ : ∃ y : Nat, x = y := ⟨x.toNat, by omega⟩
      have e1 : IntKind.u64.wrap (Int.tmod (rd l (i : Int)) 128) = ((y % 128 : Nat) : Int) := by rw [h2, Int.tmod_eq_emod_of_nonneg (by omega), u64 (by omega) (by omega)]; omega
      rw [if_pos (by omega), decide_eq_true (by omega)]
      unfold ladingref03_ReadNum.j1
      rw [if_pos rfl, if_pos (by omega), if_pos (by omega), e1]
      have go : ∀ b : Bool, (b = true ↔ (i = 9 ∧ y % 128 > 1)) → ladingref03_ReadNum.j2 (k + 3 * m + 2 + 1) l (acc : Int) (i : Int) ((y % 128 : Nat) : Int) b = some (readOut (rn ((y : Int) :: d) i acc)) := by
        intro b hbv
        unfold ladingref03_ReadNum.j2
        cases b with
        | true =>
          have := hbv.1 rfl
          rw [if_pos rfl]
          rw [rn_stop y d i acc (.inr (.inl this))]; rfl
        | false =>
          have hn : ¬ (i = 9 ∧ y % 128 > 1) := fun h => by have := hbv.2 h; cases this
          have h9 : i = 9 → y % 128 ≤ 1 := by omega
          have p64 := pow_64 i acc (y % 128) (by omega) ha (by omega) h9
          have hlen : (l.drop (i + 1)).length ≤ l.length := by rw [List.length_drop]; omega
          rw [if_neg (by decide), w64 (x := 7 * (i : Int)) (by omega) (by omega), u64 (x := 7 * (i : Int)) (by omega) (by omega), if_pos (by omega), if_pos (by omega), if_pos (by omega), h2, show (7 * (i : Int)) = ((7 * i : Nat) : Int) by omega, shl_at (y % 128) i (by omega) (by omega) h9,
            w64 (x := (i : Int) + 1) (by omega) (by omega), show (acc : Int) + ((y % 128 * 2 ^ (7 * i) : Nat) : Int) = ((acc + y % 128 * 2 ^ (7 * i) : Nat) : Int) by omega, u64 (x := ((acc + y % 128 * 2 ^ (7 * i) : Nat) : Int)) (by omega) (by omega), show ((i : Int) + 1).toNat = i + 1 by omega]
          by_cases g : (y : Int) < 128
          · rw [if_pos g]
            by_cases g0 : (y : Int) = 0
            · rw [if_pos g0]
              by_cases gi : (i : Int) > 0
              · rw [if_pos gi, rn_stop y d i acc (by omega)]; rfl
              · rw [if_neg gi, some_bind, if_pos (by omega), if_pos (by omega), if_pos (by simp only [List.length_nil]; omega), rn_on y d i acc (by omega), if_pos g, h3]; rfl
            · rw [if_neg g0, some_bind, if_pos (by omega), if_pos (by omega), if_pos (by simp only [List.length_nil]; omega), rn_on y d i acc (by omega), if_pos g, h3]; rfl
          · rw [if_neg g, rn_on y d i acc (by omega), if_neg g]
            exact ih (i + 1) _ (k + 0) d (by omega) h3 (pow_step i acc (y % 128) ha (by omega))
      by_cases g9 : (i : Int) = 9
      · rw [if_pos g9]
        exact go _ ⟨fun h => by have : ((y % 128 : Nat) : Int) > 1 := by simpa using h
                                omega, fun h => by have : ((y % 128 : Nat) : Int) > 1 := by omega
                                                   simpa using this⟩
      · rw [if_neg g9]
        exact go false ⟨fun h => absurd h (by decide), fun h => by omega⟩
theorem refRead_is (k : Nat) (l : List Int) (hk : 32 ≤ k) (hb : BytesL l) (hl : l.length < 140737488355328) : ladingref03_ReadNum.f k l = some (readOut (rn l 0 0)) := by
  obtain ⟨d, rfl⟩ : ∃ d, k = d + 3 * 10 + 2 := ⟨k - 32, by omega⟩
  unfold ladingref03_ReadNum.f
  exact refRead_l l hb hl 10 0 0 d l rfl rfl (by simp)
/-- What a number is unfolded to. -/
def zag (n : Nat) : Int := if n % 2 = 1 then -((n / 2 : Nat) : Int) - 1 else ((n / 2 : Nat) : Int)
theorem xor_i64_ones (x : Int) (h0 : 0 ≤ x) (h1 : x ≤ 9223372036854775807) : bits .xor .i64 x (-1) = -x - 1 := by
  have e : BitVec.ofInt 64 (-1) = BitVec.allOnes 64 := by decide
  show IntKind.i64.wrap ((BitVec.ofInt 64 x ^^^ BitVec.ofInt 64 (-1)).toNat : Int) = _
  rw [e, BitVec.xor_allOnes, BitVec.toNat_not, BitVec.toNat_ofInt]
  have : (x % ((2 ^ 64 : Nat) : Int)).toNat = x.toNat := by
    rw [Int.emod_eq_of_lt h0 (by have : ((2 ^ 64 : Nat) : Int) = 18446744073709551616 := by decide
                                 omega)]
  rw [this]
  have e64 : (2 : Nat) ^ 64 = 18446744073709551616 := by decide
  rw [IntKind.wrap_i64]
  omega
theorem xor_i64_zero (x : Int) (h0 : 0 ≤ x) (h1 : x ≤ 9223372036854775807) : bits .xor .i64 x 0 = x := by
  show IntKind.i64.wrap ((BitVec.ofInt 64 x ^^^ BitVec.ofInt 64 0).toNat : Int) = _
  rw [show BitVec.ofInt 64 0 = 0#64 by decide, BitVec.xor_zero, BitVec.toNat_ofInt]
  have : (x % ((2 ^ 64 : Nat) : Int)).toNat = x.toNat := by
    rw [Int.emod_eq_of_lt h0 (by have : ((2 ^ 64 : Nat) : Int) = 18446744073709551616 := by decide
                                 omega)]
  rw [this, IntKind.wrap_i64]
  omega
theorem and_one (n : Nat) (h : n < 18446744073709551616) : bits .and .u64 (n : Int) 1 = ((n % 2 : Nat) : Int) := by
  rw [show (1 : Int) = ((1 : Nat) : Int) from rfl, bits_and_u64_nat n 1 h (by omega), Nat.and_one_is_mod]
theorem zag_code (n : Nat) (h : n < 18446744073709551616) : bits .xor .i64 (wrap64 ((n : Int) / 2)) (wrap64 (-(wrap64 (bits .and .u64 (n : Int) 1)))) = zag n := by
  unfold zag
  rw [and_one n h, w64 (x := (n : Int) / 2) (by omega) (by omega), w64 (x := ((n % 2 : Nat) : Int)) (by omega) (by omega), w64 (by omega) (by omega)]
  by_cases g : n % 2 = 1
  · rw [if_pos g, g, show (-((1 : Nat) : Int)) = -1 from rfl, xor_i64_ones _ (by omega) (by omega)]; omega
  · rw [if_neg g, show n % 2 = 0 by omega, show (-((0 : Nat) : Int)) = 0 from rfl, xor_i64_zero _ (by omega) (by omega)]; omega
def intOut (o : Option (Nat × List Int)) : Int × List Int × Int := match o with | some (n, r) => (zag n, r, 0) | none => (0, [], 6)
theorem readInt_is (k : Nat) (l : List Int) (hk : 22 ≤ k) (hb : BytesL l) (hl : l.length < 140737488355328) : codec_ReadInt.f k l = some (intOut (rn l 0 0)) := by
  unfold codec_ReadInt.f
  rw [read_is k l hk hb hl, some_bind]
  cases h : rn l 0 0 with
  | none =>
    have := zag_code 0 (by omega)
    show some (bits .xor .i64 (wrap64 (((0 : Nat) : Int) / 2)) (wrap64 (-(wrap64 (bits .and .u64 ((0 : Nat) : Int) 1)))), ([] : List Int), (6 : Int)) = _
    rw [this]; rfl
  | some z =>
    obtain ⟨n, r⟩ := z
    have := zag_code n (rn_lt l 0 0 n r (by simp) h)
    show some (bits .xor .i64 (wrap64 ((n : Int) / 2)) (wrap64 (-(wrap64 (bits .and .u64 (n : Int) 1)))), r, (0 : Int)) = _
    rw [this]; rfl
theorem refReadInt_is (k : Nat) (l : List Int) (hk : 32 ≤ k) (hb : BytesL l) (hl : l.length < 140737488355328) : ladingref03_ReadInt.f k l = some (intOut (rn l 0 0)) := by
  unfold ladingref03_ReadInt.f
  rw [refRead_is k l hk hb hl, some_bind]
  cases h : rn l 0 0 with
  | none => exact (if_neg (show ¬ (6 : Int) = 0 by decide)).trans rfl
  | some z =>
    obtain ⟨n, r⟩ := z
    have hn := rn_lt l 0 0 n r (by simp) h
    refine (if_pos (show (0 : Int) = 0 from rfl)).trans ?_
    show (if Int.tmod (n : Int) 2 = 1 then some (wrap64 ((wrap64 (-(wrap64 (IntKind.u64.wrap (Int.tdiv (n : Int) 2))))) - 1), r, (0 : Int)) else some (wrap64 (IntKind.u64.wrap (Int.tdiv (n : Int) 2)), r, 0)) = some (zag n, r, 0)
    rw [Int.tmod_eq_emod_of_nonneg (by omega), Int.tdiv_eq_ediv_of_nonneg (by omega), u64 (x := (n : Int) / 2) (by omega) (by omega), w64 (x := (n : Int) / 2) (by omega) (by omega), w64 (x := -((n : Int) / 2)) (by omega) (by omega), w64 (by omega) (by omega)]
    unfold zag
    by_cases g : n % 2 = 1
    · rw [if_pos (by omega), if_pos g]; rfl
    · rw [if_neg (by omega), if_neg g]; rfl
/-- What a text of so many bytes at most is read as: its bytes, what is behind, and why. -/
def textOut (most : Nat) (o : Option (Nat × List Int)) : List Int × List Int × Int := match o with
  | some (n, r) => if n > most then ([], [], 4) else if n > r.length then ([], [], 6) else (r.take n, r.drop n, 0)
  | none => ([], [], 6)
/-- .. and a cursor's text: what is left. -/
def ctextOut (l : List Int) (most : Nat) (o : Option (Nat × List Int)) : List Int × List Int × Int := match o with
  | some (n, r) => if n > most then ([], r, 4) else if n > r.length then ([], r, 6) else (r.take n, r.drop n, 0)
  | none => ([], l, 6)
theorem take_err (l : List Int) (a n : Int) (h : a ≠ 0) : codec_cursor_take.f l a n = some ([], l, a) := by
  unfold codec_cursor_take.f
  rw [fail_not l a 6 h, some_bind]
  split <;> first | rfl | exact (if_neg h).trans rfl
theorem take_is (l : List Int) (n : Nat) (hl : l.length < 140737488355328) : codec_cursor_take.f l 0 (n : Int) = some (if n > l.length then ([], l, 6) else (l.take n, l.drop n, 0)) := by
  unfold codec_cursor_take.f
  rw [u64 (by omega) (by omega), fail_is, some_bind]
  by_cases h : n > l.length
  · rw [if_pos (by omega), if_pos h]
    exact (if_neg (show ¬ (6 : Int) = 0 by decide)).trans rfl
  · rw [if_neg (by omega), if_pos rfl, if_pos (by omega), if_pos (by omega), if_neg h, Int.toNat_natCast, own_is _ (by rw [List.length_take]; omega)]; rfl
theorem ctext_is (k : Nat) (l : List Int) (most : Nat) (hk : 22 ≤ k) (hb : BytesL l) (hl : l.length < 140737488355328) : codec_cursor_text.f k l 0 (most : Int) = some (ctextOut l most (rn l 0 0)) := by
  obtain ⟨d, rfl⟩ : ∃ d, k = d + 1 := ⟨k - 1, by omega⟩
  unfold codec_cursor_text.f
  rw [cnum_is _ l hk hb hl, some_bind]
  cases h : rn l 0 0 with
  | none =>
    refine (if_neg (show ¬ (6 : Int) = 0 by decide)).trans ?_
    show codec_cursor_text.j0 (d + 1) 0 false l 6 = some ([], l, 6)
    rw [codec_cursor_text.j0, if_neg (by decide), take_err l 6 0 (by decide)]; rfl
  | some z =>
    obtain ⟨n, r⟩ := z
    have hr := (rn_shorter l 0 0 n r h).1
    refine (if_pos (show (0 : Int) = 0 from rfl)).trans ?_
    show codec_cursor_text.j0 (d + 1) (n : Int) (decide ((n : Int) > (most : Int))) r 0 = some (if n > most then ([], r, 4) else if n > r.length then ([], r, 6) else (r.take n, r.drop n, 0))
    rw [codec_cursor_text.j0]
    by_cases g : n > most
    · rw [if_pos (decide_eq_true (by omega)), fail_is, some_bind, take_err r 4 n (by decide), if_pos g]; rfl
    · rw [if_neg (by rw [decide_eq_true_iff]; omega), take_is r n (by omega), some_bind, if_neg g]
theorem readText_is (k : Nat) (l : List Int) (hk : 22 ≤ k) (hb : BytesL l) (hl : l.length < 140737488355328) : codec_ReadText.f k l = some (strOfNums (textOut 1024 (rn l 0 0)).1, (textOut 1024 (rn l 0 0)).2.1, (textOut 1024 (rn l 0 0)).2.2) := by
  unfold codec_ReadText.f
  rw [show (1024 : Int) = ((1024 : Nat) : Int) from rfl, ctext_is k l 1024 hk hb hl, some_bind]
  have go : ∀ (x y : List Int) (w : Int) (z : List Int), y.length < 140737488355328 → (if w = 0 then z = y else z = []) → ((codec_cursor_rest.f (x, y, w).2.1 (x, y, w).2.2).bind fun t379 => (some (strOfNums (x, y, w).1, t379, (x, y, w).2.2))) = some (strOfNums x, z, w) := by
    intro x y w z hy hz
    show ((codec_cursor_rest.f y w).bind fun t379 => (some (strOfNums x, t379, w))) = _
    by_cases h : w = 0
    · subst h; rw [if_pos rfl] at hz; rw [rest_is y hy, some_bind, hz]
    · rw [if_neg h] at hz; rw [rest_not y w h, some_bind, hz]
  cases h : rn l 0 0 with
  | none => exact go [] l 6 [] hl rfl
  | some z =>
    obtain ⟨n, r⟩ := z
    have hr := (rn_shorter l 0 0 n r h).1
    simp only [ctextOut, textOut]
    by_cases g : n > 1024
    · rw [if_pos g, if_pos g]; exact go [] r 4 [] (by omega) rfl
    · rw [if_neg g, if_neg g]
      by_cases g2 : n > r.length
      · rw [if_pos g2, if_pos g2]; exact go [] r 6 [] (by omega) rfl
      · rw [if_neg g2, if_neg g2]; exact go _ _ 0 _ (by rw [List.length_drop]; omega) rfl
theorem refReadText_is (k : Nat) (l : List Int) (hk : 32 ≤ k) (hb : BytesL l) (hl : l.length < 140737488355328) : ladingref03_ReadText.f k l = some (strOfNums (textOut 1024 (rn l 0 0)).1, (textOut 1024 (rn l 0 0)).2.1, (textOut 1024 (rn l 0 0)).2.2) := by
  unfold ladingref03_ReadText.f ladingref03_text.f
  rw [refRead_is k l hk hb hl, some_bind]
  cases h : rn l 0 0 with
  | none => exact (congrArg (fun o : Option (ByteArray × List Int × Int) => o.bind fun bt394 => some (bt394.1, bt394.2.1, bt394.2.2)) (if_neg (show ¬ (6 : Int) = 0 by decide))).trans rfl
  | some z =>
    obtain ⟨n, r⟩ := z
    have hr := (rn_shorter l 0 0 n r h).1
    refine (congrArg (fun o : Option (ByteArray × List Int × Int) => o.bind fun bt394 => some (bt394.1, bt394.2.1, bt394.2.2)) (if_pos (show (0 : Int) = 0 from rfl))).trans ?_
    show (if (n : Int) > 1024 then some ((⟨#[]⟩ : ByteArray), ([] : List Int), (4 : Int)) else if (n : Int) > IntKind.u64.wrap (r.length : Int) then some ((⟨#[]⟩ : ByteArray), ([] : List Int), 6) else if 0 ≤ (n : Int) then (if (n : Int) ≤ (r.length : Int) then some (strOfNums (r.take (n : Int).toNat), r.drop (n : Int).toNat, 0) else none) else none).bind _ = _
    rw [u64 (by omega) (by omega)]
    simp only [textOut]
    by_cases g : n > 1024
    · rw [if_pos (by omega), if_pos g]; rfl
    · rw [if_neg (by omega), if_neg g]
      by_cases g2 : n > r.length
      · rw [if_pos (by omega), if_pos g2]; rfl
      · rw [if_neg (by omega), if_pos (by omega), if_pos (by omega), if_neg g2, Int.toNat_natCast]; rfl
end Go.Proofs.YtfpdipnaefomiaaDoor.Pure
