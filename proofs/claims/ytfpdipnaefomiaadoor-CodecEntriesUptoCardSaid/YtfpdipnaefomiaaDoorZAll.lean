/- Plain: entries are written and read as the document says. -/
import Derived.Test.YtfpdipnaefomiaaDoorZPrint6
import Derived.Test.YtfpdipnaefomiaaDoorZPrint9
import Derived.Laws.Bits64
import Derived.Laws.Bits64b
import Derived.Test.YtfpdipnaefomiaaDoorZPrint17
import Derived.Test.YtfpdipnaefomiaaDoorZPrint16
import Derived.Test.YtfpdipnaefomiaaDoorZPrint3
import Derived.Lib.Replace
import Derived.Lib.ReplaceLaws
import Derived.Test.YtfpdipnaefomiaaDoorZPrint7
import Derived.Test.YtfpdipnaefomiaaDoorZPrint12
import Derived.Test.YtfpdipnaefomiaaDoorZPrint13
import Derived.Test.YtfpdipnaefomiaaDoorZPrint24
set_option linter.unusedVariables false
namespace Go.Proofs.YtfpdipnaefomiaaDoor.Pure
open Go.RowKit Go.Proofs.YtfpdipnaefomiaaDoor.Print Go.Proofs.YtfpdipnaefomiaaDoorW.PrintWords Go.Proofs.YtfpdipnaefomiaaDoorW.PrintLast Go.Proofs.YtfpdipnaefomiaaDoorW.PrintMore
theorem up {α : Type} {f : Nat → Option α} (hm : ∀ k, LeO (f k) (f (k + 1))) {k n : Nat} {r : α} (h : f k = some r) (hk : k ≤ n) : f n = some r := by
  obtain ⟨d, rfl⟩ : ∃ d, n = k + d := ⟨n - k, by omega⟩
  induction d with
  | zero => exact h
  | succ d ih => exact hm (k + d) r (ih (by omega))
theorem w64 {x : Int} (h0 : -9223372036854775808 ≤ x) (h1 : x ≤ 9223372036854775807) : wrap64 x = x := by unfold wrap64; omega
theorem u64 {x : Int} (h0 : 0 ≤ x) (h1 : x ≤ 18446744073709551615) : IntKind.u64.wrap x = x := by rw [IntKind.wrap_u64]; omega
theorem wf_u8 {x : Int} (h : (Lit.int .u8 x).wf = true) : 0 ≤ x ∧ x < 256 := by
  simp [Lit.wf, IntKind.min, IntKind.max, IntKind.bits, IntKind.signed] at h
  omega
theorem some_bind {α β : Type} (a : α) (f : α → Option β) : (some a).bind f = f a := rfl
theorem rd_at (l : List Int) (i : Nat) (h : i < l.length) : rd l (i : Int) = l[i] := by
  unfold rd
  rw [Int.toNat_natCast, List.getD_eq_getElem?_getD, List.getElem?_eq_getElem h]; rfl
theorem or128' : ∀ x : Nat, x < 256 → bits .or .u8 (x : Int) 128 = ((x % 128 + 128 : Nat) : Int) := by decide +kernel
theorem and127 : ∀ x : Nat, x < 256 → bits .and .u8 (x : Int) 127 = ((x % 128 : Nat) : Int) := by decide +kernel
def gr : Nat → Nat → List Int
  | 0, n => [(n : Int)]
  | j + 1, n => if n < 128 then [(n : Int)] else ((n % 128 + 128 : Nat) : Int) :: gr j (n / 128)
theorem gr_len : ∀ j n, 1 ≤ (gr j n).length ∧ (gr j n).length ≤ j + 1
  | 0, n => by simp [gr]
  | j + 1, n => by
    unfold gr
    split
    · simp
    · have := gr_len j (n / 128); simp; omega
theorem groups_is : ∀ (j : Nat) (l : List Int) (n k : Nat), n < 128 ^ (j + 1) → l.length + j < 140737488355328 → codec_groups.l0 (k + j + 1) l (n : Int) = some (l ++ gr j n)
  | 0, l, n, k, hn, hl => by
    unfold codec_groups.l0 gr
    rw [if_neg (by omega), if_pos (by omega)]
    have : ((n : Int)) % 256 = n := by omega
    rw [this]
  | j + 1, l, n, k, hn, hl => by
    rw [show k + (j + 1) + 1 = (k + j + 1) + 1 by omega]
    unfold codec_groups.l0 gr
    by_cases h : n < 128
    · rw [if_neg (by omega), if_pos (by omega), if_pos h]
      have : ((n : Int)) % 256 = n := by omega
      rw [this]
    · rw [if_pos (by omega), if_pos (by omega), if_neg h]
      have e1 : ((n : Int)) % 256 = ((n % 256 : Nat) : Int) := by omega
      have e2 : ((n : Int)) / 128 = ((n / 128 : Nat) : Int) := by omega
      rw [e1, or128' _ (by omega), e2, groups_is j _ (n / 128) k ?_ (by simp; omega)]
      · have : n % 256 % 128 = n % 128 := by omega
        rw [this, List.append_assoc]; rfl
      · rw [Nat.pow_succ] at hn; omega
theorem own_is (l : List Int) (h : l.length < 140737488355328) : codec_own.f l = some l := by
  unfold codec_own.f
  rw [if_pos (by simpa using h)]; rfl
def num (n : Nat) : List Int := gr 9 n
theorem num_len (n : Nat) : 1 ≤ (num n).length ∧ (num n).length ≤ 10 := gr_len 9 n
theorem groups_num (k : Nat) (l : List Int) (n : Nat) (hk : 10 ≤ k) (hn : n < 18446744073709551616) (hl : l.length + 9 < 140737488355328) : codec_groups.f k l (n : Int) = some (l ++ num n) := by
  obtain ⟨d, rfl⟩ : ∃ d, k = d + 9 + 1 := ⟨k - 10, by omega⟩
  exact groups_is 9 l n d (Nat.lt_trans hn (by decide)) hl
theorem refNum_l : ∀ (j : Nat) (l : List Int) (n k : Nat), n < 128 ^ (j + 1) → n < 18446744073709551616 → l.length + j < 140737488355328 → ladingref03_Num.l0 (k + j + 1) (n : Int) l = some (l ++ gr j n)
  | 0, l, n, k, hn, _, hl => by
    unfold ladingref03_Num.l0 gr
    rw [if_neg (by omega), if_pos (by omega)]
    have : ((n : Int)) % 256 = n := by omega
    rw [this]
  | j + 1, l, n, k, hn, hn2, hl => by
    rw [show k + (j + 1) + 1 = (k + j + 1) + 1 by omega]
    unfold ladingref03_Num.l0 gr
    by_cases h : n < 128
    · rw [if_neg (by omega), if_pos (by omega), if_pos h]
      have : ((n : Int)) % 256 = n := by omega
      rw [this]
    · rw [if_pos (by omega), if_pos (by omega), if_neg h]
      have e1 : IntKind.u64.wrap (Int.tdiv (n : Int) 128) = ((n / 128 : Nat) : Int) := by rw [Int.tdiv_eq_ediv_of_nonneg (by omega), u64 (by omega) (by omega)]; omega
      have e2 : IntKind.u64.wrap (Int.tmod (n : Int) 128 + 128) % 256 = ((n % 128 + 128 : Nat) : Int) := by rw [Int.tmod_eq_emod_of_nonneg (by omega), u64 (by omega) (by omega)]; omega
      rw [e1, e2, refNum_l j _ (n / 128) k ?_ (by omega) (by simp; omega)]
      · rw [List.append_assoc]; rfl
      · rw [Nat.pow_succ] at hn; omega
theorem refNum_is (k : Nat) (l : List Int) (n : Nat) (hk : 10 ≤ k) (hn : n < 18446744073709551616) (hl : l.length + 9 < 140737488355328) : ladingref03_Num.f k l (n : Int) = some (l ++ num n) := by
  obtain ⟨d, rfl⟩ : ∃ d, k = d + 9 + 1 := ⟨k - 10, by omega⟩
  unfold ladingref03_Num.f
  rw [some_bind, if_pos (by simp; omega), List.nil_append]
  exact refNum_l 9 l n d (Nat.lt_trans hn (by decide)) hn hl
theorem refText_is (k : Nat) (l : List Int) (s : ByteArray) (hk : 10 ≤ k) (hl : l.length + s.size + 10 < 140737488355328) : ladingref03_Text.f k l s = some (l ++ num s.size ++ bytesOf s) := by
  unfold ladingref03_Text.f
  have := num_len s.size
  rw [u64 (by omega) (by omega), refNum_is k l s.size hk (by omega) (by omega), some_bind, if_pos (by rw [List.length_append]; omega)]
theorem lives_at : ladinglaw03_lives.f 40 = some true := by kernel_rfl
theorem lives_is (k : Nat) (hk : 40 ≤ k) : ladinglaw03_lives.f k = some true := up ladinglaw03_lives.mono lives_at hk
end Go.Proofs.YtfpdipnaefomiaaDoor.Pure
set_option linter.unusedVariables false
namespace Go.Proofs.YtfpdipnaefomiaaDoor.Pure
open Go.RowKit Go.Proofs.YtfpdipnaefomiaaDoor.Print Go.Proofs.YtfpdipnaefomiaaDoorW.PrintWords Go.Proofs.YtfpdipnaefomiaaDoorW.PrintLast Go.Proofs.YtfpdipnaefomiaaDoorW.PrintMore
def BytesL (l : List Int) : Prop := ∀ x ∈ l, 0 ≤ x ∧ x < 256
def rn : List Int → Nat → Nat → Option (Nat × List Int)
  | [], _, _ => none
  | x :: r, i, acc =>
    if i > 9 then none else if i = 9 ∧ x.toNat % 128 > 1 then none else if i > 0 ∧ x = 0 then none
    else if x < 128 then some (acc + x.toNat % 128 * 2 ^ (7 * i), r) else rn r (i + 1) (acc + x.toNat % 128 * 2 ^ (7 * i))
theorem rn_stop (y : Nat) (d : List Int) (i acc : Nat) (h : i > 9 ∨ (i = 9 ∧ y % 128 > 1) ∨ (i > 0 ∧ y = 0)) : rn ((y : Int) :: d) i acc = none := by
  unfold rn
  rw [Int.toNat_natCast]
  by_cases h1 : i > 9
  · rw [if_pos h1]
  · rw [if_neg h1]
    by_cases h2 : i = 9 ∧ y % 128 > 1
    · rw [if_pos h2]
    · rw [if_neg h2, if_pos (by omega)]
theorem rn_on (y : Nat) (d : List Int) (i acc : Nat) (h : ¬ (i > 9 ∨ (i = 9 ∧ y % 128 > 1) ∨ (i > 0 ∧ y = 0))) :
    rn ((y : Int) :: d) i acc = if (y : Int) < 128 then some (acc + y % 128 * 2 ^ (7 * i), d) else rn d (i + 1) (acc + y % 128 * 2 ^ (7 * i)) := by
  conv => lhs; unfold rn
  rw [Int.toNat_natCast, if_neg (by omega), if_neg (by omega), if_neg (by omega)]
theorem pow_step (i acc y : Nat) (ha : acc < 2 ^ (7 * i)) (hy : y < 128) : acc + y * 2 ^ (7 * i) < 2 ^ (7 * (i + 1)) := by
  rw [show 7 * (i + 1) = 7 * i + 7 by omega, Nat.pow_add]
  have : (y + 1) * 2 ^ (7 * i) ≤ 2 ^ 7 * 2 ^ (7 * i) := Nat.mul_le_mul_right _ (by omega)
  rw [Nat.mul_comm (2 ^ (7 * i))]
  rw [Nat.add_mul] at this
  omega
theorem pow_64 (i acc y : Nat) (hi : i ≤ 9) (ha : acc < 2 ^ (7 * i)) (hy : y < 128) (h9 : i = 9 → y ≤ 1) : acc + y * 2 ^ (7 * i) < 18446744073709551616 := by
  by_cases h : i = 9
  · subst h
    have := h9 rfl
    have : y * 2 ^ 63 ≤ 1 * 2 ^ 63 := Nat.mul_le_mul_right _ this
    omega
  · have h1 := pow_step i acc y ha hy
    have h2 : 2 ^ (7 * (i + 1)) ≤ 2 ^ 63 := Nat.pow_le_pow_right (by omega) (by omega)
    omega
theorem shl_at (y i : Nat) (hi : i ≤ 9) (hy : y < 128) (h9 : i = 9 → y ≤ 1) : shl .u64 (y : Int) (((7 * i : Nat) : Int)) = ((y * 2 ^ (7 * i) : Nat) : Int) := by
  have h1 := pow_64 i 0 y hi (Nat.two_pow_pos _) hy h9
  unfold shl
  rw [Int.toNat_natCast, Nat.min_eq_left (show 7 * i ≤ IntKind.bits .u64 by show 7 * i ≤ 64; omega)]
  rw [show (y : Int) * 2 ^ (7 * i) = ((y * 2 ^ (7 * i) : Nat) : Int) by push_cast; rfl, u64 (by omega) (by omega)]
theorem or_add (acc y i : Nat) (hi : i ≤ 9) (ha : acc < 2 ^ (7 * i)) (hy : y < 128) (h9 : i = 9 → y ≤ 1) :
    bits .or .u64 (acc : Int) ((y * 2 ^ (7 * i) : Nat) : Int) = ((acc + y * 2 ^ (7 * i) : Nat) : Int) := by
  have h1 := pow_64 i acc y hi ha hy h9
  rw [bits_or_u64_nat _ _ (by omega) (by omega)]
  congr 1
  have := Nat.two_pow_add_eq_or_of_lt ha y
  rw [Nat.or_comm, Nat.mul_comm y, ← this]; omega
theorem fail_is (l : List Int) (e : Int) : codec_cursor_fail.f l 0 e = some (l, e) := by unfold codec_cursor_fail.f; rw [if_pos rfl]
theorem fail_not (l : List Int) (a e : Int) (h : a ≠ 0) : codec_cursor_fail.f l a e = some (l, a) := by unfold codec_cursor_fail.f; rw [if_neg h]
def numOut (l : List Int) (o : Option (Nat × List Int)) : Int × List Int × Int := match o with | some (n, r) => ((n : Int), r, 0) | none => (0, l, 6)
theorem drop_cons {l d : List Int} {i : Nat} {x : Int} (h : l.drop i = x :: d) : i < l.length ∧ rd l (i : Int) = x ∧ l.drop (i + 1) = d ∧ x ∈ l := by
  have hi : i < l.length := by
    rcases Nat.lt_or_ge i l.length with h1 | h1
    · exact h1
    · rw [List.drop_eq_nil_of_le h1] at h; cases h
  have h2 := List.drop_eq_getElem_cons hi
  rw [h] at h2
  injection h2 with h3 h4
  exact ⟨hi, by rw [rd_at l i hi, h3], h4.symm, by rw [h3]; exact List.getElem_mem hi⟩
theorem cnum_l (l : List Int) (hb : BytesL l) (hl : l.length < 9223372036854775807) : ∀ (m i acc k : Nat) (d : List Int), i + m = 10 → l.drop i = d → acc < 2 ^ (7 * i) →
    codec_cursor_num.l0 (k + 2 * m + 2) (acc : Int) l (l.length : Int) (i : Int) l 0 = some (numOut l (rn d i acc)) := by
  intro m
  induction m with
  | zero =>
    intro i acc k d hi hd ha
    obtain rfl : i = 10 := by omega
    unfold codec_cursor_num.l0
    by_cases h : (10 : Nat) < l.length
    · rw [if_pos (by omega), if_pos (by omega), if_pos (by omega), if_pos rfl, if_pos (by omega)]
      unfold codec_cursor_num.j1
      rw [if_pos rfl, fail_is, some_bind]
      rw [List.drop_eq_getElem_cons h] at hd
      subst hd
      simp [rn, numOut]
    · rw [if_neg (by omega), fail_is, some_bind]
      rw [List.drop_eq_nil_of_le (by omega)] at hd
      subst hd
      rfl
  | succ m ih =>
    intro i acc k d hi hd ha
    rw [show k + 2 * (m + 1) + 2 = ((k + 2 * m + 2) + 1) + 1 by omega]
    unfold codec_cursor_num.l0
    cases d with
    | nil =>
      have : l.length ≤ i := by
        rcases Nat.lt_or_ge i l.length with h1 | h1
        · rw [List.drop_eq_getElem_cons h1] at hd; cases hd
        · exact h1
      rw [if_neg (by omega), fail_is, some_bind]; rfl
    | cons x d =>
      obtain ⟨h1, h2, h3, h4⟩ := drop_cons hd
      have hx := hb x h4
      obtain ⟨y, rfl⟩ : ∃ y : Nat, x = y := ⟨x.toNat, by omega⟩
      have e1 : IntKind.u64.wrap (bits .and .u8 (rd l (i : Int)) 127) = ((y % 128 : Nat) : Int) := by rw [h2, and127 y (by omega), u64 (by omega) (by omega)]
      rw [if_pos (by omega), if_pos (by omega), if_pos (by omega), if_pos rfl, if_neg (by omega), e1, h2]
      have go : ∀ b : Bool, (b = true ↔ (i = 9 ∧ y % 128 > 1) ∨ (i > 0 ∧ y = 0)) →
          codec_cursor_num.j1 (k + 2 * m + 2 + 1) (acc : Int) (i : Int) (y : Int) ((y % 128 : Nat) : Int) l (l.length : Int) (i : Int) b l 0 = some (numOut l (rn ((y : Int) :: d) i acc)) := by
        intro b hbv
        unfold codec_cursor_num.j1
        cases b with
        | true =>
          rw [if_pos rfl, fail_is, some_bind]
          have := hbv.1 rfl
          rw [rn_stop y d i acc (.inr this)]; rfl
        | false =>
          have hn : ¬ ((i = 9 ∧ y % 128 > 1) ∨ (i > 0 ∧ y = 0)) := fun h => by have := hbv.2 h; cases this
          have h9 : i = 9 → y % 128 ≤ 1 := by omega
          have p64 := pow_64 i acc (y % 128) (by omega) ha (by omega) h9
          rw [if_neg (by decide), w64 (x := 7 * (i : Int)) (by omega) (by omega), if_pos (by omega), show (7 * (i : Int)) = ((7 * i : Nat) : Int) by omega, shl_at (y % 128) i (by omega) (by omega) h9, or_add acc (y % 128) i (by omega) ha (by omega) h9]
          rw [rn_on y d i acc (by omega), w64 (x := (i : Int) + 1) (by omega) (by omega)]
          by_cases g : (y : Int) < 128
          · rw [if_pos g, if_pos (by omega), if_pos (by omega), if_pos g, show ((i : Int) + 1).toNat = i + 1 by omega, h3]; rfl
          · rw [if_neg g, if_neg g]
            exact ih (i + 1) _ k d (by omega) h3 (pow_step i acc (y % 128) ha (by omega))
      by_cases g9 : i = 9
      · rw [if_pos (by omega)]
        by_cases g1 : y % 128 > 1
        · rw [if_pos (by omega)]; exact go true ⟨fun _ => .inl ⟨g9, g1⟩, fun _ => rfl⟩
        · rw [if_neg (by omega), if_pos (by omega)]
          exact go _ ⟨fun h => by have : (y : Int) = 0 := by simpa using h
                                  exact .inr (by omega), fun h => by have : (y : Int) = 0 := by omega
                                                                     simpa using this⟩
      · rw [if_neg (by omega)]
        by_cases g0 : i > 0
        · rw [if_pos (by omega)]
          exact go _ ⟨fun h => by have : (y : Int) = 0 := by simpa using h
                                  exact .inr (by omega), fun h => by have : (y : Int) = 0 := by omega
                                                                     simpa using this⟩
        · rw [if_neg (by omega)]
          exact go false ⟨fun h => absurd h (by decide), fun h => by omega⟩
theorem cnum_is (k : Nat) (l : List Int) (hk : 22 ≤ k) (hb : BytesL l) (hl : l.length < 140737488355328) : codec_cursor_num.f k l 0 = some (numOut l (rn l 0 0)) := by
  obtain ⟨d, rfl⟩ : ∃ d, k = d + 2 * 10 + 2 := ⟨k - 22, by omega⟩
  unfold codec_cursor_num.f
  exact cnum_l l hb (by omega) 10 0 0 d l rfl rfl (by simp)
theorem rn_shorter : ∀ (l : List Int) (i acc : Nat) (n : Nat) (r : List Int), rn l i acc = some (n, r) → r.length < l.length ∧ (∃ p, l = p ++ r)
  | [], _, _, _, _, h => by simp [rn] at h
  | x :: t, i, acc, n, r, h => by
    unfold rn at h
    split at h
    · cases h
    · split at h
      · cases h
      · split at h
        · cases h
        · split at h
          · simp only [Option.some.injEq, Prod.mk.injEq] at h
            obtain ⟨_, rfl⟩ := h
            exact ⟨by simp, [x], rfl⟩
          · obtain ⟨h1, p, hp⟩ := rn_shorter t _ _ n r h
            exact ⟨by simp; omega, x :: p, by rw [hp]; rfl⟩
def readOut (o : Option (Nat × List Int)) : Int × List Int × Int := match o with | some (n, r) => ((n : Int), r, 0) | none => (0, [], 6)
theorem refRead_l (l : List Int) (hb : BytesL l) (hl : l.length < 140737488355328) : ∀ (m i acc k : Nat) (d : List Int), i + m = 10 → l.drop i = d → acc < 2 ^ (7 * i) →
    ladingref03_ReadNum.l0 (k + 3 * m + 2) l (acc : Int) (i : Int) = some (readOut (rn d i acc)) := by
  intro m
  induction m with
  | zero =>
    intro i acc k d hi hd ha
    obtain rfl : i = 10 := by omega
    unfold ladingref03_ReadNum.l0
    have e : rn d 10 acc = none := by cases d <;> simp [rn]
    rw [e]
    by_cases h : ((10 : Nat) : Int) < (l.length : Int)
    · rw [if_pos h, decide_eq_false (by omega)]; unfold ladingref03_ReadNum.j1; rw [if_neg (by decide)]; rfl
    · rw [if_neg h]; unfold ladingref03_ReadNum.j1; rw [if_neg (by decide)]; rfl
  | succ m ih =>
    intro i acc k d hi hd ha
    rw [show k + 3 * (m + 1) + 2 = ((k + 3 * m + 2) + 1 + 1) + 1 by omega]
    unfold ladingref03_ReadNum.l0
    cases d with
    | nil =>
      have : l.length ≤ i := by
        rcases Nat.lt_or_ge i l.length with h1 | h1
        · rw [List.drop_eq_getElem_cons h1] at hd; cases hd
        · exact h1
      rw [if_neg (by omega)]; unfold ladingref03_ReadNum.j1; rw [if_neg (by decide)]; rfl
    | cons x d =>
      obtain ⟨h1, h2, h3, h4⟩ := drop_cons hd
      have hx := hb x h4
      obtain ⟨y, rfl⟩ : ∃ y : Nat, x = y := ⟨x.toNat, by omega⟩
      have e1 : IntKind.u64.wrap (Int.tmod (rd l (i : Int)) 128) = ((y % 128 : Nat) : Int) := by rw [h2, Int.tmod_eq_emod_of_nonneg (by omega), u64 (by omega) (by omega)]; omega
      rw [if_pos (by omega), decide_eq_true (by omega)]
      unfold ladingref03_ReadNum.j1
      rw [if_pos rfl, if_pos (by omega), if_pos (by omega), e1]
      have go : ∀ b : Bool, (b = true ↔ (i = 9 ∧ y % 128 > 1)) → ladingref03_ReadNum.j2 (k + 3 * m + 2 + 1) l (acc : Int) (i : Int) ((y % 128 : Nat) : Int) b = some (readOut (rn ((y : Int) :: d) i acc)) := by
        intro b hbv
        unfold ladingref03_ReadNum.j2
        cases b with
        | true =>
          have := hbv.1 rfl
          rw [if_pos rfl]
          rw [rn_stop y d i acc (.inr (.inl this))]; rfl
        | false =>
          have hn : ¬ (i = 9 ∧ y % 128 > 1) := fun h => by have := hbv.2 h; cases this
          have h9 : i = 9 → y % 128 ≤ 1 := by omega
          have p64 := pow_64 i acc (y % 128) (by omega) ha (by omega) h9
          have hlen : (l.drop (i + 1)).length ≤ l.length := by rw [List.length_drop]; omega
          rw [if_neg (by decide), w64 (x := 7 * (i : Int)) (by omega) (by omega), u64 (x := 7 * (i : Int)) (by omega) (by omega), if_pos (by omega), if_pos (by omega), if_pos (by omega), h2, show (7 * (i : Int)) = ((7 * i : Nat) : Int) by omega, shl_at (y % 128) i (by omega) (by omega) h9,
            w64 (x := (i : Int) + 1) (by omega) (by omega), show (acc : Int) + ((y % 128 * 2 ^ (7 * i) : Nat) : Int) = ((acc + y % 128 * 2 ^ (7 * i) : Nat) : Int) by omega, u64 (x := ((acc + y % 128 * 2 ^ (7 * i) : Nat) : Int)) (by omega) (by omega), show ((i : Int) + 1).toNat = i + 1 by omega]
          by_cases g : (y : Int) < 128
          · rw [if_pos g]
            by_cases g0 : (y : Int) = 0
            · rw [if_pos g0]
              by_cases gi : (i : Int) > 0
              · rw [if_pos gi, rn_stop y d i acc (by omega)]; rfl
              · rw [if_neg gi, some_bind, if_pos (by omega), if_pos (by omega), if_pos (by simp only [List.length_nil]; omega), rn_on y d i acc (by omega), if_pos g, h3]; rfl
            · rw [if_neg g0, some_bind, if_pos (by omega), if_pos (by omega), if_pos (by simp only [List.length_nil]; omega), rn_on y d i acc (by omega), if_pos g, h3]; rfl
          · rw [if_neg g, rn_on y d i acc (by omega), if_neg g]
            exact ih (i + 1) _ (k + 0) d (by omega) h3 (pow_step i acc (y % 128) ha (by omega))
      by_cases g9 : (i : Int) = 9
      · rw [if_pos g9]
        exact go _ ⟨fun h => by have : ((y % 128 : Nat) : Int) > 1 := by simpa using h
                                omega, fun h => by have : ((y % 128 : Nat) : Int) > 1 := by omega
                                                   simpa using this⟩
      · rw [if_neg g9]
        exact go false ⟨fun h => absurd h (by decide), fun h => by omega⟩
theorem refRead_is (k : Nat) (l : List Int) (hk : 32 ≤ k) (hb : BytesL l) (hl : l.length < 140737488355328) : ladingref03_ReadNum.f k l = some (readOut (rn l 0 0)) := by
  obtain ⟨d, rfl⟩ : ∃ d, k = d + 3 * 10 + 2 := ⟨k - 32, by omega⟩
  unfold ladingref03_ReadNum.f
  exact refRead_l l hb hl 10 0 0 d l rfl rfl (by simp)
def textOut (most : Nat) (o : Option (Nat × List Int)) : List Int × List Int × Int := match o with
  | some (n, r) => if n > most then ([], [], 4) else if n > r.length then ([], [], 6) else (r.take n, r.drop n, 0)
  | none => ([], [], 6)
def ctextOut (l : List Int) (most : Nat) (o : Option (Nat × List Int)) : List Int × List Int × Int := match o with
  | some (n, r) => if n > most then ([], r, 4) else if n > r.length then ([], r, 6) else (r.take n, r.drop n, 0)
  | none => ([], l, 6)
theorem take_err (l : List Int) (a n : Int) (h : a ≠ 0) : codec_cursor_take.f l a n = some ([], l, a) := by
  unfold codec_cursor_take.f
  rw [fail_not l a 6 h, some_bind]
  split <;> first | rfl | exact (if_neg h).trans rfl
theorem take_is (l : List Int) (n : Nat) (hl : l.length < 140737488355328) : codec_cursor_take.f l 0 (n : Int) = some (if n > l.length then ([], l, 6) else (l.take n, l.drop n, 0)) := by
  unfold codec_cursor_take.f
  rw [u64 (by omega) (by omega), fail_is, some_bind]
  by_cases h : n > l.length
  · rw [if_pos (by omega), if_pos h]
    exact (if_neg (show ¬ (6 : Int) = 0 by decide)).trans rfl
  · rw [if_neg (by omega), if_pos rfl, if_pos (by omega), if_pos (by omega), if_neg h, Int.toNat_natCast, own_is _ (by rw [List.length_take]; omega)]; rfl
theorem ctext_is (k : Nat) (l : List Int) (most : Nat) (hk : 22 ≤ k) (hb : BytesL l) (hl : l.length < 140737488355328) : codec_cursor_text.f k l 0 (most : Int) = some (ctextOut l most (rn l 0 0)) := by
  obtain ⟨d, rfl⟩ : ∃ d, k = d + 1 := ⟨k - 1, by omega⟩
  unfold codec_cursor_text.f
  rw [cnum_is _ l hk hb hl, some_bind]
  cases h : rn l 0 0 with
  | none =>
    refine (if_neg (show ¬ (6 : Int) = 0 by decide)).trans ?_
    show codec_cursor_text.j0 (d + 1) 0 false l 6 = some ([], l, 6)
    rw [codec_cursor_text.j0, if_neg (by decide), take_err l 6 0 (by decide)]; rfl
  | some z =>
    obtain ⟨n, r⟩ := z
    have hr := (rn_shorter l 0 0 n r h).1
    refine (if_pos (show (0 : Int) = 0 from rfl)).trans ?_
    show codec_cursor_text.j0 (d + 1) (n : Int) (decide ((n : Int) > (most : Int))) r 0 = some (if n > most then ([], r, 4) else if n > r.length then ([], r, 6) else (r.take n, r.drop n, 0))
    rw [codec_cursor_text.j0]
    by_cases g : n > most
    · rw [if_pos (decide_eq_true (by omega)), fail_is, some_bind, take_err r 4 n (by decide), if_pos g]; rfl
    · rw [if_neg (by rw [decide_eq_true_iff]; omega), take_is r n (by omega), some_bind, if_neg g]
end Go.Proofs.YtfpdipnaefomiaaDoor.Pure
set_option linter.unusedVariables false
namespace Go.Proofs.YtfpdipnaefomiaaDoor.Pure
open Go.RowKit Go.Proofs.YtfpdipnaefomiaaDoor.Print Go.Proofs.YtfpdipnaefomiaaDoorW.PrintWords Go.Proofs.YtfpdipnaefomiaaDoorW.PrintLast Go.Proofs.YtfpdipnaefomiaaDoorW.PrintMore
theorem gr_bytes : ∀ (j n : Nat), n < 128 ^ (j + 1) → BytesL (gr j n)
  | 0, n, h => by intro x hx; simp only [gr, List.mem_singleton] at hx; subst hx; omega
  | j + 1, n, h => by
    unfold gr
    split
    · intro x hx; simp only [List.mem_singleton] at hx; subst hx; omega
    · intro x hx
      rcases List.mem_cons.1 hx with rfl | hx
      · omega
      · exact gr_bytes j (n / 128) (by rw [Nat.pow_succ] at h; omega) x hx
theorem num_bytes (n : Nat) (h : n < 18446744073709551616) : BytesL (num n) := gr_bytes 9 n (Nat.lt_trans h (by decide))
theorem bytesL_append {a b : List Int} (ha : BytesL a) (hb : BytesL b) : BytesL (a ++ b) := fun x hx => by
  rcases List.mem_append.1 hx with h | h
  · exact ha x h
  · exact hb x h
theorem bytesOf_strOf (l : List Int) (h : BytesL l) : bytesOf (strOfNums l) = l := by
  unfold bytesOf
  rw [strOfNums_data, List.map_map]
  conv => rhs; rw [← List.map_id l]
  apply List.map_congr_left
  intro x hx
  have := h x hx
  show ((UInt8.ofNat x.toNat).toNat : Int) = x
  rw [UInt8.toNat_ofNat', Nat.mod_eq_of_lt (by omega)]; omega
end Go.Proofs.YtfpdipnaefomiaaDoor.Pure
set_option linter.unusedVariables false
namespace Go.Proofs.YtfpdipnaefomiaaDoor.Pure
open Go.RowKit Go.Proofs.YtfpdipnaefomiaaDoor.Print Go.Proofs.YtfpdipnaefomiaaDoorW.PrintWords Go.Proofs.YtfpdipnaefomiaaDoorW.PrintLast Go.Proofs.YtfpdipnaefomiaaDoorW.PrintMore
def good (p : S60) : Prop := (p.f0 = 1 ∧ p.f2 = ⟨#[]⟩) ∨ (p.f0 = 2 ∧ p.f1 = 0)
instance (p : S60) : Decidable (good p) := by unfold good; infer_instance
end Go.Proofs.YtfpdipnaefomiaaDoor.Pure
set_option linter.unusedVariables false
namespace Go.Proofs.YtfpdipnaefomiaaDoor.Pure
open Go.RowKit Go.Proofs.YtfpdipnaefomiaaDoor.Print Go.Proofs.YtfpdipnaefomiaaDoorW.PrintWords Go.Proofs.YtfpdipnaefomiaaDoorW.PrintLast Go.Proofs.YtfpdipnaefomiaaDoorW.PrintMore
theorem strOf_inj {x y : List Int} (hx : BytesL x) (hy : BytesL y) (h : (strOfNums x).toList = (strOfNums y).toList) : x = y := by
  rw [Lib.toList_data, Lib.toList_data] at h
  rw [← bytesOf_strOf x hx, ← bytesOf_strOf y hy]
  unfold bytesOf
  rw [h]
end Go.Proofs.YtfpdipnaefomiaaDoor.Pure
set_option linter.unusedVariables false
namespace Go.Proofs.YtfpdipnaefomiaaDoor.Pure
open Go.RowKit Go.Proofs.YtfpdipnaefomiaaDoor.Print Go.Proofs.YtfpdipnaefomiaaDoorW.PrintWords Go.Proofs.YtfpdipnaefomiaaDoorW.PrintLast Go.Proofs.YtfpdipnaefomiaaDoorW.PrintMore
@[reducible] noncomputable instance decS64 : DecidableEq S64 := fun _ _ => Classical.propDecidable _
@[reducible] noncomputable instance decS60 : DecidableEq S60 := fun _ _ => Classical.propDecidable _
theorem rd64_at (l : List S64) (i : Nat) (h : i < l.length) : rd_T64 l (i : Int) = l[i] := by
  unfold rd_T64
  rw [Int.toNat_natCast, List.getD_eq_getElem?_getD, List.getElem?_eq_getElem h]; rfl
theorem drop64 {l d : List S64} {i : Nat} {x : S64} (h : l.drop i = x :: d) : i < l.length ∧ rd_T64 l (i : Int) = x ∧ l.drop (i + 1) = d ∧ x ∈ l := by
  have hi : i < l.length := by
    rcases Nat.lt_or_ge i l.length with h1 | h1
    · exact h1
    · rw [List.drop_eq_nil_of_le h1] at h; cases h
  have h2 := List.drop_eq_getElem_cons hi
  rw [h] at h2
  injection h2 with h3 h4
  exact ⟨hi, by rw [rd64_at l i hi, h3], h4.symm, by rw [h3]; exact List.getElem_mem hi⟩
theorem drop64_nil {l : List S64} {i : Nat} (h : l.drop i = []) : l.length ≤ i := by
  rcases Nat.lt_or_ge i l.length with h1 | h1
  · rw [List.drop_eq_getElem_cons h1] at h; cases h
  · exact h1
def entBytes (e : S64) : List Int := num e.f0.length ++ e.f0 ++ (num e.f1.length ++ e.f1)
def fits (e : S64) : Prop := e.f0.length ≤ 256 ∧ e.f1.length ≤ 512
instance (e : S64) : Decidable (fits e) := by unfold fits; infer_instance
theorem ent_len (e : S64) (h : fits e) : (entBytes e).length ≤ 800 := by
  have h1 := num_len e.f0.length
  have h2 := num_len e.f1.length
  unfold fits at h
  unfold entBytes
  simp only [List.length_append]
  omega
def entOut (acc : List Int) : List S64 → List Int × Int
  | [] => (acc, 0)
  | e :: r => if fits e then entOut (acc ++ entBytes e) r else ([], 4)
theorem ent_l (l : List S64) (hl : l.length ≤ 4096) : ∀ (r : List S64) (i k : Nat) (acc : List Int), l.drop i = r → acc.length + r.length * 800 ≤ 10000000 →
    codec_Entries.l0 (k + 10 + 2 * r.length) acc l (l.length : Int) (i : Int) = some (entOut acc r) := by
  intro r
  induction r with
  | nil =>
    intro i k acc hd ha
    have := drop64_nil hd
    rw [show k + 10 + 2 * ([] : List S64).length = (k + 9) + 1 by simp]
    rw [codec_Entries.l0, if_neg (by omega)]; rfl
  | cons e r ih =>
    intro i k acc hd ha
    obtain ⟨h1, h2, h3, h4⟩ := drop64 hd
    rw [List.length_cons] at ha
    rw [show k + 10 + 2 * (e :: r).length = (k + 10 + 2 * r.length + 1) + 1 by rw [List.length_cons]; omega]
    rw [codec_Entries.l0, if_pos (by omega), if_pos (by omega), if_pos (by omega), h2, entOut]
    have go : ∀ b : Bool, (b = true ↔ ¬ fits e) → codec_Entries.j1 (k + 10 + 2 * r.length + 1) acc l (l.length : Int) (i : Int) b e.f0 e.f1 = some (if fits e then entOut (acc ++ entBytes e) r else ([], 4)) := by
      intro b hb
      rw [codec_Entries.j1]
      by_cases g : fits e
      · have hbf : b = false := by
          cases b with
          | true => exact absurd g (hb.1 rfl)
          | false => rfl
        have hf := g
        unfold fits at hf
        have n1 := num_len e.f0.length
        have n2 := num_len e.f1.length
        have hel := ent_len e g
        rw [hbf, if_neg (by decide), if_pos g, u64 (by omega) (by omega), u64 (by omega) (by omega), groups_num _ acc _ (by omega) (by omega) (by omega), some_bind, if_pos (by simp only [List.length_append]; omega),
          groups_num _ _ _ (by omega) (by omega) (by simp only [List.length_append]; omega), some_bind, if_pos (by simp only [List.length_append]; omega), w64 (by omega) (by omega)]
        have e1 : acc ++ num e.f0.length ++ e.f0 ++ num e.f1.length ++ e.f1 = acc ++ entBytes e := by unfold entBytes; simp only [List.append_assoc]
        rw [e1, show (i : Int) + 1 = ((i + 1 : Nat) : Int) by omega]
        exact ih (i + 1) k _ h3 (by rw [List.length_append]; omega)
      · rw [if_pos (hb.2 g), if_neg g]
    by_cases c : (e.f0.length : Int) > 256
    · rw [if_pos c]
      exact go true ⟨fun _ h => by unfold fits at h; omega, fun _ => rfl⟩
    · rw [if_neg c]
      refine go _ ⟨fun h h2 => ?_, fun h => ?_⟩
      · have := of_decide_eq_true h
        unfold fits at h2; omega
      · refine decide_eq_true ?_
        unfold fits at h; omega
theorem entOut_is : ∀ (r : List S64) (acc : List Int), entOut acc r = if ∀ e ∈ r, fits e then (acc ++ r.flatMap entBytes, 0) else ([], 4)
  | [], acc => by rw [entOut, if_pos (by simp), List.flatMap_nil, List.append_nil]
  | e :: r, acc => by
    rw [entOut, entOut_is r]
    by_cases g : fits e
    · rw [if_pos g]
      by_cases h : ∀ x ∈ r, fits x
      · rw [if_pos h, if_pos (by intro x hx; rcases List.mem_cons.1 hx with rfl | hx; exact g; exact h x hx), List.flatMap_cons, List.append_assoc]
      · rw [if_neg h, if_neg (fun h2 => h (fun x hx => h2 x (by simp [hx])))]
    · rw [if_neg g, if_neg (fun h2 => g (h2 e (by simp)))]
def entsOf (l : List S64) : List Int × Int := if l.length > 4096 then ([], 3) else if ∀ e ∈ l, fits e then (num l.length ++ l.flatMap entBytes, 0) else ([], 4)
theorem ents_is (k : Nat) (l : List S64) (hk : 8300 ≤ k) : codec_Entries.f k l = some (entsOf l) := by
  unfold codec_Entries.f entsOf
  by_cases h : l.length > 4096
  · rw [if_pos (by omega), if_pos h]
  · rw [if_neg (by omega), if_neg h]
    obtain ⟨d, rfl⟩ : ∃ d, k = d + 10 + 2 * l.length := ⟨k - 10 - 2 * l.length, by omega⟩
    have hn := num_len l.length
    rw [u64 (by omega) (by omega), groups_num _ [] _ (by omega) (by omega) (by simp), some_bind, List.nil_append]
    exact (ent_l l (by omega) l 0 d (num l.length) rfl (by omega)).trans (by rw [entOut_is])
theorem ents_cases (l : List S64) : (∃ c : Int, c ≠ 0 ∧ entsOf l = ([], c)) ∨ (l.length ≤ 4096 ∧ (∀ e ∈ l, fits e) ∧ entsOf l = (num l.length ++ l.flatMap entBytes, 0)) := by
  unfold entsOf
  by_cases h1 : l.length > 4096
  · rw [if_pos h1]; exact .inl ⟨3, by decide, rfl⟩
  · rw [if_neg h1]
    by_cases h2 : ∀ p ∈ l, fits p
    · rw [if_pos h2]; exact .inr ⟨by omega, h2, rfl⟩
    · rw [if_neg h2]; exact .inl ⟨4, by decide, rfl⟩
def EntsOk (l : List S64) : Prop := ∀ e ∈ l, BytesL e.f0 ∧ BytesL e.f1
theorem ents_bytes (l : List S64) (h : EntsOk l) (hf : ∀ e ∈ l, fits e) (hl : l.length ≤ 4096) : BytesL (num l.length ++ l.flatMap entBytes) := by
  refine bytesL_append (num_bytes _ (by omega)) ?_
  intro x hx
  obtain ⟨e, he, hxe⟩ := List.mem_flatMap.1 hx
  have hfe := hf e he
  unfold fits at hfe
  have hb := h e he
  unfold entBytes at hxe
  exact bytesL_append (bytesL_append (num_bytes _ (by omega)) hb.1) (bytesL_append (num_bytes _ (by omega)) hb.2) x hxe
theorem same_is (a b : List Int) (ha : BytesL a) (hb : BytesL b) : ladingref03_Same.f a b = some (decide (a = b)) := by
  unfold ladingref03_Same.f
  by_cases h : a = b
  · subst h; rw [beq_self_eq_true, decide_eq_true rfl]
  · rw [decide_eq_false h]
    congr 1
    exact beq_eq_false_iff_ne.2 (fun e => h (strOf_inj ha hb e))
theorem sameE_l (a b : List S64) (hl : a.length = b.length) (ha : EntsOk a) (hb : EntsOk b) (hs : a.length ≤ 1048576) : ∀ (r : List S64) (i k : Nat), a.drop i = r →
    ladingref03_SameEntries.l0 (k + r.length + 1) a b (a.length : Int) (i : Int) = some (decide (r = b.drop i)) := by
  intro r
  induction r with
  | nil =>
    intro i k hd
    have := drop64_nil hd
    rw [ladingref03_SameEntries.l0, if_neg (by omega), List.drop_eq_nil_of_le (by omega), decide_eq_true rfl]
  | cons e r ih =>
    intro i k hd
    obtain ⟨h1, h2, h3, h4⟩ := drop64 hd
    have hbi : i < b.length := by omega
    rw [List.length_cons, show k + (r.length + 1) + 1 = (k + r.length + 1) + 1 by omega, ladingref03_SameEntries.l0, if_pos (by omega), if_pos (by omega), if_pos (by omega), if_pos (by omega), h2, rd64_at b i hbi, List.drop_eq_getElem_cons hbi]
    have oe := ha e h4
    have ob := hb b[i] (List.getElem_mem hbi)
    rw [same_is _ _ oe.1 ob.1, some_bind]
    by_cases g1 : e.f0 = b[i].f0
    · rw [decide_eq_true g1, if_pos rfl, same_is _ _ oe.2 ob.2, some_bind]
      by_cases g2 : e.f1 = b[i].f1
      · rw [decide_eq_true g2, if_pos rfl, w64 (by omega) (by omega), show (i : Int) + 1 = ((i + 1 : Nat) : Int) by omega, ih (i + 1) k h3]
        congr 1
        have he : e = b[i] := by
          generalize b[i] = f at g1 g2
          obtain ⟨e0, e1⟩ := e
          obtain ⟨f0, f1⟩ := f
          simp only at g1 g2
          subst g1; subst g2; rfl
        by_cases g : r = b.drop (i + 1)
        · rw [decide_eq_true g, decide_eq_true (by rw [he, g])]
        · rw [decide_eq_false g, decide_eq_false (fun h => g (List.cons.inj h).2)]
      · rw [decide_eq_false g2, if_neg (by decide), decide_eq_false (fun h => g2 (by rw [(List.cons.inj h).1]))]
    · rw [decide_eq_false g1, if_neg (by decide), decide_eq_false (fun h => g1 (by rw [(List.cons.inj h).1]))]
theorem sameE_is (k : Nat) (a b : List S64) (ha : EntsOk a) (hb : EntsOk b) (hs : a.length ≤ 1048576) (hk : a.length + 1 ≤ k) : ladingref03_SameEntries.f k a b = some (decide (a = b)) := by
  obtain ⟨d, rfl⟩ : ∃ d, k = d + a.length + 1 := ⟨k - a.length - 1, by omega⟩
  unfold ladingref03_SameEntries.f
  by_cases h : a.length = b.length
  · rw [if_pos (by omega)]; exact sameE_l a b h ha hb hs a 0 d rfl
  · rw [if_neg (by omega), decide_eq_false (fun e => h (by rw [e]))]
end Go.Proofs.YtfpdipnaefomiaaDoor.Pure
set_option linter.unusedVariables false
namespace Go.Proofs.YtfpdipnaefomiaaDoor.Pure
open Go.RowKit Go.Proofs.YtfpdipnaefomiaaDoor.Print Go.Proofs.YtfpdipnaefomiaaDoorW.PrintWords Go.Proofs.YtfpdipnaefomiaaDoorW.PrintLast Go.Proofs.YtfpdipnaefomiaaDoorW.PrintMore
theorem strOf_size (l : List Int) (h : BytesL l) : (strOfNums l).size = l.length := by rw [← bytesOf_length, bytesOf_strOf l h]
theorem copy_l (l : List S64) (hl : l.length ≤ 1048576) (hr : ∀ e ∈ l, e.f0.length ≤ 1048576 ∧ e.f1.length ≤ 1048576) : ∀ (r : List S64) (i k : Nat) (acc : List S64), l.drop i = r → acc.length = i →
    ladingref03_Copy.l0 (k + r.length + 1) acc l (l.length : Int) (i : Int) = some (acc ++ r) := by
  intro r
  induction r with
  | nil =>
    intro i k acc hd ha
    have := drop64_nil hd
    rw [ladingref03_Copy.l0, if_neg (by omega), List.append_nil]
  | cons e r ih =>
    intro i k acc hd ha
    obtain ⟨h1, h2, h3, h4⟩ := drop64 hd
    have hb := hr e h4
    rw [List.length_cons, show k + (r.length + 1) + 1 = (k + r.length + 1) + 1 by omega, ladingref03_Copy.l0, if_pos (by omega), if_pos (by omega), if_pos (by omega), some_bind, h2, if_pos (by rw [List.length_nil]; omega), some_bind, if_pos (by rw [List.length_nil]; omega), if_pos (by omega), w64 (by omega) (by omega), show (i : Int) + 1 = ((i + 1 : Nat) : Int) by omega, ih (i + 1) k _ h3 (by rw [List.length_append, List.length_singleton, ha])]
    simp only [List.nil_append, List.append_assoc, List.singleton_append]
theorem copy_is (k : Nat) (l : List S64) (hl : l.length ≤ 1048576) (hr : ∀ e ∈ l, e.f0.length ≤ 1048576 ∧ e.f1.length ≤ 1048576) (hk : l.length + 1 ≤ k) : ladingref03_Copy.f k l = some l := by
  obtain ⟨d, rfl⟩ : ∃ d, k = d + l.length + 1 := ⟨k - l.length - 1, by omega⟩
  exact copy_l l hl hr l 0 d [] rfl rfl
theorem rent_l1 (l : List S64) (hl : l.length ≤ 4096) (hb : EntsOk l) : ∀ (r : List S64) (i k : Nat) (acc : List Int), l.drop i = r → (∀ e ∈ r, fits e) → acc.length + r.length * 800 ≤ 10000000 →
    ladingref03_Entries.l1 (k + 10 + r.length + 1) acc l (l.length : Int) (i : Int) = some (acc ++ r.flatMap entBytes, 0) := by
  intro r
  induction r with
  | nil =>
    intro i k acc hd hf ha
    have := drop64_nil hd
    rw [ladingref03_Entries.l1, if_neg (by omega), List.flatMap_nil, List.append_nil]
  | cons e r ih =>
    intro i k acc hd hf ha
    obtain ⟨h1, h2, h3, h4⟩ := drop64 hd
    have hbe := hb e h4
    have hfe := hf e (by simp)
    have hel := ent_len e hfe
    have n1 := num_len e.f0.length
    have n2 := num_len e.f1.length
    unfold fits at hfe
    rw [List.length_cons] at ha
    rw [List.length_cons, show k + 10 + (r.length + 1) + 1 = (k + 10 + r.length + 1) + 1 by omega, ladingref03_Entries.l1, if_pos (by omega), if_pos (by omega), if_pos (by omega), h2, refText_is _ acc _ (by omega) (by rw [strOf_size _ hbe.1]; omega), some_bind, refText_is _ _ _ (by omega) (by simp only [List.length_append, bytesOf_length, strOf_size _ hbe.1, strOf_size _ hbe.2]; omega), some_bind, w64 (by omega) (by omega), show (i : Int) + 1 = ((i + 1 : Nat) : Int) by omega,
      bytesOf_strOf _ hbe.1, bytesOf_strOf _ hbe.2, strOf_size _ hbe.1, strOf_size _ hbe.2]
    have e1 : acc ++ num e.f0.length ++ e.f0 ++ num e.f1.length ++ e.f1 = acc ++ entBytes e := by unfold entBytes; simp only [List.append_assoc]
    rw [e1, ih (i + 1) k _ h3 (fun x hx => hf x (by simp [hx])) (by rw [List.length_append]; omega), List.flatMap_cons, List.append_assoc]
theorem rent_l0 (l : List S64) (hl : l.length ≤ 4096) (hb : EntsOk l) (K : Nat) (hK : 5000 ≤ K) : ∀ (r : List S64) (i : Nat), l.drop i = r → (∀ (j : Nat) (hj : j < l.length), j < i → fits l[j]) →
    ladingref03_Entries.l0 (K + r.length + 1) l l (l.length : Int) (i : Int) = some (if ∀ e ∈ l, fits e then (num l.length ++ l.flatMap entBytes, 0) else ([], 4)) := by
  intro r
  induction r with
  | nil =>
    intro i hd hp
    have := drop64_nil hd
    have hn := num_len l.length
    have hall : ∀ e ∈ l, fits e := fun e he => by
      obtain ⟨j, hj, rfl⟩ := List.getElem_of_mem he
      exact hp j hj (by omega)
    show ladingref03_Entries.l0 (K + 1) l l (l.length : Int) (i : Int) = _
    rw [ladingref03_Entries.l0, if_neg (by omega), u64 (by omega) (by omega), refNum_is K [] l.length (by omega) (by omega) (by simp), some_bind, if_pos hall, List.nil_append]
    obtain ⟨q, rfl⟩ : ∃ q, K = q + 10 + l.length + 1 := ⟨K - 11 - l.length, by omega⟩
    exact rent_l1 l hl hb l 0 q (num l.length) rfl hall (by omega)
  | cons e r ih =>
    intro i hd hp
    obtain ⟨h1, h2, h3, h4⟩ := drop64 hd
    rw [List.length_cons, show K + (r.length + 1) + 1 = (K + r.length + 1) + 1 by omega, ladingref03_Entries.l0, if_pos (by omega), if_pos (by omega), if_pos (by omega), h2]
    by_cases c : (e.f0.length : Int) > 256
    · rw [if_pos c, if_neg (fun h => by have := h e h4; unfold fits at this; omega)]
    · rw [if_neg c]
      by_cases c2 : (e.f1.length : Int) > 512
      · rw [if_pos c2, if_neg (fun h => by have := h e h4; unfold fits at this; omega)]
      · rw [if_neg c2, w64 (by omega) (by omega), show (i : Int) + 1 = ((i + 1 : Nat) : Int) by omega]
        refine ih (i + 1) h3 (fun j hj hji => ?_)
        rcases Nat.lt_or_ge j i with h | h
        · exact hp j hj h
        · obtain rfl : j = i := by omega
          rw [← rd64_at l j hj, h2]
          exact ⟨by omega, by omega⟩
def erd : Nat → List S64 → List Int → List S64 × Int
  | 0, out, rest => if rest.length > 0 then ([], 6) else (out, 0)
  | m + 1, out, rest => if (textOut 256 (rn rest 0 0)).2.2 = 0 then (if (textOut 512 (rn (textOut 256 (rn rest 0 0)).2.1 0 0)).2.2 = 0 then erd m (out ++ [⟨(textOut 256 (rn rest 0 0)).1, (textOut 512 (rn (textOut 256 (rn rest 0 0)).2.1 0 0)).1⟩]) (textOut 512 (rn (textOut 256 (rn rest 0 0)).2.1 0 0)).2.1 else ([], (textOut 512 (rn (textOut 256 (rn rest 0 0)).2.1 0 0)).2.2)) else ([], (textOut 256 (rn rest 0 0)).2.2)
def entsIn (l : List Int) : List S64 × Int := match rn l 0 0 with | none => ([], 6) | some (n, r) => if n > 4096 then ([], 3) else erd n [] r
theorem text_out (most : Nat) (l : List Int) (hb : BytesL l) : BytesL (textOut most (rn l 0 0)).1 ∧ BytesL (textOut most (rn l 0 0)).2.1 ∧ (textOut most (rn l 0 0)).1.length ≤ l.length ∧ (textOut most (rn l 0 0)).2.1.length ≤ l.length ∧ (textOut most (rn l 0 0)).1.length ≤ most := by
  cases h : rn l 0 0 with
  | none => simp [textOut, BytesL]
  | some z =>
    obtain ⟨n, r⟩ := z
    obtain ⟨hr, p, hp⟩ := rn_shorter l 0 0 n r h
    have hbr : BytesL r := fun x hx => hb x (by rw [hp]; simp [hx])
    unfold textOut
    simp only
    by_cases g : n > most
    · rw [if_pos g]; simp [BytesL]
    · rw [if_neg g]
      by_cases g2 : n > r.length
      · rw [if_pos g2]; simp [BytesL]
      · rw [if_neg g2]
        refine ⟨fun x hx => hbr x (List.mem_of_mem_take hx), fun x hx => hbr x (List.mem_of_mem_drop hx), ?_, ?_, ?_⟩
        · simp only [List.length_take]; omega
        · simp only [List.length_drop]; omega
        · simp only [List.length_take]; omega
theorem ct_out (most : Nat) (l : List Int) : (ctextOut l most (rn l 0 0)).1 = (textOut most (rn l 0 0)).1 ∧ (ctextOut l most (rn l 0 0)).2.2 = (textOut most (rn l 0 0)).2.2 ∧ ((textOut most (rn l 0 0)).2.2 = 0 → (ctextOut l most (rn l 0 0)).2.1 = (textOut most (rn l 0 0)).2.1) := by
  cases h : rn l 0 0 with
  | none => exact ⟨rfl, rfl, fun h => absurd h (by simp [textOut])⟩
  | some z =>
    obtain ⟨n, r⟩ := z
    unfold ctextOut textOut
    simp only
    by_cases g : n > most
    · rw [if_pos g, if_pos g]; exact ⟨rfl, rfl, fun h => absurd h (by decide)⟩
    · rw [if_neg g, if_neg g]
      by_cases g2 : n > r.length
      · rw [if_pos g2, if_pos g2]; exact ⟨rfl, rfl, fun h => absurd h (by decide)⟩
      · rw [if_neg g2, if_neg g2]; exact ⟨rfl, rfl, fun _ => rfl⟩
theorem refTextM_is (k : Nat) (l : List Int) (most : Nat) (hm : most < 1000000) (hk : 32 ≤ k) (hb : BytesL l) (hl : l.length < 140737488355328) : ladingref03_text.f k l (most : Int) = some (strOfNums (textOut most (rn l 0 0)).1, (textOut most (rn l 0 0)).2.1, (textOut most (rn l 0 0)).2.2) := by
  unfold ladingref03_text.f
  rw [refRead_is k l hk hb hl, some_bind]
  cases h : rn l 0 0 with
  | none => exact (if_neg (show ¬ (6 : Int) = 0 by decide)).trans rfl
  | some z =>
    obtain ⟨n, r⟩ := z
    have hr := (rn_shorter l 0 0 n r h).1
    refine (if_pos (show (0 : Int) = 0 from rfl)).trans ?_
    show (if (n : Int) > (most : Int) then some ((⟨#[]⟩ : ByteArray), ([] : List Int), (4 : Int)) else if (n : Int) > IntKind.u64.wrap (r.length : Int) then some ((⟨#[]⟩ : ByteArray), ([] : List Int), 6) else if 0 ≤ (n : Int) then (if (n : Int) ≤ (r.length : Int) then some (strOfNums (r.take (n : Int).toNat), r.drop (n : Int).toNat, 0) else none) else none) = _
    rw [u64 (by omega) (by omega)]
    unfold textOut
    simp only
    by_cases g : n > most
    · rw [if_pos (by omega), if_pos g]; rfl
    · rw [if_neg (by omega), if_neg g]
      by_cases g2 : n > r.length
      · rw [if_pos (by omega), if_pos g2]; rfl
      · rw [if_neg (by omega), if_pos (by omega), if_pos (by omega), if_neg g2, Int.toNat_natCast]
theorem cnum_err (k : Nat) (l : List Int) (a : Int) (h : a ≠ 0) (hk : 2 ≤ k) : codec_cursor_num.f k l a = some (0, l, a) := by
  obtain ⟨d, rfl⟩ : ∃ d, k = d + 1 + 1 := ⟨k - 2, by omega⟩
  unfold codec_cursor_num.f
  rw [codec_cursor_num.l0]
  by_cases hl : (0 : Int) < (l.length : Int)
  · rw [if_pos hl, if_pos (by omega), if_pos hl, if_neg h, codec_cursor_num.j1, if_pos rfl, fail_not l a 6 h, some_bind]
  · rw [if_neg hl, fail_not l a 6 h, some_bind]
theorem ctext_err (k : Nat) (l : List Int) (a most : Int) (h : a ≠ 0) (hk : 2 ≤ k) : codec_cursor_text.f k l a most = some ([], l, a) := by
  obtain ⟨d, rfl⟩ : ∃ d, k = d + 1 := ⟨k - 1, by omega⟩
  unfold codec_cursor_text.f
  rw [cnum_err _ l a h hk, some_bind]
  refine (if_neg h).trans ?_
  show codec_cursor_text.j0 (d + 1) 0 false l a = some ([], l, a)
  rw [codec_cursor_text.j0, if_neg (by decide), take_err l a 0 h]; rfl
theorem rread_g (k : Nat) (hk : 32 ≤ k) : ∀ (m : Nat) (out : List S64) (rest : List Int), BytesL rest → rest.length ≤ 1048576 → out.length + m ≤ 1048576 → ladingref03_ReadEntries.g k m out rest = some (erd m out rest)
  | 0, out, rest, hb, hl, ho => by
    unfold ladingref03_ReadEntries.g erd
    split <;> rfl
  | m + 1, out, rest, hb, hl, ho => by
    obtain ⟨b1, b2, b3, b4, b5⟩ := text_out 256 rest hb
    obtain ⟨c1, c2, c3, c4, c5⟩ := text_out 512 _ b2
    rw [ladingref03_ReadEntries.g, show (256 : Int) = ((256 : Nat) : Int) from rfl, refTextM_is k rest 256 (by decide) hk hb (by omega), some_bind, erd]
    by_cases g : (textOut 256 (rn rest 0 0)).2.2 = 0
    · rw [if_pos g, if_pos g, show (512 : Int) = ((512 : Nat) : Int) from rfl]
      show ((ladingref03_text.f k (textOut 256 (rn rest 0 0)).2.1 ((512 : Nat) : Int)).bind _) = _
      rw [refTextM_is k _ 512 (by decide) hk b2 (by omega), some_bind]
      by_cases g2 : (textOut 512 (rn (textOut 256 (rn rest 0 0)).2.1 0 0)).2.2 = 0
      · rw [if_pos g2, if_pos g2]
        refine (if_pos ⟨by omega, by show (strOfNums _).size ≤ _; rw [strOf_size _ b1]; omega, by show (strOfNums _).size ≤ _; rw [strOf_size _ c1]; omega⟩).trans ?_
        show ladingref03_ReadEntries.g k m (out ++ [⟨bytesOf (strOfNums _), bytesOf (strOfNums _)⟩]) (textOut 512 (rn (textOut 256 (rn rest 0 0)).2.1 0 0)).2.1 = _
        rw [bytesOf_strOf _ b1, bytesOf_strOf _ c1]
        exact rread_g k hk m _ _ c2 (by omega) (by rw [List.length_append, List.length_singleton]; omega)
      · rw [if_neg g2, if_neg g2]
    · rw [if_neg g, if_neg g]
theorem rread_is (k : Nat) (l : List Int) (hk : 32 ≤ k) (hb : BytesL l) (hl : l.length ≤ 1048576) : ladingref03_ReadEntries.f k l = some (entsIn l) := by
  unfold ladingref03_ReadEntries.f entsIn
  rw [refRead_is k l hk hb (by omega), some_bind]
  cases h : rn l 0 0 with
  | none => exact (if_neg (show ¬ (6 : Int) = 0 by decide)).trans rfl
  | some z =>
    obtain ⟨n, r⟩ := z
    obtain ⟨hr, p, hp⟩ := rn_shorter l 0 0 n r h
    have hbr : BytesL r := fun x hx => hb x (by rw [hp]; simp [hx])
    refine (if_pos (show (0 : Int) = 0 from rfl)).trans ?_
    show (if (n : Int) > 4096 then some ([], 3) else if 0 ≤ (n : Int) then ladingref03_ReadEntries.g k (n : Int).toNat [] r else none) = some (if n > 4096 then ([], 3) else erd n [] r)
    by_cases g : n > 4096
    · rw [if_pos (by omega), if_pos g]
    · rw [if_neg (by omega), if_neg g, if_pos (by omega), Int.toNat_natCast]
      exact rread_g k hk n [] r hbr (by omega) (by simp; omega)
theorem cread_end (k : Nat) (out : List S64) (l : List Int) (w : Int) (hw : w ≠ 0) (x : Int) : codec_ReadEntries.l0 (k + 3) x out l w = some ([], w) := by
  rw [codec_ReadEntries.l0]
  have hj : codec_ReadEntries.j3 (k + 2) x out false l w = some ([], w) := by
    rw [codec_ReadEntries.j3, if_neg (by decide), if_neg hw, codec_ReadEntries.j4, if_neg (by decide), if_neg hw]
  have hw2 : (w == 0) = false := beq_eq_false_iff_ne.2 hw
  rw [hw2, hj]
  split <;> rfl
theorem cread_l (l : List Int) : ∀ (m k : Nat) (out : List S64) (rest : List Int), BytesL rest → rest.length ≤ 1048576 → out.length + m ≤ 1048576 → m ≤ 4096 → codec_ReadEntries.l0 (k + 30 + 2 * m) (m : Int) out rest 0 = some (erd m out rest) := by
  intro m
  induction m with
  | zero =>
    intro k out rest hb hl ho hm
    rw [show k + 30 + 2 * 0 = (k + 27) + 3 by omega, codec_ReadEntries.l0, if_neg (by decide), codec_ReadEntries.j3, if_neg (by decide), if_pos rfl, codec_ReadEntries.j4, erd]
    by_cases g : rest.length > 0
    · rw [if_pos (decide_eq_true (by omega)), if_pos g, fail_is, some_bind]; rfl
    · rw [if_neg (by rw [decide_eq_true_iff]; omega), if_neg g, if_pos rfl]
  | succ m ih =>
    intro k out rest hb hl ho hm
    obtain ⟨b1, b2, b3, b4, b5⟩ := text_out 256 rest hb
    obtain ⟨c1, c2, c3, c4, c5⟩ := text_out 512 _ b2
    obtain ⟨x1, x2, x3⟩ := ct_out 256 rest
    rw [show k + 30 + 2 * (m + 1) = (k + 30 + 2 * m + 1) + 1 by omega, codec_ReadEntries.l0, if_pos (by omega), codec_ReadEntries.j3, if_pos rfl, show (256 : Int) = ((256 : Nat) : Int) from rfl, ctext_is _ rest 256 (by omega) hb (by omega), some_bind, x1, x2, erd]
    by_cases g : (textOut 256 (rn rest 0 0)).2.2 = 0
    · rw [if_pos g, x3 g, g]
      obtain ⟨y1, y2, y3⟩ := ct_out 512 (textOut 256 (rn rest 0 0)).2.1
      rw [show (512 : Int) = ((512 : Nat) : Int) from rfl, ctext_is _ _ 512 (by omega) b2 (by omega), some_bind, if_pos (show out.length < 2932031007402 by omega), y1, y2, u64 (by omega) (by omega)]
      by_cases g2 : (textOut 512 (rn (textOut 256 (rn rest 0 0)).2.1 0 0)).2.2 = 0
      · rw [if_pos g2, y3 g2, g2, show ((m + 1 : Nat) : Int) - 1 = (m : Int) by omega]
        exact ih k _ _ c2 (by omega) (by rw [List.length_append, List.length_singleton]; omega) (by omega)
      · rw [if_neg g2, show k + 30 + 2 * m = (k + 27 + 2 * m) + 3 by omega]
        exact cread_end _ _ _ _ g2 _
    · rw [if_neg g, ctext_err _ _ _ _ g (by omega), some_bind, if_pos (show out.length < 2932031007402 by omega), show k + 30 + 2 * m = (k + 27 + 2 * m) + 3 by omega]
      exact cread_end _ _ _ _ g _
theorem cread_is (k : Nat) (l : List Int) (hk : 9000 ≤ k) (hb : BytesL l) (hl : l.length ≤ 1048576) : codec_ReadEntries.f k l = some (entsIn l) := by
  unfold codec_ReadEntries.f entsIn
  rw [cnum_is k l (by omega) hb (by omega), some_bind]
  cases h : rn l 0 0 with
  | none =>
    obtain ⟨d, rfl⟩ : ∃ d, k = d + 5 := ⟨k - 5, by omega⟩
    refine (if_neg (show ¬ (6 : Int) = 0 by decide)).trans ?_
    show codec_ReadEntries.j0 (d + 4 + 1) 0 false l 6 = _
    rw [codec_ReadEntries.j0, if_neg (by decide), codec_ReadEntries.j1]
    exact cread_end d [] l 6 (by decide) 0
  | some z =>
    obtain ⟨n, r⟩ := z
    obtain ⟨hr, p, hp⟩ := rn_shorter l 0 0 n r h
    have hbr : BytesL r := fun x hx => hb x (by rw [hp]; simp [hx])
    obtain ⟨d, rfl⟩ : ∃ d, k = d + 2 := ⟨k - 2, by omega⟩
    refine (if_pos (show (0 : Int) = 0 from rfl)).trans ?_
    show codec_ReadEntries.j0 (d + 1 + 1) (n : Int) (decide ((n : Int) > 4096)) r 0 = some (if n > 4096 then ([], 3) else erd n [] r)
    rw [codec_ReadEntries.j0]
    by_cases g : n > 4096
    · rw [if_pos (decide_eq_true (by omega)), if_pos g, fail_is, some_bind, codec_ReadEntries.j1, show d = (d - 3) + 3 by omega]
      exact cread_end _ _ _ _ (show (3 : Int) ≠ 0 by decide) _
    · rw [if_neg (by rw [decide_eq_true_iff]; omega), if_neg g, codec_ReadEntries.j1]
      obtain ⟨q, rfl⟩ : ∃ q, d = q + 30 + 2 * n := ⟨d - 30 - 2 * n, by omega⟩
      exact cread_l l n q [] r hbr (by omega) (by simp; omega) (by omega)
theorem erd_ok : ∀ (m : Nat) (out : List S64) (rest : List Int), BytesL rest → EntsOk out → EntsOk (erd m out rest).1 ∧ (erd m out rest).1.length ≤ out.length + m
  | 0, out, rest, hb, ho => by
    unfold erd
    split
    · exact ⟨fun e he => by simp at he, by simp⟩
    · exact ⟨ho, Nat.le_refl _⟩
  | m + 1, out, rest, hb, ho => by
    obtain ⟨b1, b2, b3, b4, b5⟩ := text_out 256 rest hb
    obtain ⟨c1, c2, c3, c4, c5⟩ := text_out 512 _ b2
    unfold erd
    split
    · split
      · have h := erd_ok m (out ++ [⟨(textOut 256 (rn rest 0 0)).1, (textOut 512 (rn (textOut 256 (rn rest 0 0)).2.1 0 0)).1⟩]) _ c2 (fun e he => by
          rcases List.mem_append.1 he with he | he
          · exact ho e he
          · rw [List.mem_singleton.1 he]; exact ⟨b1, c1⟩)
        rw [List.length_append, List.length_singleton] at h
        exact ⟨h.1, by omega⟩
      · exact ⟨fun e he => by simp at he, by simp⟩
    · exact ⟨fun e he => by simp at he, by simp⟩
theorem entsIn_ok (l : List Int) (hb : BytesL l) : EntsOk (entsIn l).1 ∧ (entsIn l).1.length ≤ 4096 := by
  unfold entsIn
  cases h : rn l 0 0 with
  | none => exact ⟨fun e he => by simp at he, by simp⟩
  | some z =>
    obtain ⟨n, r⟩ := z
    obtain ⟨hr, p, hp⟩ := rn_shorter l 0 0 n r h
    have hbr : BytesL r := fun x hx => hb x (by rw [hp]; simp [hx])
    simp only
    by_cases g : n > 4096
    · rw [if_pos g]; exact ⟨fun e he => by simp at he, by simp⟩
    · rw [if_neg g]
      have h := erd_ok n [] r hbr (fun e he => by simp at he)
      exact ⟨h.1, by have := h.2; simp at this; omega⟩
theorem CodecEntriesUpto : ∀ (l0 : List (S64)) (l1 : List Int), (l0.length ≤ 1048576 ∧ ∀ y3 ∈ l0, ((y3.f0.length ≤ 1048576 ∧ ∀ y5 ∈ y3.f0, (Lit.int .u8 y5).wf = true) ∧ (y3.f1.length ≤ 1048576 ∧ ∀ y5 ∈ y3.f1, (Lit.int .u8 y5).wf = true))) → (l1.length ≤ 1048576 ∧ ∀ y3 ∈ l1, (Lit.int .u8 y3).wf = true) → ∃ k, ladinglaw03_CodecEntries.f k l0 l1 = some true := by
  intro l b ⟨hl, he⟩ ⟨hbl, hbb⟩
  have ok : EntsOk l := fun e h => ⟨fun x hx => wf_u8 ((he e h).1.2 x hx), fun x hx => wf_u8 ((he e h).2.2 x hx)⟩
  have hb : BytesL b := fun x hx => wf_u8 (hbb x hx)
  refine ⟨2000000, ?_⟩
  have oi := entsIn_ok b hb
  have same : ladingref03_Same.f (entsOf l).1 (entsOf l).1 = some true := by
    have hbx : BytesL (entsOf l).1 := by
      rcases ents_cases l with ⟨c, _, h⟩ | ⟨h1, h2, h⟩
      · rw [h]; intro x hx; simp at hx
      · rw [h]; exact ents_bytes l ok h2 h1
    rw [same_is _ _ hbx hbx, decide_eq_true rfl]
  have rents : ladingref03_Entries.f 2000000 l = some (entsOf l) := by
    unfold ladingref03_Entries.f entsOf
    by_cases h : l.length > 4096
    · rw [if_pos (by omega), if_pos h]
    · rw [if_neg (by omega), if_neg h]
      obtain ⟨K, hK⟩ : ∃ K, 2000000 = K + l.length + 1 := ⟨2000000 - l.length - 1, by omega⟩
      rw [hK]
      exact rent_l0 l (by omega) ok K (by omega) l 0 rfl (fun j hj h => absurd h (Nat.not_lt_zero _))
  unfold ladinglaw03_CodecEntries.f
  rw [copy_is _ l hl (fun e h => ⟨(he e h).1.1, (he e h).2.1⟩) (by omega), some_bind, ents_is _ l (by omega), some_bind, rents, some_bind, cread_is _ b (by omega) hb hbl, some_bind, rread_is _ b (by omega) hb hbl, some_bind, lives_is _ (by omega), some_bind, if_pos rfl, same, some_bind, if_pos rfl, if_pos rfl, sameE_is _ _ _ oi.1 oi.1 (by omega) (by omega), some_bind, decide_eq_true rfl, if_pos rfl, if_pos rfl, sameE_is _ l l ok ok hl (by omega), some_bind, decide_eq_true rfl]
end Go.Proofs.YtfpdipnaefomiaaDoor.Pure
