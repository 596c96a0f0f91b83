/- Keys and entries are read as what was written, and written as what was read: for parts, entries and bytes of bulk at most 1048576. -/
import Derived.Test.YtfpdipnaefomiaaDoorZPrint6
import Derived.Test.YtfpdipnaefomiaaDoorZPrint9
import Derived.Laws.Bits64
import Derived.Laws.Bits64b
import Derived.Test.YtfpdipnaefomiaaDoorZPrint17
import Derived.Test.YtfpdipnaefomiaaDoorZPrint16
import Derived.Test.YtfpdipnaefomiaaDoorZPrint3
import Derived.Lib.Replace
import Derived.Lib.ReplaceLaws
import Derived.Test.YtfpdipnaefomiaaDoorZPrint7
import Derived.Test.YtfpdipnaefomiaaDoorZPrint12
import Derived.Test.YtfpdipnaefomiaaDoorZPrint13
import Derived.Test.YtfpdipnaefomiaaDoorZPrint27
import Derived.Test.YtfpdipnaefomiaaDoorZPrint29
import Derived.Test.YtfpdipnaefomiaaDoorZPrint22
import Derived.Test.YtfpdipnaefomiaaDoorZPrint31
set_option linter.unusedVariables false
namespace Go.Proofs.YtfpdipnaefomiaaDoor.Pure
open Go.RowKit Go.Proofs.YtfpdipnaefomiaaDoor.Print Go.Proofs.YtfpdipnaefomiaaDoorW.PrintWords Go.Proofs.YtfpdipnaefomiaaDoorW.PrintLast Go.Proofs.YtfpdipnaefomiaaDoorW.PrintMore
theorem up {α : Type} {f : Nat → Option α} (hm : ∀ k, LeO (f k) (f (k + 1))) {k n : Nat} {r : α} (h : f k = some r) (hk : k ≤ n) : f n = some r := by
  obtain ⟨d, rfl⟩ : ∃ d, n = k + d := ⟨n - k, by omega⟩
  induction d with
  | zero => exact h
  | succ d ih => exact hm (k + d) r (ih (by omega))
theorem w64 {x : Int} (h0 : -9223372036854775808 ≤ x) (h1 : x ≤ 9223372036854775807) : wrap64 x = x := by unfold wrap64; omega
theorem u64 {x : Int} (h0 : 0 ≤ x) (h1 : x ≤ 18446744073709551615) : IntKind.u64.wrap x = x := by rw [IntKind.wrap_u64]; omega
theorem wf_u8 {x : Int} (h : (Lit.int .u8 x).wf = true) : 0 ≤ x ∧ x < 256 := by
  simp [Lit.wf, IntKind.min, IntKind.max, IntKind.bits, IntKind.signed] at h
  omega
theorem wf_u64 {x : Int} (h : (Lit.int .u64 x).wf = true) : 0 ≤ x ∧ x < 18446744073709551616 := by
  simp [Lit.wf, IntKind.min, IntKind.max, IntKind.bits, IntKind.signed] at h
  omega
theorem some_bind {α β : Type} (a : α) (f : α → Option β) : (some a).bind f = f a := rfl
theorem rd_at (l : List Int) (i : Nat) (h : i < l.length) : rd l (i : Int) = l[i] := by
  unfold rd
  rw [Int.toNat_natCast, List.getD_eq_getElem?_getD, List.getElem?_eq_getElem h]; rfl
theorem or128' : ∀ x : Nat, x < 256 → bits .or .u8 (x : Int) 128 = ((x % 128 + 128 : Nat) : Int) := by decide +kernel
theorem and127 : ∀ x : Nat, x < 256 → bits .and .u8 (x : Int) 127 = ((x % 128 : Nat) : Int) := by decide +kernel
def gr : Nat → Nat → List Int
  | 0, n => [(n : Int)]
  | j + 1, n => if n < 128 then [(n : Int)] else ((n % 128 + 128 : Nat) : Int) :: gr j (n / 128)
theorem gr_len : ∀ j n, 1 ≤ (gr j n).length ∧ (gr j n).length ≤ j + 1
  | 0, n => by simp [gr]
  | j + 1, n => by
    unfold gr
    split
    · simp
    · have := gr_len j (n / 128); simp; omega
theorem groups_is : ∀ (j : Nat) (l : List Int) (n k : Nat), n < 128 ^ (j + 1) → l.length + j < 140737488355328 → codec_groups.l0 (k + j + 1) l (n : Int) = some (l ++ gr j n)
  | 0, l, n, k, hn, hl => by
    unfold codec_groups.l0 gr
    rw [if_neg (by omega), if_pos (by omega)]
    have : ((n : Int)) % 256 = n := by omega
    rw [this]
  | j + 1, l, n, k, hn, hl => by
    rw [show k + (j + 1) + 1 = (k + j + 1) + 1 by omega]
    unfold codec_groups.l0 gr
    by_cases h : n < 128
    · rw [if_neg (by omega), if_pos (by omega), if_pos h]
      have : ((n : Int)) % 256 = n := by omega
      rw [this]
    · rw [if_pos (by omega), if_pos (by omega), if_neg h]
      have e1 : ((n : Int)) % 256 = ((n % 256 : Nat) : Int) := by omega
      have e2 : ((n : Int)) / 128 = ((n / 128 : Nat) : Int) := by omega
      rw [e1, or128' _ (by omega), e2, groups_is j _ (n / 128) k ?_ (by simp; omega)]
      · have : n % 256 % 128 = n % 128 := by omega
        rw [this, List.append_assoc]; rfl
      · rw [Nat.pow_succ] at hn; omega
theorem own_is (l : List Int) (h : l.length < 140737488355328) : codec_own.f l = some l := by
  unfold codec_own.f
  rw [if_pos (by simpa using h)]; rfl
def num (n : Nat) : List Int := gr 9 n
theorem num_len (n : Nat) : 1 ≤ (num n).length ∧ (num n).length ≤ 10 := gr_len 9 n
theorem groups_num (k : Nat) (l : List Int) (n : Nat) (hk : 10 ≤ k) (hn : n < 18446744073709551616) (hl : l.length + 9 < 140737488355328) : codec_groups.f k l (n : Int) = some (l ++ num n) := by
  obtain ⟨d, rfl⟩ : ∃ d, k = d + 9 + 1 := ⟨k - 10, by omega⟩
  exact groups_is 9 l n d (Nat.lt_trans hn (by decide)) hl
theorem lives_at : ladinglaw03_lives.f 40 = some true := by kernel_rfl
theorem lives_is (k : Nat) (hk : 40 ≤ k) : ladinglaw03_lives.f k = some true := up ladinglaw03_lives.mono lives_at hk
end Go.Proofs.YtfpdipnaefomiaaDoor.Pure
set_option linter.unusedVariables false
namespace Go.Proofs.YtfpdipnaefomiaaDoor.Pure
open Go.RowKit Go.Proofs.YtfpdipnaefomiaaDoor.Print Go.Proofs.YtfpdipnaefomiaaDoorW.PrintWords Go.Proofs.YtfpdipnaefomiaaDoorW.PrintLast Go.Proofs.YtfpdipnaefomiaaDoorW.PrintMore
def BytesL (l : List Int) : Prop := ∀ x ∈ l, 0 ≤ x ∧ x < 256
def rn : List Int → Nat → Nat → Option (Nat × List Int)
  | [], _, _ => none
  | x :: r, i, acc =>
    if i > 9 then none else if i = 9 ∧ x.toNat % 128 > 1 then none else if i > 0 ∧ x = 0 then none
    else if x < 128 then some (acc + x.toNat % 128 * 2 ^ (7 * i), r) else rn r (i + 1) (acc + x.toNat % 128 * 2 ^ (7 * i))
theorem rn_stop (y : Nat) (d : List Int) (i acc : Nat) (h : i > 9 ∨ (i = 9 ∧ y % 128 > 1) ∨ (i > 0 ∧ y = 0)) : rn ((y : Int) :: d) i acc = none := by
  unfold rn
  rw [Int.toNat_natCast]
  by_cases h1 : i > 9
  · rw [if_pos h1]
  · rw [if_neg h1]
    by_cases h2 : i = 9 ∧ y % 128 > 1
    · rw [if_pos h2]
    · rw [if_neg h2, if_pos (by omega)]
theorem rn_on (y : Nat) (d : List Int) (i acc : Nat) (h : ¬ (i > 9 ∨ (i = 9 ∧ y % 128 > 1) ∨ (i > 0 ∧ y = 0))) :
    rn ((y : Int) :: d) i acc = if (y : Int) < 128 then some (acc + y % 128 * 2 ^ (7 * i), d) else rn d (i + 1) (acc + y % 128 * 2 ^ (7 * i)) := by
  conv => lhs; unfold rn
  rw [Int.toNat_natCast, if_neg (by omega), if_neg (by omega), if_neg (by omega)]
theorem pow_step (i acc y : Nat) (ha : acc < 2 ^ (7 * i)) (hy : y < 128) : acc + y * 2 ^ (7 * i) < 2 ^ (7 * (i + 1)) := by
  rw [show 7 * (i + 1) = 7 * i + 7 by omega, Nat.pow_add]
  have : (y + 1) * 2 ^ (7 * i) ≤ 2 ^ 7 * 2 ^ (7 * i) := Nat.mul_le_mul_right _ (by omega)
  rw [Nat.mul_comm (2 ^ (7 * i))]
  rw [Nat.add_mul] at this
  omega
theorem pow_64 (i acc y : Nat) (hi : i ≤ 9) (ha : acc < 2 ^ (7 * i)) (hy : y < 128) (h9 : i = 9 → y ≤ 1) : acc + y * 2 ^ (7 * i) < 18446744073709551616 := by
  by_cases h : i = 9
  · subst h
    have := h9 rfl
    have : y * 2 ^ 63 ≤ 1 * 2 ^ 63 := Nat.mul_le_mul_right _ this
    omega
  · have h1 := pow_step i acc y ha hy
    have h2 : 2 ^ (7 * (i + 1)) ≤ 2 ^ 63 := Nat.pow_le_pow_right (by omega) (by omega)
    omega
theorem shl_at (y i : Nat) (hi : i ≤ 9) (hy : y < 128) (h9 : i = 9 → y ≤ 1) : shl .u64 (y : Int) (((7 * i : Nat) : Int)) = ((y * 2 ^ (7 * i) : Nat) : Int) := by
  have h1 := pow_64 i 0 y hi (Nat.two_pow_pos _) hy h9
  unfold shl
  rw [Int.toNat_natCast, Nat.min_eq_left (show 7 * i ≤ IntKind.bits .u64 by show 7 * i ≤ 64; omega)]
  rw [show (y : Int) * 2 ^ (7 * i) = ((y * 2 ^ (7 * i) : Nat) : Int) by push_cast; rfl, u64 (by omega) (by omega)]
theorem or_add (acc y i : Nat) (hi : i ≤ 9) (ha : acc < 2 ^ (7 * i)) (hy : y < 128) (h9 : i = 9 → y ≤ 1) :
    bits .or .u64 (acc : Int) ((y * 2 ^ (7 * i) : Nat) : Int) = ((acc + y * 2 ^ (7 * i) : Nat) : Int) := by
  have h1 := pow_64 i acc y hi ha hy h9
  rw [bits_or_u64_nat _ _ (by omega) (by omega)]
  congr 1
  have := Nat.two_pow_add_eq_or_of_lt ha y
  rw [Nat.or_comm, Nat.mul_comm y, ← this]; omega
theorem fail_is (l : List Int) (e : Int) : codec_cursor_fail.f l 0 e = some (l, e) := by unfold codec_cursor_fail.f; rw [if_pos rfl]
theorem fail_not (l : List Int) (a e : Int) (h : a ≠ 0) : codec_cursor_fail.f l a e = some (l, a) := by unfold codec_cursor_fail.f; rw [if_neg h]
def numOut (l : List Int) (o : Option (Nat × List Int)) : Int × List Int × Int := match o with | some (n, r) => ((n : Int), r, 0) | none => (0, l, 6)
theorem drop_cons {l d : List Int} {i : Nat} {x : Int} (h : l.drop i = x :: d) : i < l.length ∧ rd l (i : Int) = x ∧ l.drop (i + 1) = d ∧ x ∈ l := by
  have hi : i < l.length := by
    rcases Nat.lt_or_ge i l.length with h1 | h1
    · exact h1
    · rw [List.drop_eq_nil_of_le h1] at h; cases h
  have h2 := List.drop_eq_getElem_cons hi
  rw [h] at h2
  injection h2 with h3 h4
  exact ⟨hi, by rw [rd_at l i hi, h3], h4.symm, by rw [h3]; exact List.getElem_mem hi⟩
theorem cnum_l (l : List Int) (hb : BytesL l) (hl : l.length < 9223372036854775807) : ∀ (m i acc k : Nat) (d : List Int), i + m = 10 → l.drop i = d → acc < 2 ^ (7 * i) →
    codec_cursor_num.l0 (k + 2 * m + 2) (acc : Int) l (l.length : Int) (i : Int) l 0 = some (numOut l (rn d i acc)) := by
  intro m
  induction m with
  | zero =>
    intro i acc k d hi hd ha
    obtain rfl : i = 10 := by omega
    unfold codec_cursor_num.l0
    by_cases h : (10 : Nat) < l.length
    · rw [if_pos (by omega), if_pos (by omega), if_pos (by omega), if_pos rfl, if_pos (by omega)]
      unfold codec_cursor_num.j1
      rw [if_pos rfl, fail_is, some_bind]
      rw [List.drop_eq_getElem_cons h] at hd
      subst hd
      simp [rn, numOut]
    · rw [if_neg (by omega), fail_is, some_bind]
      rw [List.drop_eq_nil_of_le (by omega)] at hd
      subst hd
      rfl
  | succ m ih =>
    intro i acc k d hi hd ha
    rw [show k + 2 * (m + 1) + 2 = ((k + 2 * m + 2) + 1) + 1 by omega]
    unfold codec_cursor_num.l0
    cases d with
    | nil =>
      have : l.length ≤ i := by
        rcases Nat.lt_or_ge i l.length with h1 | h1
        · rw [List.drop_eq_getElem_cons h1] at hd; cases hd
        · exact h1
      rw [if_neg (by omega), fail_is, some_bind]; rfl
    | cons x d =>
      obtain ⟨h1, h2, h3, h4⟩ := drop_cons hd
      have hx := hb x h4
      obtain ⟨y, rfl⟩ : ∃ y : Nat, x = y := ⟨x.toNat, by omega⟩
      have e1 : IntKind.u64.wrap (bits .and .u8 (rd l (i : Int)) 127) = ((y % 128 : Nat) : Int) := by rw [h2, and127 y (by omega), u64 (by omega) (by omega)]
      rw [if_pos (by omega), if_pos (by omega), if_pos (by omega), if_pos rfl, if_neg (by omega), e1, h2]
      have go : ∀ b : Bool, (b = true ↔ (i = 9 ∧ y % 128 > 1) ∨ (i > 0 ∧ y = 0)) →
          codec_cursor_num.j1 (k + 2 * m + 2 + 1) (acc : Int) (i : Int) (y : Int) ((y % 128 : Nat) : Int) l (l.length : Int) (i : Int) b l 0 = some (numOut l (rn ((y : Int) :: d) i acc)) := by
        intro b hbv
        unfold codec_cursor_num.j1
        cases b with
        | true =>
          rw [if_pos rfl, fail_is, some_bind]
          have := hbv.1 rfl
          rw [rn_stop y d i acc (.inr this)]; rfl
        | false =>
          have hn : ¬ ((i = 9 ∧ y % 128 > 1) ∨ (i > 0 ∧ y = 0)) := fun h => by have := hbv.2 h; cases this
          have h9 : i = 9 → y % 128 ≤ 1 := by omega
          have p64 := pow_64 i acc (y % 128) (by omega) ha (by omega) h9
          rw [if_neg (by decide), w64 (x := 7 * (i : Int)) (by omega) (by omega), if_pos (by omega), show (7 * (i : Int)) = ((7 * i : Nat) : Int) by omega, shl_at (y % 128) i (by omega) (by omega) h9, or_add acc (y % 128) i (by omega) ha (by omega) h9]
          rw [rn_on y d i acc (by omega), w64 (x := (i : Int) + 1) (by omega) (by omega)]
          by_cases g : (y : Int) < 128
          · rw [if_pos g, if_pos (by omega), if_pos (by omega), if_pos g, show ((i : Int) + 1).toNat = i + 1 by omega, h3]; rfl
          · rw [if_neg g, if_neg g]
            exact ih (i + 1) _ k d (by omega) h3 (pow_step i acc (y % 128) ha (by omega))
      by_cases g9 : i = 9
      · rw [if_pos (by omega)]
        by_cases g1 : y % 128 > 1
        · rw [if_pos (by omega)]; exact go true ⟨fun _ => .inl ⟨g9, g1⟩, fun _ => rfl⟩
        · rw [if_neg (by omega), if_pos (by omega)]
          exact go _ ⟨fun h => by have : (y : Int) = 0 := by simpa using h
                                  exact .inr (by omega), fun h => by have : (y : Int) = 0 := by omega
                                                                     simpa using this⟩
      · rw [if_neg (by omega)]
        by_cases g0 : i > 0
        · rw [if_pos (by omega)]
          exact go _ ⟨fun h => by have : (y : Int) = 0 := by simpa using h
                                  exact .inr (by omega), fun h => by have : (y : Int) = 0 := by omega
                                                                     simpa using this⟩
        · rw [if_neg (by omega)]
          exact go false ⟨fun h => absurd h (by decide), fun h => by omega⟩
theorem cnum_is (k : Nat) (l : List Int) (hk : 22 ≤ k) (hb : BytesL l) (hl : l.length < 140737488355328) : codec_cursor_num.f k l 0 = some (numOut l (rn l 0 0)) := by
  obtain ⟨d, rfl⟩ : ∃ d, k = d + 2 * 10 + 2 := ⟨k - 22, by omega⟩
  unfold codec_cursor_num.f
  exact cnum_l l hb (by omega) 10 0 0 d l rfl rfl (by simp)
theorem rn_shorter : ∀ (l : List Int) (i acc : Nat) (n : Nat) (r : List Int), rn l i acc = some (n, r) → r.length < l.length ∧ (∃ p, l = p ++ r)
  | [], _, _, _, _, h => by simp [rn] at h
  | x :: t, i, acc, n, r, h => by
    unfold rn at h
    split at h
    · cases h
    · split at h
      · cases h
      · split at h
        · cases h
        · split at h
          · simp only [Option.some.injEq, Prod.mk.injEq] at h
            obtain ⟨_, rfl⟩ := h
            exact ⟨by simp, [x], rfl⟩
          · obtain ⟨h1, p, hp⟩ := rn_shorter t _ _ n r h
            exact ⟨by simp; omega, x :: p, by rw [hp]; rfl⟩
def textOut (most : Nat) (o : Option (Nat × List Int)) : List Int × List Int × Int := match o with
  | some (n, r) => if n > most then ([], [], 4) else if n > r.length then ([], [], 6) else (r.take n, r.drop n, 0)
  | none => ([], [], 6)
def ctextOut (l : List Int) (most : Nat) (o : Option (Nat × List Int)) : List Int × List Int × Int := match o with
  | some (n, r) => if n > most then ([], r, 4) else if n > r.length then ([], r, 6) else (r.take n, r.drop n, 0)
  | none => ([], l, 6)
theorem take_err (l : List Int) (a n : Int) (h : a ≠ 0) : codec_cursor_take.f l a n = some ([], l, a) := by
  unfold codec_cursor_take.f
  rw [fail_not l a 6 h, some_bind]
  split <;> first | rfl | exact (if_neg h).trans rfl
theorem take_is (l : List Int) (n : Nat) (hl : l.length < 140737488355328) : codec_cursor_take.f l 0 (n : Int) = some (if n > l.length then ([], l, 6) else (l.take n, l.drop n, 0)) := by
  unfold codec_cursor_take.f
  rw [u64 (by omega) (by omega), fail_is, some_bind]
  by_cases h : n > l.length
  · rw [if_pos (by omega), if_pos h]
    exact (if_neg (show ¬ (6 : Int) = 0 by decide)).trans rfl
  · rw [if_neg (by omega), if_pos rfl, if_pos (by omega), if_pos (by omega), if_neg h, Int.toNat_natCast, own_is _ (by rw [List.length_take]; omega)]; rfl
theorem ctext_is (k : Nat) (l : List Int) (most : Nat) (hk : 22 ≤ k) (hb : BytesL l) (hl : l.length < 140737488355328) : codec_cursor_text.f k l 0 (most : Int) = some (ctextOut l most (rn l 0 0)) := by
  obtain ⟨d, rfl⟩ : ∃ d, k = d + 1 := ⟨k - 1, by omega⟩
  unfold codec_cursor_text.f
  rw [cnum_is _ l hk hb hl, some_bind]
  cases h : rn l 0 0 with
  | none =>
    refine (if_neg (show ¬ (6 : Int) = 0 by decide)).trans ?_
    show codec_cursor_text.j0 (d + 1) 0 false l 6 = some ([], l, 6)
    rw [codec_cursor_text.j0, if_neg (by decide), take_err l 6 0 (by decide)]; rfl
  | some z =>
    obtain ⟨n, r⟩ := z
    have hr := (rn_shorter l 0 0 n r h).1
    refine (if_pos (show (0 : Int) = 0 from rfl)).trans ?_
    show codec_cursor_text.j0 (d + 1) (n : Int) (decide ((n : Int) > (most : Int))) r 0 = some (if n > most then ([], r, 4) else if n > r.length then ([], r, 6) else (r.take n, r.drop n, 0))
    rw [codec_cursor_text.j0]
    by_cases g : n > most
    · rw [if_pos (decide_eq_true (by omega)), fail_is, some_bind, take_err r 4 n (by decide), if_pos g]; rfl
    · rw [if_neg (by rw [decide_eq_true_iff]; omega), take_is r n (by omega), some_bind, if_neg g]
end Go.Proofs.YtfpdipnaefomiaaDoor.Pure
set_option linter.unusedVariables false
namespace Go.Proofs.YtfpdipnaefomiaaDoor.Pure
open Go.RowKit Go.Proofs.YtfpdipnaefomiaaDoor.Print Go.Proofs.YtfpdipnaefomiaaDoorW.PrintWords Go.Proofs.YtfpdipnaefomiaaDoorW.PrintLast Go.Proofs.YtfpdipnaefomiaaDoorW.PrintMore
theorem pow7 (i : Nat) : 2 ^ (7 * (i + 1)) = 128 * 2 ^ (7 * i) := by rw [show 7 * (i + 1) = 7 + 7 * i by omega, Nat.pow_add]
theorem rn_gr : ∀ (j i acc n : Nat) (b : List Int), i + j = 9 → n * 2 ^ (7 * i) < 18446744073709551616 → (i > 0 → n ≠ 0) → rn (gr j n ++ b) i acc = some (acc + n * 2 ^ (7 * i), b)
  | 0, i, acc, n, b, hi, hn, h0 => by
    obtain rfl : i = 9 := by omega
    have h1 : n ≤ 1 := by
      rcases Nat.lt_or_ge 1 n with h | h
      · have : 2 * 2 ^ (7 * 9) ≤ n * 2 ^ (7 * 9) := Nat.mul_le_mul_right _ h
        omega
      · exact h
    have := h0 (by omega)
    show rn ((n : Int) :: b) 9 acc = _
    rw [rn_on n b 9 acc (by omega), if_pos (by omega), Nat.mod_eq_of_lt (by omega)]
  | j + 1, i, acc, n, b, hi, hn, h0 => by
    unfold gr
    by_cases h : n < 128
    · rw [if_pos h]
      show rn ((n : Int) :: b) i acc = _
      rw [rn_on n b i acc (by omega), if_pos (by omega), Nat.mod_eq_of_lt h]
    · rw [if_neg h]
      show rn (((n % 128 + 128 : Nat) : Int) :: (gr j (n / 128) ++ b)) i acc = _
      rw [rn_on _ _ i acc (by omega), if_neg (by omega), show (n % 128 + 128) % 128 = n % 128 by omega]
      have e : (n / 128) * 2 ^ (7 * (i + 1)) + n % 128 * 2 ^ (7 * i) = n * 2 ^ (7 * i) := by
        rw [pow7, ← Nat.mul_assoc, ← Nat.add_mul]
        congr 1; omega
      rw [rn_gr j (i + 1) _ (n / 128) b (by omega) (by omega) (by omega)]
      congr 2; omega
theorem rn_num (n : Nat) (b : List Int) (hn : n < 18446744073709551616) : rn (num n ++ b) 0 0 = some (n, b) := by
  have := rn_gr 9 0 0 n b rfl (by simpa using hn) (by omega)
  simpa [num] using this
theorem gr_rn : ∀ (l : List Int) (i acc n : Nat) (r : List Int), BytesL l → i ≤ 9 → rn l i acc = some (n, r) → ∃ n', n = acc + n' * 2 ^ (7 * i) ∧ l = gr (9 - i) n' ++ r ∧ (i > 0 → n' ≠ 0)
  | [], _, _, _, _, _, _, h => by simp [rn] at h
  | x :: t, i, acc, n, r, hb, hi, h => by
    have hx := hb x (by simp)
    obtain ⟨y, rfl⟩ : ∃ y : Nat, x = y := ⟨x.toNat, by omega⟩
    by_cases hs : i > 9 ∨ (i = 9 ∧ y % 128 > 1) ∨ (i > 0 ∧ y = 0)
    · rw [rn_stop y t i acc hs] at h; cases h
    · rw [rn_on y t i acc hs] at h
      by_cases g : (y : Int) < 128
      · rw [if_pos g] at h
        simp only [Option.some.injEq, Prod.mk.injEq] at h
        obtain ⟨rfl, rfl⟩ := h
        refine ⟨y, by rw [Nat.mod_eq_of_lt (by omega)], ?_, by omega⟩
        have : gr (9 - i) y = [(y : Int)] := by
          cases 9 - i with
          | zero => rfl
          | succ j => unfold gr; rw [if_pos (by omega)]
        rw [this]; rfl
      · rw [if_neg g] at h
        have h9 : i + 1 ≤ 9 := by
          rcases Nat.lt_or_ge i 9 with h1 | h1
          · omega
          · obtain rfl : i = 9 := by omega
            have e : rn t (9 + 1) (acc + y % 128 * 2 ^ (7 * 9)) = none := by cases t <;> simp [rn]
            rw [e] at h; cases h
        obtain ⟨n', e1, e2, e3⟩ := gr_rn t (i + 1) _ n r (fun z hz => hb z (by simp [hz])) h9 h
        have h3 := e3 (by omega)
        refine ⟨y % 128 + 128 * n', ?_, ?_, by omega⟩
        · rw [e1, pow7, Nat.add_mul, Nat.mul_comm 128 n', Nat.mul_assoc]; omega
        · rw [show 9 - i = (9 - (i + 1)) + 1 by omega]
          unfold gr
          rw [if_neg (by omega), show (y % 128 + 128 * n') % 128 + 128 = y by omega, show (y % 128 + 128 * n') / 128 = n' by omega, e2]
          rfl
theorem num_rn (l : List Int) (n : Nat) (r : List Int) (hb : BytesL l) (h : rn l 0 0 = some (n, r)) : num n ++ r = l := by
  obtain ⟨n', e1, e2, _⟩ := gr_rn l 0 0 n r hb (by omega) h
  have : n = n' := by simpa using e1
  subst this
  exact e2.symm
theorem gr_bytes : ∀ (j n : Nat), n < 128 ^ (j + 1) → BytesL (gr j n)
  | 0, n, h => by intro x hx; simp only [gr, List.mem_singleton] at hx; subst hx; omega
  | j + 1, n, h => by
    unfold gr
    split
    · intro x hx; simp only [List.mem_singleton] at hx; subst hx; omega
    · intro x hx
      rcases List.mem_cons.1 hx with rfl | hx
      · omega
      · exact gr_bytes j (n / 128) (by rw [Nat.pow_succ] at h; omega) x hx
theorem num_bytes (n : Nat) (h : n < 18446744073709551616) : BytesL (num n) := gr_bytes 9 n (Nat.lt_trans h (by decide))
theorem bytesL_append {a b : List Int} (ha : BytesL a) (hb : BytesL b) : BytesL (a ++ b) := fun x hx => by
  rcases List.mem_append.1 hx with h | h
  · exact ha x h
  · exact hb x h
theorem strOf_bytesOf (s : ByteArray) : strOfNums (bytesOf s) = s := by
  unfold strOfNums bytesOf
  rw [List.map_map]
  have : s.data.toList.map ((fun n : Int => UInt8.ofNat n.toNat) ∘ fun b : UInt8 => (b.toNat : Int)) = s.data.toList := by
    conv => rhs; rw [← List.map_id s.data.toList]
    apply List.map_congr_left
    intro b _
    show UInt8.ofNat ((b.toNat : Int)).toNat = b
    rw [Int.toNat_natCast, UInt8.ofNat_toNat]
  rw [this]
theorem bytesOf_strOf (l : List Int) (h : BytesL l) : bytesOf (strOfNums l) = l := by
  unfold bytesOf
  rw [strOfNums_data, List.map_map]
  conv => rhs; rw [← List.map_id l]
  apply List.map_congr_left
  intro x hx
  have := h x hx
  show ((UInt8.ofNat x.toNat).toNat : Int) = x
  rw [UInt8.toNat_ofNat', Nat.mod_eq_of_lt (by omega)]; omega
theorem bytesOf_bytes (s : ByteArray) : BytesL (bytesOf s) := by
  intro x hx
  obtain ⟨b, _, rfl⟩ := List.mem_map.1 hx
  have := b.toNat_lt
  omega
end Go.Proofs.YtfpdipnaefomiaaDoor.Pure
set_option linter.unusedVariables false
namespace Go.Proofs.YtfpdipnaefomiaaDoor.Pure
open Go.RowKit Go.Proofs.YtfpdipnaefomiaaDoor.Print Go.Proofs.YtfpdipnaefomiaaDoorW.PrintWords Go.Proofs.YtfpdipnaefomiaaDoorW.PrintLast Go.Proofs.YtfpdipnaefomiaaDoorW.PrintMore
def esc8 (b : UInt8) : List UInt8 := if b = 0 then [0, 255] else [b]
theorem replaceK_esc : ∀ s : List UInt8, Lib.replaceK [0] [0, 255] (Lib.count s [0]) s = s.flatMap esc8
  | [] => by simp [Lib.count_one, Lib.replaceK]
  | b :: l => by
    have ih := replaceK_esc l
    by_cases h : b = 0
    · subst h
      rw [Lib.count_cons_eq, Nat.add_comm, Lib.replaceK_hit [0] [0, 255] (Lib.count l [0]) (0 :: l) 0 (by simp [Lib.index, List.isPrefixOf])]
      simp only [List.take_zero, List.nil_append, List.length_singleton, Nat.zero_add, List.drop_succ_cons, List.drop_zero]
      rw [ih, List.flatMap_cons]; rfl
    · rw [Lib.count_cons_ne b 0 l h, List.flatMap_cons, ← ih]
      have e : esc8 b = [b] := by unfold esc8; rw [if_neg h]
      rw [e]
      cases hc : Lib.count l [0] with
      | zero => rfl
      | succ k =>
        obtain ⟨i, hi⟩ := Lib.index_of_count (s := l) (old := [0]) (by omega)
        have hi2 : Lib.index (b :: l) [0] = ((i + 1 : Nat) : Int) := by
          have h0 : (List.isPrefixOf [0] (b :: l)) = false := by simp [List.isPrefixOf, show ¬ (0 : UInt8) = b from fun e => h e.symm]
          rw [Lib.index, h0, hi]
          have : ((i : Int) == -1) = false := by simp
          simp [this]
        rw [Lib.replaceK_hit _ _ k _ (i + 1) hi2, Lib.replaceK_hit _ _ k _ i hi]
        simp [List.take_succ_cons, List.drop_succ_cons]
theorem replaceAll_esc (s : List UInt8) : Lib.replaceAll s [0] [0, 255] = s.flatMap esc8 := by
  unfold Lib.replaceAll Lib.replace
  rw [if_neg (by decide)]
  unfold Lib.replaceNum
  rw [if_pos (.inl (by decide)), replaceK_esc]
def esc (l : List Int) : List Int := l.flatMap fun x => if x = 0 then [0, 255] else [x]
theorem esc_cons (x : Int) (l : List Int) : esc (x :: l) = (if x = 0 then [0, 255] else [x]) ++ esc l := by unfold esc; rw [List.flatMap_cons]
theorem esc_len (l : List Int) : l.length ≤ (esc l).length ∧ (esc l).length ≤ 2 * l.length := by
  induction l with
  | nil => simp [esc]
  | cons x l ih =>
    rw [esc_cons, List.length_append, List.length_cons]
    split <;> simp only [List.length_cons, List.length_nil] <;> omega
theorem esc_strs (s : ByteArray) : bytesOf (⟨(s.data.toList.flatMap esc8).toArray⟩ : ByteArray) = esc (bytesOf s) := by
  unfold bytesOf esc
  show (s.data.toList.flatMap esc8).map _ = _
  induction s.data.toList with
  | nil => rfl
  | cons b l ih =>
    rw [List.flatMap_cons, List.map_append, ih, List.map_cons, List.flatMap_cons]
    congr 1
    unfold esc8
    by_cases h : b = 0
    · subst h; rfl
    · have h2 : ¬ ((b.toNat : Int)) = 0 := by
        intro h2
        have h3 : b.toNat = 0 := by omega
        exact h (UInt8.toNat_inj.1 (h3.trans rfl))
      rw [if_neg h, if_neg h2]; rfl
theorem countB_size (s : ByteArray) : Lib.countB s ⟨#[0]⟩ ≤ s.size := Lib.countB_le ⟨#[0]⟩ (by decide) s.size s (Nat.le_refl _)
theorem repl_is (s : ByteArray) (h : s.size < 4294967281) : strings_ReplaceAll.f s (⟨#[0]⟩ : ByteArray) (⟨#[0, 255]⟩ : ByteArray) = some ⟨(s.data.toList.flatMap esc8).toArray⟩ := by
  unfold strings_ReplaceAll.f
  have := countB_size s
  rw [if_pos ⟨h, by decide, by show s.size + Lib.countB s ⟨#[0]⟩ * 2 ≤ _; omega⟩]
  rw [show (⟨#[0]⟩ : ByteArray).data.toList = [0] from rfl, show (⟨#[0, 255]⟩ : ByteArray).data.toList = [0, 255] from rfl, replaceAll_esc]
def big8 (n : Nat) : List Int := [((n / 2 ^ 56 % 256 : Nat) : Int), ((n / 2 ^ 48 % 256 : Nat) : Int), ((n / 2 ^ 40 % 256 : Nat) : Int), ((n / 2 ^ 32 % 256 : Nat) : Int), ((n / 2 ^ 24 % 256 : Nat) : Int), ((n / 2 ^ 16 % 256 : Nat) : Int), ((n / 2 ^ 8 % 256 : Nat) : Int), ((n % 256 : Nat) : Int)]
theorem shr_at (n i : Nat) (hi : i ≤ 64) : shr .u64 (n : Int) (i : Int) % 256 = ((n / 2 ^ i % 256 : Nat) : Int) := by
  unfold shr
  rw [Int.toNat_natCast, Nat.min_eq_left (show i ≤ IntKind.bits .u64 by show i ≤ 64; omega)]
  rw [Int.natCast_emod, Int.natCast_ediv, Int.natCast_pow]; rfl
theorem big_step (k : Nat) (l : List Int) (n i : Nat) (hi : i ≤ 64) (hl : l.length < 140737488355328) : codec_big.l0 (k + 1) l (n : Int) (i : Int) = codec_big.l0 k (l ++ [((n / 2 ^ i % 256 : Nat) : Int)]) (n : Int) ((i : Int) - 8) := by
  rw [codec_big.l0, if_pos (by omega), if_pos (by omega), if_pos hl, shr_at n i hi, w64 (by omega) (by omega)]
theorem big_is (k : Nat) (l : List Int) (n : Nat) (hk : 9 ≤ k) (hl : l.length + 8 < 140737488355328) : codec_big.f k l (n : Int) = some (l ++ big8 n) := by
  obtain ⟨d, rfl⟩ : ∃ d, k = d + 9 := ⟨k - 9, by omega⟩
  unfold codec_big.f
  rw [show (56 : Int) = ((56 : Nat) : Int) from rfl, show d + 9 = d + 8 + 1 from rfl, big_step _ _ n 56 (by omega) (by omega)]
  rw [show ((56 : Nat) : Int) - 8 = ((48 : Nat) : Int) from rfl, show d + 8 = d + 7 + 1 from rfl, big_step _ _ n 48 (by omega) (by simp; omega)]
  rw [show ((48 : Nat) : Int) - 8 = ((40 : Nat) : Int) from rfl, show d + 7 = d + 6 + 1 from rfl, big_step _ _ n 40 (by omega) (by simp; omega)]
  rw [show ((40 : Nat) : Int) - 8 = ((32 : Nat) : Int) from rfl, show d + 6 = d + 5 + 1 from rfl, big_step _ _ n 32 (by omega) (by simp; omega)]
  rw [show ((32 : Nat) : Int) - 8 = ((24 : Nat) : Int) from rfl, show d + 5 = d + 4 + 1 from rfl, big_step _ _ n 24 (by omega) (by simp; omega)]
  rw [show ((24 : Nat) : Int) - 8 = ((16 : Nat) : Int) from rfl, show d + 4 = d + 3 + 1 from rfl, big_step _ _ n 16 (by omega) (by simp; omega)]
  rw [show ((16 : Nat) : Int) - 8 = ((8 : Nat) : Int) from rfl, show d + 3 = d + 2 + 1 from rfl, big_step _ _ n 8 (by omega) (by simp; omega)]
  rw [show ((8 : Nat) : Int) - 8 = ((0 : Nat) : Int) from rfl, show d + 2 = d + 1 + 1 from rfl, big_step _ _ n 0 (by omega) (by simp; omega)]
  rw [codec_big.l0, if_neg (by decide)]
  simp only [List.append_assoc, List.cons_append, List.nil_append, Nat.pow_zero, Nat.div_one]
  rfl
def good (p : S60) : Prop := (p.f0 = 1 ∧ p.f2 = ⟨#[]⟩) ∨ (p.f0 = 2 ∧ p.f1 = 0)
instance (p : S60) : Decidable (good p) := by unfold good; infer_instance
def partBytes (p : S60) : List Int := if p.f0 = 1 then 1 :: big8 p.f1.toNat else p.f0 :: (esc (bytesOf p.f2) ++ [0, 1])
theorem rd60_at (l : List S60) (i : Nat) (h : i < l.length) : rd_T60 l (i : Int) = l[i] := by
  unfold rd_T60
  rw [Int.toNat_natCast, List.getD_eq_getElem?_getD, List.getElem?_eq_getElem h]; rfl
def keyOut (acc : List Int) : List S60 → List Int × Int
  | [] => (acc, 0)
  | p :: r => if (acc ++ partBytes p).length > 256 then ([], 4) else keyOut (acc ++ partBytes p) r
theorem empty_iff (s : ByteArray) : s.toList.isEmpty = true ↔ s = ⟨#[]⟩ := by
  constructor
  · intro h
    have h1 : s.data.toList = [] := by
      have := List.isEmpty_iff.1 h
      rwa [Lib.toList_data] at this
    obtain ⟨⟨l⟩⟩ := s
    simp at h1
    subst h1; rfl
  · intro h; subst h; rw [Lib.toList_data]; rfl
theorem drop60 {l d : List S60} {i : Nat} {x : S60} (h : l.drop i = x :: d) : i < l.length ∧ rd_T60 l (i : Int) = x ∧ l.drop (i + 1) = d ∧ x ∈ l := by
  have hi : i < l.length := by
    rcases Nat.lt_or_ge i l.length with h1 | h1
    · exact h1
    · rw [List.drop_eq_nil_of_le h1] at h; cases h
  have h2 := List.drop_eq_getElem_cons hi
  rw [h] at h2
  injection h2 with h3 h4
  exact ⟨hi, by rw [rd60_at l i hi, h3], h4.symm, by rw [h3]; exact List.getElem_mem hi⟩
theorem drop60_nil {l : List S60} {i : Nat} (h : l.drop i = []) : l.length ≤ i := by
  rcases Nat.lt_or_ge i l.length with h1 | h1
  · rw [List.drop_eq_getElem_cons h1] at h; cases h
  · exact h1
def PartsOk (l : List S60) : Prop := ∀ p ∈ l, (0 ≤ p.f0 ∧ p.f0 < 256) ∧ (0 ≤ p.f1 ∧ p.f1 < 18446744073709551616) ∧ p.f2.size < 4294967281
theorem key_l1 (l : List S60) (hp : PartsOk l) (hg : ∀ p ∈ l, good p) (hl : l.length ≤ 16) : ∀ (r : List S60) (i k : Nat) (acc : List Int), l.drop i = r → acc.length ≤ 256 →
    codec_Key.l1 (k + 10 + r.length) acc l (l.length : Int) (i : Int) = some (keyOut acc r) := by
  intro r
  induction r with
  | nil =>
    intro i k acc hd ha
    have := drop60_nil hd
    rw [show k + 10 + ([] : List S60).length = (k + 9) + 1 by simp]
    rw [codec_Key.l1, if_neg (by omega)]; rfl
  | cons p r ih =>
    intro i k acc hd ha
    obtain ⟨h1, h2, h3, h4⟩ := drop60 hd
    have hpp := hp p h4
    rw [show k + 10 + (p :: r).length = (k + 10 + r.length) + 1 by rw [List.length_cons]; omega]
    rw [codec_Key.l1, if_pos (by omega), if_pos (by omega), if_pos (by omega), if_pos (by omega), some_bind, h2, w64 (by omega) (by omega)]
    have hi1 : (i : Int) + 1 = ((i + 1 : Nat) : Int) := by omega
    rw [keyOut]
    by_cases h : p.f0 = 1
    · obtain ⟨n, hn⟩ : ∃ n : Nat, p.f1 = n := ⟨p.f1.toNat, by omega⟩
      have e : acc ++ [p.f0] ++ big8 n = acc ++ partBytes p := by
        unfold partBytes; rw [if_pos h, h, hn, Int.toNat_natCast, List.append_assoc]; rfl
      rw [if_pos h, hn, big_is _ _ n (by omega) (by simp; omega), some_bind, e]
      by_cases g : (acc ++ partBytes p).length > 256
      · rw [if_pos (by omega), if_pos g]
      · rw [if_neg (by omega), if_neg g, hi1]; exact ih (i + 1) k _ h3 (by omega)
    · have hs : (⟨(p.f2.data.toList.flatMap esc8).toArray⟩ : ByteArray).size = (esc (bytesOf p.f2)).length := by rw [← bytesOf_length, esc_strs]
      have hlen := esc_len (bytesOf p.f2)
      rw [bytesOf_length] at hlen
      have e : acc ++ [p.f0] ++ esc (bytesOf p.f2) ++ [0, 1] = acc ++ partBytes p := by
        unfold partBytes; rw [if_neg h]; simp
      rw [if_neg h, repl_is _ hpp.2.2, some_bind, if_pos (by rw [hs]; simp only [List.length_append, List.length_cons, List.length_nil]; omega), some_bind, some_bind, esc_strs,
        if_pos (by simp only [List.length_append, List.length_cons, List.length_nil]; omega), some_bind, e]
      by_cases g : (acc ++ partBytes p).length > 256
      · rw [if_pos (by omega), if_pos g]
      · rw [if_neg (by omega), if_neg g, hi1]; exact ih (i + 1) k _ h3 (by omega)
theorem good_iff (p : S60) : good p ↔ ¬ ((!(p.f0 == 1) || (!(p.f2.toList.isEmpty))) = true ∧ (!(p.f0 == 2) || (!(p.f1 == 0))) = true) := by
  unfold good
  have := empty_iff p.f2
  by_cases h1 : p.f2 = ⟨#[]⟩
  · have e := this.2 h1
    rw [e]
    simp only [h1]
    by_cases h2 : p.f0 = 1 <;> by_cases h3 : p.f0 = 2 <;> by_cases h4 : p.f1 = 0 <;> simp [h2, h3, h4]
  · have e : p.f2.toList.isEmpty = false := by cases g : p.f2.toList.isEmpty with
      | true => exact absurd (this.1 g) h1
      | false => rfl
    rw [e]
    by_cases h2 : p.f0 = 1 <;> by_cases h3 : p.f0 = 2 <;> by_cases h4 : p.f1 = 0 <;> simp [h1, h2, h3, h4]
theorem key_l0 (l : List S60) (hp : PartsOk l) (hl : l.length ≤ 16) : ∀ (r : List S60) (i k : Nat), l.drop i = r → (∀ j, j < i → ∀ h : j < l.length, good l[j]) →
    codec_Key.l0 (k + 30 + r.length) l l (l.length : Int) (i : Int) = some (if ∀ p ∈ l, good p then keyOut [] l else ([], 15)) := by
  intro r
  induction r with
  | nil =>
    intro i k hd hb
    have hi := drop60_nil hd
    have hall : ∀ p ∈ l, good p := fun p hp => by
      obtain ⟨j, hj, rfl⟩ := List.getElem_of_mem hp
      exact hb j (by omega) hj
    rw [show k + 30 + ([] : List S60).length = (k + 29) + 1 by simp]
    rw [codec_Key.l0, if_neg (by omega), if_pos hall]
    have := key_l1 l hp hall hl l 0 (k + 19 - l.length) [] rfl (by simp)
    rw [show k + 19 - l.length + 10 + l.length = k + 29 by omega] at this
    exact this
  | cons p r ih =>
    intro i k hd hb
    obtain ⟨h1, h2, h3, h4⟩ := drop60 hd
    rw [show k + 30 + (p :: r).length = (k + 30 + r.length) + 1 by rw [List.length_cons]; omega]
    rw [codec_Key.l0, if_pos (by omega), if_pos (by omega), if_pos (by omega), h2, w64 (by omega) (by omega)]
    have hp0 : l[i] = p := by rw [← rd60_at l i h1, h2]
    have hi1 : (i : Int) + 1 = ((i + 1 : Nat) : Int) := by omega
    have next : good p → codec_Key.l0 (k + 30 + r.length) l l (l.length : Int) ((i : Int) + 1) = some (if ∀ p ∈ l, good p then keyOut [] l else ([], 15)) := fun hg => by
      rw [hi1]
      refine ih (i + 1) k h3 (fun j hj hjl => ?_)
      rcases Nat.lt_or_ge j i with h | h
      · exact hb j h hjl
      · have : j = i := by omega
        subst this; rw [hp0]; exact hg
    have gi := good_iff p
    by_cases c1 : (!(p.f0 == 1) || (!(p.f2.toList.isEmpty))) = true
    · rw [if_pos c1]
      by_cases c2 : (!(p.f0 == 2) || (!(p.f1 == 0))) = true
      · rw [if_pos c2, if_neg (fun hall => (gi.1 (hall p h4)) ⟨c1, c2⟩)]
      · rw [if_neg c2]; exact next (gi.2 (fun h => c2 h.2))
    · rw [if_neg c1]; exact next (gi.2 (fun h => c1 h.1))
def keyOf (l : List S60) : List Int × Int := if l.length > 16 then ([], 3) else if ∀ p ∈ l, good p then keyOut [] l else ([], 15)
theorem key_is (k : Nat) (l : List S60) (hk : 60 ≤ k) (hp : PartsOk l) : codec_Key.f k l = some (keyOf l) := by
  unfold codec_Key.f keyOf
  by_cases h : l.length > 16
  · rw [if_pos (by omega), if_pos h]
  · rw [if_neg (by omega), if_neg h]
    obtain ⟨d, rfl⟩ : ∃ d, k = d + 30 + l.length := ⟨k - 30 - l.length, by omega⟩
    exact key_l0 l hp (by omega) l 0 d rfl (fun j hj => by omega)
theorem keyOut_is : ∀ (r : List S60) (acc : List Int), acc.length ≤ 256 → keyOut acc r = if (acc ++ r.flatMap partBytes).length > 256 then ([], 4) else (acc ++ r.flatMap partBytes, 0)
  | [], acc, h => by rw [List.flatMap_nil, List.append_nil, keyOut, if_neg (by omega)]
  | p :: r, acc, h => by
    rw [keyOut, List.flatMap_cons, ← List.append_assoc]
    by_cases g : (acc ++ partBytes p).length > 256
    · rw [if_pos g, if_pos (by rw [List.length_append]; omega)]
    · rw [if_neg g, keyOut_is r _ (by omega)]
theorem keyOf_is (l : List S60) : keyOf l = if l.length > 16 then ([], 3) else if ∀ p ∈ l, good p then (if (l.flatMap partBytes).length > 256 then ([], 4) else (l.flatMap partBytes, 0)) else ([], 15) := by
  unfold keyOf
  rw [keyOut_is l [] (by simp), List.nil_append]
end Go.Proofs.YtfpdipnaefomiaaDoor.Pure
set_option linter.unusedVariables false
namespace Go.Proofs.YtfpdipnaefomiaaDoor.Pure
open Go.RowKit Go.Proofs.YtfpdipnaefomiaaDoor.Print Go.Proofs.YtfpdipnaefomiaaDoorW.PrintWords Go.Proofs.YtfpdipnaefomiaaDoorW.PrintLast Go.Proofs.YtfpdipnaefomiaaDoorW.PrintMore
theorem part_num (p : S60) (h : p.f0 = 1) : partBytes p = 1 :: big8 p.f1.toNat := by unfold partBytes; rw [if_pos h]
theorem part_str (p : S60) (h : p.f0 = 2) : partBytes p = 2 :: (esc (bytesOf p.f2) ++ [0, 1]) := by unfold partBytes; rw [if_neg (by omega), h]
end Go.Proofs.YtfpdipnaefomiaaDoor.Pure
set_option linter.unusedVariables false
namespace Go.Proofs.YtfpdipnaefomiaaDoor.Pure
open Go.RowKit Go.Proofs.YtfpdipnaefomiaaDoor.Print Go.Proofs.YtfpdipnaefomiaaDoorW.PrintWords Go.Proofs.YtfpdipnaefomiaaDoorW.PrintLast Go.Proofs.YtfpdipnaefomiaaDoorW.PrintMore
theorem key_cases (l : List S60) : (∃ c : Int, c ≠ 0 ∧ keyOf l = ([], c)) ∨ (l.length ≤ 16 ∧ (∀ p ∈ l, good p) ∧ (l.flatMap partBytes).length ≤ 256 ∧ keyOf l = (l.flatMap partBytes, 0)) := by
  rw [keyOf_is]
  by_cases h1 : l.length > 16
  · rw [if_pos h1]; exact .inl ⟨3, by decide, rfl⟩
  · rw [if_neg h1]
    by_cases h2 : ∀ p ∈ l, good p
    · rw [if_pos h2]
      by_cases h3 : (l.flatMap partBytes).length > 256
      · rw [if_pos h3]; exact .inl ⟨4, by decide, rfl⟩
      · rw [if_neg h3]; exact .inr ⟨by omega, h2, by omega, rfl⟩
    · rw [if_neg h2]; exact .inl ⟨15, by decide, rfl⟩
theorem esc_bytes (l : List Int) (h : BytesL l) : BytesL (esc l) := by
  intro x hx
  obtain ⟨y, hy, hxy⟩ := List.mem_flatMap.1 hx
  have := h y hy
  by_cases g : y = 0
  · rw [if_pos g] at hxy
    simp only [List.mem_cons, List.mem_nil_iff, or_false] at hxy
    rcases hxy with rfl | rfl <;> omega
  · rw [if_neg g] at hxy
    simp only [List.mem_cons, List.mem_nil_iff, or_false] at hxy
    subst hxy; omega
theorem part_bytes (p : S60) (h : good p) : BytesL (partBytes p) := by
  rcases h with ⟨k1, _⟩ | ⟨k1, _⟩
  · rw [part_num p k1]
    intro x hx
    unfold big8 at hx
    simp only [List.mem_cons, List.mem_nil_iff, or_false] at hx
    rcases hx with h | h | h | h | h | h | h | h | h <;> subst h <;> omega
  · rw [part_str p k1]
    intro x hx
    rcases List.mem_cons.1 hx with rfl | hx
    · omega
    · rcases List.mem_append.1 hx with hx | hx
      · exact esc_bytes _ (bytesOf_bytes _) x hx
      · simp only [List.mem_cons, List.mem_nil_iff, or_false] at hx
        rcases hx with rfl | rfl <;> omega
theorem key_bytes (l : List S60) (h : ∀ p ∈ l, good p) : BytesL (l.flatMap partBytes) := by
  intro x hx
  obtain ⟨p, hp, hxp⟩ := List.mem_flatMap.1 hx
  exact part_bytes p (h p hp) x hxp
theorem strOf_inj {x y : List Int} (hx : BytesL x) (hy : BytesL y) (h : (strOfNums x).toList = (strOfNums y).toList) : x = y := by
  rw [Lib.toList_data, Lib.toList_data] at h
  rw [← bytesOf_strOf x hx, ← bytesOf_strOf y hy]
  unfold bytesOf
  rw [h]
end Go.Proofs.YtfpdipnaefomiaaDoor.Pure
set_option linter.unusedVariables false
namespace Go.Proofs.YtfpdipnaefomiaaDoor.Pure
open Go.RowKit Go.Proofs.YtfpdipnaefomiaaDoor.Print Go.Proofs.YtfpdipnaefomiaaDoorW.PrintWords Go.Proofs.YtfpdipnaefomiaaDoorW.PrintLast Go.Proofs.YtfpdipnaefomiaaDoorW.PrintMore
@[reducible] noncomputable instance decS64 : DecidableEq S64 := fun _ _ => Classical.propDecidable _
@[reducible] noncomputable instance decS60 : DecidableEq S60 := fun _ _ => Classical.propDecidable _
theorem rd64_at (l : List S64) (i : Nat) (h : i < l.length) : rd_T64 l (i : Int) = l[i] := by
  unfold rd_T64
  rw [Int.toNat_natCast, List.getD_eq_getElem?_getD, List.getElem?_eq_getElem h]; rfl
theorem drop64 {l d : List S64} {i : Nat} {x : S64} (h : l.drop i = x :: d) : i < l.length ∧ rd_T64 l (i : Int) = x ∧ l.drop (i + 1) = d ∧ x ∈ l := by
  have hi : i < l.length := by
    rcases Nat.lt_or_ge i l.length with h1 | h1
    · exact h1
    · rw [List.drop_eq_nil_of_le h1] at h; cases h
  have h2 := List.drop_eq_getElem_cons hi
  rw [h] at h2
  injection h2 with h3 h4
  exact ⟨hi, by rw [rd64_at l i hi, h3], h4.symm, by rw [h3]; exact List.getElem_mem hi⟩
theorem drop64_nil {l : List S64} {i : Nat} (h : l.drop i = []) : l.length ≤ i := by
  rcases Nat.lt_or_ge i l.length with h1 | h1
  · rw [List.drop_eq_getElem_cons h1] at h; cases h
  · exact h1
def entBytes (e : S64) : List Int := num e.f0.length ++ e.f0 ++ (num e.f1.length ++ e.f1)
def fits (e : S64) : Prop := e.f0.length ≤ 256 ∧ e.f1.length ≤ 512
instance (e : S64) : Decidable (fits e) := by unfold fits; infer_instance
theorem ent_len (e : S64) (h : fits e) : (entBytes e).length ≤ 800 := by
  have h1 := num_len e.f0.length
  have h2 := num_len e.f1.length
  unfold fits at h
  unfold entBytes
  simp only [List.length_append]
  omega
def entOut (acc : List Int) : List S64 → List Int × Int
  | [] => (acc, 0)
  | e :: r => if fits e then entOut (acc ++ entBytes e) r else ([], 4)
theorem ent_l (l : List S64) (hl : l.length ≤ 4096) : ∀ (r : List S64) (i k : Nat) (acc : List Int), l.drop i = r → acc.length + r.length * 800 ≤ 10000000 →
    codec_Entries.l0 (k + 10 + 2 * r.length) acc l (l.length : Int) (i : Int) = some (entOut acc r) := by
  intro r
  induction r with
  | nil =>
    intro i k acc hd ha
    have := drop64_nil hd
    rw [show k + 10 + 2 * ([] : List S64).length = (k + 9) + 1 by simp]
    rw [codec_Entries.l0, if_neg (by omega)]; rfl
  | cons e r ih =>
    intro i k acc hd ha
    obtain ⟨h1, h2, h3, h4⟩ := drop64 hd
    rw [List.length_cons] at ha
    rw [show k + 10 + 2 * (e :: r).length = (k + 10 + 2 * r.length + 1) + 1 by rw [List.length_cons]; omega]
    rw [codec_Entries.l0, if_pos (by omega), if_pos (by omega), if_pos (by omega), h2, entOut]
    have go : ∀ b : Bool, (b = true ↔ ¬ fits e) → codec_Entries.j1 (k + 10 + 2 * r.length + 1) acc l (l.length : Int) (i : Int) b e.f0 e.f1 = some (if fits e then entOut (acc ++ entBytes e) r else ([], 4)) := by
      intro b hb
      rw [codec_Entries.j1]
      by_cases g : fits e
      · have hbf : b = false := by
          cases b with
          | true => exact absurd g (hb.1 rfl)
          | false => rfl
        have hf := g
        unfold fits at hf
        have n1 := num_len e.f0.length
        have n2 := num_len e.f1.length
        have hel := ent_len e g
        rw [hbf, if_neg (by decide), if_pos g, u64 (by omega) (by omega), u64 (by omega) (by omega), groups_num _ acc _ (by omega) (by omega) (by omega), some_bind, if_pos (by simp only [List.length_append]; omega),
          groups_num _ _ _ (by omega) (by omega) (by simp only [List.length_append]; omega), some_bind, if_pos (by simp only [List.length_append]; omega), w64 (by omega) (by omega)]
        have e1 : acc ++ num e.f0.length ++ e.f0 ++ num e.f1.length ++ e.f1 = acc ++ entBytes e := by unfold entBytes; simp only [List.append_assoc]
        rw [e1, show (i : Int) + 1 = ((i + 1 : Nat) : Int) by omega]
        exact ih (i + 1) k _ h3 (by rw [List.length_append]; omega)
      · rw [if_pos (hb.2 g), if_neg g]
    by_cases c : (e.f0.length : Int) > 256
    · rw [if_pos c]
      exact go true ⟨fun _ h => by unfold fits at h; omega, fun _ => rfl⟩
    · rw [if_neg c]
      refine go _ ⟨fun h h2 => ?_, fun h => ?_⟩
      · have := of_decide_eq_true h
        unfold fits at h2; omega
      · refine decide_eq_true ?_
        unfold fits at h; omega
theorem entOut_is : ∀ (r : List S64) (acc : List Int), entOut acc r = if ∀ e ∈ r, fits e then (acc ++ r.flatMap entBytes, 0) else ([], 4)
  | [], acc => by rw [entOut, if_pos (by simp), List.flatMap_nil, List.append_nil]
  | e :: r, acc => by
    rw [entOut, entOut_is r]
    by_cases g : fits e
    · rw [if_pos g]
      by_cases h : ∀ x ∈ r, fits x
      · rw [if_pos h, if_pos (by intro x hx; rcases List.mem_cons.1 hx with rfl | hx; exact g; exact h x hx), List.flatMap_cons, List.append_assoc]
      · rw [if_neg h, if_neg (fun h2 => h (fun x hx => h2 x (by simp [hx])))]
    · rw [if_neg g, if_neg (fun h2 => g (h2 e (by simp)))]
def entsOf (l : List S64) : List Int × Int := if l.length > 4096 then ([], 3) else if ∀ e ∈ l, fits e then (num l.length ++ l.flatMap entBytes, 0) else ([], 4)
theorem ents_is (k : Nat) (l : List S64) (hk : 8300 ≤ k) : codec_Entries.f k l = some (entsOf l) := by
  unfold codec_Entries.f entsOf
  by_cases h : l.length > 4096
  · rw [if_pos (by omega), if_pos h]
  · rw [if_neg (by omega), if_neg h]
    obtain ⟨d, rfl⟩ : ∃ d, k = d + 10 + 2 * l.length := ⟨k - 10 - 2 * l.length, by omega⟩
    have hn := num_len l.length
    rw [u64 (by omega) (by omega), groups_num _ [] _ (by omega) (by omega) (by simp), some_bind, List.nil_append]
    exact (ent_l l (by omega) l 0 d (num l.length) rfl (by omega)).trans (by rw [entOut_is])
theorem ents_cases (l : List S64) : (∃ c : Int, c ≠ 0 ∧ entsOf l = ([], c)) ∨ (l.length ≤ 4096 ∧ (∀ e ∈ l, fits e) ∧ entsOf l = (num l.length ++ l.flatMap entBytes, 0)) := by
  unfold entsOf
  by_cases h1 : l.length > 4096
  · rw [if_pos h1]; exact .inl ⟨3, by decide, rfl⟩
  · rw [if_neg h1]
    by_cases h2 : ∀ p ∈ l, fits p
    · rw [if_pos h2]; exact .inr ⟨by omega, h2, rfl⟩
    · rw [if_neg h2]; exact .inl ⟨4, by decide, rfl⟩
def EntsOk (l : List S64) : Prop := ∀ e ∈ l, BytesL e.f0 ∧ BytesL e.f1
theorem ents_bytes (l : List S64) (h : EntsOk l) (hf : ∀ e ∈ l, fits e) (hl : l.length ≤ 4096) : BytesL (num l.length ++ l.flatMap entBytes) := by
  refine bytesL_append (num_bytes _ (by omega)) ?_
  intro x hx
  obtain ⟨e, he, hxe⟩ := List.mem_flatMap.1 hx
  have hfe := hf e he
  unfold fits at hfe
  have hb := h e he
  unfold entBytes at hxe
  exact bytesL_append (bytesL_append (num_bytes _ (by omega)) hb.1) (bytesL_append (num_bytes _ (by omega)) hb.2) x hxe
theorem same_is (a b : List Int) (ha : BytesL a) (hb : BytesL b) : ladingref03_Same.f a b = some (decide (a = b)) := by
  unfold ladingref03_Same.f
  by_cases h : a = b
  · subst h; rw [beq_self_eq_true, decide_eq_true rfl]
  · rw [decide_eq_false h]
    congr 1
    exact beq_eq_false_iff_ne.2 (fun e => h (strOf_inj ha hb e))
theorem sameE_l (a b : List S64) (hl : a.length = b.length) (ha : EntsOk a) (hb : EntsOk b) (hs : a.length ≤ 1048576) : ∀ (r : List S64) (i k : Nat), a.drop i = r →
    ladingref03_SameEntries.l0 (k + r.length + 1) a b (a.length : Int) (i : Int) = some (decide (r = b.drop i)) := by
  intro r
  induction r with
  | nil =>
    intro i k hd
    have := drop64_nil hd
    rw [ladingref03_SameEntries.l0, if_neg (by omega), List.drop_eq_nil_of_le (by omega), decide_eq_true rfl]
  | cons e r ih =>
    intro i k hd
    obtain ⟨h1, h2, h3, h4⟩ := drop64 hd
    have hbi : i < b.length := by omega
    rw [List.length_cons, show k + (r.length + 1) + 1 = (k + r.length + 1) + 1 by omega, ladingref03_SameEntries.l0, if_pos (by omega), if_pos (by omega), if_pos (by omega), if_pos (by omega), h2, rd64_at b i hbi, List.drop_eq_getElem_cons hbi]
    have oe := ha e h4
    have ob := hb b[i] (List.getElem_mem hbi)
    rw [same_is _ _ oe.1 ob.1, some_bind]
    by_cases g1 : e.f0 = b[i].f0
    · rw [decide_eq_true g1, if_pos rfl, same_is _ _ oe.2 ob.2, some_bind]
      by_cases g2 : e.f1 = b[i].f1
      · rw [decide_eq_true g2, if_pos rfl, w64 (by omega) (by omega), show (i : Int) + 1 = ((i + 1 : Nat) : Int) by omega, ih (i + 1) k h3]
        congr 1
        have he : e = b[i] := by
          generalize b[i] = f at g1 g2
          obtain ⟨e0, e1⟩ := e
          obtain ⟨f0, f1⟩ := f
          simp only at g1 g2
          subst g1; subst g2; rfl
        by_cases g : r = b.drop (i + 1)
        · rw [decide_eq_true g, decide_eq_true (by rw [he, g])]
        · rw [decide_eq_false g, decide_eq_false (fun h => g (List.cons.inj h).2)]
      · rw [decide_eq_false g2, if_neg (by decide), decide_eq_false (fun h => g2 (by rw [(List.cons.inj h).1]))]
    · rw [decide_eq_false g1, if_neg (by decide), decide_eq_false (fun h => g1 (by rw [(List.cons.inj h).1]))]
theorem sameE_is (k : Nat) (a b : List S64) (ha : EntsOk a) (hb : EntsOk b) (hs : a.length ≤ 1048576) (hk : a.length + 1 ≤ k) : ladingref03_SameEntries.f k a b = some (decide (a = b)) := by
  obtain ⟨d, rfl⟩ : ∃ d, k = d + a.length + 1 := ⟨k - a.length - 1, by omega⟩
  unfold ladingref03_SameEntries.f
  by_cases h : a.length = b.length
  · rw [if_pos (by omega)]; exact sameE_l a b h ha hb hs a 0 d rfl
  · rw [if_neg (by omega), decide_eq_false (fun e => h (by rw [e]))]
theorem bytesOf_inj {s t : ByteArray} (h : bytesOf s = bytesOf t) : s = t := by rw [← strOf_bytesOf s, ← strOf_bytesOf t, h]
theorem part_eq (p q : S60) (h0 : p.f0 = q.f0) (h1 : p.f1 = q.f1) (h2 : p.f2 = q.f2) : p = q := by
  obtain ⟨p0, p1, p2⟩ := p
  obtain ⟨q0, q1, q2⟩ := q
  simp only at h0 h1 h2
  subst h0; subst h1; subst h2; rfl
theorem sameP_l (a b : List S60) (hl : a.length = b.length) (hs : a.length ≤ 1048576) : ∀ (r : List S60) (i k : Nat), a.drop i = r →
    ladingref03_SameParts.l0 (k + r.length + 1) a b (a.length : Int) (i : Int) = some (decide (r = b.drop i)) := by
  intro r
  induction r with
  | nil =>
    intro i k hd
    have := drop60_nil hd
    rw [ladingref03_SameParts.l0, if_neg (by omega), List.drop_eq_nil_of_le (by omega), decide_eq_true rfl]
  | cons e r ih =>
    intro i k hd
    obtain ⟨h1, h2, h3, h4⟩ := drop60 hd
    have hbi : i < b.length := by omega
    rw [List.length_cons, show k + (r.length + 1) + 1 = (k + r.length + 1) + 1 by omega, ladingref03_SameParts.l0, if_pos (by omega), if_pos (by omega), if_pos (by omega), if_pos (by omega), h2, rd60_at b i hbi, List.drop_eq_getElem_cons hbi]
    by_cases g : e = b[i]
    · rw [← g, if_neg (by simp), w64 (by omega) (by omega), show (i : Int) + 1 = ((i + 1 : Nat) : Int) by omega, ih (i + 1) k h3]
      congr 1
      by_cases g2 : r = b.drop (i + 1)
      · rw [decide_eq_true g2, decide_eq_true (by rw [g2])]
      · rw [decide_eq_false g2, decide_eq_false (fun h => g2 (List.cons.inj h).2)]
    · rw [decide_eq_false (fun h => g (List.cons.inj h).1), if_pos]
      by_cases c0 : e.f0 = b[i].f0
      · by_cases c1 : e.f1 = b[i].f1
        · have c2 : e.f2.toList ≠ b[i].f2.toList := fun h => g (part_eq _ _ c0 c1 (by
            rw [Lib.toList_data, Lib.toList_data] at h
            exact bytesOf_inj (by unfold bytesOf; rw [h])))
          simp [c2]
        · simp [c1]
      · simp [c0]
theorem sameP_is (k : Nat) (a b : List S60) (hs : a.length ≤ 1048576) (hk : a.length + 1 ≤ k) : ladingref03_SameParts.f k a b = some (decide (a = b)) := by
  obtain ⟨d, rfl⟩ : ∃ d, k = d + a.length + 1 := ⟨k - a.length - 1, by omega⟩
  unfold ladingref03_SameParts.f
  by_cases h : a.length = b.length
  · rw [if_pos (by omega)]; exact sameP_l a b h hs a 0 d rfl
  · rw [if_neg (by omega), decide_eq_false (fun e => h (by rw [e]))]
end Go.Proofs.YtfpdipnaefomiaaDoor.Pure
set_option linter.unusedVariables false
namespace Go.Proofs.YtfpdipnaefomiaaDoor.Pure
open Go.RowKit Go.Proofs.YtfpdipnaefomiaaDoor.Print Go.Proofs.YtfpdipnaefomiaaDoorW.PrintWords Go.Proofs.YtfpdipnaefomiaaDoorW.PrintLast Go.Proofs.YtfpdipnaefomiaaDoorW.PrintMore
def rt : List Int → List Int → Option (List Int × List Int)
  | _, [] => none
  | _, [_] => none
  | s, x :: y :: l => if x = 0 then (if y = 1 then some (s, l) else if y = 255 then rt (s ++ [0]) l else none) else rt (s ++ [x]) (y :: l)
def nb (acc : Nat) (b : List Int) : Nat := b.foldl (fun n x => n * 256 + x.toNat) acc
def rp : List Int → Option (S60 × List Int)
  | [] => none
  | x :: d => if x = 1 then (if 8 ≤ d.length then some (⟨1, (nb 0 (d.take 8) : Nat), ⟨#[]⟩⟩, d.drop 8) else none) else if x = 2 then (rt [] d).map (fun t => (⟨2, 0, strOfNums t.1⟩, t.2)) else none
def rk : Nat → List Int → List S60 → Option (List S60)
  | 0, _, _ => none
  | n + 1, l, ps => if l = [] then some ps else (rp l).bind fun t => rk n t.2 (ps ++ [t.1])
def rkOut : Option (List S60) → List S60 × Int
  | none => ([], 6)
  | some ps => if 16 < ps.length then ([], 3) else (ps, 0)
def partsIn (l : List Int) : List S60 × Int := if l.length > 256 then ([], 4) else rkOut (rk (l.length + 1) l [])
theorem rt_app : ∀ (s l x r : List Int), rt s l = some (x, r) → ∃ q, q ≠ [] ∧ l = q ++ r
  | s, [], x, r, h => by simp [rt] at h
  | s, [_], x, r, h => by simp [rt] at h
  | s, x :: y :: l, z, r, h => by
    rw [rt] at h
    by_cases h1 : x = 0
    · rw [if_pos h1] at h
      by_cases h2 : y = 1
      · rw [if_pos h2] at h
        simp only [Option.some.injEq, Prod.mk.injEq] at h
        exact ⟨[x, y], by simp, by rw [h.2]; rfl⟩
      · rw [if_neg h2] at h
        by_cases h3 : y = 255
        · rw [if_pos h3] at h
          obtain ⟨q, _, hq⟩ := rt_app _ _ _ _ h
          exact ⟨x :: y :: q, by simp, by rw [hq]; rfl⟩
        · rw [if_neg h3] at h; cases h
    · rw [if_neg h1] at h
      obtain ⟨q, _, hq⟩ := rt_app _ _ _ _ h
      exact ⟨x :: q, by simp, by rw [hq]; rfl⟩
theorem rp_app (l : List Int) (p : S60) (r : List Int) (h : rp l = some (p, r)) : ∃ q, q ≠ [] ∧ l = q ++ r := by
  cases l with
  | nil => simp [rp] at h
  | cons x d =>
    rw [rp] at h
    by_cases h1 : x = 1
    · rw [if_pos h1] at h
      by_cases h2 : 8 ≤ d.length
      · rw [if_pos h2] at h
        simp only [Option.some.injEq, Prod.mk.injEq] at h
        exact ⟨x :: d.take 8, by simp, by rw [← h.2, List.cons_append, List.take_append_drop]⟩
      · rw [if_neg h2] at h; cases h
    · rw [if_neg h1] at h
      by_cases h2 : x = 2
      · rw [if_pos h2] at h
        obtain ⟨⟨s, r2⟩, hs, he⟩ := Option.map_eq_some_iff.1 h
        simp only [Prod.mk.injEq] at he
        obtain ⟨q, _, hq⟩ := rt_app _ _ _ _ hs
        exact ⟨x :: q, by simp, by rw [hq, ← he.2]; rfl⟩
      · rw [if_neg h2] at h; cases h
theorem rp_bytes (l : List Int) (p : S60) (r : List Int) (h : rp l = some (p, r)) (hb : BytesL l) : BytesL r := by
  obtain ⟨q, _, rfl⟩ := rp_app l p r h
  exact fun x hx => hb x (List.mem_append_right _ hx)
theorem or_256 (a y : Nat) (h : a * 256 + y < 18446744073709551616) (hy : y < 256) : bits .or .u64 (IntKind.u64.wrap ((a : Int) * 256)) (IntKind.u64.wrap (y : Int)) = ((a * 256 + y : Nat) : Int) := by
  have h1 : a * 256 < 18446744073709551616 := Nat.lt_of_le_of_lt (Nat.le_add_right _ _) h
  have h2 : y < 18446744073709551616 := Nat.lt_trans hy (by decide)
  have e : (a * 256) ||| y = a * 256 + y := by
    have := Nat.two_pow_add_eq_or_of_lt (i := 8) (b := y) (by omega) a
    rw [show 2 ^ 8 * a = a * 256 by omega] at this
    exact this.symm
  rw [u64 (by omega) (by omega), u64 (by omega) (by omega), show (a : Int) * 256 = ((a * 256 : Nat) : Int) by omega, bits_or_u64_nat (a * 256) y h1 h2, e]
theorem nb_bound (a y n : Nat) (hy : y < 256) (h : (a + 1) * 256 ^ (n + 1) ≤ 18446744073709551616) : (a * 256 + y + 1) * 256 ^ n ≤ 18446744073709551616 := by
  refine Nat.le_trans ?_ h
  rw [Nat.pow_succ, Nat.mul_comm (256 ^ n) 256, ← Nat.mul_assoc]
  exact Nat.mul_le_mul_right _ (by omega)
theorem nb_lt (a n : Nat) (h : (a + 1) * 256 ^ n ≤ 18446744073709551616) : a < 18446744073709551616 := by
  have h1 : 1 ≤ 256 ^ n := Nat.pow_pos (by omega)
  have := Nat.mul_le_mul_left (a + 1) h1
  omega
theorem number_l (b : List Int) (hb : BytesL b) (hl : b.length ≤ 1000) : ∀ (r : List Int) (i k acc : Nat), b.drop i = r → (acc + 1) * 256 ^ r.length ≤ 18446744073709551616 →
    codec_number.l0 (k + r.length + 1) (acc : Int) b (b.length : Int) (i : Int) = some ((nb acc r : Nat) : Int) := by
  intro r
  induction r with
  | nil =>
    intro i k acc hd ha
    have : b.length ≤ i := by
      rcases Nat.lt_or_ge i b.length with h1 | h1
      · rw [List.drop_eq_getElem_cons h1] at hd; cases hd
      · exact h1
    rw [codec_number.l0, if_neg (by omega)]; rfl
  | cons x r ih =>
    intro i k acc hd ha
    obtain ⟨h1, h2, h3, h4⟩ := drop_cons hd
    obtain ⟨y, rfl⟩ := Int.eq_ofNat_of_zero_le (hb x h4).1
    have hy : y < 256 := by have := (hb _ h4).2; omega
    have hb2 := nb_bound acc y r.length hy ha
    have hlt := nb_lt _ _ hb2
    rw [show k + ((y : Int) :: r).length + 1 = (k + r.length + 1) + 1 by rw [List.length_cons]; omega]
    rw [codec_number.l0, if_pos (by omega), if_pos (by omega), if_pos (by omega), h2, or_256 acc y (by omega) hy, w64 (by omega) (by omega), show (i : Int) + 1 = ((i + 1 : Nat) : Int) by omega]
    exact ih (i + 1) k _ h3 hb2
theorem number_is (k : Nat) (b : List Int) (hb : BytesL b) (hl : b.length = 8) (hk : 9 ≤ k) : codec_number.f k b = some ((nb 0 b : Nat) : Int) := by
  unfold codec_number.f
  obtain ⟨d, rfl⟩ : ∃ d, k = d + b.length + 1 := ⟨k - 9, by omega⟩
  exact number_l b hb (by omega) b 0 d 0 rfl (by rw [hl]; decide)
theorem take_nil : codec_cursor_take.f [] 0 1 = some ([], [], 6) := (take_is [] 1 (by simp)).trans rfl
theorem take_one (x : Int) (d : List Int) (hl : d.length < 100000) : codec_cursor_take.f (x :: d) 0 1 = some ([x], d, 0) := by
  refine (take_is (x :: d) 1 (by simp; omega)).trans ?_
  rw [if_neg (by simp)]; rfl
def wRes (ps : List S60) : Option (List Int × List Int) → Option (List Int × Int × List S60) → Prop
  | some t, o => o = some (t.2, 0, ps ++ [⟨2, 0, strOfNums t.1⟩])
  | none, o => ∃ l, o = some (l, 6, ps)
theorem words_stop (m : Nat) (l s : List Int) (ps : List S60) : codec_ReadKey_words.f (m + 1) l 6 s ps = some (l, 6, ps) := by
  rw [codec_ReadKey_words.f, if_neg (by decide)]
theorem words_nil (m : Nat) (s : List Int) (ps : List S60) : codec_ReadKey_words.f (m + 1) [] 0 s ps = some ([], 6, ps) := by
  rw [codec_ReadKey_words.f, if_pos rfl, take_nil, some_bind]
  exact if_neg (by decide)
theorem words_is : ∀ (n : Nat) (l s : List Int) (ps : List S60) (m : Nat), l.length ≤ n → l.length + 2 ≤ m → s.length + l.length < 100000 → ps.length < 100000 → wRes ps (rt s l) (codec_ReadKey_words.f m l 0 s ps) := by
  intro n
  induction n with
  | zero =>
    intro l s ps m hn hm hs hp
    obtain rfl : l = [] := List.length_eq_zero_iff.1 (by omega)
    obtain ⟨m, rfl⟩ : ∃ q, m = q + 1 := ⟨m - 1, by simp at hm; omega⟩
    rw [words_nil, rt]
    exact ⟨_, rfl⟩
  | succ n ih =>
    intro l s ps m hn hm hs hp
    obtain ⟨m, rfl⟩ : ∃ q, m = q + 1 := ⟨m - 1, by omega⟩
    cases l with
    | nil => rw [words_nil, rt]; exact ⟨_, rfl⟩
    | cons x d =>
      rw [List.length_cons] at hn hm hs
      obtain ⟨m, rfl⟩ : ∃ q, m = q + 1 := ⟨m - 1, by omega⟩
      rw [codec_ReadKey_words.f, if_pos rfl, take_one x d (by omega), some_bind]
      simp only [List.length_singleton]
      rw [if_pos trivial, if_pos ⟨by omega, by omega, by omega⟩, show rd [x] 0 = x from rfl]
      cases d with
      | nil =>
        rw [rt]
        by_cases hx : x = 0
        · rw [if_neg (fun h : x ≠ 0 => h hx), take_nil, some_bind]
          simp only
          rw [if_neg (by decide), words_stop]; exact ⟨_, rfl⟩
        · rw [if_pos hx, words_nil]; exact ⟨_, rfl⟩
      | cons y l =>
        rw [rt]
        by_cases hx : x = 0
        · rw [if_neg (fun h : x ≠ 0 => h hx), if_pos hx, take_one y l (by simp at hs; omega), some_bind]
          simp only [List.length_singleton]
          rw [if_pos trivial, if_pos (show (0 : Nat) < 1 by decide), show rd [y] 0 = y from rfl]
          by_cases h1 : y = 1
          · rw [if_pos h1, if_pos h1]; exact rfl
          · rw [if_neg h1, if_neg h1]
            by_cases h2 : y = 255
            · rw [if_pos h2, if_pos h2]
              simp only [List.length_cons] at hn hm hs
              exact ih l (s ++ [0]) ps (m + 1) (by omega) (by omega) (by simp; omega) hp
            · rw [if_neg h2, if_neg h2, fail_is, some_bind]
              simp only
              rw [words_stop]; exact ⟨_, rfl⟩
        · rw [if_pos hx, if_neg hx]
          exact ih (y :: l) (s ++ [x]) ps (m + 1) (by omega) (by omega) (by simp at hs ⊢; omega) hp
theorem digits_is (k : Nat) (d : List Int) (ps : List S60) (hk : 9 ≤ k) (hb : BytesL d) (hl : d.length < 100000) (hp : ps.length < 100000) :
    codec_ReadKey_digits.f k d 0 ps = some (if 8 ≤ d.length then (d.drop 8, 0, ps ++ [⟨1, (nb 0 (d.take 8) : Nat), ⟨#[]⟩⟩]) else (d, 6, ps)) := by
  unfold codec_ReadKey_digits.f
  rw [show (8 : Int) = ((8 : Nat) : Int) from rfl, take_is d 8 (by omega)]
  by_cases h : 8 ≤ d.length
  · rw [if_neg (show ¬ 8 > d.length by omega), if_pos h, some_bind]
    simp only
    rw [if_pos trivial, number_is k (d.take 8) (fun x hx => hb x (List.mem_of_mem_take hx)) (by rw [List.length_take]; omega) hk, some_bind, if_pos (by omega)]
  · rw [if_pos (show 8 > d.length by omega), if_neg h, some_bind]
    simp only
    rw [if_neg (by decide)]
theorem g_stop (k m : Nat) (l : List Int) (ps : List S60) : (codec_ReadKey.g k (m + 1) l 6 ps).bind codec_ReadKey.h = some ([], 6) := by
  rw [codec_ReadKey.g, if_neg (fun h => absurd h.2 (by decide)), some_bind]
  unfold codec_ReadKey.h
  exact if_neg (show ¬ (6 : Int) = 0 by decide)
theorem g_is (k : Nat) (hk : 300 ≤ k) : ∀ (n m : Nat) (l : List Int) (ps : List S60), l.length < n → l.length + 2 ≤ m → BytesL l → l.length ≤ 256 → ps.length + l.length < 10000 → (codec_ReadKey.g k m l 0 ps).bind codec_ReadKey.h = some (rkOut (rk n l ps)) := by
  intro n
  induction n with
  | zero => intro m l ps h; omega
  | succ n ih =>
    intro m l ps hn hm hb hl hp
    obtain ⟨m, rfl⟩ : ∃ q, m = q + 1 := ⟨m - 1, by omega⟩
    cases l with
    | nil =>
      rw [codec_ReadKey.g, if_neg (by simp), some_bind, rk, if_pos rfl]
      unfold codec_ReadKey.h rkOut
      simp only
      rw [if_pos trivial]
      split <;> rfl
    | cons x d =>
      rw [List.length_cons] at hn hm hl hp
      have hbd : BytesL d := fun y hy => hb y (List.mem_cons_of_mem _ hy)
      rw [codec_ReadKey.g, if_pos ⟨by simp, rfl⟩, take_one x d (by omega), some_bind]
      simp only [List.length_singleton]
      rw [if_pos (by omega), show rd [x] 0 = x from rfl, rk, if_neg (show ¬ (x :: d = []) by simp), rp]
      obtain ⟨m, rfl⟩ : ∃ q, m = q + 1 := ⟨m - 1, by omega⟩
      by_cases h1 : x = 1
      · rw [if_pos h1, if_pos h1, digits_is k d ps (by omega) hbd (by omega) (by omega), some_bind]
        by_cases h8 : 8 ≤ d.length
        · rw [if_pos h8, if_pos h8, some_bind]
          exact ih (m + 1) (d.drop 8) _ (by rw [List.length_drop]; omega) (by rw [List.length_drop]; omega) (fun y hy => hbd y (List.mem_of_mem_drop hy)) (by rw [List.length_drop]; omega) (by rw [List.length_drop, List.length_append, List.length_singleton]; omega)
        · rw [if_neg h8, if_neg h8, Option.bind_none]
          exact g_stop _ _ _ _
      · rw [if_neg h1, if_neg h1]
        by_cases h2 : x = 2
        · rw [if_pos h2, if_pos h2]
          have hw := words_is d.length d [] ps k (Nat.le_refl _) (by omega) (by simp; omega) (by omega)
          cases hr : rt [] d with
          | none =>
            rw [hr] at hw
            obtain ⟨l', hw⟩ := hw
            rw [hw, some_bind, Option.map_none, Option.bind_none]
            exact g_stop _ _ _ _
          | some t =>
            obtain ⟨s, r⟩ := t
            rw [hr] at hw
            have hw2 : codec_ReadKey_words.f k d 0 [] ps = some (r, 0, ps ++ [⟨2, 0, strOfNums s⟩]) := hw
            obtain ⟨q, hq, rfl⟩ := rt_app _ _ _ _ hr
            rw [List.length_append] at hn hm hl hp
            have hq0 := List.length_pos_iff.2 hq
            rw [hw2, some_bind, Option.map_some, some_bind]
            exact ih (m + 1) r _ (by omega) (by omega) (fun y hy => hbd y (List.mem_append_right _ hy)) (by omega) (by rw [List.length_append, List.length_singleton]; omega)
        · rw [if_neg h2, if_neg h2, fail_is, some_bind, Option.bind_none]
          exact g_stop _ _ _ _
theorem readKey_is (k : Nat) (l : List Int) (hk : 300 ≤ k) (hb : BytesL l) : codec_ReadKey.f k l = some (partsIn l) := by
  unfold codec_ReadKey.f partsIn
  by_cases h : l.length > 256
  · rw [if_pos h, if_pos h]
  · rw [if_neg h, if_neg h]
    exact g_is k hk _ _ l [] (by omega) (by omega) hb (by omega) (by simp; omega)
end Go.Proofs.YtfpdipnaefomiaaDoor.Pure
set_option linter.unusedVariables false
namespace Go.Proofs.YtfpdipnaefomiaaDoor.Pure
open Go.RowKit Go.Proofs.YtfpdipnaefomiaaDoor.Print Go.Proofs.YtfpdipnaefomiaaDoorW.PrintWords Go.Proofs.YtfpdipnaefomiaaDoorW.PrintLast Go.Proofs.YtfpdipnaefomiaaDoorW.PrintMore
def erd : Nat → List S64 → List Int → List S64 × Int
  | 0, out, rest => if rest.length > 0 then ([], 6) else (out, 0)
  | m + 1, out, rest => if (textOut 256 (rn rest 0 0)).2.2 = 0 then (if (textOut 512 (rn (textOut 256 (rn rest 0 0)).2.1 0 0)).2.2 = 0 then erd m (out ++ [⟨(textOut 256 (rn rest 0 0)).1, (textOut 512 (rn (textOut 256 (rn rest 0 0)).2.1 0 0)).1⟩]) (textOut 512 (rn (textOut 256 (rn rest 0 0)).2.1 0 0)).2.1 else ([], (textOut 512 (rn (textOut 256 (rn rest 0 0)).2.1 0 0)).2.2)) else ([], (textOut 256 (rn rest 0 0)).2.2)
def entsIn (l : List Int) : List S64 × Int := match rn l 0 0 with | none => ([], 6) | some (n, r) => if n > 4096 then ([], 3) else erd n [] r
theorem text_out (most : Nat) (l : List Int) (hb : BytesL l) : BytesL (textOut most (rn l 0 0)).1 ∧ BytesL (textOut most (rn l 0 0)).2.1 ∧ (textOut most (rn l 0 0)).1.length ≤ l.length ∧ (textOut most (rn l 0 0)).2.1.length ≤ l.length ∧ (textOut most (rn l 0 0)).1.length ≤ most := by
  cases h : rn l 0 0 with
  | none => simp [textOut, BytesL]
  | some z =>
    obtain ⟨n, r⟩ := z
    obtain ⟨hr, p, hp⟩ := rn_shorter l 0 0 n r h
    have hbr : BytesL r := fun x hx => hb x (by rw [hp]; simp [hx])
    unfold textOut
    simp only
    by_cases g : n > most
    · rw [if_pos g]; simp [BytesL]
    · rw [if_neg g]
      by_cases g2 : n > r.length
      · rw [if_pos g2]; simp [BytesL]
      · rw [if_neg g2]
        refine ⟨fun x hx => hbr x (List.mem_of_mem_take hx), fun x hx => hbr x (List.mem_of_mem_drop hx), ?_, ?_, ?_⟩
        · simp only [List.length_take]; omega
        · simp only [List.length_drop]; omega
        · simp only [List.length_take]; omega
theorem ct_out (most : Nat) (l : List Int) : (ctextOut l most (rn l 0 0)).1 = (textOut most (rn l 0 0)).1 ∧ (ctextOut l most (rn l 0 0)).2.2 = (textOut most (rn l 0 0)).2.2 ∧ ((textOut most (rn l 0 0)).2.2 = 0 → (ctextOut l most (rn l 0 0)).2.1 = (textOut most (rn l 0 0)).2.1) := by
  cases h : rn l 0 0 with
  | none => exact ⟨rfl, rfl, fun h => absurd h (by simp [textOut])⟩
  | some z =>
    obtain ⟨n, r⟩ := z
    unfold ctextOut textOut
    simp only
    by_cases g : n > most
    · rw [if_pos g, if_pos g]; exact ⟨rfl, rfl, fun h => absurd h (by decide)⟩
    · rw [if_neg g, if_neg g]
      by_cases g2 : n > r.length
      · rw [if_pos g2, if_pos g2]; exact ⟨rfl, rfl, fun h => absurd h (by decide)⟩
      · rw [if_neg g2, if_neg g2]; exact ⟨rfl, rfl, fun _ => rfl⟩
theorem cnum_err (k : Nat) (l : List Int) (a : Int) (h : a ≠ 0) (hk : 2 ≤ k) : codec_cursor_num.f k l a = some (0, l, a) := by
  obtain ⟨d, rfl⟩ : ∃ d, k = d + 1 + 1 := ⟨k - 2, by omega⟩
  unfold codec_cursor_num.f
  rw [codec_cursor_num.l0]
  by_cases hl : (0 : Int) < (l.length : Int)
  · rw [if_pos hl, if_pos (by omega), if_pos hl, if_neg h, codec_cursor_num.j1, if_pos rfl, fail_not l a 6 h, some_bind]
  · rw [if_neg hl, fail_not l a 6 h, some_bind]
theorem ctext_err (k : Nat) (l : List Int) (a most : Int) (h : a ≠ 0) (hk : 2 ≤ k) : codec_cursor_text.f k l a most = some ([], l, a) := by
  obtain ⟨d, rfl⟩ : ∃ d, k = d + 1 := ⟨k - 1, by omega⟩
  unfold codec_cursor_text.f
  rw [cnum_err _ l a h hk, some_bind]
  refine (if_neg h).trans ?_
  show codec_cursor_text.j0 (d + 1) 0 false l a = some ([], l, a)
  rw [codec_cursor_text.j0, if_neg (by decide), take_err l a 0 h]; rfl
theorem cread_end (k : Nat) (out : List S64) (l : List Int) (w : Int) (hw : w ≠ 0) (x : Int) : codec_ReadEntries.l0 (k + 3) x out l w = some ([], w) := by
  rw [codec_ReadEntries.l0]
  have hj : codec_ReadEntries.j3 (k + 2) x out false l w = some ([], w) := by
    rw [codec_ReadEntries.j3, if_neg (by decide), if_neg hw, codec_ReadEntries.j4, if_neg (by decide), if_neg hw]
  have hw2 : (w == 0) = false := beq_eq_false_iff_ne.2 hw
  rw [hw2, hj]
  split <;> rfl
theorem cread_l (l : List Int) : ∀ (m k : Nat) (out : List S64) (rest : List Int), BytesL rest → rest.length ≤ 100000000 → out.length + m ≤ 1048576 → m ≤ 4096 → codec_ReadEntries.l0 (k + 30 + 2 * m) (m : Int) out rest 0 = some (erd m out rest) := by
  intro m
  induction m with
  | zero =>
    intro k out rest hb hl ho hm
    rw [show k + 30 + 2 * 0 = (k + 27) + 3 by omega, codec_ReadEntries.l0, if_neg (by decide), codec_ReadEntries.j3, if_neg (by decide), if_pos rfl, codec_ReadEntries.j4, erd]
    by_cases g : rest.length > 0
    · rw [if_pos (decide_eq_true (by omega)), if_pos g, fail_is, some_bind]; rfl
    · rw [if_neg (by rw [decide_eq_true_iff]; omega), if_neg g, if_pos rfl]
  | succ m ih =>
    intro k out rest hb hl ho hm
    obtain ⟨b1, b2, b3, b4, b5⟩ := text_out 256 rest hb
    obtain ⟨c1, c2, c3, c4, c5⟩ := text_out 512 _ b2
    obtain ⟨x1, x2, x3⟩ := ct_out 256 rest
    rw [show k + 30 + 2 * (m + 1) = (k + 30 + 2 * m + 1) + 1 by omega, codec_ReadEntries.l0, if_pos (by omega), codec_ReadEntries.j3, if_pos rfl, show (256 : Int) = ((256 : Nat) : Int) from rfl, ctext_is _ rest 256 (by omega) hb (by omega), some_bind, x1, x2, erd]
    by_cases g : (textOut 256 (rn rest 0 0)).2.2 = 0
    · rw [if_pos g, x3 g, g]
      obtain ⟨y1, y2, y3⟩ := ct_out 512 (textOut 256 (rn rest 0 0)).2.1
      rw [show (512 : Int) = ((512 : Nat) : Int) from rfl, ctext_is _ _ 512 (by omega) b2 (by omega), some_bind, if_pos (show out.length < 2932031007402 by omega), y1, y2, u64 (by omega) (by omega)]
      by_cases g2 : (textOut 512 (rn (textOut 256 (rn rest 0 0)).2.1 0 0)).2.2 = 0
      · rw [if_pos g2, y3 g2, g2, show ((m + 1 : Nat) : Int) - 1 = (m : Int) by omega]
        exact ih k _ _ c2 (by omega) (by rw [List.length_append, List.length_singleton]; omega) (by omega)
      · rw [if_neg g2, show k + 30 + 2 * m = (k + 27 + 2 * m) + 3 by omega]
        exact cread_end _ _ _ _ g2 _
    · rw [if_neg g, ctext_err _ _ _ _ g (by omega), some_bind, if_pos (show out.length < 2932031007402 by omega), show k + 30 + 2 * m = (k + 27 + 2 * m) + 3 by omega]
      exact cread_end _ _ _ _ g _
theorem cread_is (k : Nat) (l : List Int) (hk : 9000 ≤ k) (hb : BytesL l) (hl : l.length ≤ 100000000) : codec_ReadEntries.f k l = some (entsIn l) := by
  unfold codec_ReadEntries.f entsIn
  rw [cnum_is k l (by omega) hb (by omega), some_bind]
  cases h : rn l 0 0 with
  | none =>
    obtain ⟨d, rfl⟩ : ∃ d, k = d + 5 := ⟨k - 5, by omega⟩
    refine (if_neg (show ¬ (6 : Int) = 0 by decide)).trans ?_
    show codec_ReadEntries.j0 (d + 4 + 1) 0 false l 6 = _
    rw [codec_ReadEntries.j0, if_neg (by decide), codec_ReadEntries.j1]
    exact cread_end d [] l 6 (by decide) 0
  | some z =>
    obtain ⟨n, r⟩ := z
    obtain ⟨hr, p, hp⟩ := rn_shorter l 0 0 n r h
    have hbr : BytesL r := fun x hx => hb x (by rw [hp]; simp [hx])
    obtain ⟨d, rfl⟩ : ∃ d, k = d + 2 := ⟨k - 2, by omega⟩
    refine (if_pos (show (0 : Int) = 0 from rfl)).trans ?_
    show codec_ReadEntries.j0 (d + 1 + 1) (n : Int) (decide ((n : Int) > 4096)) r 0 = some (if n > 4096 then ([], 3) else erd n [] r)
    rw [codec_ReadEntries.j0]
    by_cases g : n > 4096
    · rw [if_pos (decide_eq_true (by omega)), if_pos g, fail_is, some_bind, codec_ReadEntries.j1, show d = (d - 3) + 3 by omega]
      exact cread_end _ _ _ _ (show (3 : Int) ≠ 0 by decide) _
    · rw [if_neg (by rw [decide_eq_true_iff]; omega), if_neg g, codec_ReadEntries.j1]
      obtain ⟨q, rfl⟩ : ∃ q, d = q + 30 + 2 * n := ⟨d - 30 - 2 * n, by omega⟩
      exact cread_l l n q [] r hbr (by omega) (by simp; omega) (by omega)
end Go.Proofs.YtfpdipnaefomiaaDoor.Pure
set_option linter.unusedVariables false
namespace Go.Proofs.YtfpdipnaefomiaaDoor.Pure
open Go.RowKit Go.Proofs.YtfpdipnaefomiaaDoor.Print Go.Proofs.YtfpdipnaefomiaaDoorW.PrintWords Go.Proofs.YtfpdipnaefomiaaDoorW.PrintLast Go.Proofs.YtfpdipnaefomiaaDoorW.PrintMore
theorem rt_esc : ∀ (x s r : List Int), rt s (esc x ++ (0 :: 1 :: r)) = some (s ++ x, r)
  | [], s, r => by
    rw [show esc [] = [] from rfl, List.nil_append, rt, if_pos rfl, if_pos rfl, List.append_nil]
  | x :: l, s, r => by
    rw [esc_cons, List.append_assoc]
    by_cases h : x = 0
    · rw [if_pos h]
      show rt s (0 :: 255 :: (esc l ++ (0 :: 1 :: r))) = _
      rw [rt, if_pos rfl, if_neg (by decide), if_pos rfl, rt_esc l (s ++ [0]) r, h, List.append_assoc]; rfl
    · rw [if_neg h]
      have ih := rt_esc l (s ++ [x]) r
      show rt s (x :: (esc l ++ (0 :: 1 :: r))) = _
      cases he : esc l ++ (0 :: 1 :: r) with
      | nil => simp at he
      | cons y z =>
        rw [he] at ih
        rw [rt, if_neg h, ih, List.append_assoc]; rfl
theorem rt_back : ∀ (s l x r : List Int), rt s l = some (x, r) → ∃ y, x = s ++ y ∧ l = esc y ++ (0 :: 1 :: r)
  | s, [], x, r, h => by simp [rt] at h
  | s, [_], x, r, h => by simp [rt] at h
  | s, x :: y :: l, z, r, h => by
    rw [rt] at h
    by_cases h1 : x = 0
    · rw [if_pos h1] at h
      by_cases h2 : y = 1
      · rw [if_pos h2] at h
        simp only [Option.some.injEq, Prod.mk.injEq] at h
        exact ⟨[], by rw [← h.1, List.append_nil], by rw [h1, h2, h.2]; rfl⟩
      · rw [if_neg h2] at h
        by_cases h3 : y = 255
        · rw [if_pos h3] at h
          obtain ⟨q, hq1, hq2⟩ := rt_back _ _ _ _ h
          exact ⟨0 :: q, by rw [hq1, List.append_assoc]; rfl, by rw [esc_cons, if_pos rfl, hq2, h1, h3]; rfl⟩
        · rw [if_neg h3] at h; cases h
    · rw [if_neg h1] at h
      obtain ⟨q, hq1, hq2⟩ := rt_back _ _ _ _ h
      exact ⟨x :: q, by rw [hq1, List.append_assoc]; rfl, by rw [esc_cons, if_neg h1, hq2]; rfl⟩
theorem nb_big8 (n : Nat) (h : n < 18446744073709551616) : nb 0 (big8 n) = n := by
  unfold nb big8
  simp only [List.foldl_cons, List.foldl_nil, Int.toNat_natCast]
  omega
theorem big8_len (n : Nat) : (big8 n).length = 8 := rfl
theorem big8_nb (b : List Int) (hb : BytesL b) (hl : b.length = 8) : big8 (nb 0 b) = b ∧ nb 0 b < 18446744073709551616 := by
  match b, hl with
  | [a0, a1, a2, a3, a4, a5, a6, a7], _ =>
    have h0 := hb a0 (by simp); have h1 := hb a1 (by simp); have h2 := hb a2 (by simp); have h3 := hb a3 (by simp)
    have h4 := hb a4 (by simp); have h5 := hb a5 (by simp); have h6 := hb a6 (by simp); have h7 := hb a7 (by simp)
    obtain ⟨n0, rfl⟩ := Int.eq_ofNat_of_zero_le h0.1
    obtain ⟨n1, rfl⟩ := Int.eq_ofNat_of_zero_le h1.1
    obtain ⟨n2, rfl⟩ := Int.eq_ofNat_of_zero_le h2.1
    obtain ⟨n3, rfl⟩ := Int.eq_ofNat_of_zero_le h3.1
    obtain ⟨n4, rfl⟩ := Int.eq_ofNat_of_zero_le h4.1
    obtain ⟨n5, rfl⟩ := Int.eq_ofNat_of_zero_le h5.1
    obtain ⟨n6, rfl⟩ := Int.eq_ofNat_of_zero_le h6.1
    obtain ⟨n7, rfl⟩ := Int.eq_ofNat_of_zero_le h7.1
    clear hb
    have g0 : n0 < 256 := by omega
    have g1 : n1 < 256 := by omega
    have g2 : n2 < 256 := by omega
    have g3 : n3 < 256 := by omega
    have g4 : n4 < 256 := by omega
    have g5 : n5 < 256 := by omega
    have g6 : n6 < 256 := by omega
    have g7 : n7 < 256 := by omega
    clear h0 h1 h2 h3 h4 h5 h6 h7
    unfold nb
    simp only [List.foldl_cons, List.foldl_nil, Int.toNat_natCast, Nat.zero_mul, Nat.zero_add]
    refine ⟨?_, by omega⟩
    unfold big8
    have e0 : (((((((n0 * 256 + n1) * 256 + n2) * 256 + n3) * 256 + n4) * 256 + n5) * 256 + n6) * 256 + n7) / 2 ^ 56 % 256 = n0 := by omega
    have e1 : (((((((n0 * 256 + n1) * 256 + n2) * 256 + n3) * 256 + n4) * 256 + n5) * 256 + n6) * 256 + n7) / 2 ^ 48 % 256 = n1 := by omega
    have e2 : (((((((n0 * 256 + n1) * 256 + n2) * 256 + n3) * 256 + n4) * 256 + n5) * 256 + n6) * 256 + n7) / 2 ^ 40 % 256 = n2 := by omega
    have e3 : (((((((n0 * 256 + n1) * 256 + n2) * 256 + n3) * 256 + n4) * 256 + n5) * 256 + n6) * 256 + n7) / 2 ^ 32 % 256 = n3 := by omega
    have e4 : (((((((n0 * 256 + n1) * 256 + n2) * 256 + n3) * 256 + n4) * 256 + n5) * 256 + n6) * 256 + n7) / 2 ^ 24 % 256 = n4 := by omega
    have e5 : (((((((n0 * 256 + n1) * 256 + n2) * 256 + n3) * 256 + n4) * 256 + n5) * 256 + n6) * 256 + n7) / 2 ^ 16 % 256 = n5 := by omega
    have e6 : (((((((n0 * 256 + n1) * 256 + n2) * 256 + n3) * 256 + n4) * 256 + n5) * 256 + n6) * 256 + n7) / 2 ^ 8 % 256 = n6 := by omega
    have e7 : (((((((n0 * 256 + n1) * 256 + n2) * 256 + n3) * 256 + n4) * 256 + n5) * 256 + n6) * 256 + n7) % 256 = n7 := by omega
    rw [e0, e1, e2, e3, e4, e5, e6, e7]
def inRange (p : S60) : Prop := (0 ≤ p.f0 ∧ p.f0 < 256) ∧ (0 ≤ p.f1 ∧ p.f1 < 18446744073709551616)
theorem rp_part (p : S60) (hg : good p) (hr : inRange p) (r : List Int) : rp (partBytes p ++ r) = some (p, r) := by
  obtain ⟨f0, f1, f2⟩ := p
  rcases hg with ⟨h1, h2⟩ | ⟨h1, h2⟩
  · simp only at h1 h2
    subst h1; subst h2
    rw [part_num _ rfl]
    show rp (1 :: (big8 f1.toNat ++ r)) = _
    have hlt := hr.2
    simp only at hlt
    rw [rp, if_pos rfl, if_pos (by rw [List.length_append, big8_len]; omega), List.take_left' (big8_len _), List.drop_left' (big8_len _), nb_big8 _ (by omega), Int.toNat_of_nonneg hlt.1]
  · simp only at h1 h2
    subst h1; subst h2
    rw [part_str _ rfl]
    show rp (2 :: ((esc (bytesOf f2) ++ [0, 1]) ++ r)) = _
    rw [List.append_assoc]
    have := rt_esc (bytesOf f2) [] r
    rw [rp, if_neg (by decide), if_pos rfl]
    show (rt [] (esc (bytesOf f2) ++ (0 :: 1 :: r))).map _ = _
    rw [this, Option.map_some, List.nil_append, strOf_bytesOf]
theorem esc_back (y : List Int) (h : BytesL (esc y)) : BytesL y := fun x hx => by
  by_cases g : x = 0
  · omega
  · exact h x (List.mem_flatMap.2 ⟨x, hx, by rw [if_neg g]; simp⟩)
theorem rp_back (l : List Int) (p : S60) (r : List Int) (hb : BytesL l) (h : rp l = some (p, r)) : good p ∧ inRange p ∧ l = partBytes p ++ r := by
  cases l with
  | nil => simp [rp] at h
  | cons x d =>
    have hbd : BytesL d := fun y hy => hb y (List.mem_cons_of_mem _ hy)
    rw [rp] at h
    by_cases h1 : x = 1
    · rw [if_pos h1] at h
      by_cases h2 : 8 ≤ d.length
      · rw [if_pos h2] at h
        simp only [Option.some.injEq, Prod.mk.injEq] at h
        obtain ⟨rfl, rfl⟩ := h
        obtain ⟨e1, e2⟩ := big8_nb (d.take 8) (fun y hy => hbd y (List.mem_of_mem_take hy)) (by rw [List.length_take]; omega)
        refine ⟨.inl ⟨rfl, rfl⟩, ⟨⟨show (0 : Int) ≤ 1 by decide, show (1 : Int) < 256 by decide⟩, ⟨Int.natCast_nonneg _, by show ((nb 0 (d.take 8) : Nat) : Int) < _; omega⟩⟩, ?_⟩
        rw [part_num _ rfl]
        show x :: d = 1 :: (big8 (((nb 0 (d.take 8) : Nat) : Int)).toNat ++ d.drop 8)
        rw [Int.toNat_natCast, e1, List.take_append_drop, h1]
      · rw [if_neg h2] at h; cases h
    · rw [if_neg h1] at h
      by_cases h2 : x = 2
      · rw [if_pos h2] at h
        obtain ⟨⟨s, r2⟩, hs, he⟩ := Option.map_eq_some_iff.1 h
        simp only [Prod.mk.injEq] at he
        obtain ⟨rfl, rfl⟩ := he
        obtain ⟨y, hy1, hy2⟩ := rt_back _ _ _ _ hs
        rw [List.nil_append] at hy1
        subst hy1
        have hby : BytesL s := esc_back s (fun z hz => hbd z (by rw [hy2]; exact List.mem_append_left _ hz))
        refine ⟨.inr ⟨rfl, rfl⟩, ⟨⟨show (0 : Int) ≤ 2 by decide, show (2 : Int) < 256 by decide⟩, ⟨show (0 : Int) ≤ 0 by decide, show (0 : Int) < 18446744073709551616 by decide⟩⟩, ?_⟩
        rw [part_str _ rfl]
        show x :: d = 2 :: ((esc (bytesOf (strOfNums s)) ++ [0, 1]) ++ r2)
        rw [bytesOf_strOf s hby, List.append_assoc, h2, hy2]; rfl
      · rw [if_neg h2] at h; cases h
theorem part_pos (p : S60) : partBytes p ≠ [] := by unfold partBytes; split <;> simp
theorem rk_parts : ∀ (ps : List S60) (acc : List S60) (n : Nat), (ps.flatMap partBytes).length < n → (∀ p ∈ ps, good p ∧ inRange p) → rk n (ps.flatMap partBytes) acc = some (acc ++ ps)
  | [], acc, n, hn, h => by
    obtain ⟨n, rfl⟩ : ∃ q, n = q + 1 := ⟨n - 1, by omega⟩
    rw [List.flatMap_nil, rk, if_pos rfl, List.append_nil]
  | p :: ps, acc, n, hn, h => by
    obtain ⟨n, rfl⟩ : ∃ q, n = q + 1 := ⟨n - 1, by omega⟩
    have hpos := List.length_pos_iff.2 (part_pos p)
    rw [List.flatMap_cons, List.length_append] at hn
    rw [List.flatMap_cons, rk, if_neg (fun h => part_pos p (List.append_eq_nil_iff.1 h).1), rp_part p (h p (by simp)).1 (h p (by simp)).2, some_bind]
    simp only
    rw [rk_parts ps (acc ++ [p]) n (by omega) (fun q hq => h q (List.mem_cons_of_mem _ hq)), List.append_assoc]; rfl
theorem rk_back : ∀ (n : Nat) (l : List Int) (acc qs : List S60), BytesL l → rk n l acc = some qs → ∃ ps, qs = acc ++ ps ∧ l = ps.flatMap partBytes ∧ ∀ p ∈ ps, good p ∧ inRange p := by
  intro n
  induction n with
  | zero => intro l acc qs hb h; simp [rk] at h
  | succ n ih =>
    intro l acc qs hb h
    rw [rk] at h
    by_cases h0 : l = []
    · rw [if_pos h0] at h
      exact ⟨[], by rw [← Option.some.inj h, List.append_nil], h0, by simp⟩
    · rw [if_neg h0] at h
      obtain ⟨⟨p, r⟩, hr, h⟩ := Option.bind_eq_some_iff.1 h
      obtain ⟨g1, g2, g3⟩ := rp_back l p r hb hr
      obtain ⟨ps, e1, e2, e3⟩ := ih _ _ _ (rp_bytes l p r hr hb) h
      refine ⟨p :: ps, by rw [e1, List.append_assoc]; rfl, by rw [List.flatMap_cons, ← e2, g3], ?_⟩
      intro q hq
      rcases List.mem_cons.1 hq with rfl | hq
      · exact ⟨g1, g2⟩
      · exact e3 q hq
theorem partsIn_key (l : List S60) (h16 : l.length ≤ 16) (hg : ∀ p ∈ l, good p) (hr : ∀ p ∈ l, inRange p) (h256 : (l.flatMap partBytes).length ≤ 256) : partsIn (l.flatMap partBytes) = (l, 0) := by
  unfold partsIn
  rw [if_neg (by omega), rk_parts l [] _ (by omega) (fun p hp => ⟨hg p hp, hr p hp⟩), List.nil_append]
  unfold rkOut
  exact if_neg (by omega)
theorem size_le (p : S60) (hg : good p) : p.f2.size ≤ (partBytes p).length := by
  rcases hg with ⟨h1, h2⟩ | ⟨h1, h2⟩
  · rw [h2]; exact Nat.zero_le _
  · rw [part_str p h1]
    have := (esc_len (bytesOf p.f2)).1
    rw [bytesOf_length] at this
    simp only [List.length_cons, List.length_append, List.length_nil]
    omega
theorem mem_size (l : List S60) (p : S60) (hp : p ∈ l) : (partBytes p).length ≤ (l.flatMap partBytes).length := by
  induction l with
  | nil => cases hp
  | cons q l ih =>
    rw [List.flatMap_cons, List.length_append]
    rcases List.mem_cons.1 hp with rfl | hp
    · omega
    · have := ih hp; omega
theorem key_partsIn (b : List Int) (hb : BytesL b) (h : (partsIn b).2 = 0) : PartsOk (partsIn b).1 ∧ keyOf (partsIn b).1 = (b, 0) := by
  unfold partsIn at h ⊢
  by_cases h1 : b.length > 256
  · rw [if_pos h1] at h; exact absurd h (by decide)
  · rw [if_neg h1] at h ⊢
    cases hr : rk (b.length + 1) b [] with
    | none => rw [hr] at h; exact absurd h (by decide)
    | some qs =>
      rw [hr] at h
      unfold rkOut at h ⊢
      simp only at h ⊢
      by_cases h2 : 16 < qs.length
      · rw [if_pos h2] at h; exact absurd h (by decide)
      · rw [if_neg h2]
        obtain ⟨ps, e1, e2, e3⟩ := rk_back _ _ _ _ hb hr
        rw [List.nil_append] at e1
        subst e1
        simp only
        refine ⟨fun p hp => ⟨(e3 p hp).2.1, (e3 p hp).2.2, ?_⟩, ?_⟩
        · have := size_le p (e3 p hp).1
          have := mem_size qs p hp
          rw [← e2] at this
          omega
        · rw [keyOf_is, if_neg (by omega), if_pos (fun p hp => (e3 p hp).1), ← e2, if_neg (by omega)]
theorem textOut_num (most : Nat) (x r : List Int) (hx : x.length ≤ most) (hm : most < 1000000) : textOut most (rn (num x.length ++ (x ++ r)) 0 0) = (x, r, 0) := by
  rw [rn_num _ _ (by omega)]
  unfold textOut
  simp only
  rw [if_neg (by omega), if_neg (by rw [List.length_append]; omega), List.take_left' rfl, List.drop_left' rfl]
theorem erd_ents : ∀ (l acc : List S64), (∀ e ∈ l, fits e) → erd l.length acc (l.flatMap entBytes) = (acc ++ l, 0)
  | [], acc, h => by
    rw [List.length_nil, erd, List.flatMap_nil, if_neg (by simp), List.append_nil]
  | e :: l, acc, h => by
    have he := h e (by simp)
    have e1 : (e :: l).flatMap entBytes = num e.f0.length ++ (e.f0 ++ (num e.f1.length ++ (e.f1 ++ l.flatMap entBytes))) := by
      rw [List.flatMap_cons]; unfold entBytes; simp only [List.append_assoc]
    rw [List.length_cons, erd, e1, textOut_num 256 _ _ he.1 (by decide)]
    simp only
    rw [textOut_num 512 _ _ he.2 (by decide)]
    simp only
    rw [if_pos trivial, if_pos trivial, erd_ents l _ (fun x hx => h x (List.mem_cons_of_mem _ hx)), List.append_assoc]; rfl
theorem textOut_back (most : Nat) (l : List Int) (hb : BytesL l) (h : (textOut most (rn l 0 0)).2.2 = 0) : (textOut most (rn l 0 0)).1.length ≤ most ∧ l = num (textOut most (rn l 0 0)).1.length ++ ((textOut most (rn l 0 0)).1 ++ (textOut most (rn l 0 0)).2.1) := by
  cases hr : rn l 0 0 with
  | none => rw [hr] at h; exact absurd h (show ¬ (6 : Int) = 0 by decide)
  | some z =>
    obtain ⟨n, r⟩ := z
    rw [hr] at h
    unfold textOut at h ⊢
    simp only at h ⊢
    by_cases g : n > most
    · rw [if_pos g] at h; exact absurd h (by decide)
    · rw [if_neg g] at h ⊢
      by_cases g2 : n > r.length
      · rw [if_pos g2] at h; exact absurd h (by decide)
      · rw [if_neg g2]
        simp only
        have e : (r.take n).length = n := by rw [List.length_take]; omega
        rw [e, List.take_append_drop, num_rn l n r hb hr]
        exact ⟨by omega, rfl⟩
theorem erd_back : ∀ (m : Nat) (out : List S64) (rest : List Int), BytesL rest → (erd m out rest).2 = 0 → ∃ es, (erd m out rest).1 = out ++ es ∧ es.length = m ∧ (∀ e ∈ es, fits e) ∧ rest = es.flatMap entBytes
  | 0, out, rest, hb, h => by
    unfold erd at h ⊢
    by_cases g : rest.length > 0
    · rw [if_pos g] at h; exact absurd h (by decide)
    · rw [if_neg g]
      exact ⟨[], by simp, rfl, by simp, by rw [List.flatMap_nil]; exact List.length_eq_zero_iff.1 (by omega)⟩
  | m + 1, out, rest, hb, h => by
    obtain ⟨b1, b2, b3, b4, b5⟩ := text_out 256 rest hb
    obtain ⟨c1, c2, c3, c4, c5⟩ := text_out 512 _ b2
    have t1 := textOut_back 256 rest hb
    have t2 := textOut_back 512 _ b2
    unfold erd at h ⊢
    by_cases g : (textOut 256 (rn rest 0 0)).2.2 = 0
    · rw [if_pos g] at h ⊢
      by_cases g2 : (textOut 512 (rn (textOut 256 (rn rest 0 0)).2.1 0 0)).2.2 = 0
      · rw [if_pos g2] at h ⊢
        obtain ⟨es, e1, e2, e3, e4⟩ := erd_back m _ _ c2 h
        refine ⟨⟨(textOut 256 (rn rest 0 0)).1, (textOut 512 (rn (textOut 256 (rn rest 0 0)).2.1 0 0)).1⟩ :: es, by rw [e1, List.append_assoc]; rfl, by rw [List.length_cons, e2], ?_, ?_⟩
        · intro e he
          rcases List.mem_cons.1 he with rfl | he
          · exact ⟨(t1 g).1, (t2 g2).1⟩
          · exact e3 e he
        · rw [List.flatMap_cons, ← e4]
          unfold entBytes
          simp only [List.append_assoc]
          rw [← (t2 g2).2]
          exact (t1 g).2
      · rw [if_neg g2] at h; exact absurd h g2
    · rw [if_neg g] at h; exact absurd h g
theorem erd_bad : ∀ (m : Nat) (out : List S64) (rest : List Int), (erd m out rest).2 ≠ 0 → (erd m out rest).1 = []
  | 0, out, rest, h => by
    unfold erd at h ⊢
    by_cases g : rest.length > 0
    · rw [if_pos g]
    · rw [if_neg g] at h; exact absurd rfl h
  | m + 1, out, rest, h => by
    unfold erd at h ⊢
    by_cases g : (textOut 256 (rn rest 0 0)).2.2 = 0
    · rw [if_pos g] at h ⊢
      by_cases g2 : (textOut 512 (rn (textOut 256 (rn rest 0 0)).2.1 0 0)).2.2 = 0
      · rw [if_pos g2] at h ⊢; exact erd_bad m _ _ h
      · rw [if_neg g2]
    · rw [if_neg g]
theorem entsIn_bad (l : List Int) (h : (entsIn l).2 ≠ 0) : (entsIn l).1 = [] := by
  unfold entsIn at h ⊢
  cases hr : rn l 0 0 with
  | none => rfl
  | some z =>
    obtain ⟨n, r⟩ := z
    rw [hr] at h
    simp only at h ⊢
    by_cases g : n > 4096
    · rw [if_pos g]
    · rw [if_neg g] at h ⊢; exact erd_bad _ _ _ h
theorem ents_entsIn (l : List Int) (hb : BytesL l) (h : (entsIn l).2 = 0) : entsOf (entsIn l).1 = (l, 0) := by
  unfold entsIn at h ⊢
  cases hr : rn l 0 0 with
  | none => rw [hr] at h; exact absurd h (by decide)
  | some z =>
    obtain ⟨n, r⟩ := z
    rw [hr] at h
    simp only at h ⊢
    obtain ⟨_, p, hp⟩ := rn_shorter l 0 0 n r hr
    have hbr : BytesL r := fun x hx => hb x (by rw [hp]; simp [hx])
    by_cases g : n > 4096
    · rw [if_pos g] at h; exact absurd h (by decide)
    · rw [if_neg g] at h ⊢
      obtain ⟨es, e1, e2, e3, e4⟩ := erd_back n [] r hbr h
      rw [e1, List.nil_append]
      unfold entsOf
      rw [if_neg (by omega), if_pos e3, ← e4, e2, num_rn l n r hb hr]
theorem entsIn_ents (l : List S64) (h1 : l.length ≤ 4096) (h2 : ∀ e ∈ l, fits e) : entsIn (num l.length ++ l.flatMap entBytes) = (l, 0) := by
  unfold entsIn
  rw [rn_num _ _ (by omega)]
  simp only
  rw [if_neg (by omega), erd_ents l [] h2, List.nil_append]
theorem ents_size (l : List S64) (h2 : ∀ e ∈ l, fits e) : (l.flatMap entBytes).length ≤ l.length * 800 := by
  induction l with
  | nil => simp
  | cons e l ih =>
    have := ih (fun x hx => h2 x (List.mem_cons_of_mem _ hx))
    have := ent_len e (h2 e (by simp))
    rw [List.flatMap_cons, List.length_append, List.length_cons]
    omega
theorem whole_j2 (k : Nat) (b : List Int) (hk : 10000 ≤ k) (hb : BytesL b) (hl : b.length ≤ 1048576) : ladinglaw03_CodecWhole.j2 (k + 1) b = some true := by
  rw [ladinglaw03_CodecWhole.j2, cread_is k b (by omega) hb (by omega), some_bind]
  by_cases h : (entsIn b).2 = 0
  · rw [if_pos h, ents_is k _ (by omega), ents_entsIn b hb h, some_bind]
    simp only
    rw [if_pos trivial, beq_self_eq_true]
  · rw [if_neg h, entsIn_bad b h]; rfl
theorem whole_j1 (k : Nat) (b : List Int) (hk : 10000 ≤ k) (hb : BytesL b) (hl : b.length ≤ 1048576) : ladinglaw03_CodecWhole.j1 (k + 2) b = some true := by
  rw [ladinglaw03_CodecWhole.j1, readKey_is (k + 1) b (by omega) hb, some_bind]
  by_cases h : (partsIn b).2 = 0
  · obtain ⟨g1, g2⟩ := key_partsIn b hb h
    rw [if_pos h, key_is (k + 1) _ (by omega) g1, g2, some_bind]
    simp only
    rw [if_pos trivial, if_pos trivial]
    exact whole_j2 k b hk hb hl
  · rw [if_neg h]; exact whole_j2 k b hk hb hl
theorem whole_j0 (k : Nat) (l : List S64) (b : List Int) (hk : 10000 ≤ k) (ok : EntsOk l) (hb : BytesL b) (hl : b.length ≤ 1048576) : ladinglaw03_CodecWhole.j0 (k + 3) l b = some true := by
  rw [ladinglaw03_CodecWhole.j0, ents_is (k + 2) l (by omega), some_bind]
  rcases ents_cases l with ⟨c, hc, h⟩ | ⟨h1, h2, h⟩
  · rw [h]
    exact (if_neg hc).trans (whole_j1 k b hk hb hl)
  · rw [h]
    have hsz := ents_size l h2
    have hn := num_len l.length
    refine (if_pos (show (0 : Int) = 0 from rfl)).trans ?_
    simp only
    rw [cread_is (k + 2) _ (by omega) (ents_bytes l ok h2 h1) (by rw [List.length_append]; omega), some_bind, entsIn_ents l h1 h2]
    simp only
    rw [if_pos trivial, sameE_is (k + 2) l l ok ok (by omega) (by omega), some_bind, if_pos (decide_eq_true rfl)]
    exact whole_j1 k b hk hb hl
theorem CodecWholeUpto : ∀ (l0 : List (S60)) (l1 : List (S64)) (l2 : List Int), (l0.length ≤ 1048576 ∧ ∀ y3 ∈ l0, ((Lit.int .u8 y3.f0).wf = true ∧ (Lit.int .u64 y3.f1).wf = true ∧ y3.f2.size ≤ 1048576)) → (l1.length ≤ 1048576 ∧ ∀ y3 ∈ l1, ((y3.f0.length ≤ 1048576 ∧ ∀ y5 ∈ y3.f0, (Lit.int .u8 y5).wf = true) ∧ (y3.f1.length ≤ 1048576 ∧ ∀ y5 ∈ y3.f1, (Lit.int .u8 y5).wf = true))) → (l2.length ≤ 1048576 ∧ ∀ y3 ∈ l2, (Lit.int .u8 y3).wf = true) → ∃ k, ladinglaw03_CodecWhole.f k l0 l1 l2 = some true := by
  intro l es b ⟨hl, hp⟩ ⟨hel, he⟩ ⟨hbl, hbb⟩
  have hb : BytesL b := fun x hx => wf_u8 (hbb x hx)
  have okr : ∀ p ∈ l, inRange p := fun p h => ⟨wf_u8 (hp p h).1, wf_u64 (hp p h).2.1⟩
  have ok2 : PartsOk l := fun p h => ⟨(okr p h).1, (okr p h).2, by have := (hp p h).2.2; omega⟩
  have ok : EntsOk es := fun e h => ⟨fun x hx => wf_u8 ((he e h).1.2 x hx), fun x hx => wf_u8 ((he e h).2.2 x hx)⟩
  obtain ⟨K, hK⟩ : ∃ K, K = 20000 := ⟨_, rfl⟩
  refine ⟨K + 3, ?_⟩
  have h0 := whole_j0 K es b (by omega) ok hb hbl
  unfold ladinglaw03_CodecWhole.f
  rw [lives_is _ (by omega), some_bind, if_pos rfl, key_is _ l (by omega) ok2, some_bind]
  rcases key_cases l with ⟨c, hc, h⟩ | ⟨h1, h2, h3, h⟩
  · rw [h]
    exact (if_neg hc).trans h0
  · rw [h]
    refine (if_pos (show (0 : Int) = 0 from rfl)).trans ?_
    simp only
    rw [readKey_is _ _ (by omega) (key_bytes l h2), some_bind, partsIn_key l h1 h2 okr h3]
    simp only
    rw [if_pos trivial, sameP_is _ l l (by omega) (by omega), some_bind, if_pos (decide_eq_true rfl)]
    exact h0
end Go.Proofs.YtfpdipnaefomiaaDoor.Pure
