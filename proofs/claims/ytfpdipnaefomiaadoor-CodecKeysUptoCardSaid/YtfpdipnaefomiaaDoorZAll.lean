/- Every key is written, and any bytes are read as one, as the document says: for parts and bytes of bulk at most 1048576. -/
import Derived.Test.YtfpdipnaefomiaaDoorZPrint6
import Derived.Test.YtfpdipnaefomiaaDoorZPrint9
import Derived.Laws.Bits64
import Derived.Laws.Bits64b
import Derived.Test.YtfpdipnaefomiaaDoorZPrint17
import Derived.Test.YtfpdipnaefomiaaDoorZPrint16
import Derived.Test.YtfpdipnaefomiaaDoorZPrint3
import Derived.Lib.Replace
import Derived.Lib.ReplaceLaws
import Derived.Test.YtfpdipnaefomiaaDoorZPrint7
import Derived.Test.YtfpdipnaefomiaaDoorZPrint12
import Derived.Test.YtfpdipnaefomiaaDoorZPrint13
import Derived.Test.YtfpdipnaefomiaaDoorZPrint27
import Derived.Test.YtfpdipnaefomiaaDoorZPrint29
import Derived.Test.YtfpdipnaefomiaaDoorZPrint25
import Derived.Test.YtfpdipnaefomiaaDoorZPrint30
set_option linter.unusedVariables false
namespace Go.Proofs.YtfpdipnaefomiaaDoor.Pure
open Go.RowKit Go.Proofs.YtfpdipnaefomiaaDoor.Print Go.Proofs.YtfpdipnaefomiaaDoorW.PrintWords Go.Proofs.YtfpdipnaefomiaaDoorW.PrintLast Go.Proofs.YtfpdipnaefomiaaDoorW.PrintMore
theorem up {α : Type} {f : Nat → Option α} (hm : ∀ k, LeO (f k) (f (k + 1))) {k n : Nat} {r : α} (h : f k = some r) (hk : k ≤ n) : f n = some r := by
  obtain ⟨d, rfl⟩ : ∃ d, n = k + d := ⟨n - k, by omega⟩
  induction d with
  | zero => exact h
  | succ d ih => exact hm (k + d) r (ih (by omega))
theorem w64 {x : Int} (h0 : -9223372036854775808 ≤ x) (h1 : x ≤ 9223372036854775807) : wrap64 x = x := by unfold wrap64; omega
theorem u64 {x : Int} (h0 : 0 ≤ x) (h1 : x ≤ 18446744073709551615) : IntKind.u64.wrap x = x := by rw [IntKind.wrap_u64]; omega
theorem wf_u8 {x : Int} (h : (Lit.int .u8 x).wf = true) : 0 ≤ x ∧ x < 256 := by
  simp [Lit.wf, IntKind.min, IntKind.max, IntKind.bits, IntKind.signed] at h
  omega
theorem wf_u64 {x : Int} (h : (Lit.int .u64 x).wf = true) : 0 ≤ x ∧ x < 18446744073709551616 := by
  simp [Lit.wf, IntKind.min, IntKind.max, IntKind.bits, IntKind.signed] at h
  omega
theorem some_bind {α β : Type} (a : α) (f : α → Option β) : (some a).bind f = f a := rfl
theorem rd_at (l : List Int) (i : Nat) (h : i < l.length) : rd l (i : Int) = l[i] := by
  unfold rd
  rw [Int.toNat_natCast, List.getD_eq_getElem?_getD, List.getElem?_eq_getElem h]; rfl
theorem own_is (l : List Int) (h : l.length < 140737488355328) : codec_own.f l = some l := by
  unfold codec_own.f
  rw [if_pos (by simpa using h)]; rfl
theorem lives_at : ladinglaw03_lives.f 40 = some true := by kernel_rfl
theorem lives_is (k : Nat) (hk : 40 ≤ k) : ladinglaw03_lives.f k = some true := up ladinglaw03_lives.mono lives_at hk
end Go.Proofs.YtfpdipnaefomiaaDoor.Pure
set_option linter.unusedVariables false
namespace Go.Proofs.YtfpdipnaefomiaaDoor.Pure
open Go.RowKit Go.Proofs.YtfpdipnaefomiaaDoor.Print Go.Proofs.YtfpdipnaefomiaaDoorW.PrintWords Go.Proofs.YtfpdipnaefomiaaDoorW.PrintLast Go.Proofs.YtfpdipnaefomiaaDoorW.PrintMore
def BytesL (l : List Int) : Prop := ∀ x ∈ l, 0 ≤ x ∧ x < 256
theorem fail_is (l : List Int) (e : Int) : codec_cursor_fail.f l 0 e = some (l, e) := by unfold codec_cursor_fail.f; rw [if_pos rfl]
theorem drop_cons {l d : List Int} {i : Nat} {x : Int} (h : l.drop i = x :: d) : i < l.length ∧ rd l (i : Int) = x ∧ l.drop (i + 1) = d ∧ x ∈ l := by
  have hi : i < l.length := by
    rcases Nat.lt_or_ge i l.length with h1 | h1
    · exact h1
    · rw [List.drop_eq_nil_of_le h1] at h; cases h
  have h2 := List.drop_eq_getElem_cons hi
  rw [h] at h2
  injection h2 with h3 h4
  exact ⟨hi, by rw [rd_at l i hi, h3], h4.symm, by rw [h3]; exact List.getElem_mem hi⟩
theorem take_is (l : List Int) (n : Nat) (hl : l.length < 140737488355328) : codec_cursor_take.f l 0 (n : Int) = some (if n > l.length then ([], l, 6) else (l.take n, l.drop n, 0)) := by
  unfold codec_cursor_take.f
  rw [u64 (by omega) (by omega), fail_is, some_bind]
  by_cases h : n > l.length
  · rw [if_pos (by omega), if_pos h]
    exact (if_neg (show ¬ (6 : Int) = 0 by decide)).trans rfl
  · rw [if_neg (by omega), if_pos rfl, if_pos (by omega), if_pos (by omega), if_neg h, Int.toNat_natCast, own_is _ (by rw [List.length_take]; omega)]; rfl
end Go.Proofs.YtfpdipnaefomiaaDoor.Pure
set_option linter.unusedVariables false
namespace Go.Proofs.YtfpdipnaefomiaaDoor.Pure
open Go.RowKit Go.Proofs.YtfpdipnaefomiaaDoor.Print Go.Proofs.YtfpdipnaefomiaaDoorW.PrintWords Go.Proofs.YtfpdipnaefomiaaDoorW.PrintLast Go.Proofs.YtfpdipnaefomiaaDoorW.PrintMore
theorem strOf_bytesOf (s : ByteArray) : strOfNums (bytesOf s) = s := by
  unfold strOfNums bytesOf
  rw [List.map_map]
  have : s.data.toList.map ((fun n : Int => UInt8.ofNat n.toNat) ∘ fun b : UInt8 => (b.toNat : Int)) = s.data.toList := by
    conv => rhs; rw [← List.map_id s.data.toList]
    apply List.map_congr_left
    intro b _
    show UInt8.ofNat ((b.toNat : Int)).toNat = b
    rw [Int.toNat_natCast, UInt8.ofNat_toNat]
  rw [this]
theorem bytesOf_strOf (l : List Int) (h : BytesL l) : bytesOf (strOfNums l) = l := by
  unfold bytesOf
  rw [strOfNums_data, List.map_map]
  conv => rhs; rw [← List.map_id l]
  apply List.map_congr_left
  intro x hx
  have := h x hx
  show ((UInt8.ofNat x.toNat).toNat : Int) = x
  rw [UInt8.toNat_ofNat', Nat.mod_eq_of_lt (by omega)]; omega
theorem bytesOf_bytes (s : ByteArray) : BytesL (bytesOf s) := by
  intro x hx
  obtain ⟨b, _, rfl⟩ := List.mem_map.1 hx
  have := b.toNat_lt
  omega
end Go.Proofs.YtfpdipnaefomiaaDoor.Pure
set_option linter.unusedVariables false
namespace Go.Proofs.YtfpdipnaefomiaaDoor.Pure
open Go.RowKit Go.Proofs.YtfpdipnaefomiaaDoor.Print Go.Proofs.YtfpdipnaefomiaaDoorW.PrintWords Go.Proofs.YtfpdipnaefomiaaDoorW.PrintLast Go.Proofs.YtfpdipnaefomiaaDoorW.PrintMore
def esc8 (b : UInt8) : List UInt8 := if b = 0 then [0, 255] else [b]
theorem replaceK_esc : ∀ s : List UInt8, Lib.replaceK [0] [0, 255] (Lib.count s [0]) s = s.flatMap esc8
  | [] => by simp [Lib.count_one, Lib.replaceK]
  | b :: l => by
    have ih := replaceK_esc l
    by_cases h : b = 0
    · subst h
      rw [Lib.count_cons_eq, Nat.add_comm, Lib.replaceK_hit [0] [0, 255] (Lib.count l [0]) (0 :: l) 0 (by simp [Lib.index, List.isPrefixOf])]
      simp only [List.take_zero, List.nil_append, List.length_singleton, Nat.zero_add, List.drop_succ_cons, List.drop_zero]
      rw [ih, List.flatMap_cons]; rfl
    · rw [Lib.count_cons_ne b 0 l h, List.flatMap_cons, ← ih]
      have e : esc8 b = [b] := by unfold esc8; rw [if_neg h]
      rw [e]
      cases hc : Lib.count l [0] with
      | zero => rfl
      | succ k =>
        obtain ⟨i, hi⟩ := Lib.index_of_count (s := l) (old := [0]) (by omega)
        have hi2 : Lib.index (b :: l) [0] = ((i + 1 : Nat) : Int) := by
          have h0 : (List.isPrefixOf [0] (b :: l)) = false := by simp [List.isPrefixOf, show ¬ (0 : UInt8) = b from fun e => h e.symm]
          rw [Lib.index, h0, hi]
          have : ((i : Int) == -1) = false := by simp
          simp [this]
        rw [Lib.replaceK_hit _ _ k _ (i + 1) hi2, Lib.replaceK_hit _ _ k _ i hi]
        simp [List.take_succ_cons, List.drop_succ_cons]
theorem replaceAll_esc (s : List UInt8) : Lib.replaceAll s [0] [0, 255] = s.flatMap esc8 := by
  unfold Lib.replaceAll Lib.replace
  rw [if_neg (by decide)]
  unfold Lib.replaceNum
  rw [if_pos (.inl (by decide)), replaceK_esc]
def esc (l : List Int) : List Int := l.flatMap fun x => if x = 0 then [0, 255] else [x]
theorem esc_cons (x : Int) (l : List Int) : esc (x :: l) = (if x = 0 then [0, 255] else [x]) ++ esc l := by unfold esc; rw [List.flatMap_cons]
theorem esc_len (l : List Int) : l.length ≤ (esc l).length ∧ (esc l).length ≤ 2 * l.length := by
  induction l with
  | nil => simp [esc]
  | cons x l ih =>
    rw [esc_cons, List.length_append, List.length_cons]
    split <;> simp only [List.length_cons, List.length_nil] <;> omega
theorem esc_strs (s : ByteArray) : bytesOf (⟨(s.data.toList.flatMap esc8).toArray⟩ : ByteArray) = esc (bytesOf s) := by
  unfold bytesOf esc
  show (s.data.toList.flatMap esc8).map _ = _
  induction s.data.toList with
  | nil => rfl
  | cons b l ih =>
    rw [List.flatMap_cons, List.map_append, ih, List.map_cons, List.flatMap_cons]
    congr 1
    unfold esc8
    by_cases h : b = 0
    · subst h; rfl
    · have h2 : ¬ ((b.toNat : Int)) = 0 := by
        intro h2
        have h3 : b.toNat = 0 := by omega
        exact h (UInt8.toNat_inj.1 (h3.trans rfl))
      rw [if_neg h, if_neg h2]; rfl
theorem countB_size (s : ByteArray) : Lib.countB s ⟨#[0]⟩ ≤ s.size := Lib.countB_le ⟨#[0]⟩ (by decide) s.size s (Nat.le_refl _)
theorem repl_is (s : ByteArray) (h : s.size < 4294967281) : strings_ReplaceAll.f s (⟨#[0]⟩ : ByteArray) (⟨#[0, 255]⟩ : ByteArray) = some ⟨(s.data.toList.flatMap esc8).toArray⟩ := by
  unfold strings_ReplaceAll.f
  have := countB_size s
  rw [if_pos ⟨h, by decide, by show s.size + Lib.countB s ⟨#[0]⟩ * 2 ≤ _; omega⟩]
  rw [show (⟨#[0]⟩ : ByteArray).data.toList = [0] from rfl, show (⟨#[0, 255]⟩ : ByteArray).data.toList = [0, 255] from rfl, replaceAll_esc]
def big8 (n : Nat) : List Int := [((n / 2 ^ 56 % 256 : Nat) : Int), ((n / 2 ^ 48 % 256 : Nat) : Int), ((n / 2 ^ 40 % 256 : Nat) : Int), ((n / 2 ^ 32 % 256 : Nat) : Int), ((n / 2 ^ 24 % 256 : Nat) : Int), ((n / 2 ^ 16 % 256 : Nat) : Int), ((n / 2 ^ 8 % 256 : Nat) : Int), ((n % 256 : Nat) : Int)]
theorem shr_at (n i : Nat) (hi : i ≤ 64) : shr .u64 (n : Int) (i : Int) % 256 = ((n / 2 ^ i % 256 : Nat) : Int) := by
  unfold shr
  rw [Int.toNat_natCast, Nat.min_eq_left (show i ≤ IntKind.bits .u64 by show i ≤ 64; omega)]
  rw [Int.natCast_emod, Int.natCast_ediv, Int.natCast_pow]; rfl
theorem big_step (k : Nat) (l : List Int) (n i : Nat) (hi : i ≤ 64) (hl : l.length < 140737488355328) : codec_big.l0 (k + 1) l (n : Int) (i : Int) = codec_big.l0 k (l ++ [((n / 2 ^ i % 256 : Nat) : Int)]) (n : Int) ((i : Int) - 8) := by
  rw [codec_big.l0, if_pos (by omega), if_pos (by omega), if_pos hl, shr_at n i hi, w64 (by omega) (by omega)]
theorem big_is (k : Nat) (l : List Int) (n : Nat) (hk : 9 ≤ k) (hl : l.length + 8 < 140737488355328) : codec_big.f k l (n : Int) = some (l ++ big8 n) := by
  obtain ⟨d, rfl⟩ : ∃ d, k = d + 9 := ⟨k - 9, by omega⟩
  unfold codec_big.f
  rw [show (56 : Int) = ((56 : Nat) : Int) from rfl, show d + 9 = d + 8 + 1 from rfl, big_step _ _ n 56 (by omega) (by omega)]
  rw [show ((56 : Nat) : Int) - 8 = ((48 : Nat) : Int) from rfl, show d + 8 = d + 7 + 1 from rfl, big_step _ _ n 48 (by omega) (by simp; omega)]
  rw [show ((48 : Nat) : Int) - 8 = ((40 : Nat) : Int) from rfl, show d + 7 = d + 6 + 1 from rfl, big_step _ _ n 40 (by omega) (by simp; omega)]
  rw [show ((40 : Nat) : Int) - 8 = ((32 : Nat) : Int) from rfl, show d + 6 = d + 5 + 1 from rfl, big_step _ _ n 32 (by omega) (by simp; omega)]
  rw [show ((32 : Nat) : Int) - 8 = ((24 : Nat) : Int) from rfl, show d + 5 = d + 4 + 1 from rfl, big_step _ _ n 24 (by omega) (by simp; omega)]
  rw [show ((24 : Nat) : Int) - 8 = ((16 : Nat) : Int) from rfl, show d + 4 = d + 3 + 1 from rfl, big_step _ _ n 16 (by omega) (by simp; omega)]
  rw [show ((16 : Nat) : Int) - 8 = ((8 : Nat) : Int) from rfl, show d + 3 = d + 2 + 1 from rfl, big_step _ _ n 8 (by omega) (by simp; omega)]
  rw [show ((8 : Nat) : Int) - 8 = ((0 : Nat) : Int) from rfl, show d + 2 = d + 1 + 1 from rfl, big_step _ _ n 0 (by omega) (by simp; omega)]
  rw [codec_big.l0, if_neg (by decide)]
  simp only [List.append_assoc, List.cons_append, List.nil_append, Nat.pow_zero, Nat.div_one]
  rfl
def good (p : S60) : Prop := (p.f0 = 1 ∧ p.f2 = ⟨#[]⟩) ∨ (p.f0 = 2 ∧ p.f1 = 0)
instance (p : S60) : Decidable (good p) := by unfold good; infer_instance
def partBytes (p : S60) : List Int := if p.f0 = 1 then 1 :: big8 p.f1.toNat else p.f0 :: (esc (bytesOf p.f2) ++ [0, 1])
theorem rd60_at (l : List S60) (i : Nat) (h : i < l.length) : rd_T60 l (i : Int) = l[i] := by
  unfold rd_T60
  rw [Int.toNat_natCast, List.getD_eq_getElem?_getD, List.getElem?_eq_getElem h]; rfl
def keyOut (acc : List Int) : List S60 → List Int × Int
  | [] => (acc, 0)
  | p :: r => if (acc ++ partBytes p).length > 256 then ([], 4) else keyOut (acc ++ partBytes p) r
theorem empty_iff (s : ByteArray) : s.toList.isEmpty = true ↔ s = ⟨#[]⟩ := by
  constructor
  · intro h
    have h1 : s.data.toList = [] := by
      have := List.isEmpty_iff.1 h
      rwa [Lib.toList_data] at this
    obtain ⟨⟨l⟩⟩ := s
    simp at h1
    subst h1; rfl
  · intro h; subst h; rw [Lib.toList_data]; rfl
theorem drop60 {l d : List S60} {i : Nat} {x : S60} (h : l.drop i = x :: d) : i < l.length ∧ rd_T60 l (i : Int) = x ∧ l.drop (i + 1) = d ∧ x ∈ l := by
  have hi : i < l.length := by
    rcases Nat.lt_or_ge i l.length with h1 | h1
    · exact h1
    · rw [List.drop_eq_nil_of_le h1] at h; cases h
  have h2 := List.drop_eq_getElem_cons hi
  rw [h] at h2
  injection h2 with h3 h4
  exact ⟨hi, by rw [rd60_at l i hi, h3], h4.symm, by rw [h3]; exact List.getElem_mem hi⟩
theorem drop60_nil {l : List S60} {i : Nat} (h : l.drop i = []) : l.length ≤ i := by
  rcases Nat.lt_or_ge i l.length with h1 | h1
  · rw [List.drop_eq_getElem_cons h1] at h; cases h
  · exact h1
def PartsOk (l : List S60) : Prop := ∀ p ∈ l, (0 ≤ p.f0 ∧ p.f0 < 256) ∧ (0 ≤ p.f1 ∧ p.f1 < 18446744073709551616) ∧ p.f2.size < 4294967281
theorem key_l1 (l : List S60) (hp : PartsOk l) (hg : ∀ p ∈ l, good p) (hl : l.length ≤ 16) : ∀ (r : List S60) (i k : Nat) (acc : List Int), l.drop i = r → acc.length ≤ 256 →
    codec_Key.l1 (k + 10 + r.length) acc l (l.length : Int) (i : Int) = some (keyOut acc r) := by
  intro r
  induction r with
  | nil =>
    intro i k acc hd ha
    have := drop60_nil hd
    rw [show k + 10 + ([] : List S60).length = (k + 9) + 1 by simp]
    rw [codec_Key.l1, if_neg (by omega)]; rfl
  | cons p r ih =>
    intro i k acc hd ha
    obtain ⟨h1, h2, h3, h4⟩ := drop60 hd
    have hpp := hp p h4
    rw [show k + 10 + (p :: r).length = (k + 10 + r.length) + 1 by rw [List.length_cons]; omega]
    rw [codec_Key.l1, if_pos (by omega), if_pos (by omega), if_pos (by omega), if_pos (by omega), some_bind, h2, w64 (by omega) (by omega)]
    have hi1 : (i : Int) + 1 = ((i + 1 : Nat) : Int) := by omega
    rw [keyOut]
    by_cases h : p.f0 = 1
    · obtain ⟨n, hn⟩ : ∃ n : Nat, p.f1 = n := ⟨p.f1.toNat, by omega⟩
      have e : acc ++ [p.f0] ++ big8 n = acc ++ partBytes p := by
        unfold partBytes; rw [if_pos h, h, hn, Int.toNat_natCast, List.append_assoc]; rfl
      rw [if_pos h, hn, big_is _ _ n (by omega) (by simp; omega), some_bind, e]
      by_cases g : (acc ++ partBytes p).length > 256
      · rw [if_pos (by omega), if_pos g]
      · rw [if_neg (by omega), if_neg g, hi1]; exact ih (i + 1) k _ h3 (by omega)
    · have hs : (⟨(p.f2.data.toList.flatMap esc8).toArray⟩ : ByteArray).size = (esc (bytesOf p.f2)).length := by rw [← bytesOf_length, esc_strs]
      have hlen := esc_len (bytesOf p.f2)
      rw [bytesOf_length] at hlen
      have e : acc ++ [p.f0] ++ esc (bytesOf p.f2) ++ [0, 1] = acc ++ partBytes p := by
        unfold partBytes; rw [if_neg h]; simp
      rw [if_neg h, repl_is _ hpp.2.2, some_bind, if_pos (by rw [hs]; simp only [List.length_append, List.length_cons, List.length_nil]; omega), some_bind, some_bind, esc_strs,
        if_pos (by simp only [List.length_append, List.length_cons, List.length_nil]; omega), some_bind, e]
      by_cases g : (acc ++ partBytes p).length > 256
      · rw [if_pos (by omega), if_pos g]
      · rw [if_neg (by omega), if_neg g, hi1]; exact ih (i + 1) k _ h3 (by omega)
theorem good_iff (p : S60) : good p ↔ ¬ ((!(p.f0 == 1) || (!(p.f2.toList.isEmpty))) = true ∧ (!(p.f0 == 2) || (!(p.f1 == 0))) = true) := by
  unfold good
  have := empty_iff p.f2
  by_cases h1 : p.f2 = ⟨#[]⟩
  · have e := this.2 h1
    rw [e]
    simp only [h1]
    by_cases h2 : p.f0 = 1 <;> by_cases h3 : p.f0 = 2 <;> by_cases h4 : p.f1 = 0 <;> simp [h2, h3, h4]
  · have e : p.f2.toList.isEmpty = false := by cases g : p.f2.toList.isEmpty with
      | true => exact absurd (this.1 g) h1
      | false => rfl
    rw [e]
    by_cases h2 : p.f0 = 1 <;> by_cases h3 : p.f0 = 2 <;> by_cases h4 : p.f1 = 0 <;> simp [h1, h2, h3, h4]
theorem key_l0 (l : List S60) (hp : PartsOk l) (hl : l.length ≤ 16) : ∀ (r : List S60) (i k : Nat), l.drop i = r → (∀ j, j < i → ∀ h : j < l.length, good l[j]) →
    codec_Key.l0 (k + 30 + r.length) l l (l.length : Int) (i : Int) = some (if ∀ p ∈ l, good p then keyOut [] l else ([], 15)) := by
  intro r
  induction r with
  | nil =>
    intro i k hd hb
    have hi := drop60_nil hd
    have hall : ∀ p ∈ l, good p := fun p hp => by
      obtain ⟨j, hj, rfl⟩ := List.getElem_of_mem hp
      exact hb j (by omega) hj
    rw [show k + 30 + ([] : List S60).length = (k + 29) + 1 by simp]
    rw [codec_Key.l0, if_neg (by omega), if_pos hall]
    have := key_l1 l hp hall hl l 0 (k + 19 - l.length) [] rfl (by simp)
    rw [show k + 19 - l.length + 10 + l.length = k + 29 by omega] at this
    exact this
  | cons p r ih =>
    intro i k hd hb
    obtain ⟨h1, h2, h3, h4⟩ := drop60 hd
    rw [show k + 30 + (p :: r).length = (k + 30 + r.length) + 1 by rw [List.length_cons]; omega]
    rw [codec_Key.l0, if_pos (by omega), if_pos (by omega), if_pos (by omega), h2, w64 (by omega) (by omega)]
    have hp0 : l[i] = p := by rw [← rd60_at l i h1, h2]
    have hi1 : (i : Int) + 1 = ((i + 1 : Nat) : Int) := by omega
    have next : good p → codec_Key.l0 (k + 30 + r.length) l l (l.length : Int) ((i : Int) + 1) = some (if ∀ p ∈ l, good p then keyOut [] l else ([], 15)) := fun hg => by
      rw [hi1]
      refine ih (i + 1) k h3 (fun j hj hjl => ?_)
      rcases Nat.lt_or_ge j i with h | h
      · exact hb j h hjl
      · have : j = i := by omega
        subst this; rw [hp0]; exact hg
    have gi := good_iff p
    by_cases c1 : (!(p.f0 == 1) || (!(p.f2.toList.isEmpty))) = true
    · rw [if_pos c1]
      by_cases c2 : (!(p.f0 == 2) || (!(p.f1 == 0))) = true
      · rw [if_pos c2, if_neg (fun hall => (gi.1 (hall p h4)) ⟨c1, c2⟩)]
      · rw [if_neg c2]; exact next (gi.2 (fun h => c2 h.2))
    · rw [if_neg c1]; exact next (gi.2 (fun h => c1 h.1))
def keyOf (l : List S60) : List Int × Int := if l.length > 16 then ([], 3) else if ∀ p ∈ l, good p then keyOut [] l else ([], 15)
theorem key_is (k : Nat) (l : List S60) (hk : 60 ≤ k) (hp : PartsOk l) : codec_Key.f k l = some (keyOf l) := by
  unfold codec_Key.f keyOf
  by_cases h : l.length > 16
  · rw [if_pos (by omega), if_pos h]
  · rw [if_neg (by omega), if_neg h]
    obtain ⟨d, rfl⟩ : ∃ d, k = d + 30 + l.length := ⟨k - 30 - l.length, by omega⟩
    exact key_l0 l hp (by omega) l 0 d rfl (fun j hj => by omega)
theorem keyOut_is : ∀ (r : List S60) (acc : List Int), acc.length ≤ 256 → keyOut acc r = if (acc ++ r.flatMap partBytes).length > 256 then ([], 4) else (acc ++ r.flatMap partBytes, 0)
  | [], acc, h => by rw [List.flatMap_nil, List.append_nil, keyOut, if_neg (by omega)]
  | p :: r, acc, h => by
    rw [keyOut, List.flatMap_cons, ← List.append_assoc]
    by_cases g : (acc ++ partBytes p).length > 256
    · rw [if_pos g, if_pos (by rw [List.length_append]; omega)]
    · rw [if_neg g, keyOut_is r _ (by omega)]
theorem keyOf_is (l : List S60) : keyOf l = if l.length > 16 then ([], 3) else if ∀ p ∈ l, good p then (if (l.flatMap partBytes).length > 256 then ([], 4) else (l.flatMap partBytes, 0)) else ([], 15) := by
  unfold keyOf
  rw [keyOut_is l [] (by simp), List.nil_append]
end Go.Proofs.YtfpdipnaefomiaaDoor.Pure
set_option linter.unusedVariables false
namespace Go.Proofs.YtfpdipnaefomiaaDoor.Pure
open Go.RowKit Go.Proofs.YtfpdipnaefomiaaDoor.Print Go.Proofs.YtfpdipnaefomiaaDoorW.PrintWords Go.Proofs.YtfpdipnaefomiaaDoorW.PrintLast Go.Proofs.YtfpdipnaefomiaaDoorW.PrintMore
theorem part_num (p : S60) (h : p.f0 = 1) : partBytes p = 1 :: big8 p.f1.toNat := by unfold partBytes; rw [if_pos h]
theorem part_str (p : S60) (h : p.f0 = 2) : partBytes p = 2 :: (esc (bytesOf p.f2) ++ [0, 1]) := by unfold partBytes; rw [if_neg (by omega), h]
end Go.Proofs.YtfpdipnaefomiaaDoor.Pure
set_option linter.unusedVariables false
namespace Go.Proofs.YtfpdipnaefomiaaDoor.Pure
open Go.RowKit Go.Proofs.YtfpdipnaefomiaaDoor.Print Go.Proofs.YtfpdipnaefomiaaDoorW.PrintWords Go.Proofs.YtfpdipnaefomiaaDoorW.PrintLast Go.Proofs.YtfpdipnaefomiaaDoorW.PrintMore
theorem key_cases (l : List S60) : (∃ c : Int, c ≠ 0 ∧ keyOf l = ([], c)) ∨ (l.length ≤ 16 ∧ (∀ p ∈ l, good p) ∧ (l.flatMap partBytes).length ≤ 256 ∧ keyOf l = (l.flatMap partBytes, 0)) := by
  rw [keyOf_is]
  by_cases h1 : l.length > 16
  · rw [if_pos h1]; exact .inl ⟨3, by decide, rfl⟩
  · rw [if_neg h1]
    by_cases h2 : ∀ p ∈ l, good p
    · rw [if_pos h2]
      by_cases h3 : (l.flatMap partBytes).length > 256
      · rw [if_pos h3]; exact .inl ⟨4, by decide, rfl⟩
      · rw [if_neg h3]; exact .inr ⟨by omega, h2, by omega, rfl⟩
    · rw [if_neg h2]; exact .inl ⟨15, by decide, rfl⟩
theorem esc_bytes (l : List Int) (h : BytesL l) : BytesL (esc l) := by
  intro x hx
  obtain ⟨y, hy, hxy⟩ := List.mem_flatMap.1 hx
  have := h y hy
  by_cases g : y = 0
  · rw [if_pos g] at hxy
    simp only [List.mem_cons, List.mem_nil_iff, or_false] at hxy
    rcases hxy with rfl | rfl <;> omega
  · rw [if_neg g] at hxy
    simp only [List.mem_cons, List.mem_nil_iff, or_false] at hxy
    subst hxy; omega
theorem part_bytes (p : S60) (h : good p) : BytesL (partBytes p) := by
  rcases h with ⟨k1, _⟩ | ⟨k1, _⟩
  · rw [part_num p k1]
    intro x hx
    unfold big8 at hx
    simp only [List.mem_cons, List.mem_nil_iff, or_false] at hx
    rcases hx with h | h | h | h | h | h | h | h | h <;> subst h <;> omega
  · rw [part_str p k1]
    intro x hx
    rcases List.mem_cons.1 hx with rfl | hx
    · omega
    · rcases List.mem_append.1 hx with hx | hx
      · exact esc_bytes _ (bytesOf_bytes _) x hx
      · simp only [List.mem_cons, List.mem_nil_iff, or_false] at hx
        rcases hx with rfl | rfl <;> omega
theorem key_bytes (l : List S60) (h : ∀ p ∈ l, good p) : BytesL (l.flatMap partBytes) := by
  intro x hx
  obtain ⟨p, hp, hxp⟩ := List.mem_flatMap.1 hx
  exact part_bytes p (h p hp) x hxp
theorem strOf_inj {x y : List Int} (hx : BytesL x) (hy : BytesL y) (h : (strOfNums x).toList = (strOfNums y).toList) : x = y := by
  rw [Lib.toList_data, Lib.toList_data] at h
  rw [← bytesOf_strOf x hx, ← bytesOf_strOf y hy]
  unfold bytesOf
  rw [h]
end Go.Proofs.YtfpdipnaefomiaaDoor.Pure
set_option linter.unusedVariables false
namespace Go.Proofs.YtfpdipnaefomiaaDoor.Pure
open Go.RowKit Go.Proofs.YtfpdipnaefomiaaDoor.Print Go.Proofs.YtfpdipnaefomiaaDoorW.PrintWords Go.Proofs.YtfpdipnaefomiaaDoorW.PrintLast Go.Proofs.YtfpdipnaefomiaaDoorW.PrintMore
@[reducible] noncomputable instance decS64 : DecidableEq S64 := fun _ _ => Classical.propDecidable _
@[reducible] noncomputable instance decS60 : DecidableEq S60 := fun _ _ => Classical.propDecidable _
def fits (e : S64) : Prop := e.f0.length ≤ 256 ∧ e.f1.length ≤ 512
instance (e : S64) : Decidable (fits e) := by unfold fits; infer_instance
theorem same_is (a b : List Int) (ha : BytesL a) (hb : BytesL b) : ladingref03_Same.f a b = some (decide (a = b)) := by
  unfold ladingref03_Same.f
  by_cases h : a = b
  · subst h; rw [beq_self_eq_true, decide_eq_true rfl]
  · rw [decide_eq_false h]
    congr 1
    exact beq_eq_false_iff_ne.2 (fun e => h (strOf_inj ha hb e))
theorem bytesOf_inj {s t : ByteArray} (h : bytesOf s = bytesOf t) : s = t := by rw [← strOf_bytesOf s, ← strOf_bytesOf t, h]
theorem part_eq (p q : S60) (h0 : p.f0 = q.f0) (h1 : p.f1 = q.f1) (h2 : p.f2 = q.f2) : p = q := by
  obtain ⟨p0, p1, p2⟩ := p
  obtain ⟨q0, q1, q2⟩ := q
  simp only at h0 h1 h2
  subst h0; subst h1; subst h2; rfl
theorem sameP_l (a b : List S60) (hl : a.length = b.length) (hs : a.length ≤ 1048576) : ∀ (r : List S60) (i k : Nat), a.drop i = r →
    ladingref03_SameParts.l0 (k + r.length + 1) a b (a.length : Int) (i : Int) = some (decide (r = b.drop i)) := by
  intro r
  induction r with
  | nil =>
    intro i k hd
    have := drop60_nil hd
    rw [ladingref03_SameParts.l0, if_neg (by omega), List.drop_eq_nil_of_le (by omega), decide_eq_true rfl]
  | cons e r ih =>
    intro i k hd
    obtain ⟨h1, h2, h3, h4⟩ := drop60 hd
    have hbi : i < b.length := by omega
    rw [List.length_cons, show k + (r.length + 1) + 1 = (k + r.length + 1) + 1 by omega, ladingref03_SameParts.l0, if_pos (by omega), if_pos (by omega), if_pos (by omega), if_pos (by omega), h2, rd60_at b i hbi, List.drop_eq_getElem_cons hbi]
    by_cases g : e = b[i]
    · rw [← g, if_neg (by simp), w64 (by omega) (by omega), show (i : Int) + 1 = ((i + 1 : Nat) : Int) by omega, ih (i + 1) k h3]
      congr 1
      by_cases g2 : r = b.drop (i + 1)
      · rw [decide_eq_true g2, decide_eq_true (by rw [g2])]
      · rw [decide_eq_false g2, decide_eq_false (fun h => g2 (List.cons.inj h).2)]
    · rw [decide_eq_false (fun h => g (List.cons.inj h).1), if_pos]
      by_cases c0 : e.f0 = b[i].f0
      · by_cases c1 : e.f1 = b[i].f1
        · have c2 : e.f2.toList ≠ b[i].f2.toList := fun h => g (part_eq _ _ c0 c1 (by
            rw [Lib.toList_data, Lib.toList_data] at h
            exact bytesOf_inj (by unfold bytesOf; rw [h])))
          simp [c2]
        · simp [c1]
      · simp [c0]
theorem sameP_is (k : Nat) (a b : List S60) (hs : a.length ≤ 1048576) (hk : a.length + 1 ≤ k) : ladingref03_SameParts.f k a b = some (decide (a = b)) := by
  obtain ⟨d, rfl⟩ : ∃ d, k = d + a.length + 1 := ⟨k - a.length - 1, by omega⟩
  unfold ladingref03_SameParts.f
  by_cases h : a.length = b.length
  · rw [if_pos (by omega)]; exact sameP_l a b h hs a 0 d rfl
  · rw [if_neg (by omega), decide_eq_false (fun e => h (by rw [e]))]
end Go.Proofs.YtfpdipnaefomiaaDoor.Pure
set_option linter.unusedVariables false
namespace Go.Proofs.YtfpdipnaefomiaaDoor.Pure
open Go.RowKit Go.Proofs.YtfpdipnaefomiaaDoor.Print Go.Proofs.YtfpdipnaefomiaaDoorW.PrintWords Go.Proofs.YtfpdipnaefomiaaDoorW.PrintLast Go.Proofs.YtfpdipnaefomiaaDoorW.PrintMore
def rt : List Int → List Int → Option (List Int × List Int)
  | _, [] => none
  | _, [_] => none
  | s, x :: y :: l => if x = 0 then (if y = 1 then some (s, l) else if y = 255 then rt (s ++ [0]) l else none) else rt (s ++ [x]) (y :: l)
def nb (acc : Nat) (b : List Int) : Nat := b.foldl (fun n x => n * 256 + x.toNat) acc
def rp : List Int → Option (S60 × List Int)
  | [] => none
  | x :: d => if x = 1 then (if 8 ≤ d.length then some (⟨1, (nb 0 (d.take 8) : Nat), ⟨#[]⟩⟩, d.drop 8) else none) else if x = 2 then (rt [] d).map (fun t => (⟨2, 0, strOfNums t.1⟩, t.2)) else none
def rk : Nat → List Int → List S60 → Option (List S60)
  | 0, _, _ => none
  | n + 1, l, ps => if l = [] then some ps else (rp l).bind fun t => rk n t.2 (ps ++ [t.1])
def rkOut : Option (List S60) → List S60 × Int
  | none => ([], 6)
  | some ps => if 16 < ps.length then ([], 3) else (ps, 0)
def partsIn (l : List Int) : List S60 × Int := if l.length > 256 then ([], 4) else rkOut (rk (l.length + 1) l [])
theorem rt_app : ∀ (s l x r : List Int), rt s l = some (x, r) → ∃ q, q ≠ [] ∧ l = q ++ r
  | s, [], x, r, h => by simp [rt] at h
  | s, [_], x, r, h => by simp [rt] at h
  | s, x :: y :: l, z, r, h => by
    rw [rt] at h
    by_cases h1 : x = 0
    · rw [if_pos h1] at h
      by_cases h2 : y = 1
      · rw [if_pos h2] at h
        simp only [Option.some.injEq, Prod.mk.injEq] at h
        exact ⟨[x, y], by simp, by rw [h.2]; rfl⟩
      · rw [if_neg h2] at h
        by_cases h3 : y = 255
        · rw [if_pos h3] at h
          obtain ⟨q, _, hq⟩ := rt_app _ _ _ _ h
          exact ⟨x :: y :: q, by simp, by rw [hq]; rfl⟩
        · rw [if_neg h3] at h; cases h
    · rw [if_neg h1] at h
      obtain ⟨q, _, hq⟩ := rt_app _ _ _ _ h
      exact ⟨x :: q, by simp, by rw [hq]; rfl⟩
theorem rp_app (l : List Int) (p : S60) (r : List Int) (h : rp l = some (p, r)) : ∃ q, q ≠ [] ∧ l = q ++ r := by
  cases l with
  | nil => simp [rp] at h
  | cons x d =>
    rw [rp] at h
    by_cases h1 : x = 1
    · rw [if_pos h1] at h
      by_cases h2 : 8 ≤ d.length
      · rw [if_pos h2] at h
        simp only [Option.some.injEq, Prod.mk.injEq] at h
        exact ⟨x :: d.take 8, by simp, by rw [← h.2, List.cons_append, List.take_append_drop]⟩
      · rw [if_neg h2] at h; cases h
    · rw [if_neg h1] at h
      by_cases h2 : x = 2
      · rw [if_pos h2] at h
        obtain ⟨⟨s, r2⟩, hs, he⟩ := Option.map_eq_some_iff.1 h
        simp only [Prod.mk.injEq] at he
        obtain ⟨q, _, hq⟩ := rt_app _ _ _ _ hs
        exact ⟨x :: q, by simp, by rw [hq, ← he.2]; rfl⟩
      · rw [if_neg h2] at h; cases h
theorem rp_len (l : List Int) (p : S60) (r : List Int) (h : rp l = some (p, r)) : r.length < l.length ∧ l.drop (l.length - r.length) = r := by
  obtain ⟨q, hq, rfl⟩ := rp_app l p r h
  have : 0 < q.length := List.length_pos_iff.2 hq
  refine ⟨by rw [List.length_append]; omega, ?_⟩
  rw [List.length_append, Nat.add_sub_cancel, List.drop_left']
  rfl
theorem rp_bytes (l : List Int) (p : S60) (r : List Int) (h : rp l = some (p, r)) (hb : BytesL l) : BytesL r := by
  obtain ⟨q, _, rfl⟩ := rp_app l p r h
  exact fun x hx => hb x (List.mem_append_right _ hx)
theorem or_256 (a y : Nat) (h : a * 256 + y < 18446744073709551616) (hy : y < 256) : bits .or .u64 (IntKind.u64.wrap ((a : Int) * 256)) (IntKind.u64.wrap (y : Int)) = ((a * 256 + y : Nat) : Int) := by
  have h1 : a * 256 < 18446744073709551616 := Nat.lt_of_le_of_lt (Nat.le_add_right _ _) h
  have h2 : y < 18446744073709551616 := Nat.lt_trans hy (by decide)
  have e : (a * 256) ||| y = a * 256 + y := by
    have := Nat.two_pow_add_eq_or_of_lt (i := 8) (b := y) (by omega) a
    rw [show 2 ^ 8 * a = a * 256 by omega] at this
    exact this.symm
  rw [u64 (by omega) (by omega), u64 (by omega) (by omega), show (a : Int) * 256 = ((a * 256 : Nat) : Int) by omega, bits_or_u64_nat (a * 256) y h1 h2, e]
theorem nb_bound (a y n : Nat) (hy : y < 256) (h : (a + 1) * 256 ^ (n + 1) ≤ 18446744073709551616) : (a * 256 + y + 1) * 256 ^ n ≤ 18446744073709551616 := by
  refine Nat.le_trans ?_ h
  rw [Nat.pow_succ, Nat.mul_comm (256 ^ n) 256, ← Nat.mul_assoc]
  exact Nat.mul_le_mul_right _ (by omega)
theorem nb_lt (a n : Nat) (h : (a + 1) * 256 ^ n ≤ 18446744073709551616) : a < 18446744073709551616 := by
  have h1 : 1 ≤ 256 ^ n := Nat.pow_pos (by omega)
  have := Nat.mul_le_mul_left (a + 1) h1
  omega
theorem number_l (b : List Int) (hb : BytesL b) (hl : b.length ≤ 1000) : ∀ (r : List Int) (i k acc : Nat), b.drop i = r → (acc + 1) * 256 ^ r.length ≤ 18446744073709551616 →
    codec_number.l0 (k + r.length + 1) (acc : Int) b (b.length : Int) (i : Int) = some ((nb acc r : Nat) : Int) := by
  intro r
  induction r with
  | nil =>
    intro i k acc hd ha
    have : b.length ≤ i := by
      rcases Nat.lt_or_ge i b.length with h1 | h1
      · rw [List.drop_eq_getElem_cons h1] at hd; cases hd
      · exact h1
    rw [codec_number.l0, if_neg (by omega)]; rfl
  | cons x r ih =>
    intro i k acc hd ha
    obtain ⟨h1, h2, h3, h4⟩ := drop_cons hd
    obtain ⟨y, rfl⟩ := Int.eq_ofNat_of_zero_le (hb x h4).1
    have hy : y < 256 := by have := (hb _ h4).2; omega
    have hb2 := nb_bound acc y r.length hy ha
    have hlt := nb_lt _ _ hb2
    rw [show k + ((y : Int) :: r).length + 1 = (k + r.length + 1) + 1 by rw [List.length_cons]; omega]
    rw [codec_number.l0, if_pos (by omega), if_pos (by omega), if_pos (by omega), h2, or_256 acc y (by omega) hy, w64 (by omega) (by omega), show (i : Int) + 1 = ((i + 1 : Nat) : Int) by omega]
    exact ih (i + 1) k _ h3 hb2
theorem number_is (k : Nat) (b : List Int) (hb : BytesL b) (hl : b.length = 8) (hk : 9 ≤ k) : codec_number.f k b = some ((nb 0 b : Nat) : Int) := by
  unfold codec_number.f
  obtain ⟨d, rfl⟩ : ∃ d, k = d + b.length + 1 := ⟨k - 9, by omega⟩
  exact number_l b hb (by omega) b 0 d 0 rfl (by rw [hl]; decide)
theorem take_nil : codec_cursor_take.f [] 0 1 = some ([], [], 6) := (take_is [] 1 (by simp)).trans rfl
theorem take_one (x : Int) (d : List Int) (hl : d.length < 100000) : codec_cursor_take.f (x :: d) 0 1 = some ([x], d, 0) := by
  refine (take_is (x :: d) 1 (by simp; omega)).trans ?_
  rw [if_neg (by simp)]; rfl
def wRes (ps : List S60) : Option (List Int × List Int) → Option (List Int × Int × List S60) → Prop
  | some t, o => o = some (t.2, 0, ps ++ [⟨2, 0, strOfNums t.1⟩])
  | none, o => ∃ l, o = some (l, 6, ps)
theorem words_stop (m : Nat) (l s : List Int) (ps : List S60) : codec_ReadKey_words.f (m + 1) l 6 s ps = some (l, 6, ps) := by
  rw [codec_ReadKey_words.f, if_neg (by decide)]
theorem words_nil (m : Nat) (s : List Int) (ps : List S60) : codec_ReadKey_words.f (m + 1) [] 0 s ps = some ([], 6, ps) := by
  rw [codec_ReadKey_words.f, if_pos rfl, take_nil, some_bind]
  exact if_neg (by decide)
theorem words_is : ∀ (n : Nat) (l s : List Int) (ps : List S60) (m : Nat), l.length ≤ n → l.length + 2 ≤ m → s.length + l.length < 100000 → ps.length < 100000 → wRes ps (rt s l) (codec_ReadKey_words.f m l 0 s ps) := by
  intro n
  induction n with
  | zero =>
    intro l s ps m hn hm hs hp
    obtain rfl : l = [] := List.length_eq_zero_iff.1 (by omega)
    obtain ⟨m, rfl⟩ : ∃ q, m = q + 1 := ⟨m - 1, by simp at hm; omega⟩
    rw [words_nil, rt]
    exact ⟨_, rfl⟩
  | succ n ih =>
    intro l s ps m hn hm hs hp
    obtain ⟨m, rfl⟩ : ∃ q, m = q + 1 := ⟨m - 1, by omega⟩
    cases l with
    | nil => rw [words_nil, rt]; exact ⟨_, rfl⟩
    | cons x d =>
      rw [List.length_cons] at hn hm hs
      obtain ⟨m, rfl⟩ : ∃ q, m = q + 1 := ⟨m - 1, by omega⟩
      rw [codec_ReadKey_words.f, if_pos rfl, take_one x d (by omega), some_bind]
      simp only [List.length_singleton]
      rw [if_pos trivial, if_pos ⟨by omega, by omega, by omega⟩, show rd [x] 0 = x from rfl]
      cases d with
      | nil =>
        rw [rt]
        by_cases hx : x = 0
        · rw [if_neg (fun h : x ≠ 0 => h hx), take_nil, some_bind]
          simp only
          rw [if_neg (by decide), words_stop]; exact ⟨_, rfl⟩
        · rw [if_pos hx, words_nil]; exact ⟨_, rfl⟩
      | cons y l =>
        rw [rt]
        by_cases hx : x = 0
        · rw [if_neg (fun h : x ≠ 0 => h hx), if_pos hx, take_one y l (by simp at hs; omega), some_bind]
          simp only [List.length_singleton]
          rw [if_pos trivial, if_pos (show (0 : Nat) < 1 by decide), show rd [y] 0 = y from rfl]
          by_cases h1 : y = 1
          · rw [if_pos h1, if_pos h1]; exact rfl
          · rw [if_neg h1, if_neg h1]
            by_cases h2 : y = 255
            · rw [if_pos h2, if_pos h2]
              simp only [List.length_cons] at hn hm hs
              exact ih l (s ++ [0]) ps (m + 1) (by omega) (by omega) (by simp; omega) hp
            · rw [if_neg h2, if_neg h2, fail_is, some_bind]
              simp only
              rw [words_stop]; exact ⟨_, rfl⟩
        · rw [if_pos hx, if_neg hx]
          exact ih (y :: l) (s ++ [x]) ps (m + 1) (by omega) (by omega) (by simp at hs ⊢; omega) hp
theorem digits_is (k : Nat) (d : List Int) (ps : List S60) (hk : 9 ≤ k) (hb : BytesL d) (hl : d.length < 100000) (hp : ps.length < 100000) :
    codec_ReadKey_digits.f k d 0 ps = some (if 8 ≤ d.length then (d.drop 8, 0, ps ++ [⟨1, (nb 0 (d.take 8) : Nat), ⟨#[]⟩⟩]) else (d, 6, ps)) := by
  unfold codec_ReadKey_digits.f
  rw [show (8 : Int) = ((8 : Nat) : Int) from rfl, take_is d 8 (by omega)]
  by_cases h : 8 ≤ d.length
  · rw [if_neg (show ¬ 8 > d.length by omega), if_pos h, some_bind]
    simp only
    rw [if_pos trivial, number_is k (d.take 8) (fun x hx => hb x (List.mem_of_mem_take hx)) (by rw [List.length_take]; omega) hk, some_bind, if_pos (by omega)]
  · rw [if_pos (show 8 > d.length by omega), if_neg h, some_bind]
    simp only
    rw [if_neg (by decide)]
theorem g_stop (k m : Nat) (l : List Int) (ps : List S60) : (codec_ReadKey.g k (m + 1) l 6 ps).bind codec_ReadKey.h = some ([], 6) := by
  rw [codec_ReadKey.g, if_neg (fun h => absurd h.2 (by decide)), some_bind]
  unfold codec_ReadKey.h
  exact if_neg (show ¬ (6 : Int) = 0 by decide)
theorem g_is (k : Nat) (hk : 300 ≤ k) : ∀ (n m : Nat) (l : List Int) (ps : List S60), l.length < n → l.length + 2 ≤ m → BytesL l → l.length ≤ 256 → ps.length + l.length < 10000 → (codec_ReadKey.g k m l 0 ps).bind codec_ReadKey.h = some (rkOut (rk n l ps)) := by
  intro n
  induction n with
  | zero => intro m l ps h; omega
  | succ n ih =>
    intro m l ps hn hm hb hl hp
    obtain ⟨m, rfl⟩ : ∃ q, m = q + 1 := ⟨m - 1, by omega⟩
    cases l with
    | nil =>
      rw [codec_ReadKey.g, if_neg (by simp), some_bind, rk, if_pos rfl]
      unfold codec_ReadKey.h rkOut
      simp only
      rw [if_pos trivial]
      split <;> rfl
    | cons x d =>
      rw [List.length_cons] at hn hm hl hp
      have hbd : BytesL d := fun y hy => hb y (List.mem_cons_of_mem _ hy)
      rw [codec_ReadKey.g, if_pos ⟨by simp, rfl⟩, take_one x d (by omega), some_bind]
      simp only [List.length_singleton]
      rw [if_pos (by omega), show rd [x] 0 = x from rfl, rk, if_neg (show ¬ (x :: d = []) by simp), rp]
      obtain ⟨m, rfl⟩ : ∃ q, m = q + 1 := ⟨m - 1, by omega⟩
      by_cases h1 : x = 1
      · rw [if_pos h1, if_pos h1, digits_is k d ps (by omega) hbd (by omega) (by omega), some_bind]
        by_cases h8 : 8 ≤ d.length
        · rw [if_pos h8, if_pos h8, some_bind]
          exact ih (m + 1) (d.drop 8) _ (by rw [List.length_drop]; omega) (by rw [List.length_drop]; omega) (fun y hy => hbd y (List.mem_of_mem_drop hy)) (by rw [List.length_drop]; omega) (by rw [List.length_drop, List.length_append, List.length_singleton]; omega)
        · rw [if_neg h8, if_neg h8, Option.bind_none]
          exact g_stop _ _ _ _
      · rw [if_neg h1, if_neg h1]
        by_cases h2 : x = 2
        · rw [if_pos h2, if_pos h2]
          have hw := words_is d.length d [] ps k (Nat.le_refl _) (by omega) (by simp; omega) (by omega)
          cases hr : rt [] d with
          | none =>
            rw [hr] at hw
            obtain ⟨l', hw⟩ := hw
            rw [hw, some_bind, Option.map_none, Option.bind_none]
            exact g_stop _ _ _ _
          | some t =>
            obtain ⟨s, r⟩ := t
            rw [hr] at hw
            have hw2 : codec_ReadKey_words.f k d 0 [] ps = some (r, 0, ps ++ [⟨2, 0, strOfNums s⟩]) := hw
            obtain ⟨q, hq, rfl⟩ := rt_app _ _ _ _ hr
            rw [List.length_append] at hn hm hl hp
            have hq0 := List.length_pos_iff.2 hq
            rw [hw2, some_bind, Option.map_some, some_bind]
            exact ih (m + 1) r _ (by omega) (by omega) (fun y hy => hbd y (List.mem_append_right _ hy)) (by omega) (by rw [List.length_append, List.length_singleton]; omega)
        · rw [if_neg h2, if_neg h2, fail_is, some_bind, Option.bind_none]
          exact g_stop _ _ _ _
theorem readKey_is (k : Nat) (l : List Int) (hk : 300 ≤ k) (hb : BytesL l) : codec_ReadKey.f k l = some (partsIn l) := by
  unfold codec_ReadKey.f partsIn
  by_cases h : l.length > 256
  · rw [if_pos h, if_pos h]
  · rw [if_neg h, if_neg h]
    exact g_is k hk _ _ l [] (by omega) (by omega) hb (by omega) (by simp; omega)
def pOut (l : List Int) : Option (S60 × List Int) → Int × Int × ByteArray × Int
  | none => (0, 0, ⟨#[]⟩, 0)
  | some t => (t.1.f0, t.1.f1, t.1.f2, ((l.length - t.2.length : Nat) : Int))
theorem refNum8 (l : List Int) (hb : BytesL l) (h9 : 9 ≤ l.length) : ∀ (r : List Int) (i k acc : Nat), (l.take 9).drop i = r → (acc + 1) * 256 ^ r.length ≤ 18446744073709551616 →
    ladingref03_part.l0 (k + r.length + 1) l (acc : Int) (i : Int) = some (1, ((nb acc r : Nat) : Int), ⟨#[]⟩, 9) := by
  intro r
  induction r with
  | nil =>
    intro i k acc hd ha
    have : 9 ≤ i := by
      rcases Nat.lt_or_ge i 9 with h1 | h1
      · rw [List.drop_eq_getElem_cons (by rw [List.length_take]; omega)] at hd; cases hd
      · exact h1
    rw [ladingref03_part.l0, if_neg (by omega)]; rfl
  | cons x r ih =>
    intro i k acc hd ha
    obtain ⟨h1, h2, h3, h4⟩ := drop_cons hd
    rw [List.length_take] at h1
    have h5 : rd l (i : Int) = x := by
      rw [← h2, rd_at l i (by omega), rd_at (l.take 9) i (by rw [List.length_take]; omega), List.getElem_take]
    have hx := hb x (List.mem_of_mem_take h4)
    obtain ⟨y, rfl⟩ := Int.eq_ofNat_of_zero_le hx.1
    have hy : y < 256 := by omega
    have hb2 := nb_bound acc y r.length hy ha
    have hlt := nb_lt _ _ hb2
    rw [show k + ((y : Int) :: r).length + 1 = (k + r.length + 1) + 1 by rw [List.length_cons]; omega]
    rw [ladingref03_part.l0, if_pos (by omega), if_pos (by omega), if_pos (by omega), h5, u64 (x := (acc : Int) * 256) (by omega) (by omega), u64 (x := (y : Int)) (by omega) (by omega), u64 (by omega) (by omega), w64 (by omega) (by omega), show (i : Int) + 1 = ((i + 1 : Nat) : Int) by omega,
      show (acc : Int) * 256 + (y : Int) = ((acc * 256 + y : Nat) : Int) by omega]
    exact ih (i + 1) k _ h3 hb2
theorem refText_l (l : List Int) (hb : BytesL l) (hl : l.length ≤ 1000) : ∀ (n i k : Nat) (s : List Int), l.length - i ≤ n → 1 ≤ i → i ≤ 2000 → s.length ≤ i →
    ladingref03_part.l1 (k + n + 1) l s (i : Int) = some (match rt s (l.drop i) with | some t => (2, 0, strOfNums t.1, ((l.length - t.2.length : Nat) : Int)) | none => (0, 0, ⟨#[]⟩, 0)) := by
  intro n
  induction n with
  | zero =>
    intro i k s hn hi hi2 hs
    rw [List.drop_eq_nil_of_le (by omega), rt, ladingref03_part.l1, w64 (by omega) (by omega), if_neg (by omega)]
  | succ n ih =>
    intro i k s hn hi hi2 hs
    rw [show k + (n + 1) + 1 = (k + n + 1) + 1 by omega, ladingref03_part.l1, w64 (x := (i : Int) + 1) (by omega) (by omega)]
    cases hd : l.drop i with
    | nil =>
      have : l.length ≤ i := by
        rcases Nat.lt_or_ge i l.length with h1 | h1
        · rw [List.drop_eq_getElem_cons h1] at hd; cases hd
        · exact h1
      rw [rt, if_neg (by omega)]
    | cons x d =>
      obtain ⟨h1, h2, h3, h4⟩ := drop_cons hd
      cases d with
      | nil =>
        have : l.length ≤ i + 1 := by
          rcases Nat.lt_or_ge (i + 1) l.length with h1 | h1
          · rw [List.drop_eq_getElem_cons h1] at h3; cases h3
          · exact h1
        rw [rt, if_neg (by omega)]
      | cons y r =>
        obtain ⟨g1, g2, g3, g4⟩ := drop_cons h3
        rw [rt, if_pos (by omega), if_pos (by omega), if_pos (by omega), h2, show (i : Int) + 1 = ((i + 1 : Nat) : Int) by omega, g2]
        by_cases hx : x = 0
        · rw [if_pos hx, if_pos hx, if_pos (by omega)]
          by_cases hy : y = 1
          · rw [if_pos hy, if_pos hy]
            have e : r.length = l.length - (i + 1 + 1) := by rw [← g3, List.length_drop]
            simp only
            rw [show l.length - r.length = i + 2 by omega, w64 (by omega) (by omega)]
            rfl
          · rw [if_neg hy, if_neg hy]
            by_cases hz : y = 255
            · rw [if_pos hz, if_pos hz, if_pos (by omega), w64 (by omega) (by omega), show ((i + 1 : Nat) : Int) + 1 = ((i + 2 : Nat) : Int) by omega]
              have := ih (i + 2) k (s ++ [0]) (by omega) (by omega) (by omega) (by rw [List.length_append, List.length_singleton]; omega)
              rw [show l.drop (i + 2) = r from g3] at this
              exact this
            · rw [if_neg hz, if_neg hz]
        · rw [if_neg hx, if_neg hx, if_pos (by omega)]
          have := ih (i + 1) k (s ++ [x]) (by omega) (by omega) (by omega) (by rw [List.length_append, List.length_singleton]; omega)
          rw [h3] at this
          exact this
theorem part_is (k : Nat) (l : List Int) (hk : 400 ≤ k) (hb : BytesL l) (hl : l.length ≤ 256) : ladingref03_part.f k l = some (pOut l (rp l)) := by
  unfold ladingref03_part.f
  obtain ⟨k, rfl⟩ : ∃ q, k = q + 3 := ⟨k - 3, by omega⟩
  cases l with
  | nil =>
    rw [if_neg (by simp), ladingref03_part.j0, if_neg (by decide), if_pos (by simp), ladingref03_part.j2, if_pos rfl]; rfl
  | cons x d =>
    have hx := hb x (by simp)
    have hr : rd (x :: d) 0 = x := rfl
    have two : x ≠ 1 ∨ d.length < 8 → ladingref03_part.j0 (k + 3) (x :: d) false = some (pOut (x :: d) (rp (x :: d))) := fun hno => by
      rw [ladingref03_part.j0, if_neg (by decide), if_neg (by simp; omega), if_pos (by simp), hr, ladingref03_part.j2, rp]
      by_cases h2 : x = 2
      · rw [if_neg (by simp [h2]), if_neg (by omega), if_pos h2]
        have := refText_l (x :: d) hb (by omega) 300 1 (k - 300) [] (by omega) (by omega) (by omega) (by simp)
        rw [show k - 300 + 300 + 1 = k + 1 by omega] at this
        refine this.trans ?_
        rw [show (x :: d).drop 1 = d from rfl]
        cases rt [] d with
        | none => rfl
        | some t => rfl
      · rw [if_pos (by simp [h2])]
        by_cases h1 : x = 1
        · rw [if_pos h1, if_neg (by omega)]; rfl
        · rw [if_neg h1, if_neg h2]; rfl
    by_cases h9 : 9 ≤ (x :: d).length
    · rw [if_pos (by omega), if_pos (by simp), hr]
      by_cases h1 : x = 1
      · rw [List.length_cons] at h9
        rw [show (x == 1) = true from beq_iff_eq.2 h1, ladingref03_part.j0, if_pos rfl, rp, if_pos h1, if_pos (by omega)]
        have e : ((x :: d).take 9).drop 1 = d.take 8 := rfl
        have := refNum8 (x :: d) hb (by rw [List.length_cons]; omega) (d.take 8) 1 (k - 7) 0 e (by rw [List.length_take, Nat.min_eq_left (by omega)]; decide)
        rw [List.length_take, Nat.min_eq_left (by omega), show k - 7 + 8 + 1 = k + 2 by omega] at this
        refine this.trans ?_
        unfold pOut
        simp only [List.length_drop, List.length_cons]
        rw [show d.length + 1 - (d.length - 8) = 9 by omega]; rfl
      · rw [show (x == 1) = false from beq_eq_false_iff_ne.2 h1]
        exact two (.inl h1)
    · rw [if_neg (by omega)]
      exact two (.inr (by rw [List.length_cons] at h9; omega))
theorem refKeys_l : ∀ (n k : Nat) (l : List Int) (ps : List S60), l.length < n → n + 400 ≤ k → BytesL l → l.length ≤ 256 → ps.length + l.length < 10000 → ladingref03_ReadKey.l0 k l ps = some (rkOut (rk n l ps)) := by
  intro n
  induction n with
  | zero => intro k l ps h; omega
  | succ n ih =>
    intro k l ps hn hk hb hl hp
    obtain ⟨k, rfl⟩ : ∃ q, k = q + 1 := ⟨k - 1, by omega⟩
    rw [ladingref03_ReadKey.l0, rk]
    by_cases h0 : l = []
    · subst h0
      rw [if_neg (by simp), if_pos rfl]
      unfold rkOut
      simp only
      by_cases h16 : 16 < ps.length
      · rw [if_pos (by omega), if_pos h16]
      · rw [if_neg (by omega), if_neg h16]
    · have hpos := List.length_pos_iff.2 h0
      rw [if_pos (by omega), if_neg h0, part_is k l (by omega) hb hl, some_bind]
      cases hr : rp l with
      | none => exact if_pos rfl
      | some t =>
        obtain ⟨p, r⟩ := t
        obtain ⟨h1, h2⟩ := rp_len l p r hr
        rw [some_bind]
        unfold pOut
        simp only
        rw [if_neg (by omega), if_pos (by omega), if_pos (by omega), if_pos (by omega), Int.toNat_natCast, h2]
        exact ih k r _ (by omega) (by omega) (rp_bytes l p r hr hb) (by omega) (by rw [List.length_append, List.length_singleton]; omega)
theorem refReadKey_is (k : Nat) (l : List Int) (hk : 1000 ≤ k) (hb : BytesL l) : ladingref03_ReadKey.f k l = some (partsIn l) := by
  unfold ladingref03_ReadKey.f partsIn
  by_cases h : l.length > 256
  · rw [if_pos (by omega), if_pos h]
  · rw [if_neg (by omega), if_neg h]
    exact refKeys_l _ k l [] (by omega) (by omega) hb (by omega) (by simp; omega)
end Go.Proofs.YtfpdipnaefomiaaDoor.Pure
set_option linter.unusedVariables false
namespace Go.Proofs.YtfpdipnaefomiaaDoor.Pure
open Go.RowKit Go.Proofs.YtfpdipnaefomiaaDoor.Print Go.Proofs.YtfpdipnaefomiaaDoorW.PrintWords Go.Proofs.YtfpdipnaefomiaaDoorW.PrintLast Go.Proofs.YtfpdipnaefomiaaDoorW.PrintMore
theorem r2_step (k : Nat) (acc : List Int) (n i : Nat) (l : List S60) (c j f0 : Int) (s : ByteArray) (hi : i ≤ 7) (hl : acc.length < 140737488355328) :
    ladingref03_Key.l2 (k + 1) acc (i : Int) l c j f0 (n : Int) s = ladingref03_Key.l2 k (acc ++ [((n / 2 ^ (8 * i) % 256 : Nat) : Int)]) ((i : Int) - 1) l c j f0 (n : Int) s := by
  rw [ladingref03_Key.l2, if_pos (by omega), w64 (x := 8 * (i : Int)) (by omega) (by omega), u64 (x := 8 * (i : Int)) (by omega) (by omega), if_pos (by omega), if_pos hl, show 8 * (i : Int) = ((8 * i : Nat) : Int) by omega, shr_at n (8 * i) (by omega), w64 (by omega) (by omega)]
theorem r2_is (k : Nat) (acc : List Int) (n : Nat) (l : List S60) (c j f0 : Int) (s : ByteArray) (hl : acc.length < 100000000) :
    ladingref03_Key.l2 (k + 9) acc 7 l c j f0 (n : Int) s = ladingref03_Key.l1 k (acc ++ big8 n) l c (wrap64 (j + 1)) := by
  rw [show (7 : Int) = ((7 : Nat) : Int) from rfl, show k + 9 = k + 8 + 1 from rfl, r2_step _ _ n 7 l c j f0 s (by omega) (by omega)]
  rw [show ((7 : Nat) : Int) - 1 = ((6 : Nat) : Int) from rfl, show k + 8 = k + 7 + 1 from rfl, r2_step _ _ n 6 l c j f0 s (by omega) (by simp; omega)]
  rw [show ((6 : Nat) : Int) - 1 = ((5 : Nat) : Int) from rfl, show k + 7 = k + 6 + 1 from rfl, r2_step _ _ n 5 l c j f0 s (by omega) (by simp; omega)]
  rw [show ((5 : Nat) : Int) - 1 = ((4 : Nat) : Int) from rfl, show k + 6 = k + 5 + 1 from rfl, r2_step _ _ n 4 l c j f0 s (by omega) (by simp; omega)]
  rw [show ((4 : Nat) : Int) - 1 = ((3 : Nat) : Int) from rfl, show k + 5 = k + 4 + 1 from rfl, r2_step _ _ n 3 l c j f0 s (by omega) (by simp; omega)]
  rw [show ((3 : Nat) : Int) - 1 = ((2 : Nat) : Int) from rfl, show k + 4 = k + 3 + 1 from rfl, r2_step _ _ n 2 l c j f0 s (by omega) (by simp; omega)]
  rw [show ((2 : Nat) : Int) - 1 = ((1 : Nat) : Int) from rfl, show k + 3 = k + 2 + 1 from rfl, r2_step _ _ n 1 l c j f0 s (by omega) (by simp; omega)]
  rw [show ((1 : Nat) : Int) - 1 = ((0 : Nat) : Int) from rfl, show k + 2 = k + 1 + 1 from rfl, r2_step _ _ n 0 l c j f0 s (by omega) (by simp; omega)]
  rw [ladingref03_Key.l2, if_neg (by decide)]
  congr 1
  simp only [List.append_assoc, List.cons_append, List.nil_append]
  unfold big8
  simp only [Nat.mul_zero, Nat.pow_zero, Nat.div_one]
theorem r3_is (s : ByteArray) (hs : s.size ≤ 1048576) (l : List S60) (c j f0 f1 : Int) : ∀ (d : List Int) (i k : Nat) (acc : List Int), (bytesOf s).drop i = d → acc.length + 2 * d.length ≤ 100000000 →
    ladingref03_Key.l3 (k + d.length + 1) acc (i : Int) l c j f0 f1 s = if ((acc ++ esc d ++ [0, 1]).length : Int) > 256 then some ([], 4) else ladingref03_Key.l1 k (acc ++ esc d ++ [0, 1]) l c (wrap64 (j + 1)) := by
  intro d
  induction d with
  | nil =>
    intro i k acc hd ha
    have hle : s.size ≤ i := by
      rw [← bytesOf_length]
      rcases Nat.lt_or_ge i (bytesOf s).length with h1 | h1
      · rw [List.drop_eq_getElem_cons h1] at hd; cases hd
      · exact h1
    rw [ladingref03_Key.l3, if_neg (by omega), some_bind, if_pos (by simp at ha ⊢; omega), some_bind]
    rw [show esc [] = [] from rfl, List.append_nil]; rfl
  | cons x d ih =>
    intro i k acc hd ha
    obtain ⟨h1, h2, h3, h4⟩ := drop_cons hd
    rw [bytesOf_length] at h1
    rw [rd_bytesOf] at h2
    rw [List.length_cons] at ha
    rw [show k + (x :: d).length + 1 = (k + d.length + 1) + 1 by rw [List.length_cons]; omega]
    rw [ladingref03_Key.l3, if_pos (by omega), if_pos (by omega), if_pos (by omega), some_bind, h2, w64 (by omega) (by omega), show (i : Int) + 1 = ((i + 1 : Nat) : Int) by omega, esc_cons]
    by_cases hx : x = 0
    · rw [if_pos hx, if_pos hx, if_pos (by rw [List.length_append, List.length_singleton]; omega), ih (i + 1) k _ h3 (by simp only [List.length_append, List.length_singleton]; omega), hx]
      simp only [List.append_assoc, List.cons_append, List.nil_append]
    · rw [if_neg hx, if_neg hx, ih (i + 1) k _ h3 (by simp only [List.length_append, List.length_singleton]; omega)]
      simp only [List.append_assoc, List.cons_append, List.nil_append]
def PartsIn (l : List S60) : Prop := ∀ p ∈ l, (0 ≤ p.f0 ∧ p.f0 < 256) ∧ (0 ≤ p.f1 ∧ p.f1 < 18446744073709551616) ∧ p.f2.size ≤ 1048576
theorem r1_is (l : List S60) (hp : PartsIn l) (hg : ∀ p ∈ l, good p) (hl : l.length ≤ 16) : ∀ (r : List S60) (i k : Nat) (acc : List Int), l.drop i = r → acc.length + 9 * r.length ≤ 400 →
    ladingref03_Key.l1 (k + r.length * 1048600 + 1) acc l (l.length : Int) (i : Int) = some (if (acc ++ r.flatMap partBytes).length > 256 then ([], 4) else (acc ++ r.flatMap partBytes, 0)) := by
  intro r
  induction r with
  | nil =>
    intro i k acc hd ha
    have := drop60_nil hd
    rw [ladingref03_Key.l1, if_neg (by omega), List.flatMap_nil, List.append_nil]
    by_cases h : acc.length > 256
    · rw [if_pos (by omega), if_pos h]
    · rw [if_neg (by omega), if_neg h]
  | cons p r ih =>
    intro i k acc hd ha
    obtain ⟨h1, h2, h3, h4⟩ := drop60 hd
    have hpp := hp p h4
    rw [List.length_cons] at ha
    rw [ladingref03_Key.l1, if_pos (by omega), if_pos (by omega), if_pos (by omega), if_pos (by omega), some_bind, h2, List.flatMap_cons, ← List.append_assoc]
    have hi1 : (i : Int) + 1 = ((i + 1 : Nat) : Int) := by omega
    by_cases h : p.f0 = 1
    · obtain ⟨n, hn⟩ : ∃ n : Nat, p.f1 = n := ⟨p.f1.toNat, by omega⟩
      have e : acc ++ [p.f0] ++ big8 n = acc ++ partBytes p := by
        unfold partBytes; rw [if_pos h, h, hn, Int.toNat_natCast, List.append_assoc]; rfl
      obtain ⟨q, hq⟩ : ∃ q, k + (p :: r).length * 1048600 = (q + r.length * 1048600 + 1) + 9 := ⟨k + 1048590, by rw [List.length_cons]; omega⟩
      have hlen : (acc ++ partBytes p).length = acc.length + 9 := by rw [← e]; unfold big8; simp
      rw [if_pos h, hn, hq, r2_is _ _ n l _ _ _ _ (by rw [List.length_append, List.length_singleton]; omega), e, w64 (by omega) (by omega), hi1]
      exact ih (i + 1) q _ h3 (by rw [hlen]; omega)
    · have e : acc ++ [p.f0] ++ esc (bytesOf p.f2) ++ [0, 1] = acc ++ partBytes p := by
        unfold partBytes; rw [if_neg h]; simp
      have hsz := hpp.2.2
      obtain ⟨q, hq⟩ : ∃ q, k + (p :: r).length * 1048600 = (q + r.length * 1048600 + 1) + (bytesOf p.f2).length + 1 := ⟨k + 1048600 - 2 - p.f2.size, by rw [List.length_cons, bytesOf_length]; omega⟩
      have := r3_is p.f2 hsz l (l.length : Int) (i : Int) p.f0 p.f1 (bytesOf p.f2) 0 (q + r.length * 1048600 + 1) (acc ++ [p.f0]) rfl (by rw [List.length_append, List.length_singleton, bytesOf_length]; omega)
      rw [e] at this
      rw [if_neg h, hq]
      refine this.trans ?_
      by_cases g : (acc ++ partBytes p).length > 256
      · rw [if_pos (by omega), if_pos (by rw [List.length_append]; omega)]
      · rw [if_neg (by omega), w64 (by omega) (by omega), hi1]
        have hrl := congrArg List.length hd
        rw [List.length_drop, List.length_cons] at hrl
        exact ih (i + 1) q _ h3 (by omega)
theorem r0_is (l : List S60) (hp : PartsIn l) (hl : l.length ≤ 16) (K : Nat) (hK : 16 * 1048600 + 2 ≤ K) : ∀ (r : List S60) (i : Nat), l.drop i = r → (∀ j, j < i → ∀ h : j < l.length, good l[j]) →
    ladingref03_Key.l0 (K + r.length) l l (l.length : Int) (i : Int) = some (if ∀ p ∈ l, good p then (if (l.flatMap partBytes).length > 256 then ([], 4) else (l.flatMap partBytes, 0)) else ([], 15)) := by
  intro r
  induction r with
  | nil =>
    intro i hd hb
    have hi := drop60_nil hd
    have hall : ∀ p ∈ l, good p := fun p hp => by
      obtain ⟨j, hj, rfl⟩ := List.getElem_of_mem hp
      exact hb j (by omega) hj
    obtain ⟨q, hq⟩ : ∃ q, K = (q + l.length * 1048600 + 1) + 1 := ⟨K - l.length * 1048600 - 2, by omega⟩
    rw [show K + ([] : List S60).length = K from rfl, hq, ladingref03_Key.l0, if_neg (by omega), if_pos hall]
    exact r1_is l hp hall hl l 0 q [] rfl (by simp; omega)
  | cons p r ih =>
    intro i hd hb
    obtain ⟨h1, h2, h3, h4⟩ := drop60 hd
    rw [show K + (p :: r).length = (K + r.length) + 1 by rw [List.length_cons]; omega]
    rw [ladingref03_Key.l0, if_pos (by omega), if_pos (by omega), if_pos (by omega), h2, w64 (by omega) (by omega)]
    have hp0 : l[i] = p := by rw [← rd60_at l i h1, h2]
    have hi1 : (i : Int) + 1 = ((i + 1 : Nat) : Int) := by omega
    have next : good p → ladingref03_Key.l0 (K + r.length) l l (l.length : Int) ((i : Int) + 1) = some (if ∀ p ∈ l, good p then (if (l.flatMap partBytes).length > 256 then ([], 4) else (l.flatMap partBytes, 0)) else ([], 15)) := fun hg => by
      rw [hi1]
      refine ih (i + 1) h3 (fun j hj hjl => ?_)
      rcases Nat.lt_or_ge j i with h | h
      · exact hb j h hjl
      · have : j = i := by omega
        subst this; rw [hp0]; exact hg
    have no : ¬ good p → some (([] : List Int), (15 : Int)) = some (if ∀ p ∈ l, good p then (if (l.flatMap partBytes).length > 256 then ([], 4) else (l.flatMap partBytes, 0)) else ([], 15)) := fun hn => by
      rw [if_neg (fun hall => hn (hall p h4))]
    have em : p.f2.toList = [] ↔ p.f2 = ⟨#[]⟩ := by rw [← empty_iff, List.isEmpty_iff]
    by_cases c1 : p.f0 = 1
    · rw [if_pos c1]
      by_cases c2 : p.f2.toList = []
      · rw [if_pos c2, if_neg (by omega)]
        exact next (.inl ⟨c1, em.1 c2⟩)
      · rw [if_neg c2]
        exact no (fun h => by
          rcases h with h | h
          · exact c2 (em.2 h.2)
          · omega)
    · rw [if_neg c1]
      by_cases c2 : p.f0 = 2
      · rw [if_pos c2]
        by_cases c3 : p.f1 = 0
        · rw [if_pos c3]; exact next (.inr ⟨c2, c3⟩)
        · rw [if_neg c3]
          exact no (fun h => by
            rcases h with h | h
            · exact c1 h.1
            · exact c3 h.2)
      · rw [if_neg c2]
        exact no (fun h => by
          rcases h with h | h
          · exact c1 h.1
          · exact c2 h.1)
theorem refKey_is (k : Nat) (l : List S60) (hk : 20000000 ≤ k) (hp : PartsIn l) : ladingref03_Key.f k l = some (keyOf l) := by
  unfold ladingref03_Key.f
  rw [keyOf_is]
  by_cases h : l.length > 16
  · rw [if_pos (by omega), if_pos h]
  · rw [if_neg (by omega), if_neg h]
    obtain ⟨K, rfl⟩ : ∃ K, k = K + l.length := ⟨k - l.length, by omega⟩
    exact r0_is l hp (by omega) K (by omega) l 0 rfl (fun j hj => by omega)
end Go.Proofs.YtfpdipnaefomiaaDoor.Pure
set_option linter.unusedVariables false
namespace Go.Proofs.YtfpdipnaefomiaaDoor.Pure
open Go.RowKit Go.Proofs.YtfpdipnaefomiaaDoor.Print Go.Proofs.YtfpdipnaefomiaaDoorW.PrintWords Go.Proofs.YtfpdipnaefomiaaDoorW.PrintLast Go.Proofs.YtfpdipnaefomiaaDoorW.PrintMore
theorem partsIn_len (l : List Int) : (partsIn l).1.length ≤ 16 := by
  unfold partsIn
  by_cases h : l.length > 256
  · rw [if_pos h]; simp
  · rw [if_neg h]
    unfold rkOut
    cases rk (l.length + 1) l [] with
    | none => simp
    | some ps =>
      simp only
      split <;> simp
      omega
theorem CodecKeysUpto : ∀ (l0 : List (S60)) (l1 : List Int), (l0.length ≤ 1048576 ∧ ∀ y3 ∈ l0, ((Lit.int .u8 y3.f0).wf = true ∧ (Lit.int .u64 y3.f1).wf = true ∧ y3.f2.size ≤ 1048576)) → (l1.length ≤ 1048576 ∧ ∀ y3 ∈ l1, (Lit.int .u8 y3).wf = true) → ∃ k, ladinglaw03_CodecKeys.f k l0 l1 = some true := by
  intro l b ⟨hl, hp⟩ ⟨hbl, hbb⟩
  have hb : BytesL b := fun x hx => wf_u8 (hbb x hx)
  have ok : PartsIn l := fun p h => ⟨wf_u8 (hp p h).1, wf_u64 (hp p h).2.1, (hp p h).2.2⟩
  have ok2 : PartsOk l := fun p h => ⟨(ok p h).1, (ok p h).2.1, by have := (ok p h).2.2; omega⟩
  obtain ⟨K, hK⟩ : ∃ K, K = 20000000 := ⟨_, rfl⟩
  refine ⟨K, ?_⟩
  have same : ladingref03_Same.f (keyOf l).1 (keyOf l).1 = some true := by
    have hbx : BytesL (keyOf l).1 := by
      rcases key_cases l with ⟨c, _, h⟩ | ⟨_, h2, _, h⟩
      · rw [h]; intro x hx; simp at hx
      · rw [h]; exact key_bytes l h2
    rw [same_is _ _ hbx hbx, decide_eq_true rfl]
  have hlen := partsIn_len b
  unfold ladinglaw03_CodecKeys.f
  rw [key_is K l (by omega) ok2, some_bind, refKey_is K l (by omega) ok, some_bind, readKey_is K b (by omega) hb, some_bind, refReadKey_is K b (by omega) hb, some_bind, lives_is K (by omega), some_bind, if_pos rfl, same, some_bind, if_pos rfl, if_pos rfl,
    sameP_is K _ _ (by omega) (by omega), some_bind, if_pos (decide_eq_true rfl), beq_self_eq_true]
end Go.Proofs.YtfpdipnaefomiaaDoor.Pure
