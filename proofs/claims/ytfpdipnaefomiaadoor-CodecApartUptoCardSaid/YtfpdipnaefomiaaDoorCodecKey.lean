/- Plain: what parts are written as. -/
import Derived.Test.YtfpdipnaefomiaaDoorPrint3
import Derived.Test.YtfpdipnaefomiaaDoorCodecBackMath
import Derived.Lib.Replace
import Derived.Lib.ReplaceLaws
set_option linter.unusedVariables false
namespace Go.Proofs.YtfpdipnaefomiaaDoor.Pure
open Go.RowKit Go.Proofs.YtfpdipnaefomiaaDoor.Print Go.Proofs.YtfpdipnaefomiaaDoorW.PrintWords Go.Proofs.YtfpdipnaefomiaaDoorW.PrintLast Go.Proofs.YtfpdipnaefomiaaDoorW.PrintMore

def esc8 (b : UInt8) : List UInt8 := if b = 0 then [0, 255] else [b]
theorem replaceK_esc : ∀ s : List UInt8, Lib.replaceK [0] [0, 255] (Lib.count s [0]) s = s.flatMap esc8
  | [] => by simp [Lib.count_one, Lib.replaceK]
  | b :: l => by
    have ih := replaceK_esc l
    by_cases h : b = 0
    · subst h
      rw [Lib.count_cons_eq, Nat.add_comm, Lib.replaceK_hit [0] [0, 255] (Lib.count l [0]) (0 :: l) 0 (by simp [Lib.index, List.isPrefixOf])]
      simp only [List.take_zero, List.nil_append, List.length_singleton, Nat.zero_add, List.drop_succ_cons, List.drop_zero]
      rw [ih, List.flatMap_cons]; rfl
    · rw [Lib.count_cons_ne b 0 l h, List.flatMap_cons, ← ih]
      have e : esc8 b = [b] := by unfold esc8; rw [if_neg h]
      rw [e]
      cases hc : Lib.count l [0] with
      | zero => rfl
      | succ k =>
        obtain ⟨i, hi⟩ := Lib.index_of_count (s := l) (old := [0]) (by omega)
        have hi2 : Lib.index (b :: l) [0] = ((i + 1 : Nat) : Int) := by
          have h0 : (List.isPrefixOf [0] (b :: l)) = false := by simp [List.isPrefixOf, show ¬ (0 : UInt8) = b from fun e => h e.symm]
          rw [Lib.index, h0, hi]
          have : ((i : Int) == -1) = false := by simp
          simp [this]
        rw [Lib.replaceK_hit _ _ k _ (i + 1) hi2, Lib.replaceK_hit _ _ k _ i hi]
        simp [List.take_succ_cons, List.drop_succ_cons]
theorem replaceAll_esc (s : List UInt8) : Lib.replaceAll s [0] [0, 255] = s.flatMap esc8 := by
  unfold Lib.replaceAll Lib.replace
  rw [if_neg (by decide)]
  unfold Lib.replaceNum
  rw [if_pos (.inl (by decide)), replaceK_esc]
/-- A text's bytes in a key: a nought is told apart. -/
def esc (l : List Int) : List Int := l.flatMap fun x => if x = 0 then [0, 255] else [x]
theorem esc_cons (x : Int) (l : List Int) : esc (x :: l) = (if x = 0 then [0, 255] else [x]) ++ esc l := by unfold esc; rw [List.flatMap_cons]
theorem esc_len (l : List Int) : l.length ≤ (esc l).length ∧ (esc l).length ≤ 2 * l.length := by
  induction l with
  | nil => simp [esc]
  | cons x l ih =>
    rw [esc_cons, List.length_append, List.length_cons]
    split <;> simp only [List.length_cons, List.length_nil] <;> omega
theorem esc_strs (s : ByteArray) : bytesOf (⟨(s.data.toList.flatMap esc8).toArray⟩ : ByteArray) = esc (bytesOf s) := by
  unfold bytesOf esc
  show (s.data.toList.flatMap esc8).map _ = _
  induction s.data.toList with
  | nil => rfl
  | cons b l ih =>
    rw [List.flatMap_cons, List.map_append, ih, List.map_cons, List.flatMap_cons]
    congr 1
    unfold esc8
    by_cases h : b = 0
    · subst h; rfl
    · have h2 : ¬ ((b.toNat : Int)) = 0 := by
        intro h2
        have h3 : b.toNat = 0 := by omega
        exact h (UInt8.toNat_inj.1 (h3.trans rfl))
      rw [if_neg h, if_neg h2]; rfl
theorem countB_size (s : ByteArray) : Lib.countB s ⟨#[0]⟩ ≤ s.size := Lib.countB_le ⟨#[0]⟩ (by decide) s.size s (Nat.le_refl _)
theorem repl_is (s : ByteArray) (h : s.size < 4294967281) : strings_ReplaceAll.f s (⟨#[0]⟩ : ByteArray) (⟨#[0, 255]⟩ : ByteArray) = some ⟨(s.data.toList.flatMap esc8).toArray⟩ := by
  unfold strings_ReplaceAll.f
  have := countB_size s
  rw [if_pos ⟨h, by decide, by show s.size + Lib.countB s ⟨#[0]⟩ * 2 ≤ _; omega⟩]
  rw [show (⟨#[0]⟩ : ByteArray).data.toList = [0] from rfl, show (⟨#[0, 255]⟩ : ByteArray).data.toList = [0, 255] from rfl, replaceAll_esc]
/-- A number's eight bytes, the highest one first. -/
def big8 (n : Nat) : List Int := [((n / 2 ^ 56 % 256 : Nat) : Int), ((n / 2 ^ 48 % 256 : Nat) : Int), ((n / 2 ^ 40 % 256 : Nat) : Int), ((n / 2 ^ 32 % 256 : Nat) : Int), ((n / 2 ^ 24 % 256 : Nat) : Int), ((n / 2 ^ 16 % 256 : Nat) : Int), ((n / 2 ^ 8 % 256 : Nat) : Int), ((n % 256 : Nat) : Int)]
theorem shr_at (n i : Nat) (hi : i ≤ 64) : shr .u64 (n : Int) (i : Int) % 256 = ((n / 2 ^ i % 256 : Nat) : Int) := by
  unfold shr
  rw [Int.toNat_natCast, Nat.min_eq_left (show i ≤ IntKind.bits .u64 by show i ≤ 64; omega)]
  rw [Int.natCast_emod, Int.natCast_ediv, Int.natCast_pow]; rfl
theorem big_step (k : Nat) (l : List Int) (n i : Nat) (hi : i ≤ 64) (hl : l.length < 140737488355328) : codec_big.l0 (k + 1) l (n : Int) (i : Int) = codec_big.l0 k (l ++ [((n / 2 ^ i % 256 : Nat) : Int)]) (n : Int) ((i : Int) - 8) := by
  rw [codec_big.l0, if_pos (by omega), if_pos (by omega), if_pos hl, shr_at n i hi, w64 (by omega) (by omega)]
theorem big_is (k : Nat) (l : List Int) (n : Nat) (hk : 9 ≤ k) (hl : l.length + 8 < 140737488355328) : codec_big.f k l (n : Int) = some (l ++ big8 n) := by
  obtain ⟨d, rfl⟩ : ∃ d, k = d + 9 := ⟨k - 9, by omega⟩
  unfold codec_big.f
  rw [show (56 : Int) = ((56 : Nat) : Int) from rfl, show d + 9 = d + 8 + 1 from rfl, big_step _ _ n 56 (by omega) (by omega)]
  rw [show ((56 : Nat) : Int) - 8 = ((48 : Nat) : Int) from rfl, show d + 8 = d + 7 + 1 from rfl, big_step _ _ n 48 (by omega) (by simp; omega)]
  rw [show ((48 : Nat) : Int) - 8 = ((40 : Nat) : Int) from rfl, show d + 7 = d + 6 + 1 from rfl, big_step _ _ n 40 (by omega) (by simp; omega)]
  rw [show ((40 : Nat) : Int) - 8 = ((32 : Nat) : Int) from rfl, show d + 6 = d + 5 + 1 from rfl, big_step _ _ n 32 (by omega) (by simp; omega)]
  rw [show ((32 : Nat) : Int) - 8 = ((24 : Nat) : Int) from rfl, show d + 5 = d + 4 + 1 from rfl, big_step _ _ n 24 (by omega) (by simp; omega)]
  rw [show ((24 : Nat) : Int) - 8 = ((16 : Nat) : Int) from rfl, show d + 4 = d + 3 + 1 from rfl, big_step _ _ n 16 (by omega) (by simp; omega)]
  rw [show ((16 : Nat) : Int) - 8 = ((8 : Nat) : Int) from rfl, show d + 3 = d + 2 + 1 from rfl, big_step _ _ n 8 (by omega) (by simp; omega)]
  rw [show ((8 : Nat) : Int) - 8 = ((0 : Nat) : Int) from rfl, show d + 2 = d + 1 + 1 from rfl, big_step _ _ n 0 (by omega) (by simp; omega)]
  rw [codec_big.l0, if_neg (by decide)]
  simp only [List.append_assoc, List.cons_append, List.nil_append, Nat.pow_zero, Nat.div_one]
  rfl
/-- Is a part one? -/
def good (p : S60) : Prop := (p.f0 = 1 ∧ p.f2 = ⟨#[]⟩) ∨ (p.f0 = 2 ∧ p.f1 = 0)
instance (p : S60) : Decidable (good p) := by unfold good; infer_instance
/-- A part's bytes. -/
def partBytes (p : S60) : List Int := if p.f0 = 1 then 1 :: big8 p.f1.toNat else p.f0 :: (esc (bytesOf p.f2) ++ [0, 1])
theorem rd60_at (l : List S60) (i : Nat) (h : i < l.length) : rd_T60 l (i : Int) = l[i] := by
  unfold rd_T60
  rw [Int.toNat_natCast, List.getD_eq_getElem?_getD, List.getElem?_eq_getElem h]; rfl
def keyOut (acc : List Int) : List S60 → List Int × Int
  | [] => (acc, 0)
  | p :: r => if (acc ++ partBytes p).length > 256 then ([], 4) else keyOut (acc ++ partBytes p) r
theorem empty_iff (s : ByteArray) : s.toList.isEmpty = true ↔ s = ⟨#[]⟩ := by
  constructor
  · intro h
    have h1 : s.data.toList = [] := by
      have := List.isEmpty_iff.1 h
      rwa [Lib.toList_data] at this
    obtain ⟨⟨l⟩⟩ := s
    simp at h1
    subst h1; rfl
  · intro h; subst h; rw [Lib.toList_data]; rfl
theorem drop60 {l d : List S60} {i : Nat} {x : S60} (h : l.drop i = x :: d) : i < l.length ∧ rd_T60 l (i : Int) = x ∧ l.drop (i + 1) = d ∧ x ∈ l := by
  have hi : i < l.length := by
    rcases Nat.lt_or_ge i l.length with h1 | h1
    · exact h1
    · rw [List.drop_eq_nil_of_le h1] at h; cases h
  have h2 := List.drop_eq_getElem_cons hi
  rw [h] at h2
  injection h2 with h3 h4
  exact ⟨hi, by rw [rd60_at l i hi, h3], h4.symm, by rw [h3]; exact List.getElem_mem hi⟩
theorem drop60_nil {l : List S60} {i : Nat} (h : l.drop i = []) : l.length ≤ i := by
  rcases Nat.lt_or_ge i l.length with h1 | h1
  · rw [List.drop_eq_getElem_cons h1] at h; cases h
  · exact h1
/-- What parts can be that came in. -/
def PartsOk (l : List S60) : Prop := ∀ p ∈ l, (0 ≤ p.f0 ∧ p.f0 < 256) ∧ (0 ≤ p.f1 ∧ p.f1 < 18446744073709551616) ∧ p.f2.size < 4294967281
theorem key_l1 (l : List S60) (hp : PartsOk l) (hg : ∀ p ∈ l, good p) (hl : l.length ≤ 16) : ∀ (r : List S60) (i k : Nat) (acc : List Int), l.drop i = r → acc.length ≤ 256 →
    codec_Key.l1 (k + 10 + r.length) acc l (l.length : Int) (i : Int) = some (keyOut acc r) := by
  intro r
  induction r with
  | nil =>
    intro i k acc hd ha
    have := drop60_nil hd
    rw [show k + 10 + ([] : List S60).length = (k + 9) + 1 by simp]
    rw [codec_Key.l1, if_neg (by omega)]; rfl
  | cons p r ih =>
    intro i k acc hd ha
    obtain ⟨h1, h2, h3, h4⟩ := drop60 hd
    have hpp := hp p h4
    rw [show k + 10 + (p :: r).length = (k + 10 + r.length) + 1 by rw [List.length_cons]; omega]
    rw [codec_Key.l1, if_pos (by omega), if_pos (by omega), if_pos (by omega), if_pos (by omega), some_bind, h2, w64 (by omega) (by omega)]
    have hi1 : (i : Int) + 1 = ((i + 1 : Nat) : Int) := by omega
    rw [keyOut]
    by_cases h : p.f0 = 1
    · obtain ⟨n, hn⟩ : ∃ n : Nat, p.f1 = n := ⟨p.f1.toNat, by omega⟩
      have e : acc ++ [p.f0] ++ big8 n = acc ++ partBytes p := by
        unfold partBytes; rw [if_pos h, h, hn, Int.toNat_natCast, List.append_assoc]; rfl
      rw [if_pos h, hn, big_is _ _ n (by omega) (by simp; omega), some_bind, e]
      by_cases g : (acc ++ partBytes p).length > 256
      · rw [if_pos (by omega), if_pos g]
      · rw [if_neg (by omega), if_neg g, hi1]; exact ih (i + 1) k _ h3 (by omega)
    · have hs : (⟨(p.f2.data.toList.flatMap esc8).toArray⟩ : ByteArray).size = (esc (bytesOf p.f2)).length := by rw [← bytesOf_length, esc_strs]
      have hlen := esc_len (bytesOf p.f2)
      rw [bytesOf_length] at hlen
      have e : acc ++ [p.f0] ++ esc (bytesOf p.f2) ++ [0, 1] = acc ++ partBytes p := by
        unfold partBytes; rw [if_neg h]; simp
      rw [if_neg h, repl_is _ hpp.2.2, some_bind, if_pos (by rw [hs]; simp only [List.length_append, List.length_cons, List.length_nil]; omega), some_bind, some_bind, esc_strs,
        if_pos (by simp only [List.length_append, List.length_cons, List.length_nil]; omega), some_bind, e]
      by_cases g : (acc ++ partBytes p).length > 256
      · rw [if_pos (by omega), if_pos g]
      · rw [if_neg (by omega), if_neg g, hi1]; exact ih (i + 1) k _ h3 (by omega)
theorem good_iff (p : S60) : good p ↔ ¬ ((!(p.f0 == 1) || (!(p.f2.toList.isEmpty))) = true ∧ (!(p.f0 == 2) || (!(p.f1 == 0))) = true) := by
  unfold good
  have := empty_iff p.f2
  by_cases h1 : p.f2 = ⟨#[]⟩
  · have e := this.2 h1
    rw [e]
    simp only [h1]
    by_cases h2 : p.f0 = 1 <;> by_cases h3 : p.f0 = 2 <;> by_cases h4 : p.f1 = 0 <;> simp [h2, h3, h4]
  · have e : p.f2.toList.isEmpty = false := by cases g : p.f2.toList.isEmpty with
      | true => exact absurd (this.1 g) h1
      | false => rfl
    rw [e]
    by_cases h2 : p.f0 = 1 <;> by_cases h3 : p.f0 = 2 <;> by_cases h4 : p.f1 = 0 <;> simp [h1, h2, h3, h4]
theorem key_l0 (l : List S60) (hp : PartsOk l) (hl : l.length ≤ 16) : ∀ (r : List S60) (i k : Nat), l.drop i = r → (∀ j, j < i → ∀ h : j < l.length, good l[j]) →
    codec_Key.l0 (k + 30 + r.length) l l (l.length : Int) (i : Int) = some (if ∀ p ∈ l, good p then keyOut [] l else ([], 15)) := by
  intro r
  induction r with
  | nil =>
    intro i k hd hb
    have hi := drop60_nil hd
    have hall : ∀ p ∈ l, good p := fun p hp => by
      obtain ⟨j, hj, rfl⟩ := List.getElem_of_mem hp
      exact hb j (by omega) hj
    rw [show k + 30 + ([] : List S60).length = (k + 29) + 1 by simp]
    rw [codec_Key.l0, if_neg (by omega), if_pos hall]
    have := key_l1 l hp hall hl l 0 (k + 19 - l.length) [] rfl (by simp)
    rw [show k + 19 - l.length + 10 + l.length = k + 29 by omega] at this
    exact this
  | cons p r ih =>
    intro i k hd hb
    obtain ⟨h1, h2, h3, h4⟩ := drop60 hd
    rw [show k + 30 + (p :: r).length = (k + 30 + r.length) + 1 by rw [List.length_cons]; omega]
    rw [codec_Key.l0, if_pos (by omega), if_pos (by omega), if_pos (by omega), h2, w64 (by omega) (by omega)]
    have hp0 : l[i] = p := by rw [← rd60_at l i h1, h2]
    have hi1 : (i : Int) + 1 = ((i + 1 : Nat) : Int) := by omega
    have next : good p → codec_Key.l0 (k + 30 + r.length) l l (l.length : Int) ((i : Int) + 1) = some (if ∀ p ∈ l, good p then keyOut [] l else ([], 15)) := fun hg => by
      rw [hi1]
      refine ih (i + 1) k h3 (fun j hj hjl => ?_)
      rcases Nat.lt_or_ge j i with h | h
      · exact hb j h hjl
      · have : j = i := by omega
        subst this; rw [hp0]; exact hg
    have gi := good_iff p
    by_cases c1 : (!(p.f0 == 1) || (!(p.f2.toList.isEmpty))) = true
    · rw [if_pos c1]
      by_cases c2 : (!(p.f0 == 2) || (!(p.f1 == 0))) = true
      · rw [if_pos c2, if_neg (fun hall => (gi.1 (hall p h4)) ⟨c1, c2⟩)]
      · rw [if_neg c2]; exact next (gi.2 (fun h => c2 h.2))
    · rw [if_neg c1]; exact next (gi.2 (fun h => c1 h.1))
/-- What parts are written as: the bytes, and why not. -/
def keyOf (l : List S60) : List Int × Int := if l.length > 16 then ([], 3) else if ∀ p ∈ l, good p then keyOut [] l else ([], 15)
theorem key_is (k : Nat) (l : List S60) (hk : 60 ≤ k) (hp : PartsOk l) : codec_Key.f k l = some (keyOf l) := by
  unfold codec_Key.f keyOf
  by_cases h : l.length > 16
  · rw [if_pos (by omega), if_pos h]
  · rw [if_neg (by omega), if_neg h]
    obtain ⟨d, rfl⟩ : ∃ d, k = d + 30 + l.length := ⟨k - 30 - l.length, by omega⟩
    exact key_l0 l hp (by omega) l 0 d rfl (fun j hj => by omega)
theorem keyOut_is : ∀ (r : List S60) (acc : List Int), acc.length ≤ 256 → keyOut acc r = if (acc ++ r.flatMap partBytes).length > 256 then ([], 4) else (acc ++ r.flatMap partBytes, 0)
  | [], acc, h => by rw [List.flatMap_nil, List.append_nil, keyOut, if_neg (by omega)]
  | p :: r, acc, h => by
    rw [keyOut, List.flatMap_cons, ← List.append_assoc]
    by_cases g : (acc ++ partBytes p).length > 256
    · rw [if_pos g, if_pos (by rw [List.length_append]; omega)]
    · rw [if_neg g, keyOut_is r _ (by omega)]
/-- The key of parts: it is one where there are few enough, each is one, and the bytes are few enough. -/
theorem keyOf_is (l : List S60) : keyOf l = if l.length > 16 then ([], 3) else if ∀ p ∈ l, good p then (if (l.flatMap partBytes).length > 256 then ([], 4) else (l.flatMap partBytes, 0)) else ([], 15) := by
  unfold keyOf
  rw [keyOut_is l [] (by simp), List.nil_append]
end Go.Proofs.YtfpdipnaefomiaaDoor.Pure
