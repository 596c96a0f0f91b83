/- The law CodecBack, for bytes and texts that are not too many. -/
import Derived.Test.YtfpdipnaefomiaaDoorPrint19
import Derived.Test.YtfpdipnaefomiaaDoorCodecBackMath
set_option linter.unusedVariables false
namespace Go.Proofs.YtfpdipnaefomiaaDoor.Pure
open Go.RowKit Go.Proofs.YtfpdipnaefomiaaDoor.Print Go.Proofs.YtfpdipnaefomiaaDoorW.PrintWords Go.Proofs.YtfpdipnaefomiaaDoorW.PrintLast Go.Proofs.YtfpdipnaefomiaaDoorW.PrintMore

theorem strOf_bytesOf (s : ByteArray) : strOfNums (bytesOf s) = s := by
  unfold strOfNums bytesOf
  rw [List.map_map]
  have : s.data.toList.map ((fun n : Int => UInt8.ofNat n.toNat) ∘ fun b : UInt8 => (b.toNat : Int)) = s.data.toList := by
    conv => rhs; rw [← List.map_id s.data.toList]
    apply List.map_congr_left
    intro b _
    show UInt8.ofNat ((b.toNat : Int)).toNat = b
    rw [Int.toNat_natCast, UInt8.ofNat_toNat]
  rw [this]
theorem bytesOf_strOf (l : List Int) (h : BytesL l) : bytesOf (strOfNums l) = l := by
  unfold bytesOf
  rw [strOfNums_data, List.map_map]
  conv => rhs; rw [← List.map_id l]
  apply List.map_congr_left
  intro x hx
  have := h x hx
  show ((UInt8.ofNat x.toNat).toNat : Int) = x
  rw [UInt8.toNat_ofNat', Nat.mod_eq_of_lt (by omega)]; omega
theorem bytesOf_bytes (s : ByteArray) : BytesL (bytesOf s) := by
  intro x hx
  obtain ⟨b, _, rfl⟩ := List.mem_map.1 hx
  have := b.toNat_lt
  omega
theorem read_num (k n : Nat) (b : List Int) (hk : 22 ≤ k) (hn : n < 18446744073709551616) (hb : BytesL b) (hl : b.length + 10 < 140737488355328) : codec_ReadNum.f k (num n ++ b) = some ((n : Int), b, 0) := by
  have := num_len n
  rw [read_is k _ hk (bytesL_append (num_bytes n hn) hb) (by rw [List.length_append]; omega), rn_num n b hn]; rfl
theorem read_int (k : Nat) (m : Int) (b : List Int) (hk : 22 ≤ k) (h0 : -9223372036854775808 ≤ m) (h1 : m ≤ 9223372036854775807) (hb : BytesL b) (hl : b.length + 10 < 140737488355328) : codec_ReadInt.f k (num (zig m) ++ b) = some (m, b, 0) := by
  have := num_len (zig m)
  have hz := zig_lt m h0 h1
  rw [readInt_is k _ hk (bytesL_append (num_bytes _ hz) hb) (by rw [List.length_append]; omega), rn_num _ b hz]
  show some (zag (zig m), b, (0 : Int)) = _
  rw [zag_zig]
theorem read_text (k : Nat) (s : ByteArray) (b : List Int) (hk : 22 ≤ k) (hs : s.size + b.length + 10 < 140737488355328) (hb : BytesL b) :
    codec_ReadText.f k (num s.size ++ bytesOf s ++ b) = some (if s.size > 1024 then (strOfNums [], [], 4) else (s, b, 0)) := by
  have h1 := num_len s.size
  have h2 := bytesOf_length s
  have h3 : BytesL (num s.size ++ bytesOf s ++ b) := bytesL_append (bytesL_append (num_bytes _ (by omega)) (bytesOf_bytes s)) hb
  rw [readText_is k _ hk h3 (by simp only [List.length_append]; omega)]
  rw [List.append_assoc, rn_num s.size (bytesOf s ++ b) (by omega)]
  simp only [textOut]
  by_cases h : s.size > 1024
  · rw [if_pos h, if_pos h]
  · rw [if_neg h, if_neg h, if_neg (by rw [List.length_append]; omega), List.take_left' h2, List.drop_left' h2, strOf_bytesOf]
theorem text_cases (l : List Int) : (∃ c : Int, c ≠ 0 ∧ textOut 1024 (rn l 0 0) = ([], [], c)) ∨ ∃ n r, rn l 0 0 = some (n, r) ∧ n ≤ 1024 ∧ n ≤ r.length ∧ textOut 1024 (rn l 0 0) = (r.take n, r.drop n, 0) := by
  cases h : rn l 0 0 with
  | none => exact .inl ⟨6, by decide, rfl⟩
  | some z =>
    obtain ⟨n, r⟩ := z
    by_cases g : n > 1024
    · exact .inl ⟨4, by decide, by simp only [textOut]; rw [if_pos g]⟩
    · by_cases g2 : n > r.length
      · exact .inl ⟨6, by decide, by simp only [textOut]; rw [if_neg g, if_pos g2]⟩
      · exact .inr ⟨n, r, rfl, by omega, by omega, by simp only [textOut]; rw [if_neg g, if_neg g2]⟩
theorem back_j2 (k : Nat) (l : List Int) (hk : 30 ≤ k) (hb : BytesL l) (hl : l.length ≤ 1048576) : ladinglaw03_CodecBack.j2 (k + 1) l false = some true := by
  have e := readText_is k l (by omega) hb (by omega)
  rw [ladinglaw03_CodecBack.j2, if_neg (by decide)]
  rcases text_cases l with ⟨c, hc, ht⟩ | ⟨n, r, h, g, g2, ht⟩
  · rw [ht] at e
    rw [e, some_bind]
    exact (if_neg hc).trans rfl
  · rw [ht] at e
    rw [e, some_bind]
    have hr := (rn_shorter l 0 0 n r h).1
    have hz := num_rn l n r hb h
    have hbr : BytesL r := fun x hx => hb x (by rw [← hz]; exact List.mem_append_right _ hx)
    refine (if_pos (show (0 : Int) = 0 from rfl)).trans ?_
    have hsz : (strOfNums (r.take n)).size = n := by rw [strOfNums_size, List.length_take]; omega
    show ((codec_Text.f k ([] : List Int) (strOfNums (r.take n))).bind fun t490 => (if t490.length + (r.drop n).length < 140737488355328 then (some ((strOfNums (t490 ++ r.drop n)).toList == (strOfNums l).toList)) else (none))) = some true
    have hnl := num_len n
    rw [text_is k [] _ (by omega) (by simp only [List.length_nil]; omega), some_bind, hsz, List.nil_append, bytesOf_strOf _ (fun x hx => hbr x (List.mem_of_mem_take hx)), if_pos (by simp only [List.length_append, List.length_take, List.length_drop]; omega), List.append_assoc, List.take_append_drop, hz, beq_self_eq_true]
theorem back_j1 (k : Nat) (l : List Int) (hk : 30 ≤ k) (hb : BytesL l) (hl : l.length ≤ 1048576) : ladinglaw03_CodecBack.j1 (k + 2) l false = some true := by
  rw [ladinglaw03_CodecBack.j1, if_neg (by decide), read_is (k + 1) l (by omega) hb (by omega), some_bind]
  cases h : rn l 0 0 with
  | none => exact (if_neg (show ¬ (6 : Int) = 0 by decide)).trans (back_j2 k l hk hb hl)
  | some z =>
    obtain ⟨n, r⟩ := z
    have hr := (rn_shorter l 0 0 n r h).1
    have hz := num_rn l n r hb h
    have hn := rn_lt l 0 0 n r (by simp) h
    have hnl := num_len n
    refine (if_pos (show (0 : Int) = 0 from rfl)).trans ?_
    show ((codec_Num.f (k + 1) ([] : List Int) (n : Int)).bind fun t479 => (if t479.length + r.length < 140737488355328 then (ladinglaw03_CodecBack.j2 (k + 1) l ((strOfNums (t479 ++ r)).toList != (strOfNums l).toList)) else (none))) = some true
    rw [num_is (k + 1) [] n (by omega) hn (by simp), some_bind, List.nil_append, if_pos (by omega), hz]
    rw [show ((strOfNums l).toList != (strOfNums l).toList) = false by simp]
    exact back_j2 k l hk hb hl
theorem CodecBackUpto (l0 : List Int) (a1 : Int) (a2 : Int) (a3 : ByteArray) (h0 : l0.length ≤ 1048576 ∧ ∀ y2 ∈ l0, (Lit.int .u8 y2).wf = true) (h1 : (Lit.int .u64 a1).wf = true) (h2 : (Lit.int .i64 a2).wf = true) (h3 : a3.size ≤ 1048576) : ∃ k, ladinglaw03_CodecBack.f k l0 a1 a2 a3 = some true := by
  have w1 := wf_u64 h1
  have w2 := wf_i64 h2
  have hl := h0.1
  have hb : BytesL l0 := fun x hx => wf_u8 (h0.2 x hx)
  obtain ⟨n, rfl⟩ : ∃ n : Nat, a1 = n := ⟨a1.toNat, by omega⟩
  have hn1 := num_len n
  have hn2 := num_len (zig a2)
  have hn3 := num_len a3.size
  have hbs := bytesOf_length a3
  refine ⟨40 + 3, ?_⟩
  unfold ladinglaw03_CodecBack.f
  rw [lives_is _ (by omega), some_bind, if_pos rfl, num_is _ [] n (by omega) (by omega) (by simp), some_bind, List.nil_append, if_pos (by omega), read_num _ n l0 (by omega) (by omega) hb (by omega), some_bind,
    int_is _ [] a2 (by omega) w2.1 w2.2 (by simp), some_bind, List.nil_append, if_pos (by omega), read_int _ a2 l0 (by omega) w2.1 w2.2 hb (by omega), some_bind,
    if_pos rfl, if_pos rfl, if_pos rfl, if_pos rfl, if_pos rfl]
  show ladinglaw03_CodecBack.j0 (42 + 1) l0 a3 false = some true
  rw [ladinglaw03_CodecBack.j0, if_neg (by decide), text_is 42 [] a3 (by omega) (by simp only [List.length_nil]; omega), some_bind, List.nil_append, if_pos (by rw [List.length_append]; omega)]
  have e := read_text 42 a3 l0 (by omega) (by omega) hb
  by_cases h : a3.size > 1024
  · rw [if_pos h] at e
    rw [e, some_bind, if_neg (by omega), if_pos (by omega)]
    exact back_j1 40 l0 (by omega) hb hl
  · rw [if_neg h] at e
    rw [e, some_bind, if_pos (by omega), if_pos rfl, if_pos rfl, if_pos rfl, if_neg (by omega)]
    exact back_j1 40 l0 (by omega) hb hl
end Go.Proofs.YtfpdipnaefomiaaDoor.Pure
