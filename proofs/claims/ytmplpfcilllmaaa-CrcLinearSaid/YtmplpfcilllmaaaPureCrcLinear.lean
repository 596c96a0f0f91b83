/- The law CrcLinear: of three of one length the checksums come together as their bytes do, bit by bit: for all bytes that memory holds. -/
import Derived.Test.YtmplpfcilllmaaaPrint6
import Derived.Test.YtmplpfcilllmaaaCrcLinkB
import Derived.Test.YtmplpfcilllmaaaCrcLinkC
set_option linter.unusedVariables false
namespace Go.Proofs.Ytmplpfcilllmaaa.Pure
open Go.RowKit Go.Proofs.Ytmplpfcilllmaaa.Print Go.Proofs.YtmplpfcilllmaaaW.PrintWords Go.Proofs.YtmplpfcilllmaaaW.PrintLast Go.Proofs.YtmplpfcilllmaaaW.PrintMore

theorem xor8 (x y : Int) (hx : 0 ≤ x ∧ x < 256) (hy : 0 ≤ y ∧ y < 256) : Go.bits .xor .u8 x y = ((x.toNat ^^^ y.toNat : Nat) : Int) := by
  obtain ⟨a, rfl⟩ := Int.eq_ofNat_of_zero_le hx.1
  obtain ⟨b, rfl⟩ := Int.eq_ofNat_of_zero_le hy.1
  have ha : a < 256 := by omega
  have hb : b < 256 := by omega
  show IntKind.u8.wrap (((BitVec.ofInt 8 (a : Int) ^^^ BitVec.ofInt 8 (b : Int)).toNat : Nat) : Int) = _
  rw [IntKind.wrap_u8, BitVec.toNat_xor, BitVec.ofInt_natCast, BitVec.ofInt_natCast, BitVec.toNat_ofNat, BitVec.toNat_ofNat, Nat.mod_eq_of_lt ha, Nat.mod_eq_of_lt hb, Int.toNat_natCast, Int.toNat_natCast]
  have := Nat.xor_lt_two_pow (n := 8) ha hb
  omega
theorem xor8_range (x y : Int) (hx : 0 ≤ x ∧ x < 256) (hy : 0 ≤ y ∧ y < 256) : 0 ≤ Go.bits .xor .u8 x y ∧ Go.bits .xor .u8 x y < 256 := by
  rw [xor8 x y hx hy]
  have := Nat.xor_lt_two_pow (x := x.toNat) (y := y.toNat) (n := 8) (by omega) (by omega)
  omega
theorem ofInt_xor8 (x y : Int) (hx : 0 ≤ x ∧ x < 256) (hy : 0 ≤ y ∧ y < 256) : BitVec.ofInt 32 (Go.bits .xor .u8 x y) = BitVec.ofInt 32 x ^^^ BitVec.ofInt 32 y := by
  rw [xor8 x y hx hy]
  obtain ⟨a, rfl⟩ := Int.eq_ofNat_of_zero_le hx.1
  obtain ⟨b, rfl⟩ := Int.eq_ofNat_of_zero_le hy.1
  rw [Int.toNat_natCast, Int.toNat_natCast]
  apply BitVec.eq_of_toNat_eq
  have ha : a < 4294967296 := by omega
  have hb : b < 4294967296 := by omega
  have := Nat.xor_lt_two_pow (n := 32) ha hb
  rw [BitVec.toNat_xor, BitVec.ofInt_natCast, BitVec.ofInt_natCast, BitVec.ofInt_natCast, BitVec.toNat_ofNat, BitVec.toNat_ofNat, BitVec.toNat_ofNat, Nat.mod_eq_of_lt ha, Nat.mod_eq_of_lt hb, Nat.mod_eq_of_lt this]
def x8 (x y : Int) : Int := Go.bits .xor .u8 x y
theorem upd_three : ∀ (a b c : List Int) (x y z : BitVec 32), a.length = b.length → b.length = c.length → BytesL a → BytesL b → BytesL c →
    upd (x ^^^ y ^^^ z) (List.zipWith x8 (List.zipWith x8 a b) c) = upd x a ^^^ upd y b ^^^ upd z c
  | [], [], [], x, y, z, _, _, _, _, _ => rfl
  | p :: a, q :: b, r :: c, x, y, z, h1, h2, ha, hb, hc => by
    have hp := ha p List.mem_cons_self
    have hq := hb q List.mem_cons_self
    have hr := hc r List.mem_cons_self
    simp only [List.zipWith_cons_cons]
    rw [upd_cons, upd_cons, upd_cons, upd_cons]
    have e : shN 8 (x ^^^ y ^^^ z ^^^ BitVec.ofInt 32 (x8 (x8 p q) r)) = shN 8 (x ^^^ BitVec.ofInt 32 p) ^^^ shN 8 (y ^^^ BitVec.ofInt 32 q) ^^^ shN 8 (z ^^^ BitVec.ofInt 32 r) := by
      rw [← shN_xor, ← shN_xor]
      congr 1
      unfold x8
      rw [ofInt_xor8 _ _ (xor8_range _ _ hp hq) hr, ofInt_xor8 _ _ hp hq]
      generalize BitVec.ofInt 32 p = p'
      generalize BitVec.ofInt 32 q = q'
      generalize BitVec.ofInt 32 r = r'
      apply BitVec.eq_of_getLsbD_eq
      intro i hi
      simp only [BitVec.getLsbD_xor]
      cases x.getLsbD i <;> cases y.getLsbD i <;> cases z.getLsbD i <;> cases p'.getLsbD i <;> cases q'.getLsbD i <;> cases r'.getLsbD i <;> rfl
    rw [e]
    exact upd_three a b c _ _ _ (by simpa using h1) (by simpa using h2) (fun t ht => ha t (List.mem_cons_of_mem _ ht)) (fun t ht => hb t (List.mem_cons_of_mem _ ht)) (fun t ht => hc t (List.mem_cons_of_mem _ ht))
theorem sum_three (a b c : List Int) (h1 : a.length = b.length) (h2 : b.length = c.length) (ha : BytesL a) (hb : BytesL b) (hc : BytesL c) :
    sumOf (List.zipWith x8 (List.zipWith x8 a b) c) = sumOf a ^^^ sumOf b ^^^ sumOf c := by
  unfold sumOf
  have e : BitVec.allOnes 32 = BitVec.allOnes 32 ^^^ BitVec.allOnes 32 ^^^ BitVec.allOnes 32 := by rw [BitVec.xor_self, BitVec.zero_xor]
  conv => lhs; rw [e]
  rw [upd_three a b c _ _ _ h1 h2 ha hb hc]
  generalize upd (BitVec.allOnes 32) a = x
  generalize upd (BitVec.allOnes 32) b = y
  generalize upd (BitVec.allOnes 32) c = z
  apply BitVec.eq_of_getLsbD_eq
  intro i hi
  simp only [BitVec.getLsbD_xor, BitVec.getLsbD_not, hi, decide_true, Bool.true_and]
  cases x.getLsbD i <;> cases y.getLsbD i <;> cases z.getLsbD i <;> rfl
def g3 (a b c : List Int) (i : Nat) : Int := x8 (x8 (rd a i) (rd b i)) (rd c i)
theorem g3_zip (a b c : List Int) (n : Nat) (ha : n ≤ a.length) (hb : n ≤ b.length) (hc : n ≤ c.length) :
    (List.range' 0 n).map (g3 a b c) = List.zipWith x8 (List.zipWith x8 (a.take n) (b.take n)) (c.take n) := by
  apply List.ext_getElem?
  intro i
  rw [List.getElem?_map, List.getElem?_zipWith, List.getElem?_zipWith, List.getElem?_take, List.getElem?_take, List.getElem?_take]
  by_cases hi : i < n
  · rw [if_pos hi, if_pos hi, if_pos hi, List.getElem?_range' (by omega), List.getElem?_eq_getElem (show i < a.length by omega), List.getElem?_eq_getElem (show i < b.length by omega), List.getElem?_eq_getElem (show i < c.length by omega)]
    simp [g3, rd, List.getD_eq_getElem?_getD, show i < a.length by omega, show i < b.length by omega, show i < c.length by omega]
  · rw [if_neg hi, if_neg hi, if_neg hi, List.getElem?_eq_none (by simp; omega)]
    rfl
theorem lin_l0 (a b c : List Int) (n : Nat) (hn : n ≤ 140737488355328) (ha : n ≤ a.length) (hb : n ≤ b.length) (hc : n ≤ c.length) : ∀ (d k : Nat) (x : List Int) (i : Nat), x.length = n → i + d = n → d < k →
    ladinglaw02_CrcLinear.l0 k a b c (n : Int) x (n : Int) (i : Int) = some (iv (sumOf (x.take i ++ (List.range' i d).map (g3 a b c))) == Go.bits .xor .u32 (Go.bits .xor .u32 (iv (sumOf (a.take n))) (iv (sumOf (b.take n)))) (iv (sumOf (c.take n))))
  | 0, k, x, i, hx, hd, hk => by
    obtain ⟨k, rfl⟩ : ∃ m, k = m + 1 := ⟨k - 1, by omega⟩
    simp only [ladinglaw02_CrcLinear.l0]
    rw [if_neg (by omega), of_is, Option.bind_some, if_pos (by omega), if_pos (by omega), Int.toNat_natCast, of_is, Option.bind_some, if_pos (by omega), of_is, Option.bind_some, if_pos (by omega), of_is, Option.bind_some, show x.take i = x from List.take_of_length_le (by omega), List.range'_zero, List.map_nil, List.append_nil]
  | d + 1, k, x, i, hx, hd, hk => by
    obtain ⟨k, rfl⟩ : ∃ m, k = m + 1 := ⟨k - 1, by omega⟩
    simp only [ladinglaw02_CrcLinear.l0]
    rw [if_pos (by omega), if_pos (by omega), if_pos (by omega), if_pos (by omega), if_pos (by omega), if_pos (by omega), wrap_ok (by omega) (by omega), Int.toNat_natCast, show ((i : Int) + 1) = ((i + 1 : Nat) : Int) by omega]
    rw [lin_l0 a b c n hn ha hb hc d k _ (i + 1) (by rw [List.length_set]; exact hx) (by omega) (by omega)]
    have e : (x.set i (g3 a b c i)).take (i + 1) = x.take i ++ [g3 a b c i] := by
      rw [List.take_succ_eq_append_getElem (by rw [List.length_set]; omega), List.take_set_of_le (by omega), List.getElem_set_self]
    have e2 : (x.set i (Go.bits .xor .u8 (Go.bits .xor .u8 (rd a i) (rd b i)) (rd c i))) = x.set i (g3 a b c i) := rfl
    rw [e2, e, List.append_assoc, List.range'_succ, List.map_cons]
    rfl
theorem mn_nat (a b : Nat) : mn (a : Int) (b : Int) = ((min a b : Nat) : Int) := by unfold mn; split <;> omega
theorem CrcLinear : ladinglaw02_CrcLinear.Pure := by
  intro a b c _ hla hwa _ hlb hwb _ hlc hwc
  have ha := bytesL_wf hwa
  have hb := bytesL_wf hwb
  have hc := bytesL_wf hwc
  refine ⟨a.length + 1, ?_⟩
  unfold ladinglaw02_CrcLinear.f ladinglaw02_lives.f
  rw [Option.bind_some, if_pos rfl, mn_nat, mn_nat]
  obtain ⟨n, hn⟩ : ∃ n, n = min (min a.length b.length) c.length := ⟨_, rfl⟩
  rw [← hn]
  rw [if_pos (by omega), if_pos (by omega), Option.bind_some, Int.toNat_natCast, List.length_replicate]
  have h0 := lin_l0 a b c n (by omega) (by omega) (by omega) (by omega) n (a.length + 1) (List.replicate n 0) 0 (by simp) (by omega) (by omega)
  refine Eq.trans h0 ?_
  congr 1
  rw [beq_iff_eq, List.take_zero, List.nil_append, g3_zip a b c n (by omega) (by omega) (by omega), sum_three _ _ _ (by rw [List.length_take, List.length_take]; omega) (by rw [List.length_take, List.length_take]; omega) (bytesL_take ha n) (bytesL_take hb n) (bytesL_take hc n), xor_iv, ofInt_iv, xor_iv, ofInt_iv]

end Go.Proofs.Ytmplpfcilllmaaa.Pure
