/- Plain words of this session's: arrays that are being filled; 32-bit sums. -/
import Derived.WalkKit
import Derived.Laws.Rows
import Derived.Laws.CopyOwn
import Derived.RowKit
import Derived.Laws.BitsLemmas
set_option linter.unusedVariables false
namespace Go.Proofs.Ytmplpfcilllmaaa.Print
open Go.RowKit

/-- An array that is being filled, k elements are there. -/
def arrUpto (kd : IntKind) (k : Nat) (l : List Int) : Array Value := ((l.take k ++ List.replicate (l.length - k) 0).map (Value.int kd)).toArray
theorem arrUpto_size (kd : IntKind) (k : Nat) (l : List Int) : (arrUpto kd k l).size = l.length := by
  simp [arrUpto]; omega
theorem arrUpto_get (kd : IntKind) {k : Nat} {l : List Int} (h : k < l.length) : (arrUpto kd k l)[k]? = some (.int kd 0) := by
  simp only [arrUpto, List.getElem?_toArray, List.getElem?_map]
  rw [List.getElem?_append_right (by simp; omega)]
  simp only [List.length_take, List.getElem?_replicate]
  rw [if_pos (by omega)]; rfl
theorem arrUpto_set (kd : IntKind) {k : Nat} {l : List Int} (h : k < l.length) : (arrUpto kd k l).setIfInBounds k (.int kd (l.getD k 0)) = arrUpto kd (k + 1) l := by
  simp only [arrUpto, List.setIfInBounds_toArray]
  congr 1
  rw [← List.map_set]
  congr 1
  apply List.ext_getElem?
  intro i
  rw [List.getElem?_set]
  rcases Nat.lt_trichotomy i k with h1 | h1 | h1
  · rw [if_neg (by omega), List.getElem?_append_left (by simp; omega), List.getElem?_append_left (by simp; omega), List.getElem?_take, List.getElem?_take, if_pos h1, if_pos (by omega)]
  · subst h1
    rw [if_pos rfl, if_pos (by simp; omega), List.getElem?_append_left (by simp; omega), List.getElem?_take, if_pos (by omega), List.getD_eq_getElem?_getD, List.getElem?_eq_getElem h]
    rfl
  · rw [if_neg (by omega), List.getElem?_append_right (by simp; omega), List.getElem?_append_right (by simp; omega)]
    simp only [List.length_take, List.getElem?_replicate]
    by_cases h2 : i < l.length
    · rw [if_pos (by omega), if_pos (by omega)]
    · rw [if_neg (by omega), if_neg (by omega)]
theorem arrUpto_full (kd : IntKind) (l : List Int) : arrUpto kd l.length l = (l.map (Value.int kd)).toArray := by simp [arrUpto]
theorem arrUpto_none (kd : IntKind) (l : List Int) : arrUpto kd 0 l = ((List.replicate l.length (0 : Int)).map (Value.int kd)).toArray := by simp [arrUpto]

theorem bits_xor (x y : Int) : Go.bits .xor .u32 x y = ((BitVec.ofInt 32 x ^^^ BitVec.ofInt 32 y).toNat : Int) := by
  show IntKind.u32.wrap (((BitVec.ofInt 32 x ^^^ BitVec.ofInt 32 y).toNat : Nat) : Int) = _
  rw [IntKind.wrap_u32]
  have := (BitVec.ofInt 32 x ^^^ BitVec.ofInt 32 y).isLt
  omega
theorem bits_and (x y : Int) : Go.bits .and .u32 x y = ((BitVec.ofInt 32 x &&& BitVec.ofInt 32 y).toNat : Int) := by
  show IntKind.u32.wrap (((BitVec.ofInt 32 x &&& BitVec.ofInt 32 y).toNat : Nat) : Int) = _
  rw [IntKind.wrap_u32]
  have := (BitVec.ofInt 32 x &&& BitVec.ofInt 32 y).isLt
  omega
theorem bits_xor_range (x y : Int) : 0 ≤ Go.bits .xor .u32 x y ∧ Go.bits .xor .u32 x y < 4294967296 := by
  rw [bits_xor]
  have := (BitVec.ofInt 32 x ^^^ BitVec.ofInt 32 y).isLt
  omega
theorem and15 (c : Int) : 0 ≤ Go.bits .and .u32 c 15 ∧ Go.bits .and .u32 c 15 < 16 := by
  rw [bits_and]
  have h : (BitVec.ofInt 32 c &&& BitVec.ofInt 32 15).toNat ≤ 15 := by
    rw [BitVec.toNat_and]
    exact Nat.and_le_right
  omega
theorem ofInt_toNat (b : BitVec 32) : BitVec.ofInt 32 (b.toNat : Int) = b := by
  rw [BitVec.ofInt_natCast, BitVec.ofNat_toNat]; exact BitVec.setWidth_eq _
theorem toNat_ofInt (x : Int) (h0 : 0 ≤ x) (h1 : x < 4294967296) : ((BitVec.ofInt 32 x).toNat : Int) = x := by
  rw [BitVec.toNat_ofInt]; omega
theorem xor_zero_r (x : Int) (h0 : 0 ≤ x) (h1 : x < 4294967296) : Go.bits .xor .u32 x 0 = x := by
  rw [bits_xor]
  have : BitVec.ofInt 32 0 = 0#32 := rfl
  rw [this, BitVec.xor_zero, toNat_ofInt x h0 h1]
theorem and_zero_r (x : Int) : Go.bits .and .u32 x 0 = 0 := by
  rw [bits_and]
  have : BitVec.ofInt 32 0 = 0#32 := rfl
  rw [this, BitVec.and_zero]; rfl
theorem and_zero_l (x : Int) : Go.bits .and .u32 0 x = 0 := by
  rw [bits_and]
  have : BitVec.ofInt 32 0 = 0#32 := rfl
  rw [this, BitVec.zero_and]; rfl
/-- A matrix's answer, of the first k columns. -/
def crcOfN (m : List Int) (c : Int) : Nat → Int
  | 0 => 0
  | k + 1 => Go.bits .xor .u32 (crcOfN m c k) (Go.bits .and .u32 (m.getD k 0) ((-(Go.bits .and .u32 (c / 2 ^ k) 1)) % 4294967296))
theorem crcOfN_range (m : List Int) (c : Int) (k : Nat) : 0 ≤ crcOfN m c k ∧ crcOfN m c k < 4294967296 := by
  cases k with
  | zero => simp [crcOfN]
  | succ k => exact bits_xor_range _ _
theorem crcOfN_stop (m : List Int) (c : Int) (k : Nat) (h0 : 0 ≤ c) (h : c / 2 ^ k = 0) : ∀ j, crcOfN m c (k + j) = crcOfN m c k
  | 0 => rfl
  | j + 1 => by
    have hz : c / 2 ^ (k + j) = 0 := by
      rw [Int.pow_add, ← Int.ediv_ediv_of_nonneg (Int.pow_nonneg (by decide)), h]; simp
    have hr := crcOfN_range m c k
    have e : crcOfN m c (k + (j + 1)) = Go.bits .xor .u32 (crcOfN m c (k + j)) (Go.bits .and .u32 (m.getD (k + j) 0) ((-(Go.bits .and .u32 (c / 2 ^ (k + j)) 1)) % 4294967296)) := rfl
    rw [e, crcOfN_stop m c k h0 h j, hz, and_zero_l]
    show Go.bits .xor .u32 _ (Go.bits .and .u32 _ 0) = _
    rw [and_zero_r, xor_zero_r _ hr.1 hr.2]
def crcTab : List Int := [0, 498536548, 997073096, 651767980, 1994146192, 1802195444, 1303535960, 1342533948, 3988292384, 4027552580, 3604390888, 3412177804, 2607071920, 2262029012, 2685067896, 3183342108]
def crcEnt (c : Int) : Int := crcTab.getD (Go.bits .and .u32 c 15).toNat 0
def crcNib (c : Int) : Int := Go.bits .xor .u32 (crcEnt c) (c / 16)
def crcStep (c x : Int) : Int := crcNib (crcNib (Go.bits .xor .u32 c (x % 4294967296)))

/-- The cells of a matrix. -/
def mcells (m : List Int) : Array Value := (m.map (Value.int .u32)).toArray
theorem mcells_get {m : List Int} {k : Nat} (h : k < m.length) : (mcells m)[k]? = some (.int .u32 (m.getD k 0)) := by
  rw [mcells, List.getElem?_toArray, List.getElem?_map, List.getElem?_eq_getElem h, List.getD_eq_getElem?_getD, List.getElem?_eq_getElem h]
  rfl
def mSq (m : List Int) : List Int := m.map fun x => crcOfN m x 32
theorem mSq_length (m : List Int) : (mSq m).length = m.length := by simp [mSq]
theorem mSq_getD {m : List Int} {k : Nat} (h : k < m.length) : (mSq m).getD k 0 = crcOfN m (m.getD k 0) 32 := by
  simp [mSq, List.getD_eq_getElem?_getD, List.getElem?_eq_getElem h]
theorem mcells_full (m : List Int) : arrUpto .u32 m.length m = mcells m := arrUpto_full _ m
def MRange (m : List Int) : Prop := m.length = 32 ∧ ∀ x ∈ m, 0 ≤ x ∧ x < 4294967296
theorem mSq_range {m : List Int} (h : MRange m) : MRange (mSq m) := ⟨by rw [mSq_length]; exact h.1, fun x hx => by
  obtain ⟨y, _, rfl⟩ := List.mem_map.1 hx
  exact crcOfN_range m y 32⟩
theorem MRange.at_ {m : List Int} (h : MRange m) {k : Nat} (hk : k < 32) : 0 ≤ m.getD k 0 ∧ m.getD k 0 < 4294967296 := by
  have hl : k < m.length := by rw [h.1]; exact hk
  rw [List.getD_eq_getElem?_getD, List.getElem?_eq_getElem hl]
  exact h.2 _ (List.getElem_mem hl)
theorem arr32_zero {m : List Int} (h : m.length = 32) : arrUpto .u32 0 m = (List.replicate 32 (Value.int .u32 0)).toArray := by
  rw [arrUpto_none, h]; rfl
def crcM0 : List Int := [1996959894, 3993919788, 124634137, 249268274, 498536548, 997073096, 1994146192, 3988292384, 1, 2, 4, 8, 16, 32, 64, 128, 256, 512, 1024, 2048, 4096, 8192, 16384, 32768, 65536, 131072, 262144, 524288, 1048576, 2097152, 4194304, 8388608]
theorem crcM0_range : MRange crcM0 := ⟨rfl, by decide⟩
/-- The shift by n zero bytes, by doublings. -/
def crcGo : Nat → List Int → Int → Int → Int
  | 0, _, a, _ => a
  | k + 1, m, a, n => if 0 < n then crcGo k (mSq m) (if n % 2 = 1 then crcOfN m a 32 else a) (n / 2) else a
theorem crcGo_range : ∀ (k : Nat) (m : List Int) (a n : Int), 0 ≤ a → a < 4294967296 → 0 ≤ crcGo k m a n ∧ crcGo k m a n < 4294967296
  | 0, _, a, _, h0, h1 => ⟨h0, h1⟩
  | k + 1, m, a, n, h0, h1 => by
    unfold crcGo
    split
    · split
      · exact crcGo_range k _ _ _ (crcOfN_range m a 32).1 (crcOfN_range m a 32).2
      · exact crcGo_range k _ _ _ h0 h1
    · exact ⟨h0, h1⟩
theorem bits_and1_i64 (n : Int) (h0 : 0 ≤ n) (h1 : n ≤ 2147483648) : Go.bits .and .i64 n 1 = n % 2 :=
  bits_mask .i64 33 (by decide) (fun x h0 h1 => by rw [IntKind.wrap_i64]; omega) 1 (by decide) n h0 (by omega)

end Go.Proofs.Ytmplpfcilllmaaa.Print
