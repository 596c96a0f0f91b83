/- Plain words of this session's: arrays that are being filled; 32-bit sums. -/
import Derived.WalkKit
import Derived.Laws.Rows
import Derived.Laws.CopyOwn
import Derived.RowKit
import Derived.Laws.BitsLemmas
set_option linter.unusedVariables false
namespace Go.Proofs.Ytcbgichkeecgiaa.Print
open Go.RowKit
def arrUpto (kd : IntKind) (k : Nat) (l : List Int) : Array Value := ((l.take k ++ List.replicate (l.length - k) 0).map (Value.int kd)).toArray
theorem arrUpto_get (kd : IntKind) {k : Nat} {l : List Int} (h : k < l.length) : (arrUpto kd k l)[k]? = some (.int kd 0) := by
  simp only [arrUpto, List.getElem?_toArray, List.getElem?_map]
  rw [List.getElem?_append_right (by simp; omega)]
  simp only [List.length_take, List.getElem?_replicate]
  rw [if_pos (by omega)]; rfl
theorem arrUpto_set (kd : IntKind) {k : Nat} {l : List Int} (h : k < l.length) : (arrUpto kd k l).setIfInBounds k (.int kd (l.getD k 0)) = arrUpto kd (k + 1) l := by
  simp only [arrUpto, List.setIfInBounds_toArray]
  congr 1
  rw [← List.map_set]
  congr 1
  apply List.ext_getElem?
  intro i
  rw [List.getElem?_set]
  rcases Nat.lt_trichotomy i k with h1 | h1 | h1
  · rw [if_neg (by omega), List.getElem?_append_left (by simp; omega), List.getElem?_append_left (by simp; omega), List.getElem?_take, List.getElem?_take, if_pos h1, if_pos (by omega)]
  · subst h1
    rw [if_pos rfl, if_pos (by simp; omega), List.getElem?_append_left (by simp; omega), List.getElem?_take, if_pos (by omega), List.getD_eq_getElem?_getD, List.getElem?_eq_getElem h]
    rfl
  · rw [if_neg (by omega), List.getElem?_append_right (by simp; omega), List.getElem?_append_right (by simp; omega)]
    simp only [List.length_take, List.getElem?_replicate]
    by_cases h2 : i < l.length
    · rw [if_pos (by omega), if_pos (by omega)]
    · rw [if_neg (by omega), if_neg (by omega)]
theorem arrUpto_full (kd : IntKind) (l : List Int) : arrUpto kd l.length l = (l.map (Value.int kd)).toArray := by simp [arrUpto]
theorem bits_and (x y : Int) : Go.bits .and .u32 x y = ((BitVec.ofInt 32 x &&& BitVec.ofInt 32 y).toNat : Int) := by
  show IntKind.u32.wrap (((BitVec.ofInt 32 x &&& BitVec.ofInt 32 y).toNat : Nat) : Int) = _
  rw [IntKind.wrap_u32]
  have := (BitVec.ofInt 32 x &&& BitVec.ofInt 32 y).isLt
  omega
theorem and15 (c : Int) : 0 ≤ Go.bits .and .u32 c 15 ∧ Go.bits .and .u32 c 15 < 16 := by
  rw [bits_and]
  have h : (BitVec.ofInt 32 c &&& BitVec.ofInt 32 15).toNat ≤ 15 := by
    rw [BitVec.toNat_and]
    exact Nat.and_le_right
  omega
def crcTab : List Int := [0, 498536548, 997073096, 651767980, 1994146192, 1802195444, 1303535960, 1342533948, 3988292384, 4027552580, 3604390888, 3412177804, 2607071920, 2262029012, 2685067896, 3183342108]
def crcEnt (c : Int) : Int := crcTab.getD (Go.bits .and .u32 c 15).toNat 0
def crcNib (c : Int) : Int := Go.bits .xor .u32 (crcEnt c) (c / 16)
def crcStep (c x : Int) : Int := crcNib (crcNib (Go.bits .xor .u32 c (x % 4294967296)))
def MRange (m : List Int) : Prop := m.length = 32 ∧ ∀ x ∈ m, 0 ≤ x ∧ x < 4294967296
theorem MRange.at_ {m : List Int} (h : MRange m) {k : Nat} (hk : k < 32) : 0 ≤ m.getD k 0 ∧ m.getD k 0 < 4294967296 := by
  have hl : k < m.length := by rw [h.1]; exact hk
  rw [List.getD_eq_getElem?_getD, List.getElem?_eq_getElem hl]
  exact h.2 _ (List.getElem_mem hl)
end Go.Proofs.Ytcbgichkeecgiaa.Print
