/- Plain: what a page's size, checks, copies and places are. -/
import Derived.Test.YtcbgichkeecgiaaZPrint10
import Derived.Test.YtcbgichkeecgiaaZPrint7
import Derived.Test.YtcbgichkeecgiaaZNodeOrd
set_option linter.unusedVariables false
namespace Go.Proofs.Ytcbgichkeecgiaa.Pure
open Go.RowKit Go.Proofs.Ytcbgichkeecgiaa.Print Go.Proofs.YtcbgichkeecgiaaW.PrintWords Go.Proofs.YtcbgichkeecgiaaW.PrintLast Go.Proofs.YtcbgichkeecgiaaW.PrintMore
def wd (n : Nat) : Nat := if n ≤ 127 then 1 else wd (n / 128) + 1
termination_by n
decreasing_by omega
theorem wd_small {n : Nat} (h : n ≤ 127) : wd n = 1 := by rw [wd, if_pos h]
theorem wd_big {n : Nat} (h : ¬ n ≤ 127) : wd n = wd (n / 128) + 1 := by rw [wd, if_neg h]
theorem wd_pos (n : Nat) : 1 ≤ wd n := by rw [wd]; split <;> omega
theorem wd_le : ∀ (d n : Nat), n < 128 ^ (d + 1) → wd n ≤ d + 1
  | 0, n, h => by rw [wd_small (by omega)]; omega
  | d + 1, n, h => by
    by_cases h1 : n ≤ 127
    · rw [wd_small h1]; omega
    · rw [wd_big h1]
      have h2 : 128 ^ (d + 1 + 1) = 128 ^ (d + 1) * 128 := Nat.pow_succ 128 (d + 1)
      have := wd_le d (n / 128) (by rw [h2] at h; omega)
      omega
theorem wd_le9 {n : Nat} (h : n < 4611686018427387904) : wd n ≤ 9 := wd_le 8 n (by omega)
theorem width_l0 : ∀ (d n k w : Nat), n < 128 ^ (d + 1) → w + d < 4611686018427387904 → node_width.l0 (k + d + 1) (n : Int) (w : Int) = some ((w + wd n - 1 : Nat) : Int)
  | 0, n, k, w, h, hw => by
    rw [node_width.l0, if_neg (by omega), wd_small (by omega)]; rfl
  | d + 1, n, k, w, h, hw => by
    by_cases h1 : n ≤ 127
    · rw [node_width.l0, if_neg (by omega), wd_small h1]; rfl
    · have h2 : 128 ^ (d + 1 + 1) = 128 ^ (d + 1) * 128 := Nat.pow_succ 128 (d + 1)
      rw [node_width.l0, if_pos (by omega), wd_big h1, show ((n : Int) / 128) = ((n / 128 : Nat) : Int) by omega, w64n w (by omega), show k + (d + 1) = k + d + 1 by omega, width_l0 d (n / 128) k (w + 1) (by rw [h2] at h; omega) (by omega)]
      congr 2
      have := wd_pos (n / 128)
      omega
theorem width_is {k : Nat} (n : Nat) (hn : n < 4611686018427387904) (hk : 12 ≤ k) : node_width.f k (n : Int) = some (wd n : Int) := by
  obtain ⟨q, rfl⟩ : ∃ q, k = q + 8 + 1 := ⟨k - 9, by omega⟩
  unfold node_width.f
  have := width_l0 8 n q 1 (by omega) (by omega)
  rw [show ((1 : Nat) : Int) = 1 from rfl] at this
  rw [this]
  congr 2
  have := wd_pos n
  omega
def lg (b : List Int) : Nat := wd b.length + b.length
theorem long_is {k : Nat} (b : List Int) (hb : b.length < 4611686018427387000) (hk : 12 ≤ k) : node_long.f k b = some (lg b : Int) := by
  unfold node_long.f
  rw [width_is _ (by omega) hk]
  have := wd_le9 (n := b.length) (by omega)
  simp only [Option.bind_some]
  rw [w64 (by omega) (by omega)]
  rfl
def sumL (l : List (List Int)) : Nat := (l.map lg).sum
theorem sumL_nil : sumL [] = 0 := by simp [sumL]
theorem sumL_cons (b : List Int) (l : List (List Int)) : sumL (b :: l) = lg b + sumL l := by simp [sumL]
def sumK (l : List Int) : Nat := (l.map fun d => wd d.toNat).sum
theorem sumK_nil : sumK [] = 0 := by simp [sumK]
theorem sumK_cons (b : Int) (l : List Int) : sumK (b :: l) = wd b.toNat + sumK l := by simp [sumK]
theorem rdL_at (l : List (List Int)) (i : Nat) (h : i < l.length) : rd_L1 l (i : Int) = l[i] := by
  unfold rd_L1
  rw [Int.toNat_natCast, List.getD_eq_getElem?_getD, List.getElem?_eq_getElem h]; rfl
theorem rdK_at (l : List Int) (i : Nat) (h : i < l.length) : rd l (i : Int) = l[i] := by
  unfold rd
  rw [Int.toNat_natCast, List.getD_eq_getElem?_getD, List.getElem?_eq_getElem h]; rfl
theorem sumL_drop (l : List (List Int)) (i : Nat) (h : i < l.length) : sumL (l.drop i) = lg l[i] + sumL (l.drop (i + 1)) := by rw [List.drop_eq_getElem_cons h, sumL_cons]
theorem sumK_drop (l : List Int) (i : Nat) (h : i < l.length) : sumK (l.drop i) = wd (l[i]).toNat + sumK (l.drop (i + 1)) := by rw [List.drop_eq_getElem_cons h, sumK_cons]
theorem lg_len (b : List Int) : b.length < lg b := by have := wd_pos b.length; unfold lg; omega
theorem size_l0 (b : Bool) (ks vs : List (List Int)) (ds : List Int) (hl : ks.length < 4611686018427387904) : ∀ (d k s i : Nat), i + d = ks.length → 12 ≤ k → s + sumL (ks.drop i) < 4611686018427387000 →
    node_size.l0 (k + d + 1) (s : Int) ks (ks.length : Int) (i : Int) b ks vs ds = node_size.l1 k ((s + sumL (ks.drop i) : Nat) : Int) vs (vs.length : Int) 0 b ks vs ds
  | 0, k, s, i, h, hk, hs => by
    simp only [node_size.l0]
    rw [if_neg (by omega), List.drop_of_length_le (by omega), sumL_nil, Nat.add_zero]
  | d + 1, k, s, i, h, hk, hs => by
    have hi : i < ks.length := by omega
    have e := sumL_drop ks i hi
    have hL := lg_len ks[i]
    obtain ⟨q, hq⟩ : ∃ q, k + (d + 1) = q := ⟨_, rfl⟩
    rw [hq]
    simp only [node_size.l0]
    rw [if_pos (by omega), if_pos (by omega), if_pos (by omega), rdL_at ks i hi, long_is _ (by omega) (by omega)]
    simp only [Option.bind_some]
    rw [w64 (by omega) (by omega), w64n i (by omega), show (s : Int) + (lg ks[i] : Int) = ((s + lg ks[i] : Nat) : Int) by omega, ← hq, show k + (d + 1) = k + d + 1 by omega, size_l0 b ks vs ds hl d k (s + lg ks[i]) (i + 1) (by omega) hk (by omega), e, Nat.add_assoc]
theorem size_l1 (b : Bool) (ks vs : List (List Int)) (ds : List Int) (hl : vs.length < 4611686018427387904) : ∀ (d k s i : Nat), i + d = vs.length → 12 ≤ k → s + sumL (vs.drop i) < 4611686018427387000 →
    node_size.l1 (k + d + 1) (s : Int) vs (vs.length : Int) (i : Int) b ks vs ds = node_size.l2 k ((s + sumL (vs.drop i) : Nat) : Int) ds (ds.length : Int) 0
  | 0, k, s, i, h, hk, hs => by
    simp only [node_size.l1]
    rw [if_neg (by omega), List.drop_of_length_le (by omega), sumL_nil, Nat.add_zero]
  | d + 1, k, s, i, h, hk, hs => by
    have hi : i < vs.length := by omega
    have e := sumL_drop vs i hi
    have hL := lg_len vs[i]
    obtain ⟨q, hq⟩ : ∃ q, k + (d + 1) = q := ⟨_, rfl⟩
    rw [hq]
    simp only [node_size.l1]
    rw [if_pos (by omega), if_pos (by omega), if_pos (by omega), rdL_at vs i hi, long_is _ (by omega) (by omega)]
    simp only [Option.bind_some]
    rw [w64 (by omega) (by omega), w64n i (by omega), show (s : Int) + (lg vs[i] : Int) = ((s + lg vs[i] : Nat) : Int) by omega, ← hq, show k + (d + 1) = k + d + 1 by omega, size_l1 b ks vs ds hl d k (s + lg vs[i]) (i + 1) (by omega) hk (by omega), e, Nat.add_assoc]
theorem size_l2 (ds : List Int) (hd : ∀ x ∈ ds, 0 ≤ x ∧ x < 4611686018427387904) (hl : ds.length < 4611686018427387904) : ∀ (d k s i : Nat), i + d = ds.length → 12 ≤ k → s + sumK (ds.drop i) < 4611686018427387000 →
    node_size.l2 (k + d + 1) (s : Int) ds (ds.length : Int) (i : Int) = some ((s + sumK (ds.drop i) : Nat) : Int)
  | 0, k, s, i, h, hk, hs => by
    simp only [node_size.l2]
    rw [if_neg (by omega), List.drop_of_length_le (by omega), sumK_nil, Nat.add_zero]
  | d + 1, k, s, i, h, hk, hs => by
    have hi : i < ds.length := by omega
    have e := sumK_drop ds i hi
    have hx := hd ds[i] (List.getElem_mem hi)
    have hw := width_is (k := k + (d + 1)) (ds[i]).toNat (by omega) (by omega)
    rw [show (((ds[i]).toNat : Nat) : Int) = ds[i] by omega] at hw
    obtain ⟨q, hq⟩ : ∃ q, k + (d + 1) = q := ⟨_, rfl⟩
    rw [hq]
    simp only [node_size.l2]
    rw [hq] at hw
    rw [if_pos (by omega), if_pos (by omega), if_pos (by omega), rdK_at ds i hi, hw]
    simp only [Option.bind_some]
    rw [w64 (by omega) (by omega), w64n i (by omega), show (s : Int) + (wd (ds[i]).toNat : Int) = ((s + wd (ds[i]).toNat : Nat) : Int) by omega, ← hq, show k + (d + 1) = k + d + 1 by omega, size_l2 ds hd hl d k (s + wd (ds[i]).toNat) (i + 1) (by omega) hk (by omega), e, Nat.add_assoc]
def sz (ks vs : List (List Int)) (ds : List Int) : Nat := 5 + wd ks.length + sumL ks + sumL vs + sumK ds
theorem len_sumL : ∀ (l : List (List Int)), l.length ≤ sumL l
  | [] => by simp
  | b :: l => by rw [sumL_cons]; have := len_sumL l; have := lg_len b; simp; omega
theorem len_sumK : ∀ (l : List Int), l.length ≤ sumK l
  | [] => by simp
  | b :: l => by rw [sumK_cons]; have := len_sumK l; have := wd_pos b.toNat; simp; omega
theorem size_is {k : Nat} (b : Bool) (ks vs : List (List Int)) (ds : List Int) (hd : ∀ x ∈ ds, 0 ≤ x ∧ x < 4611686018427387904) (hs : sz ks vs ds < 4611686018427387000) (hk : ks.length + vs.length + ds.length + 20 ≤ k) :
    node_size.f k b ks vs ds = some (sz ks vs ds : Int) := by
  have h1 := len_sumL ks
  have h2 := len_sumL vs
  have h3 := len_sumK ds
  unfold sz at hs
  obtain ⟨q, rfl⟩ : ∃ q, k = q + 12 + ds.length + 1 + vs.length + 1 + ks.length + 1 := ⟨k - (12 + ds.length + 1 + vs.length + 1 + ks.length + 1), by omega⟩
  unfold node_size.f
  rw [width_is _ (by omega) (by omega)]
  simp only [Option.bind_some]
  rw [w64 (x := 1 + (wd ks.length : Int)) (by omega) (by omega), w64 (by omega) (by omega), show (1 + (wd ks.length : Int) + 4) = ((5 + wd ks.length : Nat) : Int) by omega]
  have e0 := size_l0 b ks vs ds (by omega) ks.length (q + 12 + ds.length + 1 + vs.length + 1) (5 + wd ks.length) 0 (by omega) (by omega) (by rw [List.drop_zero]; omega)
  have e1 := size_l1 b ks vs ds (by omega) vs.length (q + 12 + ds.length + 1) (5 + wd ks.length + sumL ks) 0 (by omega) (by omega) (by rw [List.drop_zero]; omega)
  have e2 := size_l2 ds hd (by omega) ds.length (q + 12) (5 + wd ks.length + sumL ks + sumL vs) 0 (by omega) (by omega) (by rw [List.drop_zero]; omega)
  rw [List.drop_zero] at e0 e1 e2
  exact e0.trans (e1.trans e2)
end Go.Proofs.Ytcbgichkeecgiaa.Pure
