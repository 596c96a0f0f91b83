/- Node: two pages put together. -/
import Derived.Test.YtcbgichkeecgiaaZPrint9
import Derived.Lib.Bytes
import Derived.Test.YtcbgichkeecgiaaZPrint12
import Derived.Test.YtcbgichkeecgiaaZPrint7
import Derived.Test.YtcbgichkeecgiaaZPrint32
import Derived.Test.YtcbgichkeecgiaaZPrint11
import Derived.Test.YtcbgichkeecgiaaZPrint33
import Derived.Test.YtcbgichkeecgiaaZPrint19
import Derived.Test.YtcbgichkeecgiaaZPrint14
import Derived.Test.YtcbgichkeecgiaaZPrint35
set_option linter.unusedVariables false
namespace Go.Proofs.Ytcbgichkeecgiaa.Pure
open Go.RowKit Go.Proofs.Ytcbgichkeecgiaa.Print Go.Proofs.YtcbgichkeecgiaaW.PrintWords Go.Proofs.YtcbgichkeecgiaaW.PrintLast Go.Proofs.YtcbgichkeecgiaaW.PrintMore
theorem w64 {x : Int} (h0 : -9223372036854775808 ≤ x) (h1 : x ≤ 9223372036854775807) : wrap64 x = x := by unfold wrap64; omega
theorem w64n (i : Nat) (h : i < 9223372036854775807) : wrap64 ((i : Int) + 1) = ((i + 1 : Nat) : Int) := by rw [w64 (by omega) (by omega)]; rfl
def BytesL (l : List Int) : Prop := ∀ x ∈ l, 0 ≤ x ∧ x < 256
theorem bytesL_wf {l : List Int} (h : ∀ x ∈ l, (Lit.int .u8 x).wf = true) : BytesL l := fun x hx => by
  have := h x hx
  simp [Lit.wf, IntKind.min, IntKind.max, IntKind.bits, IntKind.signed] at this
  omega
def cmpL : List Int → List Int → Int
  | [], [] => 0
  | [], _ :: _ => -1
  | _ :: _, [] => 1
  | a :: x, b :: y => if a < b then -1 else if b < a then 1 else cmpL x y
theorem cmpL_cc (a b : Int) (x y : List Int) : cmpL (a :: x) (b :: y) = if a < b then -1 else if b < a then 1 else cmpL x y := rfl
theorem cmpL_same : ∀ (w x y : List Int), cmpL (w ++ x) (w ++ y) = cmpL x y
  | [], x, y => rfl
  | a :: w, x, y => by
    show (if a < a then -1 else if a < a then 1 else cmpL (w ++ x) (w ++ y)) = _
    rw [if_neg (by omega), if_neg (by omega), cmpL_same w x y]
theorem cmpL_self (x : List Int) : cmpL x x = 0 := by
  have := cmpL_same x [] []
  simpa [cmpL] using this
theorem cmpL_zero : ∀ (x y : List Int), cmpL x y = 0 → x = y
  | [], [], _ => rfl
  | [], _ :: _, h => by simp [cmpL] at h
  | _ :: _, [], h => by simp [cmpL] at h
  | a :: x, b :: y, h => by
    unfold cmpL at h
    split at h
    · omega
    · split at h
      · omega
      · rw [cmpL_zero x y h, show a = b by omega]
theorem cmpL_trans : ∀ (x y z : List Int), cmpL x y < 0 → cmpL y z < 0 → cmpL x z < 0
  | [], [], z, h, _ => by simp [cmpL] at h
  | [], _ :: _, [], _, h => by simp [cmpL] at h
  | [], _ :: _, _ :: _, _, _ => by simp [cmpL]
  | _ :: _, [], _, h, _ => by simp [cmpL] at h
  | _ :: _, _ :: _, [], _, h => by simp [cmpL] at h
  | a :: x, b :: y, c :: z, h1, h2 => by
    rw [cmpL_cc] at h1 h2 ⊢
    by_cases a1 : a < b
    · by_cases b1 : b < c
      · rw [if_pos (by omega)]; decide
      · rw [if_neg b1] at h2
        by_cases b2 : c < b
        · rw [if_pos b2] at h2; omega
        · rw [if_pos (by omega)]; decide
    · rw [if_neg a1] at h1
      by_cases a2 : b < a
      · rw [if_pos a2] at h1; omega
      · rw [if_neg a2] at h1
        by_cases b1 : b < c
        · rw [if_pos (by omega)]; decide
        · rw [if_neg b1] at h2
          by_cases b2 : c < b
          · rw [if_pos b2] at h2; omega
          · rw [if_neg b2] at h2
            rw [if_neg (by omega), if_neg (by omega)]
            exact cmpL_trans x y z h1 h2
theorem cmpL_irr (x : List Int) : ¬ cmpL x x < 0 := by rw [cmpL_self]; decide
theorem cmpB : ∀ (x y : List Int), BytesL x → BytesL y → Lib.compareBytes (strOfNums x).data.toList (strOfNums y).data.toList = cmpL x y
  | [], [], _, _ => rfl
  | [], _ :: _, _, _ => rfl
  | _ :: _, [], _, _ => rfl
  | a :: x, b :: y, hx, hy => by
    have ih := cmpB x y (fun z hz => hx z (by simp [hz])) (fun z hz => hy z (by simp [hz]))
    have ha := hx a (by simp)
    have hb := hy b (by simp)
    have e1 : (UInt8.ofNat a.toNat < UInt8.ofNat b.toNat) ↔ a < b := by
      rw [UInt8.lt_iff_toNat_lt, UInt8.toNat_ofNat', UInt8.toNat_ofNat', Nat.mod_eq_of_lt (by omega), Nat.mod_eq_of_lt (by omega)]; omega
    have e2 : (UInt8.ofNat b.toNat < UInt8.ofNat a.toNat) ↔ b < a := by
      rw [UInt8.lt_iff_toNat_lt, UInt8.toNat_ofNat', UInt8.toNat_ofNat', Nat.mod_eq_of_lt (by omega), Nat.mod_eq_of_lt (by omega)]; omega
    have e : Lib.compareBytes (strOfNums (a :: x)).data.toList (strOfNums (b :: y)).data.toList = (if UInt8.ofNat a.toNat < UInt8.ofNat b.toNat then -1 else if UInt8.ofNat b.toNat < UInt8.ofNat a.toNat then 1 else Lib.compareBytes (strOfNums x).data.toList (strOfNums y).data.toList) := rfl
    rw [e, ih, cmpL_cc]
    by_cases h1 : a < b
    · rw [if_pos (e1.2 h1), if_pos h1]
    · rw [if_neg (fun h => h1 (e1.1 h)), if_neg h1]
      by_cases h2 : b < a
      · rw [if_pos (e2.2 h2), if_pos h2]
      · rw [if_neg (fun h => h2 (e2.1 h)), if_neg h2]
theorem str_eq (x y : List Int) (hx : BytesL x) (hy : BytesL y) : ((strOfNums x).toList = (strOfNums y).toList) ↔ x = y := by
  refine ⟨fun h => ?_, fun h => by rw [h]⟩
  have h1 := cmpB x y hx hy
  rw [Lib.toList_data, Lib.toList_data] at h
  rw [h] at h1
  have h2 := cmpB y y hy hy
  rw [cmpL_self] at h2
  exact cmpL_zero x y (h1.symm.trans h2)
theorem str_beq (x y : List Int) (hx : BytesL x) (hy : BytesL y) : ((strOfNums x).toList == (strOfNums y).toList) = decide (x = y) := by
  by_cases h : x = y
  · rw [h]; simp
  · rw [decide_eq_false h]; exact beq_false_of_ne (fun e => h ((str_eq x y hx hy).1 e))
theorem bsN_spec (p : Nat → Bool) (n : Nat) : ∀ k i j, i ≤ j → j - i < 2 ^ k → i ≤ n → n ≤ j → (∀ h, h < j → (p h = true ↔ h < n)) → bsN p k i j = n
  | 0, i, j, hij, hk, h1, h2, _ => by rw [bsN]; simp at hk; omega
  | k + 1, i, j, hij, hk, h1, h2, hp => by
    have hpow := Nat.pow_succ 2 k
    rw [bsN]
    split
    · rename_i hlt
      have hm : (i + j) / 2 < j := by omega
      split
      · rename_i ht
        exact bsN_spec p n k _ _ (by omega) (by omega) (by have := (hp _ hm).1 ht; omega) h2 hp
      · rename_i ht
        have hn : n ≤ (i + j) / 2 := by
          rcases Nat.lt_or_ge ((i + j) / 2) n with h | h
          · exact absurd ((hp _ hm).2 h) ht
          · exact h
        exact bsN_spec p n k _ _ (by omega) (by omega) h1 hn (fun h hh => hp h (by omega))
    · omega
end Go.Proofs.Ytcbgichkeecgiaa.Pure
set_option linter.unusedVariables false
namespace Go.Proofs.Ytcbgichkeecgiaa.Pure
open Go.RowKit Go.Proofs.Ytcbgichkeecgiaa.Print Go.Proofs.YtcbgichkeecgiaaW.PrintWords Go.Proofs.YtcbgichkeecgiaaW.PrintLast Go.Proofs.YtcbgichkeecgiaaW.PrintMore
def wd (n : Nat) : Nat := if n ≤ 127 then 1 else wd (n / 128) + 1
termination_by n
decreasing_by omega
theorem wd_small {n : Nat} (h : n ≤ 127) : wd n = 1 := by rw [wd, if_pos h]
theorem wd_big {n : Nat} (h : ¬ n ≤ 127) : wd n = wd (n / 128) + 1 := by rw [wd, if_neg h]
theorem wd_pos (n : Nat) : 1 ≤ wd n := by rw [wd]; split <;> omega
theorem wd_le : ∀ (d n : Nat), n < 128 ^ (d + 1) → wd n ≤ d + 1
  | 0, n, h => by rw [wd_small (by omega)]; omega
  | d + 1, n, h => by
    by_cases h1 : n ≤ 127
    · rw [wd_small h1]; omega
    · rw [wd_big h1]
      have h2 : 128 ^ (d + 1 + 1) = 128 ^ (d + 1) * 128 := Nat.pow_succ 128 (d + 1)
      have := wd_le d (n / 128) (by rw [h2] at h; omega)
      omega
theorem wd_le9 {n : Nat} (h : n < 4611686018427387904) : wd n ≤ 9 := wd_le 8 n (by omega)
theorem width_l0 : ∀ (d n k w : Nat), n < 128 ^ (d + 1) → w + d < 4611686018427387904 → node_width.l0 (k + d + 1) (n : Int) (w : Int) = some ((w + wd n - 1 : Nat) : Int)
  | 0, n, k, w, h, hw => by
    rw [node_width.l0, if_neg (by omega), wd_small (by omega)]; rfl
  | d + 1, n, k, w, h, hw => by
    by_cases h1 : n ≤ 127
    · rw [node_width.l0, if_neg (by omega), wd_small h1]; rfl
    · have h2 : 128 ^ (d + 1 + 1) = 128 ^ (d + 1) * 128 := Nat.pow_succ 128 (d + 1)
      rw [node_width.l0, if_pos (by omega), wd_big h1, show ((n : Int) / 128) = ((n / 128 : Nat) : Int) by omega, w64n w (by omega), show k + (d + 1) = k + d + 1 by omega, width_l0 d (n / 128) k (w + 1) (by rw [h2] at h; omega) (by omega)]
      congr 2
      have := wd_pos (n / 128)
      omega
theorem width_is {k : Nat} (n : Nat) (hn : n < 4611686018427387904) (hk : 12 ≤ k) : node_width.f k (n : Int) = some (wd n : Int) := by
  obtain ⟨q, rfl⟩ : ∃ q, k = q + 8 + 1 := ⟨k - 9, by omega⟩
  unfold node_width.f
  have := width_l0 8 n q 1 (by omega) (by omega)
  rw [show ((1 : Nat) : Int) = 1 from rfl] at this
  rw [this]
  congr 2
  have := wd_pos n
  omega
def lg (b : List Int) : Nat := wd b.length + b.length
theorem long_is {k : Nat} (b : List Int) (hb : b.length < 4611686018427387000) (hk : 12 ≤ k) : node_long.f k b = some (lg b : Int) := by
  unfold node_long.f
  rw [width_is _ (by omega) hk]
  have := wd_le9 (n := b.length) (by omega)
  simp only [Option.bind_some]
  rw [w64 (by omega) (by omega)]
  rfl
def sumL (l : List (List Int)) : Nat := (l.map lg).sum
theorem sumL_nil : sumL [] = 0 := by simp [sumL]
theorem sumL_cons (b : List Int) (l : List (List Int)) : sumL (b :: l) = lg b + sumL l := by simp [sumL]
theorem sumL_append (a b : List (List Int)) : sumL (a ++ b) = sumL a + sumL b := by simp [sumL]
def sumK (l : List Int) : Nat := (l.map fun d => wd d.toNat).sum
theorem sumK_nil : sumK [] = 0 := by simp [sumK]
theorem sumK_cons (b : Int) (l : List Int) : sumK (b :: l) = wd b.toNat + sumK l := by simp [sumK]
theorem rdL_at (l : List (List Int)) (i : Nat) (h : i < l.length) : rd_L1 l (i : Int) = l[i] := by
  unfold rd_L1
  rw [Int.toNat_natCast, List.getD_eq_getElem?_getD, List.getElem?_eq_getElem h]; rfl
theorem rdK_at (l : List Int) (i : Nat) (h : i < l.length) : rd l (i : Int) = l[i] := by
  unfold rd
  rw [Int.toNat_natCast, List.getD_eq_getElem?_getD, List.getElem?_eq_getElem h]; rfl
theorem sumL_drop (l : List (List Int)) (i : Nat) (h : i < l.length) : sumL (l.drop i) = lg l[i] + sumL (l.drop (i + 1)) := by rw [List.drop_eq_getElem_cons h, sumL_cons]
theorem sumK_drop (l : List Int) (i : Nat) (h : i < l.length) : sumK (l.drop i) = wd (l[i]).toNat + sumK (l.drop (i + 1)) := by rw [List.drop_eq_getElem_cons h, sumK_cons]
theorem lg_len (b : List Int) : b.length < lg b := by have := wd_pos b.length; unfold lg; omega
theorem size_l0 (b : Bool) (ks vs : List (List Int)) (ds : List Int) (hl : ks.length < 4611686018427387904) : ∀ (d k s i : Nat), i + d = ks.length → 12 ≤ k → s + sumL (ks.drop i) < 4611686018427387000 →
    node_size.l0 (k + d + 1) (s : Int) ks (ks.length : Int) (i : Int) b ks vs ds = node_size.l1 k ((s + sumL (ks.drop i) : Nat) : Int) vs (vs.length : Int) 0 b ks vs ds
  | 0, k, s, i, h, hk, hs => by
    simp only [node_size.l0]
    rw [if_neg (by omega), List.drop_of_length_le (by omega), sumL_nil, Nat.add_zero]
  | d + 1, k, s, i, h, hk, hs => by
    have hi : i < ks.length := by omega
    have e := sumL_drop ks i hi
    have hL := lg_len ks[i]
    obtain ⟨q, hq⟩ : ∃ q, k + (d + 1) = q := ⟨_, rfl⟩
    rw [hq]
    simp only [node_size.l0]
    rw [if_pos (by omega), if_pos (by omega), if_pos (by omega), rdL_at ks i hi, long_is _ (by omega) (by omega)]
    simp only [Option.bind_some]
    rw [w64 (by omega) (by omega), w64n i (by omega), show (s : Int) + (lg ks[i] : Int) = ((s + lg ks[i] : Nat) : Int) by omega, ← hq, show k + (d + 1) = k + d + 1 by omega, size_l0 b ks vs ds hl d k (s + lg ks[i]) (i + 1) (by omega) hk (by omega), e, Nat.add_assoc]
theorem size_l1 (b : Bool) (ks vs : List (List Int)) (ds : List Int) (hl : vs.length < 4611686018427387904) : ∀ (d k s i : Nat), i + d = vs.length → 12 ≤ k → s + sumL (vs.drop i) < 4611686018427387000 →
    node_size.l1 (k + d + 1) (s : Int) vs (vs.length : Int) (i : Int) b ks vs ds = node_size.l2 k ((s + sumL (vs.drop i) : Nat) : Int) ds (ds.length : Int) 0
  | 0, k, s, i, h, hk, hs => by
    simp only [node_size.l1]
    rw [if_neg (by omega), List.drop_of_length_le (by omega), sumL_nil, Nat.add_zero]
  | d + 1, k, s, i, h, hk, hs => by
    have hi : i < vs.length := by omega
    have e := sumL_drop vs i hi
    have hL := lg_len vs[i]
    obtain ⟨q, hq⟩ : ∃ q, k + (d + 1) = q := ⟨_, rfl⟩
    rw [hq]
    simp only [node_size.l1]
    rw [if_pos (by omega), if_pos (by omega), if_pos (by omega), rdL_at vs i hi, long_is _ (by omega) (by omega)]
    simp only [Option.bind_some]
    rw [w64 (by omega) (by omega), w64n i (by omega), show (s : Int) + (lg vs[i] : Int) = ((s + lg vs[i] : Nat) : Int) by omega, ← hq, show k + (d + 1) = k + d + 1 by omega, size_l1 b ks vs ds hl d k (s + lg vs[i]) (i + 1) (by omega) hk (by omega), e, Nat.add_assoc]
theorem size_l2 (ds : List Int) (hd : ∀ x ∈ ds, 0 ≤ x ∧ x < 4611686018427387904) (hl : ds.length < 4611686018427387904) : ∀ (d k s i : Nat), i + d = ds.length → 12 ≤ k → s + sumK (ds.drop i) < 4611686018427387000 →
    node_size.l2 (k + d + 1) (s : Int) ds (ds.length : Int) (i : Int) = some ((s + sumK (ds.drop i) : Nat) : Int)
  | 0, k, s, i, h, hk, hs => by
    simp only [node_size.l2]
    rw [if_neg (by omega), List.drop_of_length_le (by omega), sumK_nil, Nat.add_zero]
  | d + 1, k, s, i, h, hk, hs => by
    have hi : i < ds.length := by omega
    have e := sumK_drop ds i hi
    have hx := hd ds[i] (List.getElem_mem hi)
    have hw := width_is (k := k + (d + 1)) (ds[i]).toNat (by omega) (by omega)
    rw [show (((ds[i]).toNat : Nat) : Int) = ds[i] by omega] at hw
    obtain ⟨q, hq⟩ : ∃ q, k + (d + 1) = q := ⟨_, rfl⟩
    rw [hq]
    simp only [node_size.l2]
    rw [hq] at hw
    rw [if_pos (by omega), if_pos (by omega), if_pos (by omega), rdK_at ds i hi, hw]
    simp only [Option.bind_some]
    rw [w64 (by omega) (by omega), w64n i (by omega), show (s : Int) + (wd (ds[i]).toNat : Int) = ((s + wd (ds[i]).toNat : Nat) : Int) by omega, ← hq, show k + (d + 1) = k + d + 1 by omega, size_l2 ds hd hl d k (s + wd (ds[i]).toNat) (i + 1) (by omega) hk (by omega), e, Nat.add_assoc]
def sz (ks vs : List (List Int)) (ds : List Int) : Nat := 5 + wd ks.length + sumL ks + sumL vs + sumK ds
theorem len_sumL : ∀ (l : List (List Int)), l.length ≤ sumL l
  | [] => by simp
  | b :: l => by rw [sumL_cons]; have := len_sumL l; have := lg_len b; simp; omega
theorem len_sumK : ∀ (l : List Int), l.length ≤ sumK l
  | [] => by simp
  | b :: l => by rw [sumK_cons]; have := len_sumK l; have := wd_pos b.toNat; simp; omega
theorem size_is {k : Nat} (b : Bool) (ks vs : List (List Int)) (ds : List Int) (hd : ∀ x ∈ ds, 0 ≤ x ∧ x < 4611686018427387904) (hs : sz ks vs ds < 4611686018427387000) (hk : ks.length + vs.length + ds.length + 20 ≤ k) :
    node_size.f k b ks vs ds = some (sz ks vs ds : Int) := by
  have h1 := len_sumL ks
  have h2 := len_sumL vs
  have h3 := len_sumK ds
  unfold sz at hs
  obtain ⟨q, rfl⟩ : ∃ q, k = q + 12 + ds.length + 1 + vs.length + 1 + ks.length + 1 := ⟨k - (12 + ds.length + 1 + vs.length + 1 + ks.length + 1), by omega⟩
  unfold node_size.f
  rw [width_is _ (by omega) (by omega)]
  simp only [Option.bind_some]
  rw [w64 (x := 1 + (wd ks.length : Int)) (by omega) (by omega), w64 (by omega) (by omega), show (1 + (wd ks.length : Int) + 4) = ((5 + wd ks.length : Nat) : Int) by omega]
  have e0 := size_l0 b ks vs ds (by omega) ks.length (q + 12 + ds.length + 1 + vs.length + 1) (5 + wd ks.length) 0 (by omega) (by omega) (by rw [List.drop_zero]; omega)
  have e1 := size_l1 b ks vs ds (by omega) vs.length (q + 12 + ds.length + 1) (5 + wd ks.length + sumL ks) 0 (by omega) (by omega) (by rw [List.drop_zero]; omega)
  have e2 := size_l2 ds hd (by omega) ds.length (q + 12) (5 + wd ks.length + sumL ks + sumL vs) 0 (by omega) (by omega) (by rw [List.drop_zero]; omega)
  rw [List.drop_zero] at e0 e1 e2
  exact e0.trans (e1.trans e2)
end Go.Proofs.Ytcbgichkeecgiaa.Pure
set_option linter.unusedVariables false
namespace Go.Proofs.Ytcbgichkeecgiaa.Pure
open Go.RowKit Go.Proofs.Ytcbgichkeecgiaa.Print Go.Proofs.YtcbgichkeecgiaaW.PrintWords Go.Proofs.YtcbgichkeecgiaaW.PrintLast Go.Proofs.YtcbgichkeecgiaaW.PrintMore
def okF : Option (List Int) → List (List Int) → Bool
  | _, [] => true
  | none, a :: r => decide (a.length ≤ 256) && okF (some a) r
  | some q, a :: r => decide (a.length ≤ 256) && (decide (cmpL q a < 0) && okF (some a) r)
def prevK (ks : List (List Int)) (i : Nat) : Option (List Int) := if i = 0 then none else ks[i - 1]?
theorem any_l0 (l : List (List Int)) (hl : l.length < 4611686018427387904) : ∀ (d k i : Nat), i + d = l.length → d < k →
    ∃ r : Int, slices_IndexFunc_byte_byte.l0 k l 55 (l.length : Int) (i : Int) = some r ∧ decide (r ≥ 0) = (l.drop i).any fun v => decide (512 < v.length)
  | 0, k, i, h, hk => by
    obtain ⟨k, rfl⟩ : ∃ q, k = q + 1 := ⟨k - 1, by omega⟩
    refine ⟨-1, ?_, ?_⟩
    · simp only [slices_IndexFunc_byte_byte.l0]
      rw [if_neg (by omega)]
    · rw [List.drop_of_length_le (by omega)]; rfl
  | d + 1, k, i, h, hk => by
    obtain ⟨k, rfl⟩ : ∃ q, k = q + 1 := ⟨k - 1, by omega⟩
    have hi : i < l.length := by omega
    simp only [slices_IndexFunc_byte_byte.l0]
    rw [if_pos (by omega), if_pos (by omega), if_pos (by omega), rdL_at l i hi, List.drop_eq_getElem_cons hi, List.any_cons]
    simp only [call_T74.f, node_made_1.f, if_pos, Option.bind_some, decide_eq_true_eq]
    by_cases h1 : 512 < l[i].length
    · rw [if_pos (by omega)]
      exact ⟨_, rfl, by rw [decide_eq_true h1, Bool.true_or, decide_eq_true (by omega)]⟩
    · rw [if_neg (by omega), w64n i (by omega), decide_eq_false h1, Bool.false_or]
      exact any_l0 l hl d k (i + 1) (by omega) (by omega)
theorem anyK_l0 (l : List Int) (hl : l.length < 4611686018427387904) : ∀ (d k i : Nat), i + d = l.length → d < k →
    ∃ r : Int, slices_IndexFunc_int_int.l0 k l 57 (l.length : Int) (i : Int) = some r ∧ decide (r ≥ 0) = (l.drop i).any fun v => decide (v < 1 ∨ 1024 ≤ v)
  | 0, k, i, h, hk => by
    obtain ⟨k, rfl⟩ : ∃ q, k = q + 1 := ⟨k - 1, by omega⟩
    refine ⟨-1, ?_, ?_⟩
    · simp only [slices_IndexFunc_int_int.l0]
      rw [if_neg (by omega)]
    · rw [List.drop_of_length_le (by omega)]; rfl
  | d + 1, k, i, h, hk => by
    obtain ⟨k, rfl⟩ : ∃ q, k = q + 1 := ⟨k - 1, by omega⟩
    have hi : i < l.length := by omega
    have e : call_T66.f 57 l[i] = some (decide (l[i] < 1 ∨ 1024 ≤ l[i])) := by
      unfold call_T66.f node_made_2.f
      rw [if_pos rfl]
      by_cases h1 : l[i] < 1
      · rw [if_pos h1, decide_eq_true (Or.inl h1)]
      · rw [if_neg h1]
        by_cases h2 : 1024 ≤ l[i]
        · rw [decide_eq_true (show l[i] ≥ 1024 from h2), decide_eq_true (Or.inr h2)]
        · rw [decide_eq_false (show ¬ l[i] ≥ 1024 from h2), decide_eq_false (by omega)]
    simp only [slices_IndexFunc_int_int.l0]
    rw [if_pos (by omega), if_pos (by omega), if_pos (by omega), rdK_at l i hi, List.drop_eq_getElem_cons hi, List.any_cons, e]
    simp only [Option.bind_some]
    by_cases h1 : l[i] < 1 ∨ 1024 ≤ l[i]
    · rw [decide_eq_true h1, if_pos rfl]
      exact ⟨_, rfl, by rw [Bool.true_or, decide_eq_true (by omega)]⟩
    · rw [decide_eq_false h1, if_neg (by decide), w64n i (by omega), Bool.false_or]
      exact anyK_l0 l hl d k (i + 1) (by omega) (by omega)
theorem any_is {k : Nat} (l : List (List Int)) (hl : l.length < 4611686018427387904) (hk : l.length < k) : slices_ContainsFunc_byte_byte.f k l 55 = some (l.any fun v => decide (512 < v.length)) := by
  obtain ⟨r, h1, h2⟩ := any_l0 l hl l.length k 0 (by omega) hk
  unfold slices_ContainsFunc_byte_byte.f slices_IndexFunc_byte_byte.f
  have h1' : slices_IndexFunc_byte_byte.l0 k l 55 (l.length : Int) 0 = some r := h1
  rw [h1']
  simp only [Option.bind_some]
  rw [h2, List.drop_zero]
theorem anyK_is {k : Nat} (l : List Int) (hl : l.length < 4611686018427387904) (hk : l.length < k) : slices_ContainsFunc_int_int.f k l 57 = some (l.any fun v => decide (v < 1 ∨ 1024 ≤ v)) := by
  obtain ⟨r, h1, h2⟩ := anyK_l0 l hl l.length k 0 (by omega) hk
  unfold slices_ContainsFunc_int_int.f slices_IndexFunc_int_int.f
  have h1' : slices_IndexFunc_int_int.l0 k l 57 (l.length : Int) 0 = some r := h1
  rw [h1']
  simp only [Option.bind_some]
  rw [h2, List.drop_zero]
def shapeP (b : Bool) (ks vs : List (List Int)) (ds : List Int) : Bool :=
  if b then decide (vs.length = ks.length) && decide (ds.length = 0) else decide (0 < ks.length) && (decide (ds.length = ks.length + 1) && decide (vs.length = 0))
def okP (b : Bool) (ks vs : List (List Int)) (ds : List Int) : Bool :=
  okF none ks && (!(vs.any fun v => decide (512 < v.length)) && (!(ds.any fun v => decide (v < 1 ∨ 1024 ≤ v)) && shapeP b ks vs ds))
theorem made_j1 (k : Nat) (x b : Bool) (ks vs : List (List Int)) (ds : List Int) (hl : ks.length < 4611686018427387904) : node_made.j1 (k + 1) x b ks vs ds = some (!x && shapeP b ks vs ds) := by
  cases x
  · cases b
    · simp only [node_made.j1, shapeP, Bool.false_eq_true, if_false, Bool.not_false, Bool.true_and]
      rw [w64n _ (by omega)]
      by_cases h1 : 0 < ks.length
      · rw [if_pos (by omega), decide_eq_true h1]
        by_cases h2 : ds.length = ks.length + 1
        · rw [if_pos (by omega), decide_eq_true h2]
          by_cases h3 : vs.length = 0
          · rw [h3]; rfl
          · rw [decide_eq_false h3, beq_false_of_ne (by omega)]; rfl
        · rw [if_neg (by omega), decide_eq_false h2]; rfl
      · rw [if_neg (by omega), decide_eq_false h1]; rfl
    · simp only [node_made.j1, shapeP, Bool.false_eq_true, if_false, if_true, Bool.not_false, Bool.true_and]
      by_cases h2 : vs.length = ks.length
      · rw [if_pos (by omega), decide_eq_true h2]
        by_cases h3 : ds.length = 0
        · rw [h3]; rfl
        · rw [decide_eq_false h3, beq_false_of_ne (by omega)]; rfl
      · rw [if_neg (by omega), decide_eq_false h2]; rfl
  · simp only [node_made.j1, if_true]; rfl
theorem made_l0 (b : Bool) (ks vs : List (List Int)) (ds : List Int) (hks : ∀ x ∈ ks, BytesL x) (hl : ks.length < 4611686018427387904) (hv : vs.length < 4611686018427387904) (hd : ds.length < 4611686018427387904) : ∀ (d k i : Nat), i + d = ks.length → vs.length < k → ds.length < k → 0 < k →
    node_made.l0 (k + d + 1) ks (ks.length : Int) (i : Int) b ks vs ds = some (okF (prevK ks i) (ks.drop i) && (!(vs.any fun v => decide (512 < v.length)) && (!(ds.any fun v => decide (v < 1 ∨ 1024 ≤ v)) && shapeP b ks vs ds)))
  | 0, k, i, h, hk, hk2, hk3 => by
    simp only [node_made.l0]
    obtain ⟨q, rfl⟩ : ∃ q, k = q + 1 := ⟨k - 1, by omega⟩
    have hF : okF (prevK ks i) (ks.drop i) = true := by rw [List.drop_of_length_le (by omega)]; cases prevK ks i <;> rfl
    rw [if_neg (by omega), Nat.add_zero, any_is vs hv hk, hF, Bool.true_and]
    simp only [Option.bind_some]
    cases hc : vs.any fun v => decide (512 < v.length)
    · rw [if_neg (by decide), anyK_is ds hd hk2]
      simp only [Option.bind_some]
      rw [made_j1 _ _ _ _ _ _ hl]; rfl
    · rw [if_pos rfl, made_j1 _ _ _ _ _ _ hl]; rfl
  | d + 1, k, i, h, hk, hk2, hk3 => by
    have hi : i < ks.length := by omega
    obtain ⟨q, hq⟩ : ∃ q, k + (d + 1) = q := ⟨_, rfl⟩
    rw [hq]
    simp only [node_made.l0]
    rw [if_pos (by omega), if_pos (by omega), if_pos (by omega), rdL_at ks i hi, ← hq, show k + (d + 1) = k + d + 1 by omega, w64n i (by omega), made_l0 b ks vs ds hks hl hv hd d k (i + 1) (by omega) hk hk2 hk3, List.drop_eq_getElem_cons hi]
    have hp : prevK ks (i + 1) = some ks[i] := by unfold prevK; rw [if_neg (by omega), Nat.add_sub_cancel, List.getElem?_eq_getElem hi]
    rw [hp]
    by_cases h1 : 256 < ks[i].length
    · rw [if_pos (by omega)]
      cases prevK ks i <;> simp only [okF] <;> rw [decide_eq_false (by omega)] <;> rfl
    · rw [if_neg (by omega)]
      by_cases h0 : i = 0
      · subst h0
        rw [if_neg (by omega)]
        have : prevK ks 0 = none := rfl
        rw [this]
        simp only [okF]
        rw [decide_eq_true (show ks[0].length ≤ 256 by omega), Bool.true_and]
      · have hi1 : i - 1 < ks.length := by omega
        have hp2 : prevK ks i = some ks[i - 1] := by unfold prevK; rw [if_neg h0, List.getElem?_eq_getElem hi1]
        rw [if_pos (by omega), hp2, w64 (by omega) (by omega), show ((i : Int) - 1) = ((i - 1 : Nat) : Int) by omega, if_pos (by omega), if_pos (by omega), rdL_at ks (i - 1) hi1]
        unfold bytes_Compare.f
        rw [cmpB _ _ (hks _ (List.getElem_mem hi1)) (hks _ (List.getElem_mem hi))]
        simp only [Option.bind_some, okF]
        rw [decide_eq_true (show ks[i].length ≤ 256 by omega), Bool.true_and]
        by_cases h2 : cmpL ks[i - 1] ks[i] < 0
        · rw [if_neg (by omega), decide_eq_true h2, Bool.true_and]
        · rw [if_pos (by omega), decide_eq_false h2]; rfl
theorem made_is {k : Nat} (b : Bool) (ks vs : List (List Int)) (ds : List Int) (hks : ∀ x ∈ ks, BytesL x) (hl : ks.length < 4611686018427387904) (hv : vs.length < 4611686018427387904) (hd : ds.length < 4611686018427387904)
    (hk : ks.length + vs.length + ds.length + 20 ≤ k) : node_made.f k b ks vs ds = some (okP b ks vs ds) := by
  obtain ⟨q, rfl⟩ : ∃ q, k = q + ks.length + 1 := ⟨k - ks.length - 1, by omega⟩
  have := made_l0 b ks vs ds hks hl hv hd ks.length q 0 (by omega) (by omega) (by omega) (by omega)
  rw [List.drop_zero] at this
  exact this
theorem okP_kids {b : Bool} {ks vs : List (List Int)} {ds : List Int} (h : okP b ks vs ds = true) : ∀ x ∈ ds, 0 ≤ x ∧ x < 4611686018427387904 := by
  unfold okP at h
  simp only [Bool.and_eq_true, Bool.not_eq_true', List.any_eq_false, decide_eq_true_eq] at h
  intro x hx
  have := h.2.2.1 x hx
  omega
def chk (b : Bool) (ks vs : List (List Int)) (ds : List Int) : Int := if okP b ks vs ds = true then (if 4096 < sz ks vs ds then 7 else 0) else 2
theorem check_is {k : Nat} (b : Bool) (ks vs : List (List Int)) (ds : List Int) (hks : ∀ x ∈ ks, BytesL x) (hs : okP b ks vs ds = true → sz ks vs ds < 4611686018427387000) (hl : ks.length < 4611686018427387904) (hv : vs.length < 4611686018427387904) (hd : ds.length < 4611686018427387904)
    (hk : ks.length + vs.length + ds.length + 20 ≤ k) : node_Check.f k b ks vs ds = some (chk b ks vs ds) := by
  unfold node_Check.f chk
  rw [made_is b ks vs ds hks hl hv hd hk]
  simp only [Option.bind_some]
  cases ho : okP b ks vs ds
  · rw [if_neg (by decide), if_neg (by decide)]
  · rw [if_pos rfl, if_pos rfl, size_is b ks vs ds (okP_kids ho) (hs ho) hk]
    simp only [Option.bind_some]
    by_cases h1 : 4096 < sz ks vs ds
    · rw [if_pos (by omega), if_pos h1]
    · rw [if_neg (by omega), if_neg h1]
theorem own_l1 (b : Bool) (ks vs : List (List Int)) (ds : List Int) (hl : vs.length < 5864062014805) (hv : ∀ x ∈ vs, x.length ≤ 140737488355327) : ∀ (d k i : Nat), i + d = vs.length → d < k →
    node_own.l1 k vs (vs.length : Int) (i : Int) b ks (vs.take i) ds = some (b, ks, vs, ds)
  | 0, k, i, h, hk => by
    obtain ⟨k, rfl⟩ : ∃ q, k = q + 1 := ⟨k - 1, by omega⟩
    simp only [node_own.l1]
    rw [if_neg (by omega), List.take_of_length_le (by omega)]
  | d + 1, k, i, h, hk => by
    obtain ⟨k, rfl⟩ : ∃ q, k = q + 1 := ⟨k - 1, by omega⟩
    have hi : i < vs.length := by omega
    have hc : bytes_Clone.f vs[i] = some vs[i] := by unfold bytes_Clone.f; rw [if_pos (hv _ (List.getElem_mem hi))]
    simp only [node_own.l1]
    rw [if_pos (by omega), if_pos (by omega), if_pos (by omega), rdL_at vs i hi, hc]
    simp only [Option.bind_some]
    rw [if_pos (by rw [List.length_take]; omega), w64n i (by omega), List.take_append_getElem hi]
    exact own_l1 b ks vs ds hl hv d k (i + 1) (by omega) (by omega)
theorem own_l0 (b : Bool) (ks vs : List (List Int)) (ds : List Int) (hl0 : ks.length < 5864062014805) (hks : ∀ x ∈ ks, x.length ≤ 140737488355327) (hl : vs.length < 5864062014805) (hv : ∀ x ∈ vs, x.length ≤ 140737488355327) : ∀ (d k i : Nat), i + d = ks.length → d + vs.length + 1 < k →
    node_own.l0 k ks (ks.length : Int) (i : Int) b ks vs ds b (ks.take i) ds = some (b, ks, vs, ds)
  | 0, k, i, h, hk => by
    obtain ⟨k, rfl⟩ : ∃ q, k = q + 1 := ⟨k - 1, by omega⟩
    simp only [node_own.l0]
    rw [if_neg (by omega), List.take_of_length_le (by omega)]
    exact own_l1 b ks vs ds hl hv vs.length k 0 (by omega) (by omega)
  | d + 1, k, i, h, hk => by
    obtain ⟨k, rfl⟩ : ∃ q, k = q + 1 := ⟨k - 1, by omega⟩
    have hi : i < ks.length := by omega
    have hc : bytes_Clone.f ks[i] = some ks[i] := by unfold bytes_Clone.f; rw [if_pos (hks _ (List.getElem_mem hi))]
    simp only [node_own.l0]
    rw [if_pos (by omega), if_pos (by omega), if_pos (by omega), rdL_at ks i hi, hc]
    simp only [Option.bind_some]
    rw [if_pos (by rw [List.length_take]; omega), w64n i (by omega), List.take_append_getElem hi]
    exact own_l0 b ks vs ds hl0 hks hl hv d k (i + 1) (by omega) (by omega)
theorem own_is {k : Nat} (b : Bool) (ks vs : List (List Int)) (ds : List Int) (hl0 : ks.length < 5864062014805) (hks : ∀ x ∈ ks, x.length ≤ 140737488355327) (hl : vs.length < 5864062014805) (hv : ∀ x ∈ vs, x.length ≤ 140737488355327) (hd : ds.length * 8 ≤ 140737488355328)
    (hk : ks.length + vs.length + 20 ≤ k) : node_own.f k b ks vs ds = some (b, ks, vs, ds) := by
  unfold node_own.f slices_Clone_int_int.f
  rw [if_pos hd]
  simp only [Option.bind_some]
  exact own_l0 b ks vs ds hl0 hks hl hv ks.length k 0 (by omega) (by omega)
end Go.Proofs.Ytcbgichkeecgiaa.Pure
set_option linter.unusedVariables false
namespace Go.Proofs.Ytcbgichkeecgiaa.Pure
open Go.RowKit Go.Proofs.Ytcbgichkeecgiaa.Print Go.Proofs.YtcbgichkeecgiaaW.PrintWords Go.Proofs.YtcbgichkeecgiaaW.PrintLast Go.Proofs.YtcbgichkeecgiaaW.PrintMore
def Rise (l : List (List Int)) : Prop := l.Pairwise fun a b => cmpL a b < 0
theorem okF_some : ∀ (l : List (List Int)) (q : List Int), okF (some q) l = true ↔ (∀ x ∈ l, x.length ≤ 256) ∧ Rise (q :: l)
  | [], q => by simp [okF, Rise]
  | a :: r, q => by
    have ih := okF_some r a
    unfold okF
    rw [Bool.and_eq_true, Bool.and_eq_true, decide_eq_true_eq, decide_eq_true_eq, ih]
    unfold Rise
    rw [List.pairwise_cons (a := q)]
    constructor
    · rintro ⟨h1, h2, h3, h4⟩
      refine ⟨fun x hx => ?_, fun x hx => ?_, h4⟩
      · rcases List.mem_cons.1 hx with rfl | hx
        · exact h1
        · exact h3 x hx
      · rcases List.mem_cons.1 hx with rfl | hx
        · exact h2
        · exact cmpL_trans q a x h2 ((List.pairwise_cons.1 h4).1 x hx)
    · rintro ⟨h1, h2, h3⟩
      exact ⟨h1 a (by simp), h2 a (by simp), fun x hx => h1 x (by simp [hx]), h3⟩
theorem okF_none (l : List (List Int)) : okF none l = true ↔ (∀ x ∈ l, x.length ≤ 256) ∧ Rise l := by
  cases l with
  | nil => simp [okF, Rise]
  | cons a r =>
    unfold okF
    rw [Bool.and_eq_true, decide_eq_true_eq, okF_some]
    constructor
    · rintro ⟨h1, h2, h3⟩
      refine ⟨fun x hx => ?_, h3⟩
      rcases List.mem_cons.1 hx with rfl | hx
      · exact h1
      · exact h2 x hx
    · rintro ⟨h1, h2⟩
      exact ⟨h1 a (by simp), fun x hx => h1 x (by simp [hx]), h2⟩
def bel (key : List Int) : List (List Int) → Nat
  | [] => 0
  | a :: r => if cmpL a key < 0 then bel key r + 1 else 0
theorem bel_le (key : List Int) : ∀ l, bel key l ≤ l.length
  | [] => by simp [bel]
  | a :: r => by have := bel_le key r; unfold bel; split <;> simp <;> omega
theorem bel_spec (key : List Int) : ∀ (l : List (List Int)), Rise l → ∀ (i : Nat) (hi : i < l.length), (cmpL l[i] key < 0 ↔ i < bel key l)
  | [], _, i, hi => by simp at hi
  | a :: r, h, i, hi => by
    obtain ⟨h1, h2⟩ := List.pairwise_cons.1 h
    unfold bel
    cases i with
    | zero => by_cases hc : cmpL a key < 0 <;> simp [hc]
    | succ i =>
      have hi' : i < r.length := by simpa using hi
      have ih := bel_spec key r h2 i hi'
      rw [List.getElem_cons_succ]
      by_cases hc : cmpL a key < 0
      · rw [if_pos hc, ih]; omega
      · rw [if_neg hc]
        refine ⟨fun hx => absurd (cmpL_trans a _ key (h1 _ (List.getElem_mem hi')) hx) hc, fun hx => by omega⟩
theorem bel_eq (key : List Int) (l : List (List Int)) (n : Nat) (h : Rise l) (hn : n ≤ l.length) (h1 : ∀ (i : Nat) (hi : i < l.length), i < n → cmpL l[i] key < 0) (h2 : ∀ (i : Nat) (hi : i < l.length), n ≤ i → ¬ cmpL l[i] key < 0) : bel key l = n := by
  have hle := bel_le key l
  rcases Nat.lt_trichotomy (bel key l) n with hlt | heq | hgt
  · exact absurd ((bel_spec key l h (bel key l) (by omega)).1 (h1 _ (by omega) hlt)) (by omega)
  · exact heq
  · exact absurd ((bel_spec key l h n (by omega)).2 hgt) (h2 n (by omega) (Nat.le_refl _))
theorem bel_mem {key : List Int} {l : List (List Int)} (h : Rise l) (hm : key ∈ l) : ∃ hi : bel key l < l.length, l[bel key l] = key := by
  obtain ⟨j, hj, e⟩ := List.getElem_of_mem hm
  have : bel key l = j := by
    refine bel_eq key l j h (by omega) (fun i hi hij => ?_) (fun i hi hij => ?_)
    · rw [← e]; exact List.pairwise_iff_getElem.1 h i j hi hj hij
    · rcases Nat.eq_or_lt_of_le hij with rfl | hlt
      · rw [e]; exact cmpL_irr key
      · intro hc
        have h2 := List.pairwise_iff_getElem.1 h j i hj hi hlt
        rw [e] at h2
        exact cmpL_irr key (cmpL_trans _ _ _ h2 hc)
  subst this
  exact ⟨hj, e⟩
theorem at_is (ks : List (List Int)) (key : List Int) (h : Rise ks) (hks : ∀ x ∈ ks, BytesL x) (hk : BytesL key) (hl : ks.length < 4611686018427387904) : node_place.at_ ks key = bel key ks := by
  unfold node_place.at_
  refine bsN_spec _ (bel key ks) 64 0 ks.length (Nat.zero_le _) (by omega) (Nat.zero_le _) (bel_le _ _) fun i hi => ?_
  unfold node_place.P node_place.cmp
  rw [rdL_at ks i hi, cmpB _ _ (hks _ (List.getElem_mem hi)) hk, decide_eq_true_eq]
  exact bel_spec key ks h i hi
theorem place_is (b : Bool) (ks vs : List (List Int)) (ds : List Int) (key : List Int) (h : Rise ks) (hks : ∀ x ∈ ks, BytesL x) (hk : BytesL key) (hl : ks.length < 4611686018427387904) :
    node_place.f b ks vs ds key = some ((bel key ks : Int), decide (key ∈ ks)) := by
  unfold node_place.f
  rw [if_pos (by omega), at_is ks key h hks hk hl]
  congr 2
  by_cases hi : bel key ks < ks.length
  · rw [rdL_at ks _ hi, str_beq _ _ (hks _ (List.getElem_mem hi)) hk, decide_eq_true hi, Bool.true_and]
    by_cases hm : key ∈ ks
    · obtain ⟨_, e⟩ := bel_mem h hm
      rw [decide_eq_true hm, decide_eq_true e]
    · rw [decide_eq_false hm, decide_eq_false (fun e => hm (by rw [← e]; exact List.getElem_mem hi))]
  · rw [decide_eq_false hi, Bool.false_and, decide_eq_false (fun hm => hi (bel_mem h hm).1)]
structure Bd (ks vs : List (List Int)) (ds : List Int) : Prop where
  kl : ks.length ≤ 1048576
  vl : vs.length ≤ 1048576
  dl : ds.length ≤ 1048576
  kb : ∀ x ∈ ks, x.length ≤ 1048576 ∧ BytesL x
  vb : ∀ x ∈ vs, x.length ≤ 1048576 ∧ BytesL x
theorem sumL_le : ∀ (l : List (List Int)), (∀ x ∈ l, x.length ≤ 1048576) → sumL l ≤ l.length * 1048600
  | [], _ => by simp [sumL_nil]
  | a :: r, h => by
    have ih := sumL_le r (fun x hx => h x (by simp [hx]))
    have ha := h a (by simp)
    have hw := wd_le9 (n := a.length) (by omega)
    rw [sumL_cons, List.length_cons]
    unfold lg
    omega
theorem sumK_le : ∀ (l : List Int), (∀ x ∈ l, 0 ≤ x ∧ x < 4611686018427387904) → sumK l ≤ l.length * 9
  | [], _ => by simp [sumK_nil]
  | a :: r, h => by
    have ih := sumK_le r (fun x hx => h x (by simp [hx]))
    have ha := h a (by simp)
    have hw := wd_le9 (n := a.toNat) (by omega)
    rw [sumK_cons, List.length_cons]
    omega
theorem Bd.sz {ks vs : List (List Int)} {ds : List Int} (h : Bd ks vs ds) (hd : ∀ x ∈ ds, 0 ≤ x ∧ x < 4611686018427387904) : sz ks vs ds < 4611686018427387000 := by
  have h1 := sumL_le ks (fun x hx => (h.kb x hx).1)
  have h2 := sumL_le vs (fun x hx => (h.vb x hx).1)
  have h3 := sumK_le ds hd
  have h4 := wd_le9 (n := ks.length) (by have := h.kl; omega)
  have := h.kl
  have := h.vl
  have := h.dl
  unfold Pure.sz
  omega
theorem Bd.check {ks vs : List (List Int)} {ds : List Int} (h : Bd ks vs ds) (b : Bool) {k : Nat} (hk : 4000000 ≤ k) : node_Check.f k b ks vs ds = some (chk b ks vs ds) := by
  have := h.kl
  have := h.vl
  have := h.dl
  exact check_is b ks vs ds (fun x hx => (h.kb x hx).2) (fun ho => h.sz (okP_kids ho)) (by omega) (by omega) (by omega) (by omega)
structure Good (b : Bool) (ks vs : List (List Int)) (ds : List Int) : Prop where
  ok : okP b ks vs ds = true
  small : sz ks vs ds ≤ 4096
  rise : Rise ks
  klen : ∀ x ∈ ks, x.length ≤ 256
  vlen : ∀ x ∈ vs, x.length ≤ 512
  shape : shapeP b ks vs ds = true
theorem chk_good {b : Bool} {ks vs : List (List Int)} {ds : List Int} (h : chk b ks vs ds = 0) : Good b ks vs ds := by
  unfold chk at h
  by_cases ho : okP b ks vs ds = true
  · rw [if_pos ho] at h
    by_cases hs : 4096 < sz ks vs ds
    · rw [if_pos hs] at h; exact absurd h (by decide)
    · have ho2 := ho
      unfold okP at ho
      simp only [Bool.and_eq_true, Bool.not_eq_true', List.any_eq_false, decide_eq_true_eq, okF_none] at ho
      exact ⟨ho2, by omega, ho.1.2, ho.1.1, fun x hx => by have := ho.2.1 x hx; omega, ho.2.2.2⟩
  · rw [if_neg ho] at h; exact absurd h (by decide)
theorem good_chk {b : Bool} {ks vs : List (List Int)} {ds : List Int} (ho : okP b ks vs ds = true) (hs : sz ks vs ds ≤ 4096) : chk b ks vs ds = 0 := by
  unfold chk
  rw [if_pos ho, if_neg (by omega)]
theorem Good.leaf {ks vs : List (List Int)} {ds : List Int} (h : Good true ks vs ds) : vs.length = ks.length ∧ ds = [] := by
  have := h.shape
  unfold shapeP at this
  simp only [if_true, Bool.and_eq_true, decide_eq_true_eq, List.length_eq_zero_iff] at this
  exact this
theorem leaf_ok {ks vs : List (List Int)} (h1 : Rise ks) (h2 : ∀ x ∈ ks, x.length ≤ 256) (h3 : ∀ x ∈ vs, x.length ≤ 512) (h4 : vs.length = ks.length) : okP true ks vs [] = true := by
  unfold okP shapeP
  simp only [Bool.and_eq_true, Bool.not_eq_true', List.any_eq_false, decide_eq_true_eq, okF_none, if_true]
  refine ⟨⟨h2, h1⟩, fun x hx => (by have := h3 x hx; omega), fun x hx => (by cases hx), h4, rfl⟩
theorem Good.lens {b : Bool} {ks vs : List (List Int)} {ds : List Int} (h : Good b ks vs ds) : ks.length ≤ 4096 ∧ vs.length ≤ 4096 ∧ ds.length ≤ 4096 := by
  have h1 := len_sumL ks
  have h2 := len_sumL vs
  have h3 := len_sumK ds
  have := h.small
  unfold Pure.sz at this
  omega
def fnd (b : Bool) (ks vs : List (List Int)) (ds : List Int) (key : List Int) : Int × Bool × Int :=
  if chk b ks vs ds = 0 then (if key ∈ ks ∧ b = false then ((bel key ks + 1 : Nat) : Int) else (bel key ks : Int), decide (key ∈ ks), 0) else (0, false, chk b ks vs ds)
theorem find_is {ks vs : List (List Int)} {ds : List Int} (h : Bd ks vs ds) (b : Bool) (key : List Int) (hk : BytesL key) {k : Nat} (hf : 4000000 ≤ k) : node_Find.f k b ks vs ds key = some (fnd b ks vs ds key) := by
  unfold node_Find.f fnd
  rw [h.check b hf]
  simp only [Option.bind_some]
  by_cases hc : chk b ks vs ds = 0
  · have hg := chk_good hc
    have hl := hg.lens
    have hle := bel_le key ks
    rw [if_pos hc, if_pos hc, place_is b ks vs ds key hg.rise (fun x hx => (h.kb x hx).2) hk (by omega)]
    simp only [Option.bind_some, decide_eq_true_eq]
    by_cases hm : key ∈ ks
    · rw [if_pos hm]
      cases b
      · rw [if_neg (by decide), if_pos ⟨hm, rfl⟩, w64n _ (by omega)]
      · rw [if_pos rfl, if_neg (fun hx => by cases hx.2)]
    · rw [if_neg hm, if_neg (fun hx => hm hx.1)]
  · rw [if_neg hc, if_neg hc]
theorem Bd.own {ks vs : List (List Int)} {ds : List Int} (h : Bd ks vs ds) (b : Bool) {k : Nat} (hf : 4000000 ≤ k) : node_own.f k b ks vs ds = some (b, ks, vs, ds) := by
  have := h.kl
  have := h.vl
  have := h.dl
  exact own_is b ks vs ds (by omega) (fun x hx => by have := (h.kb x hx).1; omega) (by omega) (fun x hx => by have := (h.vb x hx).1; omega) (by omega) (by omega)
end Go.Proofs.Ytcbgichkeecgiaa.Pure
set_option linter.unusedVariables false
namespace Go.Proofs.Ytcbgichkeecgiaa.Pure
open Go.RowKit Go.Proofs.Ytcbgichkeecgiaa.Print Go.Proofs.YtcbgichkeecgiaaW.PrintWords Go.Proofs.YtcbgichkeecgiaaW.PrintLast Go.Proofs.YtcbgichkeecgiaaW.PrintMore
theorem wd_mono : ∀ (m n : Nat), n ≤ m → wd n ≤ wd m := by
  intro m
  induction m using Nat.strongRecOn with
  | _ m ih =>
    intro n h
    by_cases h1 : n ≤ 127
    · rw [wd_small h1]; exact wd_pos m
    · rw [wd_big h1, wd_big (n := m) (by omega)]
      have := ih (m / 128) (by omega) (n / 128) (by omega)
      omega
end Go.Proofs.Ytcbgichkeecgiaa.Pure
set_option linter.unusedVariables false
namespace Go.Proofs.Ytcbgichkeecgiaa.Pure
open Go.RowKit Go.Proofs.Ytcbgichkeecgiaa.Print Go.Proofs.YtcbgichkeecgiaaW.PrintWords Go.Proofs.YtcbgichkeecgiaaW.PrintLast Go.Proofs.YtcbgichkeecgiaaW.PrintMore
theorem same_l2 (b : Bool) (ks vs : List (List Int)) (ds : List Int) (hl : ds.length < 4611686018427387904) : ∀ (d k i : Nat), i + d = ds.length → d < k → ladingref06_Same.l2 k (ds.length : Int) (i : Int) b ks vs ds b ks vs ds = some true
  | 0, k, i, h, hk => by
    obtain ⟨k, rfl⟩ : ∃ q, k = q + 1 := ⟨k - 1, by omega⟩
    simp only [ladingref06_Same.l2]
    rw [if_neg (by omega)]
  | d + 1, k, i, h, hk => by
    obtain ⟨k, rfl⟩ : ∃ q, k = q + 1 := ⟨k - 1, by omega⟩
    simp only [ladingref06_Same.l2]
    rw [if_pos (by omega), if_pos (by omega), if_pos (by omega), if_pos (by omega), if_pos trivial, w64n i (by omega)]
    exact same_l2 b ks vs ds hl d k (i + 1) (by omega) (by omega)
theorem same_l1 (b : Bool) (ks vs : List (List Int)) (ds : List Int) (hl : ds.length < 4611686018427387904) (hv : vs.length < 4611686018427387904) : ∀ (d k i : Nat), i + d = vs.length → d + ds.length + 1 < k → ladingref06_Same.l1 k (vs.length : Int) (i : Int) b ks vs ds b ks vs ds = some true
  | 0, k, i, h, hk => by
    obtain ⟨k, rfl⟩ : ∃ q, k = q + 1 := ⟨k - 1, by omega⟩
    simp only [ladingref06_Same.l1]
    rw [if_neg (by omega)]
    exact same_l2 b ks vs ds hl ds.length k 0 (by omega) (by omega)
  | d + 1, k, i, h, hk => by
    obtain ⟨k, rfl⟩ : ∃ q, k = q + 1 := ⟨k - 1, by omega⟩
    simp only [ladingref06_Same.l1]
    rw [if_pos (by omega), if_pos (by omega), if_pos (by omega), if_pos (by omega), if_pos trivial, w64n i (by omega)]
    exact same_l1 b ks vs ds hl hv d k (i + 1) (by omega) (by omega)
theorem same_l0 (b : Bool) (ks vs : List (List Int)) (ds : List Int) (hl : ds.length < 4611686018427387904) (hv : vs.length < 4611686018427387904) (hk0 : ks.length < 4611686018427387904) : ∀ (d k i : Nat), i + d = ks.length → d + vs.length + ds.length + 2 < k → ladingref06_Same.l0 k (ks.length : Int) (i : Int) b ks vs ds b ks vs ds = some true
  | 0, k, i, h, hk => by
    obtain ⟨k, rfl⟩ : ∃ q, k = q + 1 := ⟨k - 1, by omega⟩
    simp only [ladingref06_Same.l0]
    rw [if_neg (by omega)]
    exact same_l1 b ks vs ds hl hv vs.length k 0 (by omega) (by omega)
  | d + 1, k, i, h, hk => by
    obtain ⟨k, rfl⟩ : ∃ q, k = q + 1 := ⟨k - 1, by omega⟩
    simp only [ladingref06_Same.l0]
    rw [if_pos (by omega), if_pos (by omega), if_pos (by omega), if_pos (by omega), if_pos trivial, w64n i (by omega)]
    exact same_l0 b ks vs ds hl hv hk0 d k (i + 1) (by omega) (by omega)
theorem same_self {k : Nat} (b : Bool) (ks vs : List (List Int)) (ds : List Int) (hl : ds.length < 4611686018427387904) (hv : vs.length < 4611686018427387904) (hk0 : ks.length < 4611686018427387904) (hk : ks.length + vs.length + ds.length + 20 ≤ k) :
    ladingref06_Same.f k b ks vs ds b ks vs ds = some true := by
  unfold ladingref06_Same.f
  rw [if_neg (show ¬ (b != b) = true by simp), if_pos rfl, if_pos rfl]
  have : ((ds.length : Int) != (ds.length : Int)) = false := by simp
  rw [this]
  obtain ⟨k, rfl⟩ : ∃ q, k = q + 1 := ⟨k - 1, by omega⟩
  simp only [ladingref06_Same.j0]
  rw [if_neg (by decide)]
  exact same_l0 b ks vs ds hl hv hk0 ks.length k 0 (by omega) (by omega)
theorem bytes_is (l : List Int) (h : l.length < 140737488355328) : ladingref06_bytes.f l = some l := by
  unfold ladingref06_bytes.f
  simp only [Option.bind_some]
  rw [if_pos (by simp; omega), List.nil_append]
theorem lists_l0 (l : List (List Int)) (hl : l.length < 5864062014805) (hb : ∀ x ∈ l, x.length < 140737488355328) : ∀ (d k i : Nat), i + d = l.length → d < k → ladingref06_lists.l0 k (l.take i) l (l.length : Int) (i : Int) = some l
  | 0, k, i, h, hk => by
    obtain ⟨k, rfl⟩ : ∃ q, k = q + 1 := ⟨k - 1, by omega⟩
    simp only [ladingref06_lists.l0]
    rw [if_neg (by omega), List.take_of_length_le (by omega)]
  | d + 1, k, i, h, hk => by
    obtain ⟨k, rfl⟩ : ∃ q, k = q + 1 := ⟨k - 1, by omega⟩
    have hi : i < l.length := by omega
    simp only [ladingref06_lists.l0]
    rw [if_pos (by omega), if_pos (by omega), if_pos (by omega), rdL_at l i hi, bytes_is _ (hb _ (List.getElem_mem hi))]
    simp only [Option.bind_some]
    rw [if_pos (by rw [List.length_take]; omega), w64n i (by omega), List.take_append_getElem hi]
    exact lists_l0 l hl hb d k (i + 1) (by omega) (by omega)
theorem lists_is {k : Nat} (l : List (List Int)) (hl : l.length < 5864062014805) (hb : ∀ x ∈ l, x.length < 140737488355328) (hk : l.length < k) : ladingref06_lists.f k l = some l := by
  unfold ladingref06_lists.f
  exact lists_l0 l hl hb l.length k 0 (by omega) hk
theorem Bd.copy {ks vs : List (List Int)} {ds : List Int} (h : Bd ks vs ds) (b : Bool) {k : Nat} (hf : 4000000 ≤ k) : ladingref06_Copy.f k b ks vs ds = some (b, ks, vs, ds) := by
  have := h.kl
  have := h.vl
  have := h.dl
  unfold ladingref06_Copy.f
  rw [lists_is ks (by omega) (fun x hx => by have := (h.kb x hx).1; omega) (by omega), lists_is vs (by omega) (fun x hx => by have := (h.vb x hx).1; omega) (by omega)]
  simp only [Option.bind_some]
  rw [if_pos (by simp; omega), List.nil_append]
end Go.Proofs.Ytcbgichkeecgiaa.Pure
set_option linter.unusedVariables false
namespace Go.Proofs.Ytcbgichkeecgiaa.Pure
open Go.RowKit Go.Proofs.Ytcbgichkeecgiaa.Print Go.Proofs.YtcbgichkeecgiaaW.PrintWords
theorem some_bind2 {α β : Type} (a : α) (f : α → Option β) : (some a).bind f = f a := rfl
theorem sumL_take (l : List (List Int)) (n : Nat) : sumL (l.take n) ≤ sumL l := by
  have := sumL_append (l.take n) (l.drop n)
  rw [List.take_append_drop] at this
  omega
theorem sumL_dropl (l : List (List Int)) (n : Nat) : sumL (l.drop n) ≤ sumL l := by
  have := sumL_append (l.take n) (l.drop n)
  rw [List.take_append_drop] at this
  omega
theorem sumK_append (a b : List Int) : sumK (a ++ b) = sumK a + sumK b := by simp [sumK]
theorem sumK_take (l : List Int) (n : Nat) : sumK (l.take n) ≤ sumK l := by
  have := sumK_append (l.take n) (l.drop n)
  rw [List.take_append_drop] at this
  omega
theorem sumK_dropl (l : List Int) (n : Nat) : sumK (l.drop n) ≤ sumK l := by
  have := sumK_append (l.take n) (l.drop n)
  rw [List.take_append_drop] at this
  omega
theorem sz_take (ks vs : List (List Int)) (ds : List Int) (a b c : Nat) : sz (ks.take a) (vs.take b) (ds.take c) ≤ sz ks vs ds := by
  unfold sz
  have := wd_mono ks.length (ks.take a).length (by rw [List.length_take]; omega)
  have := sumL_take ks a
  have := sumL_take vs b
  have := sumK_take ds c
  omega
theorem sz_drop (ks vs : List (List Int)) (ds : List Int) (a b c : Nat) : sz (ks.drop a) (vs.drop b) (ds.drop c) ≤ sz ks vs ds := by
  unfold sz
  have := wd_mono ks.length (ks.drop a).length (by rw [List.length_drop]; omega)
  have := sumL_dropl ks a
  have := sumL_dropl vs b
  have := sumK_dropl ds c
  omega
theorem inner_ok {ks : List (List Int)} {ds : List Int} (h1 : Rise ks) (h2 : ∀ x ∈ ks, x.length ≤ 256) (h3 : ∀ x ∈ ds, 1 ≤ x ∧ x < 1024) (h4 : 0 < ks.length) (h5 : ds.length = ks.length + 1) : okP false ks [] ds = true := by
  unfold okP shapeP
  rw [(okF_none ks).mpr ⟨h2, h1⟩]
  have h6 : (ds.any fun v => decide (v < 1 ∨ 1024 ≤ v)) = false := by
    rw [List.any_eq_false]
    intro x hx
    have := h3 x hx
    simp only [decide_eq_true_eq]
    omega
  rw [h6]
  simp [h4, h5]
theorem Good.inner {ks vs : List (List Int)} {ds : List Int} (h : Good false ks vs ds) : vs = [] ∧ ds.length = ks.length + 1 ∧ 0 < ks.length ∧ ∀ x ∈ ds, 1 ≤ x ∧ x < 1024 := by
  have hs := h.shape
  have ho := h.ok
  unfold shapeP at hs
  simp only [Bool.false_eq_true, if_false, Bool.and_eq_true, decide_eq_true_eq] at hs
  refine ⟨List.length_eq_zero_iff.mp hs.2.2, hs.2.1, hs.1, fun x hx => ?_⟩
  unfold okP at ho
  simp only [Bool.and_eq_true, Bool.not_eq_true', List.any_eq_false, decide_eq_true_eq] at ho
  have := ho.2.2.1 x hx
  omega
theorem leaf_take {ks vs : List (List Int)} (h : Good true ks vs []) (j : Nat) : chk true (ks.take j) (vs.take j) [] = 0 := by
  refine good_chk (leaf_ok (List.Pairwise.sublist (List.take_sublist _ _) h.rise) (fun x hx => h.klen x (List.mem_of_mem_take hx)) (fun x hx => h.vlen x (List.mem_of_mem_take hx)) ?_) ?_
  · rw [List.length_take, List.length_take, h.leaf.1]
  · have := sz_take ks vs [] j j 0
    have := h.small
    simp only [List.take_zero] at *
    omega
theorem leaf_drop {ks vs : List (List Int)} (h : Good true ks vs []) (j : Nat) : chk true (ks.drop j) (vs.drop j) [] = 0 := by
  refine good_chk (leaf_ok (List.Pairwise.sublist (List.drop_sublist _ _) h.rise) (fun x hx => h.klen x (List.mem_of_mem_drop hx)) (fun x hx => h.vlen x (List.mem_of_mem_drop hx)) ?_) ?_
  · rw [List.length_drop, List.length_drop, h.leaf.1]
  · have := sz_drop ks vs [] j j 0
    have := h.small
    simp only [List.drop_zero] at *
    omega
theorem inner_take {ks : List (List Int)} {ds : List Int} (h : Good false ks [] ds) (n : Nat) (h1 : 0 < n) (h2 : n ≤ ks.length) : chk false (ks.take n) [] (ds.take (n + 1)) = 0 := by
  obtain ⟨_, hl, hp, hd⟩ := h.inner
  refine good_chk (inner_ok (List.Pairwise.sublist (List.take_sublist _ _) h.rise) (fun x hx => h.klen x (List.mem_of_mem_take hx)) (fun x hx => hd x (List.mem_of_mem_take hx)) ?_ ?_) ?_
  · rw [List.length_take]; omega
  · rw [List.length_take, List.length_take]; omega
  · have := sz_take ks [] ds n 0 (n + 1)
    have := h.small
    simp only [List.take_nil] at *
    omega
theorem inner_drop {ks : List (List Int)} {ds : List Int} (h : Good false ks [] ds) (n : Nat) (h2 : n < ks.length) : chk false (ks.drop n) [] (ds.drop n) = 0 := by
  obtain ⟨_, hl, hp, hd⟩ := h.inner
  refine good_chk (inner_ok (List.Pairwise.sublist (List.drop_sublist _ _) h.rise) (fun x hx => h.klen x (List.mem_of_mem_drop hx)) (fun x hx => hd x (List.mem_of_mem_drop hx)) ?_ ?_) ?_
  · rw [List.length_drop]; omega
  · rw [List.length_drop, List.length_drop]; omega
  · have := sz_drop ks [] ds n 0 n
    have := h.small
    simp only [List.drop_nil] at *
    omega
theorem Bd.take {ks vs : List (List Int)} {ds : List Int} (h : Bd ks vs ds) (a b c : Nat) : Bd (ks.take a) (vs.take b) (ds.take c) :=
  ⟨by have := h.kl; rw [List.length_take]; omega, by have := h.vl; rw [List.length_take]; omega, by have := h.dl; rw [List.length_take]; omega, fun x hx => h.kb x (List.mem_of_mem_take hx), fun x hx => h.vb x (List.mem_of_mem_take hx)⟩
theorem Bd.drop {ks vs : List (List Int)} {ds : List Int} (h : Bd ks vs ds) (a b c : Nat) : Bd (ks.drop a) (vs.drop b) (ds.drop c) :=
  ⟨by have := h.kl; rw [List.length_drop]; omega, by have := h.vl; rw [List.length_drop]; omega, by have := h.dl; rw [List.length_drop]; omega, fun x hx => h.kb x (List.mem_of_mem_drop hx), fun x hx => h.vb x (List.mem_of_mem_drop hx)⟩
theorem half_l0 (ks vs : List (List Int)) (ds : List Int) (want : Int) (hv : vs.length = ks.length) (hl : ks.length ≤ 4096) (h1 : ∀ x ∈ ks, x.length ≤ 256) (h2 : ∀ x ∈ vs, x.length ≤ 512) (hk2 : 2 ≤ ks.length) : ∀ (d i k : Nat) (x : Int), i + d = ks.length - 1 → d + 20 < k →
    ∃ j : Nat, 0 < j ∧ j < ks.length ∧ node_half.l0 k want x ((ks.length - 1 : Nat) : Int) (i : Int) true ks vs ds = some (j : Int) := by
  intro d
  induction d with
  | zero =>
    intro i k x hd hk
    obtain ⟨q, hq⟩ : ∃ q, k = q + 1 := ⟨k - 1, by omega⟩
    refine ⟨ks.length - 1, by omega, by omega, ?_⟩
    rw [hq, node_half.l0, if_neg (by omega), w64 (by omega) (by omega)]
    congr 1
    omega
  | succ d ih =>
    intro i k x hd hk
    obtain ⟨q, hq⟩ : ∃ q, k = q + 1 := ⟨k - 1, by omega⟩
    have hi : i < ks.length := by omega
    have hj : i < vs.length := by omega
    have e1 := h1 _ (List.getElem_mem hi)
    have e2 := h2 _ (List.getElem_mem hj)
    rw [hq, node_half.l0, if_pos (by omega), if_pos (by omega), if_pos (by omega), rdL_at ks i hi, long_is _ (by omega) (by omega), some_bind2, if_pos (by omega), rdL_at vs i hj, long_is _ (by omega) (by omega), some_bind2, w64n i (by omega), width_is (i + 1) (by omega) (by omega), some_bind2]
    split
    · exact ⟨i + 1, by omega, by omega, rfl⟩
    · exact ih (i + 1) q _ (by omega) (by omega)
theorem half_is {ks vs : List (List Int)} (h : Good true ks vs []) (hk2 : 2 ≤ ks.length) {k : Nat} (hk : 4000000 ≤ k) : ∃ j : Nat, 0 < j ∧ j < ks.length ∧ node_half.f k true ks vs [] = some (j : Int) := by
  obtain ⟨l1, l2, _⟩ := h.lens
  unfold node_half.f
  have hs := size_is (k := k) true ks vs [] (by simp) (by have := h.small; omega) (by simp only [List.length_nil]; omega)
  rw [hs, some_bind2, w64 (x := (ks.length : Int) - 1) (by omega) (by omega), if_pos (by omega), if_pos (by omega)]
  have e : (((ks.take ((ks.length : Int) - 1).toNat).length : Nat) : Int) = ((ks.length - 1 : Nat) : Int) := by
    rw [List.length_take]
    omega
  rw [e]
  exact half_l0 ks vs [] _ h.leaf.1 l1 h.klen h.vlen hk2 (ks.length - 1) 0 k 5 (by omega) (by omega)
theorem split_leaf {ks vs : List (List Int)} {ds : List Int} (h : Bd ks vs ds) (hc : chk true ks vs ds = 0) (hl : 2 ≤ ks.length) {k : Nat} (hk : 4000000 ≤ k) :
    ∃ (j : Nat) (hj : j < ks.length), 0 < j ∧ node_Split.f k true ks vs ds = some (true, ks.take j, vs.take j, [], ks[j], true, ks.drop j, vs.drop j, [], 0) := by
  have G := chk_good hc
  obtain ⟨hvk, rfl⟩ := G.leaf
  obtain ⟨j, j0, j1, hh⟩ := half_is G hl hk
  refine ⟨j, j1, j0, ?_⟩
  have := h.kl
  have e1 := G.klen _ (List.getElem_mem j1)
  unfold node_Split.f
  rw [h.check true hk, some_bind2, if_pos hc, if_neg (by simp; omega), h.own true hk, some_bind2, if_pos rfl, hh, some_bind2]
  simp only
  rw [if_pos (by omega), rdL_at ks j j1]
  unfold bytes_Clone.f
  rw [if_pos (by omega)]
  rfl
theorem split_inner {ks vs : List (List Int)} {ds : List Int} (h : Bd ks vs ds) (hc : chk false ks vs ds = 0) (hl : 3 ≤ ks.length) {k : Nat} (hk : 4000000 ≤ k) :
    ∃ (j : Nat) (hj : j + 1 < ks.length), 0 < j ∧ node_Split.f k false ks vs ds = some (false, ks.take j, [], ds.take (j + 1), ks[j], false, ks.drop (j + 1), [], ds.drop (j + 1), 0) := by
  have G := chk_good hc
  obtain ⟨rfl, hdl, _, _⟩ := G.inner
  have := h.kl
  have := h.dl
  refine ⟨ks.length / 2, by omega, by omega, ?_⟩
  unfold node_Split.f
  rw [h.check false hk, some_bind2, if_pos hc, if_neg (by omega), h.own false hk, some_bind2, if_neg (by simp)]
  simp only
  rw [if_pos (by omega), rdL_at ks _ (by omega)]
theorem split_no {ks vs : List (List Int)} {ds : List Int} (h : Bd ks vs ds) (b : Bool) (hc : ¬ (chk b ks vs ds = 0 ∧ 2 ≤ ks.length ∧ (b = false → 3 ≤ ks.length))) {k : Nat} (hk : 4000000 ≤ k) :
    ∃ t, t ≠ 0 ∧ node_Split.f k b ks vs ds = some (false, [], [], [], [], false, [], [], [], t) := by
  unfold node_Split.f
  rw [h.check b hk, some_bind2]
  by_cases h0 : chk b ks vs ds = 0
  · rw [if_pos h0, if_pos]
    · exact ⟨2, by decide, rfl⟩
    · cases b
      · simp at hc ⊢
        omega
      · simp at hc ⊢
        omega
  · rw [if_neg h0]
    exact ⟨_, h0, rfl⟩
end Go.Proofs.Ytcbgichkeecgiaa.Pure
set_option linter.unusedVariables false
namespace Go.Proofs.Ytcbgichkeecgiaa.Pure
open Go.RowKit Go.Proofs.Ytcbgichkeecgiaa.Print Go.Proofs.YtcbgichkeecgiaaW.PrintWords
def keysM (b : Bool) (ka : List (List Int)) (key : List Int) (kb : List (List Int)) : List (List Int) := (if b = true then ka else ka ++ [key]) ++ kb
theorem merge_is {b : Bool} {ka va : List (List Int)} {da : List Int} {kb vb : List (List Int)} {db : List Int} (ha : Bd ka va da) (hb : Bd kb vb db) (ca : chk b ka va da = 0) (cb : chk b kb vb db = 0) (key : List Int) (hk : key.length ≤ 256) (bk : BytesL key) {k : Nat} (hf : 4000010 ≤ k) :
    node_Merge.f k b ka va da key b kb vb db = some (if chk b (keysM b ka key kb) (va ++ vb) (da ++ db) = 0 then (b, keysM b ka key kb, va ++ vb, da ++ db, 0) else (false, [], [], [], chk b (keysM b ka key kb) (va ++ vb) (da ++ db))) := by
  obtain ⟨q, hq⟩ : ∃ q, k = q + 4 := ⟨k - 4, by omega⟩
  obtain ⟨a1, a2, a3⟩ := (chk_good ca).lens
  obtain ⟨b1, b2, b3⟩ := (chk_good cb).lens
  have hB : Bd (keysM b ka key kb) (va ++ vb) (da ++ db) := by
    refine ⟨?_, by rw [List.length_append]; omega, by rw [List.length_append]; omega, fun x hx => ?_, fun x hx => ?_⟩
    · unfold keysM
      cases b <;> simp <;> omega
    · unfold keysM at hx
      have hx : x ∈ ka ∨ x = key ∨ x ∈ kb := by
        cases b <;> simp at hx <;> rcases hx with h | h
        · exact Or.inl h
        · exact Or.inr h
        · exact Or.inl h
        · exact Or.inr (Or.inr h)
      rcases hx with h | rfl | h
      · exact ha.kb x h
      · exact ⟨by omega, bk⟩
      · exact hb.kb x h
    · rcases List.mem_append.mp hx with h | h
      · exact ha.vb x h
      · exact hb.vb x h
  have hj : ∀ ks', ks' ++ kb = keysM b ka key kb → ks'.length ≤ 5000 → node_Merge.g (q + 4) b ks' va da kb vb db = some (if chk b (keysM b ka key kb) (va ++ vb) (da ++ db) = 0 then (b, keysM b ka key kb, va ++ vb, da ++ db, 0) else (false, [], [], [], chk b (keysM b ka key kb) (va ++ vb) (da ++ db))) := by
    intro ks' he hl
    rw [node_Merge.g, if_pos ⟨by omega, by omega, by omega⟩, he, hB.check b (by omega), some_bind2]
    split <;> rfl
  unfold node_Merge.f
  rw [hq, ha.check b (by omega), some_bind2, ca, if_pos rfl, hb.check b (by omega), some_bind2, cb, if_pos rfl, if_neg (by simp), if_neg (by omega), ha.own b (by omega), some_bind2, hb.own b (by omega), some_bind2]
  simp only
  cases b with
  | true => rw [if_pos rfl]; exact hj ka rfl (by omega)
  | false =>
    unfold bytes_Clone.f
    rw [if_neg (by simp), if_pos (by omega), some_bind2, if_pos (by omega)]
    exact hj (ka ++ [key]) rfl (by simp; omega)
end Go.Proofs.Ytcbgichkeecgiaa.Pure
