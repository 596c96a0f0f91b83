/- Plain: what is split and put lies in new memory: the page is the same, and all that is asked of it holds. -/
import Derived.Test.YtcbgichkeecgiaaZAlo
import Derived.Lib.Bytes
import Derived.Test.YtcbgichkeecgiaaZAlp
import Derived.Test.YtcbgichkeecgiaaZPrint26
import Derived.Test.YtcbgichkeecgiaaZPrint27
import Derived.Test.YtcbgichkeecgiaaZAlq
import Derived.Lib.SlBytesRow
import Derived.Test.YtcbgichkeecgiaaZPrint25
import Derived.Test.YtcbgichkeecgiaaZAls
import Derived.Test.YtcbgichkeecgiaaZPrint28
import Derived.Test.YtcbgichkeecgiaaZPrint29
set_option linter.unusedVariables false
namespace Go.Proofs.Ytcbgichkeecgiaa.Pure
open Go.RowKit Go.Proofs.Ytcbgichkeecgiaa.Print Go.Proofs.YtcbgichkeecgiaaW.PrintWords Go.Proofs.YtcbgichkeecgiaaW.PrintLast Go.Proofs.YtcbgichkeecgiaaW.PrintMore
theorem up {α : Type} {f : Nat → Option α} (hm : ∀ k, LeO (f k) (f (k + 1))) {k n : Nat} {r : α} (h : f k = some r) (hk : k ≤ n) : f n = some r := by
  obtain ⟨d, rfl⟩ : ∃ d, n = k + d := ⟨n - k, by omega⟩
  induction d with
  | zero => exact h
  | succ d ih => exact hm (k + d) r (ih (by omega))
theorem w64 {x : Int} (h0 : -9223372036854775808 ≤ x) (h1 : x ≤ 9223372036854775807) : wrap64 x = x := by unfold wrap64; omega
theorem w64n (i : Nat) (h : i < 9223372036854775807) : wrap64 ((i : Int) + 1) = ((i + 1 : Nat) : Int) := by rw [w64 (by omega) (by omega)]; rfl
def BytesL (l : List Int) : Prop := ∀ x ∈ l, 0 ≤ x ∧ x < 256
theorem bytesL_wf {l : List Int} (h : ∀ x ∈ l, (Lit.int .u8 x).wf = true) : BytesL l := fun x hx => by
  have := h x hx
  simp [Lit.wf, IntKind.min, IntKind.max, IntKind.bits, IntKind.signed] at this
  omega
def cmpL : List Int → List Int → Int
  | [], [] => 0
  | [], _ :: _ => -1
  | _ :: _, [] => 1
  | a :: x, b :: y => if a < b then -1 else if b < a then 1 else cmpL x y
theorem cmpL_cc (a b : Int) (x y : List Int) : cmpL (a :: x) (b :: y) = if a < b then -1 else if b < a then 1 else cmpL x y := rfl
theorem cmpL_same : ∀ (w x y : List Int), cmpL (w ++ x) (w ++ y) = cmpL x y
  | [], x, y => rfl
  | a :: w, x, y => by
    show (if a < a then -1 else if a < a then 1 else cmpL (w ++ x) (w ++ y)) = _
    rw [if_neg (by omega), if_neg (by omega), cmpL_same w x y]
theorem cmpL_self (x : List Int) : cmpL x x = 0 := by
  have := cmpL_same x [] []
  simpa [cmpL] using this
theorem cmpL_zero : ∀ (x y : List Int), cmpL x y = 0 → x = y
  | [], [], _ => rfl
  | [], _ :: _, h => by simp [cmpL] at h
  | _ :: _, [], h => by simp [cmpL] at h
  | a :: x, b :: y, h => by
    unfold cmpL at h
    split at h
    · omega
    · split at h
      · omega
      · rw [cmpL_zero x y h, show a = b by omega]
theorem str_cons (a : Int) (x : List Int) : (strOfNums (a :: x)).toList = UInt8.ofNat a.toNat :: (strOfNums x).toList := by
  rw [Lib.toList_data, Lib.toList_data]; rfl
theorem less_cmp : ∀ (x y : List Int), BytesL x → BytesL y → Op.bytesLess (strOfNums x).toList (strOfNums y).toList = (cmpL x y == -1)
  | x, [], _, _ => by
    have : (strOfNums []).toList = [] := by rw [Lib.toList_data]; rfl
    rw [this]
    cases x <;> simp [Op.bytesLess, cmpL]
  | [], b :: y, _, _ => by
    have : (strOfNums []).toList = [] := by rw [Lib.toList_data]; rfl
    rw [this, str_cons]; rfl
  | a :: x, b :: y, hx, hy => by
    have ih := less_cmp x y (fun z hz => hx z (by simp [hz])) (fun z hz => hy z (by simp [hz]))
    have ha := hx a (by simp)
    have hb := hy b (by simp)
    rw [str_cons, str_cons]
    unfold Op.bytesLess
    rw [ih]
    have e1 : (UInt8.ofNat a.toNat < UInt8.ofNat b.toNat) ↔ a < b := by
      rw [UInt8.lt_iff_toNat_lt, UInt8.toNat_ofNat', UInt8.toNat_ofNat', Nat.mod_eq_of_lt (by omega), Nat.mod_eq_of_lt (by omega)]; omega
    have e2 : (UInt8.ofNat a.toNat = UInt8.ofNat b.toNat) ↔ a = b := by
      rw [← UInt8.toNat_inj, UInt8.toNat_ofNat', UInt8.toNat_ofNat', Nat.mod_eq_of_lt (by omega), Nat.mod_eq_of_lt (by omega)]; omega
    rw [cmpL_cc]
    by_cases h1 : a < b
    · simp [e1.2 h1, h1]
    · have n1 : ¬ (UInt8.ofNat a.toNat < UInt8.ofNat b.toNat) := fun h => h1 (e1.1 h)
      by_cases h2 : b < a
      · have n2 : ¬ (UInt8.ofNat a.toNat = UInt8.ofNat b.toNat) := fun h => by have := e2.1 h; omega
        simp [n1, n2, h1, h2]
      · have n2 : UInt8.ofNat a.toNat = UInt8.ofNat b.toNat := e2.2 (by omega)
        simp [n2, h1, h2]
theorem cmpL_swap : ∀ (x y : List Int), cmpL y x = - cmpL x y
  | [], [] => rfl
  | [], _ :: _ => rfl
  | _ :: _, [] => rfl
  | a :: x, b :: y => by
    unfold cmpL
    by_cases h1 : a < b
    · rw [if_neg (by omega), if_pos h1, if_pos h1]; rfl
    · by_cases h2 : b < a
      · rw [if_pos h2, if_neg h1, if_pos h2]
      · rw [if_neg h2, if_neg h1, if_neg h1, if_neg h2, cmpL_swap x y]
theorem cmpL_vals : ∀ (x y : List Int), cmpL x y = -1 ∨ cmpL x y = 0 ∨ cmpL x y = 1
  | [], [] => .inr (.inl rfl)
  | [], _ :: _ => .inl rfl
  | _ :: _, [] => .inr (.inr rfl)
  | a :: x, b :: y => by
    unfold cmpL
    split
    · exact .inl rfl
    · split
      · exact .inr (.inr rfl)
      · exact cmpL_vals x y
theorem cmpL_trans : ∀ (x y z : List Int), cmpL x y < 0 → cmpL y z < 0 → cmpL x z < 0
  | [], [], z, h, _ => by simp [cmpL] at h
  | [], _ :: _, [], _, h => by simp [cmpL] at h
  | [], _ :: _, _ :: _, _, _ => by simp [cmpL]
  | _ :: _, [], _, h, _ => by simp [cmpL] at h
  | _ :: _, _ :: _, [], _, h => by simp [cmpL] at h
  | a :: x, b :: y, c :: z, h1, h2 => by
    rw [cmpL_cc] at h1 h2 ⊢
    by_cases a1 : a < b
    · by_cases b1 : b < c
      · rw [if_pos (by omega)]; decide
      · rw [if_neg b1] at h2
        by_cases b2 : c < b
        · rw [if_pos b2] at h2; omega
        · rw [if_pos (by omega)]; decide
    · rw [if_neg a1] at h1
      by_cases a2 : b < a
      · rw [if_pos a2] at h1; omega
      · rw [if_neg a2] at h1
        by_cases b1 : b < c
        · rw [if_pos (by omega)]; decide
        · rw [if_neg b1] at h2
          by_cases b2 : c < b
          · rw [if_pos b2] at h2; omega
          · rw [if_neg b2] at h2
            rw [if_neg (by omega), if_neg (by omega)]
            exact cmpL_trans x y z h1 h2
theorem cmpL_irr (x : List Int) : ¬ cmpL x x < 0 := by rw [cmpL_self]; decide
theorem cmpL_tri (x y : List Int) (h1 : ¬ cmpL x y < 0) (h2 : ¬ cmpL y x < 0) : x = y := cmpL_zero x y (by have := cmpL_swap x y; omega)
theorem cmpB : ∀ (x y : List Int), BytesL x → BytesL y → Lib.compareBytes (strOfNums x).data.toList (strOfNums y).data.toList = cmpL x y
  | [], [], _, _ => rfl
  | [], _ :: _, _, _ => rfl
  | _ :: _, [], _, _ => rfl
  | a :: x, b :: y, hx, hy => by
    have ih := cmpB x y (fun z hz => hx z (by simp [hz])) (fun z hz => hy z (by simp [hz]))
    have ha := hx a (by simp)
    have hb := hy b (by simp)
    have e1 : (UInt8.ofNat a.toNat < UInt8.ofNat b.toNat) ↔ a < b := by
      rw [UInt8.lt_iff_toNat_lt, UInt8.toNat_ofNat', UInt8.toNat_ofNat', Nat.mod_eq_of_lt (by omega), Nat.mod_eq_of_lt (by omega)]; omega
    have e2 : (UInt8.ofNat b.toNat < UInt8.ofNat a.toNat) ↔ b < a := by
      rw [UInt8.lt_iff_toNat_lt, UInt8.toNat_ofNat', UInt8.toNat_ofNat', Nat.mod_eq_of_lt (by omega), Nat.mod_eq_of_lt (by omega)]; omega
    have e : Lib.compareBytes (strOfNums (a :: x)).data.toList (strOfNums (b :: y)).data.toList = (if UInt8.ofNat a.toNat < UInt8.ofNat b.toNat then -1 else if UInt8.ofNat b.toNat < UInt8.ofNat a.toNat then 1 else Lib.compareBytes (strOfNums x).data.toList (strOfNums y).data.toList) := rfl
    rw [e, ih, cmpL_cc]
    by_cases h1 : a < b
    · rw [if_pos (e1.2 h1), if_pos h1]
    · rw [if_neg (fun h => h1 (e1.1 h)), if_neg h1]
      by_cases h2 : b < a
      · rw [if_pos (e2.2 h2), if_pos h2]
      · rw [if_neg (fun h => h2 (e2.1 h)), if_neg h2]
theorem str_eq (x y : List Int) (hx : BytesL x) (hy : BytesL y) : ((strOfNums x).toList = (strOfNums y).toList) ↔ x = y := by
  refine ⟨fun h => ?_, fun h => by rw [h]⟩
  have h1 := cmpB x y hx hy
  rw [Lib.toList_data, Lib.toList_data] at h
  rw [h] at h1
  have h2 := cmpB y y hy hy
  rw [cmpL_self] at h2
  exact cmpL_zero x y (h1.symm.trans h2)
theorem str_beq (x y : List Int) (hx : BytesL x) (hy : BytesL y) : ((strOfNums x).toList == (strOfNums y).toList) = decide (x = y) := by
  by_cases h : x = y
  · rw [h]; simp
  · rw [decide_eq_false h]; exact beq_false_of_ne (fun e => h ((str_eq x y hx hy).1 e))
theorem bsN_spec (p : Nat → Bool) (n : Nat) : ∀ k i j, i ≤ j → j - i < 2 ^ k → i ≤ n → n ≤ j → (∀ h, h < j → (p h = true ↔ h < n)) → bsN p k i j = n
  | 0, i, j, hij, hk, h1, h2, _ => by rw [bsN]; simp at hk; omega
  | k + 1, i, j, hij, hk, h1, h2, hp => by
    have hpow := Nat.pow_succ 2 k
    rw [bsN]
    split
    · rename_i hlt
      have hm : (i + j) / 2 < j := by omega
      split
      · rename_i ht
        exact bsN_spec p n k _ _ (by omega) (by omega) (by have := (hp _ hm).1 ht; omega) h2 hp
      · rename_i ht
        have hn : n ≤ (i + j) / 2 := by
          rcases Nat.lt_or_ge ((i + j) / 2) n with h | h
          · exact absurd ((hp _ hm).2 h) ht
          · exact h
        exact bsN_spec p n k _ _ (by omega) (by omega) h1 hn (fun h hh => hp h (by omega))
    · omega
end Go.Proofs.Ytcbgichkeecgiaa.Pure
set_option linter.unusedVariables false
namespace Go.Proofs.Ytcbgichkeecgiaa.Pure
open Go.RowKit Go.Proofs.Ytcbgichkeecgiaa.Print Go.Proofs.YtcbgichkeecgiaaW.PrintWords Go.Proofs.YtcbgichkeecgiaaW.PrintLast Go.Proofs.YtcbgichkeecgiaaW.PrintMore
def wd (n : Nat) : Nat := if n ≤ 127 then 1 else wd (n / 128) + 1
termination_by n
decreasing_by omega
theorem wd_small {n : Nat} (h : n ≤ 127) : wd n = 1 := by rw [wd, if_pos h]
theorem wd_big {n : Nat} (h : ¬ n ≤ 127) : wd n = wd (n / 128) + 1 := by rw [wd, if_neg h]
theorem wd_pos (n : Nat) : 1 ≤ wd n := by rw [wd]; split <;> omega
theorem wd_le : ∀ (d n : Nat), n < 128 ^ (d + 1) → wd n ≤ d + 1
  | 0, n, h => by rw [wd_small (by omega)]; omega
  | d + 1, n, h => by
    by_cases h1 : n ≤ 127
    · rw [wd_small h1]; omega
    · rw [wd_big h1]
      have h2 : 128 ^ (d + 1 + 1) = 128 ^ (d + 1) * 128 := Nat.pow_succ 128 (d + 1)
      have := wd_le d (n / 128) (by rw [h2] at h; omega)
      omega
theorem wd_le9 {n : Nat} (h : n < 4611686018427387904) : wd n ≤ 9 := wd_le 8 n (by omega)
theorem width_l0 : ∀ (d n k w : Nat), n < 128 ^ (d + 1) → w + d < 4611686018427387904 → node_width.l0 (k + d + 1) (n : Int) (w : Int) = some ((w + wd n - 1 : Nat) : Int)
  | 0, n, k, w, h, hw => by
    rw [node_width.l0, if_neg (by omega), wd_small (by omega)]; rfl
  | d + 1, n, k, w, h, hw => by
    by_cases h1 : n ≤ 127
    · rw [node_width.l0, if_neg (by omega), wd_small h1]; rfl
    · have h2 : 128 ^ (d + 1 + 1) = 128 ^ (d + 1) * 128 := Nat.pow_succ 128 (d + 1)
      rw [node_width.l0, if_pos (by omega), wd_big h1, show ((n : Int) / 128) = ((n / 128 : Nat) : Int) by omega, w64n w (by omega), show k + (d + 1) = k + d + 1 by omega, width_l0 d (n / 128) k (w + 1) (by rw [h2] at h; omega) (by omega)]
      congr 2
      have := wd_pos (n / 128)
      omega
theorem width_is {k : Nat} (n : Nat) (hn : n < 4611686018427387904) (hk : 12 ≤ k) : node_width.f k (n : Int) = some (wd n : Int) := by
  obtain ⟨q, rfl⟩ : ∃ q, k = q + 8 + 1 := ⟨k - 9, by omega⟩
  unfold node_width.f
  have := width_l0 8 n q 1 (by omega) (by omega)
  rw [show ((1 : Nat) : Int) = 1 from rfl] at this
  rw [this]
  congr 2
  have := wd_pos n
  omega
def lg (b : List Int) : Nat := wd b.length + b.length
theorem long_is {k : Nat} (b : List Int) (hb : b.length < 4611686018427387000) (hk : 12 ≤ k) : node_long.f k b = some (lg b : Int) := by
  unfold node_long.f
  rw [width_is _ (by omega) hk]
  have := wd_le9 (n := b.length) (by omega)
  simp only [Option.bind_some]
  rw [w64 (by omega) (by omega)]
  rfl
def sumL (l : List (List Int)) : Nat := (l.map lg).sum
theorem sumL_nil : sumL [] = 0 := by simp [sumL]
theorem sumL_cons (b : List Int) (l : List (List Int)) : sumL (b :: l) = lg b + sumL l := by simp [sumL]
def sumK (l : List Int) : Nat := (l.map fun d => wd d.toNat).sum
theorem sumK_nil : sumK [] = 0 := by simp [sumK]
theorem sumK_cons (b : Int) (l : List Int) : sumK (b :: l) = wd b.toNat + sumK l := by simp [sumK]
theorem rdL_at (l : List (List Int)) (i : Nat) (h : i < l.length) : rd_L1 l (i : Int) = l[i] := by
  unfold rd_L1
  rw [Int.toNat_natCast, List.getD_eq_getElem?_getD, List.getElem?_eq_getElem h]; rfl
theorem rdK_at (l : List Int) (i : Nat) (h : i < l.length) : rd l (i : Int) = l[i] := by
  unfold rd
  rw [Int.toNat_natCast, List.getD_eq_getElem?_getD, List.getElem?_eq_getElem h]; rfl
theorem sumL_drop (l : List (List Int)) (i : Nat) (h : i < l.length) : sumL (l.drop i) = lg l[i] + sumL (l.drop (i + 1)) := by rw [List.drop_eq_getElem_cons h, sumL_cons]
theorem sumK_drop (l : List Int) (i : Nat) (h : i < l.length) : sumK (l.drop i) = wd (l[i]).toNat + sumK (l.drop (i + 1)) := by rw [List.drop_eq_getElem_cons h, sumK_cons]
theorem lg_len (b : List Int) : b.length < lg b := by have := wd_pos b.length; unfold lg; omega
theorem size_l0 (b : Bool) (ks vs : List (List Int)) (ds : List Int) (hl : ks.length < 4611686018427387904) : ∀ (d k s i : Nat), i + d = ks.length → 12 ≤ k → s + sumL (ks.drop i) < 4611686018427387000 →
    node_size.l0 (k + d + 1) (s : Int) ks (ks.length : Int) (i : Int) b ks vs ds = node_size.l1 k ((s + sumL (ks.drop i) : Nat) : Int) vs (vs.length : Int) 0 b ks vs ds
  | 0, k, s, i, h, hk, hs => by
    simp only [node_size.l0]
    rw [if_neg (by omega), List.drop_of_length_le (by omega), sumL_nil, Nat.add_zero]
  | d + 1, k, s, i, h, hk, hs => by
    have hi : i < ks.length := by omega
    have e := sumL_drop ks i hi
    have hL := lg_len ks[i]
    obtain ⟨q, hq⟩ : ∃ q, k + (d + 1) = q := ⟨_, rfl⟩
    rw [hq]
    simp only [node_size.l0]
    rw [if_pos (by omega), if_pos (by omega), if_pos (by omega), rdL_at ks i hi, long_is _ (by omega) (by omega)]
    simp only [Option.bind_some]
    rw [w64 (by omega) (by omega), w64n i (by omega), show (s : Int) + (lg ks[i] : Int) = ((s + lg ks[i] : Nat) : Int) by omega, ← hq, show k + (d + 1) = k + d + 1 by omega, size_l0 b ks vs ds hl d k (s + lg ks[i]) (i + 1) (by omega) hk (by omega), e, Nat.add_assoc]
theorem size_l1 (b : Bool) (ks vs : List (List Int)) (ds : List Int) (hl : vs.length < 4611686018427387904) : ∀ (d k s i : Nat), i + d = vs.length → 12 ≤ k → s + sumL (vs.drop i) < 4611686018427387000 →
    node_size.l1 (k + d + 1) (s : Int) vs (vs.length : Int) (i : Int) b ks vs ds = node_size.l2 k ((s + sumL (vs.drop i) : Nat) : Int) ds (ds.length : Int) 0
  | 0, k, s, i, h, hk, hs => by
    simp only [node_size.l1]
    rw [if_neg (by omega), List.drop_of_length_le (by omega), sumL_nil, Nat.add_zero]
  | d + 1, k, s, i, h, hk, hs => by
    have hi : i < vs.length := by omega
    have e := sumL_drop vs i hi
    have hL := lg_len vs[i]
    obtain ⟨q, hq⟩ : ∃ q, k + (d + 1) = q := ⟨_, rfl⟩
    rw [hq]
    simp only [node_size.l1]
    rw [if_pos (by omega), if_pos (by omega), if_pos (by omega), rdL_at vs i hi, long_is _ (by omega) (by omega)]
    simp only [Option.bind_some]
    rw [w64 (by omega) (by omega), w64n i (by omega), show (s : Int) + (lg vs[i] : Int) = ((s + lg vs[i] : Nat) : Int) by omega, ← hq, show k + (d + 1) = k + d + 1 by omega, size_l1 b ks vs ds hl d k (s + lg vs[i]) (i + 1) (by omega) hk (by omega), e, Nat.add_assoc]
theorem size_l2 (ds : List Int) (hd : ∀ x ∈ ds, 0 ≤ x ∧ x < 4611686018427387904) (hl : ds.length < 4611686018427387904) : ∀ (d k s i : Nat), i + d = ds.length → 12 ≤ k → s + sumK (ds.drop i) < 4611686018427387000 →
    node_size.l2 (k + d + 1) (s : Int) ds (ds.length : Int) (i : Int) = some ((s + sumK (ds.drop i) : Nat) : Int)
  | 0, k, s, i, h, hk, hs => by
    simp only [node_size.l2]
    rw [if_neg (by omega), List.drop_of_length_le (by omega), sumK_nil, Nat.add_zero]
  | d + 1, k, s, i, h, hk, hs => by
    have hi : i < ds.length := by omega
    have e := sumK_drop ds i hi
    have hx := hd ds[i] (List.getElem_mem hi)
    have hw := width_is (k := k + (d + 1)) (ds[i]).toNat (by omega) (by omega)
    rw [show (((ds[i]).toNat : Nat) : Int) = ds[i] by omega] at hw
    obtain ⟨q, hq⟩ : ∃ q, k + (d + 1) = q := ⟨_, rfl⟩
    rw [hq]
    simp only [node_size.l2]
    rw [hq] at hw
    rw [if_pos (by omega), if_pos (by omega), if_pos (by omega), rdK_at ds i hi, hw]
    simp only [Option.bind_some]
    rw [w64 (by omega) (by omega), w64n i (by omega), show (s : Int) + (wd (ds[i]).toNat : Int) = ((s + wd (ds[i]).toNat : Nat) : Int) by omega, ← hq, show k + (d + 1) = k + d + 1 by omega, size_l2 ds hd hl d k (s + wd (ds[i]).toNat) (i + 1) (by omega) hk (by omega), e, Nat.add_assoc]
def sz (ks vs : List (List Int)) (ds : List Int) : Nat := 5 + wd ks.length + sumL ks + sumL vs + sumK ds
theorem len_sumL : ∀ (l : List (List Int)), l.length ≤ sumL l
  | [] => by simp
  | b :: l => by rw [sumL_cons]; have := len_sumL l; have := lg_len b; simp; omega
theorem len_sumK : ∀ (l : List Int), l.length ≤ sumK l
  | [] => by simp
  | b :: l => by rw [sumK_cons]; have := len_sumK l; have := wd_pos b.toNat; simp; omega
theorem size_is {k : Nat} (b : Bool) (ks vs : List (List Int)) (ds : List Int) (hd : ∀ x ∈ ds, 0 ≤ x ∧ x < 4611686018427387904) (hs : sz ks vs ds < 4611686018427387000) (hk : ks.length + vs.length + ds.length + 20 ≤ k) :
    node_size.f k b ks vs ds = some (sz ks vs ds : Int) := by
  have h1 := len_sumL ks
  have h2 := len_sumL vs
  have h3 := len_sumK ds
  unfold sz at hs
  obtain ⟨q, rfl⟩ : ∃ q, k = q + 12 + ds.length + 1 + vs.length + 1 + ks.length + 1 := ⟨k - (12 + ds.length + 1 + vs.length + 1 + ks.length + 1), by omega⟩
  unfold node_size.f
  rw [width_is _ (by omega) (by omega)]
  simp only [Option.bind_some]
  rw [w64 (x := 1 + (wd ks.length : Int)) (by omega) (by omega), w64 (by omega) (by omega), show (1 + (wd ks.length : Int) + 4) = ((5 + wd ks.length : Nat) : Int) by omega]
  have e0 := size_l0 b ks vs ds (by omega) ks.length (q + 12 + ds.length + 1 + vs.length + 1) (5 + wd ks.length) 0 (by omega) (by omega) (by rw [List.drop_zero]; omega)
  have e1 := size_l1 b ks vs ds (by omega) vs.length (q + 12 + ds.length + 1) (5 + wd ks.length + sumL ks) 0 (by omega) (by omega) (by rw [List.drop_zero]; omega)
  have e2 := size_l2 ds hd (by omega) ds.length (q + 12) (5 + wd ks.length + sumL ks + sumL vs) 0 (by omega) (by omega) (by rw [List.drop_zero]; omega)
  rw [List.drop_zero] at e0 e1 e2
  exact e0.trans (e1.trans e2)
end Go.Proofs.Ytcbgichkeecgiaa.Pure
set_option linter.unusedVariables false
namespace Go.Proofs.Ytcbgichkeecgiaa.Pure
open Go.RowKit Go.Proofs.Ytcbgichkeecgiaa.Print Go.Proofs.YtcbgichkeecgiaaW.PrintWords Go.Proofs.YtcbgichkeecgiaaW.PrintLast Go.Proofs.YtcbgichkeecgiaaW.PrintMore
def okF : Option (List Int) → List (List Int) → Bool
  | _, [] => true
  | none, a :: r => decide (a.length ≤ 256) && okF (some a) r
  | some q, a :: r => decide (a.length ≤ 256) && (decide (cmpL q a < 0) && okF (some a) r)
def prevK (ks : List (List Int)) (i : Nat) : Option (List Int) := if i = 0 then none else ks[i - 1]?
theorem any_l0 (l : List (List Int)) (hl : l.length < 4611686018427387904) : ∀ (d k i : Nat), i + d = l.length → d < k →
    ∃ r : Int, slices_IndexFunc_byte_byte.l0 k l 55 (l.length : Int) (i : Int) = some r ∧ decide (r ≥ 0) = (l.drop i).any fun v => decide (512 < v.length)
  | 0, k, i, h, hk => by
    obtain ⟨k, rfl⟩ : ∃ q, k = q + 1 := ⟨k - 1, by omega⟩
    refine ⟨-1, ?_, ?_⟩
    · simp only [slices_IndexFunc_byte_byte.l0]
      rw [if_neg (by omega)]
    · rw [List.drop_of_length_le (by omega)]; rfl
  | d + 1, k, i, h, hk => by
    obtain ⟨k, rfl⟩ : ∃ q, k = q + 1 := ⟨k - 1, by omega⟩
    have hi : i < l.length := by omega
    simp only [slices_IndexFunc_byte_byte.l0]
    rw [if_pos (by omega), if_pos (by omega), if_pos (by omega), rdL_at l i hi, List.drop_eq_getElem_cons hi, List.any_cons]
    simp only [call_T74.f, node_made_1.f, if_pos, Option.bind_some, decide_eq_true_eq]
    by_cases h1 : 512 < l[i].length
    · rw [if_pos (by omega)]
      exact ⟨_, rfl, by rw [decide_eq_true h1, Bool.true_or, decide_eq_true (by omega)]⟩
    · rw [if_neg (by omega), w64n i (by omega), decide_eq_false h1, Bool.false_or]
      exact any_l0 l hl d k (i + 1) (by omega) (by omega)
theorem anyK_l0 (l : List Int) (hl : l.length < 4611686018427387904) : ∀ (d k i : Nat), i + d = l.length → d < k →
    ∃ r : Int, slices_IndexFunc_int_int.l0 k l 57 (l.length : Int) (i : Int) = some r ∧ decide (r ≥ 0) = (l.drop i).any fun v => decide (v < 1 ∨ 1024 ≤ v)
  | 0, k, i, h, hk => by
    obtain ⟨k, rfl⟩ : ∃ q, k = q + 1 := ⟨k - 1, by omega⟩
    refine ⟨-1, ?_, ?_⟩
    · simp only [slices_IndexFunc_int_int.l0]
      rw [if_neg (by omega)]
    · rw [List.drop_of_length_le (by omega)]; rfl
  | d + 1, k, i, h, hk => by
    obtain ⟨k, rfl⟩ : ∃ q, k = q + 1 := ⟨k - 1, by omega⟩
    have hi : i < l.length := by omega
    have e : call_T66.f 57 l[i] = some (decide (l[i] < 1 ∨ 1024 ≤ l[i])) := by
      unfold call_T66.f node_made_2.f
      rw [if_pos rfl]
      by_cases h1 : l[i] < 1
      · rw [if_pos h1, decide_eq_true (Or.inl h1)]
      · rw [if_neg h1]
        by_cases h2 : 1024 ≤ l[i]
        · rw [decide_eq_true (show l[i] ≥ 1024 from h2), decide_eq_true (Or.inr h2)]
        · rw [decide_eq_false (show ¬ l[i] ≥ 1024 from h2), decide_eq_false (by omega)]
    simp only [slices_IndexFunc_int_int.l0]
    rw [if_pos (by omega), if_pos (by omega), if_pos (by omega), rdK_at l i hi, List.drop_eq_getElem_cons hi, List.any_cons, e]
    simp only [Option.bind_some]
    by_cases h1 : l[i] < 1 ∨ 1024 ≤ l[i]
    · rw [decide_eq_true h1, if_pos rfl]
      exact ⟨_, rfl, by rw [Bool.true_or, decide_eq_true (by omega)]⟩
    · rw [decide_eq_false h1, if_neg (by decide), w64n i (by omega), Bool.false_or]
      exact anyK_l0 l hl d k (i + 1) (by omega) (by omega)
theorem any_is {k : Nat} (l : List (List Int)) (hl : l.length < 4611686018427387904) (hk : l.length < k) : slices_ContainsFunc_byte_byte.f k l 55 = some (l.any fun v => decide (512 < v.length)) := by
  obtain ⟨r, h1, h2⟩ := any_l0 l hl l.length k 0 (by omega) hk
  unfold slices_ContainsFunc_byte_byte.f slices_IndexFunc_byte_byte.f
  have h1' : slices_IndexFunc_byte_byte.l0 k l 55 (l.length : Int) 0 = some r := h1
  rw [h1']
  simp only [Option.bind_some]
  rw [h2, List.drop_zero]
theorem anyK_is {k : Nat} (l : List Int) (hl : l.length < 4611686018427387904) (hk : l.length < k) : slices_ContainsFunc_int_int.f k l 57 = some (l.any fun v => decide (v < 1 ∨ 1024 ≤ v)) := by
  obtain ⟨r, h1, h2⟩ := anyK_l0 l hl l.length k 0 (by omega) hk
  unfold slices_ContainsFunc_int_int.f slices_IndexFunc_int_int.f
  have h1' : slices_IndexFunc_int_int.l0 k l 57 (l.length : Int) 0 = some r := h1
  rw [h1']
  simp only [Option.bind_some]
  rw [h2, List.drop_zero]
def shapeP (b : Bool) (ks vs : List (List Int)) (ds : List Int) : Bool :=
  if b then decide (vs.length = ks.length) && decide (ds.length = 0) else decide (0 < ks.length) && (decide (ds.length = ks.length + 1) && decide (vs.length = 0))
def okP (b : Bool) (ks vs : List (List Int)) (ds : List Int) : Bool :=
  okF none ks && (!(vs.any fun v => decide (512 < v.length)) && (!(ds.any fun v => decide (v < 1 ∨ 1024 ≤ v)) && shapeP b ks vs ds))
theorem made_j1 (k : Nat) (x b : Bool) (ks vs : List (List Int)) (ds : List Int) (hl : ks.length < 4611686018427387904) : node_made.j1 (k + 1) x b ks vs ds = some (!x && shapeP b ks vs ds) := by
  cases x
  · cases b
    · simp only [node_made.j1, shapeP, Bool.false_eq_true, if_false, Bool.not_false, Bool.true_and]
      rw [w64n _ (by omega)]
      by_cases h1 : 0 < ks.length
      · rw [if_pos (by omega), decide_eq_true h1]
        by_cases h2 : ds.length = ks.length + 1
        · rw [if_pos (by omega), decide_eq_true h2]
          by_cases h3 : vs.length = 0
          · rw [h3]; rfl
          · rw [decide_eq_false h3, beq_false_of_ne (by omega)]; rfl
        · rw [if_neg (by omega), decide_eq_false h2]; rfl
      · rw [if_neg (by omega), decide_eq_false h1]; rfl
    · simp only [node_made.j1, shapeP, Bool.false_eq_true, if_false, if_true, Bool.not_false, Bool.true_and]
      by_cases h2 : vs.length = ks.length
      · rw [if_pos (by omega), decide_eq_true h2]
        by_cases h3 : ds.length = 0
        · rw [h3]; rfl
        · rw [decide_eq_false h3, beq_false_of_ne (by omega)]; rfl
      · rw [if_neg (by omega), decide_eq_false h2]; rfl
  · simp only [node_made.j1, if_true]; rfl
theorem made_l0 (b : Bool) (ks vs : List (List Int)) (ds : List Int) (hks : ∀ x ∈ ks, BytesL x) (hl : ks.length < 4611686018427387904) (hv : vs.length < 4611686018427387904) (hd : ds.length < 4611686018427387904) : ∀ (d k i : Nat), i + d = ks.length → vs.length < k → ds.length < k → 0 < k →
    node_made.l0 (k + d + 1) ks (ks.length : Int) (i : Int) b ks vs ds = some (okF (prevK ks i) (ks.drop i) && (!(vs.any fun v => decide (512 < v.length)) && (!(ds.any fun v => decide (v < 1 ∨ 1024 ≤ v)) && shapeP b ks vs ds)))
  | 0, k, i, h, hk, hk2, hk3 => by
    simp only [node_made.l0]
    obtain ⟨q, rfl⟩ : ∃ q, k = q + 1 := ⟨k - 1, by omega⟩
    have hF : okF (prevK ks i) (ks.drop i) = true := by rw [List.drop_of_length_le (by omega)]; cases prevK ks i <;> rfl
    rw [if_neg (by omega), Nat.add_zero, any_is vs hv hk, hF, Bool.true_and]
    simp only [Option.bind_some]
    cases hc : vs.any fun v => decide (512 < v.length)
    · rw [if_neg (by decide), anyK_is ds hd hk2]
      simp only [Option.bind_some]
      rw [made_j1 _ _ _ _ _ _ hl]; rfl
    · rw [if_pos rfl, made_j1 _ _ _ _ _ _ hl]; rfl
  | d + 1, k, i, h, hk, hk2, hk3 => by
    have hi : i < ks.length := by omega
    obtain ⟨q, hq⟩ : ∃ q, k + (d + 1) = q := ⟨_, rfl⟩
    rw [hq]
    simp only [node_made.l0]
    rw [if_pos (by omega), if_pos (by omega), if_pos (by omega), rdL_at ks i hi, ← hq, show k + (d + 1) = k + d + 1 by omega, w64n i (by omega), made_l0 b ks vs ds hks hl hv hd d k (i + 1) (by omega) hk hk2 hk3, List.drop_eq_getElem_cons hi]
    have hp : prevK ks (i + 1) = some ks[i] := by unfold prevK; rw [if_neg (by omega), Nat.add_sub_cancel, List.getElem?_eq_getElem hi]
    rw [hp]
    by_cases h1 : 256 < ks[i].length
    · rw [if_pos (by omega)]
      cases prevK ks i <;> simp only [okF] <;> rw [decide_eq_false (by omega)] <;> rfl
    · rw [if_neg (by omega)]
      by_cases h0 : i = 0
      · subst h0
        rw [if_neg (by omega)]
        have : prevK ks 0 = none := rfl
        rw [this]
        simp only [okF]
        rw [decide_eq_true (show ks[0].length ≤ 256 by omega), Bool.true_and]
      · have hi1 : i - 1 < ks.length := by omega
        have hp2 : prevK ks i = some ks[i - 1] := by unfold prevK; rw [if_neg h0, List.getElem?_eq_getElem hi1]
        rw [if_pos (by omega), hp2, w64 (by omega) (by omega), show ((i : Int) - 1) = ((i - 1 : Nat) : Int) by omega, if_pos (by omega), if_pos (by omega), rdL_at ks (i - 1) hi1]
        unfold bytes_Compare.f
        rw [cmpB _ _ (hks _ (List.getElem_mem hi1)) (hks _ (List.getElem_mem hi))]
        simp only [Option.bind_some, okF]
        rw [decide_eq_true (show ks[i].length ≤ 256 by omega), Bool.true_and]
        by_cases h2 : cmpL ks[i - 1] ks[i] < 0
        · rw [if_neg (by omega), decide_eq_true h2, Bool.true_and]
        · rw [if_pos (by omega), decide_eq_false h2]; rfl
theorem made_is {k : Nat} (b : Bool) (ks vs : List (List Int)) (ds : List Int) (hks : ∀ x ∈ ks, BytesL x) (hl : ks.length < 4611686018427387904) (hv : vs.length < 4611686018427387904) (hd : ds.length < 4611686018427387904)
    (hk : ks.length + vs.length + ds.length + 20 ≤ k) : node_made.f k b ks vs ds = some (okP b ks vs ds) := by
  obtain ⟨q, rfl⟩ : ∃ q, k = q + ks.length + 1 := ⟨k - ks.length - 1, by omega⟩
  have := made_l0 b ks vs ds hks hl hv hd ks.length q 0 (by omega) (by omega) (by omega) (by omega)
  rw [List.drop_zero] at this
  exact this
theorem okP_kids {b : Bool} {ks vs : List (List Int)} {ds : List Int} (h : okP b ks vs ds = true) : ∀ x ∈ ds, 0 ≤ x ∧ x < 4611686018427387904 := by
  unfold okP at h
  simp only [Bool.and_eq_true, Bool.not_eq_true', List.any_eq_false, decide_eq_true_eq] at h
  intro x hx
  have := h.2.2.1 x hx
  omega
def chk (b : Bool) (ks vs : List (List Int)) (ds : List Int) : Int := if okP b ks vs ds = true then (if 4096 < sz ks vs ds then 7 else 0) else 2
theorem check_is {k : Nat} (b : Bool) (ks vs : List (List Int)) (ds : List Int) (hks : ∀ x ∈ ks, BytesL x) (hs : okP b ks vs ds = true → sz ks vs ds < 4611686018427387000) (hl : ks.length < 4611686018427387904) (hv : vs.length < 4611686018427387904) (hd : ds.length < 4611686018427387904)
    (hk : ks.length + vs.length + ds.length + 20 ≤ k) : node_Check.f k b ks vs ds = some (chk b ks vs ds) := by
  unfold node_Check.f chk
  rw [made_is b ks vs ds hks hl hv hd hk]
  simp only [Option.bind_some]
  cases ho : okP b ks vs ds
  · rw [if_neg (by decide), if_neg (by decide)]
  · rw [if_pos rfl, if_pos rfl, size_is b ks vs ds (okP_kids ho) (hs ho) hk]
    simp only [Option.bind_some]
    by_cases h1 : 4096 < sz ks vs ds
    · rw [if_pos (by omega), if_pos h1]
    · rw [if_neg (by omega), if_neg h1]
theorem own_l1 (b : Bool) (ks vs : List (List Int)) (ds : List Int) (hl : vs.length < 5864062014805) (hv : ∀ x ∈ vs, x.length ≤ 140737488355327) : ∀ (d k i : Nat), i + d = vs.length → d < k →
    node_own.l1 k vs (vs.length : Int) (i : Int) b ks (vs.take i) ds = some (b, ks, vs, ds)
  | 0, k, i, h, hk => by
    obtain ⟨k, rfl⟩ : ∃ q, k = q + 1 := ⟨k - 1, by omega⟩
    simp only [node_own.l1]
    rw [if_neg (by omega), List.take_of_length_le (by omega)]
  | d + 1, k, i, h, hk => by
    obtain ⟨k, rfl⟩ : ∃ q, k = q + 1 := ⟨k - 1, by omega⟩
    have hi : i < vs.length := by omega
    have hc : bytes_Clone.f vs[i] = some vs[i] := by unfold bytes_Clone.f; rw [if_pos (hv _ (List.getElem_mem hi))]
    simp only [node_own.l1]
    rw [if_pos (by omega), if_pos (by omega), if_pos (by omega), rdL_at vs i hi, hc]
    simp only [Option.bind_some]
    rw [if_pos (by rw [List.length_take]; omega), w64n i (by omega), List.take_append_getElem hi]
    exact own_l1 b ks vs ds hl hv d k (i + 1) (by omega) (by omega)
theorem own_l0 (b : Bool) (ks vs : List (List Int)) (ds : List Int) (hl0 : ks.length < 5864062014805) (hks : ∀ x ∈ ks, x.length ≤ 140737488355327) (hl : vs.length < 5864062014805) (hv : ∀ x ∈ vs, x.length ≤ 140737488355327) : ∀ (d k i : Nat), i + d = ks.length → d + vs.length + 1 < k →
    node_own.l0 k ks (ks.length : Int) (i : Int) b ks vs ds b (ks.take i) ds = some (b, ks, vs, ds)
  | 0, k, i, h, hk => by
    obtain ⟨k, rfl⟩ : ∃ q, k = q + 1 := ⟨k - 1, by omega⟩
    simp only [node_own.l0]
    rw [if_neg (by omega), List.take_of_length_le (by omega)]
    exact own_l1 b ks vs ds hl hv vs.length k 0 (by omega) (by omega)
  | d + 1, k, i, h, hk => by
    obtain ⟨k, rfl⟩ : ∃ q, k = q + 1 := ⟨k - 1, by omega⟩
    have hi : i < ks.length := by omega
    have hc : bytes_Clone.f ks[i] = some ks[i] := by unfold bytes_Clone.f; rw [if_pos (hks _ (List.getElem_mem hi))]
    simp only [node_own.l0]
    rw [if_pos (by omega), if_pos (by omega), if_pos (by omega), rdL_at ks i hi, hc]
    simp only [Option.bind_some]
    rw [if_pos (by rw [List.length_take]; omega), w64n i (by omega), List.take_append_getElem hi]
    exact own_l0 b ks vs ds hl0 hks hl hv d k (i + 1) (by omega) (by omega)
theorem own_is {k : Nat} (b : Bool) (ks vs : List (List Int)) (ds : List Int) (hl0 : ks.length < 5864062014805) (hks : ∀ x ∈ ks, x.length ≤ 140737488355327) (hl : vs.length < 5864062014805) (hv : ∀ x ∈ vs, x.length ≤ 140737488355327) (hd : ds.length * 8 ≤ 140737488355328)
    (hk : ks.length + vs.length + 20 ≤ k) : node_own.f k b ks vs ds = some (b, ks, vs, ds) := by
  unfold node_own.f slices_Clone_int_int.f
  rw [if_pos hd]
  simp only [Option.bind_some]
  exact own_l0 b ks vs ds hl0 hks hl hv ks.length k 0 (by omega) (by omega)
end Go.Proofs.Ytcbgichkeecgiaa.Pure
set_option linter.unusedVariables false
namespace Go.Proofs.Ytcbgichkeecgiaa.Pure
open Go.RowKit Go.Proofs.Ytcbgichkeecgiaa.Print Go.Proofs.YtcbgichkeecgiaaW.PrintWords Go.Proofs.YtcbgichkeecgiaaW.PrintLast Go.Proofs.YtcbgichkeecgiaaW.PrintMore
def Rise (l : List (List Int)) : Prop := l.Pairwise fun a b => cmpL a b < 0
theorem okF_some : ∀ (l : List (List Int)) (q : List Int), okF (some q) l = true ↔ (∀ x ∈ l, x.length ≤ 256) ∧ Rise (q :: l)
  | [], q => by simp [okF, Rise]
  | a :: r, q => by
    have ih := okF_some r a
    unfold okF
    rw [Bool.and_eq_true, Bool.and_eq_true, decide_eq_true_eq, decide_eq_true_eq, ih]
    unfold Rise
    rw [List.pairwise_cons (a := q)]
    constructor
    · rintro ⟨h1, h2, h3, h4⟩
      refine ⟨fun x hx => ?_, fun x hx => ?_, h4⟩
      · rcases List.mem_cons.1 hx with rfl | hx
        · exact h1
        · exact h3 x hx
      · rcases List.mem_cons.1 hx with rfl | hx
        · exact h2
        · exact cmpL_trans q a x h2 ((List.pairwise_cons.1 h4).1 x hx)
    · rintro ⟨h1, h2, h3⟩
      exact ⟨h1 a (by simp), h2 a (by simp), fun x hx => h1 x (by simp [hx]), h3⟩
theorem okF_none (l : List (List Int)) : okF none l = true ↔ (∀ x ∈ l, x.length ≤ 256) ∧ Rise l := by
  cases l with
  | nil => simp [okF, Rise]
  | cons a r =>
    unfold okF
    rw [Bool.and_eq_true, decide_eq_true_eq, okF_some]
    constructor
    · rintro ⟨h1, h2, h3⟩
      refine ⟨fun x hx => ?_, h3⟩
      rcases List.mem_cons.1 hx with rfl | hx
      · exact h1
      · exact h2 x hx
    · rintro ⟨h1, h2⟩
      exact ⟨h1 a (by simp), fun x hx => h1 x (by simp [hx]), h2⟩
def bel (key : List Int) : List (List Int) → Nat
  | [] => 0
  | a :: r => if cmpL a key < 0 then bel key r + 1 else 0
theorem bel_le (key : List Int) : ∀ l, bel key l ≤ l.length
  | [] => by simp [bel]
  | a :: r => by have := bel_le key r; unfold bel; split <;> simp <;> omega
theorem bel_spec (key : List Int) : ∀ (l : List (List Int)), Rise l → ∀ (i : Nat) (hi : i < l.length), (cmpL l[i] key < 0 ↔ i < bel key l)
  | [], _, i, hi => by simp at hi
  | a :: r, h, i, hi => by
    obtain ⟨h1, h2⟩ := List.pairwise_cons.1 h
    unfold bel
    cases i with
    | zero => by_cases hc : cmpL a key < 0 <;> simp [hc]
    | succ i =>
      have hi' : i < r.length := by simpa using hi
      have ih := bel_spec key r h2 i hi'
      rw [List.getElem_cons_succ]
      by_cases hc : cmpL a key < 0
      · rw [if_pos hc, ih]; omega
      · rw [if_neg hc]
        refine ⟨fun hx => absurd (cmpL_trans a _ key (h1 _ (List.getElem_mem hi')) hx) hc, fun hx => by omega⟩
theorem bel_eq (key : List Int) (l : List (List Int)) (n : Nat) (h : Rise l) (hn : n ≤ l.length) (h1 : ∀ (i : Nat) (hi : i < l.length), i < n → cmpL l[i] key < 0) (h2 : ∀ (i : Nat) (hi : i < l.length), n ≤ i → ¬ cmpL l[i] key < 0) : bel key l = n := by
  have hle := bel_le key l
  rcases Nat.lt_trichotomy (bel key l) n with hlt | heq | hgt
  · exact absurd ((bel_spec key l h (bel key l) (by omega)).1 (h1 _ (by omega) hlt)) (by omega)
  · exact heq
  · exact absurd ((bel_spec key l h n (by omega)).2 hgt) (h2 n (by omega) (Nat.le_refl _))
theorem bel_mem {key : List Int} {l : List (List Int)} (h : Rise l) (hm : key ∈ l) : ∃ hi : bel key l < l.length, l[bel key l] = key := by
  obtain ⟨j, hj, e⟩ := List.getElem_of_mem hm
  have : bel key l = j := by
    refine bel_eq key l j h (by omega) (fun i hi hij => ?_) (fun i hi hij => ?_)
    · rw [← e]; exact List.pairwise_iff_getElem.1 h i j hi hj hij
    · rcases Nat.eq_or_lt_of_le hij with rfl | hlt
      · rw [e]; exact cmpL_irr key
      · intro hc
        have h2 := List.pairwise_iff_getElem.1 h j i hj hi hlt
        rw [e] at h2
        exact cmpL_irr key (cmpL_trans _ _ _ h2 hc)
  subst this
  exact ⟨hj, e⟩
theorem at_is (ks : List (List Int)) (key : List Int) (h : Rise ks) (hks : ∀ x ∈ ks, BytesL x) (hk : BytesL key) (hl : ks.length < 4611686018427387904) : node_place.at_ ks key = bel key ks := by
  unfold node_place.at_
  refine bsN_spec _ (bel key ks) 64 0 ks.length (Nat.zero_le _) (by omega) (Nat.zero_le _) (bel_le _ _) fun i hi => ?_
  unfold node_place.P node_place.cmp
  rw [rdL_at ks i hi, cmpB _ _ (hks _ (List.getElem_mem hi)) hk, decide_eq_true_eq]
  exact bel_spec key ks h i hi
theorem place_is (b : Bool) (ks vs : List (List Int)) (ds : List Int) (key : List Int) (h : Rise ks) (hks : ∀ x ∈ ks, BytesL x) (hk : BytesL key) (hl : ks.length < 4611686018427387904) :
    node_place.f b ks vs ds key = some ((bel key ks : Int), decide (key ∈ ks)) := by
  unfold node_place.f
  rw [if_pos (by omega), at_is ks key h hks hk hl]
  congr 2
  by_cases hi : bel key ks < ks.length
  · rw [rdL_at ks _ hi, str_beq _ _ (hks _ (List.getElem_mem hi)) hk, decide_eq_true hi, Bool.true_and]
    by_cases hm : key ∈ ks
    · obtain ⟨_, e⟩ := bel_mem h hm
      rw [decide_eq_true hm, decide_eq_true e]
    · rw [decide_eq_false hm, decide_eq_false (fun e => hm (by rw [← e]; exact List.getElem_mem hi))]
  · rw [decide_eq_false hi, Bool.false_and, decide_eq_false (fun hm => hi (bel_mem h hm).1)]
structure Bd (ks vs : List (List Int)) (ds : List Int) : Prop where
  kl : ks.length ≤ 1048576
  vl : vs.length ≤ 1048576
  dl : ds.length ≤ 1048576
  kb : ∀ x ∈ ks, x.length ≤ 1048576 ∧ BytesL x
  vb : ∀ x ∈ vs, x.length ≤ 1048576 ∧ BytesL x
theorem sumL_le : ∀ (l : List (List Int)), (∀ x ∈ l, x.length ≤ 1048576) → sumL l ≤ l.length * 1048600
  | [], _ => by simp [sumL_nil]
  | a :: r, h => by
    have ih := sumL_le r (fun x hx => h x (by simp [hx]))
    have ha := h a (by simp)
    have hw := wd_le9 (n := a.length) (by omega)
    rw [sumL_cons, List.length_cons]
    unfold lg
    omega
theorem sumK_le : ∀ (l : List Int), (∀ x ∈ l, 0 ≤ x ∧ x < 4611686018427387904) → sumK l ≤ l.length * 9
  | [], _ => by simp [sumK_nil]
  | a :: r, h => by
    have ih := sumK_le r (fun x hx => h x (by simp [hx]))
    have ha := h a (by simp)
    have hw := wd_le9 (n := a.toNat) (by omega)
    rw [sumK_cons, List.length_cons]
    omega
theorem Bd.sz {ks vs : List (List Int)} {ds : List Int} (h : Bd ks vs ds) (hd : ∀ x ∈ ds, 0 ≤ x ∧ x < 4611686018427387904) : sz ks vs ds < 4611686018427387000 := by
  have h1 := sumL_le ks (fun x hx => (h.kb x hx).1)
  have h2 := sumL_le vs (fun x hx => (h.vb x hx).1)
  have h3 := sumK_le ds hd
  have h4 := wd_le9 (n := ks.length) (by have := h.kl; omega)
  have := h.kl
  have := h.vl
  have := h.dl
  unfold Pure.sz
  omega
theorem Bd.check {ks vs : List (List Int)} {ds : List Int} (h : Bd ks vs ds) (b : Bool) {k : Nat} (hk : 4000000 ≤ k) : node_Check.f k b ks vs ds = some (chk b ks vs ds) := by
  have := h.kl
  have := h.vl
  have := h.dl
  exact check_is b ks vs ds (fun x hx => (h.kb x hx).2) (fun ho => h.sz (okP_kids ho)) (by omega) (by omega) (by omega) (by omega)
structure Good (b : Bool) (ks vs : List (List Int)) (ds : List Int) : Prop where
  ok : okP b ks vs ds = true
  small : sz ks vs ds ≤ 4096
  rise : Rise ks
  klen : ∀ x ∈ ks, x.length ≤ 256
  vlen : ∀ x ∈ vs, x.length ≤ 512
  shape : shapeP b ks vs ds = true
theorem chk_good {b : Bool} {ks vs : List (List Int)} {ds : List Int} (h : chk b ks vs ds = 0) : Good b ks vs ds := by
  unfold chk at h
  by_cases ho : okP b ks vs ds = true
  · rw [if_pos ho] at h
    by_cases hs : 4096 < sz ks vs ds
    · rw [if_pos hs] at h; exact absurd h (by decide)
    · have ho2 := ho
      unfold okP at ho
      simp only [Bool.and_eq_true, Bool.not_eq_true', List.any_eq_false, decide_eq_true_eq, okF_none] at ho
      exact ⟨ho2, by omega, ho.1.2, ho.1.1, fun x hx => by have := ho.2.1 x hx; omega, ho.2.2.2⟩
  · rw [if_neg ho] at h; exact absurd h (by decide)
theorem Good.leaf {ks vs : List (List Int)} {ds : List Int} (h : Good true ks vs ds) : vs.length = ks.length ∧ ds = [] := by
  have := h.shape
  unfold shapeP at this
  simp only [if_true, Bool.and_eq_true, decide_eq_true_eq, List.length_eq_zero_iff] at this
  exact this
theorem leaf_ok {ks vs : List (List Int)} (h1 : Rise ks) (h2 : ∀ x ∈ ks, x.length ≤ 256) (h3 : ∀ x ∈ vs, x.length ≤ 512) (h4 : vs.length = ks.length) : okP true ks vs [] = true := by
  unfold okP shapeP
  simp only [Bool.and_eq_true, Bool.not_eq_true', List.any_eq_false, decide_eq_true_eq, okF_none, if_true]
  refine ⟨⟨h2, h1⟩, fun x hx => (by have := h3 x hx; omega), fun x hx => (by cases hx), h4, rfl⟩
theorem Good.lens {b : Bool} {ks vs : List (List Int)} {ds : List Int} (h : Good b ks vs ds) : ks.length ≤ 4096 ∧ vs.length ≤ 4096 ∧ ds.length ≤ 4096 := by
  have h1 := len_sumL ks
  have h2 := len_sumL vs
  have h3 := len_sumK ds
  have := h.small
  unfold Pure.sz at this
  omega
def fnd (b : Bool) (ks vs : List (List Int)) (ds : List Int) (key : List Int) : Int × Bool × Int :=
  if chk b ks vs ds = 0 then (if key ∈ ks ∧ b = false then ((bel key ks + 1 : Nat) : Int) else (bel key ks : Int), decide (key ∈ ks), 0) else (0, false, chk b ks vs ds)
theorem find_is {ks vs : List (List Int)} {ds : List Int} (h : Bd ks vs ds) (b : Bool) (key : List Int) (hk : BytesL key) {k : Nat} (hf : 4000000 ≤ k) : node_Find.f k b ks vs ds key = some (fnd b ks vs ds key) := by
  unfold node_Find.f fnd
  rw [h.check b hf]
  simp only [Option.bind_some]
  by_cases hc : chk b ks vs ds = 0
  · have hg := chk_good hc
    have hl := hg.lens
    have hle := bel_le key ks
    rw [if_pos hc, if_pos hc, place_is b ks vs ds key hg.rise (fun x hx => (h.kb x hx).2) hk (by omega)]
    simp only [Option.bind_some, decide_eq_true_eq]
    by_cases hm : key ∈ ks
    · rw [if_pos hm]
      cases b
      · rw [if_neg (by decide), if_pos ⟨hm, rfl⟩, w64n _ (by omega)]
      · rw [if_pos rfl, if_neg (fun hx => by cases hx.2)]
    · rw [if_neg hm, if_neg (fun hx => hm hx.1)]
  · rw [if_neg hc, if_neg hc]
def insL (l : List (List Int)) (n : Nat) (x : List Int) : List (List Int) := l.take n ++ [x] ++ l.drop n
def putR (ks vs : List (List Int)) (key val : List Int) : List (List Int) × List (List Int) :=
  if key ∈ ks then (ks, vs.set (bel key ks) val) else (insL ks (bel key ks) key, insL vs (bel key ks) val)
def no5 (t : Int) : Bool × List (List Int) × List (List Int) × List Int × Int := (false, [], [], [], t)
def putP (b : Bool) (ks vs : List (List Int)) (ds : List Int) (key val : List Int) : Bool × List (List Int) × List (List Int) × List Int × Int :=
  if chk b ks vs ds = 0 then (if b = true then (if 256 < key.length ∨ 512 < val.length then no5 4 else if 4096 < sz (putR ks vs key val).1 (putR ks vs key val).2 ds then no5 7 else (b, (putR ks vs key val).1, (putR ks vs key val).2, ds, 0)) else no5 15) else no5 (chk b ks vs ds)
theorem leaf_is {ks vs : List (List Int)} {ds : List Int} (h : Bd ks vs ds) (b : Bool) {k : Nat} (hf : 4000000 ≤ k) : node_leaf.f k b ks vs ds = some (if chk b ks vs ds = 0 then (if b = true then 0 else 15) else chk b ks vs ds) := by
  unfold node_leaf.f
  rw [h.check b hf]
  simp only [Option.bind_some]
  by_cases hc : chk b ks vs ds = 0
  · rw [if_pos hc, if_pos hc]
    cases b
    · rw [if_neg (by decide), if_neg (by decide)]
    · rw [if_pos rfl, if_pos rfl, hc]
  · rw [if_neg hc, if_neg hc]
theorem Bd.own {ks vs : List (List Int)} {ds : List Int} (h : Bd ks vs ds) (b : Bool) {k : Nat} (hf : 4000000 ≤ k) : node_own.f k b ks vs ds = some (b, ks, vs, ds) := by
  have := h.kl
  have := h.vl
  have := h.dl
  exact own_is b ks vs ds (by omega) (fun x hx => by have := (h.kb x hx).1; omega) (by omega) (fun x hx => by have := (h.vb x hx).1; omega) (by omega) (by omega)
theorem mem_insL {l : List (List Int)} {n : Nat} {x y : List Int} : y ∈ insL l n x ↔ y = x ∨ y ∈ l := by
  unfold insL
  have : y ∈ l ↔ y ∈ l.take n ∨ y ∈ l.drop n := by rw [← List.mem_append, List.take_append_drop]
  rw [this]
  simp only [List.mem_append, List.mem_singleton]
  constructor
  · rintro ((h | h) | h)
    · exact .inr (.inl h)
    · exact .inl h
    · exact .inr (.inr h)
  · rintro (h | h | h)
    · exact .inl (.inr h)
    · exact .inl (.inl h)
    · exact .inr h
theorem len_insL (l : List (List Int)) (n : Nat) (x : List Int) : (insL l n x).length = l.length + 1 := by
  unfold insL
  simp only [List.length_append, List.length_take, List.length_drop, List.length_singleton]
  omega
theorem putR_bd {ks vs : List (List Int)} {ds : List Int} {b : Bool} (hg : Good b ks vs ds) (h : Bd ks vs ds) (key val : List Int) (hk : BytesL key) (hv : BytesL val) (hkl : key.length ≤ 1048576) (hvl : val.length ≤ 1048576) : Bd (putR ks vs key val).1 (putR ks vs key val).2 ds := by
  have hl := hg.lens
  unfold putR
  by_cases hm : key ∈ ks
  · rw [if_pos hm]
    refine ⟨h.kl, by rw [List.length_set]; exact h.vl, h.dl, h.kb, fun x hx => ?_⟩
    rcases List.mem_or_eq_of_mem_set hx with hx | rfl
    · exact h.vb x hx
    · exact ⟨hvl, hv⟩
  · rw [if_neg hm]
    refine ⟨by rw [len_insL]; omega, by rw [len_insL]; omega, h.dl, fun x hx => ?_, fun x hx => ?_⟩
    · rcases mem_insL.1 hx with rfl | hx
      · exact ⟨hkl, hk⟩
      · exact h.kb x hx
    · rcases mem_insL.1 hx with rfl | hx
      · exact ⟨hvl, hv⟩
      · exact h.vb x hx
theorem put_is {ks vs : List (List Int)} {ds : List Int} (h : Bd ks vs ds) (b : Bool) (key val : List Int) (hk : BytesL key) (hv : BytesL val) (hkl : key.length ≤ 1048576) (hvl : val.length ≤ 1048576) {k : Nat} (hf : 4000000 ≤ k) :
    node_Put.f k b ks vs ds key val = some (putP b ks vs ds key val) := by
  unfold node_Put.f putP
  rw [leaf_is h b hf]
  simp only [Option.bind_some]
  by_cases hc : chk b ks vs ds = 0
  · rw [if_pos hc, if_pos hc]
    cases b
    · rw [if_neg (by decide), if_neg (by decide), if_neg (by decide)]; rfl
    · rw [if_pos rfl, if_pos rfl, if_pos rfl]
      have hg := chk_good hc
      have hl := hg.lens
      have hle := bel_le key ks
      obtain ⟨hvk, hds⟩ := hg.leaf
      by_cases h1 : 256 < key.length
      · rw [if_pos (by omega), if_pos (Or.inl h1)]; rfl
      · rw [if_neg (by omega)]
        by_cases h2 : 512 < val.length
        · rw [if_pos (by omega), if_pos (Or.inr h2)]; rfl
        · rw [if_neg (by omega), if_neg (by omega), h.own true hf]
          simp only [Option.bind_some]
          rw [place_is true ks vs ds key hg.rise (fun x hx => (h.kb x hx).2) hk (by omega)]
          simp only [Option.bind_some]
          have hr : node_Put.rows ks vs key val ((bel key ks : Int), decide (key ∈ ks)) = some (putR ks vs key val) := by
            unfold node_Put.rows putR bytes_Clone.f
            simp only [decide_eq_true_eq, Int.toNat_natCast]
            by_cases hm : key ∈ ks
            · obtain ⟨hb, _⟩ := bel_mem hg.rise hm
              rw [if_pos hm, if_pos hm, if_pos ⟨by omega, by omega⟩, if_pos (by omega)]; rfl
            · rw [if_neg hm, if_neg hm, if_pos ⟨by omega, by omega, by omega, by omega, by omega⟩, if_pos (by omega), if_pos (by omega)]; rfl
          rw [hr]
          simp only [Option.bind_some]
          have hb2 := putR_bd hg h key val hk hv hkl hvl
          have hd0 : ∀ x ∈ ds, 0 ≤ x ∧ x < 4611686018427387904 := by rw [hds]; intro x hx; cases hx
          have := hb2.kl
          have := hb2.vl
          have := hb2.dl
          rw [size_is true _ _ ds hd0 (hb2.sz hd0) (by omega)]
          simp only [Option.bind_some]
          by_cases h3 : 4096 < Pure.sz (putR ks vs key val).1 (putR ks vs key val).2 ds
          · rw [if_pos (by omega), if_pos h3]; rfl
          · rw [if_neg (by omega), if_neg h3]
  · rw [if_neg hc, if_neg hc, if_neg hc]; rfl
def cutP (b : Bool) (ks vs : List (List Int)) (ds : List Int) (key : List Int) : Bool × List (List Int) × List (List Int) × List Int × Bool × Int :=
  if chk b ks vs ds = 0 then (if b = true then (if key ∈ ks then (b, ks.eraseIdx (bel key ks), vs.eraseIdx (bel key ks), ds, true, 0) else (b, ks, vs, ds, false, 0)) else (false, [], [], [], false, 15)) else (false, [], [], [], false, chk b ks vs ds)
theorem cut_is {ks vs : List (List Int)} {ds : List Int} (h : Bd ks vs ds) (b : Bool) (key : List Int) (hk : BytesL key) {k : Nat} (hf : 4000000 ≤ k) : node_Cut.f k b ks vs ds key = some (cutP b ks vs ds key) := by
  unfold node_Cut.f cutP
  rw [leaf_is h b hf]
  simp only [Option.bind_some]
  by_cases hc : chk b ks vs ds = 0
  · rw [if_pos hc, if_pos hc]
    cases b
    · rw [if_neg (by decide), if_neg (by decide), if_neg (by decide)]
    · rw [if_pos rfl, if_pos rfl, if_pos rfl]
      have hg := chk_good hc
      have hl := hg.lens
      obtain ⟨hvk, hds⟩ := hg.leaf
      rw [h.own true hf]
      simp only [Option.bind_some]
      rw [place_is true ks vs ds key hg.rise (fun x hx => (h.kb x hx).2) hk (by omega)]
      simp only [Option.bind_some, decide_eq_true_eq, Int.toNat_natCast]
      by_cases hm : key ∈ ks
      · obtain ⟨hb, _⟩ := bel_mem hg.rise hm
        rw [if_pos hm, if_pos hm, if_pos ⟨by omega, by omega, by omega, by omega⟩]
      · rw [if_neg hm, if_neg hm]
  · rw [if_neg hc, if_neg hc, if_neg hc]
end Go.Proofs.Ytcbgichkeecgiaa.Pure
set_option linter.unusedVariables false
namespace Go.Proofs.Ytcbgichkeecgiaa.Pure
open Go.RowKit Go.Proofs.Ytcbgichkeecgiaa.Print Go.Proofs.YtcbgichkeecgiaaW.PrintWords Go.Proofs.YtcbgichkeecgiaaW.PrintLast Go.Proofs.YtcbgichkeecgiaaW.PrintMore
theorem rise_insL {ks : List (List Int)} {key : List Int} (h : Rise ks) (hm : key ∉ ks) : Rise (insL ks (bel key ks) key) := by
  have hle := bel_le key ks
  have h1 : ∀ x ∈ ks.take (bel key ks), cmpL x key < 0 := fun x hx => by
    obtain ⟨i, hi, e⟩ := List.getElem_of_mem hx
    rw [List.length_take] at hi
    rw [← e, List.getElem_take]
    exact (bel_spec key ks h i (by omega)).2 (by omega)
  have h2 : ∀ x ∈ ks.drop (bel key ks), cmpL key x < 0 := fun x hx => by
    obtain ⟨i, hi, e⟩ := List.getElem_of_mem hx
    rw [List.length_drop] at hi
    have hn : ¬ cmpL ks[bel key ks + i] key < 0 := fun hc => by
      have := (bel_spec key ks h (bel key ks + i) (by omega)).1 hc
      omega
    rw [List.getElem_drop] at e
    rw [← e]
    refine Decidable.byContradiction fun hc => hm ?_
    rw [← cmpL_tri _ _ hn hc]
    exact List.getElem_mem _
  unfold insL Rise
  rw [List.append_assoc, List.pairwise_append]
  refine ⟨List.Pairwise.sublist (List.take_sublist _ _) h, ?_, fun x hx y hy => ?_⟩
  · rw [List.singleton_append, List.pairwise_cons]
    exact ⟨h2, List.Pairwise.sublist (List.drop_sublist _ _) h⟩
  · rw [List.singleton_append] at hy
    rcases List.mem_cons.1 hy with rfl | hy
    · exact h1 x hx
    · exact cmpL_trans x key y (h1 x hx) (h2 y hy)
end Go.Proofs.Ytcbgichkeecgiaa.Pure
set_option linter.unusedVariables false
namespace Go.Proofs.Ytcbgichkeecgiaa.Pure
open Go.RowKit Go.Proofs.Ytcbgichkeecgiaa.Print Go.Proofs.YtcbgichkeecgiaaW.PrintWords Go.Proofs.YtcbgichkeecgiaaW.PrintLast Go.Proofs.YtcbgichkeecgiaaW.PrintMore
theorem same_l2 (b : Bool) (ks vs : List (List Int)) (ds : List Int) (hl : ds.length < 4611686018427387904) : ∀ (d k i : Nat), i + d = ds.length → d < k → ladingref06_Same.l2 k (ds.length : Int) (i : Int) b ks vs ds b ks vs ds = some true
  | 0, k, i, h, hk => by
    obtain ⟨k, rfl⟩ : ∃ q, k = q + 1 := ⟨k - 1, by omega⟩
    simp only [ladingref06_Same.l2]
    rw [if_neg (by omega)]
  | d + 1, k, i, h, hk => by
    obtain ⟨k, rfl⟩ : ∃ q, k = q + 1 := ⟨k - 1, by omega⟩
    simp only [ladingref06_Same.l2]
    rw [if_pos (by omega), if_pos (by omega), if_pos (by omega), if_pos (by omega), if_pos trivial, w64n i (by omega)]
    exact same_l2 b ks vs ds hl d k (i + 1) (by omega) (by omega)
theorem same_l1 (b : Bool) (ks vs : List (List Int)) (ds : List Int) (hl : ds.length < 4611686018427387904) (hv : vs.length < 4611686018427387904) : ∀ (d k i : Nat), i + d = vs.length → d + ds.length + 1 < k → ladingref06_Same.l1 k (vs.length : Int) (i : Int) b ks vs ds b ks vs ds = some true
  | 0, k, i, h, hk => by
    obtain ⟨k, rfl⟩ : ∃ q, k = q + 1 := ⟨k - 1, by omega⟩
    simp only [ladingref06_Same.l1]
    rw [if_neg (by omega)]
    exact same_l2 b ks vs ds hl ds.length k 0 (by omega) (by omega)
  | d + 1, k, i, h, hk => by
    obtain ⟨k, rfl⟩ : ∃ q, k = q + 1 := ⟨k - 1, by omega⟩
    simp only [ladingref06_Same.l1]
    rw [if_pos (by omega), if_pos (by omega), if_pos (by omega), if_pos (by omega), if_pos trivial, w64n i (by omega)]
    exact same_l1 b ks vs ds hl hv d k (i + 1) (by omega) (by omega)
theorem same_l0 (b : Bool) (ks vs : List (List Int)) (ds : List Int) (hl : ds.length < 4611686018427387904) (hv : vs.length < 4611686018427387904) (hk0 : ks.length < 4611686018427387904) : ∀ (d k i : Nat), i + d = ks.length → d + vs.length + ds.length + 2 < k → ladingref06_Same.l0 k (ks.length : Int) (i : Int) b ks vs ds b ks vs ds = some true
  | 0, k, i, h, hk => by
    obtain ⟨k, rfl⟩ : ∃ q, k = q + 1 := ⟨k - 1, by omega⟩
    simp only [ladingref06_Same.l0]
    rw [if_neg (by omega)]
    exact same_l1 b ks vs ds hl hv vs.length k 0 (by omega) (by omega)
  | d + 1, k, i, h, hk => by
    obtain ⟨k, rfl⟩ : ∃ q, k = q + 1 := ⟨k - 1, by omega⟩
    simp only [ladingref06_Same.l0]
    rw [if_pos (by omega), if_pos (by omega), if_pos (by omega), if_pos (by omega), if_pos trivial, w64n i (by omega)]
    exact same_l0 b ks vs ds hl hv hk0 d k (i + 1) (by omega) (by omega)
theorem same_self {k : Nat} (b : Bool) (ks vs : List (List Int)) (ds : List Int) (hl : ds.length < 4611686018427387904) (hv : vs.length < 4611686018427387904) (hk0 : ks.length < 4611686018427387904) (hk : ks.length + vs.length + ds.length + 20 ≤ k) :
    ladingref06_Same.f k b ks vs ds b ks vs ds = some true := by
  unfold ladingref06_Same.f
  rw [if_neg (show ¬ (b != b) = true by simp), if_pos rfl, if_pos rfl]
  have : ((ds.length : Int) != (ds.length : Int)) = false := by simp
  rw [this]
  obtain ⟨k, rfl⟩ : ∃ q, k = q + 1 := ⟨k - 1, by omega⟩
  simp only [ladingref06_Same.j0]
  rw [if_neg (by decide)]
  exact same_l0 b ks vs ds hl hv hk0 ks.length k 0 (by omega) (by omega)
theorem bytes_is (l : List Int) (h : l.length < 140737488355328) : ladingref06_bytes.f l = some l := by
  unfold ladingref06_bytes.f
  simp only [Option.bind_some]
  rw [if_pos (by simp; omega), List.nil_append]
theorem lists_l0 (l : List (List Int)) (hl : l.length < 5864062014805) (hb : ∀ x ∈ l, x.length < 140737488355328) : ∀ (d k i : Nat), i + d = l.length → d < k → ladingref06_lists.l0 k (l.take i) l (l.length : Int) (i : Int) = some l
  | 0, k, i, h, hk => by
    obtain ⟨k, rfl⟩ : ∃ q, k = q + 1 := ⟨k - 1, by omega⟩
    simp only [ladingref06_lists.l0]
    rw [if_neg (by omega), List.take_of_length_le (by omega)]
  | d + 1, k, i, h, hk => by
    obtain ⟨k, rfl⟩ : ∃ q, k = q + 1 := ⟨k - 1, by omega⟩
    have hi : i < l.length := by omega
    simp only [ladingref06_lists.l0]
    rw [if_pos (by omega), if_pos (by omega), if_pos (by omega), rdL_at l i hi, bytes_is _ (hb _ (List.getElem_mem hi))]
    simp only [Option.bind_some]
    rw [if_pos (by rw [List.length_take]; omega), w64n i (by omega), List.take_append_getElem hi]
    exact lists_l0 l hl hb d k (i + 1) (by omega) (by omega)
theorem lists_is {k : Nat} (l : List (List Int)) (hl : l.length < 5864062014805) (hb : ∀ x ∈ l, x.length < 140737488355328) (hk : l.length < k) : ladingref06_lists.f k l = some l := by
  unfold ladingref06_lists.f
  exact lists_l0 l hl hb l.length k 0 (by omega) hk
theorem Bd.copy {ks vs : List (List Int)} {ds : List Int} (h : Bd ks vs ds) (b : Bool) {k : Nat} (hf : 4000000 ≤ k) : ladingref06_Copy.f k b ks vs ds = some (b, ks, vs, ds) := by
  have := h.kl
  have := h.vl
  have := h.dl
  unfold ladingref06_Copy.f
  rw [lists_is ks (by omega) (fun x hx => by have := (h.kb x hx).1; omega) (by omega), lists_is vs (by omega) (fun x hx => by have := (h.vb x hx).1; omega) (by omega)]
  simp only [Option.bind_some]
  rw [if_pos (by simp; omega), List.nil_append]
theorem less_dec (x y : List Int) (hx : BytesL x) (hy : BytesL y) : Op.bytesLess (strOfNums x).toList (strOfNums y).toList = decide (cmpL x y < 0) := by
  rw [less_cmp x y hx hy]
  rcases cmpL_vals x y with h | h | h <;> rw [h] <;> rfl
theorem rises_l0 (ks : List (List Int)) (hks : ∀ x ∈ ks, BytesL x) (hl : ks.length < 4611686018427387904) : ∀ (d k i : Nat), i + d = ks.length → d < k → ladingref06_rises.l0 k ks ks (ks.length : Int) (i : Int) = some (okF (prevK ks i) (ks.drop i))
  | 0, k, i, h, hk => by
    obtain ⟨k, rfl⟩ : ∃ q, k = q + 1 := ⟨k - 1, by omega⟩
    simp only [ladingref06_rises.l0]
    have hF : okF (prevK ks i) (ks.drop i) = true := by rw [List.drop_of_length_le (by omega)]; cases prevK ks i <;> rfl
    rw [if_neg (by omega), hF]
  | d + 1, k, i, h, hk => by
    obtain ⟨k, rfl⟩ : ∃ q, k = q + 1 := ⟨k - 1, by omega⟩
    have hi : i < ks.length := by omega
    simp only [ladingref06_rises.l0]
    rw [if_pos (by omega), if_pos (by omega), if_pos (by omega), rdL_at ks i hi, w64n i (by omega), rises_l0 ks hks hl d k (i + 1) (by omega) (by omega), List.drop_eq_getElem_cons hi]
    have hp : prevK ks (i + 1) = some ks[i] := by unfold prevK; rw [if_neg (by omega), Nat.add_sub_cancel, List.getElem?_eq_getElem hi]
    rw [hp]
    by_cases h1 : 256 < ks[i].length
    · rw [if_pos (by omega)]
      cases prevK ks i <;> simp only [okF] <;> rw [decide_eq_false (by omega)] <;> rfl
    · rw [if_neg (by omega)]
      by_cases h0 : i = 0
      · subst h0
        rw [if_neg (by omega)]
        have : prevK ks 0 = none := rfl
        rw [this]
        simp only [okF]
        rw [decide_eq_true (show ks[0].length ≤ 256 by omega), Bool.true_and]
      · have hi1 : i - 1 < ks.length := by omega
        have hp2 : prevK ks i = some ks[i - 1] := by unfold prevK; rw [if_neg h0, List.getElem?_eq_getElem hi1]
        rw [if_pos (by omega), hp2, w64 (by omega) (by omega), show ((i : Int) - 1) = ((i - 1 : Nat) : Int) by omega, if_pos (by omega), if_pos (by omega), rdL_at ks (i - 1) hi1, less_dec _ _ (hks _ (List.getElem_mem hi1)) (hks _ (List.getElem_mem hi))]
        simp only [okF]
        rw [decide_eq_true (show ks[i].length ≤ 256 by omega), Bool.true_and]
        by_cases h2 : cmpL ks[i - 1] ks[i] < 0
        · rw [decide_eq_true h2, if_pos rfl, Bool.true_and]
        · rw [decide_eq_false h2, if_neg (by decide)]; rfl
theorem rmade_l1 (b : Bool) (ks vs : List (List Int)) (ds : List Int) (hl : ks.length < 4611686018427387904) (hd : ds.length < 4611686018427387904) : ∀ (d k i : Nat), i + d = ds.length → d < k →
    ladingref06_made.l1 k ds (ds.length : Int) (i : Int) b ks vs ds = some (!((ds.drop i).any fun v => decide (v < 1 ∨ 1024 ≤ v)) && shapeP b ks vs ds)
  | 0, k, i, h, hk => by
    obtain ⟨k, rfl⟩ : ∃ q, k = q + 1 := ⟨k - 1, by omega⟩
    have := made_j1 0 false b ks vs ds hl
    simp only [node_made.j1] at this
    rw [if_neg (show ¬ false = true by decide)] at this
    simp only [ladingref06_made.l1]
    rw [if_neg (by omega), List.drop_of_length_le (by omega)]
    exact this
  | d + 1, k, i, h, hk => by
    obtain ⟨k, rfl⟩ : ∃ q, k = q + 1 := ⟨k - 1, by omega⟩
    have hi : i < ds.length := by omega
    simp only [ladingref06_made.l1]
    rw [if_pos (by omega), if_pos (by omega), if_pos (by omega), rdK_at ds i hi, List.drop_eq_getElem_cons hi, List.any_cons, w64n i (by omega), rmade_l1 b ks vs ds hl hd d k (i + 1) (by omega) (by omega)]
    by_cases h1 : ds[i] < 1
    · rw [if_pos h1, decide_eq_true (Or.inl h1)]; rfl
    · rw [if_neg h1]
      by_cases h2 : 1024 ≤ ds[i]
      · rw [if_pos (by omega), decide_eq_true (Or.inr h2)]; rfl
      · rw [if_neg (by omega), decide_eq_false (by omega), Bool.false_or]
theorem rmade_l0 (b : Bool) (ks vs : List (List Int)) (ds : List Int) (hl : ks.length < 4611686018427387904) (hv : vs.length < 4611686018427387904) (hd : ds.length < 4611686018427387904) : ∀ (d k i : Nat), i + d = vs.length → d + ds.length + 1 < k →
    ladingref06_made.l0 k vs (vs.length : Int) (i : Int) b ks vs ds = some (!((vs.drop i).any fun v => decide (512 < v.length)) && (!(ds.any fun v => decide (v < 1 ∨ 1024 ≤ v)) && shapeP b ks vs ds))
  | 0, k, i, h, hk => by
    obtain ⟨k, rfl⟩ : ∃ q, k = q + 1 := ⟨k - 1, by omega⟩
    simp only [ladingref06_made.l0]
    have := rmade_l1 b ks vs ds hl hd ds.length k 0 (by omega) (by omega)
    rw [List.drop_zero] at this
    rw [if_neg (by omega), List.drop_of_length_le (by omega)]
    exact this
  | d + 1, k, i, h, hk => by
    obtain ⟨k, rfl⟩ : ∃ q, k = q + 1 := ⟨k - 1, by omega⟩
    have hi : i < vs.length := by omega
    simp only [ladingref06_made.l0]
    rw [if_pos (by omega), if_pos (by omega), if_pos (by omega), rdL_at vs i hi, List.drop_eq_getElem_cons hi, List.any_cons, w64n i (by omega), rmade_l0 b ks vs ds hl hv hd d k (i + 1) (by omega) (by omega)]
    by_cases h1 : 512 < vs[i].length
    · rw [if_pos (by omega), decide_eq_true h1]; rfl
    · rw [if_neg (by omega), decide_eq_false h1, Bool.false_or]
theorem rmade_is {k : Nat} (b : Bool) (ks vs : List (List Int)) (ds : List Int) (hks : ∀ x ∈ ks, BytesL x) (hl : ks.length < 4611686018427387904) (hv : vs.length < 4611686018427387904) (hd : ds.length < 4611686018427387904)
    (hk : ks.length + vs.length + ds.length + 20 ≤ k) : ladingref06_made.f k b ks vs ds = some (okP b ks vs ds) := by
  unfold ladingref06_made.f ladingref06_rises.f
  have h1 : ladingref06_rises.l0 k ks ks (ks.length : Int) 0 = some (okF none ks) := by
    have := rises_l0 ks hks hl ks.length k 0 (by omega) (by omega)
    rw [List.drop_zero] at this
    exact this
  have h2 : ladingref06_made.l0 k vs (vs.length : Int) 0 b ks vs ds = some (!(vs.any fun v => decide (512 < v.length)) && (!(ds.any fun v => decide (v < 1 ∨ 1024 ≤ v)) && shapeP b ks vs ds)) := by
    have := rmade_l0 b ks vs ds hl hv hd vs.length k 0 (by omega) (by omega)
    rw [List.drop_zero] at this
    exact this
  rw [h1, h2]
  simp only [Option.bind_some]
  unfold okP
  cases okF none ks
  · rw [if_neg (by decide)]; rfl
  · rw [if_pos rfl]; rfl
end Go.Proofs.Ytcbgichkeecgiaa.Pure
set_option linter.unusedVariables false
namespace Go.Proofs.Ytcbgichkeecgiaa.Pure
open Go.RowKit Go.Proofs.Ytcbgichkeecgiaa.Print Go.Proofs.YtcbgichkeecgiaaW.PrintWords Go.Proofs.YtcbgichkeecgiaaW.PrintLast Go.Proofs.YtcbgichkeecgiaaW.PrintMore
theorem u64 {x : Int} (h0 : 0 ≤ x) (h1 : x ≤ 18446744073709551615) : IntKind.u64.wrap x = x := by rw [IntKind.wrap_u64]; omega
theorem num_l0 : ∀ (d n k : Nat) (l : List Int), n < 128 ^ (d + 1) → n < 4611686018427387904 → d < k → l.length + d + 1 < 140737488355328 → ∃ g : List Int, ladingref03_Num.l0 k (n : Int) l = some (l ++ g) ∧ g.length = wd n
  | 0, n, k, l, hn, hn2, hk, hl => by
    obtain ⟨k, rfl⟩ : ∃ q, k = q + 1 := ⟨k - 1, by omega⟩
    refine ⟨[(n : Int) % 256], ?_, by rw [wd_small (by omega)]; rfl⟩
    simp only [ladingref03_Num.l0]
    rw [if_neg (by omega), if_pos (by omega)]
  | d + 1, n, k, l, hn, hn2, hk, hl => by
    obtain ⟨k, rfl⟩ : ∃ q, k = q + 1 := ⟨k - 1, by omega⟩
    by_cases h : n ≤ 127
    · refine ⟨[(n : Int) % 256], ?_, by rw [wd_small h]; rfl⟩
      simp only [ladingref03_Num.l0]
      rw [if_neg (by omega), if_pos (by omega)]
    · have h2 : 128 ^ (d + 1 + 1) = 128 ^ (d + 1) * 128 := Nat.pow_succ 128 (d + 1)
      have e1 : IntKind.u64.wrap (Int.tdiv (n : Int) 128) = ((n / 128 : Nat) : Int) := by rw [Int.tdiv_eq_ediv_of_nonneg (by omega), u64 (by omega) (by omega)]; omega
      obtain ⟨g, hg, hgl⟩ := num_l0 d (n / 128) k (l ++ [IntKind.u64.wrap (Int.tmod (n : Int) 128 + 128) % 256]) (by rw [h2] at hn; omega) (by omega) (by omega) (by simp; omega)
      refine ⟨IntKind.u64.wrap (Int.tmod (n : Int) 128 + 128) % 256 :: g, ?_, by rw [wd_big h, List.length_cons, hgl]⟩
      simp only [ladingref03_Num.l0]
      rw [if_pos (by omega), if_pos (by omega), e1, hg, List.append_assoc, List.singleton_append]
theorem num_is {k : Nat} (n : Nat) (l : List Int) (hn : n < 4611686018427387904) (hk : 12 ≤ k) (hl : l.length + 20 < 140737488355328) : ∃ g : List Int, ladingref03_Num.f k l (n : Int) = some (l ++ g) ∧ g.length = wd n := by
  obtain ⟨g, hg, hgl⟩ := num_l0 8 n k l (by omega) hn (by omega) (by omega)
  refine ⟨g, ?_, hgl⟩
  unfold ladingref03_Num.f
  simp only [Option.bind_some]
  rw [if_pos (by simp; omega), List.nil_append]
  exact hg
theorem text_is {k : Nat} (s l : List Int) (hs : s.length < 1048577) (hk : 12 ≤ k) (hl : l.length + 2000000 < 140737488355328) : ∃ g : List Int, ladingref03_Text.f k l (strOfNums s) = some (l ++ g) ∧ g.length = lg s := by
  have hz : (strOfNums s).size = s.length := strOfNums_size s
  obtain ⟨g, hg, hgl⟩ := num_is (k := k) s.length l (by omega) hk (by omega)
  have hw := wd_le9 (n := s.length) (by omega)
  refine ⟨g ++ bytesOf (strOfNums s), ?_, by rw [List.length_append, bytesOf_length, hz, hgl]; rfl⟩
  unfold ladingref03_Text.f
  rw [hz, u64 (by omega) (by omega), hg]
  simp only [Option.bind_some]
  rw [if_pos (by rw [List.length_append, hgl]; omega), List.append_assoc]
theorem text_l0 (b : Bool) (ks vs : List (List Int)) (ds : List Int) (hb : Bd ks vs ds) (hv : vs.length = ks.length) : ∀ (d k i : Nat) (l : List Int), i + d = ks.length → d + 20 < k → l.length + d * 3000000 + 3000000 < 140737488355328 →
    ∃ g : List Int, ladingref06_text.l0 k l ks (ks.length : Int) (i : Int) b ks vs ds = some (l ++ g) ∧ g.length = sumL (ks.drop i) + sumL (vs.drop i)
  | 0, k, i, l, h, hk, hl => by
    obtain ⟨k, rfl⟩ : ∃ q, k = q + 1 := ⟨k - 1, by omega⟩
    refine ⟨[], ?_, by rw [List.drop_of_length_le (by omega), List.drop_of_length_le (by omega), sumL_nil]; rfl⟩
    simp only [ladingref06_text.l0]
    rw [if_neg (by omega), List.append_nil]
  | d + 1, k, i, l, h, hk, hl => by
    obtain ⟨k, rfl⟩ : ∃ q, k = q + 1 := ⟨k - 1, by omega⟩
    have hkl := hb.kl
    have hi : i < ks.length := by omega
    have hi2 : i < vs.length := by omega
    have hk1 := (hb.kb _ (List.getElem_mem hi)).1
    have hv1 := (hb.vb _ (List.getElem_mem hi2)).1
    obtain ⟨g1, e1, n1⟩ := text_is (k := k) ks[i] l (by omega) (by omega) (by omega)
    have w1 := wd_le9 (n := ks[i].length) (by omega)
    have w2 := wd_le9 (n := vs[i].length) (by omega)
    have m1 : g1.length ≤ 1048600 := by rw [n1]; unfold lg; omega
    obtain ⟨g2, e2, n2⟩ := text_is (k := k) vs[i] (l ++ g1) (by omega) (by omega) (by rw [List.length_append]; omega)
    have m2 : g2.length ≤ 1048600 := by rw [n2]; unfold lg; omega
    obtain ⟨g3, e3, n3⟩ := text_l0 b ks vs ds hb hv d k (i + 1) (l ++ g1 ++ g2) (by omega) (by omega) (by rw [List.length_append, List.length_append]; omega)
    refine ⟨g1 ++ (g2 ++ g3), ?_, by rw [sumL_drop ks i hi, sumL_drop vs i hi2, List.length_append, List.length_append, n1, n2, n3]; omega⟩
    simp only [ladingref06_text.l0]
    rw [if_pos (by omega), if_pos (by omega), if_pos (by omega), rdL_at ks i hi, e1]
    simp only [Option.bind_some]
    rw [if_pos (by omega), rdL_at vs i hi2, e2]
    simp only [Option.bind_some]
    rw [w64n i (by omega), e3]
    simp only [List.append_assoc]
theorem text_l1 (b : Bool) (ks vs : List (List Int)) (ds : List Int) (hb : Bd ks vs ds) (hd : ds.length = ks.length + 1) (hx : ∀ x ∈ ds, 0 ≤ x ∧ x < 4611686018427387904) : ∀ (d k i : Nat) (l : List Int), i + d = ks.length → d + 20 < k → l.length + d * 3000000 + 3000000 < 140737488355328 →
    ∃ g : List Int, ladingref06_text.l1 k l ks (ks.length : Int) (i : Int) b ks vs ds = some (l ++ g) ∧ g.length = sumL (ks.drop i) + sumK (ds.drop (i + 1))
  | 0, k, i, l, h, hk, hl => by
    obtain ⟨k, rfl⟩ : ∃ q, k = q + 1 := ⟨k - 1, by omega⟩
    refine ⟨[], ?_, by rw [List.drop_of_length_le (by omega), List.drop_of_length_le (by omega), sumL_nil, sumK_nil]; rfl⟩
    simp only [ladingref06_text.l1]
    rw [if_neg (by omega), List.append_nil]
  | d + 1, k, i, l, h, hk, hl => by
    obtain ⟨k, rfl⟩ : ∃ q, k = q + 1 := ⟨k - 1, by omega⟩
    have hkl := hb.kl
    have hi : i < ks.length := by omega
    have hi2 : i + 1 < ds.length := by omega
    have hk1 := (hb.kb _ (List.getElem_mem hi)).1
    have hx1 := hx _ (List.getElem_mem hi2)
    obtain ⟨g1, e1, n1⟩ := text_is (k := k) ks[i] l (by omega) (by omega) (by omega)
    have w1 := wd_le9 (n := ks[i].length) (by omega)
    have w2 := wd_le9 (n := (ds[i + 1]).toNat) (by omega)
    have m1 : g1.length ≤ 1048600 := by rw [n1]; unfold lg; omega
    obtain ⟨g2, e2, n2⟩ := num_is (k := k) (ds[i + 1]).toNat (l ++ g1) (by omega) (by omega) (by rw [List.length_append]; omega)
    obtain ⟨g3, e3, n3⟩ := text_l1 b ks vs ds hb hd hx d k (i + 1) (l ++ g1 ++ g2) (by omega) (by omega) (by rw [List.length_append, List.length_append]; omega)
    refine ⟨g1 ++ (g2 ++ g3), ?_, by rw [sumL_drop ks i hi, sumK_drop ds (i + 1) hi2, List.length_append, List.length_append, n1, n2, n3]; omega⟩
    simp only [ladingref06_text.l1]
    rw [if_pos (by omega), if_pos (by omega), if_pos (by omega), rdL_at ks i hi, e1]
    rw [Option.bind_some]
    rw [w64n i (by omega), if_pos (by omega), if_pos (by omega), rdK_at ds (i + 1) hi2, u64 (by omega) (by omega), show ds[i + 1] = (((ds[i + 1]).toNat : Nat) : Int) by omega, e2]
    rw [Option.bind_some]
    rw [e3]
    simp only [List.append_assoc]
theorem rtext_is {k : Nat} (b : Bool) (ks vs : List (List Int)) (ds : List Int) (hb : Bd ks vs ds) (ho : okP b ks vs ds = true) (hk : 4000000 ≤ k) : ∃ t, ladingref06_text.f k b ks vs ds = some t ∧ t.length + 4 = sz ks vs ds := by
  have hx := okP_kids ho
  have hsh : shapeP b ks vs ds = true := by
    unfold okP at ho
    simp only [Bool.and_eq_true] at ho
    exact ho.2.2.2
  have hkl := hb.kl
  have hw := wd_le9 (n := ks.length) (by omega)
  unfold ladingref06_text.f
  rw [u64 (by omega) (by omega)]
  cases b
  · unfold shapeP at hsh
    simp only [Bool.false_eq_true, if_false, Bool.and_eq_true, decide_eq_true_eq, List.length_eq_zero_iff] at hsh
    obtain ⟨h1, h2, rfl⟩ := hsh
    rw [if_neg (show ¬ false = true by decide)]
    obtain ⟨g1, e1, n1⟩ := num_is (k := k) ks.length [2] (by omega) (by omega) (by simp)
    rw [e1]
    rw [Option.bind_some]
    have hd0 : 0 < ds.length := by omega
    have hx0 := hx _ (List.getElem_mem hd0)
    have hr : rd ds 0 = ds[0] := rdK_at ds 0 hd0
    rw [if_pos (by omega), hr, u64 (by omega) (by omega), show ds[0] = (((ds[0]).toNat : Nat) : Int) by omega]
    obtain ⟨g2, e2, n2⟩ := num_is (k := k) (ds[0]).toNat ([2] ++ g1) (by omega) (by omega) (by simp; omega)
    have w2 := wd_le9 (n := (ds[0]).toNat) (by omega)
    rw [e2]
    rw [Option.bind_some]
    obtain ⟨g3, e3, n3⟩ := text_l1 false ks [] ds hb h2 hx ks.length k 0 ([2] ++ g1 ++ g2) (by omega) (by omega) (by simp only [List.length_append, List.length_singleton]; omega)
    refine ⟨_, e3, ?_⟩
    have h0 := sumK_drop ds 0 hd0
    rw [List.drop_zero] at h0 n3
    simp only [List.length_append, List.length_singleton]
    unfold Pure.sz
    rw [sumL_nil]
    omega
  · unfold shapeP at hsh
    simp only [if_true, Bool.and_eq_true, decide_eq_true_eq, List.length_eq_zero_iff] at hsh
    obtain ⟨h1, rfl⟩ := hsh
    rw [if_pos rfl]
    obtain ⟨g1, e1, n1⟩ := num_is (k := k) ks.length [1] (by omega) (by omega) (by simp)
    rw [e1]
    rw [Option.bind_some]
    obtain ⟨g3, e3, n3⟩ := text_l0 true ks vs [] hb h1 ks.length k 0 ([1] ++ g1) (by omega) (by omega) (by simp only [List.length_append, List.length_singleton]; omega)
    refine ⟨_, e3, ?_⟩
    rw [List.drop_zero, List.drop_zero] at n3
    simp only [List.length_append, List.length_singleton]
    unfold Pure.sz
    rw [sumK_nil]
    omega
theorem Bd.rmade {ks vs : List (List Int)} {ds : List Int} (h : Bd ks vs ds) (b : Bool) {k : Nat} (hk : 4000000 ≤ k) : ladingref06_made.f k b ks vs ds = some (okP b ks vs ds) := by
  have := h.kl
  have := h.vl
  have := h.dl
  exact rmade_is b ks vs ds (fun x hx => (h.kb x hx).2) (by omega) (by omega) (by omega) (by omega)
theorem rsize_is {ks vs : List (List Int)} {ds : List Int} (h : Bd ks vs ds) (b : Bool) (ho : okP b ks vs ds = true) {k : Nat} (hk : 4000000 ≤ k) : ladingref06_Size.f k b ks vs ds = some (sz ks vs ds : Int) := by
  obtain ⟨t, et, nt⟩ := rtext_is b ks vs ds h ho hk
  have := h.sz (okP_kids ho)
  unfold ladingref06_Size.f
  rw [h.rmade b hk, ho]
  simp only [Option.bind_some]
  rw [if_pos trivial, et]
  simp only [Option.bind_some]
  rw [w64 (by omega) (by omega), ← nt]
  congr 1
theorem rcheck_is {ks vs : List (List Int)} {ds : List Int} (h : Bd ks vs ds) (b : Bool) {k : Nat} (hk : 4000000 ≤ k) : ladingref06_Check.f k b ks vs ds = some (chk b ks vs ds) := by
  unfold ladingref06_Check.f chk
  rw [h.rmade b hk]
  simp only [Option.bind_some]
  cases ho : okP b ks vs ds
  · rw [if_neg (by decide), if_neg (by decide)]
  · rw [if_pos rfl, if_pos rfl, rsize_is h b ho hk]
    simp only [Option.bind_some]
    by_cases h1 : 4096 < Pure.sz ks vs ds
    · rw [if_pos (by omega), if_pos h1]
    · rw [if_neg (by omega), if_neg h1]
theorem below_l0 (b : Bool) (ks vs : List (List Int)) (ds key : List Int) (hr : Rise ks) (hks : ∀ x ∈ ks, BytesL x) (hkey : BytesL key) (hl : ks.length < 4611686018427387904) : ∀ (d k i : Nat), i + d = bel key ks → d < k →
    ladingref06_below.l0 k key (i : Int) b ks vs ds = some ((bel key ks : Int), decide (key ∈ ks))
  | 0, k, i, h, hk => by
    obtain ⟨k, rfl⟩ : ∃ q, k = q + 1 := ⟨k - 1, by omega⟩
    have hle := bel_le key ks
    simp only [ladingref06_below.l0]
    have e : i = bel key ks := by omega
    subst e
    by_cases hi : bel key ks < ks.length
    · have hn : ¬ cmpL ks[bel key ks] key < 0 := fun hc => by have := (bel_spec key ks hr _ hi).1 hc; omega
      rw [if_pos (by omega), if_pos (by omega), rdL_at ks _ hi, less_dec _ _ (hks _ (List.getElem_mem hi)) hkey, decide_eq_false hn, if_neg (by decide), str_beq _ _ (hks _ (List.getElem_mem hi)) hkey]
      by_cases hm : key ∈ ks
      · obtain ⟨_, e⟩ := bel_mem hr hm
        rw [decide_eq_true hm, decide_eq_true e]
      · rw [decide_eq_false hm, decide_eq_false (fun e => hm (by rw [← e]; exact List.getElem_mem hi))]
    · rw [if_neg (by omega), decide_eq_false (fun hm => hi (bel_mem hr hm).1)]
  | d + 1, k, i, h, hk => by
    obtain ⟨k, rfl⟩ : ∃ q, k = q + 1 := ⟨k - 1, by omega⟩
    have hle := bel_le key ks
    have hi : i < ks.length := by omega
    have hc := (bel_spec key ks hr i hi).2 (by omega)
    simp only [ladingref06_below.l0]
    rw [if_pos (by omega), if_pos (by omega), rdL_at ks i hi, less_dec _ _ (hks _ (List.getElem_mem hi)) hkey, decide_eq_true hc, if_pos rfl, w64n i (by omega)]
    exact below_l0 b ks vs ds key hr hks hkey hl d k (i + 1) (by omega) (by omega)
theorem below_is {k : Nat} (b : Bool) (ks vs : List (List Int)) (ds key : List Int) (hr : Rise ks) (hks : ∀ x ∈ ks, BytesL x) (hkey : BytesL key) (hl : ks.length < 4611686018427387904) (hk : ks.length < k) : ladingref06_below.f k b ks vs ds key = some ((bel key ks : Int), decide (key ∈ ks)) := by
  have := bel_le key ks
  unfold ladingref06_below.f
  exact below_l0 b ks vs ds key hr hks hkey hl (bel key ks) k 0 (by omega) (by omega)
theorem rfind_is {ks vs : List (List Int)} {ds : List Int} (h : Bd ks vs ds) (b : Bool) (key : List Int) (hk : BytesL key) {k : Nat} (hf : 4000000 ≤ k) : ladingref06_Find.f k b ks vs ds key = some (fnd b ks vs ds key) := by
  unfold ladingref06_Find.f fnd
  rw [rcheck_is h b hf]
  simp only [Option.bind_some]
  by_cases hc : chk b ks vs ds = 0
  · have hg := chk_good hc
    have hl := hg.lens
    have hle := bel_le key ks
    rw [if_pos hc, if_pos hc, below_is b ks vs ds key hg.rise (fun x hx => (h.kb x hx).2) hk (by omega) (by omega)]
    simp only [Option.bind_some, decide_eq_true_eq]
    by_cases hm : key ∈ ks
    · cases b
      · rw [if_neg (show ¬ false = true by decide), if_pos hm, if_pos ⟨hm, rfl⟩, w64n _ (by omega)]
      · rw [if_pos rfl, if_neg (fun hx => by cases hx.2)]
    · cases b
      · rw [if_neg (show ¬ false = true by decide), if_neg hm, if_neg (fun hx => hm hx.1)]
      · rw [if_pos rfl, if_neg (fun hx => hm hx.1)]
  · rw [if_neg hc, if_neg hc]
theorem with_is (l : List (List Int)) (n : Nat) (x : List Int) (hn : n ≤ l.length) (hl : l.length < 5000000) (hx : x.length < 5000000) : ladingref06_with.f l (n : Int) x = some (insL l n x) := by
  unfold ladingref06_with.f
  simp only [Option.bind_some, Int.toNat_natCast]
  rw [if_pos (by omega), if_pos (by omega), if_pos (by simp only [List.length_nil, List.length_take]; omega), bytes_is x (by omega)]
  simp only [Option.bind_some]
  rw [if_pos (by simp only [List.nil_append, List.length_take]; omega), if_pos (by simp only [List.nil_append, List.length_append, List.length_take, List.length_drop, List.length_singleton]; omega)]
  unfold insL
  rw [List.nil_append]
theorem without_is (l : List (List Int)) (n : Nat) (hn : n < l.length) (hl : l.length < 5000000) : ladingref06_without.f l (n : Int) = some (l.eraseIdx n) := by
  unfold ladingref06_without.f
  rw [w64n n (by omega), Int.toNat_natCast, Int.toNat_natCast]
  rw [Option.bind_some, if_pos (by omega), if_pos (by omega), Option.bind_some, if_pos (by simp only [List.length_nil, List.length_take]; omega), Option.bind_some, if_pos (by omega), if_pos (by omega), Option.bind_some, if_pos (by simp only [List.nil_append, List.length_take, List.length_drop]; omega), List.nil_append, ← List.eraseIdx_eq_take_drop_succ]
theorem putR_ok {ks vs : List (List Int)} {ds : List Int} (h : Good true ks vs ds) (key val : List Int) (hk : key.length ≤ 256) (hv : val.length ≤ 512) : okP true (putR ks vs key val).1 (putR ks vs key val).2 ds = true := by
  obtain ⟨hvk, rfl⟩ := h.leaf
  unfold putR
  by_cases hm : key ∈ ks
  · rw [if_pos hm]
    refine leaf_ok h.rise h.klen (fun x hx => ?_) (by rw [List.length_set]; exact hvk)
    rcases List.mem_or_eq_of_mem_set hx with hx | rfl
    · exact h.vlen x hx
    · exact hv
  · rw [if_neg hm]
    refine leaf_ok (rise_insL h.rise hm) (fun x hx => ?_) (fun x hx => ?_) (by rw [len_insL, len_insL, hvk])
    · rcases mem_insL.1 hx with rfl | hx
      · exact hk
      · exact h.klen x hx
    · rcases mem_insL.1 hx with rfl | hx
      · exact hv
      · exact h.vlen x hx
theorem rput_is {ks vs : List (List Int)} {ds : List Int} (h : Bd ks vs ds) (b : Bool) (key val : List Int) (hk : BytesL key) (hv : BytesL val) (hkl : key.length ≤ 1048576) (hvl : val.length ≤ 1048576) {k : Nat} (hf : 4000000 ≤ k) :
    ladingref06_Put.f k b ks vs ds key val = some (putP b ks vs ds key val) := by
  unfold ladingref06_Put.f putP
  rw [rcheck_is h b hf]
  simp only [Option.bind_some]
  by_cases hc : chk b ks vs ds = 0
  · rw [if_pos hc, if_pos hc]
    cases b
    · rw [if_neg (show ¬ false = true by decide), if_neg (show ¬ false = true by decide)]; rfl
    · rw [if_pos rfl, if_pos rfl]
      have hg := chk_good hc
      have hl := hg.lens
      have hle := bel_le key ks
      obtain ⟨hvk, hds⟩ := hg.leaf
      by_cases h1 : 256 < key.length
      · rw [if_pos (by omega), if_pos (Or.inl h1)]; rfl
      · rw [if_neg (by omega)]
        by_cases h2 : 512 < val.length
        · rw [if_pos (by omega), if_pos (Or.inr h2)]; rfl
        · rw [if_neg (by omega), if_neg (show ¬ (256 < key.length ∨ 512 < val.length) by omega), h.copy true hf]
          simp only [Option.bind_some]
          rw [below_is true ks vs ds key hg.rise (fun x hx => (h.kb x hx).2) hk (by omega) (by omega)]
          simp only [Option.bind_some, decide_eq_true_eq, Int.toNat_natCast]
          have hb2 := putR_bd hg h key val hk hv hkl hvl
          have ho2 := putR_ok hg key val (by omega) (by omega)
          have hs2 := rsize_is hb2 true ho2 hf
          by_cases hm : key ∈ ks
          · obtain ⟨hb, _⟩ := bel_mem hg.rise hm
            unfold putR at hs2 ⊢
            rw [if_pos hm] at hs2 ⊢
            rw [if_pos hm, bytes_is val (by omega)]
            simp only [Option.bind_some]
            rw [if_pos (by omega), if_pos (by omega), hs2]
            simp only [Option.bind_some]
            by_cases h3 : 4096 < Pure.sz ks (vs.set (bel key ks) val) ds
            · rw [if_pos (by omega), if_pos h3]; rfl
            · rw [if_neg (by omega), if_neg h3]
          · unfold putR at hs2 ⊢
            rw [if_neg hm] at hs2 ⊢
            rw [if_neg hm, with_is ks _ key hle (by omega) (by omega)]
            simp only [Option.bind_some]
            rw [with_is vs _ val (by omega) (by omega) (by omega)]
            simp only [Option.bind_some]
            rw [hs2]
            simp only [Option.bind_some]
            by_cases h3 : 4096 < Pure.sz (insL ks (bel key ks) key) (insL vs (bel key ks) val) ds
            · rw [if_pos (by omega), if_pos h3]; rfl
            · rw [if_neg (by omega), if_neg h3]
  · rw [if_neg hc, if_neg hc]; rfl
theorem rcut_is {ks vs : List (List Int)} {ds : List Int} (h : Bd ks vs ds) (b : Bool) (key : List Int) (hk : BytesL key) {k : Nat} (hf : 4000000 ≤ k) : ladingref06_Cut.f (k + 2) b ks vs ds key = some (cutP b ks vs ds key) := by
  unfold ladingref06_Cut.f cutP
  rw [rcheck_is h b (by omega)]
  simp only [Option.bind_some]
  by_cases hc : chk b ks vs ds = 0
  · rw [if_pos hc, if_pos hc, hc]
    cases b
    · simp only [ladingref06_Cut.j0, ladingref06_Cut.j1]; rfl
    · simp only [ladingref06_Cut.j0, ladingref06_Cut.j1]
      rw [if_neg (show ¬ (!true) = true by decide), if_pos trivial, if_pos trivial]
      have hg := chk_good hc
      have hl := hg.lens
      obtain ⟨hvk, hds⟩ := hg.leaf
      rw [h.copy true hf]
      simp only [Option.bind_some]
      rw [below_is true ks vs ds key hg.rise (fun x hx => (h.kb x hx).2) hk (by omega) (by omega)]
      simp only [Option.bind_some, decide_eq_true_eq]
      by_cases hm : key ∈ ks
      · obtain ⟨hb, _⟩ := bel_mem hg.rise hm
        rw [if_pos hm, if_pos hm, without_is ks _ hb (by omega)]
        simp only [Option.bind_some]
        rw [without_is vs _ (by omega) (by omega)]
        simp only [Option.bind_some]
        rw [decide_eq_true hm]
      · rw [if_neg hm, if_neg hm, decide_eq_false hm]
  · rw [if_neg hc, if_neg hc]
    simp only [ladingref06_Cut.j0, ladingref06_Cut.j1]
    rw [if_neg (show ¬ false = true by decide), if_neg hc]
end Go.Proofs.Ytcbgichkeecgiaa.Pure
set_option linter.unusedVariables false
namespace Go.Proofs.Ytcbgichkeecgiaa.Pure
open Go.RowKit Go.Proofs.Ytcbgichkeecgiaa.Print Go.Proofs.YtcbgichkeecgiaaW.PrintWords
theorem bd_of {b : Bool} {ks vs : List (List Int)} {ds : List Int} (h : (True ∧ (ks.length ≤ 1048576 ∧ ∀ y5 ∈ ks, (y5.length ≤ 1048576 ∧ ∀ y2 ∈ y5, (Lit.int .u8 y2).wf = true)) ∧ (vs.length ≤ 1048576 ∧ ∀ y5 ∈ vs, (y5.length ≤ 1048576 ∧ ∀ y2 ∈ y5, (Lit.int .u8 y2).wf = true)) ∧ (ds.length ≤ 1048576 ∧ ∀ y5 ∈ ds, (Lit.int .i64 y5).wf = true))) : Bd ks vs ds :=
  ⟨h.2.1.1, h.2.2.1.1, h.2.2.2.1, fun x hx => ⟨(h.2.1.2 x hx).1, bytesL_wf (h.2.1.2 x hx).2⟩, fun x hx => ⟨(h.2.2.1.2 x hx).1, bytesL_wf (h.2.2.1.2 x hx).2⟩⟩
theorem putP_lens {b : Bool} {ks vs : List (List Int)} {ds key val : List Int} (h : Bd ks vs ds) :
    (putP b ks vs ds key val).2.1.length ≤ 1048577 ∧ (putP b ks vs ds key val).2.2.1.length ≤ 1048577 ∧ (putP b ks vs ds key val).2.2.2.1.length ≤ 1048577 := by
  have := h.kl
  have := h.vl
  have := h.dl
  have hr : (putR ks vs key val).1.length ≤ 1048577 ∧ (putR ks vs key val).2.length ≤ 1048577 := by
    unfold putR
    split
    · exact ⟨by show ks.length ≤ _; omega, by rw [List.length_set]; omega⟩
    · exact ⟨by rw [len_insL]; omega, by rw [len_insL]; omega⟩
  unfold putP no5
  split
  · split
    · split
      · simp
      · split
        · simp
        · exact ⟨hr.1, hr.2, by simp only; omega⟩
    · simp
  · simp
theorem cutP_lens {b : Bool} {ks vs : List (List Int)} {ds key : List Int} (h : Bd ks vs ds) :
    (cutP b ks vs ds key).2.1.length ≤ 1048577 ∧ (cutP b ks vs ds key).2.2.1.length ≤ 1048577 ∧ (cutP b ks vs ds key).2.2.2.1.length ≤ 1048577 := by
  have := h.kl
  have := h.vl
  have := h.dl
  have h1 : (ks.eraseIdx (bel key ks)).length ≤ ks.length := (List.eraseIdx_sublist ks _).length_le
  have h2 : (vs.eraseIdx (bel key ks)).length ≤ vs.length := (List.eraseIdx_sublist vs _).length_le
  unfold cutP
  split
  · split
    · split
      · exact ⟨by simp only; omega, by simp only; omega, by simp only; omega⟩
      · exact ⟨by simp only; omega, by simp only; omega, by simp only; omega⟩
    · simp
  · simp
theorem NodeKeysUpto : ∀ (a0 : S26) (l1 : List Int) (l2 : List Int), (True ∧ (a0.f1.length ≤ 1048576 ∧ ∀ y5 ∈ a0.f1, (y5.length ≤ 1048576 ∧ ∀ y2 ∈ y5, (Lit.int .u8 y2).wf = true)) ∧ (a0.f2.length ≤ 1048576 ∧ ∀ y5 ∈ a0.f2, (y5.length ≤ 1048576 ∧ ∀ y2 ∈ y5, (Lit.int .u8 y2).wf = true)) ∧ (a0.f3.length ≤ 1048576 ∧ ∀ y5 ∈ a0.f3, (Lit.int .i64 y5).wf = true)) → (l1.length ≤ 1048576 ∧ ∀ y2 ∈ l1, (Lit.int .u8 y2).wf = true) → (l2.length ≤ 1048576 ∧ ∀ y2 ∈ l2, (Lit.int .u8 y2).wf = true) → ∃ k, ladinglaw06_NodeKeys.f k a0.f0 a0.f1 a0.f2 a0.f3 l1 l2 = some true := by
  rintro ⟨b, ks, vs, ds⟩ key val h hk hv
  have hp : Bd ks vs ds := bd_of (b := b) h
  clear h
  have bk := bytesL_wf hk.2
  have bv := bytesL_wf hv.2
  have := hp.kl
  have := hp.vl
  have := hp.dl
  obtain ⟨q, hq⟩ : ∃ q, 4000000 ≤ q := ⟨4000000, Nat.le_refl _⟩
  refine ⟨q + 2, ?_⟩
  have hP := putP_lens (b := b) (key := key) (val := val) hp
  have hC := cutP_lens (b := b) (key := key) hp
  have e1 := same_self (k := q + 2) (putP b ks vs ds key val).1 (putP b ks vs ds key val).2.1 (putP b ks vs ds key val).2.2.1 (putP b ks vs ds key val).2.2.2.1 (by omega) (by omega) (by omega) (by omega)
  have e2 := same_self (k := q + 2) (cutP b ks vs ds key).1 (cutP b ks vs ds key).2.1 (cutP b ks vs ds key).2.2.1 (cutP b ks vs ds key).2.2.2.1 (by omega) (by omega) (by omega) (by omega)
  have e3 := same_self (k := q + 2) b ks vs ds (by omega) (by omega) (by omega) (by omega)
  unfold ladinglaw06_NodeKeys.f ladinglaw06_lives.f
  rw [hp.copy b (by omega), Option.bind_some]
  rw [find_is hp b key bk (by omega), Option.bind_some, rfind_is hp b key bk (by omega), Option.bind_some]
  rw [put_is hp b key val bk bv hk.1 hv.1 (by omega), Option.bind_some, rput_is hp b key val bk bv hk.1 hv.1 (by omega), Option.bind_some]
  rw [cut_is hp b key bk (by omega), Option.bind_some, rcut_is hp b key bk hq, Option.bind_some, Option.bind_some, if_pos rfl, if_pos rfl, if_pos (by simp), if_pos rfl]
  rw [e1, Option.bind_some, if_pos rfl, if_pos rfl, e2, Option.bind_some, if_pos rfl, if_pos (by simp), if_pos rfl, e3]
  rfl
end Go.Proofs.Ytcbgichkeecgiaa.Pure
set_option linter.unusedVariables false
namespace Go.Proofs.Ytcbgichkeecgiaa.Pure
open Go.RowKit Go.Proofs.Ytcbgichkeecgiaa.Print Go.Proofs.YtcbgichkeecgiaaW.PrintWords
theorem some_bind2 {α β : Type} (a : α) (f : α → Option β) : (some a).bind f = f a := rfl
theorem Good.inner {ks vs : List (List Int)} {ds : List Int} (h : Good false ks vs ds) : vs = [] ∧ ds.length = ks.length + 1 ∧ 0 < ks.length ∧ ∀ x ∈ ds, 1 ≤ x ∧ x < 1024 := by
  have hs := h.shape
  have ho := h.ok
  unfold shapeP at hs
  simp only [Bool.false_eq_true, if_false, Bool.and_eq_true, decide_eq_true_eq] at hs
  refine ⟨List.length_eq_zero_iff.mp hs.2.2, hs.2.1, hs.1, fun x hx => ?_⟩
  unfold okP at ho
  simp only [Bool.and_eq_true, Bool.not_eq_true', List.any_eq_false, decide_eq_true_eq] at ho
  have := ho.2.2.1 x hx
  omega
theorem Bd.take {ks vs : List (List Int)} {ds : List Int} (h : Bd ks vs ds) (a b c : Nat) : Bd (ks.take a) (vs.take b) (ds.take c) :=
  ⟨by have := h.kl; rw [List.length_take]; omega, by have := h.vl; rw [List.length_take]; omega, by have := h.dl; rw [List.length_take]; omega, fun x hx => h.kb x (List.mem_of_mem_take hx), fun x hx => h.vb x (List.mem_of_mem_take hx)⟩
theorem Bd.drop {ks vs : List (List Int)} {ds : List Int} (h : Bd ks vs ds) (a b c : Nat) : Bd (ks.drop a) (vs.drop b) (ds.drop c) :=
  ⟨by have := h.kl; rw [List.length_drop]; omega, by have := h.vl; rw [List.length_drop]; omega, by have := h.dl; rw [List.length_drop]; omega, fun x hx => h.kb x (List.mem_of_mem_drop hx), fun x hx => h.vb x (List.mem_of_mem_drop hx)⟩
theorem half_l0 (ks vs : List (List Int)) (ds : List Int) (want : Int) (hv : vs.length = ks.length) (hl : ks.length ≤ 4096) (h1 : ∀ x ∈ ks, x.length ≤ 256) (h2 : ∀ x ∈ vs, x.length ≤ 512) (hk2 : 2 ≤ ks.length) : ∀ (d i k : Nat) (x : Int), i + d = ks.length - 1 → d + 20 < k →
    ∃ j : Nat, 0 < j ∧ j < ks.length ∧ node_half.l0 k want x ((ks.length - 1 : Nat) : Int) (i : Int) true ks vs ds = some (j : Int) := by
  intro d
  induction d with
  | zero =>
    intro i k x hd hk
    obtain ⟨q, hq⟩ : ∃ q, k = q + 1 := ⟨k - 1, by omega⟩
    refine ⟨ks.length - 1, by omega, by omega, ?_⟩
    rw [hq, node_half.l0, if_neg (by omega), w64 (by omega) (by omega)]
    congr 1
    omega
  | succ d ih =>
    intro i k x hd hk
    obtain ⟨q, hq⟩ : ∃ q, k = q + 1 := ⟨k - 1, by omega⟩
    have hi : i < ks.length := by omega
    have hj : i < vs.length := by omega
    have e1 := h1 _ (List.getElem_mem hi)
    have e2 := h2 _ (List.getElem_mem hj)
    rw [hq, node_half.l0, if_pos (by omega), if_pos (by omega), if_pos (by omega), rdL_at ks i hi, long_is _ (by omega) (by omega), some_bind2, if_pos (by omega), rdL_at vs i hj, long_is _ (by omega) (by omega), some_bind2, w64n i (by omega), width_is (i + 1) (by omega) (by omega), some_bind2]
    split
    · exact ⟨i + 1, by omega, by omega, rfl⟩
    · exact ih (i + 1) q _ (by omega) (by omega)
theorem half_is {ks vs : List (List Int)} (h : Good true ks vs []) (hk2 : 2 ≤ ks.length) {k : Nat} (hk : 4000000 ≤ k) : ∃ j : Nat, 0 < j ∧ j < ks.length ∧ node_half.f k true ks vs [] = some (j : Int) := by
  obtain ⟨l1, l2, _⟩ := h.lens
  unfold node_half.f
  have hs := size_is (k := k) true ks vs [] (by simp) (by have := h.small; omega) (by simp only [List.length_nil]; omega)
  rw [hs, some_bind2, w64 (x := (ks.length : Int) - 1) (by omega) (by omega), if_pos (by omega), if_pos (by omega)]
  have e : (((ks.take ((ks.length : Int) - 1).toNat).length : Nat) : Int) = ((ks.length - 1 : Nat) : Int) := by
    rw [List.length_take]
    omega
  rw [e]
  exact half_l0 ks vs [] _ h.leaf.1 l1 h.klen h.vlen hk2 (ks.length - 1) 0 k 5 (by omega) (by omega)
theorem split_leaf {ks vs : List (List Int)} {ds : List Int} (h : Bd ks vs ds) (hc : chk true ks vs ds = 0) (hl : 2 ≤ ks.length) {k : Nat} (hk : 4000000 ≤ k) :
    ∃ (j : Nat) (hj : j < ks.length), 0 < j ∧ node_Split.f k true ks vs ds = some (true, ks.take j, vs.take j, [], ks[j], true, ks.drop j, vs.drop j, [], 0) := by
  have G := chk_good hc
  obtain ⟨hvk, rfl⟩ := G.leaf
  obtain ⟨j, j0, j1, hh⟩ := half_is G hl hk
  refine ⟨j, j1, j0, ?_⟩
  have := h.kl
  have e1 := G.klen _ (List.getElem_mem j1)
  unfold node_Split.f
  rw [h.check true hk, some_bind2, if_pos hc, if_neg (by simp; omega), h.own true hk, some_bind2, if_pos rfl, hh, some_bind2]
  simp only
  rw [if_pos (by omega), rdL_at ks j j1]
  unfold bytes_Clone.f
  rw [if_pos (by omega)]
  rfl
theorem split_inner {ks vs : List (List Int)} {ds : List Int} (h : Bd ks vs ds) (hc : chk false ks vs ds = 0) (hl : 3 ≤ ks.length) {k : Nat} (hk : 4000000 ≤ k) :
    ∃ (j : Nat) (hj : j + 1 < ks.length), 0 < j ∧ node_Split.f k false ks vs ds = some (false, ks.take j, [], ds.take (j + 1), ks[j], false, ks.drop (j + 1), [], ds.drop (j + 1), 0) := by
  have G := chk_good hc
  obtain ⟨rfl, hdl, _, _⟩ := G.inner
  have := h.kl
  have := h.dl
  refine ⟨ks.length / 2, by omega, by omega, ?_⟩
  unfold node_Split.f
  rw [h.check false hk, some_bind2, if_pos hc, if_neg (by omega), h.own false hk, some_bind2, if_neg (by simp)]
  simp only
  rw [if_pos (by omega), rdL_at ks _ (by omega)]
theorem split_no {ks vs : List (List Int)} {ds : List Int} (h : Bd ks vs ds) (b : Bool) (hc : ¬ (chk b ks vs ds = 0 ∧ 2 ≤ ks.length ∧ (b = false → 3 ≤ ks.length))) {k : Nat} (hk : 4000000 ≤ k) :
    ∃ t, t ≠ 0 ∧ node_Split.f k b ks vs ds = some (false, [], [], [], [], false, [], [], [], t) := by
  unfold node_Split.f
  rw [h.check b hk, some_bind2]
  by_cases h0 : chk b ks vs ds = 0
  · rw [if_pos h0, if_pos]
    · exact ⟨2, by decide, rfl⟩
    · cases b
      · simp at hc ⊢
        omega
      · simp at hc ⊢
        omega
  · rw [if_neg h0]
    exact ⟨_, h0, rfl⟩
end Go.Proofs.Ytcbgichkeecgiaa.Pure
set_option linter.unusedVariables false
namespace Go.Proofs.Ytcbgichkeecgiaa.Pure
open Go.RowKit Go.Proofs.Ytcbgichkeecgiaa.Print Go.Proofs.YtcbgichkeecgiaaW.PrintWords
theorem split_some {ks vs : List (List Int)} {ds : List Int} (h : Bd ks vs ds) (b : Bool) {k : Nat} (hk : 4000000 ≤ k) : ∃ s, node_Split.f k b ks vs ds = some s := by
  by_cases hc : chk b ks vs ds = 0 ∧ 2 ≤ ks.length ∧ (b = false → 3 ≤ ks.length)
  · obtain ⟨c, hl, hl3⟩ := hc
    cases b with
    | true =>
      obtain ⟨j, hj, j0, hs⟩ := split_leaf h c hl hk
      exact ⟨_, hs⟩
    | false =>
      obtain ⟨j, hj, j0, hs⟩ := split_inner h c (hl3 rfl) hk
      exact ⟨_, hs⟩
  · obtain ⟨t, ht, hs⟩ := split_no h b hc hk
    exact ⟨_, hs⟩
theorem NodeOwnUpto : ∀ (a0 : S26) (l1 : List Int) (l2 : List Int), (True ∧ (a0.f1.length ≤ 1048576 ∧ ∀ y5 ∈ a0.f1, (y5.length ≤ 1048576 ∧ ∀ y2 ∈ y5, (Lit.int .u8 y2).wf = true)) ∧ (a0.f2.length ≤ 1048576 ∧ ∀ y5 ∈ a0.f2, (y5.length ≤ 1048576 ∧ ∀ y2 ∈ y5, (Lit.int .u8 y2).wf = true)) ∧ (a0.f3.length ≤ 1048576 ∧ ∀ y5 ∈ a0.f3, (Lit.int .i64 y5).wf = true)) → (l1.length ≤ 1048576 ∧ ∀ y3 ∈ l1, (Lit.int .u8 y3).wf = true) → (l2.length ≤ 1048576 ∧ ∀ y3 ∈ l2, (Lit.int .u8 y3).wf = true) → ∃ k, ladinglaw06_NodeOwn.f k a0.f0 a0.f1 a0.f2 a0.f3 l1 l2 = some true := by
  intro a0 key val h hk hv
  obtain ⟨k0, hN⟩ := NodeKeysUpto a0 key val h hk hv
  obtain ⟨b, ks, vs, ds⟩ := a0
  have hp : Bd ks vs ds := bd_of (b := b) h
  clear h
  have bk := bytesL_wf hk.2
  have bv := bytesL_wf hv.2
  have := hp.kl
  have := hp.vl
  have := hp.dl
  refine ⟨k0 + 4000002, ?_⟩
  have hN' := up (fun k => ladinglaw06_NodeKeys.mono b ks vs ds key val k) hN (show k0 ≤ k0 + 4000002 by omega)
  have e3 := same_self (k := k0 + 4000002) b ks vs ds (by omega) (by omega) (by omega) (by omega)
  unfold ladinglaw06_NodeOwn.f ladinglaw06_lives.f
  rw [Option.bind_some, if_pos rfl, hp.copy b (by omega), Option.bind_some]
  obtain ⟨s, hs⟩ := split_some hp b (k := k0 + 4000002) (by omega)
  dsimp only
  rw [hs, Option.bind_some]
  rw [put_is hp b key val bk bv hk.1 hv.1 (by omega), Option.bind_some]
  rw [e3, Option.bind_some, if_pos rfl]
  exact hN'
end Go.Proofs.Ytcbgichkeecgiaa.Pure
