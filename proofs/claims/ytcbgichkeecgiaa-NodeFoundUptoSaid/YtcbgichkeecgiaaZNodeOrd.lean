/- Plain: how lists of bytes stand to one another. -/
import Derived.Test.YtcbgichkeecgiaaZPrint7
import Derived.Lib.Bytes
set_option linter.unusedVariables false
namespace Go.Proofs.Ytcbgichkeecgiaa.Pure
open Go.RowKit Go.Proofs.Ytcbgichkeecgiaa.Print Go.Proofs.YtcbgichkeecgiaaW.PrintWords Go.Proofs.YtcbgichkeecgiaaW.PrintLast Go.Proofs.YtcbgichkeecgiaaW.PrintMore
theorem w64 {x : Int} (h0 : -9223372036854775808 ≤ x) (h1 : x ≤ 9223372036854775807) : wrap64 x = x := by unfold wrap64; omega
theorem w64n (i : Nat) (h : i < 9223372036854775807) : wrap64 ((i : Int) + 1) = ((i + 1 : Nat) : Int) := by rw [w64 (by omega) (by omega)]; rfl
def BytesL (l : List Int) : Prop := ∀ x ∈ l, 0 ≤ x ∧ x < 256
theorem bytesL_wf {l : List Int} (h : ∀ x ∈ l, (Lit.int .u8 x).wf = true) : BytesL l := fun x hx => by
  have := h x hx
  simp [Lit.wf, IntKind.min, IntKind.max, IntKind.bits, IntKind.signed] at this
  omega
def cmpL : List Int → List Int → Int
  | [], [] => 0
  | [], _ :: _ => -1
  | _ :: _, [] => 1
  | a :: x, b :: y => if a < b then -1 else if b < a then 1 else cmpL x y
theorem cmpL_cc (a b : Int) (x y : List Int) : cmpL (a :: x) (b :: y) = if a < b then -1 else if b < a then 1 else cmpL x y := rfl
theorem cmpL_same : ∀ (w x y : List Int), cmpL (w ++ x) (w ++ y) = cmpL x y
  | [], x, y => rfl
  | a :: w, x, y => by
    show (if a < a then -1 else if a < a then 1 else cmpL (w ++ x) (w ++ y)) = _
    rw [if_neg (by omega), if_neg (by omega), cmpL_same w x y]
theorem cmpL_self (x : List Int) : cmpL x x = 0 := by
  have := cmpL_same x [] []
  simpa [cmpL] using this
theorem cmpL_zero : ∀ (x y : List Int), cmpL x y = 0 → x = y
  | [], [], _ => rfl
  | [], _ :: _, h => by simp [cmpL] at h
  | _ :: _, [], h => by simp [cmpL] at h
  | a :: x, b :: y, h => by
    unfold cmpL at h
    split at h
    · omega
    · split at h
      · omega
      · rw [cmpL_zero x y h, show a = b by omega]
theorem cmpL_swap : ∀ (x y : List Int), cmpL y x = - cmpL x y
  | [], [] => rfl
  | [], _ :: _ => rfl
  | _ :: _, [] => rfl
  | a :: x, b :: y => by
    unfold cmpL
    by_cases h1 : a < b
    · rw [if_neg (by omega), if_pos h1, if_pos h1]; rfl
    · by_cases h2 : b < a
      · rw [if_pos h2, if_neg h1, if_pos h2]
      · rw [if_neg h2, if_neg h1, if_neg h1, if_neg h2, cmpL_swap x y]
theorem cmpL_trans : ∀ (x y z : List Int), cmpL x y < 0 → cmpL y z < 0 → cmpL x z < 0
  | [], [], z, h, _ => by simp [cmpL] at h
  | [], _ :: _, [], _, h => by simp [cmpL] at h
  | [], _ :: _, _ :: _, _, _ => by simp [cmpL]
  | _ :: _, [], _, h, _ => by simp [cmpL] at h
  | _ :: _, _ :: _, [], _, h => by simp [cmpL] at h
  | a :: x, b :: y, c :: z, h1, h2 => by
    rw [cmpL_cc] at h1 h2 ⊢
    by_cases a1 : a < b
    · by_cases b1 : b < c
      · rw [if_pos (by omega)]; decide
      · rw [if_neg b1] at h2
        by_cases b2 : c < b
        · rw [if_pos b2] at h2; omega
        · rw [if_pos (by omega)]; decide
    · rw [if_neg a1] at h1
      by_cases a2 : b < a
      · rw [if_pos a2] at h1; omega
      · rw [if_neg a2] at h1
        by_cases b1 : b < c
        · rw [if_pos (by omega)]; decide
        · rw [if_neg b1] at h2
          by_cases b2 : c < b
          · rw [if_pos b2] at h2; omega
          · rw [if_neg b2] at h2
            rw [if_neg (by omega), if_neg (by omega)]
            exact cmpL_trans x y z h1 h2
theorem cmpL_irr (x : List Int) : ¬ cmpL x x < 0 := by rw [cmpL_self]; decide
theorem cmpL_tri (x y : List Int) (h1 : ¬ cmpL x y < 0) (h2 : ¬ cmpL y x < 0) : x = y := cmpL_zero x y (by have := cmpL_swap x y; omega)
theorem cmpB : ∀ (x y : List Int), BytesL x → BytesL y → Lib.compareBytes (strOfNums x).data.toList (strOfNums y).data.toList = cmpL x y
  | [], [], _, _ => rfl
  | [], _ :: _, _, _ => rfl
  | _ :: _, [], _, _ => rfl
  | a :: x, b :: y, hx, hy => by
    have ih := cmpB x y (fun z hz => hx z (by simp [hz])) (fun z hz => hy z (by simp [hz]))
    have ha := hx a (by simp)
    have hb := hy b (by simp)
    have e1 : (UInt8.ofNat a.toNat < UInt8.ofNat b.toNat) ↔ a < b := by
      rw [UInt8.lt_iff_toNat_lt, UInt8.toNat_ofNat', UInt8.toNat_ofNat', Nat.mod_eq_of_lt (by omega), Nat.mod_eq_of_lt (by omega)]; omega
    have e2 : (UInt8.ofNat b.toNat < UInt8.ofNat a.toNat) ↔ b < a := by
      rw [UInt8.lt_iff_toNat_lt, UInt8.toNat_ofNat', UInt8.toNat_ofNat', Nat.mod_eq_of_lt (by omega), Nat.mod_eq_of_lt (by omega)]; omega
    have e : Lib.compareBytes (strOfNums (a :: x)).data.toList (strOfNums (b :: y)).data.toList = (if UInt8.ofNat a.toNat < UInt8.ofNat b.toNat then -1 else if UInt8.ofNat b.toNat < UInt8.ofNat a.toNat then 1 else Lib.compareBytes (strOfNums x).data.toList (strOfNums y).data.toList) := rfl
    rw [e, ih, cmpL_cc]
    by_cases h1 : a < b
    · rw [if_pos (e1.2 h1), if_pos h1]
    · rw [if_neg (fun h => h1 (e1.1 h)), if_neg h1]
      by_cases h2 : b < a
      · rw [if_pos (e2.2 h2), if_pos h2]
      · rw [if_neg (fun h => h2 (e2.1 h)), if_neg h2]
theorem str_eq (x y : List Int) (hx : BytesL x) (hy : BytesL y) : ((strOfNums x).toList = (strOfNums y).toList) ↔ x = y := by
  refine ⟨fun h => ?_, fun h => by rw [h]⟩
  have h1 := cmpB x y hx hy
  rw [Lib.toList_data, Lib.toList_data] at h
  rw [h] at h1
  have h2 := cmpB y y hy hy
  rw [cmpL_self] at h2
  exact cmpL_zero x y (h1.symm.trans h2)
theorem str_beq (x y : List Int) (hx : BytesL x) (hy : BytesL y) : ((strOfNums x).toList == (strOfNums y).toList) = decide (x = y) := by
  by_cases h : x = y
  · rw [h]; simp
  · rw [decide_eq_false h]; exact beq_false_of_ne (fun e => h ((str_eq x y hx hy).1 e))
theorem bsN_spec (p : Nat → Bool) (n : Nat) : ∀ k i j, i ≤ j → j - i < 2 ^ k → i ≤ n → n ≤ j → (∀ h, h < j → (p h = true ↔ h < n)) → bsN p k i j = n
  | 0, i, j, hij, hk, h1, h2, _ => by rw [bsN]; simp at hk; omega
  | k + 1, i, j, hij, hk, h1, h2, hp => by
    have hpow := Nat.pow_succ 2 k
    rw [bsN]
    split
    · rename_i hlt
      have hm : (i + j) / 2 < j := by omega
      split
      · rename_i ht
        exact bsN_spec p n k _ _ (by omega) (by omega) (by have := (hp _ hm).1 ht; omega) h2 hp
      · rename_i ht
        have hn : n ≤ (i + j) / 2 := by
          rcases Nat.lt_or_ge ((i + j) / 2) n with h | h
          · exact absurd ((hp _ hm).2 h) ht
          · exact h
        exact bsN_spec p n k _ _ (by omega) (by omega) h1 hn (fun h hh => hp h (by omega))
    · omega
end Go.Proofs.Ytcbgichkeecgiaa.Pure
