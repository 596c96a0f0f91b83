/- A page's bytes are read as the page, what is read has just these bytes, and with another byte anywhere they are none: for a page and bytes of bulk at most 1048576. -/
import Derived.Test.YtcbgichkeecgiaaDoorZAlq
import Derived.Lib.Bytes
import Derived.Test.YtcbgichkeecgiaaDoorZAlo
import Derived.Test.YtcbgichkeecgiaaDoorZAln
import Derived.Test.YtcbgichkeecgiaaDoorZPrint35
import Derived.Test.YtcbgichkeecgiaaDoorZAlp
import Derived.Test.YtcbgichkeecgiaaDoorZXCrcMath
import Derived.Test.YtcbgichkeecgiaaDoorZPrint23
import Derived.Test.YtcbgichkeecgiaaDoorZPrint26
import Derived.Test.YtcbgichkeecgiaaDoorZPrint22
import Derived.Test.YtcbgichkeecgiaaDoorZPrint37
set_option linter.unusedVariables false
namespace Go.Proofs.YtcbgichkeecgiaaDoor.Pure
open Go.RowKit Go.Proofs.YtcbgichkeecgiaaDoor.Print Go.Proofs.YtcbgichkeecgiaaDoorW.PrintWords Go.Proofs.YtcbgichkeecgiaaDoorW.PrintLast Go.Proofs.YtcbgichkeecgiaaDoorW.PrintMore
theorem w64 {x : Int} (h0 : -9223372036854775808 ≤ x) (h1 : x ≤ 9223372036854775807) : wrap64 x = x := by unfold wrap64; omega
theorem w64n (i : Nat) (h : i < 9223372036854775807) : wrap64 ((i : Int) + 1) = ((i + 1 : Nat) : Int) := by rw [w64 (by omega) (by omega)]; rfl
def BytesL (l : List Int) : Prop := ∀ x ∈ l, 0 ≤ x ∧ x < 256
theorem bytesL_wf {l : List Int} (h : ∀ x ∈ l, (Lit.int .u8 x).wf = true) : BytesL l := fun x hx => by
  have := h x hx
  simp [Lit.wf, IntKind.min, IntKind.max, IntKind.bits, IntKind.signed] at this
  omega
def cmpL : List Int → List Int → Int
  | [], [] => 0
  | [], _ :: _ => -1
  | _ :: _, [] => 1
  | a :: x, b :: y => if a < b then -1 else if b < a then 1 else cmpL x y
theorem cmpL_cc (a b : Int) (x y : List Int) : cmpL (a :: x) (b :: y) = if a < b then -1 else if b < a then 1 else cmpL x y := rfl
theorem cmpL_trans : ∀ (x y z : List Int), cmpL x y < 0 → cmpL y z < 0 → cmpL x z < 0
  | [], [], z, h, _ => by simp [cmpL] at h
  | [], _ :: _, [], _, h => by simp [cmpL] at h
  | [], _ :: _, _ :: _, _, _ => by simp [cmpL]
  | _ :: _, [], _, h, _ => by simp [cmpL] at h
  | _ :: _, _ :: _, [], _, h => by simp [cmpL] at h
  | a :: x, b :: y, c :: z, h1, h2 => by
    rw [cmpL_cc] at h1 h2 ⊢
    by_cases a1 : a < b
    · by_cases b1 : b < c
      · rw [if_pos (by omega)]; decide
      · rw [if_neg b1] at h2
        by_cases b2 : c < b
        · rw [if_pos b2] at h2; omega
        · rw [if_pos (by omega)]; decide
    · rw [if_neg a1] at h1
      by_cases a2 : b < a
      · rw [if_pos a2] at h1; omega
      · rw [if_neg a2] at h1
        by_cases b1 : b < c
        · rw [if_pos (by omega)]; decide
        · rw [if_neg b1] at h2
          by_cases b2 : c < b
          · rw [if_pos b2] at h2; omega
          · rw [if_neg b2] at h2
            rw [if_neg (by omega), if_neg (by omega)]
            exact cmpL_trans x y z h1 h2
theorem cmpB : ∀ (x y : List Int), BytesL x → BytesL y → Lib.compareBytes (strOfNums x).data.toList (strOfNums y).data.toList = cmpL x y
  | [], [], _, _ => rfl
  | [], _ :: _, _, _ => rfl
  | _ :: _, [], _, _ => rfl
  | a :: x, b :: y, hx, hy => by
    have ih := cmpB x y (fun z hz => hx z (by simp [hz])) (fun z hz => hy z (by simp [hz]))
    have ha := hx a (by simp)
    have hb := hy b (by simp)
    have e1 : (UInt8.ofNat a.toNat < UInt8.ofNat b.toNat) ↔ a < b := by
      rw [UInt8.lt_iff_toNat_lt, UInt8.toNat_ofNat', UInt8.toNat_ofNat', Nat.mod_eq_of_lt (by omega), Nat.mod_eq_of_lt (by omega)]; omega
    have e2 : (UInt8.ofNat b.toNat < UInt8.ofNat a.toNat) ↔ b < a := by
      rw [UInt8.lt_iff_toNat_lt, UInt8.toNat_ofNat', UInt8.toNat_ofNat', Nat.mod_eq_of_lt (by omega), Nat.mod_eq_of_lt (by omega)]; omega
    have e : Lib.compareBytes (strOfNums (a :: x)).data.toList (strOfNums (b :: y)).data.toList = (if UInt8.ofNat a.toNat < UInt8.ofNat b.toNat then -1 else if UInt8.ofNat b.toNat < UInt8.ofNat a.toNat then 1 else Lib.compareBytes (strOfNums x).data.toList (strOfNums y).data.toList) := rfl
    rw [e, ih, cmpL_cc]
    by_cases h1 : a < b
    · rw [if_pos (e1.2 h1), if_pos h1]
    · rw [if_neg (fun h => h1 (e1.1 h)), if_neg h1]
      by_cases h2 : b < a
      · rw [if_pos (e2.2 h2), if_pos h2]
      · rw [if_neg (fun h => h2 (e2.1 h)), if_neg h2]
end Go.Proofs.YtcbgichkeecgiaaDoor.Pure
set_option linter.unusedVariables false
namespace Go.Proofs.YtcbgichkeecgiaaDoor.Pure
open Go.RowKit Go.Proofs.YtcbgichkeecgiaaDoor.Print Go.Proofs.YtcbgichkeecgiaaDoorW.PrintWords Go.Proofs.YtcbgichkeecgiaaDoorW.PrintLast Go.Proofs.YtcbgichkeecgiaaDoorW.PrintMore
def wd (n : Nat) : Nat := if n ≤ 127 then 1 else wd (n / 128) + 1
termination_by n
decreasing_by omega
theorem wd_small {n : Nat} (h : n ≤ 127) : wd n = 1 := by rw [wd, if_pos h]
theorem wd_big {n : Nat} (h : ¬ n ≤ 127) : wd n = wd (n / 128) + 1 := by rw [wd, if_neg h]
theorem wd_pos (n : Nat) : 1 ≤ wd n := by rw [wd]; split <;> omega
theorem wd_le : ∀ (d n : Nat), n < 128 ^ (d + 1) → wd n ≤ d + 1
  | 0, n, h => by rw [wd_small (by omega)]; omega
  | d + 1, n, h => by
    by_cases h1 : n ≤ 127
    · rw [wd_small h1]; omega
    · rw [wd_big h1]
      have h2 : 128 ^ (d + 1 + 1) = 128 ^ (d + 1) * 128 := Nat.pow_succ 128 (d + 1)
      have := wd_le d (n / 128) (by rw [h2] at h; omega)
      omega
theorem wd_le9 {n : Nat} (h : n < 4611686018427387904) : wd n ≤ 9 := wd_le 8 n (by omega)
theorem width_l0 : ∀ (d n k w : Nat), n < 128 ^ (d + 1) → w + d < 4611686018427387904 → node_width.l0 (k + d + 1) (n : Int) (w : Int) = some ((w + wd n - 1 : Nat) : Int)
  | 0, n, k, w, h, hw => by
    rw [node_width.l0, if_neg (by omega), wd_small (by omega)]; rfl
  | d + 1, n, k, w, h, hw => by
    by_cases h1 : n ≤ 127
    · rw [node_width.l0, if_neg (by omega), wd_small h1]; rfl
    · have h2 : 128 ^ (d + 1 + 1) = 128 ^ (d + 1) * 128 := Nat.pow_succ 128 (d + 1)
      rw [node_width.l0, if_pos (by omega), wd_big h1, show ((n : Int) / 128) = ((n / 128 : Nat) : Int) by omega, w64n w (by omega), show k + (d + 1) = k + d + 1 by omega, width_l0 d (n / 128) k (w + 1) (by rw [h2] at h; omega) (by omega)]
      congr 2
      have := wd_pos (n / 128)
      omega
theorem width_is {k : Nat} (n : Nat) (hn : n < 4611686018427387904) (hk : 12 ≤ k) : node_width.f k (n : Int) = some (wd n : Int) := by
  obtain ⟨q, rfl⟩ : ∃ q, k = q + 8 + 1 := ⟨k - 9, by omega⟩
  unfold node_width.f
  have := width_l0 8 n q 1 (by omega) (by omega)
  rw [show ((1 : Nat) : Int) = 1 from rfl] at this
  rw [this]
  congr 2
  have := wd_pos n
  omega
def lg (b : List Int) : Nat := wd b.length + b.length
theorem long_is {k : Nat} (b : List Int) (hb : b.length < 4611686018427387000) (hk : 12 ≤ k) : node_long.f k b = some (lg b : Int) := by
  unfold node_long.f
  rw [width_is _ (by omega) hk]
  have := wd_le9 (n := b.length) (by omega)
  simp only [Option.bind_some]
  rw [w64 (by omega) (by omega)]
  rfl
def sumL (l : List (List Int)) : Nat := (l.map lg).sum
theorem sumL_nil : sumL [] = 0 := by simp [sumL]
theorem sumL_cons (b : List Int) (l : List (List Int)) : sumL (b :: l) = lg b + sumL l := by simp [sumL]
def sumK (l : List Int) : Nat := (l.map fun d => wd d.toNat).sum
theorem sumK_nil : sumK [] = 0 := by simp [sumK]
theorem sumK_cons (b : Int) (l : List Int) : sumK (b :: l) = wd b.toNat + sumK l := by simp [sumK]
theorem rdL_at (l : List (List Int)) (i : Nat) (h : i < l.length) : rd_L1 l (i : Int) = l[i] := by
  unfold rd_L1
  rw [Int.toNat_natCast, List.getD_eq_getElem?_getD, List.getElem?_eq_getElem h]; rfl
theorem rdK_at (l : List Int) (i : Nat) (h : i < l.length) : rd l (i : Int) = l[i] := by
  unfold rd
  rw [Int.toNat_natCast, List.getD_eq_getElem?_getD, List.getElem?_eq_getElem h]; rfl
theorem sumL_drop (l : List (List Int)) (i : Nat) (h : i < l.length) : sumL (l.drop i) = lg l[i] + sumL (l.drop (i + 1)) := by rw [List.drop_eq_getElem_cons h, sumL_cons]
theorem sumK_drop (l : List Int) (i : Nat) (h : i < l.length) : sumK (l.drop i) = wd (l[i]).toNat + sumK (l.drop (i + 1)) := by rw [List.drop_eq_getElem_cons h, sumK_cons]
theorem lg_len (b : List Int) : b.length < lg b := by have := wd_pos b.length; unfold lg; omega
theorem size_l0 (b : Bool) (ks vs : List (List Int)) (ds : List Int) (hl : ks.length < 4611686018427387904) : ∀ (d k s i : Nat), i + d = ks.length → 12 ≤ k → s + sumL (ks.drop i) < 4611686018427387000 →
    node_size.l0 (k + d + 1) (s : Int) ks (ks.length : Int) (i : Int) b ks vs ds = node_size.l1 k ((s + sumL (ks.drop i) : Nat) : Int) vs (vs.length : Int) 0 b ks vs ds
  | 0, k, s, i, h, hk, hs => by
    simp only [node_size.l0]
    rw [if_neg (by omega), List.drop_of_length_le (by omega), sumL_nil, Nat.add_zero]
  | d + 1, k, s, i, h, hk, hs => by
    have hi : i < ks.length := by omega
    have e := sumL_drop ks i hi
    have hL := lg_len ks[i]
    obtain ⟨q, hq⟩ : ∃ q, k + (d + 1) = q := ⟨_, rfl⟩
    rw [hq]
    simp only [node_size.l0]
    rw [if_pos (by omega), if_pos (by omega), if_pos (by omega), rdL_at ks i hi, long_is _ (by omega) (by omega)]
    simp only [Option.bind_some]
    rw [w64 (by omega) (by omega), w64n i (by omega), show (s : Int) + (lg ks[i] : Int) = ((s + lg ks[i] : Nat) : Int) by omega, ← hq, show k + (d + 1) = k + d + 1 by omega, size_l0 b ks vs ds hl d k (s + lg ks[i]) (i + 1) (by omega) hk (by omega), e, Nat.add_assoc]
theorem size_l1 (b : Bool) (ks vs : List (List Int)) (ds : List Int) (hl : vs.length < 4611686018427387904) : ∀ (d k s i : Nat), i + d = vs.length → 12 ≤ k → s + sumL (vs.drop i) < 4611686018427387000 →
    node_size.l1 (k + d + 1) (s : Int) vs (vs.length : Int) (i : Int) b ks vs ds = node_size.l2 k ((s + sumL (vs.drop i) : Nat) : Int) ds (ds.length : Int) 0
  | 0, k, s, i, h, hk, hs => by
    simp only [node_size.l1]
    rw [if_neg (by omega), List.drop_of_length_le (by omega), sumL_nil, Nat.add_zero]
  | d + 1, k, s, i, h, hk, hs => by
    have hi : i < vs.length := by omega
    have e := sumL_drop vs i hi
    have hL := lg_len vs[i]
    obtain ⟨q, hq⟩ : ∃ q, k + (d + 1) = q := ⟨_, rfl⟩
    rw [hq]
    simp only [node_size.l1]
    rw [if_pos (by omega), if_pos (by omega), if_pos (by omega), rdL_at vs i hi, long_is _ (by omega) (by omega)]
    simp only [Option.bind_some]
    rw [w64 (by omega) (by omega), w64n i (by omega), show (s : Int) + (lg vs[i] : Int) = ((s + lg vs[i] : Nat) : Int) by omega, ← hq, show k + (d + 1) = k + d + 1 by omega, size_l1 b ks vs ds hl d k (s + lg vs[i]) (i + 1) (by omega) hk (by omega), e, Nat.add_assoc]
theorem size_l2 (ds : List Int) (hd : ∀ x ∈ ds, 0 ≤ x ∧ x < 4611686018427387904) (hl : ds.length < 4611686018427387904) : ∀ (d k s i : Nat), i + d = ds.length → 12 ≤ k → s + sumK (ds.drop i) < 4611686018427387000 →
    node_size.l2 (k + d + 1) (s : Int) ds (ds.length : Int) (i : Int) = some ((s + sumK (ds.drop i) : Nat) : Int)
  | 0, k, s, i, h, hk, hs => by
    simp only [node_size.l2]
    rw [if_neg (by omega), List.drop_of_length_le (by omega), sumK_nil, Nat.add_zero]
  | d + 1, k, s, i, h, hk, hs => by
    have hi : i < ds.length := by omega
    have e := sumK_drop ds i hi
    have hx := hd ds[i] (List.getElem_mem hi)
    have hw := width_is (k := k + (d + 1)) (ds[i]).toNat (by omega) (by omega)
    rw [show (((ds[i]).toNat : Nat) : Int) = ds[i] by omega] at hw
    obtain ⟨q, hq⟩ : ∃ q, k + (d + 1) = q := ⟨_, rfl⟩
    rw [hq]
    simp only [node_size.l2]
    rw [hq] at hw
    rw [if_pos (by omega), if_pos (by omega), if_pos (by omega), rdK_at ds i hi, hw]
    simp only [Option.bind_some]
    rw [w64 (by omega) (by omega), w64n i (by omega), show (s : Int) + (wd (ds[i]).toNat : Int) = ((s + wd (ds[i]).toNat : Nat) : Int) by omega, ← hq, show k + (d + 1) = k + d + 1 by omega, size_l2 ds hd hl d k (s + wd (ds[i]).toNat) (i + 1) (by omega) hk (by omega), e, Nat.add_assoc]
def sz (ks vs : List (List Int)) (ds : List Int) : Nat := 5 + wd ks.length + sumL ks + sumL vs + sumK ds
theorem len_sumL : ∀ (l : List (List Int)), l.length ≤ sumL l
  | [] => by simp
  | b :: l => by rw [sumL_cons]; have := len_sumL l; have := lg_len b; simp; omega
theorem len_sumK : ∀ (l : List Int), l.length ≤ sumK l
  | [] => by simp
  | b :: l => by rw [sumK_cons]; have := len_sumK l; have := wd_pos b.toNat; simp; omega
theorem size_is {k : Nat} (b : Bool) (ks vs : List (List Int)) (ds : List Int) (hd : ∀ x ∈ ds, 0 ≤ x ∧ x < 4611686018427387904) (hs : sz ks vs ds < 4611686018427387000) (hk : ks.length + vs.length + ds.length + 20 ≤ k) :
    node_size.f k b ks vs ds = some (sz ks vs ds : Int) := by
  have h1 := len_sumL ks
  have h2 := len_sumL vs
  have h3 := len_sumK ds
  unfold sz at hs
  obtain ⟨q, rfl⟩ : ∃ q, k = q + 12 + ds.length + 1 + vs.length + 1 + ks.length + 1 := ⟨k - (12 + ds.length + 1 + vs.length + 1 + ks.length + 1), by omega⟩
  unfold node_size.f
  rw [width_is _ (by omega) (by omega)]
  simp only [Option.bind_some]
  rw [w64 (x := 1 + (wd ks.length : Int)) (by omega) (by omega), w64 (by omega) (by omega), show (1 + (wd ks.length : Int) + 4) = ((5 + wd ks.length : Nat) : Int) by omega]
  have e0 := size_l0 b ks vs ds (by omega) ks.length (q + 12 + ds.length + 1 + vs.length + 1) (5 + wd ks.length) 0 (by omega) (by omega) (by rw [List.drop_zero]; omega)
  have e1 := size_l1 b ks vs ds (by omega) vs.length (q + 12 + ds.length + 1) (5 + wd ks.length + sumL ks) 0 (by omega) (by omega) (by rw [List.drop_zero]; omega)
  have e2 := size_l2 ds hd (by omega) ds.length (q + 12) (5 + wd ks.length + sumL ks + sumL vs) 0 (by omega) (by omega) (by rw [List.drop_zero]; omega)
  rw [List.drop_zero] at e0 e1 e2
  exact e0.trans (e1.trans e2)
end Go.Proofs.YtcbgichkeecgiaaDoor.Pure
set_option linter.unusedVariables false
namespace Go.Proofs.YtcbgichkeecgiaaDoor.Pure
open Go.RowKit Go.Proofs.YtcbgichkeecgiaaDoor.Print Go.Proofs.YtcbgichkeecgiaaDoorW.PrintWords Go.Proofs.YtcbgichkeecgiaaDoorW.PrintLast Go.Proofs.YtcbgichkeecgiaaDoorW.PrintMore
def okF : Option (List Int) → List (List Int) → Bool
  | _, [] => true
  | none, a :: r => decide (a.length ≤ 256) && okF (some a) r
  | some q, a :: r => decide (a.length ≤ 256) && (decide (cmpL q a < 0) && okF (some a) r)
def prevK (ks : List (List Int)) (i : Nat) : Option (List Int) := if i = 0 then none else ks[i - 1]?
theorem any_l0 (l : List (List Int)) (hl : l.length < 4611686018427387904) : ∀ (d k i : Nat), i + d = l.length → d < k →
    ∃ r : Int, slices_IndexFunc_byte_byte.l0 k l 60 (l.length : Int) (i : Int) = some r ∧ decide (r ≥ 0) = (l.drop i).any fun v => decide (512 < v.length)
  | 0, k, i, h, hk => by
    obtain ⟨k, rfl⟩ : ∃ q, k = q + 1 := ⟨k - 1, by omega⟩
    refine ⟨-1, ?_, ?_⟩
    · simp only [slices_IndexFunc_byte_byte.l0]
      rw [if_neg (by omega)]
    · rw [List.drop_of_length_le (by omega)]; rfl
  | d + 1, k, i, h, hk => by
    obtain ⟨k, rfl⟩ : ∃ q, k = q + 1 := ⟨k - 1, by omega⟩
    have hi : i < l.length := by omega
    simp only [slices_IndexFunc_byte_byte.l0]
    rw [if_pos (by omega), if_pos (by omega), if_pos (by omega), rdL_at l i hi, List.drop_eq_getElem_cons hi, List.any_cons]
    simp only [call_T81.f, node_made_1.f, if_pos, Option.bind_some, decide_eq_true_eq]
    by_cases h1 : 512 < l[i].length
    · rw [if_pos (by omega)]
      exact ⟨_, rfl, by rw [decide_eq_true h1, Bool.true_or, decide_eq_true (by omega)]⟩
    · rw [if_neg (by omega), w64n i (by omega), decide_eq_false h1, Bool.false_or]
      exact any_l0 l hl d k (i + 1) (by omega) (by omega)
theorem anyK_l0 (l : List Int) (hl : l.length < 4611686018427387904) : ∀ (d k i : Nat), i + d = l.length → d < k →
    ∃ r : Int, slices_IndexFunc_int_int.l0 k l 62 (l.length : Int) (i : Int) = some r ∧ decide (r ≥ 0) = (l.drop i).any fun v => decide (v < 1 ∨ 1024 ≤ v)
  | 0, k, i, h, hk => by
    obtain ⟨k, rfl⟩ : ∃ q, k = q + 1 := ⟨k - 1, by omega⟩
    refine ⟨-1, ?_, ?_⟩
    · simp only [slices_IndexFunc_int_int.l0]
      rw [if_neg (by omega)]
    · rw [List.drop_of_length_le (by omega)]; rfl
  | d + 1, k, i, h, hk => by
    obtain ⟨k, rfl⟩ : ∃ q, k = q + 1 := ⟨k - 1, by omega⟩
    have hi : i < l.length := by omega
    have e : call_T83.f 62 l[i] = some (decide (l[i] < 1 ∨ 1024 ≤ l[i])) := by
      unfold call_T83.f node_made_2.f
      rw [if_pos rfl]
      by_cases h1 : l[i] < 1
      · rw [if_pos h1, decide_eq_true (Or.inl h1)]
      · rw [if_neg h1]
        by_cases h2 : 1024 ≤ l[i]
        · rw [decide_eq_true (show l[i] ≥ 1024 from h2), decide_eq_true (Or.inr h2)]
        · rw [decide_eq_false (show ¬ l[i] ≥ 1024 from h2), decide_eq_false (by omega)]
    simp only [slices_IndexFunc_int_int.l0]
    rw [if_pos (by omega), if_pos (by omega), if_pos (by omega), rdK_at l i hi, List.drop_eq_getElem_cons hi, List.any_cons, e]
    simp only [Option.bind_some]
    by_cases h1 : l[i] < 1 ∨ 1024 ≤ l[i]
    · rw [decide_eq_true h1, if_pos rfl]
      exact ⟨_, rfl, by rw [Bool.true_or, decide_eq_true (by omega)]⟩
    · rw [decide_eq_false h1, if_neg (by decide), w64n i (by omega), Bool.false_or]
      exact anyK_l0 l hl d k (i + 1) (by omega) (by omega)
theorem any_is {k : Nat} (l : List (List Int)) (hl : l.length < 4611686018427387904) (hk : l.length < k) : slices_ContainsFunc_byte_byte.f k l 60 = some (l.any fun v => decide (512 < v.length)) := by
  obtain ⟨r, h1, h2⟩ := any_l0 l hl l.length k 0 (by omega) hk
  unfold slices_ContainsFunc_byte_byte.f slices_IndexFunc_byte_byte.f
  have h1' : slices_IndexFunc_byte_byte.l0 k l 60 (l.length : Int) 0 = some r := h1
  rw [h1']
  simp only [Option.bind_some]
  rw [h2, List.drop_zero]
theorem anyK_is {k : Nat} (l : List Int) (hl : l.length < 4611686018427387904) (hk : l.length < k) : slices_ContainsFunc_int_int.f k l 62 = some (l.any fun v => decide (v < 1 ∨ 1024 ≤ v)) := by
  obtain ⟨r, h1, h2⟩ := anyK_l0 l hl l.length k 0 (by omega) hk
  unfold slices_ContainsFunc_int_int.f slices_IndexFunc_int_int.f
  have h1' : slices_IndexFunc_int_int.l0 k l 62 (l.length : Int) 0 = some r := h1
  rw [h1']
  simp only [Option.bind_some]
  rw [h2, List.drop_zero]
def shapeP (b : Bool) (ks vs : List (List Int)) (ds : List Int) : Bool :=
  if b then decide (vs.length = ks.length) && decide (ds.length = 0) else decide (0 < ks.length) && (decide (ds.length = ks.length + 1) && decide (vs.length = 0))
def okP (b : Bool) (ks vs : List (List Int)) (ds : List Int) : Bool :=
  okF none ks && (!(vs.any fun v => decide (512 < v.length)) && (!(ds.any fun v => decide (v < 1 ∨ 1024 ≤ v)) && shapeP b ks vs ds))
theorem made_j1 (k : Nat) (x b : Bool) (ks vs : List (List Int)) (ds : List Int) (hl : ks.length < 4611686018427387904) : node_made.j1 (k + 1) x b ks vs ds = some (!x && shapeP b ks vs ds) := by
  cases x
  · cases b
    · simp only [node_made.j1, shapeP, Bool.false_eq_true, if_false, Bool.not_false, Bool.true_and]
      rw [w64n _ (by omega)]
      by_cases h1 : 0 < ks.length
      · rw [if_pos (by omega), decide_eq_true h1]
        by_cases h2 : ds.length = ks.length + 1
        · rw [if_pos (by omega), decide_eq_true h2]
          by_cases h3 : vs.length = 0
          · rw [h3]; rfl
          · rw [decide_eq_false h3, beq_false_of_ne (by omega)]; rfl
        · rw [if_neg (by omega), decide_eq_false h2]; rfl
      · rw [if_neg (by omega), decide_eq_false h1]; rfl
    · simp only [node_made.j1, shapeP, Bool.false_eq_true, if_false, if_true, Bool.not_false, Bool.true_and]
      by_cases h2 : vs.length = ks.length
      · rw [if_pos (by omega), decide_eq_true h2]
        by_cases h3 : ds.length = 0
        · rw [h3]; rfl
        · rw [decide_eq_false h3, beq_false_of_ne (by omega)]; rfl
      · rw [if_neg (by omega), decide_eq_false h2]; rfl
  · simp only [node_made.j1, if_true]; rfl
theorem made_l0 (b : Bool) (ks vs : List (List Int)) (ds : List Int) (hks : ∀ x ∈ ks, BytesL x) (hl : ks.length < 4611686018427387904) (hv : vs.length < 4611686018427387904) (hd : ds.length < 4611686018427387904) : ∀ (d k i : Nat), i + d = ks.length → vs.length < k → ds.length < k → 0 < k →
    node_made.l0 (k + d + 1) ks (ks.length : Int) (i : Int) b ks vs ds = some (okF (prevK ks i) (ks.drop i) && (!(vs.any fun v => decide (512 < v.length)) && (!(ds.any fun v => decide (v < 1 ∨ 1024 ≤ v)) && shapeP b ks vs ds)))
  | 0, k, i, h, hk, hk2, hk3 => by
    simp only [node_made.l0]
    obtain ⟨q, rfl⟩ : ∃ q, k = q + 1 := ⟨k - 1, by omega⟩
    have hF : okF (prevK ks i) (ks.drop i) = true := by rw [List.drop_of_length_le (by omega)]; cases prevK ks i <;> rfl
    rw [if_neg (by omega), Nat.add_zero, any_is vs hv hk, hF, Bool.true_and]
    simp only [Option.bind_some]
    cases hc : vs.any fun v => decide (512 < v.length)
    · rw [if_neg (by decide), anyK_is ds hd hk2]
      simp only [Option.bind_some]
      rw [made_j1 _ _ _ _ _ _ hl]; rfl
    · rw [if_pos rfl, made_j1 _ _ _ _ _ _ hl]; rfl
  | d + 1, k, i, h, hk, hk2, hk3 => by
    have hi : i < ks.length := by omega
    obtain ⟨q, hq⟩ : ∃ q, k + (d + 1) = q := ⟨_, rfl⟩
    rw [hq]
    simp only [node_made.l0]
    rw [if_pos (by omega), if_pos (by omega), if_pos (by omega), rdL_at ks i hi, ← hq, show k + (d + 1) = k + d + 1 by omega, w64n i (by omega), made_l0 b ks vs ds hks hl hv hd d k (i + 1) (by omega) hk hk2 hk3, List.drop_eq_getElem_cons hi]
    have hp : prevK ks (i + 1) = some ks[i] := by unfold prevK; rw [if_neg (by omega), Nat.add_sub_cancel, List.getElem?_eq_getElem hi]
    rw [hp]
    by_cases h1 : 256 < ks[i].length
    · rw [if_pos (by omega)]
      cases prevK ks i <;> simp only [okF] <;> rw [decide_eq_false (by omega)] <;> rfl
    · rw [if_neg (by omega)]
      by_cases h0 : i = 0
      · subst h0
        rw [if_neg (by omega)]
        have : prevK ks 0 = none := rfl
        rw [this]
        simp only [okF]
        rw [decide_eq_true (show ks[0].length ≤ 256 by omega), Bool.true_and]
      · have hi1 : i - 1 < ks.length := by omega
        have hp2 : prevK ks i = some ks[i - 1] := by unfold prevK; rw [if_neg h0, List.getElem?_eq_getElem hi1]
        rw [if_pos (by omega), hp2, w64 (by omega) (by omega), show ((i : Int) - 1) = ((i - 1 : Nat) : Int) by omega, if_pos (by omega), if_pos (by omega), rdL_at ks (i - 1) hi1]
        unfold bytes_Compare.f
        rw [cmpB _ _ (hks _ (List.getElem_mem hi1)) (hks _ (List.getElem_mem hi))]
        simp only [Option.bind_some, okF]
        rw [decide_eq_true (show ks[i].length ≤ 256 by omega), Bool.true_and]
        by_cases h2 : cmpL ks[i - 1] ks[i] < 0
        · rw [if_neg (by omega), decide_eq_true h2, Bool.true_and]
        · rw [if_pos (by omega), decide_eq_false h2]; rfl
theorem made_is {k : Nat} (b : Bool) (ks vs : List (List Int)) (ds : List Int) (hks : ∀ x ∈ ks, BytesL x) (hl : ks.length < 4611686018427387904) (hv : vs.length < 4611686018427387904) (hd : ds.length < 4611686018427387904)
    (hk : ks.length + vs.length + ds.length + 20 ≤ k) : node_made.f k b ks vs ds = some (okP b ks vs ds) := by
  obtain ⟨q, rfl⟩ : ∃ q, k = q + ks.length + 1 := ⟨k - ks.length - 1, by omega⟩
  have := made_l0 b ks vs ds hks hl hv hd ks.length q 0 (by omega) (by omega) (by omega) (by omega)
  rw [List.drop_zero] at this
  exact this
theorem okP_kids {b : Bool} {ks vs : List (List Int)} {ds : List Int} (h : okP b ks vs ds = true) : ∀ x ∈ ds, 0 ≤ x ∧ x < 4611686018427387904 := by
  unfold okP at h
  simp only [Bool.and_eq_true, Bool.not_eq_true', List.any_eq_false, decide_eq_true_eq] at h
  intro x hx
  have := h.2.2.1 x hx
  omega
def chk (b : Bool) (ks vs : List (List Int)) (ds : List Int) : Int := if okP b ks vs ds = true then (if 4096 < sz ks vs ds then 7 else 0) else 2
theorem check_is {k : Nat} (b : Bool) (ks vs : List (List Int)) (ds : List Int) (hks : ∀ x ∈ ks, BytesL x) (hs : okP b ks vs ds = true → sz ks vs ds < 4611686018427387000) (hl : ks.length < 4611686018427387904) (hv : vs.length < 4611686018427387904) (hd : ds.length < 4611686018427387904)
    (hk : ks.length + vs.length + ds.length + 20 ≤ k) : node_Check.f k b ks vs ds = some (chk b ks vs ds) := by
  unfold node_Check.f chk
  rw [made_is b ks vs ds hks hl hv hd hk]
  simp only [Option.bind_some]
  cases ho : okP b ks vs ds
  · rw [if_neg (by decide), if_neg (by decide)]
  · rw [if_pos rfl, if_pos rfl, size_is b ks vs ds (okP_kids ho) (hs ho) hk]
    simp only [Option.bind_some]
    by_cases h1 : 4096 < sz ks vs ds
    · rw [if_pos (by omega), if_pos h1]
    · rw [if_neg (by omega), if_neg h1]
end Go.Proofs.YtcbgichkeecgiaaDoor.Pure
set_option linter.unusedVariables false
namespace Go.Proofs.YtcbgichkeecgiaaDoor.Pure
open Go.RowKit Go.Proofs.YtcbgichkeecgiaaDoor.Print Go.Proofs.YtcbgichkeecgiaaDoorW.PrintWords Go.Proofs.YtcbgichkeecgiaaDoorW.PrintLast Go.Proofs.YtcbgichkeecgiaaDoorW.PrintMore
def Rise (l : List (List Int)) : Prop := l.Pairwise fun a b => cmpL a b < 0
theorem okF_some : ∀ (l : List (List Int)) (q : List Int), okF (some q) l = true ↔ (∀ x ∈ l, x.length ≤ 256) ∧ Rise (q :: l)
  | [], q => by simp [okF, Rise]
  | a :: r, q => by
    have ih := okF_some r a
    unfold okF
    rw [Bool.and_eq_true, Bool.and_eq_true, decide_eq_true_eq, decide_eq_true_eq, ih]
    unfold Rise
    rw [List.pairwise_cons (a := q)]
    constructor
    · rintro ⟨h1, h2, h3, h4⟩
      refine ⟨fun x hx => ?_, fun x hx => ?_, h4⟩
      · rcases List.mem_cons.1 hx with rfl | hx
        · exact h1
        · exact h3 x hx
      · rcases List.mem_cons.1 hx with rfl | hx
        · exact h2
        · exact cmpL_trans q a x h2 ((List.pairwise_cons.1 h4).1 x hx)
    · rintro ⟨h1, h2, h3⟩
      exact ⟨h1 a (by simp), h2 a (by simp), fun x hx => h1 x (by simp [hx]), h3⟩
theorem okF_none (l : List (List Int)) : okF none l = true ↔ (∀ x ∈ l, x.length ≤ 256) ∧ Rise l := by
  cases l with
  | nil => simp [okF, Rise]
  | cons a r =>
    unfold okF
    rw [Bool.and_eq_true, decide_eq_true_eq, okF_some]
    constructor
    · rintro ⟨h1, h2, h3⟩
      refine ⟨fun x hx => ?_, h3⟩
      rcases List.mem_cons.1 hx with rfl | hx
      · exact h1
      · exact h2 x hx
    · rintro ⟨h1, h2⟩
      exact ⟨h1 a (by simp), fun x hx => h1 x (by simp [hx]), h2⟩
def bel (key : List Int) : List (List Int) → Nat
  | [] => 0
  | a :: r => if cmpL a key < 0 then bel key r + 1 else 0
structure Bd (ks vs : List (List Int)) (ds : List Int) : Prop where
  kl : ks.length ≤ 1048576
  vl : vs.length ≤ 1048576
  dl : ds.length ≤ 1048576
  kb : ∀ x ∈ ks, x.length ≤ 1048576 ∧ BytesL x
  vb : ∀ x ∈ vs, x.length ≤ 1048576 ∧ BytesL x
theorem sumL_le : ∀ (l : List (List Int)), (∀ x ∈ l, x.length ≤ 1048576) → sumL l ≤ l.length * 1048600
  | [], _ => by simp [sumL_nil]
  | a :: r, h => by
    have ih := sumL_le r (fun x hx => h x (by simp [hx]))
    have ha := h a (by simp)
    have hw := wd_le9 (n := a.length) (by omega)
    rw [sumL_cons, List.length_cons]
    unfold lg
    omega
theorem sumK_le : ∀ (l : List Int), (∀ x ∈ l, 0 ≤ x ∧ x < 4611686018427387904) → sumK l ≤ l.length * 9
  | [], _ => by simp [sumK_nil]
  | a :: r, h => by
    have ih := sumK_le r (fun x hx => h x (by simp [hx]))
    have ha := h a (by simp)
    have hw := wd_le9 (n := a.toNat) (by omega)
    rw [sumK_cons, List.length_cons]
    omega
theorem Bd.sz {ks vs : List (List Int)} {ds : List Int} (h : Bd ks vs ds) (hd : ∀ x ∈ ds, 0 ≤ x ∧ x < 4611686018427387904) : sz ks vs ds < 4611686018427387000 := by
  have h1 := sumL_le ks (fun x hx => (h.kb x hx).1)
  have h2 := sumL_le vs (fun x hx => (h.vb x hx).1)
  have h3 := sumK_le ds hd
  have h4 := wd_le9 (n := ks.length) (by have := h.kl; omega)
  have := h.kl
  have := h.vl
  have := h.dl
  unfold Pure.sz
  omega
theorem Bd.check {ks vs : List (List Int)} {ds : List Int} (h : Bd ks vs ds) (b : Bool) {k : Nat} (hk : 4000000 ≤ k) : node_Check.f k b ks vs ds = some (chk b ks vs ds) := by
  have := h.kl
  have := h.vl
  have := h.dl
  exact check_is b ks vs ds (fun x hx => (h.kb x hx).2) (fun ho => h.sz (okP_kids ho)) (by omega) (by omega) (by omega) (by omega)
structure Good (b : Bool) (ks vs : List (List Int)) (ds : List Int) : Prop where
  ok : okP b ks vs ds = true
  small : sz ks vs ds ≤ 4096
  rise : Rise ks
  klen : ∀ x ∈ ks, x.length ≤ 256
  vlen : ∀ x ∈ vs, x.length ≤ 512
  shape : shapeP b ks vs ds = true
theorem chk_good {b : Bool} {ks vs : List (List Int)} {ds : List Int} (h : chk b ks vs ds = 0) : Good b ks vs ds := by
  unfold chk at h
  by_cases ho : okP b ks vs ds = true
  · rw [if_pos ho] at h
    by_cases hs : 4096 < sz ks vs ds
    · rw [if_pos hs] at h; exact absurd h (by decide)
    · have ho2 := ho
      unfold okP at ho
      simp only [Bool.and_eq_true, Bool.not_eq_true', List.any_eq_false, decide_eq_true_eq, okF_none] at ho
      exact ⟨ho2, by omega, ho.1.2, ho.1.1, fun x hx => by have := ho.2.1 x hx; omega, ho.2.2.2⟩
  · rw [if_neg ho] at h; exact absurd h (by decide)
theorem Good.leaf {ks vs : List (List Int)} {ds : List Int} (h : Good true ks vs ds) : vs.length = ks.length ∧ ds = [] := by
  have := h.shape
  unfold shapeP at this
  simp only [if_true, Bool.and_eq_true, decide_eq_true_eq, List.length_eq_zero_iff] at this
  exact this
theorem Good.lens {b : Bool} {ks vs : List (List Int)} {ds : List Int} (h : Good b ks vs ds) : ks.length ≤ 4096 ∧ vs.length ≤ 4096 ∧ ds.length ≤ 4096 := by
  have h1 := len_sumL ks
  have h2 := len_sumL vs
  have h3 := len_sumK ds
  have := h.small
  unfold Pure.sz at this
  omega
end Go.Proofs.YtcbgichkeecgiaaDoor.Pure
set_option linter.unusedVariables false
namespace Go.Proofs.YtcbgichkeecgiaaDoor.Pure
open Go.RowKit Go.Proofs.YtcbgichkeecgiaaDoor.Print Go.Proofs.YtcbgichkeecgiaaDoorW.PrintWords Go.Proofs.YtcbgichkeecgiaaDoorW.PrintLast Go.Proofs.YtcbgichkeecgiaaDoorW.PrintMore
theorem same_l2 (b : Bool) (ks vs : List (List Int)) (ds : List Int) (hl : ds.length < 4611686018427387904) : ∀ (d k i : Nat), i + d = ds.length → d < k → ladingref06_Same.l2 k (ds.length : Int) (i : Int) b ks vs ds b ks vs ds = some true
  | 0, k, i, h, hk => by
    obtain ⟨k, rfl⟩ : ∃ q, k = q + 1 := ⟨k - 1, by omega⟩
    simp only [ladingref06_Same.l2]
    rw [if_neg (by omega)]
  | d + 1, k, i, h, hk => by
    obtain ⟨k, rfl⟩ : ∃ q, k = q + 1 := ⟨k - 1, by omega⟩
    simp only [ladingref06_Same.l2]
    rw [if_pos (by omega), if_pos (by omega), if_pos (by omega), if_pos (by omega), if_pos trivial, w64n i (by omega)]
    exact same_l2 b ks vs ds hl d k (i + 1) (by omega) (by omega)
theorem same_l1 (b : Bool) (ks vs : List (List Int)) (ds : List Int) (hl : ds.length < 4611686018427387904) (hv : vs.length < 4611686018427387904) : ∀ (d k i : Nat), i + d = vs.length → d + ds.length + 1 < k → ladingref06_Same.l1 k (vs.length : Int) (i : Int) b ks vs ds b ks vs ds = some true
  | 0, k, i, h, hk => by
    obtain ⟨k, rfl⟩ : ∃ q, k = q + 1 := ⟨k - 1, by omega⟩
    simp only [ladingref06_Same.l1]
    rw [if_neg (by omega)]
    exact same_l2 b ks vs ds hl ds.length k 0 (by omega) (by omega)
  | d + 1, k, i, h, hk => by
    obtain ⟨k, rfl⟩ : ∃ q, k = q + 1 := ⟨k - 1, by omega⟩
    simp only [ladingref06_Same.l1]
    rw [if_pos (by omega), if_pos (by omega), if_pos (by omega), if_pos (by omega), if_pos trivial, w64n i (by omega)]
    exact same_l1 b ks vs ds hl hv d k (i + 1) (by omega) (by omega)
theorem same_l0 (b : Bool) (ks vs : List (List Int)) (ds : List Int) (hl : ds.length < 4611686018427387904) (hv : vs.length < 4611686018427387904) (hk0 : ks.length < 4611686018427387904) : ∀ (d k i : Nat), i + d = ks.length → d + vs.length + ds.length + 2 < k → ladingref06_Same.l0 k (ks.length : Int) (i : Int) b ks vs ds b ks vs ds = some true
  | 0, k, i, h, hk => by
    obtain ⟨k, rfl⟩ : ∃ q, k = q + 1 := ⟨k - 1, by omega⟩
    simp only [ladingref06_Same.l0]
    rw [if_neg (by omega)]
    exact same_l1 b ks vs ds hl hv vs.length k 0 (by omega) (by omega)
  | d + 1, k, i, h, hk => by
    obtain ⟨k, rfl⟩ : ∃ q, k = q + 1 := ⟨k - 1, by omega⟩
    simp only [ladingref06_Same.l0]
    rw [if_pos (by omega), if_pos (by omega), if_pos (by omega), if_pos (by omega), if_pos trivial, w64n i (by omega)]
    exact same_l0 b ks vs ds hl hv hk0 d k (i + 1) (by omega) (by omega)
theorem same_self {k : Nat} (b : Bool) (ks vs : List (List Int)) (ds : List Int) (hl : ds.length < 4611686018427387904) (hv : vs.length < 4611686018427387904) (hk0 : ks.length < 4611686018427387904) (hk : ks.length + vs.length + ds.length + 20 ≤ k) :
    ladingref06_Same.f k b ks vs ds b ks vs ds = some true := by
  unfold ladingref06_Same.f
  rw [if_neg (show ¬ (b != b) = true by simp), if_pos rfl, if_pos rfl]
  have : ((ds.length : Int) != (ds.length : Int)) = false := by simp
  rw [this]
  obtain ⟨k, rfl⟩ : ∃ q, k = q + 1 := ⟨k - 1, by omega⟩
  simp only [ladingref06_Same.j0]
  rw [if_neg (by decide)]
  exact same_l0 b ks vs ds hl hv hk0 ks.length k 0 (by omega) (by omega)
theorem bytes_is (l : List Int) (h : l.length < 140737488355328) : ladingref06_bytes.f l = some l := by
  unfold ladingref06_bytes.f
  simp only [Option.bind_some]
  rw [if_pos (by simp; omega), List.nil_append]
theorem lists_l0 (l : List (List Int)) (hl : l.length < 5864062014805) (hb : ∀ x ∈ l, x.length < 140737488355328) : ∀ (d k i : Nat), i + d = l.length → d < k → ladingref06_lists.l0 k (l.take i) l (l.length : Int) (i : Int) = some l
  | 0, k, i, h, hk => by
    obtain ⟨k, rfl⟩ : ∃ q, k = q + 1 := ⟨k - 1, by omega⟩
    simp only [ladingref06_lists.l0]
    rw [if_neg (by omega), List.take_of_length_le (by omega)]
  | d + 1, k, i, h, hk => by
    obtain ⟨k, rfl⟩ : ∃ q, k = q + 1 := ⟨k - 1, by omega⟩
    have hi : i < l.length := by omega
    simp only [ladingref06_lists.l0]
    rw [if_pos (by omega), if_pos (by omega), if_pos (by omega), rdL_at l i hi, bytes_is _ (hb _ (List.getElem_mem hi))]
    simp only [Option.bind_some]
    rw [if_pos (by rw [List.length_take]; omega), w64n i (by omega), List.take_append_getElem hi]
    exact lists_l0 l hl hb d k (i + 1) (by omega) (by omega)
theorem lists_is {k : Nat} (l : List (List Int)) (hl : l.length < 5864062014805) (hb : ∀ x ∈ l, x.length < 140737488355328) (hk : l.length < k) : ladingref06_lists.f k l = some l := by
  unfold ladingref06_lists.f
  exact lists_l0 l hl hb l.length k 0 (by omega) hk
theorem Bd.copy {ks vs : List (List Int)} {ds : List Int} (h : Bd ks vs ds) (b : Bool) {k : Nat} (hf : 4000000 ≤ k) : ladingref06_Copy.f k b ks vs ds = some (b, ks, vs, ds) := by
  have := h.kl
  have := h.vl
  have := h.dl
  unfold ladingref06_Copy.f
  rw [lists_is ks (by omega) (fun x hx => by have := (h.kb x hx).1; omega) (by omega), lists_is vs (by omega) (fun x hx => by have := (h.vb x hx).1; omega) (by omega)]
  simp only [Option.bind_some]
  rw [if_pos (by simp; omega), List.nil_append]
end Go.Proofs.YtcbgichkeecgiaaDoor.Pure
set_option linter.unusedVariables false
namespace Go.Proofs.YtcbgichkeecgiaaDoor.Pure
open Go.RowKit Go.Proofs.YtcbgichkeecgiaaDoor.Print Go.Proofs.YtcbgichkeecgiaaDoorW.PrintWords Go.Proofs.YtcbgichkeecgiaaDoorW.PrintLast Go.Proofs.YtcbgichkeecgiaaDoorW.PrintMore
theorem wrap_ok {x : Int} (h0 : -9223372036854775808 ≤ x) (h1 : x ≤ 9223372036854775807) : wrap64 x = x := by unfold wrap64; omega
theorem update_is (a : Int) (l : List Int) : crc_Update.f a l = some (iv (~~~ upd (~~~ BitVec.ofInt 32 a) l)) := by
  unfold crc_Update.f
  rw [not_iv a, upd_iv, not_iv, ofInt_iv]
theorem of_is (l : List Int) : crc_Of.f l = some (iv (sumOf l)) := by
  unfold crc_Of.f
  rw [update_is]
  rfl
theorem bytesL_take {l : List Int} (h : BytesL l) (n : Nat) : BytesL (l.take n) := fun x hx => h x (List.mem_of_mem_take hx)
theorem bytesL_append {a b : List Int} (ha : BytesL a) (hb : BytesL b) : BytesL (a ++ b) := fun x hx => (List.mem_append.1 hx).elim (ha x) (hb x)
theorem u8_inj {x y : Int} (hx : 0 ≤ x ∧ x < 256) (hy : 0 ≤ y ∧ y < 256) (h : UInt8.ofNat x.toNat = UInt8.ofNat y.toNat) : x = y := by
  have := congrArg UInt8.toNat h
  simp at this
  omega
theorem str_inj : ∀ {a b : List Int}, BytesL a → BytesL b → (strOfNums a).toList = (strOfNums b).toList → a = b := by
  intro a b ha hb h
  rw [Lib.strOfNums_toList, Lib.strOfNums_toList] at h
  revert b
  induction a with
  | nil => intro b hb h; cases b with
    | nil => rfl
    | cons y b => simp [Lib.bytesOf] at h
  | cons x a ih => intro b hb h; cases b with
    | nil => simp [Lib.bytesOf] at h
    | cons y b =>
      simp only [Lib.bytesOf, List.map_cons, List.cons.injEq] at h
      have h1 := u8_inj (ha x List.mem_cons_self) (hb y List.mem_cons_self) h.1
      have h2 := ih (fun z hz => ha z (List.mem_cons_of_mem _ hz)) (fun z hz => hb z (List.mem_cons_of_mem _ hz)) h.2
      rw [h1, h2]
theorem str_ne {a b : List Int} (ha : BytesL a) (hb : BytesL b) (h : a ≠ b) : ¬ (strOfNums a).toList = (strOfNums b).toList := fun e => h (str_inj ha hb e)
def tail4 (s : Int) : List Int := [s % 256, s / 256 % 256, s / 65536 % 256, s / 16777216 % 256]
def sealOf (l : List Int) : List Int := l ++ tail4 (iv (sumOf l))
theorem tail4_bytes (s : Int) : BytesL (tail4 s) := fun x hx => by
  simp only [tail4, List.mem_cons, List.not_mem_nil, or_false] at hx
  rcases hx with h | h | h | h <;> omega
theorem sealOf_bytes {l : List Int} (h : BytesL l) : BytesL (sealOf l) := bytesL_append h (tail4_bytes _)
theorem sealOf_length (l : List Int) : (sealOf l).length = l.length + 4 := by simp [sealOf, tail4]
theorem seal_is (l : List Int) (hl : l.length ≤ 140737488351232) : crc_Seal.f l = some (sealOf l) := by
  have h1 : (0 : Int) ≤ (l.length : Int) + 4 := by omega
  have h2 : ((l.length : Int) + 4).toNat ≤ 281474976710656 := by omega
  have h3 : ([] : List Int).length + l.length < 140737488355328 := by rw [List.length_nil]; omega
  have h4 : ([] ++ l).length + ([iv (sumOf l) % 256, iv (sumOf l) / 256 % 256, iv (sumOf l) / 65536 % 256, iv (sumOf l) / 16777216 % 256] : List Int).length < 140737488355328 := by rw [List.nil_append]; simp only [List.length_cons, List.length_nil]; omega
  unfold crc_Seal.f
  rw [of_is, Option.bind_some, wrap_ok (by omega) (by omega), if_pos h1, if_pos h2, Option.bind_some, if_pos h3, Option.bind_some, Option.bind_some, if_pos h4, List.nil_append]
  rfl
def openOf (l : List Int) : List Int × Int := if l.length < 4 then ([], 6) else if sealOf (l.take (l.length - 4)) = l then (l.take (l.length - 4), 0) else ([], 6)
theorem open_is (l : List Int) (hb : BytesL l) (hl : l.length ≤ 140737488351236) : crc_Open.f l = some (openOf l) := by
  unfold crc_Open.f openOf
  by_cases h4 : l.length < 4
  · rw [if_pos (by omega), if_pos h4]
  · rw [if_neg (by omega), if_neg h4, wrap_ok (by omega) (by omega), if_pos (by omega), if_pos (by omega)]
    have e : ((l.length : Int) - 4).toNat = l.length - 4 := by omega
    have hlt : (l.take (l.length - 4)).length = l.length - 4 := by rw [List.length_take]; omega
    rw [e, seal_is _ (by omega)]
    simp only [Option.bind_some]
    by_cases hs : sealOf (l.take (l.length - 4)) = l
    · rw [if_pos (by rw [hs]), if_pos (by rw [hlt]; simp only [List.length_nil]; omega), if_pos hs, List.nil_append]
    · rw [if_neg (str_ne (sealOf_bytes (bytesL_take hb _)) hb hs), if_neg hs]
theorem upd_inj : ∀ (l : List Int) (a b : BitVec 32), upd a l = upd b l → a = b
  | [], _, _, h => h
  | x :: l, a, b, h => by
    have h1 := shN_inj 8 _ _ (upd_inj l _ _ h)
    have h2 := congrArg (· ^^^ BitVec.ofInt 32 x) h1
    simpa [BitVec.xor_assoc] using h2
theorem ofInt_byte_inj {x y : Int} (hx : 0 ≤ x ∧ x < 256) (hy : 0 ≤ y ∧ y < 256) (h : BitVec.ofInt 32 x = BitVec.ofInt 32 y) : x = y := by
  rw [← iv_ofInt x hx.1 (by omega), h, iv_ofInt y hy.1 (by omega)]
theorem sumOf_set {l : List Int} {i : Nat} {b : Int} (hi : i < l.length) (hl : BytesL l) (hb : 0 ≤ b ∧ b < 256) (hne : l[i] ≠ b) : sumOf (l.set i b) ≠ sumOf l := by
  intro h
  unfold sumOf at h
  have h1 : upd (BitVec.allOnes 32) (l.set i b) = upd (BitVec.allOnes 32) l := by
    have := congrArg (~~~ ·) h
    simpa using this
  rw [List.set_eq_take_append_cons_drop, if_pos hi] at h1
  have e : l = l.take i ++ l[i] :: l.drop (i + 1) := by rw [← List.drop_eq_getElem_cons hi, List.take_append_drop]
  conv at h1 => rhs; rw [e]
  rw [upd_append, upd_append, upd_cons, upd_cons] at h1
  have h2 := shN_inj 8 _ _ (upd_inj _ _ _ h1)
  have h3 := congrArg (upd (BitVec.allOnes 32) (l.take i) ^^^ ·) h2
  simp only [← BitVec.xor_assoc, BitVec.xor_self, BitVec.zero_xor] at h3
  exact hne (ofInt_byte_inj hb (hl _ (List.getElem_mem hi)) h3).symm
theorem tail4_inj {s t : Int} (hs : 0 ≤ s ∧ s < 4294967296) (ht : 0 ≤ t ∧ t < 4294967296) (h : tail4 s = tail4 t) : s = t := by
  simp only [tail4, List.cons.injEq, and_true] at h
  omega
theorem open_broken {l : List Int} {i : Nat} {b : Int} (hi : i < (sealOf l).length) (hl : BytesL l) (hb : 0 ≤ b ∧ b < 256) (hne : (sealOf l)[i] ≠ b) : openOf ((sealOf l).set i b) = ([], 6) := by
  have h : ((sealOf l).set i b).length - 4 = l.length := by rw [List.length_set, sealOf_length]; omega
  unfold openOf
  rw [if_neg (by rw [List.length_set, sealOf_length]; omega), h]
  by_cases hlt : i < l.length
  · have hs : (sealOf l).set i b = l.set i b ++ tail4 (iv (sumOf l)) := by rw [sealOf, List.set_append_left _ _ hlt]
    have ht : ((sealOf l).set i b).take l.length = l.set i b := by
      rw [hs]
      have := List.take_left (l₁ := l.set i b) (l₂ := tail4 (iv (sumOf l)))
      rwa [List.length_set] at this
    rw [ht, hs, if_neg]
    intro hc
    rw [sealOf] at hc
    have h4 := tail4_inj (iv_range _) (iv_range _) (List.append_cancel_left hc)
    have hg : l[i] ≠ b := by
      intro e; apply hne; rw [← e]
      simp only [sealOf]
      exact List.getElem_append_left hlt
    exact sumOf_set hlt hl hb hg (iv_inj h4)
  · have ht : ((sealOf l).set i b).take l.length = l := by
      rw [List.take_set_of_le (by omega), sealOf, List.take_left]
    rw [ht, if_neg]
    intro hc
    apply hne
    have := congrArg (fun z => z[i]?) hc
    simp only [List.getElem?_set_self hi] at this
    rw [List.getElem?_eq_getElem hi] at this
    exact Option.some.inj this
end Go.Proofs.YtcbgichkeecgiaaDoor.Pure
set_option linter.unusedVariables false
namespace Go.Proofs.YtcbgichkeecgiaaDoor.Pure
open Go.RowKit Go.Proofs.YtcbgichkeecgiaaDoor.Print Go.Proofs.YtcbgichkeecgiaaDoorW.PrintWords Go.Proofs.YtcbgichkeecgiaaDoorW.PrintLast Go.Proofs.YtcbgichkeecgiaaDoorW.PrintMore
theorem u64 {x : Int} (h0 : 0 ≤ x) (h1 : x ≤ 18446744073709551615) : IntKind.u64.wrap x = x := by rw [IntKind.wrap_u64]; omega
theorem some_bind {α β : Type} (a : α) (f : α → Option β) : (some a).bind f = f a := rfl
theorem rd_at (l : List Int) (i : Nat) (h : i < l.length) : rd l (i : Int) = l[i] := by
  unfold rd
  rw [Int.toNat_natCast, List.getD_eq_getElem?_getD, List.getElem?_eq_getElem h]; rfl
theorem or128' : ∀ x : Nat, x < 256 → bits .or .u8 (x : Int) 128 = ((x % 128 + 128 : Nat) : Int) := by decide +kernel
theorem and127 : ∀ x : Nat, x < 256 → bits .and .u8 (x : Int) 127 = ((x % 128 : Nat) : Int) := by decide +kernel
def gr : Nat → Nat → List Int
  | 0, n => [(n : Int)]
  | j + 1, n => if n < 128 then [(n : Int)] else ((n % 128 + 128 : Nat) : Int) :: gr j (n / 128)
theorem gr_len : ∀ j n, 1 ≤ (gr j n).length ∧ (gr j n).length ≤ j + 1
  | 0, n => by simp [gr]
  | j + 1, n => by
    unfold gr
    split
    · simp
    · have := gr_len j (n / 128); simp; omega
theorem groups_is : ∀ (j : Nat) (l : List Int) (n k : Nat), n < 128 ^ (j + 1) → l.length + j < 140737488355328 → codec_groups.l0 (k + j + 1) l (n : Int) = some (l ++ gr j n)
  | 0, l, n, k, hn, hl => by
    unfold codec_groups.l0 gr
    rw [if_neg (by omega), if_pos (by omega)]
    have : ((n : Int)) % 256 = n := by omega
    rw [this]
  | j + 1, l, n, k, hn, hl => by
    rw [show k + (j + 1) + 1 = (k + j + 1) + 1 by omega]
    unfold codec_groups.l0 gr
    by_cases h : n < 128
    · rw [if_neg (by omega), if_pos (by omega), if_pos h]
      have : ((n : Int)) % 256 = n := by omega
      rw [this]
    · rw [if_pos (by omega), if_pos (by omega), if_neg h]
      have e1 : ((n : Int)) % 256 = ((n % 256 : Nat) : Int) := by omega
      have e2 : ((n : Int)) / 128 = ((n / 128 : Nat) : Int) := by omega
      rw [e1, or128' _ (by omega), e2, groups_is j _ (n / 128) k ?_ (by simp; omega)]
      · have : n % 256 % 128 = n % 128 := by omega
        rw [this, List.append_assoc]; rfl
      · rw [Nat.pow_succ] at hn; omega
theorem cown_is (l : List Int) (h : l.length < 140737488355328) : codec_own.f l = some l := by
  unfold codec_own.f
  rw [if_pos (by simpa using h)]; rfl
def num (n : Nat) : List Int := gr 9 n
theorem num_len (n : Nat) : 1 ≤ (num n).length ∧ (num n).length ≤ 10 := gr_len 9 n
theorem groups_num (k : Nat) (l : List Int) (n : Nat) (hk : 10 ≤ k) (hn : n < 18446744073709551616) (hl : l.length + 9 < 140737488355328) : codec_groups.f k l (n : Int) = some (l ++ num n) := by
  obtain ⟨d, rfl⟩ : ∃ d, k = d + 9 + 1 := ⟨k - 10, by omega⟩
  exact groups_is 9 l n d (Nat.lt_trans hn (by decide)) hl
theorem num_is (k : Nat) (l : List Int) (n : Nat) (hk : 10 ≤ k) (hn : n < 18446744073709551616) (hl : l.length + 9 < 140737488355328) : codec_Num.f k l (n : Int) = some (l ++ num n) := by
  unfold codec_Num.f
  rw [cown_is l (by omega), some_bind, groups_num k l n hk hn hl]; rfl
theorem text_is (k : Nat) (l : List Int) (s : ByteArray) (hk : 10 ≤ k) (hl : l.length + s.size + 10 < 140737488355328) : codec_Text.f k l s = some (l ++ num s.size ++ bytesOf s) := by
  unfold codec_Text.f
  have := num_len s.size
  rw [u64 (by omega) (by omega), num_is k l s.size hk (by omega) (by omega), some_bind, if_pos (by rw [List.length_append]; omega)]
def rn : List Int → Nat → Nat → Option (Nat × List Int)
  | [], _, _ => none
  | x :: r, i, acc =>
    if i > 9 then none else if i = 9 ∧ x.toNat % 128 > 1 then none else if i > 0 ∧ x = 0 then none
    else if x < 128 then some (acc + x.toNat % 128 * 2 ^ (7 * i), r) else rn r (i + 1) (acc + x.toNat % 128 * 2 ^ (7 * i))
theorem rn_stop (y : Nat) (d : List Int) (i acc : Nat) (h : i > 9 ∨ (i = 9 ∧ y % 128 > 1) ∨ (i > 0 ∧ y = 0)) : rn ((y : Int) :: d) i acc = none := by
  unfold rn
  rw [Int.toNat_natCast]
  by_cases h1 : i > 9
  · rw [if_pos h1]
  · rw [if_neg h1]
    by_cases h2 : i = 9 ∧ y % 128 > 1
    · rw [if_pos h2]
    · rw [if_neg h2, if_pos (by omega)]
theorem rn_on (y : Nat) (d : List Int) (i acc : Nat) (h : ¬ (i > 9 ∨ (i = 9 ∧ y % 128 > 1) ∨ (i > 0 ∧ y = 0))) :
    rn ((y : Int) :: d) i acc = if (y : Int) < 128 then some (acc + y % 128 * 2 ^ (7 * i), d) else rn d (i + 1) (acc + y % 128 * 2 ^ (7 * i)) := by
  conv => lhs; unfold rn
  rw [Int.toNat_natCast, if_neg (by omega), if_neg (by omega), if_neg (by omega)]
theorem pow_step (i acc y : Nat) (ha : acc < 2 ^ (7 * i)) (hy : y < 128) : acc + y * 2 ^ (7 * i) < 2 ^ (7 * (i + 1)) := by
  rw [show 7 * (i + 1) = 7 * i + 7 by omega, Nat.pow_add]
  have : (y + 1) * 2 ^ (7 * i) ≤ 2 ^ 7 * 2 ^ (7 * i) := Nat.mul_le_mul_right _ (by omega)
  rw [Nat.mul_comm (2 ^ (7 * i))]
  rw [Nat.add_mul] at this
  omega
theorem pow_64 (i acc y : Nat) (hi : i ≤ 9) (ha : acc < 2 ^ (7 * i)) (hy : y < 128) (h9 : i = 9 → y ≤ 1) : acc + y * 2 ^ (7 * i) < 18446744073709551616 := by
  by_cases h : i = 9
  · subst h
    have := h9 rfl
    have : y * 2 ^ 63 ≤ 1 * 2 ^ 63 := Nat.mul_le_mul_right _ this
    omega
  · have h1 := pow_step i acc y ha hy
    have h2 : 2 ^ (7 * (i + 1)) ≤ 2 ^ 63 := Nat.pow_le_pow_right (by omega) (by omega)
    omega
theorem shl_at (y i : Nat) (hi : i ≤ 9) (hy : y < 128) (h9 : i = 9 → y ≤ 1) : shl .u64 (y : Int) (((7 * i : Nat) : Int)) = ((y * 2 ^ (7 * i) : Nat) : Int) := by
  have h1 := pow_64 i 0 y hi (Nat.two_pow_pos _) hy h9
  unfold shl
  rw [Int.toNat_natCast, Nat.min_eq_left (show 7 * i ≤ IntKind.bits .u64 by show 7 * i ≤ 64; omega)]
  rw [show (y : Int) * 2 ^ (7 * i) = ((y * 2 ^ (7 * i) : Nat) : Int) by push_cast; rfl, u64 (by omega) (by omega)]
theorem or_add (acc y i : Nat) (hi : i ≤ 9) (ha : acc < 2 ^ (7 * i)) (hy : y < 128) (h9 : i = 9 → y ≤ 1) :
    bits .or .u64 (acc : Int) ((y * 2 ^ (7 * i) : Nat) : Int) = ((acc + y * 2 ^ (7 * i) : Nat) : Int) := by
  have h1 := pow_64 i acc y hi ha hy h9
  rw [bits_or_u64_nat _ _ (by omega) (by omega)]
  congr 1
  have := Nat.two_pow_add_eq_or_of_lt ha y
  rw [Nat.or_comm, Nat.mul_comm y, ← this]; omega
theorem fail_is (l : List Int) (e : Int) : codec_cursor_fail.f l 0 e = some (l, e) := by unfold codec_cursor_fail.f; rw [if_pos rfl]
def numOut (l : List Int) (o : Option (Nat × List Int)) : Int × List Int × Int := match o with | some (n, r) => ((n : Int), r, 0) | none => (0, l, 6)
theorem drop_cons {l d : List Int} {i : Nat} {x : Int} (h : l.drop i = x :: d) : i < l.length ∧ rd l (i : Int) = x ∧ l.drop (i + 1) = d ∧ x ∈ l := by
  have hi : i < l.length := by
    rcases Nat.lt_or_ge i l.length with h1 | h1
    · exact h1
    · rw [List.drop_eq_nil_of_le h1] at h; cases h
  have h2 := List.drop_eq_getElem_cons hi
  rw [h] at h2
  injection h2 with h3 h4
  exact ⟨hi, by rw [rd_at l i hi, h3], h4.symm, by rw [h3]; exact List.getElem_mem hi⟩
theorem cnum_l (l : List Int) (hb : BytesL l) (hl : l.length < 9223372036854775807) : ∀ (m i acc k : Nat) (d : List Int), i + m = 10 → l.drop i = d → acc < 2 ^ (7 * i) →
    codec_cursor_num.l0 (k + 2 * m + 2) (acc : Int) l (l.length : Int) (i : Int) l 0 = some (numOut l (rn d i acc)) := by
  intro m
  induction m with
  | zero =>
    intro i acc k d hi hd ha
    obtain rfl : i = 10 := by omega
    unfold codec_cursor_num.l0
    by_cases h : (10 : Nat) < l.length
    · rw [if_pos (by omega), if_pos (by omega), if_pos (by omega), if_pos rfl, if_pos (by omega)]
      unfold codec_cursor_num.j1
      rw [if_pos rfl, fail_is, some_bind]
      rw [List.drop_eq_getElem_cons h] at hd
      subst hd
      simp [rn, numOut]
    · rw [if_neg (by omega), fail_is, some_bind]
      rw [List.drop_eq_nil_of_le (by omega)] at hd
      subst hd
      rfl
  | succ m ih =>
    intro i acc k d hi hd ha
    rw [show k + 2 * (m + 1) + 2 = ((k + 2 * m + 2) + 1) + 1 by omega]
    unfold codec_cursor_num.l0
    cases d with
    | nil =>
      have : l.length ≤ i := by
        rcases Nat.lt_or_ge i l.length with h1 | h1
        · rw [List.drop_eq_getElem_cons h1] at hd; cases hd
        · exact h1
      rw [if_neg (by omega), fail_is, some_bind]; rfl
    | cons x d =>
      obtain ⟨h1, h2, h3, h4⟩ := drop_cons hd
      have hx := hb x h4
      obtain ⟨y, rfl⟩ : ∃ y : Nat, x = y := ⟨x.toNat, by omega⟩
      have e1 : IntKind.u64.wrap (bits .and .u8 (rd l (i : Int)) 127) = ((y % 128 : Nat) : Int) := by rw [h2, and127 y (by omega), u64 (by omega) (by omega)]
      rw [if_pos (by omega), if_pos (by omega), if_pos (by omega), if_pos rfl, if_neg (by omega), e1, h2]
      have go : ∀ b : Bool, (b = true ↔ (i = 9 ∧ y % 128 > 1) ∨ (i > 0 ∧ y = 0)) →
          codec_cursor_num.j1 (k + 2 * m + 2 + 1) (acc : Int) (i : Int) (y : Int) ((y % 128 : Nat) : Int) l (l.length : Int) (i : Int) b l 0 = some (numOut l (rn ((y : Int) :: d) i acc)) := by
        intro b hbv
        unfold codec_cursor_num.j1
        cases b with
        | true =>
          rw [if_pos rfl, fail_is, some_bind]
          have := hbv.1 rfl
          rw [rn_stop y d i acc (.inr this)]; rfl
        | false =>
          have hn : ¬ ((i = 9 ∧ y % 128 > 1) ∨ (i > 0 ∧ y = 0)) := fun h => by have := hbv.2 h; cases this
          have h9 : i = 9 → y % 128 ≤ 1 := by omega
          have p64 := pow_64 i acc (y % 128) (by omega) ha (by omega) h9
          rw [if_neg (by decide), w64 (x := 7 * (i : Int)) (by omega) (by omega), if_pos (by omega), show (7 * (i : Int)) = ((7 * i : Nat) : Int) by omega, shl_at (y % 128) i (by omega) (by omega) h9, or_add acc (y % 128) i (by omega) ha (by omega) h9]
          rw [rn_on y d i acc (by omega), w64 (x := (i : Int) + 1) (by omega) (by omega)]
          by_cases g : (y : Int) < 128
          · rw [if_pos g, if_pos (by omega), if_pos (by omega), if_pos g, show ((i : Int) + 1).toNat = i + 1 by omega, h3]; rfl
          · rw [if_neg g, if_neg g]
            exact ih (i + 1) _ k d (by omega) h3 (pow_step i acc (y % 128) ha (by omega))
      by_cases g9 : i = 9
      · rw [if_pos (by omega)]
        by_cases g1 : y % 128 > 1
        · rw [if_pos (by omega)]; exact go true ⟨fun _ => .inl ⟨g9, g1⟩, fun _ => rfl⟩
        · rw [if_neg (by omega), if_pos (by omega)]
          exact go _ ⟨fun h => by have : (y : Int) = 0 := by simpa using h
                                  exact .inr (by omega), fun h => by have : (y : Int) = 0 := by omega
                                                                     simpa using this⟩
      · rw [if_neg (by omega)]
        by_cases g0 : i > 0
        · rw [if_pos (by omega)]
          exact go _ ⟨fun h => by have : (y : Int) = 0 := by simpa using h
                                  exact .inr (by omega), fun h => by have : (y : Int) = 0 := by omega
                                                                     simpa using this⟩
        · rw [if_neg (by omega)]
          exact go false ⟨fun h => absurd h (by decide), fun h => by omega⟩
theorem cnum_is (k : Nat) (l : List Int) (hk : 22 ≤ k) (hb : BytesL l) (hl : l.length < 140737488355328) : codec_cursor_num.f k l 0 = some (numOut l (rn l 0 0)) := by
  obtain ⟨d, rfl⟩ : ∃ d, k = d + 2 * 10 + 2 := ⟨k - 22, by omega⟩
  unfold codec_cursor_num.f
  exact cnum_l l hb (by omega) 10 0 0 d l rfl rfl (by simp)
theorem rn_shorter : ∀ (l : List Int) (i acc : Nat) (n : Nat) (r : List Int), rn l i acc = some (n, r) → r.length < l.length ∧ (∃ p, l = p ++ r)
  | [], _, _, _, _, h => by simp [rn] at h
  | x :: t, i, acc, n, r, h => by
    unfold rn at h
    split at h
    · cases h
    · split at h
      · cases h
      · split at h
        · cases h
        · split at h
          · simp only [Option.some.injEq, Prod.mk.injEq] at h
            obtain ⟨_, rfl⟩ := h
            exact ⟨by simp, [x], rfl⟩
          · obtain ⟨h1, p, hp⟩ := rn_shorter t _ _ n r h
            exact ⟨by simp; omega, x :: p, by rw [hp]; rfl⟩
theorem rn_lt (l : List Int) : ∀ (i acc n : Nat) (r : List Int), acc < 2 ^ (7 * i) → rn l i acc = some (n, r) → n < 18446744073709551616 := by
  induction l with
  | nil => intro i acc n r _ h; simp [rn] at h
  | cons x t ih =>
    intro i acc n r ha h
    unfold rn at h
    split at h
    · cases h
    · split at h
      · cases h
      · split at h
        · cases h
        · rename_i g1 g2 g3
          have := pow_64 i acc (x.toNat % 128) (by omega) ha (by omega) (fun h9 => by have : ¬ x.toNat % 128 > 1 := fun h1 => g2 ⟨h9, h1⟩
                                                                                      omega)
          split at h
          · simp only [Option.some.injEq, Prod.mk.injEq] at h
            omega
          · exact ih _ _ n r (pow_step i acc _ ha (by omega)) h
def readOut (o : Option (Nat × List Int)) : Int × List Int × Int := match o with | some (n, r) => ((n : Int), r, 0) | none => (0, [], 6)
theorem rest_is (l : List Int) (hl : l.length < 140737488355328) : codec_cursor_rest.f l 0 = some l := by
  unfold codec_cursor_rest.f
  rw [if_pos rfl, cown_is l hl]; rfl
theorem rest_not (l : List Int) (a : Int) (h : a ≠ 0) : codec_cursor_rest.f l a = some [] := by
  unfold codec_cursor_rest.f
  rw [if_neg h]
theorem read_is (k : Nat) (l : List Int) (hk : 22 ≤ k) (hb : BytesL l) (hl : l.length < 140737488355328) : codec_ReadNum.f k l = some (readOut (rn l 0 0)) := by
  unfold codec_ReadNum.f
  rw [cnum_is k l hk hb hl, some_bind]
  cases h : rn l 0 0 with
  | none => simp only [numOut]; rw [rest_not l 6 (by decide), some_bind]; rfl
  | some z => obtain ⟨n, r⟩ := z; have := (rn_shorter l 0 0 n r h).1; simp only [numOut]; rw [rest_is r (by omega), some_bind]; rfl
theorem pow7 (i : Nat) : 2 ^ (7 * (i + 1)) = 128 * 2 ^ (7 * i) := by rw [show 7 * (i + 1) = 7 + 7 * i by omega, Nat.pow_add]
theorem rn_gr : ∀ (j i acc n : Nat) (b : List Int), i + j = 9 → n * 2 ^ (7 * i) < 18446744073709551616 → (i > 0 → n ≠ 0) → rn (gr j n ++ b) i acc = some (acc + n * 2 ^ (7 * i), b)
  | 0, i, acc, n, b, hi, hn, h0 => by
    obtain rfl : i = 9 := by omega
    have h1 : n ≤ 1 := by
      rcases Nat.lt_or_ge 1 n with h | h
      · have : 2 * 2 ^ (7 * 9) ≤ n * 2 ^ (7 * 9) := Nat.mul_le_mul_right _ h
        omega
      · exact h
    have := h0 (by omega)
    show rn ((n : Int) :: b) 9 acc = _
    rw [rn_on n b 9 acc (by omega), if_pos (by omega), Nat.mod_eq_of_lt (by omega)]
  | j + 1, i, acc, n, b, hi, hn, h0 => by
    unfold gr
    by_cases h : n < 128
    · rw [if_pos h]
      show rn ((n : Int) :: b) i acc = _
      rw [rn_on n b i acc (by omega), if_pos (by omega), Nat.mod_eq_of_lt h]
    · rw [if_neg h]
      show rn (((n % 128 + 128 : Nat) : Int) :: (gr j (n / 128) ++ b)) i acc = _
      rw [rn_on _ _ i acc (by omega), if_neg (by omega), show (n % 128 + 128) % 128 = n % 128 by omega]
      have e : (n / 128) * 2 ^ (7 * (i + 1)) + n % 128 * 2 ^ (7 * i) = n * 2 ^ (7 * i) := by
        rw [pow7, ← Nat.mul_assoc, ← Nat.add_mul]
        congr 1; omega
      rw [rn_gr j (i + 1) _ (n / 128) b (by omega) (by omega) (by omega)]
      congr 2; omega
theorem rn_num (n : Nat) (b : List Int) (hn : n < 18446744073709551616) : rn (num n ++ b) 0 0 = some (n, b) := by
  have := rn_gr 9 0 0 n b rfl (by simpa using hn) (by omega)
  simpa [num] using this
theorem gr_rn : ∀ (l : List Int) (i acc n : Nat) (r : List Int), BytesL l → i ≤ 9 → rn l i acc = some (n, r) → ∃ n', n = acc + n' * 2 ^ (7 * i) ∧ l = gr (9 - i) n' ++ r ∧ (i > 0 → n' ≠ 0)
  | [], _, _, _, _, _, _, h => by simp [rn] at h
  | x :: t, i, acc, n, r, hb, hi, h => by
    have hx := hb x (by simp)
    obtain ⟨y, rfl⟩ : ∃ y : Nat, x = y := ⟨x.toNat, by omega⟩
    by_cases hs : i > 9 ∨ (i = 9 ∧ y % 128 > 1) ∨ (i > 0 ∧ y = 0)
    · rw [rn_stop y t i acc hs] at h; cases h
    · rw [rn_on y t i acc hs] at h
      by_cases g : (y : Int) < 128
      · rw [if_pos g] at h
        simp only [Option.some.injEq, Prod.mk.injEq] at h
        obtain ⟨rfl, rfl⟩ := h
        refine ⟨y, by rw [Nat.mod_eq_of_lt (by omega)], ?_, by omega⟩
        have : gr (9 - i) y = [(y : Int)] := by
          cases 9 - i with
          | zero => rfl
          | succ j => unfold gr; rw [if_pos (by omega)]
        rw [this]; rfl
      · rw [if_neg g] at h
        have h9 : i + 1 ≤ 9 := by
          rcases Nat.lt_or_ge i 9 with h1 | h1
          · omega
          · obtain rfl : i = 9 := by omega
            have e : rn t (9 + 1) (acc + y % 128 * 2 ^ (7 * 9)) = none := by cases t <;> simp [rn]
            rw [e] at h; cases h
        obtain ⟨n', e1, e2, e3⟩ := gr_rn t (i + 1) _ n r (fun z hz => hb z (by simp [hz])) h9 h
        have h3 := e3 (by omega)
        refine ⟨y % 128 + 128 * n', ?_, ?_, by omega⟩
        · rw [e1, pow7, Nat.add_mul, Nat.mul_comm 128 n', Nat.mul_assoc]; omega
        · rw [show 9 - i = (9 - (i + 1)) + 1 by omega]
          unfold gr
          rw [if_neg (by omega), show (y % 128 + 128 * n') % 128 + 128 = y by omega, show (y % 128 + 128 * n') / 128 = n' by omega, e2]
          rfl
theorem num_rn (l : List Int) (n : Nat) (r : List Int) (hb : BytesL l) (h : rn l 0 0 = some (n, r)) : num n ++ r = l := by
  obtain ⟨n', e1, e2, _⟩ := gr_rn l 0 0 n r hb (by omega) h
  have : n = n' := by simpa using e1
  subst this
  exact e2.symm
theorem gr_bytes : ∀ (j n : Nat), n < 128 ^ (j + 1) → BytesL (gr j n)
  | 0, n, h => by intro x hx; simp only [gr, List.mem_singleton] at hx; subst hx; omega
  | j + 1, n, h => by
    unfold gr
    split
    · intro x hx; simp only [List.mem_singleton] at hx; subst hx; omega
    · intro x hx
      rcases List.mem_cons.1 hx with rfl | hx
      · omega
      · exact gr_bytes j (n / 128) (by rw [Nat.pow_succ] at h; omega) x hx
theorem num_bytes (n : Nat) (h : n < 18446744073709551616) : BytesL (num n) := gr_bytes 9 n (Nat.lt_trans h (by decide))
theorem bytesOf_strOf (l : List Int) (h : BytesL l) : bytesOf (strOfNums l) = l := by
  unfold bytesOf
  rw [strOfNums_data, List.map_map]
  conv => rhs; rw [← List.map_id l]
  apply List.map_congr_left
  intro x hx
  have := h x hx
  show ((UInt8.ofNat x.toNat).toNat : Int) = x
  rw [UInt8.toNat_ofNat', Nat.mod_eq_of_lt (by omega)]; omega
end Go.Proofs.YtcbgichkeecgiaaDoor.Pure
set_option linter.unusedVariables false
set_option linter.unusedSimpArgs false
namespace Go.Proofs.YtcbgichkeecgiaaDoor.Pure
open Go.RowKit Go.Proofs.YtcbgichkeecgiaaDoor.Print Go.Proofs.YtcbgichkeecgiaaDoorW.PrintWords Go.Proofs.YtcbgichkeecgiaaDoorW.PrintLast Go.Proofs.YtcbgichkeecgiaaDoorW.PrintMore
theorem gr_wd : ∀ (j n : Nat), n < 128 ^ (j + 1) → (gr j n).length = wd n
  | 0, n, h => by rw [wd_small (by omega)]; rfl
  | j + 1, n, h => by
    unfold gr
    by_cases g : n < 128
    · rw [if_pos g, wd_small (by omega)]; rfl
    · rw [if_neg g, wd_big (by omega), List.length_cons, gr_wd j (n / 128) (by rw [Nat.pow_succ] at h; omega)]
theorem num_wd (n : Nat) (h : n < 18446744073709551616) : (num n).length = wd n := gr_wd 9 n (Nat.lt_trans h (by decide))
def textB (s : List Int) : List Int := num s.length ++ s
theorem textB_len (s : List Int) (h : s.length < 18446744073709551616) : (textB s).length = lg s := by unfold textB lg; rw [List.length_append, num_wd _ h]
def leafT : List (List Int) → List (List Int) → List Int
  | [], _ => []
  | _ :: _, [] => []
  | k :: ks, v :: vs => textB k ++ (textB v ++ leafT ks vs)
def innT : List (List Int) → List Int → List Int
  | [], _ => []
  | _ :: _, [] => []
  | k :: ks, d :: ds => textB k ++ (num d.toNat ++ innT ks ds)
def pageT (b : Bool) (ks vs : List (List Int)) (ds : List Int) : List Int := if b = true then 1 :: (num ks.length ++ leafT ks vs) else 2 :: (num ks.length ++ (num (ds.headD 0).toNat ++ innT ks ds.tail))
theorem strOf_size' (l : List Int) (h : BytesL l) : (strOfNums l).size = l.length := by rw [← bytesOf_length, bytesOf_strOf l h]
theorem ctext (k : Nat) (l s : List Int) (hk : 10 ≤ k) (hb : BytesL s) (hl : l.length + s.length + 10 < 140737488355328) : codec_Text.f k l (strOfNums s) = some (l ++ textB s) := by
  rw [text_is k l _ hk (by rw [strOf_size' s hb]; exact hl), strOf_size' s hb, bytesOf_strOf s hb, List.append_assoc]; rfl
theorem textB_le (s : List Int) (h : s.length ≤ 1048576) : (textB s).length ≤ 1048600 := by unfold textB; have := num_len s.length; rw [List.length_append]; omega
theorem leafT_drop {ks vs : List (List Int)} {i : Nat} (h1 : i < ks.length) (h2 : i < vs.length) : leafT (ks.drop i) (vs.drop i) = textB ks[i] ++ (textB vs[i] ++ leafT (ks.drop (i + 1)) (vs.drop (i + 1))) := by
  rw [List.drop_eq_getElem_cons h1, List.drop_eq_getElem_cons h2, leafT]
theorem innT_drop {ks : List (List Int)} {ds : List Int} {i : Nat} (h1 : i < ks.length) (h2 : i + 1 < ds.length) : innT (ks.drop i) (ds.drop (i + 1)) = textB ks[i] ++ (num (ds[i + 1]).toNat ++ innT (ks.drop (i + 1)) (ds.drop (i + 2))) := by
  rw [List.drop_eq_getElem_cons h1, List.drop_eq_getElem_cons h2, innT]
theorem leafT_len : ∀ (ks vs : List (List Int)), vs.length = ks.length → (∀ x ∈ ks, x.length ≤ 1048576) → (∀ x ∈ vs, x.length ≤ 1048576) → (leafT ks vs).length = sumL ks + sumL vs
  | [], [], _, _, _ => rfl
  | [], _ :: _, h, _, _ => by simp at h
  | _ :: _, [], h, _, _ => by simp at h
  | k :: ks, v :: vs, h, h1, h2 => by
    have a1 := h1 k (by simp)
    have a2 := h2 v (by simp)
    rw [leafT, List.length_append, List.length_append, textB_len _ (by omega), textB_len _ (by omega), leafT_len ks vs (by simpa using h) (fun x hx => h1 x (by simp [hx])) (fun x hx => h2 x (by simp [hx])), sumL_cons, sumL_cons]
    omega
theorem innT_len : ∀ (ks : List (List Int)) (ds : List Int), ds.length = ks.length → (∀ x ∈ ks, x.length ≤ 1048576) → (∀ x ∈ ds, 0 ≤ x ∧ x < 4611686018427387904) → (innT ks ds).length = sumL ks + sumK ds
  | [], [], _, _, _ => rfl
  | [], _ :: _, h, _, _ => by simp at h
  | _ :: _, [], h, _, _ => by simp at h
  | k :: ks, d :: ds, h, h1, h2 => by
    have a1 := h1 k (by simp)
    have a2 := h2 d (by simp)
    rw [innT, List.length_append, List.length_append, textB_len _ (by omega), num_wd _ (by omega), innT_len ks ds (by simpa using h) (fun x hx => h1 x (by simp [hx])) (fun x hx => h2 x (by simp [hx])), sumL_cons, sumK_cons]
    omega
theorem shape_of {b : Bool} {ks vs : List (List Int)} {ds : List Int} (ho : okP b ks vs ds = true) : shapeP b ks vs ds = true := by
  unfold okP at ho
  simp only [Bool.and_eq_true] at ho
  exact ho.2.2.2
theorem shape_leaf {ks vs : List (List Int)} {ds : List Int} (h : shapeP true ks vs ds = true) : vs.length = ks.length ∧ ds = [] := by
  unfold shapeP at h
  simpa only [if_true, Bool.and_eq_true, decide_eq_true_eq, List.length_eq_zero_iff] using h
theorem shape_inner {ks vs : List (List Int)} {ds : List Int} (h : shapeP false ks vs ds = true) : 0 < ks.length ∧ ds.length = ks.length + 1 ∧ vs = [] := by
  unfold shapeP at h
  simpa only [Bool.false_eq_true, if_false, Bool.and_eq_true, decide_eq_true_eq, List.length_eq_zero_iff] using h
theorem pageT_len {ks vs : List (List Int)} {ds : List Int} (b : Bool) (hb : Bd ks vs ds) (ho : okP b ks vs ds = true) : (pageT b ks vs ds).length + 4 = sz ks vs ds := by
  have hx := okP_kids ho
  have hs := shape_of ho
  have hkl := hb.kl
  have h1 := fun x hx => (hb.kb x hx).1
  have h2 := fun x hx => (hb.vb x hx).1
  unfold pageT Pure.sz
  cases b
  · obtain ⟨a1, a2, rfl⟩ := shape_inner hs
    rw [if_neg (by decide)]
    cases ds with
    | nil => simp at a2
    | cons d ds =>
      have hd := hx d (by simp)
      rw [List.headD_cons, List.tail_cons, List.length_cons, List.length_append, List.length_append, num_wd _ (by omega), num_wd _ (by omega), innT_len ks ds (by simpa using a2) h1 (fun x h => hx x (by simp [h])), sumL_nil, sumK_cons]
      omega
  · obtain ⟨a1, rfl⟩ := shape_leaf hs
    rw [if_pos rfl, List.length_cons, List.length_append, num_wd _ (by omega), leafT_len ks vs a1 h1 h2, sumK_nil]
    omega
def padT (t : List Int) : List Int := t ++ List.replicate (4092 - t.length) 0
theorem padT_len (t : List Int) (h : t.length ≤ 4092) : (padT t).length = 4092 := by unfold padT; rw [List.length_append, List.length_replicate]; omega
def encOf (b : Bool) (ks vs : List (List Int)) (ds : List Int) : List Int × Int := if chk b ks vs ds = 0 then (sealOf (padT (pageT b ks vs ds)), 0) else ([], chk b ks vs ds)
theorem pad_is (t : List Int) (h : t.length ≤ 4092) : node_Encode.pad t = padT t := by
  unfold node_Encode.pad padT
  rw [List.length_replicate, show (4092 : Int).toNat = 4092 from rfl, Nat.min_eq_left h, List.take_length, List.drop_replicate]
theorem enc_l0 (b : Bool) (ks vs : List (List Int)) (ds : List Int) (hb : Bd ks vs ds) (hk0 : ks.length ≤ 4096) (hs : shapeP b ks vs ds = true) (hx : ∀ x ∈ ds, 0 ≤ x ∧ x < 4611686018427387904) : ∀ (d k i : Nat) (l : List Int), i + d = ks.length → d + 20 < k → l.length + d * 3000000 + 3000000 < 140737488355328 →
    (l ++ (if b = true then leafT (ks.drop i) (vs.drop i) else innT (ks.drop i) (ds.drop (i + 1)))).length ≤ 4092 →
    node_Encode.l0 k l ks (ks.length : Int) (i : Int) b ks vs ds = some (sealOf (padT (l ++ (if b = true then leafT (ks.drop i) (vs.drop i) else innT (ks.drop i) (ds.drop (i + 1))))), 0)
  | 0, k, i, l, h, hk, hl, hz => by
    obtain ⟨k, rfl⟩ : ∃ q, k = q + 1 := ⟨k - 1, by omega⟩
    rw [node_Encode.l0, if_neg (by omega), if_pos (by decide)]
    have e : (if b = true then leafT (ks.drop i) (vs.drop i) else innT (ks.drop i) (ds.drop (i + 1))) = [] := by
      rw [List.drop_of_length_le (l := ks) (by omega)]; cases b <;> rfl
    rw [e, List.append_nil] at hz ⊢
    rw [pad_is l hz, seal_is _ (by rw [padT_len _ hz]; omega), some_bind]
  | d + 1, k, i, l, h, hk, hl, hz => by
    obtain ⟨k, rfl⟩ : ∃ q, k = q + 1 := ⟨k - 1, by omega⟩
    have hi : i < ks.length := by omega
    have hk1 := hb.kb _ (List.getElem_mem hi)
    have m1 := textB_le _ hk1.1
    rw [node_Encode.l0, if_pos (by omega), if_pos (by omega), if_pos (by omega), rdL_at ks i hi, ctext k l _ (by omega) hk1.2 (by omega), some_bind]
    cases b
    · obtain ⟨a1, a2, rfl⟩ := shape_inner hs
      have hi2 : i + 1 < ds.length := by omega
      have hx1 := hx _ (List.getElem_mem hi2)
      have m2 := num_len (ds[i + 1]).toNat
      have nf : ¬ (false = true) := by decide
      rw [if_neg nf, innT_drop hi hi2] at hz
      rw [if_neg nf, if_neg nf, innT_drop hi hi2]
      rw [w64n i (by omega), if_pos (by omega), if_pos (by omega), rdK_at ds (i + 1) hi2, u64 (by omega) (by omega), show ds[i + 1] = (((ds[i + 1]).toNat : Nat) : Int) by omega, num_is k _ _ (by omega) (by omega) (by rw [List.length_append]; omega), some_bind]
      have ih := enc_l0 false ks [] ds hb hk0 hs hx d k (i + 1) (l ++ textB ks[i] ++ num (ds[i + 1]).toNat) (by omega) (by omega) (by rw [List.length_append, List.length_append]; omega)
      rw [if_neg (by decide)] at ih
      simp only [List.append_assoc, Int.toNat_natCast] at ih hz ⊢
      exact ih hz
    · obtain ⟨a1, rfl⟩ := shape_leaf hs
      have hi2 : i < vs.length := by omega
      have hv1 := hb.vb _ (List.getElem_mem hi2)
      have m2 := textB_le _ hv1.1
      rw [if_pos rfl, leafT_drop hi hi2] at hz
      rw [if_pos rfl, if_pos (rfl : true = true), leafT_drop hi hi2]
      rw [if_pos (by omega), rdL_at vs i hi2, ctext k _ _ (by omega) hv1.2 (by rw [List.length_append]; omega), some_bind, w64n i (by omega)]
      have ih := enc_l0 true ks vs [] hb hk0 hs hx d k (i + 1) (l ++ textB ks[i] ++ textB vs[i]) (by omega) (by omega) (by rw [List.length_append, List.length_append]; omega)
      rw [if_pos rfl] at ih
      simp only [List.append_assoc] at ih hz ⊢
      exact ih hz
theorem nenc_is {ks vs : List (List Int)} {ds : List Int} (h : Bd ks vs ds) (b : Bool) {k : Nat} (hk : 4000010 ≤ k) : node_Encode.f k b ks vs ds = some (encOf b ks vs ds) := by
  unfold node_Encode.f encOf
  rw [h.check b (by omega), some_bind]
  by_cases hc : chk b ks vs ds = 0
  · have hg := chk_good hc
    have hl := pageT_len b h hg.ok
    have hs := hg.small
    have hx := okP_kids hg.ok
    have lens := hg.lens
    have n1 := num_len ks.length
    obtain ⟨k, rfl⟩ : ∃ q, k = q + 2 := ⟨k - 2, by omega⟩
    rw [if_pos hc, if_pos hc]
    have hsh := hg.shape
    cases b
    · obtain ⟨a1, a2, rfl⟩ := shape_inner hsh
      have hd0 : 0 < ds.length := by omega
      have hx0 := hx _ (List.getElem_mem hd0)
      have hr : rd ds 0 = ds[0] := rdK_at ds 0 hd0
      have n2 := num_len (ds[0]).toNat
      rw [if_neg (by decide), node_Encode.j0, u64 (by omega) (by omega), num_is _ [2] ks.length (by omega) (by omega) (by simp), some_bind, if_neg (by decide), if_pos (by omega), hr, u64 (by omega) (by omega), show ds[0] = (((ds[0]).toNat : Nat) : Int) by omega, num_is _ _ _ (by omega) (by omega) (by simp; omega), some_bind, node_Encode.j1]
      have e : pageT false ks [] ds = ([2] : List Int) ++ num ks.length ++ num (ds[0]).toNat ++ (if false = true then leafT (ks.drop 0) (([] : List (List Int)).drop 0) else innT (ks.drop 0) (ds.drop (0 + 1))) := by
        unfold pageT
        rw [if_neg (by decide), if_neg (by decide), List.drop_zero, Nat.zero_add, show ds.headD 0 = ds[0] by cases ds with | nil => simp at hd0 | cons x l => rfl, show ds.drop 1 = ds.tail by cases ds <;> rfl]
        simp only [List.append_assoc, List.cons_append, List.nil_append]
      rw [e] at hl ⊢
      exact enc_l0 false ks [] ds h lens.1 hsh hx ks.length k 0 _ (by omega) (by omega) (by simp only [List.length_append, List.length_singleton]; omega) (by omega)
    · obtain ⟨a1, rfl⟩ := shape_leaf hsh
      rw [if_pos rfl, node_Encode.j0, u64 (by omega) (by omega), num_is _ [1] ks.length (by omega) (by omega) (by simp), some_bind, if_pos rfl, node_Encode.j1]
      have e : pageT true ks vs [] = ([1] : List Int) ++ num ks.length ++ (if true = true then leafT (ks.drop 0) (vs.drop 0) else innT (ks.drop 0) (([] : List Int).drop (0 + 1))) := by
        unfold pageT
        rw [if_pos rfl, if_pos rfl, List.drop_zero, List.drop_zero]
        simp only [List.append_assoc, List.cons_append, List.nil_append]
      rw [e] at hl ⊢
      exact enc_l0 true ks vs [] h lens.1 hsh hx ks.length k 0 _ (by omega) (by omega) (by simp only [List.length_append, List.length_singleton]; omega) (by omega)
  · rw [if_neg hc, if_neg hc]
end Go.Proofs.YtcbgichkeecgiaaDoor.Pure
set_option linter.unusedVariables false
set_option linter.unusedSimpArgs false
namespace Go.Proofs.YtcbgichkeecgiaaDoor.Pure
open Go.RowKit Go.Proofs.YtcbgichkeecgiaaDoor.Print Go.Proofs.YtcbgichkeecgiaaDoorW.PrintWords Go.Proofs.YtcbgichkeecgiaaDoorW.PrintLast Go.Proofs.YtcbgichkeecgiaaDoorW.PrintMore
def rtx (most : Nat) (l : List Int) : Option (List Int × List Int) := (rn l 0 0).bind fun t => if t.1 ≤ most ∧ t.1 ≤ t.2.length then some (t.2.take t.1, t.2.drop t.1) else none
def rkd (l : List Int) : Option (Int × List Int) := (rn l 0 0).bind fun t => if t.1 ≤ 1023 then some ((t.1 : Int), t.2) else none
abbrev Pgs : Type := List (List Int) × List (List Int) × List Int
def rent (b : Bool) : Nat → List Int → List (List Int) → List (List Int) → List Int → Option (List Int × Pgs)
  | 0, l, ks, vs, ds => some (l, ks, vs, ds)
  | m + 1, l, ks, vs, ds => (rtx 256 l).bind fun t => if b = true then (rtx 512 t.2).bind fun u => rent b m u.2 (ks ++ [t.1]) (vs ++ [u.1]) ds else (rkd t.2).bind fun u => rent b m u.2 (ks ++ [t.1]) vs (ds ++ [u.1])
def rdB (b : Bool) (d : List Int) : Option (List Int × Pgs) := (rn d 0 0).bind fun t => if t.1 ≤ 4096 then (if b = true then rent b t.1 t.2 [] [] [] else (rkd t.2).bind fun u => rent b t.1 u.2 [] [] [u.1]) else none
theorem rn_some {l : List Int} {t : Nat × List Int} (h : rn l 0 0 = some t) : t.2.length < l.length ∧ (∃ p, l = p ++ t.2) ∧ t.1 < 18446744073709551616 := by
  obtain ⟨n, r⟩ := t
  obtain ⟨h1, h2⟩ := rn_shorter l 0 0 n r h
  exact ⟨h1, h2, rn_lt l 0 0 n r (by decide) h⟩
theorem bytes_tail {l r : List Int} (hb : BytesL l) (h : ∃ p, l = p ++ r) : BytesL r := by
  obtain ⟨p, rfl⟩ := h
  exact fun x hx => hb x (List.mem_append_right _ hx)
theorem rtx_some {most : Nat} {l : List Int} {t : List Int × List Int} (hb : BytesL l) (h : rtx most l = some t) : BytesL t.1 ∧ BytesL t.2 ∧ t.1.length ≤ most ∧ t.2.length ≤ l.length ∧ l = textB t.1 ++ t.2 := by
  obtain ⟨⟨n, r⟩, h1, h2⟩ := Option.bind_eq_some_iff.1 h
  obtain ⟨a1, a2, a3⟩ := rn_some h1
  have hr := bytes_tail hb a2
  by_cases g : n ≤ most ∧ n ≤ r.length
  · rw [if_pos g] at h2
    obtain rfl := Option.some.inj h2
    have e : (r.take n).length = n := by rw [List.length_take]; omega
    refine ⟨fun x hx => hr x (List.mem_of_mem_take hx), fun x hx => hr x (List.mem_of_mem_drop hx), by rw [e]; exact g.1, ?_, ?_⟩
    · simp only at a1 ⊢; rw [List.length_drop]; omega
    · unfold textB
      simp only
      rw [e, List.append_assoc, List.take_append_drop, num_rn l n r hb h1]
  · rw [if_neg g] at h2; cases h2
theorem rkd_some {l : List Int} {t : Int × List Int} (hb : BytesL l) (h : rkd l = some t) : BytesL t.2 ∧ 0 ≤ t.1 ∧ t.1 ≤ 1023 ∧ t.2.length ≤ l.length ∧ l = num t.1.toNat ++ t.2 := by
  obtain ⟨⟨n, r⟩, h1, h2⟩ := Option.bind_eq_some_iff.1 h
  obtain ⟨a1, a2, a3⟩ := rn_some h1
  have hr := bytes_tail hb a2
  by_cases g : n ≤ 1023
  · rw [if_pos g] at h2
    obtain rfl := Option.some.inj h2
    exact ⟨hr, Int.natCast_nonneg _, by simp only; omega, by simp only at a1 ⊢; omega, by simp only; rw [Int.toNat_natCast, num_rn l n r hb h1]⟩
  · rw [if_neg g] at h2; cases h2
theorem cread (k : Nat) (l : List Int) (hk : 22 ≤ k) (hb : BytesL l) (hl : l.length ≤ 10000) : codec_ReadNum.f k l = some (readOut (rn l 0 0)) := read_is k l hk hb (by omega)
theorem num_bad (k : Nat) (l : List Int) (most : Int) (hk : 22 ≤ k) (hb : BytesL l) (hl : l.length ≤ 10000) : node_Decode_num.f k l true most = some (0, l, true) := by
  unfold node_Decode_num.f
  rw [cread k l hk hb hl, some_bind]
  split
  · split
    · rfl
    · exact if_pos rfl
  · rfl
theorem num_ok (k : Nat) (l : List Int) (most : Nat) (hk : 22 ≤ k) (hb : BytesL l) (hl : l.length ≤ 10000) : node_Decode_num.f k l false (most : Int) = some (match rn l 0 0 with | some t => if t.1 ≤ most then ((t.1 : Int), t.2, false) else (0, l, true) | none => (0, l, true)) := by
  unfold node_Decode_num.f
  rw [cread k l hk hb hl, some_bind]
  cases h : rn l 0 0 with
  | none => exact if_neg (show ¬ (6 : Int) = 0 by decide)
  | some t =>
    obtain ⟨n, r⟩ := t
    refine (if_pos (show (0 : Int) = 0 from rfl)).trans ?_
    simp only
    show (if (n : Int) > (most : Int) then _ else _) = _
    by_cases g : n ≤ most
    · rw [if_neg (by omega), if_neg (by decide), if_pos g]; rfl
    · rw [if_pos (by omega), if_neg g]
theorem clone_is (l : List Int) (hl : l.length ≤ 10000) : bytes_Clone.f l = some l := by
  unfold bytes_Clone.f
  rw [if_pos (by omega)]
theorem text_bad (k : Nat) (l : List Int) (most : Int) (hk : 22 ≤ k) (hb : BytesL l) (hl : l.length ≤ 10000) : node_Decode_text.f k l true most = some ([], l, true) := by
  unfold node_Decode_text.f
  rw [num_bad k l most hk hb hl, some_bind]
  exact if_pos rfl
theorem rtx_at {most : Nat} {l : List Int} {n : Nat} {r : List Int} (h : rn l 0 0 = some (n, r)) : rtx most l = if n ≤ most ∧ n ≤ r.length then some (r.take n, r.drop n) else none := by unfold rtx; rw [h]; rfl
theorem rtx_no {most : Nat} {l : List Int} (h : rn l 0 0 = none) : rtx most l = none := by unfold rtx; rw [h]; rfl
theorem rkd_at {l : List Int} {n : Nat} {r : List Int} (h : rn l 0 0 = some (n, r)) : rkd l = if n ≤ 1023 then some ((n : Int), r) else none := by unfold rkd; rw [h]; rfl
theorem rkd_no {l : List Int} (h : rn l 0 0 = none) : rkd l = none := by unfold rkd; rw [h]; rfl
theorem num_at {k : Nat} {l : List Int} {most : Nat} {n : Nat} {r : List Int} (hk : 22 ≤ k) (hb : BytesL l) (hl : l.length ≤ 10000) (h : rn l 0 0 = some (n, r)) : node_Decode_num.f k l false (most : Int) = some (if n ≤ most then ((n : Int), r, false) else (0, l, true)) := by rw [num_ok k l most hk hb hl, h]
theorem num_no {k : Nat} {l : List Int} {most : Nat} (hk : 22 ≤ k) (hb : BytesL l) (hl : l.length ≤ 10000) (h : rn l 0 0 = none) : node_Decode_num.f k l false (most : Int) = some (0, l, true) := by rw [num_ok k l most hk hb hl, h]
theorem text_ok (k : Nat) (l : List Int) (most : Nat) (hk : 22 ≤ k) (hb : BytesL l) (hl : l.length ≤ 10000) : (∃ t, rtx most l = some t ∧ node_Decode_text.f k l false (most : Int) = some (t.1, t.2, false)) ∨ (rtx most l = none ∧ ∃ r, node_Decode_text.f k l false (most : Int) = some ([], r, true) ∧ BytesL r ∧ r.length ≤ 10000) := by
  cases h : rn l 0 0 with
  | none =>
    refine .inr ⟨rtx_no h, l, ?_, hb, hl⟩
    unfold node_Decode_text.f
    rw [num_no hk hb hl h, some_bind]
    exact if_pos rfl
  | some t =>
    obtain ⟨n, r⟩ := t
    obtain ⟨a1, a2, a3⟩ := rn_some h
    have hr := bytes_tail hb a2
    simp only at a1 a3 hr
    by_cases g : n ≤ most
    · by_cases g2 : n ≤ r.length
      · refine .inl ⟨_, (rtx_at h).trans (if_pos ⟨g, g2⟩), ?_⟩
        unfold node_Decode_text.f
        rw [num_at hk hb hl h, if_pos g, some_bind]
        simp only
        rw [if_neg (by decide), u64 (by omega) (by omega), if_neg (by omega), if_pos (show (0 : Int) ≤ (n : Int) ∧ (n : Int) ≤ (r.length : Int) from ⟨by omega, by omega⟩), Int.toNat_natCast, clone_is _ (by rw [List.length_take]; omega), some_bind]
      · refine .inr ⟨(rtx_at h).trans (if_neg (fun h => g2 h.2)), r, ?_, hr, by omega⟩
        unfold node_Decode_text.f
        rw [num_at hk hb hl h, if_pos g, some_bind]
        simp only
        rw [if_neg (by decide), u64 (by omega) (by omega), if_pos (by omega)]
    · refine .inr ⟨(rtx_at h).trans (if_neg (fun h => g h.1)), l, ?_, hb, hl⟩
      unfold node_Decode_text.f
      rw [num_at hk hb hl h, if_neg g, some_bind]
      exact if_pos rfl
def gRes : Option (List Int × Pgs) → Option (List Int × Bool × List (List Int) × List (List Int) × List Int) → Prop
  | some t, o => o = some (t.1, false, t.2.1, t.2.2.1, t.2.2.2)
  | none, o => ∃ l ks vs ds, o = some (l, true, ks, vs, ds) ∧ l.length ≤ 10000
theorem g_bad (k : Nat) (b : Bool) (m : Nat) (l : List Int) (ks vs : List (List Int)) (ds : List Int) : node_Decode.g k b m l true ks vs ds = some (l, true, ks, vs, ds) := by
  cases m with
  | zero => rfl
  | succ m => rw [node_Decode.g, if_pos rfl]
theorem g_is (k : Nat) (b : Bool) (hk : 22 ≤ k) : ∀ (m : Nat) (l : List Int) (ks vs : List (List Int)) (ds : List Int), BytesL l → l.length ≤ 10000 → ks.length + m ≤ 10000 → vs.length + m ≤ 10000 → ds.length + m ≤ 10001 →
    gRes (rent b m l ks vs ds) (node_Decode.g k b m l false ks vs ds) := by
  have nf : ¬ (false = true) := by decide
  intro m
  induction m with
  | zero => intro l ks vs ds hb hl h1 h2 h3; exact rfl
  | succ m ih =>
    intro l ks vs ds hb hl h1 h2 h3
    have hcap : ks.length < 1048576 ∧ vs.length < 1048576 ∧ ds.length < 1048576 := ⟨by omega, by omega, by omega⟩
    rw [rent, node_Decode.g, if_neg nf]
    rcases text_ok k l 256 hk hb hl with ⟨t, e1, e2⟩ | ⟨e1, r, e2, e3, e4⟩
    · obtain ⟨a1, a2, a3, a4, a5⟩ := rtx_some hb e1
      have e2 : node_Decode_text.f k l false 256 = some (t.1, t.2, false) := e2
      rw [e1, some_bind, e2, some_bind, if_pos hcap]
      simp only
      cases b
      · rw [if_neg nf, if_neg nf]
        cases h : rn t.2 0 0 with
        | none =>
          have := num_no (most := 1023) hk a2 (by omega) h
          rw [show (1023 : Int) = ((1023 : Nat) : Int) from rfl, this, rkd_no h, Option.bind_none, some_bind]
          simp only
          rw [g_bad]
          exact ⟨_, _, _, _, rfl, by omega⟩
        | some q =>
          obtain ⟨n, r⟩ := q
          obtain ⟨c1, c2, c3⟩ := rn_some h
          have := num_at (most := 1023) hk a2 (by omega) h
          rw [show (1023 : Int) = ((1023 : Nat) : Int) from rfl, this, rkd_at h, some_bind]
          simp only at c1 ⊢
          by_cases g : n ≤ 1023
          · rw [if_pos g, if_pos g, some_bind]
            simp only
            rw [w64 (by omega) (by omega)]
            exact ih r _ vs _ (bytes_tail a2 c2) (by omega) (by rw [List.length_append, List.length_singleton]; omega) (by omega) (by rw [List.length_append, List.length_singleton]; omega)
          · rw [if_neg g, if_neg g, Option.bind_none]
            simp only
            rw [g_bad]
            exact ⟨_, _, _, _, rfl, by omega⟩
      · rw [if_pos (rfl : true = true), if_pos (rfl : true = true)]
        rcases text_ok k t.2 512 hk a2 (by omega) with ⟨u, f1, f2⟩ | ⟨f1, r, f2, f3, f4⟩
        · obtain ⟨b1, b2, b3, b4, b5⟩ := rtx_some a2 f1
          have f2 : node_Decode_text.f k t.2 false 512 = some (u.1, u.2, false) := f2
          rw [f1, some_bind, f2, some_bind]
          exact ih u.2 _ _ ds b2 (by omega) (by rw [List.length_append, List.length_singleton]; omega) (by rw [List.length_append, List.length_singleton]; omega) (by omega)
        · have f2 : node_Decode_text.f k t.2 false 512 = some ([], r, true) := f2
          rw [f1, Option.bind_none, f2, some_bind]
          simp only
          rw [g_bad]
          exact ⟨_, _, _, _, rfl, f4⟩
    · have e2 : node_Decode_text.f k l false 256 = some ([], r, true) := e2
      rw [e1, Option.bind_none, e2, some_bind, if_pos hcap]
      simp only
      cases b
      · rw [if_neg nf, num_bad k r _ hk e3 e4, some_bind]
        simp only
        rw [g_bad]
        exact ⟨_, _, _, _, rfl, e4⟩
      · rw [if_pos (rfl : true = true), text_bad k r _ hk e3 e4, some_bind]
        simp only
        rw [g_bad]
        exact ⟨_, _, _, _, rfl, e4⟩
def allZ (l : List Int) : Prop := ∀ x ∈ l, x = 0
instance (l : List Int) : Decidable (allZ l) := by unfold allZ; infer_instance
theorem right_is : ∀ (n k : Nat) (l : List Int), l.length ≤ n → n < k → l.length ≤ 10000 → ∃ y, bytes_trimRightByte.l0 k l 0 = some y ∧ y.length ≤ 10000 ∧ (allZ y ↔ allZ l) := by
  intro n
  induction n with
  | zero =>
    intro k l hn hk hl
    obtain ⟨k, rfl⟩ : ∃ q, k = q + 1 := ⟨k - 1, by omega⟩
    rw [bytes_trimRightByte.l0, if_neg (by omega)]
    exact ⟨l, rfl, hl, Iff.rfl⟩
  | succ n ih =>
    intro k l hn hk hl
    obtain ⟨k, rfl⟩ : ∃ q, k = q + 1 := ⟨k - 1, by omega⟩
    rw [bytes_trimRightByte.l0]
    by_cases h0 : (l.length : Int) > 0
    · rw [if_pos h0, w64 (by omega) (by omega), if_pos (by omega), if_pos (by omega), show (l.length : Int) - 1 = ((l.length - 1 : Nat) : Int) by omega, rd_at l (l.length - 1) (by omega)]
      by_cases hz : l[l.length - 1]'(by omega) = 0
      · rw [if_pos hz, if_pos (by omega), Int.toNat_natCast]
        obtain ⟨y, e1, e2, e3⟩ := ih k (l.take (l.length - 1)) (by rw [List.length_take]; omega) (by omega) (by rw [List.length_take]; omega)
        refine ⟨y, e1, e2, e3.trans ?_⟩
        have e : l = l.take (l.length - 1) ++ [l[l.length - 1]'(by omega)] := by
          have := List.take_append_drop (l.length - 1) l
          rw [List.drop_eq_getElem_cons (by omega), List.drop_eq_nil_of_le (by omega)] at this
          exact this.symm
        constructor
        · intro h x hx
          rw [e] at hx
          rcases List.mem_append.1 hx with hx | hx
          · exact h x hx
          · rw [List.mem_singleton.1 hx]; exact hz
        · exact fun h x hx => h x (List.mem_of_mem_take hx)
      · rw [if_neg hz]; exact ⟨l, rfl, hl, Iff.rfl⟩
    · rw [if_neg h0]; exact ⟨l, rfl, hl, Iff.rfl⟩
theorem left_is : ∀ (n k : Nat) (l : List Int), l.length ≤ n → n < k → ∃ y, bytes_trimLeftByte.l0 k l 0 = some y ∧ (y.length = 0 ↔ allZ l) := by
  intro n
  induction n with
  | zero =>
    intro k l hn hk
    obtain ⟨k, rfl⟩ : ∃ q, k = q + 1 := ⟨k - 1, by omega⟩
    obtain rfl : l = [] := List.length_eq_zero_iff.1 (by omega)
    rw [bytes_trimLeftByte.l0, if_neg (by decide), if_pos (by rfl)]
    exact ⟨[], rfl, by simp [allZ]⟩
  | succ n ih =>
    intro k l hn hk
    obtain ⟨k, rfl⟩ : ∃ q, k = q + 1 := ⟨k - 1, by omega⟩
    rw [bytes_trimLeftByte.l0]
    cases l with
    | nil => rw [if_neg (by decide), if_pos (by rfl)]; exact ⟨[], rfl, by simp [allZ]⟩
    | cons x d =>
      rw [List.length_cons] at hn
      rw [if_pos (by simp), if_pos (by simp), show rd (x :: d) 0 = x from rfl]
      by_cases hz : x = 0
      · rw [if_pos hz, if_pos (by rw [List.length_cons]; omega), show (x :: d).drop 1 = d from rfl]
        obtain ⟨y, e1, e2⟩ := ih k d (by omega) (by omega)
        refine ⟨y, e1, e2.trans ?_⟩
        unfold allZ
        constructor
        · intro h z hz2
          rcases List.mem_cons.1 hz2 with rfl | h2
          · exact hz
          · exact h z h2
        · exact fun h z hz2 => h z (List.mem_cons_of_mem _ hz2)
      · rw [if_neg hz, if_neg (by simp; omega)]
        refine ⟨_, rfl, ?_⟩
        constructor
        · intro h; simp at h
        · exact fun h => absurd (h x (by simp)) hz
theorem trim_is (k : Nat) (l : List Int) (hk : 10010 ≤ k) (hl : l.length ≤ 10000) : ∃ y, node_Decode_trim.f k l = some y ∧ (0 < y.length ↔ ¬ allZ l) := by
  unfold node_Decode_trim.f
  by_cases h : l.length = 0
  · rw [if_pos h]
    obtain rfl := List.length_eq_zero_iff.1 h
    exact ⟨[], rfl, by simp [allZ]⟩
  · rw [if_neg h]
    obtain ⟨y, e1, e2, e3⟩ := right_is l.length k l (Nat.le_refl _) (by omega) hl
    unfold bytes_trimRightByte.f
    rw [e1, some_bind]
    obtain ⟨z, f1, f2⟩ := left_is y.length k y (Nat.le_refl _) (by omega)
    unfold bytes_trimLeftByte.f
    refine ⟨z, f1, ?_⟩
    rw [← e3, ← f2]
    omega
def no6 : Bool × List (List Int) × List (List Int) × List Int × Int := (false, [], [], [], 6)
def fin (b : Bool) : Option (List Int × Pgs) → Bool × List (List Int) × List (List Int) × List Int × Int
  | none => no6
  | some t => if allZ t.1 ∧ chk b t.2.1 t.2.2.1 t.2.2.2 = 0 then (b, t.2.1, t.2.2.1, t.2.2.2, 0) else no6
def rdPg : List Int → Bool × List (List Int) × List (List Int) × List Int × Int
  | [] => no6
  | x :: d => if x = 1 then fin true (rdB true d) else if x = 2 then fin false (rdB false d) else no6
def decOf (l : List Int) : Bool × List (List Int) × List (List Int) × List Int × Int := if l.length = 4096 ∧ sealOf (l.take 4092) = l then rdPg (l.take 4092) else no6
theorem rent_bd (b : Bool) : ∀ (m : Nat) (l : List Int) (ks vs : List (List Int)) (ds : List Int) (t : List Int × Pgs), BytesL l → l.length ≤ 10000 → ks.length + m ≤ 10000 → vs.length + m ≤ 10000 → ds.length + m ≤ 10001 → (∀ x ∈ ks, x.length ≤ 1048576 ∧ BytesL x) → (∀ x ∈ vs, x.length ≤ 1048576 ∧ BytesL x) → rent b m l ks vs ds = some t → Bd t.2.1 t.2.2.1 t.2.2.2 ∧ t.1.length ≤ 10000 ∧ BytesL t.1
  | 0, l, ks, vs, ds, t, hb, hl, h1, h2, h3, hk, hv, h => by
    obtain rfl := Option.some.inj h
    exact ⟨⟨by simp only; omega, by simp only; omega, by simp only; omega, hk, hv⟩, hl, hb⟩
  | m + 1, l, ks, vs, ds, t, hb, hl, h1, h2, h3, hk, hv, h => by
    rw [rent] at h
    obtain ⟨q, e1, h⟩ := Option.bind_eq_some_iff.1 h
    obtain ⟨a1, a2, a3, a4, a5⟩ := rtx_some hb e1
    have hk2 : ∀ x ∈ ks ++ [q.1], x.length ≤ 1048576 ∧ BytesL x := fun x hx => by
      rcases List.mem_append.1 hx with hx | hx
      · exact hk x hx
      · rw [List.mem_singleton.1 hx]; exact ⟨by omega, a1⟩
    cases b
    · rw [if_neg (by decide)] at h
      obtain ⟨u, e2, h⟩ := Option.bind_eq_some_iff.1 h
      obtain ⟨b1, b2, b3, b4, b5⟩ := rkd_some a2 e2
      exact rent_bd false m _ _ _ _ t b1 (by omega) (by rw [List.length_append, List.length_singleton]; omega) (by omega) (by rw [List.length_append, List.length_singleton]; omega) hk2 hv h
    · rw [if_pos rfl] at h
      obtain ⟨u, e2, h⟩ := Option.bind_eq_some_iff.1 h
      obtain ⟨b1, b2, b3, b4, b5⟩ := rtx_some a2 e2
      exact rent_bd true m _ _ _ _ t b2 (by omega) (by rw [List.length_append, List.length_singleton]; omega) (by rw [List.length_append, List.length_singleton]; omega) (by omega) hk2 (fun x hx => by
        rcases List.mem_append.1 hx with hx | hx
        · exact hv x hx
        · rw [List.mem_singleton.1 hx]; exact ⟨by omega, b1⟩) h
theorem rdB_bd {b : Bool} {d : List Int} {t : List Int × Pgs} (hb : BytesL d) (hl : d.length ≤ 5000) (h : rdB b d = some t) : Bd t.2.1 t.2.2.1 t.2.2.2 ∧ t.1.length ≤ 10000 ∧ BytesL t.1 := by
  unfold rdB at h
  obtain ⟨⟨n, r⟩, h1, h⟩ := Option.bind_eq_some_iff.1 h
  obtain ⟨a1, a2, a3⟩ := rn_some h1
  have hr := bytes_tail hb a2
  simp only at a1 hr h
  by_cases g : n ≤ 4096
  · rw [if_pos g] at h
    cases b
    · rw [if_neg (by decide)] at h
      obtain ⟨u, e2, h⟩ := Option.bind_eq_some_iff.1 h
      obtain ⟨b1, b2, b3, b4, b5⟩ := rkd_some hr e2
      exact rent_bd false n _ _ _ _ t b1 (by omega) (by simp; omega) (by simp; omega) (by simp; omega) (by simp) (by simp) h
    · rw [if_pos rfl] at h
      exact rent_bd true n _ _ _ _ t hr (by omega) (by simp; omega) (by simp; omega) (by simp; omega) (by simp) (by simp) h
  · rw [if_neg g] at h; cases h
theorem e_is (k : Nat) (b : Bool) (hk : 4000000 ≤ k) (o : Option (List Int × Pgs)) (ho : ∀ t, o = some t → Bd t.2.1 t.2.2.1 t.2.2.2 ∧ t.1.length ≤ 10000) (p : Option (List Int × Bool × List (List Int) × List (List Int) × List Int)) (h : gRes o p) : p.bind (node_Decode.e k b) = some (fin b o) := by
  cases o with
  | none =>
    obtain ⟨l, ks, vs, ds, rfl, hl⟩ := h
    obtain ⟨y, e1, _⟩ := trim_is k l (by omega) hl
    rw [some_bind]
    unfold node_Decode.e
    simp only
    rw [e1, some_bind, if_pos trivial]; rfl
  | some t =>
    obtain rfl : p = _ := h
    obtain ⟨hb, hl⟩ := ho t rfl
    obtain ⟨y, e1, e2⟩ := trim_is k t.1 (by omega) hl
    rw [some_bind]
    unfold node_Decode.e fin
    simp only
    rw [e1, some_bind, if_neg (by decide)]
    by_cases g : 0 < y.length
    · rw [if_pos g, if_neg (fun h => (e2.1 g) h.1)]; rfl
    · have hz : allZ t.1 := Classical.not_not.1 (fun h => g (e2.2 h))
      rw [if_neg g, hb.check b hk, some_bind]
      by_cases hc : chk b t.2.1 t.2.2.1 t.2.2.2 = 0
      · rw [if_pos hc, if_pos ⟨hz, hc⟩]
      · rw [if_neg hc, if_neg (fun h => hc h.2)]; rfl
theorem h_is (k : Nat) (b : Bool) (x : Int) (d : List Int) (hk : 4000000 ≤ k) (hb : BytesL d) (hl : d.length ≤ 5000) : node_Decode.h k b (x :: d) = some (fin b (rdB b d)) := by
  have bd := fun t h => (rdB_bd (b := b) (t := t) hb hl h)
  unfold node_Decode.h
  rw [show (x :: d).drop 1 = d from rfl, show (4096 : Int) = ((4096 : Nat) : Int) from rfl, num_ok k d 4096 (by omega) hb (by omega), some_bind]
  unfold rdB at bd ⊢
  cases h : rn d 0 0 with
  | none =>
    rw [Option.bind_none]
    simp only
    rw [if_pos ⟨by omega, by omega⟩, show (0 : Int).toNat = 0 from rfl]
    have hg := fun l ks vs ds (h0 : l.length ≤ 10000) => e_is k b hk none (fun t h => by cases h) (some (l, true, ks, vs, ds)) ⟨l, ks, vs, ds, rfl, h0⟩
    cases b
    · rw [if_neg (by decide), num_bad k d _ (by omega) hb (by omega), some_bind]
      simp only
      rw [g_bad]
      exact hg _ _ _ _ (by omega)
    · rw [if_pos rfl, g_bad]
      exact hg _ _ _ _ (by omega)
  | some q =>
    obtain ⟨n, r⟩ := q
    obtain ⟨a1, a2, a3⟩ := rn_some h
    have hr := bytes_tail hb a2
    rw [h, some_bind] at bd
    rw [some_bind]
    simp only at a1 hr bd ⊢
    have hg := fun l ks vs ds (h0 : l.length ≤ 10000) => e_is k b hk none (fun t h => by cases h) (some (l, true, ks, vs, ds)) ⟨l, ks, vs, ds, rfl, h0⟩
    by_cases g : n ≤ 4096
    · rw [if_pos g] at bd
      rw [if_pos g, if_pos g]
      simp only
      rw [if_pos ⟨by omega, by omega⟩, Int.toNat_natCast]
      cases b
      · rw [if_neg (by decide)] at bd
        rw [if_neg (by decide), if_neg (by decide), show (1023 : Int) = ((1023 : Nat) : Int) from rfl, num_ok k r 1023 (by omega) hr (by omega), some_bind]
        unfold rkd at bd ⊢
        cases h2 : rn r 0 0 with
        | none =>
          rw [Option.bind_none]
          simp only
          rw [Option.bind_none, g_bad]
          exact hg _ _ _ _ (by omega)
        | some q2 =>
          obtain ⟨m, r2⟩ := q2
          obtain ⟨c1, c2, c3⟩ := rn_some h2
          have hr2 := bytes_tail hr c2
          rw [h2, some_bind] at bd
          rw [some_bind]
          simp only at c1 hr2 bd ⊢
          by_cases g2 : m ≤ 1023
          · rw [if_pos g2, some_bind] at bd
            rw [if_pos g2, if_pos g2, some_bind]
            simp only at bd ⊢
            rw [w64 (by omega) (by omega)]
            exact e_is k false hk _ (fun t h => ⟨(bd t h).1, (bd t h).2.1⟩) _ (g_is k false (by omega) n r2 _ _ _ hr2 (by omega) (by simp; omega) (by simp; omega) (by simp; omega))
          · rw [if_neg g2, if_neg g2, Option.bind_none]
            simp only
            rw [g_bad]
            exact hg _ _ _ _ (by omega)
      · rw [if_pos rfl] at bd
        rw [if_pos rfl, if_pos rfl]
        exact e_is k true hk _ (fun t h => ⟨(bd t h).1, (bd t h).2.1⟩) _ (g_is k true (by omega) n r _ _ _ hr (by omega) (by simp; omega) (by simp; omega) (by simp; omega))
    · rw [if_neg g, if_neg g]
      simp only
      rw [if_pos ⟨by omega, by omega⟩, show (0 : Int).toNat = 0 from rfl]
      cases b
      · rw [if_neg (by decide), num_bad k d _ (by omega) hb (by omega), some_bind]
        simp only
        rw [g_bad]
        exact hg _ _ _ _ (by omega)
      · rw [if_pos rfl, g_bad]
        exact hg _ _ _ _ (by omega)
theorem ndec_is (k : Nat) (l : List Int) (hk : 4000000 ≤ k) (hb : BytesL l) (hl : l.length ≤ 1048576) : node_Decode.f k l = some (decOf l) := by
  unfold node_Decode.f decOf
  by_cases h : l.length = 4096
  · have ho : openOf l = if sealOf (l.take 4092) = l then (l.take 4092, 0) else ([], 6) := by
      unfold openOf; rw [if_neg (by omega), h]
    rw [if_pos h, open_is l hb (by omega), some_bind, ho]
    by_cases hs : sealOf (l.take 4092) = l
    · rw [if_pos hs, if_pos (show l.length = 4096 ∧ sealOf (l.take 4092) = l from ⟨h, hs⟩)]
      simp only
      rw [if_pos trivial]
      cases hd : l.take 4092 with
      | nil => have := congrArg List.length hd; rw [List.length_take, List.length_nil] at this; omega
      | cons x d =>
        have hlen := congrArg List.length hd
        rw [List.length_take, List.length_cons] at hlen
        have hbd : BytesL d := fun y hy => hb y (List.mem_of_mem_take (by rw [hd]; exact List.mem_cons_of_mem _ hy))
        rw [if_pos (by simp), show rd (x :: d) 0 = x from rfl, rdPg, h_is k true x d hk hbd (by omega), h_is k false x d hk hbd (by omega)]
        split
        · rfl
        · split <;> rfl
    · rw [if_neg hs, if_neg (show ¬ (l.length = 4096 ∧ sealOf (l.take 4092) = l) from fun h => hs h.2)]
      simp only
      rw [if_neg (by decide)]; rfl
  · rw [if_neg h, if_neg (fun g => h g.1)]; rfl
end Go.Proofs.YtcbgichkeecgiaaDoor.Pure
set_option linter.unusedVariables false
set_option linter.unusedSimpArgs false
namespace Go.Proofs.YtcbgichkeecgiaaDoor.Pure
open Go.RowKit Go.Proofs.YtcbgichkeecgiaaDoor.Print Go.Proofs.YtcbgichkeecgiaaDoorW.PrintWords Go.Proofs.YtcbgichkeecgiaaDoorW.PrintLast Go.Proofs.YtcbgichkeecgiaaDoorW.PrintMore
theorem rent_back (b : Bool) : ∀ (m : Nat) (l : List Int) (ks vs : List (List Int)) (ds : List Int) (t : List Int × Pgs), BytesL l → rent b m l ks vs ds = some t →
    ∃ ks' vs' ds', t.2.1 = ks ++ ks' ∧ t.2.2.1 = vs ++ vs' ∧ t.2.2.2 = ds ++ ds' ∧ ks'.length = m ∧ l = (if b = true then leafT ks' vs' else innT ks' ds') ++ t.1
  | 0, l, ks, vs, ds, t, hb, h => by
    obtain rfl := Option.some.inj h
    exact ⟨[], [], [], by simp, by simp, by simp, rfl, by cases b <;> rfl⟩
  | m + 1, l, ks, vs, ds, t, hb, h => by
    rw [rent] at h
    obtain ⟨q, e1, h⟩ := Option.bind_eq_some_iff.1 h
    obtain ⟨a1, a2, a3, a4, a5⟩ := rtx_some hb e1
    cases b
    · rw [if_neg (by decide)] at h
      obtain ⟨u, e2, h⟩ := Option.bind_eq_some_iff.1 h
      obtain ⟨b1, b2, b3, b4, b5⟩ := rkd_some a2 e2
      obtain ⟨ks', vs', ds', f1, f2, f3, f4, f5⟩ := rent_back false m _ _ _ _ t b1 h
      rw [if_neg (by decide)] at f5
      refine ⟨q.1 :: ks', vs', u.1 :: ds', by rw [f1, List.append_assoc]; rfl, f2, by rw [f3, List.append_assoc]; rfl, by rw [List.length_cons, f4], ?_⟩
      rw [if_neg (by decide), innT, a5, b5, f5]
      simp only [List.append_assoc]
    · rw [if_pos rfl] at h
      obtain ⟨u, e2, h⟩ := Option.bind_eq_some_iff.1 h
      obtain ⟨b1, b2, b3, b4, b5⟩ := rtx_some a2 e2
      obtain ⟨ks', vs', ds', f1, f2, f3, f4, f5⟩ := rent_back true m _ _ _ _ t b2 h
      rw [if_pos rfl] at f5
      refine ⟨q.1 :: ks', u.1 :: vs', ds', by rw [f1, List.append_assoc]; rfl, by rw [f2, List.append_assoc]; rfl, f3, by rw [List.length_cons, f4], ?_⟩
      rw [if_pos rfl, leafT, a5, b5, f5]
      simp only [List.append_assoc]
def mark (b : Bool) : Int := if b = true then 1 else 2
theorem rdB_back {b : Bool} {d : List Int} {t : List Int × Pgs} (hb : BytesL d) (h : rdB b d = some t) : mark b :: d = pageT b t.2.1 t.2.2.1 t.2.2.2 ++ t.1 := by
  unfold rdB at h
  obtain ⟨⟨n, r⟩, h1, h⟩ := Option.bind_eq_some_iff.1 h
  obtain ⟨a1, a2, a3⟩ := rn_some h1
  have hr := bytes_tail hb a2
  have hd := num_rn d n r hb h1
  simp only at hr h
  by_cases g : n ≤ 4096
  · rw [if_pos g] at h
    unfold mark pageT
    cases b
    · rw [if_neg (by decide)] at h
      obtain ⟨u, e2, h⟩ := Option.bind_eq_some_iff.1 h
      obtain ⟨b1, b2, b3, b4, b5⟩ := rkd_some hr e2
      obtain ⟨ks', vs', ds', f1, f2, f3, f4, f5⟩ := rent_back false n _ _ _ _ t b1 h
      rw [if_neg (by decide)] at f5
      rw [if_neg (by decide), if_neg (by decide), f1, f3, List.nil_append, f4]
      show 2 :: d = 2 :: (num n ++ (num u.1.toNat ++ innT ks' ds')) ++ t.1
      rw [← hd, b5, f5]
      simp only [List.append_assoc, List.cons_append]
    · rw [if_pos rfl] at h
      obtain ⟨ks', vs', ds', f1, f2, f3, f4, f5⟩ := rent_back true n _ _ _ _ t hr h
      rw [if_pos rfl] at f5
      rw [if_pos rfl, if_pos rfl, f1, f2, List.nil_append, List.nil_append, f4, ← hd, f5]
      simp only [List.append_assoc, List.cons_append]
  · rw [if_neg g] at h; cases h
theorem allZ_rep (l : List Int) (h : allZ l) : l = List.replicate l.length 0 := List.eq_replicate_iff.2 ⟨rfl, h⟩
theorem pad_bytes {t : List Int} (h : BytesL t) : BytesL (padT t) := fun x hx => by
  unfold padT at hx
  rcases List.mem_append.1 hx with hx | hx
  · exact h x hx
  · rw [(List.mem_replicate.1 hx).2]; omega
end Go.Proofs.YtcbgichkeecgiaaDoor.Pure
set_option linter.unusedVariables false
set_option linter.unusedSimpArgs false
namespace Go.Proofs.YtcbgichkeecgiaaDoor.Pure
open Go.RowKit Go.Proofs.YtcbgichkeecgiaaDoor.Print Go.Proofs.YtcbgichkeecgiaaDoorW.PrintWords Go.Proofs.YtcbgichkeecgiaaDoorW.PrintLast Go.Proofs.YtcbgichkeecgiaaDoorW.PrintMore
theorem bd_of {b : Bool} {ks vs : List (List Int)} {ds : List Int} (h : True ∧ (ks.length ≤ 1048576 ∧ ∀ y5 ∈ ks, (y5.length ≤ 1048576 ∧ ∀ y2 ∈ y5, (Lit.int .u8 y2).wf = true)) ∧ (vs.length ≤ 1048576 ∧ ∀ y5 ∈ vs, (y5.length ≤ 1048576 ∧ ∀ y2 ∈ y5, (Lit.int .u8 y2).wf = true)) ∧ (ds.length ≤ 1048576 ∧ ∀ y5 ∈ ds, (Lit.int .i64 y5).wf = true)) : Bd ks vs ds :=
  ⟨h.2.1.1, h.2.2.1.1, h.2.2.2.1, fun x hx => ⟨(h.2.1.2 x hx).1, bytesL_wf (h.2.1.2 x hx).2⟩, fun x hx => ⟨(h.2.2.1.2 x hx).1, bytesL_wf (h.2.2.1.2 x hx).2⟩⟩
theorem rtx_text (most : Nat) (s r : List Int) (hs : s.length ≤ most) (hm : most ≤ 1000) : rtx most (textB s ++ r) = some (s, r) := by
  unfold textB
  rw [List.append_assoc, rtx_at (rn_num s.length (s ++ r) (by omega)), if_pos ⟨hs, by rw [List.length_append]; omega⟩, List.take_left' rfl, List.drop_left' rfl]
theorem rkd_num (d : Int) (r : List Int) (h0 : 0 ≤ d) (h1 : d ≤ 1023) : rkd (num d.toNat ++ r) = some (d, r) := by
  rw [rkd_at (rn_num d.toNat r (by omega)), if_pos (by omega)]
  congr 2
  omega
theorem rent_leaf : ∀ (ks vs : List (List Int)) (r : List Int) (az cs : List (List Int)) (ds : List Int), vs.length = ks.length → (∀ x ∈ ks, x.length ≤ 256) → (∀ x ∈ vs, x.length ≤ 512) → rent true ks.length (leafT ks vs ++ r) az cs ds = some (r, az ++ ks, cs ++ vs, ds)
  | [], [], r, az, cs, ds, _, _, _ => by rw [leafT, List.nil_append, List.append_nil, List.append_nil]; rfl
  | [], _ :: _, r, az, cs, ds, h, _, _ => by simp at h
  | _ :: _, [], r, az, cs, ds, h, _, _ => by simp at h
  | k :: ks, v :: vs, r, az, cs, ds, h, h1, h2 => by
    have ih := rent_leaf ks vs r (az ++ [k]) (cs ++ [v]) ds (by simpa using h) (fun x hx => h1 x (by simp [hx])) (fun x hx => h2 x (by simp [hx]))
    rw [leafT, List.length_cons, rent]
    simp only [List.append_assoc]
    rw [rtx_text 256 k _ (h1 k (by simp)) (by omega), some_bind, if_pos trivial, rtx_text 512 v _ (h2 v (by simp)) (by omega), some_bind, ih]
    simp only [List.append_assoc, List.cons_append, List.nil_append]
theorem rent_inn : ∀ (ks : List (List Int)) (ds r : List Int) (az cs : List (List Int)) (es : List Int), ds.length = ks.length → (∀ x ∈ ks, x.length ≤ 256) → (∀ x ∈ ds, 0 ≤ x ∧ x ≤ 1023) → rent false ks.length (innT ks ds ++ r) az cs es = some (r, az ++ ks, cs, es ++ ds)
  | [], [], r, az, cs, es, _, _, _ => by rw [innT, List.nil_append, List.append_nil, List.append_nil]; rfl
  | [], _ :: _, r, az, cs, es, h, _, _ => by simp at h
  | _ :: _, [], r, az, cs, es, h, _, _ => by simp at h
  | k :: ks, d :: ds, r, az, cs, es, h, h1, h2 => by
    have ih := rent_inn ks ds r (az ++ [k]) cs (es ++ [d]) (by simpa using h) (fun x hx => h1 x (by simp [hx])) (fun x hx => h2 x (by simp [hx]))
    have hd := h2 d (by simp)
    rw [innT, List.length_cons, rent]
    simp only [List.append_assoc]
    rw [rtx_text 256 k _ (h1 k (by simp)) (by omega), some_bind, if_neg (by decide), rkd_num d _ hd.1 hd.2, some_bind, ih]
    simp only [List.append_assoc, List.cons_append, List.nil_append]
theorem okP_kids2 {b : Bool} {ks vs : List (List Int)} {ds : List Int} (h : okP b ks vs ds = true) : ∀ x ∈ ds, 0 ≤ x ∧ x ≤ 1023 := by
  intro x hx
  unfold okP at h
  simp only [Bool.and_eq_true] at h
  have h3 := h.2.2.1
  simp only [Bool.not_eq_true', List.any_eq_false, decide_eq_true_eq] at h3
  have := h3 x hx
  omega
theorem dec_enc {ks vs : List (List Int)} {ds : List Int} (b : Bool) (hb : Bd ks vs ds) (hc : chk b ks vs ds = 0) : decOf (sealOf (padT (pageT b ks vs ds))) = (b, ks, vs, ds, 0) := by
  have hg := chk_good hc
  have hl := pageT_len b hb hg.ok
  have hs := hg.small
  have hk := hg.klen
  have hv := hg.vlen
  have lens := hg.lens
  have hL := padT_len (pageT b ks vs ds) (by omega)
  have e : (sealOf (padT (pageT b ks vs ds))).take 4092 = padT (pageT b ks vs ds) := by
    conv => lhs; rw [sealOf]
    rw [List.take_left' hL]
  unfold decOf
  rw [e, if_pos ⟨by rw [sealOf_length, hL], rfl⟩]
  have hz : allZ (List.replicate (4092 - (pageT b ks vs ds).length) 0) := fun x hx => (List.mem_replicate.1 hx).2
  have key : ∀ z : List Int, rdB b ((pageT b ks vs ds).tail ++ z) = some (z, ks, vs, ds) ∧ pageT b ks vs ds = mark b :: (pageT b ks vs ds).tail := by
    intro z
    unfold pageT rdB mark
    cases b
    · obtain ⟨a1, a2, rfl⟩ := shape_inner hg.shape
      rw [if_neg (by decide)]
      cases ds with
      | nil => simp at a2
      | cons d ds =>
        have hd := okP_kids2 hg.ok
        have h0 := hd d (by simp)
        rw [List.headD_cons, List.tail_cons, List.tail_cons, List.append_assoc, rn_num _ _ (by omega), some_bind]
        simp only
        rw [if_pos lens.1, if_neg (by decide), List.append_assoc, rkd_num d _ h0.1 h0.2, some_bind]
        refine ⟨?_, by rw [if_neg (by decide)]⟩
        have := rent_inn ks ds z [] [] [d] (by simpa using a2) hk (fun x hx => hd x (by simp [hx]))
        simpa using this
    · obtain ⟨a1, rfl⟩ := shape_leaf hg.shape
      rw [if_pos rfl, List.tail_cons, List.append_assoc, rn_num _ _ (by omega), some_bind]
      simp only
      rw [if_pos lens.1, if_pos trivial]
      refine ⟨?_, by first | rw [if_pos rfl] | rw [if_pos trivial]⟩
      have := rent_leaf ks vs z [] [] [] a1 hk hv
      simpa using this
  obtain ⟨k1, k2⟩ := key (List.replicate (4092 - (pageT b ks vs ds).length) 0)
  have fe : fin b (rdB b ((pageT b ks vs ds).tail ++ List.replicate (4092 - (pageT b ks vs ds).length) 0)) = (b, ks, vs, ds, 0) := by
    rw [k1]
    unfold fin
    exact if_pos ⟨hz, hc⟩
  have pe : padT (pageT b ks vs ds) = mark b :: ((pageT b ks vs ds).tail ++ List.replicate (4092 - (pageT b ks vs ds).length) 0) := by
    conv => lhs; unfold padT
    rw [k2]
    simp only [List.cons_append, List.tail_cons]
  rw [pe, rdPg]
  cases b
  · rw [if_neg (by decide), if_pos (by decide), fe]
  · rw [if_pos (by decide), fe]
theorem page_bytes {ks vs : List (List Int)} {ds : List Int} (b : Bool) (hb : Bd ks vs ds) (ho : okP b ks vs ds = true) : BytesL (pageT b ks vs ds) := by
  have hx := okP_kids ho
  have tb : ∀ s : List Int, s.length ≤ 1048576 → BytesL s → BytesL (textB s) := fun s h1 h2 => bytesL_append (num_bytes _ (by omega)) h2
  have leaf : ∀ (ks vs : List (List Int)), (∀ x ∈ ks, x.length ≤ 1048576 ∧ BytesL x) → (∀ x ∈ vs, x.length ≤ 1048576 ∧ BytesL x) → BytesL (leafT ks vs) := by
    intro ks
    induction ks with
    | nil => intro vs _ _ x hx; simp [leafT] at hx
    | cons k ks ih =>
      intro vs h1 h2
      cases vs with
      | nil => intro x hx; simp [leafT] at hx
      | cons v vs =>
        have a1 := h1 k (by simp)
        have a2 := h2 v (by simp)
        exact bytesL_append (tb k a1.1 a1.2) (bytesL_append (tb v a2.1 a2.2) (ih vs (fun x hx => h1 x (by simp [hx])) (fun x hx => h2 x (by simp [hx]))))
  have inn : ∀ (ks : List (List Int)) (ds : List Int), (∀ x ∈ ks, x.length ≤ 1048576 ∧ BytesL x) → (∀ x ∈ ds, 0 ≤ x ∧ x < 4611686018427387904) → BytesL (innT ks ds) := by
    intro ks
    induction ks with
    | nil => intro ds _ _ x hx; simp [innT] at hx
    | cons k ks ih =>
      intro ds h1 h2
      cases ds with
      | nil => intro x hx; simp [innT] at hx
      | cons d ds =>
        have a1 := h1 k (by simp)
        have a2 := h2 d (by simp)
        exact bytesL_append (tb k a1.1 a1.2) (bytesL_append (num_bytes _ (by omega)) (ih ds (fun x hx => h1 x (by simp [hx])) (fun x hx => h2 x (by simp [hx]))))
  have hkl := hb.kl
  unfold pageT
  cases b
  · rw [if_neg (by decide)]
    have h0 : 0 ≤ ds.headD 0 ∧ ds.headD 0 < 4611686018427387904 := by
      cases ds with
      | nil => exact ⟨by decide, by decide⟩
      | cons d ds => exact hx d (by simp)
    have := bytesL_append (num_bytes ks.length (by omega)) (bytesL_append (num_bytes (ds.headD 0).toNat (by omega)) (inn ks ds.tail hb.kb (fun x h => hx x (List.mem_of_mem_tail h))))
    intro x h
    rcases List.mem_cons.1 h with rfl | h
    · omega
    · exact this x h
  · rw [if_pos rfl]
    have := bytesL_append (num_bytes ks.length (by omega)) (leaf ks vs hb.kb hb.vb)
    intro x h
    rcases List.mem_cons.1 h with rfl | h
    · omega
    · exact this x h
theorem dec_broken {l : List Int} (h : openOf l = ([], 6)) : decOf l = no6 := by
  unfold decOf
  by_cases g : l.length = 4096 ∧ sealOf (l.take 4092) = l
  · exfalso
    unfold openOf at h
    rw [if_neg (by omega), show l.length - 4 = 4092 by omega, if_pos g.2] at h
    have := congrArg Prod.snd h
    simp at this
  · rw [if_neg g]
theorem dec_ok {l : List Int} (hb : BytesL l) (h : (decOf l).2.2.2.2 = 0) : Bd (decOf l).2.1 (decOf l).2.2.1 (decOf l).2.2.2.1 ∧ encOf (decOf l).1 (decOf l).2.1 (decOf l).2.2.1 (decOf l).2.2.2.1 = (l, 0) := by
  have no : ¬ (no6.2.2.2.2 = 0) := by decide
  unfold decOf at h ⊢
  by_cases g : l.length = 4096 ∧ sealOf (l.take 4092) = l
  · rw [if_pos g] at h ⊢
    cases hd : l.take 4092 with
    | nil => rw [hd] at h; exact absurd h no
    | cons x d =>
      rw [hd] at h
      have hlen := congrArg List.length hd
      rw [List.length_take, List.length_cons] at hlen
      have hbd : BytesL d := fun y hy => hb y (List.mem_of_mem_take (by rw [hd]; exact List.mem_cons_of_mem _ hy))
      have main : ∀ b : Bool, x = mark b → (fin b (rdB b d)).2.2.2.2 = 0 → Bd (fin b (rdB b d)).2.1 (fin b (rdB b d)).2.2.1 (fin b (rdB b d)).2.2.2.1 ∧ encOf (fin b (rdB b d)).1 (fin b (rdB b d)).2.1 (fin b (rdB b d)).2.2.1 (fin b (rdB b d)).2.2.2.1 = (l, 0) := by
        intro b hx h
        cases hr : rdB b d with
        | none => rw [hr] at h; exact absurd h no
        | some t =>
          rw [hr] at h
          have hp := rdB_back hbd hr
          obtain ⟨bd, h2, h3⟩ := rdB_bd hbd (by omega) hr
          unfold fin at h ⊢
          by_cases hq : allZ t.1 ∧ chk b t.2.1 t.2.2.1 t.2.2.2 = 0
          · simp only
            rw [if_pos hq]
            refine ⟨bd, ?_⟩
            have hg := chk_good hq.2
            have hpl := pageT_len b bd hg.ok
            have hsm := hg.small
            unfold encOf
            simp only
            rw [if_pos hq.2]
            have hlp := congrArg List.length hp
            rw [List.length_append, List.length_cons] at hlp
            have hz := allZ_rep _ hq.1
            have : padT (pageT b t.2.1 t.2.2.1 t.2.2.2) = l.take 4092 := by
              rw [hd, hx, hp]; unfold padT
              congr 1
              rw [hz]
              congr 1
              omega
            rw [this, g.2]
          · simp only at h
            rw [if_neg hq] at h; exact absurd h no
      rw [rdPg] at h ⊢
      by_cases h1 : x = 1
      · rw [if_pos h1] at h ⊢; exact main true h1 h
      · rw [if_neg h1] at h ⊢
        by_cases h2 : x = 2
        · rw [if_pos h2] at h ⊢; exact main false h2 h
        · rw [if_neg h2] at h; exact absurd h no
  · rw [if_neg g] at h; exact absurd h no
theorem dec_bad {l : List Int} (h : ¬ (decOf l).2.2.2.2 = 0) : decOf l = no6 := by
  have fb : ∀ (b : Bool) (o : Option (List Int × Pgs)), ¬ (fin b o).2.2.2.2 = 0 → fin b o = no6 := by
    intro b o h
    cases o with
    | none => rfl
    | some t =>
      unfold fin at h ⊢
      simp only at h ⊢
      split
      · rename_i hq; rw [if_pos hq] at h; exact absurd rfl h
      · rfl
  unfold decOf at h ⊢
  split
  · rename_i hg
    rw [if_pos hg] at h
    cases hd : l.take 4092 with
    | nil => rfl
    | cons x d =>
      rw [hd, rdPg] at h
      rw [rdPg]
      split
      · rename_i h1; rw [if_pos h1] at h; exact fb _ _ h
      · rename_i h1
        rw [if_neg h1] at h
        split
        · rename_i h2; rw [if_pos h2] at h; exact fb _ _ h
        · rfl
  · rfl
theorem back_end (k : Nat) (l : List Int) (hk : 4000020 ≤ k) (hb : BytesL l) (hl : l.length ≤ 1048576) :
    ((node_Decode.f k l).bind fun bt588 => (if bt588.2.2.2.2 = 0 then ((node_Encode.f k bt588.1 bt588.2.1 bt588.2.2.1 bt588.2.2.2.1).bind fun bt600 => (if bt600.2 = 0 then (some ((strOfNums bt600.1).toList == (strOfNums l).toList)) else (none))) else ((ladingref06_Same.f k bt588.1 bt588.2.1 bt588.2.2.1 bt588.2.2.2.1 false ([] : List (List Int)) ([] : List (List Int)) ([] : List Int)).bind fun t604 => (some t604)))) = some true := by
  rw [ndec_is k l (by omega) hb hl, some_bind]
  by_cases h : (decOf l).2.2.2.2 = 0
  · obtain ⟨h1, h2⟩ := dec_ok hb h
    rw [if_pos h, nenc_is h1 _ (by omega), h2, some_bind]
    simp only
    rw [if_pos trivial, beq_self_eq_true]
  · rw [if_neg h, dec_bad h]
    have := same_self (k := k) false [] [] [] (by simp) (by simp) (by simp) (by simp; omega)
    show ((ladingref06_Same.f k false [] [] [] false [] [] []).bind fun t604 => some t604) = some true
    rw [this]; rfl
theorem NodeBackUpto : ∀ (a0 : S25) (l1 : List Int) (a2 : Int) (a3 : Int), (True ∧ (a0.f1.length ≤ 1048576 ∧ ∀ y5 ∈ a0.f1, (y5.length ≤ 1048576 ∧ ∀ y2 ∈ y5, (Lit.int .u8 y2).wf = true)) ∧ (a0.f2.length ≤ 1048576 ∧ ∀ y5 ∈ a0.f2, (y5.length ≤ 1048576 ∧ ∀ y2 ∈ y5, (Lit.int .u8 y2).wf = true)) ∧ (a0.f3.length ≤ 1048576 ∧ ∀ y5 ∈ a0.f3, (Lit.int .i64 y5).wf = true)) → (l1.length ≤ 1048576 ∧ ∀ y3 ∈ l1, (Lit.int .u8 y3).wf = true) → (Lit.int .i64 a2).wf = true → (Lit.int .u8 a3).wf = true → ∃ k, ladinglaw06_NodeBack.f k a0.f0 a0.f1 a0.f2 a0.f3 l1 a2 a3 = some true := by
  rintro ⟨b, ks, vs, ds⟩ l at_ other h ⟨hl, hw⟩ hat hot
  have hp : Bd ks vs ds := bd_of (b := b) h
  clear h
  have hb : BytesL l := bytesL_wf hw
  have hob : 0 ≤ other ∧ other < 256 := by
    simp [Lit.wf, IntKind.min, IntKind.max, IntKind.bits, IntKind.signed] at hot
    omega
  have := hp.kl
  have := hp.vl
  have := hp.dl
  obtain ⟨q, hq⟩ : ∃ q, 4000020 ≤ q := ⟨4000020, Nat.le_refl _⟩
  refine ⟨q + 2, ?_⟩
  unfold ladinglaw06_NodeBack.f ladinglaw06_lives.f
  rw [some_bind, if_pos rfl, nenc_is hp b (by omega), some_bind]
  by_cases hc : chk b ks vs ds = 0
  · have hg := chk_good hc
    have hpl := pageT_len b hp hg.ok
    have hsm := hg.small
    have hL := padT_len (pageT b ks vs ds) (by omega)
    have hpb := pad_bytes (page_bytes b hp hg.ok)
    obtain ⟨x, hx⟩ : ∃ x, x = sealOf (padT (pageT b ks vs ds)) := ⟨_, rfl⟩
    have hxl : x.length = 4096 := by rw [hx, sealOf_length, hL]
    have hxb : BytesL x := by rw [hx]; exact sealOf_bytes hpb
    have hd : decOf x = (b, ks, vs, ds, 0) := by rw [hx]; exact dec_enc b hp hc
    have he : encOf b ks vs ds = (x, 0) := by unfold encOf; rw [if_pos hc, hx]
    rw [he]
    simp only
    rw [if_pos trivial, ndec_is _ x (by omega) hxb (by omega), some_bind, hd]
    simp only
    rw [if_pos trivial, same_self (k := q + 2) b ks vs ds (by omega) (by omega) (by omega) (by omega), some_bind, if_pos rfl, ladinglaw06_NodeBack.j0, show ((x.length : Int) != 4096) = false by rw [bne_eq_false_iff_eq]; omega, if_neg (by decide)]
    have j1 : ∀ y : Bool, (y = true → 0 ≤ at_ ∧ at_ < (x.length : Int) ∧ rd x at_ ≠ other) → ladinglaw06_NodeBack.j1 (q + 1) l at_ other x y = some true := by
      intro y hy
      rw [ladinglaw06_NodeBack.j1]
      cases y
      · rw [if_neg (by decide)]
        exact back_end q l hq hb hl
      · obtain ⟨h0, h1, h2⟩ := hy rfl
        obtain ⟨i, rfl⟩ := Int.eq_ofNat_of_zero_le h0
        have hi : i < x.length := by omega
        have hne : x[i] ≠ other := by rw [rd_at x i hi] at h2; exact h2
        have hbr : decOf (x.set i other) = no6 := by
          subst hx
          exact dec_broken (open_broken hi hpb hob hne)
        have hsb : BytesL (x.set i other) := fun z hz => by
          rcases List.mem_or_eq_of_mem_set hz with hz | rfl
          · exact hxb z hz
          · exact hob
        rw [if_pos rfl, if_pos (by omega), if_pos (by omega), Int.toNat_natCast, ndec_is q _ (by omega) hsb (by rw [List.length_set]; omega), some_bind, hbr]
        exact (if_pos rfl).trans (back_end q l hq hb hl)
    by_cases g0 : at_ ≥ 0
    · rw [if_pos g0]
      by_cases g1 : at_ < (x.length : Int)
      · rw [if_pos g1, if_pos (by omega)]
        exact j1 _ (fun h => ⟨by omega, g1, bne_iff_ne.1 h⟩)
      · rw [if_neg g1]; exact j1 false (fun h => by cases h)
    · rw [if_neg g0]; exact j1 false (fun h => by cases h)
  · have he : encOf b ks vs ds = ([], chk b ks vs ds) := by unfold encOf; rw [if_neg hc]
    rw [he]
    refine (if_neg hc).trans ?_
    exact back_end (q + 2) l (by omega) hb hl
end Go.Proofs.YtcbgichkeecgiaaDoor.Pure
