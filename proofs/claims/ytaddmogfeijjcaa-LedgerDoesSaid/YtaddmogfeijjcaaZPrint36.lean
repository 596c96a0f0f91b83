-- What the claim uses alone (wip/slim.py). Lean checks it.
import Derived.Test.YtaddmogfeijjcaaZAb
import Derived.Test.YtaddmogfeijjcaaZPrint0
import Derived.Test.YtaddmogfeijjcaaZPrint1
import Derived.Test.YtaddmogfeijjcaaZPrint6
import Derived.Test.YtaddmogfeijjcaaZPrint7
import Derived.Test.YtaddmogfeijjcaaZPrint33
import Derived.Test.YtaddmogfeijjcaaZPrint34
import Derived.Test.YtaddmogfeijjcaaZPrint35
namespace Go.Proofs.Ytaddmogfeijjcaa.Print
open Go.RowKit Go.Proofs.YtaddmogfeijjcaaW.PrintWords Go.Proofs.YtaddmogfeijjcaaW.PrintLast Go.Proofs.YtaddmogfeijjcaaW.PrintMore
attribute [local go_sem] max2_mx min2_mn max_two min_two max_three min_three max_four min_four
set_option linter.unusedVariables false
set_option linter.unusedSimpArgs false
attribute [local go_sem high] eqA31
def fitsN (l : List S55) (n : Int) : Bool := (List.range l.length).all fun k => !((xAt l k).f0 == n) || fits (sumN (l.take (k + 1)) n)
theorem fits_is (p : S31) : fits p = true ↔ p.f1 ≤ 1152921504606846976 ∧ -1152921504606846976 ≤ p.f1 ∧ p.f2 ≤ 1152921504606846976 ∧ p.f3 ≤ 1152921504606846976 := by
 unfold fits
 simp only [Bool.and_eq_true, decide_eq_true_eq]
section
variable (n : Int) (l : List S55) (m i : Int)
theorem ladingref14_Check.j3_is (k : Nat) (p : S31) (x : S55) : ladingref14_sums.j3 (k + 1) n l m i p.f0 p.f1 p.f2 p.f3 x.f0 x.f1 x.f2 x.f3 = if fits (add4 p x) = true then ladingref14_sums.l0 k n l m (wrap64 (i + 1)) (add4 p x).f0 (add4 p x).f1 (add4 p x).f2 (add4 p x).f3 else some (0, 0, 0, 0, false) := by
 simp only [ladingref14_sums.j3]
 unfold add4
 by_cases h : x.f1 = 3
 ·rw [if_pos h, if_pos h]
  by_cases h1 : p.f1 > 1152921504606846976
  ·rw [if_pos h1, if_neg (by rw [fits_is]; simp only; omega)]
  ·by_cases h2 : p.f1 < -1152921504606846976
   ·rw [if_neg h1, if_pos h2, if_neg (by rw [fits_is]; simp only; omega)]
   ·by_cases h3 : p.f2 > 1152921504606846976
    ·rw [if_neg h1, if_neg h2, if_pos h3, if_neg (by rw [fits_is]; simp only; omega)]
    ·by_cases h4 : wrap64 (p.f3 + x.f3) > 1152921504606846976
     ·rw [if_neg h1, if_neg h2, if_neg h3, if_pos h4, if_neg (by rw [fits_is]; simp only; omega)]
     ·rw [if_neg h1, if_neg h2, if_neg h3, if_neg h4, if_pos (by rw [fits_is]; simp only; omega)]
 ·rw [if_neg h, if_neg h]
  by_cases h1 : p.f1 > 1152921504606846976
  ·rw [if_pos h1, if_neg (by rw [fits_is]; omega)]
  ·by_cases h2 : p.f1 < -1152921504606846976
   ·rw [if_neg h1, if_pos h2, if_neg (by rw [fits_is]; omega)]
   ·by_cases h3 : p.f2 > 1152921504606846976
    ·rw [if_neg h1, if_neg h2, if_pos h3, if_neg (by rw [fits_is]; omega)]
    ·by_cases h4 : p.f3 > 1152921504606846976
     ·rw [if_neg h1, if_neg h2, if_neg h3, if_pos h4, if_neg (by rw [fits_is]; omega)]
     ·rw [if_neg h1, if_neg h2, if_neg h3, if_neg h4, if_pos (by rw [fits_is]; omega)]
theorem ladingref14_Check.j2_is (k : Nat) (p : S31) (x : S55) : ladingref14_sums.j2 (k + 1) n l m i p.f0 p.f1 p.f2 p.f3 x.f0 x.f1 x.f2 x.f3 = ladingref14_sums.j3 k n l m i (add3 p x).f0 (add3 p x).f1 (add3 p x).f2 (add3 p x).f3 x.f0 x.f1 x.f2 x.f3 := by
 simp only [ladingref14_sums.j2]
 unfold add3
 by_cases h : x.f2 = 3
 ·rw [if_pos h, if_pos h]
 ·rw [if_neg h, if_neg h]
theorem ladingref14_Check.j1_is (k : Nat) (p : S31) (x : S55) : ladingref14_sums.j1 (k + 1) n l m i p.f0 p.f1 p.f2 p.f3 x.f0 x.f1 x.f2 x.f3 = ladingref14_sums.j2 k n l m i (add2 p x).f0 (add2 p x).f1 (add2 p x).f2 (add2 p x).f3 x.f0 x.f1 x.f2 x.f3 := by
 simp only [ladingref14_sums.j1]
 unfold add2
 by_cases h : x.f1 = 2
 ·rw [if_pos h, if_pos h]
 ·rw [if_neg h, if_neg h]
end
theorem ladingref14_Check.l0_is (n : Int) (l : List S55) (m i k : Nat) (p : S31) (hi : i < l.length) (him : i < m) : ladingref14_sums.l0 (k + 4) n l m i p.f0 p.f1 p.f2 p.f3 = if (xAt l i).f0 = n then (if fits (addP p (xAt l i)) = true then ladingref14_sums.l0 k n l m (wrap64 ((i : Int) + 1)) (addP p (xAt l i)).f0 (addP p (xAt l i)).f1 (addP p (xAt l i)).f2 (addP p (xAt l i)).f3 else some (0, 0, 0, 0, false)) else ladingref14_sums.l0 (k + 3) n l m (wrap64 ((i : Int) + 1)) p.f0 p.f1 p.f2 p.f3 := by
 obtain ⟨q, hq⟩ : ∃ q, q = k + 3 := ⟨_, rfl⟩
 rw [show k + 4 = q + 1 by omega, ← hq]
 simp only [ladingref14_sums.l0]
 rw [if_pos (by omega), if_pos (by omega), if_pos (by omega), rd_xAt]
 by_cases h : (xAt l i).f0 = n
 ·rw [if_pos h, if_pos h]
  have e : (if (xAt l i).f2 = 2 then ladingref14_sums.j1 q n l m i p.f0 (wrap64 (p.f1 + (xAt l i).f3)) p.f2 p.f3 (xAt l i).f0 (xAt l i).f1 (xAt l i).f2 (xAt l i).f3 else ladingref14_sums.j1 q n l m i p.f0 p.f1 p.f2 p.f3 (xAt l i).f0 (xAt l i).f1 (xAt l i).f2 (xAt l i).f3) = ladingref14_sums.j1 q n l m i (add1 p (xAt l i)).f0 (add1 p (xAt l i)).f1 (add1 p (xAt l i)).f2 (add1 p (xAt l i)).f3 (xAt l i).f0 (xAt l i).f1 (xAt l i).f2 (xAt l i).f3 := by
   unfold add1
   by_cases h2 : (xAt l i).f2 = 2
   ·rw [if_pos h2, if_pos h2]
   ·rw [if_neg h2, if_neg h2]
  rw [e, hq, ladingref14_Check.j1_is, ladingref14_Check.j2_is, ladingref14_Check.j3_is]
  rfl
 ·rw [if_neg h, if_neg h]
def sumsV (l : List S55) (n : Int) : Int × Int × Int × Int × Bool := if fitsN l n = true then ((sumN l n).f0, (sumN l n).f1, (sumN l n).f2, (sumN l n).f3, true) else (0, 0, 0, 0, false)
theorem ladingref14_Check.sums_go (n : Int) (l : List S55) (hl : l.length ≤ 140737488355328) : ∀ (d i k : Nat), i + d = l.length → 4 * d < k → (∀ j, j < i → (xAt l j).f0 = n → fits (sumN (l.take (j + 1)) n) = true) →
  ladingref14_sums.l0 k n l l.length i (sumN (l.take i) n).f0 (sumN (l.take i) n).f1 (sumN (l.take i) n).f2 (sumN (l.take i) n).f3 = some (sumsV l n) := by
 intro d
 induction d with
 | zero =>
  intro i k hi hk hf
  obtain ⟨q, rfl⟩ : ∃ q, k = q + 1 := ⟨k - 1, by omega⟩
  simp only [ladingref14_sums.l0]
  rw [if_neg (by omega), List.take_of_length_le (by omega)]
  unfold sumsV
  rw [if_pos]
  unfold fitsN
  rw [List.all_eq_true]
  intro j hj
  rw [List.mem_range] at hj
  by_cases e : (xAt l j).f0 = n
  ·rw [hf j (by omega) e, Bool.or_true]
  ·rw [beq_eq_false_iff_ne.mpr e]; rfl
 | succ d ih =>
  intro i k hi hk hf
  obtain ⟨q, rfl⟩ : ∃ q, k = q + 4 := ⟨k - 4, by omega⟩
  have hil : i < l.length := by omega
  have hw : wrap64 ((i : Int) + 1) = ((i + 1 : Nat) : Int) := by unfold wrap64; omega
  rw [ladingref14_Check.l0_is n l l.length i q _ hil hil, hw]
  have hs := sumN_snoc (l.take i) (xAt l i) n
  rw [← take_xAt l i hil] at hs
  by_cases e : (xAt l i).f0 = n
  ·rw [if_pos e]
   rw [if_pos e] at hs
   rw [← hs]
   by_cases hft : fits (sumN (l.take (i + 1)) n) = true
   ·rw [if_pos hft]
    refine ih (i + 1) q (by omega) (by omega) (fun j hj he => ?_)
    rcases Nat.lt_or_ge j i with h | h
    ·exact hf j h he
    ·obtain rfl : j = i := by omega
     exact hft
   ·rw [if_neg hft]
    unfold sumsV
    rw [if_neg]
    unfold fitsN
    rw [List.all_eq_true]
    intro h
    have := h i (List.mem_range.mpr hil)
    rw [beq_iff_eq.mpr e, Bool.eq_false_iff.mpr hft] at this
    cases this
  ·rw [if_neg e]
   rw [if_neg e] at hs
   rw [← hs]
   refine ih (i + 1) (q + 3) (by omega) (by omega) (fun j hj he => ?_)
   rcases Nat.lt_or_ge j i with h | h
   ·exact hf j h he
   ·obtain rfl : j = i := by omega
    exact absurd he e
theorem sums_is (l : List S55) (n : Int) (k : Nat) (hl : l.length ≤ 140737488355328) (hk : 4 * l.length < k) : ladingref14_sums.f k l n = some (sumsV l n) :=
 ladingref14_Check.sums_go n l hl l.length 0 k (Nat.zero_add _) hk (fun j hj => absurd hj (Nat.not_lt_zero j))
def ofP (ps : List S31) (n : Int) : S31 := (ps.find? fun p => p.f0 == n).getD (zeroP n)
theorem ladingref14_Check.of_go (n : Int) (ps : List S31) (hl : ps.length ≤ 140737488355328) : ∀ (d i k : Nat), i + d = ps.length → d < k → ladingref14_Of.l0 k n ps ps.length i = some ((((ps.drop i).find? fun p => p.f0 == n).getD (zeroP n)).f0, (((ps.drop i).find? fun p => p.f0 == n).getD (zeroP n)).f1, (((ps.drop i).find? fun p => p.f0 == n).getD (zeroP n)).f2, (((ps.drop i).find? fun p => p.f0 == n).getD (zeroP n)).f3) := by
 intro d
 induction d with
 | zero =>
  intro i k hi hk
  obtain ⟨q, rfl⟩ : ∃ q, k = q + 1 := ⟨k - 1, by omega⟩
  simp only [ladingref14_Of.l0]
  rw [if_neg (by omega), List.drop_of_length_le (by omega)]
  rfl
 | succ d ih =>
  intro i k hi hk
  obtain ⟨q, rfl⟩ : ∃ q, k = q + 1 := ⟨k - 1, by omega⟩
  have hil : i < ps.length := by omega
  have hw : wrap64 ((i : Int) + 1) = ((i + 1 : Nat) : Int) := by unfold wrap64; omega
  have hd : ps.drop i = pAt ps i :: ps.drop (i + 1) := by
   rw [List.drop_eq_getElem_cons hil]
   unfold pAt
   rw [List.getD_eq_getElem?_getD, List.getElem?_eq_getElem hil]
   rfl
  simp only [ladingref14_Of.l0]
  rw [if_pos (by omega), if_pos (by omega), if_pos (by omega), rd_pAt, hd, List.find?_cons]
  by_cases e : (pAt ps i).f0 = n
  ·rw [if_pos e, beq_iff_eq.mpr e]; rfl
  ·rw [if_neg e, beq_eq_false_iff_ne.mpr e, hw]
   exact ih (i + 1) q (by omega) (by omega)
theorem of_is (ps : List S31) (xs : List S55) (n : Int) (k : Nat) (hl : ps.length ≤ 140737488355328) (hk : ps.length < k) : ladingref14_Of.f k ps xs n = some ((ofP ps n).f0, (ofP ps n).f1, (ofP ps n).f2, (ofP ps n).f3) :=
 ladingref14_Check.of_go n ps hl ps.length 0 k (Nat.zero_add _) hk
def okQ1 (ps : List S31) (i : Nat) : Bool := (decide (1 ≤ (pAt ps i).f0) && decide ((pAt ps i).f0 ≤ 1024)) && (!((pAt ps i).f1 == 0 && ((pAt ps i).f2 == 0 && (pAt ps i).f3 == 0)) && (!(decide (0 < (i : Int)) && decide ((pAt ps i).f0 ≤ (pAt ps (i - 1)).f0)) && (!(decide ((pAt ps i).f1 < 0)) && (!(decide (1152921504606846976 < (pAt ps i).f1)) && (!(decide ((pAt ps i).f2 < 0)) && (!(decide (1152921504606846976 < (pAt ps i).f2)) && (!(decide ((pAt ps i).f3 < 0)) && !(decide ((pAt ps i).f2 < (pAt ps i).f3)))))))))
def okQ (ps : List S31) (xs : List S55) (i : Nat) : Bool := okQ1 ps i && (fitsN xs (pAt ps i).f0 && eqP (sumN xs (pAt ps i).f0) (pAt ps i))
def okS (ps : List S31) (xs : List S55) (k : Nat) : Bool := fitsN xs (xAt xs k).f0 && eqP (sumN xs (xAt xs k).f0) (ofP ps (xAt xs k).f0)
def goodR (ps : List S31) (xs : List S55) : Bool := (decide (ps.length ≤ 1024) && decide (xs.length ≤ 16384)) && ((List.range ps.length).all (okQ ps xs) && ((List.range xs.length).all (fun k => postOk (xAt xs k)) && (List.range xs.length).all (okS ps xs)))
theorem ladingref14_Check.known_is (a : Int) : ladingref14_known.f a = some (decide (1 ≤ a) && decide (a ≤ 1024)) := by
 unfold ladingref14_known.f
 by_cases h : 1 ≤ a
 ·rw [if_pos (show a ≥ 1 from h), decide_eq_true h, Bool.true_and]
 ·rw [if_neg (show ¬ a ≥ 1 from h), decide_eq_false h, Bool.false_and]
theorem ladingref14_Check.account_is (a : Int) : ladingref14_account.f a = some (decide (1 ≤ a) && decide (a < 4)) := by
 unfold ladingref14_account.f
 have e : decide (a ≤ 3) = decide (a < 4) := by by_cases h : a < 4 <;> simp [h] <;> omega
 by_cases h : 1 ≤ a
 ·rw [if_pos (show a ≥ 1 from h), decide_eq_true h, Bool.true_and, e]
 ·rw [if_neg (show ¬ a ≥ 1 from h), decide_eq_false h, Bool.false_and]
theorem ladingref14_Check.none_is (a b c d : Int) : ladingref14_none.f a b c d = some (b == 0 && (c == 0 && d == 0)) := by
 unfold ladingref14_none.f
 by_cases h1 : b = 0
 ·rw [if_pos h1, beq_iff_eq.mpr h1, Bool.true_and]
  by_cases h2 : c = 0
  ·rw [if_pos h2, beq_iff_eq.mpr h2, Bool.true_and]
  ·rw [if_neg h2, beq_eq_false_iff_ne.mpr h2, Bool.false_and]
 ·rw [if_neg h1, beq_eq_false_iff_ne.mpr h1, Bool.false_and]
theorem ladingref14_Check.post_is (x : S55) : postOk x = ((decide (1 ≤ x.f0) && decide (x.f0 ≤ 1024)) && (!decide (x.f3 < 1) && (!decide (1152921504606846976 < x.f3) && ((decide (1 ≤ x.f1) && decide (x.f1 < 4)) && ((decide (1 ≤ x.f2) && decide (x.f2 < 4)) && !(x.f1 == x.f2)))))) := by
 unfold postOk
 have e1 : decide (1 ≤ x.f3) = !decide (x.f3 < 1) := by by_cases h : x.f3 < 1 <;> simp [h] <;> omega
 have e2 : decide (x.f3 ≤ 1152921504606846976) = !decide (1152921504606846976 < x.f3) := by by_cases h : 1152921504606846976 < x.f3 <;> simp [h] <;> omega
 rw [e1, e2]
 simp only [Bool.and_assoc]
theorem goodR_q {ps : List S31} {l : List S55} (k : Nat) (h : k < ps.length) (hx : okQ ps l k = false) : goodR ps l = false := by
 apply Bool.eq_false_iff.mpr
 intro hg
 simp only [goodR, Bool.and_eq_true, List.all_eq_true, List.mem_range] at hg
 rw [hg.2.1 k h] at hx
 cases hx
theorem goodR_x {ps : List S31} {l : List S55} (k : Nat) (h : k < l.length) (hx : postOk (xAt l k) = false) : goodR ps l = false := by
 apply Bool.eq_false_iff.mpr
 intro hg
 simp only [goodR, Bool.and_eq_true, List.all_eq_true, List.mem_range] at hg
 rw [hg.2.2.1 k h] at hx
 cases hx
theorem goodR_s {ps : List S31} {l : List S55} (k : Nat) (h : k < l.length) (hx : okS ps l k = false) : goodR ps l = false := by
 apply Bool.eq_false_iff.mpr
 intro hg
 simp only [goodR, Bool.and_eq_true, List.all_eq_true, List.mem_range] at hg
 rw [hg.2.2.2 k h] at hx
 cases hx
theorem goodR_of {ps : List S31} {l : List S55} (h1 : ps.length ≤ 1024) (h2 : l.length ≤ 16384) (hq : ∀ j, j < ps.length → okQ ps l j = true) (hx : ∀ j, j < l.length → postOk (xAt l j) = true) (hs : ∀ j, j < l.length → okS ps l j = true) : goodR ps l = true := by
 unfold goodR
 simp only [Bool.and_eq_true, List.all_eq_true, List.mem_range, decide_eq_true_eq]
 exact ⟨⟨h1, h2⟩, hq, hx, hs⟩
structure ladingref14_Check.S3 (w wr : World) (gb gp : Nat) (A0_0 : Option Addr) (c0_0 : Nat) (l0_0 : List S31) (A0_1 : Option Addr) (c0_1 : Nat) (l0_1 : List S55) (t : Nat) (cs : Array Value) : Prop where
 BB : wr.heap[gb]? = some (.cells #[.slice A0_0 l0_0.length c0_0, .slice A0_1 l0_1.length c0_1] 25 (0, 0))
 BP : wr.heap[gp]? = some (.cells cs t (0, 0))
 HB : Below w.heap.size w wr
theorem ladingref14_Check.S3.below {w wr w2 : World} {gb gp : Nat} {A0_0 : Option Addr} {c0_0 : Nat} {l0_0 : List S31} {A0_1 : Option Addr} {c0_1 : Nat} {l0_1 : List S55} {t : Nat} {cs : Array Value} (h : ladingref14_Check.S3 w wr gb gp A0_0 c0_0 l0_0 A0_1 c0_1 l0_1 t cs) (hb : Below wr.heap.size wr w2) : ladingref14_Check.S3 w w2 gb gp A0_0 c0_0 l0_0 A0_1 c0_1 l0_1 t cs :=
 ⟨blk_below h.BB hb, blk_below h.BP hb, below_step h.HB hb⟩
theorem ladingref14_Check.S3.drewN {w wr : World} {gb gp : Nat} {A0_0 : Option Addr} {c0_0 : Nat} {l0_0 : List S31} {A0_1 : Option Addr} {c0_1 : Nat} {l0_1 : List S55} {t : Nat} {cs : Array Value} (h : ladingref14_Check.S3 w wr gb gp A0_0 c0_0 l0_0 A0_1 c0_1 l0_1 t cs) (n : Nat) : ladingref14_Check.S3 w (wr.drewN n) gb gp A0_0 c0_0 l0_0 A0_1 c0_1 l0_1 t cs :=
 ⟨h.BB, h.BP, pw_below_drewN h.HB n⟩
def ladingref14_Check.Rel (w : World) (gb : Nat) (A0_0 : Option Addr) (c0_0 : Nat) (l0_0 : List S31) (A0_1 : Option Addr) (c0_1 : Nat) (l0_1 : List S55) (len : Nat) (P : Nat → Prop) (kq : Nat) (v : Value) (wr : World) : Prop :=
 ∃ k : Nat, k ≤ len ∧ k + kq = len + 1 ∧ v = .int .i64 k ∧ wr.heap[gb]? = some (.cells #[.slice A0_0 l0_0.length c0_0, .slice A0_1 l0_1.length c0_1] 25 (0, 0)) ∧ Below w.heap.size w wr ∧ ∀ j, j < k → P j
def ladingref14_Check.T6 : Bool × List (List Nat × List Nat) := (true, [([], []), ([0], [0]), ([1], [1]), ([2], [2]), ([3, 2], [3]), ([4], [4]), ([5, 4, 4], [4, 5]), ([4, 6], [4, 6]), ([7, 6], [7]), ([8], [8]), ([9, 8], [8, 9]), ([10, 8, 8], [8, 10]), ([11], [11]), ([12, 11], [11, 12]), ([11], [11]), ([14, 11], [11, 14]), ([13, 15, 11], [11, 13, 15]), ([16, 11], [11, 16]), ([17, 11], [11, 17]), ([11], [11]), ([19, 11], [11, 19]), ([18, 20, 11], [11, 18, 20]), ([11, 21, 8], [8, 11, 21]), ([8, 22], [8, 22]), ([23, 11], [23]), ([24], [24]), ([25, 24], [24, 25]), ([26, 24], [24, 26]), ([24, 27], [24, 27]), ([28, 24], [28]), ([29], [29]), ([30, 29], [29, 30]), ([31, 29], [29, 31]), ([29, 32], [29, 32]), ([33, 29], [33]), ([34], [34]), ([35, 34], [34, 35]), ([36, 34], [34, 36]), ([34, 37], [34, 37]), ([38, 34], [38]), ([39], [39]), ([40, 39], [39, 40]), ([41, 39], [39, 41]), ([39, 42], [39, 42]), ([43, 39], [43]), ([44], [44]), ([45, 44], [44, 45]), ([46, 44], [44, 46]), ([44, 47], [44, 47]), ([48, 44], [48]), ([49], [49]), ([50, 49], [49, 50]), ([49], [49]), ([52, 49], [49, 52]), ([51, 53, 49], [49, 51, 53]), ([49, 54], [49, 54])])
def ladingref14_Check.B6 : List Nat := [0, 1, 3, 7, 15, 31, 63, 127, 255, 511, 1023, 2047, 4095, 8191, 4095, 20479, 65535, 131071, 262143, 4095, 528383, 2097151, 4194303, 8388607, 16777215, 33554431, 67108863, 134217727, 268435455, 536870911, 1073741823, 2147483647, 4294967295, 8589934591, 17179869183, 34359738367, 68719476735, 137438953471, 274877906943, 549755813887, 1099511627775, 2199023255551, 4398046511103, 8796093022207, 17592186044415, 35184372088831, 70368744177663, 140737488355327, 281474976710655, 562949953421311, 1125899906842623, 2251799813685247, 1125899906842623, 5629499534213119, 18014398509481983, 36028797018963967]
theorem ladingref14_Check.tab6 : rtab .any (opsOf Try.f24 6) = ladingref14_Check.T6 := by kernel_rfl
theorem ladingref14_Check.bits6 : waitsOk ladingref14_Check.T6.2 ladingref14_Check.B6 = true := by kernel_rfl
def ladingref14_Check.T22 : Bool × List (List Nat × List Nat) := (true, [([], []), ([0], [0]), ([1], [1]), ([2], [2]), ([2], [2]), ([2], [2]), ([5, 2], [2, 5]), ([4, 6, 2, 2], [2, 4, 6]), ([3, 7, 2], [2, 3, 7]), ([2, 8], [2, 8])])
def ladingref14_Check.B22 : List Nat := [0, 1, 3, 7, 7, 7, 39, 119, 255, 511]
theorem ladingref14_Check.tab22 : rtab .any (opsOf Try.f24 22) = ladingref14_Check.T22 := by kernel_rfl
theorem ladingref14_Check.bits22 : waitsOk ladingref14_Check.T22.2 ladingref14_Check.B22 = true := by kernel_rfl
def ladingref14_Check.f (l0_0 : List S31) (l0_1 : List S55) : Option Int := some (if goodR l0_0 l0_1 = true then 0 else 9)
set_option maxHeartbeats 16000000 in
set_option maxRecDepth 100000 in
theorem ladingref14_Check.calls (A0_0 : Option Addr) (c0_0 : Nat) (l0_0 : List (S31)) (A0_1 : Option Addr) (c0_1 : Nat) (l0_1 : List (S55)) (r : Int) (w : World) (hr0_0 : Kd.C k31 w A0_0 l0_0.length l0_0) (hc0_0 : l0_0.length ≤ c0_0) (hr0_1 : Kd.C k55 w A0_1 l0_1.length l0_1) (hc0_1 : l0_1.length ≤ c0_1) (h : ladingref14_Check.f l0_0 l0_1 = some r) :
  Calls Try.prog 24 #[.agg #[.slice A0_0 l0_0.length c0_0, .slice A0_1 l0_1.length c0_1]] w fun e w' => e = .returned (.int .i64 r) ∧ Below w.heap.size w w' := by
 have HR := Aside0.mk (Option.some.inj h)
 clear h
 have hu25 := Try.underlying25
 have hu31 := Try.underlying31
 have hu55 := Try.underlying55
 have HR0 := Aside0.mk hr0_0
 have HC0 := Aside0.mk hc0_0
 have HR1 := Aside0.mk hr0_1
 have HC1 := Aside0.mk hc0_1
 clear hr0_0 hc0_0 hr0_1 hc0_1
 by_cases hn : 1024 < l0_0.length
 ·have d1 : decide (1024 < (l0_0.length : Int)) = true := decide_eq_true (by omega)
  have d1n : decide (1024 < l0_0.length) = true := decide_eq_true hn
  have HG : Aside0 (r = 9) := ⟨by rw [← HR.out, show goodR l0_0 l0_1 = false by unfold goodR; rw [decide_eq_false (show ¬ l0_0.length ≤ 1024 by omega)]; rfl]; rfl⟩
  clear hn
  go_enter Try.func24, Try.ntmps24
  go_wp2_with (first | ((with_reducible refine gate_dst (N := 1) rfl ?_); refine box_event ?hg (N := 1) ?hd (cs := #[.slice A0_0 l0_0.length c0_0, .slice A0_1 l0_1.length c0_1]) (t := 25) ?hr ?_; (case hd => rfl); (case hg => rfl); (case hr => first | (go_simp; done) | (go_simp; rfl)); intro gb hgb w1 hbox hb; have BB := Aside0.mk hbox; have HB := Aside0.mk hb; have GB : Aside0 (w.heap.size ≤ gb) := ⟨by rw [hgb]; exact Nat.le_refl _⟩; have hb0 := (blk_cell hbox 0).trans rfl; have hb1 := (blk_cell hbox 1).trans rfl; clear hbox hb hgb))
  go_ret
  exact ⟨by rw [HG.out]; rfl, HB.out⟩
 have d1 : decide (1024 < (l0_0.length : Int)) = false := decide_eq_false (by omega)
 have d1n : decide (1024 < l0_0.length) = false := decide_eq_false hn
 by_cases hm : 16384 < l0_1.length
 ·have d2 : decide (16384 < (l0_1.length : Int)) = true := decide_eq_true (by omega)
  have d2n : decide (16384 < l0_1.length) = true := decide_eq_true hm
  have HG : Aside0 (r = 9) := ⟨by rw [← HR.out, show goodR l0_0 l0_1 = false by unfold goodR; rw [decide_eq_false (show ¬ l0_1.length ≤ 16384 by omega), Bool.and_false]; rfl]; rfl⟩
  clear hn hm
  go_enter Try.func24, Try.ntmps24
  go_wp2_with (first | ((with_reducible refine gate_dst (N := 1) rfl ?_); refine box_event ?hg (N := 1) ?hd (cs := #[.slice A0_0 l0_0.length c0_0, .slice A0_1 l0_1.length c0_1]) (t := 25) ?hr ?_; (case hd => rfl); (case hg => rfl); (case hr => first | (go_simp; done) | (go_simp; rfl)); intro gb hgb w1 hbox hb; have BB := Aside0.mk hbox; have HB := Aside0.mk hb; have GB : Aside0 (w.heap.size ≤ gb) := ⟨by rw [hgb]; exact Nat.le_refl _⟩; have hb0 := (blk_cell hbox 0).trans rfl; have hb1 := (blk_cell hbox 1).trans rfl; clear hbox hb hgb))
  go_ret
  exact ⟨by rw [HG.out]; rfl, HB.out⟩
 have d2 : decide (16384 < (l0_1.length : Int)) = false := decide_eq_false (by omega)
 have d2n : decide (16384 < l0_1.length) = false := decide_eq_false hm
 have HL : Aside0 (l0_0.length ≤ 1024 ∧ l0_1.length ≤ 16384) := ⟨by omega, by omega⟩
 clear hn hm
 go_enter Try.func24, Try.ntmps24
 go_wp2_with (first | ((with_reducible refine gate_dst (N := 1) rfl ?_); refine box_event ?hg (N := 1) ?hd (cs := #[.slice A0_0 l0_0.length c0_0, .slice A0_1 l0_1.length c0_1]) (t := 25) ?hr ?_; (case hd => rfl); (case hg => rfl); (case hr => first | (go_simp; done) | (go_simp; rfl)); intro gb hgb w1 hbox hb; have BB := Aside0.mk hbox; have HB := Aside0.mk hb; have GB : Aside0 (w.heap.size ≤ gb) := ⟨by rw [hgb]; exact Nat.le_refl _⟩; have hb0 := (blk_cell hbox 0).trans rfl; have hb1 := (blk_cell hbox 1).trans rfl; clear hbox hb hgb))
 clear hb0 hb1
 go_loopg [26] (l0_0.length + 1) (fun kq v26 wr => ladingref14_Check.Rel w gb A0_0 c0_0 l0_0 A0_1 c0_1 l0_1 l0_0.length (fun j => okQ l0_0 l0_1 j = true) kq v26 wr)
 case atStart => exact ⟨0, Nat.zero_le _, Nat.zero_add _, rfl, BB.out, HB.out, fun j hj => absurd hj (Nat.not_lt_zero j)⟩
 case round =>
  clear BB HB
  obtain ⟨i, hk, hkq, rfl, hbb, hb, hok⟩ := hrel
  have BB := Aside0.mk hbb
  have HB := Aside0.mk hb
  have OKQ := Aside0.mk hok
  have HKQ := Aside0.mk hkq
  clear hbb hb hok hkq
  by_cases hlt : i < l0_0.length
  ·obtain ⟨kq, rfl⟩ : ∃ q, gk = q + 1 := ⟨gk - 1, by have := HKQ.out; omega⟩
   have HLT := Aside0.mk hlt
   obtain ⟨ad, rfl, hx0, hx1, hx2, hx3⟩ := at_T31 HR0.out (i : Int) (Int.natCast_nonneg _) (Int.ofNat_lt.mpr hlt)
   replace hx0 := zx_ HB.out hx0
   replace hx1 := zx_ HB.out hx1
   replace hx2 := zx_ HB.out hx2
   replace hx3 := zx_ HB.out hx3
   rw [Int.toNat_natCast, rd_pAt] at hx0 hx1 hx2 hx3
   obtain ⟨p, hx⟩ : ∃ p, p = pAt l0_0 i := ⟨_, rfl⟩
   rw [← hx] at hx0 hx1 hx2 hx3
   have HX := Aside0.mk hx
   have pm : ((i : Int) < (l0_0.length : Int)) = True := eq_true (Int.ofNat_lt.mpr hlt)
   have t1 : decide ((i : Int) < (l0_0.length : Int)) = true := decide_eq_true (Int.ofNat_lt.mpr hlt)
   have t1n : decide (i < l0_0.length) = true := decide_eq_true hlt
   clear hx hlt
   go_upto_region 6 with (first | ((with_reducible refine gate_dst (N := 4) rfl ?_); refine box_event ?hg (N := 4) ?hd (cs := #[.int .i64 0, .int .i64 0, .int .i64 0, .int .i64 0]) (t := 31) ?hr ?_; (case hd => rfl); (case hg => rfl); (case hr => first | (go_simp; done) | (go_simp; rfl)); intro gp hgp w2 hbox hb; have GP : Aside0 (gb ≠ gp ∧ w.heap.size ≤ gp) := ⟨by rw [hgp]; exact Nat.ne_of_lt (blk_lt BB.out), by rw [hgp]; exact HB.out.size⟩; have BP := Aside0.mk hbox; have BB2 := Aside0.mk (blk_below BB.out hb); have HB2 := Aside0.mk (below_step HB.out hb); have hz0 := (blk_cell hbox 0).trans rfl; have hz1 := (blk_cell hbox 1).trans rfl; have hz2 := (blk_cell hbox 2).trans rfl; have hz3 := (blk_cell hbox 3).trans rfl; have hf0 := blk_frozen hbox 0; have hf1 := blk_frozen hbox 1; have hf2 := blk_frozen hbox 2; have hf3 := blk_frozen hbox 3; clear hbox hb hgp BB HB))
   have ST : Aside0 (ladingref14_Check.S3 w ((((w2.setCell ⟨gp, 0, none⟩ (.int .i64 p.f0)).setCell ⟨gp, 1, none⟩ (.int .i64 p.f1)).setCell ⟨gp, 2, none⟩ (.int .i64 p.f2)).setCell ⟨gp, 3, none⟩ (.int .i64 p.f3)) gb gp (some ad) c0_0 l0_0 A0_1 c0_1 l0_1 31 (pcells p)) := ⟨⟨set4F BB2.out GP.out.1 (.int .i64 p.f0) (.int .i64 p.f1) (.int .i64 p.f2) (.int .i64 p.f3), set4B BP.out (.int .i64 p.f0) (.int .i64 p.f1) (.int .i64 p.f2) (.int .i64 p.f3), set4W HB2.out GP.out.2 (.int .i64 p.f0) (.int .i64 p.f1) (.int .i64 p.f2) (.int .i64 p.f3)⟩⟩
   clear hx0 hx1 hx2 hx3 hz0 hz1 hz2 hz3 hf0 hf1 hf2 hf3 BP BB2 HB2 pm t1 t1n
   obtain ⟨w6, hw6⟩ : ∃ w6, w6 = ((((w2.setCell ⟨gp, 0, none⟩ (.int .i64 p.f0)).setCell ⟨gp, 1, none⟩ (.int .i64 p.f1)).setCell ⟨gp, 2, none⟩ (.int .i64 p.f2)).setCell ⟨gp, 3, none⟩ (.int .i64 p.f3)) := ⟨_, rfl⟩
   rw [← hw6] at ST ⊢
   clear hw6
   have hi1 : i - 1 < l0_0.length := by have := HLT.out; omega
   obtain ⟨ad', he, hy0, -, -, -⟩ := at_T31 HR0.out ((i - 1 : Nat) : Int) (Int.natCast_nonneg _) (Int.ofNat_lt.mpr hi1)
   cases he
   rw [Int.toNat_natCast, rd_pAt] at hy0
   obtain ⟨pv, hpv⟩ : ∃ pv, pv = (pAt l0_0 (i - 1)).f0 := ⟨_, rfl⟩
   rw [← hpv] at hy0
   have HPV := Aside0.mk hpv
   have HY : Aside0 (∀ W, Below w.heap.size w W → W.cell? (ad.add ((i - 1) * 4)) = some (.int .i64 pv)) := ⟨fun W h => (h.cell (World.block_lt_of_cell? w _ hy0)).trans hy0⟩
   have pm : (((i - 1 : Nat) : Int) < (l0_0.length : Int)) = True := eq_true (Int.ofNat_lt.mpr hi1)
   clear hy0 hpv hi1
   obtain ⟨kb, hkb⟩ : ∃ kb, kb = (decide (1 ≤ p.f0) && decide (p.f0 ≤ 1024)) := ⟨_, rfl⟩
   have K0 : Aside0 (ladingref14_known.f p.f0 = some kb) := ⟨by rw [hkb]; exact ladingref14_Check.known_is _⟩
   have HKB := Aside0.mk hkb
   clear hkb
   obtain ⟨zb, hzb⟩ : ∃ zb, zb = (p.f1 == 0 && (p.f2 == 0 && p.f3 == 0)) := ⟨_, rfl⟩
   have K1 : Aside0 (ladingref14_none.f p.f0 p.f1 p.f2 p.f3 = some zb) := ⟨by rw [hzb]; exact ladingref14_Check.none_is _ _ _ _⟩
   have HZB := Aside0.mk hzb
   clear hzb
   obtain ⟨di, hdi⟩ : ∃ di, decide (0 < (i : Int)) = di := ⟨_, rfl⟩
   have HDI := Aside0.mk hdi
   clear hdi
   go_cut [86] (fun v86 wc => v86 = .bool (!(okQ1 l0_0 i)) ∧ Aside0 (ladingref14_Check.S3 w wc gb gp (some ad) c0_0 l0_0 A0_1 c0_1 l0_1 31 (pcells p)))
   case first =>
    refine start_ (n := 56) (S := fun w' => ladingref14_Check.S3 w w' gb gp (some ad) c0_0 l0_0 A0_1 c0_1 l0_1 31 (pcells p) ∧ w'.cell? ⟨gp, 0, none⟩ = some (.int .i64 p.f0) ∧ w'.cell? ⟨gp, 1, none⟩ = some (.int .i64 p.f1) ∧ w'.cell? ⟨gp, 2, none⟩ = some (.int .i64 p.f2) ∧ w'.cell? ⟨gp, 3, none⟩ = some (.int .i64 p.f3) ∧ w'.cell? ⟨gb, 0, none⟩ = some (.slice (some ad) l0_0.length c0_0) ∧ w'.cell? (ad.add ((i - 1) * 4)) = some (.int .i64 pv)) (ds := []) (zB 0 56) (by kernel_rfl) rfl rfl ⟨(ST.out.drewN 1), ((blk_cell (ST.out.drewN 1).BP 0).trans rfl), ((blk_cell (ST.out.drewN 1).BP 1).trans rfl), ((blk_cell (ST.out.drewN 1).BP 2).trans rfl), ((blk_cell (ST.out.drewN 1).BP 3).trans rfl), ((blk_cell (ST.out.drewN 1).BB 0).trans rfl), (HY.out _ (ST.out.drewN 1).HB)⟩ (fun hHeld => ?_)
    refine with_tabW ladingref14_Check.tab6 ladingref14_Check.bits6 (fun HT_ HW_ => ?_)
    refine pure_ (i := 0) (N := some 31) (v := ?_) (a' := ?_) (zB 1 55) rfl rfl (any_of HT_.out (by kernel_rfl)) (fun _ _ _ h => h) (Or.inl ⟨by rfl, ?_⟩) ?_ ?_
    rotate_left
    ·intro w'
     go_simp
     with_reducible rfl
    rotate_left
    ·simp only [Act.put, zt0, zt1, zt2, i64_w, i32_w]
     rfl
    refine take_ (i := 1) (N := some 32) (v := ?_) (a' := ?_) (zB 2 54) rfl rfl (take_ofW HT_.out HW_.out (by kernel_rfl)) (fun _ _ _ h => h) (Or.inl ⟨by rfl, ?_⟩) hHeld ?_ ?_
    rotate_left
    ·rintro w' ⟨s0, s1, s2, s3, s4, s5, s6⟩
     go_simp
     with_reducible rfl
    rotate_left
    ·simp only [Act.put, zt0, zt1, zt2, i64_w, i32_w]
     rfl
    refine one_ (i := 2) (N := some 33) (zB 3 53) rfl rfl (one_of HT_.out (by kernel_rfl)) (by decide) (fun K hK => ?_)
    refine goes_ Try.func44 (by kernel_rfl) rfl #[.int .i64 p.f0] (by rfl) rfl rfl zl_ ?_
    with_reducible refine (ladingref14_known.calls _ _ _ K0.out).mono ?_
    rintro e w3 ⟨rfl, ⟨nd_, rfl⟩⟩
    obtain ⟨SH, SZ_⟩ := hHeld
    clear SZ_
    have SH3 := SH.drewN nd_
    refine ⟨_, rfl, ?_⟩
    refine hK.out _ _ ⟨SH3, ((blk_cell SH3.BP 0).trans rfl), ((blk_cell SH3.BP 1).trans rfl), ((blk_cell SH3.BP 2).trans rfl), ((blk_cell SH3.BP 3).trans rfl), ((blk_cell SH3.BB 0).trans rfl), (HY.out _ SH3.HB)⟩ (fun hHeld => ?_)
    clear hK K
    refine norm_ (a' := ?_) ?_ ?_
    rotate_left
    ·show Act.put _ (some 33) _ = _
     simp only [Act.put, zt0, zt1, zt2, i64_w, i32_w]
     rfl
    refine pure_ (i := 3) (N := some 34) (v := ?_) (a' := ?_) (zB 4 52) rfl rfl (any_of HT_.out (by kernel_rfl)) (fun _ _ _ h => h) (Or.inl ⟨by rfl, ?_⟩) ?_ ?_
    rotate_left
    ·intro w'
     go_simp
     with_reducible rfl
    rotate_left
    ·simp only [Act.put, zt0, zt1, zt2, i64_w, i32_w]
     rfl
    refine pure_ (i := 4) (N := some 35) (v := ?_) (a' := ?_) (zB 5 51) rfl rfl (any_of HT_.out (by kernel_rfl)) (fun _ _ _ h => h) (Or.inl ⟨by rfl, ?_⟩) ?_ ?_
    rotate_left
    ·intro w'
     go_simp
     with_reducible rfl
    rotate_left
    ·simp only [Act.put, zt0, zt1, zt2, i64_w, i32_w]
     rfl
    generalize hB : (!kb) = b0
    have HBb0 := Aside0.mk hB
    clear hB
    refine join_ (σ := Value × Value) 47 (zB 9 47) (fun s => [(36, s.1), (37, s.2), (38, .bool (b0 || zb)), (39, .bool (b0 || zb))]) (fun _ w' => ladingref14_Check.S3 w w' gb gp (some ad) c0_0 l0_0 A0_1 c0_1 l0_1 31 (pcells p) ∧ w'.cell? ⟨gp, 0, none⟩ = some (.int .i64 p.f0) ∧ w'.cell? ⟨gp, 1, none⟩ = some (.int .i64 p.f1) ∧ w'.cell? ⟨gp, 2, none⟩ = some (.int .i64 p.f2) ∧ w'.cell? ⟨gp, 3, none⟩ = some (.int .i64 p.f3) ∧ w'.cell? ⟨gb, 0, none⟩ = some (.slice (some ad) l0_0.length c0_0) ∧ w'.cell? (ad.add ((i - 1) * 4)) = some (.int .i64 pv)) ?_ ?_
    rotate_left
    ·intro hCont
     rcases Bool.eq_false_or_eq_true b0 with rfl | rfl
     ·skip
      refine pure_ (i := 5) (N := some 36) (v := undef) (a' := ?_) (zB 6 50) rfl rfl (any_of HT_.out (by kernel_rfl)) (fun _ _ _ h => h) (Or.inr ⟨by rfl, rfl⟩) ?_ ?_
      rotate_left
      ·simp only [Act.put, zt0, zt1, zt2, i64_w, i32_w]
       rfl
      refine pure_ (i := 6) (N := some 37) (v := undef) (a' := ?_) (zB 7 49) rfl rfl (any_of HT_.out (by kernel_rfl)) (fun _ _ _ h => h) (Or.inr ⟨by rfl, rfl⟩) ?_ ?_
      rotate_left
      ·simp only [Act.put, zt0, zt1, zt2, i64_w, i32_w]
       rfl
      refine pure_ (i := 7) (N := some 38) (v := ?_) (a' := ?_) (zB 8 48) rfl rfl (any_of HT_.out (by kernel_rfl)) (fun _ _ _ h => h) (Or.inl ⟨by rfl, ?_⟩) ?_ ?_
      rotate_left
      ·intro w'
       go_simp
       with_reducible rfl
      rotate_left
      ·simp only [Act.put, zt0, zt1, zt2, i64_w, i32_w]
       rfl
      refine pure_ (i := 8) (N := some 39) (v := ?_) (a' := ?_) (zB 9 47) rfl rfl (any_of HT_.out (by kernel_rfl)) (fun _ _ _ h => h) (Or.inl ⟨by rfl, ?_⟩) ?_ ?_
      rotate_left
      ·intro w'
       go_simp
       with_reducible rfl
      rotate_left
      ·simp only [Act.put, zt0, zt1, zt2, i64_w, i32_w]
       rfl
      exact norm_ (by first | (simp only [putAll, Act.put, zt0, zt1, zt2]; done) | (simp only [putAll, Act.put, zt0, zt1, zt2]; rfl)) (hCont (undef, undef) _ hHeld)
     ·skip
      refine take_ (i := 5) (N := some 36) (v := ?_) (a' := ?_) (zB 6 50) rfl rfl (take_ofW HT_.out HW_.out (by kernel_rfl)) (fun _ _ _ h => h) (Or.inl ⟨by rfl, ?_⟩) hHeld ?_ ?_
      rotate_left
      ·rintro w' ⟨s0, s1, s2, s3, s4, s5, s6⟩
       go_simp
       with_reducible rfl
      rotate_left
      ·simp only [Act.put, zt0, zt1, zt2, i64_w, i32_w]
       rfl
      refine one_ (i := 6) (N := some 37) (zB 7 49) rfl rfl (one_of HT_.out (by kernel_rfl)) (by decide) (fun K hK => ?_)
      refine goes_ Try.func45 (by kernel_rfl) rfl #[.agg #[.int .i64 p.f0, .int .i64 p.f1, .int .i64 p.f2, .int .i64 p.f3]] (by rfl) rfl rfl zl_ ?_
      with_reducible refine (ladingref14_none.calls _ _ _ _ _ _ K1.out).mono ?_
      rintro e w3 ⟨rfl, hb3⟩
      obtain ⟨SH, SZ_⟩ := hHeld
      clear SZ_
      have SH3 := SH.below hb3
      refine ⟨_, rfl, ?_⟩
      refine hK.out _ _ ⟨SH3, ((blk_cell SH3.BP 0).trans rfl), ((blk_cell SH3.BP 1).trans rfl), ((blk_cell SH3.BP 2).trans rfl), ((blk_cell SH3.BP 3).trans rfl), ((blk_cell SH3.BB 0).trans rfl), (HY.out _ SH3.HB)⟩ (fun hHeld => ?_)
      clear hK K
      refine norm_ (a' := ?_) ?_ ?_
      rotate_left
      ·show Act.put _ (some 37) _ = _
       simp only [Act.put, zt0, zt1, zt2, i64_w, i32_w]
       rfl
      refine pure_ (i := 7) (N := some 38) (v := ?_) (a' := ?_) (zB 8 48) rfl rfl (any_of HT_.out (by kernel_rfl)) (fun _ _ _ h => h) (Or.inl ⟨by rfl, ?_⟩) ?_ ?_
      rotate_left
      ·intro w'
       go_simp
       with_reducible rfl
      rotate_left
      ·simp only [Act.put, zt0, zt1, zt2, i64_w, i32_w]
       rfl
      refine pure_ (i := 8) (N := some 39) (v := ?_) (a' := ?_) (zB 9 47) rfl rfl (any_of HT_.out (by kernel_rfl)) (fun _ _ _ h => h) (Or.inl ⟨by rfl, ?_⟩) ?_ ?_
      rotate_left
      ·intro w'
       go_simp
       with_reducible rfl
      rotate_left
      ·simp only [Act.put, zt0, zt1, zt2, i64_w, i32_w]
       rfl
      exact norm_ (by first | (simp only [putAll, Act.put, zt0, zt1, zt2]; done) | (simp only [putAll, Act.put, zt0, zt1, zt2]; rfl)) (hCont ((.agg #[.int .i64 p.f0, .int .i64 p.f1, .int .i64 p.f2, .int .i64 p.f3]), (.bool zb)) _ hHeld)
    intro s w' hHeld
    obtain ⟨sv36, sv37⟩ := s
    refine norm_ (a' := ?_) ?_ ?_
    rotate_left
    ·simp only [putAll, Act.put, zt0, zt1, zt2]
     rfl
    generalize hB : (b0 || zb) = b1
    have HBb1 := Aside0.mk hB
    clear hB
    refine join_ (σ := Value × Value × Value × Value × Value × Value × Value × Value × Value × Value × Value × Value × Value × Value) 31 (zB 25 31) (fun s => [(40, s.1), (41, s.2.1), (42, s.2.2.1), (43, s.2.2.2.1), (44, s.2.2.2.2.1), (45, s.2.2.2.2.2.1), (46, s.2.2.2.2.2.2.1), (47, s.2.2.2.2.2.2.2.1), (48, s.2.2.2.2.2.2.2.2.1), (49, s.2.2.2.2.2.2.2.2.2.1), (50, s.2.2.2.2.2.2.2.2.2.2.1), (51, s.2.2.2.2.2.2.2.2.2.2.2.1), (52, s.2.2.2.2.2.2.2.2.2.2.2.2.1), (53, s.2.2.2.2.2.2.2.2.2.2.2.2.2), (54, .bool (b1 || (di && decide (p.f0 ≤ pv)))), (55, .bool (b1 || (di && decide (p.f0 ≤ pv))))]) (fun _ w' => ladingref14_Check.S3 w w' gb gp (some ad) c0_0 l0_0 A0_1 c0_1 l0_1 31 (pcells p) ∧ w'.cell? ⟨gp, 0, none⟩ = some (.int .i64 p.f0) ∧ w'.cell? ⟨gp, 1, none⟩ = some (.int .i64 p.f1) ∧ w'.cell? ⟨gp, 2, none⟩ = some (.int .i64 p.f2) ∧ w'.cell? ⟨gp, 3, none⟩ = some (.int .i64 p.f3) ∧ w'.cell? ⟨gb, 0, none⟩ = some (.slice (some ad) l0_0.length c0_0) ∧ w'.cell? (ad.add ((i - 1) * 4)) = some (.int .i64 pv)) ?_ ?_
    rotate_left
    ·intro hCont
     rcases (show b1 = true ∨ (b1 = false ∧ di = true) ∨ (b1 = false ∧ di = false) by cases b1 <;> cases di <;> simp) with rfl | ⟨rfl, rfl⟩ | ⟨rfl, rfl⟩
     ·skip
      refine pure_ (i := 9) (N := some 40) (v := undef) (a' := ?_) (zB 10 46) rfl rfl (any_of HT_.out (by kernel_rfl)) (fun _ _ _ h => h) (Or.inr ⟨by rfl, rfl⟩) ?_ ?_
      rotate_left
      ·simp only [Act.put, zt0, zt1, zt2, i64_w, i32_w]
       rfl
      refine pure_ (i := 10) (N := some 41) (v := undef) (a' := ?_) (zB 11 45) rfl rfl (any_of HT_.out (by kernel_rfl)) (fun _ _ _ h => h) (Or.inr ⟨by rfl, rfl⟩) ?_ ?_
      rotate_left
      ·simp only [Act.put, zt0, zt1, zt2, i64_w, i32_w]
       rfl
      refine pure_ (i := 11) (N := some 42) (v := undef) (a' := ?_) (zB 12 44) rfl rfl (any_of HT_.out (by kernel_rfl)) (fun _ _ _ h => h) (Or.inr ⟨by rfl, rfl⟩) ?_ ?_
      rotate_left
      ·simp only [Act.put, zt0, zt1, zt2, i64_w, i32_w]
       rfl
      refine pure_ (i := 12) (N := some 43) (v := undef) (a' := ?_) (zB 13 43) rfl rfl (any_of HT_.out (by kernel_rfl)) (fun _ _ _ h => h) (Or.inr ⟨by rfl, rfl⟩) ?_ ?_
      rotate_left
      ·simp only [Act.put, zt0, zt1, zt2, i64_w, i32_w]
       rfl
      refine pure_ (i := 13) (N := some 44) (v := undef) (a' := ?_) (zB 14 42) rfl rfl (any_of HT_.out (by kernel_rfl)) (fun _ _ _ h => h) (Or.inr ⟨by rfl, rfl⟩) ?_ ?_
      rotate_left
      ·simp only [Act.put, zt0, zt1, zt2, i64_w, i32_w]
       rfl
      refine pure_ (i := 14) (N := some 45) (v := undef) (a' := ?_) (zB 15 41) rfl rfl (any_of HT_.out (by kernel_rfl)) (fun _ _ _ h => h) (Or.inr ⟨by rfl, rfl⟩) ?_ ?_
      rotate_left
      ·simp only [Act.put, zt0, zt1, zt2, i64_w, i32_w]
       rfl
      refine pure_ (i := 15) (N := some 46) (v := undef) (a' := ?_) (zB 16 40) rfl rfl (any_of HT_.out (by kernel_rfl)) (fun _ _ _ h => h) (Or.inr ⟨by rfl, rfl⟩) ?_ ?_
      rotate_left
      ·simp only [Act.put, zt0, zt1, zt2, i64_w, i32_w]
       rfl
      refine pure_ (i := 16) (N := some 47) (v := undef) (a' := ?_) (zB 17 39) rfl rfl (any_of HT_.out (by kernel_rfl)) (fun _ _ _ h => h) (Or.inr ⟨by rfl, rfl⟩) ?_ ?_
      rotate_left
      ·simp only [Act.put, zt0, zt1, zt2, i64_w, i32_w]
       rfl
      refine pure_ (i := 17) (N := some 48) (v := undef) (a' := ?_) (zB 18 38) rfl rfl (any_of HT_.out (by kernel_rfl)) (fun _ _ _ h => h) (Or.inr ⟨by rfl, rfl⟩) ?_ ?_
      rotate_left
      ·simp only [Act.put, zt0, zt1, zt2, i64_w, i32_w]
       rfl
      refine pure_ (i := 18) (N := some 49) (v := undef) (a' := ?_) (zB 19 37) rfl rfl (any_of HT_.out (by kernel_rfl)) (fun _ _ _ h => h) (Or.inr ⟨by rfl, rfl⟩) ?_ ?_
      rotate_left
      ·simp only [Act.put, zt0, zt1, zt2, i64_w, i32_w]
       rfl
      refine pure_ (i := 19) (N := some 50) (v := undef) (a' := ?_) (zB 20 36) rfl rfl (any_of HT_.out (by kernel_rfl)) (fun _ _ _ h => h) (Or.inr ⟨by rfl, rfl⟩) ?_ ?_
      rotate_left
      ·simp only [Act.put, zt0, zt1, zt2, i64_w, i32_w]
       rfl
      refine pure_ (i := 20) (N := some 51) (v := undef) (a' := ?_) (zB 21 35) rfl rfl (any_of HT_.out (by kernel_rfl)) (fun _ _ _ h => h) (Or.inr ⟨by rfl, rfl⟩) ?_ ?_
      rotate_left
      ·simp only [Act.put, zt0, zt1, zt2, i64_w, i32_w]
       rfl
      refine pure_ (i := 21) (N := some 52) (v := undef) (a' := ?_) (zB 22 34) rfl rfl (any_of HT_.out (by kernel_rfl)) (fun _ _ _ h => h) (Or.inr ⟨by rfl, rfl⟩) ?_ ?_
      rotate_left
      ·simp only [Act.put, zt0, zt1, zt2, i64_w, i32_w]
       rfl
      refine pure_ (i := 22) (N := some 53) (v := undef) (a' := ?_) (zB 23 33) rfl rfl (any_of HT_.out (by kernel_rfl)) (fun _ _ _ h => h) (Or.inr ⟨by rfl, rfl⟩) ?_ ?_
      rotate_left
      ·simp only [Act.put, zt0, zt1, zt2, i64_w, i32_w]
       rfl
      refine pure_ (i := 23) (N := some 54) (v := ?_) (a' := ?_) (zB 24 32) rfl rfl (any_of HT_.out (by kernel_rfl)) (fun _ _ _ h => h) (Or.inl ⟨by rfl, ?_⟩) ?_ ?_
      rotate_left
      ·intro w'
       go_simp
       with_reducible rfl
      rotate_left
      ·simp only [Act.put, zt0, zt1, zt2, i64_w, i32_w]
       rfl
      refine pure_ (i := 24) (N := some 55) (v := ?_) (a' := ?_) (zB 25 31) rfl rfl (any_of HT_.out (by kernel_rfl)) (fun _ _ _ h => h) (Or.inl ⟨by rfl, ?_⟩) ?_ ?_
      rotate_left
      ·intro w'
       go_simp
       with_reducible rfl
      rotate_left
      ·simp only [Act.put, zt0, zt1, zt2, i64_w, i32_w]
       rfl
      exact norm_ (by first | (simp only [putAll, Act.put, zt0, zt1, zt2]; done) | (simp only [putAll, Act.put, zt0, zt1, zt2]; rfl)) (hCont (undef, undef, undef, undef, undef, undef, undef, undef, undef, undef, undef, undef, undef, undef) _ hHeld)
     ·skip
      have h2 : 0 < i := by have := of_decide_eq_true HDI.out; omega
      have hdi := HDI.out
      have hdn : decide (0 < i) = true := decide_eq_true h2
      have hs1 : IntKind.i64.wrap ((i : Int) - 1) = ((i - 1 : Nat) : Int) := by have := HL.out; have := HLT.out; rw [IntKind.wrap_i64]; omega
      have hs2 : wrap64 ((i : Int) - 1) = ((i - 1 : Nat) : Int) := by have := HL.out; have := HLT.out; unfold wrap64; omega
      refine pure_ (i := 9) (N := some 40) (v := ?_) (a' := ?_) (zB 10 46) rfl rfl (any_of HT_.out (by kernel_rfl)) (fun _ _ _ h => h) (Or.inl ⟨by rfl, ?_⟩) ?_ ?_
      rotate_left
      ·intro w'
       go_simp
       with_reducible rfl
      rotate_left
      ·simp only [Act.put, zt0, zt1, zt2, i64_w, i32_w]
       rfl
      refine pure_ (i := 10) (N := some 41) (v := ?_) (a' := ?_) (zB 11 45) rfl rfl (any_of HT_.out (by kernel_rfl)) (fun _ _ _ h => h) (Or.inl ⟨by rfl, ?_⟩) ?_ ?_
      rotate_left
      ·intro w'
       go_simp
       with_reducible rfl
      rotate_left
      ·simp only [Act.put, zt0, zt1, zt2, i64_w, i32_w]
       rfl
      refine pure_ (i := 11) (N := some 42) (v := ?_) (a' := ?_) (zB 12 44) rfl rfl (any_of HT_.out (by kernel_rfl)) (fun _ _ _ h => h) (Or.inl ⟨by rfl, ?_⟩) ?_ ?_
      rotate_left
      ·intro w'
       go_simp
       with_reducible rfl
      rotate_left
      ·simp only [Act.put, zt0, zt1, zt2, i64_w, i32_w]
       rfl
      refine pure_ (i := 12) (N := some 43) (v := ?_) (a' := ?_) (zB 13 43) rfl rfl (any_of HT_.out (by kernel_rfl)) (fun _ _ _ h => h) (Or.inl ⟨by rfl, ?_⟩) ?_ ?_
      rotate_left
      ·intro w'
       go_simp
       with_reducible rfl
      rotate_left
      ·simp only [Act.put, zt0, zt1, zt2, i64_w, i32_w]
       rfl
      refine take_ (i := 13) (N := some 44) (v := ?_) (a' := ?_) (zB 14 42) rfl rfl (take_ofW HT_.out HW_.out (by kernel_rfl)) (fun _ _ _ h => h) (Or.inl ⟨by rfl, ?_⟩) hHeld ?_ ?_
      rotate_left
      ·rintro w' ⟨s0, s1, s2, s3, s4, s5, s6⟩
       go_simp
       with_reducible rfl
      rotate_left
      ·simp only [Act.put, zt0, zt1, zt2, i64_w, i32_w]
       rfl
      refine pure_ (i := 14) (N := some 45) (v := ?_) (a' := ?_) (zB 15 41) rfl rfl (any_of HT_.out (by kernel_rfl)) (fun _ _ _ h => h) (Or.inl ⟨by rfl, ?_⟩) ?_ ?_
      rotate_left
      ·intro w'
       go_simp
       with_reducible rfl
      rotate_left
      ·simp only [Act.put, zt0, zt1, zt2, i64_w, i32_w]
       rfl
      refine pure_ (i := 15) (N := some 46) (v := ?_) (a' := ?_) (zB 16 40) rfl rfl (any_of HT_.out (by kernel_rfl)) (fun _ _ _ h => h) (Or.inl ⟨by rfl, ?_⟩) ?_ ?_
      rotate_left
      ·intro w'
       go_simp
       with_reducible rfl
      rotate_left
      ·simp only [Act.put, zt0, zt1, zt2, i64_w, i32_w]
       rfl
      refine pure_ (i := 16) (N := some 47) (v := ?_) (a' := ?_) (zB 17 39) rfl rfl (any_of HT_.out (by kernel_rfl)) (fun _ _ _ h => h) (Or.inl ⟨by rfl, ?_⟩) ?_ ?_
      rotate_left
      ·intro w'
       go_simp
       with_reducible rfl
      rotate_left
      ·simp only [Act.put, zt0, zt1, zt2, i64_w, i32_w]
       rfl
      refine pure_ (i := 17) (N := some 48) (v := ?_) (a' := ?_) (zB 18 38) rfl rfl (any_of HT_.out (by kernel_rfl)) (fun _ _ _ h => h) (Or.inl ⟨by rfl, ?_⟩) ?_ ?_
      rotate_left
      ·intro w'
       go_simp
       with_reducible rfl
      rotate_left
      ·simp only [Act.put, zt0, zt1, zt2, i64_w, i32_w]
       rfl
      refine take_ (i := 18) (N := some 49) (v := ?_) (a' := ?_) (zB 19 37) rfl rfl (take_ofW HT_.out HW_.out (by kernel_rfl)) (fun _ _ _ h => h) (Or.inl ⟨by rfl, ?_⟩) hHeld ?_ ?_
      rotate_left
      ·rintro w' ⟨s0, s1, s2, s3, s4, s5, s6⟩
       go_simp
       with_reducible rfl
      rotate_left
      ·simp only [Act.put, zt0, zt1, zt2, i64_w, i32_w]
       rfl
      refine pure_ (i := 19) (N := some 50) (v := ?_) (a' := ?_) (zB 20 36) rfl rfl (any_of HT_.out (by kernel_rfl)) (fun _ _ _ h => h) (Or.inl ⟨by rfl, ?_⟩) ?_ ?_
      rotate_left
      ·intro w'
       go_simp
       with_reducible rfl
      rotate_left
      ·simp only [Act.put, zt0, zt1, zt2, i64_w, i32_w]
       rfl
      refine take_ (i := 20) (N := some 51) (v := ?_) (a' := ?_) (zB 21 35) rfl rfl (take_ofW HT_.out HW_.out (by kernel_rfl)) (fun _ _ _ h => h) (Or.inl ⟨by rfl, ?_⟩) hHeld ?_ ?_
      rotate_left
      ·rintro w' ⟨s0, s1, s2, s3, s4, s5, s6⟩
       go_simp
       with_reducible rfl
      rotate_left
      ·simp only [Act.put, zt0, zt1, zt2, i64_w, i32_w]
       rfl
      refine pure_ (i := 21) (N := some 52) (v := ?_) (a' := ?_) (zB 22 34) rfl rfl (any_of HT_.out (by kernel_rfl)) (fun _ _ _ h => h) (Or.inl ⟨by rfl, ?_⟩) ?_ ?_
      rotate_left
      ·intro w'
       go_simp
       with_reducible rfl
      rotate_left
      ·simp only [Act.put, zt0, zt1, zt2, i64_w, i32_w]
       rfl
      refine pure_ (i := 22) (N := some 53) (v := ?_) (a' := ?_) (zB 23 33) rfl rfl (any_of HT_.out (by kernel_rfl)) (fun _ _ _ h => h) (Or.inl ⟨by rfl, ?_⟩) ?_ ?_
      rotate_left
      ·intro w'
       go_simp
       with_reducible rfl
      rotate_left
      ·simp only [Act.put, zt0, zt1, zt2, i64_w, i32_w]
       rfl
      refine pure_ (i := 23) (N := some 54) (v := ?_) (a' := ?_) (zB 24 32) rfl rfl (any_of HT_.out (by kernel_rfl)) (fun _ _ _ h => h) (Or.inl ⟨by rfl, ?_⟩) ?_ ?_
      rotate_left
      ·intro w'
       go_simp
       with_reducible rfl
      rotate_left
      ·simp only [Act.put, zt0, zt1, zt2, i64_w, i32_w]
       rfl
      refine pure_ (i := 24) (N := some 55) (v := ?_) (a' := ?_) (zB 25 31) rfl rfl (any_of HT_.out (by kernel_rfl)) (fun _ _ _ h => h) (Or.inl ⟨by rfl, ?_⟩) ?_ ?_
      rotate_left
      ·intro w'
       go_simp
       with_reducible rfl
      rotate_left
      ·simp only [Act.put, zt0, zt1, zt2, i64_w, i32_w]
       rfl
      exact norm_ (by first | (simp only [putAll, Act.put, zt0, zt1, zt2]; done) | (simp only [putAll, Act.put, zt0, zt1, zt2]; rfl)) (hCont ((.int .i64 i), (.bool true), (.bool true), (.pointer (some ⟨gb, 0, none⟩)), (.slice (some ad) l0_0.length c0_0), (.int .i64 i), (.int .i64 ((i - 1 : Nat) : Int)), (.pointer (some (ad.add ((i - 1) * 4)))), (.pointer (some (ad.add ((i - 1) * 4)))), (.int .i64 pv), (.pointer (some ⟨gp, 0, none⟩)), (.int .i64 p.f0), (.bool (decide (p.f0 ≤ pv))), (.bool (decide (p.f0 ≤ pv)))) _ hHeld)
     ·skip
      have hdi := HDI.out
      have hdn : decide (0 < i) = false := decide_eq_false (by have := of_decide_eq_false HDI.out; omega)
      refine pure_ (i := 9) (N := some 40) (v := ?_) (a' := ?_) (zB 10 46) rfl rfl (any_of HT_.out (by kernel_rfl)) (fun _ _ _ h => h) (Or.inl ⟨by rfl, ?_⟩) ?_ ?_
      rotate_left
      ·intro w'
       go_simp
       with_reducible rfl
      rotate_left
      ·simp only [Act.put, zt0, zt1, zt2, i64_w, i32_w]
       rfl
      refine pure_ (i := 10) (N := some 41) (v := ?_) (a' := ?_) (zB 11 45) rfl rfl (any_of HT_.out (by kernel_rfl)) (fun _ _ _ h => h) (Or.inl ⟨by rfl, ?_⟩) ?_ ?_
      rotate_left
      ·intro w'
       go_simp
       with_reducible rfl
      rotate_left
      ·simp only [Act.put, zt0, zt1, zt2, i64_w, i32_w]
       rfl
      refine pure_ (i := 11) (N := some 42) (v := ?_) (a' := ?_) (zB 12 44) rfl rfl (any_of HT_.out (by kernel_rfl)) (fun _ _ _ h => h) (Or.inl ⟨by rfl, ?_⟩) ?_ ?_
      rotate_left
      ·intro w'
       go_simp
       with_reducible rfl
      rotate_left
      ·simp only [Act.put, zt0, zt1, zt2, i64_w, i32_w]
       rfl
      refine pure_ (i := 12) (N := some 43) (v := undef) (a' := ?_) (zB 13 43) rfl rfl (any_of HT_.out (by kernel_rfl)) (fun _ _ _ h => h) (Or.inr ⟨by rfl, rfl⟩) ?_ ?_
      rotate_left
      ·simp only [Act.put, zt0, zt1, zt2, i64_w, i32_w]
       rfl
      refine pure_ (i := 13) (N := some 44) (v := undef) (a' := ?_) (zB 14 42) rfl rfl (any_of HT_.out (by kernel_rfl)) (fun _ _ _ h => h) (Or.inr ⟨by rfl, rfl⟩) ?_ ?_
      rotate_left
      ·simp only [Act.put, zt0, zt1, zt2, i64_w, i32_w]
       rfl
      refine pure_ (i := 14) (N := some 45) (v := undef) (a' := ?_) (zB 15 41) rfl rfl (any_of HT_.out (by kernel_rfl)) (fun _ _ _ h => h) (Or.inr ⟨by rfl, rfl⟩) ?_ ?_
      rotate_left
      ·simp only [Act.put, zt0, zt1, zt2, i64_w, i32_w]
       rfl
      refine pure_ (i := 15) (N := some 46) (v := undef) (a' := ?_) (zB 16 40) rfl rfl (any_of HT_.out (by kernel_rfl)) (fun _ _ _ h => h) (Or.inr ⟨by rfl, rfl⟩) ?_ ?_
      rotate_left
      ·simp only [Act.put, zt0, zt1, zt2, i64_w, i32_w]
       rfl
      refine pure_ (i := 16) (N := some 47) (v := undef) (a' := ?_) (zB 17 39) rfl rfl (any_of HT_.out (by kernel_rfl)) (fun _ _ _ h => h) (Or.inr ⟨by rfl, rfl⟩) ?_ ?_
      rotate_left
      ·simp only [Act.put, zt0, zt1, zt2, i64_w, i32_w]
       rfl
      refine pure_ (i := 17) (N := some 48) (v := undef) (a' := ?_) (zB 18 38) rfl rfl (any_of HT_.out (by kernel_rfl)) (fun _ _ _ h => h) (Or.inr ⟨by rfl, rfl⟩) ?_ ?_
      rotate_left
      ·simp only [Act.put, zt0, zt1, zt2, i64_w, i32_w]
       rfl
      refine pure_ (i := 18) (N := some 49) (v := undef) (a' := ?_) (zB 19 37) rfl rfl (any_of HT_.out (by kernel_rfl)) (fun _ _ _ h => h) (Or.inr ⟨by rfl, rfl⟩) ?_ ?_
      rotate_left
      ·simp only [Act.put, zt0, zt1, zt2, i64_w, i32_w]
       rfl
      refine pure_ (i := 19) (N := some 50) (v := undef) (a' := ?_) (zB 20 36) rfl rfl (any_of HT_.out (by kernel_rfl)) (fun _ _ _ h => h) (Or.inr ⟨by rfl, rfl⟩) ?_ ?_
      rotate_left
      ·simp only [Act.put, zt0, zt1, zt2, i64_w, i32_w]
       rfl
      refine pure_ (i := 20) (N := some 51) (v := undef) (a' := ?_) (zB 21 35) rfl rfl (any_of HT_.out (by kernel_rfl)) (fun _ _ _ h => h) (Or.inr ⟨by rfl, rfl⟩) ?_ ?_
      rotate_left
      ·simp only [Act.put, zt0, zt1, zt2, i64_w, i32_w]
       rfl
      refine pure_ (i := 21) (N := some 52) (v := undef) (a' := ?_) (zB 22 34) rfl rfl (any_of HT_.out (by kernel_rfl)) (fun _ _ _ h => h) (Or.inr ⟨by rfl, rfl⟩) ?_ ?_
      rotate_left
      ·simp only [Act.put, zt0, zt1, zt2, i64_w, i32_w]
       rfl
      refine pure_ (i := 22) (N := some 53) (v := ?_) (a' := ?_) (zB 23 33) rfl rfl (any_of HT_.out (by kernel_rfl)) (fun _ _ _ h => h) (Or.inl ⟨by rfl, ?_⟩) ?_ ?_
      rotate_left
      ·intro w'
       go_simp
       with_reducible rfl
      rotate_left
      ·simp only [Act.put, zt0, zt1, zt2, i64_w, i32_w]
       rfl
      refine pure_ (i := 23) (N := some 54) (v := ?_) (a' := ?_) (zB 24 32) rfl rfl (any_of HT_.out (by kernel_rfl)) (fun _ _ _ h => h) (Or.inl ⟨by rfl, ?_⟩) ?_ ?_
      rotate_left
      ·intro w'
       go_simp
       with_reducible rfl
      rotate_left
      ·simp only [Act.put, zt0, zt1, zt2, i64_w, i32_w]
       rfl
      refine pure_ (i := 24) (N := some 55) (v := ?_) (a' := ?_) (zB 25 31) rfl rfl (any_of HT_.out (by kernel_rfl)) (fun _ _ _ h => h) (Or.inl ⟨by rfl, ?_⟩) ?_ ?_
      rotate_left
      ·intro w'
       go_simp
       with_reducible rfl
      rotate_left
      ·simp only [Act.put, zt0, zt1, zt2, i64_w, i32_w]
       rfl
      exact norm_ (by first | (simp only [putAll, Act.put, zt0, zt1, zt2]; done) | (simp only [putAll, Act.put, zt0, zt1, zt2]; rfl)) (hCont ((.int .i64 i), (.bool false), (.bool false), undef, undef, undef, undef, undef, undef, undef, undef, undef, undef, (.bool false)) _ hHeld)
    intro s w' hHeld
    obtain ⟨sv40, sv41, sv42, sv43, sv44, sv45, sv46, sv47, sv48, sv49, sv50, sv51, sv52, sv53⟩ := s
    refine norm_ (a' := ?_) ?_ ?_
    rotate_left
    ·simp only [putAll, Act.put, zt0, zt1, zt2]
     rfl
    generalize hB : (b1 || (di && decide (p.f0 ≤ pv))) = b2
    have HBb2 := Aside0.mk hB
    clear hB
    refine join_ (σ := Value × Value × Value) 26 (zB 30 26) (fun s => [(56, s.1), (57, s.2.1), (58, s.2.2), (59, .bool (b2 || decide (p.f1 < 0))), (60, .bool (b2 || decide (p.f1 < 0)))]) (fun _ w' => ladingref14_Check.S3 w w' gb gp (some ad) c0_0 l0_0 A0_1 c0_1 l0_1 31 (pcells p) ∧ w'.cell? ⟨gp, 0, none⟩ = some (.int .i64 p.f0) ∧ w'.cell? ⟨gp, 1, none⟩ = some (.int .i64 p.f1) ∧ w'.cell? ⟨gp, 2, none⟩ = some (.int .i64 p.f2) ∧ w'.cell? ⟨gp, 3, none⟩ = some (.int .i64 p.f3) ∧ w'.cell? ⟨gb, 0, none⟩ = some (.slice (some ad) l0_0.length c0_0) ∧ w'.cell? (ad.add ((i - 1) * 4)) = some (.int .i64 pv)) ?_ ?_
    rotate_left
    ·intro hCont
     rcases Bool.eq_false_or_eq_true b2 with rfl | rfl
     ·skip
      refine pure_ (i := 25) (N := some 56) (v := undef) (a' := ?_) (zB 26 30) rfl rfl (any_of HT_.out (by kernel_rfl)) (fun _ _ _ h => h) (Or.inr ⟨by rfl, rfl⟩) ?_ ?_
      rotate_left
      ·simp only [Act.put, zt0, zt1, zt2, i64_w, i32_w]
       rfl
      refine pure_ (i := 26) (N := some 57) (v := undef) (a' := ?_) (zB 27 29) rfl rfl (any_of HT_.out (by kernel_rfl)) (fun _ _ _ h => h) (Or.inr ⟨by rfl, rfl⟩) ?_ ?_
      rotate_left
      ·simp only [Act.put, zt0, zt1, zt2, i64_w, i32_w]
       rfl
      refine pure_ (i := 27) (N := some 58) (v := undef) (a' := ?_) (zB 28 28) rfl rfl (any_of HT_.out (by kernel_rfl)) (fun _ _ _ h => h) (Or.inr ⟨by rfl, rfl⟩) ?_ ?_
      rotate_left
      ·simp only [Act.put, zt0, zt1, zt2, i64_w, i32_w]
       rfl
      refine pure_ (i := 28) (N := some 59) (v := ?_) (a' := ?_) (zB 29 27) rfl rfl (any_of HT_.out (by kernel_rfl)) (fun _ _ _ h => h) (Or.inl ⟨by rfl, ?_⟩) ?_ ?_
      rotate_left
      ·intro w'
       go_simp
       with_reducible rfl
      rotate_left
      ·simp only [Act.put, zt0, zt1, zt2, i64_w, i32_w]
       rfl
      refine pure_ (i := 29) (N := some 60) (v := ?_) (a' := ?_) (zB 30 26) rfl rfl (any_of HT_.out (by kernel_rfl)) (fun _ _ _ h => h) (Or.inl ⟨by rfl, ?_⟩) ?_ ?_
      rotate_left
      ·intro w'
       go_simp
       with_reducible rfl
      rotate_left
      ·simp only [Act.put, zt0, zt1, zt2, i64_w, i32_w]
       rfl
      exact norm_ (by first | (simp only [putAll, Act.put, zt0, zt1, zt2]; done) | (simp only [putAll, Act.put, zt0, zt1, zt2]; rfl)) (hCont (undef, undef, undef) _ hHeld)
     ·skip
      refine pure_ (i := 25) (N := some 56) (v := ?_) (a' := ?_) (zB 26 30) rfl rfl (any_of HT_.out (by kernel_rfl)) (fun _ _ _ h => h) (Or.inl ⟨by rfl, ?_⟩) ?_ ?_
      rotate_left
      ·intro w'
       go_simp
       with_reducible rfl
      rotate_left
      ·simp only [Act.put, zt0, zt1, zt2, i64_w, i32_w]
       rfl
      refine take_ (i := 26) (N := some 57) (v := ?_) (a' := ?_) (zB 27 29) rfl rfl (take_ofW HT_.out HW_.out (by kernel_rfl)) (fun _ _ _ h => h) (Or.inl ⟨by rfl, ?_⟩) hHeld ?_ ?_
      rotate_left
      ·rintro w' ⟨s0, s1, s2, s3, s4, s5, s6⟩
       go_simp
       with_reducible rfl
      rotate_left
      ·simp only [Act.put, zt0, zt1, zt2, i64_w, i32_w]
       rfl
      refine pure_ (i := 27) (N := some 58) (v := ?_) (a' := ?_) (zB 28 28) rfl rfl (any_of HT_.out (by kernel_rfl)) (fun _ _ _ h => h) (Or.inl ⟨by rfl, ?_⟩) ?_ ?_
      rotate_left
      ·intro w'
       go_simp
       with_reducible rfl
      rotate_left
      ·simp only [Act.put, zt0, zt1, zt2, i64_w, i32_w]
       rfl
      refine pure_ (i := 28) (N := some 59) (v := ?_) (a' := ?_) (zB 29 27) rfl rfl (any_of HT_.out (by kernel_rfl)) (fun _ _ _ h => h) (Or.inl ⟨by rfl, ?_⟩) ?_ ?_
      rotate_left
      ·intro w'
       go_simp
       with_reducible rfl
      rotate_left
      ·simp only [Act.put, zt0, zt1, zt2, i64_w, i32_w]
       rfl
      refine pure_ (i := 29) (N := some 60) (v := ?_) (a' := ?_) (zB 30 26) rfl rfl (any_of HT_.out (by kernel_rfl)) (fun _ _ _ h => h) (Or.inl ⟨by rfl, ?_⟩) ?_ ?_
      rotate_left
      ·intro w'
       go_simp
       with_reducible rfl
      rotate_left
      ·simp only [Act.put, zt0, zt1, zt2, i64_w, i32_w]
       rfl
      exact norm_ (by first | (simp only [putAll, Act.put, zt0, zt1, zt2]; done) | (simp only [putAll, Act.put, zt0, zt1, zt2]; rfl)) (hCont ((.pointer (some ⟨gp, 1, none⟩)), (.int .i64 p.f1), (.bool (decide (p.f1 < 0)))) _ hHeld)
    intro s w' hHeld
    obtain ⟨sv56, sv57, sv58⟩ := s
    refine norm_ (a' := ?_) ?_ ?_
    rotate_left
    ·simp only [putAll, Act.put, zt0, zt1, zt2]
     rfl
    generalize hB : (b2 || decide (p.f1 < 0)) = b3
    have HBb3 := Aside0.mk hB
    clear hB
    refine join_ (σ := Value × Value × Value) 21 (zB 35 21) (fun s => [(61, s.1), (62, s.2.1), (63, s.2.2), (64, .bool (b3 || decide (1152921504606846976 < p.f1))), (65, .bool (b3 || decide (1152921504606846976 < p.f1)))]) (fun _ w' => ladingref14_Check.S3 w w' gb gp (some ad) c0_0 l0_0 A0_1 c0_1 l0_1 31 (pcells p) ∧ w'.cell? ⟨gp, 0, none⟩ = some (.int .i64 p.f0) ∧ w'.cell? ⟨gp, 1, none⟩ = some (.int .i64 p.f1) ∧ w'.cell? ⟨gp, 2, none⟩ = some (.int .i64 p.f2) ∧ w'.cell? ⟨gp, 3, none⟩ = some (.int .i64 p.f3) ∧ w'.cell? ⟨gb, 0, none⟩ = some (.slice (some ad) l0_0.length c0_0) ∧ w'.cell? (ad.add ((i - 1) * 4)) = some (.int .i64 pv)) ?_ ?_
    rotate_left
    ·intro hCont
     rcases Bool.eq_false_or_eq_true b3 with rfl | rfl
     ·skip
      refine pure_ (i := 30) (N := some 61) (v := undef) (a' := ?_) (zB 31 25) rfl rfl (any_of HT_.out (by kernel_rfl)) (fun _ _ _ h => h) (Or.inr ⟨by rfl, rfl⟩) ?_ ?_
      rotate_left
      ·simp only [Act.put, zt0, zt1, zt2, i64_w, i32_w]
       rfl
      refine pure_ (i := 31) (N := some 62) (v := undef) (a' := ?_) (zB 32 24) rfl rfl (any_of HT_.out (by kernel_rfl)) (fun _ _ _ h => h) (Or.inr ⟨by rfl, rfl⟩) ?_ ?_
      rotate_left
      ·simp only [Act.put, zt0, zt1, zt2, i64_w, i32_w]
       rfl
      refine pure_ (i := 32) (N := some 63) (v := undef) (a' := ?_) (zB 33 23) rfl rfl (any_of HT_.out (by kernel_rfl)) (fun _ _ _ h => h) (Or.inr ⟨by rfl, rfl⟩) ?_ ?_
      rotate_left
      ·simp only [Act.put, zt0, zt1, zt2, i64_w, i32_w]
       rfl
      refine pure_ (i := 33) (N := some 64) (v := ?_) (a' := ?_) (zB 34 22) rfl rfl (any_of HT_.out (by kernel_rfl)) (fun _ _ _ h => h) (Or.inl ⟨by rfl, ?_⟩) ?_ ?_
      rotate_left
      ·intro w'
       go_simp
       with_reducible rfl
      rotate_left
      ·simp only [Act.put, zt0, zt1, zt2, i64_w, i32_w]
       rfl
      refine pure_ (i := 34) (N := some 65) (v := ?_) (a' := ?_) (zB 35 21) rfl rfl (any_of HT_.out (by kernel_rfl)) (fun _ _ _ h => h) (Or.inl ⟨by rfl, ?_⟩) ?_ ?_
      rotate_left
      ·intro w'
       go_simp
       with_reducible rfl
      rotate_left
      ·simp only [Act.put, zt0, zt1, zt2, i64_w, i32_w]
       rfl
      exact norm_ (by first | (simp only [putAll, Act.put, zt0, zt1, zt2]; done) | (simp only [putAll, Act.put, zt0, zt1, zt2]; rfl)) (hCont (undef, undef, undef) _ hHeld)
     ·skip
      refine pure_ (i := 30) (N := some 61) (v := ?_) (a' := ?_) (zB 31 25) rfl rfl (any_of HT_.out (by kernel_rfl)) (fun _ _ _ h => h) (Or.inl ⟨by rfl, ?_⟩) ?_ ?_
      rotate_left
      ·intro w'
       go_simp
       with_reducible rfl
      rotate_left
      ·simp only [Act.put, zt0, zt1, zt2, i64_w, i32_w]
       rfl
      refine take_ (i := 31) (N := some 62) (v := ?_) (a' := ?_) (zB 32 24) rfl rfl (take_ofW HT_.out HW_.out (by kernel_rfl)) (fun _ _ _ h => h) (Or.inl ⟨by rfl, ?_⟩) hHeld ?_ ?_
      rotate_left
      ·rintro w' ⟨s0, s1, s2, s3, s4, s5, s6⟩
       go_simp
       with_reducible rfl
      rotate_left
      ·simp only [Act.put, zt0, zt1, zt2, i64_w, i32_w]
       rfl
      refine pure_ (i := 32) (N := some 63) (v := ?_) (a' := ?_) (zB 33 23) rfl rfl (any_of HT_.out (by kernel_rfl)) (fun _ _ _ h => h) (Or.inl ⟨by rfl, ?_⟩) ?_ ?_
      rotate_left
      ·intro w'
       go_simp
       with_reducible rfl
      rotate_left
      ·simp only [Act.put, zt0, zt1, zt2, i64_w, i32_w]
       rfl
      refine pure_ (i := 33) (N := some 64) (v := ?_) (a' := ?_) (zB 34 22) rfl rfl (any_of HT_.out (by kernel_rfl)) (fun _ _ _ h => h) (Or.inl ⟨by rfl, ?_⟩) ?_ ?_
      rotate_left
      ·intro w'
       go_simp
       with_reducible rfl
      rotate_left
      ·simp only [Act.put, zt0, zt1, zt2, i64_w, i32_w]
       rfl
      refine pure_ (i := 34) (N := some 65) (v := ?_) (a' := ?_) (zB 35 21) rfl rfl (any_of HT_.out (by kernel_rfl)) (fun _ _ _ h => h) (Or.inl ⟨by rfl, ?_⟩) ?_ ?_
      rotate_left
      ·intro w'
       go_simp
       with_reducible rfl
      rotate_left
      ·simp only [Act.put, zt0, zt1, zt2, i64_w, i32_w]
       rfl
      exact norm_ (by first | (simp only [putAll, Act.put, zt0, zt1, zt2]; done) | (simp only [putAll, Act.put, zt0, zt1, zt2]; rfl)) (hCont ((.pointer (some ⟨gp, 1, none⟩)), (.int .i64 p.f1), (.bool (decide (1152921504606846976 < p.f1)))) _ hHeld)
    intro s w' hHeld
    obtain ⟨sv61, sv62, sv63⟩ := s
    refine norm_ (a' := ?_) ?_ ?_
    rotate_left
    ·simp only [putAll, Act.put, zt0, zt1, zt2]
     rfl
    generalize hB : (b3 || decide (1152921504606846976 < p.f1)) = b4
    have HBb4 := Aside0.mk hB
    clear hB
    refine join_ (σ := Value × Value × Value) 16 (zB 40 16) (fun s => [(66, s.1), (67, s.2.1), (68, s.2.2), (69, .bool (b4 || decide (p.f2 < 0))), (70, .bool (b4 || decide (p.f2 < 0)))]) (fun _ w' => ladingref14_Check.S3 w w' gb gp (some ad) c0_0 l0_0 A0_1 c0_1 l0_1 31 (pcells p) ∧ w'.cell? ⟨gp, 0, none⟩ = some (.int .i64 p.f0) ∧ w'.cell? ⟨gp, 1, none⟩ = some (.int .i64 p.f1) ∧ w'.cell? ⟨gp, 2, none⟩ = some (.int .i64 p.f2) ∧ w'.cell? ⟨gp, 3, none⟩ = some (.int .i64 p.f3) ∧ w'.cell? ⟨gb, 0, none⟩ = some (.slice (some ad) l0_0.length c0_0) ∧ w'.cell? (ad.add ((i - 1) * 4)) = some (.int .i64 pv)) ?_ ?_
    rotate_left
    ·intro hCont
     rcases Bool.eq_false_or_eq_true b4 with rfl | rfl
     ·skip
      refine pure_ (i := 35) (N := some 66) (v := undef) (a' := ?_) (zB 36 20) rfl rfl (any_of HT_.out (by kernel_rfl)) (fun _ _ _ h => h) (Or.inr ⟨by rfl, rfl⟩) ?_ ?_
      rotate_left
      ·simp only [Act.put, zt0, zt1, zt2, i64_w, i32_w]
       rfl
      refine pure_ (i := 36) (N := some 67) (v := undef) (a' := ?_) (zB 37 19) rfl rfl (any_of HT_.out (by kernel_rfl)) (fun _ _ _ h => h) (Or.inr ⟨by rfl, rfl⟩) ?_ ?_
      rotate_left
      ·simp only [Act.put, zt0, zt1, zt2, i64_w, i32_w]
       rfl
      refine pure_ (i := 37) (N := some 68) (v := undef) (a' := ?_) (zB 38 18) rfl rfl (any_of HT_.out (by kernel_rfl)) (fun _ _ _ h => h) (Or.inr ⟨by rfl, rfl⟩) ?_ ?_
      rotate_left
      ·simp only [Act.put, zt0, zt1, zt2, i64_w, i32_w]
       rfl
      refine pure_ (i := 38) (N := some 69) (v := ?_) (a' := ?_) (zB 39 17) rfl rfl (any_of HT_.out (by kernel_rfl)) (fun _ _ _ h => h) (Or.inl ⟨by rfl, ?_⟩) ?_ ?_
      rotate_left
      ·intro w'
       go_simp
       with_reducible rfl
      rotate_left
      ·simp only [Act.put, zt0, zt1, zt2, i64_w, i32_w]
       rfl
      refine pure_ (i := 39) (N := some 70) (v := ?_) (a' := ?_) (zB 40 16) rfl rfl (any_of HT_.out (by kernel_rfl)) (fun _ _ _ h => h) (Or.inl ⟨by rfl, ?_⟩) ?_ ?_
      rotate_left
      ·intro w'
       go_simp
       with_reducible rfl
      rotate_left
      ·simp only [Act.put, zt0, zt1, zt2, i64_w, i32_w]
       rfl
      exact norm_ (by first | (simp only [putAll, Act.put, zt0, zt1, zt2]; done) | (simp only [putAll, Act.put, zt0, zt1, zt2]; rfl)) (hCont (undef, undef, undef) _ hHeld)
     ·skip
      refine pure_ (i := 35) (N := some 66) (v := ?_) (a' := ?_) (zB 36 20) rfl rfl (any_of HT_.out (by kernel_rfl)) (fun _ _ _ h => h) (Or.inl ⟨by rfl, ?_⟩) ?_ ?_
      rotate_left
      ·intro w'
       go_simp
       with_reducible rfl
      rotate_left
      ·simp only [Act.put, zt0, zt1, zt2, i64_w, i32_w]
       rfl
      refine take_ (i := 36) (N := some 67) (v := ?_) (a' := ?_) (zB 37 19) rfl rfl (take_ofW HT_.out HW_.out (by kernel_rfl)) (fun _ _ _ h => h) (Or.inl ⟨by rfl, ?_⟩) hHeld ?_ ?_
      rotate_left
      ·rintro w' ⟨s0, s1, s2, s3, s4, s5, s6⟩
       go_simp
       with_reducible rfl
      rotate_left
      ·simp only [Act.put, zt0, zt1, zt2, i64_w, i32_w]
       rfl
      refine pure_ (i := 37) (N := some 68) (v := ?_) (a' := ?_) (zB 38 18) rfl rfl (any_of HT_.out (by kernel_rfl)) (fun _ _ _ h => h) (Or.inl ⟨by rfl, ?_⟩) ?_ ?_
      rotate_left
      ·intro w'
       go_simp
       with_reducible rfl
      rotate_left
      ·simp only [Act.put, zt0, zt1, zt2, i64_w, i32_w]
       rfl
      refine pure_ (i := 38) (N := some 69) (v := ?_) (a' := ?_) (zB 39 17) rfl rfl (any_of HT_.out (by kernel_rfl)) (fun _ _ _ h => h) (Or.inl ⟨by rfl, ?_⟩) ?_ ?_
      rotate_left
      ·intro w'
       go_simp
       with_reducible rfl
      rotate_left
      ·simp only [Act.put, zt0, zt1, zt2, i64_w, i32_w]
       rfl
      refine pure_ (i := 39) (N := some 70) (v := ?_) (a' := ?_) (zB 40 16) rfl rfl (any_of HT_.out (by kernel_rfl)) (fun _ _ _ h => h) (Or.inl ⟨by rfl, ?_⟩) ?_ ?_
      rotate_left
      ·intro w'
       go_simp
       with_reducible rfl
      rotate_left
      ·simp only [Act.put, zt0, zt1, zt2, i64_w, i32_w]
       rfl
      exact norm_ (by first | (simp only [putAll, Act.put, zt0, zt1, zt2]; done) | (simp only [putAll, Act.put, zt0, zt1, zt2]; rfl)) (hCont ((.pointer (some ⟨gp, 2, none⟩)), (.int .i64 p.f2), (.bool (decide (p.f2 < 0)))) _ hHeld)
    intro s w' hHeld
    obtain ⟨sv66, sv67, sv68⟩ := s
    refine norm_ (a' := ?_) ?_ ?_
    rotate_left
    ·simp only [putAll, Act.put, zt0, zt1, zt2]
     rfl
    generalize hB : (b4 || decide (p.f2 < 0)) = b5
    have HBb5 := Aside0.mk hB
    clear hB
    refine join_ (σ := Value × Value × Value) 11 (zB 45 11) (fun s => [(71, s.1), (72, s.2.1), (73, s.2.2), (74, .bool (b5 || decide (1152921504606846976 < p.f2))), (75, .bool (b5 || decide (1152921504606846976 < p.f2)))]) (fun _ w' => ladingref14_Check.S3 w w' gb gp (some ad) c0_0 l0_0 A0_1 c0_1 l0_1 31 (pcells p) ∧ w'.cell? ⟨gp, 0, none⟩ = some (.int .i64 p.f0) ∧ w'.cell? ⟨gp, 1, none⟩ = some (.int .i64 p.f1) ∧ w'.cell? ⟨gp, 2, none⟩ = some (.int .i64 p.f2) ∧ w'.cell? ⟨gp, 3, none⟩ = some (.int .i64 p.f3) ∧ w'.cell? ⟨gb, 0, none⟩ = some (.slice (some ad) l0_0.length c0_0) ∧ w'.cell? (ad.add ((i - 1) * 4)) = some (.int .i64 pv)) ?_ ?_
    rotate_left
    ·intro hCont
     rcases Bool.eq_false_or_eq_true b5 with rfl | rfl
     ·skip
      refine pure_ (i := 40) (N := some 71) (v := undef) (a' := ?_) (zB 41 15) rfl rfl (any_of HT_.out (by kernel_rfl)) (fun _ _ _ h => h) (Or.inr ⟨by rfl, rfl⟩) ?_ ?_
      rotate_left
      ·simp only [Act.put, zt0, zt1, zt2, i64_w, i32_w]
       rfl
      refine pure_ (i := 41) (N := some 72) (v := undef) (a' := ?_) (zB 42 14) rfl rfl (any_of HT_.out (by kernel_rfl)) (fun _ _ _ h => h) (Or.inr ⟨by rfl, rfl⟩) ?_ ?_
      rotate_left
      ·simp only [Act.put, zt0, zt1, zt2, i64_w, i32_w]
       rfl
      refine pure_ (i := 42) (N := some 73) (v := undef) (a' := ?_) (zB 43 13) rfl rfl (any_of HT_.out (by kernel_rfl)) (fun _ _ _ h => h) (Or.inr ⟨by rfl, rfl⟩) ?_ ?_
      rotate_left
      ·simp only [Act.put, zt0, zt1, zt2, i64_w, i32_w]
       rfl
      refine pure_ (i := 43) (N := some 74) (v := ?_) (a' := ?_) (zB 44 12) rfl rfl (any_of HT_.out (by kernel_rfl)) (fun _ _ _ h => h) (Or.inl ⟨by rfl, ?_⟩) ?_ ?_
      rotate_left
      ·intro w'
       go_simp
       with_reducible rfl
      rotate_left
      ·simp only [Act.put, zt0, zt1, zt2, i64_w, i32_w]
       rfl
      refine pure_ (i := 44) (N := some 75) (v := ?_) (a' := ?_) (zB 45 11) rfl rfl (any_of HT_.out (by kernel_rfl)) (fun _ _ _ h => h) (Or.inl ⟨by rfl, ?_⟩) ?_ ?_
      rotate_left
      ·intro w'
       go_simp
       with_reducible rfl
      rotate_left
      ·simp only [Act.put, zt0, zt1, zt2, i64_w, i32_w]
       rfl
      exact norm_ (by first | (simp only [putAll, Act.put, zt0, zt1, zt2]; done) | (simp only [putAll, Act.put, zt0, zt1, zt2]; rfl)) (hCont (undef, undef, undef) _ hHeld)
     ·skip
      refine pure_ (i := 40) (N := some 71) (v := ?_) (a' := ?_) (zB 41 15) rfl rfl (any_of HT_.out (by kernel_rfl)) (fun _ _ _ h => h) (Or.inl ⟨by rfl, ?_⟩) ?_ ?_
      rotate_left
      ·intro w'
       go_simp
       with_reducible rfl
      rotate_left
      ·simp only [Act.put, zt0, zt1, zt2, i64_w, i32_w]
       rfl
      refine take_ (i := 41) (N := some 72) (v := ?_) (a' := ?_) (zB 42 14) rfl rfl (take_ofW HT_.out HW_.out (by kernel_rfl)) (fun _ _ _ h => h) (Or.inl ⟨by rfl, ?_⟩) hHeld ?_ ?_
      rotate_left
      ·rintro w' ⟨s0, s1, s2, s3, s4, s5, s6⟩
       go_simp
       with_reducible rfl
      rotate_left
      ·simp only [Act.put, zt0, zt1, zt2, i64_w, i32_w]
       rfl
      refine pure_ (i := 42) (N := some 73) (v := ?_) (a' := ?_) (zB 43 13) rfl rfl (any_of HT_.out (by kernel_rfl)) (fun _ _ _ h => h) (Or.inl ⟨by rfl, ?_⟩) ?_ ?_
      rotate_left
      ·intro w'
       go_simp
       with_reducible rfl
      rotate_left
      ·simp only [Act.put, zt0, zt1, zt2, i64_w, i32_w]
       rfl
      refine pure_ (i := 43) (N := some 74) (v := ?_) (a' := ?_) (zB 44 12) rfl rfl (any_of HT_.out (by kernel_rfl)) (fun _ _ _ h => h) (Or.inl ⟨by rfl, ?_⟩) ?_ ?_
      rotate_left
      ·intro w'
       go_simp
       with_reducible rfl
      rotate_left
      ·simp only [Act.put, zt0, zt1, zt2, i64_w, i32_w]
       rfl
      refine pure_ (i := 44) (N := some 75) (v := ?_) (a' := ?_) (zB 45 11) rfl rfl (any_of HT_.out (by kernel_rfl)) (fun _ _ _ h => h) (Or.inl ⟨by rfl, ?_⟩) ?_ ?_
      rotate_left
      ·intro w'
       go_simp
       with_reducible rfl
      rotate_left
      ·simp only [Act.put, zt0, zt1, zt2, i64_w, i32_w]
       rfl
      exact norm_ (by first | (simp only [putAll, Act.put, zt0, zt1, zt2]; done) | (simp only [putAll, Act.put, zt0, zt1, zt2]; rfl)) (hCont ((.pointer (some ⟨gp, 2, none⟩)), (.int .i64 p.f2), (.bool (decide (1152921504606846976 < p.f2)))) _ hHeld)
    intro s w' hHeld
    obtain ⟨sv71, sv72, sv73⟩ := s
    refine norm_ (a' := ?_) ?_ ?_
    rotate_left
    ·simp only [putAll, Act.put, zt0, zt1, zt2]
     rfl
    generalize hB : (b5 || decide (1152921504606846976 < p.f2)) = b6
    have HBb6 := Aside0.mk hB
    clear hB
    refine join_ (σ := Value × Value × Value) 6 (zB 50 6) (fun s => [(76, s.1), (77, s.2.1), (78, s.2.2), (79, .bool (b6 || decide (p.f3 < 0))), (80, .bool (b6 || decide (p.f3 < 0)))]) (fun _ w' => ladingref14_Check.S3 w w' gb gp (some ad) c0_0 l0_0 A0_1 c0_1 l0_1 31 (pcells p) ∧ w'.cell? ⟨gp, 0, none⟩ = some (.int .i64 p.f0) ∧ w'.cell? ⟨gp, 1, none⟩ = some (.int .i64 p.f1) ∧ w'.cell? ⟨gp, 2, none⟩ = some (.int .i64 p.f2) ∧ w'.cell? ⟨gp, 3, none⟩ = some (.int .i64 p.f3) ∧ w'.cell? ⟨gb, 0, none⟩ = some (.slice (some ad) l0_0.length c0_0) ∧ w'.cell? (ad.add ((i - 1) * 4)) = some (.int .i64 pv)) ?_ ?_
    rotate_left
    ·intro hCont
     rcases Bool.eq_false_or_eq_true b6 with rfl | rfl
     ·skip
      refine pure_ (i := 45) (N := some 76) (v := undef) (a' := ?_) (zB 46 10) rfl rfl (any_of HT_.out (by kernel_rfl)) (fun _ _ _ h => h) (Or.inr ⟨by rfl, rfl⟩) ?_ ?_
      rotate_left
      ·simp only [Act.put, zt0, zt1, zt2, i64_w, i32_w]
       rfl
      refine pure_ (i := 46) (N := some 77) (v := undef) (a' := ?_) (zB 47 9) rfl rfl (any_of HT_.out (by kernel_rfl)) (fun _ _ _ h => h) (Or.inr ⟨by rfl, rfl⟩) ?_ ?_
      rotate_left
      ·simp only [Act.put, zt0, zt1, zt2, i64_w, i32_w]
       rfl
      refine pure_ (i := 47) (N := some 78) (v := undef) (a' := ?_) (zB 48 8) rfl rfl (any_of HT_.out (by kernel_rfl)) (fun _ _ _ h => h) (Or.inr ⟨by rfl, rfl⟩) ?_ ?_
      rotate_left
      ·simp only [Act.put, zt0, zt1, zt2, i64_w, i32_w]
       rfl
      refine pure_ (i := 48) (N := some 79) (v := ?_) (a' := ?_) (zB 49 7) rfl rfl (any_of HT_.out (by kernel_rfl)) (fun _ _ _ h => h) (Or.inl ⟨by rfl, ?_⟩) ?_ ?_
      rotate_left
      ·intro w'
       go_simp
       with_reducible rfl
      rotate_left
      ·simp only [Act.put, zt0, zt1, zt2, i64_w, i32_w]
       rfl
      refine pure_ (i := 49) (N := some 80) (v := ?_) (a' := ?_) (zB 50 6) rfl rfl (any_of HT_.out (by kernel_rfl)) (fun _ _ _ h => h) (Or.inl ⟨by rfl, ?_⟩) ?_ ?_
      rotate_left
      ·intro w'
       go_simp
       with_reducible rfl
      rotate_left
      ·simp only [Act.put, zt0, zt1, zt2, i64_w, i32_w]
       rfl
      exact norm_ (by first | (simp only [putAll, Act.put, zt0, zt1, zt2]; done) | (simp only [putAll, Act.put, zt0, zt1, zt2]; rfl)) (hCont (undef, undef, undef) _ hHeld)
     ·skip
      refine pure_ (i := 45) (N := some 76) (v := ?_) (a' := ?_) (zB 46 10) rfl rfl (any_of HT_.out (by kernel_rfl)) (fun _ _ _ h => h) (Or.inl ⟨by rfl, ?_⟩) ?_ ?_
      rotate_left
      ·intro w'
       go_simp
       with_reducible rfl
      rotate_left
      ·simp only [Act.put, zt0, zt1, zt2, i64_w, i32_w]
       rfl
      refine take_ (i := 46) (N := some 77) (v := ?_) (a' := ?_) (zB 47 9) rfl rfl (take_ofW HT_.out HW_.out (by kernel_rfl)) (fun _ _ _ h => h) (Or.inl ⟨by rfl, ?_⟩) hHeld ?_ ?_
      rotate_left
      ·rintro w' ⟨s0, s1, s2, s3, s4, s5, s6⟩
       go_simp
       with_reducible rfl
      rotate_left
      ·simp only [Act.put, zt0, zt1, zt2, i64_w, i32_w]
       rfl
      refine pure_ (i := 47) (N := some 78) (v := ?_) (a' := ?_) (zB 48 8) rfl rfl (any_of HT_.out (by kernel_rfl)) (fun _ _ _ h => h) (Or.inl ⟨by rfl, ?_⟩) ?_ ?_
      rotate_left
      ·intro w'
       go_simp
       with_reducible rfl
      rotate_left
      ·simp only [Act.put, zt0, zt1, zt2, i64_w, i32_w]
       rfl
      refine pure_ (i := 48) (N := some 79) (v := ?_) (a' := ?_) (zB 49 7) rfl rfl (any_of HT_.out (by kernel_rfl)) (fun _ _ _ h => h) (Or.inl ⟨by rfl, ?_⟩) ?_ ?_
      rotate_left
      ·intro w'
       go_simp
       with_reducible rfl
      rotate_left
      ·simp only [Act.put, zt0, zt1, zt2, i64_w, i32_w]
       rfl
      refine pure_ (i := 49) (N := some 80) (v := ?_) (a' := ?_) (zB 50 6) rfl rfl (any_of HT_.out (by kernel_rfl)) (fun _ _ _ h => h) (Or.inl ⟨by rfl, ?_⟩) ?_ ?_
      rotate_left
      ·intro w'
       go_simp
       with_reducible rfl
      rotate_left
      ·simp only [Act.put, zt0, zt1, zt2, i64_w, i32_w]
       rfl
      exact norm_ (by first | (simp only [putAll, Act.put, zt0, zt1, zt2]; done) | (simp only [putAll, Act.put, zt0, zt1, zt2]; rfl)) (hCont ((.pointer (some ⟨gp, 3, none⟩)), (.int .i64 p.f3), (.bool (decide (p.f3 < 0)))) _ hHeld)
    intro s w' hHeld
    obtain ⟨sv76, sv77, sv78⟩ := s
    refine norm_ (a' := ?_) ?_ ?_
    rotate_left
    ·simp only [putAll, Act.put, zt0, zt1, zt2]
     rfl
    generalize hB : (b6 || decide (p.f3 < 0)) = b7
    have HBb7 := Aside0.mk hB
    clear hB
    refine join_ (σ := Value × Value × Value × Value × Value) 0 (zB 56 0) (fun s => [(81, s.1), (82, s.2.1), (83, s.2.2.1), (84, s.2.2.2.1), (85, s.2.2.2.2), (86, .bool (b7 || decide (p.f2 < p.f3)))]) (fun _ w' => ladingref14_Check.S3 w w' gb gp (some ad) c0_0 l0_0 A0_1 c0_1 l0_1 31 (pcells p) ∧ w'.cell? ⟨gp, 0, none⟩ = some (.int .i64 p.f0) ∧ w'.cell? ⟨gp, 1, none⟩ = some (.int .i64 p.f1) ∧ w'.cell? ⟨gp, 2, none⟩ = some (.int .i64 p.f2) ∧ w'.cell? ⟨gp, 3, none⟩ = some (.int .i64 p.f3) ∧ w'.cell? ⟨gb, 0, none⟩ = some (.slice (some ad) l0_0.length c0_0) ∧ w'.cell? (ad.add ((i - 1) * 4)) = some (.int .i64 pv)) ?_ ?_
    rotate_left
    ·intro hCont
     rcases Bool.eq_false_or_eq_true b7 with rfl | rfl
     ·skip
      refine pure_ (i := 50) (N := some 81) (v := undef) (a' := ?_) (zB 51 5) rfl rfl (any_of HT_.out (by kernel_rfl)) (fun _ _ _ h => h) (Or.inr ⟨by rfl, rfl⟩) ?_ ?_
      rotate_left
      ·simp only [Act.put, zt0, zt1, zt2, i64_w, i32_w]
       rfl
      refine pure_ (i := 51) (N := some 82) (v := undef) (a' := ?_) (zB 52 4) rfl rfl (any_of HT_.out (by kernel_rfl)) (fun _ _ _ h => h) (Or.inr ⟨by rfl, rfl⟩) ?_ ?_
      rotate_left
      ·simp only [Act.put, zt0, zt1, zt2, i64_w, i32_w]
       rfl
      refine pure_ (i := 52) (N := some 83) (v := undef) (a' := ?_) (zB 53 3) rfl rfl (any_of HT_.out (by kernel_rfl)) (fun _ _ _ h => h) (Or.inr ⟨by rfl, rfl⟩) ?_ ?_
      rotate_left
      ·simp only [Act.put, zt0, zt1, zt2, i64_w, i32_w]
       rfl
      refine pure_ (i := 53) (N := some 84) (v := undef) (a' := ?_) (zB 54 2) rfl rfl (any_of HT_.out (by kernel_rfl)) (fun _ _ _ h => h) (Or.inr ⟨by rfl, rfl⟩) ?_ ?_
      rotate_left
      ·simp only [Act.put, zt0, zt1, zt2, i64_w, i32_w]
       rfl
      refine pure_ (i := 54) (N := some 85) (v := undef) (a' := ?_) (zB 55 1) rfl rfl (any_of HT_.out (by kernel_rfl)) (fun _ _ _ h => h) (Or.inr ⟨by rfl, rfl⟩) ?_ ?_
      rotate_left
      ·simp only [Act.put, zt0, zt1, zt2, i64_w, i32_w]
       rfl
      refine pure_ (i := 55) (N := some 86) (v := ?_) (a' := ?_) (zB 56 0) rfl rfl (any_of HT_.out (by kernel_rfl)) (fun _ _ _ h => h) (Or.inl ⟨by rfl, ?_⟩) ?_ ?_
      rotate_left
      ·intro w'
       go_simp
       with_reducible rfl
      rotate_left
      ·simp only [Act.put, zt0, zt1, zt2, i64_w, i32_w]
       rfl
      exact norm_ (by first | (simp only [putAll, Act.put, zt0, zt1, zt2]; done) | (simp only [putAll, Act.put, zt0, zt1, zt2]; rfl)) (hCont (undef, undef, undef, undef, undef) _ hHeld)
     ·skip
      refine pure_ (i := 50) (N := some 81) (v := ?_) (a' := ?_) (zB 51 5) rfl rfl (any_of HT_.out (by kernel_rfl)) (fun _ _ _ h => h) (Or.inl ⟨by rfl, ?_⟩) ?_ ?_
      rotate_left
      ·intro w'
       go_simp
       with_reducible rfl
      rotate_left
      ·simp only [Act.put, zt0, zt1, zt2, i64_w, i32_w]
       rfl
      refine take_ (i := 51) (N := some 82) (v := ?_) (a' := ?_) (zB 52 4) rfl rfl (take_ofW HT_.out HW_.out (by kernel_rfl)) (fun _ _ _ h => h) (Or.inl ⟨by rfl, ?_⟩) hHeld ?_ ?_
      rotate_left
      ·rintro w' ⟨s0, s1, s2, s3, s4, s5, s6⟩
       go_simp
       with_reducible rfl
      rotate_left
      ·simp only [Act.put, zt0, zt1, zt2, i64_w, i32_w]
       rfl
      refine pure_ (i := 52) (N := some 83) (v := ?_) (a' := ?_) (zB 53 3) rfl rfl (any_of HT_.out (by kernel_rfl)) (fun _ _ _ h => h) (Or.inl ⟨by rfl, ?_⟩) ?_ ?_
      rotate_left
      ·intro w'
       go_simp
       with_reducible rfl
      rotate_left
      ·simp only [Act.put, zt0, zt1, zt2, i64_w, i32_w]
       rfl
      refine take_ (i := 53) (N := some 84) (v := ?_) (a' := ?_) (zB 54 2) rfl rfl (take_ofW HT_.out HW_.out (by kernel_rfl)) (fun _ _ _ h => h) (Or.inl ⟨by rfl, ?_⟩) hHeld ?_ ?_
      rotate_left
      ·rintro w' ⟨s0, s1, s2, s3, s4, s5, s6⟩
       go_simp
       with_reducible rfl
      rotate_left
      ·simp only [Act.put, zt0, zt1, zt2, i64_w, i32_w]
       rfl
      refine pure_ (i := 54) (N := some 85) (v := ?_) (a' := ?_) (zB 55 1) rfl rfl (any_of HT_.out (by kernel_rfl)) (fun _ _ _ h => h) (Or.inl ⟨by rfl, ?_⟩) ?_ ?_
      rotate_left
      ·intro w'
       go_simp
       with_reducible rfl
      rotate_left
      ·simp only [Act.put, zt0, zt1, zt2, i64_w, i32_w]
       rfl
      refine pure_ (i := 55) (N := some 86) (v := ?_) (a' := ?_) (zB 56 0) rfl rfl (any_of HT_.out (by kernel_rfl)) (fun _ _ _ h => h) (Or.inl ⟨by rfl, ?_⟩) ?_ ?_
      rotate_left
      ·intro w'
       go_simp
       with_reducible rfl
      rotate_left
      ·simp only [Act.put, zt0, zt1, zt2, i64_w, i32_w]
       rfl
      exact norm_ (by first | (simp only [putAll, Act.put, zt0, zt1, zt2]; done) | (simp only [putAll, Act.put, zt0, zt1, zt2]; rfl)) (hCont ((.pointer (some ⟨gp, 3, none⟩)), (.int .i64 p.f3), (.pointer (some ⟨gp, 2, none⟩)), (.int .i64 p.f2), (.bool (decide (p.f2 < p.f3)))) _ hHeld)
    intro s w' hHeld
    obtain ⟨sv81, sv82, sv83, sv84, sv85⟩ := s
    refine norm_ (a' := ?_) ?_ ?_
    rotate_left
    ·simp only [putAll, Act.put, zt0, zt1, zt2]
     rfl
    refine done_ (done_of HT_.out (by kernel_rfl)) ?_
    obtain ⟨SH, SZ_⟩ := hHeld
    clear SZ_
    have HQ : Aside0 ((b7 || decide (p.f2 < p.f3)) = !(okQ1 l0_0 i)) := ⟨by unfold okQ1; rw [← HX.out, ← HPV.out, ← HKB.out, ← HZB.out, HDI.out, ← HBb7.out, ← HBb6.out, ← HBb5.out, ← HBb4.out, ← HBb3.out, ← HBb2.out, ← HBb1.out, ← HBb0.out]; generalize (di && decide (p.f0 ≤ pv)) = dd; simp only [Bool.not_and, Bool.not_not, Bool.or_assoc]⟩
    go_wp2_with fail
    go_meet
    case rel => exact ⟨congrArg Value.bool HQ.out, ⟨SH⟩⟩
   case rest =>
    clear ST
    obtain ⟨rfl, ST⟩ := hcut
    by_cases hq : okQ1 l0_0 i = true
    ·have HQ1 := Aside0.mk hq
     have e1 : (!okQ1 l0_0 i) = false := by rw [hq]; rfl
     rw [e1]
     clear e1 hq
     have hb1 := (blk_cell ST.out.BB 1).trans rfl
     have hp0 : wc.cell? ⟨gp, 0, none⟩ = some (.int .i64 p.f0) := (blk_cell ST.out.BP 0).trans rfl
     have HSM := Aside0.mk (sums_is l0_1 p.f0 65540 (by have := HL.out; omega) (by have := HL.out; omega))
     obtain ⟨fb, hfb⟩ : ∃ fb, fb = fitsN l0_1 p.f0 := ⟨_, rfl⟩
     obtain ⟨s, hs⟩ : ∃ s : S31, s = if fb = true then sumN l0_1 p.f0 else ⟨0, 0, 0, 0⟩ := ⟨_, rfl⟩
     have HSV : Aside0 (ladingref14_sums.f 65540 l0_1 p.f0 = some (s.f0, s.f1, s.f2, s.f3, fb)) := ⟨by rw [HSM.out]; unfold sumsV; rw [← hfb, hs]; cases fb <;> rfl⟩
     have HS := Aside0.mk hs
     have HFB := Aside0.mk hfb
     clear hs hfb HSM
     go_wp2_with fail
     refine (ladingref14_sums.calls 65540 A0_1 c0_1 l0_1 p.f0 s.f0 s.f1 s.f2 s.f3 fb _ (Kd.C_below HR1.out ST.out.HB) HC1.out HSV.out).mono ?_
     rintro e w7 ⟨rfl, hb7⟩
     have ST2 := Aside0.mk (ST.out.below hb7)
     clear hb1 hp0 hb7 ST HSV
     go_upto_region 9 with (first | ((with_reducible refine gate_dst (N := 5) rfl ?_); refine box_event ?hg (N := 5) ?hd (cs := #[.int .i64 0, .int .i64 0, .int .i64 0, .int .i64 0]) (t := 31) ?hr ?_; (case hd => rfl); (case hg => rfl); (case hr => first | (go_simp; done) | (go_simp; rfl)); intro gs hgs w8 hbox hb; have GS : Aside0 (gb ≠ gs ∧ gp ≠ gs ∧ w.heap.size ≤ gs) := ⟨by rw [hgs]; exact Nat.ne_of_lt (blk_lt ST2.out.BB), by rw [hgs]; exact Nat.ne_of_lt (blk_lt ST2.out.BP), by rw [hgs]; exact ST2.out.HB.size⟩; have BS := Aside0.mk hbox; have ST3 := Aside0.mk (ST2.out.below hb); have hz0 := (blk_cell hbox 0).trans rfl; have hz1 := (blk_cell hbox 1).trans rfl; have hz2 := (blk_cell hbox 2).trans rfl; have hz3 := (blk_cell hbox 3).trans rfl; have hf0 := blk_frozen hbox 0; have hf1 := blk_frozen hbox 1; have hf2 := blk_frozen hbox 2; have hf3 := blk_frozen hbox 3; clear hbox hb hgs ST2))
     have BS2 : Aside0 (((((w8.setCell ⟨gs, 0, none⟩ (.int .i64 s.f0)).setCell ⟨gs, 1, none⟩ (.int .i64 s.f1)).setCell ⟨gs, 2, none⟩ (.int .i64 s.f2)).setCell ⟨gs, 3, none⟩ (.int .i64 s.f3)).heap[gs]? = some (.cells (pcells s) 31 (0, 0))) := ⟨set4B BS.out (.int .i64 s.f0) (.int .i64 s.f1) (.int .i64 s.f2) (.int .i64 s.f3)⟩
     have ST4 : Aside0 (ladingref14_Check.S3 w ((((w8.setCell ⟨gs, 0, none⟩ (.int .i64 s.f0)).setCell ⟨gs, 1, none⟩ (.int .i64 s.f1)).setCell ⟨gs, 2, none⟩ (.int .i64 s.f2)).setCell ⟨gs, 3, none⟩ (.int .i64 s.f3)) gb gp (some ad) c0_0 l0_0 A0_1 c0_1 l0_1 31 (pcells p)) := ⟨⟨set4F ST3.out.BB GS.out.1 (.int .i64 s.f0) (.int .i64 s.f1) (.int .i64 s.f2) (.int .i64 s.f3), set4F ST3.out.BP GS.out.2.1 (.int .i64 s.f0) (.int .i64 s.f1) (.int .i64 s.f2) (.int .i64 s.f3), set4W ST3.out.HB GS.out.2.2 (.int .i64 s.f0) (.int .i64 s.f1) (.int .i64 s.f2) (.int .i64 s.f3)⟩⟩
     clear hz0 hz1 hz2 hz3 hf0 hf1 hf2 hf3 BS ST3
     obtain ⟨w9, hw9⟩ : ∃ w9, w9 = ((((w8.setCell ⟨gs, 0, none⟩ (.int .i64 s.f0)).setCell ⟨gs, 1, none⟩ (.int .i64 s.f1)).setCell ⟨gs, 2, none⟩ (.int .i64 s.f2)).setCell ⟨gs, 3, none⟩ (.int .i64 s.f3)) := ⟨_, rfl⟩
     rw [← hw9] at BS2 ST4 ⊢
     clear hw9
     go_cut [101] (fun v101 wc => v101 = .bool (!(okQ l0_0 l0_1 i)) ∧ Aside0 (ladingref14_Check.S3 w wc gb gp (some ad) c0_0 l0_0 A0_1 c0_1 l0_1 31 (pcells p)))
     case first =>
      have hp0 : w9.cell? ⟨gp, 0, none⟩ = some (.int .i64 p.f0) := (blk_cell ST4.out.BP 0).trans rfl
      have hp1 : w9.cell? ⟨gp, 1, none⟩ = some (.int .i64 p.f1) := (blk_cell ST4.out.BP 1).trans rfl
      have hp2 : w9.cell? ⟨gp, 2, none⟩ = some (.int .i64 p.f2) := (blk_cell ST4.out.BP 2).trans rfl
      have hp3 : w9.cell? ⟨gp, 3, none⟩ = some (.int .i64 p.f3) := (blk_cell ST4.out.BP 3).trans rfl
      have hs0 : w9.cell? ⟨gs, 0, none⟩ = some (.int .i64 s.f0) := (blk_cell BS2.out 0).trans rfl
      have hs1 : w9.cell? ⟨gs, 1, none⟩ = some (.int .i64 s.f1) := (blk_cell BS2.out 1).trans rfl
      have hs2 : w9.cell? ⟨gs, 2, none⟩ = some (.int .i64 s.f2) := (blk_cell BS2.out 2).trans rfl
      have hs3 : w9.cell? ⟨gs, 3, none⟩ = some (.int .i64 s.f3) := (blk_cell BS2.out 3).trans rfl
      cases fb with
      | false =>
       have HQ : Aside0 (okQ l0_0 l0_1 i = false) := ⟨by unfold okQ; rw [HQ1.out, ← HX.out, ← HFB.out]; rfl⟩
       go_wp2_with fail
       go_meet
       case rel => exact ⟨by rw [HQ.out]; rfl, ⟨by first | exact ST4.out | exact ST4.out.drewN 1⟩⟩
      | true =>
       have HQ : Aside0 ((!s.f0 == p.f0 || (!s.f1 == p.f1 || (!s.f2 == p.f2 || !s.f3 == p.f3))) = !(okQ l0_0 l0_1 i)) := ⟨by unfold okQ; rw [HQ1.out, ← HX.out, ← HFB.out, Bool.true_and, Bool.true_and, ← show s = sumN l0_1 p.f0 from HS.out]; unfold eqP; cases (s.f0 == p.f0) <;> cases (s.f1 == p.f1) <;> cases (s.f2 == p.f2) <;> rfl⟩
       go_wp2_with fail
       go_meet
       case rel => exact ⟨congrArg Value.bool HQ.out, ⟨by first | exact ST4.out | exact ST4.out.drewN 1⟩⟩
     case rest =>
      clear ST4
      obtain ⟨rfl, ST⟩ := hcut
      by_cases hq : okQ l0_0 l0_1 i = true
      ·have HOK := Aside0.mk hq
       have e1 : (!okQ l0_0 l0_1 i) = false := by rw [hq]; rfl
       rw [e1]
       clear e1 hq
       go_wp2_with fail
       go_roundg kq
       case measure => exact Nat.lt_succ_self _
       case rel => exact ⟨i + 1, HLT.out, by have := HKQ.out; omega, num_next (by have := HL.out; have := HLT.out; omega), ST.out.BB, ST.out.HB, upto_next OKQ.out HOK.out⟩
      ·have HG : Aside0 (r = 9) := ⟨by rw [← HR.out, goodR_q i HLT.out (Bool.eq_false_iff.mpr hq)]; rfl⟩
       have e1 : (!okQ l0_0 l0_1 i) = true := by rw [Bool.eq_false_iff.mpr hq]; rfl
       rw [e1]
       clear e1 hq
       go_wp2_with fail
       go_ret
       exact ⟨by rw [HG.out]; rfl, ST.out.HB⟩
    ·have HG : Aside0 (r = 9) := ⟨by rw [← HR.out, goodR_q i HLT.out (by unfold okQ; rw [Bool.eq_false_iff.mpr hq, Bool.false_and])]; rfl⟩
     have e1 : (!okQ1 l0_0 i) = true := by rw [Bool.eq_false_iff.mpr hq]; rfl
     rw [e1]
     clear e1 hq
     go_wp2_with fail
     go_ret
     exact ⟨by rw [HG.out]; rfl, ST.out.HB⟩
  ·obtain ⟨n, hn⟩ : ∃ n, n = l0_0.length := ⟨_, rfl⟩
   obtain rfl : i = n := by omega
   have t1 : decide ((i : Int) < (l0_0.length : Int)) = false := decide_eq_false (by omega)
   have t1n : decide (i < l0_0.length) = false := decide_eq_false hlt
   have OKQ2 : Aside0 (∀ j, j < l0_0.length → okQ l0_0 l0_1 j = true) := ⟨fun j hj => OKQ.out j (by omega)⟩
   have hb1 := (blk_cell BB.out 1).trans rfl
   clear hn hlt hk OKQ HKQ
   go_wp2_with fail
   clear t1 t1n hb1
   go_loopg [106] (l0_1.length + 1) (fun kq v106 wr => ladingref14_Check.Rel w gb A0_0 c0_0 l0_0 A0_1 c0_1 l0_1 l0_1.length (fun j => postOk (xAt l0_1 j) = true) kq v106 wr)
   case atStart => exact ⟨0, Nat.zero_le _, Nat.zero_add _, rfl, BB.out, HB.out, fun j hj => absurd hj (Nat.not_lt_zero j)⟩
   case round =>
    clear BB HB
    obtain ⟨k, hk, hkq, rfl, hbb, hb, hok⟩ := hrel
    have BB := Aside0.mk hbb
    have HB := Aside0.mk hb
    have OKX := Aside0.mk hok
    have HKQ := Aside0.mk hkq
    clear hbb hb hok hkq
    by_cases hlt : k < l0_1.length
    ·obtain ⟨kq, rfl⟩ : ∃ q, gk = q + 1 := ⟨gk - 1, by have := HKQ.out; omega⟩
     have HLT := Aside0.mk hlt
     obtain ⟨ad, rfl, hx0, hx1, hx2, hx3⟩ := at_T55 HR1.out (k : Int) (Int.natCast_nonneg _) (Int.ofNat_lt.mpr hlt)
     replace hx0 := zx_ HB.out hx0
     replace hx1 := zx_ HB.out hx1
     replace hx2 := zx_ HB.out hx2
     replace hx3 := zx_ HB.out hx3
     rw [Int.toNat_natCast, rd_xAt] at hx0 hx1 hx2 hx3
     obtain ⟨x, hx⟩ : ∃ x, x = xAt l0_1 k := ⟨_, rfl⟩
     rw [← hx] at hx0 hx1 hx2 hx3
     have HX := Aside0.mk hx
     have pm : ((k : Int) < (l0_1.length : Int)) = True := eq_true (Int.ofNat_lt.mpr hlt)
     have t1 : decide ((k : Int) < (l0_1.length : Int)) = true := decide_eq_true (Int.ofNat_lt.mpr hlt)
     have t1n : decide (k < l0_1.length) = true := decide_eq_true hlt
     clear hx hlt
     go_upto_region 15 with (first | ((with_reducible refine gate_dst (N := 8) rfl ?_); refine box_event ?hg (N := 8) ?hd (cs := #[.int .i64 0, .int .u8 0, .int .u8 0, .int .i64 0]) (t := 55) ?hr ?_; (case hd => rfl); (case hg => rfl); (case hr => first | (go_simp; done) | (go_simp; rfl)); intro gp hgp w2 hbox hb; have GP : Aside0 (gb ≠ gp ∧ w.heap.size ≤ gp) := ⟨by rw [hgp]; exact Nat.ne_of_lt (blk_lt BB.out), by rw [hgp]; exact HB.out.size⟩; have BP := Aside0.mk hbox; have BB2 := Aside0.mk (blk_below BB.out hb); have HB2 := Aside0.mk (below_step HB.out hb); have hz0 := (blk_cell hbox 0).trans rfl; have hz1 := (blk_cell hbox 1).trans rfl; have hz2 := (blk_cell hbox 2).trans rfl; have hz3 := (blk_cell hbox 3).trans rfl; have hf0 := blk_frozen hbox 0; have hf1 := blk_frozen hbox 1; have hf2 := blk_frozen hbox 2; have hf3 := blk_frozen hbox 3; clear hbox hb hgp BB HB))
     have ST : Aside0 (ladingref14_Check.S3 w ((((w2.setCell ⟨gp, 0, none⟩ (.int .i64 x.f0)).setCell ⟨gp, 1, none⟩ (.int .u8 x.f1)).setCell ⟨gp, 2, none⟩ (.int .u8 x.f2)).setCell ⟨gp, 3, none⟩ (.int .i64 x.f3)) gb gp A0_0 c0_0 l0_0 (some ad) c0_1 l0_1 55 (xcells x)) := ⟨⟨set4F BB2.out GP.out.1 (.int .i64 x.f0) (.int .u8 x.f1) (.int .u8 x.f2) (.int .i64 x.f3), set4B BP.out (.int .i64 x.f0) (.int .u8 x.f1) (.int .u8 x.f2) (.int .i64 x.f3), set4W HB2.out GP.out.2 (.int .i64 x.f0) (.int .u8 x.f1) (.int .u8 x.f2) (.int .i64 x.f3)⟩⟩
     clear hx0 hx1 hx2 hx3 hz0 hz1 hz2 hz3 hf0 hf1 hf2 hf3 BP BB2 HB2 pm t1 t1n
     obtain ⟨w6, hw6⟩ : ∃ w6, w6 = ((((w2.setCell ⟨gp, 0, none⟩ (.int .i64 x.f0)).setCell ⟨gp, 1, none⟩ (.int .u8 x.f1)).setCell ⟨gp, 2, none⟩ (.int .u8 x.f2)).setCell ⟨gp, 3, none⟩ (.int .i64 x.f3)) := ⟨_, rfl⟩
     rw [← hw6] at ST ⊢
     clear hw6
     obtain ⟨kb, hkb⟩ : ∃ kb, (decide (1 ≤ x.f0) && decide (x.f0 ≤ 1024)) = kb := ⟨_, rfl⟩
     obtain ⟨lt1, hlt1⟩ : ∃ lt1, decide (x.f3 < 1) = lt1 := ⟨_, rfl⟩
     obtain ⟨gtm, hgtm⟩ : ∃ gtm, decide (1152921504606846976 < x.f3) = gtm := ⟨_, rfl⟩
     obtain ⟨ab1, hab1⟩ : ∃ ab1, (decide (1 ≤ x.f1) && decide (x.f1 < 4)) = ab1 := ⟨_, rfl⟩
     obtain ⟨ab2, hab2⟩ : ∃ ab2, (decide (1 ≤ x.f2) && decide (x.f2 < 4)) = ab2 := ⟨_, rfl⟩
     obtain ⟨eqb, heqb⟩ : ∃ eqb, (x.f1 == x.f2) = eqb := ⟨_, rfl⟩
     have HPO : Aside0 (postOk x = (kb && (!lt1 && (!gtm && (ab1 && (ab2 && !eqb)))))) := ⟨by rw [← hkb, ← hlt1, ← hgtm, ← hab1, ← hab2, ← heqb]; exact ladingref14_Check.post_is x⟩
     have K0 : Aside0 (ladingref14_known.f x.f0 = some kb) := ⟨by rw [← hkb]; exact ladingref14_Check.known_is _⟩
     have K1 : Aside0 (ladingref14_account.f x.f1 = some ab1) := ⟨by rw [← hab1]; exact ladingref14_Check.account_is _⟩
     have K2 : Aside0 (ladingref14_account.f x.f2 = some ab2) := ⟨by rw [← hab2]; exact ladingref14_Check.account_is _⟩
     clear hkb hab1 hab2
     go_cut [142] (fun v142 wc => v142 = .bool (!(postOk x)) ∧ Aside0 (ladingref14_Check.S3 w wc gb gp A0_0 c0_0 l0_0 (some ad) c0_1 l0_1 55 (xcells x)))
     case first =>
      have hx0 : w6.cell? ⟨gp, 0, none⟩ = some (.int .i64 x.f0) := (blk_cell ST.out.BP 0).trans rfl
      have hx1 : w6.cell? ⟨gp, 1, none⟩ = some (.int .u8 x.f1) := (blk_cell ST.out.BP 1).trans rfl
      have hx2 : w6.cell? ⟨gp, 2, none⟩ = some (.int .u8 x.f2) := (blk_cell ST.out.BP 2).trans rfl
      have hx3 : w6.cell? ⟨gp, 3, none⟩ = some (.int .i64 x.f3) := (blk_cell ST.out.BP 3).trans rfl
      cases kb with
      | false =>
       go_wp2_with (first | (go_at_call 44; (with_reducible refine (ladingref14_known.calls _ _ _ K0.out).mono ?_); rintro e w' ⟨rfl, ⟨nd_, rfl⟩⟩) | fail)
       go_meet
       case rel => exact ⟨by rw [HPO.out]; rfl, ⟨by repeat (first | exact ST.out | apply ladingref14_Check.S3.drewN)⟩⟩
      | true =>
       cases lt1 with
       | true =>
        go_wp2_with (first | (go_at_call 44; (with_reducible refine (ladingref14_known.calls _ _ _ K0.out).mono ?_); rintro e w' ⟨rfl, ⟨nd_, rfl⟩⟩) | fail)
        go_meet
        case rel => exact ⟨by rw [HPO.out]; rfl, ⟨by repeat (first | exact ST.out | apply ladingref14_Check.S3.drewN)⟩⟩
       | false =>
        cases gtm with
        | true =>
         go_wp2_with (first | (go_at_call 44; (with_reducible refine (ladingref14_known.calls _ _ _ K0.out).mono ?_); rintro e w' ⟨rfl, ⟨nd_, rfl⟩⟩) | fail)
         go_meet
         case rel => exact ⟨by rw [HPO.out]; rfl, ⟨by repeat (first | exact ST.out | apply ladingref14_Check.S3.drewN)⟩⟩
        | false =>
         cases ab1 with
         | false =>
          go_wp2_with (first | (go_at_call 44; (with_reducible refine (ladingref14_known.calls _ _ _ K0.out).mono ?_); rintro e w' ⟨rfl, ⟨nd_, rfl⟩⟩) | (go_at_call 40; (with_reducible refine (ladingref14_account.calls _ _ _ K1.out).mono ?_); rintro e w' ⟨rfl, ⟨nd_, rfl⟩⟩) | fail)
          go_meet
          case rel => exact ⟨by rw [HPO.out]; rfl, ⟨by repeat (first | exact ST.out | apply ladingref14_Check.S3.drewN)⟩⟩
         | true =>
          cases ab2 with
          | false =>
           go_wp2_with (first | (go_at_call 44; (with_reducible refine (ladingref14_known.calls _ _ _ K0.out).mono ?_); rintro e w' ⟨rfl, ⟨nd_, rfl⟩⟩) | (go_at_call 40; (with_reducible refine (ladingref14_account.calls _ _ _ K1.out).mono ?_); rintro e w' ⟨rfl, ⟨nd_, rfl⟩⟩) | (go_at_call 40; (with_reducible refine (ladingref14_account.calls _ _ _ K2.out).mono ?_); rintro e w' ⟨rfl, ⟨nd_, rfl⟩⟩) | fail)
           go_meet
           case rel => exact ⟨by rw [HPO.out]; rfl, ⟨by repeat (first | exact ST.out | apply ladingref14_Check.S3.drewN)⟩⟩
          | true =>
           cases eqb with
           | true =>
            go_wp2_with (first | (go_at_call 44; (with_reducible refine (ladingref14_known.calls _ _ _ K0.out).mono ?_); rintro e w' ⟨rfl, ⟨nd_, rfl⟩⟩) | (go_at_call 40; (with_reducible refine (ladingref14_account.calls _ _ _ K1.out).mono ?_); rintro e w' ⟨rfl, ⟨nd_, rfl⟩⟩) | (go_at_call 40; (with_reducible refine (ladingref14_account.calls _ _ _ K2.out).mono ?_); rintro e w' ⟨rfl, ⟨nd_, rfl⟩⟩) | fail)
            go_meet
            case rel => exact ⟨by rw [HPO.out]; rfl, ⟨by repeat (first | exact ST.out | apply ladingref14_Check.S3.drewN)⟩⟩
           | false =>
            go_wp2_with (first | (go_at_call 44; (with_reducible refine (ladingref14_known.calls _ _ _ K0.out).mono ?_); rintro e w' ⟨rfl, ⟨nd_, rfl⟩⟩) | (go_at_call 40; (with_reducible refine (ladingref14_account.calls _ _ _ K1.out).mono ?_); rintro e w' ⟨rfl, ⟨nd_, rfl⟩⟩) | (go_at_call 40; (with_reducible refine (ladingref14_account.calls _ _ _ K2.out).mono ?_); rintro e w' ⟨rfl, ⟨nd_, rfl⟩⟩) | fail)
            go_meet
            case rel => exact ⟨by rw [HPO.out]; rfl, ⟨by repeat (first | exact ST.out | apply ladingref14_Check.S3.drewN)⟩⟩
     case rest =>
      clear ST
      obtain ⟨rfl, ST⟩ := hcut
      by_cases hq : postOk x = true
      ·have HOK : Aside0 (postOk (xAt l0_1 k) = true) := ⟨by rw [← HX.out]; exact hq⟩
       have e1 : (!postOk x) = false := by rw [hq]; rfl
       rw [e1]
       clear e1 hq
       go_wp2_with fail
       go_roundg kq
       case measure => exact Nat.lt_succ_self _
       case rel => exact ⟨k + 1, HLT.out, by have := HKQ.out; omega, num_next (by have := HL.out; have := HLT.out; omega), ST.out.BB, ST.out.HB, upto_next OKX.out HOK.out⟩
      ·have HG : Aside0 (r = 9) := ⟨by rw [← HR.out, goodR_x k HLT.out (by rw [← HX.out]; exact Bool.eq_false_iff.mpr hq)]; rfl⟩
       have e1 : (!postOk x) = true := by rw [Bool.eq_false_iff.mpr hq]; rfl
       rw [e1]
       clear e1 hq
       go_wp2_with fail
       go_ret
       exact ⟨by rw [HG.out]; rfl, ST.out.HB⟩
    ·obtain ⟨m, hm⟩ : ∃ m, m = l0_1.length := ⟨_, rfl⟩
     obtain rfl : k = m := by omega
     have t1 : decide ((k : Int) < (l0_1.length : Int)) = false := decide_eq_false (by omega)
     have t1n : decide (k < l0_1.length) = false := decide_eq_false hlt
     have OKX2 : Aside0 (∀ j, j < l0_1.length → postOk (xAt l0_1 j) = true) := ⟨fun j hj => OKX.out j (by omega)⟩
     have hb1 := (blk_cell BB.out 1).trans rfl
     clear hm hlt hk OKX HKQ
     go_wp2_with fail
     clear t1 t1n hb1
     go_loopg [147] (l0_1.length + 1) (fun kq v147 wr => ladingref14_Check.Rel w gb A0_0 c0_0 l0_0 A0_1 c0_1 l0_1 l0_1.length (fun j => okS l0_0 l0_1 j = true) kq v147 wr)
     case atStart => exact ⟨0, Nat.zero_le _, Nat.zero_add _, rfl, BB.out, HB.out, fun j hj => absurd hj (Nat.not_lt_zero j)⟩
     case round =>
      clear BB HB
      obtain ⟨j3, hk, hkq, rfl, hbb, hb, hok⟩ := hrel
      have BB := Aside0.mk hbb
      have HB := Aside0.mk hb
      have OKS := Aside0.mk hok
      have HKQ := Aside0.mk hkq
      clear hbb hb hok hkq
      by_cases hlt : j3 < l0_1.length
      ·obtain ⟨kq, rfl⟩ : ∃ q, gk = q + 1 := ⟨gk - 1, by have := HKQ.out; omega⟩
       have HLT := Aside0.mk hlt
       obtain ⟨ad, rfl, hx0, hx1, hx2, hx3⟩ := at_T55 HR1.out (j3 : Int) (Int.natCast_nonneg _) (Int.ofNat_lt.mpr hlt)
       replace hx0 := zx_ HB.out hx0
       replace hx1 := zx_ HB.out hx1
       replace hx2 := zx_ HB.out hx2
       replace hx3 := zx_ HB.out hx3
       rw [Int.toNat_natCast, rd_xAt] at hx0 hx1 hx2 hx3
       obtain ⟨x, hx⟩ : ∃ x, x = xAt l0_1 j3 := ⟨_, rfl⟩
       rw [← hx] at hx0 hx1 hx2 hx3
       have HX := Aside0.mk hx
       have pm : ((j3 : Int) < (l0_1.length : Int)) = True := eq_true (Int.ofNat_lt.mpr hlt)
       have t1 : decide ((j3 : Int) < (l0_1.length : Int)) = true := decide_eq_true (Int.ofNat_lt.mpr hlt)
       have t1n : decide (j3 < l0_1.length) = true := decide_eq_true hlt
       clear hx hlt
       go_upto_region 21 with (first | ((with_reducible refine gate_dst (N := 10) rfl ?_); refine box_event ?hg (N := 10) ?hd (cs := #[.int .i64 0, .int .u8 0, .int .u8 0, .int .i64 0]) (t := 55) ?hr ?_; (case hd => rfl); (case hg => rfl); (case hr => first | (go_simp; done) | (go_simp; rfl)); intro gp hgp w2 hbox hb; have GP : Aside0 (gb ≠ gp ∧ w.heap.size ≤ gp) := ⟨by rw [hgp]; exact Nat.ne_of_lt (blk_lt BB.out), by rw [hgp]; exact HB.out.size⟩; have BP := Aside0.mk hbox; have BB2 := Aside0.mk (blk_below BB.out hb); have HB2 := Aside0.mk (below_step HB.out hb); have hz0 := (blk_cell hbox 0).trans rfl; have hz1 := (blk_cell hbox 1).trans rfl; have hz2 := (blk_cell hbox 2).trans rfl; have hz3 := (blk_cell hbox 3).trans rfl; have hf0 := blk_frozen hbox 0; have hf1 := blk_frozen hbox 1; have hf2 := blk_frozen hbox 2; have hf3 := blk_frozen hbox 3; clear hbox hb hgp BB HB))
       have ST : Aside0 (ladingref14_Check.S3 w ((((w2.setCell ⟨gp, 0, none⟩ (.int .i64 x.f0)).setCell ⟨gp, 1, none⟩ (.int .u8 x.f1)).setCell ⟨gp, 2, none⟩ (.int .u8 x.f2)).setCell ⟨gp, 3, none⟩ (.int .i64 x.f3)) gb gp A0_0 c0_0 l0_0 (some ad) c0_1 l0_1 55 (xcells x)) := ⟨⟨set4F BB2.out GP.out.1 (.int .i64 x.f0) (.int .u8 x.f1) (.int .u8 x.f2) (.int .i64 x.f3), set4B BP.out (.int .i64 x.f0) (.int .u8 x.f1) (.int .u8 x.f2) (.int .i64 x.f3), set4W HB2.out GP.out.2 (.int .i64 x.f0) (.int .u8 x.f1) (.int .u8 x.f2) (.int .i64 x.f3)⟩⟩
       clear hx0 hx1 hx2 hx3 hz0 hz1 hz2 hz3 hf0 hf1 hf2 hf3 BP BB2 HB2 pm t1 t1n
       obtain ⟨w6, hw6⟩ : ∃ w6, w6 = ((((w2.setCell ⟨gp, 0, none⟩ (.int .i64 x.f0)).setCell ⟨gp, 1, none⟩ (.int .u8 x.f1)).setCell ⟨gp, 2, none⟩ (.int .u8 x.f2)).setCell ⟨gp, 3, none⟩ (.int .i64 x.f3)) := ⟨_, rfl⟩
       rw [← hw6] at ST ⊢
       clear hw6
       have hb1 := (blk_cell ST.out.BB 1).trans rfl
       have hp0 : w6.cell? ⟨gp, 0, none⟩ = some (.int .i64 x.f0) := (blk_cell ST.out.BP 0).trans rfl
       have HSM := Aside0.mk (sums_is l0_1 x.f0 65540 (by have := HL.out; omega) (by have := HL.out; omega))
       obtain ⟨fb, hfb⟩ : ∃ fb, fb = fitsN l0_1 x.f0 := ⟨_, rfl⟩
       obtain ⟨s, hs⟩ : ∃ s : S31, s = if fb = true then sumN l0_1 x.f0 else ⟨0, 0, 0, 0⟩ := ⟨_, rfl⟩
       have HSV : Aside0 (ladingref14_sums.f 65540 l0_1 x.f0 = some (s.f0, s.f1, s.f2, s.f3, fb)) := ⟨by rw [HSM.out]; unfold sumsV; rw [← hfb, hs]; cases fb <;> rfl⟩
       have HS := Aside0.mk hs
       have HFB := Aside0.mk hfb
       clear hs hfb HSM
       go_wp2_with fail
       refine (ladingref14_sums.calls 65540 (some ad) c0_1 l0_1 x.f0 s.f0 s.f1 s.f2 s.f3 fb _ (Kd.C_below HR1.out ST.out.HB) HC1.out HSV.out).mono ?_
       rintro e w7 ⟨rfl, hb7⟩
       have ST2 := Aside0.mk (ST.out.below hb7)
       clear hb1 hp0 hb7 ST HSV
       go_upto_region 22 with (first | ((with_reducible refine gate_dst (N := 11) rfl ?_); refine box_event ?hg (N := 11) ?hd (cs := #[.int .i64 0, .int .i64 0, .int .i64 0, .int .i64 0]) (t := 31) ?hr ?_; (case hd => rfl); (case hg => rfl); (case hr => first | (go_simp; done) | (go_simp; rfl)); intro gs hgs w8 hbox hb; have GS : Aside0 (gb ≠ gs ∧ gp ≠ gs ∧ w.heap.size ≤ gs) := ⟨by rw [hgs]; exact Nat.ne_of_lt (blk_lt ST2.out.BB), by rw [hgs]; exact Nat.ne_of_lt (blk_lt ST2.out.BP), by rw [hgs]; exact ST2.out.HB.size⟩; have BS := Aside0.mk hbox; have ST3 := Aside0.mk (ST2.out.below hb); have hz0 := (blk_cell hbox 0).trans rfl; have hz1 := (blk_cell hbox 1).trans rfl; have hz2 := (blk_cell hbox 2).trans rfl; have hz3 := (blk_cell hbox 3).trans rfl; have hf0 := blk_frozen hbox 0; have hf1 := blk_frozen hbox 1; have hf2 := blk_frozen hbox 2; have hf3 := blk_frozen hbox 3; clear hbox hb hgs ST2))
       have BS2 : Aside0 (((((w8.setCell ⟨gs, 0, none⟩ (.int .i64 s.f0)).setCell ⟨gs, 1, none⟩ (.int .i64 s.f1)).setCell ⟨gs, 2, none⟩ (.int .i64 s.f2)).setCell ⟨gs, 3, none⟩ (.int .i64 s.f3)).heap[gs]? = some (.cells (pcells s) 31 (0, 0))) := ⟨set4B BS.out (.int .i64 s.f0) (.int .i64 s.f1) (.int .i64 s.f2) (.int .i64 s.f3)⟩
       have ST4 : Aside0 (ladingref14_Check.S3 w ((((w8.setCell ⟨gs, 0, none⟩ (.int .i64 s.f0)).setCell ⟨gs, 1, none⟩ (.int .i64 s.f1)).setCell ⟨gs, 2, none⟩ (.int .i64 s.f2)).setCell ⟨gs, 3, none⟩ (.int .i64 s.f3)) gb gp A0_0 c0_0 l0_0 (some ad) c0_1 l0_1 55 (xcells x)) := ⟨⟨set4F ST3.out.BB GS.out.1 (.int .i64 s.f0) (.int .i64 s.f1) (.int .i64 s.f2) (.int .i64 s.f3), set4F ST3.out.BP GS.out.2.1 (.int .i64 s.f0) (.int .i64 s.f1) (.int .i64 s.f2) (.int .i64 s.f3), set4W ST3.out.HB GS.out.2.2 (.int .i64 s.f0) (.int .i64 s.f1) (.int .i64 s.f2) (.int .i64 s.f3)⟩⟩
       clear hz0 hz1 hz2 hz3 hf0 hf1 hf2 hf3 BS ST3
       obtain ⟨w9, hw9⟩ : ∃ w9, w9 = ((((w8.setCell ⟨gs, 0, none⟩ (.int .i64 s.f0)).setCell ⟨gs, 1, none⟩ (.int .i64 s.f1)).setCell ⟨gs, 2, none⟩ (.int .i64 s.f2)).setCell ⟨gs, 3, none⟩ (.int .i64 s.f3)) := ⟨_, rfl⟩
       rw [← hw9] at BS2 ST4 ⊢
       clear hw9
       obtain ⟨q, hq⟩ : ∃ q, q = ofP l0_0 x.f0 := ⟨_, rfl⟩
       have HQV : Aside0 (ladingref14_Of.f 1030 l0_0 l0_1 x.f0 = some (q.f0, q.f1, q.f2, q.f3)) := ⟨by rw [hq]; exact of_is l0_0 l0_1 x.f0 1030 (by have := HL.out; omega) (by have := HL.out; omega)⟩
       have HQ := Aside0.mk hq
       clear hq
       go_cut [168] (fun v168 wc => v168 = .bool (!(okS l0_0 l0_1 j3)) ∧ Aside0 (ladingref14_Check.S3 w wc gb gp A0_0 c0_0 l0_0 (some ad) c0_1 l0_1 55 (xcells x)))
       case first =>
        cases fb with
        | false =>
         have HS1 : Aside0 (okS l0_0 l0_1 j3 = false) := ⟨by unfold okS; rw [← HX.out, ← HFB.out]; rfl⟩
         refine start_ (n := 10) (S := fun w' => ladingref14_Check.S3 w w' gb gp A0_0 c0_0 l0_0 (some ad) c0_1 l0_1 55 (xcells x) ∧ w'.heap[gs]? = some (.cells (pcells s) 31 (0, 0)) ∧ w'.cell? ⟨gs, 0, none⟩ = some (.int .i64 s.f0) ∧ w'.cell? ⟨gs, 1, none⟩ = some (.int .i64 s.f1) ∧ w'.cell? ⟨gs, 2, none⟩ = some (.int .i64 s.f2) ∧ w'.cell? ⟨gs, 3, none⟩ = some (.int .i64 s.f3) ∧ w'.cell? ⟨gb, 0, none⟩ = some (.slice A0_0 l0_0.length c0_0) ∧ w'.cell? ⟨gb, 1, none⟩ = some (.slice (some ad) l0_1.length c0_1) ∧ w'.cell? ⟨gp, 0, none⟩ = some (.int .i64 x.f0)) (ds := []) (zB 0 10) (by kernel_rfl) rfl rfl ⟨(ST4.out.drewN 1), (show w9.drew.heap[gs]? = _ from BS2.out), ((blk_cell (show w9.drew.heap[gs]? = _ from BS2.out) 0).trans rfl), ((blk_cell (show w9.drew.heap[gs]? = _ from BS2.out) 1).trans rfl), ((blk_cell (show w9.drew.heap[gs]? = _ from BS2.out) 2).trans rfl), ((blk_cell (show w9.drew.heap[gs]? = _ from BS2.out) 3).trans rfl), ((blk_cell (ST4.out.drewN 1).BB 0).trans rfl), ((blk_cell (ST4.out.drewN 1).BB 1).trans rfl), ((blk_cell (ST4.out.drewN 1).BP 0).trans rfl)⟩ (fun hHeld => ?_)
         refine with_tabW ladingref14_Check.tab22 ladingref14_Check.bits22 (fun HT_ HW_ => ?_)
         refine pure_ (i := 0) (N := some 159) (v := ?_) (a' := ?_) (zB 1 9) rfl rfl (any_of HT_.out (by kernel_rfl)) (fun _ _ _ h => h) (Or.inl ⟨by rfl, ?_⟩) ?_ ?_
         rotate_left
         ·intro w'
          go_simp
          with_reducible rfl
         rotate_left
         ·simp only [Act.put, zt0, zt1, zt2, i64_w, i32_w]
          rfl
         refine pure_ (i := 1) (N := some 160) (v := ?_) (a' := ?_) (zB 2 8) rfl rfl (any_of HT_.out (by kernel_rfl)) (fun _ _ _ h => h) (Or.inl ⟨by rfl, ?_⟩) ?_ ?_
         rotate_left
         ·intro w'
          go_simp
          with_reducible rfl
         rotate_left
         ·simp only [Act.put, zt0, zt1, zt2, i64_w, i32_w]
          rfl
         refine pure_ (i := 2) (N := some 161) (v := ?_) (a' := ?_) (zB 3 7) rfl rfl (any_of HT_.out (by kernel_rfl)) (fun _ _ _ h => h) (Or.inl ⟨by rfl, ?_⟩) ?_ ?_
         rotate_left
         ·intro w'
          go_simp
          with_reducible rfl
         rotate_left
         ·simp only [Act.put, zt0, zt1, zt2, i64_w, i32_w]
          rfl
         refine pure_ (i := 3) (N := some 162) (v := undef) (a' := ?_) (zB 4 6) rfl rfl (any_of HT_.out (by kernel_rfl)) (fun _ _ _ h => h) (Or.inr ⟨by rfl, rfl⟩) ?_ ?_
         rotate_left
         ·simp only [Act.put, zt0, zt1, zt2, i64_w, i32_w]
          rfl
         refine pure_ (i := 4) (N := some 163) (v := undef) (a' := ?_) (zB 5 5) rfl rfl (any_of HT_.out (by kernel_rfl)) (fun _ _ _ h => h) (Or.inr ⟨by rfl, rfl⟩) ?_ ?_
         rotate_left
         ·simp only [Act.put, zt0, zt1, zt2, i64_w, i32_w]
          rfl
         refine pure_ (i := 5) (N := some 164) (v := undef) (a' := ?_) (zB 6 4) rfl rfl (any_of HT_.out (by kernel_rfl)) (fun _ _ _ h => h) (Or.inr ⟨by rfl, rfl⟩) ?_ ?_
         rotate_left
         ·simp only [Act.put, zt0, zt1, zt2, i64_w, i32_w]
          rfl
         refine pure_ (i := 6) (N := some 165) (v := undef) (a' := ?_) (zB 7 3) rfl rfl (any_of HT_.out (by kernel_rfl)) (fun _ _ _ h => h) (Or.inr ⟨by rfl, rfl⟩) ?_ ?_
         rotate_left
         ·simp only [Act.put, zt0, zt1, zt2, i64_w, i32_w]
          rfl
         refine pure_ (i := 7) (N := some 166) (v := undef) (a' := ?_) (zB 8 2) rfl rfl (any_of HT_.out (by kernel_rfl)) (fun _ _ _ h => h) (Or.inr ⟨by rfl, rfl⟩) ?_ ?_
         rotate_left
         ·simp only [Act.put, zt0, zt1, zt2, i64_w, i32_w]
          rfl
         refine pure_ (i := 8) (N := some 167) (v := undef) (a' := ?_) (zB 9 1) rfl rfl (any_of HT_.out (by kernel_rfl)) (fun _ _ _ h => h) (Or.inr ⟨by rfl, rfl⟩) ?_ ?_
         rotate_left
         ·simp only [Act.put, zt0, zt1, zt2, i64_w, i32_w]
          rfl
         refine pure_ (i := 9) (N := some 168) (v := ?_) (a' := ?_) (zB 10 0) rfl rfl (any_of HT_.out (by kernel_rfl)) (fun _ _ _ h => h) (Or.inl ⟨by rfl, ?_⟩) ?_ ?_
         rotate_left
         ·intro w'
          go_simp
          with_reducible rfl
         rotate_left
         ·simp only [Act.put, zt0, zt1, zt2, i64_w, i32_w]
          rfl
         refine done_ (done_of HT_.out (by kernel_rfl)) ?_
         obtain ⟨SH, SZ_⟩ := hHeld
         clear SZ_
         go_wp2_with fail
         go_meet
         case rel => exact ⟨by rw [HS1.out]; rfl, ⟨SH⟩⟩
        | true =>
         have HS1 : Aside0 ((!s.f0 == q.f0 || (!s.f1 == q.f1 || (!s.f2 == q.f2 || !s.f3 == q.f3))) = !(okS l0_0 l0_1 j3)) := ⟨by unfold okS; rw [← HX.out, ← HFB.out, Bool.true_and, ← show s = sumN l0_1 x.f0 from HS.out, ← HQ.out]; unfold eqP; cases (s.f0 == q.f0) <;> cases (s.f1 == q.f1) <;> cases (s.f2 == q.f2) <;> rfl⟩
         refine start_ (n := 10) (S := fun w' => ladingref14_Check.S3 w w' gb gp A0_0 c0_0 l0_0 (some ad) c0_1 l0_1 55 (xcells x) ∧ w'.heap[gs]? = some (.cells (pcells s) 31 (0, 0)) ∧ w'.cell? ⟨gs, 0, none⟩ = some (.int .i64 s.f0) ∧ w'.cell? ⟨gs, 1, none⟩ = some (.int .i64 s.f1) ∧ w'.cell? ⟨gs, 2, none⟩ = some (.int .i64 s.f2) ∧ w'.cell? ⟨gs, 3, none⟩ = some (.int .i64 s.f3) ∧ w'.cell? ⟨gb, 0, none⟩ = some (.slice A0_0 l0_0.length c0_0) ∧ w'.cell? ⟨gb, 1, none⟩ = some (.slice (some ad) l0_1.length c0_1) ∧ w'.cell? ⟨gp, 0, none⟩ = some (.int .i64 x.f0)) (ds := []) (zB 0 10) (by kernel_rfl) rfl rfl ⟨(ST4.out.drewN 1), (show w9.drew.heap[gs]? = _ from BS2.out), ((blk_cell (show w9.drew.heap[gs]? = _ from BS2.out) 0).trans rfl), ((blk_cell (show w9.drew.heap[gs]? = _ from BS2.out) 1).trans rfl), ((blk_cell (show w9.drew.heap[gs]? = _ from BS2.out) 2).trans rfl), ((blk_cell (show w9.drew.heap[gs]? = _ from BS2.out) 3).trans rfl), ((blk_cell (ST4.out.drewN 1).BB 0).trans rfl), ((blk_cell (ST4.out.drewN 1).BB 1).trans rfl), ((blk_cell (ST4.out.drewN 1).BP 0).trans rfl)⟩ (fun hHeld => ?_)
         refine with_tabW ladingref14_Check.tab22 ladingref14_Check.bits22 (fun HT_ HW_ => ?_)
         refine pure_ (i := 0) (N := some 159) (v := ?_) (a' := ?_) (zB 1 9) rfl rfl (any_of HT_.out (by kernel_rfl)) (fun _ _ _ h => h) (Or.inl ⟨by rfl, ?_⟩) ?_ ?_
         rotate_left
         ·intro w'
          go_simp
          with_reducible rfl
         rotate_left
         ·simp only [Act.put, zt0, zt1, zt2, i64_w, i32_w]
          rfl
         refine pure_ (i := 1) (N := some 160) (v := ?_) (a' := ?_) (zB 2 8) rfl rfl (any_of HT_.out (by kernel_rfl)) (fun _ _ _ h => h) (Or.inl ⟨by rfl, ?_⟩) ?_ ?_
         rotate_left
         ·intro w'
          go_simp
          with_reducible rfl
         rotate_left
         ·simp only [Act.put, zt0, zt1, zt2, i64_w, i32_w]
          rfl
         refine pure_ (i := 2) (N := some 161) (v := ?_) (a' := ?_) (zB 3 7) rfl rfl (any_of HT_.out (by kernel_rfl)) (fun _ _ _ h => h) (Or.inl ⟨by rfl, ?_⟩) ?_ ?_
         rotate_left
         ·intro w'
          go_simp
          with_reducible rfl
         rotate_left
         ·simp only [Act.put, zt0, zt1, zt2, i64_w, i32_w]
          rfl
         refine pure_ (i := 5) (N := some 164) (v := ?_) (a' := ?_) #[true, true, true, false, false, true, false, false, false, false] rfl rfl (any_of HT_.out (by kernel_rfl)) (fun _ _ _ h => h) (Or.inl ⟨by rfl, ?_⟩) ?_ ?_
         rotate_left
         ·intro w'
          go_simp
          with_reducible rfl
         rotate_left
         ·simp only [Act.put, zt0, zt1, zt2, i64_w, i32_w]
          rfl
         refine take_ (i := 3) (N := some 162) (v := ?_) (a' := ?_) #[true, true, true, true, false, true, false, false, false, false] rfl rfl (take_ofW HT_.out HW_.out (by kernel_rfl)) (fun _ _ _ h => h) (Or.inl ⟨by rfl, ?_⟩) hHeld ?_ ?_
         rotate_left
         ·rintro w' ⟨s0, s1, s2, s3, s4, s5, s6, s7, s8⟩
          go_simp
          with_reducible rfl
         rotate_left
         ·simp only [Act.put, zt0, zt1, zt2, i64_w, i32_w]
          rfl
         refine take_ (i := 4) (N := some 163) (v := ?_) (a' := ?_) (zB 6 4) rfl rfl (take_ofW HT_.out HW_.out (by kernel_rfl)) (fun _ _ _ h => h) (Or.inl ⟨by rfl, ?_⟩) hHeld ?_ ?_
         rotate_left
         ·rintro w' ⟨s0, s1, s2, s3, s4, s5, s6, s7, s8⟩
          go_simp
          with_reducible rfl
         rotate_left
         ·simp only [Act.put, zt0, zt1, zt2, i64_w, i32_w]
          rfl
         refine take_ (i := 6) (N := some 165) (v := ?_) (a' := ?_) (zB 7 3) rfl rfl (take_ofW HT_.out HW_.out (by kernel_rfl)) (fun _ _ _ h => h) (Or.inl ⟨by rfl, ?_⟩) hHeld ?_ ?_
         rotate_left
         ·rintro w' ⟨s0, s1, s2, s3, s4, s5, s6, s7, s8⟩
          go_simp
          with_reducible rfl
         rotate_left
         ·simp only [Act.put, zt0, zt1, zt2, i64_w, i32_w]
          rfl
         refine one_ (i := 7) (N := some 166) (zB 8 2) rfl rfl (one_of HT_.out (by kernel_rfl)) (by decide) (fun K hK => ?_)
         obtain ⟨SH, SB_, SZ_⟩ := hHeld
         clear SZ_
         refine goes_ Try.func36 (by kernel_rfl) rfl #[.agg #[.slice A0_0 l0_0.length c0_0, .slice (some ad) l0_1.length c0_1], .int .i64 x.f0] (by rfl) rfl rfl zl_ ?_
         with_reducible refine (ladingref14_Of.calls 1030 A0_0 c0_0 l0_0 (some ad) c0_1 l0_1 x.f0 q.f0 q.f1 q.f2 q.f3 _ (Kd.C_below HR0.out SH.HB) HC0.out (Kd.C_below HR1.out SH.HB) HC1.out HQV.out).mono ?_
         rintro e w3 ⟨rfl, hb3⟩
         have SH3 := SH.below hb3
         have SB3 := blk_below SB_ hb3
         refine ⟨_, rfl, ?_⟩
         refine hK.out _ _ ⟨SH3, SB3, ((blk_cell SB3 0).trans rfl), ((blk_cell SB3 1).trans rfl), ((blk_cell SB3 2).trans rfl), ((blk_cell SB3 3).trans rfl), ((blk_cell SH3.BB 0).trans rfl), ((blk_cell SH3.BB 1).trans rfl), ((blk_cell SH3.BP 0).trans rfl)⟩ (fun hHeld => ?_)
         clear hK K
         refine norm_ (a' := ?_) ?_ ?_
         rotate_left
         ·show Act.put _ (some 166) _ = _
          simp only [Act.put, zt0, zt1, zt2, i64_w, i32_w]
          rfl
         refine pure_ (i := 8) (N := some 167) (v := ?_) (a' := ?_) (zB 9 1) rfl rfl (any_of HT_.out (by kernel_rfl)) (fun _ _ _ h => h) (Or.inl ⟨by rfl, ?_⟩) ?_ ?_
         rotate_left
         ·intro w'
          go_simp
          with_reducible rfl
         rotate_left
         ·simp only [Act.put, zt0, zt1, zt2, i64_w, i32_w]
          rfl
         refine pure_ (i := 9) (N := some 168) (v := ?_) (a' := ?_) (zB 10 0) rfl rfl (any_of HT_.out (by kernel_rfl)) (fun _ _ _ h => h) (Or.inl ⟨by rfl, ?_⟩) ?_ ?_
         rotate_left
         ·intro w'
          go_simp
          with_reducible rfl
         rotate_left
         ·simp only [Act.put, zt0, zt1, zt2, i64_w, i32_w]
          rfl
         refine done_ (done_of HT_.out (by kernel_rfl)) ?_
         obtain ⟨SH, SZ_⟩ := hHeld
         clear SZ_
         go_wp2_with fail
         go_meet
         case rel => exact ⟨congrArg Value.bool HS1.out, ⟨SH⟩⟩
       case rest =>
        clear ST4
        obtain ⟨rfl, ST⟩ := hcut
        by_cases hq : okS l0_0 l0_1 j3 = true
        ·have HOK := Aside0.mk hq
         have e1 : (!okS l0_0 l0_1 j3) = false := by rw [hq]; rfl
         rw [e1]
         clear e1 hq
         go_wp2_with fail
         go_roundg kq
         case measure => exact Nat.lt_succ_self _
         case rel => exact ⟨j3 + 1, HLT.out, by have := HKQ.out; omega, num_next (by have := HL.out; have := HLT.out; omega), ST.out.BB, ST.out.HB, upto_next OKS.out HOK.out⟩
        ·have HG : Aside0 (r = 9) := ⟨by rw [← HR.out, goodR_s j3 HLT.out (Bool.eq_false_iff.mpr hq)]; rfl⟩
         have e1 : (!okS l0_0 l0_1 j3) = true := by rw [Bool.eq_false_iff.mpr hq]; rfl
         rw [e1]
         clear e1 hq
         go_wp2_with fail
         go_ret
         exact ⟨by rw [HG.out]; rfl, ST.out.HB⟩
      ·have t1 : decide ((j3 : Int) < (l0_1.length : Int)) = false := decide_eq_false (by omega)
       have t1n : decide (j3 < l0_1.length) = false := decide_eq_false hlt
       have HG : Aside0 (r = 0) := ⟨by rw [← HR.out, goodR_of HL.out.1 HL.out.2 OKQ2.out OKX2.out (fun j hj => OKS.out j (by omega))]; rfl⟩
       clear hlt hk OKS HKQ
       go_wp2_with fail
       go_ret
       exact ⟨by rw [HG.out]; rfl, HB.out⟩
end Go.Proofs.Ytaddmogfeijjcaa.Print
