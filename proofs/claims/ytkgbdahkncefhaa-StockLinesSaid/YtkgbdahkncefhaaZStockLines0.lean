/- Plain: moves line by line. -/
import Derived.Test.YtkgbdahkncefhaaZPrint20
import Derived.Test.YtkgbdahkncefhaaZStockLink
set_option linter.unusedVariables false
namespace Go.Proofs.Ytkgbdahkncefhaa.Pure
open Go.RowKit Go.Proofs.Ytkgbdahkncefhaa.Print Go.Proofs.YtkgbdahkncefhaaW.PrintWords Go.Proofs.YtkgbdahkncefhaaW.PrintLast Go.Proofs.YtkgbdahkncefhaaW.PrintMore
theorem rd44 (l : List S44) (i : Nat) (h : i < l.length) : rd_T44 l (i : Int) = l[i] := by
  unfold rd_T44
  rw [Int.toNat_natCast, List.getD_eq_getElem?_getD, List.getElem?_eq_getElem h]; rfl
def linesS (q : Nat) : List S33 → List S44 → List S33 × Int
  | out, [] => (out, 0)
  | out, x :: r => if (moveS q out x.f0 x.f1 x.f2).2 = 0 then linesS q (moveS q out x.f0 x.f1 x.f2).1 r else ([], (moveS q out x.f0 x.f1 x.f2).2)
theorem put_length (c : S33) : ∀ (l : List S33), (put c l).length ≤ l.length + 1
  | [] => Nat.le_refl _
  | x :: r => by
    rw [put]; split
    · simp only [List.length_cons]; have := put_length c r; omega
    · split <;> simp
theorem moveS_length (q : Nat) (l : List S33) (i w n : Int) : (moveS q l i w n).1.length ≤ 4097 := by
  unfold moveS
  by_cases h0 : (cellS l i w).2 = 0
  · obtain ⟨hl, hok, _⟩ := cellS_ok h0
    rw [if_neg (fun h => h h0)]
    split
    · simp
    · split
      · simp
      · split
        · simp
        · split
          · simp
          · show (put _ l).length ≤ 4097
            have := put_length (mvK q n (cellS l i w).1) l; omega
  · rw [if_pos h0]; simp
theorem linesS_length (q : Nat) (L : Nat) (hL : 4097 ≤ L) : ∀ (r : List S44) (l : List S33), l.length ≤ L → (linesS q l r).1.length ≤ L
  | [], l, h => h
  | x :: r, l, h => by
    rw [linesS]; split
    · exact linesS_length q L hL r _ (Nat.le_trans (moveS_length q l _ _ _) hL)
    · simp
theorem lines_l0 (q : Nat) (hq : q < 5) (r : List S44) (hr : r.length ≤ 140737488355328) (L : Nat) (hL : 4097 ≤ L) : ∀ (d k j : Nat) (out : List S33), j + d = r.length → out.length ≤ L → L + 12 + d < k →
    stock_Lines.l0 k (fnK q) out r (r.length : Int) (j : Int) = some (linesS q out (r.drop j))
  | 0, k, j, out, h, ho, hk => by
    obtain ⟨k, rfl⟩ : ∃ p, k = p + 1 := ⟨k - 1, by omega⟩
    rw [stock_Lines.l0, if_neg (by omega), List.drop_of_length_le (by omega)]; rfl
  | d + 1, k, j, out, h, ho, hk => by
    obtain ⟨k, rfl⟩ : ∃ p, k = p + 1 := ⟨k - 1, by omega⟩
    have hi : j < r.length := by omega
    rw [stock_Lines.l0, if_pos (by omega), if_pos (by omega), if_pos (by omega), rd44 r j hi, call_is q hq out _ _ _ (by omega), some_bind, List.drop_eq_getElem_cons hi, linesS]
    split
    · rw [w64n j (by omega), lines_l0 q hq r hr L hL d k (j + 1) _ (by omega) (Nat.le_trans (moveS_length q out _ _ _) hL) (by omega)]
    · rfl
theorem fnK_pos (q : Nat) : ¬ fnK q < 0 := by unfold fnK; split <;> decide
theorem lines_is (q : Nat) (hq : q < 5) (l : List S33) (r : List S44) (hl : l.length * 48 ≤ 140737488355328) (hr : r.length ≤ 140737488355328) {k : Nat} (hk : l.length + 4097 + r.length + 12 < k) : stock_Lines.f k l r (fnK q) = some (linesS q l r) := by
  unfold stock_Lines.f api_Cell_37.f
  rw [if_neg (fnK_pos q), if_pos hl, some_bind]
  have := lines_l0 q hq r hr (l.length + 4097) (by omega) r.length k 0 l (by omega) (by omega) (by omega)
  rwa [List.drop_zero] at this
end Go.Proofs.Ytkgbdahkncefhaa.Pure
