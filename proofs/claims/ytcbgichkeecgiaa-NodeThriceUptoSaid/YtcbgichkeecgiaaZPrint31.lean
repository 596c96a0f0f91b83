-- What the claim uses alone (wip/slim.py). Lean checks it.
import Derived.Test.YtcbgichkeecgiaaZPrint0
namespace Go.Proofs.Ytcbgichkeecgiaa.Print
open Go.RowKit Go.Proofs.YtcbgichkeecgiaaW.PrintWords Go.Proofs.YtcbgichkeecgiaaW.PrintLast Go.Proofs.YtcbgichkeecgiaaW.PrintMore
attribute [local go_sem] max2_mx min2_mn max_two min_two max_three min_three max_four min_four
set_option linter.unusedVariables false
set_option linter.unusedSimpArgs false
theorem slices_Delete_byte_byte.zeros (z : Value) : (Builtin.zeroCells z.cells 1).toList = z.cells.toList := by
 unfold Builtin.zeroCells
 apply List.ext_getElem
 ·simp
 ·intro i h1 h2
  have hl : i < z.cells.size := by simpa using h2
  simp [Nat.mod_eq_of_lt hl, hl]
theorem slices_Delete_byte_byte.clear_one (w : World) (g o c : Nat) (cs : Array Value) (hg : w.heap[g]? = some (.cells cs 27 (0, 0))) (ho : o + 1 ≤ cs.size) (ty : TypeId) :
  (Builtin.clear_ #[22] ty #[.slice (some ⟨g, o, none⟩) 1 c]).run Try.prog w = .ok (.tuple #[]) (w.setCells g o ((.slice none 0 0) : Value).cells.toList) := by
 obtain ⟨i0, hi0, hz0, hzs, hzb⟩ := info_parts info27
 have hzv : (zeroValue 27).run Try.prog w = .ok (.slice none 0 0) w := by
  simp [zeroValue, typeInfo, hi0, hz0]
 have hst := run_storeCells_cells (P := Try.prog) g o ((.slice none 0 0) : Value).cells.toList 0 w
  (fun j hj => by rw [cell_of_row w g _ cs 27 (0, 0) hg, Array.getElem?_eq_getElem (by have : j < 1 := hj; omega)]; rfl)
  (fun j _ => blk_frozen hg _) (by decide)
 rw [Nat.add_zero] at hst
 have hst2 : (storeCells ⟨g, o, none⟩ ((.slice none 0 0) : Value).cells.toList).run Try.prog w = .ok () (w.setCells g o ((.slice none 0 0) : Value).cells.toList) := by simpa using hst
 simp only [Builtin.clear_]
 simp [run_underlying Try.underlying22, hzv, slices_Delete_byte_byte.zeros]
 rw [hst2]
 rfl
set_option maxHeartbeats 4000000 in
set_option maxRecDepth 100000 in
theorem slices_Delete_byte_byte.raw (w : World) (g n c i : Nat) (cur : Array Value) (xs : List Value) (hg : w.heap[g]? = some (.cells cur 27 (0, 0))) (hsz : cur.size = c * 1) (hcm : c ≤ maxLen) (hxs : cur.toList.take (n * 1) = xs) (hxl : xs.length = n * 1) (h1x : ∀ u ∈ xs, u.oneCell' = true) (hi : i < n) (hnc : n ≤ c) :
  Calls Try.prog 36 #[.slice (some ⟨g, 0, none⟩) n c, .int .i64 (i : Int), .int .i64 ((i : Int) + 1)] w fun e w' => ∃ R, e = .returned (.slice (some ⟨g, 0, none⟩) (n - 1) c) ∧ w'.heap[g]? = some (.cells R 27 (0, 0)) ∧ R.size = c * 1 ∧ R.toList.take ((n - 1) * 1) = xs.take (i * 1) ++ xs.drop ((i + 1) * 1) ∧ w.grownBy w' (some g) := by
 obtain ⟨i0, hi0, hz0, hzs, hzb⟩ := info_parts info27
 have hc63 : c ≤ 9223372036854775807 := by simp only [maxLen] at hcm; omega
 obtain ⟨news, hnews⟩ : ∃ news, news = xs.drop ((i + 1) * 1) := ⟨_, rfl⟩
 have hnl : news.length = (n - (i + 1)) * 1 := by rw [hnews, List.length_drop, hxl, Nat.sub_mul]
 have hdg : w.drew.heap[g]? = some (.cells cur 27 (0, 0)) := hg
 obtain ⟨A, hA, hsrc⟩ : ∃ A : Addr, (if c = i + 1 then some (⟨g, 0, none⟩ : Addr) else some ⟨g, (i + 1) * 1, none⟩) = some A ∧ Hid (∀ t u, news[t]? = some u → w.drew.cell? (A.add t) = some u) := by
  by_cases h : c = i + 1
  ·refine ⟨⟨g, 0, none⟩, by simp [h], fun t u hu => ?_⟩
   have h0 : news = [] := List.eq_nil_of_length_eq_zero (by rw [hnl]; omega)
   rw [h0] at hu
   simp at hu
  ·refine ⟨⟨g, (i + 1) * 1, none⟩, by simp [h], fun t u hu => ?_⟩
   rw [Addr.add_lit, cell_of_row _ _ _ _ _ _ hdg, ← Array.getElem?_toList]
   rw [hnews, List.getElem?_drop, ← hxs, List.getElem?_take] at hu
   split at hu
   ·exact hu
   ·cases hu
 have s1 : Hid (news.length = (n - (i + 1)) * 1) := hnl
 have s2 : Hid (∀ u ∈ news, u.oneCell' = true) := fun u hu => h1x u (List.mem_of_mem_drop (hnews ▸ hu))
 have s3 : Hid (∀ t, t < news.length → (w.drew.cell? ⟨g, 0 + i * 1 + t, none⟩).isSome = true ∧ w.drew.frozen? ⟨g, 0 + i * 1 + t, none⟩ = false) := by
  intro t ht
  rw [hnl] at ht
  exact ⟨by rw [cell_of_row _ _ _ _ _ _ hdg, Array.getElem?_eq_getElem (by omega)]; rfl, blk_frozen hdg _⟩
 obtain ⟨W1, hW1⟩ : ∃ W1, W1 = w.drew.setCells g (0 + i * 1) news := ⟨_, rfl⟩
 obtain ⟨R1, hR1, hR1s, hR1t⟩ := setCells_row news (0 + i * 1) w.drew cur hdg (by omega)
 rw [← hW1] at hR1
 obtain ⟨a1, a2, a3, a4⟩ := setCells_same g news (0 + i * 1) w.drew
 have hfar1 : ∀ k, k ≠ g → W1.heap[k]? = w.heap[k]? := fun k hk => by rw [hW1]; exact setCells_far news _ k hk
 rw [← hW1] at a1 a2 a3 a4
 obtain ⟨W2, hW2⟩ : ∃ W2, W2 = W1.setCells g ((n - 1) * 1) ((.slice none 0 0) : Value).cells.toList := ⟨_, rfl⟩
 obtain ⟨R2, hR2, hR2s, hR2t⟩ := setCells_row ((.slice none 0 0) : Value).cells.toList ((n - 1) * 1) W1 R1 hR1 (by rw [hR1s, hsz, show ((.slice none 0 0) : Value).cells.toList.length = 1 from rfl]; omega)
 rw [← hW2] at hR2
 obtain ⟨b1, b2, b3, b4⟩ := setCells_same g ((.slice none 0 0) : Value).cells.toList ((n - 1) * 1) W1
 rw [← hW2] at b1 b2 b3 b4
 have hcl : ∀ ty, (Builtin.clear_ #[22] ty #[.slice (some ⟨g, (i + (n - (i + 1))) * 1, none⟩) (n - (i + (n - (i + 1)))) (c - (i + (n - (i + 1))))]).run Try.prog W1 = .ok (.tuple #[]) W2 := fun ty => by
  rw [hW2, show n - (i + (n - (i + 1))) = 1 by omega, show i + (n - (i + 1)) = n - 1 by omega]; exact slices_Delete_byte_byte.clear_one W1 g ((n - 1) * 1) _ R1 hR1 (by rw [hR1s, hsz]; omega) ty
 have hgrown : w.grownBy W2 (some g) := ⟨b1.trans a1, b2.trans a2, b3.trans a3, by rw [b4, a4]; exact Nat.le_refl _, fun k _ hk => by
  have hkg : k ≠ g := fun h => hk (by rw [h])
  rw [hW2, setCells_far _ _ k hkg]; exact hfar1 k hkg⟩
 have htake : R2.toList.take ((n - 1) * 1) = xs.take (i * 1) ++ news := by
  rw [hR2t, List.append_assoc, List.take_append_of_le_length (by rw [List.length_take, Array.length_toList, hR1s, hsz]; omega), List.take_take, Nat.min_eq_left (Nat.le_refl _), hR1t, Nat.zero_add]
  have h7 : cur.toList.take (i * 1) = xs.take (i * 1) := by rw [← hxs, List.take_take, Nat.min_eq_left (by omega)]
  rw [h7]
  exact List.take_left' (by rw [List.length_append, List.length_take, hnl]; omega)
 have F1 := Aside0.mk hR2
 have F2 := Aside0.mk (hR2s.trans (hR1s.trans hsz))
 have F3 := Aside0.mk (hnews ▸ htake)
 have F4 := Aside0.mk hgrown
 (try simp only [Nat.mul_one] at hcl hA)
 have HCL := Aside0.mk hcl
 have HW : Hid (W1 = w.drew.setCells g (0 + i * 1) news) := hW1
 have hic : i ≤ c := by omega
 have hi1c : i + 1 ≤ c := by omega
 have hin : i ≤ n := by omega
 have hi1n : i + 1 ≤ n := by omega
 have hne : ¬ ((i : Int) = (i : Int) + 1) := by omega
 have hneb : ((i : Int) == (i : Int) + 1) = false := beq_eq_false_iff_ne.mpr hne
 clear hW1 hR1 hR1s hR1t hfar1 a1 a2 a3 a4 hW2 hR2 hR2s hR2t b1 b2 b3 b4 hgrown htake hdg hnews hnl hxs hxl h1x hg hsz hcl
 have mixed : Try.prog.follows Departure.mixedOrders = true := by kernel_rfl
 have htn : ((i : Int) + (1 : Int)).toNat = i + 1 := by omega
 have hb1 : (0 : Int) ≤ (i : Int) + (1 : Int) := by omega
 have hb2 : (i : Int) + (1 : Int) ≤ (n : Int) := by omega
 go_enter Try.func36, Try.ntmps36
 go_wp2_with fail
 go_region_law_o (refine step_append_room rfl (.tmp 22) (.tmp 25) 22 rfl 27 i0 1 Try.underlying22 hi0 hzs g 0 i c (by simp [Act.eval, Act.put]) A (n - (i + 1)) (c - (i + 1)) news (by simp [Act.eval, Act.put]) s1.out hsrc.out s2.out (by omega) s3.out ?_; rw [← HW.out])
 have hcl := HCL.out
 go_wp2
 go_ret
 exact ⟨R2, by rw [show n - 1 = i + (n - (i + 1)) by omega]; rfl, F1.out, F2.out, F3.out, F4.out⟩
end Go.Proofs.Ytcbgichkeecgiaa.Print
