-- What the claim uses alone (wip/slim.py). Lean checks it.
import Derived.Test.YtcbgichkeecgiaaZPrint0
namespace Go.Proofs.Ytcbgichkeecgiaa.Print
open Go.RowKit Go.Proofs.YtcbgichkeecgiaaW.PrintWords Go.Proofs.YtcbgichkeecgiaaW.PrintLast Go.Proofs.YtcbgichkeecgiaaW.PrintMore
attribute [local go_sem] max2_mx min2_mn max_two min_two max_three min_three max_four min_four
set_option linter.unusedVariables false
set_option linter.unusedSimpArgs false
set_option maxHeartbeats 4000000 in
set_option maxRecDepth 100000 in
theorem slices_Insert_byte_byte.end_ (w : World) (base : Nat) (v : Value) (n : Nat) (xs : List Value) (hO : w.ownsRow base 27 1 v n xs) (vb : Addr) (vc : Nat) (ys : List Value) (hy : ∀ j u, ys[j]? = some u → w.cell? (vb.add j) = some u) (hyl : ys.length = 1) (h1 : ∀ u ∈ ys, u.oneCell' = true) (hbig : (n + 1) * 24 ≤ 140737488355328) (hbase : base ≤ w.heap.size) :
  Calls Try.prog 28 #[v, .int .i64 n, .slice (some vb) 1 vc] w fun e w' => ∃ v1, e = .returned v1 ∧ w'.ownsRow base 27 1 v1 (n + 1) (xs ++ ys) ∧ w.grownBy w' v.ownBlock ∧ (v1.ownBlock = v.ownBlock ∨ v1.ownBlock = some w.heap.size) := by
 obtain ⟨i0, hi0, hz0, hzs, hzb⟩ := info_parts info27
 obtain ⟨v1, w1, hr, h2, h3, _, h5⟩ := run_append_own_at (P := Try.prog) (w := w) base 22 22 27 i0 (.slice none 0 0) 1 24 Try.underlying22 hi0 hz0 hzs hzb rfl (by omega) v n xs hO vb 1 vc ys (by simpa using hyl) hy h1 (by simp only [maxLen]; omega) hbig hbase
 have H2 := Aside0.mk h2
 have H3 := Aside0.mk h3
 have H5 := Aside0.mk h5
 clear h2 h3 h5
 have hshape : ∃ A c, v = .slice A n c ∧ n ≤ c := by
  rcases hO.2 with ⟨rfl, rfl⟩ | ⟨g, cap, cur, rfl, _, _, h, _⟩
  ·exact ⟨_, _, rfl, Nat.le_refl _⟩
  ·exact ⟨_, _, rfl, h⟩
 have HY := Aside0.mk hy
 clear hO hy
 obtain ⟨A, c, rfl, hnc⟩ := hshape
 have hn63 : n ≤ 9223372036854775807 := by omega
 go_enter Try.func28, Try.ntmps28
 go_wp2_with (at_builtin; refine Lib.wpList_append_run _ rfl _ _ _ _ rfl _ _ rfl rfl _ _ hr ?_)
 all_goals go_ret
 all_goals exact ⟨v1, rfl, H2.out, by cases A <;> exact H3.out, by cases A <;> exact H5.out⟩
set_option maxHeartbeats 4000000 in
set_option maxRecDepth 100000 in
theorem slices_Insert_byte_byte.grow_ (w : World) (g n c i : Nat) (cur : Array Value) (xs : List Value) (hg : w.heap[g]? = some (.cells cur 27 (0, 0))) (hsz : cur.size = c * 1) (hxs : cur.toList.take (n * 1) = xs) (hxl : xs.length = n * 1) (h1x : ∀ u ∈ xs, u.oneCell' = true) (hi : i < n) (hnc : n ≤ c) (hroom : c < n + 1)
  (vb : Addr) (vc : Nat) (ys : List Value) (hy : ∀ j u, ys[j]? = some u → w.cell? (vb.add j) = some u) (hyl : ys.length = 1) (h1 : ∀ u ∈ ys, u.oneCell' = true) (hbig : (n + 1) * 24 ≤ 140737488355328) :
  Calls Try.prog 28 #[.slice (some ⟨g, 0, none⟩) n c, .int .i64 i, .slice (some vb) 1 vc] w fun e w' => ∃ G R, e = .returned (.slice (some ⟨w.heap.size, 0, none⟩) (n + 1) G) ∧ (n + 1 ≤ G ∧ G ≤ maxLen) ∧ w'.heap[w.heap.size]? = some (.cells R 27 (0, 0)) ∧ R.size = G * 1 ∧ R.toList.take ((n + 1) * 1) = xs.take (i * 1) ++ ys ++ xs.drop (i * 1) ∧ w.grownBy w' none := by
 obtain ⟨i0, hi0, hz0, hzs, hzb⟩ := info_parts info27
 have hold : (Builtin.firstCells i0.size i (.slice (some ⟨g, 0, none⟩) i c)).run Try.prog w.drew = .ok (xs.take (i * 1)).toArray w.drew := by
  rw [hzs]
  exact run_firstCells_some w.drew 1 i ⟨g, 0, none⟩ i c (xs.take (i * 1)) (by rw [List.length_take]; omega) (fun j v hj => by
   rw [add_plain, cell_of_row _ _ _ _ _ _ (show w.drew.heap[g]? = _ from hg), ← Array.getElem?_toList]
   rw [List.getElem?_take] at hj
   split at hj
   ·rw [← hxs, List.getElem?_take] at hj
    split at hj
    ·exact hj
    ·cases hj
   ·cases hj)
 have hkk : (n : Int) + (1 : Int) - (i : Int) = ((n + 1 - i : Nat) : Int) := by omega
 have hik : i + (n + 1 - i) = n + 1 := by omega
 obtain ⟨G, R0, hG, hGl, hR0, hR0t, hrz⟩ : ∃ G R0, n + 1 ≤ G ∧ G ≤ maxLen ∧ Array.size R0 = G * 1 ∧ R0.toList.take (i * 1) = xs.take (i * 1) ∧ (Builtin.append_ #[22, 3] 22 #[.slice (some ⟨g, 0, none⟩) i c, .int .i64 ((n : Int) + (1 : Int) - (i : Int))]).run Try.prog w = .ok (.slice (some ⟨w.heap.size, 0, none⟩) (n + 1) G) (w.drew.alloc (.cells R0 27)) := by
  have h := Lib.run_append_grow_zeros w 22 3 22 27 i0 _ .i64 .i64 Try.underlying22 Try.underlying3 hi0 hz0 (some ⟨g, 0, none⟩) i c (xs.take (i * 1)) hold (n + 1 - i) (by omega) (by omega) (by omega) (by omega) (by rw [hzb]; omega) (by rw [hzb, hik]; exact growslice_fits hroom hbig)
  rw [hik, ← hkk] at h
  have hge := grownCap_ge w (n + 1) c 27
  refine ⟨_, _, hge, grownCap_le_maxLen w (n + 1) c 27 (by unfold maxLen; omega), ?_, ?_, h⟩
  ·rw [Array.size_append, Array.size_append, List.size_toArray, size_zeroCells, size_zeroCells, List.length_take, show ((.slice none 0 0) : Value).cells.size = 1 from rfl, Nat.min_eq_left (by omega), ← Nat.add_mul, ← Nat.add_mul]
   congr 1
   omega
  ·rw [Array.toList_append, Array.toList_append, List.append_assoc, List.take_append_of_le_length (by rw [List.length_take]; omega), List.take_of_length_le (by rw [List.length_take]; omega)]
 have hgw : g < w.heap.size := blk_lt hg
 obtain ⟨R1, hR1⟩ : ∃ R1, R1 = (R0.toList.take (i * 1) ++ ys ++ R0.toList.drop (i * 1 + ys.length)).toArray := ⟨_, rfl⟩
 obtain ⟨R2, hR2⟩ : ∃ R2, R2 = (R1.toList.take ((i + 1) * 1) ++ xs.drop (i * 1) ++ R1.toList.drop ((i + 1) * 1 + (xs.drop (i * 1)).length)).toArray := ⟨_, rfl⟩
 have hdl : (xs.drop (i * 1)).length = (n - i) * 1 := by rw [List.length_drop, hxl, Nat.sub_mul]
 have hR1s : R1.size = G * 1 := by
  rw [hR1, List.size_toArray, List.length_append, List.length_append, List.length_take, List.length_drop, Array.length_toList, hyl, hR0]
  omega
 have hR2s : R2.size = G * 1 := by
  rw [hR2]
  generalize xs.drop (i * 1) = D at hdl
  rw [List.size_toArray, List.length_append, List.length_append, List.length_take, List.length_drop, Array.length_toList, hdl, hR1s]
  omega
 have hR1t : R1.toList.take ((i + 1) * 1) = xs.take (i * 1) ++ ys := by
  have hl0 : (R0.toList.take (i * 1)).length = i * 1 := by rw [List.length_take, Array.length_toList, hR0]; omega
  rw [hR1, List.take_append_of_le_length (by rw [List.length_append, hl0, hyl]; omega), List.take_of_length_le (by rw [List.length_append, hl0, hyl]; omega), hR0t]
 have hR2t : R2.toList.take ((n + 1) * 1) = xs.take (i * 1) ++ ys ++ xs.drop (i * 1) := by
  have hl1 : (xs.take (i * 1) ++ ys).length = (i + 1) * 1 := by rw [List.length_append, List.length_take, hyl]; omega
  rw [hR2, hR1t, List.take_append_of_le_length (by rw [List.length_append, hl1, hdl]; omega), List.take_of_length_le (by rw [List.length_append, hl1, hdl]; omega)]
 have hNW : (w.alloc (.cells R0 27)).drew.heap[w.heap.size]? = some (.cells R0 27 (0, 0)) := heap_alloc_new w _
 have hmin1 : Nat.min 1 (n + 1 - i) = 1 := Nat.min_eq_left (by omega)
 have hmin2 : Nat.min (n - i) (n - i) = n - i := Nat.min_eq_left (Nat.le_refl _)
 have hcp1 : (Builtin.copy_ #[22, 22] 3 #[.slice (some ⟨w.heap.size, i * 1, none⟩) (n + 1 - i) (G - i), .slice (some vb) 1 vc]).run Try.prog (w.alloc (.cells R0 27)).drew = .ok (goInt (Nat.min 1 (n + 1 - i))) ((w.alloc (.cells R0 27)).drew.setRow w.heap.size R1) := by
  rw [hR1]
  exact run_copy_rowsz _ 22 22 3 27 1 w.heap.size (i * 1) (n + 1 - i) (G - i) vb 1 vc R0 27 ys Try.underlying22 (by rw [hi0]; simp [hzs]) hNW (by rw [hyl, hmin1])
   (fun j v hj => by
    have := hy j v hj
    exact pw_cell_below (below_alloc (Below.refl _ _) _) this) (by rw [hyl, hR0]; omega) h1
 have hNW1 : ((w.alloc (.cells R0 27)).drew.setRow w.heap.size R1).drew.heap[w.heap.size]? = some (.cells R1 27 (0, 0)) := setRow_heap _ _ R0 R1 27 _ hNW
 have hgW1 : ((w.alloc (.cells R0 27)).drew.setRow w.heap.size R1).drew.heap[g]? = some (.cells cur 27 (0, 0)) := by
  show ((w.alloc (.cells R0 27)).setRow w.heap.size R1).heap[g]? = _
  rw [setRow_other _ _ _ _ (by omega)]
  exact blk_alloc hg _
 have hcp2 : (Builtin.copy_ #[22, 22] 3 #[.slice (some ⟨w.heap.size, (i + 1) * 1, none⟩) (n - i) (G - (i + 1)), .slice (some ⟨g, i * 1, none⟩) (n - i) (c - i)]).run Try.prog ((w.alloc (.cells R0 27)).drew.setRow w.heap.size R1).drew = .ok (goInt (Nat.min (n - i) (n - i))) (((w.alloc (.cells R0 27)).drew.setRow w.heap.size R1).drew.setRow w.heap.size R2) := by
  rw [hR2]
  exact run_copy_rowsz _ 22 22 3 27 1 w.heap.size ((i + 1) * 1) (n - i) (G - (i + 1)) ⟨g, i * 1, none⟩ (n - i) (c - i) R1 27 (xs.drop (i * 1)) Try.underlying22 (by rw [hi0]; simp [hzs]) hNW1 (by rw [hdl, hmin2])
   (fun j v hj => by
    rw [Addr.add_lit, cell_of_row _ _ _ _ _ _ hgW1, ← Array.getElem?_toList]
    rw [List.getElem?_drop, ← hxs, List.getElem?_take] at hj
    split at hj
    ·exact hj
    ·cases hj) (by rw [hdl, hR1s]; omega) (fun v hv => h1x v (List.mem_of_mem_drop hv))
 have hfin : (((w.alloc (.cells R0 27)).drew.setRow w.heap.size R1).drew.setRow w.heap.size R2).heap[w.heap.size]? = some (.cells R2 27 (0, 0)) := setRow_heap _ _ R1 R2 27 _ hNW1
 have hgrown : w.grownBy (((w.alloc (.cells R0 27)).drew.setRow w.heap.size R1).drew.setRow w.heap.size R2) none := by
  have hB : Below w.heap.size w (((w.alloc (.cells R0 27)).drew.setRow w.heap.size R1).drew.setRow w.heap.size R2) :=
   below_setRow (below_drew (below_setRow (below_drew (below_alloc (Below.refl _ _) _)) (Nat.le_refl _) _)) (Nat.le_refl _) _
  exact grown_of_below hB none
 have F1 := Aside0.mk hfin
 have F2 := Aside0.mk hgrown
 have F3 := Aside0.mk hR2s
 have F4 := Aside0.mk hR2t
 have F5 := Aside0.mk (And.intro hG hGl)
 clear hmin1 hmin2 hfin hgrown hR2s hR2t hR2 hR1t hR1s hR1 hdl hNW hNW1 hgW1 hR0 hR0t hy
 have hin : i ≤ n := by omega
 have hGi : ¬ (G = i) := by omega
 have hGi1 : ¬ (G = i + 1) := by omega
 have hci : ¬ (c = i) := by omega
 clear hkk hik hold
 have hw1 : IntKind.i64.wrap ((i : Int) + (1 : Int)) = (i : Int) + (1 : Int) := by rw [IntKind.wrap_i64]; omega
 have hb1 : (0 : Int) ≤ (i : Int) + (1 : Int) := by omega
 have mixed : Try.prog.follows Departure.mixedOrders = true := by kernel_rfl
 have htn : ((i : Int) + (1 : Int)).toNat = i + 1 := by omega
 (try simp only [Nat.mul_one] at hrz hcp1 hcp2)
 go_enter Try.func28, Try.ntmps28
 go_wp2_with (first
  | (at_builtin; refine Lib.wpList_append_run _ rfl _ _ _ _ rfl _ _ rfl rfl _ _ hrz ?_)
  | (at_builtin; refine wpList_copy_runI _ rfl _ _ 22 22 rfl _ _ rfl rfl hcp1 ?_)
  | (at_builtin; refine wpList_copy_runI _ rfl _ _ 22 22 rfl _ _ rfl rfl hcp2 ?_))
 go_region_law_o (refine step_copy_runI rfl _ _ 22 22 rfl _ _ (by simp [Act.eval, Act.put]) (by simp [Act.eval, Act.put]) hcp2 ?_)
 go_wp2
 go_ret
 exact ⟨G, R2, rfl, F5.out, F1.out, F3.out, F4.out, F2.out⟩
set_option maxHeartbeats 4000000 in
set_option maxRecDepth 100000 in
theorem slices_Insert_byte_byte.shift_ (w : World) (g n c i : Nat) (cur : Array Value) (xs : List Value) (hg : w.heap[g]? = some (.cells cur 27 (0, 0))) (hsz : cur.size = c * 1) (hcm : c ≤ maxLen) (hxs : cur.toList.take (n * 1) = xs) (hxl : xs.length = n * 1) (h1x : ∀ u ∈ xs, u.oneCell' = true) (hi : i < n) (hroom : n + 1 ≤ c)
  (vb : Addr) (vc : Nat) (ys : List Value) (hvg : vb.block ≠ g) (hy : ∀ j u, ys[j]? = some u → w.cell? (vb.add j) = some u) (hyl : ys.length = 1) (h1 : ∀ u ∈ ys, u.oneCell' = true) :
  Calls Try.prog 28 #[.slice (some ⟨g, 0, none⟩) n c, .int .i64 i, .slice (some vb) 1 vc] w fun e w' => ∃ R, e = .returned (.slice (some ⟨g, 0, none⟩) (n + 1) c) ∧ w'.heap[g]? = some (.cells R 27 (0, 0)) ∧ R.size = c * 1 ∧ R.toList.take ((n + 1) * 1) = xs.take (i * 1) ++ ys ++ xs.drop (i * 1) ∧ w.grownBy w' (some g) := by
 obtain ⟨i0, hi0, hz0, hzs, hzb⟩ := info_parts info27
 have hc63 : c ≤ 9223372036854775807 := by simp only [maxLen] at hcm; omega
 have hgw : g < w.heap.size := blk_lt hg
 have hdl : (xs.drop (i * 1)).length = (n - i) * 1 := by rw [List.length_drop, hxl, Nat.sub_mul]
 obtain ⟨D, hD⟩ : ∃ D, D = xs.drop (i * 1) := ⟨_, rfl⟩
 rw [← hD] at hdl ⊢
 obtain ⟨R1, hR1⟩ : ∃ R1, R1 = (cur.toList.take ((i + 1) * 1) ++ D ++ cur.toList.drop ((i + 1) * 1 + D.length)).toArray := ⟨_, rfl⟩
 obtain ⟨R2, hR2⟩ : ∃ R2, R2 = (R1.toList.take (i * 1) ++ ys ++ R1.toList.drop (i * 1 + ys.length)).toArray := ⟨_, rfl⟩
 have hR1s : R1.size = c * 1 := by
  rw [hR1, List.size_toArray, List.length_append, List.length_append, List.length_take, List.length_drop, Array.length_toList, hdl, hsz]
  omega
 have hR2s : R2.size = c * 1 := by
  rw [hR2, List.size_toArray, List.length_append, List.length_append, List.length_take, List.length_drop, Array.length_toList, hyl, hR1s]
  omega
 have hl0 : (cur.toList.take ((i + 1) * 1)).length = (i + 1) * 1 := by rw [List.length_take, Array.length_toList, hsz]; omega
 have hR2t : R2.toList.take ((n + 1) * 1) = xs.take (i * 1) ++ ys ++ D := by
  have ht : R1.toList.take (i * 1) = xs.take (i * 1) := by
   rw [hR1, List.append_assoc, List.take_append_of_le_length (by omega), List.take_take, Nat.min_eq_left (by omega), ← hxs, List.take_take, Nat.min_eq_left (by omega)]
  have hd : R1.toList.drop (i * 1 + ys.length) = D ++ cur.toList.drop ((i + 1) * 1 + D.length) := by
   rw [hR1, hyl, List.append_assoc, show i * 1 + 1 = (i + 1) * 1 by omega, List.drop_append, List.drop_of_length_le (by omega), hl0, Nat.sub_self, List.drop_zero, List.nil_append]
  have hl2 : (xs.take (i * 1) ++ ys ++ D).length = (n + 1) * 1 := by
   rw [List.length_append, List.length_append, List.length_take, hyl, hdl]; omega
  rw [hR2, ht, hd, ← List.append_assoc, List.take_append_of_le_length (by omega), List.take_of_length_le (by omega)]
 have hmin1 : Nat.min 1 (n + 1 - i) = 1 := Nat.min_eq_left (by omega)
 have hmin2 : Nat.min (n + 1 - i) (n - i) = n - i := Nat.min_eq_right (by omega)
 have hcp1 : (Builtin.copy_ #[22, 22] 3 #[.slice (some ⟨g, (i + 1) * 1, none⟩) (n - i) (c - (i + 1)), .slice (some ⟨g, i * 1, none⟩) (n + 1 - i) (c - i)]).run Try.prog w.drew = .ok (goInt (Nat.min (n + 1 - i) (n - i))) (w.drew.setRow g R1) := by
  rw [hR1]
  exact run_copy_rowsz _ 22 22 3 27 1 g ((i + 1) * 1) (n - i) (c - (i + 1)) ⟨g, i * 1, none⟩ (n + 1 - i) (c - i) cur 27 D Try.underlying22 (by rw [hi0]; simp [hzs]) hg (by rw [hdl, hmin2])
   (fun j v hj => by
    rw [Addr.add_lit, cell_of_row _ _ _ _ _ _ (show w.drew.heap[g]? = _ from hg), ← Array.getElem?_toList]
    rw [hD, List.getElem?_drop, ← hxs, List.getElem?_take] at hj
    split at hj
    ·exact hj
    ·cases hj) (by rw [hdl, hsz]; omega) (fun v hv => h1x v (List.mem_of_mem_drop (hD ▸ hv)))
 have hg1 : (w.drew.setRow g R1).heap[g]? = some (.cells R1 27 (0, 0)) := setRow_heap _ _ cur R1 27 _ hg
 have hcp2 : (Builtin.copy_ #[22, 22] 3 #[.slice (some ⟨g, i * 1, none⟩) (n + 1 - i) (c - i), .slice (some vb) 1 vc]).run Try.prog (w.drew.setRow g R1) = .ok (goInt (Nat.min 1 (n + 1 - i))) ((w.drew.setRow g R1).setRow g R2) := by
  rw [hR2]
  exact run_copy_rowsz _ 22 22 3 27 1 g (i * 1) (n + 1 - i) (c - i) vb 1 vc R1 27 ys Try.underlying22 (by rw [hi0]; simp [hzs]) hg1 (by rw [hyl, hmin1])
   (fun j v hj => by
    rw [cell_setRow_other _ _ _ _ (by rw [show (vb.add j).block = vb.block by unfold Addr.add; split <;> rfl]; exact hvg)]
    exact hy j v hj) (by rw [hyl, hR1s]; omega) h1
 have hfin : ((w.drew.setRow g R1).setRow g R2).heap[g]? = some (.cells R2 27 (0, 0)) := setRow_heap _ _ R1 R2 27 _ hg1
 have hgrown : w.grownBy ((w.drew.setRow g R1).setRow g R2) (some g) := by
  refine ⟨rfl, rfl, rfl, by simp, fun k hk hne => ?_⟩
  have hkg : k ≠ g := fun h => hne (by rw [h])
  rw [setRow_other _ _ _ _ hkg, setRow_other _ _ _ _ hkg]
  rfl
 have hov : ∀ lb cb, (callFunc 48 #[.slice (some vb) 1 vc, .slice (some ⟨g, (i + 1) * 1, none⟩) lb cb]).run Try.prog w = .ok (.value (.bool false)) w := fun lb cb => by
  rw [run_callFunc_extern Try.func48 (by kernel_rfl) (by kernel_rfl) (by kernel_rfl) (e := Extern.SlicesOverlaps.overlaps #[22, 22] #[4]) (by kernel_rfl),
   run_overlaps_own w 22 4 27 Try.underlying22 1 (fun w => by simp [sizeOf, typeInfo, hi0, hzs]) vb ⟨g, (i + 1) * 1, none⟩ 1 vc lb cb hvg (ys[0]'(by omega)) (by have h := hy 0 _ (List.getElem?_eq_getElem (show 0 < ys.length by omega)); rwa [show vb.add 0 = vb by unfold Addr.add; rfl] at h) cur 27 hg (by omega)]
  rfl
 have F1 := Aside0.mk hfin
 have F2 := Aside0.mk hgrown
 have F3 := Aside0.mk hR2s
 have F4 := Aside0.mk hR2t
 clear hmin1 hmin2 hfin hgrown hR2s hR2t hR2 hR1s hR1 hl0 hg1 hy
 have hin : i ≤ n := by omega
 have hin1 : (i : Int) ≤ (n : Int) + 1 := by omega
 have hci1 : ¬ (c = i + 1) := by omega
 have hci : ¬ (c = i) := by omega
 have hw1 : IntKind.i64.wrap ((i : Int) + (1 : Int)) = (i : Int) + (1 : Int) := by rw [IntKind.wrap_i64]; omega
 have hb1 : (0 : Int) ≤ (i : Int) + (1 : Int) := by omega
 have mixed : Try.prog.follows Departure.mixedOrders = true := by kernel_rfl
 have htn : ((i : Int) + (1 : Int)).toNat = i + 1 := by omega
 (try simp only [Nat.mul_one] at hov hcp1 hcp2)
 go_enter Try.func28, Try.ntmps28
 go_wp2_with (simp only [hov])
 go_region_law_o (refine step_copy_runI rfl _ _ 22 22 rfl _ _ (by simp [Act.eval, Act.put]) (by simp [Act.eval, Act.put]) hcp1 ?_)
 go_wp2_with (at_builtin; refine wpList_copy_runI _ rfl _ _ 22 22 rfl _ _ rfl rfl hcp2 ?_)
 go_ret
 exact ⟨R2, rfl, F1.out, F3.out, F4.out, F2.out⟩
set_option maxHeartbeats 4000000 in
set_option maxRecDepth 100000 in
theorem slices_Insert_byte_byte.ins (P0_ okp : Nat → Prop) (v : Value) (l0 : List (List Int)) (i : Nat) (hi : i ≤ l0.length) (ad : Addr) (c2 : Nat) (p : List Int) (ys : List Value) (base : Nat) (w : World) (hbase : base ≤ w.heap.size) (ho0 : Kd.R (Kd.slice 5 (Kd.int .u8)) 27 w base P0_ v l0) (hyl : ys.length = 1) (hys : ∀ j u, ys[j]? = some u → w.cell? (ad.add j) = some u) (hM : (Kd.slice 5 (Kd.int .u8)).M w base okp p ys) (hokp : ∀ k, okp k → P0_ k ∧ some k ≠ v.ownBlock) (hfoot : ∀ g, v.ownBlock = some g → ad.block ≠ g) (hbig : (l0.length + 1) * 24 ≤ 140737488355328) :
  Calls Try.prog 28 #[v, .int .i64 (i : Int), .slice (some ad) 1 c2] w fun e w' => ∃ v1 : Value, e = .returned v1 ∧ Kd.R (Kd.slice 5 (Kd.int .u8)) 27 w' base (fun k_ => (P0_ k_ ∨ w.heap.size ≤ k_)) v1 (l0.take i ++ [p] ++ l0.drop i) ∧ w.grownBy w' v.ownBlock ∧ (v1.ownBlock = v.ownBlock ∨ ∃ b, v1.ownBlock = some b ∧ w.heap.size ≤ b) := by
 have h1y := (Kd.slice 5 (Kd.int .u8)).K_one ((Kd.slice 5 (Kd.int .u8)).K_of_M hM)
 obtain ⟨h0, inner, hown, hrep⟩ := ho0
 have h1x : ∀ u ∈ inner, u.oneCell' = true := Kd.reps_one hrep (show 0 < (Kd.slice 5 (Kd.int .u8)).sz by decide) (fun _ _ hq => (Kd.slice 5 (Kd.int .u8)).K_one ((Kd.slice 5 (Kd.int .u8)).K_of_M hq))
 have hil := hown.1
 have fin : ∀ (v1 : Value) (w' : World), w'.ownsRow base 27 1 v1 (l0.length + 1) (inner.take (i * 1) ++ ys ++ inner.drop (i * 1)) → w.grownBy w' v.ownBlock → (v1.ownBlock = v.ownBlock ∨ ∃ b, v1.ownBlock = some b ∧ w.heap.size ≤ b) →
   Kd.R (Kd.slice 5 (Kd.int .u8)) 27 w' base (fun k_ => (P0_ k_ ∨ w.heap.size ≤ k_)) v1 (l0.take i ++ [p] ++ l0.drop i) ∧ w.grownBy w' v.ownBlock ∧ (v1.ownBlock = v.ownBlock ∨ ∃ b, v1.ownBlock = some b ∧ w.heap.size ≤ b) := fun v1 w' ho hg hat =>
  ⟨R_inserted h0 hrep hM hokp hi ho hg hat, hg, hat⟩
 rcases Nat.lt_or_ge i l0.length with hlt | hge
 ·rcases hown.2 with ⟨_, hn⟩ | ⟨g, cap, cur, rfl, hbas, hheap, hnc, hcm, hcs, htk⟩
  ·omega
  ·have hvg : ad.block ≠ g := hfoot g rfl
   rcases Nat.lt_or_ge cap (l0.length + 1) with hroom | hroom
   ·refine (slices_Insert_byte_byte.grow_ w g l0.length cap i cur inner hheap hcs htk hil h1x hlt hnc hroom ad c2 ys hys hyl h1y hbig).mono ?_
    rintro e w' ⟨G, R, rfl, ⟨hG, hGm⟩, hH, hRs, hRt, hgr⟩
    refine ⟨_, rfl, fin _ w' ⟨?_, .inr ⟨_, G, R, rfl, hbase, hH, hG, hGm, hRs, hRt⟩⟩ (grownBy_any hgr _) (.inr ⟨_, rfl, Nat.le_refl _⟩)⟩
    rw [← hRt, List.length_take, show R.toList.length = _ from (Array.length_toList).trans hRs]; omega
   ·refine (slices_Insert_byte_byte.shift_ w g l0.length cap i cur inner hheap hcs hcm htk hil h1x hlt hroom ad c2 ys hvg hys hyl h1y).mono ?_
    rintro e w' ⟨R, rfl, hH, hRs, hRt, hgr⟩
    refine ⟨_, rfl, fin _ w' ⟨?_, .inr ⟨g, cap, R, rfl, hbas, hH, hroom, hcm, hRs, hRt⟩⟩ hgr (.inl rfl)⟩
    rw [← hRt, List.length_take, show R.toList.length = _ from (Array.length_toList).trans hRs]; omega
 ·obtain rfl : i = l0.length := by omega
  refine (slices_Insert_byte_byte.end_ w base v l0.length inner hown ad c2 ys hys hyl h1y hbig hbase).mono ?_
  rintro e w' ⟨v1, rfl, ho, hgr, hat⟩
  refine ⟨v1, rfl, fin v1 w' ?_ hgr (hat.imp id (fun h => ⟨_, h, Nat.le_refl _⟩))⟩
  rw [List.take_of_length_le (by rw [hil]; exact Nat.le_refl _), List.drop_of_length_le (by rw [hil]; exact Nat.le_refl _), List.append_nil]
  exact ho
end Go.Proofs.Ytcbgichkeecgiaa.Print
