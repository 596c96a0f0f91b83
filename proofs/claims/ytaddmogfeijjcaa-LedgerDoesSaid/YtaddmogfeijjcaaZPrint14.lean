-- What the claim uses alone (wip/slim.py). Lean checks it.
import Derived.Test.YtaddmogfeijjcaaZPrint0
namespace Go.Proofs.Ytaddmogfeijjcaa.Print
open Go.RowKit Go.Proofs.YtaddmogfeijjcaaW.PrintWords Go.Proofs.YtaddmogfeijjcaaW.PrintLast Go.Proofs.YtaddmogfeijjcaaW.PrintMore
attribute [local go_sem] max2_mx min2_mn max_two min_two max_three min_three max_four min_four
set_option linter.unusedVariables false
set_option linter.unusedSimpArgs false
theorem api_Pay_50.zeros (z : Value) : (Builtin.zeroCells z.cells 1).toList = z.cells.toList := by
 unfold Builtin.zeroCells
 apply List.ext_getElem
 ·simp
 ·intro i h1 h2
  have hl : i < z.cells.size := by simpa using h2
  simp [Nat.mod_eq_of_lt hl, hl]
theorem api_Pay_50.clear_one (w : World) (g o c : Nat) (cs : Array Value) (hg : w.heap[g]? = some (.cells cs 31 (0, 0))) (ho : o + 4 ≤ cs.size) (ty : TypeId) :
  (Builtin.clear_ #[22] ty #[.slice (some ⟨g, o, none⟩) 1 c]).run Try.prog w = .ok (.tuple #[]) (w.setCells g o ((.agg #[(.int .i64 0), (.int .i64 0), (.int .i64 0), (.int .i64 0)]) : Value).cells.toList) := by
 obtain ⟨i0, hi0, hz0, hzs, hzb⟩ := info_parts info31
 have hzv : (zeroValue 31).run Try.prog w = .ok (.agg #[(.int .i64 0), (.int .i64 0), (.int .i64 0), (.int .i64 0)]) w := by
  simp [zeroValue, typeInfo, hi0, hz0]
 have hst := run_storeCells_cells (P := Try.prog) g o ((.agg #[(.int .i64 0), (.int .i64 0), (.int .i64 0), (.int .i64 0)]) : Value).cells.toList 0 w
  (fun j hj => by rw [cell_of_row w g _ cs 31 (0, 0) hg, Array.getElem?_eq_getElem (by have : j < 4 := hj; omega)]; rfl)
  (fun j _ => blk_frozen hg _) (by decide)
 rw [Nat.add_zero] at hst
 have hst2 : (storeCells ⟨g, o, none⟩ ((.agg #[(.int .i64 0), (.int .i64 0), (.int .i64 0), (.int .i64 0)]) : Value).cells.toList).run Try.prog w = .ok () (w.setCells g o ((.agg #[(.int .i64 0), (.int .i64 0), (.int .i64 0), (.int .i64 0)]) : Value).cells.toList) := by simpa using hst
 simp only [Builtin.clear_]
 simp [run_underlying Try.underlying22, hzv, api_Pay_50.zeros]
 rw [hst2]
 rfl
set_option maxHeartbeats 4000000 in
set_option maxRecDepth 100000 in
theorem api_Pay_50.raw (w : World) (g n c i : Nat) (cur : Array Value) (xs : List Value) (hg : w.heap[g]? = some (.cells cur 31 (0, 0))) (hsz : cur.size = c * 4) (hcm : c ≤ maxLen) (hxs : cur.toList.take (n * 4) = xs) (hxl : xs.length = n * 4) (h1x : ∀ u ∈ xs, u.oneCell' = true) (hi : i < n) (hnc : n ≤ c) :
  Calls Try.prog 50 #[.slice (some ⟨g, 0, none⟩) n c, .int .i64 (i : Int), .int .i64 ((i : Int) + 1)] w fun e w' => ∃ R, e = .returned (.slice (some ⟨g, 0, none⟩) (n - 1) c) ∧ w'.heap[g]? = some (.cells R 31 (0, 0)) ∧ R.size = c * 4 ∧ R.toList.take ((n - 1) * 4) = xs.take (i * 4) ++ xs.drop ((i + 1) * 4) ∧ w.grownBy w' (some g) := by
 obtain ⟨i0, hi0, hz0, hzs, hzb⟩ := info_parts info31
 have hc63 : c ≤ 9223372036854775807 := by simp only [maxLen] at hcm; omega
 obtain ⟨news, hnews⟩ : ∃ news, news = xs.drop ((i + 1) * 4) := ⟨_, rfl⟩
 have hnl : news.length = (n - (i + 1)) * 4 := by rw [hnews, List.length_drop, hxl, Nat.sub_mul]
 have hdg : w.drew.heap[g]? = some (.cells cur 31 (0, 0)) := hg
 obtain ⟨A, hA, hsrc⟩ : ∃ A : Addr, (if c = i + 1 then some (⟨g, 0, none⟩ : Addr) else some ⟨g, (i + 1) * 4, none⟩) = some A ∧ Hid (∀ t u, news[t]? = some u → w.drew.cell? (A.add t) = some u) := by
  by_cases h : c = i + 1
  ·refine ⟨⟨g, 0, none⟩, by simp [h], fun t u hu => ?_⟩
   have h0 : news = [] := List.eq_nil_of_length_eq_zero (by rw [hnl]; omega)
   rw [h0] at hu
   simp at hu
  ·refine ⟨⟨g, (i + 1) * 4, none⟩, by simp [h], fun t u hu => ?_⟩
   rw [Addr.add_lit, cell_of_row _ _ _ _ _ _ hdg, ← Array.getElem?_toList]
   rw [hnews, List.getElem?_drop, ← hxs, List.getElem?_take] at hu
   split at hu
   ·exact hu
   ·cases hu
 have s1 : Hid (news.length = (n - (i + 1)) * 4) := hnl
 have s2 : Hid (∀ u ∈ news, u.oneCell' = true) := fun u hu => h1x u (List.mem_of_mem_drop (hnews ▸ hu))
 have s3 : Hid (∀ t, t < news.length → (w.drew.cell? ⟨g, 0 + i * 4 + t, none⟩).isSome = true ∧ w.drew.frozen? ⟨g, 0 + i * 4 + t, none⟩ = false) := by
  intro t ht
  rw [hnl] at ht
  exact ⟨by rw [cell_of_row _ _ _ _ _ _ hdg, Array.getElem?_eq_getElem (by omega)]; rfl, blk_frozen hdg _⟩
 obtain ⟨W1, hW1⟩ : ∃ W1, W1 = w.drew.setCells g (0 + i * 4) news := ⟨_, rfl⟩
 obtain ⟨R1, hR1, hR1s, hR1t⟩ := setCells_row news (0 + i * 4) w.drew cur hdg (by omega)
 rw [← hW1] at hR1
 obtain ⟨a1, a2, a3, a4⟩ := setCells_same g news (0 + i * 4) w.drew
 have hfar1 : ∀ k, k ≠ g → W1.heap[k]? = w.heap[k]? := fun k hk => by rw [hW1]; exact setCells_far news _ k hk
 rw [← hW1] at a1 a2 a3 a4
 obtain ⟨W2, hW2⟩ : ∃ W2, W2 = W1.setCells g ((n - 1) * 4) ((.agg #[(.int .i64 0), (.int .i64 0), (.int .i64 0), (.int .i64 0)]) : Value).cells.toList := ⟨_, rfl⟩
 obtain ⟨R2, hR2, hR2s, hR2t⟩ := setCells_row ((.agg #[(.int .i64 0), (.int .i64 0), (.int .i64 0), (.int .i64 0)]) : Value).cells.toList ((n - 1) * 4) W1 R1 hR1 (by rw [hR1s, hsz, show ((.agg #[(.int .i64 0), (.int .i64 0), (.int .i64 0), (.int .i64 0)]) : Value).cells.toList.length = 4 from rfl]; omega)
 rw [← hW2] at hR2
 obtain ⟨b1, b2, b3, b4⟩ := setCells_same g ((.agg #[(.int .i64 0), (.int .i64 0), (.int .i64 0), (.int .i64 0)]) : Value).cells.toList ((n - 1) * 4) W1
 rw [← hW2] at b1 b2 b3 b4
 have hcl : ∀ ty, (Builtin.clear_ #[22] ty #[.slice (some ⟨g, (i + (n - (i + 1))) * 4, none⟩) (n - (i + (n - (i + 1)))) (c - (i + (n - (i + 1))))]).run Try.prog W1 = .ok (.tuple #[]) W2 := fun ty => by
  rw [hW2, show n - (i + (n - (i + 1))) = 1 by omega, show i + (n - (i + 1)) = n - 1 by omega]; exact api_Pay_50.clear_one W1 g ((n - 1) * 4) _ R1 hR1 (by rw [hR1s, hsz]; omega) ty
 have hgrown : w.grownBy W2 (some g) := ⟨b1.trans a1, b2.trans a2, b3.trans a3, by rw [b4, a4]; exact Nat.le_refl _, fun k _ hk => by
  have hkg : k ≠ g := fun h => hk (by rw [h])
  rw [hW2, setCells_far _ _ k hkg]; exact hfar1 k hkg⟩
 have htake : R2.toList.take ((n - 1) * 4) = xs.take (i * 4) ++ news := by
  rw [hR2t, List.append_assoc, List.take_append_of_le_length (by rw [List.length_take, Array.length_toList, hR1s, hsz]; omega), List.take_take, Nat.min_eq_left (Nat.le_refl _), hR1t, Nat.zero_add]
  have h7 : cur.toList.take (i * 4) = xs.take (i * 4) := by rw [← hxs, List.take_take, Nat.min_eq_left (by omega)]
  rw [h7]
  exact List.take_left' (by rw [List.length_append, List.length_take, hnl]; omega)
 have F1 := Aside0.mk hR2
 have F2 := Aside0.mk (hR2s.trans (hR1s.trans hsz))
 have F3 := Aside0.mk (hnews ▸ htake)
 have F4 := Aside0.mk hgrown
 (try simp only [Nat.mul_one] at hcl hA)
 have HCL := Aside0.mk hcl
 have HW : Hid (W1 = w.drew.setCells g (0 + i * 4) news) := hW1
 have hic : i ≤ c := by omega
 have hi1c : i + 1 ≤ c := by omega
 have hin : i ≤ n := by omega
 have hi1n : i + 1 ≤ n := by omega
 have hne : ¬ ((i : Int) = (i : Int) + 1) := by omega
 have hneb : ((i : Int) == (i : Int) + 1) = false := beq_eq_false_iff_ne.mpr hne
 clear hW1 hR1 hR1s hR1t hfar1 a1 a2 a3 a4 hW2 hR2 hR2s hR2t b1 b2 b3 b4 hgrown htake hdg hnews hnl hxs hxl h1x hg hsz hcl
 have mixed : Try.prog.follows Departure.mixedOrders = true := by kernel_rfl
 have htn : ((i : Int) + (1 : Int)).toNat = i + 1 := by omega
 have hb1 : (0 : Int) ≤ (i : Int) + (1 : Int) := by omega
 have hb2 : (i : Int) + (1 : Int) ≤ (n : Int) := by omega
 go_enter Try.func50, Try.ntmps50
 go_wp2_with fail
 go_region_law_o (refine step_append_room rfl (.tmp 22) (.tmp 25) 22 rfl 31 i0 4 Try.underlying22 hi0 hzs g 0 i c (by simp [Act.eval, Act.put]) A (n - (i + 1)) (c - (i + 1)) news (by simp [Act.eval, Act.put]) s1.out hsrc.out s2.out (by omega) s3.out ?_; rw [← HW.out])
 have hcl := HCL.out
 go_wp2
 go_ret
 exact ⟨R2, by rw [show n - 1 = i + (n - (i + 1)) by omega]; rfl, F1.out, F2.out, F3.out, F4.out⟩
theorem api_Pay_50.del (P0_ : Nat → Prop) (v : Value) (l0 : List (S31)) (i : Nat) (hi : i < l0.length) (base : Nat) (w : World) (ho0 : Kd.R k31 31 w base P0_ v l0) :
  Calls Try.prog 50 #[v, .int .i64 (i : Int), .int .i64 ((i : Int) + 1)] w fun e w' => ∃ v1 : Value, e = .returned v1 ∧ Kd.R k31 31 w' base P0_ v1 (l0.eraseIdx i) ∧ w.grownBy w' v.ownBlock ∧ v1.ownBlock = v.ownBlock := by
 obtain ⟨h0, inner, hown, hrep⟩ := ho0
 have h1x : ∀ u ∈ inner, u.oneCell' = true := Kd.reps_one hrep (show 0 < k31.sz by decide) (fun _ _ hq => k31.K_one (k31.K_of_M hq))
 have hil : inner.length = l0.length * 4 := hown.1
 rcases hown.2 with ⟨_, hn⟩ | ⟨g, cap, cur, rfl, hbas, hheap, hnc, hcm, hcs, htk⟩
 ·omega
 refine (api_Pay_50.raw w g l0.length cap i cur inner hheap hcs hcm htk hil h1x hi hnc).mono ?_
 rintro e w' ⟨R, rfl, hH, hRs, hRt, hgr⟩
 have hel : (l0.eraseIdx i).length = l0.length - 1 := List.length_eraseIdx_of_lt hi
 have hob : ∀ m, (Value.slice (some ⟨g, 0, none⟩) m cap).ownBlock = some g := fun m => rfl
 refine ⟨_, rfl, ⟨fun k hk => h0 k hk, inner.take (i * 4) ++ inner.drop ((i + 1) * 4), ?_, ?_⟩, hgr, rfl⟩
 ·rw [hel]
  refine ⟨?_, .inr ⟨g, cap, R, rfl, hbas, hH, by omega, hcm, hRs, hRt⟩⟩
  show (inner.take (i * 4) ++ inner.drop ((i + 1) * 4)).length = (l0.length - 1) * 4
  rw [List.length_append, List.length_take, List.length_drop, hil]
  have : (l0.length - 1) * 4 = l0.length * 4 - 4 := by rw [Nat.sub_mul, Nat.one_mul]
  omega
 ·rw [List.eraseIdx_eq_take_drop_succ]
  have hmv : ∀ p q, k31.M w base (fun k' => P0_ k' ∧ some k' ≠ (Value.slice (some ⟨g, 0, none⟩) l0.length cap).ownBlock) p q → k31.M w' base (fun k' => P0_ k' ∧ some k' ≠ (Value.slice (some ⟨g, 0, none⟩) (l0.length - 1) cap).ownBlock) p q := fun p q hp =>
   Kd.M_grown hp hgr (fun k hk => hk.2)
  exact Kd.reps_append ((Kd.reps_take hrep (by omega)).imp_ hmv) ((Kd.reps_drop hrep).imp_ hmv)
def api_Pay_50.f (l0 : List S31) (a1 a2 : Int) : Option (List S31) :=
 if 0 ≤ a1 ∧ a1 < (l0.length : Int) ∧ a2 = a1 + 1 then some (l0.eraseIdx a1.toNat) else none
theorem api_Pay_50.calls (P0_ : Nat → Prop) (u9000_ : Value) (l0 : List (S31)) (a1 a2 : Int) (r : List (S31)) (w0 w : World) (hB : Below w0.heap.size w0 w) (ho0 : Kd.R k31 31 w w0.heap.size P0_ u9000_ l0) (h : api_Pay_50.f l0 a1 a2 = some r) :
  Calls Try.prog 50 #[u9000_, .int .i64 a1, .int .i64 a2] w fun e w' => ∃ v0_ : Value, e = .returned v0_ ∧ Kd.R k31 31 w' w0.heap.size (fun k_ => (P0_ k_ ∨ w.heap.size ≤ k_)) v0_ r ∧ Below w0.heap.size w0 w' ∧ Kept w w' (fun k_ => P0_ k_) := by
 unfold api_Pay_50.f at h
 split at h
 case isFalse => cases h
 case isTrue hc =>
 obtain rfl := Option.some.inj h
 obtain ⟨ha0, ha1, rfl⟩ := hc
 obtain ⟨i, rfl⟩ := Int.eq_ofNat_of_zero_le ha0
 simp only [Int.toNat_natCast]
 have hbo := Kd.R_base ho0
 have h0 := ho0.1
 refine (api_Pay_50.del P0_ u9000_ l0 i (by omega) w0.heap.size w ho0).mono ?_
 rintro e w' ⟨v1, rfl, ho, hg, hat⟩
 exact ⟨v1, rfl, Kd.R_mono ho (fun _ hk => .inl hk), hB.grown hg hB.size hbo, Kept.of_grown hg (Kept.refl _ _) (fun k hk => .inl (h0 k hk))⟩
end Go.Proofs.Ytaddmogfeijjcaa.Print
