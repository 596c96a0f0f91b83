-- What the claim uses alone (wip/slim.py). Lean checks it.
import Derived.Test.YtcbgichkeecgiaaZAb
import Derived.Test.YtcbgichkeecgiaaZAln
import Derived.Test.YtcbgichkeecgiaaZAlo
namespace Go.Proofs.Ytcbgichkeecgiaa.Print
open Go.RowKit Go.Proofs.YtcbgichkeecgiaaW.PrintWords Go.Proofs.YtcbgichkeecgiaaW.PrintLast Go.Proofs.YtcbgichkeecgiaaW.PrintMore
attribute [local go_sem] max2_mx min2_mn max_two min_two max_three min_three max_four min_four
set_option linter.unusedVariables false
set_option linter.unusedSimpArgs false
theorem slices_Delete_byte_byte.zeros (z : Value) : (Builtin.zeroCells z.cells 1).toList = z.cells.toList := by
 unfold Builtin.zeroCells
 apply List.ext_getElem
 ·simp
 ·intro i h1 h2
  have hl : i < z.cells.size := by simpa using h2
  simp [Nat.mod_eq_of_lt hl, hl]
theorem slices_Delete_byte_byte.clear_one (w : World) (g o c : Nat) (cs : Array Value) (hg : w.heap[g]? = some (.cells cs 27 (0, 0))) (ho : o + 1 ≤ cs.size) (ty : TypeId) :
  (Builtin.clear_ #[22] ty #[.slice (some ⟨g, o, none⟩) 1 c]).run Try.prog w = .ok (.tuple #[]) (w.setCells g o ((.slice none 0 0) : Value).cells.toList) := by
 obtain ⟨i0, hi0, hz0, hzs, hzb⟩ := info_parts info27
 have hzv : (zeroValue 27).run Try.prog w = .ok (.slice none 0 0) w := by
  simp [zeroValue, typeInfo, hi0, hz0]
 have hst := run_storeCells_cells (P := Try.prog) g o ((.slice none 0 0) : Value).cells.toList 0 w
  (fun j hj => by rw [cell_of_row w g _ cs 27 (0, 0) hg, Array.getElem?_eq_getElem (by have : j < 1 := hj; omega)]; rfl)
  (fun j _ => blk_frozen hg _) (by decide)
 rw [Nat.add_zero] at hst
 have hst2 : (storeCells ⟨g, o, none⟩ ((.slice none 0 0) : Value).cells.toList).run Try.prog w = .ok () (w.setCells g o ((.slice none 0 0) : Value).cells.toList) := by simpa using hst
 simp only [Builtin.clear_]
 simp [run_underlying Try.underlying22, hzv, slices_Delete_byte_byte.zeros]
 rw [hst2]
 rfl
set_option maxHeartbeats 4000000 in
set_option maxRecDepth 100000 in
theorem slices_Delete_byte_byte.raw (w : World) (g n c i : Nat) (cur : Array Value) (xs : List Value) (hg : w.heap[g]? = some (.cells cur 27 (0, 0))) (hsz : cur.size = c * 1) (hcm : c ≤ maxLen) (hxs : cur.toList.take (n * 1) = xs) (hxl : xs.length = n * 1) (h1x : ∀ u ∈ xs, u.oneCell' = true) (hi : i < n) (hnc : n ≤ c) :
  Calls Try.prog 36 #[.slice (some ⟨g, 0, none⟩) n c, .int .i64 (i : Int), .int .i64 ((i : Int) + 1)] w fun e w' => ∃ R, e = .returned (.slice (some ⟨g, 0, none⟩) (n - 1) c) ∧ w'.heap[g]? = some (.cells R 27 (0, 0)) ∧ R.size = c * 1 ∧ R.toList.take ((n - 1) * 1) = xs.take (i * 1) ++ xs.drop ((i + 1) * 1) ∧ w.grownBy w' (some g) := by
 obtain ⟨i0, hi0, hz0, hzs, hzb⟩ := info_parts info27
 have hc63 : c ≤ 9223372036854775807 := by simp only [maxLen] at hcm; omega
 obtain ⟨news, hnews⟩ : ∃ news, news = xs.drop ((i + 1) * 1) := ⟨_, rfl⟩
 have hnl : news.length = (n - (i + 1)) * 1 := by rw [hnews, List.length_drop, hxl, Nat.sub_mul]
 have hdg : w.drew.heap[g]? = some (.cells cur 27 (0, 0)) := hg
 obtain ⟨A, hA, hsrc⟩ : ∃ A : Addr, (if c = i + 1 then some (⟨g, 0, none⟩ : Addr) else some ⟨g, (i + 1) * 1, none⟩) = some A ∧ Hid (∀ t u, news[t]? = some u → w.drew.cell? (A.add t) = some u) := by
  by_cases h : c = i + 1
  ·refine ⟨⟨g, 0, none⟩, by simp [h], fun t u hu => ?_⟩
   have h0 : news = [] := List.eq_nil_of_length_eq_zero (by rw [hnl]; omega)
   rw [h0] at hu
   simp at hu
  ·refine ⟨⟨g, (i + 1) * 1, none⟩, by simp [h], fun t u hu => ?_⟩
   rw [Addr.add_lit, cell_of_row _ _ _ _ _ _ hdg, ← Array.getElem?_toList]
   rw [hnews, List.getElem?_drop, ← hxs, List.getElem?_take] at hu
   split at hu
   ·exact hu
   ·cases hu
 have s1 : Hid (news.length = (n - (i + 1)) * 1) := hnl
 have s2 : Hid (∀ u ∈ news, u.oneCell' = true) := fun u hu => h1x u (List.mem_of_mem_drop (hnews ▸ hu))
 have s3 : Hid (∀ t, t < news.length → (w.drew.cell? ⟨g, 0 + i * 1 + t, none⟩).isSome = true ∧ w.drew.frozen? ⟨g, 0 + i * 1 + t, none⟩ = false) := by
  intro t ht
  rw [hnl] at ht
  exact ⟨by rw [cell_of_row _ _ _ _ _ _ hdg, Array.getElem?_eq_getElem (by omega)]; rfl, blk_frozen hdg _⟩
 obtain ⟨W1, hW1⟩ : ∃ W1, W1 = w.drew.setCells g (0 + i * 1) news := ⟨_, rfl⟩
 obtain ⟨R1, hR1, hR1s, hR1t⟩ := setCells_row news (0 + i * 1) w.drew cur hdg (by omega)
 rw [← hW1] at hR1
 obtain ⟨a1, a2, a3, a4⟩ := setCells_same g news (0 + i * 1) w.drew
 have hfar1 : ∀ k, k ≠ g → W1.heap[k]? = w.heap[k]? := fun k hk => by rw [hW1]; exact setCells_far news _ k hk
 rw [← hW1] at a1 a2 a3 a4
 obtain ⟨W2, hW2⟩ : ∃ W2, W2 = W1.setCells g ((n - 1) * 1) ((.slice none 0 0) : Value).cells.toList := ⟨_, rfl⟩
 obtain ⟨R2, hR2, hR2s, hR2t⟩ := setCells_row ((.slice none 0 0) : Value).cells.toList ((n - 1) * 1) W1 R1 hR1 (by rw [hR1s, hsz, show ((.slice none 0 0) : Value).cells.toList.length = 1 from rfl]; omega)
 rw [← hW2] at hR2
 obtain ⟨b1, b2, b3, b4⟩ := setCells_same g ((.slice none 0 0) : Value).cells.toList ((n - 1) * 1) W1
 rw [← hW2] at b1 b2 b3 b4
 have hcl : ∀ ty, (Builtin.clear_ #[22] ty #[.slice (some ⟨g, (i + (n - (i + 1))) * 1, none⟩) (n - (i + (n - (i + 1)))) (c - (i + (n - (i + 1))))]).run Try.prog W1 = .ok (.tuple #[]) W2 := fun ty => by
  rw [hW2, show n - (i + (n - (i + 1))) = 1 by omega, show i + (n - (i + 1)) = n - 1 by omega]; exact slices_Delete_byte_byte.clear_one W1 g ((n - 1) * 1) _ R1 hR1 (by rw [hR1s, hsz]; omega) ty
 have hgrown : w.grownBy W2 (some g) := ⟨b1.trans a1, b2.trans a2, b3.trans a3, by rw [b4, a4]; exact Nat.le_refl _, fun k _ hk => by
  have hkg : k ≠ g := fun h => hk (by rw [h])
  rw [hW2, setCells_far _ _ k hkg]; exact hfar1 k hkg⟩
 have htake : R2.toList.take ((n - 1) * 1) = xs.take (i * 1) ++ news := by
  rw [hR2t, List.append_assoc, List.take_append_of_le_length (by rw [List.length_take, Array.length_toList, hR1s, hsz]; omega), List.take_take, Nat.min_eq_left (Nat.le_refl _), hR1t, Nat.zero_add]
  have h7 : cur.toList.take (i * 1) = xs.take (i * 1) := by rw [← hxs, List.take_take, Nat.min_eq_left (by omega)]
  rw [h7]
  exact List.take_left' (by rw [List.length_append, List.length_take, hnl]; omega)
 have F1 := Aside0.mk hR2
 have F2 := Aside0.mk (hR2s.trans (hR1s.trans hsz))
 have F3 := Aside0.mk (hnews ▸ htake)
 have F4 := Aside0.mk hgrown
 (try simp only [Nat.mul_one] at hcl hA)
 have HCL := Aside0.mk hcl
 have HW : Hid (W1 = w.drew.setCells g (0 + i * 1) news) := hW1
 have hic : i ≤ c := by omega
 have hi1c : i + 1 ≤ c := by omega
 have hin : i ≤ n := by omega
 have hi1n : i + 1 ≤ n := by omega
 have hne : ¬ ((i : Int) = (i : Int) + 1) := by omega
 have hneb : ((i : Int) == (i : Int) + 1) = false := beq_eq_false_iff_ne.mpr hne
 clear hW1 hR1 hR1s hR1t hfar1 a1 a2 a3 a4 hW2 hR2 hR2s hR2t b1 b2 b3 b4 hgrown htake hdg hnews hnl hxs hxl h1x hg hsz hcl
 have mixed : Try.prog.follows Departure.mixedOrders = true := by kernel_rfl
 have htn : ((i : Int) + (1 : Int)).toNat = i + 1 := by omega
 have hb1 : (0 : Int) ≤ (i : Int) + (1 : Int) := by omega
 have hb2 : (i : Int) + (1 : Int) ≤ (n : Int) := by omega
 go_enter Try.func36, Try.ntmps36
 go_wp2_with fail
 go_region_law_o (refine step_append_room rfl (.tmp 22) (.tmp 25) 22 rfl 27 i0 1 Try.underlying22 hi0 hzs g 0 i c (by simp [Act.eval, Act.put]) A (n - (i + 1)) (c - (i + 1)) news (by simp [Act.eval, Act.put]) s1.out hsrc.out s2.out (by omega) s3.out ?_; rw [← HW.out])
 have hcl := HCL.out
 go_wp2
 go_ret
 exact ⟨R2, by rw [show n - 1 = i + (n - (i + 1)) by omega]; rfl, F1.out, F2.out, F3.out, F4.out⟩
theorem slices_Delete_byte_byte.del (P0_ : Nat → Prop) (v : Value) (l0 : List (List Int)) (i : Nat) (hi : i < l0.length) (base : Nat) (w : World) (ho0 : Kd.R (Kd.slice 5 (Kd.int .u8)) 27 w base P0_ v l0) :
  Calls Try.prog 36 #[v, .int .i64 (i : Int), .int .i64 ((i : Int) + 1)] w fun e w' => ∃ v1 : Value, e = .returned v1 ∧ Kd.R (Kd.slice 5 (Kd.int .u8)) 27 w' base P0_ v1 (l0.eraseIdx i) ∧ w.grownBy w' v.ownBlock ∧ v1.ownBlock = v.ownBlock := by
 obtain ⟨h0, inner, hown, hrep⟩ := ho0
 have h1x : ∀ u ∈ inner, u.oneCell' = true := Kd.reps_one hrep (show 0 < (Kd.slice 5 (Kd.int .u8)).sz by decide) (fun _ _ hq => (Kd.slice 5 (Kd.int .u8)).K_one ((Kd.slice 5 (Kd.int .u8)).K_of_M hq))
 have hil : inner.length = l0.length * 1 := hown.1
 rcases hown.2 with ⟨_, hn⟩ | ⟨g, cap, cur, rfl, hbas, hheap, hnc, hcm, hcs, htk⟩
 ·omega
 refine (slices_Delete_byte_byte.raw w g l0.length cap i cur inner hheap hcs hcm htk hil h1x hi hnc).mono ?_
 rintro e w' ⟨R, rfl, hH, hRs, hRt, hgr⟩
 have hel : (l0.eraseIdx i).length = l0.length - 1 := List.length_eraseIdx_of_lt hi
 have hob : ∀ m, (Value.slice (some ⟨g, 0, none⟩) m cap).ownBlock = some g := fun m => rfl
 refine ⟨_, rfl, ⟨fun k hk => h0 k hk, inner.take (i * 1) ++ inner.drop ((i + 1) * 1), ?_, ?_⟩, hgr, rfl⟩
 ·rw [hel]
  refine ⟨?_, .inr ⟨g, cap, R, rfl, hbas, hH, by omega, hcm, hRs, hRt⟩⟩
  show (inner.take (i * 1) ++ inner.drop ((i + 1) * 1)).length = (l0.length - 1) * 1
  rw [List.length_append, List.length_take, List.length_drop, hil]
  have : (l0.length - 1) * 1 = l0.length * 1 - 1 := by rw [Nat.sub_mul, Nat.one_mul]
  omega
 ·rw [List.eraseIdx_eq_take_drop_succ]
  have hmv : ∀ p q, (Kd.slice 5 (Kd.int .u8)).M w base (fun k' => P0_ k' ∧ some k' ≠ (Value.slice (some ⟨g, 0, none⟩) l0.length cap).ownBlock) p q → (Kd.slice 5 (Kd.int .u8)).M w' base (fun k' => P0_ k' ∧ some k' ≠ (Value.slice (some ⟨g, 0, none⟩) (l0.length - 1) cap).ownBlock) p q := fun p q hp =>
   Kd.M_grown hp hgr (fun k hk => hk.2)
  exact Kd.reps_append ((Kd.reps_take hrep (by omega)).imp_ hmv) ((Kd.reps_drop hrep).imp_ hmv)
def node_Cut.f (k : Nat) (a0_0 : Bool) (l0_1 l0_2 : List (List Int)) (l0_3 : List Int) (l1 : List Int) : Option (Bool × (List (List Int)) × (List (List Int)) × List Int × Bool × Int) :=
 (node_leaf.f k a0_0 l0_1 l0_2 l0_3).bind fun t => if t = 0 then ((node_own.f k a0_0 l0_1 l0_2 l0_3).bind fun o => (node_place.f a0_0 l0_1 l0_2 l0_3 l1).bind fun p =>
  if p.2 = true then (if 0 ≤ p.1 ∧ p.1 < (o.2.1.length : Int) ∧ p.1 < (o.2.2.1.length : Int) ∧ p.1 < 9223372036854775807 then some (o.1, o.2.1.eraseIdx p.1.toNat, o.2.2.1.eraseIdx p.1.toNat, o.2.2.2, true, 0) else none) else some (o.1, o.2.1, o.2.2.1, o.2.2.2, false, 0)) else some (false, [], [], [], false, t)
theorem node_Cut.mono : ∀ a0 a1 a2 a3 a4 k, LeO (node_Cut.f k a0 a1 a2 a3 a4) (node_Cut.f (k + 1) a0 a1 a2 a3 a4) := by
 intro a0 a1 a2 a3 a4 k
 unfold node_Cut.f
 refine LeO.bind (node_leaf.mono _ _ _ _ _) (fun _ => LeO.ite (LeO.bind (node_own.mono _ _ _ _ _) (fun _ => LeO.refl _)) (LeO.refl _))
set_option maxHeartbeats 4000000 in
set_option maxRecDepth 100000 in
theorem node_Cut.calls (k : Nat) (a0_0 : Bool) (A0_1 : Option Addr) (c0_1 : Nat) (l0_1 : List (List Int)) (A0_2 : Option Addr) (c0_2 : Nat) (l0_2 : List (List Int)) (A0_3 : Option Addr) (c0_3 : Nat) (l0_3 : List Int) (A1 : Option Addr) (c1 : Nat) (l1 : List Int) (r1 : Bool) (r2 : List (List Int)) (r3 : List (List Int)) (r4 : List Int) (r5 : Bool) (r6 : Int) (w : World) (hr0_1 : Kd.C (Kd.slice 5 (Kd.int .u8)) w A0_1 l0_1.length l0_1) (hc0_1 : l0_1.length ≤ c0_1) (hr0_2 : Kd.C (Kd.slice 5 (Kd.int .u8)) w A0_2 l0_2.length l0_2) (hc0_2 : l0_2.length ≤ c0_2) (hr0_3 : Kd.C (Kd.int .i64) w A0_3 l0_3.length l0_3) (hc0_3 : l0_3.length ≤ c0_3) (hr1 : Kd.C (Kd.int .u8) w A1 l1.length l1) (hc1 : l1.length ≤ c1) (h : node_Cut.f k a0_0 l0_1 l0_2 l0_3 l1 = some (r1, r2, r3, r4, r5, r6)) :
  Calls Try.prog 16 #[.agg #[.bool a0_0, .slice A0_1 l0_1.length c0_1, .slice A0_2 l0_2.length c0_2, .slice A0_3 l0_3.length c0_3], .slice A1 l1.length c1] w fun e w' => ∃ v1_ v2_ v3_ : Value, e = .returned (.tuple #[.agg #[.bool r1, v1_, v2_, v3_], .bool r5, .int .i64 r6]) ∧ Kd.V (Kd.slice 5 (Kd.int .u8)) 27 w' w.heap.size (fun k_ => (w.heap.size ≤ k_)) v1_ r2 ∧ Kd.V (Kd.slice 5 (Kd.int .u8)) 27 w' w.heap.size (fun k_ => (w.heap.size ≤ k_)) v2_ r3 ∧ Kd.V (Kd.int .i64) 3 w' w.heap.size (fun k_ => (w.heap.size ≤ k_)) v3_ r4 ∧ Below w.heap.size w w' := by
 have hu26 := Try.underlying26
 have R1 := Aside0.mk hr0_1
 have L1 := Aside0.mk hc0_1
 have R2 := Aside0.mk hr0_2
 have L2 := Aside0.mk hc0_2
 have R3 := Aside0.mk hr0_3
 have L3 := Aside0.mk hc0_3
 have RK := Aside0.mk hr1
 have LK := Aside0.mk hc1
 clear hr0_1 hc0_1 hr0_2 hc0_2 hr0_3 hc0_3 hr1 hc1
 unfold node_Cut.f at h
 replace h := Option.bind_eq_some_iff.mp h
 obtain ⟨t, ht, h⟩ := h
 have HT := Aside0.mk ht
 have HH := Aside0.mk h
 clear ht h
 go_enter Try.func16, Try.ntmps16
 go_wp2_with (first | ((with_reducible refine gate_dst (N := 2) rfl ?_); refine box_event ?hg (N := 2) ?hd (cs := #[.bool a0_0, .slice A0_1 l0_1.length c0_1, .slice A0_2 l0_2.length c0_2, .slice A0_3 l0_3.length c0_3]) (t := 26) ?hr ?_; (case hd => rfl); (case hg => rfl); (case hr => first | (go_simp; done) | (go_simp; rfl)); intro gp hgp w1 hbox hb; have BP := Aside0.mk hbox; have HB := Aside0.mk hb; clear hbox hb hgp) | ((with_reducible refine gate_dst (N := 4) rfl ?_); refine box_event ?hg (N := 4) ?hd (cs := #[.bool false, .slice none 0 0, .slice none 0 0, .slice none 0 0]) (t := 26) ?hr ?_; (case hd => rfl); (case hg => rfl); (case hr => first | (go_simp; done) | (go_simp; rfl)); intro gr hgr w2 hbox hb; have GR : Aside0 (w.heap.size ≤ gr) := ⟨by rw [hgr]; exact HB.out.size⟩; have BR := Aside0.mk hbox; have BP2 := Aside0.mk (blk_below BP.out hb); have HB2 := Aside0.mk (below_step HB.out hb); have hc0 := (blk_cell BP2.out 0).trans rfl; have hc1 := (blk_cell BP2.out 1).trans rfl; have hc2 := (blk_cell BP2.out 2).trans rfl; have hc3 := (blk_cell BP2.out 3).trans rfl; clear hbox hb hgr BP HB))
 refine (node_leaf.calls k a0_0 A0_1 c0_1 l0_1 A0_2 c0_2 l0_2 A0_3 c0_3 l0_3 t _ (Kd.C_below R1.out HB2.out) L1.out (Kd.C_below R2.out HB2.out) L2.out (Kd.C_below R3.out HB2.out) L3.out HT.out).mono ?_
 rintro e w3 ⟨rfl, hb3⟩
 have BP3 := Aside0.mk (blk_below BP2.out hb3)
 have BR3 := Aside0.mk (blk_below BR.out hb3)
 have HB3 := Aside0.mk (below_step HB2.out hb3)
 clear hc0 hc1 hc2 hc3 hb3 BP2 BR HB2
 have H := HH.out
 clear HH
 by_cases hz : t = 0
 ·rw [if_pos hz] at H
  have z1 : (t == 0) = true := beq_iff_eq.mpr hz
  have z2 : (t != 0) = false := bne_eq_false_iff_eq.mpr hz
  clear hz HT
  replace H := Option.bind_eq_some_iff.mp H
  obtain ⟨o, ho, H⟩ := H
  replace H := Option.bind_eq_some_iff.mp H
  obtain ⟨p, hp, H⟩ := H
  obtain ⟨o1, o2, o3, o4⟩ := o
  obtain ⟨pn, pb⟩ := p
  have HO := Aside0.mk ho
  have HPL := Aside0.mk hp
  have HH := Aside0.mk H
  clear ho hp H
  have hc0 := (blk_cell BP3.out 0).trans rfl
  have hc1 := (blk_cell BP3.out 1).trans rfl
  have hc2 := (blk_cell BP3.out 2).trans rfl
  have hc3 := (blk_cell BP3.out 3).trans rfl
  go_wp2_with fail
  refine (node_own.calls k a0_0 A0_1 c0_1 l0_1 A0_2 c0_2 l0_2 A0_3 c0_3 l0_3 o1 o2 o3 o4 _ (Kd.C_below R1.out HB3.out) L1.out (Kd.C_below R2.out HB3.out) L2.out (Kd.C_below R3.out HB3.out) L3.out HO.out).mono ?_
  rintro e w4 ⟨v1, v2, v3, rfl, hS1, hS2, hR3, hb4⟩
  obtain ⟨Av1, cv1, rfl⟩ := Kd.R_slice (Kd.S_R hS1)
  obtain ⟨Av2, cv2, rfl⟩ := Kd.R_slice (Kd.S_R hS2)
  obtain ⟨Av3, cv3, rfl⟩ := Kd.R_slice hR3
  have S1 := Aside0.mk (Kd.R_lower (Kd.S_R hS1) HB3.out.size)
  have S2 := Aside0.mk (Kd.R_lower (Kd.S_R hS2) HB3.out.size)
  have S3 := Aside0.mk (Kd.R_lower hR3 HB3.out.size)
  have BP4 := Aside0.mk (blk_below BP3.out hb4)
  have BR4 := Aside0.mk (blk_below BR3.out hb4)
  have HB4 := Aside0.mk (below_step HB3.out hb4)
  clear hc0 hc1 hc2 hc3 hb4 BP3 BR3 HB3 hS1 hS2 hR3
  go_wp2_with (first | ((with_reducible refine gate_dst (N := 8) rfl ?_); refine box_event ?hg (N := 8) ?hd (cs := #[.bool false, .slice none 0 0, .slice none 0 0, .slice none 0 0]) (t := 26) ?hr ?_; (case hd => rfl); (case hg => rfl); (case hr => first | (go_simp; done) | (go_simp; rfl)); intro gb hgb w5 hbox hb; have GB : Aside0 (w.heap.size ≤ gb ∧ gb ≠ gr ∧ gb ≠ gp ∧ w4.heap.size = gb) := ⟨by rw [hgb]; exact HB4.out.size, by rw [hgb]; exact Nat.ne_of_gt (blk_lt BR4.out), by rw [hgb]; exact Nat.ne_of_gt (blk_lt BP4.out), hgb.symm⟩; have BB := Aside0.mk hbox; have BP5 := Aside0.mk (blk_below BP4.out hb); have BR5 := Aside0.mk (blk_below BR4.out hb); have HB5 := Aside0.mk (below_step HB4.out hb); have T1 := Aside0.mk (Kd.R_below S1.out hb); have T2 := Aside0.mk (Kd.R_below S2.out hb); have T3 := Aside0.mk (Kd.R_below S3.out hb); have hd0 := (blk_cell BB.out 0).trans rfl; have hd1 := (blk_cell BB.out 1).trans rfl; have hd2 := (blk_cell BB.out 2).trans rfl; have hd3 := (blk_cell BB.out 3).trans rfl; have hf0 := blk_frozen BB.out 0; have hf1 := blk_frozen BB.out 1; have hf2 := blk_frozen BB.out 2; have hf3 := blk_frozen BB.out 3; have hq0 := (blk_cell BP5.out 0).trans rfl; have hq1 := (blk_cell BP5.out 1).trans rfl; have hq2 := (blk_cell BP5.out 2).trans rfl; have hq3 := (blk_cell BP5.out 3).trans rfl; have hne1 : ¬ gb = gp := GB.out.2.2.1; have hne2 : ¬ gp = gb := Ne.symm GB.out.2.2.1; clear hbox hb hgb BP4 BR4 HB4 S1 S2 S3))
  have HB6 := Aside0.mk (pageW HB5.out GB.out.1 (.bool o1) (.slice Av1 o2.length cv1) (.slice Av2 o3.length cv2) (.slice Av3 o4.length cv3))
  have BB6 := Aside0.mk (pageB BB.out (.bool o1) (.slice Av1 o2.length cv1) (.slice Av2 o3.length cv2) (.slice Av3 o4.length cv3))
  have BR6 := Aside0.mk (pageF BR5.out (Ne.symm GB.out.2.1) (.bool o1) (.slice Av1 o2.length cv1) (.slice Av2 o3.length cv2) (.slice Av3 o4.length cv3))
  have U1 := Aside0.mk (pageR T1.out BB.out (by decide) (.bool o1) (.slice Av1 o2.length cv1) (.slice Av2 o3.length cv2) (.slice Av3 o4.length cv3))
  have U2 := Aside0.mk (pageR T2.out BB.out (by decide) (.bool o1) (.slice Av1 o2.length cv1) (.slice Av2 o3.length cv2) (.slice Av3 o4.length cv3))
  have U3 := Aside0.mk (pageR T3.out BB.out (by decide) (.bool o1) (.slice Av1 o2.length cv1) (.slice Av2 o3.length cv2) (.slice Av3 o4.length cv3))
  clear T1 T2 T3 BB BR5 HB5 BP5 hd0 hd1 hd2 hd3 hf0 hf1 hf2 hf3 hq0 hq1 hq2 hq3 hne1 hne2
  refine (node_place.calls a0_0 A0_1 c0_1 l0_1 A0_2 c0_2 l0_2 A0_3 c0_3 l0_3 A1 c1 l1 pn pb _ (Kd.C_below R1.out HB6.out) L1.out (Kd.C_below R2.out HB6.out) L2.out (Kd.C_below R3.out HB6.out) L3.out (Kd.C_below RK.out HB6.out) LK.out HPL.out).mono ?_
  rintro e w7 ⟨rfl, hb7⟩
  have BB7 := Aside0.mk (blk_below BB6.out hb7)
  have BR7 := Aside0.mk (blk_below BR6.out hb7)
  have HB7 := Aside0.mk (below_step HB6.out hb7)
  have X1 := Aside0.mk (Kd.R_below U1.out hb7)
  have X2 := Aside0.mk (Kd.R_below U2.out hb7)
  have X3 := Aside0.mk (Kd.R_below U3.out hb7)
  clear hb7 U1 U2 U3 BB6 BR6 HB6 HPL HO
  have H := HH.out
  clear HH
  have hd0 := (blk_cell BB7.out 0).trans rfl
  have hd1 := (blk_cell BB7.out 1).trans rfl
  have hd2 := (blk_cell BB7.out 2).trans rfl
  have hd3 := (blk_cell BB7.out 3).trans rfl
  have hf1 := blk_frozen BB7.out 1
  have hf2 := blk_frozen BB7.out 2
  cases pb with
  | false =>
   rw [if_neg (by decide)] at H
   simp only [Option.some.injEq, Prod.mk.injEq] at H
   obtain ⟨rfl, rfl, rfl, rfl, rfl, rfl⟩ := H
   have hr0 := (blk_cell BR7.out 0).trans rfl
   have hr1 := (blk_cell BR7.out 1).trans rfl
   have hr2 := (blk_cell BR7.out 2).trans rfl
   have hr3 := (blk_cell BR7.out 3).trans rfl
   have hs0 := blk_frozen BR7.out 0
   have hs1 := blk_frozen BR7.out 1
   have hs2 := blk_frozen BR7.out 2
   have hs3 := blk_frozen BR7.out 3
   go_wp2
   refine bodyPost_ret (results_ctt rfl _ _ gr 26 #[.bool o1, .slice Av1 o2.length cv1, .slice Av2 o3.length cv2, .slice Av3 o4.length cv3] (0, 0) _ rfl (pageB BR7.out _ _ _ _) Try.underlying26 rfl (by kernel_rfl)) rfl ⟨_, _, _, rfl, R_V (pageR X1.out BR7.out (by decide) _ _ _ _), R_V (pageR X2.out BR7.out (by decide) _ _ _ _), R_V (pageR X3.out BR7.out (by decide) _ _ _ _), pageW HB7.out GR.out _ _ _ _⟩
  | true =>
   rw [if_pos rfl] at H
   by_cases hc : 0 ≤ pn ∧ pn < (o2.length : Int) ∧ pn < (o3.length : Int) ∧ pn < 9223372036854775807
   case neg => rw [if_neg hc] at H; cases H
   case pos =>
   rw [if_pos hc] at H
   simp only [Option.some.injEq, Prod.mk.injEq] at H
   obtain ⟨rfl, rfl, rfl, rfl, rfl, rfl⟩ := H
   obtain ⟨n, rfl⟩ := Int.eq_ofNat_of_zero_le hc.1
   have hadd : IntKind.i64.wrap ((n : Int) + 1) = (n : Int) + 1 := wi64_in (by omega) (by omega)
   have HN : Aside0 (n < o2.length ∧ n < o3.length) := ⟨by omega⟩
   clear hc
   go_wp2_with fail
   refine (slices_Delete_byte_byte.del _ (.slice Av1 o2.length cv1) o2 n HN.out.1 w.heap.size _ X1.out).mono ?_
   rintro e w8 ⟨vd, rfl, hD, hg8, hob⟩
   obtain ⟨Ad, cd, rfl⟩ := Kd.R_slice hD
   have BB8 := Aside0.mk (blk_grown BB7.out hg8 (Kd.R_ne X1.out BB7.out (by decide)))
   have BR8 := Aside0.mk (blk_grown BR7.out hg8 (Kd.R_ne X1.out BR7.out (by decide)))
   have HB8 := Aside0.mk (HB7.out.grown hg8 HB7.out.size (Kd.R_base X1.out))
   have Y1 := Aside0.mk hD
   have Y2 := Aside0.mk (Kd.R_grown X2.out hg8 (fun k hk => hk))
   have Y3 := Aside0.mk (Kd.R_over' X3.out (Kd.R_typed X1.out) (by decide) hg8)
   clear hD hg8 hob hd0 hd1 hd2 hd3 hf1 hf2 X1 X2 X3 BB7 BR7 HB7
   have hd0 := (blk_cell BB8.out 0).trans rfl
   have hd1 := (blk_cell BB8.out 1).trans rfl
   have hd2 := (blk_cell BB8.out 2).trans rfl
   have hd3 := (blk_cell BB8.out 3).trans rfl
   have hf1 := blk_frozen BB8.out 1
   have hf2 := blk_frozen BB8.out 2
   go_wp2_with fail
   have BB9 := Aside0.mk (blk_put (cs' := #[.bool o1, .slice Ad (o2.eraseIdx n).length cd, .slice Av2 o3.length cv2, .slice Av3 o4.length cv3]) BB8.out 1 (.slice Ad (o2.eraseIdx n).length cd) rfl)
   have BR9 := Aside0.mk (blk_far (p := ⟨gb, 1, none⟩) BR8.out (Ne.symm GB.out.2.1) (.slice Ad (o2.eraseIdx n).length cd))
   have HB9 := Aside0.mk (below_set (j := 1) (v := .slice Ad (o2.eraseIdx n).length cd) HB8.out GB.out.1)
   have Z1 := Aside0.mk (Kd.R_set Y1.out BB8.out (by decide) 1 (.slice Ad (o2.eraseIdx n).length cd))
   have Z2 := Aside0.mk (Kd.R_set Y2.out BB8.out (by decide) 1 (.slice Ad (o2.eraseIdx n).length cd))
   have Z3 := Aside0.mk (Kd.R_set Y3.out BB8.out (by decide) 1 (.slice Ad (o2.eraseIdx n).length cd))
   clear hd0 hd1 hd2 hd3 hf1 hf2 Y1 Y2 Y3 BB8 BR8 HB8
   refine (slices_Delete_byte_byte.del _ (.slice Av2 o3.length cv2) o3 n HN.out.2 w.heap.size _ Z2.out).mono ?_
   rintro e wX ⟨ve, rfl, hE, hg9, hob⟩
   obtain ⟨Ae, ce, rfl⟩ := Kd.R_slice hE
   have BBx := Aside0.mk (blk_grown BB9.out hg9 (Kd.R_ne Z2.out BB9.out (by decide)))
   have BRx := Aside0.mk (blk_grown BR9.out hg9 (Kd.R_ne Z2.out BR9.out (by decide)))
   have HBx := Aside0.mk (HB9.out.grown hg9 HB9.out.size (Kd.R_base Z2.out))
   have V1 := Aside0.mk (Kd.R_grown Z1.out hg9 (fun k hk => hk))
   have V2 := Aside0.mk hE
   have V3 := Aside0.mk (Kd.R_over' Z3.out (Kd.R_typed Z2.out) (by decide) hg9)
   clear hE hg9 hob Z1 Z2 Z3 BB9 BR9 HB9
   have hd0 := (blk_cell BBx.out 0).trans rfl
   have hd1 := (blk_cell BBx.out 1).trans rfl
   have hd2 := (blk_cell BBx.out 2).trans rfl
   have hd3 := (blk_cell BBx.out 3).trans rfl
   have hf1 := blk_frozen BBx.out 1
   have hf2 := blk_frozen BBx.out 2
   have hr0 := (blk_cell BRx.out 0).trans rfl
   have hr1 := (blk_cell BRx.out 1).trans rfl
   have hr2 := (blk_cell BRx.out 2).trans rfl
   have hr3 := (blk_cell BRx.out 3).trans rfl
   have hs0 := blk_frozen BRx.out 0
   have hs1 := blk_frozen BRx.out 1
   have hs2 := blk_frozen BRx.out 2
   have hs3 := blk_frozen BRx.out 3
   have hne1 : ¬ gb = gr := GB.out.2.1
   have hne2 : ¬ gr = gb := Ne.symm GB.out.2.1
   go_wp2
   have BRy := blk_far (p := ⟨gb, 2, none⟩) BRx.out (Ne.symm GB.out.2.1) (.slice Ae (o3.eraseIdx n).length ce)
   refine bodyPost_ret (results_ctt rfl _ _ gr 26 #[.bool o1, .slice Ad (o2.eraseIdx n).length cd, .slice Ae (o3.eraseIdx n).length ce, .slice Av3 o4.length cv3] (0, 0) _ rfl (pageB BRy _ _ _ _) Try.underlying26 rfl (by kernel_rfl)) rfl ⟨_, _, _, rfl, R_V (pageR (Kd.R_set V1.out BBx.out (by decide) 2 _) BRy (by decide) _ _ _ _), R_V (pageR (Kd.R_set V2.out BBx.out (by decide) 2 _) BRy (by decide) _ _ _ _), R_V (pageR (Kd.R_set V3.out BBx.out (by decide) 2 _) BRy (by decide) _ _ _ _), pageW (below_set HBx.out GB.out.1) GR.out _ _ _ _⟩
 ·rw [if_neg hz] at H
  have z1 : (t == 0) = false := beq_eq_false_iff_ne.mpr hz
  have z2 : (t != 0) = true := bne_iff_ne.mpr hz
  clear hz HT
  simp only [Option.some.injEq, Prod.mk.injEq] at H
  obtain ⟨rfl, rfl, rfl, rfl, rfl, rfl⟩ := H
  have hc0 := (blk_cell BR3.out 0).trans rfl
  have hc1 := (blk_cell BR3.out 1).trans rfl
  have hc2 := (blk_cell BR3.out 2).trans rfl
  have hc3 := (blk_cell BR3.out 3).trans rfl
  have hf0 := blk_frozen BR3.out 0
  have hf1 := blk_frozen BR3.out 1
  have hf2 := blk_frozen BR3.out 2
  have hf3 := blk_frozen BR3.out 3
  go_wp2
  refine bodyPost_ret (results_ctt rfl _ _ gr 26 #[.bool false, .slice none 0 0, .slice none 0 0, .slice none 0 0] (0, 0) _ rfl (pageB BR3.out _ _ _ _) Try.underlying26 rfl (by kernel_rfl)) rfl ⟨_, _, _, rfl, Kd.V_nil _ _ _ _ _, Kd.V_nil _ _ _ _ _, Kd.V_nil _ _ _ _ _, ?_⟩
  exact pageW HB3.out GR.out _ _ _ _
def ladingref06_without.f (l0 : List (List Int)) (a1 : Int) : Option ((List (List Int))) := (some (([] : List (List Int)) : List (List Int))).bind fun y359 => (if 0 ≤ a1 then (if a1 ≤ (l0.length : Int) then ((some (l0.take (a1 : Int).toNat : List (List Int))).bind fun y362 => (if y359.length + y362.length < 5864062014805 then ((some (y359 ++ y362 : List (List Int))).bind fun y367 => (if 0 ≤ (wrap64 (a1 + 1)) then (if (wrap64 (a1 + 1)) ≤ (l0.length : Int) then ((some (l0.drop ((wrap64 (a1 + 1)) : Int).toNat : List (List Int))).bind fun y370 => (if y367.length + y370.length < 5864062014805 then (some (y367 ++ y370)) else (none))) else (none)) else (none))) else (none))) else (none)) else (none))
set_option maxHeartbeats 8000000 in
set_option maxRecDepth 100000 in
theorem ladingref06_without.calls (P0_ : Nat → Prop) (A0 : Option Addr) (c0 : Nat) (l0 : List (List Int)) (a1 : Int) (r : List (List Int)) (w : World) (hs0 : Kd.V (Kd.slice 5 (Kd.int .u8)) 27 w w.heap.size (fun k_ => P0_ k_) (.slice A0 l0.length c0) l0) (h : ladingref06_without.f l0 a1 = some r) :
  Calls Try.prog 37 #[.slice A0 l0.length c0, .int .i64 a1] w fun e w' => ∃ v0_ : Value, e = .returned (v0_) ∧ Kd.N (Kd.slice 5 (Kd.int .u8)) 27 w' w.heap.size (fun k_ => (P0_ k_ ∨ w.heap.size ≤ k_)) v0_ r ∧ Below w.heap.size w w' := by
 have HO0 := Aside0.mk (show Kd.V (Kd.slice 5 (Kd.int .u8)) 27 w w.heap.size (fun k_ => (P0_ k_ ∨ w.heap.size ≤ k_)) (.slice A0 l0.length c0) l0 from Kd.V_mono hs0 (fun k_ hk => .inl hk))
 have HB := Aside0.mk (Below.refl w.heap.size w)
 have H : ((some (([] : List (List Int)) : List (List Int))).bind fun y359 => (if 0 ≤ a1 then (if a1 ≤ (l0.length : Int) then ((some (l0.take (a1 : Int).toNat : List (List Int))).bind fun y362 => (if y359.length + y362.length < 5864062014805 then ((some (y359 ++ y362 : List (List Int))).bind fun y367 => (if 0 ≤ (wrap64 (a1 + 1)) then (if (wrap64 (a1 + 1)) ≤ (l0.length : Int) then ((some (l0.drop ((wrap64 (a1 + 1)) : Int).toNat : List (List Int))).bind fun y370 => (if y367.length + y370.length < 5864062014805 then (some (y367 ++ y370)) else (none))) else (none)) else (none))) else (none))) else (none)) else (none))) = some r := h
 clear h
 obtain ⟨y359, hy359⟩ : ∃ y_ : List (List Int), y_ = (([] : List (List Int))) := ⟨_, rfl⟩
 replace H : (if 0 ≤ a1 then (if a1 ≤ (l0.length : Int) then ((some (l0.take (a1 : Int).toNat : List (List Int))).bind fun y362 => (if y359.length + y362.length < 5864062014805 then ((some (y359 ++ y362 : List (List Int))).bind fun y367 => (if 0 ≤ (wrap64 (a1 + 1)) then (if (wrap64 (a1 + 1)) ≤ (l0.length : Int) then ((some (l0.drop ((wrap64 (a1 + 1)) : Int).toNat : List (List Int))).bind fun y370 => (if y367.length + y370.length < 5864062014805 then (some (y367 ++ y370)) else (none))) else (none)) else (none))) else (none))) else (none)) else (none)) = some r := by first | (rw [hy359]; with_reducible exact H) | (have H2_ := (Option.bind_some _ _).symm.trans H; rw [hy359]; with_reducible exact H2_) | (have H2_ := (Option.bind_some _ _).symm.trans H; with_reducible exact H2_) | with_reducible exact H | (rw [hy359]; exact H) | exact H
 have Ny359 := Aside0.mk hy359
 clear hy359
 by_cases c3 : 0 ≤ a1
 ·rw [if_pos c3] at H
  have c3b0 := eq_true c3
  have c3b1 : decide (0 ≤ a1) = true := decide_eq_true c3
  clear c3
  by_cases c4 : a1 ≤ (l0.length : Int)
  ·rw [if_pos c4] at H
   have c4b0 := eq_true c4
   have c4b1 : decide (a1 ≤ (l0.length : Int)) = true := decide_eq_true c4
   clear c4
   obtain ⟨y362, hy362⟩ : ∃ y_ : List (List Int), y_ = (l0.take (a1 : Int).toNat) := ⟨_, rfl⟩
   replace H : (if y359.length + y362.length < 5864062014805 then ((some (y359 ++ y362 : List (List Int))).bind fun y367 => (if 0 ≤ (wrap64 (a1 + 1)) then (if (wrap64 (a1 + 1)) ≤ (l0.length : Int) then ((some (l0.drop ((wrap64 (a1 + 1)) : Int).toNat : List (List Int))).bind fun y370 => (if y367.length + y370.length < 5864062014805 then (some (y367 ++ y370)) else (none))) else (none)) else (none))) else (none)) = some r := by first | (rw [hy362]; with_reducible exact H) | (have H2_ := (Option.bind_some _ _).symm.trans H; rw [hy362]; with_reducible exact H2_) | (have H2_ := (Option.bind_some _ _).symm.trans H; with_reducible exact H2_) | with_reducible exact H | (rw [hy362]; exact H) | exact H
   have Ny362 := Aside0.mk hy362
   clear hy362
   by_cases c5 : y359.length + y362.length < 5864062014805
   ·rw [if_pos c5] at H
    have LMc5 := Aside0.mk c5
    clear c5
    obtain ⟨y367, hy367⟩ : ∃ y_ : List (List Int), y_ = (y359 ++ y362) := ⟨_, rfl⟩
    replace H : (if 0 ≤ (wrap64 (a1 + 1)) then (if (wrap64 (a1 + 1)) ≤ (l0.length : Int) then ((some (l0.drop ((wrap64 (a1 + 1)) : Int).toNat : List (List Int))).bind fun y370 => (if y367.length + y370.length < 5864062014805 then (some (y367 ++ y370)) else (none))) else (none)) else (none)) = some r := by first | (rw [hy367]; with_reducible exact H) | (have H2_ := (Option.bind_some _ _).symm.trans H; rw [hy367]; with_reducible exact H2_) | (have H2_ := (Option.bind_some _ _).symm.trans H; with_reducible exact H2_) | with_reducible exact H | (rw [hy367]; exact H) | exact H
    have Ny367 := Aside0.mk hy367
    clear hy367
    obtain ⟨ji6, hji6⟩ : ∃ j_ : Int, (wrap64 (a1 + 1)) = j_ := ⟨_, rfl⟩
    replace H : (if 0 ≤ (ji6) then (if (ji6) ≤ (l0.length : Int) then ((some (l0.drop ((ji6) : Int).toNat : List (List Int))).bind fun y370 => (if y367.length + y370.length < 5864062014805 then (some (y367 ++ y370)) else (none))) else (none)) else (none)) = some r := by first | (rw [hji6] at H; exact H) | (simp only [hji6] at H ⊢; exact H)
    have hji6w : (IntKind.i64.wrap (a1 + 1)) = ji6 := (i64_w _).trans hji6
    by_cases c7 : 0 ≤ (ji6)
    ·rw [if_pos c7] at H
     have c7b0 := eq_true c7
     have c7b1 : decide (0 ≤ (ji6)) = true := decide_eq_true c7
     clear c7
     by_cases c8 : (ji6) ≤ (l0.length : Int)
     ·rw [if_pos c8] at H
      have c8b0 := eq_true c8
      have c8b1 : decide ((ji6) ≤ (l0.length : Int)) = true := decide_eq_true c8
      clear c8
      obtain ⟨y370, hy370⟩ : ∃ y_ : List (List Int), y_ = (l0.drop ((ji6) : Int).toNat) := ⟨_, rfl⟩
      replace H : (if y367.length + y370.length < 5864062014805 then (some (y367 ++ y370)) else (none)) = some r := by first | (rw [hy370]; with_reducible exact H) | (have H2_ := (Option.bind_some _ _).symm.trans H; rw [hy370]; with_reducible exact H2_) | (have H2_ := (Option.bind_some _ _).symm.trans H; with_reducible exact H2_) | with_reducible exact H | (rw [hy370]; exact H) | exact H
      have Ny370 := Aside0.mk hy370
      clear hy370
      by_cases c9 : y367.length + y370.length < 5864062014805
      ·rw [if_pos c9] at H
       have LMc9 := Aside0.mk c9
       clear c9
       obtain ⟨y375, hy375⟩ : ∃ y_ : List (List Int), y_ = (y367 ++ y370) := ⟨_, rfl⟩
       replace H : (some y375) = some r := by first | (rw [hy375]; with_reducible exact H) | (have H2_ := (Option.bind_some _ _).symm.trans H; rw [hy375]; with_reducible exact H2_) | (have H2_ := (Option.bind_some _ _).symm.trans H; with_reducible exact H2_) | with_reducible exact H | (rw [hy375]; exact H) | exact H
       have Ny375 := Aside0.mk hy375
       clear hy375
       obtain rfl := Option.some.inj H
       go_enter Try.func37, Try.ntmps37
       go_wp2_with (first | ((with_reducible refine gate_dst (N := 6) rfl ?_); refine Kd.N_lit (Kd.slice 5 (Kd.int .u8)) _ 27 ?hg (N' := 6) ?hd (xs := ([] : List (List Int))) (inner := []) (ok := (fun k_ => (P0_ k_ ∨ w.heap.size ≤ k_))) (okp := (fun k_ => (P0_ k_ ∨ w.heap.size ≤ k_))) ?hr ?hp (fun _ hk => hk) ((show ∀ k_, w.heap.size ≤ k_ → (fun k_ => (P0_ k_ ∨ w.heap.size ≤ k_)) k_ from fun k_ hk => (.inr (Nat.le_trans (below_size (zh0_ HB.out)) hk))) _ (Nat.le_refl _)) (Below.refl _ _) (Nat.le_refl _) (by simp) ?_; (case hd => rfl); (case hg => rfl); (case hr => first | (go_simp; done) | (go_simp; rfl)); (case hp => exact (Reps.none _ _)); intro v360 w10 ho11 hb hg_ hnew_; clear hg_ hnew_; (first | rw [← Ny359.out] at ho11 | (simp only [Int.reduceToNat] at ho11; rw [← Ny359.out] at ho11)); replace HO0 := Aside0.mk (Kd.V_elder' (zV_ HO0.out) (Kd.N_base ho11) hb); have HO361 := Aside0.mk (Kd.N_lower ho11 (below_size (zh0_ HB.out))); replace HB := Aside0.mk (below_step (zh0_ HB.out) hb); clear hb ho11; have q12 : (a1 : Int) ≤ ((l0.length : Int) : Int) := of_decide_eq_true za_; obtain ⟨i012, hi012, _, hsz12, _⟩ := info_parts info27; have hroom12 : l0.length ≤ c0 := (Kd.V_reads' HO0.out).2.1; have hC12 : Kd.F (Kd.slice 5 (Kd.int .u8)) _ _ A0 l0.length l0 := (Kd.V_at (base := w.heap.size) HO0.out).2.2; have hcut12 := cut_to (P := Try.prog) 22 27 .i64 Try.underlying22 hi012 A0 l0.length c0 a1 (of_decide_eq_true za_) q12 hroom12; have hr12 := Kd.F_take (m := (a1 : Int).toNat) hC12 (by omega); have hy12 : y362.length = (a1 : Int).toNat := (by rw [Ny362.out, List.length_take]; omega); rw [← Ny362.out] at hr12; rw [← hy12] at hcut12; have HO366 := Aside0.mk (show Kd.V (Kd.slice 5 (Kd.int .u8)) 27 _ w.heap.size _ (.slice A0 y362.length c0) y362 from Kd.V_mk (by omega) hr12); have HC366 := Aside0.mk (show y362.length ≤ c0 from by omega); clear hr12 hC12 hroom12 hi012 hsz12; have KY12 := Aside0.mk hy12; clear hy12; replace q12 := eq_true q12) | ((with_reducible refine gate_builtin (b := .append) (xs := #[.tmp 6, .tmp 9]) rfl ?_); at_builtin; refine Kd.N_append_rows (Kd.slice 5 (Kd.int .u8)) (w0 := w) w.heap.size rfl (.tmp 6) (.tmp 9) 22 27 (.slice none 0 0) 24 rfl Try.underlying22 info27 rfl (by decide) (by omega) v360 y359 y362 _ _ _ (fun k_ => (P0_ k_ ∨ w.heap.size ≤ k_)) (fun k_ => ((fun k_ => (P0_ k_ ∨ w.heap.size ≤ k_))) k_ ∧ some k_ ≠ (v360 : Value).ownBlock) rfl rfl ?aO ?aR (fun _ hk => hk) ?aF ?aB ?aS ?aL ?_; (case aR => exact (by skip; exact Kd.V_F (Kd.V_mono (ok' := (fun k_ => ((fun k_ => (P0_ k_ ∨ w.heap.size ≤ k_))) k_ ∧ some k_ ≠ (v360 : Value).ownBlock)) (HO366.out) (fun k_ hk => ⟨hk.1, hk.2⟩)))); (case aB => exact (zh0_ HB.out)); (case aF => exact (fun k_ hk => (.inr (Nat.le_trans (below_size (zh0_ HB.out)) hk)))); (case aO => exact (zN_ HO361.out)); (case aS => exact (below_size (zh0_ HB.out))); (case aL => have := LMc5.out; omega); intro v368 w13 ho hb hg hat; rw [← Ny367.out] at ho; replace HO0 := Aside0.mk (Kd.V_afterv (ok := (fun k_ => (P0_ k_ ∨ w.heap.size ≤ k_))) (zV_ HO0.out) hg hat); replace HO366 := Aside0.mk (Kd.V_afterv (ok := (fun k_ => (P0_ k_ ∨ w.heap.size ≤ k_))) (zV_ HO366.out) hg hat); replace HB := Aside0.mk (hb); have HO369 := Aside0.mk (ho); clear HO361 ho hb hg hat; have q14 : ((ji6) : Int) ≤ ((l0.length : Int) : Int) := of_decide_eq_true za_; obtain ⟨i014, hi014, _, hsz14, _⟩ := info_parts info27; have hroom14 : l0.length ≤ c0 := (Kd.V_reads' HO0.out).2.1; have hC14 : Kd.F (Kd.slice 5 (Kd.int .u8)) _ _ A0 l0.length l0 := (Kd.V_at (base := w.heap.size) HO0.out).2.2; have q014 : (0 : Int) ≤ ((ji6) : Int) := of_decide_eq_true za_; have hcut14 := cut_from (P := Try.prog) 22 27 .i64 Try.underlying22 hi014 1 hsz14 A0 l0.length c0 (ji6) q014 q14; have hr14 := Kd.F_cut (m := ((ji6) : Int).toNat) (c := c0) hC14 (by omega) hroom14; obtain ⟨A14, hA14⟩ : ∃ Az_, Az_ = (if c0 = ((ji6) : Int).toNat then A0 else (A0 : Option Addr).map (·.add (((ji6) : Int).toNat * 1))) := ⟨_, rfl⟩; obtain ⟨c14, hc14⟩ : ∃ cz_, cz_ = c0 - ((ji6) : Int).toNat := ⟨_, rfl⟩; have hy14 : y370.length = l0.length - ((ji6) : Int).toNat := (by rw [Ny370.out, List.length_drop] <;> omega); rw [show (l0).drop ((ji6) : Int).toNat = y370 from Ny370.out.symm] at hr14; replace hr14 : Kd.F (Kd.slice 5 (Kd.int .u8)) _ _ A14 y370.length y370 := (by rw [hA14]; exact hr14); rw [← hy14, ← hA14, ← hc14] at hcut14; have HO374 := Aside0.mk (show Kd.V (Kd.slice 5 (Kd.int .u8)) 27 _ w.heap.size _ (.slice A14 y370.length c14) y370 from Kd.V_mk (by rw [hy14, hc14]; exact Nat.sub_le_sub_right hroom14 _) hr14); have HC374 := Aside0.mk (show y370.length ≤ c14 from by rw [hy14, hc14]; exact Nat.sub_le_sub_right hroom14 _); clear hr14 hC14 hroom14 hi014 hsz14 hc14; have KY14 := Aside0.mk hy14; have KA14 := Aside0.mk hA14; clear hy14 hA14; replace q14 := eq_true q14) | ((with_reducible refine gate_builtin (b := .append) (xs := #[.tmp 11, .tmp 15]) rfl ?_); at_builtin; refine Kd.N_append_rows (Kd.slice 5 (Kd.int .u8)) (w0 := w) w.heap.size rfl (.tmp 11) (.tmp 15) 22 27 (.slice none 0 0) 24 rfl Try.underlying22 info27 rfl (by decide) (by omega) v368 y367 y370 _ _ _ (fun k_ => (P0_ k_ ∨ w.heap.size ≤ k_)) (fun k_ => ((fun k_ => (P0_ k_ ∨ w.heap.size ≤ k_))) k_ ∧ some k_ ≠ (v368 : Value).ownBlock) rfl rfl ?aO ?aR (fun _ hk => hk) ?aF ?aB ?aS ?aL ?_; (case aR => exact (by skip; exact Kd.V_F (Kd.V_mono (ok' := (fun k_ => ((fun k_ => (P0_ k_ ∨ w.heap.size ≤ k_))) k_ ∧ some k_ ≠ (v368 : Value).ownBlock)) (HO374.out) (fun k_ hk => ⟨hk.1, hk.2⟩)))); (case aB => exact (zh0_ HB.out)); (case aF => exact (fun k_ hk => (.inr (Nat.le_trans (below_size (zh0_ HB.out)) hk)))); (case aO => exact (zN_ HO369.out)); (case aS => exact (below_size (zh0_ HB.out))); (case aL => have := LMc9.out; omega); intro v376 w15 ho hb hg hat; rw [← Ny375.out] at ho; replace HO0 := Aside0.mk (Kd.V_afterv (ok := (fun k_ => (P0_ k_ ∨ w.heap.size ≤ k_))) (zV_ HO0.out) hg hat); replace HO366 := Aside0.mk (Kd.V_afterv (ok := (fun k_ => (P0_ k_ ∨ w.heap.size ≤ k_))) (zV_ HO366.out) hg hat); replace HO374 := Aside0.mk (Kd.V_afterv (ok := (fun k_ => (P0_ k_ ∨ w.heap.size ≤ k_))) (zV_ HO374.out) hg hat); replace HB := Aside0.mk (hb); have HO377 := Aside0.mk (ho); clear HO369 ho hb hg hat))
       go_ret
       exact ⟨_, by first | rfl | (simp [errW_none, errW_some] <;> rfl) | (simp only [← hji6]; first | rfl | (simp [errW_none, errW_some] <;> rfl)) | (simp [*, errW_none, errW_some] <;> rfl), by (with_reducible repeat (first | apply Kd.N_alloc | apply Kd.N_drewN | apply Kd.N_drew)); exact HO377.out, by exact zh0_ HB.out⟩
      ·rw [if_neg c9] at H
       cases H
     ·rw [if_neg c8] at H
      cases H
    ·rw [if_neg c7] at H
     cases H
   ·rw [if_neg c5] at H
    cases H
  ·rw [if_neg c4] at H
   cases H
 ·rw [if_neg c3] at H
  cases H
end Go.Proofs.Ytcbgichkeecgiaa.Print
