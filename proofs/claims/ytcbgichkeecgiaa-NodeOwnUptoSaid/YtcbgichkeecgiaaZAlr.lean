-- What the claim uses alone (wip/slim.py). Lean checks it.
import Derived.Test.YtcbgichkeecgiaaZAb
import Derived.Test.YtcbgichkeecgiaaZAln
import Derived.Test.YtcbgichkeecgiaaZAlq
namespace Go.Proofs.Ytcbgichkeecgiaa.Print
open Go.RowKit Go.Proofs.YtcbgichkeecgiaaW.PrintWords Go.Proofs.YtcbgichkeecgiaaW.PrintLast Go.Proofs.YtcbgichkeecgiaaW.PrintMore
attribute [local go_sem] max2_mx min2_mn max_two min_two max_three min_three max_four min_four
set_option linter.unusedVariables false
set_option linter.unusedSimpArgs false
def ladingref06_Copy.f (k : Nat) (a0_0 : Bool) (l0_1 : List (List Int)) (l0_2 : List (List Int)) (l0_3 : List Int) : Option (Bool × (List (List Int)) × (List (List Int)) × List Int) := (ladingref06_lists.f k l0_1).bind fun t250 => ((ladingref06_lists.f k l0_2).bind fun t253 => ((some (([] : List Int) : List Int)).bind fun y256 => (if y256.length + l0_3.length < 17592186044416 then (some (a0_0, t250, t253, (y256 ++ l0_3))) else (none))))
theorem ladingref06_Copy.mono : ∀ a0 a1 a2 a3 k, LeO (ladingref06_Copy.f k a0 a1 a2 a3) (ladingref06_Copy.f (k + 1) a0 a1 a2 a3) := by
 intro a0 a1 a2 a3 k
 unfold ladingref06_Copy.f
 repeat' first
   | (with_reducible exact ladingref06_lists.mono _ _)
   | (with_reducible exact LeO.refl _)
   | (with_reducible exact LeO.none _)
   | (with_reducible refine LeO.ite ?_ ?_)
   | (with_reducible refine LeO.bind ?_ (fun _ => ?_))
   | exact ladingref06_lists.mono _ _
   | exact LeO.none _
   | refine LeO.ite ?_ ?_
   | refine LeO.bind ?_ (fun _ => ?_)
def ladingref06_Copy.T1 : Bool × List (List Nat × List Nat) := (true, [([], []), ([0], [0]), ([], []), ([2], [2]), ([3], [3]), ([], []), ([5], [5]), ([6, 4], [6]), ([], []), ([], []), ([9], [9]), ([8, 10, 7], [8, 10]), ([1, 4, 7, 11], [1, 4, 7, 11]), ([12, 11, 0, 1, 2, 3, 4, 5, 6, 7, 8, 9, 10, 11, 12], [12])])
def ladingref06_Copy.B1 : List Nat := [0, 1, 0, 4, 12, 0, 32, 124, 0, 0, 512, 2044, 4095, 8191]
theorem ladingref06_Copy.tab1 : rtab .any (opsOf Try.f12 1) = ladingref06_Copy.T1 := by kernel_rfl
theorem ladingref06_Copy.bits1 : waitsOk ladingref06_Copy.T1.2 ladingref06_Copy.B1 = true := by kernel_rfl
set_option maxHeartbeats 8000000 in
set_option maxRecDepth 100000 in
theorem ladingref06_Copy.calls (k : Nat) (a0_0 : Bool) (A0_1 : Option Addr) (c0_1 : Nat) (l0_1 : List (List Int)) (A0_2 : Option Addr) (c0_2 : Nat) (l0_2 : List (List Int)) (A0_3 : Option Addr) (c0_3 : Nat) (l0_3 : List Int) (r1 : Bool) (r2 : List (List Int)) (r3 : List (List Int)) (r4 : List Int) (w : World) (hr0_1 : Kd.C (Kd.slice 5 (Kd.int .u8)) w A0_1 l0_1.length l0_1) (hc0_1 : l0_1.length ≤ c0_1) (hr0_2 : Kd.C (Kd.slice 5 (Kd.int .u8)) w A0_2 l0_2.length l0_2) (hc0_2 : l0_2.length ≤ c0_2) (hr0_3 : Kd.C (Kd.int .i64) w A0_3 l0_3.length l0_3) (hc0_3 : l0_3.length ≤ c0_3) (h : ladingref06_Copy.f k a0_0 l0_1 l0_2 l0_3 = some (r1, r2, r3, r4)) :
  Calls Try.prog 12 #[.agg #[.bool a0_0, .slice A0_1 l0_1.length c0_1, .slice A0_2 l0_2.length c0_2, .slice A0_3 l0_3.length c0_3]] w fun e w' => ∃ v1_ v2_ v3_ : Value, e = .returned (.agg #[.bool r1, v1_, v2_, v3_]) ∧ Kd.S (Kd.slice 5 (Kd.int .u8)) 27 w' w.heap.size (fun k_ => some k_ ≠ (v2_ : Value).ownBlock) v1_ r2 ∧ Kd.S (Kd.slice 5 (Kd.int .u8)) 27 w' w.heap.size (fun k_ => some k_ ≠ (v1_ : Value).ownBlock) v2_ r3 ∧ Kd.R (Kd.int .i64) 3 w' w.heap.size (fun _ => True) v3_ r4 ∧ Below w.heap.size w w' := by
 have hu26 := Try.underlying26
 have HR0_1 := Aside0.mk hr0_1
 have HC0_1 := Aside0.mk hc0_1
 clear hr0_1 hc0_1
 have HR0_2 := Aside0.mk hr0_2
 have HC0_2 := Aside0.mk hc0_2
 clear hr0_2 hc0_2
 have HR0_3 := Aside0.mk hr0_3
 have HC0_3 := Aside0.mk hc0_3
 clear hr0_3 hc0_3
 have HB := Aside0.mk (Below.refl w.heap.size w)
 have H : ((ladingref06_lists.f k l0_1).bind fun t250 => ((ladingref06_lists.f k l0_2).bind fun t253 => ((some (([] : List Int) : List Int)).bind fun y256 => (if y256.length + l0_3.length < 17592186044416 then (some (a0_0, t250, t253, (y256 ++ l0_3))) else (none))))) = some (r1, r2, r3, r4) := h
 clear h
 obtain ⟨t250, A2, H⟩ := zm H
 (try dsimp only at H)
 obtain ⟨t253, A3, H⟩ := zm H
 (try dsimp only at H)
 obtain ⟨y256, hy256⟩ : ∃ y_ : List Int, y_ = (([] : List Int)) := ⟨_, rfl⟩
 replace H : (if y256.length + l0_3.length < 17592186044416 then (some (a0_0, t250, t253, (y256 ++ l0_3))) else (none)) = some (r1, r2, r3, r4) := by first | (rw [hy256]; with_reducible exact H) | (have H2_ := (Option.bind_some _ _).symm.trans H; rw [hy256]; with_reducible exact H2_) | (have H2_ := (Option.bind_some _ _).symm.trans H; with_reducible exact H2_) | with_reducible exact H | (rw [hy256]; exact H) | exact H
 have Ny256 := Aside0.mk hy256
 clear hy256
 by_cases c4 : y256.length + l0_3.length < 17592186044416
 ·rw [if_pos c4] at H
  have LMc4 := Aside0.mk c4
  clear c4
  obtain ⟨y259, hy259⟩ : ∃ y_ : List Int, y_ = (y256 ++ l0_3) := ⟨_, rfl⟩
  replace H : (some (a0_0, t250, t253, y259)) = some (r1, r2, r3, r4) := by first | (rw [hy259]; with_reducible exact H) | (have H2_ := (Option.bind_some _ _).symm.trans H; rw [hy259]; with_reducible exact H2_) | (have H2_ := (Option.bind_some _ _).symm.trans H; with_reducible exact H2_) | with_reducible exact H | (rw [hy259]; exact H) | exact H
  have Ny259 := Aside0.mk hy259
  clear hy259
  simp only [Option.some.injEq, Prod.mk.injEq] at H
  obtain ⟨rfl, rfl, rfl, rfl⟩ := H
  go_enter Try.func12, Try.ntmps12
  try go_wp2_with (first | ((with_reducible refine gate_dst (N := 1) rfl ?_); refine box_event ?hg (N := 1) ?hd (cs := #[.bool a0_0, .slice A0_1 l0_1.length c0_1, .slice A0_2 l0_2.length c0_2, .slice A0_3 l0_3.length c0_3]) (t := 26) ?hr ?_; (case hd => rfl); (case hg => rfl); (case hr => first | (go_simp; done) | (go_simp; rfl)); intro gb248 hg w5 hbox hb; have BK248 := Aside0.mk (hbox); have GW248 := Aside0.mk ((by rw [hg]; exact (below_size (zh0_ HB.out)) : w.heap.size ≤ gb248)); have GE248 := Aside0.mk ((by rw [hg]; exact (below_size (zh0_ HB.out)) : w.heap.size ≤ gb248)); replace HB := Aside0.mk (below_step (zh0_ HB.out) hb); clear hb hbox hg) | ((with_reducible refine gate_dst (N := 2) rfl ?_); refine box_event ?hg (N := 2) ?hd (cs := #[.bool false, .slice none 0 0, .slice none 0 0, .slice none 0 0]) (t := 26) ?hr ?_; (case hd => rfl); (case hg => rfl); (case hr => first | (go_simp; done) | (go_simp; rfl)); intro gb249 hg w6 hbox hb; have BK249 := Aside0.mk (hbox); have GW249 := Aside0.mk ((by rw [hg]; exact (below_size (zh1_ HB.out GE248.out)) : w.heap.size ≤ gb249)); have GE249 := Aside0.mk ((by rw [hg]; exact (below_size (zh1_ HB.out GE248.out)) : w.heap.size ≤ gb249)); replace HB := Aside0.mk (below_step (zh1_ HB.out GE248.out) hb); have NB248_249 := Aside0.mk ((by rw [hg]; exact Nat.ne_of_lt (blk_lt (zb_ BK248.out)) : gb248 ≠ gb249)); have NB249_248 := Aside0.mk ((by rw [hg]; exact Nat.ne_of_gt (blk_lt (zb_ BK248.out)) : gb249 ≠ gb248)); replace BK248 := Aside0.mk (blk_below (zb_ BK248.out) hb); clear hb hbox hg))
  have n0_ := Aside0.mk (blk_drew BK248.out)
  have n1_ := Aside0.mk (blk_drew BK249.out)
  have n2_ := Aside0.mk (below_drew1 HB.out)
  clear BK248 BK249 HB
  have BK248 := n0_
  have BK249 := n1_
  have HB := n2_
  clear n0_ n1_ n2_
  refine start_ (n := 14) (S := fun w' => w'.cell? ⟨gb248, 0, none⟩ = some (.bool a0_0) ∧ w'.cell? ⟨gb248, 1, none⟩ = some (.slice A0_1 l0_1.length c0_1) ∧ w'.cell? ⟨gb248, 2, none⟩ = some (.slice A0_2 l0_2.length c0_2) ∧ w'.cell? ⟨gb248, 3, none⟩ = some (.slice A0_3 l0_3.length c0_3)) (ds := []) (zB 0 14) (by kernel_rfl) rfl rfl ⟨(blk_cell BK248.out 0).trans rfl, (blk_cell BK248.out 1).trans rfl, (blk_cell BK248.out 2).trans rfl, (blk_cell BK248.out 3).trans rfl⟩ (fun hHeld => ?_); refine with_tabW ladingref06_Copy.tab1 ladingref06_Copy.bits1 (fun HT_ HW_ => ?_)
  generalize w6.drew = w7 at BK248 BK249 HB hHeld ⊢
  refine zpu 0 (some 3) (zB 1 13) (any_of HT_.out (by kernel_rfl)) ?_
  refine zpu 2 (some 5) #[true, false, true, false, false, false, false, false, false, false, false, false, false, false] (any_of HT_.out (by kernel_rfl)) ?_
  refine zpu 5 (some 8) #[true, false, true, false, false, true, false, false, false, false, false, false, false, false] (any_of HT_.out (by kernel_rfl)) ?_
  refine zpu 9 (some 12) #[true, false, true, false, false, true, false, false, false, true, false, false, false, false] (any_of HT_.out (by kernel_rfl)) ?_
  refine zta 1 (some 4) #[true, true, true, false, false, true, false, false, false, true, false, false, false, false] (take_ofW HT_.out HW_.out (by kernel_rfl)) hHeld ?_
  refine zta 3 (some 6) #[true, true, true, true, false, true, false, false, false, true, false, false, false, false] (take_ofW HT_.out HW_.out (by kernel_rfl)) hHeld ?_
  refine zta 6 (some 9) #[true, true, true, true, false, true, true, false, false, true, false, false, false, false] (take_ofW HT_.out HW_.out (by kernel_rfl)) hHeld ?_
  refine zta 10 (some 13) #[true, true, true, true, false, true, true, false, false, true, true, false, false, false] (take_ofW HT_.out HW_.out (by kernel_rfl)) hHeld ?_
  refine join_ (σ := Value × Value × Value) 3 (zB 11 3) (fun s_ => [(7, s_.1), (10, s_.2.1), (11, s_.2.2)]) (fun s_ w' => (w'.cell? ⟨gb248, 0, none⟩ = some (.bool a0_0) ∧ w'.cell? ⟨gb248, 1, none⟩ = some (.slice A0_1 l0_1.length c0_1) ∧ w'.cell? ⟨gb248, 2, none⟩ = some (.slice A0_2 l0_2.length c0_2) ∧ w'.cell? ⟨gb248, 3, none⟩ = some (.slice A0_3 l0_3.length c0_3)) ∧ (Kd.S (Kd.slice 5 (Kd.int .u8)) 27 w' w.heap.size (fun k_ => some k_ ≠ (s_.2.1 : Value).ownBlock) s_.1 t250) ∧ (Kd.S (Kd.slice 5 (Kd.int .u8)) 27 w' w.heap.size (fun k_ => some k_ ≠ (s_.1 : Value).ownBlock) s_.2.1 t253) ∧ (Kd.R (Kd.int .i64) 3 w' w.heap.size (fun _ => True) s_.2.2 y256) ∧ (w'.heap[gb248]? = some (.cells #[.bool a0_0, .slice A0_1 l0_1.length c0_1, .slice A0_2 l0_2.length c0_2, .slice A0_3 l0_3.length c0_3] 26 (0, 0))) ∧ (w'.heap[gb249]? = some (.cells #[.bool false, .slice none 0 0, .slice none 0 0, .slice none 0 0] 26 (0, 0))) ∧ (Below w.heap.size w w')) ?_ ?_
  rotate_left
  ·intro hCont
   refine two_ (i := 4) (j := 8) (Ni := some 7) (Nj := some 11) #[true, true, true, true, true, true, true, false, false, true, true, false, false, false] #[true, true, true, true, false, true, true, false, true, true, true, false, false, false] rfl rfl rfl rfl (two_of HT_.out (by kernel_rfl)) (by decide) (by decide) (fun K hK => ?_) (fun K hK => ?_)
   ·skip
    refine goes_ Try.func30 (by kernel_rfl) rfl #[.slice A0_1 l0_1.length c0_1] (by rfl) rfl rfl zl_ ?_
    with_reducible refine (ladingref06_lists.calls k _ _ l0_1 t250 _ ?side1 ?side2 A2.out).mono ?_
    (case side1 => exact zc_ (Kd.C_below HR0_1.out HB.out))
    (case side2 => exact HC0_1.out)
    rintro e w8 ⟨v251, rfl, ho0, hb⟩
    refine ⟨_, rfl, ?_⟩
    have n0_ := Aside0.mk (Kd.S_lower ho0 (below_size (zh2_ HB.out GE248.out GE249.out)))
    have n1_ := Aside0.mk (blk_below (zb_ BK248.out) hb)
    have n2_ := Aside0.mk (blk_below (zb_ BK249.out) hb)
    have n3_ := Aside0.mk (below_step (zh2_ HB.out GE248.out GE249.out) hb)
    clear BK248 BK249 HB
    have HO252 := n0_
    have BK248 := n1_
    have BK249 := n2_
    have HB := n3_
    clear n0_ n1_ n2_ n3_
    (try clear hb)
    (try clear hb2)
    (try clear hk)
    (try clear hi)
    (try clear ho0)
    refine hK.out _ _ ⟨(blk_cell BK248.out 0).trans rfl, (blk_cell BK248.out 1).trans rfl, (blk_cell BK248.out 2).trans rfl, (blk_cell BK248.out 3).trans rfl⟩ (fun hHeld => ?_)
    clear hK K
    refine zno 7 ?_
    refine two_ (i := 7) (j := 8) (Ni := some 10) (Nj := some 11) #[true, true, true, true, true, true, true, true, false, true, true, false, false, false] #[true, true, true, true, true, true, true, false, true, true, true, false, false, false] rfl rfl rfl rfl (two_of HT_.out (by kernel_rfl)) (by decide) (by decide) (fun K hK => ?_) (fun K hK => ?_)
    ·skip
     refine goes_ Try.func30 (by kernel_rfl) rfl #[.slice A0_2 l0_2.length c0_2] (by rfl) rfl rfl zl_ ?_
     with_reducible refine (ladingref06_lists.calls k _ _ l0_2 t253 _ ?side1 ?side2 A3.out).mono ?_
     (case side1 => exact zc_ (Kd.C_below HR0_2.out HB.out))
     (case side2 => exact HC0_2.out)
     rintro e w9 ⟨v254, rfl, ho0, hb⟩
     refine ⟨_, rfl, ?_⟩
     have n0_ := Aside0.mk (Kd.S_elder' (by (with_reducible repeat (first | apply Kd.S_alloc | apply Kd.S_drewN | apply Kd.S_drew)); exact HO252.out) (Kd.S_base ho0) hb)
     have n1_ := Aside0.mk (Kd.S_lower (Kd.S_new' ho0 (Kd.S_lt (by (with_reducible repeat (first | apply Kd.S_alloc | apply Kd.S_drewN | apply Kd.S_drew)); exact HO252.out))) (below_size (zh2_ HB.out GE248.out GE249.out)))
     have n2_ := Aside0.mk (blk_below (zb_ BK248.out) hb)
     have n3_ := Aside0.mk (blk_below (zb_ BK249.out) hb)
     have n4_ := Aside0.mk (below_step (zh2_ HB.out GE248.out GE249.out) hb)
     clear HO252 BK248 BK249 HB
     have HO252 := n0_
     have HO255 := n1_
     have BK248 := n2_
     have BK249 := n3_
     have HB := n4_
     clear n0_ n1_ n2_ n3_ n4_
     (try clear hb)
     (try clear hb2)
     (try clear hk)
     (try clear hi)
     (try clear ho0)
     refine hK.out _ _ ⟨(blk_cell BK248.out 0).trans rfl, (blk_cell BK248.out 1).trans rfl, (blk_cell BK248.out 2).trans rfl, (blk_cell BK248.out 3).trans rfl⟩ (fun hHeld => ?_)
     clear hK K
     refine zno 10 ?_
     refine one_ (i := 8) (N := some 11) (zB 11 3) rfl rfl (one_of HT_.out (by kernel_rfl)) (by decide) (fun K hK => ?_)
     refine Kd.R_lit_step (Kd.int .i64) _ 3 ?hg (N := 11) ?hd (xs := ([] : List Int)) (inner := []) (ok := fun _ => True) (okp := fun _ => True) ?hr ?hp (fun _ hk => hk) trivial (Below.refl _ _) (Nat.le_refl _) (by simp) ?_; (case hd => rfl); (case hg => rfl); (case hr => first | (go_simp; done) | (go_simp; rfl)); (case hp => exact (Reps.none _ _))
     intro v257 w10 ho11 hb hg_ hnew_
     clear hg_ hnew_
     (first | rw [← Ny256.out] at ho11 | (simp only [Int.reduceToNat] at ho11; rw [← Ny256.out] at ho11))
     have n0_ := Aside0.mk (Kd.S_below (by (with_reducible repeat (first | apply Kd.S_alloc | apply Kd.S_drewN | apply Kd.S_drew)); exact HO252.out) hb)
     have n1_ := Aside0.mk (Kd.S_below (by (with_reducible repeat (first | apply Kd.S_alloc | apply Kd.S_drewN | apply Kd.S_drew)); exact HO255.out) hb)
     have n2_ := Aside0.mk (Kd.R_lower ho11 (below_size (zh2_ HB.out GE248.out GE249.out)))
     have n3_ := Aside0.mk (blk_below (zb_ BK248.out) hb)
     have n4_ := Aside0.mk (blk_below (zb_ BK249.out) hb)
     have n5_ := Aside0.mk (below_step (zh2_ HB.out GE248.out GE249.out) hb)
     clear HO252 HO255 BK248 BK249 HB
     have HO252 := n0_
     have HO255 := n1_
     have HO258 := n2_
     have BK248 := n3_
     have BK249 := n4_
     have HB := n5_
     clear n0_ n1_ n2_ n3_ n4_ n5_ hb ho11
     refine hK.out _ _ ⟨(blk_cell BK248.out 0).trans rfl, (blk_cell BK248.out 1).trans rfl, (blk_cell BK248.out 2).trans rfl, (blk_cell BK248.out 3).trans rfl⟩ (fun hHeld => ?_)
     clear hK K
     refine zno 11 ?_
     exact norm_ (by simp only [putAll, Act.put, zt0, zt1, zt2]) (hCont (v251, v254, v257) _ ⟨hHeld, (by (with_reducible repeat (first | apply Kd.S_alloc | apply Kd.S_drewN | apply Kd.S_drew)); exact Kd.S_mono HO252.out (fun _ hk => hk.2)), (by (with_reducible repeat (first | apply Kd.S_alloc | apply Kd.S_drewN | apply Kd.S_drew)); exact Kd.S_mono HO255.out (fun _ hk => hk.2)), (zR_ HO258.out), (zb_ BK248.out), (zb_ BK249.out), (zh2_ HB.out GE248.out GE249.out)⟩)
    ·skip
     refine Kd.R_lit_step (Kd.int .i64) _ 3 ?hg (N := 11) ?hd (xs := ([] : List Int)) (inner := []) (ok := fun _ => True) (okp := fun _ => True) ?hr ?hp (fun _ hk => hk) trivial (Below.refl _ _) (Nat.le_refl _) (by simp) ?_; (case hd => rfl); (case hg => rfl); (case hr => first | (go_simp; done) | (go_simp; rfl)); (case hp => exact (Reps.none _ _))
     intro v257 w9 ho10 hb hg_ hnew_
     clear hg_ hnew_
     (first | rw [← Ny256.out] at ho10 | (simp only [Int.reduceToNat] at ho10; rw [← Ny256.out] at ho10))
     have n0_ := Aside0.mk (Kd.S_below (by (with_reducible repeat (first | apply Kd.S_alloc | apply Kd.S_drewN | apply Kd.S_drew)); exact HO252.out) hb)
     have n1_ := Aside0.mk (Kd.R_lower ho10 (below_size (zh2_ HB.out GE248.out GE249.out)))
     have n2_ := Aside0.mk (blk_below (zb_ BK248.out) hb)
     have n3_ := Aside0.mk (blk_below (zb_ BK249.out) hb)
     have n4_ := Aside0.mk (below_step (zh2_ HB.out GE248.out GE249.out) hb)
     clear HO252 BK248 BK249 HB
     have HO252 := n0_
     have HO258 := n1_
     have BK248 := n2_
     have BK249 := n3_
     have HB := n4_
     clear n0_ n1_ n2_ n3_ n4_ hb ho10
     refine hK.out _ _ ⟨(blk_cell BK248.out 0).trans rfl, (blk_cell BK248.out 1).trans rfl, (blk_cell BK248.out 2).trans rfl, (blk_cell BK248.out 3).trans rfl⟩ (fun hHeld => ?_)
     clear hK K
     refine zno 11 ?_
     refine one_ (i := 7) (N := some 10) (zB 11 3) rfl rfl (one_of HT_.out (by kernel_rfl)) (by decide) (fun K hK => ?_)
     refine goes_ Try.func30 (by kernel_rfl) rfl #[.slice A0_2 l0_2.length c0_2] (by rfl) rfl rfl zl_ ?_
     with_reducible refine (ladingref06_lists.calls k _ _ l0_2 t253 _ ?side1 ?side2 A3.out).mono ?_
     (case side1 => exact zc_ (Kd.C_below HR0_2.out HB.out))
     (case side2 => exact HC0_2.out)
     rintro e w11 ⟨v254, rfl, ho0, hb⟩
     refine ⟨_, rfl, ?_⟩
     have n0_ := Aside0.mk (Kd.S_elder' (by (with_reducible repeat (first | apply Kd.S_alloc | apply Kd.S_drewN | apply Kd.S_drew)); exact HO252.out) (Kd.S_base ho0) hb)
     have n1_ := Aside0.mk (Kd.R_below (zR_ HO258.out) hb)
     have n2_ := Aside0.mk (Kd.S_lower (Kd.S_new' ho0 (Kd.S_lt (by (with_reducible repeat (first | apply Kd.S_alloc | apply Kd.S_drewN | apply Kd.S_drew)); exact HO252.out))) (below_size (zh2_ HB.out GE248.out GE249.out)))
     have n3_ := Aside0.mk (blk_below (zb_ BK248.out) hb)
     have n4_ := Aside0.mk (blk_below (zb_ BK249.out) hb)
     have n5_ := Aside0.mk (below_step (zh2_ HB.out GE248.out GE249.out) hb)
     clear HO252 HO258 BK248 BK249 HB
     have HO252 := n0_
     have HO258 := n1_
     have HO255 := n2_
     have BK248 := n3_
     have BK249 := n4_
     have HB := n5_
     clear n0_ n1_ n2_ n3_ n4_ n5_
     (try clear hb)
     (try clear hb2)
     (try clear hk)
     (try clear hi)
     (try clear ho0)
     refine hK.out _ _ ⟨(blk_cell BK248.out 0).trans rfl, (blk_cell BK248.out 1).trans rfl, (blk_cell BK248.out 2).trans rfl, (blk_cell BK248.out 3).trans rfl⟩ (fun hHeld => ?_)
     clear hK K
     refine zno 10 ?_
     exact norm_ (by simp only [putAll, Act.put, zt0, zt1, zt2]) (hCont (v251, v254, v257) _ ⟨hHeld, (by (with_reducible repeat (first | apply Kd.S_alloc | apply Kd.S_drewN | apply Kd.S_drew)); exact Kd.S_mono HO252.out (fun _ hk => hk.2)), (by (with_reducible repeat (first | apply Kd.S_alloc | apply Kd.S_drewN | apply Kd.S_drew)); exact Kd.S_mono HO255.out (fun _ hk => hk.2)), (zR_ HO258.out), (zb_ BK248.out), (zb_ BK249.out), (zh2_ HB.out GE248.out GE249.out)⟩)
   ·skip
    refine Kd.R_lit_step (Kd.int .i64) _ 3 ?hg (N := 11) ?hd (xs := ([] : List Int)) (inner := []) (ok := fun _ => True) (okp := fun _ => True) ?hr ?hp (fun _ hk => hk) trivial (Below.refl _ _) (Nat.le_refl _) (by simp) ?_; (case hd => rfl); (case hg => rfl); (case hr => first | (go_simp; done) | (go_simp; rfl)); (case hp => exact (Reps.none _ _))
    intro v257 w8 ho9 hb hg_ hnew_
    clear hg_ hnew_
    (first | rw [← Ny256.out] at ho9 | (simp only [Int.reduceToNat] at ho9; rw [← Ny256.out] at ho9))
    have n0_ := Aside0.mk (Kd.R_lower ho9 (below_size (zh2_ HB.out GE248.out GE249.out)))
    have n1_ := Aside0.mk (blk_below (zb_ BK248.out) hb)
    have n2_ := Aside0.mk (blk_below (zb_ BK249.out) hb)
    have n3_ := Aside0.mk (below_step (zh2_ HB.out GE248.out GE249.out) hb)
    clear BK248 BK249 HB
    have HO258 := n0_
    have BK248 := n1_
    have BK249 := n2_
    have HB := n3_
    clear n0_ n1_ n2_ n3_ hb ho9
    refine hK.out _ _ ⟨(blk_cell BK248.out 0).trans rfl, (blk_cell BK248.out 1).trans rfl, (blk_cell BK248.out 2).trans rfl, (blk_cell BK248.out 3).trans rfl⟩ (fun hHeld => ?_)
    clear hK K
    refine zno 11 ?_
    refine one_ (i := 4) (N := some 7) #[true, true, true, true, true, true, true, false, true, true, true, false, false, false] rfl rfl (one_of HT_.out (by kernel_rfl)) (by decide) (fun K hK => ?_)
    refine goes_ Try.func30 (by kernel_rfl) rfl #[.slice A0_1 l0_1.length c0_1] (by rfl) rfl rfl zl_ ?_
    with_reducible refine (ladingref06_lists.calls k _ _ l0_1 t250 _ ?side1 ?side2 A2.out).mono ?_
    (case side1 => exact zc_ (Kd.C_below HR0_1.out HB.out))
    (case side2 => exact HC0_1.out)
    rintro e w10 ⟨v251, rfl, ho0, hb⟩
    refine ⟨_, rfl, ?_⟩
    have n0_ := Aside0.mk (Kd.R_below (zR_ HO258.out) hb)
    have n1_ := Aside0.mk (Kd.S_lower ho0 (below_size (zh2_ HB.out GE248.out GE249.out)))
    have n2_ := Aside0.mk (blk_below (zb_ BK248.out) hb)
    have n3_ := Aside0.mk (blk_below (zb_ BK249.out) hb)
    have n4_ := Aside0.mk (below_step (zh2_ HB.out GE248.out GE249.out) hb)
    clear HO258 BK248 BK249 HB
    have HO258 := n0_
    have HO252 := n1_
    have BK248 := n2_
    have BK249 := n3_
    have HB := n4_
    clear n0_ n1_ n2_ n3_ n4_
    (try clear hb)
    (try clear hb2)
    (try clear hk)
    (try clear hi)
    (try clear ho0)
    refine hK.out _ _ ⟨(blk_cell BK248.out 0).trans rfl, (blk_cell BK248.out 1).trans rfl, (blk_cell BK248.out 2).trans rfl, (blk_cell BK248.out 3).trans rfl⟩ (fun hHeld => ?_)
    clear hK K
    refine zno 7 ?_
    refine one_ (i := 7) (N := some 10) (zB 11 3) rfl rfl (one_of HT_.out (by kernel_rfl)) (by decide) (fun K hK => ?_)
    refine goes_ Try.func30 (by kernel_rfl) rfl #[.slice A0_2 l0_2.length c0_2] (by rfl) rfl rfl zl_ ?_
    with_reducible refine (ladingref06_lists.calls k _ _ l0_2 t253 _ ?side1 ?side2 A3.out).mono ?_
    (case side1 => exact zc_ (Kd.C_below HR0_2.out HB.out))
    (case side2 => exact HC0_2.out)
    rintro e w11 ⟨v254, rfl, ho0, hb⟩
    refine ⟨_, rfl, ?_⟩
    have n0_ := Aside0.mk (Kd.R_below (zR_ HO258.out) hb)
    have n1_ := Aside0.mk (Kd.S_elder' (by (with_reducible repeat (first | apply Kd.S_alloc | apply Kd.S_drewN | apply Kd.S_drew)); exact HO252.out) (Kd.S_base ho0) hb)
    have n2_ := Aside0.mk (Kd.S_lower (Kd.S_new' ho0 (Kd.S_lt (by (with_reducible repeat (first | apply Kd.S_alloc | apply Kd.S_drewN | apply Kd.S_drew)); exact HO252.out))) (below_size (zh2_ HB.out GE248.out GE249.out)))
    have n3_ := Aside0.mk (blk_below (zb_ BK248.out) hb)
    have n4_ := Aside0.mk (blk_below (zb_ BK249.out) hb)
    have n5_ := Aside0.mk (below_step (zh2_ HB.out GE248.out GE249.out) hb)
    clear HO258 HO252 BK248 BK249 HB
    have HO258 := n0_
    have HO252 := n1_
    have HO255 := n2_
    have BK248 := n3_
    have BK249 := n4_
    have HB := n5_
    clear n0_ n1_ n2_ n3_ n4_ n5_
    (try clear hb)
    (try clear hb2)
    (try clear hk)
    (try clear hi)
    (try clear ho0)
    refine hK.out _ _ ⟨(blk_cell BK248.out 0).trans rfl, (blk_cell BK248.out 1).trans rfl, (blk_cell BK248.out 2).trans rfl, (blk_cell BK248.out 3).trans rfl⟩ (fun hHeld => ?_)
    clear hK K
    refine zno 10 ?_
    exact norm_ (by simp only [putAll, Act.put, zt0, zt1, zt2]) (hCont (v251, v254, v257) _ ⟨hHeld, (by (with_reducible repeat (first | apply Kd.S_alloc | apply Kd.S_drewN | apply Kd.S_drew)); exact Kd.S_mono HO252.out (fun _ hk => hk.2)), (by (with_reducible repeat (first | apply Kd.S_alloc | apply Kd.S_drewN | apply Kd.S_drew)); exact Kd.S_mono HO255.out (fun _ hk => hk.2)), (zR_ HO258.out), (zb_ BK248.out), (zb_ BK249.out), (zh2_ HB.out GE248.out GE249.out)⟩)
  rintro ⟨v251, v254, v257⟩ w12 ⟨hS_, h0_, h1_, h2_, h3_, h4_, h5_⟩
  have n0_ : Aside0 (Kd.S (Kd.slice 5 (Kd.int .u8)) 27 w12 w.heap.size (fun k_ => some k_ ≠ (v254 : Value).ownBlock) v251 t250) := ⟨h0_⟩
  have n1_ : Aside0 (Kd.S (Kd.slice 5 (Kd.int .u8)) 27 w12 w.heap.size (fun k_ => some k_ ≠ (v251 : Value).ownBlock) v254 t253) := ⟨h1_⟩
  have n2_ : Aside0 (Kd.R (Kd.int .i64) 3 w12 w.heap.size (fun _ => True) v257 y256) := ⟨h2_⟩
  have n3_ : Aside0 (w12.heap[gb248]? = some (.cells #[.bool a0_0, .slice A0_1 l0_1.length c0_1, .slice A0_2 l0_2.length c0_2, .slice A0_3 l0_3.length c0_3] 26 (0, 0))) := ⟨h3_⟩
  have n4_ : Aside0 (w12.heap[gb249]? = some (.cells #[.bool false, .slice none 0 0, .slice none 0 0, .slice none 0 0] 26 (0, 0))) := ⟨h4_⟩
  have n5_ : Aside0 (Below w.heap.size w w12) := ⟨h5_⟩
  clear BK248 BK249 HB h0_ h1_ h2_ h3_ h4_ h5_
  have HO252 := n0_
  have HO255 := n1_
  have HO258 := n2_
  have BK248 := n3_
  have BK249 := n4_
  have HB := n5_
  clear n0_ n1_ n2_ n3_ n4_ n5_
  have hHeld : w12.cell? ⟨gb248, 0, none⟩ = some (.bool a0_0) ∧ w12.cell? ⟨gb248, 1, none⟩ = some (.slice A0_1 l0_1.length c0_1) ∧ w12.cell? ⟨gb248, 2, none⟩ = some (.slice A0_2 l0_2.length c0_2) ∧ w12.cell? ⟨gb248, 3, none⟩ = some (.slice A0_3 l0_3.length c0_3) := hS_
  refine norm_ (a' := ?_) ?_ ?_
  rotate_left
  ·simp only [putAll, Act.put, zt0, zt1, zt2]
   rfl
  refine one_ (i := 11) (N := some 14) (zB 12 2) rfl rfl (one_of HT_.out (by kernel_rfl)) (by decide) (fun K hK => ?_)
  refine Kd.R_append_rows_step (Kd.int .i64) (w0 := w) w.heap.size (by rfl) (.tmp 11) (.tmp 13) 24 3 (.int .i64 0) 8 rfl Try.underlying24 info3 rfl (by decide) (by omega) v257 y256 l0_3 _ _ _ (fun _ => True) (fun _ => False) rfl rfl ?aO ?aR (fun _ _ h => h) (fun _ h => h.elim) ?aF ?aB ?aS ?aL ?_
  (case aR => repeat (first | exact (Kd.C_below HR0_3.out HB.out) | (with_reducible refine Kd.C_alloc ?_ _) | (with_reducible refine Kd.C_drewN ?_ _) | (with_reducible refine Kd.C_drew ?_)))
  (case aB => exact (zh2_ HB.out GE248.out GE249.out))
  (case aF => exact (fun _ _ => trivial))
  (case aO => exact (zR_ HO258.out))
  (case aS => exact (below_size (zh2_ HB.out GE248.out GE249.out)))
  (case aL => have := LMc4.out; omega)
  intro v260 w13 ho hb hg hat
  rw [← Ny259.out] at ho
  have n0_ := Aside0.mk (blk_grown (zb_ BK248.out) hg (Kd.R_ne HO258.out BK248.out (by decide)))
  have n1_ := Aside0.mk (blk_grown (zb_ BK249.out) hg (Kd.R_ne HO258.out BK249.out (by decide)))
  have n2_ := Aside0.mk (Kd.S_over' (by (with_reducible repeat (first | apply Kd.S_alloc | apply Kd.S_drewN | apply Kd.S_drew)); exact HO252.out) (Kd.R_typed (zR_ HO258.out)) (by decide) hg)
  have n3_ := Aside0.mk (Kd.S_over' (by (with_reducible repeat (first | apply Kd.S_alloc | apply Kd.S_drewN | apply Kd.S_drew)); exact HO255.out) (Kd.R_typed (zR_ HO258.out)) (by decide) hg)
  have n4_ := Aside0.mk (hb)
  have n5_ := Aside0.mk (ho)
  clear BK248 BK249 HO252 HO255 HB HO258
  have BK248 := n0_
  have BK249 := n1_
  have HO252 := n2_
  have HO255 := n3_
  have HB := n4_
  have HO261 := n5_
  clear n0_ n1_ n2_ n3_ n4_ n5_ ho hb hg hat
  obtain ⟨Ao14, co14, eo14⟩ := Kd.R_slice HO261.out
  (first | subst eo14 | (injection eo14 with f1_ f2_ f3_; have f4_ := f1_.symm; have f5_ := f3_.symm; clear f1_ f2_ f3_; subst f4_; subst f5_))
  obtain ⟨Ao15, co15, eo15⟩ := Kd.S_slice HO255.out
  (first | subst eo15 | (injection eo15 with f1_ f2_ f3_; have f4_ := f1_.symm; have f5_ := f3_.symm; clear f1_ f2_ f3_; subst f4_; subst f5_))
  obtain ⟨Ao16, co16, eo16⟩ := Kd.S_slice HO252.out
  (first | subst eo16 | (injection eo16 with f1_ f2_ f3_; have f4_ := f1_.symm; have f5_ := f3_.symm; clear f1_ f2_ f3_; subst f4_; subst f5_))
  refine hK.out _ _ ⟨(blk_cell BK248.out 0).trans rfl, (blk_cell BK248.out 1).trans rfl, (blk_cell BK248.out 2).trans rfl, (blk_cell BK248.out 3).trans rfl⟩ (fun hHeld => ?_)
  clear hK K
  refine zno 14 ?_
  refine zpu 12 (some 15) (zB 13 1) (any_of HT_.out (by kernel_rfl)) ?_
  refine one_ (i := 13) (N := none) (zB 14 0) rfl rfl (one_of HT_.out (by kernel_rfl)) (by decide) (fun K hK => ?_)
  have hs17 : w13.cell? ⟨gb249, 0, none⟩ = some (.bool false) := (blk_cell BK249.out 0).trans rfl
  have hfs17 := blk_frozen BK249.out 0
  have hns17_0 := NB248_249.out
  have hms17_0 := NB249_248.out
  have hs18 : w13.cell? ⟨gb249, 1, none⟩ = some (.slice none 0 0) := (blk_cell BK249.out 1).trans rfl
  have hfs18 := blk_frozen BK249.out 1
  have hns18_0 := NB248_249.out
  have hms18_0 := NB249_248.out
  have hs19 : w13.cell? ⟨gb249, 2, none⟩ = some (.slice none 0 0) := (blk_cell BK249.out 2).trans rfl
  have hfs19 := blk_frozen BK249.out 2
  have hns19_0 := NB248_249.out
  have hms19_0 := NB249_248.out
  have hs20 : w13.cell? ⟨gb249, 3, none⟩ = some (.slice none 0 0) := (blk_cell BK249.out 3).trans rfl
  have hfs20 := blk_frozen BK249.out 3
  have hns20_0 := NB248_249.out
  have hms20_0 := NB249_248.out
  refine skip_ (w1 := ?_) (by rfl) rfl ?_ ?_
  rotate_left
  ·go_simp
   rfl
  refine hK.out _ _ ⟨(zk4 NB248_249.out (hHeld.1)), (zk4 NB248_249.out (hHeld.2.1)), (zk4 NB248_249.out (hHeld.2.2.1)), (zk4 NB248_249.out (hHeld.2.2.2))⟩ (fun hHeld => ?_)
  clear hK K
  refine done_ (done_of HT_.out (by kernel_rfl)) ?_
  try go_wp2
  refine bodyPost_ret (results_cell_row rfl _ _ gb249 26 #[.bool a0_0, .slice Ao16 t250.length co16, .slice Ao15 t253.length co15, .slice Ao14 y259.length co14] (0, 0) _ rfl (zp_ BK249.out) Try.underlying26 rfl (by kernel_rfl)) rfl ?_
  exact ⟨_, _, _, by first | rfl | (simp [errW_none, errW_some] <;> rfl) | (simp [*, errW_none, errW_some] <;> rfl), by (with_reducible repeat (first | apply Kd.S_alloc | apply Kd.S_drewN | apply Kd.S_drew)); exact Kd.S_mono (Kd.S_far (p := ⟨gb249, 3, none⟩) (Kd.S_far (p := ⟨gb249, 2, none⟩) (Kd.S_far (p := ⟨gb249, 1, none⟩) (Kd.S_far (p := ⟨gb249, 0, none⟩) (Kd.S_types HO252.out BK249.out (by decide)) (fun _ hk => hk.2) (.bool a0_0)) (fun _ hk => hk.2) (.slice Ao16 t250.length co16)) (fun _ hk => hk.2) (.slice Ao15 t253.length co15)) (fun _ hk => hk.2) (.slice Ao14 y259.length co14)) (fun _ hk => hk.1), by (with_reducible repeat (first | apply Kd.S_alloc | apply Kd.S_drewN | apply Kd.S_drew)); exact Kd.S_mono (Kd.S_far (p := ⟨gb249, 3, none⟩) (Kd.S_far (p := ⟨gb249, 2, none⟩) (Kd.S_far (p := ⟨gb249, 1, none⟩) (Kd.S_far (p := ⟨gb249, 0, none⟩) (Kd.S_types HO255.out BK249.out (by decide)) (fun _ hk => hk.2) (.bool a0_0)) (fun _ hk => hk.2) (.slice Ao16 t250.length co16)) (fun _ hk => hk.2) (.slice Ao15 t253.length co15)) (fun _ hk => hk.2) (.slice Ao14 y259.length co14)) (fun _ hk => hk.1), by (with_reducible repeat (first | apply Kd.R_alloc | apply Kd.R_drewN | apply Kd.R_drew)); exact Kd.R_mono (Kd.R_far (p := ⟨gb249, 3, none⟩) (Kd.R_far (p := ⟨gb249, 2, none⟩) (Kd.R_far (p := ⟨gb249, 1, none⟩) (Kd.R_far (p := ⟨gb249, 0, none⟩) (Kd.R_types HO261.out BK249.out (by decide)) (fun _ hk => hk.2) (.bool a0_0)) (fun _ hk => hk.2) (.slice Ao16 t250.length co16)) (fun _ hk => hk.2) (.slice Ao15 t253.length co15)) (fun _ hk => hk.2) (.slice Ao14 y259.length co14)) (fun _ hk => trivial), by exact zh2_ HB.out GE248.out GE249.out⟩
 ·rw [if_neg c4] at H
  cases H
end Go.Proofs.Ytcbgichkeecgiaa.Print
namespace Go.Proofs.Ytcbgichkeecgiaa.Print
open Go.RowKit Go.Proofs.YtcbgichkeecgiaaW.PrintWords Go.Proofs.YtcbgichkeecgiaaW.PrintLast Go.Proofs.YtcbgichkeecgiaaW.PrintMore
attribute [local go_sem] max2_mx min2_mn max_two min_two max_three min_three max_four min_four
set_option linter.unusedVariables false
set_option linter.unusedSimpArgs false
def ladingref06_rises.l0 : Nat → List (List Int) → List (List Int) → Int → Int → Option (Bool)
 | 0, _, _, _, _ => none
 | k + 1, x0, x5, x6, x7 => if x7 < x6 then (if 0 ≤ x7 then (if x7 < (x5.length : Int) then (if ((rd_L1 x5 x7).length : Int) > 256 then (some false) else (if x7 > 0 then (if 0 ≤ (wrap64 (x7 - 1)) then (if (wrap64 (x7 - 1)) < (x0.length : Int) then (if ((Op.bytesLess ((strOfNums (rd_L1 x0 (wrap64 (x7 - 1)))).toList) ((strOfNums (rd_L1 x5 x7)).toList)) = true) then (ladingref06_rises.l0 k x0 x5 x6 (wrap64 (x7 + 1))) else (some false)) else (none)) else (none)) else (ladingref06_rises.l0 k x0 x5 x6 (wrap64 (x7 + 1))))) else (none)) else (none)) else (some true)
def ladingref06_rises.f (k : Nat) (l0 : List (List Int)) : Option (Bool) := ladingref06_rises.l0 k l0 l0 (l0.length : Int) 0
theorem ladingref06_rises.mono_l : ∀ k, (∀ y0 y1 y2 y3, LeO (ladingref06_rises.l0 k y0 y1 y2 y3) (ladingref06_rises.l0 (k + 1) y0 y1 y2 y3))
 | 0 => fun _ _ _ _ r h => by simp [ladingref06_rises.l0] at h
 | k + 1 => by
  have ih0 := ladingref06_rises.mono_l k
  ·intro y0 y1 y2 y3
   unfold ladingref06_rises.l0
   repeat' first
   | (with_reducible exact ih0 _ _ _ _)
   | (with_reducible exact LeO.refl _)
   | (with_reducible exact LeO.none _)
   | (with_reducible refine LeO.ite ?_ ?_)
   | (with_reducible refine LeO.bind ?_ (fun _ => ?_))
   | exact ih0 _ _ _ _
   | exact LeO.none _
   | refine LeO.ite ?_ ?_
   | refine LeO.bind ?_ (fun _ => ?_)
theorem ladingref06_rises.mono : ∀ a0 k, LeO (ladingref06_rises.f k a0) (ladingref06_rises.f (k + 1) a0) := by
 intro a0 k
 have ih0 := ladingref06_rises.mono_l k
 unfold ladingref06_rises.f
 repeat' first
   | (with_reducible exact ih0 _ _ _ _)
   | (with_reducible exact LeO.refl _)
   | (with_reducible exact LeO.none _)
   | (with_reducible refine LeO.ite ?_ ?_)
   | (with_reducible refine LeO.bind ?_ (fun _ => ?_))
   | exact ih0 _ _ _ _
   | exact LeO.none _
   | refine LeO.ite ?_ ?_
   | refine LeO.bind ?_ (fun _ => ?_)
set_option maxHeartbeats 8000000 in
set_option maxRecDepth 100000 in
theorem ladingref06_rises.calls (k : Nat) (A0 : Option Addr) (c0 : Nat) (l0 : List (List Int)) (r : Bool) (w : World) (hr0 : Kd.C (Kd.slice 5 (Kd.int .u8)) w A0 l0.length l0) (hc0 : l0.length ≤ c0) (h : ladingref06_rises.f k l0 = some r) :
  Calls Try.prog 63 #[.slice A0 l0.length c0] w fun e w' => e = .returned (.bool r) ∧ Drawn0 w w' := by
 have HR0 := Aside0.mk hr0
 have HC0 := Aside0.mk hc0
 clear hr0 hc0
 have H : (ladingref06_rises.l0 k l0 l0 (l0.length : Int) 0) = some r := h
 clear h
 have H' := Aside0.mk H
 clear H
 go_enter Try.func63, Try.ntmps63
 go_wp2
 repeat (go_quiet (fail); try go_wp2)
 go_loopg [7] k (fun kq v7 w' => ∃ (x7_1 : Int), v7 = .int .i64 x7_1 ∧ Aside0 (ladingref06_rises.l0 kq l0 l0 (l0.length : Int) x7_1 = some r) ∧ Aside0 (kq ≤ k) ∧ Drawn0 w w')
 case atStart => exact ⟨(0), (by first | rfl | (simp; done) | (simp [*]; done) | (simp only [i64_w]; done)), H', ⟨Nat.le_refl _⟩, by repeat (first | exact Drawn0.refl _ | apply Drawn0.step)⟩
 case round =>
  clear H'
  obtain ⟨x7_1, rfl, HA, HK1, ⟨m1, rfl⟩⟩ := hrel
  cases gk with
  | zero => exact absurd HA.out (by simp [ladingref06_rises.l0])
  | succ k1 =>
   have H := HA.out
   clear HA
   simp only [ladingref06_rises.l0] at H
   by_cases c2 : x7_1 < (l0.length : Int)
   ·rw [if_pos c2] at H
    have c2b0 : decide (x7_1 < (l0.length : Int)) = true := decide_eq_true c2
    clear c2
    by_cases c3 : 0 ≤ x7_1
    ·rw [if_pos c3] at H
     have c3b0 : decide (0 ≤ x7_1) = true := decide_eq_true c3
     clear c3
     by_cases c4 : x7_1 < (l0.length : Int)
     ·rw [if_pos c4] at H
      have c4b0 : decide (x7_1 < (l0.length : Int)) = true := decide_eq_true c4
      clear c4
      by_cases c5 : ((rd_L1 l0 x7_1).length : Int) > 256
      ·rw [if_pos c5] at H
       have c5b0 : decide (256 < ((rd_L1 l0 x7_1).length : Int)) = true := decide_eq_true c5
       have c5b1 : decide (256 < (rd_L1 l0 x7_1).length) = true := decide_eq_true (by omega)
       clear c5
       obtain rfl := Option.some.inj H
       have p262 : 0 ≤ (x7_1 : Int) := of_decide_eq_true za_
       have q262 : x7_1 < (l0.length : Int) := of_decide_eq_true za_
       obtain ⟨ad262, A262_0, c262_0, e262, hx262_0, hl262_0, hi262_0⟩ := at_L1 HR0.out x7_1 p262 q262
       cases e262
       have HR262_0 := Aside0.mk hi262_0
       have HC262_0 := Aside0.mk hl262_0
       clear hi262_0 hl262_0
       replace p262 := eq_true p262
       replace q262 := eq_true q262
       go_wp2
       repeat (go_quiet (fail); try go_wp2)
       go_ret
       exact ⟨by first | rfl | (simp; done) | (simp [*]; done), by repeat (first | exact Drawn0.refl _ | apply Drawn0.step)⟩
      ·rw [if_neg c5] at H
       have c5b0 : decide (256 < ((rd_L1 l0 x7_1).length : Int)) = false := decide_eq_false c5
       have c5b1 : decide (256 < (rd_L1 l0 x7_1).length) = false := decide_eq_false (by omega)
       clear c5
       by_cases c6 : x7_1 > 0
       ·rw [if_pos c6] at H
        have c6b0 : decide (0 < x7_1) = true := decide_eq_true c6
        clear c6
        obtain ⟨ji7, hji7⟩ : ∃ j_ : Int, (wrap64 (x7_1 - 1)) = j_ := ⟨_, rfl⟩
        replace H : (if 0 ≤ (ji7) then (if (ji7) < (l0.length : Int) then (if ((Op.bytesLess ((strOfNums (rd_L1 l0 (ji7))).toList) ((strOfNums (rd_L1 l0 x7_1)).toList)) = true) then (ladingref06_rises.l0 k1 l0 l0 (l0.length : Int) (wrap64 (x7_1 + 1))) else (some false)) else (none)) else (none)) = some r := by first | (rw [hji7] at H; exact H) | (simp only [hji7] at H ⊢; exact H)
        have hji7w : (IntKind.i64.wrap (x7_1 - 1)) = ji7 := (i64_w _).trans hji7
        by_cases c8 : 0 ≤ (ji7)
        ·rw [if_pos c8] at H
         have c8b0 : decide (0 ≤ (ji7)) = true := decide_eq_true c8
         clear c8
         by_cases c9 : (ji7) < (l0.length : Int)
         ·rw [if_pos c9] at H
          have c9b0 : decide ((ji7) < (l0.length : Int)) = true := decide_eq_true c9
          clear c9
          by_cases c10 : ((Op.bytesLess ((strOfNums (rd_L1 l0 (ji7))).toList) ((strOfNums (rd_L1 l0 x7_1)).toList)) = true)
          ·rw [if_pos c10] at H
           have c10b0 : (Op.bytesLess ((strOfNums (rd_L1 l0 (ji7))).toList) ((strOfNums (rd_L1 l0 x7_1)).toList)) = true := c10
           clear c10
           have H' := Aside0.mk H
           clear H
           have p262 : 0 ≤ (x7_1 : Int) := of_decide_eq_true za_
           have q262 : x7_1 < (l0.length : Int) := of_decide_eq_true za_
           obtain ⟨ad262, A262_0, c262_0, e262, hx262_0, hl262_0, hi262_0⟩ := at_L1 HR0.out x7_1 p262 q262
           cases e262
           have HR262_0 := Aside0.mk hi262_0
           have HC262_0 := Aside0.mk hl262_0
           clear hi262_0 hl262_0
           replace p262 := eq_true p262
           replace q262 := eq_true q262
           have p263 : 0 ≤ ((ji7) : Int) := of_decide_eq_true za_
           have q263 : (ji7) < (l0.length : Int) := of_decide_eq_true za_
           obtain ⟨ad263, A263_0, c263_0, e263, hx263_0, hl263_0, hi263_0⟩ := at_L1 HR0.out (ji7) p263 q263
           obtain rfl : ad262 = ad263 := (by injection e263)
           have HR263_0 := Aside0.mk hi263_0
           have HC263_0 := Aside0.mk hl263_0
           clear hi263_0 hl263_0
           replace p263 := eq_true p263
           replace q263 := eq_true q263
           have hcv11 := Kd.C_string (P := Try.prog) (A := A263_0) (c := c263_0) Try.underlying27 Try.underlying5 Try.underlying9 HR263_0.out
           have hcw12 := fun n_ : Nat => Kd.C_string (P := Try.prog) (A := A263_0) (c := c263_0) Try.underlying27 Try.underlying5 Try.underlying9 (Kd.C_drewN HR263_0.out n_)
           have hcv13 := Kd.C_string (P := Try.prog) (A := A262_0) (c := c262_0) Try.underlying27 Try.underlying5 Try.underlying9 HR262_0.out
           have hcw14 := fun n_ : Nat => Kd.C_string (P := Try.prog) (A := A262_0) (c := c262_0) Try.underlying27 Try.underlying5 Try.underlying9 (Kd.C_drewN HR262_0.out n_)
           go_wp2
           repeat (go_quiet (fail); try go_wp2)
           go_roundg k1
           case measure => have := HK1.out; omega
           case rel => exact ⟨(wrap64 (x7_1 + 1)), (by first | rfl | (simp; done) | (simp [*]; done) | (simp only [i64_w]; done)), H', ⟨by have := HK1.out; omega⟩, by repeat (first | exact Drawn0.refl _ | apply Drawn0.step)⟩
          ·rw [if_neg c10] at H
           have c10b0 : (Op.bytesLess ((strOfNums (rd_L1 l0 (ji7))).toList) ((strOfNums (rd_L1 l0 x7_1)).toList)) = false := by simpa using c10
           clear c10
           obtain rfl := Option.some.inj H
           have p262 : 0 ≤ (x7_1 : Int) := of_decide_eq_true za_
           have q262 : x7_1 < (l0.length : Int) := of_decide_eq_true za_
           obtain ⟨ad262, A262_0, c262_0, e262, hx262_0, hl262_0, hi262_0⟩ := at_L1 HR0.out x7_1 p262 q262
           cases e262
           have HR262_0 := Aside0.mk hi262_0
           have HC262_0 := Aside0.mk hl262_0
           clear hi262_0 hl262_0
           replace p262 := eq_true p262
           replace q262 := eq_true q262
           have p263 : 0 ≤ ((ji7) : Int) := of_decide_eq_true za_
           have q263 : (ji7) < (l0.length : Int) := of_decide_eq_true za_
           obtain ⟨ad263, A263_0, c263_0, e263, hx263_0, hl263_0, hi263_0⟩ := at_L1 HR0.out (ji7) p263 q263
           obtain rfl : ad262 = ad263 := (by injection e263)
           have HR263_0 := Aside0.mk hi263_0
           have HC263_0 := Aside0.mk hl263_0
           clear hi263_0 hl263_0
           replace p263 := eq_true p263
           replace q263 := eq_true q263
           have hcv15 := Kd.C_string (P := Try.prog) (A := A263_0) (c := c263_0) Try.underlying27 Try.underlying5 Try.underlying9 HR263_0.out
           have hcw16 := fun n_ : Nat => Kd.C_string (P := Try.prog) (A := A263_0) (c := c263_0) Try.underlying27 Try.underlying5 Try.underlying9 (Kd.C_drewN HR263_0.out n_)
           have hcv17 := Kd.C_string (P := Try.prog) (A := A262_0) (c := c262_0) Try.underlying27 Try.underlying5 Try.underlying9 HR262_0.out
           have hcw18 := fun n_ : Nat => Kd.C_string (P := Try.prog) (A := A262_0) (c := c262_0) Try.underlying27 Try.underlying5 Try.underlying9 (Kd.C_drewN HR262_0.out n_)
           go_wp2
           repeat (go_quiet (fail); try go_wp2)
           go_ret
           exact ⟨by first | rfl | (simp; done) | (simp only [← hji7] <;> (first | rfl | simp)) | (simp [*]; done), by repeat (first | exact Drawn0.refl _ | apply Drawn0.step)⟩
         ·rw [if_neg c9] at H
          cases H
        ·rw [if_neg c8] at H
         cases H
       ·rw [if_neg c6] at H
        have c6b0 : decide (0 < x7_1) = false := decide_eq_false c6
        clear c6
        have H' := Aside0.mk H
        clear H
        have p262 : 0 ≤ (x7_1 : Int) := of_decide_eq_true za_
        have q262 : x7_1 < (l0.length : Int) := of_decide_eq_true za_
        obtain ⟨ad262, A262_0, c262_0, e262, hx262_0, hl262_0, hi262_0⟩ := at_L1 HR0.out x7_1 p262 q262
        cases e262
        have HR262_0 := Aside0.mk hi262_0
        have HC262_0 := Aside0.mk hl262_0
        clear hi262_0 hl262_0
        replace p262 := eq_true p262
        replace q262 := eq_true q262
        go_wp2
        repeat (go_quiet (fail); try go_wp2)
        go_roundg k1
        case measure => have := HK1.out; omega
        case rel => exact ⟨(wrap64 (x7_1 + 1)), (by first | rfl | (simp; done) | (simp [*]; done) | (simp only [i64_w]; done)), H', ⟨by have := HK1.out; omega⟩, by repeat (first | exact Drawn0.refl _ | apply Drawn0.step)⟩
     ·rw [if_neg c4] at H
      cases H
    ·rw [if_neg c3] at H
     cases H
   ·rw [if_neg c2] at H
    have c2b0 : decide (x7_1 < (l0.length : Int)) = false := decide_eq_false c2
    clear c2
    obtain rfl := Option.some.inj H
    go_wp2
    repeat (go_quiet (fail); try go_wp2)
    go_ret
    exact ⟨by first | rfl | (simp; done) | (simp [*]; done), by repeat (first | exact Drawn0.refl _ | apply Drawn0.step)⟩
end Go.Proofs.Ytcbgichkeecgiaa.Print
namespace Go.Proofs.Ytcbgichkeecgiaa.Print
open Go.RowKit Go.Proofs.YtcbgichkeecgiaaW.PrintWords Go.Proofs.YtcbgichkeecgiaaW.PrintLast Go.Proofs.YtcbgichkeecgiaaW.PrintMore
attribute [local go_sem] max2_mx min2_mn max_two min_two max_three min_three max_four min_four
set_option linter.unusedVariables false
set_option linter.unusedSimpArgs false
mutual
def ladingref06_made.l0 : Nat → List (List Int) → Int → Int → Bool → List (List Int) → List (List Int) → List Int → Option (Bool)
 | 0, _, _, _, _, _, _, _ => none
 | k + 1, x12, x13, x14, x265000, x265001, x265002, x265003 => if x14 < x13 then (if 0 ≤ x14 then (if x14 < (x12.length : Int) then (if ((rd_L1 x12 x14).length : Int) > 512 then (some false) else (ladingref06_made.l0 k x12 x13 (wrap64 (x14 + 1)) x265000 x265001 x265002 x265003)) else (none)) else (none)) else (ladingref06_made.l1 k x265003 (x265003.length : Int) 0 x265000 x265001 x265002 x265003)
def ladingref06_made.l1 : Nat → List Int → Int → Int → Bool → List (List Int) → List (List Int) → List Int → Option (Bool)
 | 0, _, _, _, _, _, _, _ => none
 | k + 1, x23, x24, x25, x265000, x265001, x265002, x265003 => if x25 < x24 then (if 0 ≤ x25 then (if x25 < (x23.length : Int) then (if (rd x23 x25) < 1 then (some false) else (if (rd x23 x25) > 1023 then (some false) else (ladingref06_made.l1 k x23 x24 (wrap64 (x25 + 1)) x265000 x265001 x265002 x265003))) else (none)) else (none)) else (if x265000 = true then (if (x265002.length : Int) = (x265001.length : Int) then (some ((x265003.length : Int) == 0)) else (some false)) else (if (x265001.length : Int) > 0 then (if (x265003.length : Int) = (wrap64 ((x265001.length : Int) + 1)) then (some ((x265002.length : Int) == 0)) else (some false)) else (some false)))
end
def ladingref06_made.f (k : Nat) (a0_0 : Bool) (l0_1 : List (List Int)) (l0_2 : List (List Int)) (l0_3 : List Int) : Option (Bool) := (ladingref06_rises.f k l0_1).bind fun t265 => (if t265 = true then (ladingref06_made.l0 k l0_2 (l0_2.length : Int) 0 a0_0 l0_1 l0_2 l0_3) else (some false))
theorem ladingref06_made.mono_l : ∀ k, (∀ y0 y1 y2 y3 y4 y5 y6, LeO (ladingref06_made.l0 k y0 y1 y2 y3 y4 y5 y6) (ladingref06_made.l0 (k + 1) y0 y1 y2 y3 y4 y5 y6)) ∧ (∀ y0 y1 y2 y3 y4 y5 y6, LeO (ladingref06_made.l1 k y0 y1 y2 y3 y4 y5 y6) (ladingref06_made.l1 (k + 1) y0 y1 y2 y3 y4 y5 y6))
 | 0 => ⟨fun _ _ _ _ _ _ _ r h => by simp [ladingref06_made.l0] at h, fun _ _ _ _ _ _ _ r h => by simp [ladingref06_made.l1] at h⟩
 | k + 1 => by
  obtain ⟨ih0, ih1⟩ := ladingref06_made.mono_l k
  refine ⟨?_, ?_⟩
  ·intro y0 y1 y2 y3 y4 y5 y6
   unfold ladingref06_made.l0
   repeat' first
   | (with_reducible exact ih0 _ _ _ _ _ _ _)
   | (with_reducible exact ih1 _ _ _ _ _ _ _)
   | (with_reducible exact ladingref06_rises.mono _ _)
   | (with_reducible exact LeO.refl _)
   | (with_reducible exact LeO.none _)
   | (with_reducible refine LeO.ite ?_ ?_)
   | (with_reducible refine LeO.bind ?_ (fun _ => ?_))
   | exact ih0 _ _ _ _ _ _ _
   | exact ih1 _ _ _ _ _ _ _
   | exact ladingref06_rises.mono _ _
   | exact LeO.none _
   | refine LeO.ite ?_ ?_
   | refine LeO.bind ?_ (fun _ => ?_)
  ·intro y0 y1 y2 y3 y4 y5 y6
   unfold ladingref06_made.l1
   repeat' first
   | (with_reducible exact ih0 _ _ _ _ _ _ _)
   | (with_reducible exact ih1 _ _ _ _ _ _ _)
   | (with_reducible exact ladingref06_rises.mono _ _)
   | (with_reducible exact LeO.refl _)
   | (with_reducible exact LeO.none _)
   | (with_reducible refine LeO.ite ?_ ?_)
   | (with_reducible refine LeO.bind ?_ (fun _ => ?_))
   | exact ih0 _ _ _ _ _ _ _
   | exact ih1 _ _ _ _ _ _ _
   | exact ladingref06_rises.mono _ _
   | exact LeO.none _
   | refine LeO.ite ?_ ?_
   | refine LeO.bind ?_ (fun _ => ?_)
theorem ladingref06_made.mono : ∀ a0 a1 a2 a3 k, LeO (ladingref06_made.f k a0 a1 a2 a3) (ladingref06_made.f (k + 1) a0 a1 a2 a3) := by
 intro a0 a1 a2 a3 k
 obtain ⟨ih0, ih1⟩ := ladingref06_made.mono_l k
 unfold ladingref06_made.f
 repeat' first
   | (with_reducible exact ih0 _ _ _ _ _ _ _)
   | (with_reducible exact ih1 _ _ _ _ _ _ _)
   | (with_reducible exact ladingref06_rises.mono _ _)
   | (with_reducible exact LeO.refl _)
   | (with_reducible exact LeO.none _)
   | (with_reducible refine LeO.ite ?_ ?_)
   | (with_reducible refine LeO.bind ?_ (fun _ => ?_))
   | exact ih0 _ _ _ _ _ _ _
   | exact ih1 _ _ _ _ _ _ _
   | exact ladingref06_rises.mono _ _
   | exact LeO.none _
   | refine LeO.ite ?_ ?_
   | refine LeO.bind ?_ (fun _ => ?_)
set_option maxHeartbeats 8000000 in
set_option maxRecDepth 100000 in
theorem ladingref06_made.calls (k : Nat) (a0_0 : Bool) (A0_1 : Option Addr) (c0_1 : Nat) (l0_1 : List (List Int)) (A0_2 : Option Addr) (c0_2 : Nat) (l0_2 : List (List Int)) (A0_3 : Option Addr) (c0_3 : Nat) (l0_3 : List Int) (r : Bool) (w : World) (hr0_1 : Kd.C (Kd.slice 5 (Kd.int .u8)) w A0_1 l0_1.length l0_1) (hc0_1 : l0_1.length ≤ c0_1) (hr0_2 : Kd.C (Kd.slice 5 (Kd.int .u8)) w A0_2 l0_2.length l0_2) (hc0_2 : l0_2.length ≤ c0_2) (hr0_3 : Kd.C (Kd.int .i64) w A0_3 l0_3.length l0_3) (hc0_3 : l0_3.length ≤ c0_3) (h : ladingref06_made.f k a0_0 l0_1 l0_2 l0_3 = some r) :
  Calls Try.prog 52 #[.agg #[.bool a0_0, .slice A0_1 l0_1.length c0_1, .slice A0_2 l0_2.length c0_2, .slice A0_3 l0_3.length c0_3]] w fun e w' => e = .returned (.bool r) ∧ Below w.heap.size w w' := by
 have hu26 := Try.underlying26
 have HR0_1 := Aside0.mk hr0_1
 have HC0_1 := Aside0.mk hc0_1
 clear hr0_1 hc0_1
 have HR0_2 := Aside0.mk hr0_2
 have HC0_2 := Aside0.mk hc0_2
 clear hr0_2 hc0_2
 have HR0_3 := Aside0.mk hr0_3
 have HC0_3 := Aside0.mk hc0_3
 clear hr0_3 hc0_3
 have HB := Aside0.mk (Below.refl w.heap.size w)
 have H : ((ladingref06_rises.f k l0_1).bind fun t265 => (if t265 = true then (ladingref06_made.l0 k l0_2 (l0_2.length : Int) 0 a0_0 l0_1 l0_2 l0_3) else (some false))) = some r := h
 clear h
 obtain ⟨t265, A2, H⟩ := zm H
 (try dsimp only at H)
 by_cases c3 : t265 = true
 ·subst c3
  replace H := (if_pos (rfl : true = true)).symm.trans H
  have H' := Aside0.mk H
  clear H
  go_enter Try.func52, Try.ntmps52
  go_wp2_with (first | ((with_reducible refine gate_dst (N := 1) rfl ?_); (try (refine gate_guard (by rfl) ?_; dsimp only)); refine box_event ?hg (N := 1) ?hd (cs := #[.bool a0_0, .slice A0_1 l0_1.length c0_1, .slice A0_2 l0_2.length c0_2, .slice A0_3 l0_3.length c0_3]) (t := 26) ?hr ?_; (case hd => rfl); (case hg => rfl); (case hr => first | (go_simp; done) | (go_simp; rfl)); intro gb264 hg w4 hbox hb; have BK264 := Aside0.mk (hbox); have GW264 := Aside0.mk ((by rw [hg]; exact (below_size (zh0_ HB.out)) : w.heap.size ≤ gb264)); have GE264 := Aside0.mk ((by rw [hg]; exact (below_size (zh0_ HB.out)) : w.heap.size ≤ gb264)); replace HB := Aside0.mk (below_step (zh0_ HB.out) hb); clear hb hbox hg; obtain ⟨hcz5_0, hcz5_1, hcz5_2, hcz5_3⟩ := zc4 BK264.out; obtain ⟨hfz5_0, hfz5_1, hfz5_2, hfz5_3⟩ := zz4 BK264.out) | ((with_reducible refine gate_callee (f := 63) rfl ?_); refine goesL_ (some 9) rfl rfl Try.func63 (by kernel_rfl) rfl #[.slice A0_1 l0_1.length c0_1] rfl zl_ ?_; (with_reducible refine (ladingref06_rises.calls k _ _ l0_1 true _ ?side1 ?side2 A2.out).mono ?_); (case side1 => exact zc_ (Kd.C_below HR0_1.out HB.out)); (case side2 => exact HC0_1.out); rintro e w' ⟨rfl, ⟨nd, rfl⟩⟩; refine ⟨_, rfl, ?_⟩))
  go_loopg [14] k (fun kq v14 w' => ∃ (x14_1 : Int), v14 = .int .i64 x14_1 ∧ Aside0 (ladingref06_made.l0 kq l0_2 (l0_2.length : Int) x14_1 a0_0 l0_1 l0_2 l0_3 = some r) ∧ Aside0 (kq ≤ k) ∧ Aside0 (w'.heap[gb264]? = some (.cells #[.bool a0_0, (.slice A0_1 l0_1.length c0_1), (.slice A0_2 l0_2.length c0_2), (.slice A0_3 l0_3.length c0_3)] 26 (0, 0))) ∧ Aside0 (Below w.heap.size w w'))
  case atStart => exact ⟨(0), (by first | rfl | (simp; done) | (simp [*]; done) | (simp only [i64_w]; done)), H', ⟨Nat.le_refl _⟩, ⟨by (with_reducible repeat (first | refine blk_drewN ?_ _ | refine blk_drew ?_ | refine blk_alloc ?_ _)); exact BK264.out⟩, ⟨by exact zh1_ HB.out GE264.out⟩⟩
  case round =>
   clear H'
   try clear p2
   try clear c3
   try clear c5
   try clear hcz5_0
   try clear hcz5_1
   try clear hcz5_2
   try clear hcz5_3
   try clear hfz5_0
   try clear hfz5_1
   try clear hfz5_2
   try clear hfz5_3
   (try clear BK264)
   obtain ⟨x14_1, rfl, HA, HK1, BK264, HB⟩ := hrel
   cases gk with
   | zero => exact absurd HA.out (by simp [ladingref06_made.l0])
   | succ k1 =>
    have H := HA.out
    clear HA
    simp only [ladingref06_made.l0] at H
    by_cases c6 : x14_1 < (l0_2.length : Int)
    ·rw [if_pos c6] at H
     have c6b0 : decide (x14_1 < (l0_2.length : Int)) = true := decide_eq_true c6
     clear c6
     by_cases c7 : 0 ≤ x14_1
     ·rw [if_pos c7] at H
      have c7b0 : decide (0 ≤ x14_1) = true := decide_eq_true c7
      clear c7
      by_cases c8 : x14_1 < (l0_2.length : Int)
      ·rw [if_pos c8] at H
       have c8b0 : decide (x14_1 < (l0_2.length : Int)) = true := decide_eq_true c8
       clear c8
       by_cases c9 : ((rd_L1 l0_2 x14_1).length : Int) > 512
       ·rw [if_pos c9] at H
        have c9b0 : decide (512 < ((rd_L1 l0_2 x14_1).length : Int)) = true := decide_eq_true c9
        have c9b1 : decide (512 < (rd_L1 l0_2 x14_1).length) = true := decide_eq_true (by omega)
        clear c9
        obtain rfl := Option.some.inj H
        have p266 : 0 ≤ (x14_1 : Int) := of_decide_eq_true za_
        have q266 : x14_1 < (l0_2.length : Int) := of_decide_eq_true za_
        obtain ⟨ad266, A266_0, c266_0, e266, hx266_0, hl266_0, hi266_0⟩ := at_L1 HR0_2.out x14_1 p266 q266
        cases e266
        replace hx266_0 := zx_ HB.out hx266_0
        have HR266_0 := Aside0.mk hi266_0
        have HC266_0 := Aside0.mk hl266_0
        clear hi266_0 hl266_0
        replace p266 := eq_true p266
        replace q266 := eq_true q266
        go_wp2
        go_ret
        exact ⟨by first | rfl | (simp [errW_none, errW_some] <;> rfl) | (simp [*, errW_none, errW_some] <;> rfl), by exact zh1_ HB.out GE264.out⟩
       ·rw [if_neg c9] at H
        have c9b0 : decide (512 < ((rd_L1 l0_2 x14_1).length : Int)) = false := decide_eq_false c9
        have c9b1 : decide (512 < (rd_L1 l0_2 x14_1).length) = false := decide_eq_false (by omega)
        clear c9
        have H' := Aside0.mk H
        clear H
        have p266 : 0 ≤ (x14_1 : Int) := of_decide_eq_true za_
        have q266 : x14_1 < (l0_2.length : Int) := of_decide_eq_true za_
        obtain ⟨ad266, A266_0, c266_0, e266, hx266_0, hl266_0, hi266_0⟩ := at_L1 HR0_2.out x14_1 p266 q266
        cases e266
        replace hx266_0 := zx_ HB.out hx266_0
        have HR266_0 := Aside0.mk hi266_0
        have HC266_0 := Aside0.mk hl266_0
        clear hi266_0 hl266_0
        replace p266 := eq_true p266
        replace q266 := eq_true q266
        go_wp2
        go_roundg k1
        case measure => have := HK1.out; omega
        case rel => exact ⟨(wrap64 (x14_1 + 1)), (by first | rfl | (simp; done) | (simp [*]; done) | (simp only [i64_w]; done)), H', ⟨by have := HK1.out; omega⟩, ⟨by (with_reducible repeat (first | refine blk_drewN ?_ _ | refine blk_drew ?_ | refine blk_alloc ?_ _)); exact BK264.out⟩, ⟨by exact zh1_ HB.out GE264.out⟩⟩
      ·rw [if_neg c8] at H
       cases H
     ·rw [if_neg c7] at H
      cases H
    ·rw [if_neg c6] at H
     have c6b0 : decide (x14_1 < (l0_2.length : Int)) = false := decide_eq_false c6
     clear c6
     have H' := Aside0.mk H
     clear H
     obtain ⟨hcz10_0, hcz10_1, hcz10_2, hcz10_3⟩ := zc4 BK264.out
     obtain ⟨hfz10_0, hfz10_1, hfz10_2, hfz10_3⟩ := zz4 BK264.out
     go_wp2
     go_loopg [25] k1 (fun kq v25 w' => ∃ (x25_2 : Int), v25 = .int .i64 x25_2 ∧ Aside0 (ladingref06_made.l1 kq l0_3 (l0_3.length : Int) x25_2 a0_0 l0_1 l0_2 l0_3 = some r) ∧ Aside0 (kq ≤ k1) ∧ Aside0 (w'.heap[gb264]? = some (.cells #[.bool a0_0, (.slice A0_1 l0_1.length c0_1), (.slice A0_2 l0_2.length c0_2), (.slice A0_3 l0_3.length c0_3)] 26 (0, 0))) ∧ Aside0 (Below w.heap.size w w'))
     case atStart => exact ⟨(0), (by first | rfl | (simp; done) | (simp [*]; done) | (simp only [i64_w]; done)), H', ⟨Nat.le_refl _⟩, ⟨by (with_reducible repeat (first | refine blk_drewN ?_ _ | refine blk_drew ?_ | refine blk_alloc ?_ _)); exact BK264.out⟩, ⟨by exact zh1_ HB.out GE264.out⟩⟩
     case round =>
      clear H'
      try clear c2
      try clear p2
      try clear q2
      try clear hx2
      try clear c3
      try clear c5
      try clear c6
      try clear c6b0
      try clear p6
      try clear c7
      try clear c7b0
      try clear c8
      try clear c8b0
      try clear c9
      try clear c9b0
      try clear c9b1
      try clear hcz10_0
      try clear hcz10_1
      try clear hcz10_2
      try clear hcz10_3
      try clear hcz5_0
      try clear hcz5_1
      try clear hcz5_2
      try clear hcz5_3
      try clear hfz10_0
      try clear hfz10_1
      try clear hfz10_2
      try clear hfz10_3
      try clear hfz5_0
      try clear hfz5_1
      try clear hfz5_2
      try clear hfz5_3
      try clear hx266_0
      try clear p2
      try clear p266
      try clear q266
      (try clear BK264)
      obtain ⟨x25_2, rfl, HA, HK2, BK264, HB⟩ := hrel
      cases gk with
      | zero => exact absurd HA.out (by simp [ladingref06_made.l1])
      | succ k2 =>
       have H := HA.out
       clear HA
       simp only [ladingref06_made.l1] at H
       by_cases c11 : x25_2 < (l0_3.length : Int)
       ·rw [if_pos c11] at H
        have c11b0 : decide (x25_2 < (l0_3.length : Int)) = true := decide_eq_true c11
        clear c11
        by_cases c12 : 0 ≤ x25_2
        ·rw [if_pos c12] at H
         have c12b0 : decide (0 ≤ x25_2) = true := decide_eq_true c12
         clear c12
         by_cases c13 : x25_2 < (l0_3.length : Int)
         ·rw [if_pos c13] at H
          have c13b0 : decide (x25_2 < (l0_3.length : Int)) = true := decide_eq_true c13
          clear c13
          by_cases c14 : (rd l0_3 x25_2) < 1
          ·rw [if_pos c14] at H
           have c14b0 : decide ((rd l0_3 x25_2) < 1) = true := decide_eq_true c14
           clear c14
           obtain rfl := Option.some.inj H
           have p267 : 0 ≤ (x25_2 : Int) := of_decide_eq_true za_
           have q267 : x25_2 < (l0_3.length : Int) := of_decide_eq_true za_
           obtain ⟨ad267, e267, hx267_0⟩ := Kd.at_int HR0_3.out x25_2 p267 q267
           cases e267
           replace hx267_0 := zx_ HB.out hx267_0
           replace p267 := eq_true p267
           replace q267 := eq_true q267
           go_wp2
           go_ret
           exact ⟨by first | rfl | (simp [errW_none, errW_some] <;> rfl) | (simp [*, errW_none, errW_some] <;> rfl), by exact zh1_ HB.out GE264.out⟩
          ·rw [if_neg c14] at H
           have c14b0 : decide ((rd l0_3 x25_2) < 1) = false := decide_eq_false c14
           clear c14
           by_cases c15 : (rd l0_3 x25_2) > 1023
           ·rw [if_pos c15] at H
            have c15b0 : decide (1023 < (rd l0_3 x25_2)) = true := decide_eq_true c15
            clear c15
            obtain rfl := Option.some.inj H
            have p267 : 0 ≤ (x25_2 : Int) := of_decide_eq_true za_
            have q267 : x25_2 < (l0_3.length : Int) := of_decide_eq_true za_
            obtain ⟨ad267, e267, hx267_0⟩ := Kd.at_int HR0_3.out x25_2 p267 q267
            cases e267
            replace hx267_0 := zx_ HB.out hx267_0
            replace p267 := eq_true p267
            replace q267 := eq_true q267
            go_wp2
            go_ret
            exact ⟨by first | rfl | (simp [errW_none, errW_some] <;> rfl) | (simp [*, errW_none, errW_some] <;> rfl), by exact zh1_ HB.out GE264.out⟩
           ·rw [if_neg c15] at H
            have c15b0 : decide (1023 < (rd l0_3 x25_2)) = false := decide_eq_false c15
            clear c15
            have H' := Aside0.mk H
            clear H
            have p267 : 0 ≤ (x25_2 : Int) := of_decide_eq_true za_
            have q267 : x25_2 < (l0_3.length : Int) := of_decide_eq_true za_
            obtain ⟨ad267, e267, hx267_0⟩ := Kd.at_int HR0_3.out x25_2 p267 q267
            cases e267
            replace hx267_0 := zx_ HB.out hx267_0
            replace p267 := eq_true p267
            replace q267 := eq_true q267
            go_wp2
            go_roundg k2
            case measure => have := HK1.out; have := HK2.out; omega
            case rel => exact ⟨(wrap64 (x25_2 + 1)), (by first | rfl | (simp; done) | (simp [*]; done) | (simp only [i64_w]; done)), H', ⟨by have := HK1.out; have := HK2.out; omega⟩, ⟨by (with_reducible repeat (first | refine blk_drewN ?_ _ | refine blk_drew ?_ | refine blk_alloc ?_ _)); exact BK264.out⟩, ⟨by exact zh1_ HB.out GE264.out⟩⟩
         ·rw [if_neg c13] at H
          cases H
        ·rw [if_neg c12] at H
         cases H
       ·rw [if_neg c11] at H
        have c11b0 : decide (x25_2 < (l0_3.length : Int)) = false := decide_eq_false c11
        clear c11
        by_cases c16 : a0_0 = true
        ·subst c16
         replace H := (if_pos (rfl : true = true)).symm.trans H
         by_cases c17 : (l0_2.length : Int) = (l0_1.length : Int)
         ·rw [if_pos c17] at H
          obtain ⟨c17b0, c17b1⟩ := zq1 c17
          have c17b2 : (l0_2.length == l0_1.length) = true := by first | simpa using c17 | (simp at c17 ⊢; omega)
          clear c17
          obtain rfl := Option.some.inj H
          obtain ⟨hcz18_0, hcz18_1, hcz18_2, hcz18_3⟩ := zc4 BK264.out
          obtain ⟨hfz18_0, hfz18_1, hfz18_2, hfz18_3⟩ := zz4 BK264.out
          go_wp2
          go_ret
          exact ⟨by first | rfl | (simp [errW_none, errW_some] <;> rfl) | (simp [*, errW_none, errW_some] <;> rfl), by exact zh1_ HB.out GE264.out⟩
         ·rw [if_neg c17] at H
          obtain ⟨c17b0, c17b1⟩ := zq0 c17
          have c17b2 : (l0_2.length == l0_1.length) = false := by first | simpa using c17 | (simp at c17 ⊢; omega)
          obtain rfl := Option.some.inj H
          obtain ⟨hcz19_0, hcz19_1, hcz19_2, hcz19_3⟩ := zc4 BK264.out
          obtain ⟨hfz19_0, hfz19_1, hfz19_2, hfz19_3⟩ := zz4 BK264.out
          go_wp2
          go_ret
          exact ⟨by first | rfl | (simp [errW_none, errW_some] <;> rfl) | (simp [*, errW_none, errW_some] <;> rfl), by exact zh1_ HB.out GE264.out⟩
        ·replace c16 := Bool.eq_false_iff.mpr c16
         subst c16
         replace H := (if_neg (show ¬ (false = true) by decide)).symm.trans H
         by_cases c20 : (l0_1.length : Int) > 0
         ·rw [if_pos c20] at H
          have c20b0 : decide (0 < (l0_1.length : Int)) = true := decide_eq_true c20
          have c20b1 : decide (0 < l0_1.length) = true := decide_eq_true (by omega)
          clear c20
          by_cases c21 : (l0_3.length : Int) = (wrap64 ((l0_1.length : Int) + 1))
          ·rw [if_pos c21] at H
           obtain ⟨c21b0, c21b1⟩ := zq1 c21
           clear c21
           obtain rfl := Option.some.inj H
           obtain ⟨hcz22_0, hcz22_1, hcz22_2, hcz22_3⟩ := zc4 BK264.out
           obtain ⟨hfz22_0, hfz22_1, hfz22_2, hfz22_3⟩ := zz4 BK264.out
           go_wp2
           go_ret
           exact ⟨by first | rfl | (simp [errW_none, errW_some] <;> rfl) | (simp [*, errW_none, errW_some] <;> rfl), by exact zh1_ HB.out GE264.out⟩
          ·rw [if_neg c21] at H
           obtain ⟨c21b0, c21b1⟩ := zq0 c21
           obtain rfl := Option.some.inj H
           obtain ⟨hcz23_0, hcz23_1, hcz23_2, hcz23_3⟩ := zc4 BK264.out
           obtain ⟨hfz23_0, hfz23_1, hfz23_2, hfz23_3⟩ := zz4 BK264.out
           go_wp2
           go_ret
           exact ⟨by first | rfl | (simp [errW_none, errW_some] <;> rfl) | (simp [*, errW_none, errW_some] <;> rfl), by exact zh1_ HB.out GE264.out⟩
         ·rw [if_neg c20] at H
          have c20b0 : decide (0 < (l0_1.length : Int)) = false := decide_eq_false c20
          have c20b1 : decide (0 < l0_1.length) = false := decide_eq_false (by omega)
          clear c20
          obtain rfl := Option.some.inj H
          obtain ⟨hcz24_0, hcz24_1, hcz24_2, hcz24_3⟩ := zc4 BK264.out
          obtain ⟨hfz24_0, hfz24_1, hfz24_2, hfz24_3⟩ := zz4 BK264.out
          go_wp2
          go_ret
          exact ⟨by first | rfl | (simp [errW_none, errW_some] <;> rfl) | (simp [*, errW_none, errW_some] <;> rfl), by exact zh1_ HB.out GE264.out⟩
 ·replace c3 := Bool.eq_false_iff.mpr c3
  subst c3
  replace H := (if_neg (show ¬ (false = true) by decide)).symm.trans H
  obtain rfl := Option.some.inj H
  go_enter Try.func52, Try.ntmps52
  go_wp2_with (first | ((with_reducible refine gate_dst (N := 1) rfl ?_); (try (refine gate_guard (by rfl) ?_; dsimp only)); refine box_event ?hg (N := 1) ?hd (cs := #[.bool a0_0, .slice A0_1 l0_1.length c0_1, .slice A0_2 l0_2.length c0_2, .slice A0_3 l0_3.length c0_3]) (t := 26) ?hr ?_; (case hd => rfl); (case hg => rfl); (case hr => first | (go_simp; done) | (go_simp; rfl)); intro gb264 hg w25 hbox hb; have BK264 := Aside0.mk (hbox); have GW264 := Aside0.mk ((by rw [hg]; exact (below_size (zh0_ HB.out)) : w.heap.size ≤ gb264)); have GE264 := Aside0.mk ((by rw [hg]; exact (below_size (zh0_ HB.out)) : w.heap.size ≤ gb264)); replace HB := Aside0.mk (below_step (zh0_ HB.out) hb); clear hb hbox hg; obtain ⟨hcz26_0, hcz26_1, hcz26_2, hcz26_3⟩ := zc4 BK264.out; obtain ⟨hfz26_0, hfz26_1, hfz26_2, hfz26_3⟩ := zz4 BK264.out) | ((with_reducible refine gate_callee (f := 63) rfl ?_); refine goesL_ (some 9) rfl rfl Try.func63 (by kernel_rfl) rfl #[.slice A0_1 l0_1.length c0_1] rfl zl_ ?_; (with_reducible refine (ladingref06_rises.calls k _ _ l0_1 false _ ?side1 ?side2 A2.out).mono ?_); (case side1 => exact zc_ (Kd.C_below HR0_1.out HB.out)); (case side2 => exact HC0_1.out); rintro e w' ⟨rfl, ⟨nd, rfl⟩⟩; refine ⟨_, rfl, ?_⟩))
  go_ret
  exact ⟨by first | rfl | (simp [errW_none, errW_some] <;> rfl) | (simp [*, errW_none, errW_some] <;> rfl), by exact zh1_ HB.out GE264.out⟩
end Go.Proofs.Ytcbgichkeecgiaa.Print
namespace Go.Proofs.Ytcbgichkeecgiaa.Print
open Go.RowKit Go.Proofs.YtcbgichkeecgiaaW.PrintWords Go.Proofs.YtcbgichkeecgiaaW.PrintLast Go.Proofs.YtcbgichkeecgiaaW.PrintMore
attribute [local go_sem] max2_mx min2_mn max_two min_two max_three min_three max_four min_four
set_option linter.unusedVariables false
set_option linter.unusedSimpArgs false
def ladingref03_Num.l0 : Nat → Int → List Int → Option (List Int)
 | 0, _, _ => none
 | k + 1, x1, x5 => if x1 > 127 then (if x5.length < 140737488355328 then (ladingref03_Num.l0 k (IntKind.u64.wrap (Int.tdiv x1 128)) (x5 ++ [(IntKind.u64.wrap ((Int.tmod x1 128) + 128)) % 256])) else (none)) else (if x5.length < 140737488355328 then (some (x5 ++ [(x1) % 256])) else (none))
def ladingref03_Num.f (k : Nat) (l0 : List Int) (a1 : Int) : Option (List Int) := (some (([] : List Int) : List Int)).bind fun y268 => (if y268.length + l0.length < 140737488355328 then (ladingref03_Num.l0 k a1 (y268 ++ l0)) else (none))
theorem ladingref03_Num.mono_l : ∀ k, (∀ y0 y1, LeO (ladingref03_Num.l0 k y0 y1) (ladingref03_Num.l0 (k + 1) y0 y1))
 | 0 => fun _ _ r h => by simp [ladingref03_Num.l0] at h
 | k + 1 => by
  have ih0 := ladingref03_Num.mono_l k
  ·intro y0 y1
   unfold ladingref03_Num.l0
   repeat' first
   | (with_reducible exact ih0 _ _)
   | (with_reducible exact LeO.refl _)
   | (with_reducible exact LeO.none _)
   | (with_reducible refine LeO.ite ?_ ?_)
   | (with_reducible refine LeO.bind ?_ (fun _ => ?_))
   | exact ih0 _ _
   | exact LeO.none _
   | refine LeO.ite ?_ ?_
   | refine LeO.bind ?_ (fun _ => ?_)
theorem ladingref03_Num.mono : ∀ a0 a1 k, LeO (ladingref03_Num.f k a0 a1) (ladingref03_Num.f (k + 1) a0 a1) := by
 intro a0 a1 k
 have ih0 := ladingref03_Num.mono_l k
 unfold ladingref03_Num.f
 repeat' first
   | (with_reducible exact ih0 _ _)
   | (with_reducible exact LeO.refl _)
   | (with_reducible exact LeO.none _)
   | (with_reducible refine LeO.ite ?_ ?_)
   | (with_reducible refine LeO.bind ?_ (fun _ => ?_))
   | exact ih0 _ _
   | exact LeO.none _
   | refine LeO.ite ?_ ?_
   | refine LeO.bind ?_ (fun _ => ?_)
set_option maxHeartbeats 8000000 in
set_option maxRecDepth 100000 in
theorem ladingref03_Num.calls (k : Nat) (A0 : Option Addr) (c0 : Nat) (l0 : List Int) (a1 : Int) (r : List Int) (w : World) (hr0 : Kd.C (Kd.int .u8) w A0 l0.length l0) (hc0 : l0.length ≤ c0) (h : ladingref03_Num.f k l0 a1 = some r) :
  Calls Try.prog 64 #[.slice A0 l0.length c0, .int .u64 a1] w fun e w' => ∃ v0_ : Value, e = .returned (v0_) ∧ Kd.R (Kd.int .u8) 5 w' w.heap.size (fun _ => True) v0_ r ∧ Below w.heap.size w w' := by
 have HR0 := Aside0.mk hr0
 have HC0 := Aside0.mk hc0
 clear hr0 hc0
 have HB := Aside0.mk (Below.refl w.heap.size w)
 have H : ((some (([] : List Int) : List Int)).bind fun y268 => (if y268.length + l0.length < 140737488355328 then (ladingref03_Num.l0 k a1 (y268 ++ l0)) else (none))) = some r := h
 clear h
 obtain ⟨y268, hy268⟩ : ∃ y_ : List Int, y_ = (([] : List Int)) := ⟨_, rfl⟩
 replace H : (if y268.length + l0.length < 140737488355328 then (ladingref03_Num.l0 k a1 (y268 ++ l0)) else (none)) = some r := by first | (rw [hy268]; with_reducible exact H) | (have H2_ := (Option.bind_some _ _).symm.trans H; rw [hy268]; with_reducible exact H2_) | (have H2_ := (Option.bind_some _ _).symm.trans H; with_reducible exact H2_) | with_reducible exact H | (rw [hy268]; exact H) | exact H
 have Ny268 := Aside0.mk hy268
 clear hy268
 by_cases c3 : y268.length + l0.length < 140737488355328
 ·rw [if_pos c3] at H
  have LMc3 := Aside0.mk c3
  clear c3
  obtain ⟨y271, hy271⟩ : ∃ y_ : List Int, y_ = (y268 ++ l0) := ⟨_, rfl⟩
  replace H : (ladingref03_Num.l0 k a1 y271) = some r := by first | (rw [hy271]; with_reducible exact H) | (have H2_ := (Option.bind_some _ _).symm.trans H; rw [hy271]; with_reducible exact H2_) | (have H2_ := (Option.bind_some _ _).symm.trans H; with_reducible exact H2_) | with_reducible exact H | (rw [hy271]; exact H) | exact H
  have Ny271 := Aside0.mk hy271
  clear hy271
  have H' := Aside0.mk H
  clear H
  go_enter Try.func64, Try.ntmps64
  go_wp2_with (first | ((with_reducible refine gate_dst (N := 6) rfl ?_); refine Kd.R_lit (Kd.int .u8) _ 5 ?hg (N := 6) ?hd (xs := ([] : List Int)) (inner := []) (ok := fun _ => True) (okp := fun _ => True) ?hr ?hp (fun _ hk => hk) trivial (Below.refl _ _) (Nat.le_refl _) (by simp) ?_; (case hd => rfl); (case hg => rfl); (case hr => first | (go_simp; done) | (go_simp; rfl)); (case hp => exact (Reps.none _ _)); intro v269 w4 ho5 hb hg_ hnew_; clear hg_ hnew_; (first | rw [← Ny268.out] at ho5 | (simp only [Int.reduceToNat] at ho5; rw [← Ny268.out] at ho5)); have HO270 := Aside0.mk (Kd.R_lower ho5 (below_size (zh0_ HB.out))); replace HB := Aside0.mk (below_step (zh0_ HB.out) hb); clear hb ho5) | ((with_reducible refine gate_builtin (b := .append) (xs := #[.tmp 6, .tmp 7]) rfl ?_); at_builtin; refine Kd.R_append_rows (Kd.int .u8) (w0 := w) w.heap.size rfl (.tmp 6) (.tmp 7) 27 5 (.int .u8 0) 1 rfl Try.underlying27 info5 rfl (by decide) (by omega) v269 y268 l0 _ _ _ (fun _ => True) (fun _ => False) rfl rfl ?aO ?aR (fun _ _ h => h) (fun _ h => h.elim) ?aF ?aB ?aS ?aL ?_; (case aR => repeat (first | exact (Kd.C_below HR0.out HB.out) | (with_reducible refine Kd.C_alloc ?_ _) | (with_reducible refine Kd.C_drewN ?_ _) | (with_reducible refine Kd.C_drew ?_))); (case aB => exact (zh0_ HB.out)); (case aF => exact (fun _ _ => trivial)); (case aO => exact (zR_ HO270.out)); (case aS => exact (below_size (zh0_ HB.out))); (case aL => have := LMc3.out; omega); intro v272 w6 ho hb hg hat; rw [← Ny271.out] at ho; replace HB := Aside0.mk (hb); have HO273 := Aside0.mk (ho); clear HO270 ho hb hg hat))
  go_loopg [1, 5] k (fun kq v1 v5 w' => ∃ (x1_1 : Int) (x5_1 : List Int), v1 = .int .u64 x1_1 ∧ Aside0 (ladingref03_Num.l0 kq x1_1 x5_1 = some r) ∧ Aside0 (kq ≤ k) ∧ Aside0 (Kd.R (Kd.int .u8) 5 w' w.heap.size (fun _ => True) v5 x5_1) ∧ Aside0 (Below w.heap.size w w'))
  case atStart => exact ⟨(a1), (y271), (by first | rfl | (simp; done) | (simp [*]; done) | (simp only [i64_w]; done)), H', ⟨Nat.le_refl _⟩, ⟨by (with_reducible repeat (first | apply Kd.R_alloc | apply Kd.R_drewN | apply Kd.R_drew)); exact HO273.out⟩, ⟨by exact zh0_ HB.out⟩⟩
  case round =>
   clear H'
   try clear p2
   try clear c3
   try clear c6
   obtain ⟨x1_1, x5_1, rfl, HA, HK1, HO_5, HB⟩ := hrel
   cases gk with
   | zero => exact absurd HA.out (by simp [ladingref03_Num.l0])
   | succ k1 =>
    have H := HA.out
    clear HA
    simp only [ladingref03_Num.l0] at H
    by_cases c7 : x1_1 > 127
    ·rw [if_pos c7] at H
     have c7b0 : decide (127 < x1_1) = true := decide_eq_true c7
     clear c7
     by_cases c8 : x5_1.length < 140737488355328
     ·rw [if_pos c8] at H
      have LMc8 := Aside0.mk c8
      clear c8
      obtain ⟨y274, hy274⟩ : ∃ y_ : List Int, y_ = (x5_1 ++ [(IntKind.u64.wrap ((Int.tmod x1_1 128) + 128)) % 256]) := ⟨_, rfl⟩
      replace H : (ladingref03_Num.l0 k1 (IntKind.u64.wrap (Int.tdiv x1_1 128)) y274) = some r := by first | (rw [hy274]; with_reducible exact H) | (have H2_ := (Option.bind_some _ _).symm.trans H; rw [hy274]; with_reducible exact H2_) | (have H2_ := (Option.bind_some _ _).symm.trans H; with_reducible exact H2_) | with_reducible exact H | (rw [hy274]; exact H) | exact H
      have Ny274 := Aside0.mk hy274
      clear hy274
      have H' := Aside0.mk H
      clear H
      go_wp2_with (first | ((with_reducible refine gate_builtin (b := .append) (xs := #[.tmp 11, .tmp 16]) rfl ?_); at_builtin; refine Kd.R_append (Kd.int .u8) (w0 := w) w.heap.size rfl (.tmp 11) (.tmp 16) 27 5 (.int .u8 0) 1 rfl Try.underlying27 info5 rfl (by decide) (by omega) u5 x5_1 ((IntKind.u64.wrap ((Int.tmod x1_1 128) + 128)) % 256) [.int .u8 ((IntKind.u64.wrap ((Int.tmod x1_1 128) + 128)) % 256)] (fun _ => True) (fun _ => False) rfl rfl ?aP (fun _ hk => hk.elim) ?aF ?aO ?aB ?aS ?aL ?_; (case aP => exact rfl); (case aB => exact (zh0_ HB.out)); (case aF => exact (fun _ _ => trivial)); (case aO => exact (zR_ HO_5.out)); (case aS => exact (below_size (zh0_ HB.out))); (case aL => have := LMc8.out; omega); intro v275 w9 ho hb hg hat; rw [← Ny274.out] at ho; replace HB := Aside0.mk (hb); have HO276 := Aside0.mk (ho); clear HO_5 ho hb hg hat))
      go_roundg k1
      case measure => have := HK1.out; omega
      case rel => exact ⟨(IntKind.u64.wrap (Int.tdiv x1_1 128)), (y274), (by first | rfl | (simp; done) | (simp [*]; done) | (simp only [i64_w]; done)), H', ⟨by have := HK1.out; omega⟩, ⟨by (with_reducible repeat (first | apply Kd.R_alloc | apply Kd.R_drewN | apply Kd.R_drew)); exact HO276.out⟩, ⟨by exact zh0_ HB.out⟩⟩
     ·rw [if_neg c8] at H
      cases H
    ·rw [if_neg c7] at H
     have c7b0 : decide (127 < x1_1) = false := decide_eq_false c7
     clear c7
     by_cases c10 : x5_1.length < 140737488355328
     ·rw [if_pos c10] at H
      have LMc10 := Aside0.mk c10
      clear c10
      obtain ⟨y277, hy277⟩ : ∃ y_ : List Int, y_ = (x5_1 ++ [(x1_1) % 256]) := ⟨_, rfl⟩
      replace H : (some y277) = some r := by first | (rw [hy277]; with_reducible exact H) | (have H2_ := (Option.bind_some _ _).symm.trans H; rw [hy277]; with_reducible exact H2_) | (have H2_ := (Option.bind_some _ _).symm.trans H; with_reducible exact H2_) | with_reducible exact H | (rw [hy277]; exact H) | exact H
      have Ny277 := Aside0.mk hy277
      clear hy277
      obtain rfl := Option.some.inj H
      go_wp2_with (first | ((with_reducible refine gate_builtin (b := .append) (xs := #[.tmp 20, .tmp 23]) rfl ?_); at_builtin; refine Kd.R_append (Kd.int .u8) (w0 := w) w.heap.size rfl (.tmp 20) (.tmp 23) 27 5 (.int .u8 0) 1 rfl Try.underlying27 info5 rfl (by decide) (by omega) u5 x5_1 ((x1_1) % 256) [.int .u8 ((x1_1) % 256)] (fun _ => True) (fun _ => False) rfl rfl ?aP (fun _ hk => hk.elim) ?aF ?aO ?aB ?aS ?aL ?_; (case aP => exact rfl); (case aB => exact (zh0_ HB.out)); (case aF => exact (fun _ _ => trivial)); (case aO => exact (zR_ HO_5.out)); (case aS => exact (below_size (zh0_ HB.out))); (case aL => have := LMc10.out; omega); intro v278 w11 ho hb hg hat; rw [← Ny277.out] at ho; replace HB := Aside0.mk (hb); have HO279 := Aside0.mk (ho); clear HO_5 ho hb hg hat))
      go_ret
      exact ⟨_, by first | rfl | (simp [errW_none, errW_some] <;> rfl) | (simp [*, errW_none, errW_some] <;> rfl), by (with_reducible repeat (first | apply Kd.R_alloc | apply Kd.R_drewN | apply Kd.R_drew)); exact HO279.out, by exact zh0_ HB.out⟩
     ·rw [if_neg c10] at H
      cases H
 ·rw [if_neg c3] at H
  cases H
def ladingref03_Text.f (k : Nat) (l0 : List Int) (a1 : ByteArray) : Option (List Int) := (ladingref03_Num.f k l0 (IntKind.u64.wrap ((a1.size : Int)))).bind fun t280 => (if t280.length + a1.size < 140737488355328 then (some (t280 ++ bytesOf a1)) else (none))
theorem ladingref03_Text.mono : ∀ a0 a1 k, LeO (ladingref03_Text.f k a0 a1) (ladingref03_Text.f (k + 1) a0 a1) := by
 intro a0 a1 k
 unfold ladingref03_Text.f
 repeat' first
   | (with_reducible exact ladingref03_Num.mono _ _ _)
   | (with_reducible exact LeO.refl _)
   | (with_reducible exact LeO.none _)
   | (with_reducible refine LeO.ite ?_ ?_)
   | (with_reducible refine LeO.bind ?_ (fun _ => ?_))
   | exact ladingref03_Num.mono _ _ _
   | exact LeO.none _
   | refine LeO.ite ?_ ?_
   | refine LeO.bind ?_ (fun _ => ?_)
set_option maxHeartbeats 8000000 in
set_option maxRecDepth 100000 in
theorem ladingref03_Text.calls (k : Nat) (A0 : Option Addr) (c0 : Nat) (l0 : List Int) (a1 : ByteArray) (r : List Int) (w : World) (hr0 : Kd.C (Kd.int .u8) w A0 l0.length l0) (hc0 : l0.length ≤ c0) (h : ladingref03_Text.f k l0 a1 = some r) :
  Calls Try.prog 65 #[.slice A0 l0.length c0, .string a1] w fun e w' => ∃ v0_ : Value, e = .returned (v0_) ∧ Kd.R (Kd.int .u8) 5 w' w.heap.size (fun _ => True) v0_ r ∧ Below w.heap.size w w' := by
 have HR0 := Aside0.mk hr0
 have HC0 := Aside0.mk hc0
 clear hr0 hc0
 have HB := Aside0.mk (Below.refl w.heap.size w)
 have H : ((ladingref03_Num.f k l0 (IntKind.u64.wrap ((a1.size : Int)))).bind fun t280 => (if t280.length + a1.size < 140737488355328 then (some (t280 ++ bytesOf a1)) else (none))) = some r := h
 clear h
 obtain ⟨t280, A3, H⟩ := zm H
 (try dsimp only at H)
 by_cases c4 : t280.length + a1.size < 140737488355328
 ·rw [if_pos c4] at H
  have LMc4 := Aside0.mk c4
  clear c4
  obtain ⟨y283, hy283⟩ : ∃ y_ : List Int, y_ = (t280 ++ bytesOf a1) := ⟨_, rfl⟩
  replace H : (some y283) = some r := by first | (rw [hy283]; with_reducible exact H) | (have H2_ := (Option.bind_some _ _).symm.trans H; rw [hy283]; with_reducible exact H2_) | (have H2_ := (Option.bind_some _ _).symm.trans H; with_reducible exact H2_) | with_reducible exact H | (rw [hy283]; exact H) | exact H
  have Ny283 := Aside0.mk hy283
  clear hy283
  obtain rfl := Option.some.inj H
  go_enter Try.func65, Try.ntmps65
  go_wp2_with (first | ((with_reducible refine gate_callee (f := 64) rfl ?_); refine goesL_ (some 9) rfl rfl Try.func64 (by kernel_rfl) rfl #[.slice A0 l0.length c0, .int .u64 (IntKind.u64.wrap ((a1.size : Int)))] rfl zl_ ?_; (with_reducible refine (ladingref03_Num.calls k _ _ l0 (IntKind.u64.wrap ((a1.size : Int))) t280 _ ?side1 ?side2 A3.out).mono ?_); (case side1 => repeat (first | exact HR0.out | (with_reducible refine Kd.C_alloc ?_ _) | (with_reducible refine Kd.C_drewN ?_ _) | (with_reducible refine Kd.C_drew ?_))); (case side2 => exact HC0.out); rintro e w5 ⟨v281, rfl, ho0, hb⟩; refine ⟨_, rfl, ?_⟩; have HO282 := Aside0.mk (Kd.R_lower ho0 (below_size (zh0_ HB.out))); replace HB := Aside0.mk (below_step (zh0_ HB.out) hb); (try clear hb); (try clear ho0)) | (at_builtin; refine print_append_str (w0 := w) w.heap.size rfl (.tmp 9) _ 27 9 5 rfl Try.underlying27 Try.underlying9 info5 v281 t280 a1 rfl rfl ?aO ?aB ?aS ?aL ?_; (case aB => exact (zh0_ HB.out)); (case aO => exact (Kd.own_of_R (zR_ HO282.out))); (case aS => exact (below_size (zh0_ HB.out))); (case aL => have := LMc4.out; omega); intro v284 w6 ho0 hb hg; have ho := Kd.R_of_own (h1 := fun _ => rfl) (ok := fun _ => True) ho0 (fun _ _ => trivial); clear ho0; have hat := True.intro; rw [← Ny283.out] at ho; change Kd.R (Kd.int .u8) 5 w6 w.heap.size (fun _ => True) v284 y283 at ho; replace HB := Aside0.mk (hb); have HO285 := Aside0.mk (ho); clear HO282 ho hb hg hat))
  go_ret
  exact ⟨_, by first | rfl | (simp [errW_none, errW_some] <;> rfl) | (simp [*, errW_none, errW_some] <;> rfl), by (with_reducible repeat (first | apply Kd.R_alloc | apply Kd.R_drewN | apply Kd.R_drew)); exact HO285.out, by exact zh0_ HB.out⟩
 ·rw [if_neg c4] at H
  cases H
end Go.Proofs.Ytcbgichkeecgiaa.Print
