-- What the claim uses alone (wip/slim.py). Lean checks it.
import Derived.Test.YtaddmogfeijjcaaZAb
import Derived.Test.YtaddmogfeijjcaaZPrint0
namespace Go.Proofs.Ytaddmogfeijjcaa.Print
open Go.RowKit Go.Proofs.YtaddmogfeijjcaaW.PrintWords Go.Proofs.YtaddmogfeijjcaaW.PrintLast Go.Proofs.YtaddmogfeijjcaaW.PrintMore
attribute [local go_sem] max2_mx min2_mn max_two min_two max_three min_three max_four min_four
set_option linter.unusedVariables false
set_option linter.unusedSimpArgs false
def ladingref14_Copy.f (l0_0 : List (S31)) (l0_1 : List (S55)) : Option ((List (S31)) × (List (S55))) := (some (([] : List (S31)) : List (S31))).bind fun y207 => (if y207.length + l0_0.length < 4398046511104 then ((some (([] : List (S55)) : List (S55))).bind fun y213 => (if y213.length + l0_1.length < 5864062014805 then (some ((y207 ++ l0_0), (y213 ++ l0_1))) else (none))) else (none))
def ladingref14_Copy.T1 : Bool × List (List Nat × List Nat) := (true, [([], []), ([], []), ([1], [1]), ([0, 2], [0, 2]), ([], []), ([], []), ([5], [5]), ([4, 6, 3], [4, 6]), ([3, 7], [3, 7]), ([8, 7, 0, 1, 2, 3, 4, 5, 6, 7, 8], [8])])
def ladingref14_Copy.B1 : List Nat := [0, 0, 2, 7, 0, 0, 32, 127, 255, 511]
theorem ladingref14_Copy.tab1 : rtab .any (opsOf Try.f14 1) = ladingref14_Copy.T1 := by kernel_rfl
theorem ladingref14_Copy.bits1 : waitsOk ladingref14_Copy.T1.2 ladingref14_Copy.B1 = true := by kernel_rfl
set_option maxHeartbeats 8000000 in
set_option maxRecDepth 100000 in
theorem ladingref14_Copy.calls (A0_0 : Option Addr) (c0_0 : Nat) (l0_0 : List (S31)) (A0_1 : Option Addr) (c0_1 : Nat) (l0_1 : List (S55)) (r1 : List (S31)) (r2 : List (S55)) (w : World) (hr0_0 : Kd.C k31 w A0_0 l0_0.length l0_0) (hc0_0 : l0_0.length ≤ c0_0) (hr0_1 : Kd.C k55 w A0_1 l0_1.length l0_1) (hc0_1 : l0_1.length ≤ c0_1) (h : ladingref14_Copy.f l0_0 l0_1 = some (r1, r2)) :
  Calls Try.prog 14 #[.agg #[.slice A0_0 l0_0.length c0_0, .slice A0_1 l0_1.length c0_1]] w fun e w' => ∃ v0_ v1_ : Value, e = .returned (.agg #[v0_, v1_]) ∧ Kd.R k31 31 w' w.heap.size (fun _ => True) v0_ r1 ∧ Kd.R k55 55 w' w.heap.size (fun _ => True) v1_ r2 ∧ Below w.heap.size w w' := by
 have hu25 := Try.underlying25
 have HR0_0 := Aside0.mk hr0_0
 have HC0_0 := Aside0.mk hc0_0
 clear hr0_0 hc0_0
 have HR0_1 := Aside0.mk hr0_1
 have HC0_1 := Aside0.mk hc0_1
 clear hr0_1 hc0_1
 have HB := Aside0.mk (Below.refl w.heap.size w)
 have H : ((some (([] : List (S31)) : List (S31))).bind fun y207 => (if y207.length + l0_0.length < 4398046511104 then ((some (([] : List (S55)) : List (S55))).bind fun y213 => (if y213.length + l0_1.length < 5864062014805 then (some ((y207 ++ l0_0), (y213 ++ l0_1))) else (none))) else (none))) = some (r1, r2) := h
 clear h
 obtain ⟨y207, hy207⟩ : ∃ y_ : List (S31), y_ = (([] : List (S31))) := ⟨_, rfl⟩
 replace H : (if y207.length + l0_0.length < 4398046511104 then ((some (([] : List (S55)) : List (S55))).bind fun y213 => (if y213.length + l0_1.length < 5864062014805 then (some ((y207 ++ l0_0), (y213 ++ l0_1))) else (none))) else (none)) = some (r1, r2) := by first | (rw [hy207]; with_reducible exact H) | (have H2_ := (Option.bind_some _ _).symm.trans H; rw [hy207]; with_reducible exact H2_) | (have H2_ := (Option.bind_some _ _).symm.trans H; with_reducible exact H2_) | with_reducible exact H | (rw [hy207]; exact H) | exact H
 have Ny207 := Aside0.mk hy207
 clear hy207
 by_cases c2 : y207.length + l0_0.length < 4398046511104
 ·rw [if_pos c2] at H
  have LMc2 := Aside0.mk c2
  clear c2
  obtain ⟨y210, hy210⟩ : ∃ y_ : List (S31), y_ = (y207 ++ l0_0) := ⟨_, rfl⟩
  replace H : ((some (([] : List (S55)) : List (S55))).bind fun y213 => (if y213.length + l0_1.length < 5864062014805 then (some (y210, (y213 ++ l0_1))) else (none))) = some (r1, r2) := by first | (rw [hy210]; with_reducible exact H) | (have H2_ := (Option.bind_some _ _).symm.trans H; rw [hy210]; with_reducible exact H2_) | (have H2_ := (Option.bind_some _ _).symm.trans H; with_reducible exact H2_) | with_reducible exact H | (rw [hy210]; exact H) | exact H
  have Ny210 := Aside0.mk hy210
  clear hy210
  obtain ⟨y213, hy213⟩ : ∃ y_ : List (S55), y_ = (([] : List (S55))) := ⟨_, rfl⟩
  replace H : (if y213.length + l0_1.length < 5864062014805 then (some (y210, (y213 ++ l0_1))) else (none)) = some (r1, r2) := by first | (rw [hy213]; with_reducible exact H) | (have H2_ := (Option.bind_some _ _).symm.trans H; rw [hy213]; with_reducible exact H2_) | (have H2_ := (Option.bind_some _ _).symm.trans H; with_reducible exact H2_) | with_reducible exact H | (rw [hy213]; exact H) | exact H
  have Ny213 := Aside0.mk hy213
  clear hy213
  by_cases c3 : y213.length + l0_1.length < 5864062014805
  ·rw [if_pos c3] at H
   have LMc3 := Aside0.mk c3
   clear c3
   obtain ⟨y216, hy216⟩ : ∃ y_ : List (S55), y_ = (y213 ++ l0_1) := ⟨_, rfl⟩
   replace H : (some (y210, y216)) = some (r1, r2) := by first | (rw [hy216]; with_reducible exact H) | (have H2_ := (Option.bind_some _ _).symm.trans H; rw [hy216]; with_reducible exact H2_) | (have H2_ := (Option.bind_some _ _).symm.trans H; with_reducible exact H2_) | with_reducible exact H | (rw [hy216]; exact H) | exact H
   have Ny216 := Aside0.mk hy216
   clear hy216
   simp only [Option.some.injEq, Prod.mk.injEq] at H
   obtain ⟨rfl, rfl⟩ := H
   go_enter Try.func14, Try.ntmps14
   try go_wp2_with (first | ((with_reducible refine gate_dst (N := 1) rfl ?_); refine box_event ?hg (N := 1) ?hd (cs := #[.slice A0_0 l0_0.length c0_0, .slice A0_1 l0_1.length c0_1]) (t := 25) ?hr ?_; (case hd => rfl); (case hg => rfl); (case hr => first | (go_simp; done) | (go_simp; rfl)); intro gb205 hg w4 hbox hb; have n0_ := Aside0.mk (below_step (zh0_ HB.out) hb); have n1_ := Aside0.mk (hbox); have n2_ := Aside0.mk ((by rw [hg]; exact (below_size (zh0_ HB.out)) : w.heap.size ≤ gb205)); have n3_ := Aside0.mk ((by rw [hg]; exact (below_size (zh0_ HB.out)) : w.heap.size ≤ gb205)); clear HB; have HB := n0_; have BK205 := n1_; have GW205 := n2_; have GE205 := n3_; clear n0_ n1_ n2_ n3_; clear hb hbox hg) | ((with_reducible refine gate_dst (N := 2) rfl ?_); refine box_event ?hg (N := 2) ?hd (cs := #[.slice none 0 0, .slice none 0 0]) (t := 25) ?hr ?_; (case hd => rfl); (case hg => rfl); (case hr => first | (go_simp; done) | (go_simp; rfl)); intro gb206 hg w5 hbox hb; have n0_ := Aside0.mk (blk_below (zb_ BK205.out) hb); have n1_ := Aside0.mk (below_step (zh1_ HB.out GE205.out) hb); have n2_ := Aside0.mk (hbox); have n3_ := Aside0.mk ((by rw [hg]; exact (below_size (zh1_ HB.out GE205.out)) : w.heap.size ≤ gb206)); have n4_ := Aside0.mk ((by rw [hg]; exact (below_size (zh1_ HB.out GE205.out)) : w.heap.size ≤ gb206)); have n5_ := Aside0.mk ((by rw [hg]; exact Nat.ne_of_lt (blk_lt (zb_ BK205.out)) : gb205 ≠ gb206)); have n6_ := Aside0.mk ((by rw [hg]; exact Nat.ne_of_gt (blk_lt (zb_ BK205.out)) : gb206 ≠ gb205)); clear BK205; clear HB; have BK205 := n0_; have HB := n1_; have BK206 := n2_; have GW206 := n3_; have GE206 := n4_; have NB205_206 := n5_; have NB206_205 := n6_; clear n0_ n1_ n2_ n3_ n4_ n5_ n6_; clear hb hbox hg))
   have n0_ := Aside0.mk (blk_drew BK205.out)
   have n1_ := Aside0.mk (blk_drew BK206.out)
   have n2_ := Aside0.mk (below_drew1 HB.out)
   clear BK205
   clear BK206
   clear HB
   have BK205 := n0_
   have BK206 := n1_
   have HB := n2_
   clear n0_ n1_ n2_
   refine start_ (n := 10) (S := fun w' => w'.cell? ⟨gb205, 0, none⟩ = some (.slice A0_0 l0_0.length c0_0) ∧ w'.cell? ⟨gb205, 1, none⟩ = some (.slice A0_1 l0_1.length c0_1)) (ds := []) (zB 0 10) (by kernel_rfl) rfl rfl ⟨(blk_cell BK205.out 0).trans rfl, (blk_cell BK205.out 1).trans rfl⟩ (fun hHeld => ?_); refine with_tabW ladingref14_Copy.tab1 ladingref14_Copy.bits1 (fun HT_ HW_ => ?_)
   generalize w5.drew = w6 at BK205 BK206 HB hHeld ⊢
   refine pure_ (i := 1) (N := some 4) (v := ?_) (a' := ?_) #[false, true, false, false, false, false, false, false, false, false] rfl rfl (any_of HT_.out (by kernel_rfl)) (fun _ _ _ h => h) (Or.inl ⟨by rfl, ?_⟩) ?_ ?_
   rotate_left
   ·intro w'
    go_simp
    with_reducible rfl
   rotate_left
   ·simp only [Act.put, zt0, zt1, zt2, i64_w, i32_w]
    rfl
   refine pure_ (i := 5) (N := some 8) (v := ?_) (a' := ?_) #[false, true, false, false, false, true, false, false, false, false] rfl rfl (any_of HT_.out (by kernel_rfl)) (fun _ _ _ h => h) (Or.inl ⟨by rfl, ?_⟩) ?_ ?_
   rotate_left
   ·intro w'
    go_simp
    with_reducible rfl
   rotate_left
   ·simp only [Act.put, zt0, zt1, zt2, i64_w, i32_w]
    rfl
   refine take_ (i := 2) (N := some 5) (v := ?_) (a' := ?_) #[false, true, true, false, false, true, false, false, false, false] rfl rfl (take_ofW HT_.out HW_.out (by kernel_rfl)) (fun _ _ _ h => h) (Or.inl ⟨by rfl, ?_⟩) hHeld ?_ ?_
   rotate_left
   ·rintro w' ⟨s0, s1⟩
    go_simp
    with_reducible rfl
   rotate_left
   ·simp only [Act.put, zt0, zt1, zt2, i64_w, i32_w]
    rfl
   refine take_ (i := 6) (N := some 9) (v := ?_) (a' := ?_) #[false, true, true, false, false, true, true, false, false, false] rfl rfl (take_ofW HT_.out HW_.out (by kernel_rfl)) (fun _ _ _ h => h) (Or.inl ⟨by rfl, ?_⟩) hHeld ?_ ?_
   rotate_left
   ·rintro w' ⟨s0, s1⟩
    go_simp
    with_reducible rfl
   rotate_left
   ·simp only [Act.put, zt0, zt1, zt2, i64_w, i32_w]
    rfl
   refine join_ (σ := Value × Value × Value) 3 (zB 7 3) (fun s_ => [(3, s_.1), (6, s_.2.1), (7, s_.2.2)]) (fun s_ w' => (w'.cell? ⟨gb205, 0, none⟩ = some (.slice A0_0 l0_0.length c0_0) ∧ w'.cell? ⟨gb205, 1, none⟩ = some (.slice A0_1 l0_1.length c0_1)) ∧ (Kd.R k31 31 w' w.heap.size (fun _ => True) s_.2.1 y210) ∧ (Kd.R k55 55 w' w.heap.size (fun _ => True) s_.2.2 y213) ∧ (w'.heap[gb205]? = some (.cells #[.slice A0_0 l0_0.length c0_0, .slice A0_1 l0_1.length c0_1] 25 (0, 0))) ∧ (w'.heap[gb206]? = some (.cells #[.slice none 0 0, .slice none 0 0] 25 (0, 0))) ∧ (Below w.heap.size w w')) ?_ ?_
   rotate_left
   ·intro hCont
    refine two_ (i := 0) (j := 4) (Ni := some 3) (Nj := some 7) #[true, true, true, false, false, true, true, false, false, false] #[false, true, true, false, true, true, true, false, false, false] rfl rfl rfl rfl (two_of HT_.out (by kernel_rfl)) (by decide) (by decide) (fun K hK => ?_) (fun K hK => ?_)
    ·skip
     refine Kd.R_lit_step k31 _ 31 ?hg (N := 3) ?hd (xs := ([] : List (S31))) (inner := []) (ok := fun _ => True) (okp := fun _ => True) ?hr ?hp (fun _ hk => hk) trivial (Below.refl _ _) (Nat.le_refl _) (by simp) ?_; (case hd => rfl); (case hg => rfl); (case hr => first | (go_simp; done) | (go_simp; rfl)); (case hp => exact (Reps.none _ _))
     intro v208 w7 ho8 hb hg_ hnew_
     clear hg_ hnew_
     (first | rw [← Ny207.out] at ho8 | (simp only [Int.reduceToNat] at ho8; rw [← Ny207.out] at ho8))
     have n0_ := Aside0.mk (Kd.R_lower ho8 (below_size (zh2_ HB.out GE205.out GE206.out)))
     have n1_ := Aside0.mk (blk_below (zb_ BK205.out) hb)
     have n2_ := Aside0.mk (blk_below (zb_ BK206.out) hb)
     have n3_ := Aside0.mk (below_step (zh2_ HB.out GE205.out GE206.out) hb)
     clear BK205
     clear BK206
     clear HB
     have HO209 := n0_
     have BK205 := n1_
     have BK206 := n2_
     have HB := n3_
     clear n0_ n1_ n2_ n3_
     clear hb ho8
     refine hK.out _ _ ⟨(blk_cell BK205.out 0).trans rfl, (blk_cell BK205.out 1).trans rfl⟩ (fun hHeld => ?_)
     clear hK K
     refine norm_ (a' := ?_) ?_ ?_
     rotate_left
     ·show Act.put _ (some 3) _ = _
      simp only [Act.put, zt0, zt1, zt2, i64_w, i32_w]
      rfl
     refine two_ (i := 3) (j := 4) (Ni := some 6) (Nj := some 7) #[true, true, true, true, false, true, true, false, false, false] #[true, true, true, false, true, true, true, false, false, false] rfl rfl rfl rfl (two_of HT_.out (by kernel_rfl)) (by decide) (by decide) (fun K hK => ?_) (fun K hK => ?_)
     ·skip
      refine Kd.R_append_rows_step k31 (w0 := w) w.heap.size (by rfl) (.tmp 3) (.tmp 5) 22 31 (.agg #[(.int .i64 0), (.int .i64 0), (.int .i64 0), (.int .i64 0)]) 32 rfl Try.underlying22 info31 rfl (by decide) (by omega) v208 y207 l0_0 _ _ _ (fun _ => True) (fun _ => False) rfl rfl ?aO ?aR (fun _ _ h => h) (fun _ h => h.elim) ?aF ?aB ?aS ?aL ?_
      (case aR => repeat (first | exact (Kd.C_below HR0_0.out HB.out) | (with_reducible refine Kd.C_alloc ?_ _) | (with_reducible refine Kd.C_drewN ?_ _) | (with_reducible refine Kd.C_drew ?_)))
      (case aB => exact (zh2_ HB.out GE205.out GE206.out))
      (case aF => exact (fun _ _ => trivial))
      (case aO => exact (zR_ HO209.out))
      (case aS => exact (below_size (zh2_ HB.out GE205.out GE206.out)))
      (case aL => have := LMc2.out; omega)
      intro v211 w9 ho hb hg hat
      rw [← Ny210.out] at ho
      have n0_ := Aside0.mk (blk_grown (zb_ BK205.out) hg (Kd.R_ne HO209.out BK205.out (by decide)))
      have n1_ := Aside0.mk (blk_grown (zb_ BK206.out) hg (Kd.R_ne HO209.out BK206.out (by decide)))
      have n2_ := Aside0.mk (hb)
      have n3_ := Aside0.mk (ho)
      clear BK205
      clear BK206
      clear HB
      clear HO209
      have BK205 := n0_
      have BK206 := n1_
      have HB := n2_
      have HO212 := n3_
      clear n0_ n1_ n2_ n3_
      clear ho hb hg hat
      refine hK.out _ _ ⟨(blk_cell BK205.out 0).trans rfl, (blk_cell BK205.out 1).trans rfl⟩ (fun hHeld => ?_)
      clear hK K
      refine norm_ (a' := ?_) ?_ ?_
      rotate_left
      ·show Act.put _ (some 6) _ = _
       simp only [Act.put, zt0, zt1, zt2, i64_w, i32_w]
       rfl
      refine one_ (i := 4) (N := some 7) (zB 7 3) rfl rfl (one_of HT_.out (by kernel_rfl)) (by decide) (fun K hK => ?_)
      refine Kd.R_lit_step k55 _ 55 ?hg (N := 7) ?hd (xs := ([] : List (S55))) (inner := []) (ok := fun _ => True) (okp := fun _ => True) ?hr ?hp (fun _ hk => hk) trivial (Below.refl _ _) (Nat.le_refl _) (by simp) ?_; (case hd => rfl); (case hg => rfl); (case hr => first | (go_simp; done) | (go_simp; rfl)); (case hp => exact (Reps.none _ _))
      intro v214 w10 ho11 hb hg_ hnew_
      clear hg_ hnew_
      (first | rw [← Ny213.out] at ho11 | (simp only [Int.reduceToNat] at ho11; rw [← Ny213.out] at ho11))
      have n0_ := Aside0.mk (Kd.R_below (zR_ HO212.out) hb)
      have n1_ := Aside0.mk (Kd.R_lower ho11 (below_size (zh2_ HB.out GE205.out GE206.out)))
      have n2_ := Aside0.mk (blk_below (zb_ BK205.out) hb)
      have n3_ := Aside0.mk (blk_below (zb_ BK206.out) hb)
      have n4_ := Aside0.mk (below_step (zh2_ HB.out GE205.out GE206.out) hb)
      clear HO212
      clear BK205
      clear BK206
      clear HB
      have HO212 := n0_
      have HO215 := n1_
      have BK205 := n2_
      have BK206 := n3_
      have HB := n4_
      clear n0_ n1_ n2_ n3_ n4_
      clear hb ho11
      refine hK.out _ _ ⟨(blk_cell BK205.out 0).trans rfl, (blk_cell BK205.out 1).trans rfl⟩ (fun hHeld => ?_)
      clear hK K
      refine norm_ (a' := ?_) ?_ ?_
      rotate_left
      ·show Act.put _ (some 7) _ = _
       simp only [Act.put, zt0, zt1, zt2, i64_w, i32_w]
       rfl
      exact norm_ (by simp only [putAll, Act.put, zt0, zt1, zt2]) (hCont (v208, v211, v214) _ ⟨hHeld, (zR_ HO212.out), (zR_ HO215.out), (zb_ BK205.out), (zb_ BK206.out), (zh2_ HB.out GE205.out GE206.out)⟩)
     ·skip
      refine Kd.R_lit_step k55 _ 55 ?hg (N := 7) ?hd (xs := ([] : List (S55))) (inner := []) (ok := fun _ => True) (okp := fun _ => True) ?hr ?hp (fun _ hk => hk) trivial (Below.refl _ _) (Nat.le_refl _) (by simp) ?_; (case hd => rfl); (case hg => rfl); (case hr => first | (go_simp; done) | (go_simp; rfl)); (case hp => exact (Reps.none _ _))
      intro v214 w9 ho10 hb hg_ hnew_
      clear hg_ hnew_
      (first | rw [← Ny213.out] at ho10 | (simp only [Int.reduceToNat] at ho10; rw [← Ny213.out] at ho10))
      have n0_ := Aside0.mk (Kd.R_below (zR_ HO209.out) hb)
      have n1_ := Aside0.mk (Kd.R_lower ho10 (below_size (zh2_ HB.out GE205.out GE206.out)))
      have n2_ := Aside0.mk (blk_below (zb_ BK205.out) hb)
      have n3_ := Aside0.mk (blk_below (zb_ BK206.out) hb)
      have n4_ := Aside0.mk (below_step (zh2_ HB.out GE205.out GE206.out) hb)
      clear HO209
      clear BK205
      clear BK206
      clear HB
      have HO209 := n0_
      have HO215 := n1_
      have BK205 := n2_
      have BK206 := n3_
      have HB := n4_
      clear n0_ n1_ n2_ n3_ n4_
      clear hb ho10
      refine hK.out _ _ ⟨(blk_cell BK205.out 0).trans rfl, (blk_cell BK205.out 1).trans rfl⟩ (fun hHeld => ?_)
      clear hK K
      refine norm_ (a' := ?_) ?_ ?_
      rotate_left
      ·show Act.put _ (some 7) _ = _
       simp only [Act.put, zt0, zt1, zt2, i64_w, i32_w]
       rfl
      refine one_ (i := 3) (N := some 6) (zB 7 3) rfl rfl (one_of HT_.out (by kernel_rfl)) (by decide) (fun K hK => ?_)
      refine Kd.R_append_rows_step k31 (w0 := w) w.heap.size (by rfl) (.tmp 3) (.tmp 5) 22 31 (.agg #[(.int .i64 0), (.int .i64 0), (.int .i64 0), (.int .i64 0)]) 32 rfl Try.underlying22 info31 rfl (by decide) (by omega) v208 y207 l0_0 _ _ _ (fun _ => True) (fun _ => False) rfl rfl ?aO ?aR (fun _ _ h => h) (fun _ h => h.elim) ?aF ?aB ?aS ?aL ?_
      (case aR => repeat (first | exact (Kd.C_below HR0_0.out HB.out) | (with_reducible refine Kd.C_alloc ?_ _) | (with_reducible refine Kd.C_drewN ?_ _) | (with_reducible refine Kd.C_drew ?_)))
      (case aB => exact (zh2_ HB.out GE205.out GE206.out))
      (case aF => exact (fun _ _ => trivial))
      (case aO => exact (zR_ HO209.out))
      (case aS => exact (below_size (zh2_ HB.out GE205.out GE206.out)))
      (case aL => have := LMc2.out; omega)
      intro v211 w11 ho hb hg hat
      rw [← Ny210.out] at ho
      have n0_ := Aside0.mk (blk_grown (zb_ BK205.out) hg (Kd.R_ne HO209.out BK205.out (by decide)))
      have n1_ := Aside0.mk (blk_grown (zb_ BK206.out) hg (Kd.R_ne HO209.out BK206.out (by decide)))
      have n2_ := Aside0.mk (Kd.R_over' (zR_ HO215.out) (Kd.R_typed (zR_ HO209.out)) (by decide) hg)
      have n3_ := Aside0.mk (hb)
      have n4_ := Aside0.mk (ho)
      clear BK205
      clear BK206
      clear HO215
      clear HB
      clear HO209
      have BK205 := n0_
      have BK206 := n1_
      have HO215 := n2_
      have HB := n3_
      have HO212 := n4_
      clear n0_ n1_ n2_ n3_ n4_
      clear ho hb hg hat
      refine hK.out _ _ ⟨(blk_cell BK205.out 0).trans rfl, (blk_cell BK205.out 1).trans rfl⟩ (fun hHeld => ?_)
      clear hK K
      refine norm_ (a' := ?_) ?_ ?_
      rotate_left
      ·show Act.put _ (some 6) _ = _
       simp only [Act.put, zt0, zt1, zt2, i64_w, i32_w]
       rfl
      exact norm_ (by simp only [putAll, Act.put, zt0, zt1, zt2]) (hCont (v208, v211, v214) _ ⟨hHeld, (zR_ HO212.out), (zR_ HO215.out), (zb_ BK205.out), (zb_ BK206.out), (zh2_ HB.out GE205.out GE206.out)⟩)
    ·skip
     refine Kd.R_lit_step k55 _ 55 ?hg (N := 7) ?hd (xs := ([] : List (S55))) (inner := []) (ok := fun _ => True) (okp := fun _ => True) ?hr ?hp (fun _ hk => hk) trivial (Below.refl _ _) (Nat.le_refl _) (by simp) ?_; (case hd => rfl); (case hg => rfl); (case hr => first | (go_simp; done) | (go_simp; rfl)); (case hp => exact (Reps.none _ _))
     intro v214 w7 ho8 hb hg_ hnew_
     clear hg_ hnew_
     (first | rw [← Ny213.out] at ho8 | (simp only [Int.reduceToNat] at ho8; rw [← Ny213.out] at ho8))
     have n0_ := Aside0.mk (Kd.R_lower ho8 (below_size (zh2_ HB.out GE205.out GE206.out)))
     have n1_ := Aside0.mk (blk_below (zb_ BK205.out) hb)
     have n2_ := Aside0.mk (blk_below (zb_ BK206.out) hb)
     have n3_ := Aside0.mk (below_step (zh2_ HB.out GE205.out GE206.out) hb)
     clear BK205
     clear BK206
     clear HB
     have HO215 := n0_
     have BK205 := n1_
     have BK206 := n2_
     have HB := n3_
     clear n0_ n1_ n2_ n3_
     clear hb ho8
     refine hK.out _ _ ⟨(blk_cell BK205.out 0).trans rfl, (blk_cell BK205.out 1).trans rfl⟩ (fun hHeld => ?_)
     clear hK K
     refine norm_ (a' := ?_) ?_ ?_
     rotate_left
     ·show Act.put _ (some 7) _ = _
      simp only [Act.put, zt0, zt1, zt2, i64_w, i32_w]
      rfl
     refine one_ (i := 0) (N := some 3) #[true, true, true, false, true, true, true, false, false, false] rfl rfl (one_of HT_.out (by kernel_rfl)) (by decide) (fun K hK => ?_)
     refine Kd.R_lit_step k31 _ 31 ?hg (N := 3) ?hd (xs := ([] : List (S31))) (inner := []) (ok := fun _ => True) (okp := fun _ => True) ?hr ?hp (fun _ hk => hk) trivial (Below.refl _ _) (Nat.le_refl _) (by simp) ?_; (case hd => rfl); (case hg => rfl); (case hr => first | (go_simp; done) | (go_simp; rfl)); (case hp => exact (Reps.none _ _))
     intro v208 w9 ho10 hb hg_ hnew_
     clear hg_ hnew_
     (first | rw [← Ny207.out] at ho10 | (simp only [Int.reduceToNat] at ho10; rw [← Ny207.out] at ho10))
     have n0_ := Aside0.mk (Kd.R_below (zR_ HO215.out) hb)
     have n1_ := Aside0.mk (Kd.R_lower ho10 (below_size (zh2_ HB.out GE205.out GE206.out)))
     have n2_ := Aside0.mk (blk_below (zb_ BK205.out) hb)
     have n3_ := Aside0.mk (blk_below (zb_ BK206.out) hb)
     have n4_ := Aside0.mk (below_step (zh2_ HB.out GE205.out GE206.out) hb)
     clear HO215
     clear BK205
     clear BK206
     clear HB
     have HO215 := n0_
     have HO209 := n1_
     have BK205 := n2_
     have BK206 := n3_
     have HB := n4_
     clear n0_ n1_ n2_ n3_ n4_
     clear hb ho10
     refine hK.out _ _ ⟨(blk_cell BK205.out 0).trans rfl, (blk_cell BK205.out 1).trans rfl⟩ (fun hHeld => ?_)
     clear hK K
     refine norm_ (a' := ?_) ?_ ?_
     rotate_left
     ·show Act.put _ (some 3) _ = _
      simp only [Act.put, zt0, zt1, zt2, i64_w, i32_w]
      rfl
     refine one_ (i := 3) (N := some 6) (zB 7 3) rfl rfl (one_of HT_.out (by kernel_rfl)) (by decide) (fun K hK => ?_)
     refine Kd.R_append_rows_step k31 (w0 := w) w.heap.size (by rfl) (.tmp 3) (.tmp 5) 22 31 (.agg #[(.int .i64 0), (.int .i64 0), (.int .i64 0), (.int .i64 0)]) 32 rfl Try.underlying22 info31 rfl (by decide) (by omega) v208 y207 l0_0 _ _ _ (fun _ => True) (fun _ => False) rfl rfl ?aO ?aR (fun _ _ h => h) (fun _ h => h.elim) ?aF ?aB ?aS ?aL ?_
     (case aR => repeat (first | exact (Kd.C_below HR0_0.out HB.out) | (with_reducible refine Kd.C_alloc ?_ _) | (with_reducible refine Kd.C_drewN ?_ _) | (with_reducible refine Kd.C_drew ?_)))
     (case aB => exact (zh2_ HB.out GE205.out GE206.out))
     (case aF => exact (fun _ _ => trivial))
     (case aO => exact (zR_ HO209.out))
     (case aS => exact (below_size (zh2_ HB.out GE205.out GE206.out)))
     (case aL => have := LMc2.out; omega)
     intro v211 w11 ho hb hg hat
     rw [← Ny210.out] at ho
     have n0_ := Aside0.mk (blk_grown (zb_ BK205.out) hg (Kd.R_ne HO209.out BK205.out (by decide)))
     have n1_ := Aside0.mk (blk_grown (zb_ BK206.out) hg (Kd.R_ne HO209.out BK206.out (by decide)))
     have n2_ := Aside0.mk (Kd.R_over' (zR_ HO215.out) (Kd.R_typed (zR_ HO209.out)) (by decide) hg)
     have n3_ := Aside0.mk (hb)
     have n4_ := Aside0.mk (ho)
     clear BK205
     clear BK206
     clear HO215
     clear HB
     clear HO209
     have BK205 := n0_
     have BK206 := n1_
     have HO215 := n2_
     have HB := n3_
     have HO212 := n4_
     clear n0_ n1_ n2_ n3_ n4_
     clear ho hb hg hat
     refine hK.out _ _ ⟨(blk_cell BK205.out 0).trans rfl, (blk_cell BK205.out 1).trans rfl⟩ (fun hHeld => ?_)
     clear hK K
     refine norm_ (a' := ?_) ?_ ?_
     rotate_left
     ·show Act.put _ (some 6) _ = _
      simp only [Act.put, zt0, zt1, zt2, i64_w, i32_w]
      rfl
     exact norm_ (by simp only [putAll, Act.put, zt0, zt1, zt2]) (hCont (v208, v211, v214) _ ⟨hHeld, (zR_ HO212.out), (zR_ HO215.out), (zb_ BK205.out), (zb_ BK206.out), (zh2_ HB.out GE205.out GE206.out)⟩)
   rintro ⟨v208, v211, v214⟩ w12 ⟨hS_, h0_, h1_, h2_, h3_, h4_⟩
   have n0_ : Aside0 (Kd.R k31 31 w12 w.heap.size (fun _ => True) v211 y210) := ⟨h0_⟩
   have n1_ : Aside0 (Kd.R k55 55 w12 w.heap.size (fun _ => True) v214 y213) := ⟨h1_⟩
   have n2_ : Aside0 (w12.heap[gb205]? = some (.cells #[.slice A0_0 l0_0.length c0_0, .slice A0_1 l0_1.length c0_1] 25 (0, 0))) := ⟨h2_⟩
   have n3_ : Aside0 (w12.heap[gb206]? = some (.cells #[.slice none 0 0, .slice none 0 0] 25 (0, 0))) := ⟨h3_⟩
   have n4_ : Aside0 (Below w.heap.size w w12) := ⟨h4_⟩
   clear BK205
   clear BK206
   clear HB
   clear h0_ h1_ h2_ h3_ h4_
   have HO212 := n0_
   have HO215 := n1_
   have BK205 := n2_
   have BK206 := n3_
   have HB := n4_
   clear n0_ n1_ n2_ n3_ n4_
   have hHeld : w12.cell? ⟨gb205, 0, none⟩ = some (.slice A0_0 l0_0.length c0_0) ∧ w12.cell? ⟨gb205, 1, none⟩ = some (.slice A0_1 l0_1.length c0_1) := hS_
   refine norm_ (a' := ?_) ?_ ?_
   rotate_left
   ·simp only [putAll, Act.put, zt0, zt1, zt2]
    rfl
   refine one_ (i := 7) (N := some 10) (zB 8 2) rfl rfl (one_of HT_.out (by kernel_rfl)) (by decide) (fun K hK => ?_)
   refine Kd.R_append_rows_step k55 (w0 := w) w.heap.size (by rfl) (.tmp 7) (.tmp 9) 23 55 (.agg #[(.int .i64 0), (.int .u8 0), (.int .u8 0), (.int .i64 0)]) 24 rfl Try.underlying23 info55 rfl (by decide) (by omega) v214 y213 l0_1 _ _ _ (fun _ => True) (fun _ => False) rfl rfl ?aO ?aR (fun _ _ h => h) (fun _ h => h.elim) ?aF ?aB ?aS ?aL ?_
   (case aR => repeat (first | exact (Kd.C_below HR0_1.out HB.out) | (with_reducible refine Kd.C_alloc ?_ _) | (with_reducible refine Kd.C_drewN ?_ _) | (with_reducible refine Kd.C_drew ?_)))
   (case aB => exact (zh2_ HB.out GE205.out GE206.out))
   (case aF => exact (fun _ _ => trivial))
   (case aO => exact (zR_ HO215.out))
   (case aS => exact (below_size (zh2_ HB.out GE205.out GE206.out)))
   (case aL => have := LMc3.out; omega)
   intro v217 w13 ho hb hg hat
   rw [← Ny216.out] at ho
   have n0_ := Aside0.mk (blk_grown (zb_ BK205.out) hg (Kd.R_ne HO215.out BK205.out (by decide)))
   have n1_ := Aside0.mk (blk_grown (zb_ BK206.out) hg (Kd.R_ne HO215.out BK206.out (by decide)))
   have n2_ := Aside0.mk (Kd.R_over' (zR_ HO212.out) (Kd.R_typed (zR_ HO215.out)) (by decide) hg)
   have n3_ := Aside0.mk (hb)
   have n4_ := Aside0.mk (ho)
   clear BK205
   clear BK206
   clear HO212
   clear HB
   clear HO215
   have BK205 := n0_
   have BK206 := n1_
   have HO212 := n2_
   have HB := n3_
   have HO218 := n4_
   clear n0_ n1_ n2_ n3_ n4_
   clear ho hb hg hat
   obtain ⟨Ao14, co14, eo14⟩ := Kd.R_slice HO218.out
   (first | subst eo14 | (injection eo14 with f1_ f2_ f3_; have f4_ := f1_.symm; have f5_ := f3_.symm; clear f1_ f2_ f3_; subst f4_; subst f5_))
   obtain ⟨Ao15, co15, eo15⟩ := Kd.R_slice HO212.out
   (first | subst eo15 | (injection eo15 with f1_ f2_ f3_; have f4_ := f1_.symm; have f5_ := f3_.symm; clear f1_ f2_ f3_; subst f4_; subst f5_))
   refine hK.out _ _ ⟨(blk_cell BK205.out 0).trans rfl, (blk_cell BK205.out 1).trans rfl⟩ (fun hHeld => ?_)
   clear hK K
   refine norm_ (a' := ?_) ?_ ?_
   rotate_left
   ·show Act.put _ (some 10) _ = _
    simp only [Act.put, zt0, zt1, zt2, i64_w, i32_w]
    rfl
   refine pure_ (i := 8) (N := some 11) (v := ?_) (a' := ?_) (zB 9 1) rfl rfl (any_of HT_.out (by kernel_rfl)) (fun _ _ _ h => h) (Or.inl ⟨by rfl, ?_⟩) ?_ ?_
   rotate_left
   ·intro w'
    go_simp
    with_reducible rfl
   rotate_left
   ·simp only [Act.put, zt0, zt1, zt2, i64_w, i32_w]
    rfl
   refine one_ (i := 9) (N := none) (zB 10 0) rfl rfl (one_of HT_.out (by kernel_rfl)) (by decide) (fun K hK => ?_)
   have hs16 : w13.cell? ⟨gb206, 0, none⟩ = some (.slice none 0 0) := (blk_cell BK206.out 0).trans rfl
   have hfs16 := blk_frozen BK206.out 0
   have hns16_0 := NB205_206.out
   have hms16_0 := NB206_205.out
   have hs17 : w13.cell? ⟨gb206, 1, none⟩ = some (.slice none 0 0) := (blk_cell BK206.out 1).trans rfl
   have hfs17 := blk_frozen BK206.out 1
   have hns17_0 := NB205_206.out
   have hms17_0 := NB206_205.out
   refine skip_ (w1 := ?_) (by rfl) rfl ?_ ?_
   rotate_left
   ·go_simp
    rfl
   refine hK.out _ _ ⟨((cell_far (p := ⟨gb206, _, none⟩) NB205_206.out _).trans (((cell_far (p := ⟨gb206, _, none⟩) NB205_206.out _).trans (hHeld.1)))), ((cell_far (p := ⟨gb206, _, none⟩) NB205_206.out _).trans (((cell_far (p := ⟨gb206, _, none⟩) NB205_206.out _).trans (hHeld.2))))⟩ (fun hHeld => ?_)
   clear hK K
   refine done_ (done_of HT_.out (by kernel_rfl)) ?_
   try go_wp2
   refine bodyPost_ret (results_cell_row rfl _ _ gb206 25 #[.slice Ao15 y210.length co15, .slice Ao14 y216.length co14] (0, 0) _ rfl (zp2_ BK206.out) Try.underlying25 rfl (by kernel_rfl)) rfl ?_
   exact ⟨_, _, by first | rfl | (simp [errW_none, errW_some] <;> rfl) | (simp [*, errW_none, errW_some] <;> rfl), by (with_reducible repeat (first | apply Kd.R_alloc | apply Kd.R_drewN | apply Kd.R_drew)); exact Kd.R_mono (Kd.R_far (p := ⟨gb206, 1, none⟩) (Kd.R_far (p := ⟨gb206, 0, none⟩) (Kd.R_types HO212.out BK206.out (by decide)) (fun _ hk => hk.2) (.slice Ao15 y210.length co15)) (fun _ hk => hk.2) (.slice Ao14 y216.length co14)) (fun _ hk => trivial), by (with_reducible repeat (first | apply Kd.R_alloc | apply Kd.R_drewN | apply Kd.R_drew)); exact Kd.R_mono (Kd.R_far (p := ⟨gb206, 1, none⟩) (Kd.R_far (p := ⟨gb206, 0, none⟩) (Kd.R_types HO218.out BK206.out (by decide)) (fun _ hk => hk.2) (.slice Ao15 y210.length co15)) (fun _ hk => hk.2) (.slice Ao14 y216.length co14)) (fun _ hk => trivial), by exact zh2_ HB.out GE205.out GE206.out⟩
  ·rw [if_neg c3] at H
   exact absurd H (by simp)
 ·rw [if_neg c2] at H
  exact absurd H (by simp)
end Go.Proofs.Ytaddmogfeijjcaa.Print
