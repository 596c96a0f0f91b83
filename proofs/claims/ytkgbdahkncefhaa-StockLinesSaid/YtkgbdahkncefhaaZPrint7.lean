-- A claim's text with what it uses alone (wip/slim.py, over what the kit's print and this session's tools wrote). Not trusted: Lean checks it.
import Derived.Test.YtkgbdahkncefhaaZPrint0
import Derived.Test.YtkgbdahkncefhaaZPrint3
import Derived.Test.YtkgbdahkncefhaaZPrint5
import Derived.Test.YtkgbdahkncefhaaZPrint6
namespace Go.Proofs.Ytkgbdahkncefhaa.Print
open Go.RowKit Go.Proofs.YtkgbdahkncefhaaW.PrintWords Go.Proofs.YtkgbdahkncefhaaW.PrintLast Go.Proofs.YtkgbdahkncefhaaW.PrintMore
attribute [local go_sem] max2_mx min2_mn max_two min_two max_three min_three max_four min_four
set_option linter.unusedVariables false
set_option linter.unusedSimpArgs false
def stock_place.f (k : Nat) (l0 : List (S33)) (a1 : Int) (a2 : Int) : Option (Int × Bool) := (api_Cell_39.f k l0 a1 a2 0 0 0 0 36).bind fun bt129 => (some (bt129.1, bt129.2))
theorem stock_place.mono : ∀ a0 a1 a2 k, LeO (stock_place.f k a0 a1 a2) (stock_place.f (k + 1) a0 a1 a2) := by
  intro a0 a1 a2 k
  unfold stock_place.f
  repeat' first
      | (with_reducible exact api_Cell_39.mono _ _ _ _ _ _ _ _ _)
      | (with_reducible exact LeO.refl _)
      | (with_reducible exact LeO.none _)
      | (with_reducible refine LeO.ite ?_ ?_)
      | (with_reducible refine LeO.bind ?_ (fun _ => ?_))
      | exact api_Cell_39.mono _ _ _ _ _ _ _ _ _
      | exact LeO.none _
      | refine LeO.ite ?_ ?_
      | refine LeO.bind ?_ (fun _ => ?_)
set_option maxHeartbeats 8000000 in
set_option maxRecDepth 100000 in
theorem stock_place.calls (k : Nat) (A0 : Option Addr) (c0 : Nat) (l0 : List (S33)) (a1 : Int) (a2 : Int) (r1 : Int) (r2 : Bool) (w : World) (hr0 : Kd.C k33 w A0 l0.length l0) (hc0 : l0.length ≤ c0) (h : stock_place.f k l0 a1 a2 = some (r1, r2)) :
    Calls Try.prog 34 #[.slice A0 l0.length c0, .int .i64 a1, .int .i64 a2] w fun e w' => e = .returned (.tuple #[.int .i64 r1, .bool r2]) ∧ Below w.heap.size w w' := by
  have hu33 := Try.underlying33
  have HR0 := Aside0.mk hr0
  have HC0 := Aside0.mk hc0
  clear hr0 hc0
  have HB := Aside0.mk (Below.refl w.heap.size w)
  have H : ((api_Cell_39.f k l0 a1 a2 0 0 0 0 36).bind fun bt129 => (some (bt129.1, bt129.2))) = some (r1, r2) := h
  clear h
  replace H := Option.bind_eq_some_iff.mp H
  obtain ⟨⟨t129, t130⟩, A40, H⟩ := H
  replace H : (some (t129, t130)) = some (r1, r2) := H
  have A4 := Aside0.mk A40
  clear A40
  simp only [Option.some.injEq, Prod.mk.injEq] at H
  obtain ⟨rfl, rfl⟩ := H
  go_enter Try.func34, Try.ntmps34
  go_wp2_with (first | ((with_reducible refine gate_callee (f := 39) rfl ?_); refine goesL_ (some 12) rfl rfl Try.func39 (by kernel_rfl) rfl #[.slice A0 l0.length c0, .agg #[.int .i64 a1, .int .i64 a2, .int .i64 0, .int .i64 0, .int .i64 0, .int .i64 0], encFn 36] rfl (by (try simp only [List.map_toArray, List.map_cons, List.map_nil]); first | done | rfl | (simp only [List.length_drop, List.length_take]; rfl)) ?_; (with_reducible refine (api_Cell_39.calls k _ _ l0 a1 a2 0 0 0 0 36 t129 t130 _ ?side1 ?side2 A4.out).mono ?_); (case side1 => repeat (first | exact HR0.out | (with_reducible refine Kd.C_alloc ?_ _) | (with_reducible refine Kd.C_drewN ?_ _) | (with_reducible refine Kd.C_drew ?_))); (case side2 => exact HC0.out); rintro e w5 ⟨rfl, hb⟩; refine ⟨_, rfl, ?_⟩; have n0_ := Aside0.mk (below_step (by repeat (first | (with_reducible first | exact HB.out | apply below_alloc | apply pw_below_drewN | apply below_drew1) | exact HB.out)) hb); clear HB; have HB := n0_; clear n0_; (try clear hb); (try clear hb2); (try clear hk); (try clear hi)))
  go_ret2
  exact ⟨by first | rfl | (simp [errW_none, errW_some] <;> rfl) | (simp [*, errW_none, errW_some] <;> rfl), by repeat (first | (with_reducible first | exact HB.out | apply below_alloc | apply pw_below_drewN | apply below_drew1) | exact HB.out)⟩
def stock_Cell.j0 : Nat → List (S33) → Int → Int → Bool → Option (Int × Int × Int × Int × Int × Int × Int)
  | 0, _, _, _, _ => none
  | k + 1, x0, x1, x2, x24 => if x24 = true then (some (0, 0, 0, 0, 0, 0, 2)) else ((stock_place.f k x0 x1 x2).bind fun bt135 => (if bt135.2 = true then (if 0 ≤ bt135.1 then (if bt135.1 < (x0.length : Int) then (some ((rd_T33 x0 bt135.1).f0, (rd_T33 x0 bt135.1).f1, (rd_T33 x0 bt135.1).f2, (rd_T33 x0 bt135.1).f3, (rd_T33 x0 bt135.1).f4, (rd_T33 x0 bt135.1).f5, 0)) else (none)) else (none)) else (some (x1, x2, 0, 0, 0, 0, 0))))
def stock_Cell.f (k : Nat) (l0 : List (S33)) (a1 : Int) (a2 : Int) : Option (Int × Int × Int × Int × Int × Int × Int) := (stock_Check.f k l0).bind fun t132 => (if t132 = 0 then ((stock_known.f a1).bind fun t133 => (if t133 = true then ((stock_known.f a2).bind fun t134 => (stock_Cell.j0 k l0 a1 a2 (!t134))) else (stock_Cell.j0 k l0 a1 a2 true))) else (some (0, 0, 0, 0, 0, 0, t132)))
theorem stock_Cell.mono_l : ∀ k, (∀ y0 y1 y2 y3, LeO (stock_Cell.j0 k y0 y1 y2 y3) (stock_Cell.j0 (k + 1) y0 y1 y2 y3))
  | 0 => fun _ _ _ _ r h => by simp [stock_Cell.j0] at h
  | k + 1 => by
    have ih0 := stock_Cell.mono_l k
    · intro y0 y1 y2 y3
      unfold stock_Cell.j0
      repeat' first
      | (with_reducible exact ih0 _ _ _ _)
      | (with_reducible exact stock_Check.mono _ _)
      | (with_reducible exact stock_place.mono _ _ _ _)
      | (with_reducible exact LeO.refl _)
      | (with_reducible exact LeO.none _)
      | (with_reducible refine LeO.ite ?_ ?_)
      | (with_reducible refine LeO.bind ?_ (fun _ => ?_))
      | exact ih0 _ _ _ _
      | exact stock_Check.mono _ _
      | exact stock_place.mono _ _ _ _
      | exact LeO.none _
      | refine LeO.ite ?_ ?_
      | refine LeO.bind ?_ (fun _ => ?_)
theorem stock_Cell.mono : ∀ a0 a1 a2 k, LeO (stock_Cell.f k a0 a1 a2) (stock_Cell.f (k + 1) a0 a1 a2) := by
  intro a0 a1 a2 k
  have ih0 := stock_Cell.mono_l k
  unfold stock_Cell.f
  repeat' first
      | (with_reducible exact ih0 _ _ _ _)
      | (with_reducible exact stock_Check.mono _ _)
      | (with_reducible exact stock_place.mono _ _ _ _)
      | (with_reducible exact LeO.refl _)
      | (with_reducible exact LeO.none _)
      | (with_reducible refine LeO.ite ?_ ?_)
      | (with_reducible refine LeO.bind ?_ (fun _ => ?_))
      | exact ih0 _ _ _ _
      | exact stock_Check.mono _ _
      | exact stock_place.mono _ _ _ _
      | exact LeO.none _
      | refine LeO.ite ?_ ?_
      | refine LeO.bind ?_ (fun _ => ?_)
set_option maxHeartbeats 8000000 in
set_option maxRecDepth 100000 in
theorem stock_Cell.calls (k : Nat) (A0 : Option Addr) (c0 : Nat) (l0 : List (S33)) (a1 : Int) (a2 : Int) (r1 : Int) (r2 : Int) (r3 : Int) (r4 : Int) (r5 : Int) (r6 : Int) (r7 : Int) (w : World) (hr0 : Kd.C k33 w A0 l0.length l0) (hc0 : l0.length ≤ c0) (h : stock_Cell.f k l0 a1 a2 = some (r1, r2, r3, r4, r5, r6, r7)) :
    Calls Try.prog 17 #[.slice A0 l0.length c0, .int .i64 a1, .int .i64 a2] w fun e w' => e = .returned (.tuple #[.agg #[.int .i64 r1, .int .i64 r2, .int .i64 r3, .int .i64 r4, .int .i64 r5, .int .i64 r6], .int .i64 r7]) ∧ Below w.heap.size w w' := by
  have hu33 := Try.underlying33
  have HR0 := Aside0.mk hr0
  have HC0 := Aside0.mk hc0
  clear hr0 hc0
  have HB := Aside0.mk (Below.refl w.heap.size w)
  have H : ((stock_Check.f k l0).bind fun t132 => (if t132 = 0 then ((stock_known.f a1).bind fun t133 => (if t133 = true then ((stock_known.f a2).bind fun t134 => (stock_Cell.j0 k l0 a1 a2 (!t134))) else (stock_Cell.j0 k l0 a1 a2 true))) else (some (0, 0, 0, 0, 0, 0, t132)))) = some (r1, r2, r3, r4, r5, r6, r7) := h
  clear h
  replace H := Option.bind_eq_some_iff.mp H
  obtain ⟨t132, A40, H⟩ := H
  replace H : (if t132 = 0 then ((stock_known.f a1).bind fun t133 => (if t133 = true then ((stock_known.f a2).bind fun t134 => (stock_Cell.j0 k l0 a1 a2 (!t134))) else (stock_Cell.j0 k l0 a1 a2 true))) else (some (0, 0, 0, 0, 0, 0, t132))) = some (r1, r2, r3, r4, r5, r6, r7) := H
  have A4 := Aside0.mk A40
  clear A40
  by_cases c5 : t132 = 0
  · rw [if_pos c5] at H
    have c5b0 : (t132 == 0) = true := beq_iff_eq.mpr c5
    have c5b1 : (t132 != 0) = false := bne_eq_false_iff_eq.mpr c5
    clear c5
    have HC6 := Aside0.mk H
    clear H
    go_enter Try.func17, Try.ntmps17
    go_upto_region 4 with (first | ((with_reducible refine gate_dst (N := 6) rfl ?_); refine box_event ?hg (N := 6) ?hd (cs := #[.int .i64 0, .int .i64 0, .int .i64 0, .int .i64 0, .int .i64 0, .int .i64 0]) (t := 33) ?hr ?_; (case hd => rfl); (case hg => rfl); (case hr => first | (go_simp; done) | (go_simp; rfl)); intro gb131 hg w7 hbox hb; have n0_ := Aside0.mk (below_step (by repeat (first | (with_reducible first | exact HB.out | apply below_alloc | apply pw_below_drewN | apply below_drew1) | exact HB.out)) hb); have n1_ := Aside0.mk (hbox); have n2_ := Aside0.mk ((by rw [hg]; exact (below_size (by repeat (first | (with_reducible first | exact HB.out | apply below_alloc | apply pw_below_drewN | apply below_drew1) | exact HB.out))) : w.heap.size ≤ gb131)); have n3_ := Aside0.mk ((by rw [hg]; exact (below_size (by repeat (first | (with_reducible first | exact HB.out | apply below_alloc | apply pw_below_drewN | apply below_drew1) | exact HB.out))) : w.heap.size ≤ gb131)); clear HB; have HB := n0_; have BK131 := n1_; have GW131 := n2_; have GE131 := n3_; clear n0_ n1_ n2_ n3_; clear hb hbox hg) | ((with_reducible refine gate_callee (f := 19) rfl ?_); refine goesL_ (some 12) rfl rfl Try.func19 (by kernel_rfl) rfl #[.slice A0 l0.length c0] rfl (by (try simp only [List.map_toArray, List.map_cons, List.map_nil]); first | done | rfl | (simp only [List.length_drop, List.length_take]; rfl)) ?_; (with_reducible refine (stock_Check.calls k _ _ l0 t132 _ ?side1 ?side2 A4.out).mono ?_); (case side1 => repeat (first | exact (Kd.C_below HR0.out HB.out) | (with_reducible refine Kd.C_alloc ?_ _) | (with_reducible refine Kd.C_drewN ?_ _) | (with_reducible refine Kd.C_drew ?_))); (case side2 => exact HC0.out); rintro e w8 ⟨rfl, hb⟩; refine ⟨_, rfl, ?_⟩; have n0_ := Aside0.mk (blk_below (g := gb131) (o := .cells #[.int .i64 0, .int .i64 0, .int .i64 0, .int .i64 0, .int .i64 0, .int .i64 0] 33 (0, 0)) (by (with_reducible repeat (first | refine blk_drewN ?_ _ | refine blk_drew ?_ | refine blk_alloc ?_ _)); exact BK131.out) hb); have n1_ := Aside0.mk (below_step (by repeat (first | (with_reducible first | exact HB.out | apply below_alloc | apply pw_below_drewN | apply below_drew1 | refine below_set ?_ GE131.out) | exact HB.out)) hb); clear BK131; clear HB; have BK131 := n0_; have HB := n1_; clear n0_ n1_; (try clear hb); (try clear hb2); (try clear hk); (try clear hi)))
    (try simp only [Act.put, List.setIfInBounds_toArray, List.set_cons_zero, List.set_cons_succ])
    go_cut [24] (fun v24 wc => ∃ (kq : Nat) (x24_5 : Bool), v24 = .bool x24_5 ∧ Aside0 (stock_Cell.j0 kq l0 a1 a2 x24_5 = some (r1, r2, r3, r4, r5, r6, r7)) ∧ Aside0 (kq ≤ k) ∧ Aside0 (wc.heap[gb131]? = some (.cells #[.int .i64 0, .int .i64 0, .int .i64 0, .int .i64 0, .int .i64 0, .int .i64 0] 33 (0, 0))) ∧ Aside0 (Below w.heap.size w wc))
    case first =>
      have H := HC6.out
      clear HC6
      replace H := Option.bind_eq_some_iff.mp H
      obtain ⟨t133, A90, H⟩ := H
      replace H : (if t133 = true then ((stock_known.f a2).bind fun t134 => (stock_Cell.j0 k l0 a1 a2 (!t134))) else (stock_Cell.j0 k l0 a1 a2 true)) = some (r1, r2, r3, r4, r5, r6, r7) := H
      have A9 := Aside0.mk A90
      clear A90
      by_cases c10 : t133 = true
      · subst c10
        have H1 : ((stock_known.f a2).bind fun t134 => (stock_Cell.j0 k l0 a1 a2 (!t134))) = some (r1, r2, r3, r4, r5, r6, r7) := by rw [if_pos rfl] at H; exact H
        clear H
        have H := H1
        clear H1
        replace H := Option.bind_eq_some_iff.mp H
        obtain ⟨t134, A110, H⟩ := H
        replace H : (stock_Cell.j0 k l0 a1 a2 (!t134)) = some (r1, r2, r3, r4, r5, r6, r7) := H
        have A11 := Aside0.mk A110
        clear A110
        have H' := Aside0.mk H
        clear H
        go_wp2_with (first | ((with_reducible refine gate_callee (f := 33) rfl ?_); refine goesL_ (some 18) rfl rfl Try.func33 (by kernel_rfl) rfl #[.int .i64 a1] rfl (by (try simp only [List.map_toArray, List.map_cons, List.map_nil]); first | done | rfl | (simp only [List.length_drop, List.length_take]; rfl)) ?_; (with_reducible refine (stock_known.calls a1 true _ A9.out).mono ?_); rintro e w' ⟨rfl, ⟨nd, rfl⟩⟩; refine ⟨_, rfl, ?_⟩) | (go_at_call 33; (with_reducible refine (stock_known.calls a2 t134 _ A11.out).mono ?_); rintro e w' ⟨rfl, ⟨nd, rfl⟩⟩))
        go_meet
        case rel => exact ⟨_, (!t134), (by first | rfl | (simp; done) | (simp [*]; done)), H', ⟨by first | omega | exact Nat.le_refl _⟩, ⟨by (with_reducible repeat (first | refine blk_drewN ?_ _ | refine blk_drew ?_ | refine blk_alloc ?_ _)); exact BK131.out⟩, ⟨by repeat (first | (with_reducible first | exact HB.out | apply below_alloc | apply pw_below_drewN | apply below_drew1 | refine below_set ?_ GE131.out) | exact HB.out)⟩⟩
      · replace c10 := Bool.eq_false_iff.mpr c10
        subst c10
        have H1 : (stock_Cell.j0 k l0 a1 a2 true) = some (r1, r2, r3, r4, r5, r6, r7) := by rw [if_neg (show ¬ (false = true) by decide)] at H; exact H
        clear H
        have H := H1
        clear H1
        have H' := Aside0.mk H
        clear H
        go_wp2_with (first | ((with_reducible refine gate_callee (f := 33) rfl ?_); refine goesL_ (some 18) rfl rfl Try.func33 (by kernel_rfl) rfl #[.int .i64 a1] rfl (by (try simp only [List.map_toArray, List.map_cons, List.map_nil]); first | done | rfl | (simp only [List.length_drop, List.length_take]; rfl)) ?_; (with_reducible refine (stock_known.calls a1 false _ A9.out).mono ?_); rintro e w' ⟨rfl, ⟨nd, rfl⟩⟩; refine ⟨_, rfl, ?_⟩))
        go_meet
        case rel => exact ⟨_, (true), (by first | rfl | (simp; done) | (simp [*]; done)), H', ⟨by first | omega | exact Nat.le_refl _⟩, ⟨by (with_reducible repeat (first | refine blk_drewN ?_ _ | refine blk_drew ?_ | refine blk_alloc ?_ _)); exact BK131.out⟩, ⟨by repeat (first | (with_reducible first | exact HB.out | apply below_alloc | apply pw_below_drewN | apply below_drew1 | refine below_set ?_ GE131.out) | exact HB.out)⟩⟩
    case rest =>
      clear HC6
      try clear c1
      try clear p2
      try clear c3
      try clear c5
      try clear c5b0
      try clear c5b1
      try clear c10
      obtain ⟨kq, x24_5, rfl, HA, HJ5, BK131, HB⟩ := hcut
      cases kq with
      | zero => exact absurd HA.out (by simp [stock_Cell.j0])
      | succ kj5 =>
        have H := HA.out
        clear HA
        simp only [stock_Cell.j0] at H
        by_cases c12 : x24_5 = true
        · subst c12
          have H1 : (some (0, 0, 0, 0, 0, 0, 2)) = some (r1, r2, r3, r4, r5, r6, r7) := by rw [if_pos rfl] at H; exact H
          clear H
          have H := H1
          clear H1
          simp only [Option.some.injEq, Prod.mk.injEq] at H
          obtain ⟨rfl, rfl, rfl, rfl, rfl, rfl, rfl⟩ := H
          have hcz13_0 : wc.cell? ⟨gb131, 0, none⟩ = some (.int .i64 0) := (blk_cell BK131.out 0).trans rfl
          have hcz13_1 : wc.cell? ⟨gb131, 1, none⟩ = some (.int .i64 0) := (blk_cell BK131.out 1).trans rfl
          have hcz13_2 : wc.cell? ⟨gb131, 2, none⟩ = some (.int .i64 0) := (blk_cell BK131.out 2).trans rfl
          have hcz13_3 : wc.cell? ⟨gb131, 3, none⟩ = some (.int .i64 0) := (blk_cell BK131.out 3).trans rfl
          have hcz13_4 : wc.cell? ⟨gb131, 4, none⟩ = some (.int .i64 0) := (blk_cell BK131.out 4).trans rfl
          have hcz13_5 : wc.cell? ⟨gb131, 5, none⟩ = some (.int .i64 0) := (blk_cell BK131.out 5).trans rfl
          have hfz13_0 := blk_frozen BK131.out 0
          have hfz13_1 := blk_frozen BK131.out 1
          have hfz13_2 := blk_frozen BK131.out 2
          have hfz13_3 := blk_frozen BK131.out 3
          have hfz13_4 := blk_frozen BK131.out 4
          have hfz13_5 := blk_frozen BK131.out 5
          go_wp2
          refine bodyPost_ret (results_ct rfl _ _ gb131 33 #[.int .i64 0, .int .i64 0, .int .i64 0, .int .i64 0, .int .i64 0, .int .i64 0] (0, 0) _ rfl (by (with_reducible repeat (first | refine blk_drewN ?_ _ | refine blk_drew ?_ | refine blk_alloc ?_ _)); refine blk_put (cs := #[.int .i64 0, .int .i64 0, .int .i64 0, .int .i64 0, .int .i64 0, .int .i64 0]) ?_ 5 _ rfl; (with_reducible repeat (first | refine blk_drewN ?_ _ | refine blk_drew ?_ | refine blk_alloc ?_ _)); refine blk_put (cs := #[.int .i64 0, .int .i64 0, .int .i64 0, .int .i64 0, .int .i64 0, .int .i64 0]) ?_ 4 _ rfl; (with_reducible repeat (first | refine blk_drewN ?_ _ | refine blk_drew ?_ | refine blk_alloc ?_ _)); refine blk_put (cs := #[.int .i64 0, .int .i64 0, .int .i64 0, .int .i64 0, .int .i64 0, .int .i64 0]) ?_ 3 _ rfl; (with_reducible repeat (first | refine blk_drewN ?_ _ | refine blk_drew ?_ | refine blk_alloc ?_ _)); refine blk_put (cs := #[.int .i64 0, .int .i64 0, .int .i64 0, .int .i64 0, .int .i64 0, .int .i64 0]) ?_ 2 _ rfl; (with_reducible repeat (first | refine blk_drewN ?_ _ | refine blk_drew ?_ | refine blk_alloc ?_ _)); refine blk_put (cs := #[.int .i64 0, .int .i64 0, .int .i64 0, .int .i64 0, .int .i64 0, .int .i64 0]) ?_ 1 _ rfl; (with_reducible repeat (first | refine blk_drewN ?_ _ | refine blk_drew ?_ | refine blk_alloc ?_ _)); refine blk_put (cs := #[.int .i64 0, .int .i64 0, .int .i64 0, .int .i64 0, .int .i64 0, .int .i64 0]) ?_ 0 _ rfl; (with_reducible repeat (first | refine blk_drewN ?_ _ | refine blk_drew ?_ | refine blk_alloc ?_ _)); exact BK131.out) Try.underlying33 rfl (by kernel_rfl)) rfl ?_
          exact ⟨by first | rfl | (simp [errW_none, errW_some] <;> rfl) | (simp [*, errW_none, errW_some] <;> rfl), by repeat (first | (with_reducible first | exact HB.out | apply below_alloc | apply pw_below_drewN | apply below_drew1 | refine below_set ?_ GE131.out) | exact HB.out)⟩
        · replace c12 := Bool.eq_false_iff.mpr c12
          subst c12
          have H1 : ((stock_place.f kj5 l0 a1 a2).bind fun bt135 => (if bt135.2 = true then (if 0 ≤ bt135.1 then (if bt135.1 < (l0.length : Int) then (some ((rd_T33 l0 bt135.1).f0, (rd_T33 l0 bt135.1).f1, (rd_T33 l0 bt135.1).f2, (rd_T33 l0 bt135.1).f3, (rd_T33 l0 bt135.1).f4, (rd_T33 l0 bt135.1).f5, 0)) else (none)) else (none)) else (some (a1, a2, 0, 0, 0, 0, 0)))) = some (r1, r2, r3, r4, r5, r6, r7) := by rw [if_neg (show ¬ (false = true) by decide)] at H; exact H
          clear H
          have H := H1
          clear H1
          replace H := Option.bind_eq_some_iff.mp H
          obtain ⟨⟨t135, t136⟩, A140, H⟩ := H
          replace H : (if t136 = true then (if 0 ≤ t135 then (if t135 < (l0.length : Int) then (some ((rd_T33 l0 t135).f0, (rd_T33 l0 t135).f1, (rd_T33 l0 t135).f2, (rd_T33 l0 t135).f3, (rd_T33 l0 t135).f4, (rd_T33 l0 t135).f5, 0)) else (none)) else (none)) else (some (a1, a2, 0, 0, 0, 0, 0))) = some (r1, r2, r3, r4, r5, r6, r7) := H
          have A14 := Aside0.mk A140
          clear A140
          by_cases c15 : t136 = true
          · subst c15
            have H1 : (if 0 ≤ t135 then (if t135 < (l0.length : Int) then (some ((rd_T33 l0 t135).f0, (rd_T33 l0 t135).f1, (rd_T33 l0 t135).f2, (rd_T33 l0 t135).f3, (rd_T33 l0 t135).f4, (rd_T33 l0 t135).f5, 0)) else (none)) else (none)) = some (r1, r2, r3, r4, r5, r6, r7) := by rw [if_pos rfl] at H; exact H
            clear H
            have H := H1
            clear H1
            by_cases c16 : 0 ≤ t135
            · rw [if_pos c16] at H
              have c16b0 : decide (0 ≤ t135) = true := decide_eq_true c16
              clear c16
              by_cases c17 : t135 < (l0.length : Int)
              · rw [if_pos c17] at H
                have c17b0 : decide (t135 < (l0.length : Int)) = true := decide_eq_true c17
                clear c17
                simp only [Option.some.injEq, Prod.mk.injEq] at H
                obtain ⟨rfl, rfl, rfl, rfl, rfl, rfl, rfl⟩ := H
                go_wp2_with (first | ((with_reducible refine gate_callee (f := 34) rfl ?_); refine goesL_ (some 30) rfl rfl Try.func34 (by kernel_rfl) rfl #[.slice A0 l0.length c0, .int .i64 a1, .int .i64 a2] rfl (by (try simp only [List.map_toArray, List.map_cons, List.map_nil]); first | done | rfl | (simp only [List.length_drop, List.length_take]; rfl)) ?_; (with_reducible refine (stock_place.calls kj5 _ _ l0 a1 a2 t135 true _ ?side1 ?side2 A14.out).mono ?_); (case side1 => repeat (first | exact (Kd.C_below HR0.out HB.out) | (with_reducible refine Kd.C_alloc ?_ _) | (with_reducible refine Kd.C_drewN ?_ _) | (with_reducible refine Kd.C_drew ?_))); (case side2 => exact HC0.out); rintro e w18 ⟨rfl, hb⟩; refine ⟨_, rfl, ?_⟩; have n0_ := Aside0.mk (blk_below (g := gb131) (o := .cells #[.int .i64 0, .int .i64 0, .int .i64 0, .int .i64 0, .int .i64 0, .int .i64 0] 33 (0, 0)) (by (with_reducible repeat (first | refine blk_drewN ?_ _ | refine blk_drew ?_ | refine blk_alloc ?_ _)); exact BK131.out) hb); have n1_ := Aside0.mk (below_step (by repeat (first | (with_reducible first | exact HB.out | apply below_alloc | apply pw_below_drewN | apply below_drew1 | refine below_set ?_ GE131.out) | exact HB.out)) hb); clear BK131; clear HB; have BK131 := n0_; have HB := n1_; clear n0_ n1_; (try clear hb); (try clear hb2); (try clear hk); (try clear hi); have p137 : 0 ≤ (t135 : Int) := of_decide_eq_true (by first | (with_reducible assumption) | assumption); have q137 : t135 < (l0.length : Int) := of_decide_eq_true (by first | (with_reducible assumption) | assumption); obtain ⟨ad137, e137, hx137_0, hx137_1, hx137_2, hx137_3, hx137_4, hx137_5⟩ := at_T33 HR0.out t135 p137 q137; cases e137; replace hx137_0 := (HB.out.cell (World.block_lt_of_cell? w _ hx137_0)).trans hx137_0; replace hx137_1 := (HB.out.cell (World.block_lt_of_cell? w _ hx137_1)).trans hx137_1; replace hx137_2 := (HB.out.cell (World.block_lt_of_cell? w _ hx137_2)).trans hx137_2; replace hx137_3 := (HB.out.cell (World.block_lt_of_cell? w _ hx137_3)).trans hx137_3; replace hx137_4 := (HB.out.cell (World.block_lt_of_cell? w _ hx137_4)).trans hx137_4; replace hx137_5 := (HB.out.cell (World.block_lt_of_cell? w _ hx137_5)).trans hx137_5; replace p137 := eq_true p137; replace q137 := eq_true q137; have hcz19_0 : w18.cell? ⟨gb131, 0, none⟩ = some (.int .i64 0) := (blk_cell BK131.out 0).trans rfl; have hcz19_1 : w18.cell? ⟨gb131, 1, none⟩ = some (.int .i64 0) := (blk_cell BK131.out 1).trans rfl; have hcz19_2 : w18.cell? ⟨gb131, 2, none⟩ = some (.int .i64 0) := (blk_cell BK131.out 2).trans rfl; have hcz19_3 : w18.cell? ⟨gb131, 3, none⟩ = some (.int .i64 0) := (blk_cell BK131.out 3).trans rfl; have hcz19_4 : w18.cell? ⟨gb131, 4, none⟩ = some (.int .i64 0) := (blk_cell BK131.out 4).trans rfl; have hcz19_5 : w18.cell? ⟨gb131, 5, none⟩ = some (.int .i64 0) := (blk_cell BK131.out 5).trans rfl; have hfz19_0 := blk_frozen BK131.out 0; have hfz19_1 := blk_frozen BK131.out 1; have hfz19_2 := blk_frozen BK131.out 2; have hfz19_3 := blk_frozen BK131.out 3; have hfz19_4 := blk_frozen BK131.out 4; have hfz19_5 := blk_frozen BK131.out 5))
                refine bodyPost_ret (results_ct rfl _ _ gb131 33 #[.int .i64 ((rd_T33 l0 t135).f0), .int .i64 ((rd_T33 l0 t135).f1), .int .i64 ((rd_T33 l0 t135).f2), .int .i64 ((rd_T33 l0 t135).f3), .int .i64 ((rd_T33 l0 t135).f4), .int .i64 ((rd_T33 l0 t135).f5)] (0, 0) _ rfl (by (with_reducible repeat (first | refine blk_drewN ?_ _ | refine blk_drew ?_ | refine blk_alloc ?_ _)); refine blk_put (cs := #[.int .i64 ((rd_T33 l0 t135).f0), .int .i64 ((rd_T33 l0 t135).f1), .int .i64 ((rd_T33 l0 t135).f2), .int .i64 ((rd_T33 l0 t135).f3), .int .i64 ((rd_T33 l0 t135).f4), .int .i64 0]) ?_ 5 _ rfl; (with_reducible repeat (first | refine blk_drewN ?_ _ | refine blk_drew ?_ | refine blk_alloc ?_ _)); refine blk_put (cs := #[.int .i64 ((rd_T33 l0 t135).f0), .int .i64 ((rd_T33 l0 t135).f1), .int .i64 ((rd_T33 l0 t135).f2), .int .i64 ((rd_T33 l0 t135).f3), .int .i64 0, .int .i64 0]) ?_ 4 _ rfl; (with_reducible repeat (first | refine blk_drewN ?_ _ | refine blk_drew ?_ | refine blk_alloc ?_ _)); refine blk_put (cs := #[.int .i64 ((rd_T33 l0 t135).f0), .int .i64 ((rd_T33 l0 t135).f1), .int .i64 ((rd_T33 l0 t135).f2), .int .i64 0, .int .i64 0, .int .i64 0]) ?_ 3 _ rfl; (with_reducible repeat (first | refine blk_drewN ?_ _ | refine blk_drew ?_ | refine blk_alloc ?_ _)); refine blk_put (cs := #[.int .i64 ((rd_T33 l0 t135).f0), .int .i64 ((rd_T33 l0 t135).f1), .int .i64 0, .int .i64 0, .int .i64 0, .int .i64 0]) ?_ 2 _ rfl; (with_reducible repeat (first | refine blk_drewN ?_ _ | refine blk_drew ?_ | refine blk_alloc ?_ _)); refine blk_put (cs := #[.int .i64 ((rd_T33 l0 t135).f0), .int .i64 0, .int .i64 0, .int .i64 0, .int .i64 0, .int .i64 0]) ?_ 1 _ rfl; (with_reducible repeat (first | refine blk_drewN ?_ _ | refine blk_drew ?_ | refine blk_alloc ?_ _)); refine blk_put (cs := #[.int .i64 0, .int .i64 0, .int .i64 0, .int .i64 0, .int .i64 0, .int .i64 0]) ?_ 0 _ rfl; (with_reducible repeat (first | refine blk_drewN ?_ _ | refine blk_drew ?_ | refine blk_alloc ?_ _)); exact BK131.out) Try.underlying33 rfl (by kernel_rfl)) rfl ?_
                exact ⟨by first | rfl | (simp [errW_none, errW_some] <;> rfl) | (simp [*, errW_none, errW_some] <;> rfl), by repeat (first | (with_reducible first | exact HB.out | apply below_alloc | apply pw_below_drewN | apply below_drew1 | refine below_set ?_ GE131.out) | exact HB.out)⟩
              · rw [if_neg c17] at H
                exact absurd H (by simp)
            · rw [if_neg c16] at H
              exact absurd H (by simp)
          · replace c15 := Bool.eq_false_iff.mpr c15
            subst c15
            have H1 : (some (a1, a2, 0, 0, 0, 0, 0)) = some (r1, r2, r3, r4, r5, r6, r7) := by rw [if_neg (show ¬ (false = true) by decide)] at H; exact H
            clear H
            have H := H1
            clear H1
            simp only [Option.some.injEq, Prod.mk.injEq] at H
            obtain ⟨rfl, rfl, rfl, rfl, rfl, rfl, rfl⟩ := H
            go_wp2_with (first | ((with_reducible refine gate_callee (f := 34) rfl ?_); refine goesL_ (some 30) rfl rfl Try.func34 (by kernel_rfl) rfl #[.slice A0 l0.length c0, .int .i64 a1, .int .i64 a2] rfl (by (try simp only [List.map_toArray, List.map_cons, List.map_nil]); first | done | rfl | (simp only [List.length_drop, List.length_take]; rfl)) ?_; (with_reducible refine (stock_place.calls kj5 _ _ l0 a1 a2 t135 false _ ?side1 ?side2 A14.out).mono ?_); (case side1 => repeat (first | exact (Kd.C_below HR0.out HB.out) | (with_reducible refine Kd.C_alloc ?_ _) | (with_reducible refine Kd.C_drewN ?_ _) | (with_reducible refine Kd.C_drew ?_))); (case side2 => exact HC0.out); rintro e w20 ⟨rfl, hb⟩; refine ⟨_, rfl, ?_⟩; have n0_ := Aside0.mk (blk_below (g := gb131) (o := .cells #[.int .i64 0, .int .i64 0, .int .i64 0, .int .i64 0, .int .i64 0, .int .i64 0] 33 (0, 0)) (by (with_reducible repeat (first | refine blk_drewN ?_ _ | refine blk_drew ?_ | refine blk_alloc ?_ _)); exact BK131.out) hb); have n1_ := Aside0.mk (below_step (by repeat (first | (with_reducible first | exact HB.out | apply below_alloc | apply pw_below_drewN | apply below_drew1 | refine below_set ?_ GE131.out) | exact HB.out)) hb); clear BK131; clear HB; have BK131 := n0_; have HB := n1_; clear n0_ n1_; (try clear hb); (try clear hb2); (try clear hk); (try clear hi); have hcz21_0 : w20.cell? ⟨gb131, 0, none⟩ = some (.int .i64 0) := (blk_cell BK131.out 0).trans rfl; have hcz21_1 : w20.cell? ⟨gb131, 1, none⟩ = some (.int .i64 0) := (blk_cell BK131.out 1).trans rfl; have hcz21_2 : w20.cell? ⟨gb131, 2, none⟩ = some (.int .i64 0) := (blk_cell BK131.out 2).trans rfl; have hcz21_3 : w20.cell? ⟨gb131, 3, none⟩ = some (.int .i64 0) := (blk_cell BK131.out 3).trans rfl; have hcz21_4 : w20.cell? ⟨gb131, 4, none⟩ = some (.int .i64 0) := (blk_cell BK131.out 4).trans rfl; have hcz21_5 : w20.cell? ⟨gb131, 5, none⟩ = some (.int .i64 0) := (blk_cell BK131.out 5).trans rfl; have hfz21_0 := blk_frozen BK131.out 0; have hfz21_1 := blk_frozen BK131.out 1; have hfz21_2 := blk_frozen BK131.out 2; have hfz21_3 := blk_frozen BK131.out 3; have hfz21_4 := blk_frozen BK131.out 4; have hfz21_5 := blk_frozen BK131.out 5))
            refine bodyPost_ret (results_ct rfl _ _ gb131 33 #[.int .i64 a1, .int .i64 a2, .int .i64 0, .int .i64 0, .int .i64 0, .int .i64 0] (0, 0) _ rfl (by (with_reducible repeat (first | refine blk_drewN ?_ _ | refine blk_drew ?_ | refine blk_alloc ?_ _)); refine blk_put (cs := #[.int .i64 a1, .int .i64 a2, .int .i64 0, .int .i64 0, .int .i64 0, .int .i64 0]) ?_ 5 _ rfl; (with_reducible repeat (first | refine blk_drewN ?_ _ | refine blk_drew ?_ | refine blk_alloc ?_ _)); refine blk_put (cs := #[.int .i64 a1, .int .i64 a2, .int .i64 0, .int .i64 0, .int .i64 0, .int .i64 0]) ?_ 4 _ rfl; (with_reducible repeat (first | refine blk_drewN ?_ _ | refine blk_drew ?_ | refine blk_alloc ?_ _)); refine blk_put (cs := #[.int .i64 a1, .int .i64 a2, .int .i64 0, .int .i64 0, .int .i64 0, .int .i64 0]) ?_ 3 _ rfl; (with_reducible repeat (first | refine blk_drewN ?_ _ | refine blk_drew ?_ | refine blk_alloc ?_ _)); refine blk_put (cs := #[.int .i64 a1, .int .i64 a2, .int .i64 0, .int .i64 0, .int .i64 0, .int .i64 0]) ?_ 2 _ rfl; (with_reducible repeat (first | refine blk_drewN ?_ _ | refine blk_drew ?_ | refine blk_alloc ?_ _)); refine blk_put (cs := #[.int .i64 a1, .int .i64 0, .int .i64 0, .int .i64 0, .int .i64 0, .int .i64 0]) ?_ 1 _ rfl; (with_reducible repeat (first | refine blk_drewN ?_ _ | refine blk_drew ?_ | refine blk_alloc ?_ _)); refine blk_put (cs := #[.int .i64 0, .int .i64 0, .int .i64 0, .int .i64 0, .int .i64 0, .int .i64 0]) ?_ 0 _ rfl; (with_reducible repeat (first | refine blk_drewN ?_ _ | refine blk_drew ?_ | refine blk_alloc ?_ _)); exact BK131.out) Try.underlying33 rfl (by kernel_rfl)) rfl ?_
            exact ⟨by first | rfl | (simp [errW_none, errW_some] <;> rfl) | (simp [*, errW_none, errW_some] <;> rfl), by repeat (first | (with_reducible first | exact HB.out | apply below_alloc | apply pw_below_drewN | apply below_drew1 | refine below_set ?_ GE131.out) | exact HB.out)⟩
  · rw [if_neg c5] at H
    have c5b0 : (t132 == 0) = false := beq_eq_false_iff_ne.mpr c5
    have c5b1 : (t132 != 0) = true := bne_iff_ne.mpr c5
    simp only [Option.some.injEq, Prod.mk.injEq] at H
    obtain ⟨rfl, rfl, rfl, rfl, rfl, rfl, rfl⟩ := H
    go_enter Try.func17, Try.ntmps17
    go_wp2_with (first | ((with_reducible refine gate_dst (N := 6) rfl ?_); refine box_event ?hg (N := 6) ?hd (cs := #[.int .i64 0, .int .i64 0, .int .i64 0, .int .i64 0, .int .i64 0, .int .i64 0]) (t := 33) ?hr ?_; (case hd => rfl); (case hg => rfl); (case hr => first | (go_simp; done) | (go_simp; rfl)); intro gb131 hg w22 hbox hb; have n0_ := Aside0.mk (below_step (by repeat (first | (with_reducible first | exact HB.out | apply below_alloc | apply pw_below_drewN | apply below_drew1) | exact HB.out)) hb); have n1_ := Aside0.mk (hbox); have n2_ := Aside0.mk ((by rw [hg]; exact (below_size (by repeat (first | (with_reducible first | exact HB.out | apply below_alloc | apply pw_below_drewN | apply below_drew1) | exact HB.out))) : w.heap.size ≤ gb131)); have n3_ := Aside0.mk ((by rw [hg]; exact (below_size (by repeat (first | (with_reducible first | exact HB.out | apply below_alloc | apply pw_below_drewN | apply below_drew1) | exact HB.out))) : w.heap.size ≤ gb131)); clear HB; have HB := n0_; have BK131 := n1_; have GW131 := n2_; have GE131 := n3_; clear n0_ n1_ n2_ n3_; clear hb hbox hg) | ((with_reducible refine gate_callee (f := 19) rfl ?_); refine goesL_ (some 12) rfl rfl Try.func19 (by kernel_rfl) rfl #[.slice A0 l0.length c0] rfl (by (try simp only [List.map_toArray, List.map_cons, List.map_nil]); first | done | rfl | (simp only [List.length_drop, List.length_take]; rfl)) ?_; (with_reducible refine (stock_Check.calls k _ _ l0 t132 _ ?side1 ?side2 A4.out).mono ?_); (case side1 => repeat (first | exact (Kd.C_below HR0.out HB.out) | (with_reducible refine Kd.C_alloc ?_ _) | (with_reducible refine Kd.C_drewN ?_ _) | (with_reducible refine Kd.C_drew ?_))); (case side2 => exact HC0.out); rintro e w23 ⟨rfl, hb⟩; refine ⟨_, rfl, ?_⟩; have n0_ := Aside0.mk (blk_below (g := gb131) (o := .cells #[.int .i64 0, .int .i64 0, .int .i64 0, .int .i64 0, .int .i64 0, .int .i64 0] 33 (0, 0)) (by (with_reducible repeat (first | refine blk_drewN ?_ _ | refine blk_drew ?_ | refine blk_alloc ?_ _)); exact BK131.out) hb); have n1_ := Aside0.mk (below_step (by repeat (first | (with_reducible first | exact HB.out | apply below_alloc | apply pw_below_drewN | apply below_drew1 | refine below_set ?_ GE131.out) | exact HB.out)) hb); clear BK131; clear HB; have BK131 := n0_; have HB := n1_; clear n0_ n1_; (try clear hb); (try clear hb2); (try clear hk); (try clear hi); have hcz24_0 : w23.cell? ⟨gb131, 0, none⟩ = some (.int .i64 0) := (blk_cell BK131.out 0).trans rfl; have hcz24_1 : w23.cell? ⟨gb131, 1, none⟩ = some (.int .i64 0) := (blk_cell BK131.out 1).trans rfl; have hcz24_2 : w23.cell? ⟨gb131, 2, none⟩ = some (.int .i64 0) := (blk_cell BK131.out 2).trans rfl; have hcz24_3 : w23.cell? ⟨gb131, 3, none⟩ = some (.int .i64 0) := (blk_cell BK131.out 3).trans rfl; have hcz24_4 : w23.cell? ⟨gb131, 4, none⟩ = some (.int .i64 0) := (blk_cell BK131.out 4).trans rfl; have hcz24_5 : w23.cell? ⟨gb131, 5, none⟩ = some (.int .i64 0) := (blk_cell BK131.out 5).trans rfl; have hfz24_0 := blk_frozen BK131.out 0; have hfz24_1 := blk_frozen BK131.out 1; have hfz24_2 := blk_frozen BK131.out 2; have hfz24_3 := blk_frozen BK131.out 3; have hfz24_4 := blk_frozen BK131.out 4; have hfz24_5 := blk_frozen BK131.out 5))
    refine bodyPost_ret (results_ct rfl _ _ gb131 33 #[.int .i64 0, .int .i64 0, .int .i64 0, .int .i64 0, .int .i64 0, .int .i64 0] (0, 0) _ rfl (by (with_reducible repeat (first | refine blk_drewN ?_ _ | refine blk_drew ?_ | refine blk_alloc ?_ _)); refine blk_put (cs := #[.int .i64 0, .int .i64 0, .int .i64 0, .int .i64 0, .int .i64 0, .int .i64 0]) ?_ 5 _ rfl; (with_reducible repeat (first | refine blk_drewN ?_ _ | refine blk_drew ?_ | refine blk_alloc ?_ _)); refine blk_put (cs := #[.int .i64 0, .int .i64 0, .int .i64 0, .int .i64 0, .int .i64 0, .int .i64 0]) ?_ 4 _ rfl; (with_reducible repeat (first | refine blk_drewN ?_ _ | refine blk_drew ?_ | refine blk_alloc ?_ _)); refine blk_put (cs := #[.int .i64 0, .int .i64 0, .int .i64 0, .int .i64 0, .int .i64 0, .int .i64 0]) ?_ 3 _ rfl; (with_reducible repeat (first | refine blk_drewN ?_ _ | refine blk_drew ?_ | refine blk_alloc ?_ _)); refine blk_put (cs := #[.int .i64 0, .int .i64 0, .int .i64 0, .int .i64 0, .int .i64 0, .int .i64 0]) ?_ 2 _ rfl; (with_reducible repeat (first | refine blk_drewN ?_ _ | refine blk_drew ?_ | refine blk_alloc ?_ _)); refine blk_put (cs := #[.int .i64 0, .int .i64 0, .int .i64 0, .int .i64 0, .int .i64 0, .int .i64 0]) ?_ 1 _ rfl; (with_reducible repeat (first | refine blk_drewN ?_ _ | refine blk_drew ?_ | refine blk_alloc ?_ _)); refine blk_put (cs := #[.int .i64 0, .int .i64 0, .int .i64 0, .int .i64 0, .int .i64 0, .int .i64 0]) ?_ 0 _ rfl; (with_reducible repeat (first | refine blk_drewN ?_ _ | refine blk_drew ?_ | refine blk_alloc ?_ _)); exact BK131.out) Try.underlying33 rfl (by kernel_rfl)) rfl ?_
    exact ⟨by first | rfl | (simp [errW_none, errW_some] <;> rfl) | (simp [*, errW_none, errW_some] <;> rfl), by repeat (first | (with_reducible first | exact HB.out | apply below_alloc | apply pw_below_drewN | apply below_drew1 | refine below_set ?_ GE131.out) | exact HB.out)⟩
set_option maxHeartbeats 4000000 in
set_option maxRecDepth 100000 in
theorem stock_TakeBack_1.cl_Restock (n f0 f1 f2 f3 f4 f5 : Int) (w : World) (g gc : Nat) (hg : w.heap[g]? = some (.cells #[.int .i64 f0, .int .i64 f1, .int .i64 f2, .int .i64 f3, .int .i64 f4, .int .i64 f5] 33 (0, 0))) (hc : w.heap[gc]? = some (.cells #[.int .i64 n] 2 (0, 0))) :
    Calls Try.prog 24 #[.pointer (some ⟨g, 0, none⟩), .pointer (some ⟨gc, 0, none⟩)] w fun e w' => e = .returned (.tuple #[]) ∧ w'.heap[g]? = some (.cells #[.int .i64 f0, .int .i64 f1, .int .i64 (wrap64 (f2 + n)), .int .i64 f3, .int .i64 f4, .int .i64 (wrap64 (f5 + n))] 33 (0, 0)) ∧ Below g w w' := by
  have hu := Try.underlying33
  have hne : gc ≠ g := by rintro rfl; rw [hg] at hc; injection hc with hc; injection hc with _ hc; simp at hc
  have c2 : w.cell? ⟨g, 2, none⟩ = some (.int .i64 f2) := (blk_cell hg 2).trans rfl
  have z2 : w.frozen? ⟨g, 2, none⟩ = false := blk_frozen hg 2
  have c3 : w.cell? ⟨g, 3, none⟩ = some (.int .i64 f3) := (blk_cell hg 3).trans rfl
  have z3 : w.frozen? ⟨g, 3, none⟩ = false := blk_frozen hg 3
  have c4 : w.cell? ⟨g, 4, none⟩ = some (.int .i64 f4) := (blk_cell hg 4).trans rfl
  have z4 : w.frozen? ⟨g, 4, none⟩ = false := blk_frozen hg 4
  have c5 : w.cell? ⟨g, 5, none⟩ = some (.int .i64 f5) := (blk_cell hg 5).trans rfl
  have z5 : w.frozen? ⟨g, 5, none⟩ = false := blk_frozen hg 5
  have cc : w.cell? ⟨gc, 0, none⟩ = some (.int .i64 n) := (blk_cell hc 0).trans rfl
  have HG := Aside0.mk hg
  clear hg hc
  go_enter Try.func24, Try.ntmps24
  go_wp2
  go_region
  all_goals go_end0
  all_goals exact ⟨rfl, by first | exact blk_drew (blk_put (blk_put HG.out 2 _ rfl) 5 _ rfl) | exact blk_drew (blk_put (blk_put HG.out 5 _ rfl) 2 _ rfl), (((Below.refl g w).setCell (Nat.le_refl _) _).setCell (Nat.le_refl _) _).drew⟩
set_option maxHeartbeats 4000000 in
set_option maxRecDepth 100000 in
theorem stock_TakeBack_1.cl_Reserve (n f0 f1 f2 f3 f4 f5 : Int) (w : World) (g gc : Nat) (hg : w.heap[g]? = some (.cells #[.int .i64 f0, .int .i64 f1, .int .i64 f2, .int .i64 f3, .int .i64 f4, .int .i64 f5] 33 (0, 0))) (hc : w.heap[gc]? = some (.cells #[.int .i64 n] 2 (0, 0))) :
    Calls Try.prog 25 #[.pointer (some ⟨g, 0, none⟩), .pointer (some ⟨gc, 0, none⟩)] w fun e w' => e = .returned (.tuple #[]) ∧ w'.heap[g]? = some (.cells #[.int .i64 f0, .int .i64 f1, .int .i64 (wrap64 (f2 - n)), .int .i64 (wrap64 (f3 + n)), .int .i64 f4, .int .i64 f5] 33 (0, 0)) ∧ Below g w w' := by
  have hu := Try.underlying33
  have hne : gc ≠ g := by rintro rfl; rw [hg] at hc; injection hc with hc; injection hc with _ hc; simp at hc
  have c2 : w.cell? ⟨g, 2, none⟩ = some (.int .i64 f2) := (blk_cell hg 2).trans rfl
  have z2 : w.frozen? ⟨g, 2, none⟩ = false := blk_frozen hg 2
  have c3 : w.cell? ⟨g, 3, none⟩ = some (.int .i64 f3) := (blk_cell hg 3).trans rfl
  have z3 : w.frozen? ⟨g, 3, none⟩ = false := blk_frozen hg 3
  have c4 : w.cell? ⟨g, 4, none⟩ = some (.int .i64 f4) := (blk_cell hg 4).trans rfl
  have z4 : w.frozen? ⟨g, 4, none⟩ = false := blk_frozen hg 4
  have c5 : w.cell? ⟨g, 5, none⟩ = some (.int .i64 f5) := (blk_cell hg 5).trans rfl
  have z5 : w.frozen? ⟨g, 5, none⟩ = false := blk_frozen hg 5
  have cc : w.cell? ⟨gc, 0, none⟩ = some (.int .i64 n) := (blk_cell hc 0).trans rfl
  have HG := Aside0.mk hg
  clear hg hc
  go_enter Try.func25, Try.ntmps25
  go_wp2
  go_region
  all_goals go_end0
  all_goals exact ⟨rfl, by first | exact blk_drew (blk_put (blk_put HG.out 2 _ rfl) 3 _ rfl) | exact blk_drew (blk_put (blk_put HG.out 3 _ rfl) 2 _ rfl), (((Below.refl g w).setCell (Nat.le_refl _) _).setCell (Nat.le_refl _) _).drew⟩
set_option maxHeartbeats 4000000 in
set_option maxRecDepth 100000 in
theorem stock_TakeBack_1.cl_Release (n f0 f1 f2 f3 f4 f5 : Int) (w : World) (g gc : Nat) (hg : w.heap[g]? = some (.cells #[.int .i64 f0, .int .i64 f1, .int .i64 f2, .int .i64 f3, .int .i64 f4, .int .i64 f5] 33 (0, 0))) (hc : w.heap[gc]? = some (.cells #[.int .i64 n] 2 (0, 0))) :
    Calls Try.prog 26 #[.pointer (some ⟨g, 0, none⟩), .pointer (some ⟨gc, 0, none⟩)] w fun e w' => e = .returned (.tuple #[]) ∧ w'.heap[g]? = some (.cells #[.int .i64 f0, .int .i64 f1, .int .i64 (wrap64 (f2 + n)), .int .i64 (wrap64 (f3 - n)), .int .i64 f4, .int .i64 f5] 33 (0, 0)) ∧ Below g w w' := by
  have hu := Try.underlying33
  have hne : gc ≠ g := by rintro rfl; rw [hg] at hc; injection hc with hc; injection hc with _ hc; simp at hc
  have c2 : w.cell? ⟨g, 2, none⟩ = some (.int .i64 f2) := (blk_cell hg 2).trans rfl
  have z2 : w.frozen? ⟨g, 2, none⟩ = false := blk_frozen hg 2
  have c3 : w.cell? ⟨g, 3, none⟩ = some (.int .i64 f3) := (blk_cell hg 3).trans rfl
  have z3 : w.frozen? ⟨g, 3, none⟩ = false := blk_frozen hg 3
  have c4 : w.cell? ⟨g, 4, none⟩ = some (.int .i64 f4) := (blk_cell hg 4).trans rfl
  have z4 : w.frozen? ⟨g, 4, none⟩ = false := blk_frozen hg 4
  have c5 : w.cell? ⟨g, 5, none⟩ = some (.int .i64 f5) := (blk_cell hg 5).trans rfl
  have z5 : w.frozen? ⟨g, 5, none⟩ = false := blk_frozen hg 5
  have cc : w.cell? ⟨gc, 0, none⟩ = some (.int .i64 n) := (blk_cell hc 0).trans rfl
  have HG := Aside0.mk hg
  clear hg hc
  go_enter Try.func26, Try.ntmps26
  go_wp2
  go_region
  all_goals go_end0
  all_goals exact ⟨rfl, by first | exact blk_drew (blk_put (blk_put HG.out 3 _ rfl) 2 _ rfl) | exact blk_drew (blk_put (blk_put HG.out 2 _ rfl) 3 _ rfl), (((Below.refl g w).setCell (Nat.le_refl _) _).setCell (Nat.le_refl _) _).drew⟩
set_option maxHeartbeats 4000000 in
set_option maxRecDepth 100000 in
theorem stock_TakeBack_1.cl_Send (n f0 f1 f2 f3 f4 f5 : Int) (w : World) (g gc : Nat) (hg : w.heap[g]? = some (.cells #[.int .i64 f0, .int .i64 f1, .int .i64 f2, .int .i64 f3, .int .i64 f4, .int .i64 f5] 33 (0, 0))) (hc : w.heap[gc]? = some (.cells #[.int .i64 n] 2 (0, 0))) :
    Calls Try.prog 27 #[.pointer (some ⟨g, 0, none⟩), .pointer (some ⟨gc, 0, none⟩)] w fun e w' => e = .returned (.tuple #[]) ∧ w'.heap[g]? = some (.cells #[.int .i64 f0, .int .i64 f1, .int .i64 f2, .int .i64 (wrap64 (f3 - n)), .int .i64 (wrap64 (f4 + n)), .int .i64 f5] 33 (0, 0)) ∧ Below g w w' := by
  have hu := Try.underlying33
  have hne : gc ≠ g := by rintro rfl; rw [hg] at hc; injection hc with hc; injection hc with _ hc; simp at hc
  have c2 : w.cell? ⟨g, 2, none⟩ = some (.int .i64 f2) := (blk_cell hg 2).trans rfl
  have z2 : w.frozen? ⟨g, 2, none⟩ = false := blk_frozen hg 2
  have c3 : w.cell? ⟨g, 3, none⟩ = some (.int .i64 f3) := (blk_cell hg 3).trans rfl
  have z3 : w.frozen? ⟨g, 3, none⟩ = false := blk_frozen hg 3
  have c4 : w.cell? ⟨g, 4, none⟩ = some (.int .i64 f4) := (blk_cell hg 4).trans rfl
  have z4 : w.frozen? ⟨g, 4, none⟩ = false := blk_frozen hg 4
  have c5 : w.cell? ⟨g, 5, none⟩ = some (.int .i64 f5) := (blk_cell hg 5).trans rfl
  have z5 : w.frozen? ⟨g, 5, none⟩ = false := blk_frozen hg 5
  have cc : w.cell? ⟨gc, 0, none⟩ = some (.int .i64 n) := (blk_cell hc 0).trans rfl
  have HG := Aside0.mk hg
  clear hg hc
  go_enter Try.func27, Try.ntmps27
  go_wp2
  go_region
  all_goals go_end0
  all_goals exact ⟨rfl, by first | exact blk_drew (blk_put (blk_put HG.out 3 _ rfl) 4 _ rfl) | exact blk_drew (blk_put (blk_put HG.out 4 _ rfl) 3 _ rfl), (((Below.refl g w).setCell (Nat.le_refl _) _).setCell (Nat.le_refl _) _).drew⟩
set_option maxHeartbeats 4000000 in
set_option maxRecDepth 100000 in
theorem stock_TakeBack_1.cl_TakeBack (n f0 f1 f2 f3 f4 f5 : Int) (w : World) (g gc : Nat) (hg : w.heap[g]? = some (.cells #[.int .i64 f0, .int .i64 f1, .int .i64 f2, .int .i64 f3, .int .i64 f4, .int .i64 f5] 33 (0, 0))) (hc : w.heap[gc]? = some (.cells #[.int .i64 n] 2 (0, 0))) :
    Calls Try.prog 28 #[.pointer (some ⟨g, 0, none⟩), .pointer (some ⟨gc, 0, none⟩)] w fun e w' => e = .returned (.tuple #[]) ∧ w'.heap[g]? = some (.cells #[.int .i64 f0, .int .i64 f1, .int .i64 (wrap64 (f2 + n)), .int .i64 f3, .int .i64 (wrap64 (f4 - n)), .int .i64 f5] 33 (0, 0)) ∧ Below g w w' := by
  have hu := Try.underlying33
  have hne : gc ≠ g := by rintro rfl; rw [hg] at hc; injection hc with hc; injection hc with _ hc; simp at hc
  have c2 : w.cell? ⟨g, 2, none⟩ = some (.int .i64 f2) := (blk_cell hg 2).trans rfl
  have z2 : w.frozen? ⟨g, 2, none⟩ = false := blk_frozen hg 2
  have c3 : w.cell? ⟨g, 3, none⟩ = some (.int .i64 f3) := (blk_cell hg 3).trans rfl
  have z3 : w.frozen? ⟨g, 3, none⟩ = false := blk_frozen hg 3
  have c4 : w.cell? ⟨g, 4, none⟩ = some (.int .i64 f4) := (blk_cell hg 4).trans rfl
  have z4 : w.frozen? ⟨g, 4, none⟩ = false := blk_frozen hg 4
  have c5 : w.cell? ⟨g, 5, none⟩ = some (.int .i64 f5) := (blk_cell hg 5).trans rfl
  have z5 : w.frozen? ⟨g, 5, none⟩ = false := blk_frozen hg 5
  have cc : w.cell? ⟨gc, 0, none⟩ = some (.int .i64 n) := (blk_cell hc 0).trans rfl
  have HG := Aside0.mk hg
  clear hg hc
  go_enter Try.func28, Try.ntmps28
  go_wp2
  go_region
  all_goals go_end0
  all_goals exact ⟨rfl, by first | exact blk_drew (blk_put (blk_put HG.out 4 _ rfl) 2 _ rfl) | exact blk_drew (blk_put (blk_put HG.out 2 _ rfl) 4 _ rfl), (((Below.refl g w).setCell (Nat.le_refl _) _).setCell (Nat.le_refl _) _).drew⟩
def cl_T48.f (p : Int × Int) (f0 f1 f2 f3 f4 f5 : Int) : Option (Int × Int × Int × Int × Int × Int) :=
  if p.1 = 24 then some (f0, f1, wrap64 (f2 + p.2), f3, f4, wrap64 (f5 + p.2))
  else if p.1 = 25 then some (f0, f1, wrap64 (f2 - p.2), wrap64 (f3 + p.2), f4, f5)
  else if p.1 = 26 then some (f0, f1, wrap64 (f2 + p.2), wrap64 (f3 - p.2), f4, f5)
  else if p.1 = 27 then some (f0, f1, f2, wrap64 (f3 - p.2), wrap64 (f4 + p.2), f5)
  else if p.1 = 28 then some (f0, f1, wrap64 (f2 + p.2), f3, wrap64 (f4 - p.2), f5)
  else none
theorem cl_T48.ok {p : Int × Int} {f0 f1 f2 f3 f4 f5 : Int} {r} (h : cl_T48.f p f0 f1 f2 f3 f4 f5 = some r) : FnOk Try.prog p.1 := by
  unfold cl_T48.f at h
  by_cases h24 : p.1 = 24
  · rw [h24]; exact ⟨by decide, _, Try.func24, by kernel_rfl, by kernel_rfl⟩
  rw [if_neg h24] at h
  by_cases h25 : p.1 = 25
  · rw [h25]; exact ⟨by decide, _, Try.func25, by kernel_rfl, by kernel_rfl⟩
  rw [if_neg h25] at h
  by_cases h26 : p.1 = 26
  · rw [h26]; exact ⟨by decide, _, Try.func26, by kernel_rfl, by kernel_rfl⟩
  rw [if_neg h26] at h
  by_cases h27 : p.1 = 27
  · rw [h27]; exact ⟨by decide, _, Try.func27, by kernel_rfl, by kernel_rfl⟩
  rw [if_neg h27] at h
  by_cases h28 : p.1 = 28
  · rw [h28]; exact ⟨by decide, _, Try.func28, by kernel_rfl, by kernel_rfl⟩
  rw [if_neg h28] at h
  cases h
theorem cl_T48.calls (p : Int × Int) (f0 f1 f2 f3 f4 f5 r1 r2 r3 r4 r5 r6 : Int) (w : World) (g gc : Nat) (hg : w.heap[g]? = some (.cells #[.int .i64 f0, .int .i64 f1, .int .i64 f2, .int .i64 f3, .int .i64 f4, .int .i64 f5] 33 (0, 0))) (hc : w.heap[gc]? = some (.cells #[.int .i64 p.2] 2 (0, 0))) (h : cl_T48.f p f0 f1 f2 f3 f4 f5 = some (r1, r2, r3, r4, r5, r6)) :
    Calls Try.prog p.1.toNat #[.pointer (some ⟨g, 0, none⟩), .pointer (some ⟨gc, 0, none⟩)] w fun e w' => e = .returned (.tuple #[]) ∧ w'.heap[g]? = some (.cells #[.int .i64 r1, .int .i64 r2, .int .i64 r3, .int .i64 r4, .int .i64 r5, .int .i64 r6] 33 (0, 0)) ∧ Below g w w' := by
  unfold cl_T48.f at h
  by_cases h24 : p.1 = 24
  · rw [if_pos h24] at h
    simp only [Option.some.injEq, Prod.mk.injEq] at h
    obtain ⟨rfl, rfl, rfl, rfl, rfl, rfl⟩ := h
    rw [h24]
    exact stock_TakeBack_1.cl_Restock p.2 f0 f1 f2 f3 f4 f5 w g gc hg hc
  rw [if_neg h24] at h
  by_cases h25 : p.1 = 25
  · rw [if_pos h25] at h
    simp only [Option.some.injEq, Prod.mk.injEq] at h
    obtain ⟨rfl, rfl, rfl, rfl, rfl, rfl⟩ := h
    rw [h25]
    exact stock_TakeBack_1.cl_Reserve p.2 f0 f1 f2 f3 f4 f5 w g gc hg hc
  rw [if_neg h25] at h
  by_cases h26 : p.1 = 26
  · rw [if_pos h26] at h
    simp only [Option.some.injEq, Prod.mk.injEq] at h
    obtain ⟨rfl, rfl, rfl, rfl, rfl, rfl⟩ := h
    rw [h26]
    exact stock_TakeBack_1.cl_Release p.2 f0 f1 f2 f3 f4 f5 w g gc hg hc
  rw [if_neg h26] at h
  by_cases h27 : p.1 = 27
  · rw [if_pos h27] at h
    simp only [Option.some.injEq, Prod.mk.injEq] at h
    obtain ⟨rfl, rfl, rfl, rfl, rfl, rfl⟩ := h
    rw [h27]
    exact stock_TakeBack_1.cl_Send p.2 f0 f1 f2 f3 f4 f5 w g gc hg hc
  rw [if_neg h27] at h
  by_cases h28 : p.1 = 28
  · rw [if_pos h28] at h
    simp only [Option.some.injEq, Prod.mk.injEq] at h
    obtain ⟨rfl, rfl, rfl, rfl, rfl, rfl⟩ := h
    rw [h28]
    exact stock_TakeBack_1.cl_TakeBack p.2 f0 f1 f2 f3 f4 f5 w g gc hg hc
  rw [if_neg h28] at h
  cases h
def api_Cell_37.f (l0 : List S33) : Option (List S33) := if l0.length * 48 ≤ 140737488355328 then some l0 else none
set_option maxHeartbeats 4000000 in
set_option maxRecDepth 100000 in
theorem api_Cell_37.calls (A0 : Option Addr) (c0 : Nat) (l0 : List (S33)) (r : List (S33)) (w : World) (hr0 : Kd.C k33 w A0 l0.length l0) (hc0 : l0.length ≤ c0) (h : api_Cell_37.f l0 = some r) :
    Calls Try.prog 37 #[.slice A0 l0.length c0] w fun e w' => ∃ v0_ : Value, e = .returned v0_ ∧ Kd.R k33 33 w' w.heap.size (fun _ => True) v0_ r ∧ Below w.heap.size w w' := by
  unfold api_Cell_37.f at h
  split at h
  case isFalse => cases h
  case isTrue hbig =>
  obtain rfl := Option.some.inj h
  have qS : ∀ (w : World) (a : Option Addr) (n c : Nat), (binOp .eql 22 (.slice a n c) (.slice none 0 0)).run Try.prog w = .ok (.bool a.isNone) w := fun w a n c => Lib.run_eql_slice_nil w _ _ a n c 0 0 Try.underlying22
  have HR := Aside0.mk hr0
  have HC := Aside0.mk hc0
  cases A0 with
  | none =>
    have hn : l0.length = 0 := by
      rcases Nat.eq_zero_or_pos l0.length with h0 | h0
      · exact h0
      · obtain ⟨_, h, _⟩ := hr0.2.2 h0; cases h
    obtain rfl : l0 = [] := List.eq_nil_of_length_eq_zero hn
    clear hr0 hc0 hn
    go_enter Try.func37, Try.ntmps37
    go_wp2
    go_ret
    exact ⟨_, rfl, Kd.R_nil _ _ _ _ _, Below.refl _ _⟩
  | some ad =>
    clear hr0 hc0
    obtain ⟨W1, hW1⟩ : ∃ W1, W1 = w.alloc (.cells #[] 33) := ⟨_, rfl⟩
    have hO : Kd.R k33 33 W1 w.heap.size (fun _ => True) (.slice (some ⟨w.heap.size, 0, none⟩) 0 0) [] := by
      refine ⟨fun _ _ => trivial, [], ⟨rfl, .inr ⟨w.heap.size, 0, #[], rfl, Nat.le_refl _, ?_, Nat.le_refl _, by simp only [maxLen]; omega, rfl, rfl⟩⟩, Reps.none _ _⟩
      rw [hW1]; exact heap_alloc_new w _
    have hB : Below w.heap.size w W1 := by rw [hW1]; exact below_alloc (Below.refl _ _) _
    have HO := Aside0.mk hO
    have HB := Aside0.mk hB
    have HS : Aside0 (w.heap.size ≤ W1.heap.size) := ⟨hB.size⟩
    have HC1 : Aside0 (Kd.C k33 W1 (some ad) l0.length l0) := ⟨Kd.C_below HR.out hB⟩
    clear hO hB
    subst hW1
    go_enter Try.func37, Try.ntmps37
    go_wp2_with (at_builtin; (refine Kd.R_append_rows k33 (w0 := w) w.heap.size rfl _ _ 22 33 _ 48 rfl Try.underlying22 info33 rfl (by decide) (by decide) _ [] l0 (some ad) l0.length c0 (fun _ => True) (fun _ => False) rfl rfl HO.out HC1.out (fun x cs hK => hK) (fun _ hk => hk.elim) (fun _ _ => trivial) HB.out HS.out (by simpa using hbig) ?_); rintro v1 w1 ho hb hg hat)
    go_ret
    exact ⟨v1, rfl, ho, hb⟩
end Go.Proofs.Ytkgbdahkncefhaa.Print
