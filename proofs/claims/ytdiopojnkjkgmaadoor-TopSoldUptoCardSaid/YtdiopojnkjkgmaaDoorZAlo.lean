-- What the claim uses alone (wip/slim.py). Lean checks it.
import Derived.Test.YtdiopojnkjkgmaaDoorZAb
import Derived.Test.YtdiopojnkjkgmaaDoorZAln
namespace Go.Proofs.YtdiopojnkjkgmaaDoor.Print
open Go.RowKit Go.Proofs.YtdiopojnkjkgmaaDoorW.PrintWords Go.Proofs.YtdiopojnkjkgmaaDoorW.PrintLast Go.Proofs.YtdiopojnkjkgmaaDoorW.PrintMore
attribute [local go_sem] max2_mx min2_mn max_two min_two max_three min_three max_four min_four
set_option linter.unusedVariables false
set_option linter.unusedSimpArgs false
def stock_Check.l0 : Nat → List (S43) → List (S43) → Int → Int → Option (Int)
 | 0, _, _, _, _ => none
 | k + 1, x0, x8, x9, x10 => if x10 < x9 then (if 0 ≤ x10 then (if x10 < (x8.length : Int) then ((stock_made.f k ((rd_T43 x8 x10).f0) ((rd_T43 x8 x10).f1) ((rd_T43 x8 x10).f2) ((rd_T43 x8 x10).f3) ((rd_T43 x8 x10).f4) ((rd_T43 x8 x10).f5)).bind fun t123 => (if t123 = true then (if x10 > 0 then (if 0 ≤ (wrap64 (x10 - 1)) then (if (wrap64 (x10 - 1)) < (x0.length : Int) then ((stock_order.f k ((rd_T43 x0 (wrap64 (x10 - 1))).f0) ((rd_T43 x0 (wrap64 (x10 - 1))).f1) ((rd_T43 x0 (wrap64 (x10 - 1))).f2) ((rd_T43 x0 (wrap64 (x10 - 1))).f3) ((rd_T43 x0 (wrap64 (x10 - 1))).f4) ((rd_T43 x0 (wrap64 (x10 - 1))).f5) ((rd_T43 x8 x10).f0) ((rd_T43 x8 x10).f1) ((rd_T43 x8 x10).f2) ((rd_T43 x8 x10).f3) ((rd_T43 x8 x10).f4) ((rd_T43 x8 x10).f5)).bind fun t125 => (if t125 ≥ 0 then (some 9) else (stock_Check.l0 k x0 x8 x9 (wrap64 (x10 + 1))))) else (none)) else (none)) else (stock_Check.l0 k x0 x8 x9 (wrap64 (x10 + 1)))) else (some 9))) else (none)) else (none)) else (some 0)
def stock_Check.f (k : Nat) (l0 : List (S43)) : Option (Int) := if (l0.length : Int) > 4096 then (some 9) else (stock_Check.l0 k l0 l0 (l0.length : Int) 0)
def stock_Check.T6 : Bool × List (List Nat × List Nat) := (true, [([], []), ([0], [0]), ([1], [1]), ([2, 1], [2]), ([3], [3]), ([4, 3], [3, 4]), ([5, 3, 3], [3, 5]), ([6], [6]), ([6], [6]), ([8, 6], [6, 8]), ([7, 9, 6], [6, 7, 9]), ([10, 6], [6, 10]), ([6], [6]), ([11, 12, 6, 6], [6, 11, 12]), ([13, 6], [6, 13]), ([6, 14, 3], [3, 6, 14]), ([3, 15], [3, 15])])
def stock_Check.B6 : List Nat := [0, 1, 3, 7, 15, 31, 63, 127, 127, 383, 1023, 2047, 127, 8191, 16383, 32767, 65535]
theorem stock_Check.tab6 : rtab .any (opsOf Tryd.f5 6) = stock_Check.T6 := by kernel_rfl
theorem stock_Check.bits6 : waitsOk stock_Check.T6.2 stock_Check.B6 = true := by kernel_rfl
set_option maxHeartbeats 8000000 in
set_option maxRecDepth 100000 in
theorem stock_Check.calls (k : Nat) (A0 : Option Addr) (c0 : Nat) (l0 : List (S43)) (r : Int) (w : World) (hr0 : Kd.C k43 w A0 l0.length l0) (hc0 : l0.length ≤ c0) (h : stock_Check.f k l0 = some r) :
  Calls Tryd.prog 5 #[.slice A0 l0.length c0] w fun e w' => e = .returned (.int .i64 r) ∧ Below w.heap.size w w' := by
 have hu43 := Tryd.underlying43
 have HR0 := Aside0.mk hr0
 have HC0 := Aside0.mk hc0
 clear hr0 hc0
 have HB := Aside0.mk (Below.refl w.heap.size w)
 have H : (if (l0.length : Int) > 4096 then (some 9) else (stock_Check.l0 k l0 l0 (l0.length : Int) 0)) = some r := h
 clear h
 by_cases c2 : (l0.length : Int) > 4096
 ·rw [if_pos c2] at H
  have c2b0 : decide (4096 < (l0.length : Int)) = true := decide_eq_true c2
  have c2b1 : decide (4096 < l0.length) = true := decide_eq_true (by omega)
  clear c2
  obtain rfl := Option.some.inj H
  go_enter Tryd.func5, Tryd.ntmps5
  go_wp2
  go_ret
  exact ⟨by first | rfl | (simp [errW_none, errW_some] <;> rfl) | (simp [*, errW_none, errW_some] <;> rfl), by exact zh0_ HB.out⟩
 ·rw [if_neg c2] at H
  have c2b0 : decide (4096 < (l0.length : Int)) = false := decide_eq_false c2
  have c2b1 : decide (4096 < l0.length) = false := decide_eq_false (by omega)
  clear c2
  have H' := Aside0.mk H
  clear H
  go_enter Tryd.func5, Tryd.ntmps5
  go_wp2
  go_loopg [10] k (fun kq v10 w' => ∃ (x10_1 : Int), v10 = .int .i64 x10_1 ∧ Aside0 (stock_Check.l0 kq l0 l0 (l0.length : Int) x10_1 = some r) ∧ Aside0 (kq ≤ k) ∧ Aside0 (Below w.heap.size w w'))
  case atStart => exact ⟨(0), (by first | rfl | (simp; done) | (simp [*]; done) | (simp only [i64_w]; done)), H', ⟨Nat.le_refl _⟩, ⟨by exact zh0_ HB.out⟩⟩
  case round =>
   clear H'
   try clear c2
   try clear c2b0
   try clear c2b1
   try clear p2
   obtain ⟨x10_1, rfl, HA, HK1, HB⟩ := hrel
   cases gk with
   | zero => exact absurd HA.out (by simp [stock_Check.l0])
   | succ k1 =>
    have H := HA.out
    clear HA
    simp only [stock_Check.l0] at H
    by_cases c3 : x10_1 < (l0.length : Int)
    ·rw [if_pos c3] at H
     have c3b0 : decide (x10_1 < (l0.length : Int)) = true := decide_eq_true c3
     clear c3
     by_cases c4 : 0 ≤ x10_1
     ·rw [if_pos c4] at H
      have c4b0 : decide (0 ≤ x10_1) = true := decide_eq_true c4
      clear c4
      by_cases c5 : x10_1 < (l0.length : Int)
      ·rw [if_pos c5] at H
       have c5b0 : decide (x10_1 < (l0.length : Int)) = true := decide_eq_true c5
       clear c5
       obtain ⟨t123, A6, H⟩ := zm H
       (try dsimp only at H)
       by_cases c7 : t123 = true
       ·subst c7
        replace H := (if_pos (rfl : true = true)).symm.trans H
        by_cases c8 : x10_1 > 0
        ·rw [if_pos c8] at H
         have c8b0 : decide (0 < x10_1) = true := decide_eq_true c8
         clear c8
         obtain ⟨ji9, hji9⟩ : ∃ j_ : Int, (wrap64 (x10_1 - 1)) = j_ := ⟨_, rfl⟩
         replace H : (if 0 ≤ (ji9) then (if (ji9) < (l0.length : Int) then ((stock_order.f k1 ((rd_T43 l0 (ji9)).f0) ((rd_T43 l0 (ji9)).f1) ((rd_T43 l0 (ji9)).f2) ((rd_T43 l0 (ji9)).f3) ((rd_T43 l0 (ji9)).f4) ((rd_T43 l0 (ji9)).f5) ((rd_T43 l0 x10_1).f0) ((rd_T43 l0 x10_1).f1) ((rd_T43 l0 x10_1).f2) ((rd_T43 l0 x10_1).f3) ((rd_T43 l0 x10_1).f4) ((rd_T43 l0 x10_1).f5)).bind fun t125 => (if t125 ≥ 0 then (some 9) else (stock_Check.l0 k1 l0 l0 (l0.length : Int) (wrap64 (x10_1 + 1))))) else (none)) else (none)) = some r := by first | (rw [hji9] at H; exact H) | (simp only [hji9] at H ⊢; exact H)
         (try rw [hji9] at A6)
         have hji9w : (IntKind.i64.wrap (x10_1 - 1)) = ji9 := (i64_w _).trans hji9
         by_cases c10 : 0 ≤ (ji9)
         ·rw [if_pos c10] at H
          have c10b0 : decide (0 ≤ (ji9)) = true := decide_eq_true c10
          clear c10
          by_cases c11 : (ji9) < (l0.length : Int)
          ·rw [if_pos c11] at H
           have c11b0 : decide ((ji9) < (l0.length : Int)) = true := decide_eq_true c11
           clear c11
           obtain ⟨t125, A12, H⟩ := zm H
           (try dsimp only at H)
           by_cases c13 : t125 ≥ 0
           ·rw [if_pos c13] at H
            have c13b0 : decide (0 ≤ t125) = true := decide_eq_true c13
            clear c13
            obtain rfl := Option.some.inj H
            have p121 : 0 ≤ (x10_1 : Int) := of_decide_eq_true za_
            have q121 : x10_1 < (l0.length : Int) := of_decide_eq_true za_
            obtain ⟨ad121, e121, hx121_0, hx121_1, hx121_2, hx121_3, hx121_4, hx121_5⟩ := at_T43 HR0.out x10_1 p121 q121
            cases e121
            replace hx121_0 := zx_ HB.out hx121_0
            replace hx121_1 := zx_ HB.out hx121_1
            replace hx121_2 := zx_ HB.out hx121_2
            replace hx121_3 := zx_ HB.out hx121_3
            replace hx121_4 := zx_ HB.out hx121_4
            replace hx121_5 := zx_ HB.out hx121_5
            replace p121 := eq_true p121
            replace q121 := eq_true q121
            try go_wp2_with (first | ((with_reducible refine gate_dst (N := 4) rfl ?_); refine box_event ?hg (N := 4) ?hd (cs := #[.int .i64 0, .int .i64 0, .int .i64 0, .int .i64 0, .int .i64 0, .int .i64 0]) (t := 43) ?hr ?_; (case hd => rfl); (case hg => rfl); (case hr => first | (go_simp; done) | (go_simp; rfl)); intro gb122 hg w14 hbox hb; have BK122 := Aside0.mk (hbox); have GW122 := Aside0.mk ((by rw [hg]; exact (below_size (zh0_ HB.out)) : w.heap.size ≤ gb122)); have GE122 := Aside0.mk ((by rw [hg]; exact (below_size (zh0_ HB.out)) : w.heap.size ≤ gb122)); replace HB := Aside0.mk (below_step (zh0_ HB.out) hb); clear hb hbox hg; have hcz15_0 : w14.cell? ⟨gb122, 0, none⟩ = some (.int .i64 0) := (blk_cell BK122.out 0).trans rfl; have hcz15_1 : w14.cell? ⟨gb122, 1, none⟩ = some (.int .i64 0) := (blk_cell BK122.out 1).trans rfl; have hcz15_2 : w14.cell? ⟨gb122, 2, none⟩ = some (.int .i64 0) := (blk_cell BK122.out 2).trans rfl; have hcz15_3 : w14.cell? ⟨gb122, 3, none⟩ = some (.int .i64 0) := (blk_cell BK122.out 3).trans rfl; have hcz15_4 : w14.cell? ⟨gb122, 4, none⟩ = some (.int .i64 0) := (blk_cell BK122.out 4).trans rfl; have hcz15_5 : w14.cell? ⟨gb122, 5, none⟩ = some (.int .i64 0) := (blk_cell BK122.out 5).trans rfl; have hfz15_0 := blk_frozen BK122.out 0; have hfz15_1 := blk_frozen BK122.out 1; have hfz15_2 := blk_frozen BK122.out 2; have hfz15_3 := blk_frozen BK122.out 3; have hfz15_4 := blk_frozen BK122.out 4; have hfz15_5 := blk_frozen BK122.out 5))
            have n0_ : Aside0 (((((((w14.setCell ⟨gb122, 0, none⟩ (.int .i64 ((rd_T43 l0 x10_1).f0))).setCell ⟨gb122, 1, none⟩ (.int .i64 ((rd_T43 l0 x10_1).f1))).setCell ⟨gb122, 2, none⟩ (.int .i64 ((rd_T43 l0 x10_1).f2))).setCell ⟨gb122, 3, none⟩ (.int .i64 ((rd_T43 l0 x10_1).f3))).setCell ⟨gb122, 4, none⟩ (.int .i64 ((rd_T43 l0 x10_1).f4))).setCell ⟨gb122, 5, none⟩ (.int .i64 ((rd_T43 l0 x10_1).f5))).heap[gb122]? = some (.cells #[.int .i64 ((rd_T43 l0 x10_1).f0), .int .i64 ((rd_T43 l0 x10_1).f1), .int .i64 ((rd_T43 l0 x10_1).f2), .int .i64 ((rd_T43 l0 x10_1).f3), .int .i64 ((rd_T43 l0 x10_1).f4), .int .i64 ((rd_T43 l0 x10_1).f5)] 43 (0, 0))) := ⟨by (with_reducible repeat (first | refine blk_drewN ?_ _ | refine blk_drew ?_ | refine blk_alloc ?_ _)); refine blk_put (cs := #[.int .i64 ((rd_T43 l0 x10_1).f0), .int .i64 ((rd_T43 l0 x10_1).f1), .int .i64 ((rd_T43 l0 x10_1).f2), .int .i64 ((rd_T43 l0 x10_1).f3), .int .i64 ((rd_T43 l0 x10_1).f4), .int .i64 0]) ?_ 5 _ (by first | rfl | (simp only [List.length_drop, List.length_take]; rfl)); (with_reducible repeat (first | refine blk_drewN ?_ _ | refine blk_drew ?_ | refine blk_alloc ?_ _)); refine blk_put (cs := #[.int .i64 ((rd_T43 l0 x10_1).f0), .int .i64 ((rd_T43 l0 x10_1).f1), .int .i64 ((rd_T43 l0 x10_1).f2), .int .i64 ((rd_T43 l0 x10_1).f3), .int .i64 0, .int .i64 0]) ?_ 4 _ (by first | rfl | (simp only [List.length_drop, List.length_take]; rfl)); (with_reducible repeat (first | refine blk_drewN ?_ _ | refine blk_drew ?_ | refine blk_alloc ?_ _)); refine blk_put (cs := #[.int .i64 ((rd_T43 l0 x10_1).f0), .int .i64 ((rd_T43 l0 x10_1).f1), .int .i64 ((rd_T43 l0 x10_1).f2), .int .i64 0, .int .i64 0, .int .i64 0]) ?_ 3 _ (by first | rfl | (simp only [List.length_drop, List.length_take]; rfl)); (with_reducible repeat (first | refine blk_drewN ?_ _ | refine blk_drew ?_ | refine blk_alloc ?_ _)); refine blk_put (cs := #[.int .i64 ((rd_T43 l0 x10_1).f0), .int .i64 ((rd_T43 l0 x10_1).f1), .int .i64 0, .int .i64 0, .int .i64 0, .int .i64 0]) ?_ 2 _ (by first | rfl | (simp only [List.length_drop, List.length_take]; rfl)); (with_reducible repeat (first | refine blk_drewN ?_ _ | refine blk_drew ?_ | refine blk_alloc ?_ _)); refine blk_put (cs := #[.int .i64 ((rd_T43 l0 x10_1).f0), .int .i64 0, .int .i64 0, .int .i64 0, .int .i64 0, .int .i64 0]) ?_ 1 _ (by first | rfl | (simp only [List.length_drop, List.length_take]; rfl)); (with_reducible repeat (first | refine blk_drewN ?_ _ | refine blk_drew ?_ | refine blk_alloc ?_ _)); refine blk_put (cs := #[.int .i64 0, .int .i64 0, .int .i64 0, .int .i64 0, .int .i64 0, .int .i64 0]) ?_ 0 _ (by first | rfl | (simp only [List.length_drop, List.length_take]; rfl)); (with_reducible repeat (first | refine blk_drewN ?_ _ | refine blk_drew ?_ | refine blk_alloc ?_ _)); exact BK122.out⟩
            have n1_ : Aside0 (Below w.heap.size w ((((((w14.setCell ⟨gb122, 0, none⟩ (.int .i64 ((rd_T43 l0 x10_1).f0))).setCell ⟨gb122, 1, none⟩ (.int .i64 ((rd_T43 l0 x10_1).f1))).setCell ⟨gb122, 2, none⟩ (.int .i64 ((rd_T43 l0 x10_1).f2))).setCell ⟨gb122, 3, none⟩ (.int .i64 ((rd_T43 l0 x10_1).f3))).setCell ⟨gb122, 4, none⟩ (.int .i64 ((rd_T43 l0 x10_1).f4))).setCell ⟨gb122, 5, none⟩ (.int .i64 ((rd_T43 l0 x10_1).f5)))) := ⟨by exact zh1_ HB.out GE122.out⟩
            (try clear BK122)
            (try clear HB)
            generalize ((((((w14.setCell ⟨gb122, 0, none⟩ (.int .i64 ((rd_T43 l0 x10_1).f0))).setCell ⟨gb122, 1, none⟩ (.int .i64 ((rd_T43 l0 x10_1).f1))).setCell ⟨gb122, 2, none⟩ (.int .i64 ((rd_T43 l0 x10_1).f2))).setCell ⟨gb122, 3, none⟩ (.int .i64 ((rd_T43 l0 x10_1).f3))).setCell ⟨gb122, 4, none⟩ (.int .i64 ((rd_T43 l0 x10_1).f4))).setCell ⟨gb122, 5, none⟩ (.int .i64 ((rd_T43 l0 x10_1).f5))) = w16 at n0_ n1_ ⊢
            have BK122 := n0_
            have HB := n1_
            clear n0_ n1_
            have n0_ := Aside0.mk (blk_drew BK122.out)
            have n1_ := Aside0.mk (below_drew1 HB.out)
            clear BK122 HB
            have BK122 := n0_
            have HB := n1_
            clear n0_ n1_
            have p124 : 0 ≤ ((ji9) : Int) := of_decide_eq_true za_
            have q124 : (ji9) < (l0.length : Int) := of_decide_eq_true za_
            obtain ⟨ad124, e124, hx124_0, hx124_1, hx124_2, hx124_3, hx124_4, hx124_5⟩ := at_T43 HR0.out (ji9) p124 q124
            have hw124_5 := hx124_5
            have hw124_4 := hx124_4
            have hw124_3 := hx124_3
            have hw124_2 := hx124_2
            have hw124_1 := hx124_1
            have hw124_0 := hx124_0
            obtain rfl : ad121 = ad124 := (by injection e124)
            replace hx124_0 := zx_ HB.out hx124_0
            replace hx124_1 := zx_ HB.out hx124_1
            replace hx124_2 := zx_ HB.out hx124_2
            replace hx124_3 := zx_ HB.out hx124_3
            replace hx124_4 := zx_ HB.out hx124_4
            replace hx124_5 := zx_ HB.out hx124_5
            replace p124 := eq_true p124
            replace q124 := eq_true q124
            refine start_ (n := 17) (S := fun w' => w'.cell? ⟨gb122, 0, none⟩ = some (.int .i64 ((rd_T43 l0 x10_1).f0)) ∧ w'.cell? ⟨gb122, 1, none⟩ = some (.int .i64 ((rd_T43 l0 x10_1).f1)) ∧ w'.cell? ⟨gb122, 2, none⟩ = some (.int .i64 ((rd_T43 l0 x10_1).f2)) ∧ w'.cell? ⟨gb122, 3, none⟩ = some (.int .i64 ((rd_T43 l0 x10_1).f3)) ∧ w'.cell? ⟨gb122, 4, none⟩ = some (.int .i64 ((rd_T43 l0 x10_1).f4)) ∧ w'.cell? ⟨gb122, 5, none⟩ = some (.int .i64 ((rd_T43 l0 x10_1).f5)) ∧ w'.cell? (ad121.add (((ji9)).toNat * 6)) = some (.int .i64 ((rd_T43 l0 (ji9)).f0)) ∧ w'.cell? ⟨(ad121.add (((ji9)).toNat * 6)).block, (ad121.add (((ji9)).toNat * 6)).off + 1, none⟩ = some (.int .i64 ((rd_T43 l0 (ji9)).f1)) ∧ w'.cell? ⟨(ad121.add (((ji9)).toNat * 6)).block, (ad121.add (((ji9)).toNat * 6)).off + 2, none⟩ = some (.int .i64 ((rd_T43 l0 (ji9)).f2)) ∧ w'.cell? ⟨(ad121.add (((ji9)).toNat * 6)).block, (ad121.add (((ji9)).toNat * 6)).off + 3, none⟩ = some (.int .i64 ((rd_T43 l0 (ji9)).f3)) ∧ w'.cell? ⟨(ad121.add (((ji9)).toNat * 6)).block, (ad121.add (((ji9)).toNat * 6)).off + 4, none⟩ = some (.int .i64 ((rd_T43 l0 (ji9)).f4)) ∧ w'.cell? ⟨(ad121.add (((ji9)).toNat * 6)).block, (ad121.add (((ji9)).toNat * 6)).off + 5, none⟩ = some (.int .i64 ((rd_T43 l0 (ji9)).f5))) (ds := []) (zB 0 17) (by kernel_rfl) rfl rfl ⟨(blk_cell BK122.out 0).trans rfl, (blk_cell BK122.out 1).trans rfl, (blk_cell BK122.out 2).trans rfl, (blk_cell BK122.out 3).trans rfl, (blk_cell BK122.out 4).trans rfl, (blk_cell BK122.out 5).trans rfl, ((HB.out.cell (World.block_lt_of_cell? w _ hw124_0)).trans hw124_0), ((HB.out.cell (World.block_lt_of_cell? w _ hw124_1)).trans hw124_1), ((HB.out.cell (World.block_lt_of_cell? w _ hw124_2)).trans hw124_2), ((HB.out.cell (World.block_lt_of_cell? w _ hw124_3)).trans hw124_3), ((HB.out.cell (World.block_lt_of_cell? w _ hw124_4)).trans hw124_4), ((HB.out.cell (World.block_lt_of_cell? w _ hw124_5)).trans hw124_5)⟩ (fun hHeld => ?_); refine with_tabW stock_Check.tab6 stock_Check.bits6 (fun HT_ HW_ => ?_)
            generalize w16.drew = w17 at BK122 HB hx124_0 hx124_1 hx124_2 hx124_3 hx124_4 hx124_5 hHeld ⊢
            refine zta 0 (some 15) (zB 1 16) (take_ofW HT_.out HW_.out (by kernel_rfl)) hHeld ?_
            refine one_ (i := 1) (N := some 16) (zB 2 15) rfl rfl (one_of HT_.out (by kernel_rfl)) (by decide) (fun K hK => ?_)
            refine goes_ Tryd.func18 (by kernel_rfl) rfl #[.agg #[.int .i64 ((rd_T43 l0 x10_1).f0), .int .i64 ((rd_T43 l0 x10_1).f1), .int .i64 ((rd_T43 l0 x10_1).f2), .int .i64 ((rd_T43 l0 x10_1).f3), .int .i64 ((rd_T43 l0 x10_1).f4), .int .i64 ((rd_T43 l0 x10_1).f5)]] (by rfl) rfl rfl zl_ ?_
            with_reducible refine (stock_made.calls k1 ((rd_T43 l0 x10_1).f0) ((rd_T43 l0 x10_1).f1) ((rd_T43 l0 x10_1).f2) ((rd_T43 l0 x10_1).f3) ((rd_T43 l0 x10_1).f4) ((rd_T43 l0 x10_1).f5) true _ A6.out).mono ?_
            rintro e w18 ⟨rfl, hb⟩
            refine ⟨_, rfl, ?_⟩
            have n0_ := Aside0.mk (blk_below (zb_ BK122.out) hb)
            have n1_ := Aside0.mk (below_step (zh1_ HB.out GE122.out) hb)
            clear BK122 HB
            have BK122 := n0_
            have HB := n1_
            clear n0_ n1_
            (try clear hb)
            (try clear hb2)
            (try clear hk)
            (try clear hi)
            refine hK.out _ _ ⟨(blk_cell BK122.out 0).trans rfl, (blk_cell BK122.out 1).trans rfl, (blk_cell BK122.out 2).trans rfl, (blk_cell BK122.out 3).trans rfl, (blk_cell BK122.out 4).trans rfl, (blk_cell BK122.out 5).trans rfl, ((HB.out.cell (World.block_lt_of_cell? w _ hw124_0)).trans hw124_0), ((HB.out.cell (World.block_lt_of_cell? w _ hw124_1)).trans hw124_1), ((HB.out.cell (World.block_lt_of_cell? w _ hw124_2)).trans hw124_2), ((HB.out.cell (World.block_lt_of_cell? w _ hw124_3)).trans hw124_3), ((HB.out.cell (World.block_lt_of_cell? w _ hw124_4)).trans hw124_4), ((HB.out.cell (World.block_lt_of_cell? w _ hw124_5)).trans hw124_5)⟩ (fun hHeld => ?_)
            clear hK K
            refine zno 16 ?_
            refine zpu 2 (some 17) (zB 3 14) (any_of HT_.out (by kernel_rfl)) ?_
            refine zpu 3 (some 18) (zB 4 13) (any_of HT_.out (by kernel_rfl)) ?_
            refine zpu 4 (some 19) (zB 5 12) (any_of HT_.out (by kernel_rfl)) ?_
            refine zpu 5 (some 20) (zB 6 11) (any_of HT_.out (by kernel_rfl)) ?_
            refine zpu 6 (some 21) (zB 7 10) (any_of HT_.out (by kernel_rfl)) ?_
            refine zpu 7 (some 22) (zB 8 9) (any_of HT_.out (by kernel_rfl)) ?_
            refine zpu 8 (some 23) (zB 9 8) (any_of HT_.out (by kernel_rfl)) ?_
            refine zpu 9 (some 24) (zB 10 7) (any_of HT_.out (by kernel_rfl)) ?_
            refine zpu 10 (some 25) (zB 11 6) (any_of HT_.out (by kernel_rfl)) ?_
            refine zta 11 (some 26) (zB 12 5) (take_ofW HT_.out HW_.out (by kernel_rfl)) hHeld ?_
            refine zta 12 (some 27) (zB 13 4) (take_ofW HT_.out HW_.out (by kernel_rfl)) hHeld ?_
            refine one_ (i := 13) (N := some 28) (zB 14 3) rfl rfl (one_of HT_.out (by kernel_rfl)) (by decide) (fun K hK => ?_)
            refine goes_ Tryd.func19 (by kernel_rfl) rfl #[.agg #[.int .i64 ((rd_T43 l0 (ji9)).f0), .int .i64 ((rd_T43 l0 (ji9)).f1), .int .i64 ((rd_T43 l0 (ji9)).f2), .int .i64 ((rd_T43 l0 (ji9)).f3), .int .i64 ((rd_T43 l0 (ji9)).f4), .int .i64 ((rd_T43 l0 (ji9)).f5)], .agg #[.int .i64 ((rd_T43 l0 x10_1).f0), .int .i64 ((rd_T43 l0 x10_1).f1), .int .i64 ((rd_T43 l0 x10_1).f2), .int .i64 ((rd_T43 l0 x10_1).f3), .int .i64 ((rd_T43 l0 x10_1).f4), .int .i64 ((rd_T43 l0 x10_1).f5)]] (by rfl) rfl rfl (by (try simp only [List.map_toArray, List.map_cons, List.map_nil]); first | done | (simp only [hji9]; rfl) | rfl | (simp only [List.length_drop, List.length_take]; rfl)) ?_
            with_reducible refine (stock_order.calls k1 ((rd_T43 l0 (ji9)).f0) ((rd_T43 l0 (ji9)).f1) ((rd_T43 l0 (ji9)).f2) ((rd_T43 l0 (ji9)).f3) ((rd_T43 l0 (ji9)).f4) ((rd_T43 l0 (ji9)).f5) ((rd_T43 l0 x10_1).f0) ((rd_T43 l0 x10_1).f1) ((rd_T43 l0 x10_1).f2) ((rd_T43 l0 x10_1).f3) ((rd_T43 l0 x10_1).f4) ((rd_T43 l0 x10_1).f5) t125 _ A12.out).mono ?_
            rintro e w19 ⟨rfl, hb⟩
            refine ⟨_, rfl, ?_⟩
            have n0_ := Aside0.mk (blk_below (zb_ BK122.out) hb)
            have n1_ := Aside0.mk (below_step (zh1_ HB.out GE122.out) hb)
            clear BK122 HB
            have BK122 := n0_
            have HB := n1_
            clear n0_ n1_
            (try clear hb)
            (try clear hb2)
            (try clear hk)
            (try clear hi)
            refine hK.out _ _ ⟨(blk_cell BK122.out 0).trans rfl, (blk_cell BK122.out 1).trans rfl, (blk_cell BK122.out 2).trans rfl, (blk_cell BK122.out 3).trans rfl, (blk_cell BK122.out 4).trans rfl, (blk_cell BK122.out 5).trans rfl, ((HB.out.cell (World.block_lt_of_cell? w _ hw124_0)).trans hw124_0), ((HB.out.cell (World.block_lt_of_cell? w _ hw124_1)).trans hw124_1), ((HB.out.cell (World.block_lt_of_cell? w _ hw124_2)).trans hw124_2), ((HB.out.cell (World.block_lt_of_cell? w _ hw124_3)).trans hw124_3), ((HB.out.cell (World.block_lt_of_cell? w _ hw124_4)).trans hw124_4), ((HB.out.cell (World.block_lt_of_cell? w _ hw124_5)).trans hw124_5)⟩ (fun hHeld => ?_)
            clear hK K
            refine zno 28 ?_
            refine zpu 14 (some 29) (zB 15 2) (any_of HT_.out (by kernel_rfl)) ?_
            refine zpu 15 (some 30) (zB 16 1) (any_of HT_.out (by kernel_rfl)) ?_
            refine zpu 16 (some 31) (zB 17 0) (any_of HT_.out (by kernel_rfl)) ?_
            refine done_ (done_of HT_.out (by kernel_rfl)) ?_
            try go_wp2
            go_ret
            exact ⟨by first | rfl | (simp [errW_none, errW_some] <;> rfl) | (simp only [← hji9]; first | rfl | (simp [errW_none, errW_some] <;> rfl)) | (simp [*, errW_none, errW_some] <;> rfl), by exact zh1_ HB.out GE122.out⟩
           ·rw [if_neg c13] at H
            have c13b0 : decide (0 ≤ t125) = false := decide_eq_false c13
            clear c13
            have H' := Aside0.mk H
            clear H
            have p121 : 0 ≤ (x10_1 : Int) := of_decide_eq_true za_
            have q121 : x10_1 < (l0.length : Int) := of_decide_eq_true za_
            obtain ⟨ad121, e121, hx121_0, hx121_1, hx121_2, hx121_3, hx121_4, hx121_5⟩ := at_T43 HR0.out x10_1 p121 q121
            cases e121
            replace hx121_0 := zx_ HB.out hx121_0
            replace hx121_1 := zx_ HB.out hx121_1
            replace hx121_2 := zx_ HB.out hx121_2
            replace hx121_3 := zx_ HB.out hx121_3
            replace hx121_4 := zx_ HB.out hx121_4
            replace hx121_5 := zx_ HB.out hx121_5
            replace p121 := eq_true p121
            replace q121 := eq_true q121
            try go_wp2_with (first | ((with_reducible refine gate_dst (N := 4) rfl ?_); refine box_event ?hg (N := 4) ?hd (cs := #[.int .i64 0, .int .i64 0, .int .i64 0, .int .i64 0, .int .i64 0, .int .i64 0]) (t := 43) ?hr ?_; (case hd => rfl); (case hg => rfl); (case hr => first | (go_simp; done) | (go_simp; rfl)); intro gb122 hg w20 hbox hb; have BK122 := Aside0.mk (hbox); have GW122 := Aside0.mk ((by rw [hg]; exact (below_size (zh0_ HB.out)) : w.heap.size ≤ gb122)); have GE122 := Aside0.mk ((by rw [hg]; exact (below_size (zh0_ HB.out)) : w.heap.size ≤ gb122)); replace HB := Aside0.mk (below_step (zh0_ HB.out) hb); clear hb hbox hg; have hcz21_0 : w20.cell? ⟨gb122, 0, none⟩ = some (.int .i64 0) := (blk_cell BK122.out 0).trans rfl; have hcz21_1 : w20.cell? ⟨gb122, 1, none⟩ = some (.int .i64 0) := (blk_cell BK122.out 1).trans rfl; have hcz21_2 : w20.cell? ⟨gb122, 2, none⟩ = some (.int .i64 0) := (blk_cell BK122.out 2).trans rfl; have hcz21_3 : w20.cell? ⟨gb122, 3, none⟩ = some (.int .i64 0) := (blk_cell BK122.out 3).trans rfl; have hcz21_4 : w20.cell? ⟨gb122, 4, none⟩ = some (.int .i64 0) := (blk_cell BK122.out 4).trans rfl; have hcz21_5 : w20.cell? ⟨gb122, 5, none⟩ = some (.int .i64 0) := (blk_cell BK122.out 5).trans rfl; have hfz21_0 := blk_frozen BK122.out 0; have hfz21_1 := blk_frozen BK122.out 1; have hfz21_2 := blk_frozen BK122.out 2; have hfz21_3 := blk_frozen BK122.out 3; have hfz21_4 := blk_frozen BK122.out 4; have hfz21_5 := blk_frozen BK122.out 5))
            have n0_ : Aside0 (((((((w20.setCell ⟨gb122, 0, none⟩ (.int .i64 ((rd_T43 l0 x10_1).f0))).setCell ⟨gb122, 1, none⟩ (.int .i64 ((rd_T43 l0 x10_1).f1))).setCell ⟨gb122, 2, none⟩ (.int .i64 ((rd_T43 l0 x10_1).f2))).setCell ⟨gb122, 3, none⟩ (.int .i64 ((rd_T43 l0 x10_1).f3))).setCell ⟨gb122, 4, none⟩ (.int .i64 ((rd_T43 l0 x10_1).f4))).setCell ⟨gb122, 5, none⟩ (.int .i64 ((rd_T43 l0 x10_1).f5))).heap[gb122]? = some (.cells #[.int .i64 ((rd_T43 l0 x10_1).f0), .int .i64 ((rd_T43 l0 x10_1).f1), .int .i64 ((rd_T43 l0 x10_1).f2), .int .i64 ((rd_T43 l0 x10_1).f3), .int .i64 ((rd_T43 l0 x10_1).f4), .int .i64 ((rd_T43 l0 x10_1).f5)] 43 (0, 0))) := ⟨by (with_reducible repeat (first | refine blk_drewN ?_ _ | refine blk_drew ?_ | refine blk_alloc ?_ _)); refine blk_put (cs := #[.int .i64 ((rd_T43 l0 x10_1).f0), .int .i64 ((rd_T43 l0 x10_1).f1), .int .i64 ((rd_T43 l0 x10_1).f2), .int .i64 ((rd_T43 l0 x10_1).f3), .int .i64 ((rd_T43 l0 x10_1).f4), .int .i64 0]) ?_ 5 _ (by first | rfl | (simp only [List.length_drop, List.length_take]; rfl)); (with_reducible repeat (first | refine blk_drewN ?_ _ | refine blk_drew ?_ | refine blk_alloc ?_ _)); refine blk_put (cs := #[.int .i64 ((rd_T43 l0 x10_1).f0), .int .i64 ((rd_T43 l0 x10_1).f1), .int .i64 ((rd_T43 l0 x10_1).f2), .int .i64 ((rd_T43 l0 x10_1).f3), .int .i64 0, .int .i64 0]) ?_ 4 _ (by first | rfl | (simp only [List.length_drop, List.length_take]; rfl)); (with_reducible repeat (first | refine blk_drewN ?_ _ | refine blk_drew ?_ | refine blk_alloc ?_ _)); refine blk_put (cs := #[.int .i64 ((rd_T43 l0 x10_1).f0), .int .i64 ((rd_T43 l0 x10_1).f1), .int .i64 ((rd_T43 l0 x10_1).f2), .int .i64 0, .int .i64 0, .int .i64 0]) ?_ 3 _ (by first | rfl | (simp only [List.length_drop, List.length_take]; rfl)); (with_reducible repeat (first | refine blk_drewN ?_ _ | refine blk_drew ?_ | refine blk_alloc ?_ _)); refine blk_put (cs := #[.int .i64 ((rd_T43 l0 x10_1).f0), .int .i64 ((rd_T43 l0 x10_1).f1), .int .i64 0, .int .i64 0, .int .i64 0, .int .i64 0]) ?_ 2 _ (by first | rfl | (simp only [List.length_drop, List.length_take]; rfl)); (with_reducible repeat (first | refine blk_drewN ?_ _ | refine blk_drew ?_ | refine blk_alloc ?_ _)); refine blk_put (cs := #[.int .i64 ((rd_T43 l0 x10_1).f0), .int .i64 0, .int .i64 0, .int .i64 0, .int .i64 0, .int .i64 0]) ?_ 1 _ (by first | rfl | (simp only [List.length_drop, List.length_take]; rfl)); (with_reducible repeat (first | refine blk_drewN ?_ _ | refine blk_drew ?_ | refine blk_alloc ?_ _)); refine blk_put (cs := #[.int .i64 0, .int .i64 0, .int .i64 0, .int .i64 0, .int .i64 0, .int .i64 0]) ?_ 0 _ (by first | rfl | (simp only [List.length_drop, List.length_take]; rfl)); (with_reducible repeat (first | refine blk_drewN ?_ _ | refine blk_drew ?_ | refine blk_alloc ?_ _)); exact BK122.out⟩
            have n1_ : Aside0 (Below w.heap.size w ((((((w20.setCell ⟨gb122, 0, none⟩ (.int .i64 ((rd_T43 l0 x10_1).f0))).setCell ⟨gb122, 1, none⟩ (.int .i64 ((rd_T43 l0 x10_1).f1))).setCell ⟨gb122, 2, none⟩ (.int .i64 ((rd_T43 l0 x10_1).f2))).setCell ⟨gb122, 3, none⟩ (.int .i64 ((rd_T43 l0 x10_1).f3))).setCell ⟨gb122, 4, none⟩ (.int .i64 ((rd_T43 l0 x10_1).f4))).setCell ⟨gb122, 5, none⟩ (.int .i64 ((rd_T43 l0 x10_1).f5)))) := ⟨by exact zh1_ HB.out GE122.out⟩
            (try clear BK122)
            (try clear HB)
            generalize ((((((w20.setCell ⟨gb122, 0, none⟩ (.int .i64 ((rd_T43 l0 x10_1).f0))).setCell ⟨gb122, 1, none⟩ (.int .i64 ((rd_T43 l0 x10_1).f1))).setCell ⟨gb122, 2, none⟩ (.int .i64 ((rd_T43 l0 x10_1).f2))).setCell ⟨gb122, 3, none⟩ (.int .i64 ((rd_T43 l0 x10_1).f3))).setCell ⟨gb122, 4, none⟩ (.int .i64 ((rd_T43 l0 x10_1).f4))).setCell ⟨gb122, 5, none⟩ (.int .i64 ((rd_T43 l0 x10_1).f5))) = w22 at n0_ n1_ ⊢
            have BK122 := n0_
            have HB := n1_
            clear n0_ n1_
            have n0_ := Aside0.mk (blk_drew BK122.out)
            have n1_ := Aside0.mk (below_drew1 HB.out)
            clear BK122 HB
            have BK122 := n0_
            have HB := n1_
            clear n0_ n1_
            have p124 : 0 ≤ ((ji9) : Int) := of_decide_eq_true za_
            have q124 : (ji9) < (l0.length : Int) := of_decide_eq_true za_
            obtain ⟨ad124, e124, hx124_0, hx124_1, hx124_2, hx124_3, hx124_4, hx124_5⟩ := at_T43 HR0.out (ji9) p124 q124
            have hw124_5 := hx124_5
            have hw124_4 := hx124_4
            have hw124_3 := hx124_3
            have hw124_2 := hx124_2
            have hw124_1 := hx124_1
            have hw124_0 := hx124_0
            obtain rfl : ad121 = ad124 := (by injection e124)
            replace hx124_0 := zx_ HB.out hx124_0
            replace hx124_1 := zx_ HB.out hx124_1
            replace hx124_2 := zx_ HB.out hx124_2
            replace hx124_3 := zx_ HB.out hx124_3
            replace hx124_4 := zx_ HB.out hx124_4
            replace hx124_5 := zx_ HB.out hx124_5
            replace p124 := eq_true p124
            replace q124 := eq_true q124
            refine start_ (n := 17) (S := fun w' => w'.cell? ⟨gb122, 0, none⟩ = some (.int .i64 ((rd_T43 l0 x10_1).f0)) ∧ w'.cell? ⟨gb122, 1, none⟩ = some (.int .i64 ((rd_T43 l0 x10_1).f1)) ∧ w'.cell? ⟨gb122, 2, none⟩ = some (.int .i64 ((rd_T43 l0 x10_1).f2)) ∧ w'.cell? ⟨gb122, 3, none⟩ = some (.int .i64 ((rd_T43 l0 x10_1).f3)) ∧ w'.cell? ⟨gb122, 4, none⟩ = some (.int .i64 ((rd_T43 l0 x10_1).f4)) ∧ w'.cell? ⟨gb122, 5, none⟩ = some (.int .i64 ((rd_T43 l0 x10_1).f5)) ∧ w'.cell? (ad121.add (((ji9)).toNat * 6)) = some (.int .i64 ((rd_T43 l0 (ji9)).f0)) ∧ w'.cell? ⟨(ad121.add (((ji9)).toNat * 6)).block, (ad121.add (((ji9)).toNat * 6)).off + 1, none⟩ = some (.int .i64 ((rd_T43 l0 (ji9)).f1)) ∧ w'.cell? ⟨(ad121.add (((ji9)).toNat * 6)).block, (ad121.add (((ji9)).toNat * 6)).off + 2, none⟩ = some (.int .i64 ((rd_T43 l0 (ji9)).f2)) ∧ w'.cell? ⟨(ad121.add (((ji9)).toNat * 6)).block, (ad121.add (((ji9)).toNat * 6)).off + 3, none⟩ = some (.int .i64 ((rd_T43 l0 (ji9)).f3)) ∧ w'.cell? ⟨(ad121.add (((ji9)).toNat * 6)).block, (ad121.add (((ji9)).toNat * 6)).off + 4, none⟩ = some (.int .i64 ((rd_T43 l0 (ji9)).f4)) ∧ w'.cell? ⟨(ad121.add (((ji9)).toNat * 6)).block, (ad121.add (((ji9)).toNat * 6)).off + 5, none⟩ = some (.int .i64 ((rd_T43 l0 (ji9)).f5))) (ds := []) (zB 0 17) (by kernel_rfl) rfl rfl ⟨(blk_cell BK122.out 0).trans rfl, (blk_cell BK122.out 1).trans rfl, (blk_cell BK122.out 2).trans rfl, (blk_cell BK122.out 3).trans rfl, (blk_cell BK122.out 4).trans rfl, (blk_cell BK122.out 5).trans rfl, ((HB.out.cell (World.block_lt_of_cell? w _ hw124_0)).trans hw124_0), ((HB.out.cell (World.block_lt_of_cell? w _ hw124_1)).trans hw124_1), ((HB.out.cell (World.block_lt_of_cell? w _ hw124_2)).trans hw124_2), ((HB.out.cell (World.block_lt_of_cell? w _ hw124_3)).trans hw124_3), ((HB.out.cell (World.block_lt_of_cell? w _ hw124_4)).trans hw124_4), ((HB.out.cell (World.block_lt_of_cell? w _ hw124_5)).trans hw124_5)⟩ (fun hHeld => ?_); refine with_tabW stock_Check.tab6 stock_Check.bits6 (fun HT_ HW_ => ?_)
            generalize w22.drew = w23 at BK122 HB hx124_0 hx124_1 hx124_2 hx124_3 hx124_4 hx124_5 hHeld ⊢
            refine zta 0 (some 15) (zB 1 16) (take_ofW HT_.out HW_.out (by kernel_rfl)) hHeld ?_
            refine one_ (i := 1) (N := some 16) (zB 2 15) rfl rfl (one_of HT_.out (by kernel_rfl)) (by decide) (fun K hK => ?_)
            refine goes_ Tryd.func18 (by kernel_rfl) rfl #[.agg #[.int .i64 ((rd_T43 l0 x10_1).f0), .int .i64 ((rd_T43 l0 x10_1).f1), .int .i64 ((rd_T43 l0 x10_1).f2), .int .i64 ((rd_T43 l0 x10_1).f3), .int .i64 ((rd_T43 l0 x10_1).f4), .int .i64 ((rd_T43 l0 x10_1).f5)]] (by rfl) rfl rfl zl_ ?_
            with_reducible refine (stock_made.calls k1 ((rd_T43 l0 x10_1).f0) ((rd_T43 l0 x10_1).f1) ((rd_T43 l0 x10_1).f2) ((rd_T43 l0 x10_1).f3) ((rd_T43 l0 x10_1).f4) ((rd_T43 l0 x10_1).f5) true _ A6.out).mono ?_
            rintro e w24 ⟨rfl, hb⟩
            refine ⟨_, rfl, ?_⟩
            have n0_ := Aside0.mk (blk_below (zb_ BK122.out) hb)
            have n1_ := Aside0.mk (below_step (zh1_ HB.out GE122.out) hb)
            clear BK122 HB
            have BK122 := n0_
            have HB := n1_
            clear n0_ n1_
            (try clear hb)
            (try clear hb2)
            (try clear hk)
            (try clear hi)
            refine hK.out _ _ ⟨(blk_cell BK122.out 0).trans rfl, (blk_cell BK122.out 1).trans rfl, (blk_cell BK122.out 2).trans rfl, (blk_cell BK122.out 3).trans rfl, (blk_cell BK122.out 4).trans rfl, (blk_cell BK122.out 5).trans rfl, ((HB.out.cell (World.block_lt_of_cell? w _ hw124_0)).trans hw124_0), ((HB.out.cell (World.block_lt_of_cell? w _ hw124_1)).trans hw124_1), ((HB.out.cell (World.block_lt_of_cell? w _ hw124_2)).trans hw124_2), ((HB.out.cell (World.block_lt_of_cell? w _ hw124_3)).trans hw124_3), ((HB.out.cell (World.block_lt_of_cell? w _ hw124_4)).trans hw124_4), ((HB.out.cell (World.block_lt_of_cell? w _ hw124_5)).trans hw124_5)⟩ (fun hHeld => ?_)
            clear hK K
            refine zno 16 ?_
            refine zpu 2 (some 17) (zB 3 14) (any_of HT_.out (by kernel_rfl)) ?_
            refine zpu 3 (some 18) (zB 4 13) (any_of HT_.out (by kernel_rfl)) ?_
            refine zpu 4 (some 19) (zB 5 12) (any_of HT_.out (by kernel_rfl)) ?_
            refine zpu 5 (some 20) (zB 6 11) (any_of HT_.out (by kernel_rfl)) ?_
            refine zpu 6 (some 21) (zB 7 10) (any_of HT_.out (by kernel_rfl)) ?_
            refine zpu 7 (some 22) (zB 8 9) (any_of HT_.out (by kernel_rfl)) ?_
            refine zpu 8 (some 23) (zB 9 8) (any_of HT_.out (by kernel_rfl)) ?_
            refine zpu 9 (some 24) (zB 10 7) (any_of HT_.out (by kernel_rfl)) ?_
            refine zpu 10 (some 25) (zB 11 6) (any_of HT_.out (by kernel_rfl)) ?_
            refine zta 11 (some 26) (zB 12 5) (take_ofW HT_.out HW_.out (by kernel_rfl)) hHeld ?_
            refine zta 12 (some 27) (zB 13 4) (take_ofW HT_.out HW_.out (by kernel_rfl)) hHeld ?_
            refine one_ (i := 13) (N := some 28) (zB 14 3) rfl rfl (one_of HT_.out (by kernel_rfl)) (by decide) (fun K hK => ?_)
            refine goes_ Tryd.func19 (by kernel_rfl) rfl #[.agg #[.int .i64 ((rd_T43 l0 (ji9)).f0), .int .i64 ((rd_T43 l0 (ji9)).f1), .int .i64 ((rd_T43 l0 (ji9)).f2), .int .i64 ((rd_T43 l0 (ji9)).f3), .int .i64 ((rd_T43 l0 (ji9)).f4), .int .i64 ((rd_T43 l0 (ji9)).f5)], .agg #[.int .i64 ((rd_T43 l0 x10_1).f0), .int .i64 ((rd_T43 l0 x10_1).f1), .int .i64 ((rd_T43 l0 x10_1).f2), .int .i64 ((rd_T43 l0 x10_1).f3), .int .i64 ((rd_T43 l0 x10_1).f4), .int .i64 ((rd_T43 l0 x10_1).f5)]] (by rfl) rfl rfl (by (try simp only [List.map_toArray, List.map_cons, List.map_nil]); first | done | (simp only [hji9]; rfl) | rfl | (simp only [List.length_drop, List.length_take]; rfl)) ?_
            with_reducible refine (stock_order.calls k1 ((rd_T43 l0 (ji9)).f0) ((rd_T43 l0 (ji9)).f1) ((rd_T43 l0 (ji9)).f2) ((rd_T43 l0 (ji9)).f3) ((rd_T43 l0 (ji9)).f4) ((rd_T43 l0 (ji9)).f5) ((rd_T43 l0 x10_1).f0) ((rd_T43 l0 x10_1).f1) ((rd_T43 l0 x10_1).f2) ((rd_T43 l0 x10_1).f3) ((rd_T43 l0 x10_1).f4) ((rd_T43 l0 x10_1).f5) t125 _ A12.out).mono ?_
            rintro e w25 ⟨rfl, hb⟩
            refine ⟨_, rfl, ?_⟩
            have n0_ := Aside0.mk (blk_below (zb_ BK122.out) hb)
            have n1_ := Aside0.mk (below_step (zh1_ HB.out GE122.out) hb)
            clear BK122 HB
            have BK122 := n0_
            have HB := n1_
            clear n0_ n1_
            (try clear hb)
            (try clear hb2)
            (try clear hk)
            (try clear hi)
            refine hK.out _ _ ⟨(blk_cell BK122.out 0).trans rfl, (blk_cell BK122.out 1).trans rfl, (blk_cell BK122.out 2).trans rfl, (blk_cell BK122.out 3).trans rfl, (blk_cell BK122.out 4).trans rfl, (blk_cell BK122.out 5).trans rfl, ((HB.out.cell (World.block_lt_of_cell? w _ hw124_0)).trans hw124_0), ((HB.out.cell (World.block_lt_of_cell? w _ hw124_1)).trans hw124_1), ((HB.out.cell (World.block_lt_of_cell? w _ hw124_2)).trans hw124_2), ((HB.out.cell (World.block_lt_of_cell? w _ hw124_3)).trans hw124_3), ((HB.out.cell (World.block_lt_of_cell? w _ hw124_4)).trans hw124_4), ((HB.out.cell (World.block_lt_of_cell? w _ hw124_5)).trans hw124_5)⟩ (fun hHeld => ?_)
            clear hK K
            refine zno 28 ?_
            refine zpu 14 (some 29) (zB 15 2) (any_of HT_.out (by kernel_rfl)) ?_
            refine zpu 15 (some 30) (zB 16 1) (any_of HT_.out (by kernel_rfl)) ?_
            refine zpu 16 (some 31) (zB 17 0) (any_of HT_.out (by kernel_rfl)) ?_
            refine done_ (done_of HT_.out (by kernel_rfl)) ?_
            try go_wp2
            go_roundg k1
            case measure => have := HK1.out; omega
            case rel => exact ⟨(wrap64 (x10_1 + 1)), (by first | rfl | (simp; done) | (simp [*]; done) | (simp only [i64_w]; done)), H', ⟨by have := HK1.out; omega⟩, ⟨by exact zh1_ HB.out GE122.out⟩⟩
          ·rw [if_neg c11] at H
           cases H
         ·rw [if_neg c10] at H
          cases H
        ·rw [if_neg c8] at H
         have c8b0 : decide (0 < x10_1) = false := decide_eq_false c8
         clear c8
         have H' := Aside0.mk H
         clear H
         have p121 : 0 ≤ (x10_1 : Int) := of_decide_eq_true za_
         have q121 : x10_1 < (l0.length : Int) := of_decide_eq_true za_
         obtain ⟨ad121, e121, hx121_0, hx121_1, hx121_2, hx121_3, hx121_4, hx121_5⟩ := at_T43 HR0.out x10_1 p121 q121
         cases e121
         replace hx121_0 := zx_ HB.out hx121_0
         replace hx121_1 := zx_ HB.out hx121_1
         replace hx121_2 := zx_ HB.out hx121_2
         replace hx121_3 := zx_ HB.out hx121_3
         replace hx121_4 := zx_ HB.out hx121_4
         replace hx121_5 := zx_ HB.out hx121_5
         replace p121 := eq_true p121
         replace q121 := eq_true q121
         try go_wp2_with (first | ((with_reducible refine gate_dst (N := 4) rfl ?_); refine box_event ?hg (N := 4) ?hd (cs := #[.int .i64 0, .int .i64 0, .int .i64 0, .int .i64 0, .int .i64 0, .int .i64 0]) (t := 43) ?hr ?_; (case hd => rfl); (case hg => rfl); (case hr => first | (go_simp; done) | (go_simp; rfl)); intro gb122 hg w26 hbox hb; have BK122 := Aside0.mk (hbox); have GW122 := Aside0.mk ((by rw [hg]; exact (below_size (zh0_ HB.out)) : w.heap.size ≤ gb122)); have GE122 := Aside0.mk ((by rw [hg]; exact (below_size (zh0_ HB.out)) : w.heap.size ≤ gb122)); replace HB := Aside0.mk (below_step (zh0_ HB.out) hb); clear hb hbox hg; have hcz27_0 : w26.cell? ⟨gb122, 0, none⟩ = some (.int .i64 0) := (blk_cell BK122.out 0).trans rfl; have hcz27_1 : w26.cell? ⟨gb122, 1, none⟩ = some (.int .i64 0) := (blk_cell BK122.out 1).trans rfl; have hcz27_2 : w26.cell? ⟨gb122, 2, none⟩ = some (.int .i64 0) := (blk_cell BK122.out 2).trans rfl; have hcz27_3 : w26.cell? ⟨gb122, 3, none⟩ = some (.int .i64 0) := (blk_cell BK122.out 3).trans rfl; have hcz27_4 : w26.cell? ⟨gb122, 4, none⟩ = some (.int .i64 0) := (blk_cell BK122.out 4).trans rfl; have hcz27_5 : w26.cell? ⟨gb122, 5, none⟩ = some (.int .i64 0) := (blk_cell BK122.out 5).trans rfl; have hfz27_0 := blk_frozen BK122.out 0; have hfz27_1 := blk_frozen BK122.out 1; have hfz27_2 := blk_frozen BK122.out 2; have hfz27_3 := blk_frozen BK122.out 3; have hfz27_4 := blk_frozen BK122.out 4; have hfz27_5 := blk_frozen BK122.out 5))
         have n0_ : Aside0 (((((((w26.setCell ⟨gb122, 0, none⟩ (.int .i64 ((rd_T43 l0 x10_1).f0))).setCell ⟨gb122, 1, none⟩ (.int .i64 ((rd_T43 l0 x10_1).f1))).setCell ⟨gb122, 2, none⟩ (.int .i64 ((rd_T43 l0 x10_1).f2))).setCell ⟨gb122, 3, none⟩ (.int .i64 ((rd_T43 l0 x10_1).f3))).setCell ⟨gb122, 4, none⟩ (.int .i64 ((rd_T43 l0 x10_1).f4))).setCell ⟨gb122, 5, none⟩ (.int .i64 ((rd_T43 l0 x10_1).f5))).heap[gb122]? = some (.cells #[.int .i64 ((rd_T43 l0 x10_1).f0), .int .i64 ((rd_T43 l0 x10_1).f1), .int .i64 ((rd_T43 l0 x10_1).f2), .int .i64 ((rd_T43 l0 x10_1).f3), .int .i64 ((rd_T43 l0 x10_1).f4), .int .i64 ((rd_T43 l0 x10_1).f5)] 43 (0, 0))) := ⟨by (with_reducible repeat (first | refine blk_drewN ?_ _ | refine blk_drew ?_ | refine blk_alloc ?_ _)); refine blk_put (cs := #[.int .i64 ((rd_T43 l0 x10_1).f0), .int .i64 ((rd_T43 l0 x10_1).f1), .int .i64 ((rd_T43 l0 x10_1).f2), .int .i64 ((rd_T43 l0 x10_1).f3), .int .i64 ((rd_T43 l0 x10_1).f4), .int .i64 0]) ?_ 5 _ (by first | rfl | (simp only [List.length_drop, List.length_take]; rfl)); (with_reducible repeat (first | refine blk_drewN ?_ _ | refine blk_drew ?_ | refine blk_alloc ?_ _)); refine blk_put (cs := #[.int .i64 ((rd_T43 l0 x10_1).f0), .int .i64 ((rd_T43 l0 x10_1).f1), .int .i64 ((rd_T43 l0 x10_1).f2), .int .i64 ((rd_T43 l0 x10_1).f3), .int .i64 0, .int .i64 0]) ?_ 4 _ (by first | rfl | (simp only [List.length_drop, List.length_take]; rfl)); (with_reducible repeat (first | refine blk_drewN ?_ _ | refine blk_drew ?_ | refine blk_alloc ?_ _)); refine blk_put (cs := #[.int .i64 ((rd_T43 l0 x10_1).f0), .int .i64 ((rd_T43 l0 x10_1).f1), .int .i64 ((rd_T43 l0 x10_1).f2), .int .i64 0, .int .i64 0, .int .i64 0]) ?_ 3 _ (by first | rfl | (simp only [List.length_drop, List.length_take]; rfl)); (with_reducible repeat (first | refine blk_drewN ?_ _ | refine blk_drew ?_ | refine blk_alloc ?_ _)); refine blk_put (cs := #[.int .i64 ((rd_T43 l0 x10_1).f0), .int .i64 ((rd_T43 l0 x10_1).f1), .int .i64 0, .int .i64 0, .int .i64 0, .int .i64 0]) ?_ 2 _ (by first | rfl | (simp only [List.length_drop, List.length_take]; rfl)); (with_reducible repeat (first | refine blk_drewN ?_ _ | refine blk_drew ?_ | refine blk_alloc ?_ _)); refine blk_put (cs := #[.int .i64 ((rd_T43 l0 x10_1).f0), .int .i64 0, .int .i64 0, .int .i64 0, .int .i64 0, .int .i64 0]) ?_ 1 _ (by first | rfl | (simp only [List.length_drop, List.length_take]; rfl)); (with_reducible repeat (first | refine blk_drewN ?_ _ | refine blk_drew ?_ | refine blk_alloc ?_ _)); refine blk_put (cs := #[.int .i64 0, .int .i64 0, .int .i64 0, .int .i64 0, .int .i64 0, .int .i64 0]) ?_ 0 _ (by first | rfl | (simp only [List.length_drop, List.length_take]; rfl)); (with_reducible repeat (first | refine blk_drewN ?_ _ | refine blk_drew ?_ | refine blk_alloc ?_ _)); exact BK122.out⟩
         have n1_ : Aside0 (Below w.heap.size w ((((((w26.setCell ⟨gb122, 0, none⟩ (.int .i64 ((rd_T43 l0 x10_1).f0))).setCell ⟨gb122, 1, none⟩ (.int .i64 ((rd_T43 l0 x10_1).f1))).setCell ⟨gb122, 2, none⟩ (.int .i64 ((rd_T43 l0 x10_1).f2))).setCell ⟨gb122, 3, none⟩ (.int .i64 ((rd_T43 l0 x10_1).f3))).setCell ⟨gb122, 4, none⟩ (.int .i64 ((rd_T43 l0 x10_1).f4))).setCell ⟨gb122, 5, none⟩ (.int .i64 ((rd_T43 l0 x10_1).f5)))) := ⟨by exact zh1_ HB.out GE122.out⟩
         (try clear BK122)
         (try clear HB)
         generalize ((((((w26.setCell ⟨gb122, 0, none⟩ (.int .i64 ((rd_T43 l0 x10_1).f0))).setCell ⟨gb122, 1, none⟩ (.int .i64 ((rd_T43 l0 x10_1).f1))).setCell ⟨gb122, 2, none⟩ (.int .i64 ((rd_T43 l0 x10_1).f2))).setCell ⟨gb122, 3, none⟩ (.int .i64 ((rd_T43 l0 x10_1).f3))).setCell ⟨gb122, 4, none⟩ (.int .i64 ((rd_T43 l0 x10_1).f4))).setCell ⟨gb122, 5, none⟩ (.int .i64 ((rd_T43 l0 x10_1).f5))) = w28 at n0_ n1_ ⊢
         have BK122 := n0_
         have HB := n1_
         clear n0_ n1_
         have n0_ := Aside0.mk (blk_drew BK122.out)
         have n1_ := Aside0.mk (below_drew1 HB.out)
         clear BK122 HB
         have BK122 := n0_
         have HB := n1_
         clear n0_ n1_
         refine start_ (n := 17) (S := fun w' => w'.cell? ⟨gb122, 0, none⟩ = some (.int .i64 ((rd_T43 l0 x10_1).f0)) ∧ w'.cell? ⟨gb122, 1, none⟩ = some (.int .i64 ((rd_T43 l0 x10_1).f1)) ∧ w'.cell? ⟨gb122, 2, none⟩ = some (.int .i64 ((rd_T43 l0 x10_1).f2)) ∧ w'.cell? ⟨gb122, 3, none⟩ = some (.int .i64 ((rd_T43 l0 x10_1).f3)) ∧ w'.cell? ⟨gb122, 4, none⟩ = some (.int .i64 ((rd_T43 l0 x10_1).f4)) ∧ w'.cell? ⟨gb122, 5, none⟩ = some (.int .i64 ((rd_T43 l0 x10_1).f5))) (ds := []) (zB 0 17) (by kernel_rfl) rfl rfl ⟨(blk_cell BK122.out 0).trans rfl, (blk_cell BK122.out 1).trans rfl, (blk_cell BK122.out 2).trans rfl, (blk_cell BK122.out 3).trans rfl, (blk_cell BK122.out 4).trans rfl, (blk_cell BK122.out 5).trans rfl⟩ (fun hHeld => ?_); refine with_tabW stock_Check.tab6 stock_Check.bits6 (fun HT_ HW_ => ?_)
         generalize w28.drew = w29 at BK122 HB hHeld ⊢
         refine zta 0 (some 15) (zB 1 16) (take_ofW HT_.out HW_.out (by kernel_rfl)) hHeld ?_
         refine one_ (i := 1) (N := some 16) (zB 2 15) rfl rfl (one_of HT_.out (by kernel_rfl)) (by decide) (fun K hK => ?_)
         refine goes_ Tryd.func18 (by kernel_rfl) rfl #[.agg #[.int .i64 ((rd_T43 l0 x10_1).f0), .int .i64 ((rd_T43 l0 x10_1).f1), .int .i64 ((rd_T43 l0 x10_1).f2), .int .i64 ((rd_T43 l0 x10_1).f3), .int .i64 ((rd_T43 l0 x10_1).f4), .int .i64 ((rd_T43 l0 x10_1).f5)]] (by rfl) rfl rfl zl_ ?_
         with_reducible refine (stock_made.calls k1 ((rd_T43 l0 x10_1).f0) ((rd_T43 l0 x10_1).f1) ((rd_T43 l0 x10_1).f2) ((rd_T43 l0 x10_1).f3) ((rd_T43 l0 x10_1).f4) ((rd_T43 l0 x10_1).f5) true _ A6.out).mono ?_
         rintro e w30 ⟨rfl, hb⟩
         refine ⟨_, rfl, ?_⟩
         have n0_ := Aside0.mk (blk_below (zb_ BK122.out) hb)
         have n1_ := Aside0.mk (below_step (zh1_ HB.out GE122.out) hb)
         clear BK122 HB
         have BK122 := n0_
         have HB := n1_
         clear n0_ n1_
         (try clear hb)
         (try clear hb2)
         (try clear hk)
         (try clear hi)
         refine hK.out _ _ ⟨(blk_cell BK122.out 0).trans rfl, (blk_cell BK122.out 1).trans rfl, (blk_cell BK122.out 2).trans rfl, (blk_cell BK122.out 3).trans rfl, (blk_cell BK122.out 4).trans rfl, (blk_cell BK122.out 5).trans rfl⟩ (fun hHeld => ?_)
         clear hK K
         refine zno 16 ?_
         refine zpu 2 (some 17) (zB 3 14) (any_of HT_.out (by kernel_rfl)) ?_
         refine zpu 3 (some 18) (zB 4 13) (any_of HT_.out (by kernel_rfl)) ?_
         refine zpu 4 (some 19) (zB 5 12) (any_of HT_.out (by kernel_rfl)) ?_
         refine zpu 5 (some 20) (zB 6 11) (any_of HT_.out (by kernel_rfl)) ?_
         refine zpu 6 (some 21) (zB 7 10) (any_of HT_.out (by kernel_rfl)) ?_
         refine pure_ (i := 7) (N := some 22) (v := undef) (a' := ?_) (zB 8 9) rfl rfl (any_of HT_.out (by kernel_rfl)) (fun _ _ _ h => h) (Or.inr ⟨by rfl, rfl⟩) ?_ ?_
         rotate_left
         ·simp only [Act.put, zt0, zt1, zt2, i64_w, i32_w]
          rfl
         refine pure_ (i := 8) (N := some 23) (v := undef) (a' := ?_) (zB 9 8) rfl rfl (any_of HT_.out (by kernel_rfl)) (fun _ _ _ h => h) (Or.inr ⟨by rfl, rfl⟩) ?_ ?_
         rotate_left
         ·simp only [Act.put, zt0, zt1, zt2, i64_w, i32_w]
          rfl
         refine pure_ (i := 9) (N := some 24) (v := undef) (a' := ?_) (zB 10 7) rfl rfl (any_of HT_.out (by kernel_rfl)) (fun _ _ _ h => h) (Or.inr ⟨by rfl, rfl⟩) ?_ ?_
         rotate_left
         ·simp only [Act.put, zt0, zt1, zt2, i64_w, i32_w]
          rfl
         refine pure_ (i := 10) (N := some 25) (v := undef) (a' := ?_) (zB 11 6) rfl rfl (any_of HT_.out (by kernel_rfl)) (fun _ _ _ h => h) (Or.inr ⟨by rfl, rfl⟩) ?_ ?_
         rotate_left
         ·simp only [Act.put, zt0, zt1, zt2, i64_w, i32_w]
          rfl
         refine pure_ (i := 11) (N := some 26) (v := undef) (a' := ?_) (zB 12 5) rfl rfl (any_of HT_.out (by kernel_rfl)) (fun _ _ _ h => h) (Or.inr ⟨by rfl, rfl⟩) ?_ ?_
         rotate_left
         ·simp only [Act.put, zt0, zt1, zt2, i64_w, i32_w]
          rfl
         refine pure_ (i := 12) (N := some 27) (v := undef) (a' := ?_) (zB 13 4) rfl rfl (any_of HT_.out (by kernel_rfl)) (fun _ _ _ h => h) (Or.inr ⟨by rfl, rfl⟩) ?_ ?_
         rotate_left
         ·simp only [Act.put, zt0, zt1, zt2, i64_w, i32_w]
          rfl
         refine pure_ (i := 13) (N := some 28) (v := undef) (a' := ?_) (zB 14 3) rfl rfl (any_of HT_.out (by kernel_rfl)) (fun _ _ _ h => h) (Or.inr ⟨by rfl, rfl⟩) ?_ ?_
         rotate_left
         ·simp only [Act.put, zt0, zt1, zt2, i64_w, i32_w]
          rfl
         refine pure_ (i := 14) (N := some 29) (v := undef) (a' := ?_) (zB 15 2) rfl rfl (any_of HT_.out (by kernel_rfl)) (fun _ _ _ h => h) (Or.inr ⟨by rfl, rfl⟩) ?_ ?_
         rotate_left
         ·simp only [Act.put, zt0, zt1, zt2, i64_w, i32_w]
          rfl
         refine zpu 15 (some 30) (zB 16 1) (any_of HT_.out (by kernel_rfl)) ?_
         refine zpu 16 (some 31) (zB 17 0) (any_of HT_.out (by kernel_rfl)) ?_
         refine done_ (done_of HT_.out (by kernel_rfl)) ?_
         try go_wp2
         go_roundg k1
         case measure => have := HK1.out; omega
         case rel => exact ⟨(wrap64 (x10_1 + 1)), (by first | rfl | (simp; done) | (simp [*]; done) | (simp only [i64_w]; done)), H', ⟨by have := HK1.out; omega⟩, ⟨by exact zh1_ HB.out GE122.out⟩⟩
       ·replace c7 := Bool.eq_false_iff.mpr c7
        subst c7
        replace H := (if_neg (show ¬ (false = true) by decide)).symm.trans H
        obtain rfl := Option.some.inj H
        have p121 : 0 ≤ (x10_1 : Int) := of_decide_eq_true za_
        have q121 : x10_1 < (l0.length : Int) := of_decide_eq_true za_
        obtain ⟨ad121, e121, hx121_0, hx121_1, hx121_2, hx121_3, hx121_4, hx121_5⟩ := at_T43 HR0.out x10_1 p121 q121
        cases e121
        replace hx121_0 := zx_ HB.out hx121_0
        replace hx121_1 := zx_ HB.out hx121_1
        replace hx121_2 := zx_ HB.out hx121_2
        replace hx121_3 := zx_ HB.out hx121_3
        replace hx121_4 := zx_ HB.out hx121_4
        replace hx121_5 := zx_ HB.out hx121_5
        replace p121 := eq_true p121
        replace q121 := eq_true q121
        try go_wp2_with (first | ((with_reducible refine gate_dst (N := 4) rfl ?_); refine box_event ?hg (N := 4) ?hd (cs := #[.int .i64 0, .int .i64 0, .int .i64 0, .int .i64 0, .int .i64 0, .int .i64 0]) (t := 43) ?hr ?_; (case hd => rfl); (case hg => rfl); (case hr => first | (go_simp; done) | (go_simp; rfl)); intro gb122 hg w31 hbox hb; have BK122 := Aside0.mk (hbox); have GW122 := Aside0.mk ((by rw [hg]; exact (below_size (zh0_ HB.out)) : w.heap.size ≤ gb122)); have GE122 := Aside0.mk ((by rw [hg]; exact (below_size (zh0_ HB.out)) : w.heap.size ≤ gb122)); replace HB := Aside0.mk (below_step (zh0_ HB.out) hb); clear hb hbox hg; have hcz32_0 : w31.cell? ⟨gb122, 0, none⟩ = some (.int .i64 0) := (blk_cell BK122.out 0).trans rfl; have hcz32_1 : w31.cell? ⟨gb122, 1, none⟩ = some (.int .i64 0) := (blk_cell BK122.out 1).trans rfl; have hcz32_2 : w31.cell? ⟨gb122, 2, none⟩ = some (.int .i64 0) := (blk_cell BK122.out 2).trans rfl; have hcz32_3 : w31.cell? ⟨gb122, 3, none⟩ = some (.int .i64 0) := (blk_cell BK122.out 3).trans rfl; have hcz32_4 : w31.cell? ⟨gb122, 4, none⟩ = some (.int .i64 0) := (blk_cell BK122.out 4).trans rfl; have hcz32_5 : w31.cell? ⟨gb122, 5, none⟩ = some (.int .i64 0) := (blk_cell BK122.out 5).trans rfl; have hfz32_0 := blk_frozen BK122.out 0; have hfz32_1 := blk_frozen BK122.out 1; have hfz32_2 := blk_frozen BK122.out 2; have hfz32_3 := blk_frozen BK122.out 3; have hfz32_4 := blk_frozen BK122.out 4; have hfz32_5 := blk_frozen BK122.out 5))
        have n0_ : Aside0 (((((((w31.setCell ⟨gb122, 0, none⟩ (.int .i64 ((rd_T43 l0 x10_1).f0))).setCell ⟨gb122, 1, none⟩ (.int .i64 ((rd_T43 l0 x10_1).f1))).setCell ⟨gb122, 2, none⟩ (.int .i64 ((rd_T43 l0 x10_1).f2))).setCell ⟨gb122, 3, none⟩ (.int .i64 ((rd_T43 l0 x10_1).f3))).setCell ⟨gb122, 4, none⟩ (.int .i64 ((rd_T43 l0 x10_1).f4))).setCell ⟨gb122, 5, none⟩ (.int .i64 ((rd_T43 l0 x10_1).f5))).heap[gb122]? = some (.cells #[.int .i64 ((rd_T43 l0 x10_1).f0), .int .i64 ((rd_T43 l0 x10_1).f1), .int .i64 ((rd_T43 l0 x10_1).f2), .int .i64 ((rd_T43 l0 x10_1).f3), .int .i64 ((rd_T43 l0 x10_1).f4), .int .i64 ((rd_T43 l0 x10_1).f5)] 43 (0, 0))) := ⟨by (with_reducible repeat (first | refine blk_drewN ?_ _ | refine blk_drew ?_ | refine blk_alloc ?_ _)); refine blk_put (cs := #[.int .i64 ((rd_T43 l0 x10_1).f0), .int .i64 ((rd_T43 l0 x10_1).f1), .int .i64 ((rd_T43 l0 x10_1).f2), .int .i64 ((rd_T43 l0 x10_1).f3), .int .i64 ((rd_T43 l0 x10_1).f4), .int .i64 0]) ?_ 5 _ (by first | rfl | (simp only [List.length_drop, List.length_take]; rfl)); (with_reducible repeat (first | refine blk_drewN ?_ _ | refine blk_drew ?_ | refine blk_alloc ?_ _)); refine blk_put (cs := #[.int .i64 ((rd_T43 l0 x10_1).f0), .int .i64 ((rd_T43 l0 x10_1).f1), .int .i64 ((rd_T43 l0 x10_1).f2), .int .i64 ((rd_T43 l0 x10_1).f3), .int .i64 0, .int .i64 0]) ?_ 4 _ (by first | rfl | (simp only [List.length_drop, List.length_take]; rfl)); (with_reducible repeat (first | refine blk_drewN ?_ _ | refine blk_drew ?_ | refine blk_alloc ?_ _)); refine blk_put (cs := #[.int .i64 ((rd_T43 l0 x10_1).f0), .int .i64 ((rd_T43 l0 x10_1).f1), .int .i64 ((rd_T43 l0 x10_1).f2), .int .i64 0, .int .i64 0, .int .i64 0]) ?_ 3 _ (by first | rfl | (simp only [List.length_drop, List.length_take]; rfl)); (with_reducible repeat (first | refine blk_drewN ?_ _ | refine blk_drew ?_ | refine blk_alloc ?_ _)); refine blk_put (cs := #[.int .i64 ((rd_T43 l0 x10_1).f0), .int .i64 ((rd_T43 l0 x10_1).f1), .int .i64 0, .int .i64 0, .int .i64 0, .int .i64 0]) ?_ 2 _ (by first | rfl | (simp only [List.length_drop, List.length_take]; rfl)); (with_reducible repeat (first | refine blk_drewN ?_ _ | refine blk_drew ?_ | refine blk_alloc ?_ _)); refine blk_put (cs := #[.int .i64 ((rd_T43 l0 x10_1).f0), .int .i64 0, .int .i64 0, .int .i64 0, .int .i64 0, .int .i64 0]) ?_ 1 _ (by first | rfl | (simp only [List.length_drop, List.length_take]; rfl)); (with_reducible repeat (first | refine blk_drewN ?_ _ | refine blk_drew ?_ | refine blk_alloc ?_ _)); refine blk_put (cs := #[.int .i64 0, .int .i64 0, .int .i64 0, .int .i64 0, .int .i64 0, .int .i64 0]) ?_ 0 _ (by first | rfl | (simp only [List.length_drop, List.length_take]; rfl)); (with_reducible repeat (first | refine blk_drewN ?_ _ | refine blk_drew ?_ | refine blk_alloc ?_ _)); exact BK122.out⟩
        have n1_ : Aside0 (Below w.heap.size w ((((((w31.setCell ⟨gb122, 0, none⟩ (.int .i64 ((rd_T43 l0 x10_1).f0))).setCell ⟨gb122, 1, none⟩ (.int .i64 ((rd_T43 l0 x10_1).f1))).setCell ⟨gb122, 2, none⟩ (.int .i64 ((rd_T43 l0 x10_1).f2))).setCell ⟨gb122, 3, none⟩ (.int .i64 ((rd_T43 l0 x10_1).f3))).setCell ⟨gb122, 4, none⟩ (.int .i64 ((rd_T43 l0 x10_1).f4))).setCell ⟨gb122, 5, none⟩ (.int .i64 ((rd_T43 l0 x10_1).f5)))) := ⟨by exact zh1_ HB.out GE122.out⟩
        (try clear BK122)
        (try clear HB)
        generalize ((((((w31.setCell ⟨gb122, 0, none⟩ (.int .i64 ((rd_T43 l0 x10_1).f0))).setCell ⟨gb122, 1, none⟩ (.int .i64 ((rd_T43 l0 x10_1).f1))).setCell ⟨gb122, 2, none⟩ (.int .i64 ((rd_T43 l0 x10_1).f2))).setCell ⟨gb122, 3, none⟩ (.int .i64 ((rd_T43 l0 x10_1).f3))).setCell ⟨gb122, 4, none⟩ (.int .i64 ((rd_T43 l0 x10_1).f4))).setCell ⟨gb122, 5, none⟩ (.int .i64 ((rd_T43 l0 x10_1).f5))) = w33 at n0_ n1_ ⊢
        have BK122 := n0_
        have HB := n1_
        clear n0_ n1_
        have n0_ := Aside0.mk (blk_drew BK122.out)
        have n1_ := Aside0.mk (below_drew1 HB.out)
        clear BK122 HB
        have BK122 := n0_
        have HB := n1_
        clear n0_ n1_
        refine start_ (n := 17) (S := fun w' => w'.cell? ⟨gb122, 0, none⟩ = some (.int .i64 ((rd_T43 l0 x10_1).f0)) ∧ w'.cell? ⟨gb122, 1, none⟩ = some (.int .i64 ((rd_T43 l0 x10_1).f1)) ∧ w'.cell? ⟨gb122, 2, none⟩ = some (.int .i64 ((rd_T43 l0 x10_1).f2)) ∧ w'.cell? ⟨gb122, 3, none⟩ = some (.int .i64 ((rd_T43 l0 x10_1).f3)) ∧ w'.cell? ⟨gb122, 4, none⟩ = some (.int .i64 ((rd_T43 l0 x10_1).f4)) ∧ w'.cell? ⟨gb122, 5, none⟩ = some (.int .i64 ((rd_T43 l0 x10_1).f5))) (ds := []) (zB 0 17) (by kernel_rfl) rfl rfl ⟨(blk_cell BK122.out 0).trans rfl, (blk_cell BK122.out 1).trans rfl, (blk_cell BK122.out 2).trans rfl, (blk_cell BK122.out 3).trans rfl, (blk_cell BK122.out 4).trans rfl, (blk_cell BK122.out 5).trans rfl⟩ (fun hHeld => ?_); refine with_tabW stock_Check.tab6 stock_Check.bits6 (fun HT_ HW_ => ?_)
        generalize w33.drew = w34 at BK122 HB hHeld ⊢
        refine zta 0 (some 15) (zB 1 16) (take_ofW HT_.out HW_.out (by kernel_rfl)) hHeld ?_
        refine one_ (i := 1) (N := some 16) (zB 2 15) rfl rfl (one_of HT_.out (by kernel_rfl)) (by decide) (fun K hK => ?_)
        refine goes_ Tryd.func18 (by kernel_rfl) rfl #[.agg #[.int .i64 ((rd_T43 l0 x10_1).f0), .int .i64 ((rd_T43 l0 x10_1).f1), .int .i64 ((rd_T43 l0 x10_1).f2), .int .i64 ((rd_T43 l0 x10_1).f3), .int .i64 ((rd_T43 l0 x10_1).f4), .int .i64 ((rd_T43 l0 x10_1).f5)]] (by rfl) rfl rfl zl_ ?_
        with_reducible refine (stock_made.calls k1 ((rd_T43 l0 x10_1).f0) ((rd_T43 l0 x10_1).f1) ((rd_T43 l0 x10_1).f2) ((rd_T43 l0 x10_1).f3) ((rd_T43 l0 x10_1).f4) ((rd_T43 l0 x10_1).f5) false _ A6.out).mono ?_
        rintro e w35 ⟨rfl, hb⟩
        refine ⟨_, rfl, ?_⟩
        have n0_ := Aside0.mk (blk_below (zb_ BK122.out) hb)
        have n1_ := Aside0.mk (below_step (zh1_ HB.out GE122.out) hb)
        clear BK122 HB
        have BK122 := n0_
        have HB := n1_
        clear n0_ n1_
        (try clear hb)
        (try clear hb2)
        (try clear hk)
        (try clear hi)
        refine hK.out _ _ ⟨(blk_cell BK122.out 0).trans rfl, (blk_cell BK122.out 1).trans rfl, (blk_cell BK122.out 2).trans rfl, (blk_cell BK122.out 3).trans rfl, (blk_cell BK122.out 4).trans rfl, (blk_cell BK122.out 5).trans rfl⟩ (fun hHeld => ?_)
        clear hK K
        refine zno 16 ?_
        refine zpu 2 (some 17) (zB 3 14) (any_of HT_.out (by kernel_rfl)) ?_
        refine zpu 3 (some 18) (zB 4 13) (any_of HT_.out (by kernel_rfl)) ?_
        refine pure_ (i := 4) (N := some 19) (v := undef) (a' := ?_) (zB 5 12) rfl rfl (any_of HT_.out (by kernel_rfl)) (fun _ _ _ h => h) (Or.inr ⟨by rfl, rfl⟩) ?_ ?_
        rotate_left
        ·simp only [Act.put, zt0, zt1, zt2, i64_w, i32_w]
         rfl
        refine pure_ (i := 5) (N := some 20) (v := undef) (a' := ?_) (zB 6 11) rfl rfl (any_of HT_.out (by kernel_rfl)) (fun _ _ _ h => h) (Or.inr ⟨by rfl, rfl⟩) ?_ ?_
        rotate_left
        ·simp only [Act.put, zt0, zt1, zt2, i64_w, i32_w]
         rfl
        refine pure_ (i := 6) (N := some 21) (v := undef) (a' := ?_) (zB 7 10) rfl rfl (any_of HT_.out (by kernel_rfl)) (fun _ _ _ h => h) (Or.inr ⟨by rfl, rfl⟩) ?_ ?_
        rotate_left
        ·simp only [Act.put, zt0, zt1, zt2, i64_w, i32_w]
         rfl
        refine pure_ (i := 7) (N := some 22) (v := undef) (a' := ?_) (zB 8 9) rfl rfl (any_of HT_.out (by kernel_rfl)) (fun _ _ _ h => h) (Or.inr ⟨by rfl, rfl⟩) ?_ ?_
        rotate_left
        ·simp only [Act.put, zt0, zt1, zt2, i64_w, i32_w]
         rfl
        refine pure_ (i := 8) (N := some 23) (v := undef) (a' := ?_) (zB 9 8) rfl rfl (any_of HT_.out (by kernel_rfl)) (fun _ _ _ h => h) (Or.inr ⟨by rfl, rfl⟩) ?_ ?_
        rotate_left
        ·simp only [Act.put, zt0, zt1, zt2, i64_w, i32_w]
         rfl
        refine pure_ (i := 9) (N := some 24) (v := undef) (a' := ?_) (zB 10 7) rfl rfl (any_of HT_.out (by kernel_rfl)) (fun _ _ _ h => h) (Or.inr ⟨by rfl, rfl⟩) ?_ ?_
        rotate_left
        ·simp only [Act.put, zt0, zt1, zt2, i64_w, i32_w]
         rfl
        refine pure_ (i := 10) (N := some 25) (v := undef) (a' := ?_) (zB 11 6) rfl rfl (any_of HT_.out (by kernel_rfl)) (fun _ _ _ h => h) (Or.inr ⟨by rfl, rfl⟩) ?_ ?_
        rotate_left
        ·simp only [Act.put, zt0, zt1, zt2, i64_w, i32_w]
         rfl
        refine pure_ (i := 11) (N := some 26) (v := undef) (a' := ?_) (zB 12 5) rfl rfl (any_of HT_.out (by kernel_rfl)) (fun _ _ _ h => h) (Or.inr ⟨by rfl, rfl⟩) ?_ ?_
        rotate_left
        ·simp only [Act.put, zt0, zt1, zt2, i64_w, i32_w]
         rfl
        refine pure_ (i := 12) (N := some 27) (v := undef) (a' := ?_) (zB 13 4) rfl rfl (any_of HT_.out (by kernel_rfl)) (fun _ _ _ h => h) (Or.inr ⟨by rfl, rfl⟩) ?_ ?_
        rotate_left
        ·simp only [Act.put, zt0, zt1, zt2, i64_w, i32_w]
         rfl
        refine pure_ (i := 13) (N := some 28) (v := undef) (a' := ?_) (zB 14 3) rfl rfl (any_of HT_.out (by kernel_rfl)) (fun _ _ _ h => h) (Or.inr ⟨by rfl, rfl⟩) ?_ ?_
        rotate_left
        ·simp only [Act.put, zt0, zt1, zt2, i64_w, i32_w]
         rfl
        refine pure_ (i := 14) (N := some 29) (v := undef) (a' := ?_) (zB 15 2) rfl rfl (any_of HT_.out (by kernel_rfl)) (fun _ _ _ h => h) (Or.inr ⟨by rfl, rfl⟩) ?_ ?_
        rotate_left
        ·simp only [Act.put, zt0, zt1, zt2, i64_w, i32_w]
         rfl
        refine pure_ (i := 15) (N := some 30) (v := undef) (a' := ?_) (zB 16 1) rfl rfl (any_of HT_.out (by kernel_rfl)) (fun _ _ _ h => h) (Or.inr ⟨by rfl, rfl⟩) ?_ ?_
        rotate_left
        ·simp only [Act.put, zt0, zt1, zt2, i64_w, i32_w]
         rfl
        refine zpu 16 (some 31) (zB 17 0) (any_of HT_.out (by kernel_rfl)) ?_
        refine done_ (done_of HT_.out (by kernel_rfl)) ?_
        try go_wp2
        go_ret
        exact ⟨by first | rfl | (simp [errW_none, errW_some] <;> rfl) | (simp [*, errW_none, errW_some] <;> rfl), by exact zh1_ HB.out GE122.out⟩
      ·rw [if_neg c5] at H
       cases H
     ·rw [if_neg c4] at H
      cases H
    ·rw [if_neg c3] at H
     have c3b0 : decide (x10_1 < (l0.length : Int)) = false := decide_eq_false c3
     clear c3
     obtain rfl := Option.some.inj H
     go_wp2
     go_ret
     exact ⟨by first | rfl | (simp [errW_none, errW_some] <;> rfl) | (simp [*, errW_none, errW_some] <;> rfl), by exact zh0_ HB.out⟩
end Go.Proofs.YtdiopojnkjkgmaaDoor.Print
namespace Go.Proofs.YtdiopojnkjkgmaaDoor.Print
open Go.RowKit Go.Proofs.YtdiopojnkjkgmaaDoorW.PrintWords Go.Proofs.YtdiopojnkjkgmaaDoorW.PrintLast Go.Proofs.YtdiopojnkjkgmaaDoorW.PrintMore
attribute [local go_sem] max2_mx min2_mn max_two min_two max_three min_three max_four min_four
set_option linter.unusedVariables false
set_option linter.unusedSimpArgs false
theorem money_sum.run (x y c : Int) (hx : 0 ≤ x) (hy : 0 ≤ y) (h0 : 0 ≤ c) (h1 : c ≤ 1) (w : World) :
  (callFunc 67 #[.int .u64 x, .int .u64 y, .int .u64 c]).run Tryd.prog w = .ok (.value (.tuple #[.int .u64 ((x + y + c) % 18446744073709551616), .int .u64 ((x + y + c) / 18446744073709551616)])) w := by
 rw [run_callFunc_extern Tryd.func67 (by kernel_rfl) (by kernel_rfl) (by kernel_rfl) (e := add64Entry) (by kernel_rfl), run_add64 x y c hx hy h0 h1]
 rfl
def sumLo (l n : Int) : Int := (l + IntKind.u64.wrap n + 0) % 18446744073709551616
def sumC (l n : Int) : Int := (l + IntKind.u64.wrap n + 0) / 18446744073709551616
def sumHi (h l n : Int) : Int := (h + IntKind.u64.wrap (n / 9223372036854775808) + sumC l n) % 18446744073709551616
theorem sumLo_lt (l n : Int) : 0 ≤ sumLo l n ∧ sumLo l n < 18446744073709551616 := by unfold sumLo; omega
theorem sumHi_lt (h l n : Int) : 0 ≤ sumHi h l n ∧ sumHi h l n < 18446744073709551616 := by unfold sumHi; omega
theorem sumC_le {l : Int} (n : Int) (h0 : 0 ≤ l) (h1 : l < 18446744073709551616) : 0 ≤ sumC l n ∧ sumC l n ≤ 1 := by
 have h := IntKind.wrap_u64 n
 unfold sumC
 omega
structure SumS (w0 w : World) (g : Nat) (h l : Int) : Prop where
 blk : w.heap[g]? = some (.cells #[.int .u64 h, .int .u64 l] 102 (0, 0))
 hg : w0.heap.size ≤ g
 hb : Below w0.heap.size w0 w
 h0 : 0 ≤ h ∧ h < 18446744073709551616
 l0 : 0 ≤ l ∧ l < 18446744073709551616
set_option maxHeartbeats 4000000 in
set_option maxRecDepth 100000 in
theorem money_sum.add (w0 : World) (g : Nat) (h l n : Int) (w : World) (hs : SumS w0 w g h l) :
  Calls Tryd.prog 56 #[.pointer (some ⟨g, 0, none⟩), .int .i64 n] w fun e w' => e = .returned (.tuple #[]) ∧ SumS w0 w' g (sumHi h l n) (sumLo l n) := by
 have hc0 : w.cell? ⟨g, 0, none⟩ = some (.int .u64 h) := blk_cell hs.blk 0
 have hc1 : w.cell? ⟨g, 1, none⟩ = some (.int .u64 l) := blk_cell hs.blk 1
 have hf1 := blk_frozen hs.blk 1
 have hu : ∀ m, 0 ≤ IntKind.u64.wrap m := fun m => by rw [IntKind.wrap_u64]; omega
 have r1 : ∀ W, (callFunc 67 #[.int .u64 l, .int .u64 (IntKind.u64.wrap n), .int .u64 0]).run Tryd.prog W = .ok (.value (.tuple #[.int .u64 (sumLo l n), .int .u64 (sumC l n)])) W := fun W => money_sum.run l _ 0 hs.l0.1 (hu _) (by omega) (by omega) W
 have hcc := sumC_le n hs.l0.1 hs.l0.2
 have r2 : ∀ W, (callFunc 67 #[.int .u64 h, .int .u64 (IntKind.u64.wrap (n / 9223372036854775808)), .int .u64 (sumC l n)]).run Tryd.prog W = .ok (.value (.tuple #[.int .u64 (sumHi h l n), .int .u64 ((h + IntKind.u64.wrap (n / 9223372036854775808) + sumC l n) / 18446744073709551616)])) W := fun W => money_sum.run h _ _ hs.h0.1 (hu _) hcc.1 hcc.2 W
 have hb2 := blk_put hs.blk 1 (.int .u64 (sumLo l n)) rfl
 have hc2 : (w.setCell ⟨g, 1, none⟩ (.int .u64 (sumLo l n))).cell? ⟨g, 0, none⟩ = some (.int .u64 h) := blk_cell hb2 0
 have hf2 := blk_frozen hb2 0
 have hend : SumS w0 ((w.setCell ⟨g, 1, none⟩ (.int .u64 (sumLo l n))).setCell ⟨g, 0, none⟩ (.int .u64 (sumHi h l n))) g (sumHi h l n) (sumLo l n) :=
  ⟨blk_put hb2 0 _ rfl, hs.hg, below_set (below_set hs.hb hs.hg) hs.hg, sumHi_lt _ _ _, sumLo_lt _ _⟩
 have HEND := Aside0.mk hend
 clear hend hu hcc hb2 hs
 generalize sumHi h l n = hi at *
 generalize sumLo l n = lo at *
 generalize sumC l n = ca at *
 go_enter Tryd.func56, Tryd.ntmps56
 go_wp2_with (first | simp only [r1] | simp only [r2])
 first | go_end0 | ((try simp only [Exit.inBlock, Exit.then]); refine bodyPost_ret (results_none rfl _ _ _) rfl ?_)
 exact ⟨rfl, HEND.out⟩
def sumGo : List Int → Int → Int → Int × Int
 | [], h, l => (h, l)
 | n :: r, h, l => sumGo r (sumHi h l n) (sumLo l n)
theorem sumGo_drop (ns : List Int) (i : Nat) (hi : i < ns.length) (h l : Int) : sumGo (ns.drop i) h l = sumGo (ns.drop (i + 1)) (sumHi h l (rd ns i)) (sumLo l (rd ns i)) := by
 rw [List.drop_eq_getElem_cons hi, sumGo]
 have : rd ns (i : Int) = ns[i] := by simp [rd, hi]
 rw [this]
def money_sum.f (l0 : List Int) : Option (Int × Bool) := some (wrap64 (sumGo l0 0 0).2, (sumGo l0 0 0).1 == IntKind.u64.wrap (wrap64 (sumGo l0 0 0).2 / 9223372036854775808))
set_option maxHeartbeats 8000000 in
set_option maxRecDepth 100000 in
theorem money_sum.calls (A0 : Option Addr) (c0 : Nat) (l0 : List Int) (r1 : Int) (r2 : Bool) (w : World) (hr0 : Kd.C (Kd.int .i64) w A0 l0.length l0) (hc0 : l0.length ≤ c0) (h : money_sum.f l0 = some (r1, r2)) :
  Calls Tryd.prog 43 #[.slice A0 l0.length c0] w fun e w' => e = .returned (.tuple #[.int .i64 r1, .bool r2]) ∧ Below w.heap.size w w' := by
 obtain ⟨n, hn⟩ : ∃ n, n = l0.length := ⟨_, rfl⟩
 have HR0 := Aside0.mk hr0
 have H := Aside0.mk h
 clear hr0 hc0 h
 have HN := Aside0.mk hn
 have HM : Aside0 (n ≤ 9223372036854775807) := ⟨by rw [HN.out]; exact HR0.out.2.1⟩
 rw [← hn]
 clear hn
 go_enter Tryd.func43, Tryd.ntmps43
 go_wp2_with fail
 go_loopg [9] (n + 1) (fun kq v9 wr => ∃ (i : Nat) (hi lo : Int), i ≤ n ∧ i + kq = n + 1 ∧ v9 = .int .i64 (i : Int) ∧ Aside0 (SumS w wr w.heap.size hi lo) ∧ Aside0 (sumGo (l0.drop i) hi lo = sumGo l0 0 0))
 case atStart =>
  refine ⟨0, 0, 0, by omega, by omega, rfl, ⟨?_⟩, ⟨rfl⟩⟩
  exact ⟨heap_alloc_new _ _, Nat.le_refl _, below_alloc (Below.refl _ _) _, by omega, by omega⟩
 case round =>
  obtain ⟨i, hi, lo, hin, hk, rfl, HS, HG⟩ := hrel
  by_cases hlt : i < n
  ·obtain ⟨m, rfl⟩ : ∃ m, gk = m + 1 := ⟨gk - 1, by omega⟩
   have c2b0 : decide ((i : Int) < (n : Int)) = true := decide_eq_true (by omega)
   have p1 : 0 ≤ (i : Int) := by omega
   have q1 : (i : Int) < (n : Int) := by omega
   obtain ⟨ad, e1, hx⟩ := Kd.at_int HR0.out (i : Int) p1 (by rw [← HN.out]; exact q1)
   cases e1
   replace hx := pw_cell_below HS.out.hb hx
   rw [show ((i : Int)).toNat = i from Int.toNat_natCast i] at hx
   have HX := Aside0.mk (HG.out.symm.trans (sumGo_drop l0 i (by rw [← HN.out]; exact hlt) hi lo))
   clear HG
   generalize rd l0 (i : Int) = v at *
   replace p1 := eq_true p1
   replace q1 := eq_true q1
   go_wp2_with fail
   refine (money_sum.add w w.heap.size hi lo v _ HS.out).mono ?_
   rintro e w1 ⟨rfl, hs1⟩
   have HS1 := Aside0.mk hs1
   clear hs1
   go_wp2_with fail
   go_roundg m
   case measure => exact Nat.lt_succ_self _
   case rel => exact ⟨i + 1, _, _, by omega, by omega, congrArg (Value.int .i64) (show wrap64 ((i : Int) + 1) = ((i + 1 : Nat) : Int) by have := HM.out; unfold wrap64; omega), HS1, ⟨HX.out.symm⟩⟩
  ·obtain rfl : i = n := by omega
   have c2b0 : decide ((i : Int) < (i : Int)) = false := decide_eq_false (by omega)
   have hc0 : wr.cell? ⟨w.heap.size, 0, none⟩ = some (.int .u64 hi) := blk_cell HS.out.blk 0
   have hc1 : wr.cell? ⟨w.heap.size, 1, none⟩ = some (.int .u64 lo) := blk_cell HS.out.blk 1
   have hE : sumGo l0 0 0 = (hi, lo) := by
    have := HG.out
    rw [List.drop_eq_nil_of_le (by rw [← HN.out]; omega)] at this
    exact this.symm
   have hr := H.out
   unfold money_sum.f at hr
   rw [hE] at hr
   simp only [Option.some.injEq, Prod.mk.injEq] at hr
   have HR := Aside0.mk hr
   clear hr hE H HG
   go_wp2_with fail
   refine start_ (n := 13) (S := fun w' => w'.cell? ⟨w.heap.size, 0, none⟩ = some (.int .u64 hi) ∧ w'.cell? ⟨w.heap.size, 1, none⟩ = some (.int .u64 lo) ∧ Below w.heap.size w w') (ds := []) (zB 0 13) (by kernel_rfl) rfl rfl ⟨hc0, hc1, (below_drew HS.out.hb)⟩ (fun hHeld => ?_)
   refine zpu 0 (some 16) (zB 1 12) (by kernel_rfl) ?_
   refine zpu 3 (some 19) #[true, false, false, true, false, false, false, false, false, false, false, false, false] (by kernel_rfl) ?_
   refine zpu 5 (some 21) #[true, false, false, true, false, true, false, false, false, false, false, false, false] (by kernel_rfl) ?_
   refine zta 1 (some 17) #[true, true, false, true, false, true, false, false, false, false, false, false, false] (by kernel_rfl) hHeld ?_
   refine zpu 2 (some 18) #[true, true, true, true, false, true, false, false, false, false, false, false, false] (by kernel_rfl) ?_
   refine zpu 11 (some 2) #[true, true, true, true, false, true, false, false, false, false, false, true, false] (by kernel_rfl) ?_
   refine zta 4 (some 20) #[true, true, true, true, true, true, false, false, false, false, false, true, false] (by kernel_rfl) hHeld ?_
   refine zta 6 (some 22) #[true, true, true, true, true, true, true, false, false, false, false, true, false] (by kernel_rfl) hHeld ?_
   refine zpu 7 (some 23) #[true, true, true, true, true, true, true, true, false, false, false, true, false] (by kernel_rfl) ?_
   refine zpu 8 (some 24) #[true, true, true, true, true, true, true, true, true, false, false, true, false] (by kernel_rfl) ?_
   refine zpu 9 (some 25) #[true, true, true, true, true, true, true, true, true, true, false, true, false] (by kernel_rfl) ?_
   refine zpu 10 (some 26) (zB 12 1) (by kernel_rfl) ?_
   refine zpu 12 (some 3) (zB 13 0) (by kernel_rfl) ?_
   refine done_ (by kernel_rfl) ?_
   obtain ⟨_, _, hbE⟩ := hHeld
   go_wp2_with fail
   go_ret2
   refine ⟨?_, hbE⟩
   rw [← HR.out.1, ← HR.out.2]
   rfl
end Go.Proofs.YtdiopojnkjkgmaaDoor.Print
namespace Go.Proofs.YtdiopojnkjkgmaaDoor.Print
open Go.RowKit Go.Proofs.YtdiopojnkjkgmaaDoorW.PrintWords Go.Proofs.YtdiopojnkjkgmaaDoorW.PrintLast Go.Proofs.YtdiopojnkjkgmaaDoorW.PrintMore
attribute [local go_sem] max2_mx min2_mn max_two min_two max_three min_three max_four min_four
set_option linter.unusedVariables false
set_option linter.unusedSimpArgs false
def money_Sum.f (l0 : List Int) : Option (Int × Int) := if (l0.length : Int) > 4096 then (some (0, 3)) else ((money_sum.f l0).bind fun bt126 => (if bt126.2 = true then (some (bt126.1, 0)) else (some (0, 5))))
set_option maxHeartbeats 8000000 in
set_option maxRecDepth 100000 in
theorem money_Sum.calls (A0 : Option Addr) (c0 : Nat) (l0 : List Int) (r1 : Int) (r2 : Int) (w : World) (hr0 : Kd.C (Kd.int .i64) w A0 l0.length l0) (hc0 : l0.length ≤ c0) (h : money_Sum.f l0 = some (r1, r2)) :
  Calls Tryd.prog 20 #[.slice A0 l0.length c0] w fun e w' => e = .returned (.tuple #[.int .i64 r1, .int .i64 r2]) ∧ Below w.heap.size w w' := by
 have HR0 := Aside0.mk hr0
 have HC0 := Aside0.mk hc0
 clear hr0 hc0
 have HB := Aside0.mk (Below.refl w.heap.size w)
 have H : (if (l0.length : Int) > 4096 then (some (0, 3)) else ((money_sum.f l0).bind fun bt126 => (if bt126.2 = true then (some (bt126.1, 0)) else (some (0, 5))))) = some (r1, r2) := h
 clear h
 by_cases c2 : (l0.length : Int) > 4096
 ·rw [if_pos c2] at H
  have c2b0 : decide (4096 < (l0.length : Int)) = true := decide_eq_true c2
  have c2b1 : decide (4096 < l0.length) = true := decide_eq_true (by omega)
  clear c2
  simp only [Option.some.injEq, Prod.mk.injEq] at H
  obtain ⟨rfl, rfl⟩ := H
  go_enter Tryd.func20, Tryd.ntmps20
  go_wp2
  go_ret2
  exact ⟨by first | rfl | (simp [errW_none, errW_some] <;> rfl) | (simp [*, errW_none, errW_some] <;> rfl), by exact zh0_ HB.out⟩
 ·rw [if_neg c2] at H
  have c2b0 : decide (4096 < (l0.length : Int)) = false := decide_eq_false c2
  have c2b1 : decide (4096 < l0.length) = false := decide_eq_false (by omega)
  clear c2
  obtain ⟨⟨t126, t127⟩, A3, H⟩ := zm H
  (try dsimp only at H)
  by_cases c4 : t127 = true
  ·subst c4
   replace H := (if_pos (rfl : true = true)).symm.trans H
   simp only [Option.some.injEq, Prod.mk.injEq] at H
   obtain ⟨rfl, rfl⟩ := H
   go_enter Tryd.func20, Tryd.ntmps20
   go_wp2_with (first | ((with_reducible refine gate_callee (f := 43) rfl ?_); refine goesL_ (some 11) rfl rfl Tryd.func43 (by kernel_rfl) rfl #[.slice A0 l0.length c0] rfl zl_ ?_; (with_reducible refine (money_sum.calls _ _ l0 t126 true _ ?side1 ?side2 A3.out).mono ?_); (case side1 => repeat (first | exact HR0.out | (with_reducible refine Kd.C_alloc ?_ _) | (with_reducible refine Kd.C_drewN ?_ _) | (with_reducible refine Kd.C_drew ?_))); (case side2 => exact HC0.out); rintro e w5 ⟨rfl, hb⟩; refine ⟨_, rfl, ?_⟩; replace HB := Aside0.mk (below_step (zh0_ HB.out) hb); (try clear hb)))
   go_ret2
   exact ⟨by first | rfl | (simp [errW_none, errW_some] <;> rfl) | (simp [*, errW_none, errW_some] <;> rfl), by exact zh0_ HB.out⟩
  ·replace c4 := Bool.eq_false_iff.mpr c4
   subst c4
   replace H := (if_neg (show ¬ (false = true) by decide)).symm.trans H
   simp only [Option.some.injEq, Prod.mk.injEq] at H
   obtain ⟨rfl, rfl⟩ := H
   go_enter Tryd.func20, Tryd.ntmps20
   go_wp2_with (first | ((with_reducible refine gate_callee (f := 43) rfl ?_); refine goesL_ (some 11) rfl rfl Tryd.func43 (by kernel_rfl) rfl #[.slice A0 l0.length c0] rfl zl_ ?_; (with_reducible refine (money_sum.calls _ _ l0 t126 false _ ?side1 ?side2 A3.out).mono ?_); (case side1 => repeat (first | exact HR0.out | (with_reducible refine Kd.C_alloc ?_ _) | (with_reducible refine Kd.C_drewN ?_ _) | (with_reducible refine Kd.C_drew ?_))); (case side2 => exact HC0.out); rintro e w6 ⟨rfl, hb⟩; refine ⟨_, rfl, ?_⟩; replace HB := Aside0.mk (below_step (zh0_ HB.out) hb); (try clear hb)))
   go_ret2
   exact ⟨by first | rfl | (simp [errW_none, errW_some] <;> rfl) | (simp [*, errW_none, errW_some] <;> rfl), by exact zh0_ HB.out⟩
end Go.Proofs.YtdiopojnkjkgmaaDoor.Print
namespace Go.Proofs.YtdiopojnkjkgmaaDoor.Print
open Go.RowKit Go.Proofs.YtdiopojnkjkgmaaDoorW.PrintWords Go.Proofs.YtdiopojnkjkgmaaDoorW.PrintLast Go.Proofs.YtdiopojnkjkgmaaDoorW.PrintMore
attribute [local go_sem] max2_mx min2_mn max_two min_two max_three min_three max_four min_four
set_option linter.unusedVariables false
set_option linter.unusedSimpArgs false
def call_T55.f (k : Nat) (x : Int) (a0_0 : Int) (a0_1 : Int) (a0_2 : Int) (a0_3 : Int) (a0_4 : Int) (a0_5 : Int) (a1_0 : Int) (a1_1 : Int) (a1_2 : Int) (a1_3 : Int) (a1_4 : Int) (a1_5 : Int) : Option (Int) := if x = 19 then (stock_order.f k a0_0 a0_1 a0_2 a0_3 a0_4 a0_5 a1_0 a1_1 a1_2 a1_3 a1_4 a1_5) else none
theorem call_T55.ok {k : Nat} {x : Int} {a0_0 : Int} {a0_1 : Int} {a0_2 : Int} {a0_3 : Int} {a0_4 : Int} {a0_5 : Int} {a1_0 : Int} {a1_1 : Int} {a1_2 : Int} {a1_3 : Int} {a1_4 : Int} {a1_5 : Int} {r} (h : call_T55.f k x a0_0 a0_1 a0_2 a0_3 a0_4 a0_5 a1_0 a1_1 a1_2 a1_3 a1_4 a1_5 = some r) : FnOk Tryd.prog x := by
 unfold call_T55.f at h
 by_cases h19 : x = 19
 ·subst h19; exact ⟨by decide, _, Tryd.func19, by kernel_rfl, by kernel_rfl⟩
 rw [if_neg h19] at h
 cases h
theorem call_T55.calls (k : Nat) (x : Int) (a0_0 : Int) (a0_1 : Int) (a0_2 : Int) (a0_3 : Int) (a0_4 : Int) (a0_5 : Int) (a1_0 : Int) (a1_1 : Int) (a1_2 : Int) (a1_3 : Int) (a1_4 : Int) (a1_5 : Int) (r : Int) (w : World) (h : call_T55.f k x a0_0 a0_1 a0_2 a0_3 a0_4 a0_5 a1_0 a1_1 a1_2 a1_3 a1_4 a1_5 = some r) :
  Calls Tryd.prog x.toNat #[.agg #[.int .i64 a0_0, .int .i64 a0_1, .int .i64 a0_2, .int .i64 a0_3, .int .i64 a0_4, .int .i64 a0_5], .agg #[.int .i64 a1_0, .int .i64 a1_1, .int .i64 a1_2, .int .i64 a1_3, .int .i64 a1_4, .int .i64 a1_5]] w fun e w' => e = .returned (.int .i64 r) ∧ Below w.heap.size w w' := by
 unfold call_T55.f at h
 by_cases h19 : x = 19
 ·subst h19
  rw [if_pos rfl] at h
  exact stock_order.calls k a0_0 a0_1 a0_2 a0_3 a0_4 a0_5 a1_0 a1_1 a1_2 a1_3 a1_4 a1_5 r w h
 rw [if_neg h19] at h
 cases h
end Go.Proofs.YtdiopojnkjkgmaaDoor.Print
