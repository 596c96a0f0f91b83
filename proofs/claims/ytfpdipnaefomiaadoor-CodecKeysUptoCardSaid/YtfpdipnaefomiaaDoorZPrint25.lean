-- What the claim uses alone (wip/slim.py). Lean checks it.
import Derived.Test.YtfpdipnaefomiaaDoorZPrint0
namespace Go.Proofs.YtfpdipnaefomiaaDoor.Print
open Go.RowKit Go.Proofs.YtfpdipnaefomiaaDoorW.PrintWords Go.Proofs.YtfpdipnaefomiaaDoorW.PrintLast Go.Proofs.YtfpdipnaefomiaaDoorW.PrintMore
attribute [local go_sem] max2_mx min2_mn max_two min_two max_three min_three max_four min_four
set_option linter.unusedVariables false
set_option linter.unusedSimpArgs false
mutual
def ladingref03_Key.l0 : Nat → List (S60) → List (S60) → Int → Int → Option (List Int × Int)
  | 0, _, _, _, _ => none
  | k + 1, x0, x14, x15, x16 => if x16 < x15 then (if 0 ≤ x16 then (if x16 < (x14.length : Int) then (if ((rd_T60 x14 x16).f0) = 1 then (if ((rd_T60 x14 x16).f2).toList = ([] : List UInt8) then (if ((rd_T60 x14 x16).f0) = 2 then (if ((rd_T60 x14 x16).f1) = 0 then (ladingref03_Key.l0 k x0 x14 x15 (wrap64 (x16 + 1))) else (some (([] : List Int), 15))) else (ladingref03_Key.l0 k x0 x14 x15 (wrap64 (x16 + 1)))) else (some (([] : List Int), 15))) else (if ((rd_T60 x14 x16).f0) = 2 then (if ((rd_T60 x14 x16).f1) = 0 then (ladingref03_Key.l0 k x0 x14 x15 (wrap64 (x16 + 1))) else (some (([] : List Int), 15))) else (some (([] : List Int), 15)))) else (none)) else (none)) else (ladingref03_Key.l1 k ([] : List Int) x0 (x0.length : Int) 0)
def ladingref03_Key.l1 : Nat → List Int → List (S60) → Int → Int → Option (List Int × Int)
  | 0, _, _, _, _ => none
  | k + 1, x6, x49, x50, x51 => if x51 < x50 then (if 0 ≤ x51 then (if x51 < (x49.length : Int) then (if x6.length < 140737488355328 then ((some (x6 ++ [(rd_T60 x49 x51).f0] : List Int)).bind fun y575 => (if ((rd_T60 x49 x51).f0) = 1 then (ladingref03_Key.l2 k y575 7 x49 x50 x51 ((rd_T60 x49 x51).f0) ((rd_T60 x49 x51).f1) ((rd_T60 x49 x51).f2)) else (ladingref03_Key.l3 k y575 0 x49 x50 x51 ((rd_T60 x49 x51).f0) ((rd_T60 x49 x51).f1) ((rd_T60 x49 x51).f2)))) else (none)) else (none)) else (none)) else (if (x6.length : Int) > 256 then (some (([] : List Int), 4)) else (some (x6, 0)))
def ladingref03_Key.l2 : Nat → List Int → Int → List (S60) → Int → Int → Int → Int → ByteArray → Option (List Int × Int)
  | 0, _, _, _, _, _, _, _, _ => none
  | k + 1, x6, x9, x49, x50, x51, x575000, x575001, x575002 => if x9 ≥ 0 then (if 0 ≤ (IntKind.u64.wrap (wrap64 (8 * x9))) then (if x6.length < 140737488355328 then (ladingref03_Key.l2 k (x6 ++ [(shr .u64 x575001 (IntKind.u64.wrap (wrap64 (8 * x9)))) % 256]) (wrap64 (x9 - 1)) x49 x50 x51 x575000 x575001 x575002) else (none)) else (none)) else (ladingref03_Key.l1 k x6 x49 x50 (wrap64 (x51 + 1)))
def ladingref03_Key.l3 : Nat → List Int → Int → List (S60) → Int → Int → Int → Int → ByteArray → Option (List Int × Int)
  | 0, _, _, _, _, _, _, _, _ => none
  | k + 1, x6, x10, x49, x50, x51, x575000, x575001, x575002 => if x10 < (x575002.size : Int) then (if 0 ≤ x10 then (if x6.length < 140737488355328 then ((some (x6 ++ [bt x575002 x10] : List Int)).bind fun y581 => (if (bt x575002 x10) = 0 then (if y581.length < 140737488355328 then (ladingref03_Key.l3 k (y581 ++ [255]) (wrap64 (x10 + 1)) x49 x50 x51 x575000 x575001 x575002) else (none)) else (ladingref03_Key.l3 k y581 (wrap64 (x10 + 1)) x49 x50 x51 x575000 x575001 x575002))) else (none)) else (none)) else ((some (([0, 1] : List Int) : List Int)).bind fun y587 => (if x6.length + y587.length < 140737488355328 then ((some (x6 ++ y587 : List Int)).bind fun y590 => (if (y590.length : Int) > 256 then (some (([] : List Int), 4)) else (ladingref03_Key.l1 k y590 x49 x50 (wrap64 (x51 + 1))))) else (none)))
end
def ladingref03_Key.f (k : Nat) (l0 : List (S60)) : Option (List Int × Int) := if (l0.length : Int) > 16 then (some (([] : List Int), 3)) else (ladingref03_Key.l0 k l0 l0 (l0.length : Int) 0)
set_option maxHeartbeats 8000000 in
set_option maxRecDepth 100000 in
theorem ladingref03_Key.calls (k : Nat) (A0 : Option Addr) (c0 : Nat) (l0 : List (S60)) (r1 : List Int) (r2 : Int) (w : World) (hr0 : Kd.C k60 w A0 l0.length l0) (hc0 : l0.length ≤ c0) (h : ladingref03_Key.f k l0 = some (r1, r2)) :
    Calls Tryd.prog 36 #[.slice A0 l0.length c0] w fun e w' => ∃ v0_ : Value, e = .returned (.tuple #[v0_, .int .i64 r2]) ∧ Kd.R (Kd.int .u8) 5 w' w.heap.size (fun _ => True) v0_ r1 ∧ Below w.heap.size w w' := by
  have hu60 := Tryd.underlying60
  have HR0 := Aside0.mk hr0
  have HC0 := Aside0.mk hc0
  clear hr0 hc0
  have HB := Aside0.mk (Below.refl w.heap.size w)
  have H : (if (l0.length : Int) > 16 then (some (([] : List Int), 3)) else (ladingref03_Key.l0 k l0 l0 (l0.length : Int) 0)) = some (r1, r2) := h
  clear h
  by_cases c2 : (l0.length : Int) > 16
  · rw [if_pos c2] at H
    have c2b0 : decide (16 < (l0.length : Int)) = true := decide_eq_true c2
    have c2b1 : decide (16 < l0.length) = true := decide_eq_true (by omega)
    clear c2
    simp only [Option.some.injEq, Prod.mk.injEq] at H
    obtain ⟨rfl, rfl⟩ := H
    go_enter Tryd.func36, Tryd.ntmps36
    go_wp2
    go_ret2
    exact ⟨_, by first | rfl | (simp [errW_none, errW_some] <;> rfl) | (simp [*, errW_none, errW_some] <;> rfl), by first | exact Kd.R_nil _ _ _ _ _ | exact Kd.N_nil _ _ _ _ _ | exact Kd.V_nil _ _ _ _ _ | exact Kd.Q_nil _ _ _ _ _ | exact Kd.S_nil _ _ _ _ _, by repeat (first | (with_reducible first | exact HB.out | apply below_alloc | apply pw_below_drewN | apply below_drew1) | exact HB.out)⟩
  · rw [if_neg c2] at H
    have c2b0 : decide (16 < (l0.length : Int)) = false := decide_eq_false c2
    have c2b1 : decide (16 < l0.length) = false := decide_eq_false (by omega)
    clear c2
    have H' := Aside0.mk H
    clear H
    go_enter Tryd.func36, Tryd.ntmps36
    go_wp2
    go_loopg [16] k (fun kq v16 w' => ∃ (x16_1 : Int), v16 = .int .i64 x16_1 ∧ Aside0 (ladingref03_Key.l0 kq l0 l0 (l0.length : Int) x16_1 = some (r1, r2)) ∧ Aside0 (kq ≤ k) ∧ Aside0 (Below w.heap.size w w'))
    case atStart => exact ⟨(0), (by first | rfl | (simp; done) | (simp [*]; done) | (simp only [i64_w]; done)), H', ⟨Nat.le_refl _⟩, ⟨by repeat (first | (with_reducible first | exact HB.out | apply below_alloc | apply pw_below_drewN | apply below_drew1) | exact HB.out)⟩⟩
    case round =>
      clear H'
      try clear c2
      try clear c2b0
      try clear c2b1
      try clear p2
      obtain ⟨x16_1, rfl, HA, HK1, HB⟩ := hrel
      cases gk with
      | zero => exact absurd HA.out (by simp [ladingref03_Key.l0])
      | succ k1 =>
        have H := HA.out
        clear HA
        simp only [ladingref03_Key.l0] at H
        by_cases c3 : x16_1 < (l0.length : Int)
        · rw [if_pos c3] at H
          have c3b0 : decide (x16_1 < (l0.length : Int)) = true := decide_eq_true c3
          clear c3
          by_cases c4 : 0 ≤ x16_1
          · rw [if_pos c4] at H
            have c4b0 : decide (0 ≤ x16_1) = true := decide_eq_true c4
            clear c4
            by_cases c5 : x16_1 < (l0.length : Int)
            · rw [if_pos c5] at H
              have c5b0 : decide (x16_1 < (l0.length : Int)) = true := decide_eq_true c5
              clear c5
              by_cases c6 : ((rd_T60 l0 x16_1).f0) = 1
              · rw [if_pos c6] at H
                have c6b0 : (((rd_T60 l0 x16_1).f0) == 1) = true := beq_iff_eq.mpr c6
                have c6b1 : (((rd_T60 l0 x16_1).f0) != 1) = false := bne_eq_false_iff_eq.mpr c6
                clear c6
                by_cases c7 : ((rd_T60 l0 x16_1).f2).toList = ([] : List UInt8)
                · rw [if_pos c7] at H
                  have c7b0 : (((rd_T60 l0 x16_1).f2).toList == ([] : List UInt8)) = true := beq_iff_eq.mpr c7
                  have c7b1 : (((rd_T60 l0 x16_1).f2).toList != ([] : List UInt8)) = false := bne_eq_false_iff_eq.mpr c7
                  clear c7
                  by_cases c8 : ((rd_T60 l0 x16_1).f0) = 2
                  · rw [if_pos c8] at H
                    have c8b0 : (((rd_T60 l0 x16_1).f0) == 2) = true := beq_iff_eq.mpr c8
                    have c8b1 : (((rd_T60 l0 x16_1).f0) != 2) = false := bne_eq_false_iff_eq.mpr c8
                    clear c8
                    by_cases c9 : ((rd_T60 l0 x16_1).f1) = 0
                    · rw [if_pos c9] at H
                      have c9b0 : (((rd_T60 l0 x16_1).f1) == 0) = true := beq_iff_eq.mpr c9
                      have c9b1 : (((rd_T60 l0 x16_1).f1) != 0) = false := bne_eq_false_iff_eq.mpr c9
                      clear c9
                      have H' := Aside0.mk H
                      clear H
                      have p571 : 0 ≤ (x16_1 : Int) := of_decide_eq_true (by first | (with_reducible assumption) | assumption)
                      have q571 : x16_1 < (l0.length : Int) := of_decide_eq_true (by first | (with_reducible assumption) | assumption)
                      obtain ⟨ad571, e571, hx571_0, hx571_1, hx571_2⟩ := at_T60 HR0.out x16_1 p571 q571
                      cases e571
                      replace hx571_0 := (HB.out.cell (World.block_lt_of_cell? w _ hx571_0)).trans hx571_0
                      replace hx571_1 := (HB.out.cell (World.block_lt_of_cell? w _ hx571_1)).trans hx571_1
                      replace hx571_2 := (HB.out.cell (World.block_lt_of_cell? w _ hx571_2)).trans hx571_2
                      replace p571 := eq_true p571
                      replace q571 := eq_true q571
                      go_wp2_with (first | ((with_reducible refine gate_dst (N := 5) rfl ?_); refine box_event ?hg (N := 5) ?hd (cs := #[.int .u8 0, .int .u64 0, .string (⟨#[]⟩ : ByteArray)]) (t := 60) ?hr ?_; (case hd => rfl); (case hg => rfl); (case hr => first | (go_simp; done) | (go_simp; rfl)); intro gb572 hg w10 hbox hb; have n0_ := Aside0.mk (below_step (by repeat (first | (with_reducible first | exact HB.out | apply below_alloc | apply pw_below_drewN | apply below_drew1) | exact HB.out)) hb); have n1_ := Aside0.mk (hbox); have n2_ := Aside0.mk ((by rw [hg]; exact (below_size (by repeat (first | (with_reducible first | exact HB.out | apply below_alloc | apply pw_below_drewN | apply below_drew1) | exact HB.out))) : w.heap.size ≤ gb572)); have n3_ := Aside0.mk ((by rw [hg]; exact (below_size (by repeat (first | (with_reducible first | exact HB.out | apply below_alloc | apply pw_below_drewN | apply below_drew1) | exact HB.out))) : w.heap.size ≤ gb572)); clear HB; have HB := n0_; have BK572 := n1_; have GW572 := n2_; have GE572 := n3_; clear n0_ n1_ n2_ n3_; clear hb hbox hg; have hcz11_0 : w10.cell? ⟨gb572, 0, none⟩ = some (.int .u8 0) := (blk_cell BK572.out 0).trans rfl; have hcz11_1 : w10.cell? ⟨gb572, 1, none⟩ = some (.int .u64 0) := (blk_cell BK572.out 1).trans rfl; have hcz11_2 : w10.cell? ⟨gb572, 2, none⟩ = some (.string (⟨#[]⟩ : ByteArray)) := (blk_cell BK572.out 2).trans rfl; have hfz11_0 := blk_frozen BK572.out 0; have hfz11_1 := blk_frozen BK572.out 1; have hfz11_2 := blk_frozen BK572.out 2))
                      go_roundg k1
                      case measure => have := HK1.out; omega
                      case rel => exact ⟨(wrap64 (x16_1 + 1)), (by first | rfl | (simp; done) | (simp [*]; done) | (simp only [i64_w]; done)), H', ⟨by have := HK1.out; omega⟩, ⟨by repeat (first | (with_reducible first | exact HB.out | apply below_alloc | apply pw_below_drewN | apply below_drew1 | refine below_set ?_ GE572.out) | exact HB.out)⟩⟩
                    · rw [if_neg c9] at H
                      have c9b0 : (((rd_T60 l0 x16_1).f1) == 0) = false := beq_eq_false_iff_ne.mpr c9
                      have c9b1 : (((rd_T60 l0 x16_1).f1) != 0) = true := bne_iff_ne.mpr c9
                      simp only [Option.some.injEq, Prod.mk.injEq] at H
                      obtain ⟨rfl, rfl⟩ := H
                      have p571 : 0 ≤ (x16_1 : Int) := of_decide_eq_true (by first | (with_reducible assumption) | assumption)
                      have q571 : x16_1 < (l0.length : Int) := of_decide_eq_true (by first | (with_reducible assumption) | assumption)
                      obtain ⟨ad571, e571, hx571_0, hx571_1, hx571_2⟩ := at_T60 HR0.out x16_1 p571 q571
                      cases e571
                      replace hx571_0 := (HB.out.cell (World.block_lt_of_cell? w _ hx571_0)).trans hx571_0
                      replace hx571_1 := (HB.out.cell (World.block_lt_of_cell? w _ hx571_1)).trans hx571_1
                      replace hx571_2 := (HB.out.cell (World.block_lt_of_cell? w _ hx571_2)).trans hx571_2
                      replace p571 := eq_true p571
                      replace q571 := eq_true q571
                      go_wp2_with (first | ((with_reducible refine gate_dst (N := 5) rfl ?_); refine box_event ?hg (N := 5) ?hd (cs := #[.int .u8 0, .int .u64 0, .string (⟨#[]⟩ : ByteArray)]) (t := 60) ?hr ?_; (case hd => rfl); (case hg => rfl); (case hr => first | (go_simp; done) | (go_simp; rfl)); intro gb572 hg w12 hbox hb; have n0_ := Aside0.mk (below_step (by repeat (first | (with_reducible first | exact HB.out | apply below_alloc | apply pw_below_drewN | apply below_drew1) | exact HB.out)) hb); have n1_ := Aside0.mk (hbox); have n2_ := Aside0.mk ((by rw [hg]; exact (below_size (by repeat (first | (with_reducible first | exact HB.out | apply below_alloc | apply pw_below_drewN | apply below_drew1) | exact HB.out))) : w.heap.size ≤ gb572)); have n3_ := Aside0.mk ((by rw [hg]; exact (below_size (by repeat (first | (with_reducible first | exact HB.out | apply below_alloc | apply pw_below_drewN | apply below_drew1) | exact HB.out))) : w.heap.size ≤ gb572)); clear HB; have HB := n0_; have BK572 := n1_; have GW572 := n2_; have GE572 := n3_; clear n0_ n1_ n2_ n3_; clear hb hbox hg; have hcz13_0 : w12.cell? ⟨gb572, 0, none⟩ = some (.int .u8 0) := (blk_cell BK572.out 0).trans rfl; have hcz13_1 : w12.cell? ⟨gb572, 1, none⟩ = some (.int .u64 0) := (blk_cell BK572.out 1).trans rfl; have hcz13_2 : w12.cell? ⟨gb572, 2, none⟩ = some (.string (⟨#[]⟩ : ByteArray)) := (blk_cell BK572.out 2).trans rfl; have hfz13_0 := blk_frozen BK572.out 0; have hfz13_1 := blk_frozen BK572.out 1; have hfz13_2 := blk_frozen BK572.out 2))
                      go_ret2
                      exact ⟨_, by first | rfl | (simp [errW_none, errW_some] <;> rfl) | (simp [*, errW_none, errW_some] <;> rfl), by first | exact Kd.R_nil _ _ _ _ _ | exact Kd.N_nil _ _ _ _ _ | exact Kd.V_nil _ _ _ _ _ | exact Kd.Q_nil _ _ _ _ _ | exact Kd.S_nil _ _ _ _ _, by repeat (first | (with_reducible first | exact HB.out | apply below_alloc | apply pw_below_drewN | apply below_drew1 | refine below_set ?_ GE572.out) | exact HB.out)⟩
                  · rw [if_neg c8] at H
                    have c8b0 : (((rd_T60 l0 x16_1).f0) == 2) = false := beq_eq_false_iff_ne.mpr c8
                    have c8b1 : (((rd_T60 l0 x16_1).f0) != 2) = true := bne_iff_ne.mpr c8
                    have H' := Aside0.mk H
                    clear H
                    have p571 : 0 ≤ (x16_1 : Int) := of_decide_eq_true (by first | (with_reducible assumption) | assumption)
                    have q571 : x16_1 < (l0.length : Int) := of_decide_eq_true (by first | (with_reducible assumption) | assumption)
                    obtain ⟨ad571, e571, hx571_0, hx571_1, hx571_2⟩ := at_T60 HR0.out x16_1 p571 q571
                    cases e571
                    replace hx571_0 := (HB.out.cell (World.block_lt_of_cell? w _ hx571_0)).trans hx571_0
                    replace hx571_1 := (HB.out.cell (World.block_lt_of_cell? w _ hx571_1)).trans hx571_1
                    replace hx571_2 := (HB.out.cell (World.block_lt_of_cell? w _ hx571_2)).trans hx571_2
                    replace p571 := eq_true p571
                    replace q571 := eq_true q571
                    go_wp2_with (first | ((with_reducible refine gate_dst (N := 5) rfl ?_); refine box_event ?hg (N := 5) ?hd (cs := #[.int .u8 0, .int .u64 0, .string (⟨#[]⟩ : ByteArray)]) (t := 60) ?hr ?_; (case hd => rfl); (case hg => rfl); (case hr => first | (go_simp; done) | (go_simp; rfl)); intro gb572 hg w14 hbox hb; have n0_ := Aside0.mk (below_step (by repeat (first | (with_reducible first | exact HB.out | apply below_alloc | apply pw_below_drewN | apply below_drew1) | exact HB.out)) hb); have n1_ := Aside0.mk (hbox); have n2_ := Aside0.mk ((by rw [hg]; exact (below_size (by repeat (first | (with_reducible first | exact HB.out | apply below_alloc | apply pw_below_drewN | apply below_drew1) | exact HB.out))) : w.heap.size ≤ gb572)); have n3_ := Aside0.mk ((by rw [hg]; exact (below_size (by repeat (first | (with_reducible first | exact HB.out | apply below_alloc | apply pw_below_drewN | apply below_drew1) | exact HB.out))) : w.heap.size ≤ gb572)); clear HB; have HB := n0_; have BK572 := n1_; have GW572 := n2_; have GE572 := n3_; clear n0_ n1_ n2_ n3_; clear hb hbox hg; have hcz15_0 : w14.cell? ⟨gb572, 0, none⟩ = some (.int .u8 0) := (blk_cell BK572.out 0).trans rfl; have hcz15_1 : w14.cell? ⟨gb572, 1, none⟩ = some (.int .u64 0) := (blk_cell BK572.out 1).trans rfl; have hcz15_2 : w14.cell? ⟨gb572, 2, none⟩ = some (.string (⟨#[]⟩ : ByteArray)) := (blk_cell BK572.out 2).trans rfl; have hfz15_0 := blk_frozen BK572.out 0; have hfz15_1 := blk_frozen BK572.out 1; have hfz15_2 := blk_frozen BK572.out 2))
                    go_roundg k1
                    case measure => have := HK1.out; omega
                    case rel => exact ⟨(wrap64 (x16_1 + 1)), (by first | rfl | (simp; done) | (simp [*]; done) | (simp only [i64_w]; done)), H', ⟨by have := HK1.out; omega⟩, ⟨by repeat (first | (with_reducible first | exact HB.out | apply below_alloc | apply pw_below_drewN | apply below_drew1 | refine below_set ?_ GE572.out) | exact HB.out)⟩⟩
                · rw [if_neg c7] at H
                  have c7b0 : (((rd_T60 l0 x16_1).f2).toList == ([] : List UInt8)) = false := beq_eq_false_iff_ne.mpr c7
                  have c7b1 : (((rd_T60 l0 x16_1).f2).toList != ([] : List UInt8)) = true := bne_iff_ne.mpr c7
                  simp only [Option.some.injEq, Prod.mk.injEq] at H
                  obtain ⟨rfl, rfl⟩ := H
                  have p571 : 0 ≤ (x16_1 : Int) := of_decide_eq_true (by first | (with_reducible assumption) | assumption)
                  have q571 : x16_1 < (l0.length : Int) := of_decide_eq_true (by first | (with_reducible assumption) | assumption)
                  obtain ⟨ad571, e571, hx571_0, hx571_1, hx571_2⟩ := at_T60 HR0.out x16_1 p571 q571
                  cases e571
                  replace hx571_0 := (HB.out.cell (World.block_lt_of_cell? w _ hx571_0)).trans hx571_0
                  replace hx571_1 := (HB.out.cell (World.block_lt_of_cell? w _ hx571_1)).trans hx571_1
                  replace hx571_2 := (HB.out.cell (World.block_lt_of_cell? w _ hx571_2)).trans hx571_2
                  replace p571 := eq_true p571
                  replace q571 := eq_true q571
                  go_wp2_with (first | ((with_reducible refine gate_dst (N := 5) rfl ?_); refine box_event ?hg (N := 5) ?hd (cs := #[.int .u8 0, .int .u64 0, .string (⟨#[]⟩ : ByteArray)]) (t := 60) ?hr ?_; (case hd => rfl); (case hg => rfl); (case hr => first | (go_simp; done) | (go_simp; rfl)); intro gb572 hg w16 hbox hb; have n0_ := Aside0.mk (below_step (by repeat (first | (with_reducible first | exact HB.out | apply below_alloc | apply pw_below_drewN | apply below_drew1) | exact HB.out)) hb); have n1_ := Aside0.mk (hbox); have n2_ := Aside0.mk ((by rw [hg]; exact (below_size (by repeat (first | (with_reducible first | exact HB.out | apply below_alloc | apply pw_below_drewN | apply below_drew1) | exact HB.out))) : w.heap.size ≤ gb572)); have n3_ := Aside0.mk ((by rw [hg]; exact (below_size (by repeat (first | (with_reducible first | exact HB.out | apply below_alloc | apply pw_below_drewN | apply below_drew1) | exact HB.out))) : w.heap.size ≤ gb572)); clear HB; have HB := n0_; have BK572 := n1_; have GW572 := n2_; have GE572 := n3_; clear n0_ n1_ n2_ n3_; clear hb hbox hg; have hcz17_0 : w16.cell? ⟨gb572, 0, none⟩ = some (.int .u8 0) := (blk_cell BK572.out 0).trans rfl; have hcz17_1 : w16.cell? ⟨gb572, 1, none⟩ = some (.int .u64 0) := (blk_cell BK572.out 1).trans rfl; have hcz17_2 : w16.cell? ⟨gb572, 2, none⟩ = some (.string (⟨#[]⟩ : ByteArray)) := (blk_cell BK572.out 2).trans rfl; have hfz17_0 := blk_frozen BK572.out 0; have hfz17_1 := blk_frozen BK572.out 1; have hfz17_2 := blk_frozen BK572.out 2))
                  go_ret2
                  exact ⟨_, by first | rfl | (simp [errW_none, errW_some] <;> rfl) | (simp [*, errW_none, errW_some] <;> rfl), by first | exact Kd.R_nil _ _ _ _ _ | exact Kd.N_nil _ _ _ _ _ | exact Kd.V_nil _ _ _ _ _ | exact Kd.Q_nil _ _ _ _ _ | exact Kd.S_nil _ _ _ _ _, by repeat (first | (with_reducible first | exact HB.out | apply below_alloc | apply pw_below_drewN | apply below_drew1 | refine below_set ?_ GE572.out) | exact HB.out)⟩
              · rw [if_neg c6] at H
                have c6b0 : (((rd_T60 l0 x16_1).f0) == 1) = false := beq_eq_false_iff_ne.mpr c6
                have c6b1 : (((rd_T60 l0 x16_1).f0) != 1) = true := bne_iff_ne.mpr c6
                by_cases c18 : ((rd_T60 l0 x16_1).f0) = 2
                · rw [if_pos c18] at H
                  have c18b0 : (((rd_T60 l0 x16_1).f0) == 2) = true := beq_iff_eq.mpr c18
                  have c18b1 : (((rd_T60 l0 x16_1).f0) != 2) = false := bne_eq_false_iff_eq.mpr c18
                  clear c18
                  by_cases c19 : ((rd_T60 l0 x16_1).f1) = 0
                  · rw [if_pos c19] at H
                    have c19b0 : (((rd_T60 l0 x16_1).f1) == 0) = true := beq_iff_eq.mpr c19
                    have c19b1 : (((rd_T60 l0 x16_1).f1) != 0) = false := bne_eq_false_iff_eq.mpr c19
                    clear c19
                    have H' := Aside0.mk H
                    clear H
                    have p571 : 0 ≤ (x16_1 : Int) := of_decide_eq_true (by first | (with_reducible assumption) | assumption)
                    have q571 : x16_1 < (l0.length : Int) := of_decide_eq_true (by first | (with_reducible assumption) | assumption)
                    obtain ⟨ad571, e571, hx571_0, hx571_1, hx571_2⟩ := at_T60 HR0.out x16_1 p571 q571
                    cases e571
                    replace hx571_0 := (HB.out.cell (World.block_lt_of_cell? w _ hx571_0)).trans hx571_0
                    replace hx571_1 := (HB.out.cell (World.block_lt_of_cell? w _ hx571_1)).trans hx571_1
                    replace hx571_2 := (HB.out.cell (World.block_lt_of_cell? w _ hx571_2)).trans hx571_2
                    replace p571 := eq_true p571
                    replace q571 := eq_true q571
                    go_wp2_with (first | ((with_reducible refine gate_dst (N := 5) rfl ?_); refine box_event ?hg (N := 5) ?hd (cs := #[.int .u8 0, .int .u64 0, .string (⟨#[]⟩ : ByteArray)]) (t := 60) ?hr ?_; (case hd => rfl); (case hg => rfl); (case hr => first | (go_simp; done) | (go_simp; rfl)); intro gb572 hg w20 hbox hb; have n0_ := Aside0.mk (below_step (by repeat (first | (with_reducible first | exact HB.out | apply below_alloc | apply pw_below_drewN | apply below_drew1) | exact HB.out)) hb); have n1_ := Aside0.mk (hbox); have n2_ := Aside0.mk ((by rw [hg]; exact (below_size (by repeat (first | (with_reducible first | exact HB.out | apply below_alloc | apply pw_below_drewN | apply below_drew1) | exact HB.out))) : w.heap.size ≤ gb572)); have n3_ := Aside0.mk ((by rw [hg]; exact (below_size (by repeat (first | (with_reducible first | exact HB.out | apply below_alloc | apply pw_below_drewN | apply below_drew1) | exact HB.out))) : w.heap.size ≤ gb572)); clear HB; have HB := n0_; have BK572 := n1_; have GW572 := n2_; have GE572 := n3_; clear n0_ n1_ n2_ n3_; clear hb hbox hg; have hcz21_0 : w20.cell? ⟨gb572, 0, none⟩ = some (.int .u8 0) := (blk_cell BK572.out 0).trans rfl; have hcz21_1 : w20.cell? ⟨gb572, 1, none⟩ = some (.int .u64 0) := (blk_cell BK572.out 1).trans rfl; have hcz21_2 : w20.cell? ⟨gb572, 2, none⟩ = some (.string (⟨#[]⟩ : ByteArray)) := (blk_cell BK572.out 2).trans rfl; have hfz21_0 := blk_frozen BK572.out 0; have hfz21_1 := blk_frozen BK572.out 1; have hfz21_2 := blk_frozen BK572.out 2))
                    go_roundg k1
                    case measure => have := HK1.out; omega
                    case rel => exact ⟨(wrap64 (x16_1 + 1)), (by first | rfl | (simp; done) | (simp [*]; done) | (simp only [i64_w]; done)), H', ⟨by have := HK1.out; omega⟩, ⟨by repeat (first | (with_reducible first | exact HB.out | apply below_alloc | apply pw_below_drewN | apply below_drew1 | refine below_set ?_ GE572.out) | exact HB.out)⟩⟩
                  · rw [if_neg c19] at H
                    have c19b0 : (((rd_T60 l0 x16_1).f1) == 0) = false := beq_eq_false_iff_ne.mpr c19
                    have c19b1 : (((rd_T60 l0 x16_1).f1) != 0) = true := bne_iff_ne.mpr c19
                    simp only [Option.some.injEq, Prod.mk.injEq] at H
                    obtain ⟨rfl, rfl⟩ := H
                    have p571 : 0 ≤ (x16_1 : Int) := of_decide_eq_true (by first | (with_reducible assumption) | assumption)
                    have q571 : x16_1 < (l0.length : Int) := of_decide_eq_true (by first | (with_reducible assumption) | assumption)
                    obtain ⟨ad571, e571, hx571_0, hx571_1, hx571_2⟩ := at_T60 HR0.out x16_1 p571 q571
                    cases e571
                    replace hx571_0 := (HB.out.cell (World.block_lt_of_cell? w _ hx571_0)).trans hx571_0
                    replace hx571_1 := (HB.out.cell (World.block_lt_of_cell? w _ hx571_1)).trans hx571_1
                    replace hx571_2 := (HB.out.cell (World.block_lt_of_cell? w _ hx571_2)).trans hx571_2
                    replace p571 := eq_true p571
                    replace q571 := eq_true q571
                    go_wp2_with (first | ((with_reducible refine gate_dst (N := 5) rfl ?_); refine box_event ?hg (N := 5) ?hd (cs := #[.int .u8 0, .int .u64 0, .string (⟨#[]⟩ : ByteArray)]) (t := 60) ?hr ?_; (case hd => rfl); (case hg => rfl); (case hr => first | (go_simp; done) | (go_simp; rfl)); intro gb572 hg w22 hbox hb; have n0_ := Aside0.mk (below_step (by repeat (first | (with_reducible first | exact HB.out | apply below_alloc | apply pw_below_drewN | apply below_drew1) | exact HB.out)) hb); have n1_ := Aside0.mk (hbox); have n2_ := Aside0.mk ((by rw [hg]; exact (below_size (by repeat (first | (with_reducible first | exact HB.out | apply below_alloc | apply pw_below_drewN | apply below_drew1) | exact HB.out))) : w.heap.size ≤ gb572)); have n3_ := Aside0.mk ((by rw [hg]; exact (below_size (by repeat (first | (with_reducible first | exact HB.out | apply below_alloc | apply pw_below_drewN | apply below_drew1) | exact HB.out))) : w.heap.size ≤ gb572)); clear HB; have HB := n0_; have BK572 := n1_; have GW572 := n2_; have GE572 := n3_; clear n0_ n1_ n2_ n3_; clear hb hbox hg; have hcz23_0 : w22.cell? ⟨gb572, 0, none⟩ = some (.int .u8 0) := (blk_cell BK572.out 0).trans rfl; have hcz23_1 : w22.cell? ⟨gb572, 1, none⟩ = some (.int .u64 0) := (blk_cell BK572.out 1).trans rfl; have hcz23_2 : w22.cell? ⟨gb572, 2, none⟩ = some (.string (⟨#[]⟩ : ByteArray)) := (blk_cell BK572.out 2).trans rfl; have hfz23_0 := blk_frozen BK572.out 0; have hfz23_1 := blk_frozen BK572.out 1; have hfz23_2 := blk_frozen BK572.out 2))
                    go_ret2
                    exact ⟨_, by first | rfl | (simp [errW_none, errW_some] <;> rfl) | (simp [*, errW_none, errW_some] <;> rfl), by first | exact Kd.R_nil _ _ _ _ _ | exact Kd.N_nil _ _ _ _ _ | exact Kd.V_nil _ _ _ _ _ | exact Kd.Q_nil _ _ _ _ _ | exact Kd.S_nil _ _ _ _ _, by repeat (first | (with_reducible first | exact HB.out | apply below_alloc | apply pw_below_drewN | apply below_drew1 | refine below_set ?_ GE572.out) | exact HB.out)⟩
                · rw [if_neg c18] at H
                  have c18b0 : (((rd_T60 l0 x16_1).f0) == 2) = false := beq_eq_false_iff_ne.mpr c18
                  have c18b1 : (((rd_T60 l0 x16_1).f0) != 2) = true := bne_iff_ne.mpr c18
                  simp only [Option.some.injEq, Prod.mk.injEq] at H
                  obtain ⟨rfl, rfl⟩ := H
                  have p571 : 0 ≤ (x16_1 : Int) := of_decide_eq_true (by first | (with_reducible assumption) | assumption)
                  have q571 : x16_1 < (l0.length : Int) := of_decide_eq_true (by first | (with_reducible assumption) | assumption)
                  obtain ⟨ad571, e571, hx571_0, hx571_1, hx571_2⟩ := at_T60 HR0.out x16_1 p571 q571
                  cases e571
                  replace hx571_0 := (HB.out.cell (World.block_lt_of_cell? w _ hx571_0)).trans hx571_0
                  replace hx571_1 := (HB.out.cell (World.block_lt_of_cell? w _ hx571_1)).trans hx571_1
                  replace hx571_2 := (HB.out.cell (World.block_lt_of_cell? w _ hx571_2)).trans hx571_2
                  replace p571 := eq_true p571
                  replace q571 := eq_true q571
                  go_wp2_with (first | ((with_reducible refine gate_dst (N := 5) rfl ?_); refine box_event ?hg (N := 5) ?hd (cs := #[.int .u8 0, .int .u64 0, .string (⟨#[]⟩ : ByteArray)]) (t := 60) ?hr ?_; (case hd => rfl); (case hg => rfl); (case hr => first | (go_simp; done) | (go_simp; rfl)); intro gb572 hg w24 hbox hb; have n0_ := Aside0.mk (below_step (by repeat (first | (with_reducible first | exact HB.out | apply below_alloc | apply pw_below_drewN | apply below_drew1) | exact HB.out)) hb); have n1_ := Aside0.mk (hbox); have n2_ := Aside0.mk ((by rw [hg]; exact (below_size (by repeat (first | (with_reducible first | exact HB.out | apply below_alloc | apply pw_below_drewN | apply below_drew1) | exact HB.out))) : w.heap.size ≤ gb572)); have n3_ := Aside0.mk ((by rw [hg]; exact (below_size (by repeat (first | (with_reducible first | exact HB.out | apply below_alloc | apply pw_below_drewN | apply below_drew1) | exact HB.out))) : w.heap.size ≤ gb572)); clear HB; have HB := n0_; have BK572 := n1_; have GW572 := n2_; have GE572 := n3_; clear n0_ n1_ n2_ n3_; clear hb hbox hg; have hcz25_0 : w24.cell? ⟨gb572, 0, none⟩ = some (.int .u8 0) := (blk_cell BK572.out 0).trans rfl; have hcz25_1 : w24.cell? ⟨gb572, 1, none⟩ = some (.int .u64 0) := (blk_cell BK572.out 1).trans rfl; have hcz25_2 : w24.cell? ⟨gb572, 2, none⟩ = some (.string (⟨#[]⟩ : ByteArray)) := (blk_cell BK572.out 2).trans rfl; have hfz25_0 := blk_frozen BK572.out 0; have hfz25_1 := blk_frozen BK572.out 1; have hfz25_2 := blk_frozen BK572.out 2))
                  go_ret2
                  exact ⟨_, by first | rfl | (simp [errW_none, errW_some] <;> rfl) | (simp [*, errW_none, errW_some] <;> rfl), by first | exact Kd.R_nil _ _ _ _ _ | exact Kd.N_nil _ _ _ _ _ | exact Kd.V_nil _ _ _ _ _ | exact Kd.Q_nil _ _ _ _ _ | exact Kd.S_nil _ _ _ _ _, by repeat (first | (with_reducible first | exact HB.out | apply below_alloc | apply pw_below_drewN | apply below_drew1 | refine below_set ?_ GE572.out) | exact HB.out)⟩
            · rw [if_neg c5] at H
              exact absurd H (by simp)
          · rw [if_neg c4] at H
            exact absurd H (by simp)
        · rw [if_neg c3] at H
          have c3b0 : decide (x16_1 < (l0.length : Int)) = false := decide_eq_false c3
          clear c3
          have H' := Aside0.mk H
          clear H
          go_wp2
          go_loopg [6, 51] k1 (fun kq v6 v51 w' => ∃ (x6_2 : List Int) (x51_2 : Int), v51 = .int .i64 x51_2 ∧ Aside0 (ladingref03_Key.l1 kq x6_2 l0 (l0.length : Int) x51_2 = some (r1, r2)) ∧ Aside0 (kq ≤ k1) ∧ Aside0 (Kd.R (Kd.int .u8) 5 w' w.heap.size (fun _ => True) v6 x6_2) ∧ Aside0 (Below w.heap.size w w'))
          case atStart => exact ⟨(([] : List Int)), (0), (by first | rfl | (simp; done) | (simp [*]; done) | (simp only [i64_w]; done)), H', ⟨Nat.le_refl _⟩, ⟨by first | exact Kd.R_nil _ _ _ _ _ | exact Kd.N_nil _ _ _ _ _ | exact Kd.V_nil _ _ _ _ _ | exact Kd.Q_nil _ _ _ _ _ | exact Kd.S_nil _ _ _ _ _⟩, ⟨by repeat (first | (with_reducible first | exact HB.out | apply below_alloc | apply pw_below_drewN | apply below_drew1) | exact HB.out)⟩⟩
          case round =>
            clear H'
            try clear c1
            try clear c2
            try clear c2b0
            try clear c2b1
            try clear p2
            try clear c3
            try clear c3b0
            try clear c4
            try clear c4b0
            try clear c5
            try clear c5b0
            try clear p5
            try clear q5
            try clear hx5
            try clear c6
            try clear c6b0
            try clear c6b1
            try clear p6
            try clear c7
            try clear c7b0
            try clear c7b1
            try clear c8
            try clear c8b0
            try clear c8b1
            try clear c9
            try clear c9b0
            try clear c9b1
            try clear c18
            try clear c18b0
            try clear c18b1
            try clear c19
            try clear c19b0
            try clear c19b1
            try clear hcz11_0
            try clear hcz11_1
            try clear hcz11_2
            try clear hcz13_0
            try clear hcz13_1
            try clear hcz13_2
            try clear hcz15_0
            try clear hcz15_1
            try clear hcz15_2
            try clear hcz17_0
            try clear hcz17_1
            try clear hcz17_2
            try clear hcz21_0
            try clear hcz21_1
            try clear hcz21_2
            try clear hcz23_0
            try clear hcz23_1
            try clear hcz23_2
            try clear hcz25_0
            try clear hcz25_1
            try clear hcz25_2
            try clear hfz11_0
            try clear hfz11_1
            try clear hfz11_2
            try clear hfz13_0
            try clear hfz13_1
            try clear hfz13_2
            try clear hfz15_0
            try clear hfz15_1
            try clear hfz15_2
            try clear hfz17_0
            try clear hfz17_1
            try clear hfz17_2
            try clear hfz21_0
            try clear hfz21_1
            try clear hfz21_2
            try clear hfz23_0
            try clear hfz23_1
            try clear hfz23_2
            try clear hfz25_0
            try clear hfz25_1
            try clear hfz25_2
            try clear hx571_0
            try clear hx571_1
            try clear hx571_2
            try clear p2
            try clear p571
            try clear q571
            obtain ⟨x6_2, x51_2, rfl, HA, HK2, HO_6, HB⟩ := hrel
            cases gk with
            | zero => exact absurd HA.out (by simp [ladingref03_Key.l1])
            | succ k2 =>
              have H := HA.out
              clear HA
              simp only [ladingref03_Key.l1] at H
              by_cases c26 : x51_2 < (l0.length : Int)
              · rw [if_pos c26] at H
                have c26b0 : decide (x51_2 < (l0.length : Int)) = true := decide_eq_true c26
                clear c26
                by_cases c27 : 0 ≤ x51_2
                · rw [if_pos c27] at H
                  have c27b0 : decide (0 ≤ x51_2) = true := decide_eq_true c27
                  clear c27
                  by_cases c28 : x51_2 < (l0.length : Int)
                  · rw [if_pos c28] at H
                    have c28b0 : decide (x51_2 < (l0.length : Int)) = true := decide_eq_true c28
                    clear c28
                    by_cases c29 : x6_2.length < 140737488355328
                    · rw [if_pos c29] at H
                      have LMc29 := Aside0.mk c29
                      clear c29
                      obtain ⟨y575, hy575⟩ : ∃ y_ : List Int, y_ = (x6_2 ++ [(rd_T60 l0 x51_2).f0]) := ⟨_, rfl⟩
                      replace H : (if ((rd_T60 l0 x51_2).f0) = 1 then (ladingref03_Key.l2 k2 y575 7 l0 (l0.length : Int) x51_2 ((rd_T60 l0 x51_2).f0) ((rd_T60 l0 x51_2).f1) ((rd_T60 l0 x51_2).f2)) else (ladingref03_Key.l3 k2 y575 0 l0 (l0.length : Int) x51_2 ((rd_T60 l0 x51_2).f0) ((rd_T60 l0 x51_2).f1) ((rd_T60 l0 x51_2).f2))) = some (r1, r2) := by first | (rw [hy575]; with_reducible exact H) | (have H2_ := (Option.bind_some _ _).symm.trans H; rw [hy575]; with_reducible exact H2_) | (have H2_ := (Option.bind_some _ _).symm.trans H; with_reducible exact H2_) | with_reducible exact H | (rw [hy575]; exact H) | exact H
                      have Ny575 := Aside0.mk hy575
                      clear hy575
                      by_cases c30 : ((rd_T60 l0 x51_2).f0) = 1
                      · rw [if_pos c30] at H
                        have c30b0 : (((rd_T60 l0 x51_2).f0) == 1) = true := beq_iff_eq.mpr c30
                        have c30b1 : (((rd_T60 l0 x51_2).f0) != 1) = false := bne_eq_false_iff_eq.mpr c30
                        clear c30
                        have H' := Aside0.mk H
                        clear H
                        have p573 : 0 ≤ (x51_2 : Int) := of_decide_eq_true (by first | (with_reducible assumption) | assumption)
                        have q573 : x51_2 < (l0.length : Int) := of_decide_eq_true (by first | (with_reducible assumption) | assumption)
                        obtain ⟨ad573, e573, hx573_0, hx573_1, hx573_2⟩ := at_T60 HR0.out x51_2 p573 q573
                        cases e573
                        replace hx573_0 := (HB.out.cell (World.block_lt_of_cell? w _ hx573_0)).trans hx573_0
                        replace hx573_1 := (HB.out.cell (World.block_lt_of_cell? w _ hx573_1)).trans hx573_1
                        replace hx573_2 := (HB.out.cell (World.block_lt_of_cell? w _ hx573_2)).trans hx573_2
                        replace p573 := eq_true p573
                        replace q573 := eq_true q573
                        go_wp2_with (first | ((with_reducible refine gate_dst (N := 8) rfl ?_); refine box_event ?hg (N := 8) ?hd (cs := #[.int .u8 0, .int .u64 0, .string (⟨#[]⟩ : ByteArray)]) (t := 60) ?hr ?_; (case hd => rfl); (case hg => rfl); (case hr => first | (go_simp; done) | (go_simp; rfl)); intro gb574 hg w31 hbox hb; have n0_ := Aside0.mk (Kd.R_below (by (with_reducible repeat (first | apply Kd.R_alloc | apply Kd.R_drewN | apply Kd.R_drew)); exact HO_6.out) hb); have n1_ := Aside0.mk (below_step (by repeat (first | (with_reducible first | exact HB.out | apply below_alloc | apply pw_below_drewN | apply below_drew1) | exact HB.out)) hb); have n2_ := Aside0.mk (hbox); have n3_ := Aside0.mk ((by rw [hg]; exact (below_size (by repeat (first | (with_reducible first | exact HB.out | apply below_alloc | apply pw_below_drewN | apply below_drew1) | exact HB.out))) : w.heap.size ≤ gb574)); have n4_ := Aside0.mk ((by rw [hg]; exact (below_size (by repeat (first | (with_reducible first | exact HB.out | apply below_alloc | apply pw_below_drewN | apply below_drew1) | exact HB.out))) : w.heap.size ≤ gb574)); clear HO_6; clear HB; have HO_6 := n0_; have HB := n1_; have BK574 := n2_; have GW574 := n3_; have GE574 := n4_; clear n0_ n1_ n2_ n3_ n4_; clear hb hbox hg; have hcz32_0 : w31.cell? ⟨gb574, 0, none⟩ = some (.int .u8 0) := (blk_cell BK574.out 0).trans rfl; have hcz32_1 : w31.cell? ⟨gb574, 1, none⟩ = some (.int .u64 0) := (blk_cell BK574.out 1).trans rfl; have hcz32_2 : w31.cell? ⟨gb574, 2, none⟩ = some (.string (⟨#[]⟩ : ByteArray)) := (blk_cell BK574.out 2).trans rfl; have hfz32_0 := blk_frozen BK574.out 0; have hfz32_1 := blk_frozen BK574.out 1; have hfz32_2 := blk_frozen BK574.out 2) | ((with_reducible refine gate_builtin (b := .append) (xs := #[.tmp 55, .tmp 58]) rfl ?_); at_builtin; refine Kd.R_append (Kd.int .u8) (w0 := w) w.heap.size rfl (.tmp 55) (.tmp 58) 24 5 (.int .u8 0) 1 rfl Tryd.underlying24 info5 rfl (by decide) (by omega) u6 x6_2 ((rd_T60 l0 x51_2).f0) [.int .u8 ((rd_T60 l0 x51_2).f0)] (fun _ => True) (fun _ => False) rfl (by first | (go_simp; done) | (go_simp; rfl)) ?aP (fun _ hk => hk.elim) ?aF ?aO ?aB ?aS ?aL ?_; (case aP => exact rfl); (case aB => exact (by repeat (first | (with_reducible first | exact HB.out | apply below_alloc | apply pw_below_drewN | apply below_drew1 | refine below_set ?_ GE574.out) | exact HB.out))); (case aF => exact (fun _ _ => trivial)); (case aO => exact (by (with_reducible repeat (first | apply Kd.R_alloc | apply Kd.R_drewN | apply Kd.R_drew)); exact Kd.R_mono (Kd.R_far (p := ⟨gb574, 2, none⟩) (Kd.R_far (p := ⟨gb574, 1, none⟩) (Kd.R_far (p := ⟨gb574, 0, none⟩) (Kd.R_types HO_6.out BK574.out (by decide)) (fun _ hk => hk.2) (.int .u8 ((rd_T60 l0 x51_2).f0))) (fun _ hk => hk.2) (.int .u64 ((rd_T60 l0 x51_2).f1))) (fun _ hk => hk.2) (.string ((rd_T60 l0 x51_2).f2))) (fun _ hk => trivial))); (case aS => exact (below_size (by repeat (first | (with_reducible first | exact HB.out | apply below_alloc | apply pw_below_drewN | apply below_drew1 | refine below_set ?_ GE574.out) | exact HB.out)))); (case aL => have := LMc29.out; omega); intro v576 w33 ho hb hg hat; rw [← Ny575.out] at ho; have n0_ := Aside0.mk (blk_grown (g := gb574) (o := .cells #[.int .u8 ((rd_T60 l0 x51_2).f0), .int .u64 ((rd_T60 l0 x51_2).f1), .string ((rd_T60 l0 x51_2).f2)] 60 (0, 0)) (by (with_reducible repeat (first | refine blk_drewN ?_ _ | refine blk_drew ?_ | refine blk_alloc ?_ _)); refine blk_put (cs := #[.int .u8 ((rd_T60 l0 x51_2).f0), .int .u64 ((rd_T60 l0 x51_2).f1), .string (⟨#[]⟩ : ByteArray)]) ?_ 2 _ (by first | rfl | (simp only [List.length_drop, List.length_take]; rfl)); (with_reducible repeat (first | refine blk_drewN ?_ _ | refine blk_drew ?_ | refine blk_alloc ?_ _)); refine blk_put (cs := #[.int .u8 ((rd_T60 l0 x51_2).f0), .int .u64 0, .string (⟨#[]⟩ : ByteArray)]) ?_ 1 _ (by first | rfl | (simp only [List.length_drop, List.length_take]; rfl)); (with_reducible repeat (first | refine blk_drewN ?_ _ | refine blk_drew ?_ | refine blk_alloc ?_ _)); refine blk_put (cs := #[.int .u8 0, .int .u64 0, .string (⟨#[]⟩ : ByteArray)]) ?_ 0 _ (by first | rfl | (simp only [List.length_drop, List.length_take]; rfl)); (with_reducible repeat (first | refine blk_drewN ?_ _ | refine blk_drew ?_ | refine blk_alloc ?_ _)); exact BK574.out) hg (Kd.R_ne HO_6.out BK574.out (by decide))); have n1_ := Aside0.mk (hb); have n2_ := Aside0.mk (ho); clear BK574; clear HB; clear HO_6; have BK574 := n0_; have HB := n1_; have HO577 := n2_; clear n0_ n1_ n2_; clear ho hb hg hat; have hcz34_0 : w33.cell? ⟨gb574, 0, none⟩ = some (.int .u8 ((rd_T60 l0 x51_2).f0)) := (blk_cell BK574.out 0).trans rfl; have hcz34_1 : w33.cell? ⟨gb574, 1, none⟩ = some (.int .u64 ((rd_T60 l0 x51_2).f1)) := (blk_cell BK574.out 1).trans rfl; have hcz34_2 : w33.cell? ⟨gb574, 2, none⟩ = some (.string ((rd_T60 l0 x51_2).f2)) := (blk_cell BK574.out 2).trans rfl; have hfz34_0 := blk_frozen BK574.out 0; have hfz34_1 := blk_frozen BK574.out 1; have hfz34_2 := blk_frozen BK574.out 2))
                        go_loopg [6, 9] k2 (fun kq v6 v9 w' => ∃ (x6_3 : List Int) (x9_3 : Int), v9 = .int .i64 x9_3 ∧ Aside0 (ladingref03_Key.l2 kq x6_3 x9_3 l0 (l0.length : Int) x51_2 ((rd_T60 l0 x51_2).f0) ((rd_T60 l0 x51_2).f1) ((rd_T60 l0 x51_2).f2) = some (r1, r2)) ∧ Aside0 (kq ≤ k2) ∧ Aside0 (Kd.R (Kd.int .u8) 5 w' w.heap.size (fun _ => True) v6 x6_3) ∧ Aside0 (w'.heap[gb574]? = some (.cells #[.int .u8 ((rd_T60 l0 x51_2).f0), .int .u64 ((rd_T60 l0 x51_2).f1), .string ((rd_T60 l0 x51_2).f2)] 60 (0, 0))) ∧ Aside0 (Below w.heap.size w w'))
                        case atStart => exact ⟨(y575), (7), (by first | rfl | (simp; done) | (simp [*]; done) | (simp only [i64_w]; done)), H', ⟨Nat.le_refl _⟩, ⟨by (with_reducible repeat (first | apply Kd.R_alloc | apply Kd.R_drewN | apply Kd.R_drew)); exact HO577.out⟩, ⟨by (with_reducible repeat (first | refine blk_drewN ?_ _ | refine blk_drew ?_ | refine blk_alloc ?_ _)); exact BK574.out⟩, ⟨by repeat (first | (with_reducible first | exact HB.out | apply below_alloc | apply pw_below_drewN | apply below_drew1 | refine below_set ?_ GE574.out) | exact HB.out)⟩⟩
                        case round =>
                          clear H'
                          try clear c1
                          try clear c2
                          try clear c2b0
                          try clear c2b1
                          try clear p2
                          try clear c3
                          try clear c3b0
                          try clear c4
                          try clear c4b0
                          try clear c5
                          try clear c5b0
                          try clear p5
                          try clear q5
                          try clear hx5
                          try clear c6
                          try clear c6b0
                          try clear c6b1
                          try clear p6
                          try clear c7
                          try clear c7b0
                          try clear c7b1
                          try clear c8
                          try clear c8b0
                          try clear c8b1
                          try clear c9
                          try clear c9b0
                          try clear c9b1
                          try clear c18
                          try clear c18b0
                          try clear c18b1
                          try clear c19
                          try clear c19b0
                          try clear c19b1
                          try clear c26
                          try clear c26b0
                          try clear c27
                          try clear c27b0
                          try clear c28
                          try clear c28b0
                          try clear c29
                          try clear c30
                          try clear c30b0
                          try clear c30b1
                          try clear hcz11_0
                          try clear hcz11_1
                          try clear hcz11_2
                          try clear hcz13_0
                          try clear hcz13_1
                          try clear hcz13_2
                          try clear hcz15_0
                          try clear hcz15_1
                          try clear hcz15_2
                          try clear hcz17_0
                          try clear hcz17_1
                          try clear hcz17_2
                          try clear hcz21_0
                          try clear hcz21_1
                          try clear hcz21_2
                          try clear hcz23_0
                          try clear hcz23_1
                          try clear hcz23_2
                          try clear hcz25_0
                          try clear hcz25_1
                          try clear hcz25_2
                          try clear hcz32_0
                          try clear hcz32_1
                          try clear hcz32_2
                          try clear hcz34_0
                          try clear hcz34_1
                          try clear hcz34_2
                          try clear hfz11_0
                          try clear hfz11_1
                          try clear hfz11_2
                          try clear hfz13_0
                          try clear hfz13_1
                          try clear hfz13_2
                          try clear hfz15_0
                          try clear hfz15_1
                          try clear hfz15_2
                          try clear hfz17_0
                          try clear hfz17_1
                          try clear hfz17_2
                          try clear hfz21_0
                          try clear hfz21_1
                          try clear hfz21_2
                          try clear hfz23_0
                          try clear hfz23_1
                          try clear hfz23_2
                          try clear hfz25_0
                          try clear hfz25_1
                          try clear hfz25_2
                          try clear hfz32_0
                          try clear hfz32_1
                          try clear hfz32_2
                          try clear hfz34_0
                          try clear hfz34_1
                          try clear hfz34_2
                          try clear hx571_0
                          try clear hx571_1
                          try clear hx571_2
                          try clear hx573_0
                          try clear hx573_1
                          try clear hx573_2
                          try clear p2
                          try clear p5
                          try clear p571
                          try clear p573
                          try clear p6
                          try clear q5
                          try clear q571
                          try clear q573
                          (try clear BK574)
                          obtain ⟨x6_3, x9_3, rfl, HA, HK3, HO_6, BK574, HB⟩ := hrel
                          cases gk with
                          | zero => exact absurd HA.out (by simp [ladingref03_Key.l2])
                          | succ k3 =>
                            have H := HA.out
                            clear HA
                            simp only [ladingref03_Key.l2] at H
                            by_cases c35 : x9_3 ≥ 0
                            · rw [if_pos c35] at H
                              have c35b0 : decide (0 ≤ x9_3) = true := decide_eq_true c35
                              clear c35
                              obtain ⟨ji36, hji36⟩ : ∃ j_ : Int, (IntKind.u64.wrap (wrap64 (8 * x9_3))) = j_ := ⟨_, rfl⟩
                              replace H : (if 0 ≤ (ji36) then (if x6_3.length < 140737488355328 then (ladingref03_Key.l2 k3 (x6_3 ++ [(shr .u64 ((rd_T60 l0 x51_2).f1) (ji36)) % 256]) (wrap64 (x9_3 - 1)) l0 (l0.length : Int) x51_2 ((rd_T60 l0 x51_2).f0) ((rd_T60 l0 x51_2).f1) ((rd_T60 l0 x51_2).f2)) else (none)) else (none)) = some (r1, r2) := by first | (rw [hji36] at H; exact H) | (simp only [hji36] at H ⊢; exact H)
                              by_cases c37 : 0 ≤ (ji36)
                              · rw [if_pos c37] at H
                                have c37b0 := eq_true c37
                                have c37b1 : decide (0 ≤ (ji36)) = true := decide_eq_true c37
                                clear c37
                                obtain ⟨ji38, hji38⟩ : ∃ j_ : Int, (shr .u64 ((rd_T60 l0 x51_2).f1) (ji36)) = j_ := ⟨_, rfl⟩
                                replace H : (if x6_3.length < 140737488355328 then (ladingref03_Key.l2 k3 (x6_3 ++ [(ji38) % 256]) (wrap64 (x9_3 - 1)) l0 (l0.length : Int) x51_2 ((rd_T60 l0 x51_2).f0) ((rd_T60 l0 x51_2).f1) ((rd_T60 l0 x51_2).f2)) else (none)) = some (r1, r2) := by first | (rw [hji38] at H; exact H) | (simp only [hji38] at H ⊢; exact H)
                                have hji38_ : (((rd_T60 l0 x51_2).f1) / 2 ^ min (ji36).toNat 64) = ji38 := hji38
                                have hji38z : (ji36) ≤ 64 → (((rd_T60 l0 x51_2).f1) / 2 ^ (ji36).toNat) = ji38 := shr_small hji38
                                by_cases c39 : x6_3.length < 140737488355328
                                · rw [if_pos c39] at H
                                  have LMc39 := Aside0.mk c39
                                  clear c39
                                  obtain ⟨y578, hy578⟩ : ∃ y_ : List Int, y_ = (x6_3 ++ [(ji38) % 256]) := ⟨_, rfl⟩
                                  replace H : (ladingref03_Key.l2 k3 y578 (wrap64 (x9_3 - 1)) l0 (l0.length : Int) x51_2 ((rd_T60 l0 x51_2).f0) ((rd_T60 l0 x51_2).f1) ((rd_T60 l0 x51_2).f2)) = some (r1, r2) := by first | (rw [hy578]; with_reducible exact H) | (have H2_ := (Option.bind_some _ _).symm.trans H; rw [hy578]; with_reducible exact H2_) | (have H2_ := (Option.bind_some _ _).symm.trans H; with_reducible exact H2_) | with_reducible exact H | (rw [hy578]; exact H) | exact H
                                  have Ny578 := Aside0.mk hy578
                                  clear hy578
                                  have H' := Aside0.mk H
                                  clear H
                                  have hcz40_0 : wr.cell? ⟨gb574, 0, none⟩ = some (.int .u8 ((rd_T60 l0 x51_2).f0)) := (blk_cell BK574.out 0).trans rfl
                                  have hcz40_1 : wr.cell? ⟨gb574, 1, none⟩ = some (.int .u64 ((rd_T60 l0 x51_2).f1)) := (blk_cell BK574.out 1).trans rfl
                                  have hcz40_2 : wr.cell? ⟨gb574, 2, none⟩ = some (.string ((rd_T60 l0 x51_2).f2)) := (blk_cell BK574.out 2).trans rfl
                                  have hfz40_0 := blk_frozen BK574.out 0
                                  have hfz40_1 := blk_frozen BK574.out 1
                                  have hfz40_2 := blk_frozen BK574.out 2
                                  go_wp2_with (first | ((with_reducible refine gate_builtin (b := .append) (xs := #[.tmp 67, .tmp 75]) rfl ?_); at_builtin; refine Kd.R_append (Kd.int .u8) (w0 := w) w.heap.size rfl (.tmp 67) (.tmp 75) 24 5 (.int .u8 0) 1 rfl Tryd.underlying24 info5 rfl (by decide) (by omega) u6 x6_3 ((ji38) % 256) [.int .u8 ((ji38) % 256)] (fun _ => True) (fun _ => False) rfl rfl ?aP (fun _ hk => hk.elim) ?aF ?aO ?aB ?aS ?aL ?_; (case aP => exact rfl); (case aB => exact (by repeat (first | (with_reducible first | exact HB.out | apply below_alloc | apply pw_below_drewN | apply below_drew1 | refine below_set ?_ GE574.out) | exact HB.out))); (case aF => exact (fun _ _ => trivial)); (case aO => exact (by (with_reducible repeat (first | apply Kd.R_alloc | apply Kd.R_drewN | apply Kd.R_drew)); exact HO_6.out)); (case aS => exact (below_size (by repeat (first | (with_reducible first | exact HB.out | apply below_alloc | apply pw_below_drewN | apply below_drew1 | refine below_set ?_ GE574.out) | exact HB.out)))); (case aL => have := LMc39.out; omega); intro v579 w41 ho hb hg hat; rw [← Ny578.out] at ho; have n0_ := Aside0.mk (blk_grown (g := gb574) (o := .cells #[.int .u8 ((rd_T60 l0 x51_2).f0), .int .u64 ((rd_T60 l0 x51_2).f1), .string ((rd_T60 l0 x51_2).f2)] 60 (0, 0)) (by (with_reducible repeat (first | refine blk_drewN ?_ _ | refine blk_drew ?_ | refine blk_alloc ?_ _)); exact BK574.out) hg (Kd.R_ne HO_6.out BK574.out (by decide))); have n1_ := Aside0.mk (hb); have n2_ := Aside0.mk (ho); clear BK574; clear HB; clear HO_6; have BK574 := n0_; have HB := n1_; have HO580 := n2_; clear n0_ n1_ n2_; clear ho hb hg hat))
                                  go_roundg k3
                                  case measure => have := HK1.out; have := HK2.out; have := HK3.out; omega
                                  case rel => exact ⟨(y578), (wrap64 (x9_3 - 1)), (by first | rfl | (simp; done) | (simp [*]; done) | (simp only [i64_w]; done)), H', ⟨by have := HK1.out; have := HK2.out; have := HK3.out; omega⟩, ⟨by (with_reducible repeat (first | apply Kd.R_alloc | apply Kd.R_drewN | apply Kd.R_drew)); exact HO580.out⟩, ⟨by (with_reducible repeat (first | refine blk_drewN ?_ _ | refine blk_drew ?_ | refine blk_alloc ?_ _)); exact BK574.out⟩, ⟨by repeat (first | (with_reducible first | exact HB.out | apply below_alloc | apply pw_below_drewN | apply below_drew1 | refine below_set ?_ GE574.out) | exact HB.out)⟩⟩
                                · rw [if_neg c39] at H
                                  exact absurd H (by simp)
                              · rw [if_neg c37] at H
                                exact absurd H (by simp)
                            · rw [if_neg c35] at H
                              have c35b0 : decide (0 ≤ x9_3) = false := decide_eq_false c35
                              clear c35
                              have H' := Aside0.mk H
                              clear H
                              go_wp2
                              go_roundg k3
                              case measure => have := HK1.out; have := HK2.out; have := HK3.out; omega
                              case rel => exact ⟨(x6_3), (wrap64 (x51_2 + 1)), (by first | rfl | (simp; done) | (simp [*]; done) | (simp only [i64_w]; done)), H', ⟨by have := HK1.out; have := HK2.out; have := HK3.out; omega⟩, ⟨by (with_reducible repeat (first | apply Kd.R_alloc | apply Kd.R_drewN | apply Kd.R_drew)); exact HO_6.out⟩, ⟨by repeat (first | (with_reducible first | exact HB.out | apply below_alloc | apply pw_below_drewN | apply below_drew1 | refine below_set ?_ GE574.out) | exact HB.out)⟩⟩
                      · rw [if_neg c30] at H
                        have c30b0 : (((rd_T60 l0 x51_2).f0) == 1) = false := beq_eq_false_iff_ne.mpr c30
                        have c30b1 : (((rd_T60 l0 x51_2).f0) != 1) = true := bne_iff_ne.mpr c30
                        have H' := Aside0.mk H
                        clear H
                        have p573 : 0 ≤ (x51_2 : Int) := of_decide_eq_true (by first | (with_reducible assumption) | assumption)
                        have q573 : x51_2 < (l0.length : Int) := of_decide_eq_true (by first | (with_reducible assumption) | assumption)
                        obtain ⟨ad573, e573, hx573_0, hx573_1, hx573_2⟩ := at_T60 HR0.out x51_2 p573 q573
                        cases e573
                        replace hx573_0 := (HB.out.cell (World.block_lt_of_cell? w _ hx573_0)).trans hx573_0
                        replace hx573_1 := (HB.out.cell (World.block_lt_of_cell? w _ hx573_1)).trans hx573_1
                        replace hx573_2 := (HB.out.cell (World.block_lt_of_cell? w _ hx573_2)).trans hx573_2
                        replace p573 := eq_true p573
                        replace q573 := eq_true q573
                        go_wp2_with (first | ((with_reducible refine gate_dst (N := 8) rfl ?_); refine box_event ?hg (N := 8) ?hd (cs := #[.int .u8 0, .int .u64 0, .string (⟨#[]⟩ : ByteArray)]) (t := 60) ?hr ?_; (case hd => rfl); (case hg => rfl); (case hr => first | (go_simp; done) | (go_simp; rfl)); intro gb574 hg w42 hbox hb; have n0_ := Aside0.mk (Kd.R_below (by (with_reducible repeat (first | apply Kd.R_alloc | apply Kd.R_drewN | apply Kd.R_drew)); exact HO_6.out) hb); have n1_ := Aside0.mk (below_step (by repeat (first | (with_reducible first | exact HB.out | apply below_alloc | apply pw_below_drewN | apply below_drew1) | exact HB.out)) hb); have n2_ := Aside0.mk (hbox); have n3_ := Aside0.mk ((by rw [hg]; exact (below_size (by repeat (first | (with_reducible first | exact HB.out | apply below_alloc | apply pw_below_drewN | apply below_drew1) | exact HB.out))) : w.heap.size ≤ gb574)); have n4_ := Aside0.mk ((by rw [hg]; exact (below_size (by repeat (first | (with_reducible first | exact HB.out | apply below_alloc | apply pw_below_drewN | apply below_drew1) | exact HB.out))) : w.heap.size ≤ gb574)); clear HO_6; clear HB; have HO_6 := n0_; have HB := n1_; have BK574 := n2_; have GW574 := n3_; have GE574 := n4_; clear n0_ n1_ n2_ n3_ n4_; clear hb hbox hg; have hcz43_0 : w42.cell? ⟨gb574, 0, none⟩ = some (.int .u8 0) := (blk_cell BK574.out 0).trans rfl; have hcz43_1 : w42.cell? ⟨gb574, 1, none⟩ = some (.int .u64 0) := (blk_cell BK574.out 1).trans rfl; have hcz43_2 : w42.cell? ⟨gb574, 2, none⟩ = some (.string (⟨#[]⟩ : ByteArray)) := (blk_cell BK574.out 2).trans rfl; have hfz43_0 := blk_frozen BK574.out 0; have hfz43_1 := blk_frozen BK574.out 1; have hfz43_2 := blk_frozen BK574.out 2) | ((with_reducible refine gate_builtin (b := .append) (xs := #[.tmp 55, .tmp 58]) rfl ?_); at_builtin; refine Kd.R_append (Kd.int .u8) (w0 := w) w.heap.size rfl (.tmp 55) (.tmp 58) 24 5 (.int .u8 0) 1 rfl Tryd.underlying24 info5 rfl (by decide) (by omega) u6 x6_2 ((rd_T60 l0 x51_2).f0) [.int .u8 ((rd_T60 l0 x51_2).f0)] (fun _ => True) (fun _ => False) rfl (by first | (go_simp; done) | (go_simp; rfl)) ?aP (fun _ hk => hk.elim) ?aF ?aO ?aB ?aS ?aL ?_; (case aP => exact rfl); (case aB => exact (by repeat (first | (with_reducible first | exact HB.out | apply below_alloc | apply pw_below_drewN | apply below_drew1 | refine below_set ?_ GE574.out) | exact HB.out))); (case aF => exact (fun _ _ => trivial)); (case aO => exact (by (with_reducible repeat (first | apply Kd.R_alloc | apply Kd.R_drewN | apply Kd.R_drew)); exact Kd.R_mono (Kd.R_far (p := ⟨gb574, 2, none⟩) (Kd.R_far (p := ⟨gb574, 1, none⟩) (Kd.R_far (p := ⟨gb574, 0, none⟩) (Kd.R_types HO_6.out BK574.out (by decide)) (fun _ hk => hk.2) (.int .u8 ((rd_T60 l0 x51_2).f0))) (fun _ hk => hk.2) (.int .u64 ((rd_T60 l0 x51_2).f1))) (fun _ hk => hk.2) (.string ((rd_T60 l0 x51_2).f2))) (fun _ hk => trivial))); (case aS => exact (below_size (by repeat (first | (with_reducible first | exact HB.out | apply below_alloc | apply pw_below_drewN | apply below_drew1 | refine below_set ?_ GE574.out) | exact HB.out)))); (case aL => have := LMc29.out; omega); intro v576 w44 ho hb hg hat; rw [← Ny575.out] at ho; have n0_ := Aside0.mk (blk_grown (g := gb574) (o := .cells #[.int .u8 ((rd_T60 l0 x51_2).f0), .int .u64 ((rd_T60 l0 x51_2).f1), .string ((rd_T60 l0 x51_2).f2)] 60 (0, 0)) (by (with_reducible repeat (first | refine blk_drewN ?_ _ | refine blk_drew ?_ | refine blk_alloc ?_ _)); refine blk_put (cs := #[.int .u8 ((rd_T60 l0 x51_2).f0), .int .u64 ((rd_T60 l0 x51_2).f1), .string (⟨#[]⟩ : ByteArray)]) ?_ 2 _ (by first | rfl | (simp only [List.length_drop, List.length_take]; rfl)); (with_reducible repeat (first | refine blk_drewN ?_ _ | refine blk_drew ?_ | refine blk_alloc ?_ _)); refine blk_put (cs := #[.int .u8 ((rd_T60 l0 x51_2).f0), .int .u64 0, .string (⟨#[]⟩ : ByteArray)]) ?_ 1 _ (by first | rfl | (simp only [List.length_drop, List.length_take]; rfl)); (with_reducible repeat (first | refine blk_drewN ?_ _ | refine blk_drew ?_ | refine blk_alloc ?_ _)); refine blk_put (cs := #[.int .u8 0, .int .u64 0, .string (⟨#[]⟩ : ByteArray)]) ?_ 0 _ (by first | rfl | (simp only [List.length_drop, List.length_take]; rfl)); (with_reducible repeat (first | refine blk_drewN ?_ _ | refine blk_drew ?_ | refine blk_alloc ?_ _)); exact BK574.out) hg (Kd.R_ne HO_6.out BK574.out (by decide))); have n1_ := Aside0.mk (hb); have n2_ := Aside0.mk (ho); clear BK574; clear HB; clear HO_6; have BK574 := n0_; have HB := n1_; have HO577 := n2_; clear n0_ n1_ n2_; clear ho hb hg hat; have hcz45_0 : w44.cell? ⟨gb574, 0, none⟩ = some (.int .u8 ((rd_T60 l0 x51_2).f0)) := (blk_cell BK574.out 0).trans rfl; have hcz45_1 : w44.cell? ⟨gb574, 1, none⟩ = some (.int .u64 ((rd_T60 l0 x51_2).f1)) := (blk_cell BK574.out 1).trans rfl; have hcz45_2 : w44.cell? ⟨gb574, 2, none⟩ = some (.string ((rd_T60 l0 x51_2).f2)) := (blk_cell BK574.out 2).trans rfl; have hfz45_0 := blk_frozen BK574.out 0; have hfz45_1 := blk_frozen BK574.out 1; have hfz45_2 := blk_frozen BK574.out 2))
                        go_loopg [6, 10] k2 (fun kq v6 v10 w' => ∃ (x6_3 : List Int) (x10_3 : Int), v10 = .int .i64 x10_3 ∧ Aside0 (ladingref03_Key.l3 kq x6_3 x10_3 l0 (l0.length : Int) x51_2 ((rd_T60 l0 x51_2).f0) ((rd_T60 l0 x51_2).f1) ((rd_T60 l0 x51_2).f2) = some (r1, r2)) ∧ Aside0 (kq ≤ k2) ∧ Aside0 (Kd.R (Kd.int .u8) 5 w' w.heap.size (fun _ => True) v6 x6_3) ∧ Aside0 (w'.heap[gb574]? = some (.cells #[.int .u8 ((rd_T60 l0 x51_2).f0), .int .u64 ((rd_T60 l0 x51_2).f1), .string ((rd_T60 l0 x51_2).f2)] 60 (0, 0))) ∧ Aside0 (Below w.heap.size w w'))
                        case atStart => exact ⟨(y575), (0), (by first | rfl | (simp; done) | (simp [*]; done) | (simp only [i64_w]; done)), H', ⟨Nat.le_refl _⟩, ⟨by (with_reducible repeat (first | apply Kd.R_alloc | apply Kd.R_drewN | apply Kd.R_drew)); exact HO577.out⟩, ⟨by (with_reducible repeat (first | refine blk_drewN ?_ _ | refine blk_drew ?_ | refine blk_alloc ?_ _)); exact BK574.out⟩, ⟨by repeat (first | (with_reducible first | exact HB.out | apply below_alloc | apply pw_below_drewN | apply below_drew1 | refine below_set ?_ GE574.out) | exact HB.out)⟩⟩
                        case round =>
                          clear H'
                          try clear c1
                          try clear c2
                          try clear c2b0
                          try clear c2b1
                          try clear p2
                          try clear c3
                          try clear c3b0
                          try clear c4
                          try clear c4b0
                          try clear c5
                          try clear c5b0
                          try clear p5
                          try clear q5
                          try clear hx5
                          try clear c6
                          try clear c6b0
                          try clear c6b1
                          try clear p6
                          try clear c7
                          try clear c7b0
                          try clear c7b1
                          try clear c8
                          try clear c8b0
                          try clear c8b1
                          try clear c9
                          try clear c9b0
                          try clear c9b1
                          try clear c18
                          try clear c18b0
                          try clear c18b1
                          try clear c19
                          try clear c19b0
                          try clear c19b1
                          try clear c26
                          try clear c26b0
                          try clear c27
                          try clear c27b0
                          try clear c28
                          try clear c28b0
                          try clear c29
                          try clear c30
                          try clear c30b0
                          try clear c30b1
                          try clear c35
                          try clear c35b0
                          try clear c36
                          try clear c37
                          try clear c37b0
                          try clear c37b1
                          try clear c39
                          try clear hcz11_0
                          try clear hcz11_1
                          try clear hcz11_2
                          try clear hcz13_0
                          try clear hcz13_1
                          try clear hcz13_2
                          try clear hcz15_0
                          try clear hcz15_1
                          try clear hcz15_2
                          try clear hcz17_0
                          try clear hcz17_1
                          try clear hcz17_2
                          try clear hcz21_0
                          try clear hcz21_1
                          try clear hcz21_2
                          try clear hcz23_0
                          try clear hcz23_1
                          try clear hcz23_2
                          try clear hcz25_0
                          try clear hcz25_1
                          try clear hcz25_2
                          try clear hcz32_0
                          try clear hcz32_1
                          try clear hcz32_2
                          try clear hcz34_0
                          try clear hcz34_1
                          try clear hcz34_2
                          try clear hcz40_0
                          try clear hcz40_1
                          try clear hcz40_2
                          try clear hcz43_0
                          try clear hcz43_1
                          try clear hcz43_2
                          try clear hcz45_0
                          try clear hcz45_1
                          try clear hcz45_2
                          try clear hfz11_0
                          try clear hfz11_1
                          try clear hfz11_2
                          try clear hfz13_0
                          try clear hfz13_1
                          try clear hfz13_2
                          try clear hfz15_0
                          try clear hfz15_1
                          try clear hfz15_2
                          try clear hfz17_0
                          try clear hfz17_1
                          try clear hfz17_2
                          try clear hfz21_0
                          try clear hfz21_1
                          try clear hfz21_2
                          try clear hfz23_0
                          try clear hfz23_1
                          try clear hfz23_2
                          try clear hfz25_0
                          try clear hfz25_1
                          try clear hfz25_2
                          try clear hfz32_0
                          try clear hfz32_1
                          try clear hfz32_2
                          try clear hfz34_0
                          try clear hfz34_1
                          try clear hfz34_2
                          try clear hfz40_0
                          try clear hfz40_1
                          try clear hfz40_2
                          try clear hfz43_0
                          try clear hfz43_1
                          try clear hfz43_2
                          try clear hfz45_0
                          try clear hfz45_1
                          try clear hfz45_2
                          try clear hx571_0
                          try clear hx571_1
                          try clear hx571_2
                          try clear hx573_0
                          try clear hx573_1
                          try clear hx573_2
                          try clear p2
                          try clear p5
                          try clear p571
                          try clear p573
                          try clear p6
                          try clear q5
                          try clear q571
                          try clear q573
                          (try clear BK574)
                          obtain ⟨x6_3, x10_3, rfl, HA, HK3, HO_6, BK574, HB⟩ := hrel
                          cases gk with
                          | zero => exact absurd HA.out (by simp [ladingref03_Key.l3])
                          | succ k3 =>
                            have H := HA.out
                            clear HA
                            simp only [ladingref03_Key.l3] at H
                            by_cases c46 : x10_3 < (((rd_T60 l0 x51_2).f2).size : Int)
                            · rw [if_pos c46] at H
                              have c46b0 : decide (x10_3 < (((rd_T60 l0 x51_2).f2).size : Int)) = true := decide_eq_true c46
                              clear c46
                              by_cases c47 : 0 ≤ x10_3
                              · rw [if_pos c47] at H
                                have c47b0 : decide (0 ≤ x10_3) = true := decide_eq_true c47
                                clear c47
                                by_cases c49 : x6_3.length < 140737488355328
                                · rw [if_pos c49] at H
                                  have LMc49 := Aside0.mk c49
                                  clear c49
                                  obtain ⟨y581, hy581⟩ : ∃ y_ : List Int, y_ = (x6_3 ++ [bt ((rd_T60 l0 x51_2).f2) x10_3]) := ⟨_, rfl⟩
                                  replace H : (if (bt ((rd_T60 l0 x51_2).f2) x10_3) = 0 then (if y581.length < 140737488355328 then (ladingref03_Key.l3 k3 (y581 ++ [255]) (wrap64 (x10_3 + 1)) l0 (l0.length : Int) x51_2 ((rd_T60 l0 x51_2).f0) ((rd_T60 l0 x51_2).f1) ((rd_T60 l0 x51_2).f2)) else (none)) else (ladingref03_Key.l3 k3 y581 (wrap64 (x10_3 + 1)) l0 (l0.length : Int) x51_2 ((rd_T60 l0 x51_2).f0) ((rd_T60 l0 x51_2).f1) ((rd_T60 l0 x51_2).f2))) = some (r1, r2) := by first | (rw [hy581]; with_reducible exact H) | (have H2_ := (Option.bind_some _ _).symm.trans H; rw [hy581]; with_reducible exact H2_) | (have H2_ := (Option.bind_some _ _).symm.trans H; with_reducible exact H2_) | with_reducible exact H | (rw [hy581]; exact H) | exact H
                                  have Ny581 := Aside0.mk hy581
                                  clear hy581
                                  by_cases c51 : (bt ((rd_T60 l0 x51_2).f2) x10_3) = 0
                                  · rw [if_pos c51] at H
                                    have c51b0 : ((bt ((rd_T60 l0 x51_2).f2) x10_3) == 0) = true := beq_iff_eq.mpr c51
                                    have c51b1 : ((bt ((rd_T60 l0 x51_2).f2) x10_3) != 0) = false := bne_eq_false_iff_eq.mpr c51
                                    clear c51
                                    by_cases c52 : y581.length < 140737488355328
                                    · rw [if_pos c52] at H
                                      have LMc52 := Aside0.mk c52
                                      clear c52
                                      obtain ⟨y584, hy584⟩ : ∃ y_ : List Int, y_ = (y581 ++ [255]) := ⟨_, rfl⟩
                                      replace H : (ladingref03_Key.l3 k3 y584 (wrap64 (x10_3 + 1)) l0 (l0.length : Int) x51_2 ((rd_T60 l0 x51_2).f0) ((rd_T60 l0 x51_2).f1) ((rd_T60 l0 x51_2).f2)) = some (r1, r2) := by first | (rw [hy584]; with_reducible exact H) | (have H2_ := (Option.bind_some _ _).symm.trans H; rw [hy584]; with_reducible exact H2_) | (have H2_ := (Option.bind_some _ _).symm.trans H; with_reducible exact H2_) | with_reducible exact H | (rw [hy584]; exact H) | exact H
                                      have Ny584 := Aside0.mk hy584
                                      clear hy584
                                      have H' := Aside0.mk H
                                      clear H
                                      have hcz53_0 : wr.cell? ⟨gb574, 0, none⟩ = some (.int .u8 ((rd_T60 l0 x51_2).f0)) := (blk_cell BK574.out 0).trans rfl
                                      have hcz53_1 : wr.cell? ⟨gb574, 1, none⟩ = some (.int .u64 ((rd_T60 l0 x51_2).f1)) := (blk_cell BK574.out 1).trans rfl
                                      have hcz53_2 : wr.cell? ⟨gb574, 2, none⟩ = some (.string ((rd_T60 l0 x51_2).f2)) := (blk_cell BK574.out 2).trans rfl
                                      have hfz53_0 := blk_frozen BK574.out 0
                                      have hfz53_1 := blk_frozen BK574.out 1
                                      have hfz53_2 := blk_frozen BK574.out 2
                                      have p48 : 0 ≤ (x10_3 : Int) := of_decide_eq_true (by first | (with_reducible assumption) | assumption)
                                      have q48 : x10_3 < (((rd_T60 l0 x51_2).f2).size : Int) := of_decide_eq_true (by first | (with_reducible assumption) | assumption)
                                      have hx48 := bt_at ((rd_T60 l0 x51_2).f2) x10_3
                                      replace p48 := eq_true p48
                                      replace q48 := eq_true q48
                                      go_wp2_with (first | ((with_reducible refine gate_builtin (b := .append) (xs := #[.tmp 84, .tmp 89]) rfl ?_); at_builtin; refine Kd.R_append (Kd.int .u8) (w0 := w) w.heap.size rfl (.tmp 84) (.tmp 89) 24 5 (.int .u8 0) 1 rfl Tryd.underlying24 info5 rfl (by decide) (by omega) u6 x6_3 (bt ((rd_T60 l0 x51_2).f2) x10_3) [.int .u8 (bt ((rd_T60 l0 x51_2).f2) x10_3)] (fun _ => True) (fun _ => False) rfl rfl ?aP (fun _ hk => hk.elim) ?aF ?aO ?aB ?aS ?aL ?_; (case aP => exact rfl); (case aB => exact (by repeat (first | (with_reducible first | exact HB.out | apply below_alloc | apply pw_below_drewN | apply below_drew1 | refine below_set ?_ GE574.out) | exact HB.out))); (case aF => exact (fun _ _ => trivial)); (case aO => exact (by (with_reducible repeat (first | apply Kd.R_alloc | apply Kd.R_drewN | apply Kd.R_drew)); exact HO_6.out)); (case aS => exact (below_size (by repeat (first | (with_reducible first | exact HB.out | apply below_alloc | apply pw_below_drewN | apply below_drew1 | refine below_set ?_ GE574.out) | exact HB.out)))); (case aL => have := LMc49.out; omega); intro v582 w54 ho hb hg hat; rw [← Ny581.out] at ho; have n0_ := Aside0.mk (blk_grown (g := gb574) (o := .cells #[.int .u8 ((rd_T60 l0 x51_2).f0), .int .u64 ((rd_T60 l0 x51_2).f1), .string ((rd_T60 l0 x51_2).f2)] 60 (0, 0)) (by (with_reducible repeat (first | refine blk_drewN ?_ _ | refine blk_drew ?_ | refine blk_alloc ?_ _)); exact BK574.out) hg (Kd.R_ne HO_6.out BK574.out (by decide))); have n1_ := Aside0.mk (hb); have n2_ := Aside0.mk (ho); clear BK574; clear HB; clear HO_6; have BK574 := n0_; have HB := n1_; have HO583 := n2_; clear n0_ n1_ n2_; clear ho hb hg hat; have hcz55_0 : w54.cell? ⟨gb574, 0, none⟩ = some (.int .u8 ((rd_T60 l0 x51_2).f0)) := (blk_cell BK574.out 0).trans rfl; have hcz55_1 : w54.cell? ⟨gb574, 1, none⟩ = some (.int .u64 ((rd_T60 l0 x51_2).f1)) := (blk_cell BK574.out 1).trans rfl; have hcz55_2 : w54.cell? ⟨gb574, 2, none⟩ = some (.string ((rd_T60 l0 x51_2).f2)) := (blk_cell BK574.out 2).trans rfl; have hfz55_0 := blk_frozen BK574.out 0; have hfz55_1 := blk_frozen BK574.out 1; have hfz55_2 := blk_frozen BK574.out 2; have p50 : 0 ≤ (x10_3 : Int) := of_decide_eq_true (by first | (with_reducible assumption) | assumption); have q50 : x10_3 < (((rd_T60 l0 x51_2).f2).size : Int) := of_decide_eq_true (by first | (with_reducible assumption) | assumption); have hx50 := bt_at ((rd_T60 l0 x51_2).f2) x10_3; replace p50 := eq_true p50; replace q50 := eq_true q50) | ((with_reducible refine gate_builtin (b := .append) (xs := #[.tmp 96, .tmp 97]) rfl ?_); at_builtin; refine Kd.R_append (Kd.int .u8) (w0 := w) w.heap.size rfl (.tmp 96) (.tmp 97) 24 5 (.int .u8 0) 1 rfl Tryd.underlying24 info5 rfl (by decide) (by omega) v582 y581 255 [.int .u8 255] (fun _ => True) (fun _ => False) rfl rfl ?aP (fun _ hk => hk.elim) ?aF ?aO ?aB ?aS ?aL ?_; (case aP => exact rfl); (case aB => exact (by repeat (first | (with_reducible first | exact HB.out | apply below_alloc | apply pw_below_drewN | apply below_drew1 | refine below_set ?_ GE574.out) | exact HB.out))); (case aF => exact (fun _ _ => trivial)); (case aO => exact (by (with_reducible repeat (first | apply Kd.R_alloc | apply Kd.R_drewN | apply Kd.R_drew)); exact HO583.out)); (case aS => exact (below_size (by repeat (first | (with_reducible first | exact HB.out | apply below_alloc | apply pw_below_drewN | apply below_drew1 | refine below_set ?_ GE574.out) | exact HB.out)))); (case aL => have := LMc52.out; omega); intro v585 w56 ho hb hg hat; rw [← Ny584.out] at ho; have n0_ := Aside0.mk (blk_grown (g := gb574) (o := .cells #[.int .u8 ((rd_T60 l0 x51_2).f0), .int .u64 ((rd_T60 l0 x51_2).f1), .string ((rd_T60 l0 x51_2).f2)] 60 (0, 0)) (by (with_reducible repeat (first | refine blk_drewN ?_ _ | refine blk_drew ?_ | refine blk_alloc ?_ _)); exact BK574.out) hg (Kd.R_ne HO583.out BK574.out (by decide))); have n1_ := Aside0.mk (hb); have n2_ := Aside0.mk (ho); clear BK574; clear HB; clear HO583; have BK574 := n0_; have HB := n1_; have HO586 := n2_; clear n0_ n1_ n2_; clear ho hb hg hat))
                                      go_roundg k3
                                      case measure => have := HK1.out; have := HK2.out; have := HK3.out; omega
                                      case rel => exact ⟨(y584), (wrap64 (x10_3 + 1)), (by first | rfl | (simp; done) | (simp [*]; done) | (simp only [i64_w]; done)), H', ⟨by have := HK1.out; have := HK2.out; have := HK3.out; omega⟩, ⟨by (with_reducible repeat (first | apply Kd.R_alloc | apply Kd.R_drewN | apply Kd.R_drew)); exact HO586.out⟩, ⟨by (with_reducible repeat (first | refine blk_drewN ?_ _ | refine blk_drew ?_ | refine blk_alloc ?_ _)); exact BK574.out⟩, ⟨by repeat (first | (with_reducible first | exact HB.out | apply below_alloc | apply pw_below_drewN | apply below_drew1 | refine below_set ?_ GE574.out) | exact HB.out)⟩⟩
                                    · rw [if_neg c52] at H
                                      exact absurd H (by simp)
                                  · rw [if_neg c51] at H
                                    have c51b0 : ((bt ((rd_T60 l0 x51_2).f2) x10_3) == 0) = false := beq_eq_false_iff_ne.mpr c51
                                    have c51b1 : ((bt ((rd_T60 l0 x51_2).f2) x10_3) != 0) = true := bne_iff_ne.mpr c51
                                    have H' := Aside0.mk H
                                    clear H
                                    have hcz57_0 : wr.cell? ⟨gb574, 0, none⟩ = some (.int .u8 ((rd_T60 l0 x51_2).f0)) := (blk_cell BK574.out 0).trans rfl
                                    have hcz57_1 : wr.cell? ⟨gb574, 1, none⟩ = some (.int .u64 ((rd_T60 l0 x51_2).f1)) := (blk_cell BK574.out 1).trans rfl
                                    have hcz57_2 : wr.cell? ⟨gb574, 2, none⟩ = some (.string ((rd_T60 l0 x51_2).f2)) := (blk_cell BK574.out 2).trans rfl
                                    have hfz57_0 := blk_frozen BK574.out 0
                                    have hfz57_1 := blk_frozen BK574.out 1
                                    have hfz57_2 := blk_frozen BK574.out 2
                                    have p48 : 0 ≤ (x10_3 : Int) := of_decide_eq_true (by first | (with_reducible assumption) | assumption)
                                    have q48 : x10_3 < (((rd_T60 l0 x51_2).f2).size : Int) := of_decide_eq_true (by first | (with_reducible assumption) | assumption)
                                    have hx48 := bt_at ((rd_T60 l0 x51_2).f2) x10_3
                                    replace p48 := eq_true p48
                                    replace q48 := eq_true q48
                                    go_wp2_with (first | ((with_reducible refine gate_builtin (b := .append) (xs := #[.tmp 84, .tmp 89]) rfl ?_); at_builtin; refine Kd.R_append (Kd.int .u8) (w0 := w) w.heap.size rfl (.tmp 84) (.tmp 89) 24 5 (.int .u8 0) 1 rfl Tryd.underlying24 info5 rfl (by decide) (by omega) u6 x6_3 (bt ((rd_T60 l0 x51_2).f2) x10_3) [.int .u8 (bt ((rd_T60 l0 x51_2).f2) x10_3)] (fun _ => True) (fun _ => False) rfl rfl ?aP (fun _ hk => hk.elim) ?aF ?aO ?aB ?aS ?aL ?_; (case aP => exact rfl); (case aB => exact (by repeat (first | (with_reducible first | exact HB.out | apply below_alloc | apply pw_below_drewN | apply below_drew1 | refine below_set ?_ GE574.out) | exact HB.out))); (case aF => exact (fun _ _ => trivial)); (case aO => exact (by (with_reducible repeat (first | apply Kd.R_alloc | apply Kd.R_drewN | apply Kd.R_drew)); exact HO_6.out)); (case aS => exact (below_size (by repeat (first | (with_reducible first | exact HB.out | apply below_alloc | apply pw_below_drewN | apply below_drew1 | refine below_set ?_ GE574.out) | exact HB.out)))); (case aL => have := LMc49.out; omega); intro v582 w58 ho hb hg hat; rw [← Ny581.out] at ho; have n0_ := Aside0.mk (blk_grown (g := gb574) (o := .cells #[.int .u8 ((rd_T60 l0 x51_2).f0), .int .u64 ((rd_T60 l0 x51_2).f1), .string ((rd_T60 l0 x51_2).f2)] 60 (0, 0)) (by (with_reducible repeat (first | refine blk_drewN ?_ _ | refine blk_drew ?_ | refine blk_alloc ?_ _)); exact BK574.out) hg (Kd.R_ne HO_6.out BK574.out (by decide))); have n1_ := Aside0.mk (hb); have n2_ := Aside0.mk (ho); clear BK574; clear HB; clear HO_6; have BK574 := n0_; have HB := n1_; have HO583 := n2_; clear n0_ n1_ n2_; clear ho hb hg hat; have hcz59_0 : w58.cell? ⟨gb574, 0, none⟩ = some (.int .u8 ((rd_T60 l0 x51_2).f0)) := (blk_cell BK574.out 0).trans rfl; have hcz59_1 : w58.cell? ⟨gb574, 1, none⟩ = some (.int .u64 ((rd_T60 l0 x51_2).f1)) := (blk_cell BK574.out 1).trans rfl; have hcz59_2 : w58.cell? ⟨gb574, 2, none⟩ = some (.string ((rd_T60 l0 x51_2).f2)) := (blk_cell BK574.out 2).trans rfl; have hfz59_0 := blk_frozen BK574.out 0; have hfz59_1 := blk_frozen BK574.out 1; have hfz59_2 := blk_frozen BK574.out 2; have p50 : 0 ≤ (x10_3 : Int) := of_decide_eq_true (by first | (with_reducible assumption) | assumption); have q50 : x10_3 < (((rd_T60 l0 x51_2).f2).size : Int) := of_decide_eq_true (by first | (with_reducible assumption) | assumption); have hx50 := bt_at ((rd_T60 l0 x51_2).f2) x10_3; replace p50 := eq_true p50; replace q50 := eq_true q50))
                                    go_roundg k3
                                    case measure => have := HK1.out; have := HK2.out; have := HK3.out; omega
                                    case rel => exact ⟨(y581), (wrap64 (x10_3 + 1)), (by first | rfl | (simp; done) | (simp [*]; done) | (simp only [i64_w]; done)), H', ⟨by have := HK1.out; have := HK2.out; have := HK3.out; omega⟩, ⟨by (with_reducible repeat (first | apply Kd.R_alloc | apply Kd.R_drewN | apply Kd.R_drew)); exact HO583.out⟩, ⟨by (with_reducible repeat (first | refine blk_drewN ?_ _ | refine blk_drew ?_ | refine blk_alloc ?_ _)); exact BK574.out⟩, ⟨by repeat (first | (with_reducible first | exact HB.out | apply below_alloc | apply pw_below_drewN | apply below_drew1 | refine below_set ?_ GE574.out) | exact HB.out)⟩⟩
                                · rw [if_neg c49] at H
                                  exact absurd H (by simp)
                              · rw [if_neg c47] at H
                                exact absurd H (by simp)
                            · rw [if_neg c46] at H
                              have c46b0 : decide (x10_3 < (((rd_T60 l0 x51_2).f2).size : Int)) = false := decide_eq_false c46
                              clear c46
                              obtain ⟨y587, hy587⟩ : ∃ y_ : List Int, y_ = (([0, 1] : List Int)) := ⟨_, rfl⟩
                              replace H : (if x6_3.length + y587.length < 140737488355328 then ((some (x6_3 ++ y587 : List Int)).bind fun y590 => (if (y590.length : Int) > 256 then (some (([] : List Int), 4)) else (ladingref03_Key.l1 k3 y590 l0 (l0.length : Int) (wrap64 (x51_2 + 1))))) else (none)) = some (r1, r2) := by first | (rw [hy587]; with_reducible exact H) | (have H2_ := (Option.bind_some _ _).symm.trans H; rw [hy587]; with_reducible exact H2_) | (have H2_ := (Option.bind_some _ _).symm.trans H; with_reducible exact H2_) | with_reducible exact H | (rw [hy587]; exact H) | exact H
                              have Ny587 := Aside0.mk hy587
                              clear hy587
                              by_cases c60 : x6_3.length + y587.length < 140737488355328
                              · rw [if_pos c60] at H
                                have LMc60 := Aside0.mk c60
                                clear c60
                                obtain ⟨y590, hy590⟩ : ∃ y_ : List Int, y_ = (x6_3 ++ y587) := ⟨_, rfl⟩
                                replace H : (if (y590.length : Int) > 256 then (some (([] : List Int), 4)) else (ladingref03_Key.l1 k3 y590 l0 (l0.length : Int) (wrap64 (x51_2 + 1)))) = some (r1, r2) := by first | (rw [hy590]; with_reducible exact H) | (have H2_ := (Option.bind_some _ _).symm.trans H; rw [hy590]; with_reducible exact H2_) | (have H2_ := (Option.bind_some _ _).symm.trans H; with_reducible exact H2_) | with_reducible exact H | (rw [hy590]; exact H) | exact H
                                have Ny590 := Aside0.mk hy590
                                clear hy590
                                by_cases c61 : (y590.length : Int) > 256
                                · rw [if_pos c61] at H
                                  have c61b0 : decide (256 < (y590.length : Int)) = true := decide_eq_true c61
                                  have c61b1 : decide (256 < y590.length) = true := decide_eq_true (by omega)
                                  clear c61
                                  simp only [Option.some.injEq, Prod.mk.injEq] at H
                                  obtain ⟨rfl, rfl⟩ := H
                                  have hcz62_0 : wr.cell? ⟨gb574, 0, none⟩ = some (.int .u8 ((rd_T60 l0 x51_2).f0)) := (blk_cell BK574.out 0).trans rfl
                                  have hcz62_1 : wr.cell? ⟨gb574, 1, none⟩ = some (.int .u64 ((rd_T60 l0 x51_2).f1)) := (blk_cell BK574.out 1).trans rfl
                                  have hcz62_2 : wr.cell? ⟨gb574, 2, none⟩ = some (.string ((rd_T60 l0 x51_2).f2)) := (blk_cell BK574.out 2).trans rfl
                                  have hfz62_0 := blk_frozen BK574.out 0
                                  have hfz62_1 := blk_frozen BK574.out 1
                                  have hfz62_2 := blk_frozen BK574.out 2
                                  go_wp2_with (first | ((with_reducible refine gate_dst (N := 100) rfl ?_); refine Kd.R_lit (Kd.int .u8) _ 5 ?hg (N := 100) ?hd (xs := ([0, 1] : List Int)) (inner := [.int .u8 0, .int .u8 1]) (ok := fun _ => True) (okp := fun _ => True) ?hr ?hp (fun _ hk => hk) trivial (Below.refl _ _) (Nat.le_refl _) (by simp) ?_; (case hd => rfl); (case hg => rfl); (case hr => first | (go_simp; done) | (go_simp; rfl)); (case hp => exact (Reps.one (show Kd.M (Kd.int .u8) _ _ _ 0 [.int .u8 0] from rfl) (Reps.one (show Kd.M (Kd.int .u8) _ _ _ 1 [.int .u8 1] from rfl) (Reps.none _ _)))); intro v588 w63 ho64 hb hg_ hnew_; clear hg_ hnew_; (first | rw [← Ny587.out] at ho64 | (simp only [Int.reduceToNat] at ho64; rw [← Ny587.out] at ho64)); have n0_ := Aside0.mk (Kd.R_elder' (by (with_reducible repeat (first | apply Kd.R_alloc | apply Kd.R_drewN | apply Kd.R_drew)); exact HO_6.out) (Kd.R_base ho64) hb); have n1_ := Aside0.mk (Kd.R_lower (Kd.R_new' ho64 (Kd.R_lt (by (with_reducible repeat (first | apply Kd.R_alloc | apply Kd.R_drewN | apply Kd.R_drew)); exact HO_6.out))) (below_size (by repeat (first | (with_reducible first | exact HB.out | apply below_alloc | apply pw_below_drewN | apply below_drew1 | refine below_set ?_ GE574.out) | exact HB.out)))); have n2_ := Aside0.mk (blk_below (g := gb574) (o := .cells #[.int .u8 ((rd_T60 l0 x51_2).f0), .int .u64 ((rd_T60 l0 x51_2).f1), .string ((rd_T60 l0 x51_2).f2)] 60 (0, 0)) (by (with_reducible repeat (first | refine blk_drewN ?_ _ | refine blk_drew ?_ | refine blk_alloc ?_ _)); exact BK574.out) hb); have n3_ := Aside0.mk (below_step (by repeat (first | (with_reducible first | exact HB.out | apply below_alloc | apply pw_below_drewN | apply below_drew1 | refine below_set ?_ GE574.out) | exact HB.out)) hb); clear HO_6; clear BK574; clear HB; have HO_6 := n0_; have HO589 := n1_; have BK574 := n2_; have HB := n3_; clear n0_ n1_ n2_ n3_; clear hb ho64; obtain ⟨Ao66, co66, eo66⟩ := Kd.R_slice HO589.out; subst eo66) | ((with_reducible refine gate_builtin (b := .append) (xs := #[.tmp 99, .tmp 100]) rfl ?_); at_builtin; refine Kd.R_append_rows (Kd.int .u8) (w0 := w) w.heap.size rfl (.tmp 99) (.tmp 100) 24 5 (.int .u8 0) 1 rfl Tryd.underlying24 info5 rfl (by decide) (by omega) u6 x6_3 y587 _ _ _ (fun k_ => some k_ ≠ (.slice Ao66 y587.length co66 : Value).ownBlock) (fun _ => False) rfl rfl ?aO ?aR (fun _ _ h => h) (fun _ h => h.elim) ?aF ?aB ?aS ?aL ?_; (case aR => repeat (first | exact (Kd.R_reads' HO589.out).2.2 | (with_reducible refine Kd.C_alloc ?_ _) | (with_reducible refine Kd.C_drewN ?_ _) | (with_reducible refine Kd.C_drew ?_))); (case aB => exact (by repeat (first | (with_reducible first | exact HB.out | apply below_alloc | apply pw_below_drewN | apply below_drew1 | refine below_set ?_ GE574.out) | exact HB.out))); (case aF => exact (fun k_ hk => Kd.fresh' (Kd.R_lt (by (with_reducible repeat (first | apply Kd.R_alloc | apply Kd.R_drewN | apply Kd.R_drew)); exact HO589.out)) k_ hk)); (case aO => exact (by (with_reducible repeat (first | apply Kd.R_alloc | apply Kd.R_drewN | apply Kd.R_drew)); exact Kd.R_mono HO_6.out (fun _ hk => hk.2))); (case aS => exact (below_size (by repeat (first | (with_reducible first | exact HB.out | apply below_alloc | apply pw_below_drewN | apply below_drew1 | refine below_set ?_ GE574.out) | exact HB.out)))); (case aL => have := LMc60.out; omega); intro v591 w65 ho hb hg hat; rw [← Ny590.out] at ho; have n0_ := Aside0.mk (blk_grown (g := gb574) (o := .cells #[.int .u8 ((rd_T60 l0 x51_2).f0), .int .u64 ((rd_T60 l0 x51_2).f1), .string ((rd_T60 l0 x51_2).f2)] 60 (0, 0)) (by (with_reducible repeat (first | refine blk_drewN ?_ _ | refine blk_drew ?_ | refine blk_alloc ?_ _)); exact BK574.out) hg (Kd.R_ne HO_6.out BK574.out (by decide))); have n1_ := Aside0.mk (Kd.R_after (ok := (fun _ => True)) (by (with_reducible repeat (first | apply Kd.R_alloc | apply Kd.R_drewN | apply Kd.R_drew)); exact HO589.out) hg hat); have n2_ := Aside0.mk (hb); have n3_ := Aside0.mk (ho); clear BK574; clear HO589; clear HB; clear HO_6; have BK574 := n0_; have HO589 := n1_; have HB := n2_; have HO592 := n3_; clear n0_ n1_ n2_ n3_; clear ho hb hg hat; obtain ⟨Ao67, co67, eo67⟩ := Kd.R_slice HO592.out; subst eo67))
                                  go_ret2
                                  exact ⟨_, by first | rfl | (simp [errW_none, errW_some] <;> rfl) | (simp [*, errW_none, errW_some] <;> rfl), by first | exact Kd.R_nil _ _ _ _ _ | exact Kd.N_nil _ _ _ _ _ | exact Kd.V_nil _ _ _ _ _ | exact Kd.Q_nil _ _ _ _ _ | exact Kd.S_nil _ _ _ _ _, by repeat (first | (with_reducible first | exact HB.out | apply below_alloc | apply pw_below_drewN | apply below_drew1 | refine below_set ?_ GE574.out) | exact HB.out)⟩
                                · rw [if_neg c61] at H
                                  have c61b0 : decide (256 < (y590.length : Int)) = false := decide_eq_false c61
                                  have c61b1 : decide (256 < y590.length) = false := decide_eq_false (by omega)
                                  clear c61
                                  have H' := Aside0.mk H
                                  clear H
                                  have hcz68_0 : wr.cell? ⟨gb574, 0, none⟩ = some (.int .u8 ((rd_T60 l0 x51_2).f0)) := (blk_cell BK574.out 0).trans rfl
                                  have hcz68_1 : wr.cell? ⟨gb574, 1, none⟩ = some (.int .u64 ((rd_T60 l0 x51_2).f1)) := (blk_cell BK574.out 1).trans rfl
                                  have hcz68_2 : wr.cell? ⟨gb574, 2, none⟩ = some (.string ((rd_T60 l0 x51_2).f2)) := (blk_cell BK574.out 2).trans rfl
                                  have hfz68_0 := blk_frozen BK574.out 0
                                  have hfz68_1 := blk_frozen BK574.out 1
                                  have hfz68_2 := blk_frozen BK574.out 2
                                  go_wp2_with (first | ((with_reducible refine gate_dst (N := 100) rfl ?_); refine Kd.R_lit (Kd.int .u8) _ 5 ?hg (N := 100) ?hd (xs := ([0, 1] : List Int)) (inner := [.int .u8 0, .int .u8 1]) (ok := fun _ => True) (okp := fun _ => True) ?hr ?hp (fun _ hk => hk) trivial (Below.refl _ _) (Nat.le_refl _) (by simp) ?_; (case hd => rfl); (case hg => rfl); (case hr => first | (go_simp; done) | (go_simp; rfl)); (case hp => exact (Reps.one (show Kd.M (Kd.int .u8) _ _ _ 0 [.int .u8 0] from rfl) (Reps.one (show Kd.M (Kd.int .u8) _ _ _ 1 [.int .u8 1] from rfl) (Reps.none _ _)))); intro v588 w69 ho70 hb hg_ hnew_; clear hg_ hnew_; (first | rw [← Ny587.out] at ho70 | (simp only [Int.reduceToNat] at ho70; rw [← Ny587.out] at ho70)); have n0_ := Aside0.mk (Kd.R_elder' (by (with_reducible repeat (first | apply Kd.R_alloc | apply Kd.R_drewN | apply Kd.R_drew)); exact HO_6.out) (Kd.R_base ho70) hb); have n1_ := Aside0.mk (Kd.R_lower (Kd.R_new' ho70 (Kd.R_lt (by (with_reducible repeat (first | apply Kd.R_alloc | apply Kd.R_drewN | apply Kd.R_drew)); exact HO_6.out))) (below_size (by repeat (first | (with_reducible first | exact HB.out | apply below_alloc | apply pw_below_drewN | apply below_drew1 | refine below_set ?_ GE574.out) | exact HB.out)))); have n2_ := Aside0.mk (blk_below (g := gb574) (o := .cells #[.int .u8 ((rd_T60 l0 x51_2).f0), .int .u64 ((rd_T60 l0 x51_2).f1), .string ((rd_T60 l0 x51_2).f2)] 60 (0, 0)) (by (with_reducible repeat (first | refine blk_drewN ?_ _ | refine blk_drew ?_ | refine blk_alloc ?_ _)); exact BK574.out) hb); have n3_ := Aside0.mk (below_step (by repeat (first | (with_reducible first | exact HB.out | apply below_alloc | apply pw_below_drewN | apply below_drew1 | refine below_set ?_ GE574.out) | exact HB.out)) hb); clear HO_6; clear BK574; clear HB; have HO_6 := n0_; have HO589 := n1_; have BK574 := n2_; have HB := n3_; clear n0_ n1_ n2_ n3_; clear hb ho70; obtain ⟨Ao72, co72, eo72⟩ := Kd.R_slice HO589.out; subst eo72) | ((with_reducible refine gate_builtin (b := .append) (xs := #[.tmp 99, .tmp 100]) rfl ?_); at_builtin; refine Kd.R_append_rows (Kd.int .u8) (w0 := w) w.heap.size rfl (.tmp 99) (.tmp 100) 24 5 (.int .u8 0) 1 rfl Tryd.underlying24 info5 rfl (by decide) (by omega) u6 x6_3 y587 _ _ _ (fun k_ => some k_ ≠ (.slice Ao72 y587.length co72 : Value).ownBlock) (fun _ => False) rfl rfl ?aO ?aR (fun _ _ h => h) (fun _ h => h.elim) ?aF ?aB ?aS ?aL ?_; (case aR => repeat (first | exact (Kd.R_reads' HO589.out).2.2 | (with_reducible refine Kd.C_alloc ?_ _) | (with_reducible refine Kd.C_drewN ?_ _) | (with_reducible refine Kd.C_drew ?_))); (case aB => exact (by repeat (first | (with_reducible first | exact HB.out | apply below_alloc | apply pw_below_drewN | apply below_drew1 | refine below_set ?_ GE574.out) | exact HB.out))); (case aF => exact (fun k_ hk => Kd.fresh' (Kd.R_lt (by (with_reducible repeat (first | apply Kd.R_alloc | apply Kd.R_drewN | apply Kd.R_drew)); exact HO589.out)) k_ hk)); (case aO => exact (by (with_reducible repeat (first | apply Kd.R_alloc | apply Kd.R_drewN | apply Kd.R_drew)); exact Kd.R_mono HO_6.out (fun _ hk => hk.2))); (case aS => exact (below_size (by repeat (first | (with_reducible first | exact HB.out | apply below_alloc | apply pw_below_drewN | apply below_drew1 | refine below_set ?_ GE574.out) | exact HB.out)))); (case aL => have := LMc60.out; omega); intro v591 w71 ho hb hg hat; rw [← Ny590.out] at ho; have n0_ := Aside0.mk (blk_grown (g := gb574) (o := .cells #[.int .u8 ((rd_T60 l0 x51_2).f0), .int .u64 ((rd_T60 l0 x51_2).f1), .string ((rd_T60 l0 x51_2).f2)] 60 (0, 0)) (by (with_reducible repeat (first | refine blk_drewN ?_ _ | refine blk_drew ?_ | refine blk_alloc ?_ _)); exact BK574.out) hg (Kd.R_ne HO_6.out BK574.out (by decide))); have n1_ := Aside0.mk (Kd.R_after (ok := (fun _ => True)) (by (with_reducible repeat (first | apply Kd.R_alloc | apply Kd.R_drewN | apply Kd.R_drew)); exact HO589.out) hg hat); have n2_ := Aside0.mk (hb); have n3_ := Aside0.mk (ho); clear BK574; clear HO589; clear HB; clear HO_6; have BK574 := n0_; have HO589 := n1_; have HB := n2_; have HO592 := n3_; clear n0_ n1_ n2_ n3_; clear ho hb hg hat; obtain ⟨Ao73, co73, eo73⟩ := Kd.R_slice HO592.out; subst eo73))
                                  go_roundg k3
                                  case measure => have := HK1.out; have := HK2.out; have := HK3.out; omega
                                  case rel => exact ⟨(y590), (wrap64 (x51_2 + 1)), (by first | rfl | (simp; done) | (simp [*]; done) | (simp only [i64_w]; done)), H', ⟨by have := HK1.out; have := HK2.out; have := HK3.out; omega⟩, ⟨by (with_reducible repeat (first | apply Kd.R_alloc | apply Kd.R_drewN | apply Kd.R_drew)); exact Kd.R_mono HO592.out (fun _ hk => trivial)⟩, ⟨by repeat (first | (with_reducible first | exact HB.out | apply below_alloc | apply pw_below_drewN | apply below_drew1 | refine below_set ?_ GE574.out) | exact HB.out)⟩⟩
                              · rw [if_neg c60] at H
                                exact absurd H (by simp)
                    · rw [if_neg c29] at H
                      exact absurd H (by simp)
                  · rw [if_neg c28] at H
                    exact absurd H (by simp)
                · rw [if_neg c27] at H
                  exact absurd H (by simp)
              · rw [if_neg c26] at H
                have c26b0 : decide (x51_2 < (l0.length : Int)) = false := decide_eq_false c26
                clear c26
                by_cases c74 : (x6_2.length : Int) > 256
                · rw [if_pos c74] at H
                  have c74b0 : decide (256 < (x6_2.length : Int)) = true := decide_eq_true c74
                  have c74b1 : decide (256 < x6_2.length) = true := decide_eq_true (by omega)
                  clear c74
                  simp only [Option.some.injEq, Prod.mk.injEq] at H
                  obtain ⟨rfl, rfl⟩ := H
                  obtain ⟨Ao75, co75, eo75⟩ := Kd.R_slice HO_6.out
                  subst eo75
                  go_wp2
                  go_ret2
                  exact ⟨_, by first | rfl | (simp [errW_none, errW_some] <;> rfl) | (simp [*, errW_none, errW_some] <;> rfl), by first | exact Kd.R_nil _ _ _ _ _ | exact Kd.N_nil _ _ _ _ _ | exact Kd.V_nil _ _ _ _ _ | exact Kd.Q_nil _ _ _ _ _ | exact Kd.S_nil _ _ _ _ _, by repeat (first | (with_reducible first | exact HB.out | apply below_alloc | apply pw_below_drewN | apply below_drew1) | exact HB.out)⟩
                · rw [if_neg c74] at H
                  have c74b0 : decide (256 < (x6_2.length : Int)) = false := decide_eq_false c74
                  have c74b1 : decide (256 < x6_2.length) = false := decide_eq_false (by omega)
                  clear c74
                  simp only [Option.some.injEq, Prod.mk.injEq] at H
                  obtain ⟨rfl, rfl⟩ := H
                  obtain ⟨Ao76, co76, eo76⟩ := Kd.R_slice HO_6.out
                  subst eo76
                  go_wp2
                  go_ret2
                  exact ⟨_, by first | rfl | (simp [errW_none, errW_some] <;> rfl) | (simp [*, errW_none, errW_some] <;> rfl), by (with_reducible repeat (first | apply Kd.R_alloc | apply Kd.R_drewN | apply Kd.R_drew)); exact HO_6.out, by repeat (first | (with_reducible first | exact HB.out | apply below_alloc | apply pw_below_drewN | apply below_drew1) | exact HB.out)⟩
end Go.Proofs.YtfpdipnaefomiaaDoor.Print
