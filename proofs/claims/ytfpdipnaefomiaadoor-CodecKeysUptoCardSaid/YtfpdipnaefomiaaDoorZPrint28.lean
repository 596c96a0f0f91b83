-- What the claim uses alone (wip/slim.py). Lean checks it.
import Derived.Test.YtfpdipnaefomiaaDoorZPrint0
namespace Go.Proofs.YtfpdipnaefomiaaDoor.Print
open Go.RowKit Go.Proofs.YtfpdipnaefomiaaDoorW.PrintWords Go.Proofs.YtfpdipnaefomiaaDoorW.PrintLast Go.Proofs.YtfpdipnaefomiaaDoorW.PrintMore
attribute [local go_sem] max2_mx min2_mn max_two min_two max_three min_three max_four min_four
set_option linter.unusedVariables false
set_option linter.unusedSimpArgs false
mutual
def ladingref03_part.j0 : Nat → List Int → Bool → Option (Int × Int × ByteArray × Int)
  | 0, _, _ => none
  | k + 1, x0, x16 => if x16 = true then (ladingref03_part.l0 k x0 0 1) else (if (x0.length : Int) = 0 then (ladingref03_part.j2 k x0 true) else (if 0 < (x0.length : Int) then (ladingref03_part.j2 k x0 ((rd x0 0) != 2)) else (none)))
def ladingref03_part.l0 : Nat → List Int → Int → Int → Option (Int × Int × ByteArray × Int)
  | 0, _, _, _ => none
  | k + 1, x0, x4, x5 => if x5 < 9 then (if 0 ≤ x5 then (if x5 < (x0.length : Int) then (ladingref03_part.l0 k x0 (IntKind.u64.wrap ((IntKind.u64.wrap (x4 * 256)) + (IntKind.u64.wrap (rd x0 x5)))) (wrap64 (x5 + 1))) else (none)) else (none)) else (some (1, x4, (⟨#[]⟩ : ByteArray), 9))
def ladingref03_part.j2 : Nat → List Int → Bool → Option (Int × Int × ByteArray × Int)
  | 0, _, _ => none
  | k + 1, x0, x39 => if x39 = true then (some (0, 0, (⟨#[]⟩ : ByteArray), 0)) else (ladingref03_part.l1 k x0 ([] : List Int) 1)
def ladingref03_part.l1 : Nat → List Int → List Int → Int → Option (Int × Int × ByteArray × Int)
  | 0, _, _, _ => none
  | k + 1, x0, x6, x7 => if (wrap64 (x7 + 1)) < (x0.length : Int) then (if 0 ≤ x7 then (if x7 < (x0.length : Int) then (if (rd x0 x7) = 0 then (if 0 ≤ (wrap64 (x7 + 1)) then (if (rd x0 (wrap64 (x7 + 1))) = 1 then (some (2, 0, strOfNums x6, wrap64 (x7 + 2))) else (if (rd x0 (wrap64 (x7 + 1))) = 255 then (if x6.length < 140737488355328 then (ladingref03_part.l1 k x0 (x6 ++ [0]) (wrap64 ((wrap64 (x7 + 1)) + 1))) else (none)) else (some (0, 0, (⟨#[]⟩ : ByteArray), 0)))) else (none)) else (if x6.length < 140737488355328 then (ladingref03_part.l1 k x0 (x6 ++ [rd x0 x7]) (wrap64 (x7 + 1))) else (none))) else (none)) else (none)) else (some (0, 0, (⟨#[]⟩ : ByteArray), 0))
end
def ladingref03_part.f (k : Nat) (l0 : List Int) : Option (Int × Int × ByteArray × Int) := if (l0.length : Int) ≥ 9 then (if 0 < (l0.length : Int) then (ladingref03_part.j0 k l0 ((rd l0 0) == 1)) else (none)) else (ladingref03_part.j0 k l0 false)
set_option maxHeartbeats 8000000 in
set_option maxRecDepth 100000 in
theorem ladingref03_part.calls (k : Nat) (A0 : Option Addr) (c0 : Nat) (l0 : List Int) (r1 : Int) (r2 : Int) (r3 : ByteArray) (r4 : Int) (w : World) (hr0 : Kd.C (Kd.int .u8) w A0 l0.length l0) (hc0 : l0.length ≤ c0) (h : ladingref03_part.f k l0 = some (r1, r2, r3, r4)) :
    Calls Tryd.prog 51 #[.slice A0 l0.length c0] w fun e w' => e = .returned (.tuple #[.agg #[.int .u8 r1, .int .u64 r2, .string r3], .int .i64 r4]) ∧ Below w.heap.size w w' := by
  have hu60 := Tryd.underlying60
  have HR0 := Aside0.mk hr0
  have HC0 := Aside0.mk hc0
  clear hr0 hc0
  have HB := Aside0.mk (Below.refl w.heap.size w)
  have H : (if (l0.length : Int) ≥ 9 then (if 0 < (l0.length : Int) then (ladingref03_part.j0 k l0 ((rd l0 0) == 1)) else (none)) else (ladingref03_part.j0 k l0 false)) = some (r1, r2, r3, r4) := h
  clear h
  have HC2 := Aside0.mk H
  clear H
  go_enter Tryd.func51, Tryd.ntmps51
  go_upto_region 1 with (first | ((with_reducible refine gate_dst (N := 2) rfl ?_); refine box_event ?hg (N := 2) ?hd (cs := #[.int .u8 0, .int .u64 0, .string (⟨#[]⟩ : ByteArray)]) (t := 60) ?hr ?_; (case hd => rfl); (case hg => rfl); (case hr => first | (go_simp; done) | (go_simp; rfl)); intro gb594 hg w3 hbox hb; have n0_ := Aside0.mk (below_step (by repeat (first | (with_reducible first | exact HB.out | apply below_alloc | apply pw_below_drewN | apply below_drew1) | exact HB.out)) hb); have n1_ := Aside0.mk (hbox); have n2_ := Aside0.mk ((by rw [hg]; exact (below_size (by repeat (first | (with_reducible first | exact HB.out | apply below_alloc | apply pw_below_drewN | apply below_drew1) | exact HB.out))) : w.heap.size ≤ gb594)); have n3_ := Aside0.mk ((by rw [hg]; exact (below_size (by repeat (first | (with_reducible first | exact HB.out | apply below_alloc | apply pw_below_drewN | apply below_drew1) | exact HB.out))) : w.heap.size ≤ gb594)); clear HB; have HB := n0_; have BK594 := n1_; have GW594 := n2_; have GE594 := n3_; clear n0_ n1_ n2_ n3_; clear hb hbox hg))
  (try simp only [Act.put, List.setIfInBounds_toArray, List.set_cons_zero, List.set_cons_succ])
  go_cut [16] (fun v16 wc => ∃ (kq : Nat) (x16_1 : Bool), v16 = .bool x16_1 ∧ Aside0 (ladingref03_part.j0 kq l0 x16_1 = some (r1, r2, r3, r4)) ∧ Aside0 (kq ≤ k) ∧ Aside0 (wc.heap[gb594]? = some (.cells #[.int .u8 0, .int .u64 0, .string (⟨#[]⟩ : ByteArray)] 60 (0, 0))) ∧ Aside0 (Below w.heap.size w wc))
  case first =>
    have H := HC2.out
    clear HC2
    by_cases c4 : (l0.length : Int) ≥ 9
    · rw [if_pos c4] at H
      have c4b0 : decide (9 ≤ (l0.length : Int)) = true := decide_eq_true c4
      have c4b1 : decide (9 ≤ l0.length) = true := decide_eq_true (by omega)
      clear c4
      (first | rw [c4b0] | (simp only [i64_w, i32_w]; rw [c4b0]) | skip)
      by_cases c5 : 0 < (l0.length : Int)
      · rw [if_pos c5] at H
        have c5b0 : decide (0 < (l0.length : Int)) = true := decide_eq_true c5
        have c5b1 : decide (0 < l0.length) = true := decide_eq_true (by omega)
        clear c5
        have H' := Aside0.mk H
        clear H
        have p595 : 0 ≤ (0 : Int) := (by omega)
        have q595 : 0 < (l0.length : Int) := of_decide_eq_true (by first | (with_reducible assumption) | assumption)
        obtain ⟨ad595, e595, hx595_0⟩ := Kd.at_int HR0.out 0 p595 q595
        cases e595
        have qi595 : (0 < l0.length) = True := eq_true (by omega)
        (try rw [show ((0 : Int)).toNat = 0 from rfl] at hx595_0)
        (try rw [Addr.add_zero'] at hx595_0)
        replace hx595_0 := (HB.out.cell (World.block_lt_of_cell? w _ hx595_0)).trans hx595_0
        replace p595 := eq_true p595
        replace q595 := eq_true q595
        go_wp2
        go_meet
        case rel => exact ⟨_, (((rd l0 0) == 1)), (by first | rfl | (simp; done) | (simp [*]; done) | (simp only [i64_w]; done)), H', ⟨by first | omega | exact Nat.le_refl _⟩, ⟨by (with_reducible repeat (first | refine blk_drewN ?_ _ | refine blk_drew ?_ | refine blk_alloc ?_ _)); exact BK594.out⟩, ⟨by repeat (first | (with_reducible first | exact HB.out | apply below_alloc | apply pw_below_drewN | apply below_drew1 | refine below_set ?_ GE594.out) | exact HB.out)⟩⟩
      · rw [if_neg c5] at H
        exact absurd H (by simp)
    · rw [if_neg c4] at H
      have c4b0 : decide (9 ≤ (l0.length : Int)) = false := decide_eq_false c4
      have c4b1 : decide (9 ≤ l0.length) = false := decide_eq_false (by omega)
      clear c4
      (first | rw [c4b0] | (simp only [i64_w, i32_w]; rw [c4b0]) | skip)
      have H' := Aside0.mk H
      clear H
      go_wp2
      go_meet
      case rel => exact ⟨_, (false), (by first | rfl | (simp; done) | (simp [*]; done) | (simp only [i64_w]; done)), H', ⟨by first | omega | exact Nat.le_refl _⟩, ⟨by (with_reducible repeat (first | refine blk_drewN ?_ _ | refine blk_drew ?_ | refine blk_alloc ?_ _)); exact BK594.out⟩, ⟨by repeat (first | (with_reducible first | exact HB.out | apply below_alloc | apply pw_below_drewN | apply below_drew1 | refine below_set ?_ GE594.out) | exact HB.out)⟩⟩
  case rest =>
    clear HC2
    try clear p2
    try clear c4
    try clear c4b0
    try clear c4b1
    try clear c5
    try clear c5b0
    try clear c5b1
    try clear p5
    try clear q5
    try clear hx5
    try clear qi5
    try clear hx595_0
    try clear p595
    try clear q595
    (try clear BK594)
    obtain ⟨kq, x16_1, rfl, HA, HJ1, BK594, HB⟩ := hcut
    cases kq with
    | zero => exact absurd HA.out (by simp [ladingref03_part.j0])
    | succ kj1 =>
      have H := HA.out
      clear HA
      simp only [ladingref03_part.j0] at H
      by_cases c6 : x16_1 = true
      · subst c6
        have H1 : (ladingref03_part.l0 kj1 l0 0 1) = some (r1, r2, r3, r4) := by rw [if_pos rfl] at H; exact H
        clear H
        have H := H1
        clear H1
        have H' := Aside0.mk H
        clear H
        go_wp2
        go_loopg [4, 5] kj1 (fun kq v4 v5 w' => ∃ (x4_2 : Int) (x5_2 : Int), v4 = .int .u64 x4_2 ∧ v5 = .int .i64 x5_2 ∧ Aside0 (ladingref03_part.l0 kq l0 x4_2 x5_2 = some (r1, r2, r3, r4)) ∧ Aside0 (kq ≤ kj1) ∧ Aside0 (w'.heap[gb594]? = some (.cells #[.int .u8 0, .int .u64 0, .string (⟨#[]⟩ : ByteArray)] 60 (0, 0))) ∧ Aside0 (Below w.heap.size w w'))
        case atStart => exact ⟨(0), (1), (by first | rfl | (simp; done) | (simp [*]; done) | (simp only [i64_w]; done)), (by first | rfl | (simp; done) | (simp [*]; done) | (simp only [i64_w]; done)), H', ⟨Nat.le_refl _⟩, ⟨by (with_reducible repeat (first | refine blk_drewN ?_ _ | refine blk_drew ?_ | refine blk_alloc ?_ _)); exact BK594.out⟩, ⟨by repeat (first | (with_reducible first | exact HB.out | apply below_alloc | apply pw_below_drewN | apply below_drew1 | refine below_set ?_ GE594.out) | exact HB.out)⟩⟩
        case round =>
          clear H'
          try clear p2
          try clear c4
          try clear c4b0
          try clear c4b1
          try clear c5
          try clear c5b0
          try clear c5b1
          try clear p5
          try clear q5
          try clear hx5
          try clear qi5
          try clear c6
          try clear hx595_0
          try clear p2
          try clear p5
          try clear p595
          try clear q5
          try clear q595
          (try clear BK594)
          obtain ⟨x4_2, x5_2, rfl, rfl, HA, HK2, BK594, HB⟩ := hrel
          cases gk with
          | zero => exact absurd HA.out (by simp [ladingref03_part.l0])
          | succ k2 =>
            have H := HA.out
            clear HA
            simp only [ladingref03_part.l0] at H
            by_cases c7 : x5_2 < 9
            · rw [if_pos c7] at H
              have c7b0 : decide (x5_2 < 9) = true := decide_eq_true c7
              clear c7
              by_cases c8 : 0 ≤ x5_2
              · rw [if_pos c8] at H
                have c8b0 : decide (0 ≤ x5_2) = true := decide_eq_true c8
                clear c8
                by_cases c9 : x5_2 < (l0.length : Int)
                · rw [if_pos c9] at H
                  have c9b0 : decide (x5_2 < (l0.length : Int)) = true := decide_eq_true c9
                  clear c9
                  have H' := Aside0.mk H
                  clear H
                  have p596 : 0 ≤ (x5_2 : Int) := of_decide_eq_true (by first | (with_reducible assumption) | assumption)
                  have q596 : x5_2 < (l0.length : Int) := of_decide_eq_true (by first | (with_reducible assumption) | assumption)
                  obtain ⟨ad596, e596, hx596_0⟩ := Kd.at_int HR0.out x5_2 p596 q596
                  cases e596
                  replace hx596_0 := (HB.out.cell (World.block_lt_of_cell? w _ hx596_0)).trans hx596_0
                  replace p596 := eq_true p596
                  replace q596 := eq_true q596
                  go_wp2
                  go_roundg k2
                  case measure => have := HJ1.out; have := HK2.out; omega
                  case rel => exact ⟨(IntKind.u64.wrap ((IntKind.u64.wrap (x4_2 * 256)) + (IntKind.u64.wrap (rd l0 x5_2)))), (wrap64 (x5_2 + 1)), (by first | rfl | (simp; done) | (simp [*]; done) | (simp only [i64_w]; done)), (by first | rfl | (simp; done) | (simp [*]; done) | (simp only [i64_w]; done)), H', ⟨by have := HJ1.out; have := HK2.out; omega⟩, ⟨by (with_reducible repeat (first | refine blk_drewN ?_ _ | refine blk_drew ?_ | refine blk_alloc ?_ _)); exact BK594.out⟩, ⟨by repeat (first | (with_reducible first | exact HB.out | apply below_alloc | apply pw_below_drewN | apply below_drew1 | refine below_set ?_ GE594.out) | exact HB.out)⟩⟩
                · rw [if_neg c9] at H
                  exact absurd H (by simp)
              · rw [if_neg c8] at H
                exact absurd H (by simp)
            · rw [if_neg c7] at H
              have c7b0 : decide (x5_2 < 9) = false := decide_eq_false c7
              clear c7
              simp only [Option.some.injEq, Prod.mk.injEq] at H
              obtain ⟨rfl, rfl, rfl, rfl⟩ := H
              have hcz10_0 : wr.cell? ⟨gb594, 0, none⟩ = some (.int .u8 0) := (blk_cell BK594.out 0).trans rfl
              have hcz10_1 : wr.cell? ⟨gb594, 1, none⟩ = some (.int .u64 0) := (blk_cell BK594.out 1).trans rfl
              have hcz10_2 : wr.cell? ⟨gb594, 2, none⟩ = some (.string (⟨#[]⟩ : ByteArray)) := (blk_cell BK594.out 2).trans rfl
              have hfz10_0 := blk_frozen BK594.out 0
              have hfz10_1 := blk_frozen BK594.out 1
              have hfz10_2 := blk_frozen BK594.out 2
              go_wp2
              refine bodyPost_ret (results_ct rfl _ _ gb594 60 #[.int .u8 1, .int .u64 x4_2, .string (⟨#[]⟩ : ByteArray)] (0, 0) _ rfl (by (with_reducible repeat (first | refine blk_drewN ?_ _ | refine blk_drew ?_ | refine blk_alloc ?_ _)); refine blk_put (cs := #[.int .u8 1, .int .u64 x4_2, .string (⟨#[]⟩ : ByteArray)]) ?_ 2 _ (by first | rfl | (simp only [List.length_drop, List.length_take]; rfl)); (with_reducible repeat (first | refine blk_drewN ?_ _ | refine blk_drew ?_ | refine blk_alloc ?_ _)); refine blk_put (cs := #[.int .u8 1, .int .u64 0, .string (⟨#[]⟩ : ByteArray)]) ?_ 1 _ (by first | rfl | (simp only [List.length_drop, List.length_take]; rfl)); (with_reducible repeat (first | refine blk_drewN ?_ _ | refine blk_drew ?_ | refine blk_alloc ?_ _)); refine blk_put (cs := #[.int .u8 0, .int .u64 0, .string (⟨#[]⟩ : ByteArray)]) ?_ 0 _ (by first | rfl | (simp only [List.length_drop, List.length_take]; rfl)); (with_reducible repeat (first | refine blk_drewN ?_ _ | refine blk_drew ?_ | refine blk_alloc ?_ _)); exact BK594.out) Tryd.underlying60 rfl (by kernel_rfl)) rfl ?_
              exact ⟨by first | rfl | (simp [errW_none, errW_some] <;> rfl) | (simp [*, errW_none, errW_some] <;> rfl), by repeat (first | (with_reducible first | exact HB.out | apply below_alloc | apply pw_below_drewN | apply below_drew1 | refine below_set ?_ GE594.out) | exact HB.out)⟩
      · replace c6 := Bool.eq_false_iff.mpr c6
        subst c6
        have H1 : (if (l0.length : Int) = 0 then (ladingref03_part.j2 kj1 l0 true) else (if 0 < (l0.length : Int) then (ladingref03_part.j2 kj1 l0 ((rd l0 0) != 2)) else (none))) = some (r1, r2, r3, r4) := by rw [if_neg (show ¬ (false = true) by decide)] at H; exact H
        clear H
        have H := H1
        clear H1
        have HC11 := Aside0.mk H
        clear H
        go_upto_region 8 with (fail)
        go_cut [39] (fun v39 wc => ∃ (kq : Nat) (x39_10 : Bool), v39 = .bool x39_10 ∧ Aside0 (ladingref03_part.j2 kq l0 x39_10 = some (r1, r2, r3, r4)) ∧ Aside0 (kq ≤ kj1) ∧ Aside0 (wc.heap[gb594]? = some (.cells #[.int .u8 0, .int .u64 0, .string (⟨#[]⟩ : ByteArray)] 60 (0, 0))) ∧ Aside0 (Below w.heap.size w wc))
        case first =>
          have H := HC11.out
          clear HC11
          by_cases c12 : (l0.length : Int) = 0
          · rw [if_pos c12] at H
            have c12b0 : ((l0.length : Int) == 0) = true := beq_iff_eq.mpr c12
            have c12b1 : ((l0.length : Int) != 0) = false := bne_eq_false_iff_eq.mpr c12
            clear c12
            (first | rw [c12b0] | (simp only [i64_w, i32_w]; rw [c12b0]) | skip)
            have H' := Aside0.mk H
            clear H
            go_wp2
            go_meet
            case rel => exact ⟨_, (true), (by first | rfl | (simp; done) | (simp [*]; done) | (simp only [i64_w]; done)), H', ⟨by have := HJ1.out; first | omega | exact Nat.le_refl _⟩, ⟨by (with_reducible repeat (first | refine blk_drewN ?_ _ | refine blk_drew ?_ | refine blk_alloc ?_ _)); exact BK594.out⟩, ⟨by repeat (first | (with_reducible first | exact HB.out | apply below_alloc | apply pw_below_drewN | apply below_drew1 | refine below_set ?_ GE594.out) | exact HB.out)⟩⟩
          · rw [if_neg c12] at H
            have c12b0 : ((l0.length : Int) == 0) = false := beq_eq_false_iff_ne.mpr c12
            have c12b1 : ((l0.length : Int) != 0) = true := bne_iff_ne.mpr c12
            have c12b2 : ¬ (l0 = []) := fun h_ => c12 (by rw [h_]; rfl)
            (first | rw [c12b0] | (simp only [i64_w, i32_w]; rw [c12b0]) | skip)
            by_cases c13 : 0 < (l0.length : Int)
            · rw [if_pos c13] at H
              have c13b0 : decide (0 < (l0.length : Int)) = true := decide_eq_true c13
              have c13b1 : decide (0 < l0.length) = true := decide_eq_true (by omega)
              clear c13
              have H' := Aside0.mk H
              clear H
              have p597 : 0 ≤ (0 : Int) := (by omega)
              have q597 : 0 < (l0.length : Int) := of_decide_eq_true (by first | (with_reducible assumption) | assumption)
              obtain ⟨ad597, e597, hx597_0⟩ := Kd.at_int HR0.out 0 p597 q597
              cases e597
              have qi597 : (0 < l0.length) = True := eq_true (by omega)
              (try rw [show ((0 : Int)).toNat = 0 from rfl] at hx597_0)
              (try rw [Addr.add_zero'] at hx597_0)
              replace hx597_0 := (HB.out.cell (World.block_lt_of_cell? w _ hx597_0)).trans hx597_0
              replace p597 := eq_true p597
              replace q597 := eq_true q597
              go_wp2
              go_meet
              case rel => exact ⟨_, (((rd l0 0) != 2)), (by first | rfl | (simp; done) | (simp [*]; done) | (simp only [i64_w]; done)), H', ⟨by have := HJ1.out; first | omega | exact Nat.le_refl _⟩, ⟨by (with_reducible repeat (first | refine blk_drewN ?_ _ | refine blk_drew ?_ | refine blk_alloc ?_ _)); exact BK594.out⟩, ⟨by repeat (first | (with_reducible first | exact HB.out | apply below_alloc | apply pw_below_drewN | apply below_drew1 | refine below_set ?_ GE594.out) | exact HB.out)⟩⟩
            · rw [if_neg c13] at H
              exact absurd H (by simp)
        case rest =>
          clear HC11
          try clear c1
          try clear p2
          try clear c4
          try clear c4b0
          try clear c4b1
          try clear c5
          try clear c5b0
          try clear c5b1
          try clear p5
          try clear q5
          try clear hx5
          try clear qi5
          try clear c6
          try clear p6
          try clear c7
          try clear c7b0
          try clear c8
          try clear c8b0
          try clear c9
          try clear c9b0
          try clear c12
          try clear c12b0
          try clear c12b1
          try clear c12b2
          try clear c13
          try clear c13b0
          try clear c13b1
          try clear hcz10_0
          try clear hcz10_1
          try clear hcz10_2
          try clear hfz10_0
          try clear hfz10_1
          try clear hfz10_2
          try clear hx595_0
          try clear hx596_0
          try clear hx597_0
          try clear p2
          try clear p5
          try clear p595
          try clear p596
          try clear p597
          try clear q5
          try clear q595
          try clear q596
          try clear q597
          (try clear BK594)
          obtain ⟨kq, x39_10, rfl, HA, HJ10, BK594, HB⟩ := hcut
          cases kq with
          | zero => exact absurd HA.out (by simp [ladingref03_part.j2])
          | succ kj10 =>
            have H := HA.out
            clear HA
            simp only [ladingref03_part.j2] at H
            by_cases c14 : x39_10 = true
            · subst c14
              have H1 : (some (0, 0, (⟨#[]⟩ : ByteArray), 0)) = some (r1, r2, r3, r4) := by rw [if_pos rfl] at H; exact H
              clear H
              have H := H1
              clear H1
              simp only [Option.some.injEq, Prod.mk.injEq] at H
              obtain ⟨rfl, rfl, rfl, rfl⟩ := H
              have hcz15_0 : wc.cell? ⟨gb594, 0, none⟩ = some (.int .u8 0) := (blk_cell BK594.out 0).trans rfl
              have hcz15_1 : wc.cell? ⟨gb594, 1, none⟩ = some (.int .u64 0) := (blk_cell BK594.out 1).trans rfl
              have hcz15_2 : wc.cell? ⟨gb594, 2, none⟩ = some (.string (⟨#[]⟩ : ByteArray)) := (blk_cell BK594.out 2).trans rfl
              have hfz15_0 := blk_frozen BK594.out 0
              have hfz15_1 := blk_frozen BK594.out 1
              have hfz15_2 := blk_frozen BK594.out 2
              go_wp2
              refine bodyPost_ret (results_ct rfl _ _ gb594 60 #[.int .u8 0, .int .u64 0, .string (⟨#[]⟩ : ByteArray)] (0, 0) _ rfl (by (with_reducible repeat (first | refine blk_drewN ?_ _ | refine blk_drew ?_ | refine blk_alloc ?_ _)); refine blk_put (cs := #[.int .u8 0, .int .u64 0, .string (⟨#[]⟩ : ByteArray)]) ?_ 2 _ (by first | rfl | (simp only [List.length_drop, List.length_take]; rfl)); (with_reducible repeat (first | refine blk_drewN ?_ _ | refine blk_drew ?_ | refine blk_alloc ?_ _)); refine blk_put (cs := #[.int .u8 0, .int .u64 0, .string (⟨#[]⟩ : ByteArray)]) ?_ 1 _ (by first | rfl | (simp only [List.length_drop, List.length_take]; rfl)); (with_reducible repeat (first | refine blk_drewN ?_ _ | refine blk_drew ?_ | refine blk_alloc ?_ _)); refine blk_put (cs := #[.int .u8 0, .int .u64 0, .string (⟨#[]⟩ : ByteArray)]) ?_ 0 _ (by first | rfl | (simp only [List.length_drop, List.length_take]; rfl)); (with_reducible repeat (first | refine blk_drewN ?_ _ | refine blk_drew ?_ | refine blk_alloc ?_ _)); exact BK594.out) Tryd.underlying60 rfl (by kernel_rfl)) rfl ?_
              exact ⟨by first | rfl | (simp [errW_none, errW_some] <;> rfl) | (simp [*, errW_none, errW_some] <;> rfl), by repeat (first | (with_reducible first | exact HB.out | apply below_alloc | apply pw_below_drewN | apply below_drew1 | refine below_set ?_ GE594.out) | exact HB.out)⟩
            · replace c14 := Bool.eq_false_iff.mpr c14
              subst c14
              have H1 : (ladingref03_part.l1 kj10 l0 ([] : List Int) 1) = some (r1, r2, r3, r4) := by rw [if_neg (show ¬ (false = true) by decide)] at H; exact H
              clear H
              have H := H1
              clear H1
              have H' := Aside0.mk H
              clear H
              go_wp2
              go_loopg [6, 7] kj10 (fun kq v6 v7 w' => ∃ (x6_3 : List Int) (x7_3 : Int) (x595000_3 : Int) (x595001_3 : Int) (x595002_3 : ByteArray), v7 = .int .i64 x7_3 ∧ Aside0 (ladingref03_part.l1 kq l0 x6_3 x7_3 = some (r1, r2, r3, r4)) ∧ Aside0 (kq ≤ kj10) ∧ Aside0 (Kd.R (Kd.int .u8) 5 w' w.heap.size (fun _ => True) v6 x6_3) ∧ Aside0 (w'.heap[gb594]? = some (.cells #[.int .u8 x595000_3, .int .u64 x595001_3, .string x595002_3] 60 (0, 0))) ∧ Aside0 (Below w.heap.size w w'))
              case atStart => exact ⟨(([] : List Int)), (1), (0), (0), ((⟨#[]⟩ : ByteArray)), (by first | rfl | (simp; done) | (simp [*]; done) | (simp only [i64_w]; done)), H', ⟨Nat.le_refl _⟩, ⟨by first | exact Kd.R_nil _ _ _ _ _ | exact Kd.N_nil _ _ _ _ _ | exact Kd.V_nil _ _ _ _ _ | exact Kd.Q_nil _ _ _ _ _ | exact Kd.S_nil _ _ _ _ _⟩, ⟨by (with_reducible repeat (first | refine blk_drewN ?_ _ | refine blk_drew ?_ | refine blk_alloc ?_ _)); exact BK594.out⟩, ⟨by repeat (first | (with_reducible first | exact HB.out | apply below_alloc | apply pw_below_drewN | apply below_drew1 | refine below_set ?_ GE594.out) | exact HB.out)⟩⟩
              case round =>
                clear H'
                try clear c1
                try clear p2
                try clear c4
                try clear c4b0
                try clear c4b1
                try clear c5
                try clear c5b0
                try clear c5b1
                try clear p5
                try clear q5
                try clear hx5
                try clear qi5
                try clear c6
                try clear p6
                try clear c7
                try clear c7b0
                try clear c8
                try clear c8b0
                try clear c9
                try clear c9b0
                try clear c12
                try clear c12b0
                try clear c12b1
                try clear c12b2
                try clear c13
                try clear c13b0
                try clear c13b1
                try clear c14
                try clear hcz10_0
                try clear hcz10_1
                try clear hcz10_2
                try clear hcz15_0
                try clear hcz15_1
                try clear hcz15_2
                try clear hfz10_0
                try clear hfz10_1
                try clear hfz10_2
                try clear hfz15_0
                try clear hfz15_1
                try clear hfz15_2
                try clear hx595_0
                try clear hx596_0
                try clear hx597_0
                try clear p2
                try clear p5
                try clear p595
                try clear p596
                try clear p597
                try clear p6
                try clear q5
                try clear q595
                try clear q596
                try clear q597
                (try clear BK594)
                obtain ⟨x6_3, x7_3, x595000_3, x595001_3, x595002_3, rfl, HA, HK3, HO_6, BK594, HB⟩ := hrel
                cases gk with
                | zero => exact absurd HA.out (by simp [ladingref03_part.l1])
                | succ k3 =>
                  have H := HA.out
                  clear HA
                  simp only [ladingref03_part.l1] at H
                  by_cases c16 : (wrap64 (x7_3 + 1)) < (l0.length : Int)
                  · rw [if_pos c16] at H
                    have c16b0 : decide ((wrap64 (x7_3 + 1)) < (l0.length : Int)) = true := decide_eq_true c16
                    clear c16
                    by_cases c17 : 0 ≤ x7_3
                    · rw [if_pos c17] at H
                      have c17b0 : decide (0 ≤ x7_3) = true := decide_eq_true c17
                      clear c17
                      by_cases c18 : x7_3 < (l0.length : Int)
                      · rw [if_pos c18] at H
                        have c18b0 : decide (x7_3 < (l0.length : Int)) = true := decide_eq_true c18
                        clear c18
                        by_cases c19 : (rd l0 x7_3) = 0
                        · rw [if_pos c19] at H
                          have c19b0 : ((rd l0 x7_3) == 0) = true := beq_iff_eq.mpr c19
                          have c19b1 : ((rd l0 x7_3) != 0) = false := bne_eq_false_iff_eq.mpr c19
                          clear c19
                          obtain ⟨ji20, hji20⟩ : ∃ j_ : Int, (wrap64 (x7_3 + 1)) = j_ := ⟨_, rfl⟩
                          replace H : (if 0 ≤ (ji20) then (if (rd l0 (ji20)) = 1 then (some (2, 0, strOfNums x6_3, wrap64 (x7_3 + 2))) else (if (rd l0 (ji20)) = 255 then (if x6_3.length < 140737488355328 then (ladingref03_part.l1 k3 l0 (x6_3 ++ [0]) (wrap64 ((ji20) + 1))) else (none)) else (some (0, 0, (⟨#[]⟩ : ByteArray), 0)))) else (none)) = some (r1, r2, r3, r4) := by first | (rw [hji20] at H; exact H) | (simp only [hji20] at H ⊢; exact H)
                          (try rw [hji20] at c16b0)
                          have hji20w : (IntKind.i64.wrap (x7_3 + 1)) = ji20 := (i64_w _).trans hji20
                          by_cases c21 : 0 ≤ (ji20)
                          · rw [if_pos c21] at H
                            have c21b0 : decide (0 ≤ (ji20)) = true := decide_eq_true c21
                            clear c21
                            by_cases c22 : (rd l0 (ji20)) = 1
                            · rw [if_pos c22] at H
                              have c22b0 : ((rd l0 (ji20)) == 1) = true := beq_iff_eq.mpr c22
                              have c22b1 : ((rd l0 (ji20)) != 1) = false := bne_eq_false_iff_eq.mpr c22
                              clear c22
                              simp only [Option.some.injEq, Prod.mk.injEq] at H
                              obtain ⟨rfl, rfl, rfl, rfl⟩ := H
                              have p598 : 0 ≤ (x7_3 : Int) := of_decide_eq_true (by first | (with_reducible assumption) | assumption)
                              have q598 : x7_3 < (l0.length : Int) := of_decide_eq_true (by first | (with_reducible assumption) | assumption)
                              obtain ⟨ad598, e598, hx598_0⟩ := Kd.at_int HR0.out x7_3 p598 q598
                              cases e598
                              replace hx598_0 := (HB.out.cell (World.block_lt_of_cell? w _ hx598_0)).trans hx598_0
                              replace p598 := eq_true p598
                              replace q598 := eq_true q598
                              have p603 : 0 ≤ ((ji20) : Int) := of_decide_eq_true (by first | (with_reducible assumption) | assumption)
                              have q603 : (ji20) < (l0.length : Int) := of_decide_eq_true (by first | (with_reducible assumption) | assumption)
                              obtain ⟨ad603, e603, hx603_0⟩ := Kd.at_int HR0.out (ji20) p603 q603
                              obtain rfl : ad598 = ad603 := (by injection e603)
                              replace hx603_0 := (HB.out.cell (World.block_lt_of_cell? w _ hx603_0)).trans hx603_0
                              replace p603 := eq_true p603
                              replace q603 := eq_true q603
                              have hcv23 := own_string (P := Tryd.prog) Tryd.underlying24 Tryd.underlying5 Tryd.underlying9 (Kd.own_of_R HO_6.out)
                              have hcw24 := fun n_ : Nat => own_string (P := Tryd.prog) Tryd.underlying24 Tryd.underlying5 Tryd.underlying9 (Kd.own_of_R (Kd.R_drewN HO_6.out n_))
                              have hcz25_0 : wr.cell? ⟨gb594, 0, none⟩ = some (.int .u8 x595000_3) := (blk_cell BK594.out 0).trans rfl
                              have hcz25_1 : wr.cell? ⟨gb594, 1, none⟩ = some (.int .u64 x595001_3) := (blk_cell BK594.out 1).trans rfl
                              have hcz25_2 : wr.cell? ⟨gb594, 2, none⟩ = some (.string x595002_3) := (blk_cell BK594.out 2).trans rfl
                              have hfz25_0 := blk_frozen BK594.out 0
                              have hfz25_1 := blk_frozen BK594.out 1
                              have hfz25_2 := blk_frozen BK594.out 2
                              go_wp2
                              refine bodyPost_ret (results_ct rfl _ _ gb594 60 #[.int .u8 2, .int .u64 0, .string (strOfNums x6_3)] (0, 0) _ rfl (by (with_reducible repeat (first | refine blk_drewN ?_ _ | refine blk_drew ?_ | refine blk_alloc ?_ _)); refine blk_put (cs := #[.int .u8 2, .int .u64 0, .string x595002_3]) ?_ 2 _ (by first | rfl | (simp only [List.length_drop, List.length_take]; rfl)); (with_reducible repeat (first | refine blk_drewN ?_ _ | refine blk_drew ?_ | refine blk_alloc ?_ _)); refine blk_put (cs := #[.int .u8 2, .int .u64 x595001_3, .string x595002_3]) ?_ 1 _ (by first | rfl | (simp only [List.length_drop, List.length_take]; rfl)); (with_reducible repeat (first | refine blk_drewN ?_ _ | refine blk_drew ?_ | refine blk_alloc ?_ _)); refine blk_put (cs := #[.int .u8 x595000_3, .int .u64 x595001_3, .string x595002_3]) ?_ 0 _ (by first | rfl | (simp only [List.length_drop, List.length_take]; rfl)); (with_reducible repeat (first | refine blk_drewN ?_ _ | refine blk_drew ?_ | refine blk_alloc ?_ _)); exact BK594.out) Tryd.underlying60 rfl (by kernel_rfl)) rfl ?_
                              exact ⟨by first | rfl | (simp [errW_none, errW_some] <;> rfl) | (simp only [← hji20]; first | rfl | (simp [errW_none, errW_some] <;> rfl)) | (simp [*, errW_none, errW_some] <;> rfl), by repeat (first | (with_reducible first | exact HB.out | apply below_alloc | apply pw_below_drewN | apply below_drew1 | refine below_set ?_ GE594.out) | exact HB.out)⟩
                            · rw [if_neg c22] at H
                              have c22b0 : ((rd l0 (ji20)) == 1) = false := beq_eq_false_iff_ne.mpr c22
                              have c22b1 : ((rd l0 (ji20)) != 1) = true := bne_iff_ne.mpr c22
                              by_cases c26 : (rd l0 (ji20)) = 255
                              · rw [if_pos c26] at H
                                have c26b0 : ((rd l0 (ji20)) == 255) = true := beq_iff_eq.mpr c26
                                have c26b1 : ((rd l0 (ji20)) != 255) = false := bne_eq_false_iff_eq.mpr c26
                                clear c26
                                by_cases c27 : x6_3.length < 140737488355328
                                · rw [if_pos c27] at H
                                  have LMc27 := Aside0.mk c27
                                  clear c27
                                  obtain ⟨y605, hy605⟩ : ∃ y_ : List Int, y_ = (x6_3 ++ [0]) := ⟨_, rfl⟩
                                  replace H : (ladingref03_part.l1 k3 l0 y605 (wrap64 ((ji20) + 1))) = some (r1, r2, r3, r4) := by first | (rw [hy605]; with_reducible exact H) | (have H2_ := (Option.bind_some _ _).symm.trans H; rw [hy605]; with_reducible exact H2_) | (have H2_ := (Option.bind_some _ _).symm.trans H; with_reducible exact H2_) | with_reducible exact H | (rw [hy605]; exact H) | exact H
                                  have Ny605 := Aside0.mk hy605
                                  clear hy605
                                  have H' := Aside0.mk H
                                  clear H
                                  have p598 : 0 ≤ (x7_3 : Int) := of_decide_eq_true (by first | (with_reducible assumption) | assumption)
                                  have q598 : x7_3 < (l0.length : Int) := of_decide_eq_true (by first | (with_reducible assumption) | assumption)
                                  obtain ⟨ad598, e598, hx598_0⟩ := Kd.at_int HR0.out x7_3 p598 q598
                                  cases e598
                                  replace hx598_0 := (HB.out.cell (World.block_lt_of_cell? w _ hx598_0)).trans hx598_0
                                  replace p598 := eq_true p598
                                  replace q598 := eq_true q598
                                  have p603 : 0 ≤ ((ji20) : Int) := of_decide_eq_true (by first | (with_reducible assumption) | assumption)
                                  have q603 : (ji20) < (l0.length : Int) := of_decide_eq_true (by first | (with_reducible assumption) | assumption)
                                  obtain ⟨ad603, e603, hx603_0⟩ := Kd.at_int HR0.out (ji20) p603 q603
                                  obtain rfl : ad598 = ad603 := (by injection e603)
                                  replace hx603_0 := (HB.out.cell (World.block_lt_of_cell? w _ hx603_0)).trans hx603_0
                                  replace p603 := eq_true p603
                                  replace q603 := eq_true q603
                                  have p604 : 0 ≤ ((ji20) : Int) := of_decide_eq_true (by first | (with_reducible assumption) | assumption)
                                  have q604 : (ji20) < (l0.length : Int) := of_decide_eq_true (by first | (with_reducible assumption) | assumption)
                                  obtain ⟨ad604, e604, hx604_0⟩ := Kd.at_int HR0.out (ji20) p604 q604
                                  obtain rfl : ad598 = ad604 := (by injection e604)
                                  replace hx604_0 := (HB.out.cell (World.block_lt_of_cell? w _ hx604_0)).trans hx604_0
                                  replace p604 := eq_true p604
                                  replace q604 := eq_true q604
                                  go_wp2_with (first | ((with_reducible refine gate_builtin (b := .append) (xs := #[.tmp 78, .tmp 79]) rfl ?_); at_builtin; refine Kd.R_append (Kd.int .u8) (w0 := w) w.heap.size rfl (.tmp 78) (.tmp 79) 24 5 (.int .u8 0) 1 rfl Tryd.underlying24 info5 rfl (by decide) (by omega) u6 x6_3 0 [.int .u8 0] (fun _ => True) (fun _ => False) rfl rfl ?aP (fun _ hk => hk.elim) ?aF ?aO ?aB ?aS ?aL ?_; (case aP => exact rfl); (case aB => exact (by repeat (first | (with_reducible first | exact HB.out | apply below_alloc | apply pw_below_drewN | apply below_drew1 | refine below_set ?_ GE594.out) | exact HB.out))); (case aF => exact (fun _ _ => trivial)); (case aO => exact (by (with_reducible repeat (first | apply Kd.R_alloc | apply Kd.R_drewN | apply Kd.R_drew)); exact HO_6.out)); (case aS => exact (below_size (by repeat (first | (with_reducible first | exact HB.out | apply below_alloc | apply pw_below_drewN | apply below_drew1 | refine below_set ?_ GE594.out) | exact HB.out)))); (case aL => have := LMc27.out; omega); intro v606 w28 ho hb hg hat; rw [← Ny605.out] at ho; have n0_ := Aside0.mk (blk_grown (g := gb594) (o := .cells #[.int .u8 x595000_3, .int .u64 x595001_3, .string x595002_3] 60 (0, 0)) (by (with_reducible repeat (first | refine blk_drewN ?_ _ | refine blk_drew ?_ | refine blk_alloc ?_ _)); exact BK594.out) hg (Kd.R_ne HO_6.out BK594.out (by decide))); have n1_ := Aside0.mk (hb); have n2_ := Aside0.mk (ho); clear BK594; clear HB; clear HO_6; have BK594 := n0_; have HB := n1_; have HO607 := n2_; clear n0_ n1_ n2_; clear ho hb hg hat))
                                  go_roundg k3
                                  case measure => have := HJ1.out; have := HJ10.out; have := HK3.out; omega
                                  case rel => exact ⟨(y605), (wrap64 ((ji20) + 1)), (x595000_3), (x595001_3), (x595002_3), (by first | rfl | (simp; done) | (simp only [← hji20] <;> (first | rfl | simp)) | (simp [*]; done)), H', ⟨by have := HJ1.out; have := HJ10.out; have := HK3.out; omega⟩, ⟨by (with_reducible repeat (first | apply Kd.R_alloc | apply Kd.R_drewN | apply Kd.R_drew)); exact HO607.out⟩, ⟨by (with_reducible repeat (first | refine blk_drewN ?_ _ | refine blk_drew ?_ | refine blk_alloc ?_ _)); exact BK594.out⟩, ⟨by repeat (first | (with_reducible first | exact HB.out | apply below_alloc | apply pw_below_drewN | apply below_drew1 | refine below_set ?_ GE594.out) | exact HB.out)⟩⟩
                                · rw [if_neg c27] at H
                                  exact absurd H (by simp)
                              · rw [if_neg c26] at H
                                have c26b0 : ((rd l0 (ji20)) == 255) = false := beq_eq_false_iff_ne.mpr c26
                                have c26b1 : ((rd l0 (ji20)) != 255) = true := bne_iff_ne.mpr c26
                                simp only [Option.some.injEq, Prod.mk.injEq] at H
                                obtain ⟨rfl, rfl, rfl, rfl⟩ := H
                                have p598 : 0 ≤ (x7_3 : Int) := of_decide_eq_true (by first | (with_reducible assumption) | assumption)
                                have q598 : x7_3 < (l0.length : Int) := of_decide_eq_true (by first | (with_reducible assumption) | assumption)
                                obtain ⟨ad598, e598, hx598_0⟩ := Kd.at_int HR0.out x7_3 p598 q598
                                cases e598
                                replace hx598_0 := (HB.out.cell (World.block_lt_of_cell? w _ hx598_0)).trans hx598_0
                                replace p598 := eq_true p598
                                replace q598 := eq_true q598
                                have p603 : 0 ≤ ((ji20) : Int) := of_decide_eq_true (by first | (with_reducible assumption) | assumption)
                                have q603 : (ji20) < (l0.length : Int) := of_decide_eq_true (by first | (with_reducible assumption) | assumption)
                                obtain ⟨ad603, e603, hx603_0⟩ := Kd.at_int HR0.out (ji20) p603 q603
                                obtain rfl : ad598 = ad603 := (by injection e603)
                                replace hx603_0 := (HB.out.cell (World.block_lt_of_cell? w _ hx603_0)).trans hx603_0
                                replace p603 := eq_true p603
                                replace q603 := eq_true q603
                                have p604 : 0 ≤ ((ji20) : Int) := of_decide_eq_true (by first | (with_reducible assumption) | assumption)
                                have q604 : (ji20) < (l0.length : Int) := of_decide_eq_true (by first | (with_reducible assumption) | assumption)
                                obtain ⟨ad604, e604, hx604_0⟩ := Kd.at_int HR0.out (ji20) p604 q604
                                obtain rfl : ad598 = ad604 := (by injection e604)
                                replace hx604_0 := (HB.out.cell (World.block_lt_of_cell? w _ hx604_0)).trans hx604_0
                                replace p604 := eq_true p604
                                replace q604 := eq_true q604
                                have hcz29_0 : wr.cell? ⟨gb594, 0, none⟩ = some (.int .u8 x595000_3) := (blk_cell BK594.out 0).trans rfl
                                have hcz29_1 : wr.cell? ⟨gb594, 1, none⟩ = some (.int .u64 x595001_3) := (blk_cell BK594.out 1).trans rfl
                                have hcz29_2 : wr.cell? ⟨gb594, 2, none⟩ = some (.string x595002_3) := (blk_cell BK594.out 2).trans rfl
                                have hfz29_0 := blk_frozen BK594.out 0
                                have hfz29_1 := blk_frozen BK594.out 1
                                have hfz29_2 := blk_frozen BK594.out 2
                                go_wp2
                                refine bodyPost_ret (results_ct rfl _ _ gb594 60 #[.int .u8 0, .int .u64 0, .string (⟨#[]⟩ : ByteArray)] (0, 0) _ rfl (by (with_reducible repeat (first | refine blk_drewN ?_ _ | refine blk_drew ?_ | refine blk_alloc ?_ _)); refine blk_put (cs := #[.int .u8 0, .int .u64 0, .string x595002_3]) ?_ 2 _ (by first | rfl | (simp only [List.length_drop, List.length_take]; rfl)); (with_reducible repeat (first | refine blk_drewN ?_ _ | refine blk_drew ?_ | refine blk_alloc ?_ _)); refine blk_put (cs := #[.int .u8 0, .int .u64 x595001_3, .string x595002_3]) ?_ 1 _ (by first | rfl | (simp only [List.length_drop, List.length_take]; rfl)); (with_reducible repeat (first | refine blk_drewN ?_ _ | refine blk_drew ?_ | refine blk_alloc ?_ _)); refine blk_put (cs := #[.int .u8 x595000_3, .int .u64 x595001_3, .string x595002_3]) ?_ 0 _ (by first | rfl | (simp only [List.length_drop, List.length_take]; rfl)); (with_reducible repeat (first | refine blk_drewN ?_ _ | refine blk_drew ?_ | refine blk_alloc ?_ _)); exact BK594.out) Tryd.underlying60 rfl (by kernel_rfl)) rfl ?_
                                exact ⟨by first | rfl | (simp [errW_none, errW_some] <;> rfl) | (simp only [← hji20]; first | rfl | (simp [errW_none, errW_some] <;> rfl)) | (simp [*, errW_none, errW_some] <;> rfl), by repeat (first | (with_reducible first | exact HB.out | apply below_alloc | apply pw_below_drewN | apply below_drew1 | refine below_set ?_ GE594.out) | exact HB.out)⟩
                          · rw [if_neg c21] at H
                            exact absurd H (by simp)
                        · rw [if_neg c19] at H
                          have c19b0 : ((rd l0 x7_3) == 0) = false := beq_eq_false_iff_ne.mpr c19
                          have c19b1 : ((rd l0 x7_3) != 0) = true := bne_iff_ne.mpr c19
                          by_cases c30 : x6_3.length < 140737488355328
                          · rw [if_pos c30] at H
                            have LMc30 := Aside0.mk c30
                            clear c30
                            obtain ⟨y600, hy600⟩ : ∃ y_ : List Int, y_ = (x6_3 ++ [rd l0 x7_3]) := ⟨_, rfl⟩
                            replace H : (ladingref03_part.l1 k3 l0 y600 (wrap64 (x7_3 + 1))) = some (r1, r2, r3, r4) := by first | (rw [hy600]; with_reducible exact H) | (have H2_ := (Option.bind_some _ _).symm.trans H; rw [hy600]; with_reducible exact H2_) | (have H2_ := (Option.bind_some _ _).symm.trans H; with_reducible exact H2_) | with_reducible exact H | (rw [hy600]; exact H) | exact H
                            have Ny600 := Aside0.mk hy600
                            clear hy600
                            have H' := Aside0.mk H
                            clear H
                            have p598 : 0 ≤ (x7_3 : Int) := of_decide_eq_true (by first | (with_reducible assumption) | assumption)
                            have q598 : x7_3 < (l0.length : Int) := of_decide_eq_true (by first | (with_reducible assumption) | assumption)
                            obtain ⟨ad598, e598, hx598_0⟩ := Kd.at_int HR0.out x7_3 p598 q598
                            cases e598
                            replace hx598_0 := (HB.out.cell (World.block_lt_of_cell? w _ hx598_0)).trans hx598_0
                            replace p598 := eq_true p598
                            replace q598 := eq_true q598
                            have p599 : 0 ≤ (x7_3 : Int) := of_decide_eq_true (by first | (with_reducible assumption) | assumption)
                            have q599 : x7_3 < (l0.length : Int) := of_decide_eq_true (by first | (with_reducible assumption) | assumption)
                            obtain ⟨ad599, e599, hx599_0⟩ := Kd.at_int HR0.out x7_3 p599 q599
                            obtain rfl : ad598 = ad599 := (by injection e599)
                            replace hx599_0 := (HB.out.cell (World.block_lt_of_cell? w _ hx599_0)).trans hx599_0
                            replace p599 := eq_true p599
                            replace q599 := eq_true q599
                            go_wp2_with (first | ((with_reducible refine gate_builtin (b := .append) (xs := #[.tmp 53, .tmp 58]) rfl ?_); at_builtin; refine Kd.R_append (Kd.int .u8) (w0 := w) w.heap.size rfl (.tmp 53) (.tmp 58) 24 5 (.int .u8 0) 1 rfl Tryd.underlying24 info5 rfl (by decide) (by omega) u6 x6_3 (rd l0 x7_3) [.int .u8 (rd l0 x7_3)] (fun _ => True) (fun _ => False) rfl rfl ?aP (fun _ hk => hk.elim) ?aF ?aO ?aB ?aS ?aL ?_; (case aP => exact rfl); (case aB => exact (by repeat (first | (with_reducible first | exact HB.out | apply below_alloc | apply pw_below_drewN | apply below_drew1 | refine below_set ?_ GE594.out) | exact HB.out))); (case aF => exact (fun _ _ => trivial)); (case aO => exact (by (with_reducible repeat (first | apply Kd.R_alloc | apply Kd.R_drewN | apply Kd.R_drew)); exact HO_6.out)); (case aS => exact (below_size (by repeat (first | (with_reducible first | exact HB.out | apply below_alloc | apply pw_below_drewN | apply below_drew1 | refine below_set ?_ GE594.out) | exact HB.out)))); (case aL => have := LMc30.out; omega); intro v601 w31 ho hb hg hat; rw [← Ny600.out] at ho; have n0_ := Aside0.mk (blk_grown (g := gb594) (o := .cells #[.int .u8 x595000_3, .int .u64 x595001_3, .string x595002_3] 60 (0, 0)) (by (with_reducible repeat (first | refine blk_drewN ?_ _ | refine blk_drew ?_ | refine blk_alloc ?_ _)); exact BK594.out) hg (Kd.R_ne HO_6.out BK594.out (by decide))); have n1_ := Aside0.mk (hb); have n2_ := Aside0.mk (ho); clear BK594; clear HB; clear HO_6; have BK594 := n0_; have HB := n1_; have HO602 := n2_; clear n0_ n1_ n2_; clear ho hb hg hat))
                            go_roundg k3
                            case measure => have := HJ1.out; have := HJ10.out; have := HK3.out; omega
                            case rel => exact ⟨(y600), (wrap64 (x7_3 + 1)), (x595000_3), (x595001_3), (x595002_3), (by first | rfl | (simp; done) | (simp [*]; done) | (simp only [i64_w]; done)), H', ⟨by have := HJ1.out; have := HJ10.out; have := HK3.out; omega⟩, ⟨by (with_reducible repeat (first | apply Kd.R_alloc | apply Kd.R_drewN | apply Kd.R_drew)); exact HO602.out⟩, ⟨by (with_reducible repeat (first | refine blk_drewN ?_ _ | refine blk_drew ?_ | refine blk_alloc ?_ _)); exact BK594.out⟩, ⟨by repeat (first | (with_reducible first | exact HB.out | apply below_alloc | apply pw_below_drewN | apply below_drew1 | refine below_set ?_ GE594.out) | exact HB.out)⟩⟩
                          · rw [if_neg c30] at H
                            exact absurd H (by simp)
                      · rw [if_neg c18] at H
                        exact absurd H (by simp)
                    · rw [if_neg c17] at H
                      exact absurd H (by simp)
                  · rw [if_neg c16] at H
                    have c16b0 : decide ((wrap64 (x7_3 + 1)) < (l0.length : Int)) = false := decide_eq_false c16
                    clear c16
                    simp only [Option.some.injEq, Prod.mk.injEq] at H
                    obtain ⟨rfl, rfl, rfl, rfl⟩ := H
                    have hcz32_0 : wr.cell? ⟨gb594, 0, none⟩ = some (.int .u8 x595000_3) := (blk_cell BK594.out 0).trans rfl
                    have hcz32_1 : wr.cell? ⟨gb594, 1, none⟩ = some (.int .u64 x595001_3) := (blk_cell BK594.out 1).trans rfl
                    have hcz32_2 : wr.cell? ⟨gb594, 2, none⟩ = some (.string x595002_3) := (blk_cell BK594.out 2).trans rfl
                    have hfz32_0 := blk_frozen BK594.out 0
                    have hfz32_1 := blk_frozen BK594.out 1
                    have hfz32_2 := blk_frozen BK594.out 2
                    go_wp2
                    refine bodyPost_ret (results_ct rfl _ _ gb594 60 #[.int .u8 0, .int .u64 0, .string (⟨#[]⟩ : ByteArray)] (0, 0) _ rfl (by (with_reducible repeat (first | refine blk_drewN ?_ _ | refine blk_drew ?_ | refine blk_alloc ?_ _)); refine blk_put (cs := #[.int .u8 0, .int .u64 0, .string x595002_3]) ?_ 2 _ (by first | rfl | (simp only [List.length_drop, List.length_take]; rfl)); (with_reducible repeat (first | refine blk_drewN ?_ _ | refine blk_drew ?_ | refine blk_alloc ?_ _)); refine blk_put (cs := #[.int .u8 0, .int .u64 x595001_3, .string x595002_3]) ?_ 1 _ (by first | rfl | (simp only [List.length_drop, List.length_take]; rfl)); (with_reducible repeat (first | refine blk_drewN ?_ _ | refine blk_drew ?_ | refine blk_alloc ?_ _)); refine blk_put (cs := #[.int .u8 x595000_3, .int .u64 x595001_3, .string x595002_3]) ?_ 0 _ (by first | rfl | (simp only [List.length_drop, List.length_take]; rfl)); (with_reducible repeat (first | refine blk_drewN ?_ _ | refine blk_drew ?_ | refine blk_alloc ?_ _)); exact BK594.out) Tryd.underlying60 rfl (by kernel_rfl)) rfl ?_
                    exact ⟨by first | rfl | (simp [errW_none, errW_some] <;> rfl) | (simp [*, errW_none, errW_some] <;> rfl), by repeat (first | (with_reducible first | exact HB.out | apply below_alloc | apply pw_below_drewN | apply below_drew1 | refine below_set ?_ GE594.out) | exact HB.out)⟩
end Go.Proofs.YtfpdipnaefomiaaDoor.Print
