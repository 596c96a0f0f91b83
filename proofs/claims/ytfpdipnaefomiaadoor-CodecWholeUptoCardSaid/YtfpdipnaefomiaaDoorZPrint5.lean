-- What the claim uses alone (wip/slim.py). Lean checks it.
import Derived.Test.YtfpdipnaefomiaaDoorZPrint0
import Derived.Test.YtfpdipnaefomiaaDoorZPrint4
namespace Go.Proofs.YtfpdipnaefomiaaDoor.Print
open Go.RowKit Go.Proofs.YtfpdipnaefomiaaDoorW.PrintWords Go.Proofs.YtfpdipnaefomiaaDoorW.PrintLast Go.Proofs.YtfpdipnaefomiaaDoorW.PrintMore
attribute [local go_sem] max2_mx min2_mn max_two min_two max_three min_three max_four min_four
set_option linter.unusedVariables false
set_option linter.unusedSimpArgs false
mutual
def codec_cursor_num.l0 : Nat → Int → List Int → Int → Int → List Int → Int → Option (Int × List Int × Int)
  | 0, _, _, _, _, _, _ => none
  | k + 1, x3, x10, x11, x12, x1000, x1001 => if x12 < x11 then (if 0 ≤ x12 then (if x12 < (x10.length : Int) then (if x1001 = 0 then (if x12 > 9 then (codec_cursor_num.j1 k x3 x12 (rd x10 x12) (IntKind.u64.wrap (Go.bits .and .u8 (rd x10 x12) 127)) x10 x11 x12 true x1000 x1001) else (if x12 = 9 then (if (IntKind.u64.wrap (Go.bits .and .u8 (rd x10 x12) 127)) > 1 then (codec_cursor_num.j1 k x3 x12 (rd x10 x12) (IntKind.u64.wrap (Go.bits .and .u8 (rd x10 x12) 127)) x10 x11 x12 true x1000 x1001) else (if x12 > 0 then (codec_cursor_num.j1 k x3 x12 (rd x10 x12) (IntKind.u64.wrap (Go.bits .and .u8 (rd x10 x12) 127)) x10 x11 x12 ((rd x10 x12) == 0) x1000 x1001) else (codec_cursor_num.j1 k x3 x12 (rd x10 x12) (IntKind.u64.wrap (Go.bits .and .u8 (rd x10 x12) 127)) x10 x11 x12 false x1000 x1001))) else (if x12 > 0 then (codec_cursor_num.j1 k x3 x12 (rd x10 x12) (IntKind.u64.wrap (Go.bits .and .u8 (rd x10 x12) 127)) x10 x11 x12 ((rd x10 x12) == 0) x1000 x1001) else (codec_cursor_num.j1 k x3 x12 (rd x10 x12) (IntKind.u64.wrap (Go.bits .and .u8 (rd x10 x12) 127)) x10 x11 x12 false x1000 x1001)))) else (codec_cursor_num.j1 k x3 x12 (rd x10 x12) (IntKind.u64.wrap (Go.bits .and .u8 (rd x10 x12) 127)) x10 x11 x12 true x1000 x1001)) else (none)) else (none)) else ((codec_cursor_fail.f x1000 x1001 6).bind fun bt145 => (some (0, bt145.1, bt145.2)))
def codec_cursor_num.j1 : Nat → Int → Int → Int → Int → List Int → Int → Int → Bool → List Int → Int → Option (Int × List Int × Int)
  | 0, _, _, _, _, _, _, _, _, _, _ => none
  | k + 1, x3, x4, x5, x6, x10, x11, x12, x44, x1000, x1001 => if x44 = true then ((codec_cursor_fail.f x1000 x1001 6).bind fun bt148 => (some (0, bt148.1, bt148.2))) else (if 0 ≤ (wrap64 (7 * x4)) then (if x5 < 128 then (if 0 ≤ (wrap64 (x4 + 1)) then (if (wrap64 (x4 + 1)) ≤ (x1000.length : Int) then (some (Go.bits .or .u64 x3 (shl .u64 x6 (wrap64 (7 * x4))), x1000.drop ((wrap64 (x4 + 1)) : Int).toNat, x1001)) else (none)) else (none)) else (codec_cursor_num.l0 k (Go.bits .or .u64 x3 (shl .u64 x6 (wrap64 (7 * x4)))) x10 x11 (wrap64 (x12 + 1)) x1000 x1001)) else (none))
end
def codec_cursor_num.f (k : Nat) (l0_0 : List Int) (a0_1 : Int) : Option (Int × List Int × Int) := codec_cursor_num.l0 k 0 l0_0 (l0_0.length : Int) 0 l0_0 a0_1
theorem codec_cursor_num.mono_l : ∀ k, (∀ y0 y1 y2 y3 y4 y5, LeO (codec_cursor_num.l0 k y0 y1 y2 y3 y4 y5) (codec_cursor_num.l0 (k + 1) y0 y1 y2 y3 y4 y5)) ∧ (∀ y0 y1 y2 y3 y4 y5 y6 y7 y8 y9, LeO (codec_cursor_num.j1 k y0 y1 y2 y3 y4 y5 y6 y7 y8 y9) (codec_cursor_num.j1 (k + 1) y0 y1 y2 y3 y4 y5 y6 y7 y8 y9))
  | 0 => ⟨fun _ _ _ _ _ _ r h => by simp [codec_cursor_num.l0] at h, fun _ _ _ _ _ _ _ _ _ _ r h => by simp [codec_cursor_num.j1] at h⟩
  | k + 1 => by
    obtain ⟨ih0, ih1⟩ := codec_cursor_num.mono_l k
    refine ⟨?_, ?_⟩
    · intro y0 y1 y2 y3 y4 y5
      unfold codec_cursor_num.l0
      repeat' first
      | (with_reducible exact ih0 _ _ _ _ _ _)
      | (with_reducible exact ih1 _ _ _ _ _ _ _ _ _ _)
      | (with_reducible exact LeO.refl _)
      | (with_reducible exact LeO.none _)
      | (with_reducible refine LeO.ite ?_ ?_)
      | (with_reducible refine LeO.bind ?_ (fun _ => ?_))
      | exact ih0 _ _ _ _ _ _
      | exact ih1 _ _ _ _ _ _ _ _ _ _
      | exact LeO.none _
      | refine LeO.ite ?_ ?_
      | refine LeO.bind ?_ (fun _ => ?_)
    · intro y0 y1 y2 y3 y4 y5 y6 y7 y8 y9
      unfold codec_cursor_num.j1
      repeat' first
      | (with_reducible exact ih0 _ _ _ _ _ _)
      | (with_reducible exact ih1 _ _ _ _ _ _ _ _ _ _)
      | (with_reducible exact LeO.refl _)
      | (with_reducible exact LeO.none _)
      | (with_reducible refine LeO.ite ?_ ?_)
      | (with_reducible refine LeO.bind ?_ (fun _ => ?_))
      | exact ih0 _ _ _ _ _ _
      | exact ih1 _ _ _ _ _ _ _ _ _ _
      | exact LeO.none _
      | refine LeO.ite ?_ ?_
      | refine LeO.bind ?_ (fun _ => ?_)
theorem codec_cursor_num.mono : ∀ a0 a1 k, LeO (codec_cursor_num.f k a0 a1) (codec_cursor_num.f (k + 1) a0 a1) := by
  intro a0 a1 k
  obtain ⟨ih0, ih1⟩ := codec_cursor_num.mono_l k
  unfold codec_cursor_num.f
  repeat' first
      | (with_reducible exact ih0 _ _ _ _ _ _)
      | (with_reducible exact ih1 _ _ _ _ _ _ _ _ _ _)
      | (with_reducible exact LeO.refl _)
      | (with_reducible exact LeO.none _)
      | (with_reducible refine LeO.ite ?_ ?_)
      | (with_reducible refine LeO.bind ?_ (fun _ => ?_))
      | exact ih0 _ _ _ _ _ _
      | exact ih1 _ _ _ _ _ _ _ _ _ _
      | exact LeO.none _
      | refine LeO.ite ?_ ?_
      | refine LeO.bind ?_ (fun _ => ?_)
set_option maxHeartbeats 8000000 in
set_option maxRecDepth 100000 in
theorem codec_cursor_num.calls (k : Nat) (g : Nat) (A0_0 : Option Addr) (c0_0 : Nat) (l0_0 : List Int) (a0_1 : Int) (r1 : Int) (r2 : List Int) (r3 : Int) (w0 w : World) (hB : Below w0.heap.size w0 w) (hge : w0.heap.size ≤ g) (hbx : w.heap[g]? = some (.cells #[.slice A0_0 l0_0.length c0_0, .int .i64 a0_1] 66 (0, 0))) (hr0_0 : Kd.C (Kd.int .u8) w0 A0_0 l0_0.length l0_0) (hc0_0 : l0_0.length ≤ c0_0) (h : codec_cursor_num.f k l0_0 a0_1 = some (r1, r2, r3)) :
    Calls Tryd.prog 43 #[.pointer (some ⟨g, 0, none⟩)] w fun e w' => ∃ (Ax_0 : Option Addr) (cx_0 : Nat), e = .returned (.int .u64 r1) ∧ w'.heap[g]? = some (.cells #[.slice Ax_0 r2.length cx_0, .int .i64 r3] 66 (0, 0)) ∧ Kd.C (Kd.int .u8) w0 Ax_0 r2.length r2 ∧ r2.length ≤ cx_0 ∧ Below w0.heap.size w0 w' ∧ KeepBut w w' g none := by
  have HR0_0 := Aside0.mk hr0_0
  have HC0_0 := Aside0.mk hc0_0
  clear hr0_0 hc0_0
  have BK0 := Aside0.mk hbx
  clear hbx
  have GE0 := Aside0.mk hge
  have HK := Aside0.mk (KeepBut.refl w g none)
  have HL := Aside0.mk hB.size
  clear hge
  have HW0 := Aside0.mk hB.size
  have HB := Aside0.mk hB
  clear hB
  have H : (codec_cursor_num.l0 k 0 l0_0 (l0_0.length : Int) 0 l0_0 a0_1) = some (r1, r2, r3) := h
  clear h
  have H' := Aside0.mk H
  clear H
  have hcz2_0 : w.cell? ⟨g, 0, none⟩ = some (.slice A0_0 l0_0.length c0_0) := (blk_cell BK0.out 0).trans rfl
  have hcz2_1 : w.cell? ⟨g, 1, none⟩ = some (.int .i64 a0_1) := (blk_cell BK0.out 1).trans rfl
  have hfz2_0 := blk_frozen BK0.out 0
  have hfz2_1 := blk_frozen BK0.out 1
  go_enter Tryd.func43, Tryd.ntmps43
  go_wp2
  go_loopg [3, 12] k (fun kq v3 v12 w' => ∃ (x3_1 : Int) (x12_1 : Int) (x1000_1 : List Int) (Au1000 : Option Addr) (cu1000 : Nat), v3 = .int .u64 x3_1 ∧ v12 = .int .i64 x12_1 ∧ Aside0 (codec_cursor_num.l0 kq x3_1 l0_0 (l0_0.length : Int) x12_1 x1000_1 a0_1 = some (r1, r2, r3)) ∧ Aside0 (kq ≤ k) ∧ Aside0 (Kd.C (Kd.int .u8) w0 Au1000 x1000_1.length x1000_1) ∧ Aside0 (x1000_1.length ≤ cu1000) ∧ Aside0 (w'.heap[g]? = some (.cells #[.slice Au1000 x1000_1.length cu1000, .int .i64 a0_1] 66 (0, 0))) ∧ Aside0 (KeepBut w w' g none) ∧ Aside0 (Below w0.heap.size w0 w'))
  case atStart => exact ⟨(0), (0), (l0_0), (A0_0), (c0_0), (by first | rfl | (simp; done) | (simp [*]; done) | (simp only [i64_w]; done)), (by first | rfl | (simp; done) | (simp [*]; done) | (simp only [i64_w]; done)), H', ⟨Nat.le_refl _⟩, ⟨HR0_0.out⟩, ⟨HC0_0.out⟩, ⟨by (with_reducible repeat (first | refine blk_drewN ?_ _ | refine blk_drew ?_ | refine blk_alloc ?_ _)); exact BK0.out⟩, ⟨by repeat (first | (with_reducible first | exact HK.out | apply KeepBut.set_ | apply keep_drewN | apply keep_drew | apply keep_alloc | refine keep_far ?_ GW0.out _) | exact HK.out)⟩, ⟨by repeat (first | (with_reducible first | exact HB.out | apply below_alloc | apply pw_below_drewN | apply below_drew1 | refine below_set ?_ GE0.out) | exact HB.out)⟩⟩
  case round =>
    clear H'
    try clear p2
    try clear hcz2_0
    try clear hcz2_1
    try clear hfz2_0
    try clear hfz2_1
    (try clear BK0)
    obtain ⟨x3_1, x12_1, x1000_1, Au1000, cu1000, rfl, rfl, HA, HK1, HRu1000, HCu1000, BK0, HK, HB⟩ := hrel
    cases gk with
    | zero => exact absurd HA.out (by simp [codec_cursor_num.l0])
    | succ k1 =>
      have H := HA.out
      clear HA
      simp only [codec_cursor_num.l0] at H
      by_cases c3 : x12_1 < (l0_0.length : Int)
      · rw [if_pos c3] at H
        have c3b0 : decide (x12_1 < (l0_0.length : Int)) = true := decide_eq_true c3
        clear c3
        by_cases c4 : 0 ≤ x12_1
        · rw [if_pos c4] at H
          have c4b0 : decide (0 ≤ x12_1) = true := decide_eq_true c4
          clear c4
          by_cases c5 : x12_1 < (l0_0.length : Int)
          · rw [if_pos c5] at H
            have c5b0 : decide (x12_1 < (l0_0.length : Int)) = true := decide_eq_true c5
            clear c5
            have HC6 := Aside0.mk H
            clear H
            have p147 : 0 ≤ (x12_1 : Int) := of_decide_eq_true (by first | (with_reducible assumption) | assumption)
            have q147 : x12_1 < (l0_0.length : Int) := of_decide_eq_true (by first | (with_reducible assumption) | assumption)
            obtain ⟨ad147, e147, hx147_0⟩ := Kd.at_int HR0_0.out x12_1 p147 q147
            cases e147
            replace hx147_0 := pw_cell_below HB.out hx147_0
            replace p147 := eq_true p147
            replace q147 := eq_true q147
            go_upto_region 6 with (fail)
            go_cut [44] (fun v44 wc => ∃ (kq : Nat) (x44_5 : Bool), v44 = .bool x44_5 ∧ Aside0 (codec_cursor_num.j1 kq x3_1 x12_1 (rd l0_0 x12_1) (IntKind.u64.wrap (Go.bits .and .u8 (rd l0_0 x12_1) 127)) l0_0 (l0_0.length : Int) x12_1 x44_5 x1000_1 a0_1 = some (r1, r2, r3)) ∧ Aside0 (kq ≤ k1) ∧ Aside0 (wc.heap[g]? = some (.cells #[(.slice Au1000 x1000_1.length cu1000), .int .i64 a0_1] 66 (0, 0))) ∧ Aside0 (KeepBut w wc g none) ∧ Aside0 (Below w0.heap.size w0 wc))
            case first =>
              have H := HC6.out
              clear HC6
              by_cases c7 : a0_1 = 0
              · rw [if_pos c7] at H
                have c7b0 : (a0_1 == 0) = true := beq_iff_eq.mpr c7
                have c7b1 : (a0_1 != 0) = false := bne_eq_false_iff_eq.mpr c7
                clear c7
                (first | rw [c7b0] | (simp only [i64_w, i32_w]; rw [c7b0]) | skip)
                by_cases c8 : x12_1 > 9
                · rw [if_pos c8] at H
                  have c8b0 : decide (9 < x12_1) = true := decide_eq_true c8
                  clear c8
                  have H' := Aside0.mk H
                  clear H
                  have hcz9_0 : wr.cell? ⟨g, 0, none⟩ = some (.slice Au1000 x1000_1.length cu1000) := (blk_cell BK0.out 0).trans rfl
                  have hcz9_1 : wr.cell? ⟨g, 1, none⟩ = some (.int .i64 a0_1) := (blk_cell BK0.out 1).trans rfl
                  have hfz9_0 := blk_frozen BK0.out 0
                  have hfz9_1 := blk_frozen BK0.out 1
                  go_wp2
                  go_meet
                  case rel => exact ⟨_, (true), (by first | rfl | (simp; done) | (simp [*]; done) | (simp only [i64_w]; done)), H', ⟨by have := HK1.out; first | omega | exact Nat.le_refl _⟩, ⟨by (with_reducible repeat (first | refine blk_drewN ?_ _ | refine blk_drew ?_ | refine blk_alloc ?_ _)); exact BK0.out⟩, ⟨by repeat (first | (with_reducible first | exact HK.out | apply KeepBut.set_ | apply keep_drewN | apply keep_drew | apply keep_alloc | refine keep_far ?_ GW0.out _) | exact HK.out)⟩, ⟨by repeat (first | (with_reducible first | exact HB.out | apply below_alloc | apply pw_below_drewN | apply below_drew1 | refine below_set ?_ GE0.out) | exact HB.out)⟩⟩
                · rw [if_neg c8] at H
                  have c8b0 : decide (9 < x12_1) = false := decide_eq_false c8
                  clear c8
                  by_cases c10 : x12_1 = 9
                  · rw [if_pos c10] at H
                    have c10b0 : (x12_1 == 9) = true := beq_iff_eq.mpr c10
                    have c10b1 : (x12_1 != 9) = false := bne_eq_false_iff_eq.mpr c10
                    clear c10
                    by_cases c11 : (IntKind.u64.wrap (Go.bits .and .u8 (rd l0_0 x12_1) 127)) > 1
                    · rw [if_pos c11] at H
                      have c11b0 : decide (1 < (IntKind.u64.wrap (Go.bits .and .u8 (rd l0_0 x12_1) 127))) = true := decide_eq_true c11
                      clear c11
                      have H' := Aside0.mk H
                      clear H
                      have hcz12_0 : wr.cell? ⟨g, 0, none⟩ = some (.slice Au1000 x1000_1.length cu1000) := (blk_cell BK0.out 0).trans rfl
                      have hcz12_1 : wr.cell? ⟨g, 1, none⟩ = some (.int .i64 a0_1) := (blk_cell BK0.out 1).trans rfl
                      have hfz12_0 := blk_frozen BK0.out 0
                      have hfz12_1 := blk_frozen BK0.out 1
                      go_wp2
                      go_meet
                      case rel => exact ⟨_, (true), (by first | rfl | (simp; done) | (simp [*]; done) | (simp only [i64_w]; done)), H', ⟨by have := HK1.out; first | omega | exact Nat.le_refl _⟩, ⟨by (with_reducible repeat (first | refine blk_drewN ?_ _ | refine blk_drew ?_ | refine blk_alloc ?_ _)); exact BK0.out⟩, ⟨by repeat (first | (with_reducible first | exact HK.out | apply KeepBut.set_ | apply keep_drewN | apply keep_drew | apply keep_alloc | refine keep_far ?_ GW0.out _) | exact HK.out)⟩, ⟨by repeat (first | (with_reducible first | exact HB.out | apply below_alloc | apply pw_below_drewN | apply below_drew1 | refine below_set ?_ GE0.out) | exact HB.out)⟩⟩
                    · rw [if_neg c11] at H
                      have c11b0 : decide (1 < (IntKind.u64.wrap (Go.bits .and .u8 (rd l0_0 x12_1) 127))) = false := decide_eq_false c11
                      clear c11
                      by_cases c13 : x12_1 > 0
                      · rw [if_pos c13] at H
                        have c13b0 : decide (0 < x12_1) = true := decide_eq_true c13
                        clear c13
                        have H' := Aside0.mk H
                        clear H
                        have hcz14_0 : wr.cell? ⟨g, 0, none⟩ = some (.slice Au1000 x1000_1.length cu1000) := (blk_cell BK0.out 0).trans rfl
                        have hcz14_1 : wr.cell? ⟨g, 1, none⟩ = some (.int .i64 a0_1) := (blk_cell BK0.out 1).trans rfl
                        have hfz14_0 := blk_frozen BK0.out 0
                        have hfz14_1 := blk_frozen BK0.out 1
                        go_wp2
                        go_meet
                        case rel => exact ⟨_, (((rd l0_0 x12_1) == 0)), (by first | rfl | (simp; done) | (simp [*]; done) | (simp only [i64_w]; done)), H', ⟨by have := HK1.out; first | omega | exact Nat.le_refl _⟩, ⟨by (with_reducible repeat (first | refine blk_drewN ?_ _ | refine blk_drew ?_ | refine blk_alloc ?_ _)); exact BK0.out⟩, ⟨by repeat (first | (with_reducible first | exact HK.out | apply KeepBut.set_ | apply keep_drewN | apply keep_drew | apply keep_alloc | refine keep_far ?_ GW0.out _) | exact HK.out)⟩, ⟨by repeat (first | (with_reducible first | exact HB.out | apply below_alloc | apply pw_below_drewN | apply below_drew1 | refine below_set ?_ GE0.out) | exact HB.out)⟩⟩
                      · rw [if_neg c13] at H
                        have c13b0 : decide (0 < x12_1) = false := decide_eq_false c13
                        clear c13
                        have H' := Aside0.mk H
                        clear H
                        have hcz15_0 : wr.cell? ⟨g, 0, none⟩ = some (.slice Au1000 x1000_1.length cu1000) := (blk_cell BK0.out 0).trans rfl
                        have hcz15_1 : wr.cell? ⟨g, 1, none⟩ = some (.int .i64 a0_1) := (blk_cell BK0.out 1).trans rfl
                        have hfz15_0 := blk_frozen BK0.out 0
                        have hfz15_1 := blk_frozen BK0.out 1
                        go_wp2
                        go_meet
                        case rel => exact ⟨_, (false), (by first | rfl | (simp; done) | (simp [*]; done) | (simp only [i64_w]; done)), H', ⟨by have := HK1.out; first | omega | exact Nat.le_refl _⟩, ⟨by (with_reducible repeat (first | refine blk_drewN ?_ _ | refine blk_drew ?_ | refine blk_alloc ?_ _)); exact BK0.out⟩, ⟨by repeat (first | (with_reducible first | exact HK.out | apply KeepBut.set_ | apply keep_drewN | apply keep_drew | apply keep_alloc | refine keep_far ?_ GW0.out _) | exact HK.out)⟩, ⟨by repeat (first | (with_reducible first | exact HB.out | apply below_alloc | apply pw_below_drewN | apply below_drew1 | refine below_set ?_ GE0.out) | exact HB.out)⟩⟩
                  · rw [if_neg c10] at H
                    have c10b0 : (x12_1 == 9) = false := beq_eq_false_iff_ne.mpr c10
                    have c10b1 : (x12_1 != 9) = true := bne_iff_ne.mpr c10
                    by_cases c16 : x12_1 > 0
                    · rw [if_pos c16] at H
                      have c16b0 : decide (0 < x12_1) = true := decide_eq_true c16
                      clear c16
                      have H' := Aside0.mk H
                      clear H
                      have hcz17_0 : wr.cell? ⟨g, 0, none⟩ = some (.slice Au1000 x1000_1.length cu1000) := (blk_cell BK0.out 0).trans rfl
                      have hcz17_1 : wr.cell? ⟨g, 1, none⟩ = some (.int .i64 a0_1) := (blk_cell BK0.out 1).trans rfl
                      have hfz17_0 := blk_frozen BK0.out 0
                      have hfz17_1 := blk_frozen BK0.out 1
                      go_wp2
                      go_meet
                      case rel => exact ⟨_, (((rd l0_0 x12_1) == 0)), (by first | rfl | (simp; done) | (simp [*]; done) | (simp only [i64_w]; done)), H', ⟨by have := HK1.out; first | omega | exact Nat.le_refl _⟩, ⟨by (with_reducible repeat (first | refine blk_drewN ?_ _ | refine blk_drew ?_ | refine blk_alloc ?_ _)); exact BK0.out⟩, ⟨by repeat (first | (with_reducible first | exact HK.out | apply KeepBut.set_ | apply keep_drewN | apply keep_drew | apply keep_alloc | refine keep_far ?_ GW0.out _) | exact HK.out)⟩, ⟨by repeat (first | (with_reducible first | exact HB.out | apply below_alloc | apply pw_below_drewN | apply below_drew1 | refine below_set ?_ GE0.out) | exact HB.out)⟩⟩
                    · rw [if_neg c16] at H
                      have c16b0 : decide (0 < x12_1) = false := decide_eq_false c16
                      clear c16
                      have H' := Aside0.mk H
                      clear H
                      have hcz18_0 : wr.cell? ⟨g, 0, none⟩ = some (.slice Au1000 x1000_1.length cu1000) := (blk_cell BK0.out 0).trans rfl
                      have hcz18_1 : wr.cell? ⟨g, 1, none⟩ = some (.int .i64 a0_1) := (blk_cell BK0.out 1).trans rfl
                      have hfz18_0 := blk_frozen BK0.out 0
                      have hfz18_1 := blk_frozen BK0.out 1
                      go_wp2
                      go_meet
                      case rel => exact ⟨_, (false), (by first | rfl | (simp; done) | (simp [*]; done) | (simp only [i64_w]; done)), H', ⟨by have := HK1.out; first | omega | exact Nat.le_refl _⟩, ⟨by (with_reducible repeat (first | refine blk_drewN ?_ _ | refine blk_drew ?_ | refine blk_alloc ?_ _)); exact BK0.out⟩, ⟨by repeat (first | (with_reducible first | exact HK.out | apply KeepBut.set_ | apply keep_drewN | apply keep_drew | apply keep_alloc | refine keep_far ?_ GW0.out _) | exact HK.out)⟩, ⟨by repeat (first | (with_reducible first | exact HB.out | apply below_alloc | apply pw_below_drewN | apply below_drew1 | refine below_set ?_ GE0.out) | exact HB.out)⟩⟩
              · rw [if_neg c7] at H
                have c7b0 : (a0_1 == 0) = false := beq_eq_false_iff_ne.mpr c7
                have c7b1 : (a0_1 != 0) = true := bne_iff_ne.mpr c7
                (first | rw [c7b0] | (simp only [i64_w, i32_w]; rw [c7b0]) | skip)
                have H' := Aside0.mk H
                clear H
                have hcz19_0 : wr.cell? ⟨g, 0, none⟩ = some (.slice Au1000 x1000_1.length cu1000) := (blk_cell BK0.out 0).trans rfl
                have hcz19_1 : wr.cell? ⟨g, 1, none⟩ = some (.int .i64 a0_1) := (blk_cell BK0.out 1).trans rfl
                have hfz19_0 := blk_frozen BK0.out 0
                have hfz19_1 := blk_frozen BK0.out 1
                go_wp2
                go_meet
                case rel => exact ⟨_, (true), (by first | rfl | (simp; done) | (simp [*]; done) | (simp only [i64_w]; done)), H', ⟨by have := HK1.out; first | omega | exact Nat.le_refl _⟩, ⟨by (with_reducible repeat (first | refine blk_drewN ?_ _ | refine blk_drew ?_ | refine blk_alloc ?_ _)); exact BK0.out⟩, ⟨by repeat (first | (with_reducible first | exact HK.out | apply KeepBut.set_ | apply keep_drewN | apply keep_drew | apply keep_alloc | refine keep_far ?_ GW0.out _) | exact HK.out)⟩, ⟨by repeat (first | (with_reducible first | exact HB.out | apply below_alloc | apply pw_below_drewN | apply below_drew1 | refine below_set ?_ GE0.out) | exact HB.out)⟩⟩
            case rest =>
              clear HC6
              try clear c1
              try clear p1
              try clear q1
              try clear hx1
              try clear p2
              try clear c3
              try clear c3b0
              try clear c4
              try clear c4b0
              try clear c5
              try clear c5b0
              try clear c7
              try clear c7b0
              try clear c7b1
              try clear c8
              try clear c8b0
              try clear c10
              try clear c10b0
              try clear c10b1
              try clear c11
              try clear c11b0
              try clear c13
              try clear c13b0
              try clear p14
              try clear q14
              try clear hx14
              try clear c16
              try clear c16b0
              try clear hcz12_0
              try clear hcz12_1
              try clear hcz14_0
              try clear hcz14_1
              try clear hcz15_0
              try clear hcz15_1
              try clear hcz17_0
              try clear hcz17_1
              try clear hcz18_0
              try clear hcz18_1
              try clear hcz19_0
              try clear hcz19_1
              try clear hcz2_0
              try clear hcz2_1
              try clear hcz9_0
              try clear hcz9_1
              try clear hfz12_0
              try clear hfz12_1
              try clear hfz14_0
              try clear hfz14_1
              try clear hfz15_0
              try clear hfz15_1
              try clear hfz17_0
              try clear hfz17_1
              try clear hfz18_0
              try clear hfz18_1
              try clear hfz19_0
              try clear hfz19_1
              try clear hfz2_0
              try clear hfz2_1
              try clear hfz9_0
              try clear hfz9_1
              try clear hx147_0
              try clear p147
              try clear p2
              try clear q147
              (try clear BK0)
              obtain ⟨kq, x44_5, rfl, HA, HJ5, BK0, HK, HB⟩ := hcut
              cases kq with
              | zero => exact absurd HA.out (by simp [codec_cursor_num.j1])
              | succ kj5 =>
                have H := HA.out
                clear HA
                simp only [codec_cursor_num.j1] at H
                by_cases c20 : x44_5 = true
                · subst c20
                  have H1 : ((codec_cursor_fail.f x1000_1 a0_1 6).bind fun bt148 => (some (0, bt148.1, bt148.2))) = some (r1, r2, r3) := by rw [if_pos rfl] at H; exact H
                  clear H
                  have H := H1
                  clear H1
                  replace H := Option.bind_eq_some_iff.mp H
                  obtain ⟨⟨t148, t149⟩, A210, H⟩ := H
                  replace H : (some (0, t148, t149)) = some (r1, r2, r3) := H
                  have A21 := Aside0.mk A210
                  clear A210
                  simp only [Option.some.injEq, Prod.mk.injEq] at H
                  obtain ⟨rfl, rfl, rfl⟩ := H
                  go_wp2_with (first | ((with_reducible refine gate_callee (f := 47) rfl ?_); refine goesL_ (some 66) rfl rfl Tryd.func47 (by kernel_rfl) rfl #[.pointer (some ⟨g, 0, none⟩), .int .i64 6] rfl (by (try simp only [List.map_toArray, List.map_cons, List.map_nil]); first | done | rfl | (simp only [List.length_drop, List.length_take]; rfl)) ?_; (with_reducible refine (codec_cursor_fail.calls g Au1000 cu1000 x1000_1 a0_1 6 t148 t149 w0 _ ?side1 ?side2 ?side3 ?side4 ?side5 A21.out).mono ?_); (case side1 => exact by repeat (first | (with_reducible first | exact HB.out | apply below_alloc | apply pw_below_drewN | apply below_drew1 | refine below_set ?_ GE0.out) | exact HB.out)); (case side2 => exact GE0.out); (case side3 => exact by (with_reducible repeat (first | refine blk_drewN ?_ _ | refine blk_drew ?_ | refine blk_alloc ?_ _)); exact BK0.out); (case side4 => exact HRu1000.out); (case side5 => exact HCu1000.out); rintro e w22 ⟨Ab148, cb148, rfl, hbk, hcrb148, hclb148, hb0, hkp⟩; refine ⟨_, rfl, ?_⟩; have n0_ := Aside0.mk (hbk); have n1_ := Aside0.mk (KeepBut.trans (by repeat (first | (with_reducible first | exact HK.out | apply KeepBut.set_ | apply keep_drewN | apply keep_drew | apply keep_alloc | refine keep_far ?_ GW0.out _) | exact HK.out)) hkp (.inl rfl)); have n2_ := Aside0.mk (hcrb148); have n3_ := Aside0.mk (hclb148); have n4_ := Aside0.mk (hb0); clear BK0; clear HK; clear HB; have BK0 := n0_; have HK := n1_; have HRb148 := n2_; have HCb148 := n3_; have HB := n4_; clear n0_ n1_ n2_ n3_ n4_; (try clear hb0); (try clear hkp); (try clear hbk); (try clear hcrb148); (try clear hclb148)))
                  go_ret
                  exact ⟨_, _, by first | rfl | (simp [errW_none, errW_some] <;> rfl) | (simp [*, errW_none, errW_some] <;> rfl), by (with_reducible repeat (first | refine blk_drewN ?_ _ | refine blk_drew ?_ | refine blk_alloc ?_ _)); exact BK0.out, HRb148.out, HCb148.out, by repeat (first | (with_reducible first | exact HB.out | apply below_alloc | apply pw_below_drewN | apply below_drew1 | refine below_set ?_ GE0.out) | exact HB.out), by repeat (first | (with_reducible first | exact HK.out | apply KeepBut.set_ | apply keep_drewN | apply keep_drew | apply keep_alloc | refine keep_far ?_ GW0.out _) | exact HK.out)⟩
                · replace c20 := Bool.eq_false_iff.mpr c20
                  subst c20
                  have H1 : (if 0 ≤ (wrap64 (7 * x12_1)) then (if (rd l0_0 x12_1) < 128 then (if 0 ≤ (wrap64 (x12_1 + 1)) then (if (wrap64 (x12_1 + 1)) ≤ (x1000_1.length : Int) then (some (Go.bits .or .u64 x3_1 (shl .u64 (IntKind.u64.wrap (Go.bits .and .u8 (rd l0_0 x12_1) 127)) (wrap64 (7 * x12_1))), x1000_1.drop ((wrap64 (x12_1 + 1)) : Int).toNat, a0_1)) else (none)) else (none)) else (codec_cursor_num.l0 kj5 (Go.bits .or .u64 x3_1 (shl .u64 (IntKind.u64.wrap (Go.bits .and .u8 (rd l0_0 x12_1) 127)) (wrap64 (7 * x12_1)))) l0_0 (l0_0.length : Int) (wrap64 (x12_1 + 1)) x1000_1 a0_1)) else (none)) = some (r1, r2, r3) := by rw [if_neg (show ¬ (false = true) by decide)] at H; exact H
                  clear H
                  have H := H1
                  clear H1
                  obtain ⟨ji23, hji23⟩ : ∃ j_ : Int, (wrap64 (7 * x12_1)) = j_ := ⟨_, rfl⟩
                  replace H : (if 0 ≤ (ji23) then (if (rd l0_0 x12_1) < 128 then (if 0 ≤ (wrap64 (x12_1 + 1)) then (if (wrap64 (x12_1 + 1)) ≤ (x1000_1.length : Int) then (some (Go.bits .or .u64 x3_1 (shl .u64 (IntKind.u64.wrap (Go.bits .and .u8 (rd l0_0 x12_1) 127)) (ji23)), x1000_1.drop ((wrap64 (x12_1 + 1)) : Int).toNat, a0_1)) else (none)) else (none)) else (codec_cursor_num.l0 kj5 (Go.bits .or .u64 x3_1 (shl .u64 (IntKind.u64.wrap (Go.bits .and .u8 (rd l0_0 x12_1) 127)) (ji23))) l0_0 (l0_0.length : Int) (wrap64 (x12_1 + 1)) x1000_1 a0_1)) else (none)) = some (r1, r2, r3) := by first | (rw [hji23] at H; exact H) | (simp only [hji23] at H ⊢; exact H)
                  have hji23w : (IntKind.i64.wrap (7 * x12_1)) = ji23 := (i64_w _).trans hji23
                  by_cases c24 : 0 ≤ (ji23)
                  · rw [if_pos c24] at H
                    have c24b0 := eq_true c24
                    have c24b1 : decide (0 ≤ (ji23)) = true := decide_eq_true c24
                    clear c24
                    obtain ⟨ji25, hji25⟩ : ∃ j_ : Int, (shl .u64 (IntKind.u64.wrap (Go.bits .and .u8 (rd l0_0 x12_1) 127)) (ji23)) = j_ := ⟨_, rfl⟩
                    replace H : (if (rd l0_0 x12_1) < 128 then (if 0 ≤ (wrap64 (x12_1 + 1)) then (if (wrap64 (x12_1 + 1)) ≤ (x1000_1.length : Int) then (some (Go.bits .or .u64 x3_1 (ji25), x1000_1.drop ((wrap64 (x12_1 + 1)) : Int).toNat, a0_1)) else (none)) else (none)) else (codec_cursor_num.l0 kj5 (Go.bits .or .u64 x3_1 (ji25)) l0_0 (l0_0.length : Int) (wrap64 (x12_1 + 1)) x1000_1 a0_1)) = some (r1, r2, r3) := by first | (rw [hji25] at H; exact H) | (simp only [hji25] at H ⊢; exact H)
                    have hji25_ : (IntKind.u64.wrap ((IntKind.u64.wrap (Go.bits .and .u8 (rd l0_0 x12_1) 127)) * 2 ^ min (ji23).toNat 64)) = ji25 := hji25
                    have hji25z : (ji23) ≤ 64 → (IntKind.u64.wrap ((IntKind.u64.wrap (Go.bits .and .u8 (rd l0_0 x12_1) 127)) * 2 ^ (ji23).toNat)) = ji25 := shl_small hji25
                    by_cases c26 : (rd l0_0 x12_1) < 128
                    · rw [if_pos c26] at H
                      have c26b0 : decide ((rd l0_0 x12_1) < 128) = true := decide_eq_true c26
                      clear c26
                      obtain ⟨ji27, hji27⟩ : ∃ j_ : Int, (wrap64 (x12_1 + 1)) = j_ := ⟨_, rfl⟩
                      replace H : (if 0 ≤ (ji27) then (if (ji27) ≤ (x1000_1.length : Int) then (some (Go.bits .or .u64 x3_1 (ji25), x1000_1.drop ((ji27) : Int).toNat, a0_1)) else (none)) else (none)) = some (r1, r2, r3) := by first | (rw [hji27] at H; exact H) | (simp only [hji27] at H ⊢; exact H)
                      have hji27w : (IntKind.i64.wrap (x12_1 + 1)) = ji27 := (i64_w _).trans hji27
                      by_cases c28 : 0 ≤ (ji27)
                      · rw [if_pos c28] at H
                        have c28b0 := eq_true c28
                        have c28b1 : decide (0 ≤ (ji27)) = true := decide_eq_true c28
                        clear c28
                        by_cases c29 : (ji27) ≤ (x1000_1.length : Int)
                        · rw [if_pos c29] at H
                          have c29b0 := eq_true c29
                          have c29b1 : decide ((ji27) ≤ (x1000_1.length : Int)) = true := decide_eq_true c29
                          clear c29
                          simp only [Option.some.injEq, Prod.mk.injEq] at H
                          obtain ⟨rfl, rfl, rfl⟩ := H
                          have hcz30_0 : wc.cell? ⟨g, 0, none⟩ = some (.slice Au1000 x1000_1.length cu1000) := (blk_cell BK0.out 0).trans rfl
                          have hcz30_1 : wc.cell? ⟨g, 1, none⟩ = some (.int .i64 a0_1) := (blk_cell BK0.out 1).trans rfl
                          have hfz30_0 := blk_frozen BK0.out 0
                          have hfz30_1 := blk_frozen BK0.out 1
                          obtain ⟨i031, hi031, _, hsz31, _⟩ := info_parts info5
                          obtain ⟨A31, hcut31, hA31, hC31⟩ := print_drop_of (P := Tryd.prog) (Value.int .u8) 0 24 5 .i64 Tryd.underlying24 hi031 hsz31 Au1000 cu1000 x1000_1 (ji27) (of_decide_eq_true (by first | (with_reducible assumption) | assumption)) (of_decide_eq_true (by first | (with_reducible assumption) | assumption)) HCu1000.out
                          have HR150 := Aside0.mk (Kd.C_of_reads (h1 := fun _ => rfl) (hA31 _ (Kd.reads_of_C HRu1000.out)))
                          have HC150 := Aside0.mk hC31
                          clear hA31 hC31 hi031 hsz31
                          go_wp2
                          go_ret
                          exact ⟨_, _, by first | rfl | (simp [errW_none, errW_some] <;> rfl) | (simp only [← hji23, ← hji25, ← hji27]; first | rfl | (simp [errW_none, errW_some] <;> rfl)) | (simp [*, errW_none, errW_some] <;> rfl), by (with_reducible repeat (first | refine blk_drewN ?_ _ | refine blk_drew ?_ | refine blk_alloc ?_ _)); refine blk_put (cs := #[.slice Au1000 x1000_1.length cu1000, .int .i64 a0_1]) ?_ 0 _ (by first | rfl | (simp only [List.length_drop, List.length_take]; rfl)); (with_reducible repeat (first | refine blk_drewN ?_ _ | refine blk_drew ?_ | refine blk_alloc ?_ _)); exact BK0.out, HR150.out, HC150.out, by repeat (first | (with_reducible first | exact HB.out | apply below_alloc | apply pw_below_drewN | apply below_drew1 | refine below_set ?_ GE0.out) | exact HB.out), by repeat (first | (with_reducible first | exact HK.out | apply KeepBut.set_ | apply keep_drewN | apply keep_drew | apply keep_alloc | refine keep_far ?_ GW0.out _) | exact HK.out)⟩
                        · rw [if_neg c29] at H
                          exact absurd H (by simp)
                      · rw [if_neg c28] at H
                        exact absurd H (by simp)
                    · rw [if_neg c26] at H
                      have c26b0 : decide ((rd l0_0 x12_1) < 128) = false := decide_eq_false c26
                      clear c26
                      have H' := Aside0.mk H
                      clear H
                      go_wp2
                      go_roundg kj5
                      case measure => have := HK1.out; have := HJ5.out; omega
                      case rel => exact ⟨(Go.bits .or .u64 x3_1 (ji25)), (wrap64 (x12_1 + 1)), (x1000_1), (Au1000), (cu1000), (by first | rfl | (simp; done) | (simp only [← hji25] <;> (first | rfl | simp)) | (simp [*]; done)), (by first | rfl | (simp; done) | (simp [*]; done) | (simp only [i64_w]; done)), H', ⟨by have := HK1.out; have := HJ5.out; omega⟩, ⟨HRu1000.out⟩, ⟨HCu1000.out⟩, ⟨by (with_reducible repeat (first | refine blk_drewN ?_ _ | refine blk_drew ?_ | refine blk_alloc ?_ _)); exact BK0.out⟩, ⟨by repeat (first | (with_reducible first | exact HK.out | apply KeepBut.set_ | apply keep_drewN | apply keep_drew | apply keep_alloc | refine keep_far ?_ GW0.out _) | exact HK.out)⟩, ⟨by repeat (first | (with_reducible first | exact HB.out | apply below_alloc | apply pw_below_drewN | apply below_drew1 | refine below_set ?_ GE0.out) | exact HB.out)⟩⟩
                  · rw [if_neg c24] at H
                    exact absurd H (by simp)
          · rw [if_neg c5] at H
            exact absurd H (by simp)
        · rw [if_neg c4] at H
          exact absurd H (by simp)
      · rw [if_neg c3] at H
        have c3b0 : decide (x12_1 < (l0_0.length : Int)) = false := decide_eq_false c3
        clear c3
        replace H := Option.bind_eq_some_iff.mp H
        obtain ⟨⟨t145, t146⟩, A320, H⟩ := H
        replace H : (some (0, t145, t146)) = some (r1, r2, r3) := H
        have A32 := Aside0.mk A320
        clear A320
        simp only [Option.some.injEq, Prod.mk.injEq] at H
        obtain ⟨rfl, rfl, rfl⟩ := H
        go_wp2_with (first | ((with_reducible refine gate_callee (f := 47) rfl ?_); refine goesL_ (some 66) rfl rfl Tryd.func47 (by kernel_rfl) rfl #[.pointer (some ⟨g, 0, none⟩), .int .i64 6] rfl (by (try simp only [List.map_toArray, List.map_cons, List.map_nil]); first | done | rfl | (simp only [List.length_drop, List.length_take]; rfl)) ?_; (with_reducible refine (codec_cursor_fail.calls g Au1000 cu1000 x1000_1 a0_1 6 t145 t146 w0 _ ?side1 ?side2 ?side3 ?side4 ?side5 A32.out).mono ?_); (case side1 => exact by repeat (first | (with_reducible first | exact HB.out | apply below_alloc | apply pw_below_drewN | apply below_drew1 | refine below_set ?_ GE0.out) | exact HB.out)); (case side2 => exact GE0.out); (case side3 => exact by (with_reducible repeat (first | refine blk_drewN ?_ _ | refine blk_drew ?_ | refine blk_alloc ?_ _)); exact BK0.out); (case side4 => exact HRu1000.out); (case side5 => exact HCu1000.out); rintro e w33 ⟨Ab145, cb145, rfl, hbk, hcrb145, hclb145, hb0, hkp⟩; refine ⟨_, rfl, ?_⟩; have n0_ := Aside0.mk (hbk); have n1_ := Aside0.mk (KeepBut.trans (by repeat (first | (with_reducible first | exact HK.out | apply KeepBut.set_ | apply keep_drewN | apply keep_drew | apply keep_alloc | refine keep_far ?_ GW0.out _) | exact HK.out)) hkp (.inl rfl)); have n2_ := Aside0.mk (hcrb145); have n3_ := Aside0.mk (hclb145); have n4_ := Aside0.mk (hb0); clear BK0; clear HK; clear HB; have BK0 := n0_; have HK := n1_; have HRb145 := n2_; have HCb145 := n3_; have HB := n4_; clear n0_ n1_ n2_ n3_ n4_; (try clear hb0); (try clear hkp); (try clear hbk); (try clear hcrb145); (try clear hclb145)))
        go_ret
        exact ⟨_, _, by first | rfl | (simp [errW_none, errW_some] <;> rfl) | (simp [*, errW_none, errW_some] <;> rfl), by (with_reducible repeat (first | refine blk_drewN ?_ _ | refine blk_drew ?_ | refine blk_alloc ?_ _)); exact BK0.out, HRb145.out, HCb145.out, by repeat (first | (with_reducible first | exact HB.out | apply below_alloc | apply pw_below_drewN | apply below_drew1 | refine below_set ?_ GE0.out) | exact HB.out), by repeat (first | (with_reducible first | exact HK.out | apply KeepBut.set_ | apply keep_drewN | apply keep_drew | apply keep_alloc | refine keep_far ?_ GW0.out _) | exact HK.out)⟩
def codec_cursor_rest.f (l0_0 : List Int) (a0_1 : Int) : Option (List Int) := if a0_1 = 0 then ((codec_own.f l0_0).bind fun t151 => (some t151)) else (some ([] : List Int))
set_option maxHeartbeats 8000000 in
set_option maxRecDepth 100000 in
theorem codec_cursor_rest.calls (g : Nat) (A0_0 : Option Addr) (c0_0 : Nat) (l0_0 : List Int) (a0_1 : Int) (r : List Int) (w : World) (hbx : w.heap[g]? = some (.cells #[.slice A0_0 l0_0.length c0_0, .int .i64 a0_1] 66 (0, 0))) (hr0_0 : Kd.C (Kd.int .u8) w A0_0 l0_0.length l0_0) (hc0_0 : l0_0.length ≤ c0_0) (h : codec_cursor_rest.f l0_0 a0_1 = some r) :
    Calls Tryd.prog 44 #[.pointer (some ⟨g, 0, none⟩)] w fun e w' => ∃ v0_ : Value, e = .returned (v0_) ∧ Kd.R (Kd.int .u8) 5 w' w.heap.size (fun _ => True) v0_ r ∧ Below w.heap.size w w' := by
  have HR0_0 := Aside0.mk hr0_0
  have HC0_0 := Aside0.mk hc0_0
  clear hr0_0 hc0_0
  have BK0 := Aside0.mk hbx
  clear hbx
  have HB := Aside0.mk (Below.refl w.heap.size w)
  have H : (if a0_1 = 0 then ((codec_own.f l0_0).bind fun t151 => (some t151)) else (some ([] : List Int))) = some r := h
  clear h
  by_cases c2 : a0_1 = 0
  · rw [if_pos c2] at H
    have c2b0 : (a0_1 == 0) = true := beq_iff_eq.mpr c2
    have c2b1 : (a0_1 != 0) = false := bne_eq_false_iff_eq.mpr c2
    clear c2
    replace H := Option.bind_eq_some_iff.mp H
    obtain ⟨t151, A30, H⟩ := H
    replace H : (some t151) = some r := H
    have A3 := Aside0.mk A30
    clear A30
    obtain rfl := Option.some.inj H
    have hcz4_0 : w.cell? ⟨g, 0, none⟩ = some (.slice A0_0 l0_0.length c0_0) := (blk_cell BK0.out 0).trans rfl
    have hcz4_1 : w.cell? ⟨g, 1, none⟩ = some (.int .i64 a0_1) := (blk_cell BK0.out 1).trans rfl
    have hfz4_0 := blk_frozen BK0.out 0
    have hfz4_1 := blk_frozen BK0.out 1
    go_enter Tryd.func44, Tryd.ntmps44
    go_wp2_with (first | ((with_reducible refine gate_callee (f := 42) rfl ?_); refine goesL_ (some 12) rfl rfl Tryd.func42 (by kernel_rfl) rfl #[.slice A0_0 l0_0.length c0_0] rfl (by (try simp only [List.map_toArray, List.map_cons, List.map_nil]); first | done | rfl | (simp only [List.length_drop, List.length_take]; rfl)) ?_; (with_reducible refine (codec_own.calls _ _ l0_0 t151 _ ?side1 ?side2 A3.out).mono ?_); (case side1 => repeat (first | exact HR0_0.out | (with_reducible refine Kd.C_alloc ?_ _) | (with_reducible refine Kd.C_drewN ?_ _) | (with_reducible refine Kd.C_drew ?_))); (case side2 => exact HC0_0.out); rintro e w5 ⟨v152, rfl, ho0, hb⟩; refine ⟨_, rfl, ?_⟩; have n0_ := Aside0.mk (Kd.R_lower ho0 (below_size (by repeat (first | (with_reducible first | exact HB.out | apply below_alloc | apply pw_below_drewN | apply below_drew1 | refine below_set ?_ GE0.out) | exact HB.out)))); have n1_ := Aside0.mk (blk_below (g := g) (o := .cells #[.slice A0_0 l0_0.length c0_0, .int .i64 a0_1] 66 (0, 0)) (by (with_reducible repeat (first | refine blk_drewN ?_ _ | refine blk_drew ?_ | refine blk_alloc ?_ _)); exact BK0.out) hb); have n2_ := Aside0.mk (below_step (by repeat (first | (with_reducible first | exact HB.out | apply below_alloc | apply pw_below_drewN | apply below_drew1 | refine below_set ?_ GE0.out) | exact HB.out)) hb); clear BK0; clear HB; have HO153 := n0_; have BK0 := n1_; have HB := n2_; clear n0_ n1_ n2_; (try clear hb); (try clear hb2); (try clear hk); (try clear hi); (try clear ho0)))
    go_ret
    exact ⟨_, by first | rfl | (simp [errW_none, errW_some] <;> rfl) | (simp [*, errW_none, errW_some] <;> rfl), by (with_reducible repeat (first | apply Kd.R_alloc | apply Kd.R_drewN | apply Kd.R_drew)); exact HO153.out, by repeat (first | (with_reducible first | exact HB.out | apply below_alloc | apply pw_below_drewN | apply below_drew1 | refine below_set ?_ GE0.out) | exact HB.out)⟩
  · rw [if_neg c2] at H
    have c2b0 : (a0_1 == 0) = false := beq_eq_false_iff_ne.mpr c2
    have c2b1 : (a0_1 != 0) = true := bne_iff_ne.mpr c2
    obtain rfl := Option.some.inj H
    have hcz6_0 : w.cell? ⟨g, 0, none⟩ = some (.slice A0_0 l0_0.length c0_0) := (blk_cell BK0.out 0).trans rfl
    have hcz6_1 : w.cell? ⟨g, 1, none⟩ = some (.int .i64 a0_1) := (blk_cell BK0.out 1).trans rfl
    have hfz6_0 := blk_frozen BK0.out 0
    have hfz6_1 := blk_frozen BK0.out 1
    go_enter Tryd.func44, Tryd.ntmps44
    go_wp2
    go_ret
    exact ⟨_, by first | rfl | (simp [errW_none, errW_some] <;> rfl) | (simp [*, errW_none, errW_some] <;> rfl), by first | exact Kd.R_nil _ _ _ _ _ | exact Kd.N_nil _ _ _ _ _ | exact Kd.V_nil _ _ _ _ _ | exact Kd.Q_nil _ _ _ _ _ | exact Kd.S_nil _ _ _ _ _, by repeat (first | (with_reducible first | exact HB.out | apply below_alloc | apply pw_below_drewN | apply below_drew1 | refine below_set ?_ GE0.out) | exact HB.out)⟩
end Go.Proofs.YtfpdipnaefomiaaDoor.Print
