-- What the claim uses alone (wip/slim.py). Lean checks it.
import Derived.Test.YtaddmogfeijjcaaZAb
import Derived.Test.YtaddmogfeijjcaaZPrint0
namespace Go.Proofs.Ytaddmogfeijjcaa.Print
open Go.RowKit Go.Proofs.YtaddmogfeijjcaaW.PrintWords Go.Proofs.YtaddmogfeijjcaaW.PrintLast Go.Proofs.YtaddmogfeijjcaaW.PrintMore
attribute [local go_sem] max2_mx min2_mn max_two min_two max_three min_three max_four min_four
set_option linter.unusedVariables false
set_option linter.unusedSimpArgs false
mutual
def ladingref14_sums.l0 : Nat → Int → List (S55) → Int → Int → Int → Int → Int → Int → Option (Int × Int × Int × Int × Bool)
 | 0, _, _, _, _, _, _, _, _ => none
 | k + 1, x1, x11, x12, x13, x226000, x226001, x226002, x226003 => if x13 < x12 then (if 0 ≤ x13 then (if x13 < (x11.length : Int) then (if ((rd_T55 x11 x13).f0) = x1 then (if ((rd_T55 x11 x13).f2) = 2 then (ladingref14_sums.j1 k x1 x11 x12 x13 x226000 (wrap64 (x226001 + ((rd_T55 x11 x13).f3))) x226002 x226003 ((rd_T55 x11 x13).f0) ((rd_T55 x11 x13).f1) ((rd_T55 x11 x13).f2) ((rd_T55 x11 x13).f3)) else (ladingref14_sums.j1 k x1 x11 x12 x13 x226000 x226001 x226002 x226003 ((rd_T55 x11 x13).f0) ((rd_T55 x11 x13).f1) ((rd_T55 x11 x13).f2) ((rd_T55 x11 x13).f3))) else (ladingref14_sums.l0 k x1 x11 x12 (wrap64 (x13 + 1)) x226000 x226001 x226002 x226003)) else (none)) else (none)) else (some (x226000, x226001, x226002, x226003, true))
def ladingref14_sums.j1 : Nat → Int → List (S55) → Int → Int → Int → Int → Int → Int → Int → Int → Int → Int → Option (Int × Int × Int × Int × Bool)
 | 0, _, _, _, _, _, _, _, _, _, _, _, _ => none
 | k + 1, x1, x11, x12, x13, x226000, x226001, x226002, x226003, x228000, x228001, x228002, x228003 => if x228001 = 2 then (ladingref14_sums.j2 k x1 x11 x12 x13 x226000 (wrap64 (x226001 - x228003)) x226002 x226003 x228000 x228001 x228002 x228003) else (ladingref14_sums.j2 k x1 x11 x12 x13 x226000 x226001 x226002 x226003 x228000 x228001 x228002 x228003)
def ladingref14_sums.j2 : Nat → Int → List (S55) → Int → Int → Int → Int → Int → Int → Int → Int → Int → Int → Option (Int × Int × Int × Int × Bool)
 | 0, _, _, _, _, _, _, _, _, _, _, _, _ => none
 | k + 1, x1, x11, x12, x13, x226000, x226001, x226002, x226003, x228000, x228001, x228002, x228003 => if x228002 = 3 then (ladingref14_sums.j3 k x1 x11 x12 x13 x226000 x226001 (wrap64 (x226002 + x228003)) x226003 x228000 x228001 x228002 x228003) else (ladingref14_sums.j3 k x1 x11 x12 x13 x226000 x226001 x226002 x226003 x228000 x228001 x228002 x228003)
def ladingref14_sums.j3 : Nat → Int → List (S55) → Int → Int → Int → Int → Int → Int → Int → Int → Int → Int → Option (Int × Int × Int × Int × Bool)
 | 0, _, _, _, _, _, _, _, _, _, _, _, _ => none
 | k + 1, x1, x11, x12, x13, x226000, x226001, x226002, x226003, x228000, x228001, x228002, x228003 => if x228001 = 3 then (if x226001 > 1152921504606846976 then (some (0, 0, 0, 0, false)) else (if x226001 < (-1152921504606846976) then (some (0, 0, 0, 0, false)) else (if x226002 > 1152921504606846976 then (some (0, 0, 0, 0, false)) else (if (wrap64 (x226003 + x228003)) > 1152921504606846976 then (some (0, 0, 0, 0, false)) else (ladingref14_sums.l0 k x1 x11 x12 (wrap64 (x13 + 1)) x226000 x226001 x226002 (wrap64 (x226003 + x228003))))))) else (if x226001 > 1152921504606846976 then (some (0, 0, 0, 0, false)) else (if x226001 < (-1152921504606846976) then (some (0, 0, 0, 0, false)) else (if x226002 > 1152921504606846976 then (some (0, 0, 0, 0, false)) else (if x226003 > 1152921504606846976 then (some (0, 0, 0, 0, false)) else (ladingref14_sums.l0 k x1 x11 x12 (wrap64 (x13 + 1)) x226000 x226001 x226002 x226003)))))
end
def ladingref14_sums.f (k : Nat) (l0 : List (S55)) (a1 : Int) : Option (Int × Int × Int × Int × Bool) := ladingref14_sums.l0 k a1 l0 (l0.length : Int) 0 a1 0 0 0
set_option maxHeartbeats 8000000 in
set_option maxRecDepth 100000 in
theorem ladingref14_sums.calls (k : Nat) (A0 : Option Addr) (c0 : Nat) (l0 : List (S55)) (a1 : Int) (r1 : Int) (r2 : Int) (r3 : Int) (r4 : Int) (r5 : Bool) (w : World) (hr0 : Kd.C k55 w A0 l0.length l0) (hc0 : l0.length ≤ c0) (h : ladingref14_sums.f k l0 a1 = some (r1, r2, r3, r4, r5)) :
  Calls Try.prog 46 #[.slice A0 l0.length c0, .int .i64 a1] w fun e w' => e = .returned (.tuple #[.agg #[.int .i64 r1, .int .i64 r2, .int .i64 r3, .int .i64 r4], .bool r5]) ∧ Below w.heap.size w w' := by
 have hu31 := Try.underlying31
 have hu55 := Try.underlying55
 have HR0 := Aside0.mk hr0
 have HC0 := Aside0.mk hc0
 clear hr0 hc0
 have HB := Aside0.mk (Below.refl w.heap.size w)
 have H : (ladingref14_sums.l0 k a1 l0 (l0.length : Int) 0 a1 0 0 0) = some (r1, r2, r3, r4, r5) := h
 clear h
 have H' := Aside0.mk H
 clear H
 go_enter Try.func46, Try.ntmps46
 go_wp2_with (first | ((with_reducible refine gate_dst (N := 4) rfl ?_); refine box_event ?hg (N := 4) ?hd (cs := #[.int .i64 0, .int .i64 0, .int .i64 0, .int .i64 0]) (t := 31) ?hr ?_; (case hd => rfl); (case hg => rfl); (case hr => first | (go_simp; done) | (go_simp; rfl)); intro gb224 hg w3 hbox hb; have n0_ := Aside0.mk (below_step (zh0_ HB.out) hb); have n1_ := Aside0.mk (hbox); have n2_ := Aside0.mk ((by rw [hg]; exact (below_size (zh0_ HB.out)) : w.heap.size ≤ gb224)); have n3_ := Aside0.mk ((by rw [hg]; exact (below_size (zh0_ HB.out)) : w.heap.size ≤ gb224)); clear HB; have HB := n0_; have BK224 := n1_; have GW224 := n2_; have GE224 := n3_; clear n0_ n1_ n2_ n3_; clear hb hbox hg) | ((with_reducible refine gate_dst (N := 6) rfl ?_); refine box_event ?hg (N := 6) ?hd (cs := #[.int .i64 0, .int .i64 0, .int .i64 0, .int .i64 0]) (t := 31) ?hr ?_; (case hd => rfl); (case hg => rfl); (case hr => first | (go_simp; done) | (go_simp; rfl)); intro gb225 hg w4 hbox hb; have n0_ := Aside0.mk (blk_below (zb_ BK224.out) hb); have n1_ := Aside0.mk (below_step (zh1_ HB.out GE224.out) hb); have n2_ := Aside0.mk (hbox); have n3_ := Aside0.mk ((by rw [hg]; exact (below_size (zh1_ HB.out GE224.out)) : w.heap.size ≤ gb225)); have n4_ := Aside0.mk ((by rw [hg]; exact (below_size (zh1_ HB.out GE224.out)) : w.heap.size ≤ gb225)); have n5_ := Aside0.mk ((by rw [hg]; exact Nat.ne_of_lt (blk_lt (zb_ BK224.out)) : gb224 ≠ gb225)); have n6_ := Aside0.mk ((by rw [hg]; exact Nat.ne_of_gt (blk_lt (zb_ BK224.out)) : gb225 ≠ gb224)); clear BK224; clear HB; have BK224 := n0_; have HB := n1_; have BK225 := n2_; have GW225 := n3_; have GE225 := n4_; have NB224_225 := n5_; have NB225_224 := n6_; clear n0_ n1_ n2_ n3_ n4_ n5_ n6_; clear hb hbox hg; have hnb5 := NB225_224.out; have hnc5 := NB224_225.out; obtain ⟨hcz6_0, hcz6_1, hcz6_2, hcz6_3⟩ := zc4 BK225.out; obtain ⟨hfz6_0, hfz6_1, hfz6_2, hfz6_3⟩ := zz4 BK225.out))
 go_loopg [13] k (fun kq v13 w' => ∃ (x13_1 : Int) (x225000_1 : Int) (x225001_1 : Int) (x225002_1 : Int) (x225003_1 : Int) (x226001_1 : Int) (x226002_1 : Int) (x226003_1 : Int), v13 = .int .i64 x13_1 ∧ Aside0 (ladingref14_sums.l0 kq a1 l0 (l0.length : Int) x13_1 a1 x226001_1 x226002_1 x226003_1 = some (r1, r2, r3, r4, r5)) ∧ Aside0 (kq ≤ k) ∧ Aside0 (w'.heap[gb224]? = some (.cells #[.int .i64 x225000_1, .int .i64 x225001_1, .int .i64 x225002_1, .int .i64 x225003_1] 31 (0, 0))) ∧ Aside0 (w'.heap[gb225]? = some (.cells #[.int .i64 a1, .int .i64 x226001_1, .int .i64 x226002_1, .int .i64 x226003_1] 31 (0, 0))) ∧ Aside0 (Below w.heap.size w w'))
 case atStart => exact ⟨(0), (0), (0), (0), (0), (0), (0), (0), (by first | rfl | (simp; done) | (simp [*]; done) | (simp only [i64_w]; done)), H', ⟨Nat.le_refl _⟩, ⟨by (with_reducible repeat (first | refine blk_drewN ?_ _ | refine blk_drew ?_ | refine blk_alloc ?_ _)); refine blk_far ?_ NB224_225.out _; (with_reducible repeat (first | refine blk_drewN ?_ _ | refine blk_drew ?_ | refine blk_alloc ?_ _)); refine blk_far ?_ NB224_225.out _; (with_reducible repeat (first | refine blk_drewN ?_ _ | refine blk_drew ?_ | refine blk_alloc ?_ _)); refine blk_far ?_ NB224_225.out _; (with_reducible repeat (first | refine blk_drewN ?_ _ | refine blk_drew ?_ | refine blk_alloc ?_ _)); refine blk_far ?_ NB224_225.out _; (with_reducible repeat (first | refine blk_drewN ?_ _ | refine blk_drew ?_ | refine blk_alloc ?_ _)); exact BK224.out⟩, ⟨by (with_reducible repeat (first | refine blk_drewN ?_ _ | refine blk_drew ?_ | refine blk_alloc ?_ _)); refine blk_put (cs := #[.int .i64 a1, .int .i64 0, .int .i64 0, .int .i64 0]) ?_ 3 _ rfl; (with_reducible repeat (first | refine blk_drewN ?_ _ | refine blk_drew ?_ | refine blk_alloc ?_ _)); refine blk_put (cs := #[.int .i64 a1, .int .i64 0, .int .i64 0, .int .i64 0]) ?_ 2 _ rfl; (with_reducible repeat (first | refine blk_drewN ?_ _ | refine blk_drew ?_ | refine blk_alloc ?_ _)); refine blk_put (cs := #[.int .i64 a1, .int .i64 0, .int .i64 0, .int .i64 0]) ?_ 1 _ rfl; (with_reducible repeat (first | refine blk_drewN ?_ _ | refine blk_drew ?_ | refine blk_alloc ?_ _)); refine blk_put (cs := #[.int .i64 0, .int .i64 0, .int .i64 0, .int .i64 0]) ?_ 0 _ rfl; (with_reducible repeat (first | refine blk_drewN ?_ _ | refine blk_drew ?_ | refine blk_alloc ?_ _)); exact BK225.out⟩, ⟨by exact zh2_ HB.out GE224.out GE225.out⟩⟩
 case round =>
  clear H'
  try clear p2
  try clear c4
  try clear c5
  try clear hcz6_0
  try clear hcz6_1
  try clear hcz6_2
  try clear hcz6_3
  try clear hfz6_0
  try clear hfz6_1
  try clear hfz6_2
  try clear hfz6_3
  obtain ⟨x13_1, x225000_1, x225001_1, x225002_1, x225003_1, x226001_1, x226002_1, x226003_1, rfl, HA, HK1, BK224, BK225, HB⟩ := hrel
  cases gk with
  | zero => exact absurd HA.out (by simp [ladingref14_sums.l0])
  | succ k1 =>
   have H := HA.out
   clear HA
   simp only [ladingref14_sums.l0] at H
   by_cases c7 : x13_1 < (l0.length : Int)
   ·rw [if_pos c7] at H
    have c7b0 : decide (x13_1 < (l0.length : Int)) = true := decide_eq_true c7
    clear c7
    by_cases c8 : 0 ≤ x13_1
    ·rw [if_pos c8] at H
     have c8b0 : decide (0 ≤ x13_1) = true := decide_eq_true c8
     clear c8
     by_cases c9 : x13_1 < (l0.length : Int)
     ·rw [if_pos c9] at H
      have c9b0 : decide (x13_1 < (l0.length : Int)) = true := decide_eq_true c9
      clear c9
      by_cases c10 : ((rd_T55 l0 x13_1).f0) = a1
      ·rw [if_pos c10] at H
       have c10b0 : (((rd_T55 l0 x13_1).f0) == a1) = true := beq_iff_eq.mpr c10
       have c10b1 : (((rd_T55 l0 x13_1).f0) != a1) = false := bne_eq_false_iff_eq.mpr c10
       clear c10
       have HC11 := Aside0.mk H
       clear H
       have p226 : 0 ≤ (x13_1 : Int) := of_decide_eq_true za_
       have q226 : x13_1 < (l0.length : Int) := of_decide_eq_true za_
       obtain ⟨ad226, e226, hx226_0, hx226_1, hx226_2, hx226_3⟩ := at_T55 HR0.out x13_1 p226 q226
       cases e226
       replace hx226_0 := zx_ HB.out hx226_0
       replace hx226_1 := zx_ HB.out hx226_1
       replace hx226_2 := zx_ HB.out hx226_2
       replace hx226_3 := zx_ HB.out hx226_3
       replace p226 := eq_true p226
       replace q226 := eq_true q226
       go_upto_if 23 with (first | ((with_reducible refine gate_dst (N := 8) rfl ?_); refine box_event ?hg (N := 8) ?hd (cs := #[.int .i64 0, .int .u8 0, .int .u8 0, .int .i64 0]) (t := 55) ?hr ?_; (case hd => rfl); (case hg => rfl); (case hr => first | (go_simp; done) | (go_simp; rfl)); intro gb227 hg w12 hbox hb; have n0_ := Aside0.mk (blk_below (zb_ BK224.out) hb); have n1_ := Aside0.mk (blk_below (zb_ BK225.out) hb); have n2_ := Aside0.mk (below_step (zh2_ HB.out GE224.out GE225.out) hb); have n3_ := Aside0.mk (hbox); have n4_ := Aside0.mk ((by rw [hg]; exact (below_size (zh2_ HB.out GE224.out GE225.out)) : w.heap.size ≤ gb227)); have n5_ := Aside0.mk ((by rw [hg]; exact (below_size (zh2_ HB.out GE224.out GE225.out)) : w.heap.size ≤ gb227)); have n6_ := Aside0.mk ((by rw [hg]; exact Nat.ne_of_lt (blk_lt (zb_ BK224.out)) : gb224 ≠ gb227)); have n7_ := Aside0.mk ((by rw [hg]; exact Nat.ne_of_gt (blk_lt (zb_ BK224.out)) : gb227 ≠ gb224)); have n8_ := Aside0.mk ((by rw [hg]; exact Nat.ne_of_lt (blk_lt (zb_ BK225.out)) : gb225 ≠ gb227)); have n9_ := Aside0.mk ((by rw [hg]; exact Nat.ne_of_gt (blk_lt (zb_ BK225.out)) : gb227 ≠ gb225)); clear BK224; clear BK225; clear HB; have BK224 := n0_; have BK225 := n1_; have HB := n2_; have BK227 := n3_; have GW227 := n4_; have GE227 := n5_; have NB224_227 := n6_; have NB227_224 := n7_; have NB225_227 := n8_; have NB227_225 := n9_; clear n0_ n1_ n2_ n3_ n4_ n5_ n6_ n7_ n8_ n9_; clear hb hbox hg; have hnb13 := NB227_224.out; have hnc13 := NB224_227.out; have hnb14 := NB227_225.out; have hnc14 := NB225_227.out; obtain ⟨hcz15_0, hcz15_1, hcz15_2, hcz15_3⟩ := zc4 BK227.out; obtain ⟨hfz15_0, hfz15_1, hfz15_2, hfz15_3⟩ := zz4 BK227.out))
       (try simp only [Act.put, zt0, zt1, zt2])
       go_cut [] (fun wc => ∃ (kq : Nat) (x226001_10 : Int), Aside0 (ladingref14_sums.j1 kq a1 l0 (l0.length : Int) x13_1 a1 x226001_10 x226002_1 x226003_1 ((rd_T55 l0 x13_1).f0) ((rd_T55 l0 x13_1).f1) ((rd_T55 l0 x13_1).f2) ((rd_T55 l0 x13_1).f3) = some (r1, r2, r3, r4, r5)) ∧ Aside0 (kq ≤ k1) ∧ Aside0 (wc.heap[gb224]? = some (.cells #[.int .i64 x225000_1, .int .i64 x225001_1, .int .i64 x225002_1, .int .i64 x225003_1] 31 (0, 0))) ∧ Aside0 (wc.heap[gb225]? = some (.cells #[.int .i64 a1, .int .i64 x226001_10, .int .i64 x226002_1, .int .i64 x226003_1] 31 (0, 0))) ∧ Aside0 (wc.heap[gb227]? = some (.cells #[.int .i64 ((rd_T55 l0 x13_1).f0), .int .u8 ((rd_T55 l0 x13_1).f1), .int .u8 ((rd_T55 l0 x13_1).f2), .int .i64 ((rd_T55 l0 x13_1).f3)] 55 (0, 0))) ∧ Aside0 (Below w.heap.size w wc))
       case first =>
        have H := HC11.out
        clear HC11
        by_cases c16 : ((rd_T55 l0 x13_1).f2) = 2
        ·rw [if_pos c16] at H
         have c16b0 : (((rd_T55 l0 x13_1).f2) == 2) = true := beq_iff_eq.mpr c16
         have c16b1 : (((rd_T55 l0 x13_1).f2) != 2) = false := bne_eq_false_iff_eq.mpr c16
         clear c16
         (first | rw [c16b0] | (simp only [i64_w, i32_w]; rw [c16b0]) | skip)
         have H' := Aside0.mk H
         clear H
         have hnb17 := NB225_224.out
         have hnc17 := NB224_225.out
         have hnb18 := NB225_227.out
         have hnc18 := NB227_225.out
         obtain ⟨hcz19_0, hcz19_1, hcz19_2, hcz19_3⟩ := zc4 BK225.out
         obtain ⟨hfz19_0, hfz19_1, hfz19_2, hfz19_3⟩ := zz4 BK225.out
         have hnb20 := NB227_224.out
         have hnc20 := NB224_227.out
         obtain ⟨hcz21_0, hcz21_1, hcz21_2, hcz21_3⟩ := zc4 BK227.out
         obtain ⟨hfz21_0, hfz21_1, hfz21_2, hfz21_3⟩ := zz4 BK227.out
         go_wp2
         go_meet
         case rel => exact ⟨_, (wrap64 (x226001_1 + ((rd_T55 l0 x13_1).f3))), H', ⟨by have := HK1.out; first | omega | exact Nat.le_refl _⟩, ⟨by (with_reducible repeat (first | refine blk_drewN ?_ _ | refine blk_drew ?_ | refine blk_alloc ?_ _)); refine blk_far ?_ NB224_225.out _; (with_reducible repeat (first | refine blk_drewN ?_ _ | refine blk_drew ?_ | refine blk_alloc ?_ _)); refine blk_far ?_ NB224_227.out _; (with_reducible repeat (first | refine blk_drewN ?_ _ | refine blk_drew ?_ | refine blk_alloc ?_ _)); refine blk_far ?_ NB224_227.out _; (with_reducible repeat (first | refine blk_drewN ?_ _ | refine blk_drew ?_ | refine blk_alloc ?_ _)); refine blk_far ?_ NB224_227.out _; (with_reducible repeat (first | refine blk_drewN ?_ _ | refine blk_drew ?_ | refine blk_alloc ?_ _)); refine blk_far ?_ NB224_227.out _; (with_reducible repeat (first | refine blk_drewN ?_ _ | refine blk_drew ?_ | refine blk_alloc ?_ _)); exact BK224.out⟩, ⟨by (with_reducible repeat (first | refine blk_drewN ?_ _ | refine blk_drew ?_ | refine blk_alloc ?_ _)); refine blk_put (cs := #[.int .i64 a1, .int .i64 x226001_1, .int .i64 x226002_1, .int .i64 x226003_1]) ?_ 1 _ rfl; (with_reducible repeat (first | refine blk_drewN ?_ _ | refine blk_drew ?_ | refine blk_alloc ?_ _)); refine blk_far ?_ NB225_227.out _; (with_reducible repeat (first | refine blk_drewN ?_ _ | refine blk_drew ?_ | refine blk_alloc ?_ _)); refine blk_far ?_ NB225_227.out _; (with_reducible repeat (first | refine blk_drewN ?_ _ | refine blk_drew ?_ | refine blk_alloc ?_ _)); refine blk_far ?_ NB225_227.out _; (with_reducible repeat (first | refine blk_drewN ?_ _ | refine blk_drew ?_ | refine blk_alloc ?_ _)); refine blk_far ?_ NB225_227.out _; (with_reducible repeat (first | refine blk_drewN ?_ _ | refine blk_drew ?_ | refine blk_alloc ?_ _)); exact BK225.out⟩, ⟨by (with_reducible repeat (first | refine blk_drewN ?_ _ | refine blk_drew ?_ | refine blk_alloc ?_ _)); refine blk_far ?_ NB227_225.out _; (with_reducible repeat (first | refine blk_drewN ?_ _ | refine blk_drew ?_ | refine blk_alloc ?_ _)); refine blk_put (cs := #[.int .i64 ((rd_T55 l0 x13_1).f0), .int .u8 ((rd_T55 l0 x13_1).f1), .int .u8 ((rd_T55 l0 x13_1).f2), .int .i64 0]) ?_ 3 _ rfl; (with_reducible repeat (first | refine blk_drewN ?_ _ | refine blk_drew ?_ | refine blk_alloc ?_ _)); refine blk_put (cs := #[.int .i64 ((rd_T55 l0 x13_1).f0), .int .u8 ((rd_T55 l0 x13_1).f1), .int .u8 0, .int .i64 0]) ?_ 2 _ rfl; (with_reducible repeat (first | refine blk_drewN ?_ _ | refine blk_drew ?_ | refine blk_alloc ?_ _)); refine blk_put (cs := #[.int .i64 ((rd_T55 l0 x13_1).f0), .int .u8 0, .int .u8 0, .int .i64 0]) ?_ 1 _ rfl; (with_reducible repeat (first | refine blk_drewN ?_ _ | refine blk_drew ?_ | refine blk_alloc ?_ _)); refine blk_put (cs := #[.int .i64 0, .int .u8 0, .int .u8 0, .int .i64 0]) ?_ 0 _ rfl; (with_reducible repeat (first | refine blk_drewN ?_ _ | refine blk_drew ?_ | refine blk_alloc ?_ _)); exact BK227.out⟩, ⟨by exact zh3_ HB.out GE224.out GE225.out GE227.out⟩⟩
        ·rw [if_neg c16] at H
         have c16b0 : (((rd_T55 l0 x13_1).f2) == 2) = false := beq_eq_false_iff_ne.mpr c16
         have c16b1 : (((rd_T55 l0 x13_1).f2) != 2) = true := bne_iff_ne.mpr c16
         (first | rw [c16b0] | (simp only [i64_w, i32_w]; rw [c16b0]) | skip)
         have H' := Aside0.mk H
         clear H
         go_wp2
         go_meet
         case rel => exact ⟨_, (x226001_1), H', ⟨by have := HK1.out; first | omega | exact Nat.le_refl _⟩, ⟨by (with_reducible repeat (first | refine blk_drewN ?_ _ | refine blk_drew ?_ | refine blk_alloc ?_ _)); refine blk_far ?_ NB224_227.out _; (with_reducible repeat (first | refine blk_drewN ?_ _ | refine blk_drew ?_ | refine blk_alloc ?_ _)); refine blk_far ?_ NB224_227.out _; (with_reducible repeat (first | refine blk_drewN ?_ _ | refine blk_drew ?_ | refine blk_alloc ?_ _)); refine blk_far ?_ NB224_227.out _; (with_reducible repeat (first | refine blk_drewN ?_ _ | refine blk_drew ?_ | refine blk_alloc ?_ _)); refine blk_far ?_ NB224_227.out _; (with_reducible repeat (first | refine blk_drewN ?_ _ | refine blk_drew ?_ | refine blk_alloc ?_ _)); exact BK224.out⟩, ⟨by (with_reducible repeat (first | refine blk_drewN ?_ _ | refine blk_drew ?_ | refine blk_alloc ?_ _)); refine blk_far ?_ NB225_227.out _; (with_reducible repeat (first | refine blk_drewN ?_ _ | refine blk_drew ?_ | refine blk_alloc ?_ _)); refine blk_far ?_ NB225_227.out _; (with_reducible repeat (first | refine blk_drewN ?_ _ | refine blk_drew ?_ | refine blk_alloc ?_ _)); refine blk_far ?_ NB225_227.out _; (with_reducible repeat (first | refine blk_drewN ?_ _ | refine blk_drew ?_ | refine blk_alloc ?_ _)); refine blk_far ?_ NB225_227.out _; (with_reducible repeat (first | refine blk_drewN ?_ _ | refine blk_drew ?_ | refine blk_alloc ?_ _)); exact BK225.out⟩, ⟨by (with_reducible repeat (first | refine blk_drewN ?_ _ | refine blk_drew ?_ | refine blk_alloc ?_ _)); refine blk_put (cs := #[.int .i64 ((rd_T55 l0 x13_1).f0), .int .u8 ((rd_T55 l0 x13_1).f1), .int .u8 ((rd_T55 l0 x13_1).f2), .int .i64 0]) ?_ 3 _ rfl; (with_reducible repeat (first | refine blk_drewN ?_ _ | refine blk_drew ?_ | refine blk_alloc ?_ _)); refine blk_put (cs := #[.int .i64 ((rd_T55 l0 x13_1).f0), .int .u8 ((rd_T55 l0 x13_1).f1), .int .u8 0, .int .i64 0]) ?_ 2 _ rfl; (with_reducible repeat (first | refine blk_drewN ?_ _ | refine blk_drew ?_ | refine blk_alloc ?_ _)); refine blk_put (cs := #[.int .i64 ((rd_T55 l0 x13_1).f0), .int .u8 0, .int .u8 0, .int .i64 0]) ?_ 1 _ rfl; (with_reducible repeat (first | refine blk_drewN ?_ _ | refine blk_drew ?_ | refine blk_alloc ?_ _)); refine blk_put (cs := #[.int .i64 0, .int .u8 0, .int .u8 0, .int .i64 0]) ?_ 0 _ rfl; (with_reducible repeat (first | refine blk_drewN ?_ _ | refine blk_drew ?_ | refine blk_alloc ?_ _)); exact BK227.out⟩, ⟨by exact zh3_ HB.out GE224.out GE225.out GE227.out⟩⟩
       case rest =>
        clear HC11
        try clear c1
        try clear c2
        try clear p2
        try clear q2
        try clear hx2
        try clear c4
        try clear c5
        try clear p6
        try clear c7
        try clear c7b0
        try clear c8
        try clear c8b0
        try clear c9
        try clear c9b0
        try clear c10
        try clear c10b0
        try clear c10b1
        try clear c13
        try clear c14
        try clear c16
        try clear c16b0
        try clear c16b1
        try clear c17
        try clear c18
        try clear c20
        try clear hcz15_0
        try clear hcz15_1
        try clear hcz15_2
        try clear hcz15_3
        try clear hcz19_0
        try clear hcz19_1
        try clear hcz19_2
        try clear hcz19_3
        try clear hcz21_0
        try clear hcz21_1
        try clear hcz21_2
        try clear hcz21_3
        try clear hcz6_0
        try clear hcz6_1
        try clear hcz6_2
        try clear hcz6_3
        try clear hfz15_0
        try clear hfz15_1
        try clear hfz15_2
        try clear hfz15_3
        try clear hfz19_0
        try clear hfz19_1
        try clear hfz19_2
        try clear hfz19_3
        try clear hfz21_0
        try clear hfz21_1
        try clear hfz21_2
        try clear hfz21_3
        try clear hfz6_0
        try clear hfz6_1
        try clear hfz6_2
        try clear hfz6_3
        try clear hx226_0
        try clear hx226_1
        try clear hx226_2
        try clear hx226_3
        try clear p2
        try clear p226
        try clear q226
        obtain ⟨kq, x226001_10, HA, HJ10, BK224, BK225, BK227, HB⟩ := hcut
        cases kq with
        | zero => exact absurd HA.out (by simp [ladingref14_sums.j1])
        | succ kj10 =>
         have H := HA.out
         clear HA
         simp only [ladingref14_sums.j1] at H
         have HC22 := Aside0.mk H
         clear H
         have hnb23 := NB227_224.out
         have hnc23 := NB224_227.out
         have hnb24 := NB227_225.out
         have hnc24 := NB225_227.out
         obtain ⟨hcz25_0, hcz25_1, hcz25_2, hcz25_3⟩ := zc4 BK227.out
         obtain ⟨hfz25_0, hfz25_1, hfz25_2, hfz25_3⟩ := zz4 BK227.out
         go_upto_if 32 with (fail)
         go_cut [] (fun wc => ∃ (kq : Nat) (x226001_21 : Int), Aside0 (ladingref14_sums.j2 kq a1 l0 (l0.length : Int) x13_1 a1 x226001_21 x226002_1 x226003_1 ((rd_T55 l0 x13_1).f0) ((rd_T55 l0 x13_1).f1) ((rd_T55 l0 x13_1).f2) ((rd_T55 l0 x13_1).f3) = some (r1, r2, r3, r4, r5)) ∧ Aside0 (kq ≤ kj10) ∧ Aside0 (wc.heap[gb224]? = some (.cells #[.int .i64 x225000_1, .int .i64 x225001_1, .int .i64 x225002_1, .int .i64 x225003_1] 31 (0, 0))) ∧ Aside0 (wc.heap[gb225]? = some (.cells #[.int .i64 a1, .int .i64 x226001_21, .int .i64 x226002_1, .int .i64 x226003_1] 31 (0, 0))) ∧ Aside0 (wc.heap[gb227]? = some (.cells #[.int .i64 ((rd_T55 l0 x13_1).f0), .int .u8 ((rd_T55 l0 x13_1).f1), .int .u8 ((rd_T55 l0 x13_1).f2), .int .i64 ((rd_T55 l0 x13_1).f3)] 55 (0, 0))) ∧ Aside0 (Below w.heap.size w wc))
         case first =>
          have H := HC22.out
          clear HC22
          by_cases c26 : ((rd_T55 l0 x13_1).f1) = 2
          ·rw [if_pos c26] at H
           have c26b0 : (((rd_T55 l0 x13_1).f1) == 2) = true := beq_iff_eq.mpr c26
           have c26b1 : (((rd_T55 l0 x13_1).f1) != 2) = false := bne_eq_false_iff_eq.mpr c26
           clear c26
           (first | rw [c26b0] | (simp only [i64_w, i32_w]; rw [c26b0]) | skip)
           have H' := Aside0.mk H
           clear H
           have hnb27 := NB225_224.out
           have hnc27 := NB224_225.out
           have hnb28 := NB225_227.out
           have hnc28 := NB227_225.out
           obtain ⟨hcz29_0, hcz29_1, hcz29_2, hcz29_3⟩ := zc4 BK225.out
           obtain ⟨hfz29_0, hfz29_1, hfz29_2, hfz29_3⟩ := zz4 BK225.out
           have hnb30 := NB227_224.out
           have hnc30 := NB224_227.out
           obtain ⟨hcz31_0, hcz31_1, hcz31_2, hcz31_3⟩ := zc4 BK227.out
           obtain ⟨hfz31_0, hfz31_1, hfz31_2, hfz31_3⟩ := zz4 BK227.out
           go_wp2
           go_meet
           case rel => exact ⟨_, (wrap64 (x226001_10 - ((rd_T55 l0 x13_1).f3))), H', ⟨by have := HK1.out; have := HJ10.out; first | omega | exact Nat.le_refl _⟩, ⟨by (with_reducible repeat (first | refine blk_drewN ?_ _ | refine blk_drew ?_ | refine blk_alloc ?_ _)); refine blk_far ?_ NB224_225.out _; (with_reducible repeat (first | refine blk_drewN ?_ _ | refine blk_drew ?_ | refine blk_alloc ?_ _)); exact BK224.out⟩, ⟨by (with_reducible repeat (first | refine blk_drewN ?_ _ | refine blk_drew ?_ | refine blk_alloc ?_ _)); refine blk_put (cs := #[.int .i64 a1, .int .i64 x226001_10, .int .i64 x226002_1, .int .i64 x226003_1]) ?_ 1 _ rfl; (with_reducible repeat (first | refine blk_drewN ?_ _ | refine blk_drew ?_ | refine blk_alloc ?_ _)); exact BK225.out⟩, ⟨by (with_reducible repeat (first | refine blk_drewN ?_ _ | refine blk_drew ?_ | refine blk_alloc ?_ _)); refine blk_far ?_ NB227_225.out _; (with_reducible repeat (first | refine blk_drewN ?_ _ | refine blk_drew ?_ | refine blk_alloc ?_ _)); exact BK227.out⟩, ⟨by exact zh3_ HB.out GE224.out GE225.out GE227.out⟩⟩
          ·rw [if_neg c26] at H
           have c26b0 : (((rd_T55 l0 x13_1).f1) == 2) = false := beq_eq_false_iff_ne.mpr c26
           have c26b1 : (((rd_T55 l0 x13_1).f1) != 2) = true := bne_iff_ne.mpr c26
           (first | rw [c26b0] | (simp only [i64_w, i32_w]; rw [c26b0]) | skip)
           have H' := Aside0.mk H
           clear H
           go_wp2
           go_meet
           case rel => exact ⟨_, (x226001_10), H', ⟨by have := HK1.out; have := HJ10.out; first | omega | exact Nat.le_refl _⟩, ⟨by (with_reducible repeat (first | refine blk_drewN ?_ _ | refine blk_drew ?_ | refine blk_alloc ?_ _)); exact BK224.out⟩, ⟨by (with_reducible repeat (first | refine blk_drewN ?_ _ | refine blk_drew ?_ | refine blk_alloc ?_ _)); exact BK225.out⟩, ⟨by (with_reducible repeat (first | refine blk_drewN ?_ _ | refine blk_drew ?_ | refine blk_alloc ?_ _)); exact BK227.out⟩, ⟨by exact zh3_ HB.out GE224.out GE225.out GE227.out⟩⟩
         case rest =>
          clear HC22
          try clear c1
          try clear c2
          try clear p2
          try clear q2
          try clear hx2
          try clear c3
          try clear c4
          try clear c5
          try clear p6
          try clear c7
          try clear c7b0
          try clear c8
          try clear c8b0
          try clear c9
          try clear c9b0
          try clear c10
          try clear c10b0
          try clear c10b1
          try clear c13
          try clear c14
          try clear c16
          try clear c16b0
          try clear c16b1
          try clear c17
          try clear c18
          try clear c20
          try clear p22
          try clear q22
          try clear hx22
          try clear c23
          try clear c24
          try clear c26
          try clear c26b0
          try clear c26b1
          try clear c27
          try clear c28
          try clear c30
          try clear hcz15_0
          try clear hcz15_1
          try clear hcz15_2
          try clear hcz15_3
          try clear hcz19_0
          try clear hcz19_1
          try clear hcz19_2
          try clear hcz19_3
          try clear hcz21_0
          try clear hcz21_1
          try clear hcz21_2
          try clear hcz21_3
          try clear hcz25_0
          try clear hcz25_1
          try clear hcz25_2
          try clear hcz25_3
          try clear hcz29_0
          try clear hcz29_1
          try clear hcz29_2
          try clear hcz29_3
          try clear hcz31_0
          try clear hcz31_1
          try clear hcz31_2
          try clear hcz31_3
          try clear hcz6_0
          try clear hcz6_1
          try clear hcz6_2
          try clear hcz6_3
          try clear hfz15_0
          try clear hfz15_1
          try clear hfz15_2
          try clear hfz15_3
          try clear hfz19_0
          try clear hfz19_1
          try clear hfz19_2
          try clear hfz19_3
          try clear hfz21_0
          try clear hfz21_1
          try clear hfz21_2
          try clear hfz21_3
          try clear hfz25_0
          try clear hfz25_1
          try clear hfz25_2
          try clear hfz25_3
          try clear hfz29_0
          try clear hfz29_1
          try clear hfz29_2
          try clear hfz29_3
          try clear hfz31_0
          try clear hfz31_1
          try clear hfz31_2
          try clear hfz31_3
          try clear hfz6_0
          try clear hfz6_1
          try clear hfz6_2
          try clear hfz6_3
          try clear hx226_0
          try clear hx226_1
          try clear hx226_2
          try clear hx226_3
          try clear p2
          try clear p226
          try clear p6
          try clear q2
          try clear q226
          obtain ⟨kq, x226001_21, HA, HJ21, BK224, BK225, BK227, HB⟩ := hcut
          cases kq with
          | zero => exact absurd HA.out (by simp [ladingref14_sums.j2])
          | succ kj21 =>
           have H := HA.out
           clear HA
           simp only [ladingref14_sums.j2] at H
           have HC32 := Aside0.mk H
           clear H
           have hnb33 := NB227_224.out
           have hnc33 := NB224_227.out
           have hnb34 := NB227_225.out
           have hnc34 := NB225_227.out
           obtain ⟨hcz35_0, hcz35_1, hcz35_2, hcz35_3⟩ := zc4 BK227.out
           obtain ⟨hfz35_0, hfz35_1, hfz35_2, hfz35_3⟩ := zz4 BK227.out
           go_upto_if 41 with (fail)
           go_cut [] (fun wc => ∃ (kq : Nat) (x226002_31 : Int), Aside0 (ladingref14_sums.j3 kq a1 l0 (l0.length : Int) x13_1 a1 x226001_21 x226002_31 x226003_1 ((rd_T55 l0 x13_1).f0) ((rd_T55 l0 x13_1).f1) ((rd_T55 l0 x13_1).f2) ((rd_T55 l0 x13_1).f3) = some (r1, r2, r3, r4, r5)) ∧ Aside0 (kq ≤ kj21) ∧ Aside0 (wc.heap[gb224]? = some (.cells #[.int .i64 x225000_1, .int .i64 x225001_1, .int .i64 x225002_1, .int .i64 x225003_1] 31 (0, 0))) ∧ Aside0 (wc.heap[gb225]? = some (.cells #[.int .i64 a1, .int .i64 x226001_21, .int .i64 x226002_31, .int .i64 x226003_1] 31 (0, 0))) ∧ Aside0 (wc.heap[gb227]? = some (.cells #[.int .i64 ((rd_T55 l0 x13_1).f0), .int .u8 ((rd_T55 l0 x13_1).f1), .int .u8 ((rd_T55 l0 x13_1).f2), .int .i64 ((rd_T55 l0 x13_1).f3)] 55 (0, 0))) ∧ Aside0 (Below w.heap.size w wc))
           case first =>
            have H := HC32.out
            clear HC32
            by_cases c36 : ((rd_T55 l0 x13_1).f2) = 3
            ·rw [if_pos c36] at H
             have c36b0 : (((rd_T55 l0 x13_1).f2) == 3) = true := beq_iff_eq.mpr c36
             have c36b1 : (((rd_T55 l0 x13_1).f2) != 3) = false := bne_eq_false_iff_eq.mpr c36
             clear c36
             (first | rw [c36b0] | (simp only [i64_w, i32_w]; rw [c36b0]) | skip)
             have H' := Aside0.mk H
             clear H
             have hnb37 := NB225_224.out
             have hnc37 := NB224_225.out
             have hnb38 := NB225_227.out
             have hnc38 := NB227_225.out
             obtain ⟨hcz39_0, hcz39_1, hcz39_2, hcz39_3⟩ := zc4 BK225.out
             obtain ⟨hfz39_0, hfz39_1, hfz39_2, hfz39_3⟩ := zz4 BK225.out
             have hnb40 := NB227_224.out
             have hnc40 := NB224_227.out
             obtain ⟨hcz41_0, hcz41_1, hcz41_2, hcz41_3⟩ := zc4 BK227.out
             obtain ⟨hfz41_0, hfz41_1, hfz41_2, hfz41_3⟩ := zz4 BK227.out
             go_wp2
             go_meet
             case rel => exact ⟨_, (wrap64 (x226002_1 + ((rd_T55 l0 x13_1).f3))), H', ⟨by have := HK1.out; have := HJ10.out; have := HJ21.out; first | omega | exact Nat.le_refl _⟩, ⟨by (with_reducible repeat (first | refine blk_drewN ?_ _ | refine blk_drew ?_ | refine blk_alloc ?_ _)); refine blk_far ?_ NB224_225.out _; (with_reducible repeat (first | refine blk_drewN ?_ _ | refine blk_drew ?_ | refine blk_alloc ?_ _)); exact BK224.out⟩, ⟨by (with_reducible repeat (first | refine blk_drewN ?_ _ | refine blk_drew ?_ | refine blk_alloc ?_ _)); refine blk_put (cs := #[.int .i64 a1, .int .i64 x226001_21, .int .i64 x226002_1, .int .i64 x226003_1]) ?_ 2 _ rfl; (with_reducible repeat (first | refine blk_drewN ?_ _ | refine blk_drew ?_ | refine blk_alloc ?_ _)); exact BK225.out⟩, ⟨by (with_reducible repeat (first | refine blk_drewN ?_ _ | refine blk_drew ?_ | refine blk_alloc ?_ _)); refine blk_far ?_ NB227_225.out _; (with_reducible repeat (first | refine blk_drewN ?_ _ | refine blk_drew ?_ | refine blk_alloc ?_ _)); exact BK227.out⟩, ⟨by exact zh3_ HB.out GE224.out GE225.out GE227.out⟩⟩
            ·rw [if_neg c36] at H
             have c36b0 : (((rd_T55 l0 x13_1).f2) == 3) = false := beq_eq_false_iff_ne.mpr c36
             have c36b1 : (((rd_T55 l0 x13_1).f2) != 3) = true := bne_iff_ne.mpr c36
             (first | rw [c36b0] | (simp only [i64_w, i32_w]; rw [c36b0]) | skip)
             have H' := Aside0.mk H
             clear H
             go_wp2
             go_meet
             case rel => exact ⟨_, (x226002_1), H', ⟨by have := HK1.out; have := HJ10.out; have := HJ21.out; first | omega | exact Nat.le_refl _⟩, ⟨by (with_reducible repeat (first | refine blk_drewN ?_ _ | refine blk_drew ?_ | refine blk_alloc ?_ _)); exact BK224.out⟩, ⟨by (with_reducible repeat (first | refine blk_drewN ?_ _ | refine blk_drew ?_ | refine blk_alloc ?_ _)); exact BK225.out⟩, ⟨by (with_reducible repeat (first | refine blk_drewN ?_ _ | refine blk_drew ?_ | refine blk_alloc ?_ _)); exact BK227.out⟩, ⟨by exact zh3_ HB.out GE224.out GE225.out GE227.out⟩⟩
           case rest =>
            clear HC32
            try clear c1
            try clear c2
            try clear p2
            try clear q2
            try clear hx2
            try clear c3
            try clear c4
            try clear c5
            try clear p6
            try clear c7
            try clear c7b0
            try clear c8
            try clear c8b0
            try clear c9
            try clear c9b0
            try clear c10
            try clear c10b0
            try clear c10b1
            try clear c13
            try clear c14
            try clear c16
            try clear c16b0
            try clear c16b1
            try clear c17
            try clear c18
            try clear c20
            try clear p22
            try clear q22
            try clear hx22
            try clear c23
            try clear c24
            try clear c26
            try clear c26b0
            try clear c26b1
            try clear c27
            try clear c28
            try clear c30
            try clear c33
            try clear c34
            try clear c36
            try clear c36b0
            try clear c36b1
            try clear c37
            try clear c38
            try clear c40
            try clear hcz15_0
            try clear hcz15_1
            try clear hcz15_2
            try clear hcz15_3
            try clear hcz19_0
            try clear hcz19_1
            try clear hcz19_2
            try clear hcz19_3
            try clear hcz21_0
            try clear hcz21_1
            try clear hcz21_2
            try clear hcz21_3
            try clear hcz25_0
            try clear hcz25_1
            try clear hcz25_2
            try clear hcz25_3
            try clear hcz29_0
            try clear hcz29_1
            try clear hcz29_2
            try clear hcz29_3
            try clear hcz31_0
            try clear hcz31_1
            try clear hcz31_2
            try clear hcz31_3
            try clear hcz35_0
            try clear hcz35_1
            try clear hcz35_2
            try clear hcz35_3
            try clear hcz39_0
            try clear hcz39_1
            try clear hcz39_2
            try clear hcz39_3
            try clear hcz41_0
            try clear hcz41_1
            try clear hcz41_2
            try clear hcz41_3
            try clear hcz6_0
            try clear hcz6_1
            try clear hcz6_2
            try clear hcz6_3
            try clear hfz15_0
            try clear hfz15_1
            try clear hfz15_2
            try clear hfz15_3
            try clear hfz19_0
            try clear hfz19_1
            try clear hfz19_2
            try clear hfz19_3
            try clear hfz21_0
            try clear hfz21_1
            try clear hfz21_2
            try clear hfz21_3
            try clear hfz25_0
            try clear hfz25_1
            try clear hfz25_2
            try clear hfz25_3
            try clear hfz29_0
            try clear hfz29_1
            try clear hfz29_2
            try clear hfz29_3
            try clear hfz31_0
            try clear hfz31_1
            try clear hfz31_2
            try clear hfz31_3
            try clear hfz35_0
            try clear hfz35_1
            try clear hfz35_2
            try clear hfz35_3
            try clear hfz39_0
            try clear hfz39_1
            try clear hfz39_2
            try clear hfz39_3
            try clear hfz41_0
            try clear hfz41_1
            try clear hfz41_2
            try clear hfz41_3
            try clear hfz6_0
            try clear hfz6_1
            try clear hfz6_2
            try clear hfz6_3
            try clear hx226_0
            try clear hx226_1
            try clear hx226_2
            try clear hx226_3
            try clear p2
            try clear p22
            try clear p226
            try clear p6
            try clear q2
            try clear q22
            try clear q226
            obtain ⟨kq, x226002_31, HA, HJ31, BK224, BK225, BK227, HB⟩ := hcut
            cases kq with
            | zero => exact absurd HA.out (by simp [ladingref14_sums.j3])
            | succ kj31 =>
             have H := HA.out
             clear HA
             simp only [ladingref14_sums.j3] at H
             by_cases c42 : ((rd_T55 l0 x13_1).f1) = 3
             ·rw [if_pos c42] at H
              have c42b0 : (((rd_T55 l0 x13_1).f1) == 3) = true := beq_iff_eq.mpr c42
              have c42b1 : (((rd_T55 l0 x13_1).f1) != 3) = false := bne_eq_false_iff_eq.mpr c42
              clear c42
              by_cases c43 : x226001_21 > 1152921504606846976
              ·rw [if_pos c43] at H
               have c43b0 : decide (1152921504606846976 < x226001_21) = true := decide_eq_true c43
               clear c43
               simp only [Option.some.injEq, Prod.mk.injEq] at H
               obtain ⟨rfl, rfl, rfl, rfl, rfl⟩ := H
               have hnb44 := NB227_224.out
               have hnc44 := NB224_227.out
               have hnb45 := NB227_225.out
               have hnc45 := NB225_227.out
               obtain ⟨hcz46_0, hcz46_1, hcz46_2, hcz46_3⟩ := zc4 BK227.out
               obtain ⟨hfz46_0, hfz46_1, hfz46_2, hfz46_3⟩ := zz4 BK227.out
               have hnb47 := NB225_224.out
               have hnc47 := NB224_225.out
               obtain ⟨hcz48_0, hcz48_1, hcz48_2, hcz48_3⟩ := zc4 BK225.out
               obtain ⟨hfz48_0, hfz48_1, hfz48_2, hfz48_3⟩ := zz4 BK225.out
               obtain ⟨hcz49_0, hcz49_1, hcz49_2, hcz49_3⟩ := zc4 BK224.out
               obtain ⟨hfz49_0, hfz49_1, hfz49_2, hfz49_3⟩ := zz4 BK224.out
               go_wp2
               refine bodyPost_ret (results_ct rfl _ _ gb224 31 #[.int .i64 0, .int .i64 0, .int .i64 0, .int .i64 0] (0, 0) _ rfl (by (with_reducible repeat (first | refine blk_drewN ?_ _ | refine blk_drew ?_ | refine blk_alloc ?_ _)); refine blk_put (cs := #[.int .i64 0, .int .i64 0, .int .i64 0, .int .i64 x225003_1]) ?_ 3 _ rfl; (with_reducible repeat (first | refine blk_drewN ?_ _ | refine blk_drew ?_ | refine blk_alloc ?_ _)); refine blk_put (cs := #[.int .i64 0, .int .i64 0, .int .i64 x225002_1, .int .i64 x225003_1]) ?_ 2 _ rfl; (with_reducible repeat (first | refine blk_drewN ?_ _ | refine blk_drew ?_ | refine blk_alloc ?_ _)); refine blk_put (cs := #[.int .i64 0, .int .i64 x225001_1, .int .i64 x225002_1, .int .i64 x225003_1]) ?_ 1 _ rfl; (with_reducible repeat (first | refine blk_drewN ?_ _ | refine blk_drew ?_ | refine blk_alloc ?_ _)); refine blk_put (cs := #[.int .i64 x225000_1, .int .i64 x225001_1, .int .i64 x225002_1, .int .i64 x225003_1]) ?_ 0 _ rfl; (with_reducible repeat (first | refine blk_drewN ?_ _ | refine blk_drew ?_ | refine blk_alloc ?_ _)); refine blk_far ?_ NB224_225.out _; (with_reducible repeat (first | refine blk_drewN ?_ _ | refine blk_drew ?_ | refine blk_alloc ?_ _)); exact BK224.out) Try.underlying31 rfl (by kernel_rfl)) rfl ?_
               exact ⟨by first | rfl | (simp [errW_none, errW_some] <;> rfl) | (simp [*, errW_none, errW_some] <;> rfl), by exact zh3_ HB.out GE224.out GE225.out GE227.out⟩
              ·rw [if_neg c43] at H
               have c43b0 : decide (1152921504606846976 < x226001_21) = false := decide_eq_false c43
               clear c43
               by_cases c50 : x226001_21 < (-1152921504606846976)
               ·rw [if_pos c50] at H
                have c50b0 : decide (x226001_21 < (-1152921504606846976)) = true := decide_eq_true c50
                clear c50
                simp only [Option.some.injEq, Prod.mk.injEq] at H
                obtain ⟨rfl, rfl, rfl, rfl, rfl⟩ := H
                have hnb51 := NB227_224.out
                have hnc51 := NB224_227.out
                have hnb52 := NB227_225.out
                have hnc52 := NB225_227.out
                obtain ⟨hcz53_0, hcz53_1, hcz53_2, hcz53_3⟩ := zc4 BK227.out
                obtain ⟨hfz53_0, hfz53_1, hfz53_2, hfz53_3⟩ := zz4 BK227.out
                have hnb54 := NB225_224.out
                have hnc54 := NB224_225.out
                obtain ⟨hcz55_0, hcz55_1, hcz55_2, hcz55_3⟩ := zc4 BK225.out
                obtain ⟨hfz55_0, hfz55_1, hfz55_2, hfz55_3⟩ := zz4 BK225.out
                obtain ⟨hcz56_0, hcz56_1, hcz56_2, hcz56_3⟩ := zc4 BK224.out
                obtain ⟨hfz56_0, hfz56_1, hfz56_2, hfz56_3⟩ := zz4 BK224.out
                go_wp2
                refine bodyPost_ret (results_ct rfl _ _ gb224 31 #[.int .i64 0, .int .i64 0, .int .i64 0, .int .i64 0] (0, 0) _ rfl (by (with_reducible repeat (first | refine blk_drewN ?_ _ | refine blk_drew ?_ | refine blk_alloc ?_ _)); refine blk_put (cs := #[.int .i64 0, .int .i64 0, .int .i64 0, .int .i64 x225003_1]) ?_ 3 _ rfl; (with_reducible repeat (first | refine blk_drewN ?_ _ | refine blk_drew ?_ | refine blk_alloc ?_ _)); refine blk_put (cs := #[.int .i64 0, .int .i64 0, .int .i64 x225002_1, .int .i64 x225003_1]) ?_ 2 _ rfl; (with_reducible repeat (first | refine blk_drewN ?_ _ | refine blk_drew ?_ | refine blk_alloc ?_ _)); refine blk_put (cs := #[.int .i64 0, .int .i64 x225001_1, .int .i64 x225002_1, .int .i64 x225003_1]) ?_ 1 _ rfl; (with_reducible repeat (first | refine blk_drewN ?_ _ | refine blk_drew ?_ | refine blk_alloc ?_ _)); refine blk_put (cs := #[.int .i64 x225000_1, .int .i64 x225001_1, .int .i64 x225002_1, .int .i64 x225003_1]) ?_ 0 _ rfl; (with_reducible repeat (first | refine blk_drewN ?_ _ | refine blk_drew ?_ | refine blk_alloc ?_ _)); refine blk_far ?_ NB224_225.out _; (with_reducible repeat (first | refine blk_drewN ?_ _ | refine blk_drew ?_ | refine blk_alloc ?_ _)); exact BK224.out) Try.underlying31 rfl (by kernel_rfl)) rfl ?_
                exact ⟨by first | rfl | (simp [errW_none, errW_some] <;> rfl) | (simp [*, errW_none, errW_some] <;> rfl), by exact zh3_ HB.out GE224.out GE225.out GE227.out⟩
               ·rw [if_neg c50] at H
                have c50b0 : decide (x226001_21 < (-1152921504606846976)) = false := decide_eq_false c50
                clear c50
                by_cases c57 : x226002_31 > 1152921504606846976
                ·rw [if_pos c57] at H
                 have c57b0 : decide (1152921504606846976 < x226002_31) = true := decide_eq_true c57
                 clear c57
                 simp only [Option.some.injEq, Prod.mk.injEq] at H
                 obtain ⟨rfl, rfl, rfl, rfl, rfl⟩ := H
                 have hnb58 := NB227_224.out
                 have hnc58 := NB224_227.out
                 have hnb59 := NB227_225.out
                 have hnc59 := NB225_227.out
                 obtain ⟨hcz60_0, hcz60_1, hcz60_2, hcz60_3⟩ := zc4 BK227.out
                 obtain ⟨hfz60_0, hfz60_1, hfz60_2, hfz60_3⟩ := zz4 BK227.out
                 have hnb61 := NB225_224.out
                 have hnc61 := NB224_225.out
                 obtain ⟨hcz62_0, hcz62_1, hcz62_2, hcz62_3⟩ := zc4 BK225.out
                 obtain ⟨hfz62_0, hfz62_1, hfz62_2, hfz62_3⟩ := zz4 BK225.out
                 obtain ⟨hcz63_0, hcz63_1, hcz63_2, hcz63_3⟩ := zc4 BK224.out
                 obtain ⟨hfz63_0, hfz63_1, hfz63_2, hfz63_3⟩ := zz4 BK224.out
                 go_wp2
                 refine bodyPost_ret (results_ct rfl _ _ gb224 31 #[.int .i64 0, .int .i64 0, .int .i64 0, .int .i64 0] (0, 0) _ rfl (by (with_reducible repeat (first | refine blk_drewN ?_ _ | refine blk_drew ?_ | refine blk_alloc ?_ _)); refine blk_put (cs := #[.int .i64 0, .int .i64 0, .int .i64 0, .int .i64 x225003_1]) ?_ 3 _ rfl; (with_reducible repeat (first | refine blk_drewN ?_ _ | refine blk_drew ?_ | refine blk_alloc ?_ _)); refine blk_put (cs := #[.int .i64 0, .int .i64 0, .int .i64 x225002_1, .int .i64 x225003_1]) ?_ 2 _ rfl; (with_reducible repeat (first | refine blk_drewN ?_ _ | refine blk_drew ?_ | refine blk_alloc ?_ _)); refine blk_put (cs := #[.int .i64 0, .int .i64 x225001_1, .int .i64 x225002_1, .int .i64 x225003_1]) ?_ 1 _ rfl; (with_reducible repeat (first | refine blk_drewN ?_ _ | refine blk_drew ?_ | refine blk_alloc ?_ _)); refine blk_put (cs := #[.int .i64 x225000_1, .int .i64 x225001_1, .int .i64 x225002_1, .int .i64 x225003_1]) ?_ 0 _ rfl; (with_reducible repeat (first | refine blk_drewN ?_ _ | refine blk_drew ?_ | refine blk_alloc ?_ _)); refine blk_far ?_ NB224_225.out _; (with_reducible repeat (first | refine blk_drewN ?_ _ | refine blk_drew ?_ | refine blk_alloc ?_ _)); exact BK224.out) Try.underlying31 rfl (by kernel_rfl)) rfl ?_
                 exact ⟨by first | rfl | (simp [errW_none, errW_some] <;> rfl) | (simp [*, errW_none, errW_some] <;> rfl), by exact zh3_ HB.out GE224.out GE225.out GE227.out⟩
                ·rw [if_neg c57] at H
                 have c57b0 : decide (1152921504606846976 < x226002_31) = false := decide_eq_false c57
                 clear c57
                 by_cases c64 : (wrap64 (x226003_1 + ((rd_T55 l0 x13_1).f3))) > 1152921504606846976
                 ·rw [if_pos c64] at H
                  have c64b0 : decide (1152921504606846976 < (wrap64 (x226003_1 + ((rd_T55 l0 x13_1).f3)))) = true := decide_eq_true c64
                  clear c64
                  simp only [Option.some.injEq, Prod.mk.injEq] at H
                  obtain ⟨rfl, rfl, rfl, rfl, rfl⟩ := H
                  have hnb65 := NB227_224.out
                  have hnc65 := NB224_227.out
                  have hnb66 := NB227_225.out
                  have hnc66 := NB225_227.out
                  obtain ⟨hcz67_0, hcz67_1, hcz67_2, hcz67_3⟩ := zc4 BK227.out
                  obtain ⟨hfz67_0, hfz67_1, hfz67_2, hfz67_3⟩ := zz4 BK227.out
                  have hnb68 := NB225_224.out
                  have hnc68 := NB224_225.out
                  obtain ⟨hcz69_0, hcz69_1, hcz69_2, hcz69_3⟩ := zc4 BK225.out
                  obtain ⟨hfz69_0, hfz69_1, hfz69_2, hfz69_3⟩ := zz4 BK225.out
                  obtain ⟨hcz70_0, hcz70_1, hcz70_2, hcz70_3⟩ := zc4 BK224.out
                  obtain ⟨hfz70_0, hfz70_1, hfz70_2, hfz70_3⟩ := zz4 BK224.out
                  go_wp2
                  refine bodyPost_ret (results_ct rfl _ _ gb224 31 #[.int .i64 0, .int .i64 0, .int .i64 0, .int .i64 0] (0, 0) _ rfl (by (with_reducible repeat (first | refine blk_drewN ?_ _ | refine blk_drew ?_ | refine blk_alloc ?_ _)); refine blk_put (cs := #[.int .i64 0, .int .i64 0, .int .i64 0, .int .i64 x225003_1]) ?_ 3 _ rfl; (with_reducible repeat (first | refine blk_drewN ?_ _ | refine blk_drew ?_ | refine blk_alloc ?_ _)); refine blk_put (cs := #[.int .i64 0, .int .i64 0, .int .i64 x225002_1, .int .i64 x225003_1]) ?_ 2 _ rfl; (with_reducible repeat (first | refine blk_drewN ?_ _ | refine blk_drew ?_ | refine blk_alloc ?_ _)); refine blk_put (cs := #[.int .i64 0, .int .i64 x225001_1, .int .i64 x225002_1, .int .i64 x225003_1]) ?_ 1 _ rfl; (with_reducible repeat (first | refine blk_drewN ?_ _ | refine blk_drew ?_ | refine blk_alloc ?_ _)); refine blk_put (cs := #[.int .i64 x225000_1, .int .i64 x225001_1, .int .i64 x225002_1, .int .i64 x225003_1]) ?_ 0 _ rfl; (with_reducible repeat (first | refine blk_drewN ?_ _ | refine blk_drew ?_ | refine blk_alloc ?_ _)); refine blk_far ?_ NB224_225.out _; (with_reducible repeat (first | refine blk_drewN ?_ _ | refine blk_drew ?_ | refine blk_alloc ?_ _)); exact BK224.out) Try.underlying31 rfl (by kernel_rfl)) rfl ?_
                  exact ⟨by first | rfl | (simp [errW_none, errW_some] <;> rfl) | (simp [*, errW_none, errW_some] <;> rfl), by exact zh3_ HB.out GE224.out GE225.out GE227.out⟩
                 ·rw [if_neg c64] at H
                  have c64b0 : decide (1152921504606846976 < (wrap64 (x226003_1 + ((rd_T55 l0 x13_1).f3)))) = false := decide_eq_false c64
                  clear c64
                  have H' := Aside0.mk H
                  clear H
                  have hnb71 := NB227_224.out
                  have hnc71 := NB224_227.out
                  have hnb72 := NB227_225.out
                  have hnc72 := NB225_227.out
                  obtain ⟨hcz73_0, hcz73_1, hcz73_2, hcz73_3⟩ := zc4 BK227.out
                  obtain ⟨hfz73_0, hfz73_1, hfz73_2, hfz73_3⟩ := zz4 BK227.out
                  have hnb74 := NB225_224.out
                  have hnc74 := NB224_225.out
                  obtain ⟨hcz75_0, hcz75_1, hcz75_2, hcz75_3⟩ := zc4 BK225.out
                  obtain ⟨hfz75_0, hfz75_1, hfz75_2, hfz75_3⟩ := zz4 BK225.out
                  go_wp2
                  go_roundg kj31
                  case measure => have := HK1.out; have := HJ10.out; have := HJ21.out; have := HJ31.out; omega
                  case rel => exact ⟨(wrap64 (x13_1 + 1)), (x225000_1), (x225001_1), (x225002_1), (x225003_1), (x226001_21), (x226002_31), (wrap64 (x226003_1 + ((rd_T55 l0 x13_1).f3))), (by first | rfl | (simp; done) | (simp [*]; done) | (simp only [i64_w]; done)), H', ⟨by have := HK1.out; have := HJ10.out; have := HJ21.out; have := HJ31.out; omega⟩, ⟨by (with_reducible repeat (first | refine blk_drewN ?_ _ | refine blk_drew ?_ | refine blk_alloc ?_ _)); refine blk_far ?_ NB224_225.out _; (with_reducible repeat (first | refine blk_drewN ?_ _ | refine blk_drew ?_ | refine blk_alloc ?_ _)); exact BK224.out⟩, ⟨by (with_reducible repeat (first | refine blk_drewN ?_ _ | refine blk_drew ?_ | refine blk_alloc ?_ _)); refine blk_put (cs := #[.int .i64 a1, .int .i64 x226001_21, .int .i64 x226002_31, .int .i64 x226003_1]) ?_ 3 _ rfl; (with_reducible repeat (first | refine blk_drewN ?_ _ | refine blk_drew ?_ | refine blk_alloc ?_ _)); exact BK225.out⟩, ⟨by exact zh3_ HB.out GE224.out GE225.out GE227.out⟩⟩
             ·rw [if_neg c42] at H
              have c42b0 : (((rd_T55 l0 x13_1).f1) == 3) = false := beq_eq_false_iff_ne.mpr c42
              have c42b1 : (((rd_T55 l0 x13_1).f1) != 3) = true := bne_iff_ne.mpr c42
              by_cases c76 : x226001_21 > 1152921504606846976
              ·rw [if_pos c76] at H
               have c76b0 : decide (1152921504606846976 < x226001_21) = true := decide_eq_true c76
               clear c76
               simp only [Option.some.injEq, Prod.mk.injEq] at H
               obtain ⟨rfl, rfl, rfl, rfl, rfl⟩ := H
               have hnb77 := NB227_224.out
               have hnc77 := NB224_227.out
               have hnb78 := NB227_225.out
               have hnc78 := NB225_227.out
               obtain ⟨hcz79_0, hcz79_1, hcz79_2, hcz79_3⟩ := zc4 BK227.out
               obtain ⟨hfz79_0, hfz79_1, hfz79_2, hfz79_3⟩ := zz4 BK227.out
               have hnb80 := NB225_224.out
               have hnc80 := NB224_225.out
               obtain ⟨hcz81_0, hcz81_1, hcz81_2, hcz81_3⟩ := zc4 BK225.out
               obtain ⟨hfz81_0, hfz81_1, hfz81_2, hfz81_3⟩ := zz4 BK225.out
               obtain ⟨hcz82_0, hcz82_1, hcz82_2, hcz82_3⟩ := zc4 BK224.out
               obtain ⟨hfz82_0, hfz82_1, hfz82_2, hfz82_3⟩ := zz4 BK224.out
               go_wp2
               refine bodyPost_ret (results_ct rfl _ _ gb224 31 #[.int .i64 0, .int .i64 0, .int .i64 0, .int .i64 0] (0, 0) _ rfl (zp_ BK224.out) Try.underlying31 rfl (by kernel_rfl)) rfl ?_
               exact ⟨by first | rfl | (simp [errW_none, errW_some] <;> rfl) | (simp [*, errW_none, errW_some] <;> rfl), by exact zh3_ HB.out GE224.out GE225.out GE227.out⟩
              ·rw [if_neg c76] at H
               have c76b0 : decide (1152921504606846976 < x226001_21) = false := decide_eq_false c76
               clear c76
               by_cases c83 : x226001_21 < (-1152921504606846976)
               ·rw [if_pos c83] at H
                have c83b0 : decide (x226001_21 < (-1152921504606846976)) = true := decide_eq_true c83
                clear c83
                simp only [Option.some.injEq, Prod.mk.injEq] at H
                obtain ⟨rfl, rfl, rfl, rfl, rfl⟩ := H
                have hnb84 := NB227_224.out
                have hnc84 := NB224_227.out
                have hnb85 := NB227_225.out
                have hnc85 := NB225_227.out
                obtain ⟨hcz86_0, hcz86_1, hcz86_2, hcz86_3⟩ := zc4 BK227.out
                obtain ⟨hfz86_0, hfz86_1, hfz86_2, hfz86_3⟩ := zz4 BK227.out
                have hnb87 := NB225_224.out
                have hnc87 := NB224_225.out
                obtain ⟨hcz88_0, hcz88_1, hcz88_2, hcz88_3⟩ := zc4 BK225.out
                obtain ⟨hfz88_0, hfz88_1, hfz88_2, hfz88_3⟩ := zz4 BK225.out
                obtain ⟨hcz89_0, hcz89_1, hcz89_2, hcz89_3⟩ := zc4 BK224.out
                obtain ⟨hfz89_0, hfz89_1, hfz89_2, hfz89_3⟩ := zz4 BK224.out
                go_wp2
                refine bodyPost_ret (results_ct rfl _ _ gb224 31 #[.int .i64 0, .int .i64 0, .int .i64 0, .int .i64 0] (0, 0) _ rfl (zp_ BK224.out) Try.underlying31 rfl (by kernel_rfl)) rfl ?_
                exact ⟨by first | rfl | (simp [errW_none, errW_some] <;> rfl) | (simp [*, errW_none, errW_some] <;> rfl), by exact zh3_ HB.out GE224.out GE225.out GE227.out⟩
               ·rw [if_neg c83] at H
                have c83b0 : decide (x226001_21 < (-1152921504606846976)) = false := decide_eq_false c83
                clear c83
                by_cases c90 : x226002_31 > 1152921504606846976
                ·rw [if_pos c90] at H
                 have c90b0 : decide (1152921504606846976 < x226002_31) = true := decide_eq_true c90
                 clear c90
                 simp only [Option.some.injEq, Prod.mk.injEq] at H
                 obtain ⟨rfl, rfl, rfl, rfl, rfl⟩ := H
                 have hnb91 := NB227_224.out
                 have hnc91 := NB224_227.out
                 have hnb92 := NB227_225.out
                 have hnc92 := NB225_227.out
                 obtain ⟨hcz93_0, hcz93_1, hcz93_2, hcz93_3⟩ := zc4 BK227.out
                 obtain ⟨hfz93_0, hfz93_1, hfz93_2, hfz93_3⟩ := zz4 BK227.out
                 have hnb94 := NB225_224.out
                 have hnc94 := NB224_225.out
                 obtain ⟨hcz95_0, hcz95_1, hcz95_2, hcz95_3⟩ := zc4 BK225.out
                 obtain ⟨hfz95_0, hfz95_1, hfz95_2, hfz95_3⟩ := zz4 BK225.out
                 obtain ⟨hcz96_0, hcz96_1, hcz96_2, hcz96_3⟩ := zc4 BK224.out
                 obtain ⟨hfz96_0, hfz96_1, hfz96_2, hfz96_3⟩ := zz4 BK224.out
                 go_wp2
                 refine bodyPost_ret (results_ct rfl _ _ gb224 31 #[.int .i64 0, .int .i64 0, .int .i64 0, .int .i64 0] (0, 0) _ rfl (zp_ BK224.out) Try.underlying31 rfl (by kernel_rfl)) rfl ?_
                 exact ⟨by first | rfl | (simp [errW_none, errW_some] <;> rfl) | (simp [*, errW_none, errW_some] <;> rfl), by exact zh3_ HB.out GE224.out GE225.out GE227.out⟩
                ·rw [if_neg c90] at H
                 have c90b0 : decide (1152921504606846976 < x226002_31) = false := decide_eq_false c90
                 clear c90
                 by_cases c97 : x226003_1 > 1152921504606846976
                 ·rw [if_pos c97] at H
                  have c97b0 : decide (1152921504606846976 < x226003_1) = true := decide_eq_true c97
                  clear c97
                  simp only [Option.some.injEq, Prod.mk.injEq] at H
                  obtain ⟨rfl, rfl, rfl, rfl, rfl⟩ := H
                  have hnb98 := NB227_224.out
                  have hnc98 := NB224_227.out
                  have hnb99 := NB227_225.out
                  have hnc99 := NB225_227.out
                  obtain ⟨hcz100_0, hcz100_1, hcz100_2, hcz100_3⟩ := zc4 BK227.out
                  obtain ⟨hfz100_0, hfz100_1, hfz100_2, hfz100_3⟩ := zz4 BK227.out
                  have hnb101 := NB225_224.out
                  have hnc101 := NB224_225.out
                  obtain ⟨hcz102_0, hcz102_1, hcz102_2, hcz102_3⟩ := zc4 BK225.out
                  obtain ⟨hfz102_0, hfz102_1, hfz102_2, hfz102_3⟩ := zz4 BK225.out
                  obtain ⟨hcz103_0, hcz103_1, hcz103_2, hcz103_3⟩ := zc4 BK224.out
                  obtain ⟨hfz103_0, hfz103_1, hfz103_2, hfz103_3⟩ := zz4 BK224.out
                  go_wp2
                  refine bodyPost_ret (results_ct rfl _ _ gb224 31 #[.int .i64 0, .int .i64 0, .int .i64 0, .int .i64 0] (0, 0) _ rfl (zp_ BK224.out) Try.underlying31 rfl (by kernel_rfl)) rfl ?_
                  exact ⟨by first | rfl | (simp [errW_none, errW_some] <;> rfl) | (simp [*, errW_none, errW_some] <;> rfl), by exact zh3_ HB.out GE224.out GE225.out GE227.out⟩
                 ·rw [if_neg c97] at H
                  have c97b0 : decide (1152921504606846976 < x226003_1) = false := decide_eq_false c97
                  clear c97
                  have H' := Aside0.mk H
                  clear H
                  have hnb104 := NB227_224.out
                  have hnc104 := NB224_227.out
                  have hnb105 := NB227_225.out
                  have hnc105 := NB225_227.out
                  obtain ⟨hcz106_0, hcz106_1, hcz106_2, hcz106_3⟩ := zc4 BK227.out
                  obtain ⟨hfz106_0, hfz106_1, hfz106_2, hfz106_3⟩ := zz4 BK227.out
                  have hnb107 := NB225_224.out
                  have hnc107 := NB224_225.out
                  obtain ⟨hcz108_0, hcz108_1, hcz108_2, hcz108_3⟩ := zc4 BK225.out
                  obtain ⟨hfz108_0, hfz108_1, hfz108_2, hfz108_3⟩ := zz4 BK225.out
                  go_wp2
                  go_roundg kj31
                  case measure => have := HK1.out; have := HJ10.out; have := HJ21.out; have := HJ31.out; omega
                  case rel => exact ⟨(wrap64 (x13_1 + 1)), (x225000_1), (x225001_1), (x225002_1), (x225003_1), (x226001_21), (x226002_31), (x226003_1), (by first | rfl | (simp; done) | (simp [*]; done) | (simp only [i64_w]; done)), H', ⟨by have := HK1.out; have := HJ10.out; have := HJ21.out; have := HJ31.out; omega⟩, ⟨by (with_reducible repeat (first | refine blk_drewN ?_ _ | refine blk_drew ?_ | refine blk_alloc ?_ _)); exact BK224.out⟩, ⟨by (with_reducible repeat (first | refine blk_drewN ?_ _ | refine blk_drew ?_ | refine blk_alloc ?_ _)); exact BK225.out⟩, ⟨by exact zh3_ HB.out GE224.out GE225.out GE227.out⟩⟩
      ·rw [if_neg c10] at H
       have c10b0 : (((rd_T55 l0 x13_1).f0) == a1) = false := beq_eq_false_iff_ne.mpr c10
       have c10b1 : (((rd_T55 l0 x13_1).f0) != a1) = true := bne_iff_ne.mpr c10
       have H' := Aside0.mk H
       clear H
       have p226 : 0 ≤ (x13_1 : Int) := of_decide_eq_true za_
       have q226 : x13_1 < (l0.length : Int) := of_decide_eq_true za_
       obtain ⟨ad226, e226, hx226_0, hx226_1, hx226_2, hx226_3⟩ := at_T55 HR0.out x13_1 p226 q226
       cases e226
       replace hx226_0 := zx_ HB.out hx226_0
       replace hx226_1 := zx_ HB.out hx226_1
       replace hx226_2 := zx_ HB.out hx226_2
       replace hx226_3 := zx_ HB.out hx226_3
       replace p226 := eq_true p226
       replace q226 := eq_true q226
       go_wp2_with (first | ((with_reducible refine gate_dst (N := 8) rfl ?_); refine box_event ?hg (N := 8) ?hd (cs := #[.int .i64 0, .int .u8 0, .int .u8 0, .int .i64 0]) (t := 55) ?hr ?_; (case hd => rfl); (case hg => rfl); (case hr => first | (go_simp; done) | (go_simp; rfl)); intro gb227 hg w109 hbox hb; have n0_ := Aside0.mk (blk_below (zb_ BK224.out) hb); have n1_ := Aside0.mk (blk_below (zb_ BK225.out) hb); have n2_ := Aside0.mk (below_step (zh2_ HB.out GE224.out GE225.out) hb); have n3_ := Aside0.mk (hbox); have n4_ := Aside0.mk ((by rw [hg]; exact (below_size (zh2_ HB.out GE224.out GE225.out)) : w.heap.size ≤ gb227)); have n5_ := Aside0.mk ((by rw [hg]; exact (below_size (zh2_ HB.out GE224.out GE225.out)) : w.heap.size ≤ gb227)); have n6_ := Aside0.mk ((by rw [hg]; exact Nat.ne_of_lt (blk_lt (zb_ BK224.out)) : gb224 ≠ gb227)); have n7_ := Aside0.mk ((by rw [hg]; exact Nat.ne_of_gt (blk_lt (zb_ BK224.out)) : gb227 ≠ gb224)); have n8_ := Aside0.mk ((by rw [hg]; exact Nat.ne_of_lt (blk_lt (zb_ BK225.out)) : gb225 ≠ gb227)); have n9_ := Aside0.mk ((by rw [hg]; exact Nat.ne_of_gt (blk_lt (zb_ BK225.out)) : gb227 ≠ gb225)); clear BK224; clear BK225; clear HB; have BK224 := n0_; have BK225 := n1_; have HB := n2_; have BK227 := n3_; have GW227 := n4_; have GE227 := n5_; have NB224_227 := n6_; have NB227_224 := n7_; have NB225_227 := n8_; have NB227_225 := n9_; clear n0_ n1_ n2_ n3_ n4_ n5_ n6_ n7_ n8_ n9_; clear hb hbox hg; have hnb110 := NB227_224.out; have hnc110 := NB224_227.out; have hnb111 := NB227_225.out; have hnc111 := NB225_227.out; obtain ⟨hcz112_0, hcz112_1, hcz112_2, hcz112_3⟩ := zc4 BK227.out; obtain ⟨hfz112_0, hfz112_1, hfz112_2, hfz112_3⟩ := zz4 BK227.out))
       go_roundg k1
       case measure => have := HK1.out; omega
       case rel => exact ⟨(wrap64 (x13_1 + 1)), (x225000_1), (x225001_1), (x225002_1), (x225003_1), (x226001_1), (x226002_1), (x226003_1), (by first | rfl | (simp; done) | (simp [*]; done) | (simp only [i64_w]; done)), H', ⟨by have := HK1.out; omega⟩, ⟨by (with_reducible repeat (first | refine blk_drewN ?_ _ | refine blk_drew ?_ | refine blk_alloc ?_ _)); refine blk_far ?_ NB224_227.out _; (with_reducible repeat (first | refine blk_drewN ?_ _ | refine blk_drew ?_ | refine blk_alloc ?_ _)); refine blk_far ?_ NB224_227.out _; (with_reducible repeat (first | refine blk_drewN ?_ _ | refine blk_drew ?_ | refine blk_alloc ?_ _)); refine blk_far ?_ NB224_227.out _; (with_reducible repeat (first | refine blk_drewN ?_ _ | refine blk_drew ?_ | refine blk_alloc ?_ _)); refine blk_far ?_ NB224_227.out _; (with_reducible repeat (first | refine blk_drewN ?_ _ | refine blk_drew ?_ | refine blk_alloc ?_ _)); exact BK224.out⟩, ⟨by (with_reducible repeat (first | refine blk_drewN ?_ _ | refine blk_drew ?_ | refine blk_alloc ?_ _)); refine blk_far ?_ NB225_227.out _; (with_reducible repeat (first | refine blk_drewN ?_ _ | refine blk_drew ?_ | refine blk_alloc ?_ _)); refine blk_far ?_ NB225_227.out _; (with_reducible repeat (first | refine blk_drewN ?_ _ | refine blk_drew ?_ | refine blk_alloc ?_ _)); refine blk_far ?_ NB225_227.out _; (with_reducible repeat (first | refine blk_drewN ?_ _ | refine blk_drew ?_ | refine blk_alloc ?_ _)); refine blk_far ?_ NB225_227.out _; (with_reducible repeat (first | refine blk_drewN ?_ _ | refine blk_drew ?_ | refine blk_alloc ?_ _)); exact BK225.out⟩, ⟨by exact zh3_ HB.out GE224.out GE225.out GE227.out⟩⟩
     ·rw [if_neg c9] at H
      exact absurd H (by simp)
    ·rw [if_neg c8] at H
     exact absurd H (by simp)
   ·rw [if_neg c7] at H
    have c7b0 : decide (x13_1 < (l0.length : Int)) = false := decide_eq_false c7
    clear c7
    simp only [Option.some.injEq, Prod.mk.injEq] at H
    obtain ⟨rfl, rfl, rfl, rfl, rfl⟩ := H
    have hnb113 := NB225_224.out
    have hnc113 := NB224_225.out
    obtain ⟨hcz114_0, hcz114_1, hcz114_2, hcz114_3⟩ := zc4 BK225.out
    obtain ⟨hfz114_0, hfz114_1, hfz114_2, hfz114_3⟩ := zz4 BK225.out
    obtain ⟨hcz115_0, hcz115_1, hcz115_2, hcz115_3⟩ := zc4 BK224.out
    obtain ⟨hfz115_0, hfz115_1, hfz115_2, hfz115_3⟩ := zz4 BK224.out
    go_wp2
    refine bodyPost_ret (results_ct rfl _ _ gb224 31 #[.int .i64 a1, .int .i64 x226001_1, .int .i64 x226002_1, .int .i64 x226003_1] (0, 0) _ rfl (zp_ BK224.out) Try.underlying31 rfl (by kernel_rfl)) rfl ?_
    exact ⟨by first | rfl | (simp [errW_none, errW_some] <;> rfl) | (simp [*, errW_none, errW_some] <;> rfl), by exact zh2_ HB.out GE224.out GE225.out⟩
end Go.Proofs.Ytaddmogfeijjcaa.Print
