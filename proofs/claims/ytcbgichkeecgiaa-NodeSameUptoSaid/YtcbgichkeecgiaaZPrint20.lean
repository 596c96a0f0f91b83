-- What the claim uses alone (wip/slim.py). Lean checks it.
import Derived.Test.YtcbgichkeecgiaaZAb
import Derived.Test.YtcbgichkeecgiaaZPrint0
import Derived.Test.YtcbgichkeecgiaaZPrint11
import Derived.Test.YtcbgichkeecgiaaZPrint18
import Derived.Test.YtcbgichkeecgiaaZPrint19
namespace Go.Proofs.Ytcbgichkeecgiaa.Print
open Go.RowKit Go.Proofs.YtcbgichkeecgiaaW.PrintWords Go.Proofs.YtcbgichkeecgiaaW.PrintLast Go.Proofs.YtcbgichkeecgiaaW.PrintMore
attribute [local go_sem] max2_mx min2_mn max_two min_two max_three min_three max_four min_four
set_option linter.unusedVariables false
set_option linter.unusedSimpArgs false
mutual
def ladinglaw06_NodeSame.l0 : Nat → List (List Int) → List (List Int) → Int → Int → Int → Bool → Bool → Option (Bool)
 | 0, _, _, _, _, _, _, _ => none
 | k + 1, x0, x1, x2, x9, x10, x237000, x238000 => if x10 < x9 then (ladinglaw06_NodeSame.l1 k x0 x1 x2 x9 x10 0 x237000 x238000) else (ladinglaw06_NodeSame.l2 k x0 x1 x2 x9 0 x237000 ([] : List (List Int)) ([] : List (List Int)) ([] : List Int) x238000 ([] : List (List Int)) ([] : List (List Int)) ([] : List Int))
def ladinglaw06_NodeSame.l1 : Nat → List (List Int) → List (List Int) → Int → Int → Int → Int → Bool → Bool → Option (Bool)
 | 0, _, _, _, _, _, _, _, _ => none
 | k + 1, x0, x1, x2, x9, x10, x11, x237000, x238000 => if x11 < x10 then (if 0 ≤ x10 then (if x10 < (x0.length : Int) then (if 0 ≤ x11 then (if x11 < (x0.length : Int) then (if (strOfNums (rd_L1 x0 x10)).toList = (strOfNums (rd_L1 x0 x11)).toList then (some true) else (ladinglaw06_NodeSame.l1 k x0 x1 x2 x9 x10 (wrap64 (x11 + 1)) x237000 x238000)) else (none)) else (none)) else (none)) else (none)) else (ladinglaw06_NodeSame.l0 k x0 x1 x2 x9 (wrap64 (x10 + 1)) x237000 x238000)
def ladinglaw06_NodeSame.l2 : Nat → List (List Int) → List (List Int) → Int → Int → Int → Bool → List (List Int) → List (List Int) → List Int → Bool → List (List Int) → List (List Int) → List Int → Option (Bool)
 | 0, _, _, _, _, _, _, _, _, _, _, _, _, _ => none
 | k + 1, x0, x1, x2, x9, x12, x237000, x237001, x237002, x237003, x238000, x238001, x238002, x238003 => if x12 < x9 then (if x9 = 0 then (none) else (if 0 ≤ x12 then (if x12 < (x0.length : Int) then (if x12 < (x1.length : Int) then ((node_Put.f k x237000 x237001 x237002 x237003 (rd_L1 x0 x12) (rd_L1 x1 x12)).bind fun bt243 => (if 0 ≤ (Int.tmod (wrap64 ((wrap64 (x12 + (Int.tmod x2 x9))) + x9)) x9) then (if (Int.tmod (wrap64 ((wrap64 (x12 + (Int.tmod x2 x9))) + x9)) x9) < (x0.length : Int) then (if (Int.tmod (wrap64 ((wrap64 (x12 + (Int.tmod x2 x9))) + x9)) x9) < (x1.length : Int) then ((node_Put.f k x238000 x238001 x238002 x238003 (rd_L1 x0 (Int.tmod (wrap64 ((wrap64 (x12 + (Int.tmod x2 x9))) + x9)) x9)) (rd_L1 x1 (Int.tmod (wrap64 ((wrap64 (x12 + (Int.tmod x2 x9))) + x9)) x9))).bind fun bt257 => (if bt243.2.2.2.2 = 0 then (if bt257.2.2.2.2 = 0 then (ladinglaw06_NodeSame.l2 k x0 x1 x2 x9 (wrap64 (x12 + 1)) bt243.1 bt243.2.1 bt243.2.2.1 bt243.2.2.2.1 bt257.1 bt257.2.1 bt257.2.2.1 bt257.2.2.2.1) else (some true)) else (some true))) else (none)) else (none)) else (none))) else (none)) else (none)) else (none))) else ((ladingref06_Same.f k x237000 x237001 x237002 x237003 x238000 x238001 x238002 x238003).bind fun t240 => (if t240 = true then (some ((x237001.length : Int) == x9)) else (none)))
end
def ladinglaw06_NodeSame.f (k : Nat) (l0 : List (List Int)) (l1 : List (List Int)) (a2 : Int) : Option (Bool) := (ladinglaw06_lives.f).bind fun t235 => (if t235 = true then (ladinglaw06_NodeSame.l0 k l0 l1 a2 (mn (l0.length : Int) (l1.length : Int)) 0 true true) else (none))
def ladinglaw06_NodeSame.T11 : Bool × List (List Nat × List Nat) := (true, [([], []), ([], []), ([0, 1], [0, 1]), ([2], [2]), ([3], [3]), ([], []), ([], []), ([5, 6], [5, 6]), ([7], [7]), ([8], [8]), ([4, 9], [4, 9])])
def ladinglaw06_NodeSame.B11 : List Nat := [0, 0, 3, 7, 15, 0, 0, 96, 224, 480, 1023]
theorem ladinglaw06_NodeSame.tab11 : rtab .any (opsOf Try.f3 11) = ladinglaw06_NodeSame.T11 := by kernel_rfl
theorem ladinglaw06_NodeSame.bits11 : waitsOk ladinglaw06_NodeSame.T11.2 ladinglaw06_NodeSame.B11 = true := by kernel_rfl
def ladinglaw06_NodeSame.T17 : Bool × List (List Nat × List Nat) := (true, [([], []), ([], []), ([], []), ([1, 2], [1, 2]), ([3], [3]), ([], []), ([], []), ([5, 6], [5, 6]), ([7], [7]), ([0, 4, 8], [0, 4, 8]), ([9], [9]), ([10], [10]), ([10], [10]), ([], []), ([13, 11, 9, 0, 1, 2, 3, 4, 5, 6, 7, 8, 9, 10, 11, 13], [11, 13]), ([12, 14, 0, 1, 2, 3, 4, 5, 6, 7, 8, 9, 10, 11, 12, 13, 14], [12])])
def ladinglaw06_NodeSame.B17 : List Nat := [0, 0, 0, 6, 14, 0, 0, 96, 224, 511, 1023, 2047, 2047, 0, 12287, 32767]
theorem ladinglaw06_NodeSame.tab17 : rtab .any (opsOf Try.f3 17) = ladinglaw06_NodeSame.T17 := by kernel_rfl
theorem ladinglaw06_NodeSame.bits17 : waitsOk ladinglaw06_NodeSame.T17.2 ladinglaw06_NodeSame.B17 = true := by kernel_rfl
def ladinglaw06_NodeSame.T18 : Bool × List (List Nat × List Nat) := (true, [([], []), ([], []), ([], []), ([1, 2], [1, 2]), ([3], [3]), ([], []), ([], []), ([5, 6], [5, 6]), ([7], [7]), ([0, 4, 8], [0, 4, 8]), ([9], [9]), ([10], [10]), ([10], [10]), ([], []), ([13, 11, 9, 0, 1, 2, 3, 4, 5, 6, 7, 8, 9, 10, 11, 13], [11, 13]), ([12, 14, 0, 1, 2, 3, 4, 5, 6, 7, 8, 9, 10, 11, 12, 13, 14], [12])])
def ladinglaw06_NodeSame.B18 : List Nat := [0, 0, 0, 6, 14, 0, 0, 96, 224, 511, 1023, 2047, 2047, 0, 12287, 32767]
theorem ladinglaw06_NodeSame.tab18 : rtab .any (opsOf Try.f3 18) = ladinglaw06_NodeSame.T18 := by kernel_rfl
theorem ladinglaw06_NodeSame.bits18 : waitsOk ladinglaw06_NodeSame.T18.2 ladinglaw06_NodeSame.B18 = true := by kernel_rfl
set_option maxHeartbeats 8000000 in
set_option maxRecDepth 100000 in
theorem ladinglaw06_NodeSame.calls (k : Nat) (A0 : Option Addr) (c0 : Nat) (l0 : List (List Int)) (A1 : Option Addr) (c1 : Nat) (l1 : List (List Int)) (a2 : Int) (r : Bool) (w : World) (hr0 : Kd.C (Kd.slice 5 (Kd.int .u8)) w A0 l0.length l0) (hc0 : l0.length ≤ c0) (hr1 : Kd.C (Kd.slice 5 (Kd.int .u8)) w A1 l1.length l1) (hc1 : l1.length ≤ c1) (h : ladinglaw06_NodeSame.f k l0 l1 a2 = some r) :
  Calls Try.prog 3 #[.slice A0 l0.length c0, .slice A1 l1.length c1, .int .i64 a2] w fun e w' => e = .returned (.bool r) ∧ Below w.heap.size w w' := by
 have hu26 := Try.underlying26
 have HR0 := Aside0.mk hr0
 have HC0 := Aside0.mk hc0
 clear hr0 hc0
 have HR1 := Aside0.mk hr1
 have HC1 := Aside0.mk hc1
 clear hr1 hc1
 have HB := Aside0.mk (Below.refl w.heap.size w)
 have H : ((ladinglaw06_lives.f).bind fun t235 => (if t235 = true then (ladinglaw06_NodeSame.l0 k l0 l1 a2 (mn (l0.length : Int) (l1.length : Int)) 0 true true) else (none))) = some r := h
 clear h
 replace H := Option.bind_eq_some_iff.mp H
 obtain ⟨t235, A40, H⟩ := H
 replace H : (if t235 = true then (ladinglaw06_NodeSame.l0 k l0 l1 a2 (mn (l0.length : Int) (l1.length : Int)) 0 true true) else (none)) = some r := H
 have A4 := Aside0.mk A40
 clear A40
 by_cases c5 : t235 = true
 ·subst c5
  have H1 : (ladinglaw06_NodeSame.l0 k l0 l1 a2 (mn (l0.length : Int) (l1.length : Int)) 0 true true) = some r := by rw [if_pos rfl] at H; exact H
  clear H
  have H := H1
  clear H1
  obtain ⟨ji6, hji6⟩ : ∃ j_ : Int, (mn (l0.length : Int) (l1.length : Int)) = j_ := ⟨_, rfl⟩
  replace H : (ladinglaw06_NodeSame.l0 k l0 l1 a2 ji6 0 true true) = some r := by first | (rw [hji6] at H; exact H) | (simp only [hji6] at H ⊢; exact H)
  (try rw [hji6] at A4)
  (try (have hji6l : 0 ≤ ji6 := by (rw [← hji6]; unfold mn; (repeat' split) <;> omega)))
  (try (have hji6m : 0 ≤ ji6 := by omega))
  have hji6_ : (if (l1.length : Int) < (l0.length : Int) then (l1.length : Int) else (l0.length : Int)) = ji6 := hji6
  have H' := Aside0.mk H
  clear H
  go_enter Try.func3, Try.ntmps3
  go_wp2_with (first | ((with_reducible refine gate_callee (f := 9) rfl ?_); refine goesL_ (some 18) rfl rfl Try.func9 (by kernel_rfl) rfl #[] rfl zl_ ?_; (with_reducible refine (ladinglaw06_lives.calls  true _ A4.out).mono ?_); rintro e w7 ⟨rfl, hb⟩; refine ⟨_, rfl, ?_⟩; have n0_ := Aside0.mk (below_step (zh0_ HB.out) hb); clear HB; have HB := n0_; clear n0_; (try clear hb); (try clear hb2); (try clear hk); (try clear hi)) | ((with_reducible refine gate_dst (N := 7) rfl ?_); (try (refine gate_guard (by rfl) ?_; dsimp only)); refine box_event ?hg (N := 7) ?hd (cs := #[.bool false, .slice none 0 0, .slice none 0 0, .slice none 0 0]) (t := 26) ?hr ?_; (case hd => rfl); (case hg => rfl); (case hr => first | (go_simp; done) | (go_simp; rfl)); intro gb236 hg w8 hbox hb; have n0_ := Aside0.mk (below_step (zh0_ HB.out) hb); have n1_ := Aside0.mk (hbox); have n2_ := Aside0.mk ((by rw [hg]; exact (below_size (zh0_ HB.out)) : w.heap.size ≤ gb236)); have n3_ := Aside0.mk ((by rw [hg]; exact (below_size (zh0_ HB.out)) : w.heap.size ≤ gb236)); clear HB; have HB := n0_; have BK236 := n1_; have GW236 := n2_; have GE236 := n3_; clear n0_ n1_ n2_ n3_; clear hb hbox hg) | ((with_reducible refine gate_dst (N := 8) rfl ?_); (try (refine gate_guard (by rfl) ?_; dsimp only)); refine box_event ?hg (N := 8) ?hd (cs := #[.bool false, .slice none 0 0, .slice none 0 0, .slice none 0 0]) (t := 26) ?hr ?_; (case hd => rfl); (case hg => rfl); (case hr => first | (go_simp; done) | (go_simp; rfl)); intro gb237 hg w9 hbox hb; have n0_ := Aside0.mk (blk_below (zb_ BK236.out) hb); have n1_ := Aside0.mk (below_step (zh1_ HB.out GE236.out) hb); have n2_ := Aside0.mk (hbox); have n3_ := Aside0.mk ((by rw [hg]; exact (below_size (zh1_ HB.out GE236.out)) : w.heap.size ≤ gb237)); have n4_ := Aside0.mk ((by rw [hg]; exact (below_size (zh1_ HB.out GE236.out)) : w.heap.size ≤ gb237)); have n5_ := Aside0.mk ((by rw [hg]; exact Nat.ne_of_lt (blk_lt (zb_ BK236.out)) : gb236 ≠ gb237)); have n6_ := Aside0.mk ((by rw [hg]; exact Nat.ne_of_gt (blk_lt (zb_ BK236.out)) : gb237 ≠ gb236)); clear BK236; clear HB; have BK236 := n0_; have HB := n1_; have BK237 := n2_; have GW237 := n3_; have GE237 := n4_; have NB236_237 := n5_; have NB237_236 := n6_; clear n0_ n1_ n2_ n3_ n4_ n5_ n6_; clear hb hbox hg; have hnb10 := NB236_237.out; have hnc10 := NB237_236.out; obtain ⟨hcz11_0, hcz11_1, hcz11_2, hcz11_3⟩ := zc4 BK236.out; obtain ⟨hfz11_0, hfz11_1, hfz11_2, hfz11_3⟩ := zz4 BK236.out; obtain ⟨hcz12_0, hcz12_1, hcz12_2, hcz12_3⟩ := zc4 BK237.out; obtain ⟨hfz12_0, hfz12_1, hfz12_2, hfz12_3⟩ := zz4 BK237.out))
  go_loopg [10] k (fun kq v10 w' => ∃ (x10_1 : Int), v10 = .int .i64 x10_1 ∧ Aside0 (ladinglaw06_NodeSame.l0 kq l0 l1 a2 ji6 x10_1 true true = some r) ∧ Aside0 (kq ≤ k) ∧ Aside0 (w'.heap[gb236]? = some (.cells #[.bool true, (.slice none 0 0), (.slice none 0 0), (.slice none 0 0)] 26 (0, 0))) ∧ Aside0 (w'.heap[gb237]? = some (.cells #[.bool true, (.slice none 0 0), (.slice none 0 0), (.slice none 0 0)] 26 (0, 0))) ∧ Aside0 (Below w.heap.size w w'))
  case atStart => exact ⟨(0), (by first | rfl | (simp; done) | (simp [*]; done) | (simp only [i64_w]; done)), H', ⟨Nat.le_refl _⟩, ⟨by (with_reducible repeat (first | refine blk_drewN ?_ _ | refine blk_drew ?_ | refine blk_alloc ?_ _)); refine blk_far ?_ NB236_237.out _; (with_reducible repeat (first | refine blk_drewN ?_ _ | refine blk_drew ?_ | refine blk_alloc ?_ _)); refine blk_far ?_ NB236_237.out _; (with_reducible repeat (first | refine blk_drewN ?_ _ | refine blk_drew ?_ | refine blk_alloc ?_ _)); refine blk_far ?_ NB236_237.out _; (with_reducible repeat (first | refine blk_drewN ?_ _ | refine blk_drew ?_ | refine blk_alloc ?_ _)); refine blk_far ?_ NB236_237.out _; (with_reducible repeat (first | refine blk_drewN ?_ _ | refine blk_drew ?_ | refine blk_alloc ?_ _)); refine blk_put (cs := #[.bool true, .slice none 0 0, .slice none 0 0, .slice none 0 0]) ?_ 3 _ (by first | rfl | (simp only [List.length_drop, List.length_take]; rfl)); (with_reducible repeat (first | refine blk_drewN ?_ _ | refine blk_drew ?_ | refine blk_alloc ?_ _)); refine blk_put (cs := #[.bool true, .slice none 0 0, .slice none 0 0, .slice none 0 0]) ?_ 2 _ (by first | rfl | (simp only [List.length_drop, List.length_take]; rfl)); (with_reducible repeat (first | refine blk_drewN ?_ _ | refine blk_drew ?_ | refine blk_alloc ?_ _)); refine blk_put (cs := #[.bool true, .slice none 0 0, .slice none 0 0, .slice none 0 0]) ?_ 1 _ (by first | rfl | (simp only [List.length_drop, List.length_take]; rfl)); (with_reducible repeat (first | refine blk_drewN ?_ _ | refine blk_drew ?_ | refine blk_alloc ?_ _)); refine blk_put (cs := #[.bool false, .slice none 0 0, .slice none 0 0, .slice none 0 0]) ?_ 0 _ (by first | rfl | (simp only [List.length_drop, List.length_take]; rfl)); (with_reducible repeat (first | refine blk_drewN ?_ _ | refine blk_drew ?_ | refine blk_alloc ?_ _)); exact BK236.out⟩, ⟨by (with_reducible repeat (first | refine blk_drewN ?_ _ | refine blk_drew ?_ | refine blk_alloc ?_ _)); refine blk_put (cs := #[.bool true, .slice none 0 0, .slice none 0 0, .slice none 0 0]) ?_ 3 _ (by first | rfl | (simp only [List.length_drop, List.length_take]; rfl)); (with_reducible repeat (first | refine blk_drewN ?_ _ | refine blk_drew ?_ | refine blk_alloc ?_ _)); refine blk_put (cs := #[.bool true, .slice none 0 0, .slice none 0 0, .slice none 0 0]) ?_ 2 _ (by first | rfl | (simp only [List.length_drop, List.length_take]; rfl)); (with_reducible repeat (first | refine blk_drewN ?_ _ | refine blk_drew ?_ | refine blk_alloc ?_ _)); refine blk_put (cs := #[.bool true, .slice none 0 0, .slice none 0 0, .slice none 0 0]) ?_ 1 _ (by first | rfl | (simp only [List.length_drop, List.length_take]; rfl)); (with_reducible repeat (first | refine blk_drewN ?_ _ | refine blk_drew ?_ | refine blk_alloc ?_ _)); refine blk_put (cs := #[.bool false, .slice none 0 0, .slice none 0 0, .slice none 0 0]) ?_ 0 _ (by first | rfl | (simp only [List.length_drop, List.length_take]; rfl)); (with_reducible repeat (first | refine blk_drewN ?_ _ | refine blk_drew ?_ | refine blk_alloc ?_ _)); refine blk_far ?_ NB237_236.out _; (with_reducible repeat (first | refine blk_drewN ?_ _ | refine blk_drew ?_ | refine blk_alloc ?_ _)); refine blk_far ?_ NB237_236.out _; (with_reducible repeat (first | refine blk_drewN ?_ _ | refine blk_drew ?_ | refine blk_alloc ?_ _)); refine blk_far ?_ NB237_236.out _; (with_reducible repeat (first | refine blk_drewN ?_ _ | refine blk_drew ?_ | refine blk_alloc ?_ _)); refine blk_far ?_ NB237_236.out _; (with_reducible repeat (first | refine blk_drewN ?_ _ | refine blk_drew ?_ | refine blk_alloc ?_ _)); exact BK237.out⟩, ⟨by exact zh2_ HB.out GE236.out GE237.out⟩⟩
  case round =>
   clear H'
   try clear c1
   try clear p2
   try clear c3
   try clear c5
   try clear c9
   try clear c10
   try clear hcz11_0
   try clear hcz11_1
   try clear hcz11_2
   try clear hcz11_3
   try clear hcz12_0
   try clear hcz12_1
   try clear hcz12_2
   try clear hcz12_3
   try clear hfz11_0
   try clear hfz11_1
   try clear hfz11_2
   try clear hfz11_3
   try clear hfz12_0
   try clear hfz12_1
   try clear hfz12_2
   try clear hfz12_3
   (try clear BK236)
   (try clear BK237)
   obtain ⟨x10_1, rfl, HA, HK1, BK236, BK237, HB⟩ := hrel
   cases gk with
   | zero => exact absurd HA.out (by simp [ladinglaw06_NodeSame.l0])
   | succ k1 =>
    have H := HA.out
    clear HA
    simp only [ladinglaw06_NodeSame.l0] at H
    by_cases c13 : x10_1 < ji6
    ·rw [if_pos c13] at H
     have c13b0 : decide (x10_1 < ji6) = true := decide_eq_true c13
     clear c13
     have H' := Aside0.mk H
     clear H
     go_wp2
     go_loopg [11] k1 (fun kq v11 w' => ∃ (x11_2 : Int), v11 = .int .i64 x11_2 ∧ Aside0 (ladinglaw06_NodeSame.l1 kq l0 l1 a2 ji6 x10_1 x11_2 true true = some r) ∧ Aside0 (kq ≤ k1) ∧ Aside0 (w'.heap[gb236]? = some (.cells #[.bool true, (.slice none 0 0), (.slice none 0 0), (.slice none 0 0)] 26 (0, 0))) ∧ Aside0 (w'.heap[gb237]? = some (.cells #[.bool true, (.slice none 0 0), (.slice none 0 0), (.slice none 0 0)] 26 (0, 0))) ∧ Aside0 (Below w.heap.size w w'))
     case atStart => exact ⟨(0), (by first | rfl | (simp; done) | (simp [*]; done) | (simp only [i64_w]; done)), H', ⟨Nat.le_refl _⟩, ⟨by (with_reducible repeat (first | refine blk_drewN ?_ _ | refine blk_drew ?_ | refine blk_alloc ?_ _)); exact BK236.out⟩, ⟨by (with_reducible repeat (first | refine blk_drewN ?_ _ | refine blk_drew ?_ | refine blk_alloc ?_ _)); exact BK237.out⟩, ⟨by exact zh2_ HB.out GE236.out GE237.out⟩⟩
     case round =>
      clear H'
      try clear c1
      try clear p2
      try clear c3
      try clear c5
      try clear c9
      try clear c10
      try clear c13
      try clear c13b0
      try clear hcz11_0
      try clear hcz11_1
      try clear hcz11_2
      try clear hcz11_3
      try clear hcz12_0
      try clear hcz12_1
      try clear hcz12_2
      try clear hcz12_3
      try clear hfz11_0
      try clear hfz11_1
      try clear hfz11_2
      try clear hfz11_3
      try clear hfz12_0
      try clear hfz12_1
      try clear hfz12_2
      try clear hfz12_3
      try clear p2
      (try clear BK236)
      (try clear BK237)
      obtain ⟨x11_2, rfl, HA, HK2, BK236, BK237, HB⟩ := hrel
      cases gk with
      | zero => exact absurd HA.out (by simp [ladinglaw06_NodeSame.l1])
      | succ k2 =>
       have H := HA.out
       clear HA
       simp only [ladinglaw06_NodeSame.l1] at H
       by_cases c14 : x11_2 < x10_1
       ·rw [if_pos c14] at H
        have c14b0 : decide (x11_2 < x10_1) = true := decide_eq_true c14
        clear c14
        by_cases c15 : 0 ≤ x10_1
        ·rw [if_pos c15] at H
         have c15b0 : decide (0 ≤ x10_1) = true := decide_eq_true c15
         clear c15
         by_cases c16 : x10_1 < (l0.length : Int)
         ·rw [if_pos c16] at H
          have c16b0 : decide (x10_1 < (l0.length : Int)) = true := decide_eq_true c16
          clear c16
          by_cases c17 : 0 ≤ x11_2
          ·rw [if_pos c17] at H
           have c17b0 : decide (0 ≤ x11_2) = true := decide_eq_true c17
           clear c17
           by_cases c18 : x11_2 < (l0.length : Int)
           ·rw [if_pos c18] at H
            have c18b0 : decide (x11_2 < (l0.length : Int)) = true := decide_eq_true c18
            clear c18
            by_cases c19 : (strOfNums (rd_L1 l0 x10_1)).toList = (strOfNums (rd_L1 l0 x11_2)).toList
            ·rw [if_pos c19] at H
             have c19b0 : ((strOfNums (rd_L1 l0 x10_1)).toList == (strOfNums (rd_L1 l0 x11_2)).toList) = true := beq_iff_eq.mpr c19
             have c19b1 : ((strOfNums (rd_L1 l0 x10_1)).toList != (strOfNums (rd_L1 l0 x11_2)).toList) = false := bne_eq_false_iff_eq.mpr c19
             clear c19
             obtain rfl := Option.some.inj H
             try go_wp2
             have n0_ := Aside0.mk (blk_drew BK236.out)
             have n1_ := Aside0.mk (blk_drew BK237.out)
             have n2_ := Aside0.mk (below_drew1 HB.out)
             clear BK236
             clear BK237
             clear HB
             have BK236 := n0_
             have BK237 := n1_
             have HB := n2_
             clear n0_ n1_ n2_
             have p238 : 0 ≤ (x10_1 : Int) := of_decide_eq_true za_
             have q238 : x10_1 < (l0.length : Int) := of_decide_eq_true za_
             obtain ⟨ad238, A238_0, c238_0, e238, hx238_0, hl238_0, hi238_0⟩ := at_L1 HR0.out x10_1 p238 q238
             have hw238_0 := hx238_0
             cases e238
             replace hx238_0 := zx_ HB.out hx238_0
             have HR238_0 := Aside0.mk hi238_0
             have HC238_0 := Aside0.mk hl238_0
             clear hi238_0 hl238_0
             replace p238 := eq_true p238
             replace q238 := eq_true q238
             have p239 : 0 ≤ (x11_2 : Int) := of_decide_eq_true za_
             have q239 : x11_2 < (l0.length : Int) := of_decide_eq_true za_
             obtain ⟨ad239, A239_0, c239_0, e239, hx239_0, hl239_0, hi239_0⟩ := at_L1 HR0.out x11_2 p239 q239
             have hw239_0 := hx239_0
             obtain rfl : ad238 = ad239 := (by injection e239)
             replace hx239_0 := zx_ HB.out hx239_0
             have HR239_0 := Aside0.mk hi239_0
             have HC239_0 := Aside0.mk hl239_0
             clear hi239_0 hl239_0
             replace p239 := eq_true p239
             replace q239 := eq_true q239
             refine start_ (n := 11) (S := fun w' => w'.cell? (ad238.add (x10_1).toNat) = some (.slice A238_0 (rd_L1 l0 x10_1).length c238_0) ∧ (convert 27 9 (.slice A238_0 (rd_L1 l0 x10_1).length c238_0)).run Try.prog w' = .ok (.string (strOfNums (rd_L1 l0 x10_1))) w' ∧ w'.cell? (ad238.add (x11_2).toNat) = some (.slice A239_0 (rd_L1 l0 x11_2).length c239_0) ∧ (convert 27 9 (.slice A239_0 (rd_L1 l0 x11_2).length c239_0)).run Try.prog w' = .ok (.string (strOfNums (rd_L1 l0 x11_2))) w') (ds := []) (zB 0 11) (by kernel_rfl) rfl rfl ⟨((HB.out.cell (World.block_lt_of_cell? w _ hw238_0)).trans hw238_0), (Kd.C_string (P := Try.prog) (A := A238_0) (c := c238_0) Try.underlying27 Try.underlying5 Try.underlying9 (Kd.C_below HR238_0.out HB.out)), ((HB.out.cell (World.block_lt_of_cell? w _ hw239_0)).trans hw239_0), (Kd.C_string (P := Try.prog) (A := A239_0) (c := c239_0) Try.underlying27 Try.underlying5 Try.underlying9 (Kd.C_below HR239_0.out HB.out))⟩ (fun hHeld => ?_); refine with_tabW ladinglaw06_NodeSame.tab11 ladinglaw06_NodeSame.bits11 (fun HT_ HW_ => ?_)
             generalize wr.drew = w20 at BK236 BK237 HB HR238_0 HR239_0 hx238_0 hx239_0 hHeld ⊢
             refine pure_ (i := 0) (N := some 37) (v := ?_) (a' := ?_) (zB 1 10) rfl rfl (any_of HT_.out (by kernel_rfl)) (fun _ _ _ h => h) (Or.inl ⟨by rfl, ?_⟩) ?_ ?_
             rotate_left
             ·intro w'
              go_simp
              with_reducible rfl
             rotate_left
             ·simp only [Act.put, zt0, zt1, zt2, i64_w, i32_w]
              rfl
             refine pure_ (i := 1) (N := some 38) (v := ?_) (a' := ?_) (zB 2 9) rfl rfl (any_of HT_.out (by kernel_rfl)) (fun _ _ _ h => h) (Or.inl ⟨by rfl, ?_⟩) ?_ ?_
             rotate_left
             ·intro w'
              go_simp
              with_reducible rfl
             rotate_left
             ·simp only [Act.put, zt0, zt1, zt2, i64_w, i32_w]
              rfl
             refine pure_ (i := 2) (N := some 39) (v := ?_) (a' := ?_) (zB 3 8) rfl rfl (any_of HT_.out (by kernel_rfl)) (fun _ _ _ h => h) (Or.inl ⟨by rfl, ?_⟩) ?_ ?_
             rotate_left
             ·intro w'
              go_simp
              with_reducible rfl
             rotate_left
             ·simp only [Act.put, zt0, zt1, zt2, i64_w, i32_w]
              rfl
             refine pure_ (i := 5) (N := some 42) (v := ?_) (a' := ?_) #[true, true, true, false, false, true, false, false, false, false, false] rfl rfl (any_of HT_.out (by kernel_rfl)) (fun _ _ _ h => h) (Or.inl ⟨by rfl, ?_⟩) ?_ ?_
             rotate_left
             ·intro w'
              go_simp
              with_reducible rfl
             rotate_left
             ·simp only [Act.put, zt0, zt1, zt2, i64_w, i32_w]
              rfl
             refine pure_ (i := 6) (N := some 43) (v := ?_) (a' := ?_) #[true, true, true, false, false, true, true, false, false, false, false] rfl rfl (any_of HT_.out (by kernel_rfl)) (fun _ _ _ h => h) (Or.inl ⟨by rfl, ?_⟩) ?_ ?_
             rotate_left
             ·intro w'
              go_simp
              with_reducible rfl
             rotate_left
             ·simp only [Act.put, zt0, zt1, zt2, i64_w, i32_w]
              rfl
             refine pure_ (i := 7) (N := some 44) (v := ?_) (a' := ?_) #[true, true, true, false, false, true, true, true, false, false, false] rfl rfl (any_of HT_.out (by kernel_rfl)) (fun _ _ _ h => h) (Or.inl ⟨by rfl, ?_⟩) ?_ ?_
             rotate_left
             ·intro w'
              go_simp
              with_reducible rfl
             rotate_left
             ·simp only [Act.put, zt0, zt1, zt2, i64_w, i32_w]
              rfl
             refine take_ (i := 3) (N := some 40) (v := ?_) (a' := ?_) #[true, true, true, true, false, true, true, true, false, false, false] rfl rfl (take_ofW HT_.out HW_.out (by kernel_rfl)) (fun _ _ _ h => h) (Or.inl ⟨by rfl, ?_⟩) hHeld ?_ ?_
             rotate_left
             ·rintro w' ⟨s0, s1, s2, s3⟩
              go_simp
              with_reducible rfl
             rotate_left
             ·simp only [Act.put, zt0, zt1, zt2, i64_w, i32_w]
              rfl
             refine take_ (i := 4) (N := some 41) (v := ?_) (a' := ?_) (zB 8 3) rfl rfl (take_ofW HT_.out HW_.out (by kernel_rfl)) (fun _ _ _ h => h) (Or.inl ⟨by rfl, ?_⟩) hHeld ?_ ?_
             rotate_left
             ·rintro w' ⟨s0, s1, s2, s3⟩
              go_simp
              with_reducible rfl
             rotate_left
             ·simp only [Act.put, zt0, zt1, zt2, i64_w, i32_w]
              rfl
             refine take_ (i := 8) (N := some 45) (v := ?_) (a' := ?_) (zB 9 2) rfl rfl (take_ofW HT_.out HW_.out (by kernel_rfl)) (fun _ _ _ h => h) (Or.inl ⟨by rfl, ?_⟩) hHeld ?_ ?_
             rotate_left
             ·rintro w' ⟨s0, s1, s2, s3⟩
              go_simp
              with_reducible rfl
             rotate_left
             ·simp only [Act.put, zt0, zt1, zt2, i64_w, i32_w]
              rfl
             refine take_ (i := 9) (N := some 46) (v := ?_) (a' := ?_) (zB 10 1) rfl rfl (take_ofW HT_.out HW_.out (by kernel_rfl)) (fun _ _ _ h => h) (Or.inl ⟨by rfl, ?_⟩) hHeld ?_ ?_
             rotate_left
             ·rintro w' ⟨s0, s1, s2, s3⟩
              go_simp
              with_reducible rfl
             rotate_left
             ·simp only [Act.put, zt0, zt1, zt2, i64_w, i32_w]
              rfl
             refine pure_ (i := 10) (N := some 47) (v := ?_) (a' := ?_) (zB 11 0) rfl rfl (any_of HT_.out (by kernel_rfl)) (fun _ _ _ h => h) (Or.inl ⟨by rfl, ?_⟩) ?_ ?_
             rotate_left
             ·intro w'
              go_simp
              with_reducible rfl
             rotate_left
             ·simp only [Act.put, zt0, zt1, zt2, i64_w, i32_w]
              rfl
             refine done_ (done_of HT_.out (by kernel_rfl)) ?_
             try go_wp2
             go_ret
             exact ⟨by first | rfl | (simp [errW_none, errW_some] <;> rfl) | (simp only [← hji6]; first | rfl | (simp [errW_none, errW_some] <;> rfl)) | (simp [*, errW_none, errW_some] <;> rfl), by exact zh2_ HB.out GE236.out GE237.out⟩
            ·rw [if_neg c19] at H
             have c19b0 : ((strOfNums (rd_L1 l0 x10_1)).toList == (strOfNums (rd_L1 l0 x11_2)).toList) = false := beq_eq_false_iff_ne.mpr c19
             have c19b1 : ((strOfNums (rd_L1 l0 x10_1)).toList != (strOfNums (rd_L1 l0 x11_2)).toList) = true := bne_iff_ne.mpr c19
             have H' := Aside0.mk H
             clear H
             try go_wp2
             have n0_ := Aside0.mk (blk_drew BK236.out)
             have n1_ := Aside0.mk (blk_drew BK237.out)
             have n2_ := Aside0.mk (below_drew1 HB.out)
             clear BK236
             clear BK237
             clear HB
             have BK236 := n0_
             have BK237 := n1_
             have HB := n2_
             clear n0_ n1_ n2_
             have p238 : 0 ≤ (x10_1 : Int) := of_decide_eq_true za_
             have q238 : x10_1 < (l0.length : Int) := of_decide_eq_true za_
             obtain ⟨ad238, A238_0, c238_0, e238, hx238_0, hl238_0, hi238_0⟩ := at_L1 HR0.out x10_1 p238 q238
             have hw238_0 := hx238_0
             cases e238
             replace hx238_0 := zx_ HB.out hx238_0
             have HR238_0 := Aside0.mk hi238_0
             have HC238_0 := Aside0.mk hl238_0
             clear hi238_0 hl238_0
             replace p238 := eq_true p238
             replace q238 := eq_true q238
             have p239 : 0 ≤ (x11_2 : Int) := of_decide_eq_true za_
             have q239 : x11_2 < (l0.length : Int) := of_decide_eq_true za_
             obtain ⟨ad239, A239_0, c239_0, e239, hx239_0, hl239_0, hi239_0⟩ := at_L1 HR0.out x11_2 p239 q239
             have hw239_0 := hx239_0
             obtain rfl : ad238 = ad239 := (by injection e239)
             replace hx239_0 := zx_ HB.out hx239_0
             have HR239_0 := Aside0.mk hi239_0
             have HC239_0 := Aside0.mk hl239_0
             clear hi239_0 hl239_0
             replace p239 := eq_true p239
             replace q239 := eq_true q239
             refine start_ (n := 11) (S := fun w' => w'.cell? (ad238.add (x10_1).toNat) = some (.slice A238_0 (rd_L1 l0 x10_1).length c238_0) ∧ (convert 27 9 (.slice A238_0 (rd_L1 l0 x10_1).length c238_0)).run Try.prog w' = .ok (.string (strOfNums (rd_L1 l0 x10_1))) w' ∧ w'.cell? (ad238.add (x11_2).toNat) = some (.slice A239_0 (rd_L1 l0 x11_2).length c239_0) ∧ (convert 27 9 (.slice A239_0 (rd_L1 l0 x11_2).length c239_0)).run Try.prog w' = .ok (.string (strOfNums (rd_L1 l0 x11_2))) w') (ds := []) (zB 0 11) (by kernel_rfl) rfl rfl ⟨((HB.out.cell (World.block_lt_of_cell? w _ hw238_0)).trans hw238_0), (Kd.C_string (P := Try.prog) (A := A238_0) (c := c238_0) Try.underlying27 Try.underlying5 Try.underlying9 (Kd.C_below HR238_0.out HB.out)), ((HB.out.cell (World.block_lt_of_cell? w _ hw239_0)).trans hw239_0), (Kd.C_string (P := Try.prog) (A := A239_0) (c := c239_0) Try.underlying27 Try.underlying5 Try.underlying9 (Kd.C_below HR239_0.out HB.out))⟩ (fun hHeld => ?_); refine with_tabW ladinglaw06_NodeSame.tab11 ladinglaw06_NodeSame.bits11 (fun HT_ HW_ => ?_)
             generalize wr.drew = w21 at BK236 BK237 HB HR238_0 HR239_0 hx238_0 hx239_0 hHeld ⊢
             refine pure_ (i := 0) (N := some 37) (v := ?_) (a' := ?_) (zB 1 10) rfl rfl (any_of HT_.out (by kernel_rfl)) (fun _ _ _ h => h) (Or.inl ⟨by rfl, ?_⟩) ?_ ?_
             rotate_left
             ·intro w'
              go_simp
              with_reducible rfl
             rotate_left
             ·simp only [Act.put, zt0, zt1, zt2, i64_w, i32_w]
              rfl
             refine pure_ (i := 1) (N := some 38) (v := ?_) (a' := ?_) (zB 2 9) rfl rfl (any_of HT_.out (by kernel_rfl)) (fun _ _ _ h => h) (Or.inl ⟨by rfl, ?_⟩) ?_ ?_
             rotate_left
             ·intro w'
              go_simp
              with_reducible rfl
             rotate_left
             ·simp only [Act.put, zt0, zt1, zt2, i64_w, i32_w]
              rfl
             refine pure_ (i := 2) (N := some 39) (v := ?_) (a' := ?_) (zB 3 8) rfl rfl (any_of HT_.out (by kernel_rfl)) (fun _ _ _ h => h) (Or.inl ⟨by rfl, ?_⟩) ?_ ?_
             rotate_left
             ·intro w'
              go_simp
              with_reducible rfl
             rotate_left
             ·simp only [Act.put, zt0, zt1, zt2, i64_w, i32_w]
              rfl
             refine pure_ (i := 5) (N := some 42) (v := ?_) (a' := ?_) #[true, true, true, false, false, true, false, false, false, false, false] rfl rfl (any_of HT_.out (by kernel_rfl)) (fun _ _ _ h => h) (Or.inl ⟨by rfl, ?_⟩) ?_ ?_
             rotate_left
             ·intro w'
              go_simp
              with_reducible rfl
             rotate_left
             ·simp only [Act.put, zt0, zt1, zt2, i64_w, i32_w]
              rfl
             refine pure_ (i := 6) (N := some 43) (v := ?_) (a' := ?_) #[true, true, true, false, false, true, true, false, false, false, false] rfl rfl (any_of HT_.out (by kernel_rfl)) (fun _ _ _ h => h) (Or.inl ⟨by rfl, ?_⟩) ?_ ?_
             rotate_left
             ·intro w'
              go_simp
              with_reducible rfl
             rotate_left
             ·simp only [Act.put, zt0, zt1, zt2, i64_w, i32_w]
              rfl
             refine pure_ (i := 7) (N := some 44) (v := ?_) (a' := ?_) #[true, true, true, false, false, true, true, true, false, false, false] rfl rfl (any_of HT_.out (by kernel_rfl)) (fun _ _ _ h => h) (Or.inl ⟨by rfl, ?_⟩) ?_ ?_
             rotate_left
             ·intro w'
              go_simp
              with_reducible rfl
             rotate_left
             ·simp only [Act.put, zt0, zt1, zt2, i64_w, i32_w]
              rfl
             refine take_ (i := 3) (N := some 40) (v := ?_) (a' := ?_) #[true, true, true, true, false, true, true, true, false, false, false] rfl rfl (take_ofW HT_.out HW_.out (by kernel_rfl)) (fun _ _ _ h => h) (Or.inl ⟨by rfl, ?_⟩) hHeld ?_ ?_
             rotate_left
             ·rintro w' ⟨s0, s1, s2, s3⟩
              go_simp
              with_reducible rfl
             rotate_left
             ·simp only [Act.put, zt0, zt1, zt2, i64_w, i32_w]
              rfl
             refine take_ (i := 4) (N := some 41) (v := ?_) (a' := ?_) (zB 8 3) rfl rfl (take_ofW HT_.out HW_.out (by kernel_rfl)) (fun _ _ _ h => h) (Or.inl ⟨by rfl, ?_⟩) hHeld ?_ ?_
             rotate_left
             ·rintro w' ⟨s0, s1, s2, s3⟩
              go_simp
              with_reducible rfl
             rotate_left
             ·simp only [Act.put, zt0, zt1, zt2, i64_w, i32_w]
              rfl
             refine take_ (i := 8) (N := some 45) (v := ?_) (a' := ?_) (zB 9 2) rfl rfl (take_ofW HT_.out HW_.out (by kernel_rfl)) (fun _ _ _ h => h) (Or.inl ⟨by rfl, ?_⟩) hHeld ?_ ?_
             rotate_left
             ·rintro w' ⟨s0, s1, s2, s3⟩
              go_simp
              with_reducible rfl
             rotate_left
             ·simp only [Act.put, zt0, zt1, zt2, i64_w, i32_w]
              rfl
             refine take_ (i := 9) (N := some 46) (v := ?_) (a' := ?_) (zB 10 1) rfl rfl (take_ofW HT_.out HW_.out (by kernel_rfl)) (fun _ _ _ h => h) (Or.inl ⟨by rfl, ?_⟩) hHeld ?_ ?_
             rotate_left
             ·rintro w' ⟨s0, s1, s2, s3⟩
              go_simp
              with_reducible rfl
             rotate_left
             ·simp only [Act.put, zt0, zt1, zt2, i64_w, i32_w]
              rfl
             refine pure_ (i := 10) (N := some 47) (v := ?_) (a' := ?_) (zB 11 0) rfl rfl (any_of HT_.out (by kernel_rfl)) (fun _ _ _ h => h) (Or.inl ⟨by rfl, ?_⟩) ?_ ?_
             rotate_left
             ·intro w'
              go_simp
              with_reducible rfl
             rotate_left
             ·simp only [Act.put, zt0, zt1, zt2, i64_w, i32_w]
              rfl
             refine done_ (done_of HT_.out (by kernel_rfl)) ?_
             try go_wp2
             go_roundg k2
             case measure => have := HK1.out; have := HK2.out; omega
             case rel => exact ⟨(wrap64 (x11_2 + 1)), (by first | rfl | (simp; done) | (simp [*]; done) | (simp only [i64_w]; done)), H', ⟨by have := HK1.out; have := HK2.out; omega⟩, ⟨by (with_reducible repeat (first | refine blk_drewN ?_ _ | refine blk_drew ?_ | refine blk_alloc ?_ _)); exact BK236.out⟩, ⟨by (with_reducible repeat (first | refine blk_drewN ?_ _ | refine blk_drew ?_ | refine blk_alloc ?_ _)); exact BK237.out⟩, ⟨by exact zh2_ HB.out GE236.out GE237.out⟩⟩
           ·rw [if_neg c18] at H
            exact absurd H (by simp)
          ·rw [if_neg c17] at H
           exact absurd H (by simp)
         ·rw [if_neg c16] at H
          exact absurd H (by simp)
        ·rw [if_neg c15] at H
         exact absurd H (by simp)
       ·rw [if_neg c14] at H
        have c14b0 : decide (x11_2 < x10_1) = false := decide_eq_false c14
        clear c14
        have H' := Aside0.mk H
        clear H
        go_wp2
        go_roundg k2
        case measure => have := HK1.out; have := HK2.out; omega
        case rel => exact ⟨(wrap64 (x10_1 + 1)), (by first | rfl | (simp; done) | (simp [*]; done) | (simp only [i64_w]; done)), H', ⟨by have := HK1.out; have := HK2.out; omega⟩, ⟨by (with_reducible repeat (first | refine blk_drewN ?_ _ | refine blk_drew ?_ | refine blk_alloc ?_ _)); exact BK236.out⟩, ⟨by (with_reducible repeat (first | refine blk_drewN ?_ _ | refine blk_drew ?_ | refine blk_alloc ?_ _)); exact BK237.out⟩, ⟨by exact zh2_ HB.out GE236.out GE237.out⟩⟩
    ·rw [if_neg c13] at H
     have c13b0 : decide (x10_1 < ji6) = false := decide_eq_false c13
     clear c13
     have H' := Aside0.mk H
     clear H
     go_wp2
     go_loopg [12] k1 (fun kq v12 w' => ∃ (x12_2 : Int) (x237000_2 : Bool) (x237001_2 : List (List Int)) (x237002_2 : List (List Int)) (x237003_2 : List Int) (x238000_2 : Bool) (x238001_2 : List (List Int)) (x238002_2 : List (List Int)) (x238003_2 : List Int) (u237001 : Value) (u237002 : Value) (u237003 : Value) (u238001 : Value) (u238002 : Value) (u238003 : Value), v12 = .int .i64 x12_2 ∧ Aside0 (ladinglaw06_NodeSame.l2 kq l0 l1 a2 ji6 x12_2 x237000_2 x237001_2 x237002_2 x237003_2 x238000_2 x238001_2 x238002_2 x238003_2 = some r) ∧ Aside0 (kq ≤ k1) ∧ Aside0 (Kd.V (Kd.slice 5 (Kd.int .u8)) 27 w' w.heap.size (fun k_ => k_ ≠ gb236 ∧ k_ ≠ gb237) u237001 x237001_2) ∧ Aside0 (Kd.V (Kd.slice 5 (Kd.int .u8)) 27 w' w.heap.size (fun k_ => k_ ≠ gb236 ∧ k_ ≠ gb237) u237002 x237002_2) ∧ Aside0 (Kd.V (Kd.int .i64) 3 w' w.heap.size (fun k_ => k_ ≠ gb236 ∧ k_ ≠ gb237) u237003 x237003_2) ∧ Aside0 (Kd.V (Kd.slice 5 (Kd.int .u8)) 27 w' w.heap.size (fun k_ => k_ ≠ gb236 ∧ k_ ≠ gb237) u238001 x238001_2) ∧ Aside0 (Kd.V (Kd.slice 5 (Kd.int .u8)) 27 w' w.heap.size (fun k_ => k_ ≠ gb236 ∧ k_ ≠ gb237) u238002 x238002_2) ∧ Aside0 (Kd.V (Kd.int .i64) 3 w' w.heap.size (fun k_ => k_ ≠ gb236 ∧ k_ ≠ gb237) u238003 x238003_2) ∧ Aside0 (w'.heap[gb236]? = some (.cells #[.bool x237000_2, u237001, u237002, u237003] 26 (0, 0))) ∧ Aside0 (w'.heap[gb237]? = some (.cells #[.bool x238000_2, u238001, u238002, u238003] 26 (0, 0))) ∧ Aside0 (Below w.heap.size w w'))
     case atStart => exact ⟨(0), (true), (([] : List (List Int))), (([] : List (List Int))), (([] : List Int)), (true), (([] : List (List Int))), (([] : List (List Int))), (([] : List Int)), (.slice none 0 0), (.slice none 0 0), (.slice none 0 0), (.slice none 0 0), (.slice none 0 0), (.slice none 0 0), (by first | rfl | (simp; done) | (simp [*]; done) | (simp only [i64_w]; done)), H', ⟨Nat.le_refl _⟩, ⟨by first | exact Kd.S_nil _ _ _ _ _ | exact Kd.N_nil _ _ _ _ _ | exact Kd.V_nil _ _ _ _ _ | exact Kd.Q_nil _ _ _ _ _ | exact Kd.R_nil _ _ _ _ _⟩, ⟨by first | exact Kd.S_nil _ _ _ _ _ | exact Kd.N_nil _ _ _ _ _ | exact Kd.V_nil _ _ _ _ _ | exact Kd.Q_nil _ _ _ _ _ | exact Kd.R_nil _ _ _ _ _⟩, ⟨by first | exact Kd.R_nil _ _ _ _ _ | exact Kd.N_nil _ _ _ _ _ | exact Kd.V_nil _ _ _ _ _ | exact Kd.Q_nil _ _ _ _ _ | exact Kd.S_nil _ _ _ _ _⟩, ⟨by first | exact Kd.S_nil _ _ _ _ _ | exact Kd.N_nil _ _ _ _ _ | exact Kd.V_nil _ _ _ _ _ | exact Kd.Q_nil _ _ _ _ _ | exact Kd.R_nil _ _ _ _ _⟩, ⟨by first | exact Kd.S_nil _ _ _ _ _ | exact Kd.N_nil _ _ _ _ _ | exact Kd.V_nil _ _ _ _ _ | exact Kd.Q_nil _ _ _ _ _ | exact Kd.R_nil _ _ _ _ _⟩, ⟨by first | exact Kd.R_nil _ _ _ _ _ | exact Kd.N_nil _ _ _ _ _ | exact Kd.V_nil _ _ _ _ _ | exact Kd.Q_nil _ _ _ _ _ | exact Kd.S_nil _ _ _ _ _⟩, ⟨by (with_reducible repeat (first | refine blk_drewN ?_ _ | refine blk_drew ?_ | refine blk_alloc ?_ _)); exact BK236.out⟩, ⟨by (with_reducible repeat (first | refine blk_drewN ?_ _ | refine blk_drew ?_ | refine blk_alloc ?_ _)); exact BK237.out⟩, ⟨by exact zh2_ HB.out GE236.out GE237.out⟩⟩
     case round =>
      clear H'
      try clear c1
      try clear c2
      try clear p2
      try clear q2
      try clear hx2
      try clear c3
      try clear c5
      try clear p6
      try clear c9
      try clear c10
      try clear c13
      try clear c13b0
      try clear c14
      try clear c14b0
      try clear c15
      try clear c15b0
      try clear c16
      try clear c16b0
      try clear c17
      try clear c17b0
      try clear c18
      try clear c18b0
      try clear c19
      try clear c19b0
      try clear c19b1
      try clear hcz11_0
      try clear hcz11_1
      try clear hcz11_2
      try clear hcz11_3
      try clear hcz12_0
      try clear hcz12_1
      try clear hcz12_2
      try clear hcz12_3
      try clear hfz11_0
      try clear hfz11_1
      try clear hfz11_2
      try clear hfz11_3
      try clear hfz12_0
      try clear hfz12_1
      try clear hfz12_2
      try clear hfz12_3
      try clear hx238_0
      try clear hx239_0
      try clear p2
      try clear p238
      try clear p239
      try clear q238
      try clear q239
      (try clear BK236)
      (try clear BK237)
      obtain ⟨x12_2, x237000_2, x237001_2, x237002_2, x237003_2, x238000_2, x238001_2, x238002_2, x238003_2, u237001, u237002, u237003, u238001, u238002, u238003, rfl, HA, HK2, HO_237001, HO_237002, HO_237003, HO_238001, HO_238002, HO_238003, BK236, BK237, HB⟩ := hrel
      cases gk with
      | zero => exact absurd HA.out (by simp [ladinglaw06_NodeSame.l2])
      | succ k2 =>
       have H := HA.out
       clear HA
       simp only [ladinglaw06_NodeSame.l2] at H
       by_cases c22 : x12_2 < ji6
       ·rw [if_pos c22] at H
        have c22b0 : decide (x12_2 < ji6) = true := decide_eq_true c22
        clear c22
        by_cases c23 : ji6 = 0
        ·rw [if_pos c23] at H
         exact absurd H (by simp)
        ·rw [if_neg c23] at H
         have c23b0 : (ji6 == 0) = false := beq_eq_false_iff_ne.mpr c23
         have c23b1 : (ji6 != 0) = true := bne_iff_ne.mpr c23
         by_cases c24 : 0 ≤ x12_2
         ·rw [if_pos c24] at H
          have c24b0 : decide (0 ≤ x12_2) = true := decide_eq_true c24
          clear c24
          by_cases c25 : x12_2 < (l0.length : Int)
          ·rw [if_pos c25] at H
           have c25b0 : decide (x12_2 < (l0.length : Int)) = true := decide_eq_true c25
           clear c25
           by_cases c26 : x12_2 < (l1.length : Int)
           ·rw [if_pos c26] at H
            have c26b0 : decide (x12_2 < (l1.length : Int)) = true := decide_eq_true c26
            clear c26
            replace H := Option.bind_eq_some_iff.mp H
            obtain ⟨⟨t243, t244, t247, t250, t253⟩, A270, H⟩ := H
            replace H : (if 0 ≤ (Int.tmod (wrap64 ((wrap64 (x12_2 + (Int.tmod a2 ji6))) + ji6)) ji6) then (if (Int.tmod (wrap64 ((wrap64 (x12_2 + (Int.tmod a2 ji6))) + ji6)) ji6) < (l0.length : Int) then (if (Int.tmod (wrap64 ((wrap64 (x12_2 + (Int.tmod a2 ji6))) + ji6)) ji6) < (l1.length : Int) then ((node_Put.f k2 x238000_2 x238001_2 x238002_2 x238003_2 (rd_L1 l0 (Int.tmod (wrap64 ((wrap64 (x12_2 + (Int.tmod a2 ji6))) + ji6)) ji6)) (rd_L1 l1 (Int.tmod (wrap64 ((wrap64 (x12_2 + (Int.tmod a2 ji6))) + ji6)) ji6))).bind fun bt257 => (if t253 = 0 then (if bt257.2.2.2.2 = 0 then (ladinglaw06_NodeSame.l2 k2 l0 l1 a2 ji6 (wrap64 (x12_2 + 1)) t243 t244 t247 t250 bt257.1 bt257.2.1 bt257.2.2.1 bt257.2.2.2.1) else (some true)) else (some true))) else (none)) else (none)) else (none)) = some r := H
            have A27 := Aside0.mk A270
            clear A270
            obtain ⟨ji28, hji28⟩ : ∃ j_ : Int, (Int.tmod (wrap64 ((wrap64 (x12_2 + (Int.tmod a2 ji6))) + ji6)) ji6) = j_ := ⟨_, rfl⟩
            replace H : (if 0 ≤ (ji28) then (if (ji28) < (l0.length : Int) then (if (ji28) < (l1.length : Int) then ((node_Put.f k2 x238000_2 x238001_2 x238002_2 x238003_2 (rd_L1 l0 (ji28)) (rd_L1 l1 (ji28))).bind fun bt257 => (if t253 = 0 then (if bt257.2.2.2.2 = 0 then (ladinglaw06_NodeSame.l2 k2 l0 l1 a2 ji6 (wrap64 (x12_2 + 1)) t243 t244 t247 t250 bt257.1 bt257.2.1 bt257.2.2.1 bt257.2.2.2.1) else (some true)) else (some true))) else (none)) else (none)) else (none)) = some r := by first | (rw [hji28] at H; exact H) | (simp only [hji28] at H ⊢; exact H)
            (try rw [hji28] at A27)
            by_cases c29 : 0 ≤ (ji28)
            ·rw [if_pos c29] at H
             have c29b0 : decide (0 ≤ (ji28)) = true := decide_eq_true c29
             clear c29
             by_cases c30 : (ji28) < (l0.length : Int)
             ·rw [if_pos c30] at H
              have c30b0 : decide ((ji28) < (l0.length : Int)) = true := decide_eq_true c30
              clear c30
              by_cases c31 : (ji28) < (l1.length : Int)
              ·rw [if_pos c31] at H
               have c31b0 : decide ((ji28) < (l1.length : Int)) = true := decide_eq_true c31
               clear c31
               replace H := Option.bind_eq_some_iff.mp H
               obtain ⟨⟨t257, t258, t261, t264, t267⟩, A320, H⟩ := H
               replace H : (if t253 = 0 then (if t267 = 0 then (ladinglaw06_NodeSame.l2 k2 l0 l1 a2 ji6 (wrap64 (x12_2 + 1)) t243 t244 t247 t250 t257 t258 t261 t264) else (some true)) else (some true)) = some r := H
               have A32 := Aside0.mk A320
               clear A320
               have H0_ := Aside0.mk H
               clear H
               obtain ⟨Ao103, co103, eo103⟩ := Kd.V_slice HO_237001.out
               subst eo103
               obtain ⟨Ao104, co104, eo104⟩ := Kd.V_slice HO_237002.out
               subst eo104
               obtain ⟨Ao105, co105, eo105⟩ := Kd.V_slice HO_237003.out
               subst eo105
               try go_wp2
               have n0_ := Aside0.mk (Kd.V_drew HO_237001.out)
               have n1_ := Aside0.mk (Kd.V_drew HO_237002.out)
               have n2_ := Aside0.mk (Kd.V_drew HO_237003.out)
               have n3_ := Aside0.mk (Kd.V_drew HO_238001.out)
               have n4_ := Aside0.mk (Kd.V_drew HO_238002.out)
               have n5_ := Aside0.mk (Kd.V_drew HO_238003.out)
               have n6_ := Aside0.mk (blk_drew BK236.out)
               have n7_ := Aside0.mk (blk_drew BK237.out)
               have n8_ := Aside0.mk (below_drew1 HB.out)
               clear HO_237001
               clear HO_237002
               clear HO_237003
               clear HO_238001
               clear HO_238002
               clear HO_238003
               clear BK236
               clear BK237
               clear HB
               have HO_237001 := n0_
               have HO_237002 := n1_
               have HO_237003 := n2_
               have HO_238001 := n3_
               have HO_238002 := n4_
               have HO_238003 := n5_
               have BK236 := n6_
               have BK237 := n7_
               have HB := n8_
               clear n0_ n1_ n2_ n3_ n4_ n5_ n6_ n7_ n8_
               have p241 : 0 ≤ (x12_2 : Int) := of_decide_eq_true za_
               have q241 : x12_2 < (l0.length : Int) := of_decide_eq_true za_
               obtain ⟨ad241, A241_0, c241_0, e241, hx241_0, hl241_0, hi241_0⟩ := at_L1 HR0.out x12_2 p241 q241
               have hw241_0 := hx241_0
               cases e241
               replace hx241_0 := zx_ HB.out hx241_0
               have HR241_0 := Aside0.mk hi241_0
               have HC241_0 := Aside0.mk hl241_0
               clear hi241_0 hl241_0
               replace p241 := eq_true p241
               replace q241 := eq_true q241
               have p242 : 0 ≤ (x12_2 : Int) := of_decide_eq_true za_
               have q242 : x12_2 < (l1.length : Int) := of_decide_eq_true za_
               obtain ⟨ad242, A242_0, c242_0, e242, hx242_0, hl242_0, hi242_0⟩ := at_L1 HR1.out x12_2 p242 q242
               have hw242_0 := hx242_0
               cases e242
               replace hx242_0 := zx_ HB.out hx242_0
               have HR242_0 := Aside0.mk hi242_0
               have HC242_0 := Aside0.mk hl242_0
               clear hi242_0 hl242_0
               replace p242 := eq_true p242
               replace q242 := eq_true q242
               refine start_ (n := 16) (S := fun w' => w'.cell? ⟨gb236, 0, none⟩ = some (.bool x237000_2) ∧ w'.cell? ⟨gb236, 1, none⟩ = some (.slice Ao103 x237001_2.length co103) ∧ w'.cell? ⟨gb236, 2, none⟩ = some (.slice Ao104 x237002_2.length co104) ∧ w'.cell? ⟨gb236, 3, none⟩ = some (.slice Ao105 x237003_2.length co105) ∧ w'.cell? (ad241.add (x12_2).toNat) = some (.slice A241_0 (rd_L1 l0 x12_2).length c241_0) ∧ w'.cell? (ad242.add (x12_2).toNat) = some (.slice A242_0 (rd_L1 l1 x12_2).length c242_0)) (ds := []) (zB 0 16) (by kernel_rfl) rfl rfl ⟨(blk_cell BK236.out 0).trans rfl, (blk_cell BK236.out 1).trans rfl, (blk_cell BK236.out 2).trans rfl, (blk_cell BK236.out 3).trans rfl, ((HB.out.cell (World.block_lt_of_cell? w _ hw241_0)).trans hw241_0), ((HB.out.cell (World.block_lt_of_cell? w _ hw242_0)).trans hw242_0)⟩ (fun hHeld => ?_); refine with_tabW ladinglaw06_NodeSame.tab17 ladinglaw06_NodeSame.bits17 (fun HT_ HW_ => ?_)
               generalize wr.drew = w106 at HO_237001 HO_237002 HO_237003 HO_238001 HO_238002 HO_238003 BK236 BK237 HB HR241_0 HR242_0 hx241_0 hx242_0 hHeld ⊢
               refine pure_ (i := 1) (N := some 64) (v := ?_) (a' := ?_) #[false, true, false, false, false, false, false, false, false, false, false, false, false, false, false, false] rfl rfl (any_of HT_.out (by kernel_rfl)) (fun _ _ _ h => h) (Or.inl ⟨by rfl, ?_⟩) ?_ ?_
               rotate_left
               ·intro w'
                go_simp
                with_reducible rfl
               rotate_left
               ·simp only [Act.put, zt0, zt1, zt2, i64_w, i32_w]
                rfl
               refine pure_ (i := 2) (N := some 65) (v := ?_) (a' := ?_) #[false, true, true, false, false, false, false, false, false, false, false, false, false, false, false, false] rfl rfl (any_of HT_.out (by kernel_rfl)) (fun _ _ _ h => h) (Or.inl ⟨by rfl, ?_⟩) ?_ ?_
               rotate_left
               ·intro w'
                go_simp
                with_reducible rfl
               rotate_left
               ·simp only [Act.put, zt0, zt1, zt2, i64_w, i32_w]
                rfl
               refine pure_ (i := 3) (N := some 66) (v := ?_) (a' := ?_) #[false, true, true, true, false, false, false, false, false, false, false, false, false, false, false, false] rfl rfl (any_of HT_.out (by kernel_rfl)) (fun _ _ _ h => h) (Or.inl ⟨by rfl, ?_⟩) ?_ ?_
               rotate_left
               ·intro w'
                go_simp
                with_reducible rfl
               rotate_left
               ·simp only [Act.put, zt0, zt1, zt2, i64_w, i32_w]
                rfl
               refine pure_ (i := 5) (N := some 68) (v := ?_) (a' := ?_) #[false, true, true, true, false, true, false, false, false, false, false, false, false, false, false, false] rfl rfl (any_of HT_.out (by kernel_rfl)) (fun _ _ _ h => h) (Or.inl ⟨by rfl, ?_⟩) ?_ ?_
               rotate_left
               ·intro w'
                go_simp
                with_reducible rfl
               rotate_left
               ·simp only [Act.put, zt0, zt1, zt2, i64_w, i32_w]
                rfl
               refine pure_ (i := 6) (N := some 69) (v := ?_) (a' := ?_) #[false, true, true, true, false, true, true, false, false, false, false, false, false, false, false, false] rfl rfl (any_of HT_.out (by kernel_rfl)) (fun _ _ _ h => h) (Or.inl ⟨by rfl, ?_⟩) ?_ ?_
               rotate_left
               ·intro w'
                go_simp
                with_reducible rfl
               rotate_left
               ·simp only [Act.put, zt0, zt1, zt2, i64_w, i32_w]
                rfl
               refine pure_ (i := 7) (N := some 70) (v := ?_) (a' := ?_) #[false, true, true, true, false, true, true, true, false, false, false, false, false, false, false, false] rfl rfl (any_of HT_.out (by kernel_rfl)) (fun _ _ _ h => h) (Or.inl ⟨by rfl, ?_⟩) ?_ ?_
               rotate_left
               ·intro w'
                go_simp
                with_reducible rfl
               rotate_left
               ·simp only [Act.put, zt0, zt1, zt2, i64_w, i32_w]
                rfl
               refine take_ (i := 0) (N := some 63) (v := ?_) (a' := ?_) #[true, true, true, true, false, true, true, true, false, false, false, false, false, false, false, false] rfl rfl (take_ofW HT_.out HW_.out (by kernel_rfl)) (fun _ _ _ h => h) (Or.inl ⟨by rfl, ?_⟩) hHeld ?_ ?_
               rotate_left
               ·rintro w' ⟨s0, s1, s2, s3, s4, s5⟩
                go_simp
                with_reducible rfl
               rotate_left
               ·simp only [Act.put, zt0, zt1, zt2, i64_w, i32_w]
                rfl
               refine take_ (i := 4) (N := some 67) (v := ?_) (a' := ?_) (zB 8 8) rfl rfl (take_ofW HT_.out HW_.out (by kernel_rfl)) (fun _ _ _ h => h) (Or.inl ⟨by rfl, ?_⟩) hHeld ?_ ?_
               rotate_left
               ·rintro w' ⟨s0, s1, s2, s3, s4, s5⟩
                go_simp
                with_reducible rfl
               rotate_left
               ·simp only [Act.put, zt0, zt1, zt2, i64_w, i32_w]
                rfl
               refine take_ (i := 8) (N := some 71) (v := ?_) (a' := ?_) (zB 9 7) rfl rfl (take_ofW HT_.out HW_.out (by kernel_rfl)) (fun _ _ _ h => h) (Or.inl ⟨by rfl, ?_⟩) hHeld ?_ ?_
               rotate_left
               ·rintro w' ⟨s0, s1, s2, s3, s4, s5⟩
                go_simp
                with_reducible rfl
               rotate_left
               ·simp only [Act.put, zt0, zt1, zt2, i64_w, i32_w]
                rfl
               refine join_ (σ := Value × Value × Value × Nat) 2 (zB 14 2) (fun s_ => [(72, .tuple #[.agg #[.bool t243, s_.1, s_.2.1, s_.2.2.1], .int .i64 t253]), (14, .pointer (some ⟨s_.2.2.2, 0, none⟩)), (62, .tuple #[.agg #[.bool t243, s_.1, s_.2.1, s_.2.2.1], .int .i64 t253]), (73, .agg #[.bool t243, s_.1, s_.2.1, s_.2.2.1]), (74, .int .i64 t253)]) (fun s_ w' => (w'.cell? ⟨gb236, 0, none⟩ = some (.bool x237000_2) ∧ w'.cell? ⟨gb236, 1, none⟩ = some (.slice Ao103 x237001_2.length co103) ∧ w'.cell? ⟨gb236, 2, none⟩ = some (.slice Ao104 x237002_2.length co104) ∧ w'.cell? ⟨gb236, 3, none⟩ = some (.slice Ao105 x237003_2.length co105) ∧ w'.cell? (ad241.add (x12_2).toNat) = some (.slice A241_0 (rd_L1 l0 x12_2).length c241_0) ∧ w'.cell? (ad242.add (x12_2).toNat) = some (.slice A242_0 (rd_L1 l1 x12_2).length c242_0)) ∧ (Kd.V (Kd.slice 5 (Kd.int .u8)) 27 w' w.heap.size (fun k_ => k_ ≠ gb236 ∧ k_ ≠ gb237 ∧ k_ ≠ s_.2.2.2) s_.1 t244) ∧ (Kd.V (Kd.slice 5 (Kd.int .u8)) 27 w' w.heap.size (fun k_ => k_ ≠ gb236 ∧ k_ ≠ gb237 ∧ k_ ≠ s_.2.2.2) s_.2.1 t247) ∧ (Kd.V (Kd.int .i64) 3 w' w.heap.size (fun k_ => k_ ≠ gb236 ∧ k_ ≠ gb237 ∧ k_ ≠ s_.2.2.2) s_.2.2.1 t250) ∧ (Kd.V (Kd.slice 5 (Kd.int .u8)) 27 w' w.heap.size (fun k_ => k_ ≠ gb236 ∧ k_ ≠ gb237 ∧ k_ ≠ s_.2.2.2) (.slice Ao103 x237001_2.length co103) x237001_2) ∧ (Kd.V (Kd.slice 5 (Kd.int .u8)) 27 w' w.heap.size (fun k_ => k_ ≠ gb236 ∧ k_ ≠ gb237 ∧ k_ ≠ s_.2.2.2) (.slice Ao104 x237002_2.length co104) x237002_2) ∧ (Kd.V (Kd.int .i64) 3 w' w.heap.size (fun k_ => k_ ≠ gb236 ∧ k_ ≠ gb237 ∧ k_ ≠ s_.2.2.2) (.slice Ao105 x237003_2.length co105) x237003_2) ∧ (Kd.V (Kd.slice 5 (Kd.int .u8)) 27 w' w.heap.size (fun k_ => k_ ≠ gb236 ∧ k_ ≠ gb237 ∧ k_ ≠ s_.2.2.2) u238001 x238001_2) ∧ (Kd.V (Kd.slice 5 (Kd.int .u8)) 27 w' w.heap.size (fun k_ => k_ ≠ gb236 ∧ k_ ≠ gb237 ∧ k_ ≠ s_.2.2.2) u238002 x238002_2) ∧ (Kd.V (Kd.int .i64) 3 w' w.heap.size (fun k_ => k_ ≠ gb236 ∧ k_ ≠ gb237 ∧ k_ ≠ s_.2.2.2) u238003 x238003_2) ∧ (w'.heap[gb236]? = some (.cells #[.bool x237000_2, .slice Ao103 x237001_2.length co103, .slice Ao104 x237002_2.length co104, .slice Ao105 x237003_2.length co105] 26 (0, 0))) ∧ (w'.heap[gb237]? = some (.cells #[.bool x238000_2, u238001, u238002, u238003] 26 (0, 0))) ∧ (w'.heap[s_.2.2.2]? = some (.cells #[.bool false, .slice none 0 0, .slice none 0 0, .slice none 0 0] 26 (0, 0))) ∧ (w.heap.size ≤ s_.2.2.2) ∧ (w.heap.size ≤ s_.2.2.2) ∧ (gb236 ≠ s_.2.2.2) ∧ (s_.2.2.2 ≠ gb236) ∧ (gb237 ≠ s_.2.2.2) ∧ (s_.2.2.2 ≠ gb237) ∧ (Below w.heap.size w w')) ?_ ?_
               rotate_left
               ·intro hCont
                refine two_ (i := 9) (j := 13) (Ni := some 72) (Nj := some 14) (zB 10 6) #[true, true, true, true, true, true, true, true, true, false, false, false, false, true, false, false] rfl rfl rfl rfl (two_of HT_.out (by kernel_rfl)) (by decide) (by decide) (fun K hK => ?_) (fun K hK => ?_)
                ·skip
                 refine goes_ Try.func10 (by kernel_rfl) rfl #[.agg #[.bool x237000_2, .slice Ao103 x237001_2.length co103, .slice Ao104 x237002_2.length co104, .slice Ao105 x237003_2.length co105], .slice A241_0 (rd_L1 l0 x12_2).length c241_0, .slice A242_0 (rd_L1 l1 x12_2).length c242_0] (by rfl) rfl rfl zl_ ?_
                 with_reducible refine (node_Put.calls k2 x237000_2 _ _ x237001_2 _ _ x237002_2 _ _ x237003_2 _ _ (rd_L1 l0 x12_2) _ _ (rd_L1 l1 x12_2) t243 t244 t247 t250 t253 _ ?side1 ?side2 ?side3 ?side4 ?side5 ?side6 ?side7 ?side8 ?side9 ?side10 A27.out).mono ?_
                 (case side1 => repeat (first | exact (Kd.V_reads' HO_237001.out).2.2 | (with_reducible refine Kd.C_alloc ?_ _) | (with_reducible refine Kd.C_drewN ?_ _) | (with_reducible refine Kd.C_drew ?_)))
                 (case side2 => exact (Kd.V_reads' HO_237001.out).2.1)
                 (case side3 => repeat (first | exact (Kd.V_reads' HO_237002.out).2.2 | (with_reducible refine Kd.C_alloc ?_ _) | (with_reducible refine Kd.C_drewN ?_ _) | (with_reducible refine Kd.C_drew ?_)))
                 (case side4 => exact (Kd.V_reads' HO_237002.out).2.1)
                 (case side5 => repeat (first | exact (Kd.V_reads' HO_237003.out).2.2 | (with_reducible refine Kd.C_alloc ?_ _) | (with_reducible refine Kd.C_drewN ?_ _) | (with_reducible refine Kd.C_drew ?_)))
                 (case side6 => exact (Kd.V_reads' HO_237003.out).2.1)
                 (case side7 => exact zc_ (Kd.C_below HR241_0.out HB.out))
                 (case side8 => exact HC241_0.out)
                 (case side9 => exact zc_ (Kd.C_below HR242_0.out HB.out))
                 (case side10 => exact HC242_0.out)
                 rintro e w107 ⟨v245, v248, v251, rfl, ho0, ho1, ho2, hb⟩
                 refine ⟨_, rfl, ?_⟩
                 have n0_ := Aside0.mk (Kd.V_below (zV_ HO_237001.out) hb)
                 have n1_ := Aside0.mk (Kd.V_below (zV_ HO_237002.out) hb)
                 have n2_ := Aside0.mk (Kd.V_below (zV_ HO_237003.out) hb)
                 have n3_ := Aside0.mk (Kd.V_below (zV_ HO_238001.out) hb)
                 have n4_ := Aside0.mk (Kd.V_below (zV_ HO_238002.out) hb)
                 have n5_ := Aside0.mk (Kd.V_below (zV_ HO_238003.out) hb)
                 have n6_ := Aside0.mk (Kd.V_lower (Kd.V_mono (ok' := fun k_ => k_ ≠ gb236 ∧ k_ ≠ gb237) ho0 (fun k_ hk_ => ⟨(Kd.freshB (zb_ BK236.out) k_ hk_), (Kd.freshB (zb_ BK237.out) k_ hk_)⟩)) (below_size (zh2_ HB.out GE236.out GE237.out)))
                 have n7_ := Aside0.mk (Kd.V_lower (Kd.V_mono (ok' := fun k_ => k_ ≠ gb236 ∧ k_ ≠ gb237) ho1 (fun k_ hk_ => ⟨(Kd.freshB (zb_ BK236.out) k_ hk_), (Kd.freshB (zb_ BK237.out) k_ hk_)⟩)) (below_size (zh2_ HB.out GE236.out GE237.out)))
                 have n8_ := Aside0.mk (Kd.V_lower (Kd.V_mono (ok' := fun k_ => k_ ≠ gb236 ∧ k_ ≠ gb237) ho2 (fun k_ hk_ => ⟨(Kd.freshB (zb_ BK236.out) k_ hk_), (Kd.freshB (zb_ BK237.out) k_ hk_)⟩)) (below_size (zh2_ HB.out GE236.out GE237.out)))
                 have n9_ := Aside0.mk (blk_below (zb_ BK236.out) hb)
                 have n10_ := Aside0.mk (blk_below (zb_ BK237.out) hb)
                 have n11_ := Aside0.mk (below_step (zh2_ HB.out GE236.out GE237.out) hb)
                 clear HO_237001
                 clear HO_237002
                 clear HO_237003
                 clear HO_238001
                 clear HO_238002
                 clear HO_238003
                 clear BK236
                 clear BK237
                 clear HB
                 have HO_237001 := n0_
                 have HO_237002 := n1_
                 have HO_237003 := n2_
                 have HO_238001 := n3_
                 have HO_238002 := n4_
                 have HO_238003 := n5_
                 have HO246 := n6_
                 have HO249 := n7_
                 have HO252 := n8_
                 have BK236 := n9_
                 have BK237 := n10_
                 have HB := n11_
                 clear n0_ n1_ n2_ n3_ n4_ n5_ n6_ n7_ n8_ n9_ n10_ n11_
                 (try clear hb)
                 (try clear hb2)
                 (try clear hk)
                 (try clear hi)
                 (try clear ho0)
                 (try clear ho1)
                 (try clear ho2)
                 refine hK.out _ _ ⟨(blk_cell BK236.out 0).trans rfl, (blk_cell BK236.out 1).trans rfl, (blk_cell BK236.out 2).trans rfl, (blk_cell BK236.out 3).trans rfl, ((HB.out.cell (World.block_lt_of_cell? w _ hw241_0)).trans hw241_0), ((HB.out.cell (World.block_lt_of_cell? w _ hw242_0)).trans hw242_0)⟩ (fun hHeld => ?_)
                 clear hK K
                 refine norm_ (a' := ?_) ?_ ?_
                 rotate_left
                 ·show Act.put _ (some 72) _ = _
                  simp only [Act.put, zt0, zt1, zt2, i64_w, i32_w]
                  rfl
                 refine pure_ (i := 10) (N := some 62) (v := ?_) (a' := ?_) (zB 11 5) rfl rfl (any_of HT_.out (by kernel_rfl)) (fun _ _ _ h => h) (Or.inl ⟨by rfl, ?_⟩) ?_ ?_
                 rotate_left
                 ·intro w'
                  go_simp
                  with_reducible rfl
                 rotate_left
                 ·simp only [Act.put, zt0, zt1, zt2, i64_w, i32_w]
                  rfl
                 refine pure_ (i := 11) (N := some 73) (v := ?_) (a' := ?_) (zB 12 4) rfl rfl (any_of HT_.out (by kernel_rfl)) (fun _ _ _ h => h) (Or.inl ⟨by rfl, ?_⟩) ?_ ?_
                 rotate_left
                 ·intro w'
                  go_simp
                  with_reducible rfl
                 rotate_left
                 ·simp only [Act.put, zt0, zt1, zt2, i64_w, i32_w]
                  rfl
                 refine pure_ (i := 12) (N := some 74) (v := ?_) (a' := ?_) (zB 13 3) rfl rfl (any_of HT_.out (by kernel_rfl)) (fun _ _ _ h => h) (Or.inl ⟨by rfl, ?_⟩) ?_ ?_
                 rotate_left
                 ·intro w'
                  go_simp
                  with_reducible rfl
                 rotate_left
                 ·simp only [Act.put, zt0, zt1, zt2, i64_w, i32_w]
                  rfl
                 refine one_ (i := 13) (N := some 14) (zB 14 2) rfl rfl (one_of HT_.out (by kernel_rfl)) (by decide) (fun K hK => ?_)
                 refine box_step ?hg (N := 14) ?hd (cs := #[.bool false, .slice none 0 0, .slice none 0 0, .slice none 0 0]) (t := 26) ?hr ?_; (case hd => rfl); (case hg => rfl); (case hr => first | (go_simp; done) | (go_simp; rfl))
                 intro gb254 hg w108 hbox hb
                 have n0_ := Aside0.mk (Kd.V_below (Kd.V_elderB (zV_ HO_237001.out) gb254 (Nat.le_of_eq hg.symm)) hb)
                 have n1_ := Aside0.mk (Kd.V_below (Kd.V_elderB (zV_ HO_237002.out) gb254 (Nat.le_of_eq hg.symm)) hb)
                 have n2_ := Aside0.mk (Kd.V_below (Kd.V_elderB (zV_ HO_237003.out) gb254 (Nat.le_of_eq hg.symm)) hb)
                 have n3_ := Aside0.mk (Kd.V_below (Kd.V_elderB (zV_ HO_238001.out) gb254 (Nat.le_of_eq hg.symm)) hb)
                 have n4_ := Aside0.mk (Kd.V_below (Kd.V_elderB (zV_ HO_238002.out) gb254 (Nat.le_of_eq hg.symm)) hb)
                 have n5_ := Aside0.mk (Kd.V_below (Kd.V_elderB (zV_ HO_238003.out) gb254 (Nat.le_of_eq hg.symm)) hb)
                 have n6_ := Aside0.mk (Kd.V_below (Kd.V_elderB (zV_ HO246.out) gb254 (Nat.le_of_eq hg.symm)) hb)
                 have n7_ := Aside0.mk (Kd.V_below (Kd.V_elderB (zV_ HO249.out) gb254 (Nat.le_of_eq hg.symm)) hb)
                 have n8_ := Aside0.mk (Kd.V_below (Kd.V_elderB (zV_ HO252.out) gb254 (Nat.le_of_eq hg.symm)) hb)
                 have n9_ := Aside0.mk (blk_below (zb_ BK236.out) hb)
                 have n10_ := Aside0.mk (blk_below (zb_ BK237.out) hb)
                 have n11_ := Aside0.mk (below_step (zh2_ HB.out GE236.out GE237.out) hb)
                 have n12_ := Aside0.mk (hbox)
                 have n13_ := Aside0.mk ((by rw [hg]; exact (below_size (zh2_ HB.out GE236.out GE237.out)) : w.heap.size ≤ gb254))
                 have n14_ := Aside0.mk ((by rw [hg]; exact (below_size (zh2_ HB.out GE236.out GE237.out)) : w.heap.size ≤ gb254))
                 have n15_ := Aside0.mk ((by rw [hg]; exact Nat.ne_of_lt (blk_lt (zb_ BK236.out)) : gb236 ≠ gb254))
                 have n16_ := Aside0.mk ((by rw [hg]; exact Nat.ne_of_gt (blk_lt (zb_ BK236.out)) : gb254 ≠ gb236))
                 have n17_ := Aside0.mk ((by rw [hg]; exact Nat.ne_of_lt (blk_lt (zb_ BK237.out)) : gb237 ≠ gb254))
                 have n18_ := Aside0.mk ((by rw [hg]; exact Nat.ne_of_gt (blk_lt (zb_ BK237.out)) : gb254 ≠ gb237))
                 clear HO_237001
                 clear HO_237002
                 clear HO_237003
                 clear HO_238001
                 clear HO_238002
                 clear HO_238003
                 clear HO246
                 clear HO249
                 clear HO252
                 clear BK236
                 clear BK237
                 clear HB
                 have HO_237001 := n0_
                 have HO_237002 := n1_
                 have HO_237003 := n2_
                 have HO_238001 := n3_
                 have HO_238002 := n4_
                 have HO_238003 := n5_
                 have HO246 := n6_
                 have HO249 := n7_
                 have HO252 := n8_
                 have BK236 := n9_
                 have BK237 := n10_
                 have HB := n11_
                 have BK254 := n12_
                 have GW254 := n13_
                 have GE254 := n14_
                 have NB236_254 := n15_
                 have NB254_236 := n16_
                 have NB237_254 := n17_
                 have NB254_237 := n18_
                 clear n0_ n1_ n2_ n3_ n4_ n5_ n6_ n7_ n8_ n9_ n10_ n11_ n12_ n13_ n14_ n15_ n16_ n17_ n18_
                 clear hb hbox hg
                 refine hK.out _ _ ⟨(blk_cell BK236.out 0).trans rfl, (blk_cell BK236.out 1).trans rfl, (blk_cell BK236.out 2).trans rfl, (blk_cell BK236.out 3).trans rfl, ((HB.out.cell (World.block_lt_of_cell? w _ hw241_0)).trans hw241_0), ((HB.out.cell (World.block_lt_of_cell? w _ hw242_0)).trans hw242_0)⟩ (fun hHeld => ?_)
                 clear hK K
                 refine norm_ (a' := ?_) ?_ ?_
                 rotate_left
                 ·show Act.put _ (some 14) _ = _
                  simp only [Act.put, zt0, zt1, zt2, i64_w, i32_w]
                  rfl
                 exact norm_ (by simp only [putAll, Act.put, zt0, zt1, zt2]) (hCont (v245, v248, v251, gb254) _ ⟨hHeld, (by (with_reducible repeat (first | apply Kd.V_alloc | apply Kd.V_drewN | apply Kd.V_drew)); exact Kd.V_mono HO246.out (fun _ hk => ⟨hk.1.1, ⟨hk.1.2, hk.2⟩⟩)), (by (with_reducible repeat (first | apply Kd.V_alloc | apply Kd.V_drewN | apply Kd.V_drew)); exact Kd.V_mono HO249.out (fun _ hk => ⟨hk.1.1, ⟨hk.1.2, hk.2⟩⟩)), (by (with_reducible repeat (first | apply Kd.V_alloc | apply Kd.V_drewN | apply Kd.V_drew)); exact Kd.V_mono HO252.out (fun _ hk => ⟨hk.1.1, ⟨hk.1.2, hk.2⟩⟩)), (by (with_reducible repeat (first | apply Kd.V_alloc | apply Kd.V_drewN | apply Kd.V_drew)); exact Kd.V_mono HO_237001.out (fun _ hk => ⟨hk.1.1, ⟨hk.1.2, hk.2⟩⟩)), (by (with_reducible repeat (first | apply Kd.V_alloc | apply Kd.V_drewN | apply Kd.V_drew)); exact Kd.V_mono HO_237002.out (fun _ hk => ⟨hk.1.1, ⟨hk.1.2, hk.2⟩⟩)), (by (with_reducible repeat (first | apply Kd.V_alloc | apply Kd.V_drewN | apply Kd.V_drew)); exact Kd.V_mono HO_237003.out (fun _ hk => ⟨hk.1.1, ⟨hk.1.2, hk.2⟩⟩)), (by (with_reducible repeat (first | apply Kd.V_alloc | apply Kd.V_drewN | apply Kd.V_drew)); exact Kd.V_mono HO_238001.out (fun _ hk => ⟨hk.1.1, ⟨hk.1.2, hk.2⟩⟩)), (by (with_reducible repeat (first | apply Kd.V_alloc | apply Kd.V_drewN | apply Kd.V_drew)); exact Kd.V_mono HO_238002.out (fun _ hk => ⟨hk.1.1, ⟨hk.1.2, hk.2⟩⟩)), (by (with_reducible repeat (first | apply Kd.V_alloc | apply Kd.V_drewN | apply Kd.V_drew)); exact Kd.V_mono HO_238003.out (fun _ hk => ⟨hk.1.1, ⟨hk.1.2, hk.2⟩⟩)), (zb_ BK236.out), (zb_ BK237.out), (zb_ BK254.out), GW254.out, GE254.out, NB236_254.out, NB254_236.out, NB237_254.out, NB254_237.out, (zh3_ HB.out GE236.out GE237.out GE254.out)⟩)
                ·skip
                 refine box_step ?hg (N := 14) ?hd (cs := #[.bool false, .slice none 0 0, .slice none 0 0, .slice none 0 0]) (t := 26) ?hr ?_; (case hd => rfl); (case hg => rfl); (case hr => first | (go_simp; done) | (go_simp; rfl))
                 intro gb254 hg w107 hbox hb
                 have n0_ := Aside0.mk (Kd.V_below (Kd.V_elderB (zV_ HO_237001.out) gb254 (Nat.le_of_eq hg.symm)) hb)
                 have n1_ := Aside0.mk (Kd.V_below (Kd.V_elderB (zV_ HO_237002.out) gb254 (Nat.le_of_eq hg.symm)) hb)
                 have n2_ := Aside0.mk (Kd.V_below (Kd.V_elderB (zV_ HO_237003.out) gb254 (Nat.le_of_eq hg.symm)) hb)
                 have n3_ := Aside0.mk (Kd.V_below (Kd.V_elderB (zV_ HO_238001.out) gb254 (Nat.le_of_eq hg.symm)) hb)
                 have n4_ := Aside0.mk (Kd.V_below (Kd.V_elderB (zV_ HO_238002.out) gb254 (Nat.le_of_eq hg.symm)) hb)
                 have n5_ := Aside0.mk (Kd.V_below (Kd.V_elderB (zV_ HO_238003.out) gb254 (Nat.le_of_eq hg.symm)) hb)
                 have n6_ := Aside0.mk (blk_below (zb_ BK236.out) hb)
                 have n7_ := Aside0.mk (blk_below (zb_ BK237.out) hb)
                 have n8_ := Aside0.mk (below_step (zh2_ HB.out GE236.out GE237.out) hb)
                 have n9_ := Aside0.mk (hbox)
                 have n10_ := Aside0.mk ((by rw [hg]; exact (below_size (zh2_ HB.out GE236.out GE237.out)) : w.heap.size ≤ gb254))
                 have n11_ := Aside0.mk ((by rw [hg]; exact (below_size (zh2_ HB.out GE236.out GE237.out)) : w.heap.size ≤ gb254))
                 have n12_ := Aside0.mk ((by rw [hg]; exact Nat.ne_of_lt (blk_lt (zb_ BK236.out)) : gb236 ≠ gb254))
                 have n13_ := Aside0.mk ((by rw [hg]; exact Nat.ne_of_gt (blk_lt (zb_ BK236.out)) : gb254 ≠ gb236))
                 have n14_ := Aside0.mk ((by rw [hg]; exact Nat.ne_of_lt (blk_lt (zb_ BK237.out)) : gb237 ≠ gb254))
                 have n15_ := Aside0.mk ((by rw [hg]; exact Nat.ne_of_gt (blk_lt (zb_ BK237.out)) : gb254 ≠ gb237))
                 clear HO_237001
                 clear HO_237002
                 clear HO_237003
                 clear HO_238001
                 clear HO_238002
                 clear HO_238003
                 clear BK236
                 clear BK237
                 clear HB
                 have HO_237001 := n0_
                 have HO_237002 := n1_
                 have HO_237003 := n2_
                 have HO_238001 := n3_
                 have HO_238002 := n4_
                 have HO_238003 := n5_
                 have BK236 := n6_
                 have BK237 := n7_
                 have HB := n8_
                 have BK254 := n9_
                 have GW254 := n10_
                 have GE254 := n11_
                 have NB236_254 := n12_
                 have NB254_236 := n13_
                 have NB237_254 := n14_
                 have NB254_237 := n15_
                 clear n0_ n1_ n2_ n3_ n4_ n5_ n6_ n7_ n8_ n9_ n10_ n11_ n12_ n13_ n14_ n15_
                 clear hb hbox hg
                 refine hK.out _ _ ⟨(blk_cell BK236.out 0).trans rfl, (blk_cell BK236.out 1).trans rfl, (blk_cell BK236.out 2).trans rfl, (blk_cell BK236.out 3).trans rfl, ((HB.out.cell (World.block_lt_of_cell? w _ hw241_0)).trans hw241_0), ((HB.out.cell (World.block_lt_of_cell? w _ hw242_0)).trans hw242_0)⟩ (fun hHeld => ?_)
                 clear hK K
                 refine norm_ (a' := ?_) ?_ ?_
                 rotate_left
                 ·show Act.put _ (some 14) _ = _
                  simp only [Act.put, zt0, zt1, zt2, i64_w, i32_w]
                  rfl
                 refine one_ (i := 9) (N := some 72) #[true, true, true, true, true, true, true, true, true, true, false, false, false, true, false, false] rfl rfl (one_of HT_.out (by kernel_rfl)) (by decide) (fun K hK => ?_)
                 refine goes_ Try.func10 (by kernel_rfl) rfl #[.agg #[.bool x237000_2, .slice Ao103 x237001_2.length co103, .slice Ao104 x237002_2.length co104, .slice Ao105 x237003_2.length co105], .slice A241_0 (rd_L1 l0 x12_2).length c241_0, .slice A242_0 (rd_L1 l1 x12_2).length c242_0] (by rfl) rfl rfl zl_ ?_
                 with_reducible refine (node_Put.calls k2 x237000_2 _ _ x237001_2 _ _ x237002_2 _ _ x237003_2 _ _ (rd_L1 l0 x12_2) _ _ (rd_L1 l1 x12_2) t243 t244 t247 t250 t253 _ ?side1 ?side2 ?side3 ?side4 ?side5 ?side6 ?side7 ?side8 ?side9 ?side10 A27.out).mono ?_
                 (case side1 => repeat (first | exact (Kd.V_reads' HO_237001.out).2.2 | (with_reducible refine Kd.C_alloc ?_ _) | (with_reducible refine Kd.C_drewN ?_ _) | (with_reducible refine Kd.C_drew ?_)))
                 (case side2 => exact (Kd.V_reads' HO_237001.out).2.1)
                 (case side3 => repeat (first | exact (Kd.V_reads' HO_237002.out).2.2 | (with_reducible refine Kd.C_alloc ?_ _) | (with_reducible refine Kd.C_drewN ?_ _) | (with_reducible refine Kd.C_drew ?_)))
                 (case side4 => exact (Kd.V_reads' HO_237002.out).2.1)
                 (case side5 => repeat (first | exact (Kd.V_reads' HO_237003.out).2.2 | (with_reducible refine Kd.C_alloc ?_ _) | (with_reducible refine Kd.C_drewN ?_ _) | (with_reducible refine Kd.C_drew ?_)))
                 (case side6 => exact (Kd.V_reads' HO_237003.out).2.1)
                 (case side7 => exact zc_ (Kd.C_below HR241_0.out HB.out))
                 (case side8 => exact HC241_0.out)
                 (case side9 => exact zc_ (Kd.C_below HR242_0.out HB.out))
                 (case side10 => exact HC242_0.out)
                 rintro e w108 ⟨v245, v248, v251, rfl, ho0, ho1, ho2, hb⟩
                 refine ⟨_, rfl, ?_⟩
                 have n0_ := Aside0.mk (Kd.V_below (zV_ HO_237001.out) hb)
                 have n1_ := Aside0.mk (Kd.V_below (zV_ HO_237002.out) hb)
                 have n2_ := Aside0.mk (Kd.V_below (zV_ HO_237003.out) hb)
                 have n3_ := Aside0.mk (Kd.V_below (zV_ HO_238001.out) hb)
                 have n4_ := Aside0.mk (Kd.V_below (zV_ HO_238002.out) hb)
                 have n5_ := Aside0.mk (Kd.V_below (zV_ HO_238003.out) hb)
                 have n6_ := Aside0.mk (Kd.V_lower (Kd.V_mono (ok' := fun k_ => k_ ≠ gb236 ∧ k_ ≠ gb237 ∧ k_ ≠ gb254) ho0 (fun k_ hk_ => ⟨(Kd.freshB (zb_ BK236.out) k_ hk_), (Kd.freshB (zb_ BK237.out) k_ hk_), (Kd.freshB (zb_ BK254.out) k_ hk_)⟩)) (below_size (zh3_ HB.out GE236.out GE237.out GE254.out)))
                 have n7_ := Aside0.mk (Kd.V_lower (Kd.V_mono (ok' := fun k_ => k_ ≠ gb236 ∧ k_ ≠ gb237 ∧ k_ ≠ gb254) ho1 (fun k_ hk_ => ⟨(Kd.freshB (zb_ BK236.out) k_ hk_), (Kd.freshB (zb_ BK237.out) k_ hk_), (Kd.freshB (zb_ BK254.out) k_ hk_)⟩)) (below_size (zh3_ HB.out GE236.out GE237.out GE254.out)))
                 have n8_ := Aside0.mk (Kd.V_lower (Kd.V_mono (ok' := fun k_ => k_ ≠ gb236 ∧ k_ ≠ gb237 ∧ k_ ≠ gb254) ho2 (fun k_ hk_ => ⟨(Kd.freshB (zb_ BK236.out) k_ hk_), (Kd.freshB (zb_ BK237.out) k_ hk_), (Kd.freshB (zb_ BK254.out) k_ hk_)⟩)) (below_size (zh3_ HB.out GE236.out GE237.out GE254.out)))
                 have n9_ := Aside0.mk (blk_below (zb_ BK236.out) hb)
                 have n10_ := Aside0.mk (blk_below (zb_ BK237.out) hb)
                 have n11_ := Aside0.mk (blk_below (zb_ BK254.out) hb)
                 have n12_ := Aside0.mk (below_step (zh3_ HB.out GE236.out GE237.out GE254.out) hb)
                 clear HO_237001
                 clear HO_237002
                 clear HO_237003
                 clear HO_238001
                 clear HO_238002
                 clear HO_238003
                 clear BK236
                 clear BK237
                 clear BK254
                 clear HB
                 have HO_237001 := n0_
                 have HO_237002 := n1_
                 have HO_237003 := n2_
                 have HO_238001 := n3_
                 have HO_238002 := n4_
                 have HO_238003 := n5_
                 have HO246 := n6_
                 have HO249 := n7_
                 have HO252 := n8_
                 have BK236 := n9_
                 have BK237 := n10_
                 have BK254 := n11_
                 have HB := n12_
                 clear n0_ n1_ n2_ n3_ n4_ n5_ n6_ n7_ n8_ n9_ n10_ n11_ n12_
                 (try clear hb)
                 (try clear hb2)
                 (try clear hk)
                 (try clear hi)
                 (try clear ho0)
                 (try clear ho1)
                 (try clear ho2)
                 refine hK.out _ _ ⟨(blk_cell BK236.out 0).trans rfl, (blk_cell BK236.out 1).trans rfl, (blk_cell BK236.out 2).trans rfl, (blk_cell BK236.out 3).trans rfl, ((HB.out.cell (World.block_lt_of_cell? w _ hw241_0)).trans hw241_0), ((HB.out.cell (World.block_lt_of_cell? w _ hw242_0)).trans hw242_0)⟩ (fun hHeld => ?_)
                 clear hK K
                 refine norm_ (a' := ?_) ?_ ?_
                 rotate_left
                 ·show Act.put _ (some 72) _ = _
                  simp only [Act.put, zt0, zt1, zt2, i64_w, i32_w]
                  rfl
                 refine pure_ (i := 10) (N := some 62) (v := ?_) (a' := ?_) #[true, true, true, true, true, true, true, true, true, true, true, false, false, true, false, false] rfl rfl (any_of HT_.out (by kernel_rfl)) (fun _ _ _ h => h) (Or.inl ⟨by rfl, ?_⟩) ?_ ?_
                 rotate_left
                 ·intro w'
                  go_simp
                  with_reducible rfl
                 rotate_left
                 ·simp only [Act.put, zt0, zt1, zt2, i64_w, i32_w]
                  rfl
                 refine pure_ (i := 11) (N := some 73) (v := ?_) (a' := ?_) #[true, true, true, true, true, true, true, true, true, true, true, true, false, true, false, false] rfl rfl (any_of HT_.out (by kernel_rfl)) (fun _ _ _ h => h) (Or.inl ⟨by rfl, ?_⟩) ?_ ?_
                 rotate_left
                 ·intro w'
                  go_simp
                  with_reducible rfl
                 rotate_left
                 ·simp only [Act.put, zt0, zt1, zt2, i64_w, i32_w]
                  rfl
                 refine pure_ (i := 12) (N := some 74) (v := ?_) (a' := ?_) (zB 14 2) rfl rfl (any_of HT_.out (by kernel_rfl)) (fun _ _ _ h => h) (Or.inl ⟨by rfl, ?_⟩) ?_ ?_
                 rotate_left
                 ·intro w'
                  go_simp
                  with_reducible rfl
                 rotate_left
                 ·simp only [Act.put, zt0, zt1, zt2, i64_w, i32_w]
                  rfl
                 exact norm_ (by simp only [putAll, Act.put, zt0, zt1, zt2]) (hCont (v245, v248, v251, gb254) _ ⟨hHeld, (zV_ HO246.out), (zV_ HO249.out), (zV_ HO252.out), (by (with_reducible repeat (first | apply Kd.V_alloc | apply Kd.V_drewN | apply Kd.V_drew)); exact Kd.V_mono HO_237001.out (fun _ hk => ⟨hk.1.1, ⟨hk.1.2, hk.2⟩⟩)), (by (with_reducible repeat (first | apply Kd.V_alloc | apply Kd.V_drewN | apply Kd.V_drew)); exact Kd.V_mono HO_237002.out (fun _ hk => ⟨hk.1.1, ⟨hk.1.2, hk.2⟩⟩)), (by (with_reducible repeat (first | apply Kd.V_alloc | apply Kd.V_drewN | apply Kd.V_drew)); exact Kd.V_mono HO_237003.out (fun _ hk => ⟨hk.1.1, ⟨hk.1.2, hk.2⟩⟩)), (by (with_reducible repeat (first | apply Kd.V_alloc | apply Kd.V_drewN | apply Kd.V_drew)); exact Kd.V_mono HO_238001.out (fun _ hk => ⟨hk.1.1, ⟨hk.1.2, hk.2⟩⟩)), (by (with_reducible repeat (first | apply Kd.V_alloc | apply Kd.V_drewN | apply Kd.V_drew)); exact Kd.V_mono HO_238002.out (fun _ hk => ⟨hk.1.1, ⟨hk.1.2, hk.2⟩⟩)), (by (with_reducible repeat (first | apply Kd.V_alloc | apply Kd.V_drewN | apply Kd.V_drew)); exact Kd.V_mono HO_238003.out (fun _ hk => ⟨hk.1.1, ⟨hk.1.2, hk.2⟩⟩)), (zb_ BK236.out), (zb_ BK237.out), (zb_ BK254.out), GW254.out, GE254.out, NB236_254.out, NB254_236.out, NB237_254.out, NB254_237.out, (zh3_ HB.out GE236.out GE237.out GE254.out)⟩)
               rintro ⟨v245, v248, v251, gb254⟩ w109 ⟨hS_, h0_, h1_, h2_, h3_, h4_, h5_, h6_, h7_, h8_, h9_, h10_, h11_, h12_, h13_, h14_, h15_, h16_, h17_, h18_⟩
               have n0_ : Aside0 (Kd.V (Kd.slice 5 (Kd.int .u8)) 27 w109 w.heap.size (fun k_ => k_ ≠ gb236 ∧ k_ ≠ gb237 ∧ k_ ≠ gb254) v245 t244) := ⟨h0_⟩
               have n1_ : Aside0 (Kd.V (Kd.slice 5 (Kd.int .u8)) 27 w109 w.heap.size (fun k_ => k_ ≠ gb236 ∧ k_ ≠ gb237 ∧ k_ ≠ gb254) v248 t247) := ⟨h1_⟩
               have n2_ : Aside0 (Kd.V (Kd.int .i64) 3 w109 w.heap.size (fun k_ => k_ ≠ gb236 ∧ k_ ≠ gb237 ∧ k_ ≠ gb254) v251 t250) := ⟨h2_⟩
               have n3_ : Aside0 (Kd.V (Kd.slice 5 (Kd.int .u8)) 27 w109 w.heap.size (fun k_ => k_ ≠ gb236 ∧ k_ ≠ gb237 ∧ k_ ≠ gb254) (.slice Ao103 x237001_2.length co103) x237001_2) := ⟨h3_⟩
               have n4_ : Aside0 (Kd.V (Kd.slice 5 (Kd.int .u8)) 27 w109 w.heap.size (fun k_ => k_ ≠ gb236 ∧ k_ ≠ gb237 ∧ k_ ≠ gb254) (.slice Ao104 x237002_2.length co104) x237002_2) := ⟨h4_⟩
               have n5_ : Aside0 (Kd.V (Kd.int .i64) 3 w109 w.heap.size (fun k_ => k_ ≠ gb236 ∧ k_ ≠ gb237 ∧ k_ ≠ gb254) (.slice Ao105 x237003_2.length co105) x237003_2) := ⟨h5_⟩
               have n6_ : Aside0 (Kd.V (Kd.slice 5 (Kd.int .u8)) 27 w109 w.heap.size (fun k_ => k_ ≠ gb236 ∧ k_ ≠ gb237 ∧ k_ ≠ gb254) u238001 x238001_2) := ⟨h6_⟩
               have n7_ : Aside0 (Kd.V (Kd.slice 5 (Kd.int .u8)) 27 w109 w.heap.size (fun k_ => k_ ≠ gb236 ∧ k_ ≠ gb237 ∧ k_ ≠ gb254) u238002 x238002_2) := ⟨h7_⟩
               have n8_ : Aside0 (Kd.V (Kd.int .i64) 3 w109 w.heap.size (fun k_ => k_ ≠ gb236 ∧ k_ ≠ gb237 ∧ k_ ≠ gb254) u238003 x238003_2) := ⟨h8_⟩
               have n9_ : Aside0 (w109.heap[gb236]? = some (.cells #[.bool x237000_2, .slice Ao103 x237001_2.length co103, .slice Ao104 x237002_2.length co104, .slice Ao105 x237003_2.length co105] 26 (0, 0))) := ⟨h9_⟩
               have n10_ : Aside0 (w109.heap[gb237]? = some (.cells #[.bool x238000_2, u238001, u238002, u238003] 26 (0, 0))) := ⟨h10_⟩
               have n11_ : Aside0 (w109.heap[gb254]? = some (.cells #[.bool false, .slice none 0 0, .slice none 0 0, .slice none 0 0] 26 (0, 0))) := ⟨h11_⟩
               have n12_ : Aside0 (w.heap.size ≤ gb254) := ⟨h12_⟩
               have n13_ : Aside0 (w.heap.size ≤ gb254) := ⟨h13_⟩
               have n14_ : Aside0 (gb236 ≠ gb254) := ⟨h14_⟩
               have n15_ : Aside0 (gb254 ≠ gb236) := ⟨h15_⟩
               have n16_ : Aside0 (gb237 ≠ gb254) := ⟨h16_⟩
               have n17_ : Aside0 (gb254 ≠ gb237) := ⟨h17_⟩
               have n18_ : Aside0 (Below w.heap.size w w109) := ⟨h18_⟩
               clear HO_237001
               clear HO_237002
               clear HO_237003
               clear HO_238001
               clear HO_238002
               clear HO_238003
               clear BK236
               clear BK237
               clear HB
               clear h0_ h1_ h2_ h3_ h4_ h5_ h6_ h7_ h8_ h9_ h10_ h11_ h12_ h13_ h14_ h15_ h16_ h17_ h18_
               have HO246 := n0_
               have HO249 := n1_
               have HO252 := n2_
               have HO_237001 := n3_
               have HO_237002 := n4_
               have HO_237003 := n5_
               have HO_238001 := n6_
               have HO_238002 := n7_
               have HO_238003 := n8_
               have BK236 := n9_
               have BK237 := n10_
               have BK254 := n11_
               have GW254 := n12_
               have GE254 := n13_
               have NB236_254 := n14_
               have NB254_236 := n15_
               have NB237_254 := n16_
               have NB254_237 := n17_
               have HB := n18_
               clear n0_ n1_ n2_ n3_ n4_ n5_ n6_ n7_ n8_ n9_ n10_ n11_ n12_ n13_ n14_ n15_ n16_ n17_ n18_
               have hHeld : w109.cell? ⟨gb236, 0, none⟩ = some (.bool x237000_2) ∧ w109.cell? ⟨gb236, 1, none⟩ = some (.slice Ao103 x237001_2.length co103) ∧ w109.cell? ⟨gb236, 2, none⟩ = some (.slice Ao104 x237002_2.length co104) ∧ w109.cell? ⟨gb236, 3, none⟩ = some (.slice Ao105 x237003_2.length co105) ∧ w109.cell? (ad241.add (x12_2).toNat) = some (.slice A241_0 (rd_L1 l0 x12_2).length c241_0) ∧ w109.cell? (ad242.add (x12_2).toNat) = some (.slice A242_0 (rd_L1 l1 x12_2).length c242_0) := hS_
               obtain ⟨Ao111, co111, eo111⟩ := Kd.V_slice HO246.out
               (first | subst eo111 | (injection eo111 with f1_ f2_ f3_; have f4_ := f1_.symm; have f5_ := f3_.symm; clear f1_ f2_ f3_; subst f4_; subst f5_))
               obtain ⟨Ao113, co113, eo113⟩ := Kd.V_slice HO249.out
               (first | subst eo113 | (injection eo113 with f1_ f2_ f3_; have f4_ := f1_.symm; have f5_ := f3_.symm; clear f1_ f2_ f3_; subst f4_; subst f5_))
               obtain ⟨Ao115, co115, eo115⟩ := Kd.V_slice HO252.out
               (first | subst eo115 | (injection eo115 with f1_ f2_ f3_; have f4_ := f1_.symm; have f5_ := f3_.symm; clear f1_ f2_ f3_; subst f4_; subst f5_))
               refine norm_ (a' := ?_) ?_ ?_
               rotate_left
               ·simp only [putAll, Act.put, zt0, zt1, zt2]
                rfl
               refine one_ (i := 14) (N := none) (zB 15 1) rfl rfl (one_of HT_.out (by kernel_rfl)) (by decide) (fun K hK => ?_)
               have hs110 : w109.cell? ⟨gb254, 0, none⟩ = some (.bool false) := (blk_cell BK254.out 0).trans rfl
               have hfs110 := blk_frozen BK254.out 0
               have hns110_0 := NB236_254.out
               have hns110_1 := NB237_254.out
               have hms110_0 := NB254_236.out
               have hms110_1 := NB254_237.out
               have hs112 : w109.cell? ⟨gb254, 1, none⟩ = some (.slice none 0 0) := (blk_cell BK254.out 1).trans rfl
               have hfs112 := blk_frozen BK254.out 1
               have hns112_0 := NB236_254.out
               have hns112_1 := NB237_254.out
               have hms112_0 := NB254_236.out
               have hms112_1 := NB254_237.out
               have hs114 : w109.cell? ⟨gb254, 2, none⟩ = some (.slice none 0 0) := (blk_cell BK254.out 2).trans rfl
               have hfs114 := blk_frozen BK254.out 2
               have hns114_0 := NB236_254.out
               have hns114_1 := NB237_254.out
               have hms114_0 := NB254_236.out
               have hms114_1 := NB254_237.out
               have hs116 : w109.cell? ⟨gb254, 3, none⟩ = some (.slice none 0 0) := (blk_cell BK254.out 3).trans rfl
               have hfs116 := blk_frozen BK254.out 3
               have hns116_0 := NB236_254.out
               have hns116_1 := NB237_254.out
               have hms116_0 := NB254_236.out
               have hms116_1 := NB254_237.out
               refine skip_ (w1 := ?_) (by rfl) rfl ?_ ?_
               rotate_left
               ·go_simp
                rfl
               refine hK.out _ _ ⟨(zk4 NB236_254.out (hHeld.1)), (zk4 NB236_254.out (hHeld.2.1)), (zk4 NB236_254.out (hHeld.2.2.1)), (zk4 NB236_254.out (hHeld.2.2.2.1)), (zk4 (zn_ hw241_0 GW254.out) (hHeld.2.2.2.2.1)), (zk4 (zn_ hw242_0 GW254.out) (hHeld.2.2.2.2.2))⟩ (fun hHeld => ?_)
               clear hK K
               refine pure_ (i := 15) (N := some 15) (v := ?_) (a' := ?_) (zB 16 0) rfl rfl (any_of HT_.out (by kernel_rfl)) (fun _ _ _ h => h) (Or.inl ⟨by rfl, ?_⟩) ?_ ?_
               rotate_left
               ·intro w'
                go_simp
                with_reducible rfl
               rotate_left
               ·simp only [Act.put, zt0, zt1, zt2, i64_w, i32_w]
                rfl
               refine done_ (done_of HT_.out (by kernel_rfl)) ?_
               obtain ⟨Ao117, co117, eo117⟩ := Kd.V_slice HO_238001.out
               subst eo117
               obtain ⟨Ao118, co118, eo118⟩ := Kd.V_slice HO_238002.out
               subst eo118
               obtain ⟨Ao119, co119, eo119⟩ := Kd.V_slice HO_238003.out
               subst eo119
               try go_wp2
               have n0_ : Aside0 (Kd.V (Kd.slice 5 (Kd.int .u8)) 27 ((((w109.setCell ⟨gb254, 0, none⟩ (.bool t243)).setCell ⟨gb254, 1, none⟩ (.slice Ao111 t244.length co111)).setCell ⟨gb254, 2, none⟩ (.slice Ao113 t247.length co113)).setCell ⟨gb254, 3, none⟩ (.slice Ao115 t250.length co115)) w.heap.size (fun k_ => k_ ≠ gb236 ∧ k_ ≠ gb237 ∧ k_ ≠ gb254) (.slice Ao103 x237001_2.length co103) x237001_2) := ⟨by (with_reducible repeat (first | apply Kd.V_alloc | apply Kd.V_drewN | apply Kd.V_drew)); exact Kd.V_mono (zv4 (Kd.V_mono HO_237001.out (fun k_ hk => (⟨hk, hk.2.2⟩ : _ ∧ k_ ≠ gb254)))) (fun _ hk => ⟨hk.1.1, ⟨hk.1.2.1, hk.1.2.2⟩⟩)⟩
               have n1_ : Aside0 (Kd.V (Kd.slice 5 (Kd.int .u8)) 27 ((((w109.setCell ⟨gb254, 0, none⟩ (.bool t243)).setCell ⟨gb254, 1, none⟩ (.slice Ao111 t244.length co111)).setCell ⟨gb254, 2, none⟩ (.slice Ao113 t247.length co113)).setCell ⟨gb254, 3, none⟩ (.slice Ao115 t250.length co115)) w.heap.size (fun k_ => k_ ≠ gb236 ∧ k_ ≠ gb237 ∧ k_ ≠ gb254) (.slice Ao104 x237002_2.length co104) x237002_2) := ⟨by (with_reducible repeat (first | apply Kd.V_alloc | apply Kd.V_drewN | apply Kd.V_drew)); exact Kd.V_mono (zv4 (Kd.V_mono HO_237002.out (fun k_ hk => (⟨hk, hk.2.2⟩ : _ ∧ k_ ≠ gb254)))) (fun _ hk => ⟨hk.1.1, ⟨hk.1.2.1, hk.1.2.2⟩⟩)⟩
               have n2_ : Aside0 (Kd.V (Kd.int .i64) 3 ((((w109.setCell ⟨gb254, 0, none⟩ (.bool t243)).setCell ⟨gb254, 1, none⟩ (.slice Ao111 t244.length co111)).setCell ⟨gb254, 2, none⟩ (.slice Ao113 t247.length co113)).setCell ⟨gb254, 3, none⟩ (.slice Ao115 t250.length co115)) w.heap.size (fun k_ => k_ ≠ gb236 ∧ k_ ≠ gb237 ∧ k_ ≠ gb254) (.slice Ao105 x237003_2.length co105) x237003_2) := ⟨by (with_reducible repeat (first | apply Kd.V_alloc | apply Kd.V_drewN | apply Kd.V_drew)); exact Kd.V_mono (zv4 (Kd.V_mono HO_237003.out (fun k_ hk => (⟨hk, hk.2.2⟩ : _ ∧ k_ ≠ gb254)))) (fun _ hk => ⟨hk.1.1, ⟨hk.1.2.1, hk.1.2.2⟩⟩)⟩
               have n3_ : Aside0 (Kd.V (Kd.slice 5 (Kd.int .u8)) 27 ((((w109.setCell ⟨gb254, 0, none⟩ (.bool t243)).setCell ⟨gb254, 1, none⟩ (.slice Ao111 t244.length co111)).setCell ⟨gb254, 2, none⟩ (.slice Ao113 t247.length co113)).setCell ⟨gb254, 3, none⟩ (.slice Ao115 t250.length co115)) w.heap.size (fun k_ => k_ ≠ gb236 ∧ k_ ≠ gb237 ∧ k_ ≠ gb254) (.slice Ao117 x238001_2.length co117) x238001_2) := ⟨by (with_reducible repeat (first | apply Kd.V_alloc | apply Kd.V_drewN | apply Kd.V_drew)); exact Kd.V_mono (zv4 (Kd.V_mono HO_238001.out (fun k_ hk => (⟨hk, hk.2.2⟩ : _ ∧ k_ ≠ gb254)))) (fun _ hk => ⟨hk.1.1, ⟨hk.1.2.1, hk.1.2.2⟩⟩)⟩
               have n4_ : Aside0 (Kd.V (Kd.slice 5 (Kd.int .u8)) 27 ((((w109.setCell ⟨gb254, 0, none⟩ (.bool t243)).setCell ⟨gb254, 1, none⟩ (.slice Ao111 t244.length co111)).setCell ⟨gb254, 2, none⟩ (.slice Ao113 t247.length co113)).setCell ⟨gb254, 3, none⟩ (.slice Ao115 t250.length co115)) w.heap.size (fun k_ => k_ ≠ gb236 ∧ k_ ≠ gb237 ∧ k_ ≠ gb254) (.slice Ao118 x238002_2.length co118) x238002_2) := ⟨by (with_reducible repeat (first | apply Kd.V_alloc | apply Kd.V_drewN | apply Kd.V_drew)); exact Kd.V_mono (zv4 (Kd.V_mono HO_238002.out (fun k_ hk => (⟨hk, hk.2.2⟩ : _ ∧ k_ ≠ gb254)))) (fun _ hk => ⟨hk.1.1, ⟨hk.1.2.1, hk.1.2.2⟩⟩)⟩
               have n5_ : Aside0 (Kd.V (Kd.int .i64) 3 ((((w109.setCell ⟨gb254, 0, none⟩ (.bool t243)).setCell ⟨gb254, 1, none⟩ (.slice Ao111 t244.length co111)).setCell ⟨gb254, 2, none⟩ (.slice Ao113 t247.length co113)).setCell ⟨gb254, 3, none⟩ (.slice Ao115 t250.length co115)) w.heap.size (fun k_ => k_ ≠ gb236 ∧ k_ ≠ gb237 ∧ k_ ≠ gb254) (.slice Ao119 x238003_2.length co119) x238003_2) := ⟨by (with_reducible repeat (first | apply Kd.V_alloc | apply Kd.V_drewN | apply Kd.V_drew)); exact Kd.V_mono (zv4 (Kd.V_mono HO_238003.out (fun k_ hk => (⟨hk, hk.2.2⟩ : _ ∧ k_ ≠ gb254)))) (fun _ hk => ⟨hk.1.1, ⟨hk.1.2.1, hk.1.2.2⟩⟩)⟩
               have n6_ : Aside0 (Kd.V (Kd.slice 5 (Kd.int .u8)) 27 ((((w109.setCell ⟨gb254, 0, none⟩ (.bool t243)).setCell ⟨gb254, 1, none⟩ (.slice Ao111 t244.length co111)).setCell ⟨gb254, 2, none⟩ (.slice Ao113 t247.length co113)).setCell ⟨gb254, 3, none⟩ (.slice Ao115 t250.length co115)) w.heap.size (fun k_ => k_ ≠ gb236 ∧ k_ ≠ gb237 ∧ k_ ≠ gb254) (.slice Ao111 t244.length co111) t244) := ⟨by (with_reducible repeat (first | apply Kd.V_alloc | apply Kd.V_drewN | apply Kd.V_drew)); exact Kd.V_mono (zv4 (Kd.V_mono HO246.out (fun k_ hk => (⟨hk, hk.2.2⟩ : _ ∧ k_ ≠ gb254)))) (fun _ hk => ⟨hk.1.1, ⟨hk.1.2.1, hk.1.2.2⟩⟩)⟩
               have n7_ : Aside0 (Kd.V (Kd.slice 5 (Kd.int .u8)) 27 ((((w109.setCell ⟨gb254, 0, none⟩ (.bool t243)).setCell ⟨gb254, 1, none⟩ (.slice Ao111 t244.length co111)).setCell ⟨gb254, 2, none⟩ (.slice Ao113 t247.length co113)).setCell ⟨gb254, 3, none⟩ (.slice Ao115 t250.length co115)) w.heap.size (fun k_ => k_ ≠ gb236 ∧ k_ ≠ gb237 ∧ k_ ≠ gb254) (.slice Ao113 t247.length co113) t247) := ⟨by (with_reducible repeat (first | apply Kd.V_alloc | apply Kd.V_drewN | apply Kd.V_drew)); exact Kd.V_mono (zv4 (Kd.V_mono HO249.out (fun k_ hk => (⟨hk, hk.2.2⟩ : _ ∧ k_ ≠ gb254)))) (fun _ hk => ⟨hk.1.1, ⟨hk.1.2.1, hk.1.2.2⟩⟩)⟩
               have n8_ : Aside0 (Kd.V (Kd.int .i64) 3 ((((w109.setCell ⟨gb254, 0, none⟩ (.bool t243)).setCell ⟨gb254, 1, none⟩ (.slice Ao111 t244.length co111)).setCell ⟨gb254, 2, none⟩ (.slice Ao113 t247.length co113)).setCell ⟨gb254, 3, none⟩ (.slice Ao115 t250.length co115)) w.heap.size (fun k_ => k_ ≠ gb236 ∧ k_ ≠ gb237 ∧ k_ ≠ gb254) (.slice Ao115 t250.length co115) t250) := ⟨by (with_reducible repeat (first | apply Kd.V_alloc | apply Kd.V_drewN | apply Kd.V_drew)); exact Kd.V_mono (zv4 (Kd.V_mono HO252.out (fun k_ hk => (⟨hk, hk.2.2⟩ : _ ∧ k_ ≠ gb254)))) (fun _ hk => ⟨hk.1.1, ⟨hk.1.2.1, hk.1.2.2⟩⟩)⟩
               have n9_ : Aside0 (((((w109.setCell ⟨gb254, 0, none⟩ (.bool t243)).setCell ⟨gb254, 1, none⟩ (.slice Ao111 t244.length co111)).setCell ⟨gb254, 2, none⟩ (.slice Ao113 t247.length co113)).setCell ⟨gb254, 3, none⟩ (.slice Ao115 t250.length co115)).heap[gb236]? = some (.cells #[.bool x237000_2, .slice Ao103 x237001_2.length co103, .slice Ao104 x237002_2.length co104, .slice Ao105 x237003_2.length co105] 26 (0, 0))) := ⟨by (with_reducible repeat (first | refine blk_drewN ?_ _ | refine blk_drew ?_ | refine blk_alloc ?_ _)); refine blk_far ?_ NB236_254.out _; (with_reducible repeat (first | refine blk_drewN ?_ _ | refine blk_drew ?_ | refine blk_alloc ?_ _)); refine blk_far ?_ NB236_254.out _; (with_reducible repeat (first | refine blk_drewN ?_ _ | refine blk_drew ?_ | refine blk_alloc ?_ _)); refine blk_far ?_ NB236_254.out _; (with_reducible repeat (first | refine blk_drewN ?_ _ | refine blk_drew ?_ | refine blk_alloc ?_ _)); refine blk_far ?_ NB236_254.out _; (with_reducible repeat (first | refine blk_drewN ?_ _ | refine blk_drew ?_ | refine blk_alloc ?_ _)); exact BK236.out⟩
               have n10_ : Aside0 (((((w109.setCell ⟨gb254, 0, none⟩ (.bool t243)).setCell ⟨gb254, 1, none⟩ (.slice Ao111 t244.length co111)).setCell ⟨gb254, 2, none⟩ (.slice Ao113 t247.length co113)).setCell ⟨gb254, 3, none⟩ (.slice Ao115 t250.length co115)).heap[gb237]? = some (.cells #[.bool x238000_2, .slice Ao117 x238001_2.length co117, .slice Ao118 x238002_2.length co118, .slice Ao119 x238003_2.length co119] 26 (0, 0))) := ⟨by (with_reducible repeat (first | refine blk_drewN ?_ _ | refine blk_drew ?_ | refine blk_alloc ?_ _)); refine blk_far ?_ NB237_254.out _; (with_reducible repeat (first | refine blk_drewN ?_ _ | refine blk_drew ?_ | refine blk_alloc ?_ _)); refine blk_far ?_ NB237_254.out _; (with_reducible repeat (first | refine blk_drewN ?_ _ | refine blk_drew ?_ | refine blk_alloc ?_ _)); refine blk_far ?_ NB237_254.out _; (with_reducible repeat (first | refine blk_drewN ?_ _ | refine blk_drew ?_ | refine blk_alloc ?_ _)); refine blk_far ?_ NB237_254.out _; (with_reducible repeat (first | refine blk_drewN ?_ _ | refine blk_drew ?_ | refine blk_alloc ?_ _)); exact BK237.out⟩
               have n11_ : Aside0 (((((w109.setCell ⟨gb254, 0, none⟩ (.bool t243)).setCell ⟨gb254, 1, none⟩ (.slice Ao111 t244.length co111)).setCell ⟨gb254, 2, none⟩ (.slice Ao113 t247.length co113)).setCell ⟨gb254, 3, none⟩ (.slice Ao115 t250.length co115)).heap[gb254]? = some (.cells #[.bool t243, .slice Ao111 t244.length co111, .slice Ao113 t247.length co113, .slice Ao115 t250.length co115] 26 (0, 0))) := ⟨by (with_reducible repeat (first | refine blk_drewN ?_ _ | refine blk_drew ?_ | refine blk_alloc ?_ _)); refine blk_put (cs := #[.bool t243, .slice Ao111 t244.length co111, .slice Ao113 t247.length co113, .slice none 0 0]) ?_ 3 _ (by first | rfl | (simp only [List.length_drop, List.length_take]; rfl)); (with_reducible repeat (first | refine blk_drewN ?_ _ | refine blk_drew ?_ | refine blk_alloc ?_ _)); refine blk_put (cs := #[.bool t243, .slice Ao111 t244.length co111, .slice none 0 0, .slice none 0 0]) ?_ 2 _ (by first | rfl | (simp only [List.length_drop, List.length_take]; rfl)); (with_reducible repeat (first | refine blk_drewN ?_ _ | refine blk_drew ?_ | refine blk_alloc ?_ _)); refine blk_put (cs := #[.bool t243, .slice none 0 0, .slice none 0 0, .slice none 0 0]) ?_ 1 _ (by first | rfl | (simp only [List.length_drop, List.length_take]; rfl)); (with_reducible repeat (first | refine blk_drewN ?_ _ | refine blk_drew ?_ | refine blk_alloc ?_ _)); refine blk_put (cs := #[.bool false, .slice none 0 0, .slice none 0 0, .slice none 0 0]) ?_ 0 _ (by first | rfl | (simp only [List.length_drop, List.length_take]; rfl)); (with_reducible repeat (first | refine blk_drewN ?_ _ | refine blk_drew ?_ | refine blk_alloc ?_ _)); exact BK254.out⟩
               have n12_ : Aside0 (Below w.heap.size w ((((w109.setCell ⟨gb254, 0, none⟩ (.bool t243)).setCell ⟨gb254, 1, none⟩ (.slice Ao111 t244.length co111)).setCell ⟨gb254, 2, none⟩ (.slice Ao113 t247.length co113)).setCell ⟨gb254, 3, none⟩ (.slice Ao115 t250.length co115))) := ⟨by exact zh3_ HB.out GE236.out GE237.out GE254.out⟩
               (try clear HO_237001)
               (try clear HO_237002)
               (try clear HO_237003)
               (try clear HO_238001)
               (try clear HO_238002)
               (try clear HO_238003)
               (try clear HO246)
               (try clear HO249)
               (try clear HO252)
               (try clear BK236)
               (try clear BK237)
               (try clear BK254)
               (try clear HB)
               generalize ((((w109.setCell ⟨gb254, 0, none⟩ (.bool t243)).setCell ⟨gb254, 1, none⟩ (.slice Ao111 t244.length co111)).setCell ⟨gb254, 2, none⟩ (.slice Ao113 t247.length co113)).setCell ⟨gb254, 3, none⟩ (.slice Ao115 t250.length co115)) = w120 at n0_ n1_ n2_ n3_ n4_ n5_ n6_ n7_ n8_ n9_ n10_ n11_ n12_ ⊢
               have HO_237001 := n0_
               have HO_237002 := n1_
               have HO_237003 := n2_
               have HO_238001 := n3_
               have HO_238002 := n4_
               have HO_238003 := n5_
               have HO246 := n6_
               have HO249 := n7_
               have HO252 := n8_
               have BK236 := n9_
               have BK237 := n10_
               have BK254 := n11_
               have HB := n12_
               clear n0_ n1_ n2_ n3_ n4_ n5_ n6_ n7_ n8_ n9_ n10_ n11_ n12_
               have n0_ := Aside0.mk (Kd.V_drew HO_237001.out)
               have n1_ := Aside0.mk (Kd.V_drew HO_237002.out)
               have n2_ := Aside0.mk (Kd.V_drew HO_237003.out)
               have n3_ := Aside0.mk (Kd.V_drew HO_238001.out)
               have n4_ := Aside0.mk (Kd.V_drew HO_238002.out)
               have n5_ := Aside0.mk (Kd.V_drew HO_238003.out)
               have n6_ := Aside0.mk (Kd.V_drew HO246.out)
               have n7_ := Aside0.mk (Kd.V_drew HO249.out)
               have n8_ := Aside0.mk (Kd.V_drew HO252.out)
               have n9_ := Aside0.mk (blk_drew BK236.out)
               have n10_ := Aside0.mk (blk_drew BK237.out)
               have n11_ := Aside0.mk (blk_drew BK254.out)
               have n12_ := Aside0.mk (below_drew1 HB.out)
               clear HO_237001
               clear HO_237002
               clear HO_237003
               clear HO_238001
               clear HO_238002
               clear HO_238003
               clear HO246
               clear HO249
               clear HO252
               clear BK236
               clear BK237
               clear BK254
               clear HB
               have HO_237001 := n0_
               have HO_237002 := n1_
               have HO_237003 := n2_
               have HO_238001 := n3_
               have HO_238002 := n4_
               have HO_238003 := n5_
               have HO246 := n6_
               have HO249 := n7_
               have HO252 := n8_
               have BK236 := n9_
               have BK237 := n10_
               have BK254 := n11_
               have HB := n12_
               clear n0_ n1_ n2_ n3_ n4_ n5_ n6_ n7_ n8_ n9_ n10_ n11_ n12_
               have p255 : 0 ≤ ((ji28) : Int) := of_decide_eq_true za_
               have q255 : (ji28) < (l0.length : Int) := of_decide_eq_true za_
               obtain ⟨ad255, A255_0, c255_0, e255, hx255_0, hl255_0, hi255_0⟩ := at_L1 HR0.out (ji28) p255 q255
               have hw255_0 := hx255_0
               obtain rfl : ad241 = ad255 := (by injection e255)
               replace hx255_0 := zx_ HB.out hx255_0
               have HR255_0 := Aside0.mk hi255_0
               have HC255_0 := Aside0.mk hl255_0
               clear hi255_0 hl255_0
               replace p255 := eq_true p255
               replace q255 := eq_true q255
               have p256 : 0 ≤ ((ji28) : Int) := of_decide_eq_true za_
               have q256 : (ji28) < (l1.length : Int) := of_decide_eq_true za_
               obtain ⟨ad256, A256_0, c256_0, e256, hx256_0, hl256_0, hi256_0⟩ := at_L1 HR1.out (ji28) p256 q256
               have hw256_0 := hx256_0
               obtain rfl : ad242 = ad256 := (by injection e256)
               replace hx256_0 := zx_ HB.out hx256_0
               have HR256_0 := Aside0.mk hi256_0
               have HC256_0 := Aside0.mk hl256_0
               clear hi256_0 hl256_0
               replace p256 := eq_true p256
               replace q256 := eq_true q256
               refine start_ (n := 16) (S := fun w' => w'.cell? ⟨gb237, 0, none⟩ = some (.bool x238000_2) ∧ w'.cell? ⟨gb237, 1, none⟩ = some (.slice Ao117 x238001_2.length co117) ∧ w'.cell? ⟨gb237, 2, none⟩ = some (.slice Ao118 x238002_2.length co118) ∧ w'.cell? ⟨gb237, 3, none⟩ = some (.slice Ao119 x238003_2.length co119) ∧ w'.cell? (ad241.add ((ji28)).toNat) = some (.slice A255_0 (rd_L1 l0 (ji28)).length c255_0) ∧ w'.cell? (ad242.add ((ji28)).toNat) = some (.slice A256_0 (rd_L1 l1 (ji28)).length c256_0)) (ds := []) (zB 0 16) (by kernel_rfl) rfl rfl ⟨(blk_cell BK237.out 0).trans rfl, (blk_cell BK237.out 1).trans rfl, (blk_cell BK237.out 2).trans rfl, (blk_cell BK237.out 3).trans rfl, ((HB.out.cell (World.block_lt_of_cell? w _ hw255_0)).trans hw255_0), ((HB.out.cell (World.block_lt_of_cell? w _ hw256_0)).trans hw256_0)⟩ (fun hHeld => ?_); refine with_tabW ladinglaw06_NodeSame.tab18 ladinglaw06_NodeSame.bits18 (fun HT_ HW_ => ?_)
               generalize w120.drew = w121 at HO_237001 HO_237002 HO_237003 HO_238001 HO_238002 HO_238003 HO246 HO249 HO252 BK236 BK237 BK254 HB HR255_0 HR256_0 hx255_0 hx256_0 hHeld ⊢
               refine pure_ (i := 1) (N := some 77) (v := ?_) (a' := ?_) #[false, true, false, false, false, false, false, false, false, false, false, false, false, false, false, false] rfl rfl (any_of HT_.out (by kernel_rfl)) (fun _ _ _ h => h) (Or.inl ⟨by rfl, ?_⟩) ?_ ?_
               rotate_left
               ·intro w'
                go_simp
                with_reducible rfl
               rotate_left
               ·simp only [Act.put, zt0, zt1, zt2, i64_w, i32_w]
                rfl
               refine pure_ (i := 2) (N := some 78) (v := ?_) (a' := ?_) #[false, true, true, false, false, false, false, false, false, false, false, false, false, false, false, false] rfl rfl (any_of HT_.out (by kernel_rfl)) (fun _ _ _ h => h) (Or.inl ⟨by rfl, ?_⟩) ?_ ?_
               rotate_left
               ·intro w'
                go_simp
                with_reducible rfl
               rotate_left
               ·simp only [Act.put, zt0, zt1, zt2, i64_w, i32_w]
                rfl
               refine pure_ (i := 3) (N := some 79) (v := ?_) (a' := ?_) #[false, true, true, true, false, false, false, false, false, false, false, false, false, false, false, false] rfl rfl (any_of HT_.out (by kernel_rfl)) (fun _ _ _ h => h) (Or.inl ⟨by rfl, ?_⟩) ?_ ?_
               rotate_left
               ·intro w'
                go_simp
                with_reducible rfl
               rotate_left
               ·simp only [Act.put, zt0, zt1, zt2, i64_w, i32_w]
                rfl
               refine pure_ (i := 5) (N := some 81) (v := ?_) (a' := ?_) #[false, true, true, true, false, true, false, false, false, false, false, false, false, false, false, false] rfl rfl (any_of HT_.out (by kernel_rfl)) (fun _ _ _ h => h) (Or.inl ⟨by rfl, ?_⟩) ?_ ?_
               rotate_left
               ·intro w'
                go_simp
                with_reducible rfl
               rotate_left
               ·simp only [Act.put, zt0, zt1, zt2, i64_w, i32_w]
                rfl
               refine pure_ (i := 6) (N := some 82) (v := ?_) (a' := ?_) #[false, true, true, true, false, true, true, false, false, false, false, false, false, false, false, false] rfl rfl (any_of HT_.out (by kernel_rfl)) (fun _ _ _ h => h) (Or.inl ⟨by rfl, ?_⟩) ?_ ?_
               rotate_left
               ·intro w'
                go_simp
                with_reducible rfl
               rotate_left
               ·simp only [Act.put, zt0, zt1, zt2, i64_w, i32_w]
                rfl
               refine pure_ (i := 7) (N := some 83) (v := ?_) (a' := ?_) #[false, true, true, true, false, true, true, true, false, false, false, false, false, false, false, false] rfl rfl (any_of HT_.out (by kernel_rfl)) (fun _ _ _ h => h) (Or.inl ⟨by rfl, ?_⟩) ?_ ?_
               rotate_left
               ·intro w'
                go_simp
                with_reducible rfl
               rotate_left
               ·simp only [Act.put, zt0, zt1, zt2, i64_w, i32_w]
                rfl
               refine take_ (i := 0) (N := some 76) (v := ?_) (a' := ?_) #[true, true, true, true, false, true, true, true, false, false, false, false, false, false, false, false] rfl rfl (take_ofW HT_.out HW_.out (by kernel_rfl)) (fun _ _ _ h => h) (Or.inl ⟨by rfl, ?_⟩) hHeld ?_ ?_
               rotate_left
               ·rintro w' ⟨s0, s1, s2, s3, s4, s5⟩
                go_simp
                with_reducible rfl
               rotate_left
               ·simp only [Act.put, zt0, zt1, zt2, i64_w, i32_w]
                rfl
               refine take_ (i := 4) (N := some 80) (v := ?_) (a' := ?_) (zB 8 8) rfl rfl (take_ofW HT_.out HW_.out (by kernel_rfl)) (fun _ _ _ h => h) (Or.inl ⟨by rfl, ?_⟩) hHeld ?_ ?_
               rotate_left
               ·rintro w' ⟨s0, s1, s2, s3, s4, s5⟩
                go_simp
                with_reducible rfl
               rotate_left
               ·simp only [Act.put, zt0, zt1, zt2, i64_w, i32_w]
                rfl
               refine take_ (i := 8) (N := some 84) (v := ?_) (a' := ?_) (zB 9 7) rfl rfl (take_ofW HT_.out HW_.out (by kernel_rfl)) (fun _ _ _ h => h) (Or.inl ⟨by rfl, ?_⟩) hHeld ?_ ?_
               rotate_left
               ·rintro w' ⟨s0, s1, s2, s3, s4, s5⟩
                go_simp
                with_reducible rfl
               rotate_left
               ·simp only [Act.put, zt0, zt1, zt2, i64_w, i32_w]
                rfl
               refine join_ (σ := Value × Value × Value × Nat) 2 (zB 14 2) (fun s_ => [(85, .tuple #[.agg #[.bool t257, s_.1, s_.2.1, s_.2.2.1], .int .i64 t267]), (16, .pointer (some ⟨s_.2.2.2, 0, none⟩)), (75, .tuple #[.agg #[.bool t257, s_.1, s_.2.1, s_.2.2.1], .int .i64 t267]), (86, .agg #[.bool t257, s_.1, s_.2.1, s_.2.2.1]), (87, .int .i64 t267)]) (fun s_ w' => (w'.cell? ⟨gb237, 0, none⟩ = some (.bool x238000_2) ∧ w'.cell? ⟨gb237, 1, none⟩ = some (.slice Ao117 x238001_2.length co117) ∧ w'.cell? ⟨gb237, 2, none⟩ = some (.slice Ao118 x238002_2.length co118) ∧ w'.cell? ⟨gb237, 3, none⟩ = some (.slice Ao119 x238003_2.length co119) ∧ w'.cell? (ad241.add ((ji28)).toNat) = some (.slice A255_0 (rd_L1 l0 (ji28)).length c255_0) ∧ w'.cell? (ad242.add ((ji28)).toNat) = some (.slice A256_0 (rd_L1 l1 (ji28)).length c256_0)) ∧ (Kd.V (Kd.slice 5 (Kd.int .u8)) 27 w' w.heap.size (fun k_ => k_ ≠ gb236 ∧ k_ ≠ gb237 ∧ k_ ≠ gb254 ∧ k_ ≠ s_.2.2.2) (.slice Ao111 t244.length co111) t244) ∧ (Kd.V (Kd.slice 5 (Kd.int .u8)) 27 w' w.heap.size (fun k_ => k_ ≠ gb236 ∧ k_ ≠ gb237 ∧ k_ ≠ gb254 ∧ k_ ≠ s_.2.2.2) (.slice Ao113 t247.length co113) t247) ∧ (Kd.V (Kd.int .i64) 3 w' w.heap.size (fun k_ => k_ ≠ gb236 ∧ k_ ≠ gb237 ∧ k_ ≠ gb254 ∧ k_ ≠ s_.2.2.2) (.slice Ao115 t250.length co115) t250) ∧ (Kd.V (Kd.slice 5 (Kd.int .u8)) 27 w' w.heap.size (fun k_ => k_ ≠ gb236 ∧ k_ ≠ gb237 ∧ k_ ≠ gb254 ∧ k_ ≠ s_.2.2.2) s_.1 t258) ∧ (Kd.V (Kd.slice 5 (Kd.int .u8)) 27 w' w.heap.size (fun k_ => k_ ≠ gb236 ∧ k_ ≠ gb237 ∧ k_ ≠ gb254 ∧ k_ ≠ s_.2.2.2) s_.2.1 t261) ∧ (Kd.V (Kd.int .i64) 3 w' w.heap.size (fun k_ => k_ ≠ gb236 ∧ k_ ≠ gb237 ∧ k_ ≠ gb254 ∧ k_ ≠ s_.2.2.2) s_.2.2.1 t264) ∧ (Kd.V (Kd.slice 5 (Kd.int .u8)) 27 w' w.heap.size (fun k_ => k_ ≠ gb236 ∧ k_ ≠ gb237 ∧ k_ ≠ gb254 ∧ k_ ≠ s_.2.2.2) (.slice Ao103 x237001_2.length co103) x237001_2) ∧ (Kd.V (Kd.slice 5 (Kd.int .u8)) 27 w' w.heap.size (fun k_ => k_ ≠ gb236 ∧ k_ ≠ gb237 ∧ k_ ≠ gb254 ∧ k_ ≠ s_.2.2.2) (.slice Ao104 x237002_2.length co104) x237002_2) ∧ (Kd.V (Kd.int .i64) 3 w' w.heap.size (fun k_ => k_ ≠ gb236 ∧ k_ ≠ gb237 ∧ k_ ≠ gb254 ∧ k_ ≠ s_.2.2.2) (.slice Ao105 x237003_2.length co105) x237003_2) ∧ (Kd.V (Kd.slice 5 (Kd.int .u8)) 27 w' w.heap.size (fun k_ => k_ ≠ gb236 ∧ k_ ≠ gb237 ∧ k_ ≠ gb254 ∧ k_ ≠ s_.2.2.2) (.slice Ao117 x238001_2.length co117) x238001_2) ∧ (Kd.V (Kd.slice 5 (Kd.int .u8)) 27 w' w.heap.size (fun k_ => k_ ≠ gb236 ∧ k_ ≠ gb237 ∧ k_ ≠ gb254 ∧ k_ ≠ s_.2.2.2) (.slice Ao118 x238002_2.length co118) x238002_2) ∧ (Kd.V (Kd.int .i64) 3 w' w.heap.size (fun k_ => k_ ≠ gb236 ∧ k_ ≠ gb237 ∧ k_ ≠ gb254 ∧ k_ ≠ s_.2.2.2) (.slice Ao119 x238003_2.length co119) x238003_2) ∧ (w'.heap[gb236]? = some (.cells #[.bool x237000_2, .slice Ao103 x237001_2.length co103, .slice Ao104 x237002_2.length co104, .slice Ao105 x237003_2.length co105] 26 (0, 0))) ∧ (w'.heap[gb237]? = some (.cells #[.bool x238000_2, .slice Ao117 x238001_2.length co117, .slice Ao118 x238002_2.length co118, .slice Ao119 x238003_2.length co119] 26 (0, 0))) ∧ (w'.heap[gb254]? = some (.cells #[.bool t243, .slice Ao111 t244.length co111, .slice Ao113 t247.length co113, .slice Ao115 t250.length co115] 26 (0, 0))) ∧ (w'.heap[s_.2.2.2]? = some (.cells #[.bool false, .slice none 0 0, .slice none 0 0, .slice none 0 0] 26 (0, 0))) ∧ (w.heap.size ≤ s_.2.2.2) ∧ (w.heap.size ≤ s_.2.2.2) ∧ (gb236 ≠ s_.2.2.2) ∧ (s_.2.2.2 ≠ gb236) ∧ (gb237 ≠ s_.2.2.2) ∧ (s_.2.2.2 ≠ gb237) ∧ (gb254 ≠ s_.2.2.2) ∧ (s_.2.2.2 ≠ gb254) ∧ (Below w.heap.size w w')) ?_ ?_
               rotate_left
               ·intro hCont
                refine two_ (i := 9) (j := 13) (Ni := some 85) (Nj := some 16) (zB 10 6) #[true, true, true, true, true, true, true, true, true, false, false, false, false, true, false, false] rfl rfl rfl rfl (two_of HT_.out (by kernel_rfl)) (by decide) (by decide) (fun K hK => ?_) (fun K hK => ?_)
                ·skip
                 refine goes_ Try.func10 (by kernel_rfl) rfl #[.agg #[.bool x238000_2, .slice Ao117 x238001_2.length co117, .slice Ao118 x238002_2.length co118, .slice Ao119 x238003_2.length co119], .slice A255_0 (rd_L1 l0 (ji28)).length c255_0, .slice A256_0 (rd_L1 l1 (ji28)).length c256_0] (by rfl) rfl rfl (by (try simp only [List.map_toArray, List.map_cons, List.map_nil]); first | done | (simp only [hji28]; rfl) | rfl | (simp only [List.length_drop, List.length_take]; rfl)) ?_
                 with_reducible refine (node_Put.calls k2 x238000_2 _ _ x238001_2 _ _ x238002_2 _ _ x238003_2 _ _ (rd_L1 l0 (ji28)) _ _ (rd_L1 l1 (ji28)) t257 t258 t261 t264 t267 _ ?side1 ?side2 ?side3 ?side4 ?side5 ?side6 ?side7 ?side8 ?side9 ?side10 A32.out).mono ?_
                 (case side1 => repeat (first | exact (Kd.V_reads' HO_238001.out).2.2 | (with_reducible refine Kd.C_alloc ?_ _) | (with_reducible refine Kd.C_drewN ?_ _) | (with_reducible refine Kd.C_drew ?_)))
                 (case side2 => exact (Kd.V_reads' HO_238001.out).2.1)
                 (case side3 => repeat (first | exact (Kd.V_reads' HO_238002.out).2.2 | (with_reducible refine Kd.C_alloc ?_ _) | (with_reducible refine Kd.C_drewN ?_ _) | (with_reducible refine Kd.C_drew ?_)))
                 (case side4 => exact (Kd.V_reads' HO_238002.out).2.1)
                 (case side5 => repeat (first | exact (Kd.V_reads' HO_238003.out).2.2 | (with_reducible refine Kd.C_alloc ?_ _) | (with_reducible refine Kd.C_drewN ?_ _) | (with_reducible refine Kd.C_drew ?_)))
                 (case side6 => exact (Kd.V_reads' HO_238003.out).2.1)
                 (case side7 => exact zc_ (Kd.C_below HR255_0.out HB.out))
                 (case side8 => exact HC255_0.out)
                 (case side9 => exact zc_ (Kd.C_below HR256_0.out HB.out))
                 (case side10 => exact HC256_0.out)
                 rintro e w122 ⟨v259, v262, v265, rfl, ho0, ho1, ho2, hb⟩
                 refine ⟨_, rfl, ?_⟩
                 have n0_ := Aside0.mk (Kd.V_below (zV_ HO_237001.out) hb)
                 have n1_ := Aside0.mk (Kd.V_below (zV_ HO_237002.out) hb)
                 have n2_ := Aside0.mk (Kd.V_below (zV_ HO_237003.out) hb)
                 have n3_ := Aside0.mk (Kd.V_below (zV_ HO_238001.out) hb)
                 have n4_ := Aside0.mk (Kd.V_below (zV_ HO_238002.out) hb)
                 have n5_ := Aside0.mk (Kd.V_below (zV_ HO_238003.out) hb)
                 have n6_ := Aside0.mk (Kd.V_below (zV_ HO246.out) hb)
                 have n7_ := Aside0.mk (Kd.V_below (zV_ HO249.out) hb)
                 have n8_ := Aside0.mk (Kd.V_below (zV_ HO252.out) hb)
                 have n9_ := Aside0.mk (Kd.V_lower (Kd.V_mono (ok' := fun k_ => k_ ≠ gb236 ∧ k_ ≠ gb237 ∧ k_ ≠ gb254) ho0 (fun k_ hk_ => ⟨(Kd.freshB (zb_ BK236.out) k_ hk_), (Kd.freshB (zb_ BK237.out) k_ hk_), (Kd.freshB (zb_ BK254.out) k_ hk_)⟩)) (below_size (zh3_ HB.out GE236.out GE237.out GE254.out)))
                 have n10_ := Aside0.mk (Kd.V_lower (Kd.V_mono (ok' := fun k_ => k_ ≠ gb236 ∧ k_ ≠ gb237 ∧ k_ ≠ gb254) ho1 (fun k_ hk_ => ⟨(Kd.freshB (zb_ BK236.out) k_ hk_), (Kd.freshB (zb_ BK237.out) k_ hk_), (Kd.freshB (zb_ BK254.out) k_ hk_)⟩)) (below_size (zh3_ HB.out GE236.out GE237.out GE254.out)))
                 have n11_ := Aside0.mk (Kd.V_lower (Kd.V_mono (ok' := fun k_ => k_ ≠ gb236 ∧ k_ ≠ gb237 ∧ k_ ≠ gb254) ho2 (fun k_ hk_ => ⟨(Kd.freshB (zb_ BK236.out) k_ hk_), (Kd.freshB (zb_ BK237.out) k_ hk_), (Kd.freshB (zb_ BK254.out) k_ hk_)⟩)) (below_size (zh3_ HB.out GE236.out GE237.out GE254.out)))
                 have n12_ := Aside0.mk (blk_below (zb_ BK236.out) hb)
                 have n13_ := Aside0.mk (blk_below (zb_ BK237.out) hb)
                 have n14_ := Aside0.mk (blk_below (zb_ BK254.out) hb)
                 have n15_ := Aside0.mk (below_step (zh3_ HB.out GE236.out GE237.out GE254.out) hb)
                 clear HO_237001
                 clear HO_237002
                 clear HO_237003
                 clear HO_238001
                 clear HO_238002
                 clear HO_238003
                 clear HO246
                 clear HO249
                 clear HO252
                 clear BK236
                 clear BK237
                 clear BK254
                 clear HB
                 have HO_237001 := n0_
                 have HO_237002 := n1_
                 have HO_237003 := n2_
                 have HO_238001 := n3_
                 have HO_238002 := n4_
                 have HO_238003 := n5_
                 have HO246 := n6_
                 have HO249 := n7_
                 have HO252 := n8_
                 have HO260 := n9_
                 have HO263 := n10_
                 have HO266 := n11_
                 have BK236 := n12_
                 have BK237 := n13_
                 have BK254 := n14_
                 have HB := n15_
                 clear n0_ n1_ n2_ n3_ n4_ n5_ n6_ n7_ n8_ n9_ n10_ n11_ n12_ n13_ n14_ n15_
                 (try clear hb)
                 (try clear hb2)
                 (try clear hk)
                 (try clear hi)
                 (try clear ho0)
                 (try clear ho1)
                 (try clear ho2)
                 refine hK.out _ _ ⟨(blk_cell BK237.out 0).trans rfl, (blk_cell BK237.out 1).trans rfl, (blk_cell BK237.out 2).trans rfl, (blk_cell BK237.out 3).trans rfl, ((HB.out.cell (World.block_lt_of_cell? w _ hw255_0)).trans hw255_0), ((HB.out.cell (World.block_lt_of_cell? w _ hw256_0)).trans hw256_0)⟩ (fun hHeld => ?_)
                 clear hK K
                 refine norm_ (a' := ?_) ?_ ?_
                 rotate_left
                 ·show Act.put _ (some 85) _ = _
                  simp only [Act.put, zt0, zt1, zt2, i64_w, i32_w]
                  rfl
                 refine pure_ (i := 10) (N := some 75) (v := ?_) (a' := ?_) (zB 11 5) rfl rfl (any_of HT_.out (by kernel_rfl)) (fun _ _ _ h => h) (Or.inl ⟨by rfl, ?_⟩) ?_ ?_
                 rotate_left
                 ·intro w'
                  go_simp
                  with_reducible rfl
                 rotate_left
                 ·simp only [Act.put, zt0, zt1, zt2, i64_w, i32_w]
                  rfl
                 refine pure_ (i := 11) (N := some 86) (v := ?_) (a' := ?_) (zB 12 4) rfl rfl (any_of HT_.out (by kernel_rfl)) (fun _ _ _ h => h) (Or.inl ⟨by rfl, ?_⟩) ?_ ?_
                 rotate_left
                 ·intro w'
                  go_simp
                  with_reducible rfl
                 rotate_left
                 ·simp only [Act.put, zt0, zt1, zt2, i64_w, i32_w]
                  rfl
                 refine pure_ (i := 12) (N := some 87) (v := ?_) (a' := ?_) (zB 13 3) rfl rfl (any_of HT_.out (by kernel_rfl)) (fun _ _ _ h => h) (Or.inl ⟨by rfl, ?_⟩) ?_ ?_
                 rotate_left
                 ·intro w'
                  go_simp
                  with_reducible rfl
                 rotate_left
                 ·simp only [Act.put, zt0, zt1, zt2, i64_w, i32_w]
                  rfl
                 refine one_ (i := 13) (N := some 16) (zB 14 2) rfl rfl (one_of HT_.out (by kernel_rfl)) (by decide) (fun K hK => ?_)
                 refine box_step ?hg (N := 16) ?hd (cs := #[.bool false, .slice none 0 0, .slice none 0 0, .slice none 0 0]) (t := 26) ?hr ?_; (case hd => rfl); (case hg => rfl); (case hr => first | (go_simp; done) | (go_simp; rfl))
                 intro gb268 hg w123 hbox hb
                 have n0_ := Aside0.mk (Kd.V_below (Kd.V_elderB (zV_ HO_237001.out) gb268 (Nat.le_of_eq hg.symm)) hb)
                 have n1_ := Aside0.mk (Kd.V_below (Kd.V_elderB (zV_ HO_237002.out) gb268 (Nat.le_of_eq hg.symm)) hb)
                 have n2_ := Aside0.mk (Kd.V_below (Kd.V_elderB (zV_ HO_237003.out) gb268 (Nat.le_of_eq hg.symm)) hb)
                 have n3_ := Aside0.mk (Kd.V_below (Kd.V_elderB (zV_ HO_238001.out) gb268 (Nat.le_of_eq hg.symm)) hb)
                 have n4_ := Aside0.mk (Kd.V_below (Kd.V_elderB (zV_ HO_238002.out) gb268 (Nat.le_of_eq hg.symm)) hb)
                 have n5_ := Aside0.mk (Kd.V_below (Kd.V_elderB (zV_ HO_238003.out) gb268 (Nat.le_of_eq hg.symm)) hb)
                 have n6_ := Aside0.mk (Kd.V_below (Kd.V_elderB (zV_ HO246.out) gb268 (Nat.le_of_eq hg.symm)) hb)
                 have n7_ := Aside0.mk (Kd.V_below (Kd.V_elderB (zV_ HO249.out) gb268 (Nat.le_of_eq hg.symm)) hb)
                 have n8_ := Aside0.mk (Kd.V_below (Kd.V_elderB (zV_ HO252.out) gb268 (Nat.le_of_eq hg.symm)) hb)
                 have n9_ := Aside0.mk (Kd.V_below (Kd.V_elderB (zV_ HO260.out) gb268 (Nat.le_of_eq hg.symm)) hb)
                 have n10_ := Aside0.mk (Kd.V_below (Kd.V_elderB (zV_ HO263.out) gb268 (Nat.le_of_eq hg.symm)) hb)
                 have n11_ := Aside0.mk (Kd.V_below (Kd.V_elderB (zV_ HO266.out) gb268 (Nat.le_of_eq hg.symm)) hb)
                 have n12_ := Aside0.mk (blk_below (zb_ BK236.out) hb)
                 have n13_ := Aside0.mk (blk_below (zb_ BK237.out) hb)
                 have n14_ := Aside0.mk (blk_below (zb_ BK254.out) hb)
                 have n15_ := Aside0.mk (below_step (zh3_ HB.out GE236.out GE237.out GE254.out) hb)
                 have n16_ := Aside0.mk (hbox)
                 have n17_ := Aside0.mk ((by rw [hg]; exact (below_size (zh3_ HB.out GE236.out GE237.out GE254.out)) : w.heap.size ≤ gb268))
                 have n18_ := Aside0.mk ((by rw [hg]; exact (below_size (zh3_ HB.out GE236.out GE237.out GE254.out)) : w.heap.size ≤ gb268))
                 have n19_ := Aside0.mk ((by rw [hg]; exact Nat.ne_of_lt (blk_lt (zb_ BK236.out)) : gb236 ≠ gb268))
                 have n20_ := Aside0.mk ((by rw [hg]; exact Nat.ne_of_gt (blk_lt (zb_ BK236.out)) : gb268 ≠ gb236))
                 have n21_ := Aside0.mk ((by rw [hg]; exact Nat.ne_of_lt (blk_lt (zb_ BK237.out)) : gb237 ≠ gb268))
                 have n22_ := Aside0.mk ((by rw [hg]; exact Nat.ne_of_gt (blk_lt (zb_ BK237.out)) : gb268 ≠ gb237))
                 have n23_ := Aside0.mk ((by rw [hg]; exact Nat.ne_of_lt (blk_lt (zb_ BK254.out)) : gb254 ≠ gb268))
                 have n24_ := Aside0.mk ((by rw [hg]; exact Nat.ne_of_gt (blk_lt (zb_ BK254.out)) : gb268 ≠ gb254))
                 clear HO_237001
                 clear HO_237002
                 clear HO_237003
                 clear HO_238001
                 clear HO_238002
                 clear HO_238003
                 clear HO246
                 clear HO249
                 clear HO252
                 clear HO260
                 clear HO263
                 clear HO266
                 clear BK236
                 clear BK237
                 clear BK254
                 clear HB
                 have HO_237001 := n0_
                 have HO_237002 := n1_
                 have HO_237003 := n2_
                 have HO_238001 := n3_
                 have HO_238002 := n4_
                 have HO_238003 := n5_
                 have HO246 := n6_
                 have HO249 := n7_
                 have HO252 := n8_
                 have HO260 := n9_
                 have HO263 := n10_
                 have HO266 := n11_
                 have BK236 := n12_
                 have BK237 := n13_
                 have BK254 := n14_
                 have HB := n15_
                 have BK268 := n16_
                 have GW268 := n17_
                 have GE268 := n18_
                 have NB236_268 := n19_
                 have NB268_236 := n20_
                 have NB237_268 := n21_
                 have NB268_237 := n22_
                 have NB254_268 := n23_
                 have NB268_254 := n24_
                 clear n0_ n1_ n2_ n3_ n4_ n5_ n6_ n7_ n8_ n9_ n10_ n11_ n12_ n13_ n14_ n15_ n16_ n17_ n18_ n19_ n20_ n21_ n22_ n23_ n24_
                 clear hb hbox hg
                 refine hK.out _ _ ⟨(blk_cell BK237.out 0).trans rfl, (blk_cell BK237.out 1).trans rfl, (blk_cell BK237.out 2).trans rfl, (blk_cell BK237.out 3).trans rfl, ((HB.out.cell (World.block_lt_of_cell? w _ hw255_0)).trans hw255_0), ((HB.out.cell (World.block_lt_of_cell? w _ hw256_0)).trans hw256_0)⟩ (fun hHeld => ?_)
                 clear hK K
                 refine norm_ (a' := ?_) ?_ ?_
                 rotate_left
                 ·show Act.put _ (some 16) _ = _
                  simp only [Act.put, zt0, zt1, zt2, i64_w, i32_w]
                  rfl
                 exact norm_ (by simp only [putAll, Act.put, zt0, zt1, zt2]) (hCont (v259, v262, v265, gb268) _ ⟨hHeld, (by (with_reducible repeat (first | apply Kd.V_alloc | apply Kd.V_drewN | apply Kd.V_drew)); exact Kd.V_mono HO246.out (fun _ hk => ⟨hk.1.1, ⟨hk.1.2.1, ⟨hk.1.2.2, hk.2⟩⟩⟩)), (by (with_reducible repeat (first | apply Kd.V_alloc | apply Kd.V_drewN | apply Kd.V_drew)); exact Kd.V_mono HO249.out (fun _ hk => ⟨hk.1.1, ⟨hk.1.2.1, ⟨hk.1.2.2, hk.2⟩⟩⟩)), (by (with_reducible repeat (first | apply Kd.V_alloc | apply Kd.V_drewN | apply Kd.V_drew)); exact Kd.V_mono HO252.out (fun _ hk => ⟨hk.1.1, ⟨hk.1.2.1, ⟨hk.1.2.2, hk.2⟩⟩⟩)), (by (with_reducible repeat (first | apply Kd.V_alloc | apply Kd.V_drewN | apply Kd.V_drew)); exact Kd.V_mono HO260.out (fun _ hk => ⟨hk.1.1, ⟨hk.1.2.1, ⟨hk.1.2.2, hk.2⟩⟩⟩)), (by (with_reducible repeat (first | apply Kd.V_alloc | apply Kd.V_drewN | apply Kd.V_drew)); exact Kd.V_mono HO263.out (fun _ hk => ⟨hk.1.1, ⟨hk.1.2.1, ⟨hk.1.2.2, hk.2⟩⟩⟩)), (by (with_reducible repeat (first | apply Kd.V_alloc | apply Kd.V_drewN | apply Kd.V_drew)); exact Kd.V_mono HO266.out (fun _ hk => ⟨hk.1.1, ⟨hk.1.2.1, ⟨hk.1.2.2, hk.2⟩⟩⟩)), (by (with_reducible repeat (first | apply Kd.V_alloc | apply Kd.V_drewN | apply Kd.V_drew)); exact Kd.V_mono HO_237001.out (fun _ hk => ⟨hk.1.1, ⟨hk.1.2.1, ⟨hk.1.2.2, hk.2⟩⟩⟩)), (by (with_reducible repeat (first | apply Kd.V_alloc | apply Kd.V_drewN | apply Kd.V_drew)); exact Kd.V_mono HO_237002.out (fun _ hk => ⟨hk.1.1, ⟨hk.1.2.1, ⟨hk.1.2.2, hk.2⟩⟩⟩)), (by (with_reducible repeat (first | apply Kd.V_alloc | apply Kd.V_drewN | apply Kd.V_drew)); exact Kd.V_mono HO_237003.out (fun _ hk => ⟨hk.1.1, ⟨hk.1.2.1, ⟨hk.1.2.2, hk.2⟩⟩⟩)), (by (with_reducible repeat (first | apply Kd.V_alloc | apply Kd.V_drewN | apply Kd.V_drew)); exact Kd.V_mono HO_238001.out (fun _ hk => ⟨hk.1.1, ⟨hk.1.2.1, ⟨hk.1.2.2, hk.2⟩⟩⟩)), (by (with_reducible repeat (first | apply Kd.V_alloc | apply Kd.V_drewN | apply Kd.V_drew)); exact Kd.V_mono HO_238002.out (fun _ hk => ⟨hk.1.1, ⟨hk.1.2.1, ⟨hk.1.2.2, hk.2⟩⟩⟩)), (by (with_reducible repeat (first | apply Kd.V_alloc | apply Kd.V_drewN | apply Kd.V_drew)); exact Kd.V_mono HO_238003.out (fun _ hk => ⟨hk.1.1, ⟨hk.1.2.1, ⟨hk.1.2.2, hk.2⟩⟩⟩)), (zb_ BK236.out), (zb_ BK237.out), (zb_ BK254.out), (zb_ BK268.out), GW268.out, GE268.out, NB236_268.out, NB268_236.out, NB237_268.out, NB268_237.out, NB254_268.out, NB268_254.out, (zh4_ HB.out GE236.out GE237.out GE254.out GE268.out)⟩)
                ·skip
                 refine box_step ?hg (N := 16) ?hd (cs := #[.bool false, .slice none 0 0, .slice none 0 0, .slice none 0 0]) (t := 26) ?hr ?_; (case hd => rfl); (case hg => rfl); (case hr => first | (go_simp; done) | (go_simp; rfl))
                 intro gb268 hg w122 hbox hb
                 have n0_ := Aside0.mk (Kd.V_below (Kd.V_elderB (zV_ HO_237001.out) gb268 (Nat.le_of_eq hg.symm)) hb)
                 have n1_ := Aside0.mk (Kd.V_below (Kd.V_elderB (zV_ HO_237002.out) gb268 (Nat.le_of_eq hg.symm)) hb)
                 have n2_ := Aside0.mk (Kd.V_below (Kd.V_elderB (zV_ HO_237003.out) gb268 (Nat.le_of_eq hg.symm)) hb)
                 have n3_ := Aside0.mk (Kd.V_below (Kd.V_elderB (zV_ HO_238001.out) gb268 (Nat.le_of_eq hg.symm)) hb)
                 have n4_ := Aside0.mk (Kd.V_below (Kd.V_elderB (zV_ HO_238002.out) gb268 (Nat.le_of_eq hg.symm)) hb)
                 have n5_ := Aside0.mk (Kd.V_below (Kd.V_elderB (zV_ HO_238003.out) gb268 (Nat.le_of_eq hg.symm)) hb)
                 have n6_ := Aside0.mk (Kd.V_below (Kd.V_elderB (zV_ HO246.out) gb268 (Nat.le_of_eq hg.symm)) hb)
                 have n7_ := Aside0.mk (Kd.V_below (Kd.V_elderB (zV_ HO249.out) gb268 (Nat.le_of_eq hg.symm)) hb)
                 have n8_ := Aside0.mk (Kd.V_below (Kd.V_elderB (zV_ HO252.out) gb268 (Nat.le_of_eq hg.symm)) hb)
                 have n9_ := Aside0.mk (blk_below (zb_ BK236.out) hb)
                 have n10_ := Aside0.mk (blk_below (zb_ BK237.out) hb)
                 have n11_ := Aside0.mk (blk_below (zb_ BK254.out) hb)
                 have n12_ := Aside0.mk (below_step (zh3_ HB.out GE236.out GE237.out GE254.out) hb)
                 have n13_ := Aside0.mk (hbox)
                 have n14_ := Aside0.mk ((by rw [hg]; exact (below_size (zh3_ HB.out GE236.out GE237.out GE254.out)) : w.heap.size ≤ gb268))
                 have n15_ := Aside0.mk ((by rw [hg]; exact (below_size (zh3_ HB.out GE236.out GE237.out GE254.out)) : w.heap.size ≤ gb268))
                 have n16_ := Aside0.mk ((by rw [hg]; exact Nat.ne_of_lt (blk_lt (zb_ BK236.out)) : gb236 ≠ gb268))
                 have n17_ := Aside0.mk ((by rw [hg]; exact Nat.ne_of_gt (blk_lt (zb_ BK236.out)) : gb268 ≠ gb236))
                 have n18_ := Aside0.mk ((by rw [hg]; exact Nat.ne_of_lt (blk_lt (zb_ BK237.out)) : gb237 ≠ gb268))
                 have n19_ := Aside0.mk ((by rw [hg]; exact Nat.ne_of_gt (blk_lt (zb_ BK237.out)) : gb268 ≠ gb237))
                 have n20_ := Aside0.mk ((by rw [hg]; exact Nat.ne_of_lt (blk_lt (zb_ BK254.out)) : gb254 ≠ gb268))
                 have n21_ := Aside0.mk ((by rw [hg]; exact Nat.ne_of_gt (blk_lt (zb_ BK254.out)) : gb268 ≠ gb254))
                 clear HO_237001
                 clear HO_237002
                 clear HO_237003
                 clear HO_238001
                 clear HO_238002
                 clear HO_238003
                 clear HO246
                 clear HO249
                 clear HO252
                 clear BK236
                 clear BK237
                 clear BK254
                 clear HB
                 have HO_237001 := n0_
                 have HO_237002 := n1_
                 have HO_237003 := n2_
                 have HO_238001 := n3_
                 have HO_238002 := n4_
                 have HO_238003 := n5_
                 have HO246 := n6_
                 have HO249 := n7_
                 have HO252 := n8_
                 have BK236 := n9_
                 have BK237 := n10_
                 have BK254 := n11_
                 have HB := n12_
                 have BK268 := n13_
                 have GW268 := n14_
                 have GE268 := n15_
                 have NB236_268 := n16_
                 have NB268_236 := n17_
                 have NB237_268 := n18_
                 have NB268_237 := n19_
                 have NB254_268 := n20_
                 have NB268_254 := n21_
                 clear n0_ n1_ n2_ n3_ n4_ n5_ n6_ n7_ n8_ n9_ n10_ n11_ n12_ n13_ n14_ n15_ n16_ n17_ n18_ n19_ n20_ n21_
                 clear hb hbox hg
                 refine hK.out _ _ ⟨(blk_cell BK237.out 0).trans rfl, (blk_cell BK237.out 1).trans rfl, (blk_cell BK237.out 2).trans rfl, (blk_cell BK237.out 3).trans rfl, ((HB.out.cell (World.block_lt_of_cell? w _ hw255_0)).trans hw255_0), ((HB.out.cell (World.block_lt_of_cell? w _ hw256_0)).trans hw256_0)⟩ (fun hHeld => ?_)
                 clear hK K
                 refine norm_ (a' := ?_) ?_ ?_
                 rotate_left
                 ·show Act.put _ (some 16) _ = _
                  simp only [Act.put, zt0, zt1, zt2, i64_w, i32_w]
                  rfl
                 refine one_ (i := 9) (N := some 85) #[true, true, true, true, true, true, true, true, true, true, false, false, false, true, false, false] rfl rfl (one_of HT_.out (by kernel_rfl)) (by decide) (fun K hK => ?_)
                 refine goes_ Try.func10 (by kernel_rfl) rfl #[.agg #[.bool x238000_2, .slice Ao117 x238001_2.length co117, .slice Ao118 x238002_2.length co118, .slice Ao119 x238003_2.length co119], .slice A255_0 (rd_L1 l0 (ji28)).length c255_0, .slice A256_0 (rd_L1 l1 (ji28)).length c256_0] (by rfl) rfl rfl (by (try simp only [List.map_toArray, List.map_cons, List.map_nil]); first | done | (simp only [hji28]; rfl) | rfl | (simp only [List.length_drop, List.length_take]; rfl)) ?_
                 with_reducible refine (node_Put.calls k2 x238000_2 _ _ x238001_2 _ _ x238002_2 _ _ x238003_2 _ _ (rd_L1 l0 (ji28)) _ _ (rd_L1 l1 (ji28)) t257 t258 t261 t264 t267 _ ?side1 ?side2 ?side3 ?side4 ?side5 ?side6 ?side7 ?side8 ?side9 ?side10 A32.out).mono ?_
                 (case side1 => repeat (first | exact (Kd.V_reads' HO_238001.out).2.2 | (with_reducible refine Kd.C_alloc ?_ _) | (with_reducible refine Kd.C_drewN ?_ _) | (with_reducible refine Kd.C_drew ?_)))
                 (case side2 => exact (Kd.V_reads' HO_238001.out).2.1)
                 (case side3 => repeat (first | exact (Kd.V_reads' HO_238002.out).2.2 | (with_reducible refine Kd.C_alloc ?_ _) | (with_reducible refine Kd.C_drewN ?_ _) | (with_reducible refine Kd.C_drew ?_)))
                 (case side4 => exact (Kd.V_reads' HO_238002.out).2.1)
                 (case side5 => repeat (first | exact (Kd.V_reads' HO_238003.out).2.2 | (with_reducible refine Kd.C_alloc ?_ _) | (with_reducible refine Kd.C_drewN ?_ _) | (with_reducible refine Kd.C_drew ?_)))
                 (case side6 => exact (Kd.V_reads' HO_238003.out).2.1)
                 (case side7 => exact zc_ (Kd.C_below HR255_0.out HB.out))
                 (case side8 => exact HC255_0.out)
                 (case side9 => exact zc_ (Kd.C_below HR256_0.out HB.out))
                 (case side10 => exact HC256_0.out)
                 rintro e w123 ⟨v259, v262, v265, rfl, ho0, ho1, ho2, hb⟩
                 refine ⟨_, rfl, ?_⟩
                 have n0_ := Aside0.mk (Kd.V_below (zV_ HO_237001.out) hb)
                 have n1_ := Aside0.mk (Kd.V_below (zV_ HO_237002.out) hb)
                 have n2_ := Aside0.mk (Kd.V_below (zV_ HO_237003.out) hb)
                 have n3_ := Aside0.mk (Kd.V_below (zV_ HO_238001.out) hb)
                 have n4_ := Aside0.mk (Kd.V_below (zV_ HO_238002.out) hb)
                 have n5_ := Aside0.mk (Kd.V_below (zV_ HO_238003.out) hb)
                 have n6_ := Aside0.mk (Kd.V_below (zV_ HO246.out) hb)
                 have n7_ := Aside0.mk (Kd.V_below (zV_ HO249.out) hb)
                 have n8_ := Aside0.mk (Kd.V_below (zV_ HO252.out) hb)
                 have n9_ := Aside0.mk (Kd.V_lower (Kd.V_mono (ok' := fun k_ => k_ ≠ gb236 ∧ k_ ≠ gb237 ∧ k_ ≠ gb254 ∧ k_ ≠ gb268) ho0 (fun k_ hk_ => ⟨(Kd.freshB (zb_ BK236.out) k_ hk_), (Kd.freshB (zb_ BK237.out) k_ hk_), (Kd.freshB (zb_ BK254.out) k_ hk_), (Kd.freshB (zb_ BK268.out) k_ hk_)⟩)) (below_size (zh4_ HB.out GE236.out GE237.out GE254.out GE268.out)))
                 have n10_ := Aside0.mk (Kd.V_lower (Kd.V_mono (ok' := fun k_ => k_ ≠ gb236 ∧ k_ ≠ gb237 ∧ k_ ≠ gb254 ∧ k_ ≠ gb268) ho1 (fun k_ hk_ => ⟨(Kd.freshB (zb_ BK236.out) k_ hk_), (Kd.freshB (zb_ BK237.out) k_ hk_), (Kd.freshB (zb_ BK254.out) k_ hk_), (Kd.freshB (zb_ BK268.out) k_ hk_)⟩)) (below_size (zh4_ HB.out GE236.out GE237.out GE254.out GE268.out)))
                 have n11_ := Aside0.mk (Kd.V_lower (Kd.V_mono (ok' := fun k_ => k_ ≠ gb236 ∧ k_ ≠ gb237 ∧ k_ ≠ gb254 ∧ k_ ≠ gb268) ho2 (fun k_ hk_ => ⟨(Kd.freshB (zb_ BK236.out) k_ hk_), (Kd.freshB (zb_ BK237.out) k_ hk_), (Kd.freshB (zb_ BK254.out) k_ hk_), (Kd.freshB (zb_ BK268.out) k_ hk_)⟩)) (below_size (zh4_ HB.out GE236.out GE237.out GE254.out GE268.out)))
                 have n12_ := Aside0.mk (blk_below (zb_ BK236.out) hb)
                 have n13_ := Aside0.mk (blk_below (zb_ BK237.out) hb)
                 have n14_ := Aside0.mk (blk_below (zb_ BK254.out) hb)
                 have n15_ := Aside0.mk (blk_below (zb_ BK268.out) hb)
                 have n16_ := Aside0.mk (below_step (zh4_ HB.out GE236.out GE237.out GE254.out GE268.out) hb)
                 clear HO_237001
                 clear HO_237002
                 clear HO_237003
                 clear HO_238001
                 clear HO_238002
                 clear HO_238003
                 clear HO246
                 clear HO249
                 clear HO252
                 clear BK236
                 clear BK237
                 clear BK254
                 clear BK268
                 clear HB
                 have HO_237001 := n0_
                 have HO_237002 := n1_
                 have HO_237003 := n2_
                 have HO_238001 := n3_
                 have HO_238002 := n4_
                 have HO_238003 := n5_
                 have HO246 := n6_
                 have HO249 := n7_
                 have HO252 := n8_
                 have HO260 := n9_
                 have HO263 := n10_
                 have HO266 := n11_
                 have BK236 := n12_
                 have BK237 := n13_
                 have BK254 := n14_
                 have BK268 := n15_
                 have HB := n16_
                 clear n0_ n1_ n2_ n3_ n4_ n5_ n6_ n7_ n8_ n9_ n10_ n11_ n12_ n13_ n14_ n15_ n16_
                 (try clear hb)
                 (try clear hb2)
                 (try clear hk)
                 (try clear hi)
                 (try clear ho0)
                 (try clear ho1)
                 (try clear ho2)
                 refine hK.out _ _ ⟨(blk_cell BK237.out 0).trans rfl, (blk_cell BK237.out 1).trans rfl, (blk_cell BK237.out 2).trans rfl, (blk_cell BK237.out 3).trans rfl, ((HB.out.cell (World.block_lt_of_cell? w _ hw255_0)).trans hw255_0), ((HB.out.cell (World.block_lt_of_cell? w _ hw256_0)).trans hw256_0)⟩ (fun hHeld => ?_)
                 clear hK K
                 refine norm_ (a' := ?_) ?_ ?_
                 rotate_left
                 ·show Act.put _ (some 85) _ = _
                  simp only [Act.put, zt0, zt1, zt2, i64_w, i32_w]
                  rfl
                 refine pure_ (i := 10) (N := some 75) (v := ?_) (a' := ?_) #[true, true, true, true, true, true, true, true, true, true, true, false, false, true, false, false] rfl rfl (any_of HT_.out (by kernel_rfl)) (fun _ _ _ h => h) (Or.inl ⟨by rfl, ?_⟩) ?_ ?_
                 rotate_left
                 ·intro w'
                  go_simp
                  with_reducible rfl
                 rotate_left
                 ·simp only [Act.put, zt0, zt1, zt2, i64_w, i32_w]
                  rfl
                 refine pure_ (i := 11) (N := some 86) (v := ?_) (a' := ?_) #[true, true, true, true, true, true, true, true, true, true, true, true, false, true, false, false] rfl rfl (any_of HT_.out (by kernel_rfl)) (fun _ _ _ h => h) (Or.inl ⟨by rfl, ?_⟩) ?_ ?_
                 rotate_left
                 ·intro w'
                  go_simp
                  with_reducible rfl
                 rotate_left
                 ·simp only [Act.put, zt0, zt1, zt2, i64_w, i32_w]
                  rfl
                 refine pure_ (i := 12) (N := some 87) (v := ?_) (a' := ?_) (zB 14 2) rfl rfl (any_of HT_.out (by kernel_rfl)) (fun _ _ _ h => h) (Or.inl ⟨by rfl, ?_⟩) ?_ ?_
                 rotate_left
                 ·intro w'
                  go_simp
                  with_reducible rfl
                 rotate_left
                 ·simp only [Act.put, zt0, zt1, zt2, i64_w, i32_w]
                  rfl
                 exact norm_ (by simp only [putAll, Act.put, zt0, zt1, zt2]) (hCont (v259, v262, v265, gb268) _ ⟨hHeld, (by (with_reducible repeat (first | apply Kd.V_alloc | apply Kd.V_drewN | apply Kd.V_drew)); exact Kd.V_mono HO246.out (fun _ hk => ⟨hk.1.1, ⟨hk.1.2.1, ⟨hk.1.2.2, hk.2⟩⟩⟩)), (by (with_reducible repeat (first | apply Kd.V_alloc | apply Kd.V_drewN | apply Kd.V_drew)); exact Kd.V_mono HO249.out (fun _ hk => ⟨hk.1.1, ⟨hk.1.2.1, ⟨hk.1.2.2, hk.2⟩⟩⟩)), (by (with_reducible repeat (first | apply Kd.V_alloc | apply Kd.V_drewN | apply Kd.V_drew)); exact Kd.V_mono HO252.out (fun _ hk => ⟨hk.1.1, ⟨hk.1.2.1, ⟨hk.1.2.2, hk.2⟩⟩⟩)), (zV_ HO260.out), (zV_ HO263.out), (zV_ HO266.out), (by (with_reducible repeat (first | apply Kd.V_alloc | apply Kd.V_drewN | apply Kd.V_drew)); exact Kd.V_mono HO_237001.out (fun _ hk => ⟨hk.1.1, ⟨hk.1.2.1, ⟨hk.1.2.2, hk.2⟩⟩⟩)), (by (with_reducible repeat (first | apply Kd.V_alloc | apply Kd.V_drewN | apply Kd.V_drew)); exact Kd.V_mono HO_237002.out (fun _ hk => ⟨hk.1.1, ⟨hk.1.2.1, ⟨hk.1.2.2, hk.2⟩⟩⟩)), (by (with_reducible repeat (first | apply Kd.V_alloc | apply Kd.V_drewN | apply Kd.V_drew)); exact Kd.V_mono HO_237003.out (fun _ hk => ⟨hk.1.1, ⟨hk.1.2.1, ⟨hk.1.2.2, hk.2⟩⟩⟩)), (by (with_reducible repeat (first | apply Kd.V_alloc | apply Kd.V_drewN | apply Kd.V_drew)); exact Kd.V_mono HO_238001.out (fun _ hk => ⟨hk.1.1, ⟨hk.1.2.1, ⟨hk.1.2.2, hk.2⟩⟩⟩)), (by (with_reducible repeat (first | apply Kd.V_alloc | apply Kd.V_drewN | apply Kd.V_drew)); exact Kd.V_mono HO_238002.out (fun _ hk => ⟨hk.1.1, ⟨hk.1.2.1, ⟨hk.1.2.2, hk.2⟩⟩⟩)), (by (with_reducible repeat (first | apply Kd.V_alloc | apply Kd.V_drewN | apply Kd.V_drew)); exact Kd.V_mono HO_238003.out (fun _ hk => ⟨hk.1.1, ⟨hk.1.2.1, ⟨hk.1.2.2, hk.2⟩⟩⟩)), (zb_ BK236.out), (zb_ BK237.out), (zb_ BK254.out), (zb_ BK268.out), GW268.out, GE268.out, NB236_268.out, NB268_236.out, NB237_268.out, NB268_237.out, NB254_268.out, NB268_254.out, (zh4_ HB.out GE236.out GE237.out GE254.out GE268.out)⟩)
               rintro ⟨v259, v262, v265, gb268⟩ w124 ⟨hS_, h0_, h1_, h2_, h3_, h4_, h5_, h6_, h7_, h8_, h9_, h10_, h11_, h12_, h13_, h14_, h15_, h16_, h17_, h18_, h19_, h20_, h21_, h22_, h23_, h24_⟩
               have n0_ : Aside0 (Kd.V (Kd.slice 5 (Kd.int .u8)) 27 w124 w.heap.size (fun k_ => k_ ≠ gb236 ∧ k_ ≠ gb237 ∧ k_ ≠ gb254 ∧ k_ ≠ gb268) (.slice Ao111 t244.length co111) t244) := ⟨h0_⟩
               have n1_ : Aside0 (Kd.V (Kd.slice 5 (Kd.int .u8)) 27 w124 w.heap.size (fun k_ => k_ ≠ gb236 ∧ k_ ≠ gb237 ∧ k_ ≠ gb254 ∧ k_ ≠ gb268) (.slice Ao113 t247.length co113) t247) := ⟨h1_⟩
               have n2_ : Aside0 (Kd.V (Kd.int .i64) 3 w124 w.heap.size (fun k_ => k_ ≠ gb236 ∧ k_ ≠ gb237 ∧ k_ ≠ gb254 ∧ k_ ≠ gb268) (.slice Ao115 t250.length co115) t250) := ⟨h2_⟩
               have n3_ : Aside0 (Kd.V (Kd.slice 5 (Kd.int .u8)) 27 w124 w.heap.size (fun k_ => k_ ≠ gb236 ∧ k_ ≠ gb237 ∧ k_ ≠ gb254 ∧ k_ ≠ gb268) v259 t258) := ⟨h3_⟩
               have n4_ : Aside0 (Kd.V (Kd.slice 5 (Kd.int .u8)) 27 w124 w.heap.size (fun k_ => k_ ≠ gb236 ∧ k_ ≠ gb237 ∧ k_ ≠ gb254 ∧ k_ ≠ gb268) v262 t261) := ⟨h4_⟩
               have n5_ : Aside0 (Kd.V (Kd.int .i64) 3 w124 w.heap.size (fun k_ => k_ ≠ gb236 ∧ k_ ≠ gb237 ∧ k_ ≠ gb254 ∧ k_ ≠ gb268) v265 t264) := ⟨h5_⟩
               have n6_ : Aside0 (Kd.V (Kd.slice 5 (Kd.int .u8)) 27 w124 w.heap.size (fun k_ => k_ ≠ gb236 ∧ k_ ≠ gb237 ∧ k_ ≠ gb254 ∧ k_ ≠ gb268) (.slice Ao103 x237001_2.length co103) x237001_2) := ⟨h6_⟩
               have n7_ : Aside0 (Kd.V (Kd.slice 5 (Kd.int .u8)) 27 w124 w.heap.size (fun k_ => k_ ≠ gb236 ∧ k_ ≠ gb237 ∧ k_ ≠ gb254 ∧ k_ ≠ gb268) (.slice Ao104 x237002_2.length co104) x237002_2) := ⟨h7_⟩
               have n8_ : Aside0 (Kd.V (Kd.int .i64) 3 w124 w.heap.size (fun k_ => k_ ≠ gb236 ∧ k_ ≠ gb237 ∧ k_ ≠ gb254 ∧ k_ ≠ gb268) (.slice Ao105 x237003_2.length co105) x237003_2) := ⟨h8_⟩
               have n9_ : Aside0 (Kd.V (Kd.slice 5 (Kd.int .u8)) 27 w124 w.heap.size (fun k_ => k_ ≠ gb236 ∧ k_ ≠ gb237 ∧ k_ ≠ gb254 ∧ k_ ≠ gb268) (.slice Ao117 x238001_2.length co117) x238001_2) := ⟨h9_⟩
               have n10_ : Aside0 (Kd.V (Kd.slice 5 (Kd.int .u8)) 27 w124 w.heap.size (fun k_ => k_ ≠ gb236 ∧ k_ ≠ gb237 ∧ k_ ≠ gb254 ∧ k_ ≠ gb268) (.slice Ao118 x238002_2.length co118) x238002_2) := ⟨h10_⟩
               have n11_ : Aside0 (Kd.V (Kd.int .i64) 3 w124 w.heap.size (fun k_ => k_ ≠ gb236 ∧ k_ ≠ gb237 ∧ k_ ≠ gb254 ∧ k_ ≠ gb268) (.slice Ao119 x238003_2.length co119) x238003_2) := ⟨h11_⟩
               have n12_ : Aside0 (w124.heap[gb236]? = some (.cells #[.bool x237000_2, .slice Ao103 x237001_2.length co103, .slice Ao104 x237002_2.length co104, .slice Ao105 x237003_2.length co105] 26 (0, 0))) := ⟨h12_⟩
               have n13_ : Aside0 (w124.heap[gb237]? = some (.cells #[.bool x238000_2, .slice Ao117 x238001_2.length co117, .slice Ao118 x238002_2.length co118, .slice Ao119 x238003_2.length co119] 26 (0, 0))) := ⟨h13_⟩
               have n14_ : Aside0 (w124.heap[gb254]? = some (.cells #[.bool t243, .slice Ao111 t244.length co111, .slice Ao113 t247.length co113, .slice Ao115 t250.length co115] 26 (0, 0))) := ⟨h14_⟩
               have n15_ : Aside0 (w124.heap[gb268]? = some (.cells #[.bool false, .slice none 0 0, .slice none 0 0, .slice none 0 0] 26 (0, 0))) := ⟨h15_⟩
               have n16_ : Aside0 (w.heap.size ≤ gb268) := ⟨h16_⟩
               have n17_ : Aside0 (w.heap.size ≤ gb268) := ⟨h17_⟩
               have n18_ : Aside0 (gb236 ≠ gb268) := ⟨h18_⟩
               have n19_ : Aside0 (gb268 ≠ gb236) := ⟨h19_⟩
               have n20_ : Aside0 (gb237 ≠ gb268) := ⟨h20_⟩
               have n21_ : Aside0 (gb268 ≠ gb237) := ⟨h21_⟩
               have n22_ : Aside0 (gb254 ≠ gb268) := ⟨h22_⟩
               have n23_ : Aside0 (gb268 ≠ gb254) := ⟨h23_⟩
               have n24_ : Aside0 (Below w.heap.size w w124) := ⟨h24_⟩
               clear HO_237001
               clear HO_237002
               clear HO_237003
               clear HO_238001
               clear HO_238002
               clear HO_238003
               clear HO246
               clear HO249
               clear HO252
               clear BK236
               clear BK237
               clear BK254
               clear HB
               clear h0_ h1_ h2_ h3_ h4_ h5_ h6_ h7_ h8_ h9_ h10_ h11_ h12_ h13_ h14_ h15_ h16_ h17_ h18_ h19_ h20_ h21_ h22_ h23_ h24_
               have HO246 := n0_
               have HO249 := n1_
               have HO252 := n2_
               have HO260 := n3_
               have HO263 := n4_
               have HO266 := n5_
               have HO_237001 := n6_
               have HO_237002 := n7_
               have HO_237003 := n8_
               have HO_238001 := n9_
               have HO_238002 := n10_
               have HO_238003 := n11_
               have BK236 := n12_
               have BK237 := n13_
               have BK254 := n14_
               have BK268 := n15_
               have GW268 := n16_
               have GE268 := n17_
               have NB236_268 := n18_
               have NB268_236 := n19_
               have NB237_268 := n20_
               have NB268_237 := n21_
               have NB254_268 := n22_
               have NB268_254 := n23_
               have HB := n24_
               clear n0_ n1_ n2_ n3_ n4_ n5_ n6_ n7_ n8_ n9_ n10_ n11_ n12_ n13_ n14_ n15_ n16_ n17_ n18_ n19_ n20_ n21_ n22_ n23_ n24_
               have hHeld : w124.cell? ⟨gb237, 0, none⟩ = some (.bool x238000_2) ∧ w124.cell? ⟨gb237, 1, none⟩ = some (.slice Ao117 x238001_2.length co117) ∧ w124.cell? ⟨gb237, 2, none⟩ = some (.slice Ao118 x238002_2.length co118) ∧ w124.cell? ⟨gb237, 3, none⟩ = some (.slice Ao119 x238003_2.length co119) ∧ w124.cell? (ad241.add ((ji28)).toNat) = some (.slice A255_0 (rd_L1 l0 (ji28)).length c255_0) ∧ w124.cell? (ad242.add ((ji28)).toNat) = some (.slice A256_0 (rd_L1 l1 (ji28)).length c256_0) := hS_
               obtain ⟨Ao126, co126, eo126⟩ := Kd.V_slice HO260.out
               (first | subst eo126 | (injection eo126 with f1_ f2_ f3_; have f4_ := f1_.symm; have f5_ := f3_.symm; clear f1_ f2_ f3_; subst f4_; subst f5_))
               obtain ⟨Ao128, co128, eo128⟩ := Kd.V_slice HO263.out
               (first | subst eo128 | (injection eo128 with f1_ f2_ f3_; have f4_ := f1_.symm; have f5_ := f3_.symm; clear f1_ f2_ f3_; subst f4_; subst f5_))
               obtain ⟨Ao130, co130, eo130⟩ := Kd.V_slice HO266.out
               (first | subst eo130 | (injection eo130 with f1_ f2_ f3_; have f4_ := f1_.symm; have f5_ := f3_.symm; clear f1_ f2_ f3_; subst f4_; subst f5_))
               refine norm_ (a' := ?_) ?_ ?_
               rotate_left
               ·simp only [putAll, Act.put, zt0, zt1, zt2]
                rfl
               refine one_ (i := 14) (N := none) (zB 15 1) rfl rfl (one_of HT_.out (by kernel_rfl)) (by decide) (fun K hK => ?_)
               have hs125 : w124.cell? ⟨gb268, 0, none⟩ = some (.bool false) := (blk_cell BK268.out 0).trans rfl
               have hfs125 := blk_frozen BK268.out 0
               have hns125_0 := NB236_268.out
               have hns125_1 := NB237_268.out
               have hns125_2 := NB254_268.out
               have hms125_0 := NB268_236.out
               have hms125_1 := NB268_237.out
               have hms125_2 := NB268_254.out
               have hs127 : w124.cell? ⟨gb268, 1, none⟩ = some (.slice none 0 0) := (blk_cell BK268.out 1).trans rfl
               have hfs127 := blk_frozen BK268.out 1
               have hns127_0 := NB236_268.out
               have hns127_1 := NB237_268.out
               have hns127_2 := NB254_268.out
               have hms127_0 := NB268_236.out
               have hms127_1 := NB268_237.out
               have hms127_2 := NB268_254.out
               have hs129 : w124.cell? ⟨gb268, 2, none⟩ = some (.slice none 0 0) := (blk_cell BK268.out 2).trans rfl
               have hfs129 := blk_frozen BK268.out 2
               have hns129_0 := NB236_268.out
               have hns129_1 := NB237_268.out
               have hns129_2 := NB254_268.out
               have hms129_0 := NB268_236.out
               have hms129_1 := NB268_237.out
               have hms129_2 := NB268_254.out
               have hs131 : w124.cell? ⟨gb268, 3, none⟩ = some (.slice none 0 0) := (blk_cell BK268.out 3).trans rfl
               have hfs131 := blk_frozen BK268.out 3
               have hns131_0 := NB236_268.out
               have hns131_1 := NB237_268.out
               have hns131_2 := NB254_268.out
               have hms131_0 := NB268_236.out
               have hms131_1 := NB268_237.out
               have hms131_2 := NB268_254.out
               refine skip_ (w1 := ?_) (by rfl) rfl ?_ ?_
               rotate_left
               ·go_simp
                rfl
               refine hK.out _ _ ⟨(zk4 NB237_268.out (hHeld.1)), (zk4 NB237_268.out (hHeld.2.1)), (zk4 NB237_268.out (hHeld.2.2.1)), (zk4 NB237_268.out (hHeld.2.2.2.1)), (zk4 (zn_ hw255_0 GW268.out) (hHeld.2.2.2.2.1)), (zk4 (zn_ hw256_0 GW268.out) (hHeld.2.2.2.2.2))⟩ (fun hHeld => ?_)
               clear hK K
               refine pure_ (i := 15) (N := some 17) (v := ?_) (a' := ?_) (zB 16 0) rfl rfl (any_of HT_.out (by kernel_rfl)) (fun _ _ _ h => h) (Or.inl ⟨by rfl, ?_⟩) ?_ ?_
               rotate_left
               ·intro w'
                go_simp
                with_reducible rfl
               rotate_left
               ·simp only [Act.put, zt0, zt1, zt2, i64_w, i32_w]
                rfl
               refine done_ (done_of HT_.out (by kernel_rfl)) ?_
               have H := H0_.out
               clear H0_
               by_cases c33 : t253 = 0
               ·rw [if_pos c33] at H
                have c33b0 : (t253 == 0) = true := beq_iff_eq.mpr c33
                have c33b1 : (t253 != 0) = false := bne_eq_false_iff_eq.mpr c33
                clear c33
                by_cases c34 : t267 = 0
                ·rw [if_pos c34] at H
                 have c34b0 : (t267 == 0) = true := beq_iff_eq.mpr c34
                 have c34b1 : (t267 != 0) = false := bne_eq_false_iff_eq.mpr c34
                 clear c34
                 have H' := Aside0.mk H
                 clear H
                 try go_wp2
                 have n0_ : Aside0 (Kd.V (Kd.slice 5 (Kd.int .u8)) 27 ((((w124.setCell ⟨gb268, 0, none⟩ (.bool t257)).setCell ⟨gb268, 1, none⟩ (.slice Ao126 t258.length co126)).setCell ⟨gb268, 2, none⟩ (.slice Ao128 t261.length co128)).setCell ⟨gb268, 3, none⟩ (.slice Ao130 t264.length co130)) w.heap.size (fun k_ => k_ ≠ gb236 ∧ k_ ≠ gb237 ∧ k_ ≠ gb254 ∧ k_ ≠ gb268) (.slice Ao103 x237001_2.length co103) x237001_2) := ⟨by (with_reducible repeat (first | apply Kd.V_alloc | apply Kd.V_drewN | apply Kd.V_drew)); exact Kd.V_mono (zv4 (Kd.V_mono HO_237001.out (fun k_ hk => (⟨hk, hk.2.2.2⟩ : _ ∧ k_ ≠ gb268)))) (fun _ hk => ⟨hk.1.1, ⟨hk.1.2.1, ⟨hk.1.2.2.1, hk.1.2.2.2⟩⟩⟩)⟩
                 have n1_ : Aside0 (Kd.V (Kd.slice 5 (Kd.int .u8)) 27 ((((w124.setCell ⟨gb268, 0, none⟩ (.bool t257)).setCell ⟨gb268, 1, none⟩ (.slice Ao126 t258.length co126)).setCell ⟨gb268, 2, none⟩ (.slice Ao128 t261.length co128)).setCell ⟨gb268, 3, none⟩ (.slice Ao130 t264.length co130)) w.heap.size (fun k_ => k_ ≠ gb236 ∧ k_ ≠ gb237 ∧ k_ ≠ gb254 ∧ k_ ≠ gb268) (.slice Ao104 x237002_2.length co104) x237002_2) := ⟨by (with_reducible repeat (first | apply Kd.V_alloc | apply Kd.V_drewN | apply Kd.V_drew)); exact Kd.V_mono (zv4 (Kd.V_mono HO_237002.out (fun k_ hk => (⟨hk, hk.2.2.2⟩ : _ ∧ k_ ≠ gb268)))) (fun _ hk => ⟨hk.1.1, ⟨hk.1.2.1, ⟨hk.1.2.2.1, hk.1.2.2.2⟩⟩⟩)⟩
                 have n2_ : Aside0 (Kd.V (Kd.int .i64) 3 ((((w124.setCell ⟨gb268, 0, none⟩ (.bool t257)).setCell ⟨gb268, 1, none⟩ (.slice Ao126 t258.length co126)).setCell ⟨gb268, 2, none⟩ (.slice Ao128 t261.length co128)).setCell ⟨gb268, 3, none⟩ (.slice Ao130 t264.length co130)) w.heap.size (fun k_ => k_ ≠ gb236 ∧ k_ ≠ gb237 ∧ k_ ≠ gb254 ∧ k_ ≠ gb268) (.slice Ao105 x237003_2.length co105) x237003_2) := ⟨by (with_reducible repeat (first | apply Kd.V_alloc | apply Kd.V_drewN | apply Kd.V_drew)); exact Kd.V_mono (zv4 (Kd.V_mono HO_237003.out (fun k_ hk => (⟨hk, hk.2.2.2⟩ : _ ∧ k_ ≠ gb268)))) (fun _ hk => ⟨hk.1.1, ⟨hk.1.2.1, ⟨hk.1.2.2.1, hk.1.2.2.2⟩⟩⟩)⟩
                 have n3_ : Aside0 (Kd.V (Kd.slice 5 (Kd.int .u8)) 27 ((((w124.setCell ⟨gb268, 0, none⟩ (.bool t257)).setCell ⟨gb268, 1, none⟩ (.slice Ao126 t258.length co126)).setCell ⟨gb268, 2, none⟩ (.slice Ao128 t261.length co128)).setCell ⟨gb268, 3, none⟩ (.slice Ao130 t264.length co130)) w.heap.size (fun k_ => k_ ≠ gb236 ∧ k_ ≠ gb237 ∧ k_ ≠ gb254 ∧ k_ ≠ gb268) (.slice Ao117 x238001_2.length co117) x238001_2) := ⟨by (with_reducible repeat (first | apply Kd.V_alloc | apply Kd.V_drewN | apply Kd.V_drew)); exact Kd.V_mono (zv4 (Kd.V_mono HO_238001.out (fun k_ hk => (⟨hk, hk.2.2.2⟩ : _ ∧ k_ ≠ gb268)))) (fun _ hk => ⟨hk.1.1, ⟨hk.1.2.1, ⟨hk.1.2.2.1, hk.1.2.2.2⟩⟩⟩)⟩
                 have n4_ : Aside0 (Kd.V (Kd.slice 5 (Kd.int .u8)) 27 ((((w124.setCell ⟨gb268, 0, none⟩ (.bool t257)).setCell ⟨gb268, 1, none⟩ (.slice Ao126 t258.length co126)).setCell ⟨gb268, 2, none⟩ (.slice Ao128 t261.length co128)).setCell ⟨gb268, 3, none⟩ (.slice Ao130 t264.length co130)) w.heap.size (fun k_ => k_ ≠ gb236 ∧ k_ ≠ gb237 ∧ k_ ≠ gb254 ∧ k_ ≠ gb268) (.slice Ao118 x238002_2.length co118) x238002_2) := ⟨by (with_reducible repeat (first | apply Kd.V_alloc | apply Kd.V_drewN | apply Kd.V_drew)); exact Kd.V_mono (zv4 (Kd.V_mono HO_238002.out (fun k_ hk => (⟨hk, hk.2.2.2⟩ : _ ∧ k_ ≠ gb268)))) (fun _ hk => ⟨hk.1.1, ⟨hk.1.2.1, ⟨hk.1.2.2.1, hk.1.2.2.2⟩⟩⟩)⟩
                 have n5_ : Aside0 (Kd.V (Kd.int .i64) 3 ((((w124.setCell ⟨gb268, 0, none⟩ (.bool t257)).setCell ⟨gb268, 1, none⟩ (.slice Ao126 t258.length co126)).setCell ⟨gb268, 2, none⟩ (.slice Ao128 t261.length co128)).setCell ⟨gb268, 3, none⟩ (.slice Ao130 t264.length co130)) w.heap.size (fun k_ => k_ ≠ gb236 ∧ k_ ≠ gb237 ∧ k_ ≠ gb254 ∧ k_ ≠ gb268) (.slice Ao119 x238003_2.length co119) x238003_2) := ⟨by (with_reducible repeat (first | apply Kd.V_alloc | apply Kd.V_drewN | apply Kd.V_drew)); exact Kd.V_mono (zv4 (Kd.V_mono HO_238003.out (fun k_ hk => (⟨hk, hk.2.2.2⟩ : _ ∧ k_ ≠ gb268)))) (fun _ hk => ⟨hk.1.1, ⟨hk.1.2.1, ⟨hk.1.2.2.1, hk.1.2.2.2⟩⟩⟩)⟩
                 have n6_ : Aside0 (Kd.V (Kd.slice 5 (Kd.int .u8)) 27 ((((w124.setCell ⟨gb268, 0, none⟩ (.bool t257)).setCell ⟨gb268, 1, none⟩ (.slice Ao126 t258.length co126)).setCell ⟨gb268, 2, none⟩ (.slice Ao128 t261.length co128)).setCell ⟨gb268, 3, none⟩ (.slice Ao130 t264.length co130)) w.heap.size (fun k_ => k_ ≠ gb236 ∧ k_ ≠ gb237 ∧ k_ ≠ gb254 ∧ k_ ≠ gb268) (.slice Ao111 t244.length co111) t244) := ⟨by (with_reducible repeat (first | apply Kd.V_alloc | apply Kd.V_drewN | apply Kd.V_drew)); exact Kd.V_mono (zv4 (Kd.V_mono HO246.out (fun k_ hk => (⟨hk, hk.2.2.2⟩ : _ ∧ k_ ≠ gb268)))) (fun _ hk => ⟨hk.1.1, ⟨hk.1.2.1, ⟨hk.1.2.2.1, hk.1.2.2.2⟩⟩⟩)⟩
                 have n7_ : Aside0 (Kd.V (Kd.slice 5 (Kd.int .u8)) 27 ((((w124.setCell ⟨gb268, 0, none⟩ (.bool t257)).setCell ⟨gb268, 1, none⟩ (.slice Ao126 t258.length co126)).setCell ⟨gb268, 2, none⟩ (.slice Ao128 t261.length co128)).setCell ⟨gb268, 3, none⟩ (.slice Ao130 t264.length co130)) w.heap.size (fun k_ => k_ ≠ gb236 ∧ k_ ≠ gb237 ∧ k_ ≠ gb254 ∧ k_ ≠ gb268) (.slice Ao113 t247.length co113) t247) := ⟨by (with_reducible repeat (first | apply Kd.V_alloc | apply Kd.V_drewN | apply Kd.V_drew)); exact Kd.V_mono (zv4 (Kd.V_mono HO249.out (fun k_ hk => (⟨hk, hk.2.2.2⟩ : _ ∧ k_ ≠ gb268)))) (fun _ hk => ⟨hk.1.1, ⟨hk.1.2.1, ⟨hk.1.2.2.1, hk.1.2.2.2⟩⟩⟩)⟩
                 have n8_ : Aside0 (Kd.V (Kd.int .i64) 3 ((((w124.setCell ⟨gb268, 0, none⟩ (.bool t257)).setCell ⟨gb268, 1, none⟩ (.slice Ao126 t258.length co126)).setCell ⟨gb268, 2, none⟩ (.slice Ao128 t261.length co128)).setCell ⟨gb268, 3, none⟩ (.slice Ao130 t264.length co130)) w.heap.size (fun k_ => k_ ≠ gb236 ∧ k_ ≠ gb237 ∧ k_ ≠ gb254 ∧ k_ ≠ gb268) (.slice Ao115 t250.length co115) t250) := ⟨by (with_reducible repeat (first | apply Kd.V_alloc | apply Kd.V_drewN | apply Kd.V_drew)); exact Kd.V_mono (zv4 (Kd.V_mono HO252.out (fun k_ hk => (⟨hk, hk.2.2.2⟩ : _ ∧ k_ ≠ gb268)))) (fun _ hk => ⟨hk.1.1, ⟨hk.1.2.1, ⟨hk.1.2.2.1, hk.1.2.2.2⟩⟩⟩)⟩
                 have n9_ : Aside0 (Kd.V (Kd.slice 5 (Kd.int .u8)) 27 ((((w124.setCell ⟨gb268, 0, none⟩ (.bool t257)).setCell ⟨gb268, 1, none⟩ (.slice Ao126 t258.length co126)).setCell ⟨gb268, 2, none⟩ (.slice Ao128 t261.length co128)).setCell ⟨gb268, 3, none⟩ (.slice Ao130 t264.length co130)) w.heap.size (fun k_ => k_ ≠ gb236 ∧ k_ ≠ gb237 ∧ k_ ≠ gb254 ∧ k_ ≠ gb268) (.slice Ao126 t258.length co126) t258) := ⟨by (with_reducible repeat (first | apply Kd.V_alloc | apply Kd.V_drewN | apply Kd.V_drew)); exact Kd.V_mono (zv4 (Kd.V_mono HO260.out (fun k_ hk => (⟨hk, hk.2.2.2⟩ : _ ∧ k_ ≠ gb268)))) (fun _ hk => ⟨hk.1.1, ⟨hk.1.2.1, ⟨hk.1.2.2.1, hk.1.2.2.2⟩⟩⟩)⟩
                 have n10_ : Aside0 (Kd.V (Kd.slice 5 (Kd.int .u8)) 27 ((((w124.setCell ⟨gb268, 0, none⟩ (.bool t257)).setCell ⟨gb268, 1, none⟩ (.slice Ao126 t258.length co126)).setCell ⟨gb268, 2, none⟩ (.slice Ao128 t261.length co128)).setCell ⟨gb268, 3, none⟩ (.slice Ao130 t264.length co130)) w.heap.size (fun k_ => k_ ≠ gb236 ∧ k_ ≠ gb237 ∧ k_ ≠ gb254 ∧ k_ ≠ gb268) (.slice Ao128 t261.length co128) t261) := ⟨by (with_reducible repeat (first | apply Kd.V_alloc | apply Kd.V_drewN | apply Kd.V_drew)); exact Kd.V_mono (zv4 (Kd.V_mono HO263.out (fun k_ hk => (⟨hk, hk.2.2.2⟩ : _ ∧ k_ ≠ gb268)))) (fun _ hk => ⟨hk.1.1, ⟨hk.1.2.1, ⟨hk.1.2.2.1, hk.1.2.2.2⟩⟩⟩)⟩
                 have n11_ : Aside0 (Kd.V (Kd.int .i64) 3 ((((w124.setCell ⟨gb268, 0, none⟩ (.bool t257)).setCell ⟨gb268, 1, none⟩ (.slice Ao126 t258.length co126)).setCell ⟨gb268, 2, none⟩ (.slice Ao128 t261.length co128)).setCell ⟨gb268, 3, none⟩ (.slice Ao130 t264.length co130)) w.heap.size (fun k_ => k_ ≠ gb236 ∧ k_ ≠ gb237 ∧ k_ ≠ gb254 ∧ k_ ≠ gb268) (.slice Ao130 t264.length co130) t264) := ⟨by (with_reducible repeat (first | apply Kd.V_alloc | apply Kd.V_drewN | apply Kd.V_drew)); exact Kd.V_mono (zv4 (Kd.V_mono HO266.out (fun k_ hk => (⟨hk, hk.2.2.2⟩ : _ ∧ k_ ≠ gb268)))) (fun _ hk => ⟨hk.1.1, ⟨hk.1.2.1, ⟨hk.1.2.2.1, hk.1.2.2.2⟩⟩⟩)⟩
                 have n12_ : Aside0 (((((w124.setCell ⟨gb268, 0, none⟩ (.bool t257)).setCell ⟨gb268, 1, none⟩ (.slice Ao126 t258.length co126)).setCell ⟨gb268, 2, none⟩ (.slice Ao128 t261.length co128)).setCell ⟨gb268, 3, none⟩ (.slice Ao130 t264.length co130)).heap[gb236]? = some (.cells #[.bool x237000_2, .slice Ao103 x237001_2.length co103, .slice Ao104 x237002_2.length co104, .slice Ao105 x237003_2.length co105] 26 (0, 0))) := ⟨by (with_reducible repeat (first | refine blk_drewN ?_ _ | refine blk_drew ?_ | refine blk_alloc ?_ _)); refine blk_far ?_ NB236_268.out _; (with_reducible repeat (first | refine blk_drewN ?_ _ | refine blk_drew ?_ | refine blk_alloc ?_ _)); refine blk_far ?_ NB236_268.out _; (with_reducible repeat (first | refine blk_drewN ?_ _ | refine blk_drew ?_ | refine blk_alloc ?_ _)); refine blk_far ?_ NB236_268.out _; (with_reducible repeat (first | refine blk_drewN ?_ _ | refine blk_drew ?_ | refine blk_alloc ?_ _)); refine blk_far ?_ NB236_268.out _; (with_reducible repeat (first | refine blk_drewN ?_ _ | refine blk_drew ?_ | refine blk_alloc ?_ _)); exact BK236.out⟩
                 have n13_ : Aside0 (((((w124.setCell ⟨gb268, 0, none⟩ (.bool t257)).setCell ⟨gb268, 1, none⟩ (.slice Ao126 t258.length co126)).setCell ⟨gb268, 2, none⟩ (.slice Ao128 t261.length co128)).setCell ⟨gb268, 3, none⟩ (.slice Ao130 t264.length co130)).heap[gb237]? = some (.cells #[.bool x238000_2, .slice Ao117 x238001_2.length co117, .slice Ao118 x238002_2.length co118, .slice Ao119 x238003_2.length co119] 26 (0, 0))) := ⟨by (with_reducible repeat (first | refine blk_drewN ?_ _ | refine blk_drew ?_ | refine blk_alloc ?_ _)); refine blk_far ?_ NB237_268.out _; (with_reducible repeat (first | refine blk_drewN ?_ _ | refine blk_drew ?_ | refine blk_alloc ?_ _)); refine blk_far ?_ NB237_268.out _; (with_reducible repeat (first | refine blk_drewN ?_ _ | refine blk_drew ?_ | refine blk_alloc ?_ _)); refine blk_far ?_ NB237_268.out _; (with_reducible repeat (first | refine blk_drewN ?_ _ | refine blk_drew ?_ | refine blk_alloc ?_ _)); refine blk_far ?_ NB237_268.out _; (with_reducible repeat (first | refine blk_drewN ?_ _ | refine blk_drew ?_ | refine blk_alloc ?_ _)); exact BK237.out⟩
                 have n14_ : Aside0 (((((w124.setCell ⟨gb268, 0, none⟩ (.bool t257)).setCell ⟨gb268, 1, none⟩ (.slice Ao126 t258.length co126)).setCell ⟨gb268, 2, none⟩ (.slice Ao128 t261.length co128)).setCell ⟨gb268, 3, none⟩ (.slice Ao130 t264.length co130)).heap[gb254]? = some (.cells #[.bool t243, .slice Ao111 t244.length co111, .slice Ao113 t247.length co113, .slice Ao115 t250.length co115] 26 (0, 0))) := ⟨by (with_reducible repeat (first | refine blk_drewN ?_ _ | refine blk_drew ?_ | refine blk_alloc ?_ _)); refine blk_far ?_ NB254_268.out _; (with_reducible repeat (first | refine blk_drewN ?_ _ | refine blk_drew ?_ | refine blk_alloc ?_ _)); refine blk_far ?_ NB254_268.out _; (with_reducible repeat (first | refine blk_drewN ?_ _ | refine blk_drew ?_ | refine blk_alloc ?_ _)); refine blk_far ?_ NB254_268.out _; (with_reducible repeat (first | refine blk_drewN ?_ _ | refine blk_drew ?_ | refine blk_alloc ?_ _)); refine blk_far ?_ NB254_268.out _; (with_reducible repeat (first | refine blk_drewN ?_ _ | refine blk_drew ?_ | refine blk_alloc ?_ _)); exact BK254.out⟩
                 have n15_ : Aside0 (((((w124.setCell ⟨gb268, 0, none⟩ (.bool t257)).setCell ⟨gb268, 1, none⟩ (.slice Ao126 t258.length co126)).setCell ⟨gb268, 2, none⟩ (.slice Ao128 t261.length co128)).setCell ⟨gb268, 3, none⟩ (.slice Ao130 t264.length co130)).heap[gb268]? = some (.cells #[.bool t257, .slice Ao126 t258.length co126, .slice Ao128 t261.length co128, .slice Ao130 t264.length co130] 26 (0, 0))) := ⟨by (with_reducible repeat (first | refine blk_drewN ?_ _ | refine blk_drew ?_ | refine blk_alloc ?_ _)); refine blk_put (cs := #[.bool t257, .slice Ao126 t258.length co126, .slice Ao128 t261.length co128, .slice none 0 0]) ?_ 3 _ (by first | rfl | (simp only [List.length_drop, List.length_take]; rfl)); (with_reducible repeat (first | refine blk_drewN ?_ _ | refine blk_drew ?_ | refine blk_alloc ?_ _)); refine blk_put (cs := #[.bool t257, .slice Ao126 t258.length co126, .slice none 0 0, .slice none 0 0]) ?_ 2 _ (by first | rfl | (simp only [List.length_drop, List.length_take]; rfl)); (with_reducible repeat (first | refine blk_drewN ?_ _ | refine blk_drew ?_ | refine blk_alloc ?_ _)); refine blk_put (cs := #[.bool t257, .slice none 0 0, .slice none 0 0, .slice none 0 0]) ?_ 1 _ (by first | rfl | (simp only [List.length_drop, List.length_take]; rfl)); (with_reducible repeat (first | refine blk_drewN ?_ _ | refine blk_drew ?_ | refine blk_alloc ?_ _)); refine blk_put (cs := #[.bool false, .slice none 0 0, .slice none 0 0, .slice none 0 0]) ?_ 0 _ (by first | rfl | (simp only [List.length_drop, List.length_take]; rfl)); (with_reducible repeat (first | refine blk_drewN ?_ _ | refine blk_drew ?_ | refine blk_alloc ?_ _)); exact BK268.out⟩
                 have n16_ : Aside0 (Below w.heap.size w ((((w124.setCell ⟨gb268, 0, none⟩ (.bool t257)).setCell ⟨gb268, 1, none⟩ (.slice Ao126 t258.length co126)).setCell ⟨gb268, 2, none⟩ (.slice Ao128 t261.length co128)).setCell ⟨gb268, 3, none⟩ (.slice Ao130 t264.length co130))) := ⟨by exact zh4_ HB.out GE236.out GE237.out GE254.out GE268.out⟩
                 (try clear HO_237001)
                 (try clear HO_237002)
                 (try clear HO_237003)
                 (try clear HO_238001)
                 (try clear HO_238002)
                 (try clear HO_238003)
                 (try clear HO246)
                 (try clear HO249)
                 (try clear HO252)
                 (try clear HO260)
                 (try clear HO263)
                 (try clear HO266)
                 (try clear BK236)
                 (try clear BK237)
                 (try clear BK254)
                 (try clear BK268)
                 (try clear HB)
                 generalize ((((w124.setCell ⟨gb268, 0, none⟩ (.bool t257)).setCell ⟨gb268, 1, none⟩ (.slice Ao126 t258.length co126)).setCell ⟨gb268, 2, none⟩ (.slice Ao128 t261.length co128)).setCell ⟨gb268, 3, none⟩ (.slice Ao130 t264.length co130)) = w64 at n0_ n1_ n2_ n3_ n4_ n5_ n6_ n7_ n8_ n9_ n10_ n11_ n12_ n13_ n14_ n15_ n16_ ⊢
                 have HO_237001 := n0_
                 have HO_237002 := n1_
                 have HO_237003 := n2_
                 have HO_238001 := n3_
                 have HO_238002 := n4_
                 have HO_238003 := n5_
                 have HO246 := n6_
                 have HO249 := n7_
                 have HO252 := n8_
                 have HO260 := n9_
                 have HO263 := n10_
                 have HO266 := n11_
                 have BK236 := n12_
                 have BK237 := n13_
                 have BK254 := n14_
                 have BK268 := n15_
                 have HB := n16_
                 clear n0_ n1_ n2_ n3_ n4_ n5_ n6_ n7_ n8_ n9_ n10_ n11_ n12_ n13_ n14_ n15_ n16_
                 have n0_ := Aside0.mk (Kd.V_drew HO_237001.out)
                 have n1_ := Aside0.mk (Kd.V_drew HO_237002.out)
                 have n2_ := Aside0.mk (Kd.V_drew HO_237003.out)
                 have n3_ := Aside0.mk (Kd.V_drew HO_238001.out)
                 have n4_ := Aside0.mk (Kd.V_drew HO_238002.out)
                 have n5_ := Aside0.mk (Kd.V_drew HO_238003.out)
                 have n6_ := Aside0.mk (Kd.V_drew HO246.out)
                 have n7_ := Aside0.mk (Kd.V_drew HO249.out)
                 have n8_ := Aside0.mk (Kd.V_drew HO252.out)
                 have n9_ := Aside0.mk (Kd.V_drew HO260.out)
                 have n10_ := Aside0.mk (Kd.V_drew HO263.out)
                 have n11_ := Aside0.mk (Kd.V_drew HO266.out)
                 have n12_ := Aside0.mk (blk_drew BK236.out)
                 have n13_ := Aside0.mk (blk_drew BK237.out)
                 have n14_ := Aside0.mk (blk_drew BK254.out)
                 have n15_ := Aside0.mk (blk_drew BK268.out)
                 have n16_ := Aside0.mk (below_drew1 HB.out)
                 clear HO_237001
                 clear HO_237002
                 clear HO_237003
                 clear HO_238001
                 clear HO_238002
                 clear HO_238003
                 clear HO246
                 clear HO249
                 clear HO252
                 clear HO260
                 clear HO263
                 clear HO266
                 clear BK236
                 clear BK237
                 clear BK254
                 clear BK268
                 clear HB
                 have HO_237001 := n0_
                 have HO_237002 := n1_
                 have HO_237003 := n2_
                 have HO_238001 := n3_
                 have HO_238002 := n4_
                 have HO_238003 := n5_
                 have HO246 := n6_
                 have HO249 := n7_
                 have HO252 := n8_
                 have HO260 := n9_
                 have HO263 := n10_
                 have HO266 := n11_
                 have BK236 := n12_
                 have BK237 := n13_
                 have BK254 := n14_
                 have BK268 := n15_
                 have HB := n16_
                 clear n0_ n1_ n2_ n3_ n4_ n5_ n6_ n7_ n8_ n9_ n10_ n11_ n12_ n13_ n14_ n15_ n16_
                 refine start_ (n := 4) (S := fun w' => w'.cell? ⟨gb254, 0, none⟩ = some (.bool t243) ∧ w'.cell? ⟨gb254, 1, none⟩ = some (.slice Ao111 t244.length co111) ∧ w'.cell? ⟨gb254, 2, none⟩ = some (.slice Ao113 t247.length co113) ∧ w'.cell? ⟨gb254, 3, none⟩ = some (.slice Ao115 t250.length co115) ∧ w'.cell? ⟨gb268, 0, none⟩ = some (.bool t257) ∧ w'.cell? ⟨gb268, 1, none⟩ = some (.slice Ao126 t258.length co126) ∧ w'.cell? ⟨gb268, 2, none⟩ = some (.slice Ao128 t261.length co128) ∧ w'.cell? ⟨gb268, 3, none⟩ = some (.slice Ao130 t264.length co130)) (ds := []) #[false, false, false, false] (by kernel_rfl) rfl rfl ⟨(blk_cell BK254.out 0).trans rfl, (blk_cell BK254.out 1).trans rfl, (blk_cell BK254.out 2).trans rfl, (blk_cell BK254.out 3).trans rfl, (blk_cell BK268.out 0).trans rfl, (blk_cell BK268.out 1).trans rfl, (blk_cell BK268.out 2).trans rfl, (blk_cell BK268.out 3).trans rfl⟩ (fun hHeld => ?_)
                 generalize w64.drew = w65 at HO_237001 HO_237002 HO_237003 HO_238001 HO_238002 HO_238003 HO246 HO249 HO252 HO260 HO263 HO266 BK236 BK237 BK254 BK268 HB hHeld ⊢
                 refine take_ (i := 0) (N := some 94) (v := ?_) (a' := ?_) #[true, false, false, false] rfl rfl (by kernel_rfl) (fun _ _ _ h => h) (Or.inl ⟨by rfl, ?_⟩) hHeld ?_ ?_
                 rotate_left
                 ·rintro w' ⟨s0, s1, s2, s3, s4, s5, s6, s7⟩
                  go_simp
                  with_reducible rfl
                 rotate_left
                 ·simp only [Act.put, zt0, zt1, zt2, i64_w, i32_w]
                  rfl
                 refine take_ (i := 1) (N := some 95) (v := ?_) (a' := ?_) #[true, true, false, false] rfl rfl (by kernel_rfl) (fun _ _ _ h => h) (Or.inl ⟨by rfl, ?_⟩) hHeld ?_ ?_
                 rotate_left
                 ·rintro w' ⟨s0, s1, s2, s3, s4, s5, s6, s7⟩
                  go_simp
                  with_reducible rfl
                 rotate_left
                 ·simp only [Act.put, zt0, zt1, zt2, i64_w, i32_w]
                  rfl
                 refine one_ (i := 2) (N := none) #[true, true, true, false] rfl rfl (by kernel_rfl) (by decide) (fun K hK => ?_)
                 have hs66 : w65.cell? ⟨gb236, 0, none⟩ = some (.bool x237000_2) := (blk_cell BK236.out 0).trans rfl
                 have hfs66 := blk_frozen BK236.out 0
                 have hns66_1 := NB237_236.out
                 have hns66_2 := NB254_236.out
                 have hns66_3 := NB268_236.out
                 have hms66_1 := NB236_237.out
                 have hms66_2 := NB236_254.out
                 have hms66_3 := NB236_268.out
                 have hs67 : w65.cell? ⟨gb236, 1, none⟩ = some (.slice Ao103 x237001_2.length co103) := (blk_cell BK236.out 1).trans rfl
                 have hfs67 := blk_frozen BK236.out 1
                 have hns67_1 := NB237_236.out
                 have hns67_2 := NB254_236.out
                 have hns67_3 := NB268_236.out
                 have hms67_1 := NB236_237.out
                 have hms67_2 := NB236_254.out
                 have hms67_3 := NB236_268.out
                 have hs68 : w65.cell? ⟨gb236, 2, none⟩ = some (.slice Ao104 x237002_2.length co104) := (blk_cell BK236.out 2).trans rfl
                 have hfs68 := blk_frozen BK236.out 2
                 have hns68_1 := NB237_236.out
                 have hns68_2 := NB254_236.out
                 have hns68_3 := NB268_236.out
                 have hms68_1 := NB236_237.out
                 have hms68_2 := NB236_254.out
                 have hms68_3 := NB236_268.out
                 have hs69 : w65.cell? ⟨gb236, 3, none⟩ = some (.slice Ao105 x237003_2.length co105) := (blk_cell BK236.out 3).trans rfl
                 have hfs69 := blk_frozen BK236.out 3
                 have hns69_1 := NB237_236.out
                 have hns69_2 := NB254_236.out
                 have hns69_3 := NB268_236.out
                 have hms69_1 := NB236_237.out
                 have hms69_2 := NB236_254.out
                 have hms69_3 := NB236_268.out
                 refine skip_ (w1 := ?_) (by rfl) rfl ?_ ?_
                 rotate_left
                 ·go_simp
                  rfl
                 refine hK.out _ _ ⟨(zk4 NB254_236.out (hHeld.1)), (zk4 NB254_236.out (hHeld.2.1)), (zk4 NB254_236.out (hHeld.2.2.1)), (zk4 NB254_236.out (hHeld.2.2.2.1)), (zk4 NB268_236.out (hHeld.2.2.2.2.1)), (zk4 NB268_236.out (hHeld.2.2.2.2.2.1)), (zk4 NB268_236.out (hHeld.2.2.2.2.2.2.1)), (zk4 NB268_236.out (hHeld.2.2.2.2.2.2.2))⟩ (fun hHeld => ?_)
                 clear hK K
                 refine one_ (i := 3) (N := none) #[true, true, true, true] rfl rfl (by kernel_rfl) (by decide) (fun K hK => ?_)
                 have hs70 : w65.cell? ⟨gb237, 0, none⟩ = some (.bool x238000_2) := (blk_cell BK237.out 0).trans rfl
                 have hfs70 := blk_frozen BK237.out 0
                 have hns70_0 := NB236_237.out
                 have hns70_2 := NB254_237.out
                 have hns70_3 := NB268_237.out
                 have hms70_0 := NB237_236.out
                 have hms70_2 := NB237_254.out
                 have hms70_3 := NB237_268.out
                 have hs71 : w65.cell? ⟨gb237, 1, none⟩ = some (.slice Ao117 x238001_2.length co117) := (blk_cell BK237.out 1).trans rfl
                 have hfs71 := blk_frozen BK237.out 1
                 have hns71_0 := NB236_237.out
                 have hns71_2 := NB254_237.out
                 have hns71_3 := NB268_237.out
                 have hms71_0 := NB237_236.out
                 have hms71_2 := NB237_254.out
                 have hms71_3 := NB237_268.out
                 have hs72 : w65.cell? ⟨gb237, 2, none⟩ = some (.slice Ao118 x238002_2.length co118) := (blk_cell BK237.out 2).trans rfl
                 have hfs72 := blk_frozen BK237.out 2
                 have hns72_0 := NB236_237.out
                 have hns72_2 := NB254_237.out
                 have hns72_3 := NB268_237.out
                 have hms72_0 := NB237_236.out
                 have hms72_2 := NB237_254.out
                 have hms72_3 := NB237_268.out
                 have hs73 : w65.cell? ⟨gb237, 3, none⟩ = some (.slice Ao119 x238003_2.length co119) := (blk_cell BK237.out 3).trans rfl
                 have hfs73 := blk_frozen BK237.out 3
                 have hns73_0 := NB236_237.out
                 have hns73_2 := NB254_237.out
                 have hns73_3 := NB268_237.out
                 have hms73_0 := NB237_236.out
                 have hms73_2 := NB237_254.out
                 have hms73_3 := NB237_268.out
                 refine skip_ (w1 := ?_) (by rfl) rfl ?_ ?_
                 rotate_left
                 ·go_simp
                  rfl
                 refine hK.out _ _ ⟨(zk4 NB254_237.out (hHeld.1)), (zk4 NB254_237.out (hHeld.2.1)), (zk4 NB254_237.out (hHeld.2.2.1)), (zk4 NB254_237.out (hHeld.2.2.2.1)), (zk4 NB268_237.out (hHeld.2.2.2.2.1)), (zk4 NB268_237.out (hHeld.2.2.2.2.2.1)), (zk4 NB268_237.out (hHeld.2.2.2.2.2.2.1)), (zk4 NB268_237.out (hHeld.2.2.2.2.2.2.2))⟩ (fun hHeld => ?_)
                 clear hK K
                 refine done_ (by kernel_rfl) ?_
                 try go_wp2
                 go_roundg k2
                 case measure => have := HK1.out; have := HK2.out; omega
                 case rel => exact ⟨(wrap64 (x12_2 + 1)), (t243), (t244), (t247), (t250), (t257), (t258), (t261), (t264), (.slice Ao111 t244.length co111), (.slice Ao113 t247.length co113), (.slice Ao115 t250.length co115), (.slice Ao126 t258.length co126), (.slice Ao128 t261.length co128), (.slice Ao130 t264.length co130), (by first | rfl | (simp; done) | (simp [*]; done) | (simp only [i64_w]; done)), H', ⟨by have := HK1.out; have := HK2.out; omega⟩, ⟨by (with_reducible repeat (first | apply Kd.V_alloc | apply Kd.V_drewN | apply Kd.V_drew)); exact Kd.V_mono (Kd.V_far (p := ⟨gb237, 3, none⟩) (Kd.V_far (p := ⟨gb237, 2, none⟩) (Kd.V_far (p := ⟨gb237, 1, none⟩) (Kd.V_far (p := ⟨gb237, 0, none⟩) (Kd.V_far (p := ⟨gb236, 3, none⟩) (Kd.V_far (p := ⟨gb236, 2, none⟩) (Kd.V_far (p := ⟨gb236, 1, none⟩) (Kd.V_far (p := ⟨gb236, 0, none⟩) (Kd.V_mono (Kd.V_mono HO246.out (fun k_ hk => (⟨hk, hk.1⟩ : _ ∧ k_ ≠ gb236))) (fun k_ hk => (⟨hk, hk.1.2.1⟩ : _ ∧ k_ ≠ gb237))) (fun _ hk => hk.1.2) (.bool t243)) (fun _ hk => hk.1.2) (.slice Ao111 t244.length co111)) (fun _ hk => hk.1.2) (.slice Ao113 t247.length co113)) (fun _ hk => hk.1.2) (.slice Ao115 t250.length co115)) (fun _ hk => hk.2) (.bool t257)) (fun _ hk => hk.2) (.slice Ao126 t258.length co126)) (fun _ hk => hk.2) (.slice Ao128 t261.length co128)) (fun _ hk => hk.2) (.slice Ao130 t264.length co130)) (fun _ hk => ⟨hk.1.1.1, hk.1.1.2.1⟩)⟩, ⟨by (with_reducible repeat (first | apply Kd.V_alloc | apply Kd.V_drewN | apply Kd.V_drew)); exact Kd.V_mono (Kd.V_far (p := ⟨gb237, 3, none⟩) (Kd.V_far (p := ⟨gb237, 2, none⟩) (Kd.V_far (p := ⟨gb237, 1, none⟩) (Kd.V_far (p := ⟨gb237, 0, none⟩) (Kd.V_far (p := ⟨gb236, 3, none⟩) (Kd.V_far (p := ⟨gb236, 2, none⟩) (Kd.V_far (p := ⟨gb236, 1, none⟩) (Kd.V_far (p := ⟨gb236, 0, none⟩) (Kd.V_mono (Kd.V_mono HO249.out (fun k_ hk => (⟨hk, hk.1⟩ : _ ∧ k_ ≠ gb236))) (fun k_ hk => (⟨hk, hk.1.2.1⟩ : _ ∧ k_ ≠ gb237))) (fun _ hk => hk.1.2) (.bool t243)) (fun _ hk => hk.1.2) (.slice Ao111 t244.length co111)) (fun _ hk => hk.1.2) (.slice Ao113 t247.length co113)) (fun _ hk => hk.1.2) (.slice Ao115 t250.length co115)) (fun _ hk => hk.2) (.bool t257)) (fun _ hk => hk.2) (.slice Ao126 t258.length co126)) (fun _ hk => hk.2) (.slice Ao128 t261.length co128)) (fun _ hk => hk.2) (.slice Ao130 t264.length co130)) (fun _ hk => ⟨hk.1.1.1, hk.1.1.2.1⟩)⟩, ⟨by (with_reducible repeat (first | apply Kd.V_alloc | apply Kd.V_drewN | apply Kd.V_drew)); exact Kd.V_mono (Kd.V_far (p := ⟨gb237, 3, none⟩) (Kd.V_far (p := ⟨gb237, 2, none⟩) (Kd.V_far (p := ⟨gb237, 1, none⟩) (Kd.V_far (p := ⟨gb237, 0, none⟩) (Kd.V_far (p := ⟨gb236, 3, none⟩) (Kd.V_far (p := ⟨gb236, 2, none⟩) (Kd.V_far (p := ⟨gb236, 1, none⟩) (Kd.V_far (p := ⟨gb236, 0, none⟩) (Kd.V_mono (Kd.V_mono HO252.out (fun k_ hk => (⟨hk, hk.1⟩ : _ ∧ k_ ≠ gb236))) (fun k_ hk => (⟨hk, hk.1.2.1⟩ : _ ∧ k_ ≠ gb237))) (fun _ hk => hk.1.2) (.bool t243)) (fun _ hk => hk.1.2) (.slice Ao111 t244.length co111)) (fun _ hk => hk.1.2) (.slice Ao113 t247.length co113)) (fun _ hk => hk.1.2) (.slice Ao115 t250.length co115)) (fun _ hk => hk.2) (.bool t257)) (fun _ hk => hk.2) (.slice Ao126 t258.length co126)) (fun _ hk => hk.2) (.slice Ao128 t261.length co128)) (fun _ hk => hk.2) (.slice Ao130 t264.length co130)) (fun _ hk => ⟨hk.1.1.1, hk.1.1.2.1⟩)⟩, ⟨by (with_reducible repeat (first | apply Kd.V_alloc | apply Kd.V_drewN | apply Kd.V_drew)); exact Kd.V_mono (Kd.V_far (p := ⟨gb237, 3, none⟩) (Kd.V_far (p := ⟨gb237, 2, none⟩) (Kd.V_far (p := ⟨gb237, 1, none⟩) (Kd.V_far (p := ⟨gb237, 0, none⟩) (Kd.V_far (p := ⟨gb236, 3, none⟩) (Kd.V_far (p := ⟨gb236, 2, none⟩) (Kd.V_far (p := ⟨gb236, 1, none⟩) (Kd.V_far (p := ⟨gb236, 0, none⟩) (Kd.V_mono (Kd.V_mono HO260.out (fun k_ hk => (⟨hk, hk.1⟩ : _ ∧ k_ ≠ gb236))) (fun k_ hk => (⟨hk, hk.1.2.1⟩ : _ ∧ k_ ≠ gb237))) (fun _ hk => hk.1.2) (.bool t243)) (fun _ hk => hk.1.2) (.slice Ao111 t244.length co111)) (fun _ hk => hk.1.2) (.slice Ao113 t247.length co113)) (fun _ hk => hk.1.2) (.slice Ao115 t250.length co115)) (fun _ hk => hk.2) (.bool t257)) (fun _ hk => hk.2) (.slice Ao126 t258.length co126)) (fun _ hk => hk.2) (.slice Ao128 t261.length co128)) (fun _ hk => hk.2) (.slice Ao130 t264.length co130)) (fun _ hk => ⟨hk.1.1.1, hk.1.1.2.1⟩)⟩, ⟨by (with_reducible repeat (first | apply Kd.V_alloc | apply Kd.V_drewN | apply Kd.V_drew)); exact Kd.V_mono (Kd.V_far (p := ⟨gb237, 3, none⟩) (Kd.V_far (p := ⟨gb237, 2, none⟩) (Kd.V_far (p := ⟨gb237, 1, none⟩) (Kd.V_far (p := ⟨gb237, 0, none⟩) (Kd.V_far (p := ⟨gb236, 3, none⟩) (Kd.V_far (p := ⟨gb236, 2, none⟩) (Kd.V_far (p := ⟨gb236, 1, none⟩) (Kd.V_far (p := ⟨gb236, 0, none⟩) (Kd.V_mono (Kd.V_mono HO263.out (fun k_ hk => (⟨hk, hk.1⟩ : _ ∧ k_ ≠ gb236))) (fun k_ hk => (⟨hk, hk.1.2.1⟩ : _ ∧ k_ ≠ gb237))) (fun _ hk => hk.1.2) (.bool t243)) (fun _ hk => hk.1.2) (.slice Ao111 t244.length co111)) (fun _ hk => hk.1.2) (.slice Ao113 t247.length co113)) (fun _ hk => hk.1.2) (.slice Ao115 t250.length co115)) (fun _ hk => hk.2) (.bool t257)) (fun _ hk => hk.2) (.slice Ao126 t258.length co126)) (fun _ hk => hk.2) (.slice Ao128 t261.length co128)) (fun _ hk => hk.2) (.slice Ao130 t264.length co130)) (fun _ hk => ⟨hk.1.1.1, hk.1.1.2.1⟩)⟩, ⟨by (with_reducible repeat (first | apply Kd.V_alloc | apply Kd.V_drewN | apply Kd.V_drew)); exact Kd.V_mono (Kd.V_far (p := ⟨gb237, 3, none⟩) (Kd.V_far (p := ⟨gb237, 2, none⟩) (Kd.V_far (p := ⟨gb237, 1, none⟩) (Kd.V_far (p := ⟨gb237, 0, none⟩) (Kd.V_far (p := ⟨gb236, 3, none⟩) (Kd.V_far (p := ⟨gb236, 2, none⟩) (Kd.V_far (p := ⟨gb236, 1, none⟩) (Kd.V_far (p := ⟨gb236, 0, none⟩) (Kd.V_mono (Kd.V_mono HO266.out (fun k_ hk => (⟨hk, hk.1⟩ : _ ∧ k_ ≠ gb236))) (fun k_ hk => (⟨hk, hk.1.2.1⟩ : _ ∧ k_ ≠ gb237))) (fun _ hk => hk.1.2) (.bool t243)) (fun _ hk => hk.1.2) (.slice Ao111 t244.length co111)) (fun _ hk => hk.1.2) (.slice Ao113 t247.length co113)) (fun _ hk => hk.1.2) (.slice Ao115 t250.length co115)) (fun _ hk => hk.2) (.bool t257)) (fun _ hk => hk.2) (.slice Ao126 t258.length co126)) (fun _ hk => hk.2) (.slice Ao128 t261.length co128)) (fun _ hk => hk.2) (.slice Ao130 t264.length co130)) (fun _ hk => ⟨hk.1.1.1, hk.1.1.2.1⟩)⟩, ⟨by (with_reducible repeat (first | refine blk_drewN ?_ _ | refine blk_drew ?_ | refine blk_alloc ?_ _)); refine blk_far ?_ NB236_237.out _; (with_reducible repeat (first | refine blk_drewN ?_ _ | refine blk_drew ?_ | refine blk_alloc ?_ _)); refine blk_far ?_ NB236_237.out _; (with_reducible repeat (first | refine blk_drewN ?_ _ | refine blk_drew ?_ | refine blk_alloc ?_ _)); refine blk_far ?_ NB236_237.out _; (with_reducible repeat (first | refine blk_drewN ?_ _ | refine blk_drew ?_ | refine blk_alloc ?_ _)); refine blk_far ?_ NB236_237.out _; (with_reducible repeat (first | refine blk_drewN ?_ _ | refine blk_drew ?_ | refine blk_alloc ?_ _)); refine blk_put (cs := #[.bool t243, .slice Ao111 t244.length co111, .slice Ao113 t247.length co113, .slice Ao105 x237003_2.length co105]) ?_ 3 _ (by first | rfl | (simp only [List.length_drop, List.length_take]; rfl)); (with_reducible repeat (first | refine blk_drewN ?_ _ | refine blk_drew ?_ | refine blk_alloc ?_ _)); refine blk_put (cs := #[.bool t243, .slice Ao111 t244.length co111, .slice Ao104 x237002_2.length co104, .slice Ao105 x237003_2.length co105]) ?_ 2 _ (by first | rfl | (simp only [List.length_drop, List.length_take]; rfl)); (with_reducible repeat (first | refine blk_drewN ?_ _ | refine blk_drew ?_ | refine blk_alloc ?_ _)); refine blk_put (cs := #[.bool t243, .slice Ao103 x237001_2.length co103, .slice Ao104 x237002_2.length co104, .slice Ao105 x237003_2.length co105]) ?_ 1 _ (by first | rfl | (simp only [List.length_drop, List.length_take]; rfl)); (with_reducible repeat (first | refine blk_drewN ?_ _ | refine blk_drew ?_ | refine blk_alloc ?_ _)); refine blk_put (cs := #[.bool x237000_2, .slice Ao103 x237001_2.length co103, .slice Ao104 x237002_2.length co104, .slice Ao105 x237003_2.length co105]) ?_ 0 _ (by first | rfl | (simp only [List.length_drop, List.length_take]; rfl)); (with_reducible repeat (first | refine blk_drewN ?_ _ | refine blk_drew ?_ | refine blk_alloc ?_ _)); exact BK236.out⟩, ⟨by (with_reducible repeat (first | refine blk_drewN ?_ _ | refine blk_drew ?_ | refine blk_alloc ?_ _)); refine blk_put (cs := #[.bool t257, .slice Ao126 t258.length co126, .slice Ao128 t261.length co128, .slice Ao119 x238003_2.length co119]) ?_ 3 _ (by first | rfl | (simp only [List.length_drop, List.length_take]; rfl)); (with_reducible repeat (first | refine blk_drewN ?_ _ | refine blk_drew ?_ | refine blk_alloc ?_ _)); refine blk_put (cs := #[.bool t257, .slice Ao126 t258.length co126, .slice Ao118 x238002_2.length co118, .slice Ao119 x238003_2.length co119]) ?_ 2 _ (by first | rfl | (simp only [List.length_drop, List.length_take]; rfl)); (with_reducible repeat (first | refine blk_drewN ?_ _ | refine blk_drew ?_ | refine blk_alloc ?_ _)); refine blk_put (cs := #[.bool t257, .slice Ao117 x238001_2.length co117, .slice Ao118 x238002_2.length co118, .slice Ao119 x238003_2.length co119]) ?_ 1 _ (by first | rfl | (simp only [List.length_drop, List.length_take]; rfl)); (with_reducible repeat (first | refine blk_drewN ?_ _ | refine blk_drew ?_ | refine blk_alloc ?_ _)); refine blk_put (cs := #[.bool x238000_2, .slice Ao117 x238001_2.length co117, .slice Ao118 x238002_2.length co118, .slice Ao119 x238003_2.length co119]) ?_ 0 _ (by first | rfl | (simp only [List.length_drop, List.length_take]; rfl)); (with_reducible repeat (first | refine blk_drewN ?_ _ | refine blk_drew ?_ | refine blk_alloc ?_ _)); refine blk_far ?_ NB237_236.out _; (with_reducible repeat (first | refine blk_drewN ?_ _ | refine blk_drew ?_ | refine blk_alloc ?_ _)); refine blk_far ?_ NB237_236.out _; (with_reducible repeat (first | refine blk_drewN ?_ _ | refine blk_drew ?_ | refine blk_alloc ?_ _)); refine blk_far ?_ NB237_236.out _; (with_reducible repeat (first | refine blk_drewN ?_ _ | refine blk_drew ?_ | refine blk_alloc ?_ _)); refine blk_far ?_ NB237_236.out _; (with_reducible repeat (first | refine blk_drewN ?_ _ | refine blk_drew ?_ | refine blk_alloc ?_ _)); exact BK237.out⟩, ⟨by exact zh4_ HB.out GE236.out GE237.out GE254.out GE268.out⟩⟩
                ·rw [if_neg c34] at H
                 have c34b0 : (t267 == 0) = false := beq_eq_false_iff_ne.mpr c34
                 have c34b1 : (t267 != 0) = true := bne_iff_ne.mpr c34
                 obtain rfl := Option.some.inj H
                 try go_wp2
                 go_ret
                 exact ⟨by first | rfl | (simp [errW_none, errW_some] <;> rfl) | (simp only [← hji6, ← hji28]; first | rfl | (simp [errW_none, errW_some] <;> rfl)) | (simp [*, errW_none, errW_some] <;> rfl), by exact zh4_ HB.out GE236.out GE237.out GE254.out GE268.out⟩
               ·rw [if_neg c33] at H
                have c33b0 : (t253 == 0) = false := beq_eq_false_iff_ne.mpr c33
                have c33b1 : (t253 != 0) = true := bne_iff_ne.mpr c33
                obtain rfl := Option.some.inj H
                try go_wp2
                go_ret
                exact ⟨by first | rfl | (simp [errW_none, errW_some] <;> rfl) | (simp only [← hji6, ← hji28]; first | rfl | (simp [errW_none, errW_some] <;> rfl)) | (simp [*, errW_none, errW_some] <;> rfl), by exact zh4_ HB.out GE236.out GE237.out GE254.out GE268.out⟩
              ·rw [if_neg c31] at H
               exact absurd H (by simp)
             ·rw [if_neg c30] at H
              exact absurd H (by simp)
            ·rw [if_neg c29] at H
             exact absurd H (by simp)
           ·rw [if_neg c26] at H
            exact absurd H (by simp)
          ·rw [if_neg c25] at H
           exact absurd H (by simp)
         ·rw [if_neg c24] at H
          exact absurd H (by simp)
       ·rw [if_neg c22] at H
        have c22b0 : decide (x12_2 < ji6) = false := decide_eq_false c22
        clear c22
        replace H := Option.bind_eq_some_iff.mp H
        obtain ⟨t240, A1320, H⟩ := H
        replace H : (if t240 = true then (some ((x237001_2.length : Int) == ji6)) else (none)) = some r := H
        have A132 := Aside0.mk A1320
        clear A1320
        by_cases c133 : t240 = true
        ·subst c133
         have H1 : (some ((x237001_2.length : Int) == ji6)) = some r := by rw [if_pos rfl] at H; exact H
         clear H
         have H := H1
         clear H1
         obtain rfl := Option.some.inj H
         have hnb134 := NB236_237.out
         have hnc134 := NB237_236.out
         obtain ⟨hcz135_0, hcz135_1, hcz135_2, hcz135_3⟩ := zc4 BK236.out
         obtain ⟨hfz135_0, hfz135_1, hfz135_2, hfz135_3⟩ := zz4 BK236.out
         obtain ⟨hcz136_0, hcz136_1, hcz136_2, hcz136_3⟩ := zc4 BK237.out
         obtain ⟨hfz136_0, hfz136_1, hfz136_2, hfz136_3⟩ := zz4 BK237.out
         obtain ⟨Ao137, co137, eo137⟩ := Kd.V_slice HO_237001.out
         subst eo137
         obtain ⟨Ao138, co138, eo138⟩ := Kd.V_slice HO_237002.out
         subst eo138
         obtain ⟨Ao139, co139, eo139⟩ := Kd.V_slice HO_237003.out
         subst eo139
         obtain ⟨Ao140, co140, eo140⟩ := Kd.V_slice HO_238001.out
         subst eo140
         obtain ⟨Ao141, co141, eo141⟩ := Kd.V_slice HO_238002.out
         subst eo141
         obtain ⟨Ao142, co142, eo142⟩ := Kd.V_slice HO_238003.out
         subst eo142
         go_wp2_with (first | ((with_reducible refine gate_callee (f := 11) rfl ?_); refine goesL_ (some 98) rfl rfl Try.func11 (by kernel_rfl) rfl #[.agg #[.bool x237000_2, .slice Ao137 x237001_2.length co137, .slice Ao138 x237002_2.length co138, .slice Ao139 x237003_2.length co139], .agg #[.bool x238000_2, .slice Ao140 x238001_2.length co140, .slice Ao141 x238002_2.length co141, .slice Ao142 x238003_2.length co142]] rfl zl_ ?_; (with_reducible refine (ladingref06_Same.calls k2 x237000_2 _ _ x237001_2 _ _ x237002_2 _ _ x237003_2 x238000_2 _ _ x238001_2 _ _ x238002_2 _ _ x238003_2 true _ ?side1 ?side2 ?side3 ?side4 ?side5 ?side6 ?side7 ?side8 ?side9 ?side10 ?side11 ?side12 A132.out).mono ?_); (case side1 => repeat (first | exact (Kd.V_reads' HO_237001.out).2.2 | (with_reducible refine Kd.C_alloc ?_ _) | (with_reducible refine Kd.C_drewN ?_ _) | (with_reducible refine Kd.C_drew ?_))); (case side2 => exact (Kd.V_reads' HO_237001.out).2.1); (case side3 => repeat (first | exact (Kd.V_reads' HO_237002.out).2.2 | (with_reducible refine Kd.C_alloc ?_ _) | (with_reducible refine Kd.C_drewN ?_ _) | (with_reducible refine Kd.C_drew ?_))); (case side4 => exact (Kd.V_reads' HO_237002.out).2.1); (case side5 => repeat (first | exact (Kd.V_reads' HO_237003.out).2.2 | (with_reducible refine Kd.C_alloc ?_ _) | (with_reducible refine Kd.C_drewN ?_ _) | (with_reducible refine Kd.C_drew ?_))); (case side6 => exact (Kd.V_reads' HO_237003.out).2.1); (case side7 => repeat (first | exact (Kd.V_reads' HO_238001.out).2.2 | (with_reducible refine Kd.C_alloc ?_ _) | (with_reducible refine Kd.C_drewN ?_ _) | (with_reducible refine Kd.C_drew ?_))); (case side8 => exact (Kd.V_reads' HO_238001.out).2.1); (case side9 => repeat (first | exact (Kd.V_reads' HO_238002.out).2.2 | (with_reducible refine Kd.C_alloc ?_ _) | (with_reducible refine Kd.C_drewN ?_ _) | (with_reducible refine Kd.C_drew ?_))); (case side10 => exact (Kd.V_reads' HO_238002.out).2.1); (case side11 => repeat (first | exact (Kd.V_reads' HO_238003.out).2.2 | (with_reducible refine Kd.C_alloc ?_ _) | (with_reducible refine Kd.C_drewN ?_ _) | (with_reducible refine Kd.C_drew ?_))); (case side12 => exact (Kd.V_reads' HO_238003.out).2.1); rintro e w143 ⟨rfl, hb⟩; refine ⟨_, rfl, ?_⟩; have n0_ := Aside0.mk (Kd.V_below (zV_ HO_237001.out) hb); have n1_ := Aside0.mk (Kd.V_below (zV_ HO_237002.out) hb); have n2_ := Aside0.mk (Kd.V_below (zV_ HO_237003.out) hb); have n3_ := Aside0.mk (Kd.V_below (zV_ HO_238001.out) hb); have n4_ := Aside0.mk (Kd.V_below (zV_ HO_238002.out) hb); have n5_ := Aside0.mk (Kd.V_below (zV_ HO_238003.out) hb); have n6_ := Aside0.mk (blk_below (zb_ BK236.out) hb); have n7_ := Aside0.mk (blk_below (zb_ BK237.out) hb); have n8_ := Aside0.mk (below_step (zh2_ HB.out GE236.out GE237.out) hb); clear HO_237001; clear HO_237002; clear HO_237003; clear HO_238001; clear HO_238002; clear HO_238003; clear BK236; clear BK237; clear HB; have HO_237001 := n0_; have HO_237002 := n1_; have HO_237003 := n2_; have HO_238001 := n3_; have HO_238002 := n4_; have HO_238003 := n5_; have BK236 := n6_; have BK237 := n7_; have HB := n8_; clear n0_ n1_ n2_ n3_ n4_ n5_ n6_ n7_ n8_; (try clear hb); (try clear hb2); (try clear hk); (try clear hi); obtain ⟨hcz144_0, hcz144_1, hcz144_2, hcz144_3⟩ := zc4 BK236.out; obtain ⟨hfz144_0, hfz144_1, hfz144_2, hfz144_3⟩ := zz4 BK236.out))
         go_ret
         exact ⟨by first | rfl | (simp [errW_none, errW_some] <;> rfl) | (simp only [← hji6]; first | rfl | (simp [errW_none, errW_some] <;> rfl)) | (simp [*, errW_none, errW_some] <;> rfl), by exact zh2_ HB.out GE236.out GE237.out⟩
        ·replace c133 := Bool.eq_false_iff.mpr c133
         subst c133
         have H1 : (none) = some r := by rw [if_neg (show ¬ (false = true) by decide)] at H; exact H
         clear H
         have H := H1
         clear H1
         exact absurd H (by simp)
 ·replace c5 := Bool.eq_false_iff.mpr c5
  subst c5
  have H1 : (none) = some r := by rw [if_neg (show ¬ (false = true) by decide)] at H; exact H
  clear H
  have H := H1
  clear H1
  exact absurd H (by simp)
end Go.Proofs.Ytcbgichkeecgiaa.Print
