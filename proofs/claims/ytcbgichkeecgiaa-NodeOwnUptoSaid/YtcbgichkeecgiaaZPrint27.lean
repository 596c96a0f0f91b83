-- What the claim uses alone (wip/slim.py). Lean checks it.
import Derived.Test.YtcbgichkeecgiaaZAb
import Derived.Test.YtcbgichkeecgiaaZAln
import Derived.Test.YtcbgichkeecgiaaZAlr
import Derived.Test.YtcbgichkeecgiaaZAls
import Derived.Test.YtcbgichkeecgiaaZPrint26
namespace Go.Proofs.Ytcbgichkeecgiaa.Print
open Go.RowKit Go.Proofs.YtcbgichkeecgiaaW.PrintWords Go.Proofs.YtcbgichkeecgiaaW.PrintLast Go.Proofs.YtcbgichkeecgiaaW.PrintMore
attribute [local go_sem] max2_mx min2_mn max_two min_two max_three min_three max_four min_four
set_option linter.unusedVariables false
set_option linter.unusedSimpArgs false
mutual
def ladingref06_Cut.j0 : Nat → List Int → Int → Bool → Bool → List (List Int) → List (List Int) → List Int → Option (Bool × (List (List Int)) × (List (List Int)) × List Int × Bool × Int)
 | 0, _, _, _, _, _, _, _ => none
 | k + 1, x1, x7, x19, x379000, x379001, x379002, x379003 => if x19 = true then (ladingref06_Cut.j1 k x1 15 x379000 x379001 x379002 x379003) else (ladingref06_Cut.j1 k x1 x7 x379000 x379001 x379002 x379003)
def ladingref06_Cut.j1 : Nat → List Int → Int → Bool → List (List Int) → List (List Int) → List Int → Option (Bool × (List (List Int)) × (List (List Int)) × List Int × Bool × Int)
 | 0, _, _, _, _, _, _ => none
 | k + 1, x1, x7, x379000, x379001, x379002, x379003 => if x7 = 0 then ((ladingref06_Copy.f k x379000 x379001 x379002 x379003).bind fun bt381 => ((ladingref06_below.f k bt381.1 bt381.2.1 bt381.2.2.1 bt381.2.2.2 x1).bind fun bt392 => (if bt392.2 = true then ((ladingref06_without.f bt381.2.1 bt392.1).bind fun t394 => ((ladingref06_without.f bt381.2.2.1 bt392.1).bind fun t397 => (some (bt381.1, t394, t397, bt381.2.2.2, bt392.2, 0)))) else (some (bt381.1, bt381.2.1, bt381.2.2.1, bt381.2.2.2, bt392.2, 0))))) else (some (false, ([] : List (List Int)), ([] : List (List Int)), ([] : List Int), false, x7))
end
def ladingref06_Cut.f (k : Nat) (a0_0 : Bool) (l0_1 : List (List Int)) (l0_2 : List (List Int)) (l0_3 : List Int) (l1 : List Int) : Option (Bool × (List (List Int)) × (List (List Int)) × List Int × Bool × Int) := (ladingref06_Check.f k a0_0 l0_1 l0_2 l0_3).bind fun t380 => (if t380 = 0 then (ladingref06_Cut.j0 k l1 t380 (!a0_0) a0_0 l0_1 l0_2 l0_3) else (ladingref06_Cut.j0 k l1 t380 false a0_0 l0_1 l0_2 l0_3))
theorem ladingref06_Cut.mono_l : ∀ k, (∀ y0 y1 y2 y3 y4 y5 y6, LeO (ladingref06_Cut.j0 k y0 y1 y2 y3 y4 y5 y6) (ladingref06_Cut.j0 (k + 1) y0 y1 y2 y3 y4 y5 y6)) ∧ (∀ y0 y1 y2 y3 y4 y5, LeO (ladingref06_Cut.j1 k y0 y1 y2 y3 y4 y5) (ladingref06_Cut.j1 (k + 1) y0 y1 y2 y3 y4 y5))
 | 0 => ⟨fun _ _ _ _ _ _ _ r h => by simp [ladingref06_Cut.j0] at h, fun _ _ _ _ _ _ r h => by simp [ladingref06_Cut.j1] at h⟩
 | k + 1 => by
  obtain ⟨ih0, ih1⟩ := ladingref06_Cut.mono_l k
  refine ⟨?_, ?_⟩
  ·intro y0 y1 y2 y3 y4 y5 y6
   unfold ladingref06_Cut.j0
   repeat' first
   | (with_reducible exact ih0 _ _ _ _ _ _ _)
   | (with_reducible exact ih1 _ _ _ _ _ _)
   | (with_reducible exact ladingref06_Check.mono _ _ _ _ _)
   | (with_reducible exact ladingref06_Copy.mono _ _ _ _ _)
   | (with_reducible exact ladingref06_below.mono _ _ _ _ _ _)
   | (with_reducible exact LeO.refl _)
   | (with_reducible exact LeO.none _)
   | (with_reducible refine LeO.ite ?_ ?_)
   | (with_reducible refine LeO.bind ?_ (fun _ => ?_))
   | exact ih0 _ _ _ _ _ _ _
   | exact ih1 _ _ _ _ _ _
   | exact ladingref06_Check.mono _ _ _ _ _
   | exact ladingref06_Copy.mono _ _ _ _ _
   | exact ladingref06_below.mono _ _ _ _ _ _
   | exact LeO.none _
   | refine LeO.ite ?_ ?_
   | refine LeO.bind ?_ (fun _ => ?_)
  ·intro y0 y1 y2 y3 y4 y5
   unfold ladingref06_Cut.j1
   repeat' first
   | (with_reducible exact ih0 _ _ _ _ _ _ _)
   | (with_reducible exact ih1 _ _ _ _ _ _)
   | (with_reducible exact ladingref06_Check.mono _ _ _ _ _)
   | (with_reducible exact ladingref06_Copy.mono _ _ _ _ _)
   | (with_reducible exact ladingref06_below.mono _ _ _ _ _ _)
   | (with_reducible exact LeO.refl _)
   | (with_reducible exact LeO.none _)
   | (with_reducible refine LeO.ite ?_ ?_)
   | (with_reducible refine LeO.bind ?_ (fun _ => ?_))
   | exact ih0 _ _ _ _ _ _ _
   | exact ih1 _ _ _ _ _ _
   | exact ladingref06_Check.mono _ _ _ _ _
   | exact ladingref06_Copy.mono _ _ _ _ _
   | exact ladingref06_below.mono _ _ _ _ _ _
   | exact LeO.none _
   | refine LeO.ite ?_ ?_
   | refine LeO.bind ?_ (fun _ => ?_)
theorem ladingref06_Cut.mono : ∀ a0 a1 a2 a3 a4 k, LeO (ladingref06_Cut.f k a0 a1 a2 a3 a4) (ladingref06_Cut.f (k + 1) a0 a1 a2 a3 a4) := by
 intro a0 a1 a2 a3 a4 k
 obtain ⟨ih0, ih1⟩ := ladingref06_Cut.mono_l k
 unfold ladingref06_Cut.f
 repeat' first
   | (with_reducible exact ih0 _ _ _ _ _ _ _)
   | (with_reducible exact ih1 _ _ _ _ _ _)
   | (with_reducible exact ladingref06_Check.mono _ _ _ _ _)
   | (with_reducible exact ladingref06_Copy.mono _ _ _ _ _)
   | (with_reducible exact ladingref06_below.mono _ _ _ _ _ _)
   | (with_reducible exact LeO.refl _)
   | (with_reducible exact LeO.none _)
   | (with_reducible refine LeO.ite ?_ ?_)
   | (with_reducible refine LeO.bind ?_ (fun _ => ?_))
   | exact ih0 _ _ _ _ _ _ _
   | exact ih1 _ _ _ _ _ _
   | exact ladingref06_Check.mono _ _ _ _ _
   | exact ladingref06_Copy.mono _ _ _ _ _
   | exact ladingref06_below.mono _ _ _ _ _ _
   | exact LeO.none _
   | refine LeO.ite ?_ ?_
   | refine LeO.bind ?_ (fun _ => ?_)
set_option maxHeartbeats 8000000 in
set_option maxRecDepth 100000 in
theorem ladingref06_Cut.calls (k : Nat) (a0_0 : Bool) (A0_1 : Option Addr) (c0_1 : Nat) (l0_1 : List (List Int)) (A0_2 : Option Addr) (c0_2 : Nat) (l0_2 : List (List Int)) (A0_3 : Option Addr) (c0_3 : Nat) (l0_3 : List Int) (A1 : Option Addr) (c1 : Nat) (l1 : List Int) (r1 : Bool) (r2 : List (List Int)) (r3 : List (List Int)) (r4 : List Int) (r5 : Bool) (r6 : Int) (w : World) (hr0_1 : Kd.C (Kd.slice 5 (Kd.int .u8)) w A0_1 l0_1.length l0_1) (hc0_1 : l0_1.length ≤ c0_1) (hr0_2 : Kd.C (Kd.slice 5 (Kd.int .u8)) w A0_2 l0_2.length l0_2) (hc0_2 : l0_2.length ≤ c0_2) (hr0_3 : Kd.C (Kd.int .i64) w A0_3 l0_3.length l0_3) (hc0_3 : l0_3.length ≤ c0_3) (hr1 : Kd.C (Kd.int .u8) w A1 l1.length l1) (hc1 : l1.length ≤ c1) (h : ladingref06_Cut.f k a0_0 l0_1 l0_2 l0_3 l1 = some (r1, r2, r3, r4, r5, r6)) :
  Calls Try.prog 17 #[.agg #[.bool a0_0, .slice A0_1 l0_1.length c0_1, .slice A0_2 l0_2.length c0_2, .slice A0_3 l0_3.length c0_3], .slice A1 l1.length c1] w fun e w' => ∃ v1_ v2_ v3_ : Value, e = .returned (.tuple #[.agg #[.bool r1, v1_, v2_, v3_], .bool r5, .int .i64 r6]) ∧ Kd.N (Kd.slice 5 (Kd.int .u8)) 27 w' w.heap.size (fun k_ => (w.heap.size ≤ k_) ∧ some k_ ≠ (v2_ : Value).ownBlock ∧ some k_ ≠ (v3_ : Value).ownBlock) v1_ r2 ∧ Kd.N (Kd.slice 5 (Kd.int .u8)) 27 w' w.heap.size (fun k_ => (w.heap.size ≤ k_) ∧ some k_ ≠ (v1_ : Value).ownBlock ∧ some k_ ≠ (v3_ : Value).ownBlock) v2_ r3 ∧ Kd.R (Kd.int .i64) 3 w' w.heap.size (fun k_ => (w.heap.size ≤ k_)) v3_ r4 ∧ Below w.heap.size w w' := by
 have hu26 := Try.underlying26
 have HR0_1 := Aside0.mk hr0_1
 have HC0_1 := Aside0.mk hc0_1
 clear hr0_1 hc0_1
 have HR0_2 := Aside0.mk hr0_2
 have HC0_2 := Aside0.mk hc0_2
 clear hr0_2 hc0_2
 have HR0_3 := Aside0.mk hr0_3
 have HC0_3 := Aside0.mk hc0_3
 clear hr0_3 hc0_3
 have HR1 := Aside0.mk hr1
 have HC1 := Aside0.mk hc1
 clear hr1 hc1
 have HB := Aside0.mk (Below.refl w.heap.size w)
 have H : ((ladingref06_Check.f k a0_0 l0_1 l0_2 l0_3).bind fun t380 => (if t380 = 0 then (ladingref06_Cut.j0 k l1 t380 (!a0_0) a0_0 l0_1 l0_2 l0_3) else (ladingref06_Cut.j0 k l1 t380 false a0_0 l0_1 l0_2 l0_3))) = some (r1, r2, r3, r4, r5, r6) := h
 clear h
 obtain ⟨t380, A3, H⟩ := zm H
 (try dsimp only at H)
 have HC4 := Aside0.mk H
 clear H
 go_enter Try.func17, Try.ntmps17
 go_upto_region 2 with (first | ((with_reducible refine gate_dst (N := 2) rfl ?_); refine box_event ?hg (N := 2) ?hd (cs := #[.bool a0_0, .slice A0_1 l0_1.length c0_1, .slice A0_2 l0_2.length c0_2, .slice A0_3 l0_3.length c0_3]) (t := 26) ?hr ?_; (case hd => rfl); (case hg => rfl); (case hr => first | (go_simp; done) | (go_simp; rfl)); intro gb378 hg w5 hbox hb; have BK378 := Aside0.mk (hbox); have GW378 := Aside0.mk ((by rw [hg]; exact (below_size (zh0_ HB.out)) : w.heap.size ≤ gb378)); have GE378 := Aside0.mk ((by rw [hg]; exact (below_size (zh0_ HB.out)) : w.heap.size ≤ gb378)); replace HB := Aside0.mk (below_step (zh0_ HB.out) hb); clear hb hbox hg) | ((with_reducible refine gate_dst (N := 4) rfl ?_); refine box_event ?hg (N := 4) ?hd (cs := #[.bool false, .slice none 0 0, .slice none 0 0, .slice none 0 0]) (t := 26) ?hr ?_; (case hd => rfl); (case hg => rfl); (case hr => first | (go_simp; done) | (go_simp; rfl)); intro gb379 hg w6 hbox hb; have BK379 := Aside0.mk (hbox); have GW379 := Aside0.mk ((by rw [hg]; exact (below_size (zh1_ HB.out GE378.out)) : w.heap.size ≤ gb379)); have GE379 := Aside0.mk ((by rw [hg]; exact (below_size (zh1_ HB.out GE378.out)) : w.heap.size ≤ gb379)); replace HB := Aside0.mk (below_step (zh1_ HB.out GE378.out) hb); have NB378_379 := Aside0.mk ((by rw [hg]; exact Nat.ne_of_lt (blk_lt (zb_ BK378.out)) : gb378 ≠ gb379)); have NB379_378 := Aside0.mk ((by rw [hg]; exact Nat.ne_of_gt (blk_lt (zb_ BK378.out)) : gb379 ≠ gb378)); replace BK378 := Aside0.mk (blk_below (zb_ BK378.out) hb); clear hb hbox hg; have hnb7 := NB378_379.out; have hnc7 := NB379_378.out; obtain ⟨hcz8_0, hcz8_1, hcz8_2, hcz8_3⟩ := zc4 BK378.out; obtain ⟨hfz8_0, hfz8_1, hfz8_2, hfz8_3⟩ := zz4 BK378.out) | ((with_reducible refine gate_callee (f := 31) rfl ?_); refine goesL_ (some 12) rfl rfl Try.func31 (by kernel_rfl) rfl #[.agg #[.bool a0_0, .slice A0_1 l0_1.length c0_1, .slice A0_2 l0_2.length c0_2, .slice A0_3 l0_3.length c0_3]] rfl zl_ ?_; (with_reducible refine (ladingref06_Check.calls k a0_0 _ _ l0_1 _ _ l0_2 _ _ l0_3 t380 _ ?side1 ?side2 ?side3 ?side4 ?side5 ?side6 A3.out).mono ?_); (case side1 => exact zc_ (Kd.C_below HR0_1.out HB.out)); (case side2 => exact HC0_1.out); (case side3 => exact zc_ (Kd.C_below HR0_2.out HB.out)); (case side4 => exact HC0_2.out); (case side5 => exact zc_ (Kd.C_below HR0_3.out HB.out)); (case side6 => exact HC0_3.out); rintro e w9 ⟨rfl, hb⟩; refine ⟨_, rfl, ?_⟩; replace BK378 := Aside0.mk (blk_below (zb_ BK378.out) hb); replace BK379 := Aside0.mk (blk_below (zb_ BK379.out) hb); replace HB := Aside0.mk (below_step (zh2_ HB.out GE378.out GE379.out) hb); (try clear hb)))
 (try simp only [Act.put, zt0, zt1, zt2])
 go_cut [19] (fun v19 wc => ∃ (kq : Nat) (x19_3 : Bool), v19 = .bool x19_3 ∧ Aside0 (ladingref06_Cut.j0 kq l1 t380 x19_3 a0_0 l0_1 l0_2 l0_3 = some (r1, r2, r3, r4, r5, r6)) ∧ Aside0 (kq ≤ k) ∧ Aside0 (wc.heap[gb378]? = some (.cells #[.bool a0_0, (.slice A0_1 l0_1.length c0_1), (.slice A0_2 l0_2.length c0_2), (.slice A0_3 l0_3.length c0_3)] 26 (0, 0))) ∧ Aside0 (wc.heap[gb379]? = some (.cells #[.bool false, (.slice none 0 0), (.slice none 0 0), (.slice none 0 0)] 26 (0, 0))) ∧ Aside0 (Below w.heap.size w wc))
 case first =>
  have H := HC4.out
  clear HC4
  by_cases c10 : t380 = 0
  ·rw [if_pos c10] at H
   obtain ⟨c10b0, c10b1⟩ := zq1 c10
   clear c10
   (first | rw [c10b0] | (simp only [i64_w, i32_w]; rw [c10b0]) | skip)
   have H' := Aside0.mk H
   clear H
   have hnb11 := NB378_379.out
   have hnc11 := NB379_378.out
   obtain ⟨hcz12_0, hcz12_1, hcz12_2, hcz12_3⟩ := zc4 BK378.out
   obtain ⟨hfz12_0, hfz12_1, hfz12_2, hfz12_3⟩ := zz4 BK378.out
   go_wp2
   go_meet
   case rel => exact ⟨_, (!a0_0), (by first | rfl | (simp; done) | (simp [*]; done) | (simp only [i64_w]; done)), H', ⟨by first | omega | exact Nat.le_refl _⟩, ⟨by (with_reducible repeat (first | refine blk_drewN ?_ _ | refine blk_drew ?_ | refine blk_alloc ?_ _)); exact BK378.out⟩, ⟨by (with_reducible repeat (first | refine blk_drewN ?_ _ | refine blk_drew ?_ | refine blk_alloc ?_ _)); exact BK379.out⟩, ⟨by exact zh2_ HB.out GE378.out GE379.out⟩⟩
  ·rw [if_neg c10] at H
   obtain ⟨c10b0, c10b1⟩ := zq0 c10
   (first | rw [c10b0] | (simp only [i64_w, i32_w]; rw [c10b0]) | skip)
   have H' := Aside0.mk H
   clear H
   go_wp2
   go_meet
   case rel => exact ⟨_, (false), (by first | rfl | (simp; done) | (simp [*]; done) | (simp only [i64_w]; done)), H', ⟨by first | omega | exact Nat.le_refl _⟩, ⟨by (with_reducible repeat (first | refine blk_drewN ?_ _ | refine blk_drew ?_ | refine blk_alloc ?_ _)); exact BK378.out⟩, ⟨by (with_reducible repeat (first | refine blk_drewN ?_ _ | refine blk_drew ?_ | refine blk_alloc ?_ _)); exact BK379.out⟩, ⟨by exact zh2_ HB.out GE378.out GE379.out⟩⟩
 case rest =>
  clear HC4
  try clear c1
  try clear p2
  try clear c3
  try clear c7
  try clear c10
  try clear c10b0
  try clear c10b1
  try clear c11
  try clear hcz12_0
  try clear hcz12_1
  try clear hcz12_2
  try clear hcz12_3
  try clear hcz8_0
  try clear hcz8_1
  try clear hcz8_2
  try clear hcz8_3
  try clear hfz12_0
  try clear hfz12_1
  try clear hfz12_2
  try clear hfz12_3
  try clear hfz8_0
  try clear hfz8_1
  try clear hfz8_2
  try clear hfz8_3
  (try clear BK378)
  (try clear BK379)
  obtain ⟨kq, x19_3, rfl, HA, HJ3, BK378, BK379, HB⟩ := hcut
  cases kq with
  | zero => exact absurd HA.out (by simp [ladingref06_Cut.j0])
  | succ kj3 =>
   have H := HA.out
   clear HA
   simp only [ladingref06_Cut.j0] at H
   have HC13 := Aside0.mk H
   clear H
   go_upto_if 19 with (fail)
   go_cut [7] (fun v7 wc => ∃ (kq : Nat) (x7_12 : Int), v7 = .int .i64 x7_12 ∧ Aside0 (ladingref06_Cut.j1 kq l1 x7_12 a0_0 l0_1 l0_2 l0_3 = some (r1, r2, r3, r4, r5, r6)) ∧ Aside0 (kq ≤ kj3) ∧ Aside0 (wc.heap[gb378]? = some (.cells #[.bool a0_0, (.slice A0_1 l0_1.length c0_1), (.slice A0_2 l0_2.length c0_2), (.slice A0_3 l0_3.length c0_3)] 26 (0, 0))) ∧ Aside0 (wc.heap[gb379]? = some (.cells #[.bool false, (.slice none 0 0), (.slice none 0 0), (.slice none 0 0)] 26 (0, 0))) ∧ Aside0 (Below w.heap.size w wc))
   case first =>
    have H := HC13.out
    clear HC13
    by_cases c14 : x19_3 = true
    ·subst c14
     replace H := (if_pos (rfl : true = true)).symm.trans H
     have H' := Aside0.mk H
     clear H
     go_wp2
     go_meet
     case rel => exact ⟨_, (15), (by first | rfl | (simp; done) | (simp [*]; done) | (simp only [i64_w]; done)), H', ⟨by have := HJ3.out; first | omega | exact Nat.le_refl _⟩, ⟨by (with_reducible repeat (first | refine blk_drewN ?_ _ | refine blk_drew ?_ | refine blk_alloc ?_ _)); exact BK378.out⟩, ⟨by (with_reducible repeat (first | refine blk_drewN ?_ _ | refine blk_drew ?_ | refine blk_alloc ?_ _)); exact BK379.out⟩, ⟨by exact zh2_ HB.out GE378.out GE379.out⟩⟩
    ·replace c14 := Bool.eq_false_iff.mpr c14
     subst c14
     replace H := (if_neg (show ¬ (false = true) by decide)).symm.trans H
     have H' := Aside0.mk H
     clear H
     go_wp2
     go_meet
     case rel => exact ⟨_, (t380), (by first | rfl | (simp; done) | (simp [*]; done) | (simp only [i64_w]; done)), H', ⟨by have := HJ3.out; first | omega | exact Nat.le_refl _⟩, ⟨by (with_reducible repeat (first | refine blk_drewN ?_ _ | refine blk_drew ?_ | refine blk_alloc ?_ _)); exact BK378.out⟩, ⟨by (with_reducible repeat (first | refine blk_drewN ?_ _ | refine blk_drew ?_ | refine blk_alloc ?_ _)); exact BK379.out⟩, ⟨by exact zh2_ HB.out GE378.out GE379.out⟩⟩
   case rest =>
    clear HC13
    try clear c1
    try clear p2
    try clear c3
    try clear c7
    try clear c10
    try clear c10b0
    try clear c10b1
    try clear c11
    try clear c14
    try clear hcz12_0
    try clear hcz12_1
    try clear hcz12_2
    try clear hcz12_3
    try clear hcz8_0
    try clear hcz8_1
    try clear hcz8_2
    try clear hcz8_3
    try clear hfz12_0
    try clear hfz12_1
    try clear hfz12_2
    try clear hfz12_3
    try clear hfz8_0
    try clear hfz8_1
    try clear hfz8_2
    try clear hfz8_3
    try clear p2
    (try clear BK378)
    (try clear BK379)
    obtain ⟨kq, x7_12, rfl, HA, HJ12, BK378, BK379, HB⟩ := hcut
    cases kq with
    | zero => exact absurd HA.out (by simp [ladingref06_Cut.j1])
    | succ kj12 =>
     have H := HA.out
     clear HA
     simp only [ladingref06_Cut.j1] at H
     by_cases c15 : x7_12 = 0
     ·rw [if_pos c15] at H
      obtain ⟨c15b0, c15b1⟩ := zq1 c15
      clear c15
      obtain ⟨⟨t381, t382, t385, t388⟩, A16, H⟩ := zm H
      (try dsimp only at H)
      obtain ⟨⟨t392, t393⟩, A17, H⟩ := zm H
      (try dsimp only at H)
      by_cases c18 : t393 = true
      ·subst c18
       replace H := (if_pos (rfl : true = true)).symm.trans H
       obtain ⟨t394, A19, H⟩ := zm H
       (try dsimp only at H)
       obtain ⟨t397, A20, H⟩ := zm H
       (try dsimp only at H)
       simp only [Option.some.injEq, Prod.mk.injEq] at H
       obtain ⟨rfl, rfl, rfl, rfl, rfl, rfl⟩ := H
       have hnb21 := NB378_379.out
       have hnc21 := NB379_378.out
       obtain ⟨hcz22_0, hcz22_1, hcz22_2, hcz22_3⟩ := zc4 BK378.out
       obtain ⟨hfz22_0, hfz22_1, hfz22_2, hfz22_3⟩ := zz4 BK378.out
       go_wp2_with (first | ((with_reducible refine gate_callee (f := 12) rfl ?_); refine goesL_ (some 25) rfl rfl Try.func12 (by kernel_rfl) rfl #[.agg #[.bool a0_0, .slice A0_1 l0_1.length c0_1, .slice A0_2 l0_2.length c0_2, .slice A0_3 l0_3.length c0_3]] rfl zl_ ?_; (with_reducible refine (ladingref06_Copy.calls kj12 a0_0 _ _ l0_1 _ _ l0_2 _ _ l0_3 t381 t382 t385 t388 _ ?side1 ?side2 ?side3 ?side4 ?side5 ?side6 A16.out).mono ?_); (case side1 => exact zc_ (Kd.C_below HR0_1.out HB.out)); (case side2 => exact HC0_1.out); (case side3 => exact zc_ (Kd.C_below HR0_2.out HB.out)); (case side4 => exact HC0_2.out); (case side5 => exact zc_ (Kd.C_below HR0_3.out HB.out)); (case side6 => exact HC0_3.out); rintro e w23 ⟨v383, v386, v389, rfl, ho0, ho1, ho2, hb⟩; refine ⟨_, rfl, ?_⟩; have HO384 := Aside0.mk (Kd.N_lower (Kd.N_mono (ok' := fun k_ => (w.heap.size ≤ k_) ∧ some k_ ≠ (v386 : Value).ownBlock ∧ some k_ ≠ (v389 : Value).ownBlock ∧ k_ ≠ gb378 ∧ k_ ≠ gb379) (Kd.S_N (Kd.S_bound (Kd.S_apart' ho0 (Kd.R_typed ho2) (by decide)))) (fun k_ hk_ => ⟨(Nat.le_trans (below_size (zh2_ HB.out GE378.out GE379.out)) hk_.2.1), hk_.1.1, hk_.1.2, (Kd.freshB (zb_ BK378.out) k_ hk_.2.1), (Kd.freshB (zb_ BK379.out) k_ hk_.2.1)⟩)) (below_size (zh2_ HB.out GE378.out GE379.out))); have HO387 := Aside0.mk (Kd.N_lower (Kd.N_mono (ok' := fun k_ => (w.heap.size ≤ k_) ∧ some k_ ≠ (v383 : Value).ownBlock ∧ some k_ ≠ (v389 : Value).ownBlock ∧ k_ ≠ gb378 ∧ k_ ≠ gb379) (Kd.S_N (Kd.S_bound (Kd.S_apart' ho1 (Kd.R_typed ho2) (by decide)))) (fun k_ hk_ => ⟨(Nat.le_trans (below_size (zh2_ HB.out GE378.out GE379.out)) hk_.2.1), hk_.1.1, hk_.1.2, (Kd.freshB (zb_ BK378.out) k_ hk_.2.1), (Kd.freshB (zb_ BK379.out) k_ hk_.2.1)⟩)) (below_size (zh2_ HB.out GE378.out GE379.out))); have HO390 := Aside0.mk (Kd.R_lower (Kd.R_newM (M := fun k_ => (w.heap.size ≤ k_)) ho2 (below_size (zh2_ HB.out GE378.out GE379.out)) (fun k_ h_ => h_)) (below_size (zh2_ HB.out GE378.out GE379.out))); replace BK378 := Aside0.mk (blk_below (zb_ BK378.out) hb); replace BK379 := Aside0.mk (blk_below (zb_ BK379.out) hb); replace HB := Aside0.mk (below_step (zh2_ HB.out GE378.out GE379.out) hb); (try clear hb); (try clear hk); (try clear ho0); (try clear ho1); (try clear ho2)) | ((with_reducible refine gate_dst (N := 8) rfl ?_); refine box_event ?hg (N := 8) ?hd (cs := #[.bool false, .slice none 0 0, .slice none 0 0, .slice none 0 0]) (t := 26) ?hr ?_; (case hd => rfl); (case hg => rfl); (case hr => first | (go_simp; done) | (go_simp; rfl)); intro gb391 hg w24 hbox hb; replace HO384 := Aside0.mk (Kd.N_below (Kd.N_elderB (zN_ HO384.out) gb391 (Nat.le_of_eq hg.symm)) hb); replace HO387 := Aside0.mk (Kd.N_below (Kd.N_elderB (zN_ HO387.out) gb391 (Nat.le_of_eq hg.symm)) hb); replace HO390 := Aside0.mk (Kd.R_below (zR_ HO390.out) hb); have BK391 := Aside0.mk (hbox); have GW391 := Aside0.mk ((by rw [hg]; exact (below_size (zh2_ HB.out GE378.out GE379.out)) : w.heap.size ≤ gb391)); have GE391 := Aside0.mk ((by rw [hg]; exact (below_size (zh2_ HB.out GE378.out GE379.out)) : w.heap.size ≤ gb391)); replace HB := Aside0.mk (below_step (zh2_ HB.out GE378.out GE379.out) hb); have NB378_391 := Aside0.mk ((by rw [hg]; exact Nat.ne_of_lt (blk_lt (zb_ BK378.out)) : gb378 ≠ gb391)); have NB391_378 := Aside0.mk ((by rw [hg]; exact Nat.ne_of_gt (blk_lt (zb_ BK378.out)) : gb391 ≠ gb378)); replace BK378 := Aside0.mk (blk_below (zb_ BK378.out) hb); have NB379_391 := Aside0.mk ((by rw [hg]; exact Nat.ne_of_lt (blk_lt (zb_ BK379.out)) : gb379 ≠ gb391)); have NB391_379 := Aside0.mk ((by rw [hg]; exact Nat.ne_of_gt (blk_lt (zb_ BK379.out)) : gb391 ≠ gb379)); replace BK379 := Aside0.mk (blk_below (zb_ BK379.out) hb); clear hb hbox hg; have hnb25 := NB391_378.out; have hnc25 := NB378_391.out; have hnb26 := NB391_379.out; have hnc26 := NB379_391.out; obtain ⟨hcz27_0, hcz27_1, hcz27_2, hcz27_3⟩ := zc4 BK391.out; obtain ⟨hfz27_0, hfz27_1, hfz27_2, hfz27_3⟩ := zz4 BK391.out; obtain ⟨Ao28, co28, eo28⟩ := Kd.N_slice HO384.out; subst eo28; obtain ⟨Ao29, co29, eo29⟩ := Kd.N_slice HO387.out; subst eo29; obtain ⟨Ao30, co30, eo30⟩ := Kd.R_slice HO390.out; subst eo30) | ((with_reducible refine gate_callee (f := 32) rfl ?_); refine goesL_ (some 29) rfl rfl Try.func32 (by kernel_rfl) rfl #[.agg #[.bool t381, .slice Ao28 t382.length co28, .slice Ao29 t385.length co29, .slice Ao30 t388.length co30], .slice A1 l1.length c1] rfl zl_ ?_; (with_reducible refine (ladingref06_below.calls kj12 t381 _ _ t382 _ _ t385 _ _ t388 _ _ l1 t392 true _ ?side1 ?side2 ?side3 ?side4 ?side5 ?side6 ?side7 ?side8 A17.out).mono ?_); (case side1 => refine (Kd.N_reads' (e := 27) (base := w.heap.size) (ok := fun k_ => (((w.heap.size ≤ k_) ∧ (some k_ ≠ (.slice Ao29 t385.length co29 : Value).ownBlock ∧ (some k_ ≠ (.slice Ao30 t388.length co30 : Value).ownBlock ∧ (k_ ≠ gb378 ∧ k_ ≠ gb379)))) ∧ k_ ≠ gb391)) (n := t382.length) (c := co28) ?_).2.2; exact (zN4 HO384.out (fun _ hk => hk.2))); (case side2 => exact (Kd.N_reads' HO384.out).2.1); (case side3 => refine (Kd.N_reads' (e := 27) (base := w.heap.size) (ok := fun k_ => (((w.heap.size ≤ k_) ∧ (some k_ ≠ (.slice Ao28 t382.length co28 : Value).ownBlock ∧ (some k_ ≠ (.slice Ao30 t388.length co30 : Value).ownBlock ∧ (k_ ≠ gb378 ∧ k_ ≠ gb379)))) ∧ k_ ≠ gb391)) (n := t385.length) (c := co29) ?_).2.2; exact (zN4 HO387.out (fun _ hk => hk.2))); (case side4 => exact (Kd.N_reads' HO387.out).2.1); (case side5 => exact (Kd.R_reads' (n := t388.length) (c := co30) (zr4_ HO390.out BK391.out)).2.2); (case side6 => exact (Kd.R_reads' HO390.out).2.1); (case side7 => exact Kd.C_below HR1.out (zh3_ HB.out GE378.out GE379.out GE391.out)); (case side8 => exact HC1.out); rintro e w31 ⟨rfl, hb⟩; refine ⟨_, rfl, ?_⟩; replace HO384 := Aside0.mk (Kd.N_below (zN4 HO384.out (fun _ hk => hk.2)) hb); replace HO387 := Aside0.mk (Kd.N_below (zN4 HO387.out (fun _ hk => hk.2)) hb); replace HO390 := Aside0.mk (Kd.R_below (zr4_ HO390.out BK391.out) hb); replace BK378 := Aside0.mk (blk_below (g := gb378) (o := .cells #[.bool a0_0, .slice A0_1 l0_1.length c0_1, .slice A0_2 l0_2.length c0_2, .slice A0_3 l0_3.length c0_3] 26 (0, 0)) (zf_ NB378_391.out BK378.out) hb); replace BK379 := Aside0.mk (blk_below (g := gb379) (o := .cells #[.bool false, .slice none 0 0, .slice none 0 0, .slice none 0 0] 26 (0, 0)) (zf_ NB379_391.out BK379.out) hb); replace BK391 := Aside0.mk (blk_below (g := gb391) (o := .cells #[.bool t381, .slice Ao28 t382.length co28, .slice Ao29 t385.length co29, .slice Ao30 t388.length co30] 26 (0, 0)) (zp_ BK391.out) hb); replace HB := Aside0.mk (below_step (zh3_ HB.out GE378.out GE379.out GE391.out) hb); (try clear hb); (try clear hk); obtain ⟨hcz32_0, hcz32_1, hcz32_2, hcz32_3⟩ := zc4 BK391.out; obtain ⟨hfz32_0, hfz32_1, hfz32_2, hfz32_3⟩ := zz4 BK391.out) | ((with_reducible refine gate_callee (f := 37) rfl ?_); refine goesL_ (some 36) rfl rfl Try.func37 (by kernel_rfl) rfl #[.slice Ao28 t382.length co28, .int .i64 t392] rfl zl_ ?_; (with_reducible refine (ladingref06_without.calls (fun k_ => (((w.heap.size ≤ k_) ∧ (some k_ ≠ (.slice Ao29 t385.length co29 : Value).ownBlock ∧ (some k_ ≠ (.slice Ao30 t388.length co30 : Value).ownBlock ∧ (k_ ≠ gb378 ∧ k_ ≠ gb379)))) ∧ k_ ≠ gb391)) _ _ t382 t392 t394 _ ?side1 A19.out).mono ?_); (case side1 => exact Kd.N_V (HO384.out)); rintro e w33 ⟨v395, rfl, ho0, hb⟩; refine ⟨_, rfl, ?_⟩; replace HO384 := Aside0.mk (Kd.N_elder' (zN_ HO384.out) (Kd.N_base ho0) hb); have HO396 := Aside0.mk (Kd.N_lower (Kd.N_mono (ok' := fun k_ => (w.heap.size ≤ k_) ∧ some k_ ≠ (.slice Ao29 t385.length co29 : Value).ownBlock ∧ some k_ ≠ (.slice Ao30 t388.length co30 : Value).ownBlock ∧ k_ ≠ gb378 ∧ k_ ≠ gb379 ∧ k_ ≠ gb391) ho0 (fun k_ hk_ => ⟨Or.elim hk_ (fun hs_ => hs_.1.1) (fun hn_ => (Nat.le_trans (below_size (zh3_ HB.out GE378.out GE379.out GE391.out)) hn_)), Or.elim hk_ (fun hs_ => hs_.1.2.1) (fun hn_ => (Kd.fresh' (Kd.N_lt (zN_ HO387.out)) k_ hn_)), Or.elim hk_ (fun hs_ => hs_.1.2.2.1) (fun hn_ => (Kd.fresh' (Kd.R_lt (zR_ HO390.out)) k_ hn_)), Or.elim hk_ (fun hs_ => hs_.1.2.2.2.1) (fun hn_ => (Kd.freshB (zb_ BK378.out) k_ hn_)), Or.elim hk_ (fun hs_ => hs_.1.2.2.2.2) (fun hn_ => (Kd.freshB (zb_ BK379.out) k_ hn_)), Or.elim hk_ (fun hs_ => hs_.2) (fun hn_ => (Kd.freshB (zb_ BK391.out) k_ hn_))⟩)) (below_size (zh3_ HB.out GE378.out GE379.out GE391.out))); replace HO387 := Aside0.mk (Kd.N_elder' (zN_ HO387.out) (Kd.N_base ho0) hb); replace HO390 := Aside0.mk (Kd.R_below (zR_ HO390.out) hb); replace BK378 := Aside0.mk (blk_below (zb_ BK378.out) hb); replace BK379 := Aside0.mk (blk_below (zb_ BK379.out) hb); replace BK391 := Aside0.mk (blk_below (zb_ BK391.out) hb); replace HB := Aside0.mk (below_step (zh3_ HB.out GE378.out GE379.out GE391.out) hb); (try clear hb); (try clear hk); (try clear ho0); obtain ⟨Ao34, co34, eo34⟩ := Kd.N_slice HO396.out; subst eo34; obtain ⟨hcz35_0, hcz35_1, hcz35_2, hcz35_3⟩ := zc4 BK391.out; obtain ⟨hfz35_0, hfz35_1, hfz35_2, hfz35_3⟩ := zz4 BK391.out) | ((with_reducible refine gate_store (t := 22) (p := 37) rfl ?_); refine store_event (t := 22) (p := 37) (v := ?vo_w36) (w1 := (w33.setCell ⟨gb391, 1, none⟩ (.slice Ao34 t394.length co34))) ?hg ?ho ?hn ?hr ?_; (case ho => rfl); (case hg => rfl); (case hn => rfl); (case hr => first | (go_simp; done) | (go_simp; rfl)); intro w36 hw; have n0_ : Aside0 (Kd.N (Kd.slice 5 (Kd.int .u8)) 27 w36 w.heap.size (fun k_ => (w.heap.size ≤ k_) ∧ some k_ ≠ (.slice Ao29 t385.length co29 : Value).ownBlock ∧ some k_ ≠ (.slice Ao30 t388.length co30 : Value).ownBlock ∧ some k_ ≠ (.slice Ao34 t394.length co34 : Value).ownBlock ∧ k_ ≠ gb378 ∧ k_ ≠ gb379 ∧ k_ ≠ gb391) (.slice Ao28 t382.length co28) t382) := ⟨(by rw [hw]; exact (by (with_reducible repeat (first | apply Kd.N_alloc | apply Kd.N_drewN | apply Kd.N_drew)); exact Kd.N_mono (Kd.N_far (p := ⟨gb391, 1, none⟩) (Kd.N_mono HO384.out (fun k_ hk => (⟨hk, hk.1.2⟩ : _ ∧ k_ ≠ gb391))) (fun _ hk => hk.2) (.slice Ao34 t394.length co34)) (fun _ hk => ⟨hk.1.1.1.1, ⟨hk.1.1.1.2.1, ⟨hk.1.1.1.2.2.1, ⟨hk.1.2, ⟨hk.1.1.1.2.2.2.1, ⟨hk.1.1.1.2.2.2.2, hk.1.1.2⟩⟩⟩⟩⟩⟩)))⟩; have n1_ : Aside0 (Kd.N (Kd.slice 5 (Kd.int .u8)) 27 w36 w.heap.size (fun k_ => (w.heap.size ≤ k_) ∧ some k_ ≠ (.slice Ao28 t382.length co28 : Value).ownBlock ∧ some k_ ≠ (.slice Ao30 t388.length co30 : Value).ownBlock ∧ some k_ ≠ (.slice Ao34 t394.length co34 : Value).ownBlock ∧ k_ ≠ gb378 ∧ k_ ≠ gb379 ∧ k_ ≠ gb391) (.slice Ao29 t385.length co29) t385) := ⟨(by rw [hw]; exact (by (with_reducible repeat (first | apply Kd.N_alloc | apply Kd.N_drewN | apply Kd.N_drew)); exact Kd.N_mono (Kd.N_far (p := ⟨gb391, 1, none⟩) (Kd.N_mono HO387.out (fun k_ hk => (⟨hk, hk.1.2⟩ : _ ∧ k_ ≠ gb391))) (fun _ hk => hk.2) (.slice Ao34 t394.length co34)) (fun _ hk => ⟨hk.1.1.1.1, ⟨hk.1.1.1.2.1, ⟨hk.1.1.1.2.2.1, ⟨hk.1.2, ⟨hk.1.1.1.2.2.2.1, ⟨hk.1.1.1.2.2.2.2, hk.1.1.2⟩⟩⟩⟩⟩⟩)))⟩; have n2_ : Aside0 (Kd.R (Kd.int .i64) 3 w36 w.heap.size (fun k_ => (w.heap.size ≤ k_)) (.slice Ao30 t388.length co30) t388) := ⟨(by rw [hw]; exact (by (with_reducible repeat (first | apply Kd.R_alloc | apply Kd.R_drewN | apply Kd.R_drew)); exact Kd.R_mono (Kd.R_far (p := ⟨gb391, 1, none⟩) (Kd.R_types HO390.out BK391.out (by decide)) (fun _ hk => hk.2) (.slice Ao34 t394.length co34)) (fun _ hk => hk.1.1)))⟩; have n3_ : Aside0 (Kd.N (Kd.slice 5 (Kd.int .u8)) 27 w36 w.heap.size (fun k_ => (w.heap.size ≤ k_) ∧ some k_ ≠ (.slice Ao29 t385.length co29 : Value).ownBlock ∧ some k_ ≠ (.slice Ao30 t388.length co30 : Value).ownBlock ∧ k_ ≠ gb378 ∧ k_ ≠ gb379 ∧ k_ ≠ gb391) (.slice Ao34 t394.length co34) t394) := ⟨(by rw [hw]; exact (by (with_reducible repeat (first | apply Kd.N_alloc | apply Kd.N_drewN | apply Kd.N_drew)); exact Kd.N_mono (Kd.N_far (p := ⟨gb391, 1, none⟩) (Kd.N_mono HO396.out (fun k_ hk => (⟨hk, hk.2.2.2.2.2⟩ : _ ∧ k_ ≠ gb391))) (fun _ hk => hk.2) (.slice Ao34 t394.length co34)) (fun _ hk => ⟨hk.1.1, ⟨hk.1.2.1, ⟨hk.1.2.2.1, ⟨hk.1.2.2.2.1, ⟨hk.1.2.2.2.2.1, hk.1.2.2.2.2.2⟩⟩⟩⟩⟩)))⟩; have n4_ : Aside0 (w36.heap[gb378]? = some (.cells #[.bool a0_0, .slice A0_1 l0_1.length c0_1, .slice A0_2 l0_2.length c0_2, .slice A0_3 l0_3.length c0_3] 26 (0, 0))) := ⟨(by rw [hw]; exact (zf_ NB378_391.out BK378.out))⟩; have n5_ : Aside0 (w36.heap[gb379]? = some (.cells #[.bool false, .slice none 0 0, .slice none 0 0, .slice none 0 0] 26 (0, 0))) := ⟨(by rw [hw]; exact (zf_ NB379_391.out BK379.out))⟩; have n6_ : Aside0 (w36.heap[gb391]? = some (.cells #[.bool t381, .slice Ao34 t394.length co34, .slice Ao29 t385.length co29, .slice Ao30 t388.length co30] 26 (0, 0))) := ⟨(by rw [hw]; exact (by (with_reducible repeat (first | refine blk_drewN ?_ _ | refine blk_drew ?_ | refine blk_alloc ?_ _)); refine blk_put (cs := #[.bool t381, .slice Ao28 t382.length co28, .slice Ao29 t385.length co29, .slice Ao30 t388.length co30]) ?_ 1 _ (by first | rfl | (simp only [List.length_drop, List.length_take]; rfl)); (with_reducible repeat (first | refine blk_drewN ?_ _ | refine blk_drew ?_ | refine blk_alloc ?_ _)); exact BK391.out))⟩; have n7_ : Aside0 (Below w.heap.size w w36) := ⟨(by rw [hw]; exact (zh3_ HB.out GE378.out GE379.out GE391.out))⟩; clear hw HO384 HO387 HO390; clear HO396 BK378 BK379 BK391; clear HB; have HO384 := n0_; have HO387 := n1_; have HO390 := n2_; have HO396 := n3_; have BK378 := n4_; have BK379 := n5_; have BK391 := n6_; have HB := n7_; clear n0_ n1_ n2_ n3_ n4_ n5_ n6_ n7_; obtain ⟨hcz37_0, hcz37_1, hcz37_2, hcz37_3⟩ := zc4 BK391.out; obtain ⟨hfz37_0, hfz37_1, hfz37_2, hfz37_3⟩ := zz4 BK391.out) | ((with_reducible refine gate_callee (f := 37) rfl ?_); refine goesL_ (some 41) rfl rfl Try.func37 (by kernel_rfl) rfl #[.slice Ao29 t385.length co29, .int .i64 t392] rfl zl_ ?_; (with_reducible refine (ladingref06_without.calls (fun k_ => ((w.heap.size ≤ k_) ∧ (some k_ ≠ (.slice Ao28 t382.length co28 : Value).ownBlock ∧ (some k_ ≠ (.slice Ao30 t388.length co30 : Value).ownBlock ∧ (some k_ ≠ (.slice Ao34 t394.length co34 : Value).ownBlock ∧ (k_ ≠ gb378 ∧ (k_ ≠ gb379 ∧ k_ ≠ gb391))))))) _ _ t385 t392 t397 _ ?side1 A20.out).mono ?_); (case side1 => exact Kd.N_V (HO387.out)); rintro e w38 ⟨v398, rfl, ho0, hb⟩; refine ⟨_, rfl, ?_⟩; replace HO387 := Aside0.mk (Kd.N_elder' (zN_ HO387.out) (Kd.N_base ho0) hb); have HO399 := Aside0.mk (Kd.N_lower (Kd.N_mono (ok' := fun k_ => (w.heap.size ≤ k_) ∧ some k_ ≠ (.slice Ao28 t382.length co28 : Value).ownBlock ∧ some k_ ≠ (.slice Ao30 t388.length co30 : Value).ownBlock ∧ some k_ ≠ (.slice Ao34 t394.length co34 : Value).ownBlock ∧ k_ ≠ gb378 ∧ k_ ≠ gb379 ∧ k_ ≠ gb391) ho0 (fun k_ hk_ => ⟨Or.elim hk_ (fun hs_ => hs_.1) (fun hn_ => (Nat.le_trans (below_size (zh3_ HB.out GE378.out GE379.out GE391.out)) hn_)), Or.elim hk_ (fun hs_ => hs_.2.1) (fun hn_ => (Kd.fresh' (Kd.N_lt (zN_ HO384.out)) k_ hn_)), Or.elim hk_ (fun hs_ => hs_.2.2.1) (fun hn_ => (Kd.fresh' (Kd.R_lt (zR_ HO390.out)) k_ hn_)), Or.elim hk_ (fun hs_ => hs_.2.2.2.1) (fun hn_ => (Kd.fresh' (Kd.N_lt (zN_ HO396.out)) k_ hn_)), Or.elim hk_ (fun hs_ => hs_.2.2.2.2.1) (fun hn_ => (Kd.freshB (zb_ BK378.out) k_ hn_)), Or.elim hk_ (fun hs_ => hs_.2.2.2.2.2.1) (fun hn_ => (Kd.freshB (zb_ BK379.out) k_ hn_)), Or.elim hk_ (fun hs_ => hs_.2.2.2.2.2.2) (fun hn_ => (Kd.freshB (zb_ BK391.out) k_ hn_))⟩)) (below_size (zh3_ HB.out GE378.out GE379.out GE391.out))); replace HO384 := Aside0.mk (Kd.N_elder' (zN_ HO384.out) (Kd.N_base ho0) hb); replace HO390 := Aside0.mk (Kd.R_below (zR_ HO390.out) hb); replace HO396 := Aside0.mk (Kd.N_elder' (zN_ HO396.out) (Kd.N_base ho0) hb); replace BK378 := Aside0.mk (blk_below (zb_ BK378.out) hb); replace BK379 := Aside0.mk (blk_below (zb_ BK379.out) hb); replace BK391 := Aside0.mk (blk_below (zb_ BK391.out) hb); replace HB := Aside0.mk (below_step (zh3_ HB.out GE378.out GE379.out GE391.out) hb); (try clear hb); (try clear hk); (try clear ho0); obtain ⟨Ao39, co39, eo39⟩ := Kd.N_slice HO399.out; subst eo39; obtain ⟨hcz40_0, hcz40_1, hcz40_2, hcz40_3⟩ := zc4 BK391.out; obtain ⟨hfz40_0, hfz40_1, hfz40_2, hfz40_3⟩ := zz4 BK391.out; obtain ⟨hcz41_0, hcz41_1, hcz41_2, hcz41_3⟩ := zc4 BK379.out; obtain ⟨hfz41_0, hfz41_1, hfz41_2, hfz41_3⟩ := zz4 BK379.out))
       refine bodyPost_ret (results_ctt rfl _ _ gb379 26 #[.bool t381, .slice Ao34 t394.length co34, .slice Ao39 t397.length co39, .slice Ao30 t388.length co30] (0, 0) _ rfl (by (with_reducible repeat (first | refine blk_drewN ?_ _ | refine blk_drew ?_ | refine blk_alloc ?_ _)); refine blk_put (cs := #[.bool t381, .slice Ao34 t394.length co34, .slice Ao39 t397.length co39, .slice none 0 0]) ?_ 3 _ (by first | rfl | (simp only [List.length_drop, List.length_take]; rfl)); (with_reducible repeat (first | refine blk_drewN ?_ _ | refine blk_drew ?_ | refine blk_alloc ?_ _)); refine blk_put (cs := #[.bool t381, .slice Ao34 t394.length co34, .slice none 0 0, .slice none 0 0]) ?_ 2 _ (by first | rfl | (simp only [List.length_drop, List.length_take]; rfl)); (with_reducible repeat (first | refine blk_drewN ?_ _ | refine blk_drew ?_ | refine blk_alloc ?_ _)); refine blk_put (cs := #[.bool t381, .slice none 0 0, .slice none 0 0, .slice none 0 0]) ?_ 1 _ (by first | rfl | (simp only [List.length_drop, List.length_take]; rfl)); (with_reducible repeat (first | refine blk_drewN ?_ _ | refine blk_drew ?_ | refine blk_alloc ?_ _)); refine blk_put (cs := #[.bool false, .slice none 0 0, .slice none 0 0, .slice none 0 0]) ?_ 0 _ (by first | rfl | (simp only [List.length_drop, List.length_take]; rfl)); (with_reducible repeat (first | refine blk_drewN ?_ _ | refine blk_drew ?_ | refine blk_alloc ?_ _)); refine blk_far ?_ NB379_391.out _; (with_reducible repeat (first | refine blk_drewN ?_ _ | refine blk_drew ?_ | refine blk_alloc ?_ _)); exact BK379.out) Try.underlying26 rfl (by kernel_rfl)) rfl ?_
       exact ⟨_, _, _, by first | rfl | (simp [errW_none, errW_some] <;> rfl) | (simp [*, errW_none, errW_some] <;> rfl), by (with_reducible repeat (first | apply Kd.N_alloc | apply Kd.N_drewN | apply Kd.N_drew)); exact Kd.N_mono (Kd.N_far (p := ⟨gb379, 3, none⟩) (Kd.N_far (p := ⟨gb379, 2, none⟩) (Kd.N_far (p := ⟨gb379, 1, none⟩) (Kd.N_far (p := ⟨gb379, 0, none⟩) (Kd.N_far (p := ⟨gb391, 2, none⟩) (Kd.N_mono (Kd.N_mono HO396.out (fun k_ hk => (⟨hk, hk.1.2.2.2.2.2⟩ : _ ∧ k_ ≠ gb391))) (fun k_ hk => (⟨hk, hk.1.1.2.2.2.2.1⟩ : _ ∧ k_ ≠ gb379))) (fun _ hk => hk.1.2) (.slice Ao39 t397.length co39)) (fun _ hk => hk.2) (.bool t381)) (fun _ hk => hk.2) (.slice Ao34 t394.length co34)) (fun _ hk => hk.2) (.slice Ao39 t397.length co39)) (fun _ hk => hk.2) (.slice Ao30 t388.length co30)) (fun _ hk => ⟨hk.1.1.1.1, ⟨hk.1.1.2, hk.1.1.1.2.2.1⟩⟩), by (with_reducible repeat (first | apply Kd.N_alloc | apply Kd.N_drewN | apply Kd.N_drew)); exact Kd.N_mono (Kd.N_far (p := ⟨gb379, 3, none⟩) (Kd.N_far (p := ⟨gb379, 2, none⟩) (Kd.N_far (p := ⟨gb379, 1, none⟩) (Kd.N_far (p := ⟨gb379, 0, none⟩) (Kd.N_far (p := ⟨gb391, 2, none⟩) (Kd.N_mono (Kd.N_mono HO399.out (fun k_ hk => (⟨hk, hk.2.2.2.2.2.2⟩ : _ ∧ k_ ≠ gb391))) (fun k_ hk => (⟨hk, hk.1.2.2.2.2.2.1⟩ : _ ∧ k_ ≠ gb379))) (fun _ hk => hk.1.2) (.slice Ao39 t397.length co39)) (fun _ hk => hk.2) (.bool t381)) (fun _ hk => hk.2) (.slice Ao34 t394.length co34)) (fun _ hk => hk.2) (.slice Ao39 t397.length co39)) (fun _ hk => hk.2) (.slice Ao30 t388.length co30)) (fun _ hk => ⟨hk.1.1.1, ⟨hk.1.1.2.2.2.1, hk.1.1.2.2.1⟩⟩), by (with_reducible repeat (first | apply Kd.R_alloc | apply Kd.R_drewN | apply Kd.R_drew)); exact Kd.R_mono (Kd.R_far (p := ⟨gb379, 3, none⟩) (Kd.R_far (p := ⟨gb379, 2, none⟩) (Kd.R_far (p := ⟨gb379, 1, none⟩) (Kd.R_far (p := ⟨gb379, 0, none⟩) (Kd.R_far (p := ⟨gb391, 2, none⟩) (Kd.R_types (Kd.R_types HO390.out BK391.out (by decide)) BK379.out (by decide)) (fun _ hk => hk.1.2) (.slice Ao39 t397.length co39)) (fun _ hk => hk.2) (.bool t381)) (fun _ hk => hk.2) (.slice Ao34 t394.length co34)) (fun _ hk => hk.2) (.slice Ao39 t397.length co39)) (fun _ hk => hk.2) (.slice Ao30 t388.length co30)) (fun _ hk => hk.1.1), by exact zh3_ HB.out GE378.out GE379.out GE391.out⟩
      ·replace c18 := Bool.eq_false_iff.mpr c18
       subst c18
       replace H := (if_neg (show ¬ (false = true) by decide)).symm.trans H
       simp only [Option.some.injEq, Prod.mk.injEq] at H
       obtain ⟨rfl, rfl, rfl, rfl, rfl, rfl⟩ := H
       have hnb42 := NB378_379.out
       have hnc42 := NB379_378.out
       obtain ⟨hcz43_0, hcz43_1, hcz43_2, hcz43_3⟩ := zc4 BK378.out
       obtain ⟨hfz43_0, hfz43_1, hfz43_2, hfz43_3⟩ := zz4 BK378.out
       go_wp2_with (first | ((with_reducible refine gate_callee (f := 12) rfl ?_); refine goesL_ (some 25) rfl rfl Try.func12 (by kernel_rfl) rfl #[.agg #[.bool a0_0, .slice A0_1 l0_1.length c0_1, .slice A0_2 l0_2.length c0_2, .slice A0_3 l0_3.length c0_3]] rfl zl_ ?_; (with_reducible refine (ladingref06_Copy.calls kj12 a0_0 _ _ l0_1 _ _ l0_2 _ _ l0_3 t381 t382 t385 t388 _ ?side1 ?side2 ?side3 ?side4 ?side5 ?side6 A16.out).mono ?_); (case side1 => exact zc_ (Kd.C_below HR0_1.out HB.out)); (case side2 => exact HC0_1.out); (case side3 => exact zc_ (Kd.C_below HR0_2.out HB.out)); (case side4 => exact HC0_2.out); (case side5 => exact zc_ (Kd.C_below HR0_3.out HB.out)); (case side6 => exact HC0_3.out); rintro e w44 ⟨v383, v386, v389, rfl, ho0, ho1, ho2, hb⟩; refine ⟨_, rfl, ?_⟩; have HO384 := Aside0.mk (Kd.N_lower (Kd.N_mono (ok' := fun k_ => (w.heap.size ≤ k_) ∧ some k_ ≠ (v386 : Value).ownBlock ∧ some k_ ≠ (v389 : Value).ownBlock ∧ k_ ≠ gb378 ∧ k_ ≠ gb379) (Kd.S_N (Kd.S_bound (Kd.S_apart' ho0 (Kd.R_typed ho2) (by decide)))) (fun k_ hk_ => ⟨(Nat.le_trans (below_size (zh2_ HB.out GE378.out GE379.out)) hk_.2.1), hk_.1.1, hk_.1.2, (Kd.freshB (zb_ BK378.out) k_ hk_.2.1), (Kd.freshB (zb_ BK379.out) k_ hk_.2.1)⟩)) (below_size (zh2_ HB.out GE378.out GE379.out))); have HO387 := Aside0.mk (Kd.N_lower (Kd.N_mono (ok' := fun k_ => (w.heap.size ≤ k_) ∧ some k_ ≠ (v383 : Value).ownBlock ∧ some k_ ≠ (v389 : Value).ownBlock ∧ k_ ≠ gb378 ∧ k_ ≠ gb379) (Kd.S_N (Kd.S_bound (Kd.S_apart' ho1 (Kd.R_typed ho2) (by decide)))) (fun k_ hk_ => ⟨(Nat.le_trans (below_size (zh2_ HB.out GE378.out GE379.out)) hk_.2.1), hk_.1.1, hk_.1.2, (Kd.freshB (zb_ BK378.out) k_ hk_.2.1), (Kd.freshB (zb_ BK379.out) k_ hk_.2.1)⟩)) (below_size (zh2_ HB.out GE378.out GE379.out))); have HO390 := Aside0.mk (Kd.R_lower (Kd.R_newM (M := fun k_ => (w.heap.size ≤ k_)) ho2 (below_size (zh2_ HB.out GE378.out GE379.out)) (fun k_ h_ => h_)) (below_size (zh2_ HB.out GE378.out GE379.out))); replace BK378 := Aside0.mk (blk_below (zb_ BK378.out) hb); replace BK379 := Aside0.mk (blk_below (zb_ BK379.out) hb); replace HB := Aside0.mk (below_step (zh2_ HB.out GE378.out GE379.out) hb); (try clear hb); (try clear hk); (try clear ho0); (try clear ho1); (try clear ho2)) | ((with_reducible refine gate_dst (N := 8) rfl ?_); refine box_event ?hg (N := 8) ?hd (cs := #[.bool false, .slice none 0 0, .slice none 0 0, .slice none 0 0]) (t := 26) ?hr ?_; (case hd => rfl); (case hg => rfl); (case hr => first | (go_simp; done) | (go_simp; rfl)); intro gb391 hg w45 hbox hb; replace HO384 := Aside0.mk (Kd.N_below (Kd.N_elderB (zN_ HO384.out) gb391 (Nat.le_of_eq hg.symm)) hb); replace HO387 := Aside0.mk (Kd.N_below (Kd.N_elderB (zN_ HO387.out) gb391 (Nat.le_of_eq hg.symm)) hb); replace HO390 := Aside0.mk (Kd.R_below (zR_ HO390.out) hb); have BK391 := Aside0.mk (hbox); have GW391 := Aside0.mk ((by rw [hg]; exact (below_size (zh2_ HB.out GE378.out GE379.out)) : w.heap.size ≤ gb391)); have GE391 := Aside0.mk ((by rw [hg]; exact (below_size (zh2_ HB.out GE378.out GE379.out)) : w.heap.size ≤ gb391)); replace HB := Aside0.mk (below_step (zh2_ HB.out GE378.out GE379.out) hb); have NB378_391 := Aside0.mk ((by rw [hg]; exact Nat.ne_of_lt (blk_lt (zb_ BK378.out)) : gb378 ≠ gb391)); have NB391_378 := Aside0.mk ((by rw [hg]; exact Nat.ne_of_gt (blk_lt (zb_ BK378.out)) : gb391 ≠ gb378)); replace BK378 := Aside0.mk (blk_below (zb_ BK378.out) hb); have NB379_391 := Aside0.mk ((by rw [hg]; exact Nat.ne_of_lt (blk_lt (zb_ BK379.out)) : gb379 ≠ gb391)); have NB391_379 := Aside0.mk ((by rw [hg]; exact Nat.ne_of_gt (blk_lt (zb_ BK379.out)) : gb391 ≠ gb379)); replace BK379 := Aside0.mk (blk_below (zb_ BK379.out) hb); clear hb hbox hg; have hnb46 := NB391_378.out; have hnc46 := NB378_391.out; have hnb47 := NB391_379.out; have hnc47 := NB379_391.out; obtain ⟨hcz48_0, hcz48_1, hcz48_2, hcz48_3⟩ := zc4 BK391.out; obtain ⟨hfz48_0, hfz48_1, hfz48_2, hfz48_3⟩ := zz4 BK391.out; obtain ⟨Ao49, co49, eo49⟩ := Kd.N_slice HO384.out; subst eo49; obtain ⟨Ao50, co50, eo50⟩ := Kd.N_slice HO387.out; subst eo50; obtain ⟨Ao51, co51, eo51⟩ := Kd.R_slice HO390.out; subst eo51) | ((with_reducible refine gate_callee (f := 32) rfl ?_); refine goesL_ (some 29) rfl rfl Try.func32 (by kernel_rfl) rfl #[.agg #[.bool t381, .slice Ao49 t382.length co49, .slice Ao50 t385.length co50, .slice Ao51 t388.length co51], .slice A1 l1.length c1] rfl zl_ ?_; (with_reducible refine (ladingref06_below.calls kj12 t381 _ _ t382 _ _ t385 _ _ t388 _ _ l1 t392 false _ ?side1 ?side2 ?side3 ?side4 ?side5 ?side6 ?side7 ?side8 A17.out).mono ?_); (case side1 => refine (Kd.N_reads' (e := 27) (base := w.heap.size) (ok := fun k_ => (((w.heap.size ≤ k_) ∧ (some k_ ≠ (.slice Ao50 t385.length co50 : Value).ownBlock ∧ (some k_ ≠ (.slice Ao51 t388.length co51 : Value).ownBlock ∧ (k_ ≠ gb378 ∧ k_ ≠ gb379)))) ∧ k_ ≠ gb391)) (n := t382.length) (c := co49) ?_).2.2; exact (zN4 HO384.out (fun _ hk => hk.2))); (case side2 => exact (Kd.N_reads' HO384.out).2.1); (case side3 => refine (Kd.N_reads' (e := 27) (base := w.heap.size) (ok := fun k_ => (((w.heap.size ≤ k_) ∧ (some k_ ≠ (.slice Ao49 t382.length co49 : Value).ownBlock ∧ (some k_ ≠ (.slice Ao51 t388.length co51 : Value).ownBlock ∧ (k_ ≠ gb378 ∧ k_ ≠ gb379)))) ∧ k_ ≠ gb391)) (n := t385.length) (c := co50) ?_).2.2; exact (zN4 HO387.out (fun _ hk => hk.2))); (case side4 => exact (Kd.N_reads' HO387.out).2.1); (case side5 => exact (Kd.R_reads' (n := t388.length) (c := co51) (zr4_ HO390.out BK391.out)).2.2); (case side6 => exact (Kd.R_reads' HO390.out).2.1); (case side7 => exact Kd.C_below HR1.out (zh3_ HB.out GE378.out GE379.out GE391.out)); (case side8 => exact HC1.out); rintro e w52 ⟨rfl, hb⟩; refine ⟨_, rfl, ?_⟩; replace HO384 := Aside0.mk (Kd.N_below (zN4 HO384.out (fun _ hk => hk.2)) hb); replace HO387 := Aside0.mk (Kd.N_below (zN4 HO387.out (fun _ hk => hk.2)) hb); replace HO390 := Aside0.mk (Kd.R_below (zr4_ HO390.out BK391.out) hb); replace BK378 := Aside0.mk (blk_below (g := gb378) (o := .cells #[.bool a0_0, .slice A0_1 l0_1.length c0_1, .slice A0_2 l0_2.length c0_2, .slice A0_3 l0_3.length c0_3] 26 (0, 0)) (zf_ NB378_391.out BK378.out) hb); replace BK379 := Aside0.mk (blk_below (g := gb379) (o := .cells #[.bool false, .slice none 0 0, .slice none 0 0, .slice none 0 0] 26 (0, 0)) (zf_ NB379_391.out BK379.out) hb); replace BK391 := Aside0.mk (blk_below (g := gb391) (o := .cells #[.bool t381, .slice Ao49 t382.length co49, .slice Ao50 t385.length co50, .slice Ao51 t388.length co51] 26 (0, 0)) (zp_ BK391.out) hb); replace HB := Aside0.mk (below_step (zh3_ HB.out GE378.out GE379.out GE391.out) hb); (try clear hb); (try clear hk); obtain ⟨hcz53_0, hcz53_1, hcz53_2, hcz53_3⟩ := zc4 BK391.out; obtain ⟨hfz53_0, hfz53_1, hfz53_2, hfz53_3⟩ := zz4 BK391.out; obtain ⟨hcz54_0, hcz54_1, hcz54_2, hcz54_3⟩ := zc4 BK379.out; obtain ⟨hfz54_0, hfz54_1, hfz54_2, hfz54_3⟩ := zz4 BK379.out))
       refine bodyPost_ret (results_ctt rfl _ _ gb379 26 #[.bool t381, .slice Ao49 t382.length co49, .slice Ao50 t385.length co50, .slice Ao51 t388.length co51] (0, 0) _ rfl (zp_ BK379.out) Try.underlying26 rfl (by kernel_rfl)) rfl ?_
       exact ⟨_, _, _, by first | rfl | (simp [errW_none, errW_some] <;> rfl) | (simp [*, errW_none, errW_some] <;> rfl), by (with_reducible repeat (first | apply Kd.N_alloc | apply Kd.N_drewN | apply Kd.N_drew)); exact Kd.N_mono (Kd.N_far (p := ⟨gb379, 3, none⟩) (Kd.N_far (p := ⟨gb379, 2, none⟩) (Kd.N_far (p := ⟨gb379, 1, none⟩) (Kd.N_far (p := ⟨gb379, 0, none⟩) (Kd.N_mono HO384.out (fun k_ hk => (⟨hk, hk.1.2.2.2.2⟩ : _ ∧ k_ ≠ gb379))) (fun _ hk => hk.2) (.bool t381)) (fun _ hk => hk.2) (.slice Ao49 t382.length co49)) (fun _ hk => hk.2) (.slice Ao50 t385.length co50)) (fun _ hk => hk.2) (.slice Ao51 t388.length co51)) (fun _ hk => ⟨hk.1.1.1, ⟨hk.1.1.2.1, hk.1.1.2.2.1⟩⟩), by (with_reducible repeat (first | apply Kd.N_alloc | apply Kd.N_drewN | apply Kd.N_drew)); exact Kd.N_mono (Kd.N_far (p := ⟨gb379, 3, none⟩) (Kd.N_far (p := ⟨gb379, 2, none⟩) (Kd.N_far (p := ⟨gb379, 1, none⟩) (Kd.N_far (p := ⟨gb379, 0, none⟩) (Kd.N_mono HO387.out (fun k_ hk => (⟨hk, hk.1.2.2.2.2⟩ : _ ∧ k_ ≠ gb379))) (fun _ hk => hk.2) (.bool t381)) (fun _ hk => hk.2) (.slice Ao49 t382.length co49)) (fun _ hk => hk.2) (.slice Ao50 t385.length co50)) (fun _ hk => hk.2) (.slice Ao51 t388.length co51)) (fun _ hk => ⟨hk.1.1.1, ⟨hk.1.1.2.1, hk.1.1.2.2.1⟩⟩), by (with_reducible repeat (first | apply Kd.R_alloc | apply Kd.R_drewN | apply Kd.R_drew)); exact Kd.R_mono (Kd.R_far (p := ⟨gb379, 3, none⟩) (Kd.R_far (p := ⟨gb379, 2, none⟩) (Kd.R_far (p := ⟨gb379, 1, none⟩) (Kd.R_far (p := ⟨gb379, 0, none⟩) (Kd.R_types HO390.out BK379.out (by decide)) (fun _ hk => hk.2) (.bool t381)) (fun _ hk => hk.2) (.slice Ao49 t382.length co49)) (fun _ hk => hk.2) (.slice Ao50 t385.length co50)) (fun _ hk => hk.2) (.slice Ao51 t388.length co51)) (fun _ hk => hk.1.1), by exact zh3_ HB.out GE378.out GE379.out GE391.out⟩
     ·rw [if_neg c15] at H
      obtain ⟨c15b0, c15b1⟩ := zq0 c15
      simp only [Option.some.injEq, Prod.mk.injEq] at H
      obtain ⟨rfl, rfl, rfl, rfl, rfl, rfl⟩ := H
      have hnb55 := NB379_378.out
      have hnc55 := NB378_379.out
      obtain ⟨hcz56_0, hcz56_1, hcz56_2, hcz56_3⟩ := zc4 BK379.out
      obtain ⟨hfz56_0, hfz56_1, hfz56_2, hfz56_3⟩ := zz4 BK379.out
      go_wp2
      refine bodyPost_ret (results_ctt rfl _ _ gb379 26 #[.bool false, .slice none 0 0, .slice none 0 0, .slice none 0 0] (0, 0) _ rfl (zp_ BK379.out) Try.underlying26 rfl (by kernel_rfl)) rfl ?_
      exact ⟨_, _, _, by first | rfl | (simp [errW_none, errW_some] <;> rfl) | (simp [*, errW_none, errW_some] <;> rfl), by first | exact Kd.S_nil _ _ _ _ _ | exact Kd.N_nil _ _ _ _ _ | exact Kd.V_nil _ _ _ _ _ | exact Kd.Q_nil _ _ _ _ _ | exact Kd.R_nil _ _ _ _ _, by first | exact Kd.S_nil _ _ _ _ _ | exact Kd.N_nil _ _ _ _ _ | exact Kd.V_nil _ _ _ _ _ | exact Kd.Q_nil _ _ _ _ _ | exact Kd.R_nil _ _ _ _ _, by first | exact Kd.R_nil _ _ _ _ _ | exact Kd.N_nil _ _ _ _ _ | exact Kd.V_nil _ _ _ _ _ | exact Kd.Q_nil _ _ _ _ _ | exact Kd.S_nil _ _ _ _ _, by exact zh2_ HB.out GE378.out GE379.out⟩
end Go.Proofs.Ytcbgichkeecgiaa.Print
