-- What the claim uses alone (wip/slim.py). Lean checks it.
import Derived.Test.YtcbgichkeecgiaaZAb
import Derived.Test.YtcbgichkeecgiaaZAln
import Derived.Test.YtcbgichkeecgiaaZAlr
import Derived.Test.YtcbgichkeecgiaaZAlq
namespace Go.Proofs.Ytcbgichkeecgiaa.Print
open Go.RowKit Go.Proofs.YtcbgichkeecgiaaW.PrintWords Go.Proofs.YtcbgichkeecgiaaW.PrintLast Go.Proofs.YtcbgichkeecgiaaW.PrintMore
attribute [local go_sem] max2_mx min2_mn max_two min_two max_three min_three max_four min_four
set_option linter.unusedVariables false
set_option linter.unusedSimpArgs false
mutual
def ladingref06_text.l0 : Nat → List Int → List (List Int) → Int → Int → Bool → List (List Int) → List (List Int) → List Int → Option (List Int)
 | 0, _, _, _, _, _, _, _, _ => none
 | k + 1, x3, x18, x19, x20, x287000, x287001, x287002, x287003 => if x20 < x19 then (if 0 ≤ x20 then (if x20 < (x18.length : Int) then ((ladingref03_Text.f k x3 (strOfNums (rd_L1 x18 x20))).bind fun t294 => (if x20 < (x287002.length : Int) then ((ladingref03_Text.f k t294 (strOfNums (rd_L1 x287002 x20))).bind fun t298 => (ladingref06_text.l0 k t298 x18 x19 (wrap64 (x20 + 1)) x287000 x287001 x287002 x287003)) else (none))) else (none)) else (none)) else (some x3)
def ladingref06_text.l1 : Nat → List Int → List (List Int) → Int → Int → Bool → List (List Int) → List (List Int) → List Int → Option (List Int)
 | 0, _, _, _, _, _, _, _, _ => none
 | k + 1, x6, x52, x53, x54, x287000, x287001, x287002, x287003 => if x54 < x53 then (if 0 ≤ x54 then (if x54 < (x52.length : Int) then ((ladingref03_Text.f k x6 (strOfNums (rd_L1 x52 x54))).bind fun t312 => (if 0 ≤ (wrap64 (x54 + 1)) then (if (wrap64 (x54 + 1)) < (x287003.length : Int) then ((ladingref03_Num.f k t312 (IntKind.u64.wrap (rd x287003 (wrap64 (x54 + 1))))).bind fun t316 => (ladingref06_text.l1 k t316 x52 x53 (wrap64 (x54 + 1)) x287000 x287001 x287002 x287003)) else (none)) else (none))) else (none)) else (none)) else (some x6)
end
def ladingref06_text.f (k : Nat) (a0_0 : Bool) (l0_1 : List (List Int)) (l0_2 : List (List Int)) (l0_3 : List Int) : Option (List Int) := if a0_0 = true then ((ladingref03_Num.f k (([1] : List Int)) (IntKind.u64.wrap ((l0_1.length : Int)))).bind fun t290 => (ladingref06_text.l0 k t290 l0_1 (l0_1.length : Int) 0 a0_0 l0_1 l0_2 l0_3)) else ((ladingref03_Num.f k (([2] : List Int)) (IntKind.u64.wrap ((l0_1.length : Int)))).bind fun t304 => (if 0 < (l0_3.length : Int) then ((ladingref03_Num.f k t304 (IntKind.u64.wrap (rd l0_3 0))).bind fun t308 => (ladingref06_text.l1 k t308 l0_1 (l0_1.length : Int) 0 a0_0 l0_1 l0_2 l0_3)) else (none)))
theorem ladingref06_text.mono_l : ∀ k, (∀ y0 y1 y2 y3 y4 y5 y6 y7, LeO (ladingref06_text.l0 k y0 y1 y2 y3 y4 y5 y6 y7) (ladingref06_text.l0 (k + 1) y0 y1 y2 y3 y4 y5 y6 y7)) ∧ (∀ y0 y1 y2 y3 y4 y5 y6 y7, LeO (ladingref06_text.l1 k y0 y1 y2 y3 y4 y5 y6 y7) (ladingref06_text.l1 (k + 1) y0 y1 y2 y3 y4 y5 y6 y7))
 | 0 => ⟨fun _ _ _ _ _ _ _ _ r h => by simp [ladingref06_text.l0] at h, fun _ _ _ _ _ _ _ _ r h => by simp [ladingref06_text.l1] at h⟩
 | k + 1 => by
  obtain ⟨ih0, ih1⟩ := ladingref06_text.mono_l k
  refine ⟨?_, ?_⟩
  ·intro y0 y1 y2 y3 y4 y5 y6 y7
   unfold ladingref06_text.l0
   repeat' first
   | (with_reducible exact ih0 _ _ _ _ _ _ _ _)
   | (with_reducible exact ih1 _ _ _ _ _ _ _ _)
   | (with_reducible exact ladingref03_Num.mono _ _ _)
   | (with_reducible exact ladingref03_Text.mono _ _ _)
   | (with_reducible exact LeO.refl _)
   | (with_reducible exact LeO.none _)
   | (with_reducible refine LeO.ite ?_ ?_)
   | (with_reducible refine LeO.bind ?_ (fun _ => ?_))
   | exact ih0 _ _ _ _ _ _ _ _
   | exact ih1 _ _ _ _ _ _ _ _
   | exact ladingref03_Num.mono _ _ _
   | exact ladingref03_Text.mono _ _ _
   | exact LeO.none _
   | refine LeO.ite ?_ ?_
   | refine LeO.bind ?_ (fun _ => ?_)
  ·intro y0 y1 y2 y3 y4 y5 y6 y7
   unfold ladingref06_text.l1
   repeat' first
   | (with_reducible exact ih0 _ _ _ _ _ _ _ _)
   | (with_reducible exact ih1 _ _ _ _ _ _ _ _)
   | (with_reducible exact ladingref03_Num.mono _ _ _)
   | (with_reducible exact ladingref03_Text.mono _ _ _)
   | (with_reducible exact LeO.refl _)
   | (with_reducible exact LeO.none _)
   | (with_reducible refine LeO.ite ?_ ?_)
   | (with_reducible refine LeO.bind ?_ (fun _ => ?_))
   | exact ih0 _ _ _ _ _ _ _ _
   | exact ih1 _ _ _ _ _ _ _ _
   | exact ladingref03_Num.mono _ _ _
   | exact ladingref03_Text.mono _ _ _
   | exact LeO.none _
   | refine LeO.ite ?_ ?_
   | refine LeO.bind ?_ (fun _ => ?_)
theorem ladingref06_text.mono : ∀ a0 a1 a2 a3 k, LeO (ladingref06_text.f k a0 a1 a2 a3) (ladingref06_text.f (k + 1) a0 a1 a2 a3) := by
 intro a0 a1 a2 a3 k
 obtain ⟨ih0, ih1⟩ := ladingref06_text.mono_l k
 unfold ladingref06_text.f
 repeat' first
   | (with_reducible exact ih0 _ _ _ _ _ _ _ _)
   | (with_reducible exact ih1 _ _ _ _ _ _ _ _)
   | (with_reducible exact ladingref03_Num.mono _ _ _)
   | (with_reducible exact ladingref03_Text.mono _ _ _)
   | (with_reducible exact LeO.refl _)
   | (with_reducible exact LeO.none _)
   | (with_reducible refine LeO.ite ?_ ?_)
   | (with_reducible refine LeO.bind ?_ (fun _ => ?_))
   | exact ih0 _ _ _ _ _ _ _ _
   | exact ih1 _ _ _ _ _ _ _ _
   | exact ladingref03_Num.mono _ _ _
   | exact ladingref03_Text.mono _ _ _
   | exact LeO.none _
   | refine LeO.ite ?_ ?_
   | refine LeO.bind ?_ (fun _ => ?_)
def ladingref06_text.T6 : Bool × List (List Nat × List Nat) := (true, [([], []), ([], []), ([1], [1]), ([0, 2], [0, 2]), ([], []), ([4], [4]), ([], []), ([5, 6], [5, 6]), ([7], [7]), ([8], [8]), ([3, 9, 3], [3, 9]), ([10, 10, 0, 1, 2, 3, 4, 5, 6, 7, 8, 9, 10], [0, 10])])
def ladingref06_text.B6 : List Nat := [0, 0, 2, 7, 0, 16, 0, 112, 240, 496, 1023, 2047]
theorem ladingref06_text.tab6 : rtab .any (opsOf Try.f53 6) = ladingref06_text.T6 := by kernel_rfl
theorem ladingref06_text.bits6 : waitsOk ladingref06_text.T6.2 ladingref06_text.B6 = true := by kernel_rfl
def ladingref06_text.T14 : Bool × List (List Nat × List Nat) := (true, [([], []), ([], []), ([1], [1]), ([0, 2], [0, 2]), ([], []), ([4], [4]), ([], []), ([6], [6]), ([5, 7], [5, 7]), ([8], [8]), ([9], [9]), ([3, 10, 3], [3, 10]), ([11, 11, 0, 1, 2, 3, 4, 5, 6, 7, 8, 9, 10, 11], [0, 11])])
def ladingref06_text.B14 : List Nat := [0, 0, 2, 7, 0, 16, 0, 64, 240, 496, 1008, 2047, 4095]
theorem ladingref06_text.tab14 : rtab .any (opsOf Try.f53 14) = ladingref06_text.T14 := by kernel_rfl
theorem ladingref06_text.bits14 : waitsOk ladingref06_text.T14.2 ladingref06_text.B14 = true := by kernel_rfl
set_option maxHeartbeats 8000000 in
set_option maxRecDepth 100000 in
theorem ladingref06_text.calls (k : Nat) (a0_0 : Bool) (A0_1 : Option Addr) (c0_1 : Nat) (l0_1 : List (List Int)) (A0_2 : Option Addr) (c0_2 : Nat) (l0_2 : List (List Int)) (A0_3 : Option Addr) (c0_3 : Nat) (l0_3 : List Int) (r : List Int) (w : World) (hr0_1 : Kd.C (Kd.slice 5 (Kd.int .u8)) w A0_1 l0_1.length l0_1) (hc0_1 : l0_1.length ≤ c0_1) (hr0_2 : Kd.C (Kd.slice 5 (Kd.int .u8)) w A0_2 l0_2.length l0_2) (hc0_2 : l0_2.length ≤ c0_2) (hr0_3 : Kd.C (Kd.int .i64) w A0_3 l0_3.length l0_3) (hc0_3 : l0_3.length ≤ c0_3) (h : ladingref06_text.f k a0_0 l0_1 l0_2 l0_3 = some r) :
  Calls Try.prog 53 #[.agg #[.bool a0_0, .slice A0_1 l0_1.length c0_1, .slice A0_2 l0_2.length c0_2, .slice A0_3 l0_3.length c0_3]] w fun e w' => ∃ v0_ : Value, e = .returned (v0_) ∧ Kd.R (Kd.int .u8) 5 w' w.heap.size (fun _ => True) v0_ r ∧ Below w.heap.size w w' := by
 have hu26 := Try.underlying26
 have HR0_1 := Aside0.mk hr0_1
 have HC0_1 := Aside0.mk hc0_1
 clear hr0_1 hc0_1
 have HR0_2 := Aside0.mk hr0_2
 have HC0_2 := Aside0.mk hc0_2
 clear hr0_2 hc0_2
 have HR0_3 := Aside0.mk hr0_3
 have HC0_3 := Aside0.mk hc0_3
 clear hr0_3 hc0_3
 have HB := Aside0.mk (Below.refl w.heap.size w)
 have H : (if a0_0 = true then ((ladingref03_Num.f k (([1] : List Int)) (IntKind.u64.wrap ((l0_1.length : Int)))).bind fun t290 => (ladingref06_text.l0 k t290 l0_1 (l0_1.length : Int) 0 a0_0 l0_1 l0_2 l0_3)) else ((ladingref03_Num.f k (([2] : List Int)) (IntKind.u64.wrap ((l0_1.length : Int)))).bind fun t304 => (if 0 < (l0_3.length : Int) then ((ladingref03_Num.f k t304 (IntKind.u64.wrap (rd l0_3 0))).bind fun t308 => (ladingref06_text.l1 k t308 l0_1 (l0_1.length : Int) 0 a0_0 l0_1 l0_2 l0_3)) else (none)))) = some r := h
 clear h
 by_cases c2 : a0_0 = true
 ·subst c2
  replace H := (if_pos (rfl : true = true)).symm.trans H
  obtain ⟨y287, hy287⟩ : ∃ y_ : List Int, y_ = (([1] : List Int)) := ⟨_, rfl⟩
  replace H : ((ladingref03_Num.f k y287 (IntKind.u64.wrap ((l0_1.length : Int)))).bind fun t290 => (ladingref06_text.l0 k t290 l0_1 (l0_1.length : Int) 0 true l0_1 l0_2 l0_3)) = some r := by first | (rw [hy287]; with_reducible exact H) | (have H2_ := (Option.bind_some _ _).symm.trans H; rw [hy287]; with_reducible exact H2_) | (have H2_ := (Option.bind_some _ _).symm.trans H; with_reducible exact H2_) | with_reducible exact H | (rw [hy287]; exact H) | exact H
  have Ny287 := Aside0.mk hy287
  clear hy287
  obtain ⟨t290, A3, H⟩ := zm H
  (try dsimp only at H)
  have H' := Aside0.mk H
  clear H
  go_enter Try.func53, Try.ntmps53
  go_wp2_with (first | ((with_reducible refine gate_dst (N := 1) rfl ?_); refine box_event ?hg (N := 1) ?hd (cs := #[.bool true, .slice A0_1 l0_1.length c0_1, .slice A0_2 l0_2.length c0_2, .slice A0_3 l0_3.length c0_3]) (t := 26) ?hr ?_; (case hd => rfl); (case hg => rfl); (case hr => first | (go_simp; done) | (go_simp; rfl)); intro gb286 hg w4 hbox hb; have BK286 := Aside0.mk (hbox); have GW286 := Aside0.mk ((by rw [hg]; exact (below_size (zh0_ HB.out)) : w.heap.size ≤ gb286)); have GE286 := Aside0.mk ((by rw [hg]; exact (below_size (zh0_ HB.out)) : w.heap.size ≤ gb286)); replace HB := Aside0.mk (below_step (zh0_ HB.out) hb); clear hb hbox hg; obtain ⟨hcz5_0, hcz5_1, hcz5_2, hcz5_3⟩ := zc4 BK286.out; obtain ⟨hfz5_0, hfz5_1, hfz5_2, hfz5_3⟩ := zz4 BK286.out) | ((with_reducible refine gate_dst (N := 11) rfl ?_); refine Kd.R_lit (Kd.int .u8) _ 5 ?hg (N := 11) ?hd (xs := ([1] : List Int)) (inner := [.int .u8 1]) (ok := fun _ => True) (okp := fun _ => True) ?hr ?hp (fun _ hk => hk) trivial (Below.refl _ _) (Nat.le_refl _) (by simp) ?_; (case hd => rfl); (case hg => rfl); (case hr => first | (go_simp; done) | (go_simp; rfl)); (case hp => exact (Reps.one (show Kd.M (Kd.int .u8) _ _ _ 1 [.int .u8 1] from rfl) (Reps.none _ _))); intro v288 w6 ho7 hb hg_ hnew_; clear hg_ hnew_; (first | rw [← Ny287.out] at ho7 | (simp only [Int.reduceToNat] at ho7; rw [← Ny287.out] at ho7)); have HO289 := Aside0.mk (Kd.R_lower ho7 (below_size (zh1_ HB.out GE286.out))); replace BK286 := Aside0.mk (blk_below (g := gb286) (o := .cells #[.bool true, .slice A0_1 l0_1.length c0_1, .slice A0_2 l0_2.length c0_2, .slice A0_3 l0_3.length c0_3] 26 (0, 0)) (zb_ BK286.out) hb); replace HB := Aside0.mk (below_step (zh1_ HB.out GE286.out) hb); clear hb ho7; obtain ⟨hcz8_0, hcz8_1, hcz8_2, hcz8_3⟩ := zc4 BK286.out; obtain ⟨hfz8_0, hfz8_1, hfz8_2, hfz8_3⟩ := zz4 BK286.out; obtain ⟨Ao9, co9, eo9⟩ := Kd.R_slice HO289.out; subst eo9) | ((with_reducible refine gate_callee (f := 64) rfl ?_); refine goesL_ (some 16) rfl rfl Try.func64 (by kernel_rfl) rfl #[.slice Ao9 y287.length co9, .int .u64 (IntKind.u64.wrap ((l0_1.length : Int)))] rfl zl_ ?_; (with_reducible refine (ladingref03_Num.calls k _ _ y287 (IntKind.u64.wrap ((l0_1.length : Int))) t290 _ ?side1 ?side2 A3.out).mono ?_); (case side1 => repeat (first | exact (Kd.R_reads' HO289.out).2.2 | (with_reducible refine Kd.C_alloc ?_ _) | (with_reducible refine Kd.C_drewN ?_ _) | (with_reducible refine Kd.C_drew ?_))); (case side2 => exact (Kd.R_reads' HO289.out).2.1); rintro e w10 ⟨v291, rfl, ho0, hb⟩; refine ⟨_, rfl, ?_⟩; have HO292 := Aside0.mk (Kd.R_lower (Kd.R_new' ho0 (Kd.R_lt (zR_ HO289.out))) (below_size (zh1_ HB.out GE286.out))); replace HO289 := Aside0.mk (Kd.R_elder' (zR_ HO289.out) (Kd.R_base ho0) hb); replace BK286 := Aside0.mk (blk_below (g := gb286) (o := .cells #[.bool true, .slice A0_1 l0_1.length c0_1, .slice A0_2 l0_2.length c0_2, .slice A0_3 l0_3.length c0_3] 26 (0, 0)) (zb_ BK286.out) hb); replace HB := Aside0.mk (below_step (zh1_ HB.out GE286.out) hb); (try clear hb); (try clear hk); (try clear ho0); obtain ⟨hcz11_0, hcz11_1, hcz11_2, hcz11_3⟩ := zc4 BK286.out; obtain ⟨hfz11_0, hfz11_1, hfz11_2, hfz11_3⟩ := zz4 BK286.out))
  go_loopg [3, 20] k (fun kq v3 v20 w' => ∃ (x3_1 : List Int) (x20_1 : Int), v20 = .int .i64 x20_1 ∧ Aside0 (ladingref06_text.l0 kq x3_1 l0_1 (l0_1.length : Int) x20_1 true l0_1 l0_2 l0_3 = some r) ∧ Aside0 (kq ≤ k) ∧ Aside0 (Kd.R (Kd.int .u8) 5 w' w.heap.size (fun _ => True) v3 x3_1) ∧ Aside0 (w'.heap[gb286]? = some (.cells #[.bool true, (.slice A0_1 l0_1.length c0_1), (.slice A0_2 l0_2.length c0_2), (.slice A0_3 l0_3.length c0_3)] 26 (0, 0))) ∧ Aside0 (Below w.heap.size w w'))
  case atStart => exact ⟨(t290), (0), (by first | rfl | (simp; done) | (simp [*]; done) | (simp only [i64_w]; done)), H', ⟨Nat.le_refl _⟩, ⟨by (with_reducible repeat (first | apply Kd.R_alloc | apply Kd.R_drewN | apply Kd.R_drew)); exact Kd.R_mono HO292.out (fun _ hk => trivial)⟩, ⟨by (with_reducible repeat (first | refine blk_drewN ?_ _ | refine blk_drew ?_ | refine blk_alloc ?_ _)); exact BK286.out⟩, ⟨by exact zh1_ HB.out GE286.out⟩⟩
  case round =>
   clear H'
   try clear c2
   try clear p2
   try clear c5
   try clear c6
   try clear hcz11_0
   try clear hcz11_1
   try clear hcz11_2
   try clear hcz11_3
   try clear hcz5_0
   try clear hcz5_1
   try clear hcz5_2
   try clear hcz5_3
   try clear hcz8_0
   try clear hcz8_1
   try clear hcz8_2
   try clear hcz8_3
   try clear hfz11_0
   try clear hfz11_1
   try clear hfz11_2
   try clear hfz11_3
   try clear hfz5_0
   try clear hfz5_1
   try clear hfz5_2
   try clear hfz5_3
   try clear hfz8_0
   try clear hfz8_1
   try clear hfz8_2
   try clear hfz8_3
   (try clear BK286)
   obtain ⟨x3_1, x20_1, rfl, HA, HK1, HO_3, BK286, HB⟩ := hrel
   cases gk with
   | zero => exact absurd HA.out (by simp [ladingref06_text.l0])
   | succ k1 =>
    have H := HA.out
    clear HA
    simp only [ladingref06_text.l0] at H
    by_cases c12 : x20_1 < (l0_1.length : Int)
    ·rw [if_pos c12] at H
     have c12b0 : decide (x20_1 < (l0_1.length : Int)) = true := decide_eq_true c12
     clear c12
     by_cases c13 : 0 ≤ x20_1
     ·rw [if_pos c13] at H
      have c13b0 : decide (0 ≤ x20_1) = true := decide_eq_true c13
      clear c13
      by_cases c14 : x20_1 < (l0_1.length : Int)
      ·rw [if_pos c14] at H
       have c14b0 : decide (x20_1 < (l0_1.length : Int)) = true := decide_eq_true c14
       clear c14
       obtain ⟨t294, A15, H⟩ := zm H
       (try dsimp only at H)
       by_cases c16 : x20_1 < (l0_2.length : Int)
       ·rw [if_pos c16] at H
        have c16b0 : decide (x20_1 < (l0_2.length : Int)) = true := decide_eq_true c16
        clear c16
        obtain ⟨t298, A17, H⟩ := zm H
        (try dsimp only at H)
        have H' := Aside0.mk H
        clear H
        have p293 : 0 ≤ (x20_1 : Int) := of_decide_eq_true za_
        have q293 : x20_1 < (l0_1.length : Int) := of_decide_eq_true za_
        obtain ⟨ad293, A293_0, c293_0, e293, hx293_0, hl293_0, hi293_0⟩ := at_L1 HR0_1.out x20_1 p293 q293
        cases e293
        replace hx293_0 := zx_ HB.out hx293_0
        have HR293_0 := Aside0.mk hi293_0
        have HC293_0 := Aside0.mk hl293_0
        clear hi293_0 hl293_0
        replace p293 := eq_true p293
        replace q293 := eq_true q293
        try go_wp2
        have n0_ := Aside0.mk (Kd.R_drew HO_3.out)
        have n1_ := Aside0.mk (blk_drew BK286.out)
        have n2_ := Aside0.mk (below_drew1 HB.out)
        clear HO_3 BK286 HB
        have HO_3 := n0_
        have BK286 := n1_
        have HB := n2_
        clear n0_ n1_ n2_
        have p297 : 0 ≤ (x20_1 : Int) := of_decide_eq_true za_
        have q297 : x20_1 < (l0_2.length : Int) := of_decide_eq_true za_
        obtain ⟨ad297, A297_0, c297_0, e297, hx297_0, hl297_0, hi297_0⟩ := at_L1 HR0_2.out x20_1 p297 q297
        have hw297_0 := hx297_0
        cases e297
        replace hx297_0 := zx_ HB.out hx297_0
        have HR297_0 := Aside0.mk hi297_0
        have HC297_0 := Aside0.mk hl297_0
        clear hi297_0 hl297_0
        replace p297 := eq_true p297
        replace q297 := eq_true q297
        obtain ⟨Ao19, co19, eo19⟩ := Kd.R_slice HO_3.out
        (first | subst eo19 | (injection eo19 with f1_ f2_ f3_; have f4_ := f1_.symm; have f5_ := f3_.symm; clear f1_ f2_ f3_; subst f4_; subst f5_))
        refine start_ (n := 12) (S := fun w' => w'.cell? ⟨gb286, 0, none⟩ = some (.bool true) ∧ w'.cell? ⟨gb286, 1, none⟩ = some (.slice (some ad293) l0_1.length c0_1) ∧ w'.cell? ⟨gb286, 2, none⟩ = some (.slice (some ad297) l0_2.length c0_2) ∧ w'.cell? ⟨gb286, 3, none⟩ = some (.slice A0_3 l0_3.length c0_3) ∧ (convert 27 9 (.slice A293_0 (rd_L1 l0_1 x20_1).length c293_0)).run Try.prog w' = .ok (.string (strOfNums (rd_L1 l0_1 x20_1))) w' ∧ w'.cell? (ad297.add (x20_1).toNat) = some (.slice A297_0 (rd_L1 l0_2 x20_1).length c297_0) ∧ (convert 27 9 (.slice A297_0 (rd_L1 l0_2 x20_1).length c297_0)).run Try.prog w' = .ok (.string (strOfNums (rd_L1 l0_2 x20_1))) w') (ds := []) (zB 0 12) (by kernel_rfl) rfl rfl ⟨(blk_cell BK286.out 0).trans rfl, (blk_cell BK286.out 1).trans rfl, (blk_cell BK286.out 2).trans rfl, (blk_cell BK286.out 3).trans rfl, (Kd.C_string (P := Try.prog) (A := A293_0) (c := c293_0) Try.underlying27 Try.underlying5 Try.underlying9 (Kd.C_below HR293_0.out HB.out)), ((HB.out.cell (World.block_lt_of_cell? w _ hw297_0)).trans hw297_0), (Kd.C_string (P := Try.prog) (A := A297_0) (c := c297_0) Try.underlying27 Try.underlying5 Try.underlying9 (Kd.C_below HR297_0.out HB.out))⟩ (fun hHeld => ?_); refine with_tabW ladingref06_text.tab6 ladingref06_text.bits6 (fun HT_ HW_ => ?_)
        generalize wr.drew = w18 at HO_3 BK286 HB HR297_0 hx297_0 hHeld ⊢
        refine zpu 0 (some 25) (zB 1 11) (any_of HT_.out (by kernel_rfl)) ?_
        refine zpu 1 (some 26) (zB 2 10) (any_of HT_.out (by kernel_rfl)) ?_
        refine zpu 4 (some 29) #[true, true, false, false, true, false, false, false, false, false, false, false] (any_of HT_.out (by kernel_rfl)) ?_
        refine zpu 6 (some 31) #[true, true, false, false, true, false, true, false, false, false, false, false] (any_of HT_.out (by kernel_rfl)) ?_
        refine zta 2 (some 27) #[true, true, true, false, true, false, true, false, false, false, false, false] (take_ofW HT_.out HW_.out (by kernel_rfl)) hHeld ?_
        refine zta 5 (some 30) #[true, true, true, false, true, true, true, false, false, false, false, false] (take_ofW HT_.out HW_.out (by kernel_rfl)) hHeld ?_
        refine zpu 7 (some 32) #[true, true, true, false, true, true, true, true, false, false, false, false] (any_of HT_.out (by kernel_rfl)) ?_
        refine zta 8 (some 33) #[true, true, true, false, true, true, true, true, true, false, false, false] (take_ofW HT_.out HW_.out (by kernel_rfl)) hHeld ?_
        refine zta 9 (some 34) #[true, true, true, false, true, true, true, true, true, true, false, false] (take_ofW HT_.out HW_.out (by kernel_rfl)) hHeld ?_
        refine one_ (i := 3) (N := some 28) (zB 10 2) rfl rfl (one_of HT_.out (by kernel_rfl)) (by decide) (fun K hK => ?_)
        refine goes_ Try.func65 (by kernel_rfl) rfl #[.slice Ao19 x3_1.length co19, .string (strOfNums (rd_L1 l0_1 x20_1))] (by rfl) rfl rfl zl_ ?_
        with_reducible refine (ladingref03_Text.calls k1 _ _ x3_1 (strOfNums (rd_L1 l0_1 x20_1)) t294 _ ?side1 ?side2 A15.out).mono ?_
        (case side1 => repeat (first | exact (Kd.R_reads' HO_3.out).2.2 | (with_reducible refine Kd.C_alloc ?_ _) | (with_reducible refine Kd.C_drewN ?_ _) | (with_reducible refine Kd.C_drew ?_)))
        (case side2 => exact (Kd.R_reads' HO_3.out).2.1)
        rintro e w20 ⟨v295, rfl, ho0, hb⟩
        refine ⟨_, rfl, ?_⟩
        have n0_ := Aside0.mk (Kd.R_elder' (zR_ HO_3.out) (Kd.R_base ho0) hb)
        have n1_ := Aside0.mk (Kd.R_lower (Kd.R_new' ho0 (Kd.R_lt (zR_ HO_3.out))) (below_size (zh1_ HB.out GE286.out)))
        have n2_ := Aside0.mk (blk_below (g := gb286) (o := .cells #[.bool true, .slice (some ad293) l0_1.length c0_1, .slice (some ad297) l0_2.length c0_2, .slice A0_3 l0_3.length c0_3] 26 (0, 0)) (zb_ BK286.out) hb)
        have n3_ := Aside0.mk (below_step (zh1_ HB.out GE286.out) hb)
        clear HO_3 BK286 HB
        have HO_3 := n0_
        have HO296 := n1_
        have BK286 := n2_
        have HB := n3_
        clear n0_ n1_ n2_ n3_
        (try clear hb)
        (try clear hb2)
        (try clear hk)
        (try clear hi)
        (try clear ho0)
        obtain ⟨Ao21, co21, eo21⟩ := Kd.R_slice HO296.out
        (first | subst eo21 | (injection eo21 with f1_ f2_ f3_; have f4_ := f1_.symm; have f5_ := f3_.symm; clear f1_ f2_ f3_; subst f4_; subst f5_))
        refine hK.out _ _ ⟨(blk_cell BK286.out 0).trans rfl, (blk_cell BK286.out 1).trans rfl, (blk_cell BK286.out 2).trans rfl, (blk_cell BK286.out 3).trans rfl, (Kd.C_string (P := Try.prog) (A := A293_0) (c := c293_0) Try.underlying27 Try.underlying5 Try.underlying9 (Kd.C_below HR293_0.out HB.out)), ((HB.out.cell (World.block_lt_of_cell? w _ hw297_0)).trans hw297_0), (Kd.C_string (P := Try.prog) (A := A297_0) (c := c297_0) Try.underlying27 Try.underlying5 Try.underlying9 (Kd.C_below HR297_0.out HB.out))⟩ (fun hHeld => ?_)
        clear hK K
        refine zno 28 ?_
        refine one_ (i := 10) (N := some 35) (zB 11 1) rfl rfl (one_of HT_.out (by kernel_rfl)) (by decide) (fun K hK => ?_)
        refine goes_ Try.func65 (by kernel_rfl) rfl #[.slice Ao21 t294.length co21, .string (strOfNums (rd_L1 l0_2 x20_1))] (by rfl) rfl rfl zl_ ?_
        with_reducible refine (ladingref03_Text.calls k1 _ _ t294 (strOfNums (rd_L1 l0_2 x20_1)) t298 _ ?side1 ?side2 A17.out).mono ?_
        (case side1 => repeat (first | exact (Kd.R_reads' HO296.out).2.2 | (with_reducible refine Kd.C_alloc ?_ _) | (with_reducible refine Kd.C_drewN ?_ _) | (with_reducible refine Kd.C_drew ?_)))
        (case side2 => exact (Kd.R_reads' HO296.out).2.1)
        rintro e w22 ⟨v299, rfl, ho0, hb⟩
        refine ⟨_, rfl, ?_⟩
        have n0_ := Aside0.mk (Kd.R_elder' (zR_ HO_3.out) (Kd.R_base ho0) hb)
        have n1_ := Aside0.mk (Kd.R_elder' (zR_ HO296.out) (Kd.R_base ho0) hb)
        have n2_ := Aside0.mk (Kd.R_lower (Kd.R_new' (Kd.R_new' ho0 (Kd.R_lt (zR_ HO_3.out))) (Kd.R_lt (zR_ HO296.out))) (below_size (zh1_ HB.out GE286.out)))
        have n3_ := Aside0.mk (blk_below (g := gb286) (o := .cells #[.bool true, .slice (some ad293) l0_1.length c0_1, .slice (some ad297) l0_2.length c0_2, .slice A0_3 l0_3.length c0_3] 26 (0, 0)) (zb_ BK286.out) hb)
        have n4_ := Aside0.mk (below_step (zh1_ HB.out GE286.out) hb)
        clear HO_3 HO296 BK286 HB
        have HO_3 := n0_
        have HO296 := n1_
        have HO300 := n2_
        have BK286 := n3_
        have HB := n4_
        clear n0_ n1_ n2_ n3_ n4_
        (try clear hb)
        (try clear hb2)
        (try clear hk)
        (try clear hi)
        (try clear ho0)
        refine hK.out _ _ ⟨(blk_cell BK286.out 0).trans rfl, (blk_cell BK286.out 1).trans rfl, (blk_cell BK286.out 2).trans rfl, (blk_cell BK286.out 3).trans rfl, (Kd.C_string (P := Try.prog) (A := A293_0) (c := c293_0) Try.underlying27 Try.underlying5 Try.underlying9 (Kd.C_below HR293_0.out HB.out)), ((HB.out.cell (World.block_lt_of_cell? w _ hw297_0)).trans hw297_0), (Kd.C_string (P := Try.prog) (A := A297_0) (c := c297_0) Try.underlying27 Try.underlying5 Try.underlying9 (Kd.C_below HR297_0.out HB.out))⟩ (fun hHeld => ?_)
        clear hK K
        refine zno 35 ?_
        refine zpu 11 (some 3) (zB 12 0) (any_of HT_.out (by kernel_rfl)) ?_
        refine done_ (done_of HT_.out (by kernel_rfl)) ?_
        try go_wp2
        go_roundg k1
        case measure => have := HK1.out; omega
        case rel => exact ⟨(t298), (wrap64 (x20_1 + 1)), (by first | rfl | (simp; done) | (simp [*]; done) | (simp only [i64_w]; done)), H', ⟨by have := HK1.out; omega⟩, ⟨by (with_reducible repeat (first | apply Kd.R_alloc | apply Kd.R_drewN | apply Kd.R_drew)); exact Kd.R_mono HO300.out (fun _ hk => trivial)⟩, ⟨by (with_reducible repeat (first | refine blk_drewN ?_ _ | refine blk_drew ?_ | refine blk_alloc ?_ _)); exact BK286.out⟩, ⟨by exact zh1_ HB.out GE286.out⟩⟩
       ·rw [if_neg c16] at H
        cases H
      ·rw [if_neg c14] at H
       cases H
     ·rw [if_neg c13] at H
      cases H
    ·rw [if_neg c12] at H
     have c12b0 : decide (x20_1 < (l0_1.length : Int)) = false := decide_eq_false c12
     clear c12
     obtain rfl := Option.some.inj H
     go_wp2
     go_ret
     exact ⟨_, by first | rfl | (simp [errW_none, errW_some] <;> rfl) | (simp [*, errW_none, errW_some] <;> rfl), by (with_reducible repeat (first | apply Kd.R_alloc | apply Kd.R_drewN | apply Kd.R_drew)); exact HO_3.out, by exact zh1_ HB.out GE286.out⟩
 ·replace c2 := Bool.eq_false_iff.mpr c2
  subst c2
  replace H := (if_neg (show ¬ (false = true) by decide)).symm.trans H
  obtain ⟨y301, hy301⟩ : ∃ y_ : List Int, y_ = (([2] : List Int)) := ⟨_, rfl⟩
  replace H : ((ladingref03_Num.f k y301 (IntKind.u64.wrap ((l0_1.length : Int)))).bind fun t304 => (if 0 < (l0_3.length : Int) then ((ladingref03_Num.f k t304 (IntKind.u64.wrap (rd l0_3 0))).bind fun t308 => (ladingref06_text.l1 k t308 l0_1 (l0_1.length : Int) 0 false l0_1 l0_2 l0_3)) else (none))) = some r := by first | (rw [hy301]; with_reducible exact H) | (have H2_ := (Option.bind_some _ _).symm.trans H; rw [hy301]; with_reducible exact H2_) | (have H2_ := (Option.bind_some _ _).symm.trans H; with_reducible exact H2_) | with_reducible exact H | (rw [hy301]; exact H) | exact H
  have Ny301 := Aside0.mk hy301
  clear hy301
  obtain ⟨t304, A23, H⟩ := zm H
  (try dsimp only at H)
  by_cases c24 : 0 < (l0_3.length : Int)
  ·rw [if_pos c24] at H
   have c24b0 : decide (0 < (l0_3.length : Int)) = true := decide_eq_true c24
   have c24b1 : decide (0 < l0_3.length) = true := decide_eq_true (by omega)
   clear c24
   obtain ⟨t308, A25, H⟩ := zm H
   (try dsimp only at H)
   have H' := Aside0.mk H
   clear H
   go_enter Try.func53, Try.ntmps53
   go_wp2_with (first | ((with_reducible refine gate_dst (N := 1) rfl ?_); refine box_event ?hg (N := 1) ?hd (cs := #[.bool false, .slice A0_1 l0_1.length c0_1, .slice A0_2 l0_2.length c0_2, .slice A0_3 l0_3.length c0_3]) (t := 26) ?hr ?_; (case hd => rfl); (case hg => rfl); (case hr => first | (go_simp; done) | (go_simp; rfl)); intro gb286 hg w26 hbox hb; have BK286 := Aside0.mk (hbox); have GW286 := Aside0.mk ((by rw [hg]; exact (below_size (zh0_ HB.out)) : w.heap.size ≤ gb286)); have GE286 := Aside0.mk ((by rw [hg]; exact (below_size (zh0_ HB.out)) : w.heap.size ≤ gb286)); replace HB := Aside0.mk (below_step (zh0_ HB.out) hb); clear hb hbox hg; obtain ⟨hcz27_0, hcz27_1, hcz27_2, hcz27_3⟩ := zc4 BK286.out; obtain ⟨hfz27_0, hfz27_1, hfz27_2, hfz27_3⟩ := zz4 BK286.out) | ((with_reducible refine gate_dst (N := 38) rfl ?_); refine Kd.R_lit (Kd.int .u8) _ 5 ?hg (N := 38) ?hd (xs := ([2] : List Int)) (inner := [.int .u8 2]) (ok := fun _ => True) (okp := fun _ => True) ?hr ?hp (fun _ hk => hk) trivial (Below.refl _ _) (Nat.le_refl _) (by simp) ?_; (case hd => rfl); (case hg => rfl); (case hr => first | (go_simp; done) | (go_simp; rfl)); (case hp => exact (Reps.one (show Kd.M (Kd.int .u8) _ _ _ 2 [.int .u8 2] from rfl) (Reps.none _ _))); intro v302 w28 ho29 hb hg_ hnew_; clear hg_ hnew_; (first | rw [← Ny301.out] at ho29 | (simp only [Int.reduceToNat] at ho29; rw [← Ny301.out] at ho29)); have HO303 := Aside0.mk (Kd.R_lower ho29 (below_size (zh1_ HB.out GE286.out))); replace BK286 := Aside0.mk (blk_below (g := gb286) (o := .cells #[.bool false, .slice A0_1 l0_1.length c0_1, .slice A0_2 l0_2.length c0_2, .slice A0_3 l0_3.length c0_3] 26 (0, 0)) (zb_ BK286.out) hb); replace HB := Aside0.mk (below_step (zh1_ HB.out GE286.out) hb); clear hb ho29; obtain ⟨hcz30_0, hcz30_1, hcz30_2, hcz30_3⟩ := zc4 BK286.out; obtain ⟨hfz30_0, hfz30_1, hfz30_2, hfz30_3⟩ := zz4 BK286.out; obtain ⟨Ao31, co31, eo31⟩ := Kd.R_slice HO303.out; subst eo31) | ((with_reducible refine gate_callee (f := 64) rfl ?_); refine goesL_ (some 43) rfl rfl Try.func64 (by kernel_rfl) rfl #[.slice Ao31 y301.length co31, .int .u64 (IntKind.u64.wrap ((l0_1.length : Int)))] rfl zl_ ?_; (with_reducible refine (ladingref03_Num.calls k _ _ y301 (IntKind.u64.wrap ((l0_1.length : Int))) t304 _ ?side1 ?side2 A23.out).mono ?_); (case side1 => repeat (first | exact (Kd.R_reads' HO303.out).2.2 | (with_reducible refine Kd.C_alloc ?_ _) | (with_reducible refine Kd.C_drewN ?_ _) | (with_reducible refine Kd.C_drew ?_))); (case side2 => exact (Kd.R_reads' HO303.out).2.1); rintro e w32 ⟨v305, rfl, ho0, hb⟩; refine ⟨_, rfl, ?_⟩; have HO306 := Aside0.mk (Kd.R_lower (Kd.R_new' ho0 (Kd.R_lt (zR_ HO303.out))) (below_size (zh1_ HB.out GE286.out))); replace HO303 := Aside0.mk (Kd.R_elder' (zR_ HO303.out) (Kd.R_base ho0) hb); replace BK286 := Aside0.mk (blk_below (g := gb286) (o := .cells #[.bool false, .slice A0_1 l0_1.length c0_1, .slice A0_2 l0_2.length c0_2, .slice A0_3 l0_3.length c0_3] 26 (0, 0)) (zb_ BK286.out) hb); replace HB := Aside0.mk (below_step (zh1_ HB.out GE286.out) hb); (try clear hb); (try clear hk); (try clear ho0); obtain ⟨hcz33_0, hcz33_1, hcz33_2, hcz33_3⟩ := zc4 BK286.out; obtain ⟨hfz33_0, hfz33_1, hfz33_2, hfz33_3⟩ := zz4 BK286.out; have p307 : 0 ≤ (0 : Int) := (by omega); have q307 : 0 < (l0_3.length : Int) := of_decide_eq_true za_; obtain ⟨ad307, e307, hx307_0⟩ := Kd.at_int HR0_3.out 0 p307 q307; cases e307; have qi307 : (0 < l0_3.length) = True := eq_true (by omega); (try rw [show ((0 : Int)).toNat = 0 from rfl] at hx307_0); (try rw [Addr.add_zero'] at hx307_0); replace hx307_0 := zx_ HB.out hx307_0; replace p307 := eq_true p307; replace q307 := eq_true q307; obtain ⟨Ao34, co34, eo34⟩ := Kd.R_slice HO306.out; subst eo34) | ((with_reducible refine gate_callee (f := 64) rfl ?_); refine goesL_ (some 50) rfl rfl Try.func64 (by kernel_rfl) rfl #[.slice Ao34 t304.length co34, .int .u64 (IntKind.u64.wrap (rd l0_3 0))] rfl zl_ ?_; (with_reducible refine (ladingref03_Num.calls k _ _ t304 (IntKind.u64.wrap (rd l0_3 0)) t308 _ ?side1 ?side2 A25.out).mono ?_); (case side1 => repeat (first | exact (Kd.R_reads' HO306.out).2.2 | (with_reducible refine Kd.C_alloc ?_ _) | (with_reducible refine Kd.C_drewN ?_ _) | (with_reducible refine Kd.C_drew ?_))); (case side2 => exact (Kd.R_reads' HO306.out).2.1); rintro e w35 ⟨v309, rfl, ho0, hb⟩; refine ⟨_, rfl, ?_⟩; have HO310 := Aside0.mk (Kd.R_lower (Kd.R_new' (Kd.R_new' ho0 (Kd.R_lt (zR_ HO303.out))) (Kd.R_lt (zR_ HO306.out))) (below_size (zh1_ HB.out GE286.out))); replace HO303 := Aside0.mk (Kd.R_elder' (zR_ HO303.out) (Kd.R_base ho0) hb); replace HO306 := Aside0.mk (Kd.R_elder' (zR_ HO306.out) (Kd.R_base ho0) hb); replace BK286 := Aside0.mk (blk_below (g := gb286) (o := .cells #[.bool false, .slice A0_1 l0_1.length c0_1, .slice A0_2 l0_2.length c0_2, .slice (some ad307) l0_3.length c0_3] 26 (0, 0)) (zb_ BK286.out) hb); replace HB := Aside0.mk (below_step (zh1_ HB.out GE286.out) hb); (try clear hb); (try clear hk); (try clear ho0); obtain ⟨hcz36_0, hcz36_1, hcz36_2, hcz36_3⟩ := zc4 BK286.out; obtain ⟨hfz36_0, hfz36_1, hfz36_2, hfz36_3⟩ := zz4 BK286.out))
   go_loopg [6, 54] k (fun kq v6 v54 w' => ∃ (x6_1 : List Int) (x54_1 : Int), v54 = .int .i64 x54_1 ∧ Aside0 (ladingref06_text.l1 kq x6_1 l0_1 (l0_1.length : Int) x54_1 false l0_1 l0_2 l0_3 = some r) ∧ Aside0 (kq ≤ k) ∧ Aside0 (Kd.R (Kd.int .u8) 5 w' w.heap.size (fun _ => True) v6 x6_1) ∧ Aside0 (w'.heap[gb286]? = some (.cells #[.bool false, (.slice A0_1 l0_1.length c0_1), (.slice A0_2 l0_2.length c0_2), (.slice (some ad307) l0_3.length c0_3)] 26 (0, 0))) ∧ Aside0 (Below w.heap.size w w'))
   case atStart => exact ⟨(t308), (0), (by first | rfl | (simp; done) | (simp [*]; done) | (simp only [i64_w]; done)), H', ⟨Nat.le_refl _⟩, ⟨by (with_reducible repeat (first | apply Kd.R_alloc | apply Kd.R_drewN | apply Kd.R_drew)); exact Kd.R_mono HO310.out (fun _ hk => trivial)⟩, ⟨by (with_reducible repeat (first | refine blk_drewN ?_ _ | refine blk_drew ?_ | refine blk_alloc ?_ _)); exact BK286.out⟩, ⟨by exact zh1_ HB.out GE286.out⟩⟩
   case round =>
    clear H'
    try clear c1
    try clear c2
    try clear p2
    try clear q2
    try clear hx2
    try clear p3
    try clear q3
    try clear hx3
    try clear qi3
    try clear c5
    try clear c6
    try clear p6
    try clear c12
    try clear c12b0
    try clear c13
    try clear c13b0
    try clear c14
    try clear c14b0
    try clear c16
    try clear c16b0
    try clear c24
    try clear c24b0
    try clear c24b1
    try clear c29
    try clear p29
    try clear q29
    try clear hx29
    try clear p30
    try clear q30
    try clear hx30
    try clear qi30
    try clear hcz11_0
    try clear hcz11_1
    try clear hcz11_2
    try clear hcz11_3
    try clear hcz27_0
    try clear hcz27_1
    try clear hcz27_2
    try clear hcz27_3
    try clear hcz30_0
    try clear hcz30_1
    try clear hcz30_2
    try clear hcz30_3
    try clear hcz33_0
    try clear hcz33_1
    try clear hcz33_2
    try clear hcz33_3
    try clear hcz36_0
    try clear hcz36_1
    try clear hcz36_2
    try clear hcz36_3
    try clear hcz5_0
    try clear hcz5_1
    try clear hcz5_2
    try clear hcz5_3
    try clear hcz8_0
    try clear hcz8_1
    try clear hcz8_2
    try clear hcz8_3
    try clear hfz11_0
    try clear hfz11_1
    try clear hfz11_2
    try clear hfz11_3
    try clear hfz27_0
    try clear hfz27_1
    try clear hfz27_2
    try clear hfz27_3
    try clear hfz30_0
    try clear hfz30_1
    try clear hfz30_2
    try clear hfz30_3
    try clear hfz33_0
    try clear hfz33_1
    try clear hfz33_2
    try clear hfz33_3
    try clear hfz36_0
    try clear hfz36_1
    try clear hfz36_2
    try clear hfz36_3
    try clear hfz5_0
    try clear hfz5_1
    try clear hfz5_2
    try clear hfz5_3
    try clear hfz8_0
    try clear hfz8_1
    try clear hfz8_2
    try clear hfz8_3
    try clear hx293_0
    try clear hx297_0
    try clear hx307_0
    try clear p2
    try clear p293
    try clear p297
    try clear p307
    try clear q293
    try clear q297
    try clear q307
    (try clear BK286)
    obtain ⟨x6_1, x54_1, rfl, HA, HK1, HO_6, BK286, HB⟩ := hrel
    cases gk with
    | zero => exact absurd HA.out (by simp [ladingref06_text.l1])
    | succ k1 =>
     have H := HA.out
     clear HA
     simp only [ladingref06_text.l1] at H
     by_cases c37 : x54_1 < (l0_1.length : Int)
     ·rw [if_pos c37] at H
      have c37b0 : decide (x54_1 < (l0_1.length : Int)) = true := decide_eq_true c37
      clear c37
      by_cases c38 : 0 ≤ x54_1
      ·rw [if_pos c38] at H
       have c38b0 : decide (0 ≤ x54_1) = true := decide_eq_true c38
       clear c38
       by_cases c39 : x54_1 < (l0_1.length : Int)
       ·rw [if_pos c39] at H
        have c39b0 : decide (x54_1 < (l0_1.length : Int)) = true := decide_eq_true c39
        clear c39
        obtain ⟨t312, A40, H⟩ := zm H
        (try dsimp only at H)
        obtain ⟨ji41, hji41⟩ : ∃ j_ : Int, (wrap64 (x54_1 + 1)) = j_ := ⟨_, rfl⟩
        replace H : (if 0 ≤ (ji41) then (if (ji41) < (l0_3.length : Int) then ((ladingref03_Num.f k1 t312 (IntKind.u64.wrap (rd l0_3 (ji41)))).bind fun t316 => (ladingref06_text.l1 k1 t316 l0_1 (l0_1.length : Int) ji41 false l0_1 l0_2 l0_3)) else (none)) else (none)) = some r := by first | (rw [hji41] at H; exact H) | (simp only [hji41] at H ⊢; exact H)
        (try rw [hji41] at A40)
        have hji41w : (IntKind.i64.wrap (x54_1 + 1)) = ji41 := (i64_w _).trans hji41
        by_cases c42 : 0 ≤ (ji41)
        ·rw [if_pos c42] at H
         have c42b0 : decide (0 ≤ (ji41)) = true := decide_eq_true c42
         clear c42
         by_cases c43 : (ji41) < (l0_3.length : Int)
         ·rw [if_pos c43] at H
          have c43b0 : decide ((ji41) < (l0_3.length : Int)) = true := decide_eq_true c43
          clear c43
          obtain ⟨t316, A44, H⟩ := zm H
          (try dsimp only at H)
          have H' := Aside0.mk H
          clear H
          have p311 : 0 ≤ (x54_1 : Int) := of_decide_eq_true za_
          have q311 : x54_1 < (l0_1.length : Int) := of_decide_eq_true za_
          obtain ⟨ad311, A311_0, c311_0, e311, hx311_0, hl311_0, hi311_0⟩ := at_L1 HR0_1.out x54_1 p311 q311
          cases e311
          replace hx311_0 := zx_ HB.out hx311_0
          have HR311_0 := Aside0.mk hi311_0
          have HC311_0 := Aside0.mk hl311_0
          clear hi311_0 hl311_0
          replace p311 := eq_true p311
          replace q311 := eq_true q311
          try go_wp2
          have n0_ := Aside0.mk (Kd.R_drew HO_6.out)
          have n1_ := Aside0.mk (blk_drew BK286.out)
          have n2_ := Aside0.mk (below_drew1 HB.out)
          clear HO_6 BK286 HB
          have HO_6 := n0_
          have BK286 := n1_
          have HB := n2_
          clear n0_ n1_ n2_
          have p315 : 0 ≤ ((ji41) : Int) := of_decide_eq_true za_
          have q315 : (ji41) < (l0_3.length : Int) := of_decide_eq_true za_
          obtain ⟨ad315, e315, hx315_0⟩ := Kd.at_int HR0_3.out (ji41) p315 q315
          have hw315_0 := hx315_0
          obtain rfl : ad307 = ad315 := (by injection e315)
          replace hx315_0 := zx_ HB.out hx315_0
          replace p315 := eq_true p315
          replace q315 := eq_true q315
          obtain ⟨Ao46, co46, eo46⟩ := Kd.R_slice HO_6.out
          (first | subst eo46 | (injection eo46 with f1_ f2_ f3_; have f4_ := f1_.symm; have f5_ := f3_.symm; clear f1_ f2_ f3_; subst f4_; subst f5_))
          refine start_ (n := 13) (S := fun w' => w'.cell? ⟨gb286, 0, none⟩ = some (.bool false) ∧ w'.cell? ⟨gb286, 1, none⟩ = some (.slice (some ad311) l0_1.length c0_1) ∧ w'.cell? ⟨gb286, 2, none⟩ = some (.slice A0_2 l0_2.length c0_2) ∧ w'.cell? ⟨gb286, 3, none⟩ = some (.slice (some ad307) l0_3.length c0_3) ∧ (convert 27 9 (.slice A311_0 (rd_L1 l0_1 x54_1).length c311_0)).run Try.prog w' = .ok (.string (strOfNums (rd_L1 l0_1 x54_1))) w' ∧ w'.cell? (ad307.add ((ji41)).toNat) = some (.int .i64 (rd l0_3 (ji41)))) (ds := []) (zB 0 13) (by kernel_rfl) rfl rfl ⟨(blk_cell BK286.out 0).trans rfl, (blk_cell BK286.out 1).trans rfl, (blk_cell BK286.out 2).trans rfl, (blk_cell BK286.out 3).trans rfl, (Kd.C_string (P := Try.prog) (A := A311_0) (c := c311_0) Try.underlying27 Try.underlying5 Try.underlying9 (Kd.C_below HR311_0.out HB.out)), ((HB.out.cell (World.block_lt_of_cell? w _ hw315_0)).trans hw315_0)⟩ (fun hHeld => ?_); refine with_tabW ladingref06_text.tab14 ladingref06_text.bits14 (fun HT_ HW_ => ?_)
          generalize wr.drew = w45 at HO_6 BK286 HB hx315_0 hHeld ⊢
          refine zpu 0 (some 59) (zB 1 12) (any_of HT_.out (by kernel_rfl)) ?_
          refine zpu 1 (some 60) (zB 2 11) (any_of HT_.out (by kernel_rfl)) ?_
          refine zpu 4 (some 63) #[true, true, false, false, true, false, false, false, false, false, false, false, false] (any_of HT_.out (by kernel_rfl)) ?_
          refine zpu 6 (some 65) #[true, true, false, false, true, false, true, false, false, false, false, false, false] (any_of HT_.out (by kernel_rfl)) ?_
          refine zpu 7 (some 66) #[true, true, false, false, true, false, true, true, false, false, false, false, false] (any_of HT_.out (by kernel_rfl)) ?_
          refine zta 2 (some 61) #[true, true, true, false, true, false, true, true, false, false, false, false, false] (take_ofW HT_.out HW_.out (by kernel_rfl)) hHeld ?_
          refine zta 5 (some 64) #[true, true, true, false, true, true, true, true, false, false, false, false, false] (take_ofW HT_.out HW_.out (by kernel_rfl)) hHeld ?_
          refine zpu 8 (some 67) #[true, true, true, false, true, true, true, true, true, false, false, false, false] (any_of HT_.out (by kernel_rfl)) ?_
          refine zta 9 (some 68) #[true, true, true, false, true, true, true, true, true, true, false, false, false] (take_ofW HT_.out HW_.out (by kernel_rfl)) hHeld ?_
          refine zpu 10 (some 69) #[true, true, true, false, true, true, true, true, true, true, true, false, false] (any_of HT_.out (by kernel_rfl)) ?_
          refine one_ (i := 3) (N := some 62) (zB 11 2) rfl rfl (one_of HT_.out (by kernel_rfl)) (by decide) (fun K hK => ?_)
          refine goes_ Try.func65 (by kernel_rfl) rfl #[.slice Ao46 x6_1.length co46, .string (strOfNums (rd_L1 l0_1 x54_1))] (by rfl) rfl rfl zl_ ?_
          with_reducible refine (ladingref03_Text.calls k1 _ _ x6_1 (strOfNums (rd_L1 l0_1 x54_1)) t312 _ ?side1 ?side2 A40.out).mono ?_
          (case side1 => repeat (first | exact (Kd.R_reads' HO_6.out).2.2 | (with_reducible refine Kd.C_alloc ?_ _) | (with_reducible refine Kd.C_drewN ?_ _) | (with_reducible refine Kd.C_drew ?_)))
          (case side2 => exact (Kd.R_reads' HO_6.out).2.1)
          rintro e w47 ⟨v313, rfl, ho0, hb⟩
          refine ⟨_, rfl, ?_⟩
          have n0_ := Aside0.mk (Kd.R_elder' (zR_ HO_6.out) (Kd.R_base ho0) hb)
          have n1_ := Aside0.mk (Kd.R_lower (Kd.R_new' ho0 (Kd.R_lt (zR_ HO_6.out))) (below_size (zh1_ HB.out GE286.out)))
          have n2_ := Aside0.mk (blk_below (g := gb286) (o := .cells #[.bool false, .slice (some ad311) l0_1.length c0_1, .slice A0_2 l0_2.length c0_2, .slice (some ad307) l0_3.length c0_3] 26 (0, 0)) (zb_ BK286.out) hb)
          have n3_ := Aside0.mk (below_step (zh1_ HB.out GE286.out) hb)
          clear HO_6 BK286 HB
          have HO_6 := n0_
          have HO314 := n1_
          have BK286 := n2_
          have HB := n3_
          clear n0_ n1_ n2_ n3_
          (try clear hb)
          (try clear hb2)
          (try clear hk)
          (try clear hi)
          (try clear ho0)
          obtain ⟨Ao48, co48, eo48⟩ := Kd.R_slice HO314.out
          (first | subst eo48 | (injection eo48 with f1_ f2_ f3_; have f4_ := f1_.symm; have f5_ := f3_.symm; clear f1_ f2_ f3_; subst f4_; subst f5_))
          refine hK.out _ _ ⟨(blk_cell BK286.out 0).trans rfl, (blk_cell BK286.out 1).trans rfl, (blk_cell BK286.out 2).trans rfl, (blk_cell BK286.out 3).trans rfl, (Kd.C_string (P := Try.prog) (A := A311_0) (c := c311_0) Try.underlying27 Try.underlying5 Try.underlying9 (Kd.C_below HR311_0.out HB.out)), ((HB.out.cell (World.block_lt_of_cell? w _ hw315_0)).trans hw315_0)⟩ (fun hHeld => ?_)
          clear hK K
          refine zno 62 ?_
          refine one_ (i := 11) (N := some 70) (zB 12 1) rfl rfl (one_of HT_.out (by kernel_rfl)) (by decide) (fun K hK => ?_)
          refine goes_ Try.func64 (by kernel_rfl) rfl #[.slice Ao48 t312.length co48, .int .u64 (IntKind.u64.wrap (rd l0_3 (ji41)))] (by rfl) rfl rfl (by (try simp only [List.map_toArray, List.map_cons, List.map_nil]); first | done | (simp only [hji41]; rfl) | rfl | (simp only [List.length_drop, List.length_take]; rfl)) ?_
          with_reducible refine (ladingref03_Num.calls k1 _ _ t312 (IntKind.u64.wrap (rd l0_3 (ji41))) t316 _ ?side1 ?side2 A44.out).mono ?_
          (case side1 => repeat (first | exact (Kd.R_reads' HO314.out).2.2 | (with_reducible refine Kd.C_alloc ?_ _) | (with_reducible refine Kd.C_drewN ?_ _) | (with_reducible refine Kd.C_drew ?_)))
          (case side2 => exact (Kd.R_reads' HO314.out).2.1)
          rintro e w49 ⟨v317, rfl, ho0, hb⟩
          refine ⟨_, rfl, ?_⟩
          have n0_ := Aside0.mk (Kd.R_elder' (zR_ HO_6.out) (Kd.R_base ho0) hb)
          have n1_ := Aside0.mk (Kd.R_elder' (zR_ HO314.out) (Kd.R_base ho0) hb)
          have n2_ := Aside0.mk (Kd.R_lower (Kd.R_new' (Kd.R_new' ho0 (Kd.R_lt (zR_ HO_6.out))) (Kd.R_lt (zR_ HO314.out))) (below_size (zh1_ HB.out GE286.out)))
          have n3_ := Aside0.mk (blk_below (g := gb286) (o := .cells #[.bool false, .slice (some ad311) l0_1.length c0_1, .slice A0_2 l0_2.length c0_2, .slice (some ad307) l0_3.length c0_3] 26 (0, 0)) (zb_ BK286.out) hb)
          have n4_ := Aside0.mk (below_step (zh1_ HB.out GE286.out) hb)
          clear HO_6 HO314 BK286 HB
          have HO_6 := n0_
          have HO314 := n1_
          have HO318 := n2_
          have BK286 := n3_
          have HB := n4_
          clear n0_ n1_ n2_ n3_ n4_
          (try clear hb)
          (try clear hb2)
          (try clear hk)
          (try clear hi)
          (try clear ho0)
          refine hK.out _ _ ⟨(blk_cell BK286.out 0).trans rfl, (blk_cell BK286.out 1).trans rfl, (blk_cell BK286.out 2).trans rfl, (blk_cell BK286.out 3).trans rfl, (Kd.C_string (P := Try.prog) (A := A311_0) (c := c311_0) Try.underlying27 Try.underlying5 Try.underlying9 (Kd.C_below HR311_0.out HB.out)), ((HB.out.cell (World.block_lt_of_cell? w _ hw315_0)).trans hw315_0)⟩ (fun hHeld => ?_)
          clear hK K
          refine zno 70 ?_
          refine zpu 12 (some 6) (zB 13 0) (any_of HT_.out (by kernel_rfl)) ?_
          refine done_ (done_of HT_.out (by kernel_rfl)) ?_
          try go_wp2
          go_roundg k1
          case measure => have := HK1.out; omega
          case rel => exact ⟨(t316), (ji41), (by first | rfl | (simp; done) | (simp only [← hji41] <;> (first | rfl | simp)) | (simp [*]; done)), H', ⟨by have := HK1.out; omega⟩, ⟨by (with_reducible repeat (first | apply Kd.R_alloc | apply Kd.R_drewN | apply Kd.R_drew)); exact Kd.R_mono HO318.out (fun _ hk => trivial)⟩, ⟨by (with_reducible repeat (first | refine blk_drewN ?_ _ | refine blk_drew ?_ | refine blk_alloc ?_ _)); exact BK286.out⟩, ⟨by exact zh1_ HB.out GE286.out⟩⟩
         ·rw [if_neg c43] at H
          cases H
        ·rw [if_neg c42] at H
         cases H
       ·rw [if_neg c39] at H
        cases H
      ·rw [if_neg c38] at H
       cases H
     ·rw [if_neg c37] at H
      have c37b0 : decide (x54_1 < (l0_1.length : Int)) = false := decide_eq_false c37
      clear c37
      obtain rfl := Option.some.inj H
      go_wp2
      go_ret
      exact ⟨_, by first | rfl | (simp [errW_none, errW_some] <;> rfl) | (simp [*, errW_none, errW_some] <;> rfl), by (with_reducible repeat (first | apply Kd.R_alloc | apply Kd.R_drewN | apply Kd.R_drew)); exact HO_6.out, by exact zh1_ HB.out GE286.out⟩
  ·rw [if_neg c24] at H
   cases H
end Go.Proofs.Ytcbgichkeecgiaa.Print
namespace Go.Proofs.Ytcbgichkeecgiaa.Print
open Go.RowKit Go.Proofs.YtcbgichkeecgiaaW.PrintWords Go.Proofs.YtcbgichkeecgiaaW.PrintLast Go.Proofs.YtcbgichkeecgiaaW.PrintMore
attribute [local go_sem] max2_mx min2_mn max_two min_two max_three min_three max_four min_four
set_option linter.unusedVariables false
set_option linter.unusedSimpArgs false
def ladingref06_Size.f (k : Nat) (a0_0 : Bool) (l0_1 : List (List Int)) (l0_2 : List (List Int)) (l0_3 : List Int) : Option (Int) := (ladingref06_made.f k a0_0 l0_1 l0_2 l0_3).bind fun t320 => (if t320 = true then ((ladingref06_text.f k a0_0 l0_1 l0_2 l0_3).bind fun t321 => (some (wrap64 ((t321.length : Int) + 4)))) else (some 0))
theorem ladingref06_Size.mono : ∀ a0 a1 a2 a3 k, LeO (ladingref06_Size.f k a0 a1 a2 a3) (ladingref06_Size.f (k + 1) a0 a1 a2 a3) := by
 intro a0 a1 a2 a3 k
 unfold ladingref06_Size.f
 repeat' first
   | (with_reducible exact ladingref06_made.mono _ _ _ _ _)
   | (with_reducible exact ladingref06_text.mono _ _ _ _ _)
   | (with_reducible exact LeO.refl _)
   | (with_reducible exact LeO.none _)
   | (with_reducible refine LeO.ite ?_ ?_)
   | (with_reducible refine LeO.bind ?_ (fun _ => ?_))
   | exact ladingref06_made.mono _ _ _ _ _
   | exact ladingref06_text.mono _ _ _ _ _
   | exact LeO.none _
   | refine LeO.ite ?_ ?_
   | refine LeO.bind ?_ (fun _ => ?_)
set_option maxHeartbeats 8000000 in
set_option maxRecDepth 100000 in
theorem ladingref06_Size.calls (k : Nat) (a0_0 : Bool) (A0_1 : Option Addr) (c0_1 : Nat) (l0_1 : List (List Int)) (A0_2 : Option Addr) (c0_2 : Nat) (l0_2 : List (List Int)) (A0_3 : Option Addr) (c0_3 : Nat) (l0_3 : List Int) (r : Int) (w : World) (hr0_1 : Kd.C (Kd.slice 5 (Kd.int .u8)) w A0_1 l0_1.length l0_1) (hc0_1 : l0_1.length ≤ c0_1) (hr0_2 : Kd.C (Kd.slice 5 (Kd.int .u8)) w A0_2 l0_2.length l0_2) (hc0_2 : l0_2.length ≤ c0_2) (hr0_3 : Kd.C (Kd.int .i64) w A0_3 l0_3.length l0_3) (hc0_3 : l0_3.length ≤ c0_3) (h : ladingref06_Size.f k a0_0 l0_1 l0_2 l0_3 = some r) :
  Calls Try.prog 35 #[.agg #[.bool a0_0, .slice A0_1 l0_1.length c0_1, .slice A0_2 l0_2.length c0_2, .slice A0_3 l0_3.length c0_3]] w fun e w' => e = .returned (.int .i64 r) ∧ Below w.heap.size w w' := by
 have hu26 := Try.underlying26
 have HR0_1 := Aside0.mk hr0_1
 have HC0_1 := Aside0.mk hc0_1
 clear hr0_1 hc0_1
 have HR0_2 := Aside0.mk hr0_2
 have HC0_2 := Aside0.mk hc0_2
 clear hr0_2 hc0_2
 have HR0_3 := Aside0.mk hr0_3
 have HC0_3 := Aside0.mk hc0_3
 clear hr0_3 hc0_3
 have HB := Aside0.mk (Below.refl w.heap.size w)
 have H : ((ladingref06_made.f k a0_0 l0_1 l0_2 l0_3).bind fun t320 => (if t320 = true then ((ladingref06_text.f k a0_0 l0_1 l0_2 l0_3).bind fun t321 => (some (wrap64 ((t321.length : Int) + 4)))) else (some 0))) = some r := h
 clear h
 obtain ⟨t320, A2, H⟩ := zm H
 (try dsimp only at H)
 by_cases c3 : t320 = true
 ·subst c3
  replace H := (if_pos (rfl : true = true)).symm.trans H
  obtain ⟨t321, A4, H⟩ := zm H
  (try dsimp only at H)
  obtain rfl := Option.some.inj H
  go_enter Try.func35, Try.ntmps35
  go_wp2_with (first | ((with_reducible refine gate_dst (N := 1) rfl ?_); refine box_event ?hg (N := 1) ?hd (cs := #[.bool a0_0, .slice A0_1 l0_1.length c0_1, .slice A0_2 l0_2.length c0_2, .slice A0_3 l0_3.length c0_3]) (t := 26) ?hr ?_; (case hd => rfl); (case hg => rfl); (case hr => first | (go_simp; done) | (go_simp; rfl)); intro gb319 hg w5 hbox hb; have BK319 := Aside0.mk (hbox); have GW319 := Aside0.mk ((by rw [hg]; exact (below_size (zh0_ HB.out)) : w.heap.size ≤ gb319)); have GE319 := Aside0.mk ((by rw [hg]; exact (below_size (zh0_ HB.out)) : w.heap.size ≤ gb319)); replace HB := Aside0.mk (below_step (zh0_ HB.out) hb); clear hb hbox hg; obtain ⟨hcz6_0, hcz6_1, hcz6_2, hcz6_3⟩ := zc4 BK319.out; obtain ⟨hfz6_0, hfz6_1, hfz6_2, hfz6_3⟩ := zz4 BK319.out) | ((with_reducible refine gate_callee (f := 52) rfl ?_); refine goesL_ (some 4) rfl rfl Try.func52 (by kernel_rfl) rfl #[.agg #[.bool a0_0, .slice A0_1 l0_1.length c0_1, .slice A0_2 l0_2.length c0_2, .slice A0_3 l0_3.length c0_3]] rfl zl_ ?_; (with_reducible refine (ladingref06_made.calls k a0_0 _ _ l0_1 _ _ l0_2 _ _ l0_3 true _ ?side1 ?side2 ?side3 ?side4 ?side5 ?side6 A2.out).mono ?_); (case side1 => exact zc_ (Kd.C_below HR0_1.out HB.out)); (case side2 => exact HC0_1.out); (case side3 => exact zc_ (Kd.C_below HR0_2.out HB.out)); (case side4 => exact HC0_2.out); (case side5 => exact zc_ (Kd.C_below HR0_3.out HB.out)); (case side6 => exact HC0_3.out); rintro e w7 ⟨rfl, hb⟩; refine ⟨_, rfl, ?_⟩; replace BK319 := Aside0.mk (blk_below (g := gb319) (o := .cells #[.bool a0_0, .slice A0_1 l0_1.length c0_1, .slice A0_2 l0_2.length c0_2, .slice A0_3 l0_3.length c0_3] 26 (0, 0)) (zb_ BK319.out) hb); replace HB := Aside0.mk (below_step (zh1_ HB.out GE319.out) hb); (try clear hb); obtain ⟨hcz8_0, hcz8_1, hcz8_2, hcz8_3⟩ := zc4 BK319.out; obtain ⟨hfz8_0, hfz8_1, hfz8_2, hfz8_3⟩ := zz4 BK319.out) | ((with_reducible refine gate_callee (f := 53) rfl ?_); refine goesL_ (some 7) rfl rfl Try.func53 (by kernel_rfl) rfl #[.agg #[.bool a0_0, .slice A0_1 l0_1.length c0_1, .slice A0_2 l0_2.length c0_2, .slice A0_3 l0_3.length c0_3]] rfl zl_ ?_; (with_reducible refine (ladingref06_text.calls k a0_0 _ _ l0_1 _ _ l0_2 _ _ l0_3 t321 _ ?side1 ?side2 ?side3 ?side4 ?side5 ?side6 A4.out).mono ?_); (case side1 => exact zc_ (Kd.C_below HR0_1.out HB.out)); (case side2 => exact HC0_1.out); (case side3 => exact zc_ (Kd.C_below HR0_2.out HB.out)); (case side4 => exact HC0_2.out); (case side5 => exact zc_ (Kd.C_below HR0_3.out HB.out)); (case side6 => exact HC0_3.out); rintro e w9 ⟨v322, rfl, ho0, hb⟩; refine ⟨_, rfl, ?_⟩; have HO323 := Aside0.mk (Kd.R_lower ho0 (below_size (zh1_ HB.out GE319.out))); replace BK319 := Aside0.mk (blk_below (g := gb319) (o := .cells #[.bool a0_0, .slice A0_1 l0_1.length c0_1, .slice A0_2 l0_2.length c0_2, .slice A0_3 l0_3.length c0_3] 26 (0, 0)) (zb_ BK319.out) hb); replace HB := Aside0.mk (below_step (zh1_ HB.out GE319.out) hb); (try clear hb); (try clear ho0); obtain ⟨Ao10, co10, eo10⟩ := Kd.R_slice HO323.out; subst eo10))
  go_ret
  exact ⟨by first | rfl | (simp [errW_none, errW_some] <;> rfl) | (simp [*, errW_none, errW_some] <;> rfl), by exact zh1_ HB.out GE319.out⟩
 ·replace c3 := Bool.eq_false_iff.mpr c3
  subst c3
  replace H := (if_neg (show ¬ (false = true) by decide)).symm.trans H
  obtain rfl := Option.some.inj H
  go_enter Try.func35, Try.ntmps35
  go_wp2_with (first | ((with_reducible refine gate_dst (N := 1) rfl ?_); refine box_event ?hg (N := 1) ?hd (cs := #[.bool a0_0, .slice A0_1 l0_1.length c0_1, .slice A0_2 l0_2.length c0_2, .slice A0_3 l0_3.length c0_3]) (t := 26) ?hr ?_; (case hd => rfl); (case hg => rfl); (case hr => first | (go_simp; done) | (go_simp; rfl)); intro gb319 hg w11 hbox hb; have BK319 := Aside0.mk (hbox); have GW319 := Aside0.mk ((by rw [hg]; exact (below_size (zh0_ HB.out)) : w.heap.size ≤ gb319)); have GE319 := Aside0.mk ((by rw [hg]; exact (below_size (zh0_ HB.out)) : w.heap.size ≤ gb319)); replace HB := Aside0.mk (below_step (zh0_ HB.out) hb); clear hb hbox hg; obtain ⟨hcz12_0, hcz12_1, hcz12_2, hcz12_3⟩ := zc4 BK319.out; obtain ⟨hfz12_0, hfz12_1, hfz12_2, hfz12_3⟩ := zz4 BK319.out) | ((with_reducible refine gate_callee (f := 52) rfl ?_); refine goesL_ (some 4) rfl rfl Try.func52 (by kernel_rfl) rfl #[.agg #[.bool a0_0, .slice A0_1 l0_1.length c0_1, .slice A0_2 l0_2.length c0_2, .slice A0_3 l0_3.length c0_3]] rfl zl_ ?_; (with_reducible refine (ladingref06_made.calls k a0_0 _ _ l0_1 _ _ l0_2 _ _ l0_3 false _ ?side1 ?side2 ?side3 ?side4 ?side5 ?side6 A2.out).mono ?_); (case side1 => exact zc_ (Kd.C_below HR0_1.out HB.out)); (case side2 => exact HC0_1.out); (case side3 => exact zc_ (Kd.C_below HR0_2.out HB.out)); (case side4 => exact HC0_2.out); (case side5 => exact zc_ (Kd.C_below HR0_3.out HB.out)); (case side6 => exact HC0_3.out); rintro e w13 ⟨rfl, hb⟩; refine ⟨_, rfl, ?_⟩; replace BK319 := Aside0.mk (blk_below (g := gb319) (o := .cells #[.bool a0_0, .slice A0_1 l0_1.length c0_1, .slice A0_2 l0_2.length c0_2, .slice A0_3 l0_3.length c0_3] 26 (0, 0)) (zb_ BK319.out) hb); replace HB := Aside0.mk (below_step (zh1_ HB.out GE319.out) hb); (try clear hb)))
  go_ret
  exact ⟨by first | rfl | (simp [errW_none, errW_some] <;> rfl) | (simp [*, errW_none, errW_some] <;> rfl), by exact zh1_ HB.out GE319.out⟩
def ladingref06_Check.f (k : Nat) (a0_0 : Bool) (l0_1 : List (List Int)) (l0_2 : List (List Int)) (l0_3 : List Int) : Option (Int) := (ladingref06_made.f k a0_0 l0_1 l0_2 l0_3).bind fun t325 => (if t325 = true then ((ladingref06_Size.f k a0_0 l0_1 l0_2 l0_3).bind fun t326 => (if t326 > 4096 then (some 7) else (some 0))) else (some 2))
theorem ladingref06_Check.mono : ∀ a0 a1 a2 a3 k, LeO (ladingref06_Check.f k a0 a1 a2 a3) (ladingref06_Check.f (k + 1) a0 a1 a2 a3) := by
 intro a0 a1 a2 a3 k
 unfold ladingref06_Check.f
 repeat' first
   | (with_reducible exact ladingref06_Size.mono _ _ _ _ _)
   | (with_reducible exact ladingref06_made.mono _ _ _ _ _)
   | (with_reducible exact LeO.refl _)
   | (with_reducible exact LeO.none _)
   | (with_reducible refine LeO.ite ?_ ?_)
   | (with_reducible refine LeO.bind ?_ (fun _ => ?_))
   | exact ladingref06_Size.mono _ _ _ _ _
   | exact ladingref06_made.mono _ _ _ _ _
   | exact LeO.none _
   | refine LeO.ite ?_ ?_
   | refine LeO.bind ?_ (fun _ => ?_)
set_option maxHeartbeats 8000000 in
set_option maxRecDepth 100000 in
theorem ladingref06_Check.calls (k : Nat) (a0_0 : Bool) (A0_1 : Option Addr) (c0_1 : Nat) (l0_1 : List (List Int)) (A0_2 : Option Addr) (c0_2 : Nat) (l0_2 : List (List Int)) (A0_3 : Option Addr) (c0_3 : Nat) (l0_3 : List Int) (r : Int) (w : World) (hr0_1 : Kd.C (Kd.slice 5 (Kd.int .u8)) w A0_1 l0_1.length l0_1) (hc0_1 : l0_1.length ≤ c0_1) (hr0_2 : Kd.C (Kd.slice 5 (Kd.int .u8)) w A0_2 l0_2.length l0_2) (hc0_2 : l0_2.length ≤ c0_2) (hr0_3 : Kd.C (Kd.int .i64) w A0_3 l0_3.length l0_3) (hc0_3 : l0_3.length ≤ c0_3) (h : ladingref06_Check.f k a0_0 l0_1 l0_2 l0_3 = some r) :
  Calls Try.prog 31 #[.agg #[.bool a0_0, .slice A0_1 l0_1.length c0_1, .slice A0_2 l0_2.length c0_2, .slice A0_3 l0_3.length c0_3]] w fun e w' => e = .returned (.int .i64 r) ∧ Below w.heap.size w w' := by
 have hu26 := Try.underlying26
 have HR0_1 := Aside0.mk hr0_1
 have HC0_1 := Aside0.mk hc0_1
 clear hr0_1 hc0_1
 have HR0_2 := Aside0.mk hr0_2
 have HC0_2 := Aside0.mk hc0_2
 clear hr0_2 hc0_2
 have HR0_3 := Aside0.mk hr0_3
 have HC0_3 := Aside0.mk hc0_3
 clear hr0_3 hc0_3
 have HB := Aside0.mk (Below.refl w.heap.size w)
 have H : ((ladingref06_made.f k a0_0 l0_1 l0_2 l0_3).bind fun t325 => (if t325 = true then ((ladingref06_Size.f k a0_0 l0_1 l0_2 l0_3).bind fun t326 => (if t326 > 4096 then (some 7) else (some 0))) else (some 2))) = some r := h
 clear h
 obtain ⟨t325, A2, H⟩ := zm H
 (try dsimp only at H)
 by_cases c3 : t325 = true
 ·subst c3
  replace H := (if_pos (rfl : true = true)).symm.trans H
  obtain ⟨t326, A4, H⟩ := zm H
  (try dsimp only at H)
  by_cases c5 : t326 > 4096
  ·rw [if_pos c5] at H
   have c5b0 : decide (4096 < t326) = true := decide_eq_true c5
   clear c5
   obtain rfl := Option.some.inj H
   go_enter Try.func31, Try.ntmps31
   go_wp2_with (first | ((with_reducible refine gate_dst (N := 1) rfl ?_); refine box_event ?hg (N := 1) ?hd (cs := #[.bool a0_0, .slice A0_1 l0_1.length c0_1, .slice A0_2 l0_2.length c0_2, .slice A0_3 l0_3.length c0_3]) (t := 26) ?hr ?_; (case hd => rfl); (case hg => rfl); (case hr => first | (go_simp; done) | (go_simp; rfl)); intro gb324 hg w6 hbox hb; have BK324 := Aside0.mk (hbox); have GW324 := Aside0.mk ((by rw [hg]; exact (below_size (zh0_ HB.out)) : w.heap.size ≤ gb324)); have GE324 := Aside0.mk ((by rw [hg]; exact (below_size (zh0_ HB.out)) : w.heap.size ≤ gb324)); replace HB := Aside0.mk (below_step (zh0_ HB.out) hb); clear hb hbox hg; obtain ⟨hcz7_0, hcz7_1, hcz7_2, hcz7_3⟩ := zc4 BK324.out; obtain ⟨hfz7_0, hfz7_1, hfz7_2, hfz7_3⟩ := zz4 BK324.out) | ((with_reducible refine gate_callee (f := 52) rfl ?_); refine goesL_ (some 5) rfl rfl Try.func52 (by kernel_rfl) rfl #[.agg #[.bool a0_0, .slice A0_1 l0_1.length c0_1, .slice A0_2 l0_2.length c0_2, .slice A0_3 l0_3.length c0_3]] rfl zl_ ?_; (with_reducible refine (ladingref06_made.calls k a0_0 _ _ l0_1 _ _ l0_2 _ _ l0_3 true _ ?side1 ?side2 ?side3 ?side4 ?side5 ?side6 A2.out).mono ?_); (case side1 => exact zc_ (Kd.C_below HR0_1.out HB.out)); (case side2 => exact HC0_1.out); (case side3 => exact zc_ (Kd.C_below HR0_2.out HB.out)); (case side4 => exact HC0_2.out); (case side5 => exact zc_ (Kd.C_below HR0_3.out HB.out)); (case side6 => exact HC0_3.out); rintro e w8 ⟨rfl, hb⟩; refine ⟨_, rfl, ?_⟩; replace BK324 := Aside0.mk (blk_below (g := gb324) (o := .cells #[.bool a0_0, .slice A0_1 l0_1.length c0_1, .slice A0_2 l0_2.length c0_2, .slice A0_3 l0_3.length c0_3] 26 (0, 0)) (zb_ BK324.out) hb); replace HB := Aside0.mk (below_step (zh1_ HB.out GE324.out) hb); (try clear hb); obtain ⟨hcz9_0, hcz9_1, hcz9_2, hcz9_3⟩ := zc4 BK324.out; obtain ⟨hfz9_0, hfz9_1, hfz9_2, hfz9_3⟩ := zz4 BK324.out) | ((with_reducible refine gate_callee (f := 35) rfl ?_); refine goesL_ (some 9) rfl rfl Try.func35 (by kernel_rfl) rfl #[.agg #[.bool a0_0, .slice A0_1 l0_1.length c0_1, .slice A0_2 l0_2.length c0_2, .slice A0_3 l0_3.length c0_3]] rfl zl_ ?_; (with_reducible refine (ladingref06_Size.calls k a0_0 _ _ l0_1 _ _ l0_2 _ _ l0_3 t326 _ ?side1 ?side2 ?side3 ?side4 ?side5 ?side6 A4.out).mono ?_); (case side1 => exact zc_ (Kd.C_below HR0_1.out HB.out)); (case side2 => exact HC0_1.out); (case side3 => exact zc_ (Kd.C_below HR0_2.out HB.out)); (case side4 => exact HC0_2.out); (case side5 => exact zc_ (Kd.C_below HR0_3.out HB.out)); (case side6 => exact HC0_3.out); rintro e w10 ⟨rfl, hb⟩; refine ⟨_, rfl, ?_⟩; replace BK324 := Aside0.mk (blk_below (g := gb324) (o := .cells #[.bool a0_0, .slice A0_1 l0_1.length c0_1, .slice A0_2 l0_2.length c0_2, .slice A0_3 l0_3.length c0_3] 26 (0, 0)) (zb_ BK324.out) hb); replace HB := Aside0.mk (below_step (zh1_ HB.out GE324.out) hb); (try clear hb)))
   go_ret
   exact ⟨by first | rfl | (simp [errW_none, errW_some] <;> rfl) | (simp [*, errW_none, errW_some] <;> rfl), by exact zh1_ HB.out GE324.out⟩
  ·rw [if_neg c5] at H
   have c5b0 : decide (4096 < t326) = false := decide_eq_false c5
   clear c5
   obtain rfl := Option.some.inj H
   go_enter Try.func31, Try.ntmps31
   go_wp2_with (first | ((with_reducible refine gate_dst (N := 1) rfl ?_); refine box_event ?hg (N := 1) ?hd (cs := #[.bool a0_0, .slice A0_1 l0_1.length c0_1, .slice A0_2 l0_2.length c0_2, .slice A0_3 l0_3.length c0_3]) (t := 26) ?hr ?_; (case hd => rfl); (case hg => rfl); (case hr => first | (go_simp; done) | (go_simp; rfl)); intro gb324 hg w11 hbox hb; have BK324 := Aside0.mk (hbox); have GW324 := Aside0.mk ((by rw [hg]; exact (below_size (zh0_ HB.out)) : w.heap.size ≤ gb324)); have GE324 := Aside0.mk ((by rw [hg]; exact (below_size (zh0_ HB.out)) : w.heap.size ≤ gb324)); replace HB := Aside0.mk (below_step (zh0_ HB.out) hb); clear hb hbox hg; obtain ⟨hcz12_0, hcz12_1, hcz12_2, hcz12_3⟩ := zc4 BK324.out; obtain ⟨hfz12_0, hfz12_1, hfz12_2, hfz12_3⟩ := zz4 BK324.out) | ((with_reducible refine gate_callee (f := 52) rfl ?_); refine goesL_ (some 5) rfl rfl Try.func52 (by kernel_rfl) rfl #[.agg #[.bool a0_0, .slice A0_1 l0_1.length c0_1, .slice A0_2 l0_2.length c0_2, .slice A0_3 l0_3.length c0_3]] rfl zl_ ?_; (with_reducible refine (ladingref06_made.calls k a0_0 _ _ l0_1 _ _ l0_2 _ _ l0_3 true _ ?side1 ?side2 ?side3 ?side4 ?side5 ?side6 A2.out).mono ?_); (case side1 => exact zc_ (Kd.C_below HR0_1.out HB.out)); (case side2 => exact HC0_1.out); (case side3 => exact zc_ (Kd.C_below HR0_2.out HB.out)); (case side4 => exact HC0_2.out); (case side5 => exact zc_ (Kd.C_below HR0_3.out HB.out)); (case side6 => exact HC0_3.out); rintro e w13 ⟨rfl, hb⟩; refine ⟨_, rfl, ?_⟩; replace BK324 := Aside0.mk (blk_below (g := gb324) (o := .cells #[.bool a0_0, .slice A0_1 l0_1.length c0_1, .slice A0_2 l0_2.length c0_2, .slice A0_3 l0_3.length c0_3] 26 (0, 0)) (zb_ BK324.out) hb); replace HB := Aside0.mk (below_step (zh1_ HB.out GE324.out) hb); (try clear hb); obtain ⟨hcz14_0, hcz14_1, hcz14_2, hcz14_3⟩ := zc4 BK324.out; obtain ⟨hfz14_0, hfz14_1, hfz14_2, hfz14_3⟩ := zz4 BK324.out) | ((with_reducible refine gate_callee (f := 35) rfl ?_); refine goesL_ (some 9) rfl rfl Try.func35 (by kernel_rfl) rfl #[.agg #[.bool a0_0, .slice A0_1 l0_1.length c0_1, .slice A0_2 l0_2.length c0_2, .slice A0_3 l0_3.length c0_3]] rfl zl_ ?_; (with_reducible refine (ladingref06_Size.calls k a0_0 _ _ l0_1 _ _ l0_2 _ _ l0_3 t326 _ ?side1 ?side2 ?side3 ?side4 ?side5 ?side6 A4.out).mono ?_); (case side1 => exact zc_ (Kd.C_below HR0_1.out HB.out)); (case side2 => exact HC0_1.out); (case side3 => exact zc_ (Kd.C_below HR0_2.out HB.out)); (case side4 => exact HC0_2.out); (case side5 => exact zc_ (Kd.C_below HR0_3.out HB.out)); (case side6 => exact HC0_3.out); rintro e w15 ⟨rfl, hb⟩; refine ⟨_, rfl, ?_⟩; replace BK324 := Aside0.mk (blk_below (g := gb324) (o := .cells #[.bool a0_0, .slice A0_1 l0_1.length c0_1, .slice A0_2 l0_2.length c0_2, .slice A0_3 l0_3.length c0_3] 26 (0, 0)) (zb_ BK324.out) hb); replace HB := Aside0.mk (below_step (zh1_ HB.out GE324.out) hb); (try clear hb)))
   go_ret
   exact ⟨by first | rfl | (simp [errW_none, errW_some] <;> rfl) | (simp [*, errW_none, errW_some] <;> rfl), by exact zh1_ HB.out GE324.out⟩
 ·replace c3 := Bool.eq_false_iff.mpr c3
  subst c3
  replace H := (if_neg (show ¬ (false = true) by decide)).symm.trans H
  obtain rfl := Option.some.inj H
  go_enter Try.func31, Try.ntmps31
  go_wp2_with (first | ((with_reducible refine gate_dst (N := 1) rfl ?_); refine box_event ?hg (N := 1) ?hd (cs := #[.bool a0_0, .slice A0_1 l0_1.length c0_1, .slice A0_2 l0_2.length c0_2, .slice A0_3 l0_3.length c0_3]) (t := 26) ?hr ?_; (case hd => rfl); (case hg => rfl); (case hr => first | (go_simp; done) | (go_simp; rfl)); intro gb324 hg w16 hbox hb; have BK324 := Aside0.mk (hbox); have GW324 := Aside0.mk ((by rw [hg]; exact (below_size (zh0_ HB.out)) : w.heap.size ≤ gb324)); have GE324 := Aside0.mk ((by rw [hg]; exact (below_size (zh0_ HB.out)) : w.heap.size ≤ gb324)); replace HB := Aside0.mk (below_step (zh0_ HB.out) hb); clear hb hbox hg; obtain ⟨hcz17_0, hcz17_1, hcz17_2, hcz17_3⟩ := zc4 BK324.out; obtain ⟨hfz17_0, hfz17_1, hfz17_2, hfz17_3⟩ := zz4 BK324.out) | ((with_reducible refine gate_callee (f := 52) rfl ?_); refine goesL_ (some 5) rfl rfl Try.func52 (by kernel_rfl) rfl #[.agg #[.bool a0_0, .slice A0_1 l0_1.length c0_1, .slice A0_2 l0_2.length c0_2, .slice A0_3 l0_3.length c0_3]] rfl zl_ ?_; (with_reducible refine (ladingref06_made.calls k a0_0 _ _ l0_1 _ _ l0_2 _ _ l0_3 false _ ?side1 ?side2 ?side3 ?side4 ?side5 ?side6 A2.out).mono ?_); (case side1 => exact zc_ (Kd.C_below HR0_1.out HB.out)); (case side2 => exact HC0_1.out); (case side3 => exact zc_ (Kd.C_below HR0_2.out HB.out)); (case side4 => exact HC0_2.out); (case side5 => exact zc_ (Kd.C_below HR0_3.out HB.out)); (case side6 => exact HC0_3.out); rintro e w18 ⟨rfl, hb⟩; refine ⟨_, rfl, ?_⟩; replace BK324 := Aside0.mk (blk_below (g := gb324) (o := .cells #[.bool a0_0, .slice A0_1 l0_1.length c0_1, .slice A0_2 l0_2.length c0_2, .slice A0_3 l0_3.length c0_3] 26 (0, 0)) (zb_ BK324.out) hb); replace HB := Aside0.mk (below_step (zh1_ HB.out GE324.out) hb); (try clear hb)))
  go_ret
  exact ⟨by first | rfl | (simp [errW_none, errW_some] <;> rfl) | (simp [*, errW_none, errW_some] <;> rfl), by exact zh1_ HB.out GE324.out⟩
def ladingref06_below.l0 : Nat → List Int → Int → Bool → List (List Int) → List (List Int) → List Int → Option (Int × Bool)
 | 0, _, _, _, _, _, _ => none
 | k + 1, x1, x6, x328000, x328001, x328002, x328003 => if x6 < (x328001.length : Int) then (if 0 ≤ x6 then (if (Op.bytesLess ((strOfNums (rd_L1 x328001 x6)).toList) ((strOfNums x1).toList)) = true then (ladingref06_below.l0 k x1 (wrap64 (x6 + 1)) x328000 x328001 x328002 x328003) else (some (x6, ((strOfNums (rd_L1 x328001 x6)).toList == (strOfNums x1).toList)))) else (none)) else (some (x6, false))
def ladingref06_below.f (k : Nat) (a0_0 : Bool) (l0_1 : List (List Int)) (l0_2 : List (List Int)) (l0_3 : List Int) (l1 : List Int) : Option (Int × Bool) := ladingref06_below.l0 k l1 0 a0_0 l0_1 l0_2 l0_3
theorem ladingref06_below.mono_l : ∀ k, (∀ y0 y1 y2 y3 y4 y5, LeO (ladingref06_below.l0 k y0 y1 y2 y3 y4 y5) (ladingref06_below.l0 (k + 1) y0 y1 y2 y3 y4 y5))
 | 0 => fun _ _ _ _ _ _ r h => by simp [ladingref06_below.l0] at h
 | k + 1 => by
  have ih0 := ladingref06_below.mono_l k
  ·intro y0 y1 y2 y3 y4 y5
   unfold ladingref06_below.l0
   repeat' first
   | (with_reducible exact ih0 _ _ _ _ _ _)
   | (with_reducible exact LeO.refl _)
   | (with_reducible exact LeO.none _)
   | (with_reducible refine LeO.ite ?_ ?_)
   | (with_reducible refine LeO.bind ?_ (fun _ => ?_))
   | exact ih0 _ _ _ _ _ _
   | exact LeO.none _
   | refine LeO.ite ?_ ?_
   | refine LeO.bind ?_ (fun _ => ?_)
theorem ladingref06_below.mono : ∀ a0 a1 a2 a3 a4 k, LeO (ladingref06_below.f k a0 a1 a2 a3 a4) (ladingref06_below.f (k + 1) a0 a1 a2 a3 a4) := by
 intro a0 a1 a2 a3 a4 k
 have ih0 := ladingref06_below.mono_l k
 unfold ladingref06_below.f
 repeat' first
   | (with_reducible exact ih0 _ _ _ _ _ _)
   | (with_reducible exact LeO.refl _)
   | (with_reducible exact LeO.none _)
   | (with_reducible refine LeO.ite ?_ ?_)
   | (with_reducible refine LeO.bind ?_ (fun _ => ?_))
   | exact ih0 _ _ _ _ _ _
   | exact LeO.none _
   | refine LeO.ite ?_ ?_
   | refine LeO.bind ?_ (fun _ => ?_)
set_option maxHeartbeats 8000000 in
set_option maxRecDepth 100000 in
theorem ladingref06_below.calls (k : Nat) (a0_0 : Bool) (A0_1 : Option Addr) (c0_1 : Nat) (l0_1 : List (List Int)) (A0_2 : Option Addr) (c0_2 : Nat) (l0_2 : List (List Int)) (A0_3 : Option Addr) (c0_3 : Nat) (l0_3 : List Int) (A1 : Option Addr) (c1 : Nat) (l1 : List Int) (r1 : Int) (r2 : Bool) (w : World) (hr0_1 : Kd.C (Kd.slice 5 (Kd.int .u8)) w A0_1 l0_1.length l0_1) (hc0_1 : l0_1.length ≤ c0_1) (hr0_2 : Kd.C (Kd.slice 5 (Kd.int .u8)) w A0_2 l0_2.length l0_2) (hc0_2 : l0_2.length ≤ c0_2) (hr0_3 : Kd.C (Kd.int .i64) w A0_3 l0_3.length l0_3) (hc0_3 : l0_3.length ≤ c0_3) (hr1 : Kd.C (Kd.int .u8) w A1 l1.length l1) (hc1 : l1.length ≤ c1) (h : ladingref06_below.f k a0_0 l0_1 l0_2 l0_3 l1 = some (r1, r2)) :
  Calls Try.prog 32 #[.agg #[.bool a0_0, .slice A0_1 l0_1.length c0_1, .slice A0_2 l0_2.length c0_2, .slice A0_3 l0_3.length c0_3], .slice A1 l1.length c1] w fun e w' => e = .returned (.tuple #[.int .i64 r1, .bool r2]) ∧ Below w.heap.size w w' := by
 have hu26 := Try.underlying26
 have HR0_1 := Aside0.mk hr0_1
 have HC0_1 := Aside0.mk hc0_1
 clear hr0_1 hc0_1
 have HR0_2 := Aside0.mk hr0_2
 have HC0_2 := Aside0.mk hc0_2
 clear hr0_2 hc0_2
 have HR0_3 := Aside0.mk hr0_3
 have HC0_3 := Aside0.mk hc0_3
 clear hr0_3 hc0_3
 have HR1 := Aside0.mk hr1
 have HC1 := Aside0.mk hc1
 clear hr1 hc1
 have HB := Aside0.mk (Below.refl w.heap.size w)
 have H : (ladingref06_below.l0 k l1 0 a0_0 l0_1 l0_2 l0_3) = some (r1, r2) := h
 clear h
 have H' := Aside0.mk H
 clear H
 go_enter Try.func32, Try.ntmps32
 go_wp2_with (first | ((with_reducible refine gate_dst (N := 2) rfl ?_); refine box_event ?hg (N := 2) ?hd (cs := #[.bool a0_0, .slice A0_1 l0_1.length c0_1, .slice A0_2 l0_2.length c0_2, .slice A0_3 l0_3.length c0_3]) (t := 26) ?hr ?_; (case hd => rfl); (case hg => rfl); (case hr => first | (go_simp; done) | (go_simp; rfl)); intro gb327 hg w3 hbox hb; have BK327 := Aside0.mk (hbox); have GW327 := Aside0.mk ((by rw [hg]; exact (below_size (zh0_ HB.out)) : w.heap.size ≤ gb327)); have GE327 := Aside0.mk ((by rw [hg]; exact (below_size (zh0_ HB.out)) : w.heap.size ≤ gb327)); replace HB := Aside0.mk (below_step (zh0_ HB.out) hb); clear hb hbox hg))
 repeat (go_quiet (first | ((with_reducible refine gate_dst (N := 2) rfl ?_); refine box_event ?hg (N := 2) ?hd (cs := #[.bool a0_0, .slice A0_1 l0_1.length c0_1, .slice A0_2 l0_2.length c0_2, .slice A0_3 l0_3.length c0_3]) (t := 26) ?hr ?_; (case hd => rfl); (case hg => rfl); (case hr => first | (go_simp; done) | (go_simp; rfl)); intro gb327 hg w3 hbox hb; have BK327 := Aside0.mk (hbox); have GW327 := Aside0.mk ((by rw [hg]; exact (below_size (zh0_ HB.out)) : w.heap.size ≤ gb327)); have GE327 := Aside0.mk ((by rw [hg]; exact (below_size (zh0_ HB.out)) : w.heap.size ≤ gb327)); replace HB := Aside0.mk (below_step (zh0_ HB.out) hb); clear hb hbox hg)); try go_wp2_with (first | ((with_reducible refine gate_dst (N := 2) rfl ?_); refine box_event ?hg (N := 2) ?hd (cs := #[.bool a0_0, .slice A0_1 l0_1.length c0_1, .slice A0_2 l0_2.length c0_2, .slice A0_3 l0_3.length c0_3]) (t := 26) ?hr ?_; (case hd => rfl); (case hg => rfl); (case hr => first | (go_simp; done) | (go_simp; rfl)); intro gb327 hg w3 hbox hb; have BK327 := Aside0.mk (hbox); have GW327 := Aside0.mk ((by rw [hg]; exact (below_size (zh0_ HB.out)) : w.heap.size ≤ gb327)); have GE327 := Aside0.mk ((by rw [hg]; exact (below_size (zh0_ HB.out)) : w.heap.size ≤ gb327)); replace HB := Aside0.mk (below_step (zh0_ HB.out) hb); clear hb hbox hg)))
 go_loopg [6] k (fun kq v6 w' => ∃ (x6_1 : Int), v6 = .int .i64 x6_1 ∧ Aside0 (ladingref06_below.l0 kq l1 x6_1 a0_0 l0_1 l0_2 l0_3 = some (r1, r2)) ∧ Aside0 (kq ≤ k) ∧ Aside0 (w'.heap[gb327]? = some (.cells #[.bool a0_0, (.slice A0_1 l0_1.length c0_1), (.slice A0_2 l0_2.length c0_2), (.slice A0_3 l0_3.length c0_3)] 26 (0, 0))) ∧ Aside0 (Below w.heap.size w w'))
 case atStart => exact ⟨(0), (by first | rfl | (simp; done) | (simp [*]; done) | (simp only [i64_w]; done)), H', ⟨Nat.le_refl _⟩, ⟨by (with_reducible repeat (first | refine blk_drewN ?_ _ | refine blk_drew ?_ | refine blk_alloc ?_ _)); exact BK327.out⟩, ⟨by exact zh1_ HB.out GE327.out⟩⟩
 case round =>
  clear H'
  try clear c1
  try clear p2
  try clear c3
  (try clear BK327)
  obtain ⟨x6_1, rfl, HA, HK1, BK327, HB⟩ := hrel
  cases gk with
  | zero => exact absurd HA.out (by simp [ladingref06_below.l0])
  | succ k1 =>
   have H := HA.out
   clear HA
   simp only [ladingref06_below.l0] at H
   by_cases c4 : x6_1 < (l0_1.length : Int)
   ·rw [if_pos c4] at H
    have c4b0 : decide (x6_1 < (l0_1.length : Int)) = true := decide_eq_true c4
    clear c4
    by_cases c5 : 0 ≤ x6_1
    ·rw [if_pos c5] at H
     have c5b0 : decide (0 ≤ x6_1) = true := decide_eq_true c5
     clear c5
     by_cases c6 : (Op.bytesLess ((strOfNums (rd_L1 l0_1 x6_1)).toList) ((strOfNums l1).toList)) = true
     ·rw [if_pos c6] at H
      have c6b0 : (Op.bytesLess ((strOfNums (rd_L1 l0_1 x6_1)).toList) ((strOfNums l1).toList)) = true := c6
      clear c6
      have H' := Aside0.mk H
      clear H
      obtain ⟨hcz7_0, hcz7_1, hcz7_2, hcz7_3⟩ := zc4 BK327.out
      obtain ⟨hfz7_0, hfz7_1, hfz7_2, hfz7_3⟩ := zz4 BK327.out
      have p328 : 0 ≤ (x6_1 : Int) := of_decide_eq_true za_
      have q328 : x6_1 < (l0_1.length : Int) := of_decide_eq_true za_
      obtain ⟨ad328, A328_0, c328_0, e328, hx328_0, hl328_0, hi328_0⟩ := at_L1 HR0_1.out x6_1 p328 q328
      cases e328
      replace hx328_0 := zx_ HB.out hx328_0
      have HR328_0 := Aside0.mk hi328_0
      have HC328_0 := Aside0.mk hl328_0
      clear hi328_0 hl328_0
      replace p328 := eq_true p328
      replace q328 := eq_true q328
      have hcv8 := Kd.C_string (P := Try.prog) (A := A328_0) (c := c328_0) Try.underlying27 Try.underlying5 Try.underlying9 (Kd.C_below HR328_0.out HB.out)
      have hcw9 := fun n_ : Nat => Kd.C_string (P := Try.prog) (A := A328_0) (c := c328_0) Try.underlying27 Try.underlying5 Try.underlying9 (Kd.C_drewN (Kd.C_below HR328_0.out HB.out) n_)
      have hcv10 := Kd.C_string (P := Try.prog) (A := A1) (c := c1) Try.underlying27 Try.underlying5 Try.underlying9 (Kd.C_below HR1.out HB.out)
      have hcw11 := fun n_ : Nat => Kd.C_string (P := Try.prog) (A := A1) (c := c1) Try.underlying27 Try.underlying5 Try.underlying9 (Kd.C_drewN (Kd.C_below HR1.out HB.out) n_)
      go_wp2
      repeat (go_quiet (fail); try go_wp2)
      go_roundg k1
      case measure => have := HK1.out; omega
      case rel => exact ⟨(wrap64 (x6_1 + 1)), (by first | rfl | (simp; done) | (simp [*]; done) | (simp only [i64_w]; done)), H', ⟨by have := HK1.out; omega⟩, ⟨by (with_reducible repeat (first | refine blk_drewN ?_ _ | refine blk_drew ?_ | refine blk_alloc ?_ _)); exact BK327.out⟩, ⟨by exact zh1_ HB.out GE327.out⟩⟩
     ·rw [if_neg c6] at H
      have c6b0 : (Op.bytesLess ((strOfNums (rd_L1 l0_1 x6_1)).toList) ((strOfNums l1).toList)) = false := by simpa using c6
      clear c6
      simp only [Option.some.injEq, Prod.mk.injEq] at H
      obtain ⟨rfl, rfl⟩ := H
      obtain ⟨hcz12_0, hcz12_1, hcz12_2, hcz12_3⟩ := zc4 BK327.out
      obtain ⟨hfz12_0, hfz12_1, hfz12_2, hfz12_3⟩ := zz4 BK327.out
      have p328 : 0 ≤ (x6_1 : Int) := of_decide_eq_true za_
      have q328 : x6_1 < (l0_1.length : Int) := of_decide_eq_true za_
      obtain ⟨ad328, A328_0, c328_0, e328, hx328_0, hl328_0, hi328_0⟩ := at_L1 HR0_1.out x6_1 p328 q328
      cases e328
      replace hx328_0 := zx_ HB.out hx328_0
      have HR328_0 := Aside0.mk hi328_0
      have HC328_0 := Aside0.mk hl328_0
      clear hi328_0 hl328_0
      replace p328 := eq_true p328
      replace q328 := eq_true q328
      have hcv13 := Kd.C_string (P := Try.prog) (A := A328_0) (c := c328_0) Try.underlying27 Try.underlying5 Try.underlying9 (Kd.C_below HR328_0.out HB.out)
      have hcw14 := fun n_ : Nat => Kd.C_string (P := Try.prog) (A := A328_0) (c := c328_0) Try.underlying27 Try.underlying5 Try.underlying9 (Kd.C_drewN (Kd.C_below HR328_0.out HB.out) n_)
      have hcv15 := Kd.C_string (P := Try.prog) (A := A1) (c := c1) Try.underlying27 Try.underlying5 Try.underlying9 (Kd.C_below HR1.out HB.out)
      have hcw16 := fun n_ : Nat => Kd.C_string (P := Try.prog) (A := A1) (c := c1) Try.underlying27 Try.underlying5 Try.underlying9 (Kd.C_drewN (Kd.C_below HR1.out HB.out) n_)
      have p329 : 0 ≤ (x6_1 : Int) := of_decide_eq_true za_
      have q329 : x6_1 < (l0_1.length : Int) := of_decide_eq_true za_
      obtain ⟨ad329, A329_0, c329_0, e329, hx329_0, hl329_0, hi329_0⟩ := at_L1 HR0_1.out x6_1 p329 q329
      obtain rfl : ad328 = ad329 := (by injection e329)
      replace hx329_0 := zx_ HB.out hx329_0
      have HR329_0 := Aside0.mk hi329_0
      have HC329_0 := Aside0.mk hl329_0
      clear hi329_0 hl329_0
      replace p329 := eq_true p329
      replace q329 := eq_true q329
      have ea_ := Option.some.inj (hx328_0.symm.trans hx329_0)
      injection ea_ with ea_ en_ ec_
      subst ea_
      subst ec_
      clear en_
      have hcv17 := Kd.C_string (P := Try.prog) (A := A328_0) (c := c328_0) Try.underlying27 Try.underlying5 Try.underlying9 (Kd.C_below HR329_0.out HB.out)
      have hcw18 := fun n_ : Nat => Kd.C_string (P := Try.prog) (A := A328_0) (c := c328_0) Try.underlying27 Try.underlying5 Try.underlying9 (Kd.C_drewN (Kd.C_below HR329_0.out HB.out) n_)
      have hcv19 := Kd.C_string (P := Try.prog) (A := A1) (c := c1) Try.underlying27 Try.underlying5 Try.underlying9 (Kd.C_below HR1.out HB.out)
      have hcw20 := fun n_ : Nat => Kd.C_string (P := Try.prog) (A := A1) (c := c1) Try.underlying27 Try.underlying5 Try.underlying9 (Kd.C_drewN (Kd.C_below HR1.out HB.out) n_)
      go_wp2
      repeat (go_quiet (fail); try go_wp2)
      go_ret2
      exact ⟨by first | rfl | (simp [errW_none, errW_some] <;> rfl) | (simp [*, errW_none, errW_some] <;> rfl), by exact zh1_ HB.out GE327.out⟩
    ·rw [if_neg c5] at H
     cases H
   ·rw [if_neg c4] at H
    have c4b0 : decide (x6_1 < (l0_1.length : Int)) = false := decide_eq_false c4
    clear c4
    simp only [Option.some.injEq, Prod.mk.injEq] at H
    obtain ⟨rfl, rfl⟩ := H
    obtain ⟨hcz21_0, hcz21_1, hcz21_2, hcz21_3⟩ := zc4 BK327.out
    obtain ⟨hfz21_0, hfz21_1, hfz21_2, hfz21_3⟩ := zz4 BK327.out
    go_wp2
    repeat (go_quiet (fail); try go_wp2)
    go_ret2
    exact ⟨by first | rfl | (simp [errW_none, errW_some] <;> rfl) | (simp [*, errW_none, errW_some] <;> rfl), by exact zh1_ HB.out GE327.out⟩
def ladingref06_Find.f (k : Nat) (a0_0 : Bool) (l0_1 : List (List Int)) (l0_2 : List (List Int)) (l0_3 : List Int) (l1 : List Int) : Option (Int × Bool × Int) := (ladingref06_Check.f k a0_0 l0_1 l0_2 l0_3).bind fun t331 => (if t331 = 0 then ((ladingref06_below.f k a0_0 l0_1 l0_2 l0_3 l1).bind fun bt332 => (if a0_0 = true then (some (bt332.1, bt332.2, 0)) else (if bt332.2 = true then (some (wrap64 (bt332.1 + 1), bt332.2, 0)) else (some (bt332.1, bt332.2, 0))))) else (some (0, false, t331)))
theorem ladingref06_Find.mono : ∀ a0 a1 a2 a3 a4 k, LeO (ladingref06_Find.f k a0 a1 a2 a3 a4) (ladingref06_Find.f (k + 1) a0 a1 a2 a3 a4) := by
 intro a0 a1 a2 a3 a4 k
 unfold ladingref06_Find.f
 repeat' first
   | (with_reducible exact ladingref06_Check.mono _ _ _ _ _)
   | (with_reducible exact ladingref06_below.mono _ _ _ _ _ _)
   | (with_reducible exact LeO.refl _)
   | (with_reducible exact LeO.none _)
   | (with_reducible refine LeO.ite ?_ ?_)
   | (with_reducible refine LeO.bind ?_ (fun _ => ?_))
   | exact ladingref06_Check.mono _ _ _ _ _
   | exact ladingref06_below.mono _ _ _ _ _ _
   | exact LeO.none _
   | refine LeO.ite ?_ ?_
   | refine LeO.bind ?_ (fun _ => ?_)
set_option maxHeartbeats 8000000 in
set_option maxRecDepth 100000 in
theorem ladingref06_Find.calls (k : Nat) (a0_0 : Bool) (A0_1 : Option Addr) (c0_1 : Nat) (l0_1 : List (List Int)) (A0_2 : Option Addr) (c0_2 : Nat) (l0_2 : List (List Int)) (A0_3 : Option Addr) (c0_3 : Nat) (l0_3 : List Int) (A1 : Option Addr) (c1 : Nat) (l1 : List Int) (r1 : Int) (r2 : Bool) (r3 : Int) (w : World) (hr0_1 : Kd.C (Kd.slice 5 (Kd.int .u8)) w A0_1 l0_1.length l0_1) (hc0_1 : l0_1.length ≤ c0_1) (hr0_2 : Kd.C (Kd.slice 5 (Kd.int .u8)) w A0_2 l0_2.length l0_2) (hc0_2 : l0_2.length ≤ c0_2) (hr0_3 : Kd.C (Kd.int .i64) w A0_3 l0_3.length l0_3) (hc0_3 : l0_3.length ≤ c0_3) (hr1 : Kd.C (Kd.int .u8) w A1 l1.length l1) (hc1 : l1.length ≤ c1) (h : ladingref06_Find.f k a0_0 l0_1 l0_2 l0_3 l1 = some (r1, r2, r3)) :
  Calls Try.prog 14 #[.agg #[.bool a0_0, .slice A0_1 l0_1.length c0_1, .slice A0_2 l0_2.length c0_2, .slice A0_3 l0_3.length c0_3], .slice A1 l1.length c1] w fun e w' => e = .returned (.tuple #[.int .i64 r1, .bool r2, .int .i64 r3]) ∧ Below w.heap.size w w' := by
 have hu26 := Try.underlying26
 have HR0_1 := Aside0.mk hr0_1
 have HC0_1 := Aside0.mk hc0_1
 clear hr0_1 hc0_1
 have HR0_2 := Aside0.mk hr0_2
 have HC0_2 := Aside0.mk hc0_2
 clear hr0_2 hc0_2
 have HR0_3 := Aside0.mk hr0_3
 have HC0_3 := Aside0.mk hc0_3
 clear hr0_3 hc0_3
 have HR1 := Aside0.mk hr1
 have HC1 := Aside0.mk hc1
 clear hr1 hc1
 have HB := Aside0.mk (Below.refl w.heap.size w)
 have H : ((ladingref06_Check.f k a0_0 l0_1 l0_2 l0_3).bind fun t331 => (if t331 = 0 then ((ladingref06_below.f k a0_0 l0_1 l0_2 l0_3 l1).bind fun bt332 => (if a0_0 = true then (some (bt332.1, bt332.2, 0)) else (if bt332.2 = true then (some (wrap64 (bt332.1 + 1), bt332.2, 0)) else (some (bt332.1, bt332.2, 0))))) else (some (0, false, t331)))) = some (r1, r2, r3) := h
 clear h
 obtain ⟨t331, A3, H⟩ := zm H
 (try dsimp only at H)
 by_cases c4 : t331 = 0
 ·rw [if_pos c4] at H
  obtain ⟨c4b0, c4b1⟩ := zq1 c4
  clear c4
  obtain ⟨⟨t332, t333⟩, A5, H⟩ := zm H
  (try dsimp only at H)
  by_cases c6 : a0_0 = true
  ·subst c6
   replace H := (if_pos (rfl : true = true)).symm.trans H
   simp only [Option.some.injEq, Prod.mk.injEq] at H
   obtain ⟨rfl, rfl, rfl⟩ := H
   go_enter Try.func14, Try.ntmps14
   go_wp2_with (first | ((with_reducible refine gate_dst (N := 2) rfl ?_); refine box_event ?hg (N := 2) ?hd (cs := #[.bool true, .slice A0_1 l0_1.length c0_1, .slice A0_2 l0_2.length c0_2, .slice A0_3 l0_3.length c0_3]) (t := 26) ?hr ?_; (case hd => rfl); (case hg => rfl); (case hr => first | (go_simp; done) | (go_simp; rfl)); intro gb330 hg w7 hbox hb; have BK330 := Aside0.mk (hbox); have GW330 := Aside0.mk ((by rw [hg]; exact (below_size (zh0_ HB.out)) : w.heap.size ≤ gb330)); have GE330 := Aside0.mk ((by rw [hg]; exact (below_size (zh0_ HB.out)) : w.heap.size ≤ gb330)); replace HB := Aside0.mk (below_step (zh0_ HB.out) hb); clear hb hbox hg; obtain ⟨hcz8_0, hcz8_1, hcz8_2, hcz8_3⟩ := zc4 BK330.out; obtain ⟨hfz8_0, hfz8_1, hfz8_2, hfz8_3⟩ := zz4 BK330.out) | ((with_reducible refine gate_callee (f := 31) rfl ?_); refine goesL_ (some 11) rfl rfl Try.func31 (by kernel_rfl) rfl #[.agg #[.bool true, .slice A0_1 l0_1.length c0_1, .slice A0_2 l0_2.length c0_2, .slice A0_3 l0_3.length c0_3]] rfl zl_ ?_; (with_reducible refine (ladingref06_Check.calls k true _ _ l0_1 _ _ l0_2 _ _ l0_3 t331 _ ?side1 ?side2 ?side3 ?side4 ?side5 ?side6 A3.out).mono ?_); (case side1 => exact zc_ (Kd.C_below HR0_1.out HB.out)); (case side2 => exact HC0_1.out); (case side3 => exact zc_ (Kd.C_below HR0_2.out HB.out)); (case side4 => exact HC0_2.out); (case side5 => exact zc_ (Kd.C_below HR0_3.out HB.out)); (case side6 => exact HC0_3.out); rintro e w9 ⟨rfl, hb⟩; refine ⟨_, rfl, ?_⟩; replace BK330 := Aside0.mk (blk_below (g := gb330) (o := .cells #[.bool true, .slice A0_1 l0_1.length c0_1, .slice A0_2 l0_2.length c0_2, .slice A0_3 l0_3.length c0_3] 26 (0, 0)) (zb_ BK330.out) hb); replace HB := Aside0.mk (below_step (zh1_ HB.out GE330.out) hb); (try clear hb); obtain ⟨hcz10_0, hcz10_1, hcz10_2, hcz10_3⟩ := zc4 BK330.out; obtain ⟨hfz10_0, hfz10_1, hfz10_2, hfz10_3⟩ := zz4 BK330.out) | ((with_reducible refine gate_callee (f := 32) rfl ?_); refine goesL_ (some 18) rfl rfl Try.func32 (by kernel_rfl) rfl #[.agg #[.bool true, .slice A0_1 l0_1.length c0_1, .slice A0_2 l0_2.length c0_2, .slice A0_3 l0_3.length c0_3], .slice A1 l1.length c1] rfl zl_ ?_; (with_reducible refine (ladingref06_below.calls k true _ _ l0_1 _ _ l0_2 _ _ l0_3 _ _ l1 t332 t333 _ ?side1 ?side2 ?side3 ?side4 ?side5 ?side6 ?side7 ?side8 A5.out).mono ?_); (case side1 => exact zc_ (Kd.C_below HR0_1.out HB.out)); (case side2 => exact HC0_1.out); (case side3 => exact zc_ (Kd.C_below HR0_2.out HB.out)); (case side4 => exact HC0_2.out); (case side5 => exact zc_ (Kd.C_below HR0_3.out HB.out)); (case side6 => exact HC0_3.out); (case side7 => exact zc_ (Kd.C_below HR1.out HB.out)); (case side8 => exact HC1.out); rintro e w11 ⟨rfl, hb⟩; refine ⟨_, rfl, ?_⟩; replace BK330 := Aside0.mk (blk_below (g := gb330) (o := .cells #[.bool true, .slice A0_1 l0_1.length c0_1, .slice A0_2 l0_2.length c0_2, .slice A0_3 l0_3.length c0_3] 26 (0, 0)) (zb_ BK330.out) hb); replace HB := Aside0.mk (below_step (zh1_ HB.out GE330.out) hb); (try clear hb); obtain ⟨hcz12_0, hcz12_1, hcz12_2, hcz12_3⟩ := zc4 BK330.out; obtain ⟨hfz12_0, hfz12_1, hfz12_2, hfz12_3⟩ := zz4 BK330.out))
   go_ret3
   exact ⟨by first | rfl | (simp [errW_none, errW_some] <;> rfl) | (simp [*, errW_none, errW_some] <;> rfl), by exact zh1_ HB.out GE330.out⟩
  ·replace c6 := Bool.eq_false_iff.mpr c6
   subst c6
   replace H := (if_neg (show ¬ (false = true) by decide)).symm.trans H
   by_cases c13 : t333 = true
   ·subst c13
    replace H := (if_pos (rfl : true = true)).symm.trans H
    simp only [Option.some.injEq, Prod.mk.injEq] at H
    obtain ⟨rfl, rfl, rfl⟩ := H
    go_enter Try.func14, Try.ntmps14
    go_wp2_with (first | ((with_reducible refine gate_dst (N := 2) rfl ?_); refine box_event ?hg (N := 2) ?hd (cs := #[.bool false, .slice A0_1 l0_1.length c0_1, .slice A0_2 l0_2.length c0_2, .slice A0_3 l0_3.length c0_3]) (t := 26) ?hr ?_; (case hd => rfl); (case hg => rfl); (case hr => first | (go_simp; done) | (go_simp; rfl)); intro gb330 hg w14 hbox hb; have BK330 := Aside0.mk (hbox); have GW330 := Aside0.mk ((by rw [hg]; exact (below_size (zh0_ HB.out)) : w.heap.size ≤ gb330)); have GE330 := Aside0.mk ((by rw [hg]; exact (below_size (zh0_ HB.out)) : w.heap.size ≤ gb330)); replace HB := Aside0.mk (below_step (zh0_ HB.out) hb); clear hb hbox hg; obtain ⟨hcz15_0, hcz15_1, hcz15_2, hcz15_3⟩ := zc4 BK330.out; obtain ⟨hfz15_0, hfz15_1, hfz15_2, hfz15_3⟩ := zz4 BK330.out) | ((with_reducible refine gate_callee (f := 31) rfl ?_); refine goesL_ (some 11) rfl rfl Try.func31 (by kernel_rfl) rfl #[.agg #[.bool false, .slice A0_1 l0_1.length c0_1, .slice A0_2 l0_2.length c0_2, .slice A0_3 l0_3.length c0_3]] rfl zl_ ?_; (with_reducible refine (ladingref06_Check.calls k false _ _ l0_1 _ _ l0_2 _ _ l0_3 t331 _ ?side1 ?side2 ?side3 ?side4 ?side5 ?side6 A3.out).mono ?_); (case side1 => exact zc_ (Kd.C_below HR0_1.out HB.out)); (case side2 => exact HC0_1.out); (case side3 => exact zc_ (Kd.C_below HR0_2.out HB.out)); (case side4 => exact HC0_2.out); (case side5 => exact zc_ (Kd.C_below HR0_3.out HB.out)); (case side6 => exact HC0_3.out); rintro e w16 ⟨rfl, hb⟩; refine ⟨_, rfl, ?_⟩; replace BK330 := Aside0.mk (blk_below (g := gb330) (o := .cells #[.bool false, .slice A0_1 l0_1.length c0_1, .slice A0_2 l0_2.length c0_2, .slice A0_3 l0_3.length c0_3] 26 (0, 0)) (zb_ BK330.out) hb); replace HB := Aside0.mk (below_step (zh1_ HB.out GE330.out) hb); (try clear hb); obtain ⟨hcz17_0, hcz17_1, hcz17_2, hcz17_3⟩ := zc4 BK330.out; obtain ⟨hfz17_0, hfz17_1, hfz17_2, hfz17_3⟩ := zz4 BK330.out) | ((with_reducible refine gate_callee (f := 32) rfl ?_); refine goesL_ (some 18) rfl rfl Try.func32 (by kernel_rfl) rfl #[.agg #[.bool false, .slice A0_1 l0_1.length c0_1, .slice A0_2 l0_2.length c0_2, .slice A0_3 l0_3.length c0_3], .slice A1 l1.length c1] rfl zl_ ?_; (with_reducible refine (ladingref06_below.calls k false _ _ l0_1 _ _ l0_2 _ _ l0_3 _ _ l1 t332 true _ ?side1 ?side2 ?side3 ?side4 ?side5 ?side6 ?side7 ?side8 A5.out).mono ?_); (case side1 => exact zc_ (Kd.C_below HR0_1.out HB.out)); (case side2 => exact HC0_1.out); (case side3 => exact zc_ (Kd.C_below HR0_2.out HB.out)); (case side4 => exact HC0_2.out); (case side5 => exact zc_ (Kd.C_below HR0_3.out HB.out)); (case side6 => exact HC0_3.out); (case side7 => exact zc_ (Kd.C_below HR1.out HB.out)); (case side8 => exact HC1.out); rintro e w18 ⟨rfl, hb⟩; refine ⟨_, rfl, ?_⟩; replace BK330 := Aside0.mk (blk_below (g := gb330) (o := .cells #[.bool false, .slice A0_1 l0_1.length c0_1, .slice A0_2 l0_2.length c0_2, .slice A0_3 l0_3.length c0_3] 26 (0, 0)) (zb_ BK330.out) hb); replace HB := Aside0.mk (below_step (zh1_ HB.out GE330.out) hb); (try clear hb); obtain ⟨hcz19_0, hcz19_1, hcz19_2, hcz19_3⟩ := zc4 BK330.out; obtain ⟨hfz19_0, hfz19_1, hfz19_2, hfz19_3⟩ := zz4 BK330.out))
    go_ret3
    exact ⟨by first | rfl | (simp [errW_none, errW_some] <;> rfl) | (simp [*, errW_none, errW_some] <;> rfl), by exact zh1_ HB.out GE330.out⟩
   ·replace c13 := Bool.eq_false_iff.mpr c13
    subst c13
    replace H := (if_neg (show ¬ (false = true) by decide)).symm.trans H
    simp only [Option.some.injEq, Prod.mk.injEq] at H
    obtain ⟨rfl, rfl, rfl⟩ := H
    go_enter Try.func14, Try.ntmps14
    go_wp2_with (first | ((with_reducible refine gate_dst (N := 2) rfl ?_); refine box_event ?hg (N := 2) ?hd (cs := #[.bool false, .slice A0_1 l0_1.length c0_1, .slice A0_2 l0_2.length c0_2, .slice A0_3 l0_3.length c0_3]) (t := 26) ?hr ?_; (case hd => rfl); (case hg => rfl); (case hr => first | (go_simp; done) | (go_simp; rfl)); intro gb330 hg w20 hbox hb; have BK330 := Aside0.mk (hbox); have GW330 := Aside0.mk ((by rw [hg]; exact (below_size (zh0_ HB.out)) : w.heap.size ≤ gb330)); have GE330 := Aside0.mk ((by rw [hg]; exact (below_size (zh0_ HB.out)) : w.heap.size ≤ gb330)); replace HB := Aside0.mk (below_step (zh0_ HB.out) hb); clear hb hbox hg; obtain ⟨hcz21_0, hcz21_1, hcz21_2, hcz21_3⟩ := zc4 BK330.out; obtain ⟨hfz21_0, hfz21_1, hfz21_2, hfz21_3⟩ := zz4 BK330.out) | ((with_reducible refine gate_callee (f := 31) rfl ?_); refine goesL_ (some 11) rfl rfl Try.func31 (by kernel_rfl) rfl #[.agg #[.bool false, .slice A0_1 l0_1.length c0_1, .slice A0_2 l0_2.length c0_2, .slice A0_3 l0_3.length c0_3]] rfl zl_ ?_; (with_reducible refine (ladingref06_Check.calls k false _ _ l0_1 _ _ l0_2 _ _ l0_3 t331 _ ?side1 ?side2 ?side3 ?side4 ?side5 ?side6 A3.out).mono ?_); (case side1 => exact zc_ (Kd.C_below HR0_1.out HB.out)); (case side2 => exact HC0_1.out); (case side3 => exact zc_ (Kd.C_below HR0_2.out HB.out)); (case side4 => exact HC0_2.out); (case side5 => exact zc_ (Kd.C_below HR0_3.out HB.out)); (case side6 => exact HC0_3.out); rintro e w22 ⟨rfl, hb⟩; refine ⟨_, rfl, ?_⟩; replace BK330 := Aside0.mk (blk_below (g := gb330) (o := .cells #[.bool false, .slice A0_1 l0_1.length c0_1, .slice A0_2 l0_2.length c0_2, .slice A0_3 l0_3.length c0_3] 26 (0, 0)) (zb_ BK330.out) hb); replace HB := Aside0.mk (below_step (zh1_ HB.out GE330.out) hb); (try clear hb); obtain ⟨hcz23_0, hcz23_1, hcz23_2, hcz23_3⟩ := zc4 BK330.out; obtain ⟨hfz23_0, hfz23_1, hfz23_2, hfz23_3⟩ := zz4 BK330.out) | ((with_reducible refine gate_callee (f := 32) rfl ?_); refine goesL_ (some 18) rfl rfl Try.func32 (by kernel_rfl) rfl #[.agg #[.bool false, .slice A0_1 l0_1.length c0_1, .slice A0_2 l0_2.length c0_2, .slice A0_3 l0_3.length c0_3], .slice A1 l1.length c1] rfl zl_ ?_; (with_reducible refine (ladingref06_below.calls k false _ _ l0_1 _ _ l0_2 _ _ l0_3 _ _ l1 t332 false _ ?side1 ?side2 ?side3 ?side4 ?side5 ?side6 ?side7 ?side8 A5.out).mono ?_); (case side1 => exact zc_ (Kd.C_below HR0_1.out HB.out)); (case side2 => exact HC0_1.out); (case side3 => exact zc_ (Kd.C_below HR0_2.out HB.out)); (case side4 => exact HC0_2.out); (case side5 => exact zc_ (Kd.C_below HR0_3.out HB.out)); (case side6 => exact HC0_3.out); (case side7 => exact zc_ (Kd.C_below HR1.out HB.out)); (case side8 => exact HC1.out); rintro e w24 ⟨rfl, hb⟩; refine ⟨_, rfl, ?_⟩; replace BK330 := Aside0.mk (blk_below (g := gb330) (o := .cells #[.bool false, .slice A0_1 l0_1.length c0_1, .slice A0_2 l0_2.length c0_2, .slice A0_3 l0_3.length c0_3] 26 (0, 0)) (zb_ BK330.out) hb); replace HB := Aside0.mk (below_step (zh1_ HB.out GE330.out) hb); (try clear hb); obtain ⟨hcz25_0, hcz25_1, hcz25_2, hcz25_3⟩ := zc4 BK330.out; obtain ⟨hfz25_0, hfz25_1, hfz25_2, hfz25_3⟩ := zz4 BK330.out))
    go_ret3
    exact ⟨by first | rfl | (simp [errW_none, errW_some] <;> rfl) | (simp [*, errW_none, errW_some] <;> rfl), by exact zh1_ HB.out GE330.out⟩
 ·rw [if_neg c4] at H
  obtain ⟨c4b0, c4b1⟩ := zq0 c4
  simp only [Option.some.injEq, Prod.mk.injEq] at H
  obtain ⟨rfl, rfl, rfl⟩ := H
  go_enter Try.func14, Try.ntmps14
  go_wp2_with (first | ((with_reducible refine gate_dst (N := 2) rfl ?_); refine box_event ?hg (N := 2) ?hd (cs := #[.bool a0_0, .slice A0_1 l0_1.length c0_1, .slice A0_2 l0_2.length c0_2, .slice A0_3 l0_3.length c0_3]) (t := 26) ?hr ?_; (case hd => rfl); (case hg => rfl); (case hr => first | (go_simp; done) | (go_simp; rfl)); intro gb330 hg w26 hbox hb; have BK330 := Aside0.mk (hbox); have GW330 := Aside0.mk ((by rw [hg]; exact (below_size (zh0_ HB.out)) : w.heap.size ≤ gb330)); have GE330 := Aside0.mk ((by rw [hg]; exact (below_size (zh0_ HB.out)) : w.heap.size ≤ gb330)); replace HB := Aside0.mk (below_step (zh0_ HB.out) hb); clear hb hbox hg; obtain ⟨hcz27_0, hcz27_1, hcz27_2, hcz27_3⟩ := zc4 BK330.out; obtain ⟨hfz27_0, hfz27_1, hfz27_2, hfz27_3⟩ := zz4 BK330.out) | ((with_reducible refine gate_callee (f := 31) rfl ?_); refine goesL_ (some 11) rfl rfl Try.func31 (by kernel_rfl) rfl #[.agg #[.bool a0_0, .slice A0_1 l0_1.length c0_1, .slice A0_2 l0_2.length c0_2, .slice A0_3 l0_3.length c0_3]] rfl zl_ ?_; (with_reducible refine (ladingref06_Check.calls k a0_0 _ _ l0_1 _ _ l0_2 _ _ l0_3 t331 _ ?side1 ?side2 ?side3 ?side4 ?side5 ?side6 A3.out).mono ?_); (case side1 => exact zc_ (Kd.C_below HR0_1.out HB.out)); (case side2 => exact HC0_1.out); (case side3 => exact zc_ (Kd.C_below HR0_2.out HB.out)); (case side4 => exact HC0_2.out); (case side5 => exact zc_ (Kd.C_below HR0_3.out HB.out)); (case side6 => exact HC0_3.out); rintro e w28 ⟨rfl, hb⟩; refine ⟨_, rfl, ?_⟩; replace BK330 := Aside0.mk (blk_below (g := gb330) (o := .cells #[.bool a0_0, .slice A0_1 l0_1.length c0_1, .slice A0_2 l0_2.length c0_2, .slice A0_3 l0_3.length c0_3] 26 (0, 0)) (zb_ BK330.out) hb); replace HB := Aside0.mk (below_step (zh1_ HB.out GE330.out) hb); (try clear hb)))
  go_ret3
  exact ⟨by first | rfl | (simp [errW_none, errW_some] <;> rfl) | (simp [*, errW_none, errW_some] <;> rfl), by exact zh1_ HB.out GE330.out⟩
end Go.Proofs.Ytcbgichkeecgiaa.Print
namespace Go.Proofs.Ytcbgichkeecgiaa.Print
open Go.RowKit Go.Proofs.YtcbgichkeecgiaaW.PrintWords Go.Proofs.YtcbgichkeecgiaaW.PrintLast Go.Proofs.YtcbgichkeecgiaaW.PrintMore
attribute [local go_sem] max2_mx min2_mn max_two min_two max_three min_three max_four min_four
set_option linter.unusedVariables false
set_option linter.unusedSimpArgs false
def ladingref06_with.f (l0 : List (List Int)) (a1 : Int) (l2 : List Int) : Option ((List (List Int))) := (some (([] : List (List Int)) : List (List Int))).bind fun y334 => (if 0 ≤ a1 then (if a1 ≤ (l0.length : Int) then ((some (l0.take (a1 : Int).toNat : List (List Int))).bind fun y337 => (if y334.length + y337.length < 5864062014805 then ((some (y334 ++ y337 : List (List Int))).bind fun y342 => ((ladingref06_bytes.f l2).bind fun t345 => (if y342.length < 5864062014805 then ((some (y342 ++ [t345] : List (List Int))).bind fun y348 => ((some (l0.drop (a1 : Int).toNat : List (List Int))).bind fun y351 => (if y348.length + y351.length < 5864062014805 then (some (y348 ++ y351)) else (none)))) else (none)))) else (none))) else (none)) else (none))
def ladingref06_with.T2 : Bool × List (List Nat × List Nat) := (true, [([], []), ([], []), ([1], [1]), ([2], [2]), ([0, 3, 2], [0, 3]), ([], []), ([], []), ([5, 6], [5, 6]), ([4, 7, 4], [4, 7]), ([8, 8, 0, 1, 2, 3, 4, 5, 6, 7, 8], [8])])
def ladingref06_with.B2 : List Nat := [0, 0, 2, 6, 15, 0, 0, 96, 255, 511]
theorem ladingref06_with.tab2 : rtab .any (opsOf Try.f34 2) = ladingref06_with.T2 := by kernel_rfl
theorem ladingref06_with.bits2 : waitsOk ladingref06_with.T2.2 ladingref06_with.B2 = true := by kernel_rfl
set_option maxHeartbeats 8000000 in
set_option maxRecDepth 100000 in
theorem ladingref06_with.calls (P0_ : Nat → Prop) (A0 : Option Addr) (c0 : Nat) (l0 : List (List Int)) (a1 : Int) (A2 : Option Addr) (c2 : Nat) (l2 : List Int) (r : List (List Int)) (w : World) (hs0 : Kd.V (Kd.slice 5 (Kd.int .u8)) 27 w w.heap.size (fun k_ => P0_ k_) (.slice A0 l0.length c0) l0) (hr2 : Kd.C (Kd.int .u8) w A2 l2.length l2) (hc2 : l2.length ≤ c2) (h : ladingref06_with.f l0 a1 l2 = some r) :
  Calls Try.prog 34 #[.slice A0 l0.length c0, .int .i64 a1, .slice A2 l2.length c2] w fun e w' => ∃ v0_ : Value, e = .returned (v0_) ∧ Kd.N (Kd.slice 5 (Kd.int .u8)) 27 w' w.heap.size (fun k_ => (P0_ k_ ∨ w.heap.size ≤ k_)) v0_ r ∧ Below w.heap.size w w' := by
 have HO0 := Aside0.mk (show Kd.V (Kd.slice 5 (Kd.int .u8)) 27 w w.heap.size (fun k_ => (P0_ k_ ∨ w.heap.size ≤ k_)) (.slice A0 l0.length c0) l0 from Kd.V_mono hs0 (fun k_ hk => .inl hk))
 have HR2 := Aside0.mk hr2
 have HC2 := Aside0.mk hc2
 clear hr2 hc2
 have HB := Aside0.mk (Below.refl w.heap.size w)
 have H : ((some (([] : List (List Int)) : List (List Int))).bind fun y334 => (if 0 ≤ a1 then (if a1 ≤ (l0.length : Int) then ((some (l0.take (a1 : Int).toNat : List (List Int))).bind fun y337 => (if y334.length + y337.length < 5864062014805 then ((some (y334 ++ y337 : List (List Int))).bind fun y342 => ((ladingref06_bytes.f l2).bind fun t345 => (if y342.length < 5864062014805 then ((some (y342 ++ [t345] : List (List Int))).bind fun y348 => ((some (l0.drop (a1 : Int).toNat : List (List Int))).bind fun y351 => (if y348.length + y351.length < 5864062014805 then (some (y348 ++ y351)) else (none)))) else (none)))) else (none))) else (none)) else (none))) = some r := h
 clear h
 obtain ⟨y334, hy334⟩ : ∃ y_ : List (List Int), y_ = (([] : List (List Int))) := ⟨_, rfl⟩
 replace H : (if 0 ≤ a1 then (if a1 ≤ (l0.length : Int) then ((some (l0.take (a1 : Int).toNat : List (List Int))).bind fun y337 => (if y334.length + y337.length < 5864062014805 then ((some (y334 ++ y337 : List (List Int))).bind fun y342 => ((ladingref06_bytes.f l2).bind fun t345 => (if y342.length < 5864062014805 then ((some (y342 ++ [t345] : List (List Int))).bind fun y348 => ((some (l0.drop (a1 : Int).toNat : List (List Int))).bind fun y351 => (if y348.length + y351.length < 5864062014805 then (some (y348 ++ y351)) else (none)))) else (none)))) else (none))) else (none)) else (none)) = some r := by first | (rw [hy334]; with_reducible exact H) | (have H2_ := (Option.bind_some _ _).symm.trans H; rw [hy334]; with_reducible exact H2_) | (have H2_ := (Option.bind_some _ _).symm.trans H; with_reducible exact H2_) | with_reducible exact H | (rw [hy334]; exact H) | exact H
 have Ny334 := Aside0.mk hy334
 clear hy334
 by_cases c4 : 0 ≤ a1
 ·rw [if_pos c4] at H
  have c4b0 := eq_true c4
  have c4b1 : decide (0 ≤ a1) = true := decide_eq_true c4
  clear c4
  by_cases c5 : a1 ≤ (l0.length : Int)
  ·rw [if_pos c5] at H
   have c5b0 := eq_true c5
   have c5b1 : decide (a1 ≤ (l0.length : Int)) = true := decide_eq_true c5
   clear c5
   obtain ⟨y337, hy337⟩ : ∃ y_ : List (List Int), y_ = (l0.take (a1 : Int).toNat) := ⟨_, rfl⟩
   replace H : (if y334.length + y337.length < 5864062014805 then ((some (y334 ++ y337 : List (List Int))).bind fun y342 => ((ladingref06_bytes.f l2).bind fun t345 => (if y342.length < 5864062014805 then ((some (y342 ++ [t345] : List (List Int))).bind fun y348 => ((some (l0.drop (a1 : Int).toNat : List (List Int))).bind fun y351 => (if y348.length + y351.length < 5864062014805 then (some (y348 ++ y351)) else (none)))) else (none)))) else (none)) = some r := by first | (rw [hy337]; with_reducible exact H) | (have H2_ := (Option.bind_some _ _).symm.trans H; rw [hy337]; with_reducible exact H2_) | (have H2_ := (Option.bind_some _ _).symm.trans H; with_reducible exact H2_) | with_reducible exact H | (rw [hy337]; exact H) | exact H
   have Ny337 := Aside0.mk hy337
   clear hy337
   by_cases c6 : y334.length + y337.length < 5864062014805
   ·rw [if_pos c6] at H
    have LMc6 := Aside0.mk c6
    clear c6
    obtain ⟨y342, hy342⟩ : ∃ y_ : List (List Int), y_ = (y334 ++ y337) := ⟨_, rfl⟩
    replace H : ((ladingref06_bytes.f l2).bind fun t345 => (if y342.length < 5864062014805 then ((some (y342 ++ [t345] : List (List Int))).bind fun y348 => ((some (l0.drop (a1 : Int).toNat : List (List Int))).bind fun y351 => (if y348.length + y351.length < 5864062014805 then (some (y348 ++ y351)) else (none)))) else (none))) = some r := by first | (rw [hy342]; with_reducible exact H) | (have H2_ := (Option.bind_some _ _).symm.trans H; rw [hy342]; with_reducible exact H2_) | (have H2_ := (Option.bind_some _ _).symm.trans H; with_reducible exact H2_) | with_reducible exact H | (rw [hy342]; exact H) | exact H
    have Ny342 := Aside0.mk hy342
    clear hy342
    obtain ⟨t345, A7, H⟩ := zm H
    (try dsimp only at H)
    by_cases c8 : y342.length < 5864062014805
    ·rw [if_pos c8] at H
     have LMc8 := Aside0.mk c8
     clear c8
     obtain ⟨y348, hy348⟩ : ∃ y_ : List (List Int), y_ = (y342 ++ [t345]) := ⟨_, rfl⟩
     replace H : ((some (l0.drop (a1 : Int).toNat : List (List Int))).bind fun y351 => (if y348.length + y351.length < 5864062014805 then (some (y348 ++ y351)) else (none))) = some r := by first | (rw [hy348]; with_reducible exact H) | (have H2_ := (Option.bind_some _ _).symm.trans H; rw [hy348]; with_reducible exact H2_) | (have H2_ := (Option.bind_some _ _).symm.trans H; with_reducible exact H2_) | with_reducible exact H | (rw [hy348]; exact H) | exact H
     have Ny348 := Aside0.mk hy348
     clear hy348
     have c9b0 := eq_true (of_decide_eq_true za_ : 0 ≤ a1)
     have c10b0 := eq_true (of_decide_eq_true za_ : a1 ≤ (l0.length : Int))
     obtain ⟨y351, hy351⟩ : ∃ y_ : List (List Int), y_ = (l0.drop (a1 : Int).toNat) := ⟨_, rfl⟩
     replace H : (if y348.length + y351.length < 5864062014805 then (some (y348 ++ y351)) else (none)) = some r := by first | (rw [hy351]; with_reducible exact H) | (have H2_ := (Option.bind_some _ _).symm.trans H; rw [hy351]; with_reducible exact H2_) | (have H2_ := (Option.bind_some _ _).symm.trans H; with_reducible exact H2_) | with_reducible exact H | (rw [hy351]; exact H) | exact H
     have Ny351 := Aside0.mk hy351
     clear hy351
     by_cases c11 : y348.length + y351.length < 5864062014805
     ·rw [if_pos c11] at H
      have LMc11 := Aside0.mk c11
      clear c11
      obtain ⟨y356, hy356⟩ : ∃ y_ : List (List Int), y_ = (y348 ++ y351) := ⟨_, rfl⟩
      replace H : (some y356) = some r := by first | (rw [hy356]; with_reducible exact H) | (have H2_ := (Option.bind_some _ _).symm.trans H; rw [hy356]; with_reducible exact H2_) | (have H2_ := (Option.bind_some _ _).symm.trans H; with_reducible exact H2_) | with_reducible exact H | (rw [hy356]; exact H) | exact H
      have Ny356 := Aside0.mk hy356
      clear hy356
      obtain rfl := Option.some.inj H
      go_enter Try.func34, Try.ntmps34
      try go_wp2_with (first | ((with_reducible refine gate_dst (N := 8) rfl ?_); refine Kd.N_lit (Kd.slice 5 (Kd.int .u8)) _ 27 ?hg (N' := 8) ?hd (xs := ([] : List (List Int))) (inner := []) (ok := (fun k_ => (P0_ k_ ∨ w.heap.size ≤ k_))) (okp := (fun k_ => (P0_ k_ ∨ w.heap.size ≤ k_))) ?hr ?hp (fun _ hk => hk) ((show ∀ k_, w.heap.size ≤ k_ → (fun k_ => (P0_ k_ ∨ w.heap.size ≤ k_)) k_ from fun k_ hk => (.inr (Nat.le_trans (below_size (zh0_ HB.out)) hk))) _ (Nat.le_refl _)) (Below.refl _ _) (Nat.le_refl _) (by simp) ?_; (case hd => rfl); (case hg => rfl); (case hr => first | (go_simp; done) | (go_simp; rfl)); (case hp => exact (Reps.none _ _)); intro v335 w12 ho13 hb hg_ hnew_; clear hg_ hnew_; (first | rw [← Ny334.out] at ho13 | (simp only [Int.reduceToNat] at ho13; rw [← Ny334.out] at ho13)); replace HO0 := Aside0.mk (Kd.V_elder' (zV_ HO0.out) (Kd.N_base ho13) hb); have HO336 := Aside0.mk (Kd.N_lower ho13 (below_size (zh0_ HB.out))); replace HB := Aside0.mk (below_step (zh0_ HB.out) hb); clear hb ho13; have q14 : (a1 : Int) ≤ ((l0.length : Int) : Int) := of_decide_eq_true za_; obtain ⟨i014, hi014, _, hsz14, _⟩ := info_parts info27; have hroom14 : l0.length ≤ c0 := (Kd.V_reads' HO0.out).2.1; have hC14 : Kd.F (Kd.slice 5 (Kd.int .u8)) _ _ A0 l0.length l0 := (Kd.V_at (base := w.heap.size) HO0.out).2.2; have hcut14 := cut_to (P := Try.prog) 22 27 .i64 Try.underlying22 hi014 A0 l0.length c0 a1 (of_decide_eq_true za_) q14 hroom14; have hr14 := Kd.F_take (m := (a1 : Int).toNat) hC14 (by omega); have hy14 : y337.length = (a1 : Int).toNat := (by rw [Ny337.out, List.length_take]; omega); rw [← Ny337.out] at hr14; rw [← hy14] at hcut14; have HO341 := Aside0.mk (show Kd.V (Kd.slice 5 (Kd.int .u8)) 27 _ w.heap.size _ (.slice A0 y337.length c0) y337 from Kd.V_mk (by omega) hr14); have HC341 := Aside0.mk (show y337.length ≤ c0 from by omega); clear hr14 hC14 hroom14 hi014 hsz14; have KY14 := Aside0.mk hy14; clear hy14; replace q14 := eq_true q14) | ((with_reducible refine gate_builtin (b := .append) (xs := #[.tmp 8, .tmp 11]) rfl ?_); at_builtin; refine Kd.N_append_rows (Kd.slice 5 (Kd.int .u8)) (w0 := w) w.heap.size rfl (.tmp 8) (.tmp 11) 22 27 (.slice none 0 0) 24 rfl Try.underlying22 info27 rfl (by decide) (by omega) v335 y334 y337 _ _ _ (fun k_ => (P0_ k_ ∨ w.heap.size ≤ k_)) (fun k_ => ((fun k_ => (P0_ k_ ∨ w.heap.size ≤ k_))) k_ ∧ some k_ ≠ (v335 : Value).ownBlock) rfl rfl ?aO ?aR (fun _ hk => hk) ?aF ?aB ?aS ?aL ?_; (case aR => exact (by skip; exact Kd.V_F (Kd.V_mono (ok' := (fun k_ => ((fun k_ => (P0_ k_ ∨ w.heap.size ≤ k_))) k_ ∧ some k_ ≠ (v335 : Value).ownBlock)) (HO341.out) (fun k_ hk => ⟨hk.1, hk.2⟩)))); (case aB => exact (zh0_ HB.out)); (case aF => exact (fun k_ hk => (.inr (Nat.le_trans (below_size (zh0_ HB.out)) hk)))); (case aO => exact (zN_ HO336.out)); (case aS => exact (below_size (zh0_ HB.out))); (case aL => have := LMc6.out; omega); intro v343 w15 ho hb hg hat; rw [← Ny342.out] at ho; replace HO0 := Aside0.mk (Kd.V_afterv (ok := (fun k_ => (P0_ k_ ∨ w.heap.size ≤ k_))) (zV_ HO0.out) hg hat); replace HO341 := Aside0.mk (Kd.V_afterv (ok := (fun k_ => (P0_ k_ ∨ w.heap.size ≤ k_))) (zV_ HO341.out) hg hat); replace HB := Aside0.mk (hb); have HO344 := Aside0.mk (ho); clear HO336 ho hb hg hat))
      have n0_ := Aside0.mk (Kd.V_drew HO0.out)
      have n1_ := Aside0.mk (Kd.V_drew HO341.out)
      have n2_ := Aside0.mk (Kd.N_drew HO344.out)
      have n3_ := Aside0.mk (below_drew1 HB.out)
      clear HO0 HO341 HO344 HB
      have HO0 := n0_
      have HO341 := n1_
      have HO344 := n2_
      have HB := n3_
      clear n0_ n1_ n2_ n3_
      have q17 : (a1 : Int) ≤ ((l0.length : Int) : Int) := of_decide_eq_true za_
      obtain ⟨i017, hi017, _, hsz17, _⟩ := info_parts info27
      have hroom17 : l0.length ≤ c0 := (Kd.V_reads' HO0.out).2.1
      have hC17 : Kd.F (Kd.slice 5 (Kd.int .u8)) _ _ A0 l0.length l0 := (Kd.V_at (base := w.heap.size) HO0.out).2.2
      have q017 : (0 : Int) ≤ (a1 : Int) := of_decide_eq_true za_
      have hcut17 := cut_from (P := Try.prog) 22 27 .i64 Try.underlying22 hi017 1 hsz17 A0 l0.length c0 a1 q017 q17
      have hr17 := Kd.F_cut (m := (a1 : Int).toNat) (c := c0) hC17 (by omega) hroom17
      obtain ⟨A17, hA17⟩ : ∃ Az_, Az_ = (if c0 = (a1 : Int).toNat then A0 else (A0 : Option Addr).map (·.add ((a1 : Int).toNat * 1))) := ⟨_, rfl⟩
      obtain ⟨c17, hc17⟩ : ∃ cz_, cz_ = c0 - (a1 : Int).toNat := ⟨_, rfl⟩
      have hy17 : y351.length = l0.length - (a1 : Int).toNat := (by rw [Ny351.out, List.length_drop] <;> omega)
      rw [show (l0).drop (a1 : Int).toNat = y351 from Ny351.out.symm] at hr17
      replace hr17 : Kd.F (Kd.slice 5 (Kd.int .u8)) _ _ A17 y351.length y351 := (by rw [hA17]; exact hr17)
      rw [← hy17, ← hA17, ← hc17] at hcut17
      have HO355 := Aside0.mk (show Kd.V (Kd.slice 5 (Kd.int .u8)) 27 _ w.heap.size _ (.slice A17 y351.length c17) y351 from Kd.V_mk (by rw [hy17, hc17]; exact Nat.sub_le_sub_right hroom17 _) hr17)
      have HC355 := Aside0.mk (show y351.length ≤ c17 from by rw [hy17, hc17]; exact Nat.sub_le_sub_right hroom17 _)
      clear hr17 hC17 hroom17 hi017 hsz17 hc17
      have KY17 := Aside0.mk hy17
      have KA17 := Aside0.mk hA17
      clear hy17 hA17
      replace q17 := eq_true q17
      refine start_ (n := 10) (S := fun w' => True) (ds := []) (zB 0 10) (by kernel_rfl) rfl rfl trivial (fun hHeld => ?_); refine with_tabW ladingref06_with.tab2 ladingref06_with.bits2 (fun HT_ HW_ => ?_)
      generalize w15.drew = w16 at HO0 HO341 HO344 HB HO355 hHeld ⊢
      refine zpu 0 (some 13) (zB 1 9) (any_of HT_.out (by kernel_rfl)) ?_
      refine zpu 1 (some 14) (zB 2 8) (any_of HT_.out (by kernel_rfl)) ?_
      refine zpu 5 (some 18) #[true, true, false, false, false, true, false, false, false, false] (any_of HT_.out (by kernel_rfl)) ?_
      refine zpu 6 (some 19) #[true, true, false, false, false, true, true, false, false, false] (any_of HT_.out (by kernel_rfl)) ?_
      refine zpu 7 (some 20) #[true, true, false, false, false, true, true, true, false, false] (any_of HT_.out (by kernel_rfl)) ?_
      refine one_ (i := 2) (N := some 15) #[true, true, true, false, false, true, true, true, false, false] rfl rfl (one_of HT_.out (by kernel_rfl)) (by decide) (fun K hK => ?_)
      refine goes_ Try.func33 (by kernel_rfl) rfl #[.slice A2 l2.length c2] (by rfl) rfl rfl zl_ ?_
      with_reducible refine (ladingref06_bytes.calls _ _ l2 t345 _ ?side1 ?side2 A7.out).mono ?_
      (case side1 => exact zc_ (Kd.C_below HR2.out HB.out))
      (case side2 => exact HC2.out)
      rintro e w18 ⟨v346, rfl, ho0, hb⟩
      refine ⟨_, rfl, ?_⟩
      have n0_ := Aside0.mk (Kd.V_elder' (zV_ HO0.out) (Kd.R_base ho0) hb)
      have n1_ := Aside0.mk (Kd.V_elder' (zV_ HO341.out) (Kd.R_base ho0) hb)
      have n2_ := Aside0.mk (Kd.N_elder' (zN_ HO344.out) (Kd.R_base ho0) hb)
      have n3_ := Aside0.mk (Kd.V_elder' (zV_ HO355.out) (Kd.R_base ho0) hb)
      have n4_ := Aside0.mk (Kd.R_lower (Kd.R_newM (M := fun k_ => (w.heap.size ≤ k_)) ho0 (below_size (zh0_ HB.out)) (fun k_ h_ => h_)) (below_size (zh0_ HB.out)))
      have n5_ := Aside0.mk (below_step (zh0_ HB.out) hb)
      clear HO0 HO341 HO344 HO355 HB
      have HO0 := n0_
      have HO341 := n1_
      have HO344 := n2_
      have HO355 := n3_
      have HO347 := n4_
      have HB := n5_
      clear n0_ n1_ n2_ n3_ n4_ n5_
      (try clear hb)
      (try clear hb2)
      (try clear hk)
      (try clear hi)
      (try clear ho0)
      obtain ⟨Ao20, co20, eo20⟩ := Kd.R_slice HO347.out
      (first | subst eo20 | (injection eo20 with f1_ f2_ f3_; have f4_ := f1_.symm; have f5_ := f3_.symm; clear f1_ f2_ f3_; subst f4_; subst f5_))
      refine hK.out _ _ trivial (fun hHeld => ?_)
      clear hK K
      refine zno 15 ?_
      refine one_ (i := 3) (N := some 16) #[true, true, true, true, false, true, true, true, false, false] rfl rfl (one_of HT_.out (by kernel_rfl)) (by decide) (fun K hK => ?_)
      refine value_ (w1 := ?_) (v := ?_) (by rfl) rfl ?_ ?_
      rotate_left 2
      ·go_simp
       constructor
       ·rfl
       ·rfl
      refine hK.out _ _ trivial (fun hHeld => ?_)
      clear hK K
      refine zno 16 ?_
      refine one_ (i := 4) (N := some 17) (zB 8 2) rfl rfl (one_of HT_.out (by kernel_rfl)) (by decide) (fun K hK => ?_)
      refine Kd.N_append_step (Kd.slice 5 (Kd.int .u8)) (w0 := w) w.heap.size (by rfl) (.tmp 13) (.tmp 16) 22 27 (.slice none 0 0) 24 rfl Try.underlying22 info27 rfl (by decide) (by omega) v343 y342 t345 [.slice Ao20 t345.length co20] (fun k_ => (P0_ k_ ∨ w.heap.size ≤ k_)) (fun k_ => ((fun k_ => (P0_ k_ ∨ w.heap.size ≤ k_))) k_ ∧ some k_ ≠ (v343 : Value).ownBlock) rfl rfl ?aP (fun _ hk => hk) ?aF ?aO ?aB ?aS ?aL ?_
      (case aP => exact (by have X_ := (Kd.R_mono (ok' := (fun k_ => ((fun k_ => (P0_ k_ ∨ w.heap.size ≤ k_))) k_ ∧ some k_ ≠ (v343 : Value).ownBlock)) (Kd.R_apart' (HO347.out) (Kd.N_typed HO344.out) (by decide)) (fun k_ hk => ⟨(.inr (hk.1.1)), hk.2⟩)); exact Kd.FK_slice_mk (Kd.R_reads' X_).2.1 (Kd.R_F X_)))
      (case aB => exact (zh0_ HB.out))
      (case aF => exact (fun k_ hk => (.inr (Nat.le_trans (below_size (zh0_ HB.out)) hk))))
      (case aO => exact (by (with_reducible repeat (first | apply Kd.N_alloc | apply Kd.N_drewN | apply Kd.N_drew)); exact Kd.N_mono HO344.out (fun _ hk => hk.1)))
      (case aS => exact (below_size (zh0_ HB.out)))
      (case aL => have := LMc8.out; omega)
      intro v349 w19 ho hb hg hat
      rw [← Ny348.out] at ho
      have n0_ := Aside0.mk (Kd.V_afterv (ok := (fun k_ => (P0_ k_ ∨ w.heap.size ≤ k_) ∧ some k_ ≠ (.slice Ao20 t345.length co20 : Value).ownBlock)) (by (with_reducible repeat (first | apply Kd.V_alloc | apply Kd.V_drewN | apply Kd.V_drew)); exact Kd.V_mono HO0.out (fun _ hk => ⟨⟨hk.1.1, hk.2⟩, hk.1.2⟩)) hg hat)
      have n1_ := Aside0.mk (Kd.V_afterv (ok := (fun k_ => (P0_ k_ ∨ w.heap.size ≤ k_) ∧ some k_ ≠ (.slice Ao20 t345.length co20 : Value).ownBlock)) (by (with_reducible repeat (first | apply Kd.V_alloc | apply Kd.V_drewN | apply Kd.V_drew)); exact Kd.V_mono HO341.out (fun _ hk => ⟨⟨hk.1.1, hk.2⟩, hk.1.2⟩)) hg hat)
      have n2_ := Aside0.mk (Kd.V_afterv (ok := (fun k_ => (P0_ k_ ∨ w.heap.size ≤ k_) ∧ some k_ ≠ (.slice Ao20 t345.length co20 : Value).ownBlock)) (by (with_reducible repeat (first | apply Kd.V_alloc | apply Kd.V_drewN | apply Kd.V_drew)); exact Kd.V_mono HO355.out (fun _ hk => ⟨⟨hk.1.1, hk.2⟩, hk.1.2⟩)) hg hat)
      have n3_ := Aside0.mk (hb)
      have n4_ := Aside0.mk (ho)
      clear HO0 HO341 HO355 HB HO344 HO347
      have HO0 := n0_
      have HO341 := n1_
      have HO355 := n2_
      have HB := n3_
      have HO350 := n4_
      clear n0_ n1_ n2_ n3_ n4_ ho hb hg hat
      refine hK.out _ _ trivial (fun hHeld => ?_)
      clear hK K
      refine zno 17 ?_
      refine one_ (i := 8) (N := some 21) (zB 9 1) rfl rfl (one_of HT_.out (by kernel_rfl)) (by decide) (fun K hK => ?_)
      refine Kd.N_append_rows_step (Kd.slice 5 (Kd.int .u8)) (w0 := w) w.heap.size (by rfl) (.tmp 17) (.tmp 20) 22 27 (.slice none 0 0) 24 rfl Try.underlying22 info27 rfl (by decide) (by omega) v349 y348 y351 _ _ _ (fun k_ => (P0_ k_ ∨ w.heap.size ≤ k_)) (fun k_ => ((fun k_ => (P0_ k_ ∨ w.heap.size ≤ k_))) k_ ∧ some k_ ≠ (v349 : Value).ownBlock) rfl rfl ?aO ?aR (fun _ hk => hk) ?aF ?aB ?aS ?aL ?_
      (case aR => exact (by skip; exact Kd.V_F (Kd.V_mono (ok' := (fun k_ => ((fun k_ => (P0_ k_ ∨ w.heap.size ≤ k_))) k_ ∧ some k_ ≠ (v349 : Value).ownBlock)) (HO355.out) (fun k_ hk => ⟨hk.1.1, hk.2⟩))))
      (case aB => exact (zh0_ HB.out))
      (case aF => exact (fun k_ hk => (.inr (Nat.le_trans (below_size (zh0_ HB.out)) hk))))
      (case aO => exact (zN_ HO350.out))
      (case aS => exact (below_size (zh0_ HB.out)))
      (case aL => have := LMc11.out; omega)
      intro v357 w21 ho hb hg hat
      rw [← Ny356.out] at ho
      have n0_ := Aside0.mk (Kd.V_afterv (ok := (fun k_ => (P0_ k_ ∨ w.heap.size ≤ k_))) (by (with_reducible repeat (first | apply Kd.V_alloc | apply Kd.V_drewN | apply Kd.V_drew)); exact Kd.V_mono HO0.out (fun _ hk => ⟨hk.1.1, hk.2⟩)) hg hat)
      have n1_ := Aside0.mk (Kd.V_afterv (ok := (fun k_ => (P0_ k_ ∨ w.heap.size ≤ k_))) (by (with_reducible repeat (first | apply Kd.V_alloc | apply Kd.V_drewN | apply Kd.V_drew)); exact Kd.V_mono HO341.out (fun _ hk => ⟨hk.1.1, hk.2⟩)) hg hat)
      have n2_ := Aside0.mk (Kd.V_afterv (ok := (fun k_ => (P0_ k_ ∨ w.heap.size ≤ k_))) (by (with_reducible repeat (first | apply Kd.V_alloc | apply Kd.V_drewN | apply Kd.V_drew)); exact Kd.V_mono HO355.out (fun _ hk => ⟨hk.1.1, hk.2⟩)) hg hat)
      have n3_ := Aside0.mk (hb)
      have n4_ := Aside0.mk (ho)
      clear HO0 HO341 HO355 HB HO350
      have HO0 := n0_
      have HO341 := n1_
      have HO355 := n2_
      have HB := n3_
      have HO358 := n4_
      clear n0_ n1_ n2_ n3_ n4_ ho hb hg hat
      refine hK.out _ _ trivial (fun hHeld => ?_)
      clear hK K
      refine zno 21 ?_
      refine zpu 9 (some 6) (zB 10 0) (any_of HT_.out (by kernel_rfl)) ?_
      refine done_ (done_of HT_.out (by kernel_rfl)) ?_
      try go_wp2
      go_ret
      exact ⟨_, by first | rfl | (simp [errW_none, errW_some] <;> rfl) | (simp [*, errW_none, errW_some] <;> rfl), by (with_reducible repeat (first | apply Kd.N_alloc | apply Kd.N_drewN | apply Kd.N_drew)); exact HO358.out, by exact zh0_ HB.out⟩
     ·rw [if_neg c11] at H
      cases H
    ·rw [if_neg c8] at H
     cases H
   ·rw [if_neg c6] at H
    cases H
  ·rw [if_neg c5] at H
   cases H
 ·rw [if_neg c4] at H
  cases H
end Go.Proofs.Ytcbgichkeecgiaa.Print
