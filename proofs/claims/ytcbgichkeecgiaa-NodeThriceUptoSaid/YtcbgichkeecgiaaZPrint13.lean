-- What the claim uses alone (wip/slim.py). Lean checks it.
import Derived.Test.YtcbgichkeecgiaaZAb
import Derived.Test.YtcbgichkeecgiaaZPrint0
import Derived.Test.YtcbgichkeecgiaaZPrint1
import Derived.Test.YtcbgichkeecgiaaZPrint2
namespace Go.Proofs.Ytcbgichkeecgiaa.Print
open Go.RowKit Go.Proofs.YtcbgichkeecgiaaW.PrintWords Go.Proofs.YtcbgichkeecgiaaW.PrintLast Go.Proofs.YtcbgichkeecgiaaW.PrintMore
attribute [local go_sem] max2_mx min2_mn max_two min_two max_three min_three max_four min_four
set_option linter.unusedVariables false
set_option linter.unusedSimpArgs false
def node_half.l0 : Nat → Int → Int → Int → Int → Bool → List (List Int) → List (List Int) → List Int → Option (Int)
 | 0, _, _, _, _, _, _, _, _ => none
 | k + 1, x3, x4, x16, x17, x152000, x152001, x152002, x152003 => if x17 < x16 then (if 0 ≤ x17 then (if x17 < (x152001.length : Int) then ((node_long.f k (rd_L1 x152001 x17)).bind fun t158 => (if x17 < (x152002.length : Int) then ((node_long.f k (rd_L1 x152002 x17)).bind fun t160 => ((node_width.f k (wrap64 (x17 + 1))).bind fun t161 => (if (wrap64 ((wrap64 (x4 + (wrap64 (t158 + t160)))) + t161)) ≥ x3 then (some (wrap64 (x17 + 1))) else (node_half.l0 k x3 (wrap64 (x4 + (wrap64 (t158 + t160)))) x16 (wrap64 (x17 + 1)) x152000 x152001 x152002 x152003)))) else (none))) else (none)) else (none)) else (some (wrap64 ((x152001.length : Int) - 1)))
def node_half.f (k : Nat) (a0_0 : Bool) (l0_1 : List (List Int)) (l0_2 : List (List Int)) (l0_3 : List Int) : Option (Int) := (node_size.f k a0_0 l0_1 l0_2 l0_3).bind fun t152 => (if 0 ≤ (wrap64 ((l0_1.length : Int) - 1)) then (if (wrap64 ((l0_1.length : Int) - 1)) ≤ (l0_1.length : Int) then (node_half.l0 k (wrap64 (Int.tdiv t152 2)) 5 ((l0_1.take ((wrap64 ((l0_1.length : Int) - 1)) : Int).toNat).length : Int) 0 a0_0 l0_1 l0_2 l0_3) else (none)) else (none))
set_option maxHeartbeats 8000000 in
set_option maxRecDepth 100000 in
theorem node_half.calls (k : Nat) (a0_0 : Bool) (A0_1 : Option Addr) (c0_1 : Nat) (l0_1 : List (List Int)) (A0_2 : Option Addr) (c0_2 : Nat) (l0_2 : List (List Int)) (A0_3 : Option Addr) (c0_3 : Nat) (l0_3 : List Int) (r : Int) (w : World) (hr0_1 : Kd.C (Kd.slice 5 (Kd.int .u8)) w A0_1 l0_1.length l0_1) (hc0_1 : l0_1.length ≤ c0_1) (hr0_2 : Kd.C (Kd.slice 5 (Kd.int .u8)) w A0_2 l0_2.length l0_2) (hc0_2 : l0_2.length ≤ c0_2) (hr0_3 : Kd.C (Kd.int .i64) w A0_3 l0_3.length l0_3) (hc0_3 : l0_3.length ≤ c0_3) (h : node_half.f k a0_0 l0_1 l0_2 l0_3 = some r) :
  Calls Try.prog 38 #[.agg #[.bool a0_0, .slice A0_1 l0_1.length c0_1, .slice A0_2 l0_2.length c0_2, .slice A0_3 l0_3.length c0_3]] w fun e w' => e = .returned (.int .i64 r) ∧ Below w.heap.size w w' := by
 have hu26 := Try.underlying26
 have HR0_1 := Aside0.mk hr0_1
 have HC0_1 := Aside0.mk hc0_1
 clear hr0_1 hc0_1
 have HR0_2 := Aside0.mk hr0_2
 have HC0_2 := Aside0.mk hc0_2
 clear hr0_2 hc0_2
 have HR0_3 := Aside0.mk hr0_3
 have HC0_3 := Aside0.mk hc0_3
 clear hr0_3 hc0_3
 have HB := Aside0.mk (Below.refl w.heap.size w)
 have H : ((node_size.f k a0_0 l0_1 l0_2 l0_3).bind fun t152 => (if 0 ≤ (wrap64 ((l0_1.length : Int) - 1)) then (if (wrap64 ((l0_1.length : Int) - 1)) ≤ (l0_1.length : Int) then (node_half.l0 k (wrap64 (Int.tdiv t152 2)) 5 ((l0_1.take ((wrap64 ((l0_1.length : Int) - 1)) : Int).toNat).length : Int) 0 a0_0 l0_1 l0_2 l0_3) else (none)) else (none))) = some r := h
 clear h
 replace H := Option.bind_eq_some_iff.mp H
 obtain ⟨t152, A20, H⟩ := H
 replace H : (if 0 ≤ (wrap64 ((l0_1.length : Int) - 1)) then (if (wrap64 ((l0_1.length : Int) - 1)) ≤ (l0_1.length : Int) then (node_half.l0 k (wrap64 (Int.tdiv t152 2)) 5 ((l0_1.take ((wrap64 ((l0_1.length : Int) - 1)) : Int).toNat).length : Int) 0 a0_0 l0_1 l0_2 l0_3) else (none)) else (none)) = some r := H
 have A2 := Aside0.mk A20
 clear A20
 obtain ⟨ji3, hji3⟩ : ∃ j_ : Int, (wrap64 ((l0_1.length : Int) - 1)) = j_ := ⟨_, rfl⟩
 replace H : (if 0 ≤ (ji3) then (if (ji3) ≤ (l0_1.length : Int) then (node_half.l0 k (wrap64 (Int.tdiv t152 2)) 5 ((l0_1.take ((ji3) : Int).toNat).length : Int) 0 a0_0 l0_1 l0_2 l0_3) else (none)) else (none)) = some r := by first | (rw [hji3] at H; exact H) | (simp only [hji3] at H ⊢; exact H)
 (try rw [hji3] at A2)
 have hji3w : (IntKind.i64.wrap ((l0_1.length : Int) - 1)) = ji3 := (i64_w _).trans hji3
 by_cases c4 : 0 ≤ (ji3)
 ·rw [if_pos c4] at H
  have c4b0 := eq_true c4
  have c4b1 : decide (0 ≤ (ji3)) = true := decide_eq_true c4
  clear c4
  by_cases c5 : (ji3) ≤ (l0_1.length : Int)
  ·rw [if_pos c5] at H
   have c5b0 := eq_true c5
   have c5b1 : decide ((ji3) ≤ (l0_1.length : Int)) = true := decide_eq_true c5
   clear c5
   obtain ⟨y153, hy153⟩ : ∃ y_ : List (List Int), y_ = (l0_1.take ((ji3) : Int).toNat) := ⟨_, rfl⟩
   replace H : (node_half.l0 k (wrap64 (Int.tdiv t152 2)) 5 (y153.length : Int) 0 a0_0 l0_1 l0_2 l0_3) = some r := by first | (rw [hy153]; with_reducible exact H) | (have H2_ := (Option.bind_some _ _).symm.trans H; rw [hy153]; with_reducible exact H2_) | (have H2_ := (Option.bind_some _ _).symm.trans H; with_reducible exact H2_) | with_reducible exact H | (rw [hy153]; exact H) | exact H
   have Ny153 := Aside0.mk hy153
   clear hy153
   have H' := Aside0.mk H
   clear H
   go_enter Try.func38, Try.ntmps38
   go_wp2_with (first | ((with_reducible refine gate_dst (N := 1) rfl ?_); refine box_event ?hg (N := 1) ?hd (cs := #[.bool a0_0, .slice A0_1 l0_1.length c0_1, .slice A0_2 l0_2.length c0_2, .slice A0_3 l0_3.length c0_3]) (t := 26) ?hr ?_; (case hd => rfl); (case hg => rfl); (case hr => first | (go_simp; done) | (go_simp; rfl)); intro gb151 hg w6 hbox hb; have n0_ := Aside0.mk (below_step (zh0_ HB.out) hb); have n1_ := Aside0.mk (hbox); have n2_ := Aside0.mk ((by rw [hg]; exact (below_size (zh0_ HB.out)) : w.heap.size ≤ gb151)); have n3_ := Aside0.mk ((by rw [hg]; exact (below_size (zh0_ HB.out)) : w.heap.size ≤ gb151)); clear HB; have HB := n0_; have BK151 := n1_; have GW151 := n2_; have GE151 := n3_; clear n0_ n1_ n2_ n3_; clear hb hbox hg; obtain ⟨hcz7_0, hcz7_1, hcz7_2, hcz7_3⟩ := zc4 BK151.out; obtain ⟨hfz7_0, hfz7_1, hfz7_2, hfz7_3⟩ := zz4 BK151.out) | (go_at_call 29; (with_reducible refine (node_size.calls k a0_0 _ _ l0_1 _ _ l0_2 _ _ l0_3 t152 _ ?side1 ?side2 ?side3 ?side4 ?side5 ?side6 A2.out).mono ?_); (case side1 => exact zc_ (Kd.C_below HR0_1.out HB.out)); (case side2 => exact HC0_1.out); (case side3 => exact zc_ (Kd.C_below HR0_2.out HB.out)); (case side4 => exact HC0_2.out); (case side5 => exact zc_ (Kd.C_below HR0_3.out HB.out)); (case side6 => exact HC0_3.out); rintro e w8 ⟨rfl, hb⟩; have n0_ := Aside0.mk (blk_below (zb_ BK151.out) hb); have n1_ := Aside0.mk (below_step (zh1_ HB.out GE151.out) hb); clear BK151; clear HB; have BK151 := n0_; have HB := n1_; clear n0_ n1_; (try clear hb); (try clear hb2); (try clear hk); (try clear hi); obtain ⟨hcz9_0, hcz9_1, hcz9_2, hcz9_3⟩ := zc4 BK151.out; obtain ⟨hfz9_0, hfz9_1, hfz9_2, hfz9_3⟩ := zz4 BK151.out; have q10 : ((ji3) : Int) ≤ ((l0_1.length : Int) : Int) := of_decide_eq_true za_; obtain ⟨i010, hi010, _, hsz10, _⟩ := info_parts info27; have hroom10 : l0_1.length ≤ c0_1 := HC0_1.out; have hC10 : Kd.C (Kd.slice 5 (Kd.int .u8)) _ A0_1 l0_1.length l0_1 := HR0_1.out; have hcut10 := cut_to (P := Try.prog) 22 27 .i64 Try.underlying22 hi010 A0_1 l0_1.length c0_1 (ji3) (of_decide_eq_true za_) q10 hroom10; have hr10 := Kd.C_take (m := ((ji3) : Int).toNat) hC10 (by omega); have hy10 : y153.length = ((ji3) : Int).toNat := (by rw [Ny153.out, List.length_take]; omega); rw [← Ny153.out] at hr10; rw [← hy10] at hcut10; have HR156 := Aside0.mk hr10; have HC156 := Aside0.mk (show y153.length ≤ c0_1 from by omega); clear hr10 hC10 hroom10 hi010 hsz10; have KY10 := Aside0.mk hy10; clear hy10; replace q10 := eq_true q10))
   repeat (go_quiet (first | ((with_reducible refine gate_dst (N := 1) rfl ?_); refine box_event ?hg (N := 1) ?hd (cs := #[.bool a0_0, .slice A0_1 l0_1.length c0_1, .slice A0_2 l0_2.length c0_2, .slice A0_3 l0_3.length c0_3]) (t := 26) ?hr ?_; (case hd => rfl); (case hg => rfl); (case hr => first | (go_simp; done) | (go_simp; rfl)); intro gb151 hg w6 hbox hb; have n0_ := Aside0.mk (below_step (zh0_ HB.out) hb); have n1_ := Aside0.mk (hbox); have n2_ := Aside0.mk ((by rw [hg]; exact (below_size (zh0_ HB.out)) : w.heap.size ≤ gb151)); have n3_ := Aside0.mk ((by rw [hg]; exact (below_size (zh0_ HB.out)) : w.heap.size ≤ gb151)); clear HB; have HB := n0_; have BK151 := n1_; have GW151 := n2_; have GE151 := n3_; clear n0_ n1_ n2_ n3_; clear hb hbox hg; obtain ⟨hcz7_0, hcz7_1, hcz7_2, hcz7_3⟩ := zc4 BK151.out; obtain ⟨hfz7_0, hfz7_1, hfz7_2, hfz7_3⟩ := zz4 BK151.out) | (go_at_call 29; (with_reducible refine (node_size.calls k a0_0 _ _ l0_1 _ _ l0_2 _ _ l0_3 t152 _ ?side1 ?side2 ?side3 ?side4 ?side5 ?side6 A2.out).mono ?_); (case side1 => exact zc_ (Kd.C_below HR0_1.out HB.out)); (case side2 => exact HC0_1.out); (case side3 => exact zc_ (Kd.C_below HR0_2.out HB.out)); (case side4 => exact HC0_2.out); (case side5 => exact zc_ (Kd.C_below HR0_3.out HB.out)); (case side6 => exact HC0_3.out); rintro e w8 ⟨rfl, hb⟩; have n0_ := Aside0.mk (blk_below (zb_ BK151.out) hb); have n1_ := Aside0.mk (below_step (zh1_ HB.out GE151.out) hb); clear BK151; clear HB; have BK151 := n0_; have HB := n1_; clear n0_ n1_; (try clear hb); (try clear hb2); (try clear hk); (try clear hi); obtain ⟨hcz9_0, hcz9_1, hcz9_2, hcz9_3⟩ := zc4 BK151.out; obtain ⟨hfz9_0, hfz9_1, hfz9_2, hfz9_3⟩ := zz4 BK151.out; have q10 : ((ji3) : Int) ≤ ((l0_1.length : Int) : Int) := of_decide_eq_true za_; obtain ⟨i010, hi010, _, hsz10, _⟩ := info_parts info27; have hroom10 : l0_1.length ≤ c0_1 := HC0_1.out; have hC10 : Kd.C (Kd.slice 5 (Kd.int .u8)) _ A0_1 l0_1.length l0_1 := HR0_1.out; have hcut10 := cut_to (P := Try.prog) 22 27 .i64 Try.underlying22 hi010 A0_1 l0_1.length c0_1 (ji3) (of_decide_eq_true za_) q10 hroom10; have hr10 := Kd.C_take (m := ((ji3) : Int).toNat) hC10 (by omega); have hy10 : y153.length = ((ji3) : Int).toNat := (by rw [Ny153.out, List.length_take]; omega); rw [← Ny153.out] at hr10; rw [← hy10] at hcut10; have HR156 := Aside0.mk hr10; have HC156 := Aside0.mk (show y153.length ≤ c0_1 from by omega); clear hr10 hC10 hroom10 hi010 hsz10; have KY10 := Aside0.mk hy10; clear hy10; replace q10 := eq_true q10)); try go_wp2_with (first | ((with_reducible refine gate_dst (N := 1) rfl ?_); refine box_event ?hg (N := 1) ?hd (cs := #[.bool a0_0, .slice A0_1 l0_1.length c0_1, .slice A0_2 l0_2.length c0_2, .slice A0_3 l0_3.length c0_3]) (t := 26) ?hr ?_; (case hd => rfl); (case hg => rfl); (case hr => first | (go_simp; done) | (go_simp; rfl)); intro gb151 hg w6 hbox hb; have n0_ := Aside0.mk (below_step (zh0_ HB.out) hb); have n1_ := Aside0.mk (hbox); have n2_ := Aside0.mk ((by rw [hg]; exact (below_size (zh0_ HB.out)) : w.heap.size ≤ gb151)); have n3_ := Aside0.mk ((by rw [hg]; exact (below_size (zh0_ HB.out)) : w.heap.size ≤ gb151)); clear HB; have HB := n0_; have BK151 := n1_; have GW151 := n2_; have GE151 := n3_; clear n0_ n1_ n2_ n3_; clear hb hbox hg; obtain ⟨hcz7_0, hcz7_1, hcz7_2, hcz7_3⟩ := zc4 BK151.out; obtain ⟨hfz7_0, hfz7_1, hfz7_2, hfz7_3⟩ := zz4 BK151.out) | (go_at_call 29; (with_reducible refine (node_size.calls k a0_0 _ _ l0_1 _ _ l0_2 _ _ l0_3 t152 _ ?side1 ?side2 ?side3 ?side4 ?side5 ?side6 A2.out).mono ?_); (case side1 => exact zc_ (Kd.C_below HR0_1.out HB.out)); (case side2 => exact HC0_1.out); (case side3 => exact zc_ (Kd.C_below HR0_2.out HB.out)); (case side4 => exact HC0_2.out); (case side5 => exact zc_ (Kd.C_below HR0_3.out HB.out)); (case side6 => exact HC0_3.out); rintro e w8 ⟨rfl, hb⟩; have n0_ := Aside0.mk (blk_below (zb_ BK151.out) hb); have n1_ := Aside0.mk (below_step (zh1_ HB.out GE151.out) hb); clear BK151; clear HB; have BK151 := n0_; have HB := n1_; clear n0_ n1_; (try clear hb); (try clear hb2); (try clear hk); (try clear hi); obtain ⟨hcz9_0, hcz9_1, hcz9_2, hcz9_3⟩ := zc4 BK151.out; obtain ⟨hfz9_0, hfz9_1, hfz9_2, hfz9_3⟩ := zz4 BK151.out; have q10 : ((ji3) : Int) ≤ ((l0_1.length : Int) : Int) := of_decide_eq_true za_; obtain ⟨i010, hi010, _, hsz10, _⟩ := info_parts info27; have hroom10 : l0_1.length ≤ c0_1 := HC0_1.out; have hC10 : Kd.C (Kd.slice 5 (Kd.int .u8)) _ A0_1 l0_1.length l0_1 := HR0_1.out; have hcut10 := cut_to (P := Try.prog) 22 27 .i64 Try.underlying22 hi010 A0_1 l0_1.length c0_1 (ji3) (of_decide_eq_true za_) q10 hroom10; have hr10 := Kd.C_take (m := ((ji3) : Int).toNat) hC10 (by omega); have hy10 : y153.length = ((ji3) : Int).toNat := (by rw [Ny153.out, List.length_take]; omega); rw [← Ny153.out] at hr10; rw [← hy10] at hcut10; have HR156 := Aside0.mk hr10; have HC156 := Aside0.mk (show y153.length ≤ c0_1 from by omega); clear hr10 hC10 hroom10 hi010 hsz10; have KY10 := Aside0.mk hy10; clear hy10; replace q10 := eq_true q10)))
   go_loopg [4, 17] k (fun kq v4 v17 w' => ∃ (x4_1 : Int) (x17_1 : Int), v4 = .int .i64 x4_1 ∧ v17 = .int .i64 x17_1 ∧ Aside0 (node_half.l0 kq (wrap64 (Int.tdiv t152 2)) x4_1 (y153.length : Int) x17_1 a0_0 l0_1 l0_2 l0_3 = some r) ∧ Aside0 (kq ≤ k) ∧ Aside0 (w'.heap[gb151]? = some (.cells #[.bool a0_0, (.slice A0_1 l0_1.length c0_1), (.slice A0_2 l0_2.length c0_2), (.slice A0_3 l0_3.length c0_3)] 26 (0, 0))) ∧ Aside0 (Below w.heap.size w w'))
   case atStart => exact ⟨(5), (0), (by first | rfl | (simp; done) | (simp [*]; done) | (simp only [i64_w]; done)), (by first | rfl | (simp; done) | (simp [*]; done) | (simp only [i64_w]; done)), H', ⟨Nat.le_refl _⟩, ⟨by (with_reducible repeat (first | refine blk_drewN ?_ _ | refine blk_drew ?_ | refine blk_alloc ?_ _)); exact BK151.out⟩, ⟨by exact zh1_ HB.out GE151.out⟩⟩
   case round =>
    clear H'
    try clear q1
    try clear p2
    try clear c3
    try clear c4
    try clear c4b0
    try clear c4b1
    try clear c5
    try clear c5b0
    try clear c5b1
    try clear p6
    try clear q10
    try clear hcz7_0
    try clear hcz7_1
    try clear hcz7_2
    try clear hcz7_3
    try clear hcz9_0
    try clear hcz9_1
    try clear hcz9_2
    try clear hcz9_3
    try clear hfz7_0
    try clear hfz7_1
    try clear hfz7_2
    try clear hfz7_3
    try clear hfz9_0
    try clear hfz9_1
    try clear hfz9_2
    try clear hfz9_3
    try clear q10
    (try clear BK151)
    obtain ⟨x4_1, x17_1, rfl, rfl, HA, HK1, BK151, HB⟩ := hrel
    cases gk with
    | zero => exact absurd HA.out (by simp [node_half.l0])
    | succ k1 =>
     have H := HA.out
     clear HA
     simp only [node_half.l0] at H
     by_cases c11 : x17_1 < (y153.length : Int)
     ·rw [if_pos c11] at H
      have c11b0 : decide (x17_1 < (y153.length : Int)) = true := decide_eq_true c11
      clear c11
      by_cases c12 : 0 ≤ x17_1
      ·rw [if_pos c12] at H
       have c12b0 : decide (0 ≤ x17_1) = true := decide_eq_true c12
       clear c12
       by_cases c13 : x17_1 < (l0_1.length : Int)
       ·rw [if_pos c13] at H
        have c13b0 : decide (x17_1 < (l0_1.length : Int)) = true := decide_eq_true c13
        clear c13
        replace H := Option.bind_eq_some_iff.mp H
        obtain ⟨t158, A140, H⟩ := H
        replace H : (if x17_1 < (l0_2.length : Int) then ((node_long.f k1 (rd_L1 l0_2 x17_1)).bind fun t160 => ((node_width.f k1 (wrap64 (x17_1 + 1))).bind fun t161 => (if (wrap64 ((wrap64 (x4_1 + (wrap64 (t158 + t160)))) + t161)) ≥ (wrap64 (Int.tdiv t152 2)) then (some (wrap64 (x17_1 + 1))) else (node_half.l0 k1 (wrap64 (Int.tdiv t152 2)) (wrap64 (x4_1 + (wrap64 (t158 + t160)))) (y153.length : Int) (wrap64 (x17_1 + 1)) a0_0 l0_1 l0_2 l0_3)))) else (none)) = some r := H
        have A14 := Aside0.mk A140
        clear A140
        by_cases c15 : x17_1 < (l0_2.length : Int)
        ·rw [if_pos c15] at H
         have c15b0 : decide (x17_1 < (l0_2.length : Int)) = true := decide_eq_true c15
         clear c15
         replace H := Option.bind_eq_some_iff.mp H
         obtain ⟨t160, A160, H⟩ := H
         replace H : ((node_width.f k1 (wrap64 (x17_1 + 1))).bind fun t161 => (if (wrap64 ((wrap64 (x4_1 + (wrap64 (t158 + t160)))) + t161)) ≥ (wrap64 (Int.tdiv t152 2)) then (some (wrap64 (x17_1 + 1))) else (node_half.l0 k1 (wrap64 (Int.tdiv t152 2)) (wrap64 (x4_1 + (wrap64 (t158 + t160)))) (y153.length : Int) (wrap64 (x17_1 + 1)) a0_0 l0_1 l0_2 l0_3))) = some r := H
         have A16 := Aside0.mk A160
         clear A160
         replace H := Option.bind_eq_some_iff.mp H
         obtain ⟨t161, A170, H⟩ := H
         replace H : (if (wrap64 ((wrap64 (x4_1 + (wrap64 (t158 + t160)))) + t161)) ≥ (wrap64 (Int.tdiv t152 2)) then (some (wrap64 (x17_1 + 1))) else (node_half.l0 k1 (wrap64 (Int.tdiv t152 2)) (wrap64 (x4_1 + (wrap64 (t158 + t160)))) (y153.length : Int) (wrap64 (x17_1 + 1)) a0_0 l0_1 l0_2 l0_3)) = some r := H
         have A17 := Aside0.mk A170
         clear A170
         by_cases c18 : (wrap64 ((wrap64 (x4_1 + (wrap64 (t158 + t160)))) + t161)) ≥ (wrap64 (Int.tdiv t152 2))
         ·rw [if_pos c18] at H
          have c18b0 : decide ((wrap64 (Int.tdiv t152 2)) ≤ (wrap64 ((wrap64 (x4_1 + (wrap64 (t158 + t160)))) + t161))) = true := decide_eq_true c18
          clear c18
          obtain rfl := Option.some.inj H
          obtain ⟨hcz19_0, hcz19_1, hcz19_2, hcz19_3⟩ := zc4 BK151.out
          obtain ⟨hfz19_0, hfz19_1, hfz19_2, hfz19_3⟩ := zz4 BK151.out
          have p157 : 0 ≤ (x17_1 : Int) := of_decide_eq_true za_
          have q157 : x17_1 < (l0_1.length : Int) := of_decide_eq_true za_
          obtain ⟨ad157, A157_0, c157_0, e157, hx157_0, hl157_0, hi157_0⟩ := at_L1 HR0_1.out x17_1 p157 q157
          cases e157
          replace hx157_0 := zx_ HB.out hx157_0
          have HR157_0 := Aside0.mk hi157_0
          have HC157_0 := Aside0.mk hl157_0
          clear hi157_0 hl157_0
          replace p157 := eq_true p157
          replace q157 := eq_true q157
          go_wp2_with (first | (go_at_call 51; (with_reducible refine (node_long.calls k1 _ _ (rd_L1 l0_1 x17_1) t158 _ ?side1 ?side2 A14.out).mono ?_); (case side1 => exact zc_ (Kd.C_below HR157_0.out HB.out)); (case side2 => exact HC157_0.out); rintro e w' ⟨rfl, ⟨nd, rfl⟩⟩; (try first | exact ⟨rfl, _, World.drewN_drewN _ _ _⟩ | exact ⟨rfl, _, Eq.trans (World.drewN_drewN _ _ _) (congrArg (World.drewN _) (Nat.add_assoc _ _ _))⟩); have p159 : 0 ≤ (x17_1 : Int) := of_decide_eq_true za_; have q159 : x17_1 < (l0_2.length : Int) := of_decide_eq_true za_; obtain ⟨ad159, A159_0, c159_0, e159, hx159_0, hl159_0, hi159_0⟩ := at_L1 HR0_2.out x17_1 p159 q159; cases e159; replace hx159_0 := zx_ HB.out hx159_0; have HR159_0 := Aside0.mk hi159_0; have HC159_0 := Aside0.mk hl159_0; clear hi159_0 hl159_0; replace p159 := eq_true p159; replace q159 := eq_true q159) | (go_at_call 51; (with_reducible refine (node_long.calls k1 _ _ (rd_L1 l0_2 x17_1) t160 _ ?side1 ?side2 A16.out).mono ?_); (case side1 => exact zc_ (Kd.C_below HR159_0.out (zh1_ HB.out GE151.out))); (case side2 => exact HC159_0.out); rintro e w' ⟨rfl, ⟨nd, rfl⟩⟩; (try first | exact ⟨rfl, _, World.drewN_drewN _ _ _⟩ | exact ⟨rfl, _, Eq.trans (World.drewN_drewN _ _ _) (congrArg (World.drewN _) (Nat.add_assoc _ _ _))⟩)) | (go_at_call 50; (with_reducible refine (node_width.calls k1 (wrap64 (x17_1 + 1)) t161 _ A17.out).mono ?_); rintro e w' ⟨rfl, ⟨nd, rfl⟩⟩; (try first | exact ⟨rfl, _, World.drewN_drewN _ _ _⟩ | exact ⟨rfl, _, Eq.trans (World.drewN_drewN _ _ _) (congrArg (World.drewN _) (Nat.add_assoc _ _ _))⟩)))
          repeat (go_quiet (first | (go_at_call 51; (with_reducible refine (node_long.calls k1 _ _ (rd_L1 l0_1 x17_1) t158 _ ?side1 ?side2 A14.out).mono ?_); (case side1 => exact zc_ (Kd.C_below HR157_0.out HB.out)); (case side2 => exact HC157_0.out); rintro e w' ⟨rfl, ⟨nd, rfl⟩⟩; (try first | exact ⟨rfl, _, World.drewN_drewN _ _ _⟩ | exact ⟨rfl, _, Eq.trans (World.drewN_drewN _ _ _) (congrArg (World.drewN _) (Nat.add_assoc _ _ _))⟩); have p159 : 0 ≤ (x17_1 : Int) := of_decide_eq_true za_; have q159 : x17_1 < (l0_2.length : Int) := of_decide_eq_true za_; obtain ⟨ad159, A159_0, c159_0, e159, hx159_0, hl159_0, hi159_0⟩ := at_L1 HR0_2.out x17_1 p159 q159; cases e159; replace hx159_0 := zx_ HB.out hx159_0; have HR159_0 := Aside0.mk hi159_0; have HC159_0 := Aside0.mk hl159_0; clear hi159_0 hl159_0; replace p159 := eq_true p159; replace q159 := eq_true q159) | (go_at_call 51; (with_reducible refine (node_long.calls k1 _ _ (rd_L1 l0_2 x17_1) t160 _ ?side1 ?side2 A16.out).mono ?_); (case side1 => exact zc_ (Kd.C_below HR159_0.out (zh1_ HB.out GE151.out))); (case side2 => exact HC159_0.out); rintro e w' ⟨rfl, ⟨nd, rfl⟩⟩; (try first | exact ⟨rfl, _, World.drewN_drewN _ _ _⟩ | exact ⟨rfl, _, Eq.trans (World.drewN_drewN _ _ _) (congrArg (World.drewN _) (Nat.add_assoc _ _ _))⟩)) | (go_at_call 50; (with_reducible refine (node_width.calls k1 (wrap64 (x17_1 + 1)) t161 _ A17.out).mono ?_); rintro e w' ⟨rfl, ⟨nd, rfl⟩⟩; (try first | exact ⟨rfl, _, World.drewN_drewN _ _ _⟩ | exact ⟨rfl, _, Eq.trans (World.drewN_drewN _ _ _) (congrArg (World.drewN _) (Nat.add_assoc _ _ _))⟩))); try go_wp2_with (first | (go_at_call 51; (with_reducible refine (node_long.calls k1 _ _ (rd_L1 l0_1 x17_1) t158 _ ?side1 ?side2 A14.out).mono ?_); (case side1 => exact zc_ (Kd.C_below HR157_0.out HB.out)); (case side2 => exact HC157_0.out); rintro e w' ⟨rfl, ⟨nd, rfl⟩⟩; (try first | exact ⟨rfl, _, World.drewN_drewN _ _ _⟩ | exact ⟨rfl, _, Eq.trans (World.drewN_drewN _ _ _) (congrArg (World.drewN _) (Nat.add_assoc _ _ _))⟩); have p159 : 0 ≤ (x17_1 : Int) := of_decide_eq_true za_; have q159 : x17_1 < (l0_2.length : Int) := of_decide_eq_true za_; obtain ⟨ad159, A159_0, c159_0, e159, hx159_0, hl159_0, hi159_0⟩ := at_L1 HR0_2.out x17_1 p159 q159; cases e159; replace hx159_0 := zx_ HB.out hx159_0; have HR159_0 := Aside0.mk hi159_0; have HC159_0 := Aside0.mk hl159_0; clear hi159_0 hl159_0; replace p159 := eq_true p159; replace q159 := eq_true q159) | (go_at_call 51; (with_reducible refine (node_long.calls k1 _ _ (rd_L1 l0_2 x17_1) t160 _ ?side1 ?side2 A16.out).mono ?_); (case side1 => exact zc_ (Kd.C_below HR159_0.out (zh1_ HB.out GE151.out))); (case side2 => exact HC159_0.out); rintro e w' ⟨rfl, ⟨nd, rfl⟩⟩; (try first | exact ⟨rfl, _, World.drewN_drewN _ _ _⟩ | exact ⟨rfl, _, Eq.trans (World.drewN_drewN _ _ _) (congrArg (World.drewN _) (Nat.add_assoc _ _ _))⟩)) | (go_at_call 50; (with_reducible refine (node_width.calls k1 (wrap64 (x17_1 + 1)) t161 _ A17.out).mono ?_); rintro e w' ⟨rfl, ⟨nd, rfl⟩⟩; (try first | exact ⟨rfl, _, World.drewN_drewN _ _ _⟩ | exact ⟨rfl, _, Eq.trans (World.drewN_drewN _ _ _) (congrArg (World.drewN _) (Nat.add_assoc _ _ _))⟩))))
          go_ret
          exact ⟨by first | rfl | (simp [errW_none, errW_some] <;> rfl) | (simp only [← hji3]; first | rfl | (simp [errW_none, errW_some] <;> rfl)) | (simp [*, errW_none, errW_some] <;> rfl), by exact zh1_ HB.out GE151.out⟩
         ·rw [if_neg c18] at H
          have c18b0 : decide ((wrap64 (Int.tdiv t152 2)) ≤ (wrap64 ((wrap64 (x4_1 + (wrap64 (t158 + t160)))) + t161))) = false := decide_eq_false c18
          clear c18
          have H' := Aside0.mk H
          clear H
          obtain ⟨hcz20_0, hcz20_1, hcz20_2, hcz20_3⟩ := zc4 BK151.out
          obtain ⟨hfz20_0, hfz20_1, hfz20_2, hfz20_3⟩ := zz4 BK151.out
          have p157 : 0 ≤ (x17_1 : Int) := of_decide_eq_true za_
          have q157 : x17_1 < (l0_1.length : Int) := of_decide_eq_true za_
          obtain ⟨ad157, A157_0, c157_0, e157, hx157_0, hl157_0, hi157_0⟩ := at_L1 HR0_1.out x17_1 p157 q157
          cases e157
          replace hx157_0 := zx_ HB.out hx157_0
          have HR157_0 := Aside0.mk hi157_0
          have HC157_0 := Aside0.mk hl157_0
          clear hi157_0 hl157_0
          replace p157 := eq_true p157
          replace q157 := eq_true q157
          go_wp2_with (first | (go_at_call 51; (with_reducible refine (node_long.calls k1 _ _ (rd_L1 l0_1 x17_1) t158 _ ?side1 ?side2 A14.out).mono ?_); (case side1 => exact zc_ (Kd.C_below HR157_0.out HB.out)); (case side2 => exact HC157_0.out); rintro e w' ⟨rfl, ⟨nd, rfl⟩⟩; (try first | exact ⟨rfl, _, World.drewN_drewN _ _ _⟩ | exact ⟨rfl, _, Eq.trans (World.drewN_drewN _ _ _) (congrArg (World.drewN _) (Nat.add_assoc _ _ _))⟩); have p159 : 0 ≤ (x17_1 : Int) := of_decide_eq_true za_; have q159 : x17_1 < (l0_2.length : Int) := of_decide_eq_true za_; obtain ⟨ad159, A159_0, c159_0, e159, hx159_0, hl159_0, hi159_0⟩ := at_L1 HR0_2.out x17_1 p159 q159; cases e159; replace hx159_0 := zx_ HB.out hx159_0; have HR159_0 := Aside0.mk hi159_0; have HC159_0 := Aside0.mk hl159_0; clear hi159_0 hl159_0; replace p159 := eq_true p159; replace q159 := eq_true q159) | (go_at_call 51; (with_reducible refine (node_long.calls k1 _ _ (rd_L1 l0_2 x17_1) t160 _ ?side1 ?side2 A16.out).mono ?_); (case side1 => exact zc_ (Kd.C_below HR159_0.out (zh1_ HB.out GE151.out))); (case side2 => exact HC159_0.out); rintro e w' ⟨rfl, ⟨nd, rfl⟩⟩; (try first | exact ⟨rfl, _, World.drewN_drewN _ _ _⟩ | exact ⟨rfl, _, Eq.trans (World.drewN_drewN _ _ _) (congrArg (World.drewN _) (Nat.add_assoc _ _ _))⟩)) | (go_at_call 50; (with_reducible refine (node_width.calls k1 (wrap64 (x17_1 + 1)) t161 _ A17.out).mono ?_); rintro e w' ⟨rfl, ⟨nd, rfl⟩⟩; (try first | exact ⟨rfl, _, World.drewN_drewN _ _ _⟩ | exact ⟨rfl, _, Eq.trans (World.drewN_drewN _ _ _) (congrArg (World.drewN _) (Nat.add_assoc _ _ _))⟩)))
          repeat (go_quiet (first | (go_at_call 51; (with_reducible refine (node_long.calls k1 _ _ (rd_L1 l0_1 x17_1) t158 _ ?side1 ?side2 A14.out).mono ?_); (case side1 => exact zc_ (Kd.C_below HR157_0.out HB.out)); (case side2 => exact HC157_0.out); rintro e w' ⟨rfl, ⟨nd, rfl⟩⟩; (try first | exact ⟨rfl, _, World.drewN_drewN _ _ _⟩ | exact ⟨rfl, _, Eq.trans (World.drewN_drewN _ _ _) (congrArg (World.drewN _) (Nat.add_assoc _ _ _))⟩); have p159 : 0 ≤ (x17_1 : Int) := of_decide_eq_true za_; have q159 : x17_1 < (l0_2.length : Int) := of_decide_eq_true za_; obtain ⟨ad159, A159_0, c159_0, e159, hx159_0, hl159_0, hi159_0⟩ := at_L1 HR0_2.out x17_1 p159 q159; cases e159; replace hx159_0 := zx_ HB.out hx159_0; have HR159_0 := Aside0.mk hi159_0; have HC159_0 := Aside0.mk hl159_0; clear hi159_0 hl159_0; replace p159 := eq_true p159; replace q159 := eq_true q159) | (go_at_call 51; (with_reducible refine (node_long.calls k1 _ _ (rd_L1 l0_2 x17_1) t160 _ ?side1 ?side2 A16.out).mono ?_); (case side1 => exact zc_ (Kd.C_below HR159_0.out (zh1_ HB.out GE151.out))); (case side2 => exact HC159_0.out); rintro e w' ⟨rfl, ⟨nd, rfl⟩⟩; (try first | exact ⟨rfl, _, World.drewN_drewN _ _ _⟩ | exact ⟨rfl, _, Eq.trans (World.drewN_drewN _ _ _) (congrArg (World.drewN _) (Nat.add_assoc _ _ _))⟩)) | (go_at_call 50; (with_reducible refine (node_width.calls k1 (wrap64 (x17_1 + 1)) t161 _ A17.out).mono ?_); rintro e w' ⟨rfl, ⟨nd, rfl⟩⟩; (try first | exact ⟨rfl, _, World.drewN_drewN _ _ _⟩ | exact ⟨rfl, _, Eq.trans (World.drewN_drewN _ _ _) (congrArg (World.drewN _) (Nat.add_assoc _ _ _))⟩))); try go_wp2_with (first | (go_at_call 51; (with_reducible refine (node_long.calls k1 _ _ (rd_L1 l0_1 x17_1) t158 _ ?side1 ?side2 A14.out).mono ?_); (case side1 => exact zc_ (Kd.C_below HR157_0.out HB.out)); (case side2 => exact HC157_0.out); rintro e w' ⟨rfl, ⟨nd, rfl⟩⟩; (try first | exact ⟨rfl, _, World.drewN_drewN _ _ _⟩ | exact ⟨rfl, _, Eq.trans (World.drewN_drewN _ _ _) (congrArg (World.drewN _) (Nat.add_assoc _ _ _))⟩); have p159 : 0 ≤ (x17_1 : Int) := of_decide_eq_true za_; have q159 : x17_1 < (l0_2.length : Int) := of_decide_eq_true za_; obtain ⟨ad159, A159_0, c159_0, e159, hx159_0, hl159_0, hi159_0⟩ := at_L1 HR0_2.out x17_1 p159 q159; cases e159; replace hx159_0 := zx_ HB.out hx159_0; have HR159_0 := Aside0.mk hi159_0; have HC159_0 := Aside0.mk hl159_0; clear hi159_0 hl159_0; replace p159 := eq_true p159; replace q159 := eq_true q159) | (go_at_call 51; (with_reducible refine (node_long.calls k1 _ _ (rd_L1 l0_2 x17_1) t160 _ ?side1 ?side2 A16.out).mono ?_); (case side1 => exact zc_ (Kd.C_below HR159_0.out (zh1_ HB.out GE151.out))); (case side2 => exact HC159_0.out); rintro e w' ⟨rfl, ⟨nd, rfl⟩⟩; (try first | exact ⟨rfl, _, World.drewN_drewN _ _ _⟩ | exact ⟨rfl, _, Eq.trans (World.drewN_drewN _ _ _) (congrArg (World.drewN _) (Nat.add_assoc _ _ _))⟩)) | (go_at_call 50; (with_reducible refine (node_width.calls k1 (wrap64 (x17_1 + 1)) t161 _ A17.out).mono ?_); rintro e w' ⟨rfl, ⟨nd, rfl⟩⟩; (try first | exact ⟨rfl, _, World.drewN_drewN _ _ _⟩ | exact ⟨rfl, _, Eq.trans (World.drewN_drewN _ _ _) (congrArg (World.drewN _) (Nat.add_assoc _ _ _))⟩))))
          go_roundg k1
          case measure => have := HK1.out; omega
          case rel => exact ⟨(wrap64 (x4_1 + (wrap64 (t158 + t160)))), (wrap64 (x17_1 + 1)), (by first | rfl | (simp; done) | (simp [*]; done) | (simp only [i64_w]; done)), (by first | rfl | (simp; done) | (simp [*]; done) | (simp only [i64_w]; done)), H', ⟨by have := HK1.out; omega⟩, ⟨by (with_reducible repeat (first | refine blk_drewN ?_ _ | refine blk_drew ?_ | refine blk_alloc ?_ _)); exact BK151.out⟩, ⟨by exact zh1_ HB.out GE151.out⟩⟩
        ·rw [if_neg c15] at H
         exact absurd H (by simp)
       ·rw [if_neg c13] at H
        exact absurd H (by simp)
      ·rw [if_neg c12] at H
       exact absurd H (by simp)
     ·rw [if_neg c11] at H
      have c11b0 : decide (x17_1 < (y153.length : Int)) = false := decide_eq_false c11
      clear c11
      obtain rfl := Option.some.inj H
      obtain ⟨hcz21_0, hcz21_1, hcz21_2, hcz21_3⟩ := zc4 BK151.out
      obtain ⟨hfz21_0, hfz21_1, hfz21_2, hfz21_3⟩ := zz4 BK151.out
      go_wp2
      repeat (go_quiet (fail); try go_wp2)
      go_ret
      exact ⟨by first | rfl | (simp [errW_none, errW_some] <;> rfl) | (simp only [← hji3]; first | rfl | (simp [errW_none, errW_some] <;> rfl)) | (simp [*, errW_none, errW_some] <;> rfl), by exact zh1_ HB.out GE151.out⟩
  ·rw [if_neg c5] at H
   exact absurd H (by simp)
 ·rw [if_neg c4] at H
  exact absurd H (by simp)
end Go.Proofs.Ytcbgichkeecgiaa.Print
