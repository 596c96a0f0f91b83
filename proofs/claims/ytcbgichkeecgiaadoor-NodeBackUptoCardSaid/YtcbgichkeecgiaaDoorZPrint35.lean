-- What the claim uses alone (wip/slim.py). Lean checks it.
import Derived.Test.YtcbgichkeecgiaaDoorZAb
import Derived.Test.YtcbgichkeecgiaaDoorZAln
namespace Go.Proofs.YtcbgichkeecgiaaDoor.Print
open Go.RowKit Go.Proofs.YtcbgichkeecgiaaDoorW.PrintWords Go.Proofs.YtcbgichkeecgiaaDoorW.PrintLast Go.Proofs.YtcbgichkeecgiaaDoorW.PrintMore
attribute [local go_sem] max2_mx min2_mn max_two min_two max_three min_three max_four min_four
set_option linter.unusedVariables false
set_option linter.unusedSimpArgs false
mutual
def ladingref06_Same.j0 : Nat → Bool → Bool → List (List Int) → List (List Int) → List Int → Bool → List (List Int) → List (List Int) → List Int → Option (Bool)
 | 0, _, _, _, _, _, _, _, _, _ => none
 | k + 1, x39, x486000, x486001, x486002, x486003, x487000, x487001, x487002, x487003 => if x39 = true then (some false) else (ladingref06_Same.l0 k (x486001.length : Int) 0 x486000 x486001 x486002 x486003 x487000 x487001 x487002 x487003)
def ladingref06_Same.l0 : Nat → Int → Int → Bool → List (List Int) → List (List Int) → List Int → Bool → List (List Int) → List (List Int) → List Int → Option (Bool)
 | 0, _, _, _, _, _, _, _, _, _, _ => none
 | k + 1, x42, x43, x486000, x486001, x486002, x486003, x487000, x487001, x487002, x487003 => if x43 < x42 then (if 0 ≤ x43 then (if x43 < (x486001.length : Int) then (if x43 < (x487001.length : Int) then (if (strOfNums (rd_L1 x486001 x43)).toList = (strOfNums (rd_L1 x487001 x43)).toList then (ladingref06_Same.l0 k x42 (wrap64 (x43 + 1)) x486000 x486001 x486002 x486003 x487000 x487001 x487002 x487003) else (some false)) else (none)) else (none)) else (none)) else (ladingref06_Same.l1 k (x486002.length : Int) 0 x486000 x486001 x486002 x486003 x487000 x487001 x487002 x487003)
def ladingref06_Same.l1 : Nat → Int → Int → Bool → List (List Int) → List (List Int) → List Int → Bool → List (List Int) → List (List Int) → List Int → Option (Bool)
 | 0, _, _, _, _, _, _, _, _, _, _ => none
 | k + 1, x62, x63, x486000, x486001, x486002, x486003, x487000, x487001, x487002, x487003 => if x63 < x62 then (if 0 ≤ x63 then (if x63 < (x486002.length : Int) then (if x63 < (x487002.length : Int) then (if (strOfNums (rd_L1 x486002 x63)).toList = (strOfNums (rd_L1 x487002 x63)).toList then (ladingref06_Same.l1 k x62 (wrap64 (x63 + 1)) x486000 x486001 x486002 x486003 x487000 x487001 x487002 x487003) else (some false)) else (none)) else (none)) else (none)) else (ladingref06_Same.l2 k (x486003.length : Int) 0 x486000 x486001 x486002 x486003 x487000 x487001 x487002 x487003)
def ladingref06_Same.l2 : Nat → Int → Int → Bool → List (List Int) → List (List Int) → List Int → Bool → List (List Int) → List (List Int) → List Int → Option (Bool)
 | 0, _, _, _, _, _, _, _, _, _, _ => none
 | k + 1, x82, x83, x486000, x486001, x486002, x486003, x487000, x487001, x487002, x487003 => if x83 < x82 then (if 0 ≤ x83 then (if x83 < (x486003.length : Int) then (if x83 < (x487003.length : Int) then (if (rd x486003 x83) = (rd x487003 x83) then (ladingref06_Same.l2 k x82 (wrap64 (x83 + 1)) x486000 x486001 x486002 x486003 x487000 x487001 x487002 x487003) else (some false)) else (none)) else (none)) else (none)) else (some true)
end
def ladingref06_Same.f (k : Nat) (a0_0 : Bool) (l0_1 : List (List Int)) (l0_2 : List (List Int)) (l0_3 : List Int) (a1_0 : Bool) (l1_1 : List (List Int)) (l1_2 : List (List Int)) (l1_3 : List Int) : Option (Bool) := if (a0_0 != a1_0) = true then (ladingref06_Same.j0 k true a0_0 l0_1 l0_2 l0_3 a1_0 l1_1 l1_2 l1_3) else (if (l0_1.length : Int) = (l1_1.length : Int) then (if (l0_2.length : Int) = (l1_2.length : Int) then (ladingref06_Same.j0 k ((l0_3.length : Int) != (l1_3.length : Int)) a0_0 l0_1 l0_2 l0_3 a1_0 l1_1 l1_2 l1_3) else (ladingref06_Same.j0 k true a0_0 l0_1 l0_2 l0_3 a1_0 l1_1 l1_2 l1_3)) else (ladingref06_Same.j0 k true a0_0 l0_1 l0_2 l0_3 a1_0 l1_1 l1_2 l1_3))
set_option maxHeartbeats 8000000 in
set_option maxRecDepth 100000 in
theorem ladingref06_Same.calls (k : Nat) (a0_0 : Bool) (A0_1 : Option Addr) (c0_1 : Nat) (l0_1 : List (List Int)) (A0_2 : Option Addr) (c0_2 : Nat) (l0_2 : List (List Int)) (A0_3 : Option Addr) (c0_3 : Nat) (l0_3 : List Int) (a1_0 : Bool) (A1_1 : Option Addr) (c1_1 : Nat) (l1_1 : List (List Int)) (A1_2 : Option Addr) (c1_2 : Nat) (l1_2 : List (List Int)) (A1_3 : Option Addr) (c1_3 : Nat) (l1_3 : List Int) (r : Bool) (w : World) (hr0_1 : Kd.C (Kd.slice 5 (Kd.int .u8)) w A0_1 l0_1.length l0_1) (hc0_1 : l0_1.length ≤ c0_1) (hr0_2 : Kd.C (Kd.slice 5 (Kd.int .u8)) w A0_2 l0_2.length l0_2) (hc0_2 : l0_2.length ≤ c0_2) (hr0_3 : Kd.C (Kd.int .i64) w A0_3 l0_3.length l0_3) (hc0_3 : l0_3.length ≤ c0_3) (hr1_1 : Kd.C (Kd.slice 5 (Kd.int .u8)) w A1_1 l1_1.length l1_1) (hc1_1 : l1_1.length ≤ c1_1) (hr1_2 : Kd.C (Kd.slice 5 (Kd.int .u8)) w A1_2 l1_2.length l1_2) (hc1_2 : l1_2.length ≤ c1_2) (hr1_3 : Kd.C (Kd.int .i64) w A1_3 l1_3.length l1_3) (hc1_3 : l1_3.length ≤ c1_3) (h : ladingref06_Same.f k a0_0 l0_1 l0_2 l0_3 a1_0 l1_1 l1_2 l1_3 = some r) :
  Calls Tryd.prog 15 #[.agg #[.bool a0_0, .slice A0_1 l0_1.length c0_1, .slice A0_2 l0_2.length c0_2, .slice A0_3 l0_3.length c0_3], .agg #[.bool a1_0, .slice A1_1 l1_1.length c1_1, .slice A1_2 l1_2.length c1_2, .slice A1_3 l1_3.length c1_3]] w fun e w' => e = .returned (.bool r) ∧ Below w.heap.size w w' := by
 have hu25 := Tryd.underlying25
 have HR0_1 := Aside0.mk hr0_1
 have HC0_1 := Aside0.mk hc0_1
 clear hr0_1 hc0_1
 have HR0_2 := Aside0.mk hr0_2
 have HC0_2 := Aside0.mk hc0_2
 clear hr0_2 hc0_2
 have HR0_3 := Aside0.mk hr0_3
 have HC0_3 := Aside0.mk hc0_3
 clear hr0_3 hc0_3
 have HR1_1 := Aside0.mk hr1_1
 have HC1_1 := Aside0.mk hc1_1
 clear hr1_1 hc1_1
 have HR1_2 := Aside0.mk hr1_2
 have HC1_2 := Aside0.mk hc1_2
 clear hr1_2 hc1_2
 have HR1_3 := Aside0.mk hr1_3
 have HC1_3 := Aside0.mk hc1_3
 clear hr1_3 hc1_3
 have HB := Aside0.mk (Below.refl w.heap.size w)
 have H : (if (a0_0 != a1_0) = true then (ladingref06_Same.j0 k true a0_0 l0_1 l0_2 l0_3 a1_0 l1_1 l1_2 l1_3) else (if (l0_1.length : Int) = (l1_1.length : Int) then (if (l0_2.length : Int) = (l1_2.length : Int) then (ladingref06_Same.j0 k ((l0_3.length : Int) != (l1_3.length : Int)) a0_0 l0_1 l0_2 l0_3 a1_0 l1_1 l1_2 l1_3) else (ladingref06_Same.j0 k true a0_0 l0_1 l0_2 l0_3 a1_0 l1_1 l1_2 l1_3)) else (ladingref06_Same.j0 k true a0_0 l0_1 l0_2 l0_3 a1_0 l1_1 l1_2 l1_3))) = some r := h
 clear h
 have HC3 := Aside0.mk H
 clear H
 go_enter Tryd.func15, Tryd.ntmps15
 go_upto_region 1 with (first | ((with_reducible refine gate_dst (N := 2) rfl ?_); (try (refine gate_guard (by rfl) ?_; dsimp only)); refine box_event ?hg (N := 2) ?hd (cs := #[.bool a0_0, .slice A0_1 l0_1.length c0_1, .slice A0_2 l0_2.length c0_2, .slice A0_3 l0_3.length c0_3]) (t := 25) ?hr ?_; (case hd => rfl); (case hg => rfl); (case hr => first | (go_simp; done) | (go_simp; rfl)); intro gb485 hg w4 hbox hb; have BK485 := Aside0.mk (hbox); have GW485 := Aside0.mk ((by rw [hg]; exact (below_size (zh0_ HB.out)) : w.heap.size ≤ gb485)); have GE485 := Aside0.mk ((by rw [hg]; exact (below_size (zh0_ HB.out)) : w.heap.size ≤ gb485)); replace HB := Aside0.mk (below_step (zh0_ HB.out) hb); clear hb hbox hg) | ((with_reducible refine gate_dst (N := 3) rfl ?_); (try (refine gate_guard (by rfl) ?_; dsimp only)); refine box_event ?hg (N := 3) ?hd (cs := #[.bool a1_0, .slice A1_1 l1_1.length c1_1, .slice A1_2 l1_2.length c1_2, .slice A1_3 l1_3.length c1_3]) (t := 25) ?hr ?_; (case hd => rfl); (case hg => rfl); (case hr => first | (go_simp; done) | (go_simp; rfl)); intro gb486 hg w5 hbox hb; have BK486 := Aside0.mk (hbox); have GW486 := Aside0.mk ((by rw [hg]; exact (below_size (zh1_ HB.out GE485.out)) : w.heap.size ≤ gb486)); have GE486 := Aside0.mk ((by rw [hg]; exact (below_size (zh1_ HB.out GE485.out)) : w.heap.size ≤ gb486)); replace HB := Aside0.mk (below_step (zh1_ HB.out GE485.out) hb); have NB485_486 := Aside0.mk ((by rw [hg]; exact Nat.ne_of_lt (blk_lt (zb_ BK485.out)) : gb485 ≠ gb486)); have NB486_485 := Aside0.mk ((by rw [hg]; exact Nat.ne_of_gt (blk_lt (zb_ BK485.out)) : gb486 ≠ gb485)); replace BK485 := Aside0.mk (blk_below (zb_ BK485.out) hb); clear hb hbox hg))
 repeat (go_quiet (first | ((with_reducible refine gate_dst (N := 2) rfl ?_); (try (refine gate_guard (by rfl) ?_; dsimp only)); refine box_event ?hg (N := 2) ?hd (cs := #[.bool a0_0, .slice A0_1 l0_1.length c0_1, .slice A0_2 l0_2.length c0_2, .slice A0_3 l0_3.length c0_3]) (t := 25) ?hr ?_; (case hd => rfl); (case hg => rfl); (case hr => first | (go_simp; done) | (go_simp; rfl)); intro gb485 hg w4 hbox hb; have BK485 := Aside0.mk (hbox); have GW485 := Aside0.mk ((by rw [hg]; exact (below_size (zh0_ HB.out)) : w.heap.size ≤ gb485)); have GE485 := Aside0.mk ((by rw [hg]; exact (below_size (zh0_ HB.out)) : w.heap.size ≤ gb485)); replace HB := Aside0.mk (below_step (zh0_ HB.out) hb); clear hb hbox hg) | ((with_reducible refine gate_dst (N := 3) rfl ?_); (try (refine gate_guard (by rfl) ?_; dsimp only)); refine box_event ?hg (N := 3) ?hd (cs := #[.bool a1_0, .slice A1_1 l1_1.length c1_1, .slice A1_2 l1_2.length c1_2, .slice A1_3 l1_3.length c1_3]) (t := 25) ?hr ?_; (case hd => rfl); (case hg => rfl); (case hr => first | (go_simp; done) | (go_simp; rfl)); intro gb486 hg w5 hbox hb; have BK486 := Aside0.mk (hbox); have GW486 := Aside0.mk ((by rw [hg]; exact (below_size (zh1_ HB.out GE485.out)) : w.heap.size ≤ gb486)); have GE486 := Aside0.mk ((by rw [hg]; exact (below_size (zh1_ HB.out GE485.out)) : w.heap.size ≤ gb486)); replace HB := Aside0.mk (below_step (zh1_ HB.out GE485.out) hb); have NB485_486 := Aside0.mk ((by rw [hg]; exact Nat.ne_of_lt (blk_lt (zb_ BK485.out)) : gb485 ≠ gb486)); have NB486_485 := Aside0.mk ((by rw [hg]; exact Nat.ne_of_gt (blk_lt (zb_ BK485.out)) : gb486 ≠ gb485)); replace BK485 := Aside0.mk (blk_below (zb_ BK485.out) hb); clear hb hbox hg)); go_upto_region 1 with (first | ((with_reducible refine gate_dst (N := 2) rfl ?_); (try (refine gate_guard (by rfl) ?_; dsimp only)); refine box_event ?hg (N := 2) ?hd (cs := #[.bool a0_0, .slice A0_1 l0_1.length c0_1, .slice A0_2 l0_2.length c0_2, .slice A0_3 l0_3.length c0_3]) (t := 25) ?hr ?_; (case hd => rfl); (case hg => rfl); (case hr => first | (go_simp; done) | (go_simp; rfl)); intro gb485 hg w4 hbox hb; have BK485 := Aside0.mk (hbox); have GW485 := Aside0.mk ((by rw [hg]; exact (below_size (zh0_ HB.out)) : w.heap.size ≤ gb485)); have GE485 := Aside0.mk ((by rw [hg]; exact (below_size (zh0_ HB.out)) : w.heap.size ≤ gb485)); replace HB := Aside0.mk (below_step (zh0_ HB.out) hb); clear hb hbox hg) | ((with_reducible refine gate_dst (N := 3) rfl ?_); (try (refine gate_guard (by rfl) ?_; dsimp only)); refine box_event ?hg (N := 3) ?hd (cs := #[.bool a1_0, .slice A1_1 l1_1.length c1_1, .slice A1_2 l1_2.length c1_2, .slice A1_3 l1_3.length c1_3]) (t := 25) ?hr ?_; (case hd => rfl); (case hg => rfl); (case hr => first | (go_simp; done) | (go_simp; rfl)); intro gb486 hg w5 hbox hb; have BK486 := Aside0.mk (hbox); have GW486 := Aside0.mk ((by rw [hg]; exact (below_size (zh1_ HB.out GE485.out)) : w.heap.size ≤ gb486)); have GE486 := Aside0.mk ((by rw [hg]; exact (below_size (zh1_ HB.out GE485.out)) : w.heap.size ≤ gb486)); replace HB := Aside0.mk (below_step (zh1_ HB.out GE485.out) hb); have NB485_486 := Aside0.mk ((by rw [hg]; exact Nat.ne_of_lt (blk_lt (zb_ BK485.out)) : gb485 ≠ gb486)); have NB486_485 := Aside0.mk ((by rw [hg]; exact Nat.ne_of_gt (blk_lt (zb_ BK485.out)) : gb486 ≠ gb485)); replace BK485 := Aside0.mk (blk_below (zb_ BK485.out) hb); clear hb hbox hg)))
 (try simp only [Act.put, zt0, zt1, zt2])
 go_cut [39] (fun v39 wc => ∃ (kq : Nat) (x39_2 : Bool), v39 = .bool x39_2 ∧ Aside0 (ladingref06_Same.j0 kq x39_2 a0_0 l0_1 l0_2 l0_3 a1_0 l1_1 l1_2 l1_3 = some r) ∧ Aside0 (kq ≤ k) ∧ Aside0 (wc.heap[gb485]? = some (.cells #[.bool a0_0, (.slice A0_1 l0_1.length c0_1), (.slice A0_2 l0_2.length c0_2), (.slice A0_3 l0_3.length c0_3)] 25 (0, 0))) ∧ Aside0 (wc.heap[gb486]? = some (.cells #[.bool a1_0, (.slice A1_1 l1_1.length c1_1), (.slice A1_2 l1_2.length c1_2), (.slice A1_3 l1_3.length c1_3)] 25 (0, 0))) ∧ Aside0 (Below w.heap.size w wc))
 case first =>
  have H := HC3.out
  clear HC3
  by_cases c6 : (a0_0 != a1_0) = true
  ·rw [if_pos c6] at H
   have c6b0 : (a0_0 != a1_0) = true := c6
   (try (have c6b1 : decide (a0_0 = a1_0) = false := by simpa using c6))
   (try (have c6b2 : (a0_0 == a1_0) = false := by simpa using c6))
   (try (have c6b3 : ¬ (a0_0 = a1_0) := by simpa using c6))
   clear c6
   (first | rw [c6b0] | (simp only [i64_w, i32_w]; rw [c6b0]) | skip)
   have H' := Aside0.mk H
   clear H
   have hnb7 := NB485_486.out
   have hnc7 := NB486_485.out
   obtain ⟨hcz8_0, hcz8_1, hcz8_2, hcz8_3⟩ := zc4 BK485.out
   obtain ⟨hfz8_0, hfz8_1, hfz8_2, hfz8_3⟩ := zz4 BK485.out
   obtain ⟨hcz9_0, hcz9_1, hcz9_2, hcz9_3⟩ := zc4 BK486.out
   obtain ⟨hfz9_0, hfz9_1, hfz9_2, hfz9_3⟩ := zz4 BK486.out
   go_wp2
   repeat (go_quiet (fail); try go_wp2)
   go_meet
   case rel => exact ⟨_, (true), (by first | rfl | (simp; done) | (simp [*]; done) | (simp only [i64_w]; done)), H', ⟨by first | omega | exact Nat.le_refl _⟩, ⟨by (with_reducible repeat (first | refine blk_drewN ?_ _ | refine blk_drew ?_ | refine blk_alloc ?_ _)); exact BK485.out⟩, ⟨by (with_reducible repeat (first | refine blk_drewN ?_ _ | refine blk_drew ?_ | refine blk_alloc ?_ _)); exact BK486.out⟩, ⟨by exact zh2_ HB.out GE485.out GE486.out⟩⟩
  ·rw [if_neg c6] at H
   have c6b0 : (a0_0 != a1_0) = false := by simpa using c6
   (try (have c6b1 : decide (a0_0 = a1_0) = true := by simpa using c6))
   (try (have c6b2 : (a0_0 == a1_0) = true := by simpa using c6))
   clear c6
   (first | rw [c6b0] | (simp only [i64_w, i32_w]; rw [c6b0]) | skip)
   by_cases c10 : (l0_1.length : Int) = (l1_1.length : Int)
   ·rw [if_pos c10] at H
    obtain ⟨c10b0, c10b1⟩ := zq1 c10
    have c10b2 : (l0_1.length == l1_1.length) = true := by first | simpa using c10 | (simp at c10 ⊢; omega)
    clear c10
    by_cases c11 : (l0_2.length : Int) = (l1_2.length : Int)
    ·rw [if_pos c11] at H
     obtain ⟨c11b0, c11b1⟩ := zq1 c11
     have c11b2 : (l0_2.length == l1_2.length) = true := by first | simpa using c11 | (simp at c11 ⊢; omega)
     clear c11
     have H' := Aside0.mk H
     clear H
     have hnb12 := NB485_486.out
     have hnc12 := NB486_485.out
     obtain ⟨hcz13_0, hcz13_1, hcz13_2, hcz13_3⟩ := zc4 BK485.out
     obtain ⟨hfz13_0, hfz13_1, hfz13_2, hfz13_3⟩ := zz4 BK485.out
     obtain ⟨hcz14_0, hcz14_1, hcz14_2, hcz14_3⟩ := zc4 BK486.out
     obtain ⟨hfz14_0, hfz14_1, hfz14_2, hfz14_3⟩ := zz4 BK486.out
     go_wp2
     repeat (go_quiet (fail); try go_wp2)
     go_meet
     case rel => exact ⟨_, (((l0_3.length : Int) != (l1_3.length : Int))), (by first | rfl | (simp; done) | (simp [*]; done) | (simp only [i64_w]; done)), H', ⟨by first | omega | exact Nat.le_refl _⟩, ⟨by (with_reducible repeat (first | refine blk_drewN ?_ _ | refine blk_drew ?_ | refine blk_alloc ?_ _)); exact BK485.out⟩, ⟨by (with_reducible repeat (first | refine blk_drewN ?_ _ | refine blk_drew ?_ | refine blk_alloc ?_ _)); exact BK486.out⟩, ⟨by exact zh2_ HB.out GE485.out GE486.out⟩⟩
    ·rw [if_neg c11] at H
     obtain ⟨c11b0, c11b1⟩ := zq0 c11
     have c11b2 : (l0_2.length == l1_2.length) = false := by first | simpa using c11 | (simp at c11 ⊢; omega)
     have H' := Aside0.mk H
     clear H
     have hnb15 := NB485_486.out
     have hnc15 := NB486_485.out
     obtain ⟨hcz16_0, hcz16_1, hcz16_2, hcz16_3⟩ := zc4 BK485.out
     obtain ⟨hfz16_0, hfz16_1, hfz16_2, hfz16_3⟩ := zz4 BK485.out
     obtain ⟨hcz17_0, hcz17_1, hcz17_2, hcz17_3⟩ := zc4 BK486.out
     obtain ⟨hfz17_0, hfz17_1, hfz17_2, hfz17_3⟩ := zz4 BK486.out
     go_wp2
     repeat (go_quiet (fail); try go_wp2)
     go_meet
     case rel => exact ⟨_, (true), (by first | rfl | (simp; done) | (simp [*]; done) | (simp only [i64_w]; done)), H', ⟨by first | omega | exact Nat.le_refl _⟩, ⟨by (with_reducible repeat (first | refine blk_drewN ?_ _ | refine blk_drew ?_ | refine blk_alloc ?_ _)); exact BK485.out⟩, ⟨by (with_reducible repeat (first | refine blk_drewN ?_ _ | refine blk_drew ?_ | refine blk_alloc ?_ _)); exact BK486.out⟩, ⟨by exact zh2_ HB.out GE485.out GE486.out⟩⟩
   ·rw [if_neg c10] at H
    obtain ⟨c10b0, c10b1⟩ := zq0 c10
    have c10b2 : (l0_1.length == l1_1.length) = false := by first | simpa using c10 | (simp at c10 ⊢; omega)
    have H' := Aside0.mk H
    clear H
    have hnb18 := NB485_486.out
    have hnc18 := NB486_485.out
    obtain ⟨hcz19_0, hcz19_1, hcz19_2, hcz19_3⟩ := zc4 BK485.out
    obtain ⟨hfz19_0, hfz19_1, hfz19_2, hfz19_3⟩ := zz4 BK485.out
    obtain ⟨hcz20_0, hcz20_1, hcz20_2, hcz20_3⟩ := zc4 BK486.out
    obtain ⟨hfz20_0, hfz20_1, hfz20_2, hfz20_3⟩ := zz4 BK486.out
    go_wp2
    repeat (go_quiet (fail); try go_wp2)
    go_meet
    case rel => exact ⟨_, (true), (by first | rfl | (simp; done) | (simp [*]; done) | (simp only [i64_w]; done)), H', ⟨by first | omega | exact Nat.le_refl _⟩, ⟨by (with_reducible repeat (first | refine blk_drewN ?_ _ | refine blk_drew ?_ | refine blk_alloc ?_ _)); exact BK485.out⟩, ⟨by (with_reducible repeat (first | refine blk_drewN ?_ _ | refine blk_drew ?_ | refine blk_alloc ?_ _)); exact BK486.out⟩, ⟨by exact zh2_ HB.out GE485.out GE486.out⟩⟩
 case rest =>
  clear HC3
  try clear c1
  try clear p2
  try clear c6
  try clear c6b0
  try clear c6b1
  try clear c6b2
  try clear c7
  try clear c10
  try clear c10b0
  try clear c10b1
  try clear c10b2
  try clear c11
  try clear c11b0
  try clear c11b1
  try clear c11b2
  try clear c12
  try clear c15
  try clear c18
  try clear hcz13_0
  try clear hcz13_1
  try clear hcz13_2
  try clear hcz13_3
  try clear hcz14_0
  try clear hcz14_1
  try clear hcz14_2
  try clear hcz14_3
  try clear hcz16_0
  try clear hcz16_1
  try clear hcz16_2
  try clear hcz16_3
  try clear hcz17_0
  try clear hcz17_1
  try clear hcz17_2
  try clear hcz17_3
  try clear hcz19_0
  try clear hcz19_1
  try clear hcz19_2
  try clear hcz19_3
  try clear hcz20_0
  try clear hcz20_1
  try clear hcz20_2
  try clear hcz20_3
  try clear hcz8_0
  try clear hcz8_1
  try clear hcz8_2
  try clear hcz8_3
  try clear hcz9_0
  try clear hcz9_1
  try clear hcz9_2
  try clear hcz9_3
  try clear hfz13_0
  try clear hfz13_1
  try clear hfz13_2
  try clear hfz13_3
  try clear hfz14_0
  try clear hfz14_1
  try clear hfz14_2
  try clear hfz14_3
  try clear hfz16_0
  try clear hfz16_1
  try clear hfz16_2
  try clear hfz16_3
  try clear hfz17_0
  try clear hfz17_1
  try clear hfz17_2
  try clear hfz17_3
  try clear hfz19_0
  try clear hfz19_1
  try clear hfz19_2
  try clear hfz19_3
  try clear hfz20_0
  try clear hfz20_1
  try clear hfz20_2
  try clear hfz20_3
  try clear hfz8_0
  try clear hfz8_1
  try clear hfz8_2
  try clear hfz8_3
  try clear hfz9_0
  try clear hfz9_1
  try clear hfz9_2
  try clear hfz9_3
  (try clear BK485)
  (try clear BK486)
  obtain ⟨kq, x39_2, rfl, HA, HJ2, BK485, BK486, HB⟩ := hcut
  cases kq with
  | zero => exact absurd HA.out (by simp [ladingref06_Same.j0])
  | succ kj2 =>
   have H := HA.out
   clear HA
   simp only [ladingref06_Same.j0] at H
   by_cases c21 : x39_2 = true
   ·subst c21
    replace H := (if_pos (rfl : true = true)).symm.trans H
    obtain rfl := Option.some.inj H
    go_wp2
    repeat (go_quiet (fail); try go_wp2)
    go_ret
    exact ⟨by first | rfl | (simp [errW_none, errW_some] <;> rfl) | (simp [*, errW_none, errW_some] <;> rfl), by exact zh2_ HB.out GE485.out GE486.out⟩
   ·replace c21 := Bool.eq_false_iff.mpr c21
    subst c21
    replace H := (if_neg (show ¬ (false = true) by decide)).symm.trans H
    have H' := Aside0.mk H
    clear H
    have hnb22 := NB485_486.out
    have hnc22 := NB486_485.out
    obtain ⟨hcz23_0, hcz23_1, hcz23_2, hcz23_3⟩ := zc4 BK485.out
    obtain ⟨hfz23_0, hfz23_1, hfz23_2, hfz23_3⟩ := zz4 BK485.out
    go_wp2
    repeat (go_quiet (fail); try go_wp2)
    go_loopg [43] kj2 (fun kq v43 w' => ∃ (x43_2 : Int), v43 = .int .i64 x43_2 ∧ Aside0 (ladingref06_Same.l0 kq (l0_1.length : Int) x43_2 a0_0 l0_1 l0_2 l0_3 a1_0 l1_1 l1_2 l1_3 = some r) ∧ Aside0 (kq ≤ kj2) ∧ Aside0 (w'.heap[gb485]? = some (.cells #[.bool a0_0, (.slice A0_1 l0_1.length c0_1), (.slice A0_2 l0_2.length c0_2), (.slice A0_3 l0_3.length c0_3)] 25 (0, 0))) ∧ Aside0 (w'.heap[gb486]? = some (.cells #[.bool a1_0, (.slice A1_1 l1_1.length c1_1), (.slice A1_2 l1_2.length c1_2), (.slice A1_3 l1_3.length c1_3)] 25 (0, 0))) ∧ Aside0 (Below w.heap.size w w'))
    case atStart => exact ⟨(0), (by first | rfl | (simp; done) | (simp [*]; done) | (simp only [i64_w]; done)), H', ⟨Nat.le_refl _⟩, ⟨by (with_reducible repeat (first | refine blk_drewN ?_ _ | refine blk_drew ?_ | refine blk_alloc ?_ _)); exact BK485.out⟩, ⟨by (with_reducible repeat (first | refine blk_drewN ?_ _ | refine blk_drew ?_ | refine blk_alloc ?_ _)); exact BK486.out⟩, ⟨by exact zh2_ HB.out GE485.out GE486.out⟩⟩
    case round =>
     clear H'
     try clear c1
     try clear c2
     try clear p2
     try clear c6
     try clear c6b0
     try clear c6b1
     try clear c6b2
     try clear c7
     try clear c10
     try clear c10b0
     try clear c10b1
     try clear c10b2
     try clear c11
     try clear c11b0
     try clear c11b1
     try clear c11b2
     try clear c12
     try clear c15
     try clear c18
     try clear c21
     try clear c22
     try clear hcz13_0
     try clear hcz13_1
     try clear hcz13_2
     try clear hcz13_3
     try clear hcz14_0
     try clear hcz14_1
     try clear hcz14_2
     try clear hcz14_3
     try clear hcz16_0
     try clear hcz16_1
     try clear hcz16_2
     try clear hcz16_3
     try clear hcz17_0
     try clear hcz17_1
     try clear hcz17_2
     try clear hcz17_3
     try clear hcz19_0
     try clear hcz19_1
     try clear hcz19_2
     try clear hcz19_3
     try clear hcz20_0
     try clear hcz20_1
     try clear hcz20_2
     try clear hcz20_3
     try clear hcz23_0
     try clear hcz23_1
     try clear hcz23_2
     try clear hcz23_3
     try clear hcz8_0
     try clear hcz8_1
     try clear hcz8_2
     try clear hcz8_3
     try clear hcz9_0
     try clear hcz9_1
     try clear hcz9_2
     try clear hcz9_3
     try clear hfz13_0
     try clear hfz13_1
     try clear hfz13_2
     try clear hfz13_3
     try clear hfz14_0
     try clear hfz14_1
     try clear hfz14_2
     try clear hfz14_3
     try clear hfz16_0
     try clear hfz16_1
     try clear hfz16_2
     try clear hfz16_3
     try clear hfz17_0
     try clear hfz17_1
     try clear hfz17_2
     try clear hfz17_3
     try clear hfz19_0
     try clear hfz19_1
     try clear hfz19_2
     try clear hfz19_3
     try clear hfz20_0
     try clear hfz20_1
     try clear hfz20_2
     try clear hfz20_3
     try clear hfz23_0
     try clear hfz23_1
     try clear hfz23_2
     try clear hfz23_3
     try clear hfz8_0
     try clear hfz8_1
     try clear hfz8_2
     try clear hfz8_3
     try clear hfz9_0
     try clear hfz9_1
     try clear hfz9_2
     try clear hfz9_3
     try clear p2
     (try clear BK485)
     (try clear BK486)
     obtain ⟨x43_2, rfl, HA, HK2, BK485, BK486, HB⟩ := hrel
     cases gk with
     | zero => exact absurd HA.out (by simp [ladingref06_Same.l0])
     | succ k2 =>
      have H := HA.out
      clear HA
      simp only [ladingref06_Same.l0] at H
      by_cases c24 : x43_2 < (l0_1.length : Int)
      ·rw [if_pos c24] at H
       have c24b0 : decide (x43_2 < (l0_1.length : Int)) = true := decide_eq_true c24
       clear c24
       by_cases c25 : 0 ≤ x43_2
       ·rw [if_pos c25] at H
        have c25b0 : decide (0 ≤ x43_2) = true := decide_eq_true c25
        clear c25
        by_cases c26 : x43_2 < (l0_1.length : Int)
        ·rw [if_pos c26] at H
         have c26b0 : decide (x43_2 < (l0_1.length : Int)) = true := decide_eq_true c26
         clear c26
         by_cases c27 : x43_2 < (l1_1.length : Int)
         ·rw [if_pos c27] at H
          have c27b0 : decide (x43_2 < (l1_1.length : Int)) = true := decide_eq_true c27
          clear c27
          by_cases c28 : (strOfNums (rd_L1 l0_1 x43_2)).toList = (strOfNums (rd_L1 l1_1 x43_2)).toList
          ·rw [if_pos c28] at H
           obtain ⟨c28b0, c28b1⟩ := zq1 c28
           clear c28
           have H' := Aside0.mk H
           clear H
           have hnb29 := NB485_486.out
           have hnc29 := NB486_485.out
           obtain ⟨hcz30_0, hcz30_1, hcz30_2, hcz30_3⟩ := zc4 BK485.out
           obtain ⟨hfz30_0, hfz30_1, hfz30_2, hfz30_3⟩ := zz4 BK485.out
           have p487 : 0 ≤ (x43_2 : Int) := of_decide_eq_true za_
           have q487 : x43_2 < (l0_1.length : Int) := of_decide_eq_true za_
           obtain ⟨ad487, A487_0, c487_0, e487, hx487_0, hl487_0, hi487_0⟩ := at_L1 HR0_1.out x43_2 p487 q487
           cases e487
           replace hx487_0 := zx_ HB.out hx487_0
           have HR487_0 := Aside0.mk hi487_0
           have HC487_0 := Aside0.mk hl487_0
           clear hi487_0 hl487_0
           replace p487 := eq_true p487
           replace q487 := eq_true q487
           have hcv31 := Kd.C_string (P := Tryd.prog) (A := A487_0) (c := c487_0) Tryd.underlying26 Tryd.underlying5 Tryd.underlying9 (Kd.C_below HR487_0.out HB.out)
           have hcw32 := fun n_ : Nat => Kd.C_string (P := Tryd.prog) (A := A487_0) (c := c487_0) Tryd.underlying26 Tryd.underlying5 Tryd.underlying9 (Kd.C_drewN (Kd.C_below HR487_0.out HB.out) n_)
           obtain ⟨hcz33_0, hcz33_1, hcz33_2, hcz33_3⟩ := zc4 BK486.out
           obtain ⟨hfz33_0, hfz33_1, hfz33_2, hfz33_3⟩ := zz4 BK486.out
           have p488 : 0 ≤ (x43_2 : Int) := of_decide_eq_true za_
           have q488 : x43_2 < (l1_1.length : Int) := of_decide_eq_true za_
           obtain ⟨ad488, A488_0, c488_0, e488, hx488_0, hl488_0, hi488_0⟩ := at_L1 HR1_1.out x43_2 p488 q488
           cases e488
           replace hx488_0 := zx_ HB.out hx488_0
           have HR488_0 := Aside0.mk hi488_0
           have HC488_0 := Aside0.mk hl488_0
           clear hi488_0 hl488_0
           replace p488 := eq_true p488
           replace q488 := eq_true q488
           have hcv34 := Kd.C_string (P := Tryd.prog) (A := A488_0) (c := c488_0) Tryd.underlying26 Tryd.underlying5 Tryd.underlying9 (Kd.C_below HR488_0.out HB.out)
           have hcw35 := fun n_ : Nat => Kd.C_string (P := Tryd.prog) (A := A488_0) (c := c488_0) Tryd.underlying26 Tryd.underlying5 Tryd.underlying9 (Kd.C_drewN (Kd.C_below HR488_0.out HB.out) n_)
           go_wp2
           repeat (go_quiet (fail); try go_wp2)
           go_roundg k2
           case measure => have := HJ2.out; have := HK2.out; omega
           case rel => exact ⟨(wrap64 (x43_2 + 1)), (by first | rfl | (simp; done) | (simp [*]; done) | (simp only [i64_w]; done)), H', ⟨by have := HJ2.out; have := HK2.out; omega⟩, ⟨by (with_reducible repeat (first | refine blk_drewN ?_ _ | refine blk_drew ?_ | refine blk_alloc ?_ _)); exact BK485.out⟩, ⟨by (with_reducible repeat (first | refine blk_drewN ?_ _ | refine blk_drew ?_ | refine blk_alloc ?_ _)); exact BK486.out⟩, ⟨by exact zh2_ HB.out GE485.out GE486.out⟩⟩
          ·rw [if_neg c28] at H
           obtain ⟨c28b0, c28b1⟩ := zq0 c28
           obtain rfl := Option.some.inj H
           have hnb36 := NB485_486.out
           have hnc36 := NB486_485.out
           obtain ⟨hcz37_0, hcz37_1, hcz37_2, hcz37_3⟩ := zc4 BK485.out
           obtain ⟨hfz37_0, hfz37_1, hfz37_2, hfz37_3⟩ := zz4 BK485.out
           have p487 : 0 ≤ (x43_2 : Int) := of_decide_eq_true za_
           have q487 : x43_2 < (l0_1.length : Int) := of_decide_eq_true za_
           obtain ⟨ad487, A487_0, c487_0, e487, hx487_0, hl487_0, hi487_0⟩ := at_L1 HR0_1.out x43_2 p487 q487
           cases e487
           replace hx487_0 := zx_ HB.out hx487_0
           have HR487_0 := Aside0.mk hi487_0
           have HC487_0 := Aside0.mk hl487_0
           clear hi487_0 hl487_0
           replace p487 := eq_true p487
           replace q487 := eq_true q487
           have hcv38 := Kd.C_string (P := Tryd.prog) (A := A487_0) (c := c487_0) Tryd.underlying26 Tryd.underlying5 Tryd.underlying9 (Kd.C_below HR487_0.out HB.out)
           have hcw39 := fun n_ : Nat => Kd.C_string (P := Tryd.prog) (A := A487_0) (c := c487_0) Tryd.underlying26 Tryd.underlying5 Tryd.underlying9 (Kd.C_drewN (Kd.C_below HR487_0.out HB.out) n_)
           obtain ⟨hcz40_0, hcz40_1, hcz40_2, hcz40_3⟩ := zc4 BK486.out
           obtain ⟨hfz40_0, hfz40_1, hfz40_2, hfz40_3⟩ := zz4 BK486.out
           have p488 : 0 ≤ (x43_2 : Int) := of_decide_eq_true za_
           have q488 : x43_2 < (l1_1.length : Int) := of_decide_eq_true za_
           obtain ⟨ad488, A488_0, c488_0, e488, hx488_0, hl488_0, hi488_0⟩ := at_L1 HR1_1.out x43_2 p488 q488
           cases e488
           replace hx488_0 := zx_ HB.out hx488_0
           have HR488_0 := Aside0.mk hi488_0
           have HC488_0 := Aside0.mk hl488_0
           clear hi488_0 hl488_0
           replace p488 := eq_true p488
           replace q488 := eq_true q488
           have hcv41 := Kd.C_string (P := Tryd.prog) (A := A488_0) (c := c488_0) Tryd.underlying26 Tryd.underlying5 Tryd.underlying9 (Kd.C_below HR488_0.out HB.out)
           have hcw42 := fun n_ : Nat => Kd.C_string (P := Tryd.prog) (A := A488_0) (c := c488_0) Tryd.underlying26 Tryd.underlying5 Tryd.underlying9 (Kd.C_drewN (Kd.C_below HR488_0.out HB.out) n_)
           go_wp2
           repeat (go_quiet (fail); try go_wp2)
           go_ret
           exact ⟨by first | rfl | (simp [errW_none, errW_some] <;> rfl) | (simp [*, errW_none, errW_some] <;> rfl), by exact zh2_ HB.out GE485.out GE486.out⟩
         ·rw [if_neg c27] at H
          cases H
        ·rw [if_neg c26] at H
         cases H
       ·rw [if_neg c25] at H
        cases H
      ·rw [if_neg c24] at H
       have c24b0 : decide (x43_2 < (l0_1.length : Int)) = false := decide_eq_false c24
       clear c24
       have H' := Aside0.mk H
       clear H
       have hnb43 := NB485_486.out
       have hnc43 := NB486_485.out
       obtain ⟨hcz44_0, hcz44_1, hcz44_2, hcz44_3⟩ := zc4 BK485.out
       obtain ⟨hfz44_0, hfz44_1, hfz44_2, hfz44_3⟩ := zz4 BK485.out
       go_wp2
       repeat (go_quiet (fail); try go_wp2)
       go_loopg [63] k2 (fun kq v63 w' => ∃ (x63_3 : Int), v63 = .int .i64 x63_3 ∧ Aside0 (ladingref06_Same.l1 kq (l0_2.length : Int) x63_3 a0_0 l0_1 l0_2 l0_3 a1_0 l1_1 l1_2 l1_3 = some r) ∧ Aside0 (kq ≤ k2) ∧ Aside0 (w'.heap[gb485]? = some (.cells #[.bool a0_0, (.slice A0_1 l0_1.length c0_1), (.slice A0_2 l0_2.length c0_2), (.slice A0_3 l0_3.length c0_3)] 25 (0, 0))) ∧ Aside0 (w'.heap[gb486]? = some (.cells #[.bool a1_0, (.slice A1_1 l1_1.length c1_1), (.slice A1_2 l1_2.length c1_2), (.slice A1_3 l1_3.length c1_3)] 25 (0, 0))) ∧ Aside0 (Below w.heap.size w w'))
       case atStart => exact ⟨(0), (by first | rfl | (simp; done) | (simp [*]; done) | (simp only [i64_w]; done)), H', ⟨Nat.le_refl _⟩, ⟨by (with_reducible repeat (first | refine blk_drewN ?_ _ | refine blk_drew ?_ | refine blk_alloc ?_ _)); exact BK485.out⟩, ⟨by (with_reducible repeat (first | refine blk_drewN ?_ _ | refine blk_drew ?_ | refine blk_alloc ?_ _)); exact BK486.out⟩, ⟨by exact zh2_ HB.out GE485.out GE486.out⟩⟩
       case round =>
        clear H'
        try clear c1
        try clear c2
        try clear p2
        try clear c3
        try clear hcv3
        try clear hcw3
        try clear c4
        try clear p4
        try clear q4
        try clear hx4
        try clear hcv4
        try clear hcw4
        try clear c6
        try clear c6b0
        try clear c6b1
        try clear c6b2
        try clear p6
        try clear c7
        try clear c10
        try clear c10b0
        try clear c10b1
        try clear c10b2
        try clear c11
        try clear c11b0
        try clear c11b1
        try clear c11b2
        try clear c12
        try clear c15
        try clear c18
        try clear c21
        try clear c22
        try clear c24
        try clear c24b0
        try clear c25
        try clear c25b0
        try clear c26
        try clear c26b0
        try clear c27
        try clear c27b0
        try clear c28
        try clear c28b0
        try clear c28b1
        try clear c29
        try clear hcv31
        try clear hcw32
        try clear hcv34
        try clear hcw35
        try clear c36
        try clear hcv38
        try clear hcw39
        try clear hcv41
        try clear hcw42
        try clear c43
        try clear hcz13_0
        try clear hcz13_1
        try clear hcz13_2
        try clear hcz13_3
        try clear hcz14_0
        try clear hcz14_1
        try clear hcz14_2
        try clear hcz14_3
        try clear hcz16_0
        try clear hcz16_1
        try clear hcz16_2
        try clear hcz16_3
        try clear hcz17_0
        try clear hcz17_1
        try clear hcz17_2
        try clear hcz17_3
        try clear hcz19_0
        try clear hcz19_1
        try clear hcz19_2
        try clear hcz19_3
        try clear hcz20_0
        try clear hcz20_1
        try clear hcz20_2
        try clear hcz20_3
        try clear hcz23_0
        try clear hcz23_1
        try clear hcz23_2
        try clear hcz23_3
        try clear hcz30_0
        try clear hcz30_1
        try clear hcz30_2
        try clear hcz30_3
        try clear hcz33_0
        try clear hcz33_1
        try clear hcz33_2
        try clear hcz33_3
        try clear hcz37_0
        try clear hcz37_1
        try clear hcz37_2
        try clear hcz37_3
        try clear hcz40_0
        try clear hcz40_1
        try clear hcz40_2
        try clear hcz40_3
        try clear hcz44_0
        try clear hcz44_1
        try clear hcz44_2
        try clear hcz44_3
        try clear hcz8_0
        try clear hcz8_1
        try clear hcz8_2
        try clear hcz8_3
        try clear hcz9_0
        try clear hcz9_1
        try clear hcz9_2
        try clear hcz9_3
        try clear hfz13_0
        try clear hfz13_1
        try clear hfz13_2
        try clear hfz13_3
        try clear hfz14_0
        try clear hfz14_1
        try clear hfz14_2
        try clear hfz14_3
        try clear hfz16_0
        try clear hfz16_1
        try clear hfz16_2
        try clear hfz16_3
        try clear hfz17_0
        try clear hfz17_1
        try clear hfz17_2
        try clear hfz17_3
        try clear hfz19_0
        try clear hfz19_1
        try clear hfz19_2
        try clear hfz19_3
        try clear hfz20_0
        try clear hfz20_1
        try clear hfz20_2
        try clear hfz20_3
        try clear hfz23_0
        try clear hfz23_1
        try clear hfz23_2
        try clear hfz23_3
        try clear hfz30_0
        try clear hfz30_1
        try clear hfz30_2
        try clear hfz30_3
        try clear hfz33_0
        try clear hfz33_1
        try clear hfz33_2
        try clear hfz33_3
        try clear hfz37_0
        try clear hfz37_1
        try clear hfz37_2
        try clear hfz37_3
        try clear hfz40_0
        try clear hfz40_1
        try clear hfz40_2
        try clear hfz40_3
        try clear hfz44_0
        try clear hfz44_1
        try clear hfz44_2
        try clear hfz44_3
        try clear hfz8_0
        try clear hfz8_1
        try clear hfz8_2
        try clear hfz8_3
        try clear hfz9_0
        try clear hfz9_1
        try clear hfz9_2
        try clear hfz9_3
        try clear hx487_0
        try clear hx488_0
        try clear p2
        try clear p487
        try clear p488
        try clear q487
        try clear q488
        (try clear BK485)
        (try clear BK486)
        obtain ⟨x63_3, rfl, HA, HK3, BK485, BK486, HB⟩ := hrel
        cases gk with
        | zero => exact absurd HA.out (by simp [ladingref06_Same.l1])
        | succ k3 =>
         have H := HA.out
         clear HA
         simp only [ladingref06_Same.l1] at H
         by_cases c45 : x63_3 < (l0_2.length : Int)
         ·rw [if_pos c45] at H
          have c45b0 : decide (x63_3 < (l0_2.length : Int)) = true := decide_eq_true c45
          clear c45
          by_cases c46 : 0 ≤ x63_3
          ·rw [if_pos c46] at H
           have c46b0 : decide (0 ≤ x63_3) = true := decide_eq_true c46
           clear c46
           by_cases c47 : x63_3 < (l0_2.length : Int)
           ·rw [if_pos c47] at H
            have c47b0 : decide (x63_3 < (l0_2.length : Int)) = true := decide_eq_true c47
            clear c47
            by_cases c48 : x63_3 < (l1_2.length : Int)
            ·rw [if_pos c48] at H
             have c48b0 : decide (x63_3 < (l1_2.length : Int)) = true := decide_eq_true c48
             clear c48
             by_cases c49 : (strOfNums (rd_L1 l0_2 x63_3)).toList = (strOfNums (rd_L1 l1_2 x63_3)).toList
             ·rw [if_pos c49] at H
              obtain ⟨c49b0, c49b1⟩ := zq1 c49
              clear c49
              have H' := Aside0.mk H
              clear H
              have hnb50 := NB485_486.out
              have hnc50 := NB486_485.out
              obtain ⟨hcz51_0, hcz51_1, hcz51_2, hcz51_3⟩ := zc4 BK485.out
              obtain ⟨hfz51_0, hfz51_1, hfz51_2, hfz51_3⟩ := zz4 BK485.out
              have p489 : 0 ≤ (x63_3 : Int) := of_decide_eq_true za_
              have q489 : x63_3 < (l0_2.length : Int) := of_decide_eq_true za_
              obtain ⟨ad489, A489_0, c489_0, e489, hx489_0, hl489_0, hi489_0⟩ := at_L1 HR0_2.out x63_3 p489 q489
              cases e489
              replace hx489_0 := zx_ HB.out hx489_0
              have HR489_0 := Aside0.mk hi489_0
              have HC489_0 := Aside0.mk hl489_0
              clear hi489_0 hl489_0
              replace p489 := eq_true p489
              replace q489 := eq_true q489
              have hcv52 := Kd.C_string (P := Tryd.prog) (A := A489_0) (c := c489_0) Tryd.underlying26 Tryd.underlying5 Tryd.underlying9 (Kd.C_below HR489_0.out HB.out)
              have hcw53 := fun n_ : Nat => Kd.C_string (P := Tryd.prog) (A := A489_0) (c := c489_0) Tryd.underlying26 Tryd.underlying5 Tryd.underlying9 (Kd.C_drewN (Kd.C_below HR489_0.out HB.out) n_)
              obtain ⟨hcz54_0, hcz54_1, hcz54_2, hcz54_3⟩ := zc4 BK486.out
              obtain ⟨hfz54_0, hfz54_1, hfz54_2, hfz54_3⟩ := zz4 BK486.out
              have p490 : 0 ≤ (x63_3 : Int) := of_decide_eq_true za_
              have q490 : x63_3 < (l1_2.length : Int) := of_decide_eq_true za_
              obtain ⟨ad490, A490_0, c490_0, e490, hx490_0, hl490_0, hi490_0⟩ := at_L1 HR1_2.out x63_3 p490 q490
              cases e490
              replace hx490_0 := zx_ HB.out hx490_0
              have HR490_0 := Aside0.mk hi490_0
              have HC490_0 := Aside0.mk hl490_0
              clear hi490_0 hl490_0
              replace p490 := eq_true p490
              replace q490 := eq_true q490
              have hcv55 := Kd.C_string (P := Tryd.prog) (A := A490_0) (c := c490_0) Tryd.underlying26 Tryd.underlying5 Tryd.underlying9 (Kd.C_below HR490_0.out HB.out)
              have hcw56 := fun n_ : Nat => Kd.C_string (P := Tryd.prog) (A := A490_0) (c := c490_0) Tryd.underlying26 Tryd.underlying5 Tryd.underlying9 (Kd.C_drewN (Kd.C_below HR490_0.out HB.out) n_)
              go_wp2
              repeat (go_quiet (fail); try go_wp2)
              go_roundg k3
              case measure => have := HJ2.out; have := HK2.out; have := HK3.out; omega
              case rel => exact ⟨(wrap64 (x63_3 + 1)), (by first | rfl | (simp; done) | (simp [*]; done) | (simp only [i64_w]; done)), H', ⟨by have := HJ2.out; have := HK2.out; have := HK3.out; omega⟩, ⟨by (with_reducible repeat (first | refine blk_drewN ?_ _ | refine blk_drew ?_ | refine blk_alloc ?_ _)); exact BK485.out⟩, ⟨by (with_reducible repeat (first | refine blk_drewN ?_ _ | refine blk_drew ?_ | refine blk_alloc ?_ _)); exact BK486.out⟩, ⟨by exact zh2_ HB.out GE485.out GE486.out⟩⟩
             ·rw [if_neg c49] at H
              obtain ⟨c49b0, c49b1⟩ := zq0 c49
              obtain rfl := Option.some.inj H
              have hnb57 := NB485_486.out
              have hnc57 := NB486_485.out
              obtain ⟨hcz58_0, hcz58_1, hcz58_2, hcz58_3⟩ := zc4 BK485.out
              obtain ⟨hfz58_0, hfz58_1, hfz58_2, hfz58_3⟩ := zz4 BK485.out
              have p489 : 0 ≤ (x63_3 : Int) := of_decide_eq_true za_
              have q489 : x63_3 < (l0_2.length : Int) := of_decide_eq_true za_
              obtain ⟨ad489, A489_0, c489_0, e489, hx489_0, hl489_0, hi489_0⟩ := at_L1 HR0_2.out x63_3 p489 q489
              cases e489
              replace hx489_0 := zx_ HB.out hx489_0
              have HR489_0 := Aside0.mk hi489_0
              have HC489_0 := Aside0.mk hl489_0
              clear hi489_0 hl489_0
              replace p489 := eq_true p489
              replace q489 := eq_true q489
              have hcv59 := Kd.C_string (P := Tryd.prog) (A := A489_0) (c := c489_0) Tryd.underlying26 Tryd.underlying5 Tryd.underlying9 (Kd.C_below HR489_0.out HB.out)
              have hcw60 := fun n_ : Nat => Kd.C_string (P := Tryd.prog) (A := A489_0) (c := c489_0) Tryd.underlying26 Tryd.underlying5 Tryd.underlying9 (Kd.C_drewN (Kd.C_below HR489_0.out HB.out) n_)
              obtain ⟨hcz61_0, hcz61_1, hcz61_2, hcz61_3⟩ := zc4 BK486.out
              obtain ⟨hfz61_0, hfz61_1, hfz61_2, hfz61_3⟩ := zz4 BK486.out
              have p490 : 0 ≤ (x63_3 : Int) := of_decide_eq_true za_
              have q490 : x63_3 < (l1_2.length : Int) := of_decide_eq_true za_
              obtain ⟨ad490, A490_0, c490_0, e490, hx490_0, hl490_0, hi490_0⟩ := at_L1 HR1_2.out x63_3 p490 q490
              cases e490
              replace hx490_0 := zx_ HB.out hx490_0
              have HR490_0 := Aside0.mk hi490_0
              have HC490_0 := Aside0.mk hl490_0
              clear hi490_0 hl490_0
              replace p490 := eq_true p490
              replace q490 := eq_true q490
              have hcv62 := Kd.C_string (P := Tryd.prog) (A := A490_0) (c := c490_0) Tryd.underlying26 Tryd.underlying5 Tryd.underlying9 (Kd.C_below HR490_0.out HB.out)
              have hcw63 := fun n_ : Nat => Kd.C_string (P := Tryd.prog) (A := A490_0) (c := c490_0) Tryd.underlying26 Tryd.underlying5 Tryd.underlying9 (Kd.C_drewN (Kd.C_below HR490_0.out HB.out) n_)
              go_wp2
              repeat (go_quiet (fail); try go_wp2)
              go_ret
              exact ⟨by first | rfl | (simp [errW_none, errW_some] <;> rfl) | (simp [*, errW_none, errW_some] <;> rfl), by exact zh2_ HB.out GE485.out GE486.out⟩
            ·rw [if_neg c48] at H
             cases H
           ·rw [if_neg c47] at H
            cases H
          ·rw [if_neg c46] at H
           cases H
         ·rw [if_neg c45] at H
          have c45b0 : decide (x63_3 < (l0_2.length : Int)) = false := decide_eq_false c45
          clear c45
          have H' := Aside0.mk H
          clear H
          have hnb64 := NB485_486.out
          have hnc64 := NB486_485.out
          obtain ⟨hcz65_0, hcz65_1, hcz65_2, hcz65_3⟩ := zc4 BK485.out
          obtain ⟨hfz65_0, hfz65_1, hfz65_2, hfz65_3⟩ := zz4 BK485.out
          go_wp2
          repeat (go_quiet (fail); try go_wp2)
          go_loopg [83] k3 (fun kq v83 w' => ∃ (x83_4 : Int), v83 = .int .i64 x83_4 ∧ Aside0 (ladingref06_Same.l2 kq (l0_3.length : Int) x83_4 a0_0 l0_1 l0_2 l0_3 a1_0 l1_1 l1_2 l1_3 = some r) ∧ Aside0 (kq ≤ k3) ∧ Aside0 (w'.heap[gb485]? = some (.cells #[.bool a0_0, (.slice A0_1 l0_1.length c0_1), (.slice A0_2 l0_2.length c0_2), (.slice A0_3 l0_3.length c0_3)] 25 (0, 0))) ∧ Aside0 (w'.heap[gb486]? = some (.cells #[.bool a1_0, (.slice A1_1 l1_1.length c1_1), (.slice A1_2 l1_2.length c1_2), (.slice A1_3 l1_3.length c1_3)] 25 (0, 0))) ∧ Aside0 (Below w.heap.size w w'))
          case atStart => exact ⟨(0), (by first | rfl | (simp; done) | (simp [*]; done) | (simp only [i64_w]; done)), H', ⟨Nat.le_refl _⟩, ⟨by (with_reducible repeat (first | refine blk_drewN ?_ _ | refine blk_drew ?_ | refine blk_alloc ?_ _)); exact BK485.out⟩, ⟨by (with_reducible repeat (first | refine blk_drewN ?_ _ | refine blk_drew ?_ | refine blk_alloc ?_ _)); exact BK486.out⟩, ⟨by exact zh2_ HB.out GE485.out GE486.out⟩⟩
          case round =>
           clear H'
           try clear c1
           try clear c2
           try clear p2
           try clear c3
           try clear hcv3
           try clear hcw3
           try clear c4
           try clear p4
           try clear q4
           try clear hx4
           try clear hcv4
           try clear hcw4
           try clear c5
           try clear hcv5
           try clear hcw5
           try clear c6
           try clear c6b0
           try clear c6b1
           try clear c6b2
           try clear p6
           try clear hcv6
           try clear hcw6
           try clear c7
           try clear c10
           try clear c10b0
           try clear c10b1
           try clear c10b2
           try clear c11
           try clear c11b0
           try clear c11b1
           try clear c11b2
           try clear c12
           try clear c15
           try clear c18
           try clear c21
           try clear c22
           try clear c24
           try clear c24b0
           try clear c25
           try clear c25b0
           try clear c26
           try clear c26b0
           try clear c27
           try clear c27b0
           try clear c28
           try clear c28b0
           try clear c28b1
           try clear c29
           try clear hcv31
           try clear hcw32
           try clear hcv34
           try clear hcw35
           try clear c36
           try clear hcv38
           try clear hcw39
           try clear hcv41
           try clear hcw42
           try clear c43
           try clear c45
           try clear c45b0
           try clear c46
           try clear c46b0
           try clear c47
           try clear c47b0
           try clear c48
           try clear c48b0
           try clear p48
           try clear q48
           try clear hx48
           try clear c49
           try clear c49b0
           try clear c49b1
           try clear p49
           try clear q49
           try clear hx49
           try clear c50
           try clear hcv52
           try clear hcw53
           try clear hcv55
           try clear hcw56
           try clear c57
           try clear hcv59
           try clear hcw60
           try clear hcv62
           try clear hcw63
           try clear c64
           try clear p64
           try clear hcz13_0
           try clear hcz13_1
           try clear hcz13_2
           try clear hcz13_3
           try clear hcz14_0
           try clear hcz14_1
           try clear hcz14_2
           try clear hcz14_3
           try clear hcz16_0
           try clear hcz16_1
           try clear hcz16_2
           try clear hcz16_3
           try clear hcz17_0
           try clear hcz17_1
           try clear hcz17_2
           try clear hcz17_3
           try clear hcz19_0
           try clear hcz19_1
           try clear hcz19_2
           try clear hcz19_3
           try clear hcz20_0
           try clear hcz20_1
           try clear hcz20_2
           try clear hcz20_3
           try clear hcz23_0
           try clear hcz23_1
           try clear hcz23_2
           try clear hcz23_3
           try clear hcz30_0
           try clear hcz30_1
           try clear hcz30_2
           try clear hcz30_3
           try clear hcz33_0
           try clear hcz33_1
           try clear hcz33_2
           try clear hcz33_3
           try clear hcz37_0
           try clear hcz37_1
           try clear hcz37_2
           try clear hcz37_3
           try clear hcz40_0
           try clear hcz40_1
           try clear hcz40_2
           try clear hcz40_3
           try clear hcz44_0
           try clear hcz44_1
           try clear hcz44_2
           try clear hcz44_3
           try clear hcz51_0
           try clear hcz51_1
           try clear hcz51_2
           try clear hcz51_3
           try clear hcz54_0
           try clear hcz54_1
           try clear hcz54_2
           try clear hcz54_3
           try clear hcz58_0
           try clear hcz58_1
           try clear hcz58_2
           try clear hcz58_3
           try clear hcz61_0
           try clear hcz61_1
           try clear hcz61_2
           try clear hcz61_3
           try clear hcz65_0
           try clear hcz65_1
           try clear hcz65_2
           try clear hcz65_3
           try clear hcz8_0
           try clear hcz8_1
           try clear hcz8_2
           try clear hcz8_3
           try clear hcz9_0
           try clear hcz9_1
           try clear hcz9_2
           try clear hcz9_3
           try clear hfz13_0
           try clear hfz13_1
           try clear hfz13_2
           try clear hfz13_3
           try clear hfz14_0
           try clear hfz14_1
           try clear hfz14_2
           try clear hfz14_3
           try clear hfz16_0
           try clear hfz16_1
           try clear hfz16_2
           try clear hfz16_3
           try clear hfz17_0
           try clear hfz17_1
           try clear hfz17_2
           try clear hfz17_3
           try clear hfz19_0
           try clear hfz19_1
           try clear hfz19_2
           try clear hfz19_3
           try clear hfz20_0
           try clear hfz20_1
           try clear hfz20_2
           try clear hfz20_3
           try clear hfz23_0
           try clear hfz23_1
           try clear hfz23_2
           try clear hfz23_3
           try clear hfz30_0
           try clear hfz30_1
           try clear hfz30_2
           try clear hfz30_3
           try clear hfz33_0
           try clear hfz33_1
           try clear hfz33_2
           try clear hfz33_3
           try clear hfz37_0
           try clear hfz37_1
           try clear hfz37_2
           try clear hfz37_3
           try clear hfz40_0
           try clear hfz40_1
           try clear hfz40_2
           try clear hfz40_3
           try clear hfz44_0
           try clear hfz44_1
           try clear hfz44_2
           try clear hfz44_3
           try clear hfz51_0
           try clear hfz51_1
           try clear hfz51_2
           try clear hfz51_3
           try clear hfz54_0
           try clear hfz54_1
           try clear hfz54_2
           try clear hfz54_3
           try clear hfz58_0
           try clear hfz58_1
           try clear hfz58_2
           try clear hfz58_3
           try clear hfz61_0
           try clear hfz61_1
           try clear hfz61_2
           try clear hfz61_3
           try clear hfz65_0
           try clear hfz65_1
           try clear hfz65_2
           try clear hfz65_3
           try clear hfz8_0
           try clear hfz8_1
           try clear hfz8_2
           try clear hfz8_3
           try clear hfz9_0
           try clear hfz9_1
           try clear hfz9_2
           try clear hfz9_3
           try clear hx487_0
           try clear hx488_0
           try clear hx489_0
           try clear hx490_0
           try clear p2
           try clear p4
           try clear p487
           try clear p488
           try clear p489
           try clear p490
           try clear p6
           try clear q4
           try clear q487
           try clear q488
           try clear q489
           try clear q490
           (try clear BK485)
           (try clear BK486)
           obtain ⟨x83_4, rfl, HA, HK4, BK485, BK486, HB⟩ := hrel
           cases gk with
           | zero => exact absurd HA.out (by simp [ladingref06_Same.l2])
           | succ k4 =>
            have H := HA.out
            clear HA
            simp only [ladingref06_Same.l2] at H
            by_cases c66 : x83_4 < (l0_3.length : Int)
            ·rw [if_pos c66] at H
             have c66b0 : decide (x83_4 < (l0_3.length : Int)) = true := decide_eq_true c66
             clear c66
             by_cases c67 : 0 ≤ x83_4
             ·rw [if_pos c67] at H
              have c67b0 : decide (0 ≤ x83_4) = true := decide_eq_true c67
              clear c67
              by_cases c68 : x83_4 < (l0_3.length : Int)
              ·rw [if_pos c68] at H
               have c68b0 : decide (x83_4 < (l0_3.length : Int)) = true := decide_eq_true c68
               clear c68
               by_cases c69 : x83_4 < (l1_3.length : Int)
               ·rw [if_pos c69] at H
                have c69b0 : decide (x83_4 < (l1_3.length : Int)) = true := decide_eq_true c69
                clear c69
                by_cases c70 : (rd l0_3 x83_4) = (rd l1_3 x83_4)
                ·rw [if_pos c70] at H
                 obtain ⟨c70b0, c70b1⟩ := zq1 c70
                 clear c70
                 have H' := Aside0.mk H
                 clear H
                 have hnb71 := NB485_486.out
                 have hnc71 := NB486_485.out
                 obtain ⟨hcz72_0, hcz72_1, hcz72_2, hcz72_3⟩ := zc4 BK485.out
                 obtain ⟨hfz72_0, hfz72_1, hfz72_2, hfz72_3⟩ := zz4 BK485.out
                 have p491 : 0 ≤ (x83_4 : Int) := of_decide_eq_true za_
                 have q491 : x83_4 < (l0_3.length : Int) := of_decide_eq_true za_
                 obtain ⟨ad491, e491, hx491_0⟩ := Kd.at_int HR0_3.out x83_4 p491 q491
                 cases e491
                 replace hx491_0 := zx_ HB.out hx491_0
                 replace p491 := eq_true p491
                 replace q491 := eq_true q491
                 obtain ⟨hcz73_0, hcz73_1, hcz73_2, hcz73_3⟩ := zc4 BK486.out
                 obtain ⟨hfz73_0, hfz73_1, hfz73_2, hfz73_3⟩ := zz4 BK486.out
                 have p492 : 0 ≤ (x83_4 : Int) := of_decide_eq_true za_
                 have q492 : x83_4 < (l1_3.length : Int) := of_decide_eq_true za_
                 obtain ⟨ad492, e492, hx492_0⟩ := Kd.at_int HR1_3.out x83_4 p492 q492
                 cases e492
                 replace hx492_0 := zx_ HB.out hx492_0
                 replace p492 := eq_true p492
                 replace q492 := eq_true q492
                 go_wp2
                 repeat (go_quiet (fail); try go_wp2)
                 go_roundg k4
                 case measure => have := HJ2.out; have := HK2.out; have := HK3.out; have := HK4.out; omega
                 case rel => exact ⟨(wrap64 (x83_4 + 1)), (by first | rfl | (simp; done) | (simp [*]; done) | (simp only [i64_w]; done)), H', ⟨by have := HJ2.out; have := HK2.out; have := HK3.out; have := HK4.out; omega⟩, ⟨by (with_reducible repeat (first | refine blk_drewN ?_ _ | refine blk_drew ?_ | refine blk_alloc ?_ _)); exact BK485.out⟩, ⟨by (with_reducible repeat (first | refine blk_drewN ?_ _ | refine blk_drew ?_ | refine blk_alloc ?_ _)); exact BK486.out⟩, ⟨by exact zh2_ HB.out GE485.out GE486.out⟩⟩
                ·rw [if_neg c70] at H
                 obtain ⟨c70b0, c70b1⟩ := zq0 c70
                 obtain rfl := Option.some.inj H
                 have hnb74 := NB485_486.out
                 have hnc74 := NB486_485.out
                 obtain ⟨hcz75_0, hcz75_1, hcz75_2, hcz75_3⟩ := zc4 BK485.out
                 obtain ⟨hfz75_0, hfz75_1, hfz75_2, hfz75_3⟩ := zz4 BK485.out
                 have p491 : 0 ≤ (x83_4 : Int) := of_decide_eq_true za_
                 have q491 : x83_4 < (l0_3.length : Int) := of_decide_eq_true za_
                 obtain ⟨ad491, e491, hx491_0⟩ := Kd.at_int HR0_3.out x83_4 p491 q491
                 cases e491
                 replace hx491_0 := zx_ HB.out hx491_0
                 replace p491 := eq_true p491
                 replace q491 := eq_true q491
                 obtain ⟨hcz76_0, hcz76_1, hcz76_2, hcz76_3⟩ := zc4 BK486.out
                 obtain ⟨hfz76_0, hfz76_1, hfz76_2, hfz76_3⟩ := zz4 BK486.out
                 have p492 : 0 ≤ (x83_4 : Int) := of_decide_eq_true za_
                 have q492 : x83_4 < (l1_3.length : Int) := of_decide_eq_true za_
                 obtain ⟨ad492, e492, hx492_0⟩ := Kd.at_int HR1_3.out x83_4 p492 q492
                 cases e492
                 replace hx492_0 := zx_ HB.out hx492_0
                 replace p492 := eq_true p492
                 replace q492 := eq_true q492
                 go_wp2
                 repeat (go_quiet (fail); try go_wp2)
                 go_ret
                 exact ⟨by first | rfl | (simp [errW_none, errW_some] <;> rfl) | (simp [*, errW_none, errW_some] <;> rfl), by exact zh2_ HB.out GE485.out GE486.out⟩
               ·rw [if_neg c69] at H
                cases H
              ·rw [if_neg c68] at H
               cases H
             ·rw [if_neg c67] at H
              cases H
            ·rw [if_neg c66] at H
             have c66b0 : decide (x83_4 < (l0_3.length : Int)) = false := decide_eq_false c66
             clear c66
             obtain rfl := Option.some.inj H
             go_wp2
             repeat (go_quiet (fail); try go_wp2)
             go_ret
             exact ⟨by first | rfl | (simp [errW_none, errW_some] <;> rfl) | (simp [*, errW_none, errW_some] <;> rfl), by exact zh2_ HB.out GE485.out GE486.out⟩
end Go.Proofs.YtcbgichkeecgiaaDoor.Print
