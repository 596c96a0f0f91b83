-- What the claim uses alone (wip/slim.py). Lean checks it.
import Derived.Test.YtaddmogfeijjcaaZAb
import Derived.Test.YtaddmogfeijjcaaZPrint0
import Derived.Test.YtaddmogfeijjcaaZPrint1
import Derived.Test.YtaddmogfeijjcaaZPrint2
namespace Go.Proofs.Ytaddmogfeijjcaa.Print
open Go.RowKit Go.Proofs.YtaddmogfeijjcaaW.PrintWords Go.Proofs.YtaddmogfeijjcaaW.PrintLast Go.Proofs.YtaddmogfeijjcaaW.PrintMore
attribute [local go_sem] max2_mx min2_mn max_two min_two max_three min_three max_four min_four
set_option linter.unusedVariables false
set_option linter.unusedSimpArgs false
attribute [local go_sem high] eqA31 eqA55
mutual
def ladingref14_Same.j0 : Nat → Bool → List (S31) → List (S55) → List (S31) → List (S55) → Option (Bool)
 | 0, _, _, _, _, _ => none
 | k + 1, x22, x167000, x167001, x168000, x168001 => if x22 = true then (some false) else (ladingref14_Same.l0 k (x167000.length : Int) 0 x167000 x167001 x168000 x168001)
def ladingref14_Same.l0 : Nat → Int → Int → List (S31) → List (S55) → List (S31) → List (S55) → Option (Bool)
 | 0, _, _, _, _, _, _ => none
 | k + 1, x25, x26, x167000, x167001, x168000, x168001 => if x26 < x25 then (if 0 ≤ x26 then (if x26 < (x167000.length : Int) then (if x26 < (x168000.length : Int) then (if (!(((rd_T31 x167000 x26).f0) == ((rd_T31 x168000 x26).f0)) || (!(((rd_T31 x167000 x26).f1) == ((rd_T31 x168000 x26).f1)) || (!(((rd_T31 x167000 x26).f2) == ((rd_T31 x168000 x26).f2)) || (!(((rd_T31 x167000 x26).f3) == ((rd_T31 x168000 x26).f3)))))) = true then (some false) else (ladingref14_Same.l0 k x25 (wrap64 (x26 + 1)) x167000 x167001 x168000 x168001)) else (none)) else (none)) else (none)) else (ladingref14_Same.l1 k (x167001.length : Int) 0 x167000 x167001 x168000 x168001)
def ladingref14_Same.l1 : Nat → Int → Int → List (S31) → List (S55) → List (S31) → List (S55) → Option (Bool)
 | 0, _, _, _, _, _, _ => none
 | k + 1, x43, x44, x167000, x167001, x168000, x168001 => if x44 < x43 then (if 0 ≤ x44 then (if x44 < (x167001.length : Int) then (if x44 < (x168001.length : Int) then (if (!(((rd_T55 x167001 x44).f0) == ((rd_T55 x168001 x44).f0)) || (!(((rd_T55 x167001 x44).f1) == ((rd_T55 x168001 x44).f1)) || (!(((rd_T55 x167001 x44).f2) == ((rd_T55 x168001 x44).f2)) || (!(((rd_T55 x167001 x44).f3) == ((rd_T55 x168001 x44).f3)))))) = true then (some false) else (ladingref14_Same.l1 k x43 (wrap64 (x44 + 1)) x167000 x167001 x168000 x168001)) else (none)) else (none)) else (none)) else (some true)
end
def ladingref14_Same.f (k : Nat) (l0_0 : List (S31)) (l0_1 : List (S55)) (l1_0 : List (S31)) (l1_1 : List (S55)) : Option (Bool) := if (l0_0.length : Int) = (l1_0.length : Int) then (ladingref14_Same.j0 k ((l0_1.length : Int) != (l1_1.length : Int)) l0_0 l0_1 l1_0 l1_1) else (ladingref14_Same.j0 k true l0_0 l0_1 l1_0 l1_1)
set_option maxHeartbeats 8000000 in
set_option maxRecDepth 100000 in
theorem ladingref14_Same.calls (k : Nat) (A0_0 : Option Addr) (c0_0 : Nat) (l0_0 : List (S31)) (A0_1 : Option Addr) (c0_1 : Nat) (l0_1 : List (S55)) (A1_0 : Option Addr) (c1_0 : Nat) (l1_0 : List (S31)) (A1_1 : Option Addr) (c1_1 : Nat) (l1_1 : List (S55)) (r : Bool) (w : World) (hr0_0 : Kd.C k31 w A0_0 l0_0.length l0_0) (hc0_0 : l0_0.length ≤ c0_0) (hr0_1 : Kd.C k55 w A0_1 l0_1.length l0_1) (hc0_1 : l0_1.length ≤ c0_1) (hr1_0 : Kd.C k31 w A1_0 l1_0.length l1_0) (hc1_0 : l1_0.length ≤ c1_0) (hr1_1 : Kd.C k55 w A1_1 l1_1.length l1_1) (hc1_1 : l1_1.length ≤ c1_1) (h : ladingref14_Same.f k l0_0 l0_1 l1_0 l1_1 = some r) :
  Calls Try.prog 13 #[.agg #[.slice A0_0 l0_0.length c0_0, .slice A0_1 l0_1.length c0_1], .agg #[.slice A1_0 l1_0.length c1_0, .slice A1_1 l1_1.length c1_1]] w fun e w' => e = .returned (.bool r) ∧ Below w.heap.size w w' := by
 have hu25 := Try.underlying25
 have hu31 := Try.underlying31
 have hu55 := Try.underlying55
 have HR0_0 := Aside0.mk hr0_0
 have HC0_0 := Aside0.mk hc0_0
 clear hr0_0 hc0_0
 have HR0_1 := Aside0.mk hr0_1
 have HC0_1 := Aside0.mk hc0_1
 clear hr0_1 hc0_1
 have HR1_0 := Aside0.mk hr1_0
 have HC1_0 := Aside0.mk hc1_0
 clear hr1_0 hc1_0
 have HR1_1 := Aside0.mk hr1_1
 have HC1_1 := Aside0.mk hc1_1
 clear hr1_1 hc1_1
 have HB := Aside0.mk (Below.refl w.heap.size w)
 have H : (if (l0_0.length : Int) = (l1_0.length : Int) then (ladingref14_Same.j0 k ((l0_1.length : Int) != (l1_1.length : Int)) l0_0 l0_1 l1_0 l1_1) else (ladingref14_Same.j0 k true l0_0 l0_1 l1_0 l1_1)) = some r := h
 clear h
 have HC3 := Aside0.mk H
 clear H
 go_enter Try.func13, Try.ntmps13
 go_upto_region 1 with (first | ((with_reducible refine gate_dst (N := 2) rfl ?_); (try (refine gate_guard (by rfl) ?_; dsimp only)); refine box_event ?hg (N := 2) ?hd (cs := #[.slice A0_0 l0_0.length c0_0, .slice A0_1 l0_1.length c0_1]) (t := 25) ?hr ?_; (case hd => rfl); (case hg => rfl); (case hr => first | (go_simp; done) | (go_simp; rfl)); intro gb166 hg w4 hbox hb; have n0_ := Aside0.mk (below_step (zh0_ HB.out) hb); have n1_ := Aside0.mk (hbox); have n2_ := Aside0.mk ((by rw [hg]; exact (below_size (zh0_ HB.out)) : w.heap.size ≤ gb166)); have n3_ := Aside0.mk ((by rw [hg]; exact (below_size (zh0_ HB.out)) : w.heap.size ≤ gb166)); clear HB; have HB := n0_; have BK166 := n1_; have GW166 := n2_; have GE166 := n3_; clear n0_ n1_ n2_ n3_; clear hb hbox hg) | ((with_reducible refine gate_dst (N := 3) rfl ?_); (try (refine gate_guard (by rfl) ?_; dsimp only)); refine box_event ?hg (N := 3) ?hd (cs := #[.slice A1_0 l1_0.length c1_0, .slice A1_1 l1_1.length c1_1]) (t := 25) ?hr ?_; (case hd => rfl); (case hg => rfl); (case hr => first | (go_simp; done) | (go_simp; rfl)); intro gb167 hg w5 hbox hb; have n0_ := Aside0.mk (blk_below (zb_ BK166.out) hb); have n1_ := Aside0.mk (below_step (zh1_ HB.out GE166.out) hb); have n2_ := Aside0.mk (hbox); have n3_ := Aside0.mk ((by rw [hg]; exact (below_size (zh1_ HB.out GE166.out)) : w.heap.size ≤ gb167)); have n4_ := Aside0.mk ((by rw [hg]; exact (below_size (zh1_ HB.out GE166.out)) : w.heap.size ≤ gb167)); have n5_ := Aside0.mk ((by rw [hg]; exact Nat.ne_of_lt (blk_lt (zb_ BK166.out)) : gb166 ≠ gb167)); have n6_ := Aside0.mk ((by rw [hg]; exact Nat.ne_of_gt (blk_lt (zb_ BK166.out)) : gb167 ≠ gb166)); clear BK166; clear HB; have BK166 := n0_; have HB := n1_; have BK167 := n2_; have GW167 := n3_; have GE167 := n4_; have NB166_167 := n5_; have NB167_166 := n6_; clear n0_ n1_ n2_ n3_ n4_ n5_ n6_; clear hb hbox hg))
 repeat (go_quiet (first | ((with_reducible refine gate_dst (N := 2) rfl ?_); (try (refine gate_guard (by rfl) ?_; dsimp only)); refine box_event ?hg (N := 2) ?hd (cs := #[.slice A0_0 l0_0.length c0_0, .slice A0_1 l0_1.length c0_1]) (t := 25) ?hr ?_; (case hd => rfl); (case hg => rfl); (case hr => first | (go_simp; done) | (go_simp; rfl)); intro gb166 hg w4 hbox hb; have n0_ := Aside0.mk (below_step (zh0_ HB.out) hb); have n1_ := Aside0.mk (hbox); have n2_ := Aside0.mk ((by rw [hg]; exact (below_size (zh0_ HB.out)) : w.heap.size ≤ gb166)); have n3_ := Aside0.mk ((by rw [hg]; exact (below_size (zh0_ HB.out)) : w.heap.size ≤ gb166)); clear HB; have HB := n0_; have BK166 := n1_; have GW166 := n2_; have GE166 := n3_; clear n0_ n1_ n2_ n3_; clear hb hbox hg) | ((with_reducible refine gate_dst (N := 3) rfl ?_); (try (refine gate_guard (by rfl) ?_; dsimp only)); refine box_event ?hg (N := 3) ?hd (cs := #[.slice A1_0 l1_0.length c1_0, .slice A1_1 l1_1.length c1_1]) (t := 25) ?hr ?_; (case hd => rfl); (case hg => rfl); (case hr => first | (go_simp; done) | (go_simp; rfl)); intro gb167 hg w5 hbox hb; have n0_ := Aside0.mk (blk_below (zb_ BK166.out) hb); have n1_ := Aside0.mk (below_step (zh1_ HB.out GE166.out) hb); have n2_ := Aside0.mk (hbox); have n3_ := Aside0.mk ((by rw [hg]; exact (below_size (zh1_ HB.out GE166.out)) : w.heap.size ≤ gb167)); have n4_ := Aside0.mk ((by rw [hg]; exact (below_size (zh1_ HB.out GE166.out)) : w.heap.size ≤ gb167)); have n5_ := Aside0.mk ((by rw [hg]; exact Nat.ne_of_lt (blk_lt (zb_ BK166.out)) : gb166 ≠ gb167)); have n6_ := Aside0.mk ((by rw [hg]; exact Nat.ne_of_gt (blk_lt (zb_ BK166.out)) : gb167 ≠ gb166)); clear BK166; clear HB; have BK166 := n0_; have HB := n1_; have BK167 := n2_; have GW167 := n3_; have GE167 := n4_; have NB166_167 := n5_; have NB167_166 := n6_; clear n0_ n1_ n2_ n3_ n4_ n5_ n6_; clear hb hbox hg)); go_upto_region 1 with (first | ((with_reducible refine gate_dst (N := 2) rfl ?_); (try (refine gate_guard (by rfl) ?_; dsimp only)); refine box_event ?hg (N := 2) ?hd (cs := #[.slice A0_0 l0_0.length c0_0, .slice A0_1 l0_1.length c0_1]) (t := 25) ?hr ?_; (case hd => rfl); (case hg => rfl); (case hr => first | (go_simp; done) | (go_simp; rfl)); intro gb166 hg w4 hbox hb; have n0_ := Aside0.mk (below_step (zh0_ HB.out) hb); have n1_ := Aside0.mk (hbox); have n2_ := Aside0.mk ((by rw [hg]; exact (below_size (zh0_ HB.out)) : w.heap.size ≤ gb166)); have n3_ := Aside0.mk ((by rw [hg]; exact (below_size (zh0_ HB.out)) : w.heap.size ≤ gb166)); clear HB; have HB := n0_; have BK166 := n1_; have GW166 := n2_; have GE166 := n3_; clear n0_ n1_ n2_ n3_; clear hb hbox hg) | ((with_reducible refine gate_dst (N := 3) rfl ?_); (try (refine gate_guard (by rfl) ?_; dsimp only)); refine box_event ?hg (N := 3) ?hd (cs := #[.slice A1_0 l1_0.length c1_0, .slice A1_1 l1_1.length c1_1]) (t := 25) ?hr ?_; (case hd => rfl); (case hg => rfl); (case hr => first | (go_simp; done) | (go_simp; rfl)); intro gb167 hg w5 hbox hb; have n0_ := Aside0.mk (blk_below (zb_ BK166.out) hb); have n1_ := Aside0.mk (below_step (zh1_ HB.out GE166.out) hb); have n2_ := Aside0.mk (hbox); have n3_ := Aside0.mk ((by rw [hg]; exact (below_size (zh1_ HB.out GE166.out)) : w.heap.size ≤ gb167)); have n4_ := Aside0.mk ((by rw [hg]; exact (below_size (zh1_ HB.out GE166.out)) : w.heap.size ≤ gb167)); have n5_ := Aside0.mk ((by rw [hg]; exact Nat.ne_of_lt (blk_lt (zb_ BK166.out)) : gb166 ≠ gb167)); have n6_ := Aside0.mk ((by rw [hg]; exact Nat.ne_of_gt (blk_lt (zb_ BK166.out)) : gb167 ≠ gb166)); clear BK166; clear HB; have BK166 := n0_; have HB := n1_; have BK167 := n2_; have GW167 := n3_; have GE167 := n4_; have NB166_167 := n5_; have NB167_166 := n6_; clear n0_ n1_ n2_ n3_ n4_ n5_ n6_; clear hb hbox hg)))
 (try simp only [Act.put, zt0, zt1, zt2])
 go_cut [22] (fun v22 wc => ∃ (kq : Nat) (x22_2 : Bool), v22 = .bool x22_2 ∧ Aside0 (ladingref14_Same.j0 kq x22_2 l0_0 l0_1 l1_0 l1_1 = some r) ∧ Aside0 (kq ≤ k) ∧ Aside0 (wc.heap[gb166]? = some (.cells #[(.slice A0_0 l0_0.length c0_0), (.slice A0_1 l0_1.length c0_1)] 25 (0, 0))) ∧ Aside0 (wc.heap[gb167]? = some (.cells #[(.slice A1_0 l1_0.length c1_0), (.slice A1_1 l1_1.length c1_1)] 25 (0, 0))) ∧ Aside0 (Below w.heap.size w wc))
 case first =>
  have H := HC3.out
  clear HC3
  by_cases c6 : (l0_0.length : Int) = (l1_0.length : Int)
  ·rw [if_pos c6] at H
   have c6b0 : ((l0_0.length : Int) == (l1_0.length : Int)) = true := beq_iff_eq.mpr c6
   have c6b1 : ((l0_0.length : Int) != (l1_0.length : Int)) = false := bne_eq_false_iff_eq.mpr c6
   have c6b2 : (l0_0.length == l1_0.length) = true := by first | simpa using c6 | (simp at c6 ⊢; omega)
   clear c6
   (first | rw [c6b0] | (simp only [i64_w, i32_w]; rw [c6b0]) | skip)
   have H' := Aside0.mk H
   clear H
   have hnb7 := NB166_167.out
   have hnc7 := NB167_166.out
   have hcz8_0 : w5.cell? ⟨gb166, 0, none⟩ = some (.slice A0_0 l0_0.length c0_0) := (blk_cell BK166.out 0).trans rfl
   have hcz8_1 : w5.cell? ⟨gb166, 1, none⟩ = some (.slice A0_1 l0_1.length c0_1) := (blk_cell BK166.out 1).trans rfl
   have hfz8_0 := blk_frozen BK166.out 0
   have hfz8_1 := blk_frozen BK166.out 1
   have hcz9_0 : w5.cell? ⟨gb167, 0, none⟩ = some (.slice A1_0 l1_0.length c1_0) := (blk_cell BK167.out 0).trans rfl
   have hcz9_1 : w5.cell? ⟨gb167, 1, none⟩ = some (.slice A1_1 l1_1.length c1_1) := (blk_cell BK167.out 1).trans rfl
   have hfz9_0 := blk_frozen BK167.out 0
   have hfz9_1 := blk_frozen BK167.out 1
   go_wp2
   repeat (go_quiet (fail); try go_wp2)
   go_meet
   case rel => exact ⟨_, (((l0_1.length : Int) != (l1_1.length : Int))), (by first | rfl | (simp; done) | (simp [*]; done) | (simp only [i64_w]; done)), H', ⟨by first | omega | exact Nat.le_refl _⟩, ⟨by (with_reducible repeat (first | refine blk_drewN ?_ _ | refine blk_drew ?_ | refine blk_alloc ?_ _)); exact BK166.out⟩, ⟨by (with_reducible repeat (first | refine blk_drewN ?_ _ | refine blk_drew ?_ | refine blk_alloc ?_ _)); exact BK167.out⟩, ⟨by exact zh2_ HB.out GE166.out GE167.out⟩⟩
  ·rw [if_neg c6] at H
   have c6b0 : ((l0_0.length : Int) == (l1_0.length : Int)) = false := beq_eq_false_iff_ne.mpr c6
   have c6b1 : ((l0_0.length : Int) != (l1_0.length : Int)) = true := bne_iff_ne.mpr c6
   have c6b2 : (l0_0.length == l1_0.length) = false := by first | simpa using c6 | (simp at c6 ⊢; omega)
   (first | rw [c6b0] | (simp only [i64_w, i32_w]; rw [c6b0]) | skip)
   have H' := Aside0.mk H
   clear H
   have hnb10 := NB166_167.out
   have hnc10 := NB167_166.out
   have hcz11_0 : w5.cell? ⟨gb166, 0, none⟩ = some (.slice A0_0 l0_0.length c0_0) := (blk_cell BK166.out 0).trans rfl
   have hcz11_1 : w5.cell? ⟨gb166, 1, none⟩ = some (.slice A0_1 l0_1.length c0_1) := (blk_cell BK166.out 1).trans rfl
   have hfz11_0 := blk_frozen BK166.out 0
   have hfz11_1 := blk_frozen BK166.out 1
   have hcz12_0 : w5.cell? ⟨gb167, 0, none⟩ = some (.slice A1_0 l1_0.length c1_0) := (blk_cell BK167.out 0).trans rfl
   have hcz12_1 : w5.cell? ⟨gb167, 1, none⟩ = some (.slice A1_1 l1_1.length c1_1) := (blk_cell BK167.out 1).trans rfl
   have hfz12_0 := blk_frozen BK167.out 0
   have hfz12_1 := blk_frozen BK167.out 1
   go_wp2
   repeat (go_quiet (fail); try go_wp2)
   go_meet
   case rel => exact ⟨_, (true), (by first | rfl | (simp; done) | (simp [*]; done) | (simp only [i64_w]; done)), H', ⟨by first | omega | exact Nat.le_refl _⟩, ⟨by (with_reducible repeat (first | refine blk_drewN ?_ _ | refine blk_drew ?_ | refine blk_alloc ?_ _)); exact BK166.out⟩, ⟨by (with_reducible repeat (first | refine blk_drewN ?_ _ | refine blk_drew ?_ | refine blk_alloc ?_ _)); exact BK167.out⟩, ⟨by exact zh2_ HB.out GE166.out GE167.out⟩⟩
 case rest =>
  clear HC3
  try clear c1
  try clear p2
  try clear c6
  try clear c6b0
  try clear c6b1
  try clear c6b2
  try clear c7
  try clear c10
  try clear hcz11_0
  try clear hcz11_1
  try clear hcz12_0
  try clear hcz12_1
  try clear hcz8_0
  try clear hcz8_1
  try clear hcz9_0
  try clear hcz9_1
  try clear hfz11_0
  try clear hfz11_1
  try clear hfz12_0
  try clear hfz12_1
  try clear hfz8_0
  try clear hfz8_1
  try clear hfz9_0
  try clear hfz9_1
  obtain ⟨kq, x22_2, rfl, HA, HJ2, BK166, BK167, HB⟩ := hcut
  cases kq with
  | zero => exact absurd HA.out (by simp [ladingref14_Same.j0])
  | succ kj2 =>
   have H := HA.out
   clear HA
   simp only [ladingref14_Same.j0] at H
   by_cases c13 : x22_2 = true
   ·subst c13
    have H1 : (some false) = some r := by rw [if_pos rfl] at H; exact H
    clear H
    have H := H1
    clear H1
    obtain rfl := Option.some.inj H
    go_wp2
    repeat (go_quiet (fail); try go_wp2)
    go_ret
    exact ⟨by first | rfl | (simp [errW_none, errW_some] <;> rfl) | (simp [*, errW_none, errW_some] <;> rfl), by exact zh2_ HB.out GE166.out GE167.out⟩
   ·replace c13 := Bool.eq_false_iff.mpr c13
    subst c13
    have H1 : (ladingref14_Same.l0 kj2 (l0_0.length : Int) 0 l0_0 l0_1 l1_0 l1_1) = some r := by rw [if_neg (show ¬ (false = true) by decide)] at H; exact H
    clear H
    have H := H1
    clear H1
    have H' := Aside0.mk H
    clear H
    have hnb14 := NB166_167.out
    have hnc14 := NB167_166.out
    have hcz15_0 : wc.cell? ⟨gb166, 0, none⟩ = some (.slice A0_0 l0_0.length c0_0) := (blk_cell BK166.out 0).trans rfl
    have hcz15_1 : wc.cell? ⟨gb166, 1, none⟩ = some (.slice A0_1 l0_1.length c0_1) := (blk_cell BK166.out 1).trans rfl
    have hfz15_0 := blk_frozen BK166.out 0
    have hfz15_1 := blk_frozen BK166.out 1
    go_wp2
    repeat (go_quiet (fail); try go_wp2)
    go_loopg [26] kj2 (fun kq v26 w' => ∃ (x26_2 : Int), v26 = .int .i64 x26_2 ∧ Aside0 (ladingref14_Same.l0 kq (l0_0.length : Int) x26_2 l0_0 l0_1 l1_0 l1_1 = some r) ∧ Aside0 (kq ≤ kj2) ∧ Aside0 (w'.heap[gb166]? = some (.cells #[(.slice A0_0 l0_0.length c0_0), (.slice A0_1 l0_1.length c0_1)] 25 (0, 0))) ∧ Aside0 (w'.heap[gb167]? = some (.cells #[(.slice A1_0 l1_0.length c1_0), (.slice A1_1 l1_1.length c1_1)] 25 (0, 0))) ∧ Aside0 (Below w.heap.size w w'))
    case atStart => exact ⟨(0), (by first | rfl | (simp; done) | (simp [*]; done) | (simp only [i64_w]; done)), H', ⟨Nat.le_refl _⟩, ⟨by (with_reducible repeat (first | refine blk_drewN ?_ _ | refine blk_drew ?_ | refine blk_alloc ?_ _)); exact BK166.out⟩, ⟨by (with_reducible repeat (first | refine blk_drewN ?_ _ | refine blk_drew ?_ | refine blk_alloc ?_ _)); exact BK167.out⟩, ⟨by exact zh2_ HB.out GE166.out GE167.out⟩⟩
    case round =>
     clear H'
     try clear c1
     try clear p2
     try clear c6
     try clear c6b0
     try clear c6b1
     try clear c6b2
     try clear c7
     try clear c10
     try clear c13
     try clear c14
     try clear hcz11_0
     try clear hcz11_1
     try clear hcz12_0
     try clear hcz12_1
     try clear hcz15_0
     try clear hcz15_1
     try clear hcz8_0
     try clear hcz8_1
     try clear hcz9_0
     try clear hcz9_1
     try clear hfz11_0
     try clear hfz11_1
     try clear hfz12_0
     try clear hfz12_1
     try clear hfz15_0
     try clear hfz15_1
     try clear hfz8_0
     try clear hfz8_1
     try clear hfz9_0
     try clear hfz9_1
     try clear p2
     obtain ⟨x26_2, rfl, HA, HK2, BK166, BK167, HB⟩ := hrel
     cases gk with
     | zero => exact absurd HA.out (by simp [ladingref14_Same.l0])
     | succ k2 =>
      have H := HA.out
      clear HA
      simp only [ladingref14_Same.l0] at H
      by_cases c16 : x26_2 < (l0_0.length : Int)
      ·rw [if_pos c16] at H
       have c16b0 : decide (x26_2 < (l0_0.length : Int)) = true := decide_eq_true c16
       clear c16
       by_cases c17 : 0 ≤ x26_2
       ·rw [if_pos c17] at H
        have c17b0 : decide (0 ≤ x26_2) = true := decide_eq_true c17
        clear c17
        by_cases c18 : x26_2 < (l0_0.length : Int)
        ·rw [if_pos c18] at H
         have c18b0 : decide (x26_2 < (l0_0.length : Int)) = true := decide_eq_true c18
         clear c18
         by_cases c19 : x26_2 < (l1_0.length : Int)
         ·rw [if_pos c19] at H
          have c19b0 : decide (x26_2 < (l1_0.length : Int)) = true := decide_eq_true c19
          clear c19
          by_cases c20 : (!(((rd_T31 l0_0 x26_2).f0) == ((rd_T31 l1_0 x26_2).f0)) || (!(((rd_T31 l0_0 x26_2).f1) == ((rd_T31 l1_0 x26_2).f1)) || (!(((rd_T31 l0_0 x26_2).f2) == ((rd_T31 l1_0 x26_2).f2)) || (!(((rd_T31 l0_0 x26_2).f3) == ((rd_T31 l1_0 x26_2).f3)))))) = true
          ·rw [if_pos c20] at H
           have c20b0 : (!(((rd_T31 l0_0 x26_2).f0) == ((rd_T31 l1_0 x26_2).f0)) || (!(((rd_T31 l0_0 x26_2).f1) == ((rd_T31 l1_0 x26_2).f1)) || (!(((rd_T31 l0_0 x26_2).f2) == ((rd_T31 l1_0 x26_2).f2)) || (!(((rd_T31 l0_0 x26_2).f3) == ((rd_T31 l1_0 x26_2).f3)))))) = true := c20
           clear c20
           obtain rfl := Option.some.inj H
           have hnb21 := NB166_167.out
           have hnc21 := NB167_166.out
           have hcz22_0 : wr.cell? ⟨gb166, 0, none⟩ = some (.slice A0_0 l0_0.length c0_0) := (blk_cell BK166.out 0).trans rfl
           have hcz22_1 : wr.cell? ⟨gb166, 1, none⟩ = some (.slice A0_1 l0_1.length c0_1) := (blk_cell BK166.out 1).trans rfl
           have hfz22_0 := blk_frozen BK166.out 0
           have hfz22_1 := blk_frozen BK166.out 1
           have p168 : 0 ≤ (x26_2 : Int) := of_decide_eq_true za_
           have q168 : x26_2 < (l0_0.length : Int) := of_decide_eq_true za_
           obtain ⟨ad168, e168, hx168_0, hx168_1, hx168_2, hx168_3⟩ := at_T31 HR0_0.out x26_2 p168 q168
           cases e168
           replace hx168_0 := zx_ HB.out hx168_0
           replace hx168_1 := zx_ HB.out hx168_1
           replace hx168_2 := zx_ HB.out hx168_2
           replace hx168_3 := zx_ HB.out hx168_3
           replace p168 := eq_true p168
           replace q168 := eq_true q168
           have hcz23_0 : wr.cell? ⟨gb167, 0, none⟩ = some (.slice A1_0 l1_0.length c1_0) := (blk_cell BK167.out 0).trans rfl
           have hcz23_1 : wr.cell? ⟨gb167, 1, none⟩ = some (.slice A1_1 l1_1.length c1_1) := (blk_cell BK167.out 1).trans rfl
           have hfz23_0 := blk_frozen BK167.out 0
           have hfz23_1 := blk_frozen BK167.out 1
           have p169 : 0 ≤ (x26_2 : Int) := of_decide_eq_true za_
           have q169 : x26_2 < (l1_0.length : Int) := of_decide_eq_true za_
           obtain ⟨ad169, e169, hx169_0, hx169_1, hx169_2, hx169_3⟩ := at_T31 HR1_0.out x26_2 p169 q169
           cases e169
           replace hx169_0 := zx_ HB.out hx169_0
           replace hx169_1 := zx_ HB.out hx169_1
           replace hx169_2 := zx_ HB.out hx169_2
           replace hx169_3 := zx_ HB.out hx169_3
           replace p169 := eq_true p169
           replace q169 := eq_true q169
           go_wp2
           repeat (go_quiet (fail); try go_wp2)
           go_ret
           exact ⟨by first | rfl | (simp [errW_none, errW_some] <;> rfl) | (simp [*, errW_none, errW_some] <;> rfl), by exact zh2_ HB.out GE166.out GE167.out⟩
          ·rw [if_neg c20] at H
           have c20b0 : (!(((rd_T31 l0_0 x26_2).f0) == ((rd_T31 l1_0 x26_2).f0)) || (!(((rd_T31 l0_0 x26_2).f1) == ((rd_T31 l1_0 x26_2).f1)) || (!(((rd_T31 l0_0 x26_2).f2) == ((rd_T31 l1_0 x26_2).f2)) || (!(((rd_T31 l0_0 x26_2).f3) == ((rd_T31 l1_0 x26_2).f3)))))) = false := by simpa using c20
           clear c20
           have H' := Aside0.mk H
           clear H
           have hnb24 := NB166_167.out
           have hnc24 := NB167_166.out
           have hcz25_0 : wr.cell? ⟨gb166, 0, none⟩ = some (.slice A0_0 l0_0.length c0_0) := (blk_cell BK166.out 0).trans rfl
           have hcz25_1 : wr.cell? ⟨gb166, 1, none⟩ = some (.slice A0_1 l0_1.length c0_1) := (blk_cell BK166.out 1).trans rfl
           have hfz25_0 := blk_frozen BK166.out 0
           have hfz25_1 := blk_frozen BK166.out 1
           have p168 : 0 ≤ (x26_2 : Int) := of_decide_eq_true za_
           have q168 : x26_2 < (l0_0.length : Int) := of_decide_eq_true za_
           obtain ⟨ad168, e168, hx168_0, hx168_1, hx168_2, hx168_3⟩ := at_T31 HR0_0.out x26_2 p168 q168
           cases e168
           replace hx168_0 := zx_ HB.out hx168_0
           replace hx168_1 := zx_ HB.out hx168_1
           replace hx168_2 := zx_ HB.out hx168_2
           replace hx168_3 := zx_ HB.out hx168_3
           replace p168 := eq_true p168
           replace q168 := eq_true q168
           have hcz26_0 : wr.cell? ⟨gb167, 0, none⟩ = some (.slice A1_0 l1_0.length c1_0) := (blk_cell BK167.out 0).trans rfl
           have hcz26_1 : wr.cell? ⟨gb167, 1, none⟩ = some (.slice A1_1 l1_1.length c1_1) := (blk_cell BK167.out 1).trans rfl
           have hfz26_0 := blk_frozen BK167.out 0
           have hfz26_1 := blk_frozen BK167.out 1
           have p169 : 0 ≤ (x26_2 : Int) := of_decide_eq_true za_
           have q169 : x26_2 < (l1_0.length : Int) := of_decide_eq_true za_
           obtain ⟨ad169, e169, hx169_0, hx169_1, hx169_2, hx169_3⟩ := at_T31 HR1_0.out x26_2 p169 q169
           cases e169
           replace hx169_0 := zx_ HB.out hx169_0
           replace hx169_1 := zx_ HB.out hx169_1
           replace hx169_2 := zx_ HB.out hx169_2
           replace hx169_3 := zx_ HB.out hx169_3
           replace p169 := eq_true p169
           replace q169 := eq_true q169
           go_wp2
           repeat (go_quiet (fail); try go_wp2)
           go_roundg k2
           case measure => have := HJ2.out; have := HK2.out; omega
           case rel => exact ⟨(wrap64 (x26_2 + 1)), (by first | rfl | (simp; done) | (simp [*]; done) | (simp only [i64_w]; done)), H', ⟨by have := HJ2.out; have := HK2.out; omega⟩, ⟨by (with_reducible repeat (first | refine blk_drewN ?_ _ | refine blk_drew ?_ | refine blk_alloc ?_ _)); exact BK166.out⟩, ⟨by (with_reducible repeat (first | refine blk_drewN ?_ _ | refine blk_drew ?_ | refine blk_alloc ?_ _)); exact BK167.out⟩, ⟨by exact zh2_ HB.out GE166.out GE167.out⟩⟩
         ·rw [if_neg c19] at H
          exact absurd H (by simp)
        ·rw [if_neg c18] at H
         exact absurd H (by simp)
       ·rw [if_neg c17] at H
        exact absurd H (by simp)
      ·rw [if_neg c16] at H
       have c16b0 : decide (x26_2 < (l0_0.length : Int)) = false := decide_eq_false c16
       clear c16
       have H' := Aside0.mk H
       clear H
       have hnb27 := NB166_167.out
       have hnc27 := NB167_166.out
       have hcz28_0 : wr.cell? ⟨gb166, 0, none⟩ = some (.slice A0_0 l0_0.length c0_0) := (blk_cell BK166.out 0).trans rfl
       have hcz28_1 : wr.cell? ⟨gb166, 1, none⟩ = some (.slice A0_1 l0_1.length c0_1) := (blk_cell BK166.out 1).trans rfl
       have hfz28_0 := blk_frozen BK166.out 0
       have hfz28_1 := blk_frozen BK166.out 1
       go_wp2
       repeat (go_quiet (fail); try go_wp2)
       go_loopg [44] k2 (fun kq v44 w' => ∃ (x44_3 : Int), v44 = .int .i64 x44_3 ∧ Aside0 (ladingref14_Same.l1 kq (l0_1.length : Int) x44_3 l0_0 l0_1 l1_0 l1_1 = some r) ∧ Aside0 (kq ≤ k2) ∧ Aside0 (w'.heap[gb166]? = some (.cells #[(.slice A0_0 l0_0.length c0_0), (.slice A0_1 l0_1.length c0_1)] 25 (0, 0))) ∧ Aside0 (w'.heap[gb167]? = some (.cells #[(.slice A1_0 l1_0.length c1_0), (.slice A1_1 l1_1.length c1_1)] 25 (0, 0))) ∧ Aside0 (Below w.heap.size w w'))
       case atStart => exact ⟨(0), (by first | rfl | (simp; done) | (simp [*]; done) | (simp only [i64_w]; done)), H', ⟨Nat.le_refl _⟩, ⟨by (with_reducible repeat (first | refine blk_drewN ?_ _ | refine blk_drew ?_ | refine blk_alloc ?_ _)); exact BK166.out⟩, ⟨by (with_reducible repeat (first | refine blk_drewN ?_ _ | refine blk_drew ?_ | refine blk_alloc ?_ _)); exact BK167.out⟩, ⟨by exact zh2_ HB.out GE166.out GE167.out⟩⟩
       case round =>
        clear H'
        try clear c1
        try clear p1
        try clear q1
        try clear hx1
        try clear c2
        try clear p2
        try clear c6
        try clear c6b0
        try clear c6b1
        try clear c6b2
        try clear p6
        try clear c7
        try clear c10
        try clear c13
        try clear c14
        try clear c16
        try clear c16b0
        try clear p16
        try clear q16
        try clear hx16
        try clear c17
        try clear c17b0
        try clear c18
        try clear c18b0
        try clear c19
        try clear c19b0
        try clear c20
        try clear c20b0
        try clear c21
        try clear c24
        try clear c27
        try clear hcz11_0
        try clear hcz11_1
        try clear hcz12_0
        try clear hcz12_1
        try clear hcz15_0
        try clear hcz15_1
        try clear hcz22_0
        try clear hcz22_1
        try clear hcz23_0
        try clear hcz23_1
        try clear hcz25_0
        try clear hcz25_1
        try clear hcz26_0
        try clear hcz26_1
        try clear hcz28_0
        try clear hcz28_1
        try clear hcz8_0
        try clear hcz8_1
        try clear hcz9_0
        try clear hcz9_1
        try clear hfz11_0
        try clear hfz11_1
        try clear hfz12_0
        try clear hfz12_1
        try clear hfz15_0
        try clear hfz15_1
        try clear hfz22_0
        try clear hfz22_1
        try clear hfz23_0
        try clear hfz23_1
        try clear hfz25_0
        try clear hfz25_1
        try clear hfz26_0
        try clear hfz26_1
        try clear hfz28_0
        try clear hfz28_1
        try clear hfz8_0
        try clear hfz8_1
        try clear hfz9_0
        try clear hfz9_1
        try clear hx168_0
        try clear hx168_1
        try clear hx168_2
        try clear hx168_3
        try clear hx169_0
        try clear hx169_1
        try clear hx169_2
        try clear hx169_3
        try clear p168
        try clear p169
        try clear p2
        try clear q168
        try clear q169
        obtain ⟨x44_3, rfl, HA, HK3, BK166, BK167, HB⟩ := hrel
        cases gk with
        | zero => exact absurd HA.out (by simp [ladingref14_Same.l1])
        | succ k3 =>
         have H := HA.out
         clear HA
         simp only [ladingref14_Same.l1] at H
         by_cases c29 : x44_3 < (l0_1.length : Int)
         ·rw [if_pos c29] at H
          have c29b0 : decide (x44_3 < (l0_1.length : Int)) = true := decide_eq_true c29
          clear c29
          by_cases c30 : 0 ≤ x44_3
          ·rw [if_pos c30] at H
           have c30b0 : decide (0 ≤ x44_3) = true := decide_eq_true c30
           clear c30
           by_cases c31 : x44_3 < (l0_1.length : Int)
           ·rw [if_pos c31] at H
            have c31b0 : decide (x44_3 < (l0_1.length : Int)) = true := decide_eq_true c31
            clear c31
            by_cases c32 : x44_3 < (l1_1.length : Int)
            ·rw [if_pos c32] at H
             have c32b0 : decide (x44_3 < (l1_1.length : Int)) = true := decide_eq_true c32
             clear c32
             by_cases c33 : (!(((rd_T55 l0_1 x44_3).f0) == ((rd_T55 l1_1 x44_3).f0)) || (!(((rd_T55 l0_1 x44_3).f1) == ((rd_T55 l1_1 x44_3).f1)) || (!(((rd_T55 l0_1 x44_3).f2) == ((rd_T55 l1_1 x44_3).f2)) || (!(((rd_T55 l0_1 x44_3).f3) == ((rd_T55 l1_1 x44_3).f3)))))) = true
             ·rw [if_pos c33] at H
              have c33b0 : (!(((rd_T55 l0_1 x44_3).f0) == ((rd_T55 l1_1 x44_3).f0)) || (!(((rd_T55 l0_1 x44_3).f1) == ((rd_T55 l1_1 x44_3).f1)) || (!(((rd_T55 l0_1 x44_3).f2) == ((rd_T55 l1_1 x44_3).f2)) || (!(((rd_T55 l0_1 x44_3).f3) == ((rd_T55 l1_1 x44_3).f3)))))) = true := c33
              clear c33
              obtain rfl := Option.some.inj H
              have hnb34 := NB166_167.out
              have hnc34 := NB167_166.out
              have hcz35_0 : wr.cell? ⟨gb166, 0, none⟩ = some (.slice A0_0 l0_0.length c0_0) := (blk_cell BK166.out 0).trans rfl
              have hcz35_1 : wr.cell? ⟨gb166, 1, none⟩ = some (.slice A0_1 l0_1.length c0_1) := (blk_cell BK166.out 1).trans rfl
              have hfz35_0 := blk_frozen BK166.out 0
              have hfz35_1 := blk_frozen BK166.out 1
              have p170 : 0 ≤ (x44_3 : Int) := of_decide_eq_true za_
              have q170 : x44_3 < (l0_1.length : Int) := of_decide_eq_true za_
              obtain ⟨ad170, e170, hx170_0, hx170_1, hx170_2, hx170_3⟩ := at_T55 HR0_1.out x44_3 p170 q170
              cases e170
              replace hx170_0 := zx_ HB.out hx170_0
              replace hx170_1 := zx_ HB.out hx170_1
              replace hx170_2 := zx_ HB.out hx170_2
              replace hx170_3 := zx_ HB.out hx170_3
              replace p170 := eq_true p170
              replace q170 := eq_true q170
              have hcz36_0 : wr.cell? ⟨gb167, 0, none⟩ = some (.slice A1_0 l1_0.length c1_0) := (blk_cell BK167.out 0).trans rfl
              have hcz36_1 : wr.cell? ⟨gb167, 1, none⟩ = some (.slice A1_1 l1_1.length c1_1) := (blk_cell BK167.out 1).trans rfl
              have hfz36_0 := blk_frozen BK167.out 0
              have hfz36_1 := blk_frozen BK167.out 1
              have p171 : 0 ≤ (x44_3 : Int) := of_decide_eq_true za_
              have q171 : x44_3 < (l1_1.length : Int) := of_decide_eq_true za_
              obtain ⟨ad171, e171, hx171_0, hx171_1, hx171_2, hx171_3⟩ := at_T55 HR1_1.out x44_3 p171 q171
              cases e171
              replace hx171_0 := zx_ HB.out hx171_0
              replace hx171_1 := zx_ HB.out hx171_1
              replace hx171_2 := zx_ HB.out hx171_2
              replace hx171_3 := zx_ HB.out hx171_3
              replace p171 := eq_true p171
              replace q171 := eq_true q171
              go_wp2
              repeat (go_quiet (fail); try go_wp2)
              go_ret
              exact ⟨by first | rfl | (simp [errW_none, errW_some] <;> rfl) | (simp [*, errW_none, errW_some] <;> rfl), by exact zh2_ HB.out GE166.out GE167.out⟩
             ·rw [if_neg c33] at H
              have c33b0 : (!(((rd_T55 l0_1 x44_3).f0) == ((rd_T55 l1_1 x44_3).f0)) || (!(((rd_T55 l0_1 x44_3).f1) == ((rd_T55 l1_1 x44_3).f1)) || (!(((rd_T55 l0_1 x44_3).f2) == ((rd_T55 l1_1 x44_3).f2)) || (!(((rd_T55 l0_1 x44_3).f3) == ((rd_T55 l1_1 x44_3).f3)))))) = false := by simpa using c33
              clear c33
              have H' := Aside0.mk H
              clear H
              have hnb37 := NB166_167.out
              have hnc37 := NB167_166.out
              have hcz38_0 : wr.cell? ⟨gb166, 0, none⟩ = some (.slice A0_0 l0_0.length c0_0) := (blk_cell BK166.out 0).trans rfl
              have hcz38_1 : wr.cell? ⟨gb166, 1, none⟩ = some (.slice A0_1 l0_1.length c0_1) := (blk_cell BK166.out 1).trans rfl
              have hfz38_0 := blk_frozen BK166.out 0
              have hfz38_1 := blk_frozen BK166.out 1
              have p170 : 0 ≤ (x44_3 : Int) := of_decide_eq_true za_
              have q170 : x44_3 < (l0_1.length : Int) := of_decide_eq_true za_
              obtain ⟨ad170, e170, hx170_0, hx170_1, hx170_2, hx170_3⟩ := at_T55 HR0_1.out x44_3 p170 q170
              cases e170
              replace hx170_0 := zx_ HB.out hx170_0
              replace hx170_1 := zx_ HB.out hx170_1
              replace hx170_2 := zx_ HB.out hx170_2
              replace hx170_3 := zx_ HB.out hx170_3
              replace p170 := eq_true p170
              replace q170 := eq_true q170
              have hcz39_0 : wr.cell? ⟨gb167, 0, none⟩ = some (.slice A1_0 l1_0.length c1_0) := (blk_cell BK167.out 0).trans rfl
              have hcz39_1 : wr.cell? ⟨gb167, 1, none⟩ = some (.slice A1_1 l1_1.length c1_1) := (blk_cell BK167.out 1).trans rfl
              have hfz39_0 := blk_frozen BK167.out 0
              have hfz39_1 := blk_frozen BK167.out 1
              have p171 : 0 ≤ (x44_3 : Int) := of_decide_eq_true za_
              have q171 : x44_3 < (l1_1.length : Int) := of_decide_eq_true za_
              obtain ⟨ad171, e171, hx171_0, hx171_1, hx171_2, hx171_3⟩ := at_T55 HR1_1.out x44_3 p171 q171
              cases e171
              replace hx171_0 := zx_ HB.out hx171_0
              replace hx171_1 := zx_ HB.out hx171_1
              replace hx171_2 := zx_ HB.out hx171_2
              replace hx171_3 := zx_ HB.out hx171_3
              replace p171 := eq_true p171
              replace q171 := eq_true q171
              go_wp2
              repeat (go_quiet (fail); try go_wp2)
              go_roundg k3
              case measure => have := HJ2.out; have := HK2.out; have := HK3.out; omega
              case rel => exact ⟨(wrap64 (x44_3 + 1)), (by first | rfl | (simp; done) | (simp [*]; done) | (simp only [i64_w]; done)), H', ⟨by have := HJ2.out; have := HK2.out; have := HK3.out; omega⟩, ⟨by (with_reducible repeat (first | refine blk_drewN ?_ _ | refine blk_drew ?_ | refine blk_alloc ?_ _)); exact BK166.out⟩, ⟨by (with_reducible repeat (first | refine blk_drewN ?_ _ | refine blk_drew ?_ | refine blk_alloc ?_ _)); exact BK167.out⟩, ⟨by exact zh2_ HB.out GE166.out GE167.out⟩⟩
            ·rw [if_neg c32] at H
             exact absurd H (by simp)
           ·rw [if_neg c31] at H
            exact absurd H (by simp)
          ·rw [if_neg c30] at H
           exact absurd H (by simp)
         ·rw [if_neg c29] at H
          have c29b0 : decide (x44_3 < (l0_1.length : Int)) = false := decide_eq_false c29
          clear c29
          obtain rfl := Option.some.inj H
          go_wp2
          repeat (go_quiet (fail); try go_wp2)
          go_ret
          exact ⟨by first | rfl | (simp [errW_none, errW_some] <;> rfl) | (simp [*, errW_none, errW_some] <;> rfl), by exact zh2_ HB.out GE166.out GE167.out⟩
end Go.Proofs.Ytaddmogfeijjcaa.Print
