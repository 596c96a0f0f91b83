-- What the claim uses alone (wip/slim.py). Lean checks it.
import Derived.Test.YtcbgichkeecgiaaZAb
import Derived.Test.YtcbgichkeecgiaaZAln
import Derived.Test.YtcbgichkeecgiaaZAlo
namespace Go.Proofs.Ytcbgichkeecgiaa.Print
open Go.RowKit Go.Proofs.YtcbgichkeecgiaaW.PrintWords Go.Proofs.YtcbgichkeecgiaaW.PrintLast Go.Proofs.YtcbgichkeecgiaaW.PrintMore
attribute [local go_sem] max2_mx min2_mn max_two min_two max_three min_three max_four min_four
set_option linter.unusedVariables false
set_option linter.unusedSimpArgs false
def node_Find.f (k : Nat) (a0_0 : Bool) (l0_1 : List (List Int)) (l0_2 : List (List Int)) (l0_3 : List Int) (l1 : List Int) : Option (Int × Bool × Int) := (node_Check.f k a0_0 l0_1 l0_2 l0_3).bind fun t148 => (if t148 = 0 then ((node_place.f a0_0 l0_1 l0_2 l0_3 l1).bind fun bt149 => (if bt149.2 = true then (if a0_0 = true then (some (bt149.1, bt149.2, 0)) else (some (wrap64 (bt149.1 + 1), bt149.2, 0))) else (some (bt149.1, bt149.2, 0)))) else (some (0, false, t148)))
theorem node_Find.mono : ∀ a0 a1 a2 a3 a4 k, LeO (node_Find.f k a0 a1 a2 a3 a4) (node_Find.f (k + 1) a0 a1 a2 a3 a4) := by
 intro a0 a1 a2 a3 a4 k
 unfold node_Find.f
 repeat' first
   | (with_reducible exact node_Check.mono _ _ _ _ _)
   | (with_reducible exact LeO.refl _)
   | (with_reducible exact LeO.none _)
   | (with_reducible refine LeO.ite ?_ ?_)
   | (with_reducible refine LeO.bind ?_ (fun _ => ?_))
   | exact node_Check.mono _ _ _ _ _
   | exact LeO.none _
   | refine LeO.ite ?_ ?_
   | refine LeO.bind ?_ (fun _ => ?_)
set_option maxHeartbeats 8000000 in
set_option maxRecDepth 100000 in
theorem node_Find.calls (k : Nat) (a0_0 : Bool) (A0_1 : Option Addr) (c0_1 : Nat) (l0_1 : List (List Int)) (A0_2 : Option Addr) (c0_2 : Nat) (l0_2 : List (List Int)) (A0_3 : Option Addr) (c0_3 : Nat) (l0_3 : List Int) (A1 : Option Addr) (c1 : Nat) (l1 : List Int) (r1 : Int) (r2 : Bool) (r3 : Int) (w : World) (hr0_1 : Kd.C (Kd.slice 5 (Kd.int .u8)) w A0_1 l0_1.length l0_1) (hc0_1 : l0_1.length ≤ c0_1) (hr0_2 : Kd.C (Kd.slice 5 (Kd.int .u8)) w A0_2 l0_2.length l0_2) (hc0_2 : l0_2.length ≤ c0_2) (hr0_3 : Kd.C (Kd.int .i64) w A0_3 l0_3.length l0_3) (hc0_3 : l0_3.length ≤ c0_3) (hr1 : Kd.C (Kd.int .u8) w A1 l1.length l1) (hc1 : l1.length ≤ c1) (h : node_Find.f k a0_0 l0_1 l0_2 l0_3 l1 = some (r1, r2, r3)) :
  Calls Try.prog 13 #[.agg #[.bool a0_0, .slice A0_1 l0_1.length c0_1, .slice A0_2 l0_2.length c0_2, .slice A0_3 l0_3.length c0_3], .slice A1 l1.length c1] w fun e w' => e = .returned (.tuple #[.int .i64 r1, .bool r2, .int .i64 r3]) ∧ Below w.heap.size w w' := by
 have hu26 := Try.underlying26
 have HR0_1 := Aside0.mk hr0_1
 have HC0_1 := Aside0.mk hc0_1
 clear hr0_1 hc0_1
 have HR0_2 := Aside0.mk hr0_2
 have HC0_2 := Aside0.mk hc0_2
 clear hr0_2 hc0_2
 have HR0_3 := Aside0.mk hr0_3
 have HC0_3 := Aside0.mk hc0_3
 clear hr0_3 hc0_3
 have HR1 := Aside0.mk hr1
 have HC1 := Aside0.mk hc1
 clear hr1 hc1
 have HB := Aside0.mk (Below.refl w.heap.size w)
 have H : ((node_Check.f k a0_0 l0_1 l0_2 l0_3).bind fun t148 => (if t148 = 0 then ((node_place.f a0_0 l0_1 l0_2 l0_3 l1).bind fun bt149 => (if bt149.2 = true then (if a0_0 = true then (some (bt149.1, bt149.2, 0)) else (some (wrap64 (bt149.1 + 1), bt149.2, 0))) else (some (bt149.1, bt149.2, 0)))) else (some (0, false, t148)))) = some (r1, r2, r3) := h
 clear h
 obtain ⟨t148, A3, H⟩ := zm H
 (try dsimp only at H)
 by_cases c4 : t148 = 0
 ·rw [if_pos c4] at H
  obtain ⟨c4b0, c4b1⟩ := zq1 c4
  clear c4
  obtain ⟨⟨t149, t150⟩, A5, H⟩ := zm H
  (try dsimp only at H)
  by_cases c6 : t150 = true
  ·subst c6
   replace H := (if_pos (rfl : true = true)).symm.trans H
   by_cases c7 : a0_0 = true
   ·subst c7
    replace H := (if_pos (rfl : true = true)).symm.trans H
    simp only [Option.some.injEq, Prod.mk.injEq] at H
    obtain ⟨rfl, rfl, rfl⟩ := H
    go_enter Try.func13, Try.ntmps13
    go_wp2_with (first | ((with_reducible refine gate_dst (N := 2) rfl ?_); refine box_event ?hg (N := 2) ?hd (cs := #[.bool true, .slice A0_1 l0_1.length c0_1, .slice A0_2 l0_2.length c0_2, .slice A0_3 l0_3.length c0_3]) (t := 26) ?hr ?_; (case hd => rfl); (case hg => rfl); (case hr => first | (go_simp; done) | (go_simp; rfl)); intro gb147 hg w8 hbox hb; have BK147 := Aside0.mk (hbox); have GW147 := Aside0.mk ((by rw [hg]; exact (below_size (zh0_ HB.out)) : w.heap.size ≤ gb147)); have GE147 := Aside0.mk ((by rw [hg]; exact (below_size (zh0_ HB.out)) : w.heap.size ≤ gb147)); replace HB := Aside0.mk (below_step (zh0_ HB.out) hb); clear hb hbox hg; obtain ⟨hcz9_0, hcz9_1, hcz9_2, hcz9_3⟩ := zc4 BK147.out; obtain ⟨hfz9_0, hfz9_1, hfz9_2, hfz9_3⟩ := zz4 BK147.out) | ((with_reducible refine gate_callee (f := 19) rfl ?_); refine goesL_ (some 11) rfl rfl Try.func19 (by kernel_rfl) rfl #[.agg #[.bool true, .slice A0_1 l0_1.length c0_1, .slice A0_2 l0_2.length c0_2, .slice A0_3 l0_3.length c0_3]] rfl zl_ ?_; (with_reducible refine (node_Check.calls k true _ _ l0_1 _ _ l0_2 _ _ l0_3 t148 _ ?side1 ?side2 ?side3 ?side4 ?side5 ?side6 A3.out).mono ?_); (case side1 => exact zc_ (Kd.C_below HR0_1.out HB.out)); (case side2 => exact HC0_1.out); (case side3 => exact zc_ (Kd.C_below HR0_2.out HB.out)); (case side4 => exact HC0_2.out); (case side5 => exact zc_ (Kd.C_below HR0_3.out HB.out)); (case side6 => exact HC0_3.out); rintro e w10 ⟨rfl, hb⟩; refine ⟨_, rfl, ?_⟩; replace BK147 := Aside0.mk (blk_below (zb_ BK147.out) hb); replace HB := Aside0.mk (below_step (zh1_ HB.out GE147.out) hb); (try clear hb); obtain ⟨hcz11_0, hcz11_1, hcz11_2, hcz11_3⟩ := zc4 BK147.out; obtain ⟨hfz11_0, hfz11_1, hfz11_2, hfz11_3⟩ := zz4 BK147.out) | ((with_reducible refine gate_callee (f := 26) rfl ?_); refine goesL_ (some 18) rfl rfl Try.func26 (by kernel_rfl) rfl #[.agg #[.bool true, .slice A0_1 l0_1.length c0_1, .slice A0_2 l0_2.length c0_2, .slice A0_3 l0_3.length c0_3], .slice A1 l1.length c1] rfl zl_ ?_; (with_reducible refine (node_place.calls true _ _ l0_1 _ _ l0_2 _ _ l0_3 _ _ l1 t149 true _ ?side1 ?side2 ?side3 ?side4 ?side5 ?side6 ?side7 ?side8 A5.out).mono ?_); (case side1 => exact zc_ (Kd.C_below HR0_1.out HB.out)); (case side2 => exact HC0_1.out); (case side3 => exact zc_ (Kd.C_below HR0_2.out HB.out)); (case side4 => exact HC0_2.out); (case side5 => exact zc_ (Kd.C_below HR0_3.out HB.out)); (case side6 => exact HC0_3.out); (case side7 => exact zc_ (Kd.C_below HR1.out HB.out)); (case side8 => exact HC1.out); rintro e w12 ⟨rfl, hb⟩; refine ⟨_, rfl, ?_⟩; replace BK147 := Aside0.mk (blk_below (zb_ BK147.out) hb); replace HB := Aside0.mk (below_step (zh1_ HB.out GE147.out) hb); (try clear hb); obtain ⟨hcz13_0, hcz13_1, hcz13_2, hcz13_3⟩ := zc4 BK147.out; obtain ⟨hfz13_0, hfz13_1, hfz13_2, hfz13_3⟩ := zz4 BK147.out))
    go_ret3
    exact ⟨by first | rfl | (simp [errW_none, errW_some] <;> rfl) | (simp [*, errW_none, errW_some] <;> rfl), by exact zh1_ HB.out GE147.out⟩
   ·replace c7 := Bool.eq_false_iff.mpr c7
    subst c7
    replace H := (if_neg (show ¬ (false = true) by decide)).symm.trans H
    simp only [Option.some.injEq, Prod.mk.injEq] at H
    obtain ⟨rfl, rfl, rfl⟩ := H
    go_enter Try.func13, Try.ntmps13
    go_wp2_with (first | ((with_reducible refine gate_dst (N := 2) rfl ?_); refine box_event ?hg (N := 2) ?hd (cs := #[.bool false, .slice A0_1 l0_1.length c0_1, .slice A0_2 l0_2.length c0_2, .slice A0_3 l0_3.length c0_3]) (t := 26) ?hr ?_; (case hd => rfl); (case hg => rfl); (case hr => first | (go_simp; done) | (go_simp; rfl)); intro gb147 hg w14 hbox hb; have BK147 := Aside0.mk (hbox); have GW147 := Aside0.mk ((by rw [hg]; exact (below_size (zh0_ HB.out)) : w.heap.size ≤ gb147)); have GE147 := Aside0.mk ((by rw [hg]; exact (below_size (zh0_ HB.out)) : w.heap.size ≤ gb147)); replace HB := Aside0.mk (below_step (zh0_ HB.out) hb); clear hb hbox hg; obtain ⟨hcz15_0, hcz15_1, hcz15_2, hcz15_3⟩ := zc4 BK147.out; obtain ⟨hfz15_0, hfz15_1, hfz15_2, hfz15_3⟩ := zz4 BK147.out) | ((with_reducible refine gate_callee (f := 19) rfl ?_); refine goesL_ (some 11) rfl rfl Try.func19 (by kernel_rfl) rfl #[.agg #[.bool false, .slice A0_1 l0_1.length c0_1, .slice A0_2 l0_2.length c0_2, .slice A0_3 l0_3.length c0_3]] rfl zl_ ?_; (with_reducible refine (node_Check.calls k false _ _ l0_1 _ _ l0_2 _ _ l0_3 t148 _ ?side1 ?side2 ?side3 ?side4 ?side5 ?side6 A3.out).mono ?_); (case side1 => exact zc_ (Kd.C_below HR0_1.out HB.out)); (case side2 => exact HC0_1.out); (case side3 => exact zc_ (Kd.C_below HR0_2.out HB.out)); (case side4 => exact HC0_2.out); (case side5 => exact zc_ (Kd.C_below HR0_3.out HB.out)); (case side6 => exact HC0_3.out); rintro e w16 ⟨rfl, hb⟩; refine ⟨_, rfl, ?_⟩; replace BK147 := Aside0.mk (blk_below (zb_ BK147.out) hb); replace HB := Aside0.mk (below_step (zh1_ HB.out GE147.out) hb); (try clear hb); obtain ⟨hcz17_0, hcz17_1, hcz17_2, hcz17_3⟩ := zc4 BK147.out; obtain ⟨hfz17_0, hfz17_1, hfz17_2, hfz17_3⟩ := zz4 BK147.out) | ((with_reducible refine gate_callee (f := 26) rfl ?_); refine goesL_ (some 18) rfl rfl Try.func26 (by kernel_rfl) rfl #[.agg #[.bool false, .slice A0_1 l0_1.length c0_1, .slice A0_2 l0_2.length c0_2, .slice A0_3 l0_3.length c0_3], .slice A1 l1.length c1] rfl zl_ ?_; (with_reducible refine (node_place.calls false _ _ l0_1 _ _ l0_2 _ _ l0_3 _ _ l1 t149 true _ ?side1 ?side2 ?side3 ?side4 ?side5 ?side6 ?side7 ?side8 A5.out).mono ?_); (case side1 => exact zc_ (Kd.C_below HR0_1.out HB.out)); (case side2 => exact HC0_1.out); (case side3 => exact zc_ (Kd.C_below HR0_2.out HB.out)); (case side4 => exact HC0_2.out); (case side5 => exact zc_ (Kd.C_below HR0_3.out HB.out)); (case side6 => exact HC0_3.out); (case side7 => exact zc_ (Kd.C_below HR1.out HB.out)); (case side8 => exact HC1.out); rintro e w18 ⟨rfl, hb⟩; refine ⟨_, rfl, ?_⟩; replace BK147 := Aside0.mk (blk_below (zb_ BK147.out) hb); replace HB := Aside0.mk (below_step (zh1_ HB.out GE147.out) hb); (try clear hb); obtain ⟨hcz19_0, hcz19_1, hcz19_2, hcz19_3⟩ := zc4 BK147.out; obtain ⟨hfz19_0, hfz19_1, hfz19_2, hfz19_3⟩ := zz4 BK147.out))
    go_ret3
    exact ⟨by first | rfl | (simp [errW_none, errW_some] <;> rfl) | (simp [*, errW_none, errW_some] <;> rfl), by exact zh1_ HB.out GE147.out⟩
  ·replace c6 := Bool.eq_false_iff.mpr c6
   subst c6
   replace H := (if_neg (show ¬ (false = true) by decide)).symm.trans H
   simp only [Option.some.injEq, Prod.mk.injEq] at H
   obtain ⟨rfl, rfl, rfl⟩ := H
   go_enter Try.func13, Try.ntmps13
   go_wp2_with (first | ((with_reducible refine gate_dst (N := 2) rfl ?_); refine box_event ?hg (N := 2) ?hd (cs := #[.bool a0_0, .slice A0_1 l0_1.length c0_1, .slice A0_2 l0_2.length c0_2, .slice A0_3 l0_3.length c0_3]) (t := 26) ?hr ?_; (case hd => rfl); (case hg => rfl); (case hr => first | (go_simp; done) | (go_simp; rfl)); intro gb147 hg w20 hbox hb; have BK147 := Aside0.mk (hbox); have GW147 := Aside0.mk ((by rw [hg]; exact (below_size (zh0_ HB.out)) : w.heap.size ≤ gb147)); have GE147 := Aside0.mk ((by rw [hg]; exact (below_size (zh0_ HB.out)) : w.heap.size ≤ gb147)); replace HB := Aside0.mk (below_step (zh0_ HB.out) hb); clear hb hbox hg; obtain ⟨hcz21_0, hcz21_1, hcz21_2, hcz21_3⟩ := zc4 BK147.out; obtain ⟨hfz21_0, hfz21_1, hfz21_2, hfz21_3⟩ := zz4 BK147.out) | ((with_reducible refine gate_callee (f := 19) rfl ?_); refine goesL_ (some 11) rfl rfl Try.func19 (by kernel_rfl) rfl #[.agg #[.bool a0_0, .slice A0_1 l0_1.length c0_1, .slice A0_2 l0_2.length c0_2, .slice A0_3 l0_3.length c0_3]] rfl zl_ ?_; (with_reducible refine (node_Check.calls k a0_0 _ _ l0_1 _ _ l0_2 _ _ l0_3 t148 _ ?side1 ?side2 ?side3 ?side4 ?side5 ?side6 A3.out).mono ?_); (case side1 => exact zc_ (Kd.C_below HR0_1.out HB.out)); (case side2 => exact HC0_1.out); (case side3 => exact zc_ (Kd.C_below HR0_2.out HB.out)); (case side4 => exact HC0_2.out); (case side5 => exact zc_ (Kd.C_below HR0_3.out HB.out)); (case side6 => exact HC0_3.out); rintro e w22 ⟨rfl, hb⟩; refine ⟨_, rfl, ?_⟩; replace BK147 := Aside0.mk (blk_below (zb_ BK147.out) hb); replace HB := Aside0.mk (below_step (zh1_ HB.out GE147.out) hb); (try clear hb); obtain ⟨hcz23_0, hcz23_1, hcz23_2, hcz23_3⟩ := zc4 BK147.out; obtain ⟨hfz23_0, hfz23_1, hfz23_2, hfz23_3⟩ := zz4 BK147.out) | ((with_reducible refine gate_callee (f := 26) rfl ?_); refine goesL_ (some 18) rfl rfl Try.func26 (by kernel_rfl) rfl #[.agg #[.bool a0_0, .slice A0_1 l0_1.length c0_1, .slice A0_2 l0_2.length c0_2, .slice A0_3 l0_3.length c0_3], .slice A1 l1.length c1] rfl zl_ ?_; (with_reducible refine (node_place.calls a0_0 _ _ l0_1 _ _ l0_2 _ _ l0_3 _ _ l1 t149 false _ ?side1 ?side2 ?side3 ?side4 ?side5 ?side6 ?side7 ?side8 A5.out).mono ?_); (case side1 => exact zc_ (Kd.C_below HR0_1.out HB.out)); (case side2 => exact HC0_1.out); (case side3 => exact zc_ (Kd.C_below HR0_2.out HB.out)); (case side4 => exact HC0_2.out); (case side5 => exact zc_ (Kd.C_below HR0_3.out HB.out)); (case side6 => exact HC0_3.out); (case side7 => exact zc_ (Kd.C_below HR1.out HB.out)); (case side8 => exact HC1.out); rintro e w24 ⟨rfl, hb⟩; refine ⟨_, rfl, ?_⟩; replace BK147 := Aside0.mk (blk_below (zb_ BK147.out) hb); replace HB := Aside0.mk (below_step (zh1_ HB.out GE147.out) hb); (try clear hb)))
   go_ret3
   exact ⟨by first | rfl | (simp [errW_none, errW_some] <;> rfl) | (simp [*, errW_none, errW_some] <;> rfl), by exact zh1_ HB.out GE147.out⟩
 ·rw [if_neg c4] at H
  obtain ⟨c4b0, c4b1⟩ := zq0 c4
  simp only [Option.some.injEq, Prod.mk.injEq] at H
  obtain ⟨rfl, rfl, rfl⟩ := H
  go_enter Try.func13, Try.ntmps13
  go_wp2_with (first | ((with_reducible refine gate_dst (N := 2) rfl ?_); refine box_event ?hg (N := 2) ?hd (cs := #[.bool a0_0, .slice A0_1 l0_1.length c0_1, .slice A0_2 l0_2.length c0_2, .slice A0_3 l0_3.length c0_3]) (t := 26) ?hr ?_; (case hd => rfl); (case hg => rfl); (case hr => first | (go_simp; done) | (go_simp; rfl)); intro gb147 hg w25 hbox hb; have BK147 := Aside0.mk (hbox); have GW147 := Aside0.mk ((by rw [hg]; exact (below_size (zh0_ HB.out)) : w.heap.size ≤ gb147)); have GE147 := Aside0.mk ((by rw [hg]; exact (below_size (zh0_ HB.out)) : w.heap.size ≤ gb147)); replace HB := Aside0.mk (below_step (zh0_ HB.out) hb); clear hb hbox hg; obtain ⟨hcz26_0, hcz26_1, hcz26_2, hcz26_3⟩ := zc4 BK147.out; obtain ⟨hfz26_0, hfz26_1, hfz26_2, hfz26_3⟩ := zz4 BK147.out) | ((with_reducible refine gate_callee (f := 19) rfl ?_); refine goesL_ (some 11) rfl rfl Try.func19 (by kernel_rfl) rfl #[.agg #[.bool a0_0, .slice A0_1 l0_1.length c0_1, .slice A0_2 l0_2.length c0_2, .slice A0_3 l0_3.length c0_3]] rfl zl_ ?_; (with_reducible refine (node_Check.calls k a0_0 _ _ l0_1 _ _ l0_2 _ _ l0_3 t148 _ ?side1 ?side2 ?side3 ?side4 ?side5 ?side6 A3.out).mono ?_); (case side1 => exact zc_ (Kd.C_below HR0_1.out HB.out)); (case side2 => exact HC0_1.out); (case side3 => exact zc_ (Kd.C_below HR0_2.out HB.out)); (case side4 => exact HC0_2.out); (case side5 => exact zc_ (Kd.C_below HR0_3.out HB.out)); (case side6 => exact HC0_3.out); rintro e w27 ⟨rfl, hb⟩; refine ⟨_, rfl, ?_⟩; replace BK147 := Aside0.mk (blk_below (zb_ BK147.out) hb); replace HB := Aside0.mk (below_step (zh1_ HB.out GE147.out) hb); (try clear hb)))
  go_ret3
  exact ⟨by first | rfl | (simp [errW_none, errW_some] <;> rfl) | (simp [*, errW_none, errW_some] <;> rfl), by exact zh1_ HB.out GE147.out⟩
def node_half.l0 : Nat → Int → Int → Int → Int → Bool → List (List Int) → List (List Int) → List Int → Option (Int)
 | 0, _, _, _, _, _, _, _, _ => none
 | k + 1, x3, x4, x16, x17, x152000, x152001, x152002, x152003 => if x17 < x16 then (if 0 ≤ x17 then (if x17 < (x152001.length : Int) then ((node_long.f k (rd_L1 x152001 x17)).bind fun t158 => (if x17 < (x152002.length : Int) then ((node_long.f k (rd_L1 x152002 x17)).bind fun t160 => ((node_width.f k (wrap64 (x17 + 1))).bind fun t161 => (if (wrap64 ((wrap64 (x4 + (wrap64 (t158 + t160)))) + t161)) ≥ x3 then (some (wrap64 (x17 + 1))) else (node_half.l0 k x3 (wrap64 (x4 + (wrap64 (t158 + t160)))) x16 (wrap64 (x17 + 1)) x152000 x152001 x152002 x152003)))) else (none))) else (none)) else (none)) else (some (wrap64 ((x152001.length : Int) - 1)))
def node_half.f (k : Nat) (a0_0 : Bool) (l0_1 : List (List Int)) (l0_2 : List (List Int)) (l0_3 : List Int) : Option (Int) := (node_size.f k a0_0 l0_1 l0_2 l0_3).bind fun t152 => (if 0 ≤ (wrap64 ((l0_1.length : Int) - 1)) then (if (wrap64 ((l0_1.length : Int) - 1)) ≤ (l0_1.length : Int) then (node_half.l0 k (wrap64 (Int.tdiv t152 2)) 5 ((l0_1.take ((wrap64 ((l0_1.length : Int) - 1)) : Int).toNat).length : Int) 0 a0_0 l0_1 l0_2 l0_3) else (none)) else (none))
set_option maxHeartbeats 8000000 in
set_option maxRecDepth 100000 in
theorem node_half.calls (k : Nat) (a0_0 : Bool) (A0_1 : Option Addr) (c0_1 : Nat) (l0_1 : List (List Int)) (A0_2 : Option Addr) (c0_2 : Nat) (l0_2 : List (List Int)) (A0_3 : Option Addr) (c0_3 : Nat) (l0_3 : List Int) (r : Int) (w : World) (hr0_1 : Kd.C (Kd.slice 5 (Kd.int .u8)) w A0_1 l0_1.length l0_1) (hc0_1 : l0_1.length ≤ c0_1) (hr0_2 : Kd.C (Kd.slice 5 (Kd.int .u8)) w A0_2 l0_2.length l0_2) (hc0_2 : l0_2.length ≤ c0_2) (hr0_3 : Kd.C (Kd.int .i64) w A0_3 l0_3.length l0_3) (hc0_3 : l0_3.length ≤ c0_3) (h : node_half.f k a0_0 l0_1 l0_2 l0_3 = some r) :
  Calls Try.prog 38 #[.agg #[.bool a0_0, .slice A0_1 l0_1.length c0_1, .slice A0_2 l0_2.length c0_2, .slice A0_3 l0_3.length c0_3]] w fun e w' => e = .returned (.int .i64 r) ∧ Below w.heap.size w w' := by
 have hu26 := Try.underlying26
 have HR0_1 := Aside0.mk hr0_1
 have HC0_1 := Aside0.mk hc0_1
 clear hr0_1 hc0_1
 have HR0_2 := Aside0.mk hr0_2
 have HC0_2 := Aside0.mk hc0_2
 clear hr0_2 hc0_2
 have HR0_3 := Aside0.mk hr0_3
 have HC0_3 := Aside0.mk hc0_3
 clear hr0_3 hc0_3
 have HB := Aside0.mk (Below.refl w.heap.size w)
 have H : ((node_size.f k a0_0 l0_1 l0_2 l0_3).bind fun t152 => (if 0 ≤ (wrap64 ((l0_1.length : Int) - 1)) then (if (wrap64 ((l0_1.length : Int) - 1)) ≤ (l0_1.length : Int) then (node_half.l0 k (wrap64 (Int.tdiv t152 2)) 5 ((l0_1.take ((wrap64 ((l0_1.length : Int) - 1)) : Int).toNat).length : Int) 0 a0_0 l0_1 l0_2 l0_3) else (none)) else (none))) = some r := h
 clear h
 obtain ⟨t152, A2, H⟩ := zm H
 (try dsimp only at H)
 obtain ⟨ji3, hji3⟩ : ∃ j_ : Int, (wrap64 ((l0_1.length : Int) - 1)) = j_ := ⟨_, rfl⟩
 replace H : (if 0 ≤ (ji3) then (if (ji3) ≤ (l0_1.length : Int) then (node_half.l0 k (wrap64 (Int.tdiv t152 2)) 5 ((l0_1.take ((ji3) : Int).toNat).length : Int) 0 a0_0 l0_1 l0_2 l0_3) else (none)) else (none)) = some r := by first | (rw [hji3] at H; exact H) | (simp only [hji3] at H ⊢; exact H)
 (try rw [hji3] at A2)
 have hji3w : (IntKind.i64.wrap ((l0_1.length : Int) - 1)) = ji3 := (i64_w _).trans hji3
 by_cases c4 : 0 ≤ (ji3)
 ·rw [if_pos c4] at H
  have c4b0 := eq_true c4
  have c4b1 : decide (0 ≤ (ji3)) = true := decide_eq_true c4
  clear c4
  by_cases c5 : (ji3) ≤ (l0_1.length : Int)
  ·rw [if_pos c5] at H
   have c5b0 := eq_true c5
   have c5b1 : decide ((ji3) ≤ (l0_1.length : Int)) = true := decide_eq_true c5
   clear c5
   obtain ⟨y153, hy153⟩ : ∃ y_ : List (List Int), y_ = (l0_1.take ((ji3) : Int).toNat) := ⟨_, rfl⟩
   replace H : (node_half.l0 k (wrap64 (Int.tdiv t152 2)) 5 (y153.length : Int) 0 a0_0 l0_1 l0_2 l0_3) = some r := by first | (rw [hy153]; with_reducible exact H) | (have H2_ := (Option.bind_some _ _).symm.trans H; rw [hy153]; with_reducible exact H2_) | (have H2_ := (Option.bind_some _ _).symm.trans H; with_reducible exact H2_) | with_reducible exact H | (rw [hy153]; exact H) | exact H
   have Ny153 := Aside0.mk hy153
   clear hy153
   have H' := Aside0.mk H
   clear H
   go_enter Try.func38, Try.ntmps38
   go_wp2_with (first | ((with_reducible refine gate_dst (N := 1) rfl ?_); refine box_event ?hg (N := 1) ?hd (cs := #[.bool a0_0, .slice A0_1 l0_1.length c0_1, .slice A0_2 l0_2.length c0_2, .slice A0_3 l0_3.length c0_3]) (t := 26) ?hr ?_; (case hd => rfl); (case hg => rfl); (case hr => first | (go_simp; done) | (go_simp; rfl)); intro gb151 hg w6 hbox hb; have BK151 := Aside0.mk (hbox); have GW151 := Aside0.mk ((by rw [hg]; exact (below_size (zh0_ HB.out)) : w.heap.size ≤ gb151)); have GE151 := Aside0.mk ((by rw [hg]; exact (below_size (zh0_ HB.out)) : w.heap.size ≤ gb151)); replace HB := Aside0.mk (below_step (zh0_ HB.out) hb); clear hb hbox hg; obtain ⟨hcz7_0, hcz7_1, hcz7_2, hcz7_3⟩ := zc4 BK151.out; obtain ⟨hfz7_0, hfz7_1, hfz7_2, hfz7_3⟩ := zz4 BK151.out) | (go_at_call 29; (with_reducible refine (node_size.calls k a0_0 _ _ l0_1 _ _ l0_2 _ _ l0_3 t152 _ ?side1 ?side2 ?side3 ?side4 ?side5 ?side6 A2.out).mono ?_); (case side1 => exact zc_ (Kd.C_below HR0_1.out HB.out)); (case side2 => exact HC0_1.out); (case side3 => exact zc_ (Kd.C_below HR0_2.out HB.out)); (case side4 => exact HC0_2.out); (case side5 => exact zc_ (Kd.C_below HR0_3.out HB.out)); (case side6 => exact HC0_3.out); rintro e w8 ⟨rfl, hb⟩; replace BK151 := Aside0.mk (blk_below (zb_ BK151.out) hb); replace HB := Aside0.mk (below_step (zh1_ HB.out GE151.out) hb); (try clear hb); obtain ⟨hcz9_0, hcz9_1, hcz9_2, hcz9_3⟩ := zc4 BK151.out; obtain ⟨hfz9_0, hfz9_1, hfz9_2, hfz9_3⟩ := zz4 BK151.out; have q10 : ((ji3) : Int) ≤ ((l0_1.length : Int) : Int) := of_decide_eq_true za_; obtain ⟨i010, hi010, _, hsz10, _⟩ := info_parts info27; have hroom10 : l0_1.length ≤ c0_1 := HC0_1.out; have hC10 : Kd.C (Kd.slice 5 (Kd.int .u8)) _ A0_1 l0_1.length l0_1 := HR0_1.out; have hcut10 := cut_to (P := Try.prog) 22 27 .i64 Try.underlying22 hi010 A0_1 l0_1.length c0_1 (ji3) (of_decide_eq_true za_) q10 hroom10; have hr10 := Kd.C_take (m := ((ji3) : Int).toNat) hC10 (by omega); have hy10 : y153.length = ((ji3) : Int).toNat := (by rw [Ny153.out, List.length_take]; omega); rw [← Ny153.out] at hr10; rw [← hy10] at hcut10; have HR156 := Aside0.mk hr10; have HC156 := Aside0.mk (show y153.length ≤ c0_1 from by omega); clear hr10 hC10 hroom10 hi010 hsz10; have KY10 := Aside0.mk hy10; clear hy10; replace q10 := eq_true q10))
   repeat (go_quiet (first | ((with_reducible refine gate_dst (N := 1) rfl ?_); refine box_event ?hg (N := 1) ?hd (cs := #[.bool a0_0, .slice A0_1 l0_1.length c0_1, .slice A0_2 l0_2.length c0_2, .slice A0_3 l0_3.length c0_3]) (t := 26) ?hr ?_; (case hd => rfl); (case hg => rfl); (case hr => first | (go_simp; done) | (go_simp; rfl)); intro gb151 hg w6 hbox hb; have BK151 := Aside0.mk (hbox); have GW151 := Aside0.mk ((by rw [hg]; exact (below_size (zh0_ HB.out)) : w.heap.size ≤ gb151)); have GE151 := Aside0.mk ((by rw [hg]; exact (below_size (zh0_ HB.out)) : w.heap.size ≤ gb151)); replace HB := Aside0.mk (below_step (zh0_ HB.out) hb); clear hb hbox hg; obtain ⟨hcz7_0, hcz7_1, hcz7_2, hcz7_3⟩ := zc4 BK151.out; obtain ⟨hfz7_0, hfz7_1, hfz7_2, hfz7_3⟩ := zz4 BK151.out) | (go_at_call 29; (with_reducible refine (node_size.calls k a0_0 _ _ l0_1 _ _ l0_2 _ _ l0_3 t152 _ ?side1 ?side2 ?side3 ?side4 ?side5 ?side6 A2.out).mono ?_); (case side1 => exact zc_ (Kd.C_below HR0_1.out HB.out)); (case side2 => exact HC0_1.out); (case side3 => exact zc_ (Kd.C_below HR0_2.out HB.out)); (case side4 => exact HC0_2.out); (case side5 => exact zc_ (Kd.C_below HR0_3.out HB.out)); (case side6 => exact HC0_3.out); rintro e w8 ⟨rfl, hb⟩; replace BK151 := Aside0.mk (blk_below (zb_ BK151.out) hb); replace HB := Aside0.mk (below_step (zh1_ HB.out GE151.out) hb); (try clear hb); obtain ⟨hcz9_0, hcz9_1, hcz9_2, hcz9_3⟩ := zc4 BK151.out; obtain ⟨hfz9_0, hfz9_1, hfz9_2, hfz9_3⟩ := zz4 BK151.out; have q10 : ((ji3) : Int) ≤ ((l0_1.length : Int) : Int) := of_decide_eq_true za_; obtain ⟨i010, hi010, _, hsz10, _⟩ := info_parts info27; have hroom10 : l0_1.length ≤ c0_1 := HC0_1.out; have hC10 : Kd.C (Kd.slice 5 (Kd.int .u8)) _ A0_1 l0_1.length l0_1 := HR0_1.out; have hcut10 := cut_to (P := Try.prog) 22 27 .i64 Try.underlying22 hi010 A0_1 l0_1.length c0_1 (ji3) (of_decide_eq_true za_) q10 hroom10; have hr10 := Kd.C_take (m := ((ji3) : Int).toNat) hC10 (by omega); have hy10 : y153.length = ((ji3) : Int).toNat := (by rw [Ny153.out, List.length_take]; omega); rw [← Ny153.out] at hr10; rw [← hy10] at hcut10; have HR156 := Aside0.mk hr10; have HC156 := Aside0.mk (show y153.length ≤ c0_1 from by omega); clear hr10 hC10 hroom10 hi010 hsz10; have KY10 := Aside0.mk hy10; clear hy10; replace q10 := eq_true q10)); try go_wp2_with (first | ((with_reducible refine gate_dst (N := 1) rfl ?_); refine box_event ?hg (N := 1) ?hd (cs := #[.bool a0_0, .slice A0_1 l0_1.length c0_1, .slice A0_2 l0_2.length c0_2, .slice A0_3 l0_3.length c0_3]) (t := 26) ?hr ?_; (case hd => rfl); (case hg => rfl); (case hr => first | (go_simp; done) | (go_simp; rfl)); intro gb151 hg w6 hbox hb; have BK151 := Aside0.mk (hbox); have GW151 := Aside0.mk ((by rw [hg]; exact (below_size (zh0_ HB.out)) : w.heap.size ≤ gb151)); have GE151 := Aside0.mk ((by rw [hg]; exact (below_size (zh0_ HB.out)) : w.heap.size ≤ gb151)); replace HB := Aside0.mk (below_step (zh0_ HB.out) hb); clear hb hbox hg; obtain ⟨hcz7_0, hcz7_1, hcz7_2, hcz7_3⟩ := zc4 BK151.out; obtain ⟨hfz7_0, hfz7_1, hfz7_2, hfz7_3⟩ := zz4 BK151.out) | (go_at_call 29; (with_reducible refine (node_size.calls k a0_0 _ _ l0_1 _ _ l0_2 _ _ l0_3 t152 _ ?side1 ?side2 ?side3 ?side4 ?side5 ?side6 A2.out).mono ?_); (case side1 => exact zc_ (Kd.C_below HR0_1.out HB.out)); (case side2 => exact HC0_1.out); (case side3 => exact zc_ (Kd.C_below HR0_2.out HB.out)); (case side4 => exact HC0_2.out); (case side5 => exact zc_ (Kd.C_below HR0_3.out HB.out)); (case side6 => exact HC0_3.out); rintro e w8 ⟨rfl, hb⟩; replace BK151 := Aside0.mk (blk_below (zb_ BK151.out) hb); replace HB := Aside0.mk (below_step (zh1_ HB.out GE151.out) hb); (try clear hb); obtain ⟨hcz9_0, hcz9_1, hcz9_2, hcz9_3⟩ := zc4 BK151.out; obtain ⟨hfz9_0, hfz9_1, hfz9_2, hfz9_3⟩ := zz4 BK151.out; have q10 : ((ji3) : Int) ≤ ((l0_1.length : Int) : Int) := of_decide_eq_true za_; obtain ⟨i010, hi010, _, hsz10, _⟩ := info_parts info27; have hroom10 : l0_1.length ≤ c0_1 := HC0_1.out; have hC10 : Kd.C (Kd.slice 5 (Kd.int .u8)) _ A0_1 l0_1.length l0_1 := HR0_1.out; have hcut10 := cut_to (P := Try.prog) 22 27 .i64 Try.underlying22 hi010 A0_1 l0_1.length c0_1 (ji3) (of_decide_eq_true za_) q10 hroom10; have hr10 := Kd.C_take (m := ((ji3) : Int).toNat) hC10 (by omega); have hy10 : y153.length = ((ji3) : Int).toNat := (by rw [Ny153.out, List.length_take]; omega); rw [← Ny153.out] at hr10; rw [← hy10] at hcut10; have HR156 := Aside0.mk hr10; have HC156 := Aside0.mk (show y153.length ≤ c0_1 from by omega); clear hr10 hC10 hroom10 hi010 hsz10; have KY10 := Aside0.mk hy10; clear hy10; replace q10 := eq_true q10)))
   go_loopg [4, 17] k (fun kq v4 v17 w' => ∃ (x4_1 : Int) (x17_1 : Int), v4 = .int .i64 x4_1 ∧ v17 = .int .i64 x17_1 ∧ Aside0 (node_half.l0 kq (wrap64 (Int.tdiv t152 2)) x4_1 (y153.length : Int) x17_1 a0_0 l0_1 l0_2 l0_3 = some r) ∧ Aside0 (kq ≤ k) ∧ Aside0 (w'.heap[gb151]? = some (.cells #[.bool a0_0, (.slice A0_1 l0_1.length c0_1), (.slice A0_2 l0_2.length c0_2), (.slice A0_3 l0_3.length c0_3)] 26 (0, 0))) ∧ Aside0 (Below w.heap.size w w'))
   case atStart => exact ⟨(5), (0), (by first | rfl | (simp; done) | (simp [*]; done) | (simp only [i64_w]; done)), (by first | rfl | (simp; done) | (simp [*]; done) | (simp only [i64_w]; done)), H', ⟨Nat.le_refl _⟩, ⟨by (with_reducible repeat (first | refine blk_drewN ?_ _ | refine blk_drew ?_ | refine blk_alloc ?_ _)); exact BK151.out⟩, ⟨by exact zh1_ HB.out GE151.out⟩⟩
   case round =>
    clear H'
    try clear q1
    try clear p2
    try clear c3
    try clear c4
    try clear c4b0
    try clear c4b1
    try clear c5
    try clear c5b0
    try clear c5b1
    try clear p6
    try clear q10
    try clear hcz7_0
    try clear hcz7_1
    try clear hcz7_2
    try clear hcz7_3
    try clear hcz9_0
    try clear hcz9_1
    try clear hcz9_2
    try clear hcz9_3
    try clear hfz7_0
    try clear hfz7_1
    try clear hfz7_2
    try clear hfz7_3
    try clear hfz9_0
    try clear hfz9_1
    try clear hfz9_2
    try clear hfz9_3
    try clear q10
    (try clear BK151)
    obtain ⟨x4_1, x17_1, rfl, rfl, HA, HK1, BK151, HB⟩ := hrel
    cases gk with
    | zero => exact absurd HA.out (by simp [node_half.l0])
    | succ k1 =>
     have H := HA.out
     clear HA
     simp only [node_half.l0] at H
     by_cases c11 : x17_1 < (y153.length : Int)
     ·rw [if_pos c11] at H
      have c11b0 : decide (x17_1 < (y153.length : Int)) = true := decide_eq_true c11
      clear c11
      by_cases c12 : 0 ≤ x17_1
      ·rw [if_pos c12] at H
       have c12b0 : decide (0 ≤ x17_1) = true := decide_eq_true c12
       clear c12
       by_cases c13 : x17_1 < (l0_1.length : Int)
       ·rw [if_pos c13] at H
        have c13b0 : decide (x17_1 < (l0_1.length : Int)) = true := decide_eq_true c13
        clear c13
        obtain ⟨t158, A14, H⟩ := zm H
        (try dsimp only at H)
        by_cases c15 : x17_1 < (l0_2.length : Int)
        ·rw [if_pos c15] at H
         have c15b0 : decide (x17_1 < (l0_2.length : Int)) = true := decide_eq_true c15
         clear c15
         obtain ⟨t160, A16, H⟩ := zm H
         (try dsimp only at H)
         obtain ⟨t161, A17, H⟩ := zm H
         (try dsimp only at H)
         by_cases c18 : (wrap64 ((wrap64 (x4_1 + (wrap64 (t158 + t160)))) + t161)) ≥ (wrap64 (Int.tdiv t152 2))
         ·rw [if_pos c18] at H
          have c18b0 : decide ((wrap64 (Int.tdiv t152 2)) ≤ (wrap64 ((wrap64 (x4_1 + (wrap64 (t158 + t160)))) + t161))) = true := decide_eq_true c18
          clear c18
          obtain rfl := Option.some.inj H
          obtain ⟨hcz19_0, hcz19_1, hcz19_2, hcz19_3⟩ := zc4 BK151.out
          obtain ⟨hfz19_0, hfz19_1, hfz19_2, hfz19_3⟩ := zz4 BK151.out
          have p157 : 0 ≤ (x17_1 : Int) := of_decide_eq_true za_
          have q157 : x17_1 < (l0_1.length : Int) := of_decide_eq_true za_
          obtain ⟨ad157, A157_0, c157_0, e157, hx157_0, hl157_0, hi157_0⟩ := at_L1 HR0_1.out x17_1 p157 q157
          cases e157
          replace hx157_0 := zx_ HB.out hx157_0
          have HR157_0 := Aside0.mk hi157_0
          have HC157_0 := Aside0.mk hl157_0
          clear hi157_0 hl157_0
          replace p157 := eq_true p157
          replace q157 := eq_true q157
          go_wp2_with (first | (go_at_call 51; (with_reducible refine (node_long.calls k1 _ _ (rd_L1 l0_1 x17_1) t158 _ ?side1 ?side2 A14.out).mono ?_); (case side1 => exact zc_ (Kd.C_below HR157_0.out HB.out)); (case side2 => exact HC157_0.out); rintro e w' ⟨rfl, ⟨nd, rfl⟩⟩; (try first | exact ⟨rfl, _, World.drewN_drewN _ _ _⟩ | exact ⟨rfl, _, Eq.trans (World.drewN_drewN _ _ _) (congrArg (World.drewN _) (Nat.add_assoc _ _ _))⟩); have p159 : 0 ≤ (x17_1 : Int) := of_decide_eq_true za_; have q159 : x17_1 < (l0_2.length : Int) := of_decide_eq_true za_; obtain ⟨ad159, A159_0, c159_0, e159, hx159_0, hl159_0, hi159_0⟩ := at_L1 HR0_2.out x17_1 p159 q159; cases e159; replace hx159_0 := zx_ HB.out hx159_0; have HR159_0 := Aside0.mk hi159_0; have HC159_0 := Aside0.mk hl159_0; clear hi159_0 hl159_0; replace p159 := eq_true p159; replace q159 := eq_true q159) | (go_at_call 51; (with_reducible refine (node_long.calls k1 _ _ (rd_L1 l0_2 x17_1) t160 _ ?side1 ?side2 A16.out).mono ?_); (case side1 => exact zc_ (Kd.C_below HR159_0.out (zh1_ HB.out GE151.out))); (case side2 => exact HC159_0.out); rintro e w' ⟨rfl, ⟨nd, rfl⟩⟩; (try first | exact ⟨rfl, _, World.drewN_drewN _ _ _⟩ | exact ⟨rfl, _, Eq.trans (World.drewN_drewN _ _ _) (congrArg (World.drewN _) (Nat.add_assoc _ _ _))⟩)) | (go_at_call 50; (with_reducible refine (node_width.calls k1 (wrap64 (x17_1 + 1)) t161 _ A17.out).mono ?_); rintro e w' ⟨rfl, ⟨nd, rfl⟩⟩; (try first | exact ⟨rfl, _, World.drewN_drewN _ _ _⟩ | exact ⟨rfl, _, Eq.trans (World.drewN_drewN _ _ _) (congrArg (World.drewN _) (Nat.add_assoc _ _ _))⟩)))
          repeat (go_quiet (first | (go_at_call 51; (with_reducible refine (node_long.calls k1 _ _ (rd_L1 l0_1 x17_1) t158 _ ?side1 ?side2 A14.out).mono ?_); (case side1 => exact zc_ (Kd.C_below HR157_0.out HB.out)); (case side2 => exact HC157_0.out); rintro e w' ⟨rfl, ⟨nd, rfl⟩⟩; (try first | exact ⟨rfl, _, World.drewN_drewN _ _ _⟩ | exact ⟨rfl, _, Eq.trans (World.drewN_drewN _ _ _) (congrArg (World.drewN _) (Nat.add_assoc _ _ _))⟩); have p159 : 0 ≤ (x17_1 : Int) := of_decide_eq_true za_; have q159 : x17_1 < (l0_2.length : Int) := of_decide_eq_true za_; obtain ⟨ad159, A159_0, c159_0, e159, hx159_0, hl159_0, hi159_0⟩ := at_L1 HR0_2.out x17_1 p159 q159; cases e159; replace hx159_0 := zx_ HB.out hx159_0; have HR159_0 := Aside0.mk hi159_0; have HC159_0 := Aside0.mk hl159_0; clear hi159_0 hl159_0; replace p159 := eq_true p159; replace q159 := eq_true q159) | (go_at_call 51; (with_reducible refine (node_long.calls k1 _ _ (rd_L1 l0_2 x17_1) t160 _ ?side1 ?side2 A16.out).mono ?_); (case side1 => exact zc_ (Kd.C_below HR159_0.out (zh1_ HB.out GE151.out))); (case side2 => exact HC159_0.out); rintro e w' ⟨rfl, ⟨nd, rfl⟩⟩; (try first | exact ⟨rfl, _, World.drewN_drewN _ _ _⟩ | exact ⟨rfl, _, Eq.trans (World.drewN_drewN _ _ _) (congrArg (World.drewN _) (Nat.add_assoc _ _ _))⟩)) | (go_at_call 50; (with_reducible refine (node_width.calls k1 (wrap64 (x17_1 + 1)) t161 _ A17.out).mono ?_); rintro e w' ⟨rfl, ⟨nd, rfl⟩⟩; (try first | exact ⟨rfl, _, World.drewN_drewN _ _ _⟩ | exact ⟨rfl, _, Eq.trans (World.drewN_drewN _ _ _) (congrArg (World.drewN _) (Nat.add_assoc _ _ _))⟩))); try go_wp2_with (first | (go_at_call 51; (with_reducible refine (node_long.calls k1 _ _ (rd_L1 l0_1 x17_1) t158 _ ?side1 ?side2 A14.out).mono ?_); (case side1 => exact zc_ (Kd.C_below HR157_0.out HB.out)); (case side2 => exact HC157_0.out); rintro e w' ⟨rfl, ⟨nd, rfl⟩⟩; (try first | exact ⟨rfl, _, World.drewN_drewN _ _ _⟩ | exact ⟨rfl, _, Eq.trans (World.drewN_drewN _ _ _) (congrArg (World.drewN _) (Nat.add_assoc _ _ _))⟩); have p159 : 0 ≤ (x17_1 : Int) := of_decide_eq_true za_; have q159 : x17_1 < (l0_2.length : Int) := of_decide_eq_true za_; obtain ⟨ad159, A159_0, c159_0, e159, hx159_0, hl159_0, hi159_0⟩ := at_L1 HR0_2.out x17_1 p159 q159; cases e159; replace hx159_0 := zx_ HB.out hx159_0; have HR159_0 := Aside0.mk hi159_0; have HC159_0 := Aside0.mk hl159_0; clear hi159_0 hl159_0; replace p159 := eq_true p159; replace q159 := eq_true q159) | (go_at_call 51; (with_reducible refine (node_long.calls k1 _ _ (rd_L1 l0_2 x17_1) t160 _ ?side1 ?side2 A16.out).mono ?_); (case side1 => exact zc_ (Kd.C_below HR159_0.out (zh1_ HB.out GE151.out))); (case side2 => exact HC159_0.out); rintro e w' ⟨rfl, ⟨nd, rfl⟩⟩; (try first | exact ⟨rfl, _, World.drewN_drewN _ _ _⟩ | exact ⟨rfl, _, Eq.trans (World.drewN_drewN _ _ _) (congrArg (World.drewN _) (Nat.add_assoc _ _ _))⟩)) | (go_at_call 50; (with_reducible refine (node_width.calls k1 (wrap64 (x17_1 + 1)) t161 _ A17.out).mono ?_); rintro e w' ⟨rfl, ⟨nd, rfl⟩⟩; (try first | exact ⟨rfl, _, World.drewN_drewN _ _ _⟩ | exact ⟨rfl, _, Eq.trans (World.drewN_drewN _ _ _) (congrArg (World.drewN _) (Nat.add_assoc _ _ _))⟩))))
          go_ret
          exact ⟨by first | rfl | (simp [errW_none, errW_some] <;> rfl) | (simp only [← hji3]; first | rfl | (simp [errW_none, errW_some] <;> rfl)) | (simp [*, errW_none, errW_some] <;> rfl), by exact zh1_ HB.out GE151.out⟩
         ·rw [if_neg c18] at H
          have c18b0 : decide ((wrap64 (Int.tdiv t152 2)) ≤ (wrap64 ((wrap64 (x4_1 + (wrap64 (t158 + t160)))) + t161))) = false := decide_eq_false c18
          clear c18
          have H' := Aside0.mk H
          clear H
          obtain ⟨hcz20_0, hcz20_1, hcz20_2, hcz20_3⟩ := zc4 BK151.out
          obtain ⟨hfz20_0, hfz20_1, hfz20_2, hfz20_3⟩ := zz4 BK151.out
          have p157 : 0 ≤ (x17_1 : Int) := of_decide_eq_true za_
          have q157 : x17_1 < (l0_1.length : Int) := of_decide_eq_true za_
          obtain ⟨ad157, A157_0, c157_0, e157, hx157_0, hl157_0, hi157_0⟩ := at_L1 HR0_1.out x17_1 p157 q157
          cases e157
          replace hx157_0 := zx_ HB.out hx157_0
          have HR157_0 := Aside0.mk hi157_0
          have HC157_0 := Aside0.mk hl157_0
          clear hi157_0 hl157_0
          replace p157 := eq_true p157
          replace q157 := eq_true q157
          go_wp2_with (first | (go_at_call 51; (with_reducible refine (node_long.calls k1 _ _ (rd_L1 l0_1 x17_1) t158 _ ?side1 ?side2 A14.out).mono ?_); (case side1 => exact zc_ (Kd.C_below HR157_0.out HB.out)); (case side2 => exact HC157_0.out); rintro e w' ⟨rfl, ⟨nd, rfl⟩⟩; (try first | exact ⟨rfl, _, World.drewN_drewN _ _ _⟩ | exact ⟨rfl, _, Eq.trans (World.drewN_drewN _ _ _) (congrArg (World.drewN _) (Nat.add_assoc _ _ _))⟩); have p159 : 0 ≤ (x17_1 : Int) := of_decide_eq_true za_; have q159 : x17_1 < (l0_2.length : Int) := of_decide_eq_true za_; obtain ⟨ad159, A159_0, c159_0, e159, hx159_0, hl159_0, hi159_0⟩ := at_L1 HR0_2.out x17_1 p159 q159; cases e159; replace hx159_0 := zx_ HB.out hx159_0; have HR159_0 := Aside0.mk hi159_0; have HC159_0 := Aside0.mk hl159_0; clear hi159_0 hl159_0; replace p159 := eq_true p159; replace q159 := eq_true q159) | (go_at_call 51; (with_reducible refine (node_long.calls k1 _ _ (rd_L1 l0_2 x17_1) t160 _ ?side1 ?side2 A16.out).mono ?_); (case side1 => exact zc_ (Kd.C_below HR159_0.out (zh1_ HB.out GE151.out))); (case side2 => exact HC159_0.out); rintro e w' ⟨rfl, ⟨nd, rfl⟩⟩; (try first | exact ⟨rfl, _, World.drewN_drewN _ _ _⟩ | exact ⟨rfl, _, Eq.trans (World.drewN_drewN _ _ _) (congrArg (World.drewN _) (Nat.add_assoc _ _ _))⟩)) | (go_at_call 50; (with_reducible refine (node_width.calls k1 (wrap64 (x17_1 + 1)) t161 _ A17.out).mono ?_); rintro e w' ⟨rfl, ⟨nd, rfl⟩⟩; (try first | exact ⟨rfl, _, World.drewN_drewN _ _ _⟩ | exact ⟨rfl, _, Eq.trans (World.drewN_drewN _ _ _) (congrArg (World.drewN _) (Nat.add_assoc _ _ _))⟩)))
          repeat (go_quiet (first | (go_at_call 51; (with_reducible refine (node_long.calls k1 _ _ (rd_L1 l0_1 x17_1) t158 _ ?side1 ?side2 A14.out).mono ?_); (case side1 => exact zc_ (Kd.C_below HR157_0.out HB.out)); (case side2 => exact HC157_0.out); rintro e w' ⟨rfl, ⟨nd, rfl⟩⟩; (try first | exact ⟨rfl, _, World.drewN_drewN _ _ _⟩ | exact ⟨rfl, _, Eq.trans (World.drewN_drewN _ _ _) (congrArg (World.drewN _) (Nat.add_assoc _ _ _))⟩); have p159 : 0 ≤ (x17_1 : Int) := of_decide_eq_true za_; have q159 : x17_1 < (l0_2.length : Int) := of_decide_eq_true za_; obtain ⟨ad159, A159_0, c159_0, e159, hx159_0, hl159_0, hi159_0⟩ := at_L1 HR0_2.out x17_1 p159 q159; cases e159; replace hx159_0 := zx_ HB.out hx159_0; have HR159_0 := Aside0.mk hi159_0; have HC159_0 := Aside0.mk hl159_0; clear hi159_0 hl159_0; replace p159 := eq_true p159; replace q159 := eq_true q159) | (go_at_call 51; (with_reducible refine (node_long.calls k1 _ _ (rd_L1 l0_2 x17_1) t160 _ ?side1 ?side2 A16.out).mono ?_); (case side1 => exact zc_ (Kd.C_below HR159_0.out (zh1_ HB.out GE151.out))); (case side2 => exact HC159_0.out); rintro e w' ⟨rfl, ⟨nd, rfl⟩⟩; (try first | exact ⟨rfl, _, World.drewN_drewN _ _ _⟩ | exact ⟨rfl, _, Eq.trans (World.drewN_drewN _ _ _) (congrArg (World.drewN _) (Nat.add_assoc _ _ _))⟩)) | (go_at_call 50; (with_reducible refine (node_width.calls k1 (wrap64 (x17_1 + 1)) t161 _ A17.out).mono ?_); rintro e w' ⟨rfl, ⟨nd, rfl⟩⟩; (try first | exact ⟨rfl, _, World.drewN_drewN _ _ _⟩ | exact ⟨rfl, _, Eq.trans (World.drewN_drewN _ _ _) (congrArg (World.drewN _) (Nat.add_assoc _ _ _))⟩))); try go_wp2_with (first | (go_at_call 51; (with_reducible refine (node_long.calls k1 _ _ (rd_L1 l0_1 x17_1) t158 _ ?side1 ?side2 A14.out).mono ?_); (case side1 => exact zc_ (Kd.C_below HR157_0.out HB.out)); (case side2 => exact HC157_0.out); rintro e w' ⟨rfl, ⟨nd, rfl⟩⟩; (try first | exact ⟨rfl, _, World.drewN_drewN _ _ _⟩ | exact ⟨rfl, _, Eq.trans (World.drewN_drewN _ _ _) (congrArg (World.drewN _) (Nat.add_assoc _ _ _))⟩); have p159 : 0 ≤ (x17_1 : Int) := of_decide_eq_true za_; have q159 : x17_1 < (l0_2.length : Int) := of_decide_eq_true za_; obtain ⟨ad159, A159_0, c159_0, e159, hx159_0, hl159_0, hi159_0⟩ := at_L1 HR0_2.out x17_1 p159 q159; cases e159; replace hx159_0 := zx_ HB.out hx159_0; have HR159_0 := Aside0.mk hi159_0; have HC159_0 := Aside0.mk hl159_0; clear hi159_0 hl159_0; replace p159 := eq_true p159; replace q159 := eq_true q159) | (go_at_call 51; (with_reducible refine (node_long.calls k1 _ _ (rd_L1 l0_2 x17_1) t160 _ ?side1 ?side2 A16.out).mono ?_); (case side1 => exact zc_ (Kd.C_below HR159_0.out (zh1_ HB.out GE151.out))); (case side2 => exact HC159_0.out); rintro e w' ⟨rfl, ⟨nd, rfl⟩⟩; (try first | exact ⟨rfl, _, World.drewN_drewN _ _ _⟩ | exact ⟨rfl, _, Eq.trans (World.drewN_drewN _ _ _) (congrArg (World.drewN _) (Nat.add_assoc _ _ _))⟩)) | (go_at_call 50; (with_reducible refine (node_width.calls k1 (wrap64 (x17_1 + 1)) t161 _ A17.out).mono ?_); rintro e w' ⟨rfl, ⟨nd, rfl⟩⟩; (try first | exact ⟨rfl, _, World.drewN_drewN _ _ _⟩ | exact ⟨rfl, _, Eq.trans (World.drewN_drewN _ _ _) (congrArg (World.drewN _) (Nat.add_assoc _ _ _))⟩))))
          go_roundg k1
          case measure => have := HK1.out; omega
          case rel => exact ⟨(wrap64 (x4_1 + (wrap64 (t158 + t160)))), (wrap64 (x17_1 + 1)), (by first | rfl | (simp; done) | (simp [*]; done) | (simp only [i64_w]; done)), (by first | rfl | (simp; done) | (simp [*]; done) | (simp only [i64_w]; done)), H', ⟨by have := HK1.out; omega⟩, ⟨by (with_reducible repeat (first | refine blk_drewN ?_ _ | refine blk_drew ?_ | refine blk_alloc ?_ _)); exact BK151.out⟩, ⟨by exact zh1_ HB.out GE151.out⟩⟩
        ·rw [if_neg c15] at H
         cases H
       ·rw [if_neg c13] at H
        cases H
      ·rw [if_neg c12] at H
       cases H
     ·rw [if_neg c11] at H
      have c11b0 : decide (x17_1 < (y153.length : Int)) = false := decide_eq_false c11
      clear c11
      obtain rfl := Option.some.inj H
      obtain ⟨hcz21_0, hcz21_1, hcz21_2, hcz21_3⟩ := zc4 BK151.out
      obtain ⟨hfz21_0, hfz21_1, hfz21_2, hfz21_3⟩ := zz4 BK151.out
      go_wp2
      repeat (go_quiet (fail); try go_wp2)
      go_ret
      exact ⟨by first | rfl | (simp [errW_none, errW_some] <;> rfl) | (simp only [← hji3]; first | rfl | (simp [errW_none, errW_some] <;> rfl)) | (simp [*, errW_none, errW_some] <;> rfl), by exact zh1_ HB.out GE151.out⟩
  ·rw [if_neg c5] at H
   cases H
 ·rw [if_neg c4] at H
  cases H
end Go.Proofs.Ytcbgichkeecgiaa.Print
namespace Go.Proofs.Ytcbgichkeecgiaa.Print
open Go.RowKit Go.Proofs.YtcbgichkeecgiaaW.PrintWords Go.Proofs.YtcbgichkeecgiaaW.PrintLast Go.Proofs.YtcbgichkeecgiaaW.PrintMore
attribute [local go_sem] max2_mx min2_mn max_two min_two max_three min_three max_four min_four
set_option linter.unusedVariables false
set_option linter.unusedSimpArgs false
theorem V_takeU {α : Type} {d : Kd α} {e base : Nat} {ok : Nat → Prop} {g n c : Nat} {xs : List α} {W : World} (h : d.R e W base ok (.slice (some ⟨g, 0, none⟩) n c) xs) (i cc : Nat) (hi : i ≤ n) (hc : i ≤ cc) : Kd.V d e W base (fun k_ => (base ≤ k_) ∧ Unm W k_) (.slice (some ⟨g, 0, none⟩) i cc) (xs.take i) := by
 have hn := (Kd.R_reads' h).1
 have hl : (xs.take i).length = i := by rw [List.length_take]; omega
 refine ⟨some ⟨g, 0, none⟩, cc, by rw [hl], by rw [hl]; exact hc, ?_⟩
 have hF := Kd.R_F (Kd.R_mono (Kd.R_bound h) (fun k hk => ⟨hk.2.1, by obtain ⟨_, _, _, q, _, cells, hc⟩ := hk; exact ⟨cells, q, hc⟩⟩) : d.R e W base (fun k_ => (base ≤ k_) ∧ Unm W k_) _ _)
 intro W' hW
 obtain ⟨h1, h2, h3⟩ := hF W' hW
 refine ⟨rfl, by rw [hl]; omega, fun hp => ?_⟩
 obtain ⟨ad, ha, hel⟩ := h3 (by rw [hl] at hp; omega)
 refine ⟨ad, ha, fun j p hj => hel j p ?_⟩
 rw [List.getElem?_take] at hj
 split at hj
 ·exact hj
 ·cases hj
theorem V_dropU {α : Type} {d : Kd α} {e base : Nat} {ok : Nat → Prop} {g n c : Nat} {xs : List α} {W : World} (h : d.R e W base ok (.slice (some ⟨g, 0, none⟩) n c) xs) (i : Nat) (hi : i ≤ n) (A : Option Addr) (hA : (if c = i then some (⟨g, 0, none⟩ : Addr) else some ⟨g, i * d.sz, none⟩) = A) :
  Kd.V d e W base (fun k_ => (base ≤ k_) ∧ Unm W k_) (.slice A (n - i) (c - i)) (xs.drop i) := by
 have hn := (Kd.R_reads' h).1
 have hnc : n ≤ c := by have := (Kd.R_reads' h).2.1; omega
 have hl : (xs.drop i).length = n - i := by rw [List.length_drop]; omega
 refine ⟨A, c - i, by rw [hl], by rw [hl]; omega, ?_⟩
 have hF := Kd.R_F (Kd.R_mono (Kd.R_bound h) (fun k hk => ⟨hk.2.1, by obtain ⟨_, _, _, q, _, cells, hc⟩ := hk; exact ⟨cells, q, hc⟩⟩) : d.R e W base (fun k_ => (base ≤ k_) ∧ Unm W k_) _ _)
 intro W' hW
 obtain ⟨h1, h2, h3⟩ := hF W' hW
 refine ⟨rfl, by rw [hl]; omega, fun hp => ?_⟩
 rw [hl] at hp
 have hci : ¬ c = i := by omega
 rw [if_neg hci] at hA
 obtain ⟨ad, ha, hel⟩ := h3 (by omega)
 cases ha
 refine ⟨⟨g, i * d.sz, none⟩, hA.symm, fun j p hj => ?_⟩
 rw [List.getElem?_drop] at hj
 obtain ⟨cs, hs, hk, hc⟩ := hel (i + j) p hj
 refine ⟨cs, hs, hk, fun q u hu => ?_⟩
 have := hc q u hu
 rw [Addr.add_lit]
 rwa [Addr.add_lit, Nat.zero_add, Nat.add_mul, Nat.add_assoc] at this
structure SplP (w W : World) (gc ga gb : Nat) (b : Bool) (Ak : Option Addr) (ck : Nat) (ks : List (List Int)) (Av : Option Addr) (cv : Nat) (vs : List (List Int)) (Ad : Option Addr) (cd : Nat) (ds : List Int) : Prop where
 BC : W.heap[gc]? = some (.cells #[.bool b, .slice Ak ks.length ck, .slice Av vs.length cv, .slice Ad ds.length cd] 26 (0, 0))
 BA : W.heap[ga]? = some (.cells #[.bool false, .slice none 0 0, .slice none 0 0, .slice none 0 0] 26 (0, 0))
 BB : W.heap[gb]? = some (.cells #[.bool false, .slice none 0 0, .slice none 0 0, .slice none 0 0] 26 (0, 0))
 HB : Below w.heap.size w W
 K : Kd.R (Kd.slice 5 (Kd.int .u8)) 27 W w.heap.size (fun _ => True) (.slice Ak ks.length ck) ks
 V : Kd.R (Kd.slice 5 (Kd.int .u8)) 27 W w.heap.size (fun _ => True) (.slice Av vs.length cv) vs
 D : Kd.R (Kd.int .i64) 3 W w.heap.size (fun _ => True) (.slice Ad ds.length cd) ds
 GC : w.heap.size ≤ gc
 GA : w.heap.size ≤ ga
 GB : w.heap.size ≤ gb
 ne1 : ga ≠ gc
 ne2 : gb ≠ gc
 ne3 : ga ≠ gb
section
variable {w W W2 : World} {gc ga gb : Nat} {b : Bool} {Ak : Option Addr} {ck : Nat} {ks : List (List Int)} {Av : Option Addr} {cv : Nat} {vs : List (List Int)} {Ad : Option Addr} {cd : Nat} {ds : List Int}
theorem SplP.below (O : SplP w W gc ga gb b Ak ck ks Av cv vs Ad cd ds) (hb : Below W.heap.size W W2) : SplP w W2 gc ga gb b Ak ck ks Av cv vs Ad cd ds :=
 ⟨blk_below O.BC hb, blk_below O.BA hb, blk_below O.BB hb, below_step O.HB hb, Kd.R_below O.K hb, Kd.R_below O.V hb, Kd.R_below O.D hb, O.GC, O.GA, O.GB, O.ne1, O.ne2, O.ne3⟩
theorem SplP.drew (O : SplP w W gc ga gb b Ak ck ks Av cv vs Ad cd ds) : SplP w W.drew gc ga gb b Ak ck ks Av cv vs Ad cd ds := O.below (below_drew (Below.refl _ _))
theorem SplP.far (O : SplP w W gc ga gb b Ak ck ks Av cv vs Ad cd ds) {g : Nat} {v0 v1 v2 v3 : Value} (hg : W.heap[g]? = some (.cells #[v0, v1, v2, v3] 26 (0, 0))) (h0 : w.heap.size ≤ g) (h1 : gc ≠ g) (h2 : ga ≠ g) (h3 : gb ≠ g) (x0 x1 x2 x3 : Value) :
  SplP w ((((W.setCell ⟨g, 0, none⟩ x0).setCell ⟨g, 1, none⟩ x1).setCell ⟨g, 2, none⟩ x2).setCell ⟨g, 3, none⟩ x3) gc ga gb b Ak ck ks Av cv vs Ad cd ds :=
 ⟨pageF O.BC h1 _ _ _ _, pageF O.BA h2 _ _ _ _, pageF O.BB h3 _ _ _ _, pageW O.HB h0 _ _ _ _, pageR O.K hg (by decide) _ _ _ _, pageR O.V hg (by decide) _ _ _ _, pageR O.D hg (by decide) _ _ _ _, O.GC, O.GA, O.GB, O.ne1, O.ne2, O.ne3⟩
theorem cells4 {g : Nat} {v0 v1 v2 v3 : Value} (h : W.heap[g]? = some (.cells #[v0, v1, v2, v3] 26 (0, 0))) : W.cell? ⟨g, 0, none⟩ = some v0 ∧ W.cell? ⟨g, 1, none⟩ = some v1 ∧ W.cell? ⟨g, 2, none⟩ = some v2 ∧ W.cell? ⟨g, 3, none⟩ = some v3 :=
 ⟨(blk_cell h 0).trans rfl, (blk_cell h 1).trans rfl, (blk_cell h 2).trans rfl, (blk_cell h 3).trans rfl⟩
theorem SplP.end_ (O : SplP w W gc ga gb b Ak ck ks Av cv vs Ad cd ds) (x0 x1 x2 x3 y0 y1 y2 y3 : Value) :
  ∃ W2, W2 = ((((((((W.setCell ⟨ga, 0, none⟩ x0).setCell ⟨ga, 1, none⟩ x1).setCell ⟨ga, 2, none⟩ x2).setCell ⟨ga, 3, none⟩ x3).setCell ⟨gb, 0, none⟩ y0).setCell ⟨gb, 1, none⟩ y1).setCell ⟨gb, 2, none⟩ y2).setCell ⟨gb, 3, none⟩ y3) ∧
   W2.heap[ga]? = some (.cells #[x0, x1, x2, x3] 26 (0, 0)) ∧ W2.heap[gb]? = some (.cells #[y0, y1, y2, y3] 26 (0, 0)) ∧ Below w.heap.size w W2 ∧
   Kd.R (Kd.slice 5 (Kd.int .u8)) 27 W2 w.heap.size (fun _ => True) (.slice Ak ks.length ck) ks ∧ Kd.R (Kd.slice 5 (Kd.int .u8)) 27 W2 w.heap.size (fun _ => True) (.slice Av vs.length cv) vs ∧ Kd.R (Kd.int .i64) 3 W2 w.heap.size (fun _ => True) (.slice Ad ds.length cd) ds := by
 have hb := pageF O.BB (Ne.symm O.ne3) x0 x1 x2 x3
 exact ⟨_, rfl, pageF (pageB O.BA x0 x1 x2 x3) O.ne3 _ _ _ _, pageB hb y0 y1 y2 y3, pageW (pageW O.HB O.GA _ _ _ _) O.GB _ _ _ _, pageR (pageR O.K O.BA (by decide) _ _ _ _) hb (by decide) _ _ _ _, pageR (pageR O.V O.BA (by decide) _ _ _ _) hb (by decide) _ _ _ _, pageR (pageR O.D O.BA (by decide) _ _ _ _) hb (by decide) _ _ _ _⟩
end
def node_Split.f (k : Nat) (a0_0 : Bool) (l0_1 l0_2 : List (List Int)) (l0_3 : List Int) : Option (Bool × (List (List Int)) × (List (List Int)) × List Int × List Int × Bool × (List (List Int)) × (List (List Int)) × List Int × Int) :=
 (node_Check.f k a0_0 l0_1 l0_2 l0_3).bind fun t => if t = 0 then (if l0_1.length < 2 ∨ (l0_1.length < 3 ∧ a0_0 = false) then some (false, [], [], [], [], false, [], [], [], 2) else
  ((node_own.f k a0_0 l0_1 l0_2 l0_3).bind fun o => if a0_0 = true then ((node_half.f k a0_0 l0_1 l0_2 l0_3).bind fun i => if 0 < i ∧ i < (o.2.1.length : Int) ∧ i ≤ (o.2.2.1.length : Int) ∧ o.2.1.length < 9223372036854775807 ∧ o.2.2.1.length < 9223372036854775807 then ((bytes_Clone.f (rd_L1 o.2.1 i)).bind fun b => some (true, o.2.1.take i.toNat, o.2.2.1.take i.toNat, [], b, true, o.2.1.drop i.toNat, o.2.2.1.drop i.toNat, [], 0)) else none)
   else (if l0_1.length / 2 < o.2.1.length ∧ l0_1.length / 2 + 1 ≤ o.2.2.2.length ∧ o.2.1.length < 9223372036854775807 ∧ o.2.2.2.length < 9223372036854775807 ∧ l0_1.length < 9223372036854775807 then some (false, o.2.1.take (l0_1.length / 2), [], o.2.2.2.take (l0_1.length / 2 + 1), rd_L1 o.2.1 (l0_1.length / 2 : Nat), false, o.2.1.drop (l0_1.length / 2 + 1), [], o.2.2.2.drop (l0_1.length / 2 + 1), 0) else none)))
  else some (false, [], [], [], [], false, [], [], [], t)
set_option maxHeartbeats 8000000 in
set_option maxRecDepth 100000 in
theorem node_Split.calls_own (k : Nat) (a0_0 : Bool) (A0_1 : Option Addr) (c0_1 : Nat) (l0_1 : List (List Int)) (A0_2 : Option Addr) (c0_2 : Nat) (l0_2 : List (List Int)) (A0_3 : Option Addr) (c0_3 : Nat) (l0_3 : List Int) (r1 : Bool) (r2 : List (List Int)) (r3 : List (List Int)) (r4 : List Int) (r5 : List Int) (r6 : Bool) (r7 : List (List Int)) (r8 : List (List Int)) (r9 : List Int) (r10 : Int) (w : World) (hr0_1 : Kd.C (Kd.slice 5 (Kd.int .u8)) w A0_1 l0_1.length l0_1) (hc0_1 : l0_1.length ≤ c0_1) (hr0_2 : Kd.C (Kd.slice 5 (Kd.int .u8)) w A0_2 l0_2.length l0_2) (hc0_2 : l0_2.length ≤ c0_2) (hr0_3 : Kd.C (Kd.int .i64) w A0_3 l0_3.length l0_3) (hc0_3 : l0_3.length ≤ c0_3) (h : node_Split.f k a0_0 l0_1 l0_2 l0_3 = some (r1, r2, r3, r4, r5, r6, r7, r8, r9, r10)) :
  Calls Try.prog 18 #[.agg #[.bool a0_0, .slice A0_1 l0_1.length c0_1, .slice A0_2 l0_2.length c0_2, .slice A0_3 l0_3.length c0_3]] w fun e w' => ∃ v1_ v2_ v3_ v4_ v6_ v7_ v8_ : Value, e = .returned (.tuple #[.agg #[.bool r1, v1_, v2_, v3_], v4_, .agg #[.bool r6, v6_, v7_, v8_], .int .i64 r10]) ∧ Kd.V (Kd.slice 5 (Kd.int .u8)) 27 w' w.heap.size (fun k_ => (w.heap.size ≤ k_) ∧ Unm w' k_) v1_ r2 ∧ Kd.V (Kd.slice 5 (Kd.int .u8)) 27 w' w.heap.size (fun k_ => (w.heap.size ≤ k_) ∧ Unm w' k_) v2_ r3 ∧ Kd.V (Kd.int .i64) 3 w' w.heap.size (fun k_ => (w.heap.size ≤ k_) ∧ Unm w' k_) v3_ r4 ∧ Kd.V (Kd.int .u8) 5 w' w.heap.size (fun k_ => (w.heap.size ≤ k_) ∧ Unm w' k_) v4_ r5 ∧ Kd.V (Kd.slice 5 (Kd.int .u8)) 27 w' w.heap.size (fun k_ => (w.heap.size ≤ k_) ∧ Unm w' k_) v6_ r7 ∧ Kd.V (Kd.slice 5 (Kd.int .u8)) 27 w' w.heap.size (fun k_ => (w.heap.size ≤ k_) ∧ Unm w' k_) v7_ r8 ∧ Kd.V (Kd.int .i64) 3 w' w.heap.size (fun k_ => (w.heap.size ≤ k_) ∧ Unm w' k_) v8_ r9 ∧ Below w.heap.size w w' := by
 have hu26 := Try.underlying26
 have R1 := Aside0.mk hr0_1
 have L1 := Aside0.mk hc0_1
 have R2 := Aside0.mk hr0_2
 have L2 := Aside0.mk hc0_2
 have R3 := Aside0.mk hr0_3
 have L3 := Aside0.mk hc0_3
 clear hr0_1 hc0_1 hr0_2 hc0_2 hr0_3 hc0_3
 unfold node_Split.f at h
 replace h := Option.bind_eq_some_iff.mp h
 obtain ⟨t, ht, h⟩ := h
 have HT := Aside0.mk ht
 have HH := Aside0.mk h
 clear ht h
 go_enter Try.func18, Try.ntmps18
 go_wp2_with (first | ((with_reducible refine gate_dst (N := 1) rfl ?_); refine box_event ?hg (N := 1) ?hd (cs := #[.bool a0_0, .slice A0_1 l0_1.length c0_1, .slice A0_2 l0_2.length c0_2, .slice A0_3 l0_3.length c0_3]) (t := 26) ?hr ?_; (case hd => rfl); (case hg => rfl); (case hr => first | (go_simp; done) | (go_simp; rfl)); intro gp hgp w1 hbox hb; have BP := Aside0.mk hbox; have HB := Aside0.mk hb; clear hbox hb hgp) | ((with_reducible refine gate_dst (N := 2) rfl ?_); refine box_event ?hg (N := 2) ?hd (cs := #[.bool false, .slice none 0 0, .slice none 0 0, .slice none 0 0]) (t := 26) ?hr ?_; (case hd => rfl); (case hg => rfl); (case hr => first | (go_simp; done) | (go_simp; rfl)); intro ga hga w2 hbox hb; have GA : Aside0 (w.heap.size ≤ ga) := ⟨by rw [hga]; exact HB.out.size⟩; have BA := Aside0.mk hbox; have BP2 := Aside0.mk (blk_below BP.out hb); have HB2 := Aside0.mk (below_step HB.out hb); clear hbox hb hga BP HB) | ((with_reducible refine gate_dst (N := 4) rfl ?_); refine box_event ?hg (N := 4) ?hd (cs := #[.bool false, .slice none 0 0, .slice none 0 0, .slice none 0 0]) (t := 26) ?hr ?_; (case hd => rfl); (case hg => rfl); (case hr => first | (go_simp; done) | (go_simp; rfl)); intro gb hgb w3 hbox hb; have GB : Aside0 (w.heap.size ≤ gb ∧ ga ≠ gb) := ⟨by rw [hgb]; exact HB2.out.size, by rw [hgb]; exact Nat.ne_of_lt (blk_lt BA.out)⟩; have BB := Aside0.mk hbox; have BA2 := Aside0.mk (blk_below BA.out hb); have BP3 := Aside0.mk (blk_below BP2.out hb); have HB3 := Aside0.mk (below_step HB2.out hb); obtain ⟨hc0, hc1, hc2, hc3⟩ := cells4 BP3.out; clear hbox hb hgb BP2 HB2 BA))
 refine (node_Check.calls k a0_0 A0_1 c0_1 l0_1 A0_2 c0_2 l0_2 A0_3 c0_3 l0_3 t _ (Kd.C_below R1.out HB3.out) L1.out (Kd.C_below R2.out HB3.out) L2.out (Kd.C_below R3.out HB3.out) L3.out HT.out).mono ?_
 rintro e w4 ⟨rfl, hb4⟩
 have BP4 := Aside0.mk (blk_below BP3.out hb4)
 have BA4 := Aside0.mk (blk_below BA2.out hb4)
 have BB4 := Aside0.mk (blk_below BB.out hb4)
 have HB4 := Aside0.mk (below_step HB3.out hb4)
 clear hc0 hc1 hc2 hc3 hb4 BP3 BA2 BB HB3 HT
 obtain ⟨hc0, hc1, hc2, hc3⟩ := cells4 BP4.out
 have H := HH.out
 clear HH
 by_cases hz : t = 0
 case neg =>
  rw [if_neg hz] at H
  have z1 : (t == 0) = false := beq_eq_false_iff_ne.mpr hz
  have z2 : (t != 0) = true := bne_iff_ne.mpr hz
  clear hz
  simp only [Option.some.injEq, Prod.mk.injEq] at H
  obtain ⟨rfl, rfl, rfl, rfl, rfl, rfl, rfl, rfl, rfl, rfl⟩ := H
  obtain ⟨ha0, ha1, ha2, ha3⟩ := cells4 BA4.out
  obtain ⟨hb0, hb1, hb2, hb3⟩ := cells4 BB4.out
  have hf0 := blk_frozen BA4.out 0
  have hf1 := blk_frozen BA4.out 1
  have hf2 := blk_frozen BA4.out 2
  have hf3 := blk_frozen BA4.out 3
  have hg0 := blk_frozen BB4.out 0
  have hg1 := blk_frozen BB4.out 1
  have hg2 := blk_frozen BB4.out 2
  have hg3 := blk_frozen BB4.out 3
  have hne1 : ¬ ga = gb := GB.out.2
  have hne2 : ¬ gb = ga := Ne.symm GB.out.2
  go_wp2
  have hbb := pageF BB4.out (Ne.symm GB.out.2) (.bool false) (.slice none 0 0) (.slice none 0 0) (.slice none 0 0)
  refine bodyPost_ret (results_list (rs := [.cell 2 26, .tmp 3, .cell 4 26, .tmp 5]) rfl (by simp) (Vals.cell ga 26 #[.bool false, .slice none 0 0, .slice none 0 0, .slice none 0 0] (0, 0) _ rfl (pageF (pageB BA4.out _ _ _ _) GB.out.2 _ _ _ _) Try.underlying26 rfl (by kernel_rfl) (Vals.tmp (Vals.cell gb 26 #[.bool false, .slice none 0 0, .slice none 0 0, .slice none 0 0] (0, 0) _ rfl (pageB hbb _ _ _ _) Try.underlying26 rfl (by kernel_rfl) (Vals.tmp Vals.nil))))) rfl ⟨_, _, _, _, _, _, _, rfl, Kd.V_nil _ _ _ _ _, Kd.V_nil _ _ _ _ _, Kd.V_nil _ _ _ _ _, Kd.V_nil _ _ _ _ _, Kd.V_nil _ _ _ _ _, Kd.V_nil _ _ _ _ _, Kd.V_nil _ _ _ _ _, pageW (pageW HB4.out GA.out _ _ _ _) GB.out.1 _ _ _ _⟩
 case pos =>
 rw [if_pos hz] at H
 have z1 : (t == 0) = true := beq_iff_eq.mpr hz
 have z2 : (t != 0) = false := bne_eq_false_iff_eq.mpr hz
 clear hz
 by_cases h2 : l0_1.length < 2
 case pos =>
  rw [if_pos (Or.inl h2)] at H
  have y2 : decide ((l0_1.length : Int) < 2) = true := decide_eq_true (by omega)
  have y2n : decide (l0_1.length < 2) = true := decide_eq_true h2
  clear h2
  simp only [Option.some.injEq, Prod.mk.injEq] at H
  obtain ⟨rfl, rfl, rfl, rfl, rfl, rfl, rfl, rfl, rfl, rfl⟩ := H
  obtain ⟨ha0, ha1, ha2, ha3⟩ := cells4 BA4.out
  obtain ⟨hb0, hb1, hb2, hb3⟩ := cells4 BB4.out
  have hf0 := blk_frozen BA4.out 0
  have hf1 := blk_frozen BA4.out 1
  have hf2 := blk_frozen BA4.out 2
  have hf3 := blk_frozen BA4.out 3
  have hg0 := blk_frozen BB4.out 0
  have hg1 := blk_frozen BB4.out 1
  have hg2 := blk_frozen BB4.out 2
  have hg3 := blk_frozen BB4.out 3
  have hne1 : ¬ ga = gb := GB.out.2
  have hne2 : ¬ gb = ga := Ne.symm GB.out.2
  go_wp2
  have hbb := pageF BB4.out (Ne.symm GB.out.2) (.bool false) (.slice none 0 0) (.slice none 0 0) (.slice none 0 0)
  refine bodyPost_ret (results_list (rs := [.cell 2 26, .tmp 3, .cell 4 26, .tmp 5]) rfl (by simp) (Vals.cell ga 26 #[.bool false, .slice none 0 0, .slice none 0 0, .slice none 0 0] (0, 0) _ rfl (pageF (pageB BA4.out _ _ _ _) GB.out.2 _ _ _ _) Try.underlying26 rfl (by kernel_rfl) (Vals.tmp (Vals.cell gb 26 #[.bool false, .slice none 0 0, .slice none 0 0, .slice none 0 0] (0, 0) _ rfl (pageB hbb _ _ _ _) Try.underlying26 rfl (by kernel_rfl) (Vals.tmp Vals.nil))))) rfl ⟨_, _, _, _, _, _, _, rfl, Kd.V_nil _ _ _ _ _, Kd.V_nil _ _ _ _ _, Kd.V_nil _ _ _ _ _, Kd.V_nil _ _ _ _ _, Kd.V_nil _ _ _ _ _, Kd.V_nil _ _ _ _ _, Kd.V_nil _ _ _ _ _, pageW (pageW HB4.out GA.out _ _ _ _) GB.out.1 _ _ _ _⟩
 case neg =>
 have y2 : decide ((l0_1.length : Int) < 2) = false := decide_eq_false (by omega)
 have y2n : decide (l0_1.length < 2) = false := decide_eq_false h2
 cases a0_0 with
 | false =>
  by_cases h3 : l0_1.length < 3
  case pos =>
   rw [if_pos (Or.inr ⟨h3, rfl⟩)] at H
   have y3 : decide ((l0_1.length : Int) < 3) = true := decide_eq_true (by omega)
   have y3n : decide (l0_1.length < 3) = true := decide_eq_true h3
   clear h2 h3
   simp only [Option.some.injEq, Prod.mk.injEq] at H
   obtain ⟨rfl, rfl, rfl, rfl, rfl, rfl, rfl, rfl, rfl, rfl⟩ := H
   obtain ⟨ha0, ha1, ha2, ha3⟩ := cells4 BA4.out
   obtain ⟨hb0, hb1, hb2, hb3⟩ := cells4 BB4.out
   have hf0 := blk_frozen BA4.out 0
   have hf1 := blk_frozen BA4.out 1
   have hf2 := blk_frozen BA4.out 2
   have hf3 := blk_frozen BA4.out 3
   have hg0 := blk_frozen BB4.out 0
   have hg1 := blk_frozen BB4.out 1
   have hg2 := blk_frozen BB4.out 2
   have hg3 := blk_frozen BB4.out 3
   have hne1 : ¬ ga = gb := GB.out.2
   have hne2 : ¬ gb = ga := Ne.symm GB.out.2
   go_wp2
   have hbb := pageF BB4.out (Ne.symm GB.out.2) (.bool false) (.slice none 0 0) (.slice none 0 0) (.slice none 0 0)
   refine bodyPost_ret (results_list (rs := [.cell 2 26, .tmp 3, .cell 4 26, .tmp 5]) rfl (by simp) (Vals.cell ga 26 #[.bool false, .slice none 0 0, .slice none 0 0, .slice none 0 0] (0, 0) _ rfl (pageF (pageB BA4.out _ _ _ _) GB.out.2 _ _ _ _) Try.underlying26 rfl (by kernel_rfl) (Vals.tmp (Vals.cell gb 26 #[.bool false, .slice none 0 0, .slice none 0 0, .slice none 0 0] (0, 0) _ rfl (pageB hbb _ _ _ _) Try.underlying26 rfl (by kernel_rfl) (Vals.tmp Vals.nil))))) rfl ⟨_, _, _, _, _, _, _, rfl, Kd.V_nil _ _ _ _ _, Kd.V_nil _ _ _ _ _, Kd.V_nil _ _ _ _ _, Kd.V_nil _ _ _ _ _, Kd.V_nil _ _ _ _ _, Kd.V_nil _ _ _ _ _, Kd.V_nil _ _ _ _ _, pageW (pageW HB4.out GA.out _ _ _ _) GB.out.1 _ _ _ _⟩
  case neg =>
  have y3 : decide ((l0_1.length : Int) < 3) = false := decide_eq_false (by omega)
  have y3n : decide (l0_1.length < 3) = false := decide_eq_false h3
  rw [if_neg (fun h => h.elim h2 (fun h => h3 h.1))] at H
  clear h2 h3
  replace H := Option.bind_eq_some_iff.mp H
  obtain ⟨⟨o1, o2, o3, o4⟩, ho, H⟩ := H
  have HO := Aside0.mk ho
  have HH := Aside0.mk H
  clear ho H
  go_wp2_with fail
  refine (node_own.calls k false A0_1 c0_1 l0_1 A0_2 c0_2 l0_2 A0_3 c0_3 l0_3 o1 o2 o3 o4 _ (Kd.C_below R1.out HB4.out) L1.out (Kd.C_below R2.out HB4.out) L2.out (Kd.C_below R3.out HB4.out) L3.out HO.out).mono ?_
  rintro e w5 ⟨v1, v2, v3, rfl, hS1, hS2, hR3, hb5⟩
  obtain ⟨Ak, ck, rfl⟩ := Kd.R_slice (Kd.S_R hS1)
  obtain ⟨Av, cv, rfl⟩ := Kd.R_slice (Kd.S_R hS2)
  obtain ⟨Ad, cd, rfl⟩ := Kd.R_slice hR3
  have S1 := Aside0.mk (Kd.R_mono (Kd.R_lower (Kd.S_R hS1) HB4.out.size) (ok' := fun _ => True) (fun _ _ => trivial))
  have S2 := Aside0.mk (Kd.R_mono (Kd.R_lower (Kd.S_R hS2) HB4.out.size) (ok' := fun _ => True) (fun _ _ => trivial))
  have S3 := Aside0.mk (Kd.R_lower hR3 HB4.out.size)
  have BP5 := Aside0.mk (blk_below BP4.out hb5)
  have BA5 := Aside0.mk (blk_below BA4.out hb5)
  have BB5 := Aside0.mk (blk_below BB4.out hb5)
  have HB5 := Aside0.mk (below_step HB4.out hb5)
  clear hc0 hc1 hc2 hc3 hb5 BP4 BA4 BB4 HB4 hS1 hS2 hR3 HO
  have H := HH.out
  clear HH
  first | rw [if_neg not_false] at H | rw [if_neg (by simp)] at H
  obtain ⟨n, hn_⟩ : ∃ n, n = l0_1.length / 2 := ⟨_, rfl⟩
  rw [← hn_] at H
  by_cases hc : n < o2.length ∧ n + 1 ≤ o4.length ∧ o2.length < 9223372036854775807 ∧ o4.length < 9223372036854775807 ∧ l0_1.length < 9223372036854775807
  case neg => rw [if_neg hc] at H; cases H
  case pos =>
  rw [if_pos hc] at H
  have HN := Aside0.mk hc
  have HNE := Aside0.mk hn_
  simp only [Option.some.injEq, Prod.mk.injEq] at H
  obtain ⟨rfl, rfl, rfl, rfl, rfl, rfl, rfl, rfl, rfl, rfl⟩ := H
  have hq : (((l0_1.length : Int) / 2 : Int)) = (n : Int) := by rw [hn_]; rfl
  have hqn : l0_1.length / 2 = n := hn_.symm
  clear hc hn_
  go_wp2_with (first | ((with_reducible refine gate_dst (N := 8) rfl ?_); refine box_event ?hg (N := 8) ?hd (cs := #[.bool false, .slice none 0 0, .slice none 0 0, .slice none 0 0]) (t := 26) ?hr ?_; (case hd => rfl); (case hg => rfl); (case hr => first | (go_simp; done) | (go_simp; rfl)); intro gc hgc w6 hbox hb; have GC : Aside0 (w.heap.size ≤ gc ∧ ga ≠ gc ∧ gb ≠ gc ∧ gp ≠ gc) := ⟨by rw [hgc]; exact HB5.out.size, by rw [hgc]; exact Nat.ne_of_lt (blk_lt BA5.out), by rw [hgc]; exact Nat.ne_of_lt (blk_lt BB5.out), by rw [hgc]; exact Nat.ne_of_lt (blk_lt BP5.out)⟩; have BC := Aside0.mk hbox; have BP6 := Aside0.mk (blk_below BP5.out hb); have BA6 := Aside0.mk (blk_below BA5.out hb); have BB6 := Aside0.mk (blk_below BB5.out hb); have HB6 := Aside0.mk (below_step HB5.out hb); have T1 := Aside0.mk (Kd.R_below S1.out hb); have T2 := Aside0.mk (Kd.R_below S2.out hb); have T3 := Aside0.mk (Kd.R_below S3.out hb); obtain ⟨hd0, hd1, hd2, hd3⟩ := cells4 BC.out; have hf0 := blk_frozen BC.out 0; have hf1 := blk_frozen BC.out 1; have hf2 := blk_frozen BC.out 2; have hf3 := blk_frozen BC.out 3; obtain ⟨hc0, hc1, hc2, hc3⟩ := cells4 BP6.out; have hne1 : ¬ gc = gp := Ne.symm GC.out.2.2.2; have hne2 : ¬ gp = gc := GC.out.2.2.2; clear hbox hb hgc BP5 BA5 BB5 HB5 S1 S2 S3))
  have O : Aside0 (SplP w ((((w6.setCell ⟨gc, 0, none⟩ (.bool o1)).setCell ⟨gc, 1, none⟩ (.slice Ak o2.length ck)).setCell ⟨gc, 2, none⟩ (.slice Av o3.length cv)).setCell ⟨gc, 3, none⟩ (.slice Ad o4.length cd)) gc ga gb o1 Ak ck o2 Av cv o3 Ad cd o4) :=
   ⟨pageB BC.out _ _ _ _, pageF BA6.out GC.out.2.1 _ _ _ _, pageF BB6.out GC.out.2.2.1 _ _ _ _, pageW HB6.out GC.out.1 _ _ _ _, pageR T1.out BC.out (by decide) _ _ _ _, pageR T2.out BC.out (by decide) _ _ _ _, pageR T3.out BC.out (by decide) _ _ _ _, GC.out.1, GA.out, GB.out.1, GC.out.2.1, GC.out.2.2.1, GB.out.2⟩
  clear T1 T2 T3 BC BA6 BB6 HB6 BP6 hd0 hd1 hd2 hd3 hf0 hf1 hf2 hf3 hc0 hc1 hc2 hc3 hne1 hne2 GC GA GB
  generalize World.setCell _ _ _ = w7 at O ⊢
  obtain ⟨gk, c_, e_, _, _, curk, hk⟩ := Kd.R_form O.out.K (by have := HN.out; omega)
  injection e_ with e1_ _ e2_
  subst e1_
  subst e2_
  obtain ⟨gd, c_, e_, _, _, curd, hd⟩ := Kd.R_form O.out.D (by have := HN.out; omega)
  injection e_ with e1_ _ e2_
  subst e1_
  subst e2_
  clear hk hd
  have hwn : wrap64 (n : Int) = (n : Int) := w64_in (Int.natCast_nonneg _) (by have := HN.out; have := HNE.out; omega)
  rw [hwn]
  clear hwn hq hqn
  have HCK := Aside0.mk (Kd.R_reads' O.out.K).2.1
  have HCD := Aside0.mk (Kd.R_reads' O.out.D).2.1
  have f1 : n ≤ ck := by have := HN.out; have := HCK.out; omega
  have f2 : n + 1 ≤ cd := by have := HN.out; have := HCD.out; omega
  have f3 : (n : Int) ≤ (ck : Int) := by omega
  have f4 : (n : Int) + 1 ≤ (cd : Int) := by omega
  have f5 : n ≤ o2.length := by have := HN.out; omega
  have f6 : n + 1 ≤ o4.length := HN.out.2.1
  have f7 : (n : Int) < (o2.length : Int) := by have := HN.out; omega
  have f8 : n < o2.length := HN.out.1
  have f9 : n + 1 ≤ o2.length := f8
  have f10 : (n : Int) + 1 ≤ (o2.length : Int) := by omega
  have f11 : (n : Int) + 1 ≤ (o4.length : Int) := by omega
  have f12 : n + 1 ≤ ck := by have := HCK.out; omega
  have g1 : IntKind.i64.wrap ((n : Int) + 1) = (n : Int) + 1 := wi64_in (by omega) (by have := HN.out; omega)
  have g2 : ((n : Int) + 1).toNat = n + 1 := by omega
  have g3 : (0 : Int) ≤ (n : Int) + 1 := by omega
  obtain ⟨AK, hAK⟩ : ∃ A, (if ck = n + 1 then some (⟨gk, 0, none⟩ : Addr) else some ⟨gk, n + 1, none⟩) = A := ⟨_, rfl⟩
  obtain ⟨AD, hAD⟩ : ∃ A, (if cd = n + 1 then some (⟨gd, 0, none⟩ : Addr) else some ⟨gd, n + 1, none⟩) = A := ⟨_, rfl⟩
  have O2 := Aside0.mk O.out.drew
  clear O
  have O := O2
  clear O2
  refine start_ (n := 15) (S := fun w' => w'.cell? ⟨gc, 0, none⟩ = some (.bool o1) ∧ w'.cell? ⟨gc, 1, none⟩ = some (.slice (some ⟨gk, 0, none⟩) o2.length ck) ∧ w'.cell? ⟨gc, 2, none⟩ = some (.slice Av o3.length cv) ∧ w'.cell? ⟨gc, 3, none⟩ = some (.slice (some ⟨gd, 0, none⟩) o4.length cd)) (ds := [14]) (zB 0 15) (by kernel_rfl) rfl rfl ⟨(cells4 O.out.BC).1, (cells4 O.out.BC).2.1, (cells4 O.out.BC).2.2.1, (cells4 O.out.BC).2.2.2⟩ (fun hHeld => ?_)
  generalize World.drew _ = wa at O hHeld ⊢
  refine zpu 0 (some 73) (zB 1 14) (by kernel_rfl) ?_
  refine zpu 2 (some 75) #[true, false, true, false, false, false, false, false, false, false, false, false, false, false, false] (by kernel_rfl) ?_
  refine zpu 3 (some 76) #[true, false, true, true, false, false, false, false, false, false, false, false, false, false, false] (by kernel_rfl) ?_
  refine zpu 5 (some 78) #[true, false, true, true, false, true, false, false, false, false, false, false, false, false, false] (by kernel_rfl) ?_
  refine zpu 7 (some 80) #[true, false, true, true, false, true, false, true, false, false, false, false, false, false, false] (by kernel_rfl) ?_
  refine zpu 8 (some 81) #[true, false, true, true, false, true, false, true, true, false, false, false, false, false, false] (by kernel_rfl) ?_
  refine zpu 9 (some 82) #[true, false, true, true, false, true, false, true, true, true, false, false, false, false, false] (by kernel_rfl) ?_
  refine zpu 10 (some 83) #[true, false, true, true, false, true, false, true, true, true, true, false, false, false, false] (by kernel_rfl) ?_
  refine zta 1 (some 74) #[true, true, true, true, false, true, false, true, true, true, true, false, false, false, false] (by kernel_rfl) hHeld ?_
  refine zpu 4 (some 77) #[true, true, true, true, true, true, false, true, true, true, true, false, false, false, false] (by kernel_rfl) ?_
  refine zta 6 (some 79) (zB 11 4) (by kernel_rfl) hHeld ?_
  refine zpu 11 (some 84) (zB 12 3) (by kernel_rfl) ?_
  refine zpu 12 (some 85) (zB 13 2) (by kernel_rfl) ?_
  refine one_ (i := 13) (N := some 12) (zB 14 1) rfl rfl (by kernel_rfl) (by decide) (fun K hK => ?_)
  refine value_ (w1 := ?_) (v := ?_) (by rfl) rfl ?_ ?_
  rotate_left 2
  ·go_simp
   constructor
   ·rfl
   ·rfl
  have hb := below_alloc (Below.refl _ wa) (.cells #[.bool false, .slice none 0 0, .slice none 0 0, .slice none 0 0] 26)
  have BX := Aside0.mk (MapKept.heap_alloc wa (.cells #[.bool false, .slice none 0 0, .slice none 0 0, .slice none 0 0] 26 (0, 0))).1
  have GX : Aside0 (w.heap.size ≤ wa.heap.size ∧ gc ≠ wa.heap.size ∧ ga ≠ wa.heap.size ∧ gb ≠ wa.heap.size) := ⟨O.out.HB.size, Nat.ne_of_lt (blk_lt O.out.BC), Nat.ne_of_lt (blk_lt O.out.BA), Nat.ne_of_lt (blk_lt O.out.BB)⟩
  have O2 := Aside0.mk (O.out.below hb)
  clear O hb
  have O := O2
  clear O2
  refine hK.out _ _ ⟨(cells4 O.out.BC).1, (cells4 O.out.BC).2.1, (cells4 O.out.BC).2.2.1, (cells4 O.out.BC).2.2.2⟩ (fun hHeld => ?_)
  clear hK K
  refine zno 12 ?_
  generalize hgx : wa.heap.size = gx at BX GX ⊢
  clear hgx
  generalize wa.alloc _ = wb at O BX hHeld ⊢
  obtain ⟨hx0, hx1, hx2, hx3⟩ := cells4 BX.out
  have hy0 := blk_frozen BX.out 0
  have hy1 := blk_frozen BX.out 1
  have hy2 := blk_frozen BX.out 2
  have hy3 := blk_frozen BX.out 3
  refine last_ (i := 14) (N := none) (zB 15 0) rfl rfl (by kernel_rfl) (by decide) (fun K hK => ?_)
  refine skip_ (w1 := ?_) (by rfl) rfl ?_ ?_
  rotate_left
  ·go_simp
   rfl
  refine hK.out _ _ ?_
  clear hK K
  refine done_ (by kernel_rfl) ?_
  have O2 := Aside0.mk (O.out.far BX.out GX.out.1 GX.out.2.1 GX.out.2.2.1 GX.out.2.2.2 (.bool false) (.slice (some ⟨gk, 0, none⟩) n n) (.slice none 0 0) (.slice (some ⟨gd, 0, none⟩) (n + 1) (n + 1)))
  have BX2 := Aside0.mk (pageB BX.out (.bool false) (.slice (some ⟨gk, 0, none⟩) n n) (.slice none 0 0) (.slice (some ⟨gd, 0, none⟩) (n + 1) (n + 1)))
  clear O BX hx0 hx1 hx2 hx3 hy0 hy1 hy2 hy3 hHeld
  have O := O2
  have BX := BX2
  clear O2 BX2
  generalize World.setCell _ _ _ = wc at O BX ⊢
  go_wp2_with fail
  obtain ⟨ce_, hcl, hMe, hcc, hfr⟩ := Kd.R_elem O.out.K [] (n : Int) (Int.natCast_nonneg _) (by have := HN.out; omega)
  obtain ⟨ve, rfl, hRe⟩ := hMe
  obtain ⟨Ae, ce, rfl⟩ := Kd.R_slice hRe
  have hx_ := hcc 0 _ rfl
  simp only [show (Kd.slice 5 (Kd.int .u8)).sz = 1 from rfl, Nat.mul_one, Nat.add_zero, Int.toNat_natCast] at hx_ hRe
  obtain ⟨curk, hck_⟩ := Kd.R_typed O.out.K gk rfl
  have he_ := (blk_cell hck_ n).symm.trans hx_
  have hxn : o2.getD n [] = rd_L1 o2 (n : Int) := by unfold rd_L1; rw [Int.toNat_natCast]
  rw [hxn] at he_ hRe
  clear hxn hx_ hcl hcc hfr
  obtain ⟨x, hxe⟩ : ∃ x, x = rd_L1 o2 (n : Int) := ⟨_, rfl⟩
  rw [← hxe] at he_ hRe
  (try rw [← hxe] at HCB)
  (try rw [← hxe])
  have HXE := Aside0.mk hxe
  clear hxe
  have BE := Aside0.mk hck_
  have HE := Aside0.mk he_
  have RE := Aside0.mk (Kd.R_mono hRe (ok' := fun _ => True) (fun _ _ => trivial))
  have NE : Aside0 (gk ≠ ga) := ⟨fun e_ => Kd.R_ne O.out.K O.out.BA (by decide) (by rw [← e_]; rfl)⟩
  clear hck_ he_ hRe
  have O2 := Aside0.mk O.out.drew
  have BX2 := Aside0.mk (blk_drew BX.out)
  have BE2 := Aside0.mk (blk_drew BE.out)
  have RE2 := Aside0.mk (Kd.R_drew RE.out)
  clear O BX BE RE
  have O := O2
  have BX := BX2
  have BE := BE2
  have RE := RE2
  clear O2 BX2 BE2 RE2
  refine start_ (n := 21) (S := fun w' => w'.cell? ⟨gc, 0, none⟩ = some (.bool o1) ∧ w'.cell? ⟨gc, 1, none⟩ = some (.slice (some ⟨gk, 0, none⟩) o2.length ck) ∧ w'.cell? ⟨gc, 2, none⟩ = some (.slice Av o3.length cv) ∧ w'.cell? ⟨gc, 3, none⟩ = some (.slice (some ⟨gd, 0, none⟩) o4.length cd) ∧ w'.cell? ⟨gx, 0, none⟩ = some (.bool false) ∧ w'.cell? ⟨gx, 1, none⟩ = some (.slice (some ⟨gk, 0, none⟩) n n) ∧ w'.cell? ⟨gx, 2, none⟩ = some (.slice none 0 0) ∧ w'.cell? ⟨gx, 3, none⟩ = some (.slice (some ⟨gd, 0, none⟩) (n + 1) (n + 1)) ∧ w'.cell? ⟨gk, n, none⟩ = some (.slice Ae x.length ce)) (ds := [19]) (zB 0 21) (by kernel_rfl) rfl rfl ⟨(cells4 O.out.BC).1, (cells4 O.out.BC).2.1, (cells4 O.out.BC).2.2.1, (cells4 O.out.BC).2.2.2, (cells4 BX.out).1, (cells4 BX.out).2.1, (cells4 BX.out).2.2.1, (cells4 BX.out).2.2.2, (blk_cell BE.out n).trans HE.out⟩ (fun hHeld => ?_)
  generalize World.drew _ = wd at O BX BE RE hHeld ⊢
  obtain ⟨ha0, ha1, ha2, ha3⟩ := cells4 O.out.BA
  obtain ⟨hb0, hb1, hb2, hb3⟩ := cells4 O.out.BB
  have hfa0 := blk_frozen O.out.BA 0
  have hfa1 := blk_frozen O.out.BA 1
  have hfa2 := blk_frozen O.out.BA 2
  have hfa3 := blk_frozen O.out.BA 3
  have hfb0 := blk_frozen O.out.BB 0
  have hfb1 := blk_frozen O.out.BB 1
  have hfb2 := blk_frozen O.out.BB 2
  have hfb3 := blk_frozen O.out.BB 3
  have hne3 : ¬ ga = gb := O.out.ne3
  have hne4 : ¬ gb = ga := Ne.symm O.out.ne3
  refine zpu 1 (some 87) #[false, true, false, false, false, false, false, false, false, false, false, false, false, false, false, false, false, false, false, false, false] (by kernel_rfl) ?_
  refine zpu 3 (some 89) #[false, true, false, true, false, false, false, false, false, false, false, false, false, false, false, false, false, false, false, false, false] (by kernel_rfl) ?_
  refine zpu 6 (some 92) #[false, true, false, true, false, false, true, false, false, false, false, false, false, false, false, false, false, false, false, false, false] (by kernel_rfl) ?_
  refine zpu 8 (some 94) #[false, true, false, true, false, false, true, false, true, false, false, false, false, false, false, false, false, false, false, false, false] (by kernel_rfl) ?_
  refine zpu 9 (some 95) #[false, true, false, true, false, false, true, false, true, true, false, false, false, false, false, false, false, false, false, false, false] (by kernel_rfl) ?_
  refine zpu 11 (some 97) #[false, true, false, true, false, false, true, false, true, true, false, true, false, false, false, false, false, false, false, false, false] (by kernel_rfl) ?_
  refine zpu 13 (some 99) #[false, true, false, true, false, false, true, false, true, true, false, true, false, true, false, false, false, false, false, false, false] (by kernel_rfl) ?_
  refine zpu 14 (some 100) #[false, true, false, true, false, false, true, false, true, true, false, true, false, true, true, false, false, false, false, false, false] (by kernel_rfl) ?_
  refine zta 0 (some 86) #[true, true, false, true, false, false, true, false, true, true, false, true, false, true, true, false, false, false, false, false, false] (by kernel_rfl) hHeld ?_
  refine zta 2 (some 88) #[true, true, true, true, false, false, true, false, true, true, false, true, false, true, true, false, false, false, false, false, false] (by kernel_rfl) hHeld ?_
  refine zpu 4 (some 90) #[true, true, true, true, true, false, true, false, true, true, false, true, false, true, true, false, false, false, false, false, false] (by kernel_rfl) ?_
  refine zta 5 (some 91) #[true, true, true, true, true, true, true, false, true, true, false, true, false, true, true, false, false, false, false, false, false] (by kernel_rfl) hHeld ?_
  refine zta 7 (some 93) #[true, true, true, true, true, true, true, true, true, true, false, true, false, true, true, false, false, false, false, false, false] (by kernel_rfl) hHeld ?_
  refine zpu 10 (some 96) #[true, true, true, true, true, true, true, true, true, true, true, true, false, true, true, false, false, false, false, false, false] (by kernel_rfl) ?_
  refine zta 12 (some 98) (zB 15 6) (by kernel_rfl) hHeld ?_
  refine zpu 15 (some 101) (zB 16 5) (by kernel_rfl) ?_
  refine zpu 16 (some 102) (zB 17 4) (by kernel_rfl) ?_
  refine one_ (i := 17) (N := none) (zB 18 3) rfl rfl (by kernel_rfl) (by decide) (fun K hK => ?_)
  refine skip_ (w1 := ?_) (by rfl) rfl ?_ ?_
  rotate_left
  ·go_simp
   rfl
  refine hK.out _ _ ⟨(cells4 (pageF O.out.BC (Ne.symm O.out.ne1) (.bool false) (.slice (some ⟨gk, 0, none⟩) n n) (.slice none 0 0) (.slice (some ⟨gd, 0, none⟩) (n + 1) (n + 1)))).1, (cells4 (pageF O.out.BC (Ne.symm O.out.ne1) (.bool false) (.slice (some ⟨gk, 0, none⟩) n n) (.slice none 0 0) (.slice (some ⟨gd, 0, none⟩) (n + 1) (n + 1)))).2.1, (cells4 (pageF O.out.BC (Ne.symm O.out.ne1) (.bool false) (.slice (some ⟨gk, 0, none⟩) n n) (.slice none 0 0) (.slice (some ⟨gd, 0, none⟩) (n + 1) (n + 1)))).2.2.1, (cells4 (pageF O.out.BC (Ne.symm O.out.ne1) (.bool false) (.slice (some ⟨gk, 0, none⟩) n n) (.slice none 0 0) (.slice (some ⟨gd, 0, none⟩) (n + 1) (n + 1)))).2.2.2, (cells4 (pageF BX.out (Ne.symm GX.out.2.2.1) (.bool false) (.slice (some ⟨gk, 0, none⟩) n n) (.slice none 0 0) (.slice (some ⟨gd, 0, none⟩) (n + 1) (n + 1)))).1, (cells4 (pageF BX.out (Ne.symm GX.out.2.2.1) (.bool false) (.slice (some ⟨gk, 0, none⟩) n n) (.slice none 0 0) (.slice (some ⟨gd, 0, none⟩) (n + 1) (n + 1)))).2.1, (cells4 (pageF BX.out (Ne.symm GX.out.2.2.1) (.bool false) (.slice (some ⟨gk, 0, none⟩) n n) (.slice none 0 0) (.slice (some ⟨gd, 0, none⟩) (n + 1) (n + 1)))).2.2.1, (cells4 (pageF BX.out (Ne.symm GX.out.2.2.1) (.bool false) (.slice (some ⟨gk, 0, none⟩) n n) (.slice none 0 0) (.slice (some ⟨gd, 0, none⟩) (n + 1) (n + 1)))).2.2.2, (blk_cell (pageF BE.out NE.out (.bool false) (.slice (some ⟨gk, 0, none⟩) n n) (.slice none 0 0) (.slice (some ⟨gd, 0, none⟩) (n + 1) (n + 1))) n).trans HE.out⟩ (fun hHeld => ?_)
  clear hK K
  refine zpu 18 (some 3) (zB 19 2) (by kernel_rfl) ?_
  refine last_ (i := 19) (N := none) (zB 20 1) rfl rfl (by kernel_rfl) (by decide) (fun K hK => ?_)
  refine skip_ (w1 := ?_) (by rfl) rfl ?_ ?_
  rotate_left
  ·go_simp
   rfl
  refine hK.out _ _ ?_
  clear hK K
  refine zpu 20 (some 5) (zB 21 0) (by kernel_rfl) ?_
  refine done_ (by kernel_rfl) ?_
  go_wp2
  obtain ⟨W2, hW2, e1, e2, e3, e4, e5, e6⟩ := O.out.end_ (.bool false) (.slice (some ⟨gk, 0, none⟩) n n) (.slice none 0 0) (.slice (some ⟨gd, 0, none⟩) (n + 1) (n + 1)) (.bool false) (.slice AK (o2.length - (n + 1)) (ck - (n + 1))) (.slice none 0 0) (.slice AD (o4.length - (n + 1)) (cd - (n + 1)))
  have hRB := pageR (pageR RE.out O.out.BA (by decide) (.bool false) (.slice (some ⟨gk, 0, none⟩) n n) (.slice none 0 0) (.slice (some ⟨gd, 0, none⟩) (n + 1) (n + 1))) (pageF O.out.BB (Ne.symm O.out.ne3) (.bool false) (.slice (some ⟨gk, 0, none⟩) n n) (.slice none 0 0) (.slice (some ⟨gd, 0, none⟩) (n + 1) (n + 1))) (by decide) (.bool false) (.slice AK (o2.length - (n + 1)) (ck - (n + 1))) (.slice none 0 0) (.slice AD (o4.length - (n + 1)) (cd - (n + 1)))
  rw [← hW2] at hRB
  rw [← hW2]
  refine bodyPost_ret (results_list (rs := [.cell 2 26, .tmp 3, .cell 4 26, .tmp 5]) rfl (by simp) (Vals.cell ga 26 #[.bool false, .slice (some ⟨gk, 0, none⟩) n n, .slice none 0 0, .slice (some ⟨gd, 0, none⟩) (n + 1) (n + 1)] (0, 0) _ rfl e1 Try.underlying26 rfl (by kernel_rfl) (Vals.tmp (Vals.cell gb 26 #[.bool false, .slice AK (o2.length - (n + 1)) (ck - (n + 1)), .slice none 0 0, .slice AD (o4.length - (n + 1)) (cd - (n + 1))] (0, 0) _ rfl e2 Try.underlying26 rfl (by kernel_rfl) (Vals.tmp Vals.nil))))) rfl ⟨_, _, _, _, _, _, _, rfl, V_takeU e4 n n f5 (Nat.le_refl _), Kd.V_nil _ _ _ _ _, V_takeU e6 (n + 1) (n + 1) f6 (Nat.le_refl _), ?_, V_dropU e4 (n + 1) f9 AK (by rw [← hAK]; simp [Kd.slice]), Kd.V_nil _ _ _ _ _, V_dropU e6 (n + 1) f6 AD (by rw [← hAD]; simp [Kd.int, Kd.scalar]), e3⟩
  rw [← HXE.out]
  exact R_VU hRB
 | true =>
  rw [if_neg (fun h => h.elim h2 (fun h => Bool.noConfusion h.2))] at H
  by_cases h3 : l0_1.length < 3
  case' pos =>
   have y3 : decide ((l0_1.length : Int) < 3) = true := decide_eq_true (by omega)
   have y3n : decide (l0_1.length < 3) = true := decide_eq_true h3
  case' neg =>
   have y3 : decide ((l0_1.length : Int) < 3) = false := decide_eq_false (by omega)
   have y3n : decide (l0_1.length < 3) = false := decide_eq_false h3
  all_goals
   clear h2 h3
   replace H := Option.bind_eq_some_iff.mp H
   obtain ⟨⟨o1, o2, o3, o4⟩, ho, H⟩ := H
   have HO := Aside0.mk ho
   have HH := Aside0.mk H
   clear ho H
   go_wp2_with fail
   refine (node_own.calls k true A0_1 c0_1 l0_1 A0_2 c0_2 l0_2 A0_3 c0_3 l0_3 o1 o2 o3 o4 _ (Kd.C_below R1.out HB4.out) L1.out (Kd.C_below R2.out HB4.out) L2.out (Kd.C_below R3.out HB4.out) L3.out HO.out).mono ?_
   rintro e w5 ⟨v1, v2, v3, rfl, hS1, hS2, hR3, hb5⟩
   obtain ⟨Ak, ck, rfl⟩ := Kd.R_slice (Kd.S_R hS1)
   obtain ⟨Av, cv, rfl⟩ := Kd.R_slice (Kd.S_R hS2)
   obtain ⟨Ad, cd, rfl⟩ := Kd.R_slice hR3
   have S1 := Aside0.mk (Kd.R_mono (Kd.R_lower (Kd.S_R hS1) HB4.out.size) (ok' := fun _ => True) (fun _ _ => trivial))
   have S2 := Aside0.mk (Kd.R_mono (Kd.R_lower (Kd.S_R hS2) HB4.out.size) (ok' := fun _ => True) (fun _ _ => trivial))
   have S3 := Aside0.mk (Kd.R_lower hR3 HB4.out.size)
   have BP5 := Aside0.mk (blk_below BP4.out hb5)
   have BA5 := Aside0.mk (blk_below BA4.out hb5)
   have BB5 := Aside0.mk (blk_below BB4.out hb5)
   have HB5 := Aside0.mk (below_step HB4.out hb5)
   clear hc0 hc1 hc2 hc3 hb5 BP4 BA4 BB4 HB4 hS1 hS2 hR3 HO
   have H := HH.out
   clear HH
   first | rw [if_pos trivial] at H | rw [if_pos rfl] at H
   replace H := Option.bind_eq_some_iff.mp H
   obtain ⟨i, hi_, H⟩ := H
   have HI := Aside0.mk hi_
   have HH := Aside0.mk H
   clear hi_ H
   go_wp2_with (first | ((with_reducible refine gate_dst (N := 8) rfl ?_); refine box_event ?hg (N := 8) ?hd (cs := #[.bool false, .slice none 0 0, .slice none 0 0, .slice none 0 0]) (t := 26) ?hr ?_; (case hd => rfl); (case hg => rfl); (case hr => first | (go_simp; done) | (go_simp; rfl)); intro gc hgc w6 hbox hb; have GC : Aside0 (w.heap.size ≤ gc ∧ ga ≠ gc ∧ gb ≠ gc ∧ gp ≠ gc) := ⟨by rw [hgc]; exact HB5.out.size, by rw [hgc]; exact Nat.ne_of_lt (blk_lt BA5.out), by rw [hgc]; exact Nat.ne_of_lt (blk_lt BB5.out), by rw [hgc]; exact Nat.ne_of_lt (blk_lt BP5.out)⟩; have BC := Aside0.mk hbox; have BP6 := Aside0.mk (blk_below BP5.out hb); have BA6 := Aside0.mk (blk_below BA5.out hb); have BB6 := Aside0.mk (blk_below BB5.out hb); have HB6 := Aside0.mk (below_step HB5.out hb); have T1 := Aside0.mk (Kd.R_below S1.out hb); have T2 := Aside0.mk (Kd.R_below S2.out hb); have T3 := Aside0.mk (Kd.R_below S3.out hb); obtain ⟨hd0, hd1, hd2, hd3⟩ := cells4 BC.out; have hf0 := blk_frozen BC.out 0; have hf1 := blk_frozen BC.out 1; have hf2 := blk_frozen BC.out 2; have hf3 := blk_frozen BC.out 3; obtain ⟨hc0, hc1, hc2, hc3⟩ := cells4 BP6.out; have hne1 : ¬ gc = gp := Ne.symm GC.out.2.2.2; have hne2 : ¬ gp = gc := GC.out.2.2.2; clear hbox hb hgc BP5 BA5 BB5 HB5 S1 S2 S3))
   have O : Aside0 (SplP w ((((w6.setCell ⟨gc, 0, none⟩ (.bool o1)).setCell ⟨gc, 1, none⟩ (.slice Ak o2.length ck)).setCell ⟨gc, 2, none⟩ (.slice Av o3.length cv)).setCell ⟨gc, 3, none⟩ (.slice Ad o4.length cd)) gc ga gb o1 Ak ck o2 Av cv o3 Ad cd o4) :=
    ⟨pageB BC.out _ _ _ _, pageF BA6.out GC.out.2.1 _ _ _ _, pageF BB6.out GC.out.2.2.1 _ _ _ _, pageW HB6.out GC.out.1 _ _ _ _, pageR T1.out BC.out (by decide) _ _ _ _, pageR T2.out BC.out (by decide) _ _ _ _, pageR T3.out BC.out (by decide) _ _ _ _, GC.out.1, GA.out, GB.out.1, GC.out.2.1, GC.out.2.2.1, GB.out.2⟩
   clear T1 T2 T3 BC BA6 BB6 HB6 BP6 hd0 hd1 hd2 hd3 hf0 hf1 hf2 hf3 hc0 hc1 hc2 hc3 hne1 hne2 GC GA GB
   refine (node_half.calls k true A0_1 c0_1 l0_1 A0_2 c0_2 l0_2 A0_3 c0_3 l0_3 i _ (Kd.C_below R1.out O.out.HB) L1.out (Kd.C_below R2.out O.out.HB) L2.out (Kd.C_below R3.out O.out.HB) L3.out HI.out).mono ?_
   rintro e w7 ⟨rfl, hb7⟩
   have O2 := Aside0.mk (O.out.below hb7)
   clear hb7 O HI
   have O := O2
   clear O2
   have H := HH.out
   clear HH
   by_cases hc : 0 < i ∧ i < (o2.length : Int) ∧ i ≤ (o3.length : Int) ∧ o2.length < 9223372036854775807 ∧ o3.length < 9223372036854775807
   case neg => rw [if_neg hc] at H; cases H
   case pos =>
   rw [if_pos hc] at H
   obtain ⟨n, rfl⟩ := Int.eq_ofNat_of_zero_le (Int.le_of_lt hc.1)
   replace H := Option.bind_eq_some_iff.mp H
   obtain ⟨bb, hbb, H⟩ := H
   have HCB := Aside0.mk hbb
   simp only [Option.some.injEq, Prod.mk.injEq, Int.toNat_natCast] at H
   obtain ⟨rfl, rfl, rfl, rfl, rfl, rfl, rfl, rfl, rfl, rfl⟩ := H
   have HN : Aside0 (0 < n ∧ n < o2.length ∧ n ≤ o3.length) := ⟨by omega⟩
   clear hc hbb
   obtain ⟨gk, c_, e_, _, _, curk, hk⟩ := Kd.R_form O.out.K (by have := HN.out; omega)
   injection e_ with e1_ _ e2_
   subst e1_
   subst e2_
   obtain ⟨gv, c_, e_, _, _, curv, hv⟩ := Kd.R_form O.out.V (by have := HN.out; omega)
   injection e_ with e1_ _ e2_
   subst e1_
   subst e2_
   clear hk hv
   have HCK := Aside0.mk (Kd.R_reads' O.out.K).2.1
   have HCV := Aside0.mk (Kd.R_reads' O.out.V).2.1
   have f1 : n ≤ ck := by have := HN.out; have := HCK.out; omega
   have f2 : n ≤ cv := by have := HN.out; have := HCV.out; omega
   have f3 : (n : Int) ≤ (ck : Int) := by omega
   have f4 : (n : Int) ≤ (cv : Int) := by omega
   have f5 : n ≤ o2.length := by have := HN.out; omega
   have f6 : n ≤ o3.length := by have := HN.out; omega
   have f7 : (n : Int) < (o2.length : Int) := by have := HN.out; omega
   have f8 : n < o2.length := HN.out.2.1
   obtain ⟨AK, hAK⟩ : ∃ A, (if ck = n then some (⟨gk, 0, none⟩ : Addr) else some ⟨gk, n, none⟩) = A := ⟨_, rfl⟩
   obtain ⟨AV, hAV⟩ : ∃ A, (if cv = n then some (⟨gv, 0, none⟩ : Addr) else some ⟨gv, n, none⟩) = A := ⟨_, rfl⟩
   go_wp2_with fail
   have O2 := Aside0.mk O.out.drew
   clear O
   have O := O2
   clear O2
   refine start_ (n := 13) (S := fun w' => w'.cell? ⟨gc, 0, none⟩ = some (.bool o1) ∧ w'.cell? ⟨gc, 1, none⟩ = some (.slice (some ⟨gk, 0, none⟩) o2.length ck) ∧ w'.cell? ⟨gc, 2, none⟩ = some (.slice (some ⟨gv, 0, none⟩) o3.length cv) ∧ w'.cell? ⟨gc, 3, none⟩ = some (.slice Ad o4.length cd)) (ds := [12]) (zB 0 13) (by kernel_rfl) rfl rfl ⟨(cells4 O.out.BC).1, (cells4 O.out.BC).2.1, (cells4 O.out.BC).2.2.1, (cells4 O.out.BC).2.2.2⟩ (fun hHeld => ?_)
   generalize World.drew _ = wa at O hHeld ⊢
   refine zpu 0 (some 44) (zB 1 12) (by kernel_rfl) ?_
   refine zpu 2 (some 46) #[true, false, true, false, false, false, false, false, false, false, false, false, false] (by kernel_rfl) ?_
   refine zpu 3 (some 47) #[true, false, true, true, false, false, false, false, false, false, false, false, false] (by kernel_rfl) ?_
   refine zpu 5 (some 49) #[true, false, true, true, false, true, false, false, false, false, false, false, false] (by kernel_rfl) ?_
   refine zpu 7 (some 51) #[true, false, true, true, false, true, false, true, false, false, false, false, false] (by kernel_rfl) ?_
   refine zpu 8 (some 52) #[true, false, true, true, false, true, false, true, true, false, false, false, false] (by kernel_rfl) ?_
   refine zta 1 (some 45) #[true, true, true, true, false, true, false, true, true, false, false, false, false] (by kernel_rfl) hHeld ?_
   refine zpu 4 (some 48) #[true, true, true, true, true, true, false, true, true, false, false, false, false] (by kernel_rfl) ?_
   refine zta 6 (some 50) (zB 9 4) (by kernel_rfl) hHeld ?_
   refine zpu 9 (some 53) (zB 10 3) (by kernel_rfl) ?_
   refine zpu 10 (some 54) (zB 11 2) (by kernel_rfl) ?_
   refine one_ (i := 11) (N := some 10) (zB 12 1) rfl rfl (by kernel_rfl) (by decide) (fun K hK => ?_)
   refine value_ (w1 := ?_) (v := ?_) (by rfl) rfl ?_ ?_
   rotate_left 2
   ·go_simp
    constructor
    ·rfl
    ·rfl
   have hb := below_alloc (Below.refl _ wa) (.cells #[.bool false, .slice none 0 0, .slice none 0 0, .slice none 0 0] 26)
   have BX := Aside0.mk (MapKept.heap_alloc wa (.cells #[.bool false, .slice none 0 0, .slice none 0 0, .slice none 0 0] 26 (0, 0))).1
   have GX : Aside0 (w.heap.size ≤ wa.heap.size ∧ gc ≠ wa.heap.size ∧ ga ≠ wa.heap.size ∧ gb ≠ wa.heap.size) := ⟨O.out.HB.size, Nat.ne_of_lt (blk_lt O.out.BC), Nat.ne_of_lt (blk_lt O.out.BA), Nat.ne_of_lt (blk_lt O.out.BB)⟩
   have O2 := Aside0.mk (O.out.below hb)
   clear O hb
   have O := O2
   clear O2
   refine hK.out _ _ ⟨(cells4 O.out.BC).1, (cells4 O.out.BC).2.1, (cells4 O.out.BC).2.2.1, (cells4 O.out.BC).2.2.2⟩ (fun hHeld => ?_)
   clear hK K
   refine zno 10 ?_
   generalize hgx : wa.heap.size = gx at BX GX ⊢
   clear hgx
   generalize wa.alloc _ = wb at O BX hHeld ⊢
   obtain ⟨hx0, hx1, hx2, hx3⟩ := cells4 BX.out
   have hy0 := blk_frozen BX.out 0
   have hy1 := blk_frozen BX.out 1
   have hy2 := blk_frozen BX.out 2
   have hy3 := blk_frozen BX.out 3
   refine last_ (i := 12) (N := none) (zB 13 0) rfl rfl (by kernel_rfl) (by decide) (fun K hK => ?_)
   refine skip_ (w1 := ?_) (by rfl) rfl ?_ ?_
   rotate_left
   ·go_simp
    rfl
   refine hK.out _ _ ?_
   clear hK K
   refine done_ (by kernel_rfl) ?_
   have O2 := Aside0.mk (O.out.far BX.out GX.out.1 GX.out.2.1 GX.out.2.2.1 GX.out.2.2.2 (.bool true) (.slice (some ⟨gk, 0, none⟩) n n) (.slice (some ⟨gv, 0, none⟩) n n) (.slice none 0 0))
   have BX2 := Aside0.mk (pageB BX.out (.bool true) (.slice (some ⟨gk, 0, none⟩) n n) (.slice (some ⟨gv, 0, none⟩) n n) (.slice none 0 0))
   clear O BX hx0 hx1 hx2 hx3 hy0 hy1 hy2 hy3 hHeld
   have O := O2
   have BX := BX2
   clear O2 BX2
   generalize World.setCell _ _ _ = wc at O BX ⊢
   go_wp2_with fail
   obtain ⟨ce_, hcl, hMe, hcc, hfr⟩ := Kd.R_elem O.out.K [] (n : Int) (Int.natCast_nonneg _) (by have := HN.out; omega)
   obtain ⟨ve, rfl, hRe⟩ := hMe
   obtain ⟨Ae, ce, rfl⟩ := Kd.R_slice hRe
   have hx_ := hcc 0 _ rfl
   simp only [show (Kd.slice 5 (Kd.int .u8)).sz = 1 from rfl, Nat.mul_one, Nat.add_zero, Int.toNat_natCast] at hx_ hRe
   obtain ⟨curk, hck_⟩ := Kd.R_typed O.out.K gk rfl
   have he_ := (blk_cell hck_ n).symm.trans hx_
   have hxn : o2.getD n [] = rd_L1 o2 (n : Int) := by unfold rd_L1; rw [Int.toNat_natCast]
   rw [hxn] at he_ hRe
   clear hxn hx_ hcl hcc hfr
   obtain ⟨x, hxe⟩ : ∃ x, x = rd_L1 o2 (n : Int) := ⟨_, rfl⟩
   rw [← hxe] at he_ hRe
   (try rw [← hxe] at HCB)
   (try rw [← hxe])
   have HXE := Aside0.mk hxe
   clear hxe
   have BE := Aside0.mk hck_
   have HE := Aside0.mk he_
   have RE := Aside0.mk (Kd.R_mono hRe (ok' := fun _ => True) (fun _ _ => trivial))
   have NE : Aside0 (gk ≠ ga) := ⟨fun e_ => Kd.R_ne O.out.K O.out.BA (by decide) (by rw [← e_]; rfl)⟩
   clear hck_ he_ hRe
   have O2 := Aside0.mk O.out.drew
   have BX2 := Aside0.mk (blk_drew BX.out)
   have BE2 := Aside0.mk (blk_drew BE.out)
   have RE2 := Aside0.mk (Kd.R_drew RE.out)
   clear O BX BE RE
   have O := O2
   have BX := BX2
   have BE := BE2
   have RE := RE2
   clear O2 BX2 BE2 RE2
   refine start_ (n := 20) (S := fun w' => w'.cell? ⟨gc, 0, none⟩ = some (.bool o1) ∧ w'.cell? ⟨gc, 1, none⟩ = some (.slice (some ⟨gk, 0, none⟩) o2.length ck) ∧ w'.cell? ⟨gc, 2, none⟩ = some (.slice (some ⟨gv, 0, none⟩) o3.length cv) ∧ w'.cell? ⟨gc, 3, none⟩ = some (.slice Ad o4.length cd) ∧ w'.cell? ⟨gx, 0, none⟩ = some (.bool true) ∧ w'.cell? ⟨gx, 1, none⟩ = some (.slice (some ⟨gk, 0, none⟩) n n) ∧ w'.cell? ⟨gx, 2, none⟩ = some (.slice (some ⟨gv, 0, none⟩) n n) ∧ w'.cell? ⟨gx, 3, none⟩ = some (.slice none 0 0) ∧ w'.cell? ⟨gk, n, none⟩ = some (.slice Ae x.length ce)) (ds := [18]) (zB 0 20) (by kernel_rfl) rfl rfl ⟨(cells4 O.out.BC).1, (cells4 O.out.BC).2.1, (cells4 O.out.BC).2.2.1, (cells4 O.out.BC).2.2.2, (cells4 BX.out).1, (cells4 BX.out).2.1, (cells4 BX.out).2.2.1, (cells4 BX.out).2.2.2, (blk_cell BE.out n).trans HE.out⟩ (fun hHeld => ?_)
   generalize World.drew _ = wd at O BX BE RE hHeld ⊢
   refine zpu 1 (some 56) #[false, true, false, false, false, false, false, false, false, false, false, false, false, false, false, false, false, false, false, false] (by kernel_rfl) ?_
   refine zpu 3 (some 58) #[false, true, false, true, false, false, false, false, false, false, false, false, false, false, false, false, false, false, false, false] (by kernel_rfl) ?_
   refine zpu 7 (some 62) #[false, true, false, true, false, false, false, true, false, false, false, false, false, false, false, false, false, false, false, false] (by kernel_rfl) ?_
   refine zpu 9 (some 64) #[false, true, false, true, false, false, false, true, false, true, false, false, false, false, false, false, false, false, false, false] (by kernel_rfl) ?_
   refine zpu 11 (some 66) #[false, true, false, true, false, false, false, true, false, true, false, true, false, false, false, false, false, false, false, false] (by kernel_rfl) ?_
   refine zpu 13 (some 68) #[false, true, false, true, false, false, false, true, false, true, false, true, false, true, false, false, false, false, false, false] (by kernel_rfl) ?_
   refine zta 0 (some 55) #[true, true, false, true, false, false, false, true, false, true, false, true, false, true, false, false, false, false, false, false] (by kernel_rfl) hHeld ?_
   refine zta 2 (some 57) #[true, true, true, true, false, false, false, true, false, true, false, true, false, true, false, false, false, false, false, false] (by kernel_rfl) hHeld ?_
   refine zpu 4 (some 59) #[true, true, true, true, true, false, false, true, false, true, false, true, false, true, false, false, false, false, false, false] (by kernel_rfl) ?_
   refine zta 5 (some 60) #[true, true, true, true, true, true, false, true, false, true, false, true, false, true, false, false, false, false, false, false] (by kernel_rfl) hHeld ?_
   refine zta 8 (some 63) #[true, true, true, true, true, true, false, true, true, true, false, true, false, true, false, false, false, false, false, false] (by kernel_rfl) hHeld ?_
   refine zpu 10 (some 65) #[true, true, true, true, true, true, false, true, true, true, true, true, false, true, false, false, false, false, false, false] (by kernel_rfl) ?_
   refine zta 12 (some 67) #[true, true, true, true, true, true, false, true, true, true, true, true, true, true, false, false, false, false, false, false] (by kernel_rfl) hHeld ?_
   refine zpu 14 (some 69) #[true, true, true, true, true, true, false, true, true, true, true, true, true, true, true, false, false, false, false, false] (by kernel_rfl) ?_
   refine zpu 15 (some 70) #[true, true, true, true, true, true, false, true, true, true, true, true, true, true, true, true, false, false, false, false] (by kernel_rfl) ?_
   refine one_ (i := 6) (N := some 61) (zB 16 4) rfl rfl (by kernel_rfl) (by decide) (fun K hK => ?_)
   refine goes_ Try.func27 (by kernel_rfl) rfl #[.slice Ae x.length ce] (by rfl) rfl rfl zl_ ?_
   refine (bytes_Clone.calls _ _ x bb _ (Kd.R_reads' RE.out).2.2 (Kd.R_reads' RE.out).2.1 HCB.out).mono ?_
   rintro e we ⟨vb, rfl, hRb, hb⟩
   obtain ⟨Ab, cb, rfl⟩ := Kd.R_slice hRb
   refine ⟨_, rfl, ?_⟩
   have RB := Aside0.mk (Kd.R_lower hRb O.out.HB.size)
   have O2 := Aside0.mk (O.out.below hb)
   have BX2 := Aside0.mk (blk_below BX.out hb)
   have BE2 := Aside0.mk (blk_below BE.out hb)
   clear O BX BE RE hRb hb
   have O := O2
   have BX := BX2
   have BE := BE2
   clear O2 BX2 BE2
   obtain ⟨ha0, ha1, ha2, ha3⟩ := cells4 O.out.BA
   obtain ⟨hb0, hb1, hb2, hb3⟩ := cells4 O.out.BB
   have hfa0 := blk_frozen O.out.BA 0
   have hfa1 := blk_frozen O.out.BA 1
   have hfa2 := blk_frozen O.out.BA 2
   have hfa3 := blk_frozen O.out.BA 3
   have hfb0 := blk_frozen O.out.BB 0
   have hfb1 := blk_frozen O.out.BB 1
   have hfb2 := blk_frozen O.out.BB 2
   have hfb3 := blk_frozen O.out.BB 3
   have hne3 : ¬ ga = gb := O.out.ne3
   have hne4 : ¬ gb = ga := Ne.symm O.out.ne3
   refine hK.out _ _ ⟨(cells4 O.out.BC).1, (cells4 O.out.BC).2.1, (cells4 O.out.BC).2.2.1, (cells4 O.out.BC).2.2.2, (cells4 BX.out).1, (cells4 BX.out).2.1, (cells4 BX.out).2.2.1, (cells4 BX.out).2.2.2, (blk_cell BE.out n).trans HE.out⟩ (fun hHeld => ?_)
   clear hK K
   refine zno 61 ?_
   refine one_ (i := 16) (N := none) (zB 17 3) rfl rfl (by kernel_rfl) (by decide) (fun K hK => ?_)
   refine skip_ (w1 := ?_) (by rfl) rfl ?_ ?_
   rotate_left
   ·go_simp
    rfl
   refine hK.out _ _ ⟨(cells4 (pageF O.out.BC (Ne.symm O.out.ne1) (.bool true) (.slice (some ⟨gk, 0, none⟩) n n) (.slice (some ⟨gv, 0, none⟩) n n) (.slice none 0 0))).1, (cells4 (pageF O.out.BC (Ne.symm O.out.ne1) (.bool true) (.slice (some ⟨gk, 0, none⟩) n n) (.slice (some ⟨gv, 0, none⟩) n n) (.slice none 0 0))).2.1, (cells4 (pageF O.out.BC (Ne.symm O.out.ne1) (.bool true) (.slice (some ⟨gk, 0, none⟩) n n) (.slice (some ⟨gv, 0, none⟩) n n) (.slice none 0 0))).2.2.1, (cells4 (pageF O.out.BC (Ne.symm O.out.ne1) (.bool true) (.slice (some ⟨gk, 0, none⟩) n n) (.slice (some ⟨gv, 0, none⟩) n n) (.slice none 0 0))).2.2.2, (cells4 (pageF BX.out (Ne.symm GX.out.2.2.1) (.bool true) (.slice (some ⟨gk, 0, none⟩) n n) (.slice (some ⟨gv, 0, none⟩) n n) (.slice none 0 0))).1, (cells4 (pageF BX.out (Ne.symm GX.out.2.2.1) (.bool true) (.slice (some ⟨gk, 0, none⟩) n n) (.slice (some ⟨gv, 0, none⟩) n n) (.slice none 0 0))).2.1, (cells4 (pageF BX.out (Ne.symm GX.out.2.2.1) (.bool true) (.slice (some ⟨gk, 0, none⟩) n n) (.slice (some ⟨gv, 0, none⟩) n n) (.slice none 0 0))).2.2.1, (cells4 (pageF BX.out (Ne.symm GX.out.2.2.1) (.bool true) (.slice (some ⟨gk, 0, none⟩) n n) (.slice (some ⟨gv, 0, none⟩) n n) (.slice none 0 0))).2.2.2, (blk_cell (pageF BE.out NE.out (.bool true) (.slice (some ⟨gk, 0, none⟩) n n) (.slice (some ⟨gv, 0, none⟩) n n) (.slice none 0 0)) n).trans HE.out⟩ (fun hHeld => ?_)
   clear hK K
   refine zpu 17 (some 3) (zB 18 2) (by kernel_rfl) ?_
   refine last_ (i := 18) (N := none) (zB 19 1) rfl rfl (by kernel_rfl) (by decide) (fun K hK => ?_)
   refine skip_ (w1 := ?_) (by rfl) rfl ?_ ?_
   rotate_left
   ·go_simp
    rfl
   refine hK.out _ _ ?_
   clear hK K
   refine zpu 19 (some 5) (zB 20 0) (by kernel_rfl) ?_
   refine done_ (by kernel_rfl) ?_
   go_wp2
   obtain ⟨W2, hW2, e1, e2, e3, e4, e5, e6⟩ := O.out.end_ (.bool true) (.slice (some ⟨gk, 0, none⟩) n n) (.slice (some ⟨gv, 0, none⟩) n n) (.slice none 0 0) (.bool true) (.slice AK (o2.length - n) (ck - n)) (.slice AV (o3.length - n) (cv - n)) (.slice none 0 0)
   have hRB := pageR (pageR RB.out O.out.BA (by decide) (.bool true) (.slice (some ⟨gk, 0, none⟩) n n) (.slice (some ⟨gv, 0, none⟩) n n) (.slice none 0 0)) (pageF O.out.BB (Ne.symm O.out.ne3) (.bool true) (.slice (some ⟨gk, 0, none⟩) n n) (.slice (some ⟨gv, 0, none⟩) n n) (.slice none 0 0)) (by decide) (.bool true) (.slice AK (o2.length - n) (ck - n)) (.slice AV (o3.length - n) (cv - n)) (.slice none 0 0)
   rw [← hW2] at hRB
   rw [← hW2]
   refine bodyPost_ret (results_list (rs := [.cell 2 26, .tmp 3, .cell 4 26, .tmp 5]) rfl (by simp) (Vals.cell ga 26 #[.bool true, .slice (some ⟨gk, 0, none⟩) n n, .slice (some ⟨gv, 0, none⟩) n n, .slice none 0 0] (0, 0) _ rfl e1 Try.underlying26 rfl (by kernel_rfl) (Vals.tmp (Vals.cell gb 26 #[.bool true, .slice AK (o2.length - n) (ck - n), .slice AV (o3.length - n) (cv - n), .slice none 0 0] (0, 0) _ rfl e2 Try.underlying26 rfl (by kernel_rfl) (Vals.tmp Vals.nil))))) rfl ⟨_, _, _, _, _, _, _, rfl, V_takeU e4 n n f5 (Nat.le_refl _), V_takeU e5 n n f6 (Nat.le_refl _), Kd.V_nil _ _ _ _ _, R_VU hRB, V_dropU e4 n f5 AK (by rw [← hAK]; simp [Kd.slice]), V_dropU e5 n f6 AV (by rw [← hAV]; simp [Kd.slice]), Kd.V_nil _ _ _ _ _, e3⟩
theorem node_Split.calls (k : Nat) (a0_0 : Bool) (A0_1 : Option Addr) (c0_1 : Nat) (l0_1 : List (List Int)) (A0_2 : Option Addr) (c0_2 : Nat) (l0_2 : List (List Int)) (A0_3 : Option Addr) (c0_3 : Nat) (l0_3 : List Int) (r1 : Bool) (r2 : List (List Int)) (r3 : List (List Int)) (r4 : List Int) (r5 : List Int) (r6 : Bool) (r7 : List (List Int)) (r8 : List (List Int)) (r9 : List Int) (r10 : Int) (w : World) (hr0_1 : Kd.C (Kd.slice 5 (Kd.int .u8)) w A0_1 l0_1.length l0_1) (hc0_1 : l0_1.length ≤ c0_1) (hr0_2 : Kd.C (Kd.slice 5 (Kd.int .u8)) w A0_2 l0_2.length l0_2) (hc0_2 : l0_2.length ≤ c0_2) (hr0_3 : Kd.C (Kd.int .i64) w A0_3 l0_3.length l0_3) (hc0_3 : l0_3.length ≤ c0_3) (h : node_Split.f k a0_0 l0_1 l0_2 l0_3 = some (r1, r2, r3, r4, r5, r6, r7, r8, r9, r10)) :
  Calls Try.prog 18 #[.agg #[.bool a0_0, .slice A0_1 l0_1.length c0_1, .slice A0_2 l0_2.length c0_2, .slice A0_3 l0_3.length c0_3]] w fun e w' => ∃ v1_ v2_ v3_ v4_ v6_ v7_ v8_ : Value, e = .returned (.tuple #[.agg #[.bool r1, v1_, v2_, v3_], v4_, .agg #[.bool r6, v6_, v7_, v8_], .int .i64 r10]) ∧ Kd.V (Kd.slice 5 (Kd.int .u8)) 27 w' w.heap.size (fun k_ => (w.heap.size ≤ k_)) v1_ r2 ∧ Kd.V (Kd.slice 5 (Kd.int .u8)) 27 w' w.heap.size (fun k_ => (w.heap.size ≤ k_)) v2_ r3 ∧ Kd.V (Kd.int .i64) 3 w' w.heap.size (fun k_ => (w.heap.size ≤ k_)) v3_ r4 ∧ Kd.V (Kd.int .u8) 5 w' w.heap.size (fun k_ => (w.heap.size ≤ k_)) v4_ r5 ∧ Kd.V (Kd.slice 5 (Kd.int .u8)) 27 w' w.heap.size (fun k_ => (w.heap.size ≤ k_)) v6_ r7 ∧ Kd.V (Kd.slice 5 (Kd.int .u8)) 27 w' w.heap.size (fun k_ => (w.heap.size ≤ k_)) v7_ r8 ∧ Kd.V (Kd.int .i64) 3 w' w.heap.size (fun k_ => (w.heap.size ≤ k_)) v8_ r9 ∧ Below w.heap.size w w' := by
 refine (node_Split.calls_own k a0_0 A0_1 c0_1 l0_1 A0_2 c0_2 l0_2 A0_3 c0_3 l0_3 r1 r2 r3 r4 r5 r6 r7 r8 r9 r10 w hr0_1 hc0_1 hr0_2 hc0_2 hr0_3 hc0_3 h).mono ?_
 rintro e w' ⟨v1_, v2_, v3_, v4_, v6_, v7_, v8_, he, h0_, h1_, h2_, h3_, h4_, h5_, h6_, hb⟩
 exact ⟨v1_, v2_, v3_, v4_, v6_, v7_, v8_, he, Kd.V_mono h0_ (fun _ h => h.1), Kd.V_mono h1_ (fun _ h => h.1), Kd.V_mono h2_ (fun _ h => h.1), Kd.V_mono h3_ (fun _ h => h.1), Kd.V_mono h4_ (fun _ h => h.1), Kd.V_mono h5_ (fun _ h => h.1), Kd.V_mono h6_ (fun _ h => h.1), hb⟩
end Go.Proofs.Ytcbgichkeecgiaa.Print
namespace Go.Proofs.Ytcbgichkeecgiaa.Print
open Go.RowKit Go.Proofs.YtcbgichkeecgiaaW.PrintWords Go.Proofs.YtcbgichkeecgiaaW.PrintLast Go.Proofs.YtcbgichkeecgiaaW.PrintMore
attribute [local go_sem] max2_mx min2_mn max_two min_two max_three min_three max_four min_four
set_option linter.unusedVariables false
set_option linter.unusedSimpArgs false
theorem ladinglaw06_two.byte_reads (W : World) (g : Nat) (x : Int) (fr : Nat × Nat) (h : W.heap[g]? = some (.cells #[.int .u8 x] 5 fr)) : Kd.C (Kd.int .u8) W (some ⟨g, 0, none⟩) [x].length [x] := by
 refine ⟨rfl, by simp, fun _ => ⟨_, rfl, fun j p hj => ?_⟩⟩
 match j, hj with
 | 0, hj =>
  obtain rfl : x = p := by simpa using hj
  refine ⟨[.int .u8 x], rfl, rfl, fun i u hu => ?_⟩
  match i, hu with
  | 0, hu =>
   rw [show (⟨g, 0, none⟩ : Addr).add (0 * (Kd.int IntKind.u8).sz + 0) = ⟨g, 0, none⟩ by unfold Addr.add; rfl, cell_of_row W g 0 _ 5 fr h]
   exact hu
theorem ladinglaw06_two.pair_reads (W : World) (G g0 g1 : Nat) (x0 x1 : Int) (c0 c1 : Nat) (hc0 : 1 ≤ c0) (hc1 : 1 ≤ c1) (fr0 fr1 : Nat × Nat) (h : W.heap[G]? = some (.cells #[.slice (some ⟨g0, 0, none⟩) 1 c0, .slice (some ⟨g1, 0, none⟩) 1 c1] 27 (0, 0)))
  (h0 : W.heap[g0]? = some (.cells #[.int .u8 x0] 5 fr0)) (h1 : W.heap[g1]? = some (.cells #[.int .u8 x1] 5 fr1)) : Kd.C (Kd.slice 5 (Kd.int .u8)) W (some ⟨G, 0, none⟩) [[x0], [x1]].length [[x0], [x1]] := by
 refine ⟨rfl, by simp, fun _ => ⟨_, rfl, fun j p hj => ?_⟩⟩
 match j, hj with
 | 0, hj =>
  obtain rfl : [x0] = p := by simpa using hj
  refine ⟨[.slice (some ⟨g0, 0, none⟩) 1 c0], rfl, ⟨_, _, rfl, hc0, ladinglaw06_two.byte_reads W g0 x0 fr0 h0⟩, fun i u hu => ?_⟩
  match i, hu with
  | 0, hu =>
   rw [show (⟨G, 0, none⟩ : Addr).add (0 * (Kd.slice 5 (Kd.int IntKind.u8)).sz + 0) = ⟨G, 0, none⟩ by unfold Addr.add; rfl, cell_of_row W G 0 _ _ _ h]
   exact hu
 | 1, hj =>
  obtain rfl : [x1] = p := by simpa using hj
  refine ⟨[.slice (some ⟨g1, 0, none⟩) 1 c1], rfl, ⟨_, _, rfl, hc1, ladinglaw06_two.byte_reads W g1 x1 fr1 h1⟩, fun i u hu => ?_⟩
  match i, hu with
  | 0, hu =>
   rw [show (⟨G, 0, none⟩ : Addr).add (1 * (Kd.slice 5 (Kd.int IntKind.u8)).sz + 0) = ⟨G, 1, none⟩ by unfold Addr.add; rfl, cell_of_row W G 1 _ _ _ h]
   exact hu
theorem ladinglaw06_two.new_at {W : World} {b : Nat} {o : Obj} (h : W.heap.size = b) : (W.alloc o).heap[b]? = some o := by subst h; exact (MapKept.heap_alloc W o).1
theorem ladinglaw06_two.old_at {W : World} {b : Nat} {o o' : Obj} (h : W.heap[b]? = some o) : (W.alloc o').heap[b]? = some o := ((MapKept.heap_alloc W o').2 b (Array.getElem?_eq_some_iff.1 h).1).trans h
theorem ladinglaw06_two.size_at {W : World} {b : Nat} {o : Obj} (h : W.heap.size = b) : (W.alloc o).heap.size = b + 1 := by subst h; show (W.heap.push o).size = _; rw [Array.size_push]
def ladinglaw06_two.f : Option (Bool × (List (List Int)) × (List (List Int)) × List Int) := some (true, [[97], [98]], [[49], [50]], [])
set_option maxHeartbeats 4000000 in
set_option maxRecDepth 100000 in
theorem ladinglaw06_two.calls (r1 : Bool) (r2 : List (List Int)) (r3 : List (List Int)) (r4 : List Int) (w : World) (h : ladinglaw06_two.f = some (r1, r2, r3, r4)) :
  Calls Try.prog 21 #[] w fun e w' => ∃ v1_ v2_ v3_ : Value, e = .returned (.agg #[.bool r1, v1_, v2_, v3_]) ∧ Kd.V (Kd.slice 5 (Kd.int .u8)) 27 w' w.heap.size (fun k_ => (w.heap.size ≤ k_)) v1_ r2 ∧ Kd.V (Kd.slice 5 (Kd.int .u8)) 27 w' w.heap.size (fun k_ => (w.heap.size ≤ k_)) v2_ r3 ∧ Kd.V (Kd.int .i64) 3 w' w.heap.size (fun k_ => (w.heap.size ≤ k_)) v3_ r4 ∧ Below w.heap.size w w' := by
 have kc : ∀ (W : World) (b : Nat) (C : Array Value) (n c : Nat), W.heap.size = b → (convert 27 27 (.slice (some ⟨b, 0, none⟩) n c)).run Try.prog (W.alloc (.cells C 5)) = .ok (.slice (some ⟨b, 0, none⟩) n c) (W.alloc (.cells C 5 (C.size, C.size + 1))) := by
  rintro W _ C n c rfl
  exact Lib.run_convert_bytes_const (P := Try.prog) W 27 5 C n c Try.underlying27 Try.underlying5
 unfold ladinglaw06_two.f at h
 simp only [Option.some.injEq, Prod.mk.injEq] at h
 obtain ⟨rfl, rfl, rfl, rfl⟩ := h
 go_enter Try.func21, Try.ntmps21
 go_wp2
 refine bodyPost_ret (results_cell_row rfl _ _ w.heap.size 26 #[.bool true, .slice (some ⟨w.heap.size + 1 + 1 + 1, 0, none⟩) 2 2, .slice (some ⟨w.heap.size + 1 + 1 + 1 + 1 + 1 + 1, 0, none⟩) 2 2, .slice none 0 0] (0, 0) _ rfl (ladinglaw06_two.old_at (ladinglaw06_two.old_at (ladinglaw06_two.old_at (ladinglaw06_two.old_at (ladinglaw06_two.old_at (ladinglaw06_two.old_at (ladinglaw06_two.new_at rfl))))))) Try.underlying26 rfl (by kernel_rfl)) rfl ?_
 refine ⟨_, _, _, rfl, ⟨some ⟨w.heap.size + 1 + 1 + 1, 0, none⟩, 2, rfl, Nat.le_refl _, fun W' hW => ladinglaw06_two.pair_reads W' (w.heap.size + 1 + 1 + 1) (w.heap.size + 1) (w.heap.size + 1 + 1) 97 98 1 1 (Nat.le_refl _) (Nat.le_refl _) (1, 2) (1, 2) ((hW (w.heap.size + 1 + 1 + 1) (by omega) (Array.getElem?_eq_some_iff.1 (ladinglaw06_two.old_at (ladinglaw06_two.old_at (ladinglaw06_two.old_at (ladinglaw06_two.new_at (ladinglaw06_two.size_at (ladinglaw06_two.size_at (ladinglaw06_two.size_at rfl)))))))).1).trans (ladinglaw06_two.old_at (ladinglaw06_two.old_at (ladinglaw06_two.old_at (ladinglaw06_two.new_at (ladinglaw06_two.size_at (ladinglaw06_two.size_at (ladinglaw06_two.size_at rfl)))))))) ((hW (w.heap.size + 1) (by omega) (Array.getElem?_eq_some_iff.1 (ladinglaw06_two.old_at (ladinglaw06_two.old_at (ladinglaw06_two.old_at (ladinglaw06_two.old_at (ladinglaw06_two.old_at (ladinglaw06_two.new_at (ladinglaw06_two.size_at rfl)))))))).1).trans (ladinglaw06_two.old_at (ladinglaw06_two.old_at (ladinglaw06_two.old_at (ladinglaw06_two.old_at (ladinglaw06_two.old_at (ladinglaw06_two.new_at (ladinglaw06_two.size_at rfl)))))))) ((hW (w.heap.size + 1 + 1) (by omega) (Array.getElem?_eq_some_iff.1 (ladinglaw06_two.old_at (ladinglaw06_two.old_at (ladinglaw06_two.old_at (ladinglaw06_two.old_at (ladinglaw06_two.new_at (ladinglaw06_two.size_at (ladinglaw06_two.size_at rfl)))))))).1).trans (ladinglaw06_two.old_at (ladinglaw06_two.old_at (ladinglaw06_two.old_at (ladinglaw06_two.old_at (ladinglaw06_two.new_at (ladinglaw06_two.size_at (ladinglaw06_two.size_at rfl))))))))⟩, ⟨some ⟨w.heap.size + 1 + 1 + 1 + 1 + 1 + 1, 0, none⟩, 2, rfl, Nat.le_refl _, fun W' hW => ladinglaw06_two.pair_reads W' (w.heap.size + 1 + 1 + 1 + 1 + 1 + 1) (w.heap.size + 1 + 1 + 1 + 1) (w.heap.size + 1 + 1 + 1 + 1 + 1) 49 50 1 1 (Nat.le_refl _) (Nat.le_refl _) (1, 2) (1, 2) ((hW (w.heap.size + 1 + 1 + 1 + 1 + 1 + 1) (by omega) (Array.getElem?_eq_some_iff.1 (ladinglaw06_two.new_at (ladinglaw06_two.size_at (ladinglaw06_two.size_at (ladinglaw06_two.size_at (ladinglaw06_two.size_at (ladinglaw06_two.size_at (ladinglaw06_two.size_at rfl)))))))).1).trans (ladinglaw06_two.new_at (ladinglaw06_two.size_at (ladinglaw06_two.size_at (ladinglaw06_two.size_at (ladinglaw06_two.size_at (ladinglaw06_two.size_at (ladinglaw06_two.size_at rfl)))))))) ((hW (w.heap.size + 1 + 1 + 1 + 1) (by omega) (Array.getElem?_eq_some_iff.1 (ladinglaw06_two.old_at (ladinglaw06_two.old_at (ladinglaw06_two.new_at (ladinglaw06_two.size_at (ladinglaw06_two.size_at (ladinglaw06_two.size_at (ladinglaw06_two.size_at rfl)))))))).1).trans (ladinglaw06_two.old_at (ladinglaw06_two.old_at (ladinglaw06_two.new_at (ladinglaw06_two.size_at (ladinglaw06_two.size_at (ladinglaw06_two.size_at (ladinglaw06_two.size_at rfl)))))))) ((hW (w.heap.size + 1 + 1 + 1 + 1 + 1) (by omega) (Array.getElem?_eq_some_iff.1 (ladinglaw06_two.old_at (ladinglaw06_two.new_at (ladinglaw06_two.size_at (ladinglaw06_two.size_at (ladinglaw06_two.size_at (ladinglaw06_two.size_at (ladinglaw06_two.size_at rfl)))))))).1).trans (ladinglaw06_two.old_at (ladinglaw06_two.new_at (ladinglaw06_two.size_at (ladinglaw06_two.size_at (ladinglaw06_two.size_at (ladinglaw06_two.size_at (ladinglaw06_two.size_at rfl))))))))⟩, ⟨none, 0, rfl, Nat.le_refl _, fun W' _ => Kd.C_nil _ _⟩, ?_⟩
 exact below_alloc (below_alloc (below_alloc (below_alloc (below_alloc (below_alloc (below_alloc (Below.refl _ _) _) _) _) _) _) _) _
def codec_groups.l0 : Nat → List Int → Int → Option (List Int)
 | 0, _, _ => none
 | k + 1, x0, x1 => if x1 > 127 then (if x0.length < 140737488355328 then (codec_groups.l0 k (x0 ++ [Go.bits .or .u8 ((x1) % 256) 128]) (x1 / 128)) else (none)) else (if x0.length < 140737488355328 then (some (x0 ++ [(x1) % 256])) else (none))
def codec_groups.f (k : Nat) (l0 : List Int) (a1 : Int) : Option (List Int) := codec_groups.l0 k l0 a1
set_option maxHeartbeats 8000000 in
set_option maxRecDepth 100000 in
theorem codec_groups.calls (k : Nat) (P0_ : Nat → Prop) (u9000_ : Value) (l0 : List Int) (a1 : Int) (r : List Int) (w0 w : World) (hB : Below w0.heap.size w0 w) (ho0 : Kd.R (Kd.int .u8) 5 w w0.heap.size P0_ u9000_ l0) (h : codec_groups.f k l0 a1 = some r) :
  Calls Try.prog 58 #[u9000_, .int .u64 a1] w fun e w' => ∃ v0_ : Value, e = .returned (v0_) ∧ Kd.R (Kd.int .u8) 5 w' w0.heap.size (fun k_ => (P0_ k_ ∨ w.heap.size ≤ k_)) v0_ r ∧ Below w0.heap.size w0 w' ∧ Kept w w' (fun k_ => P0_ k_) := by
 have HO0 := Aside0.mk (show Kd.R (Kd.int .u8) 5 w w0.heap.size (fun k_ => (P0_ k_ ∨ w.heap.size ≤ k_)) u9000_ l0 from Kd.R_mono ho0 (fun k_ hk => (.inl hk)))
 have HK := Aside0.mk (Kept.refl w (fun k_ => P0_ k_))
 have HW0 := Aside0.mk hB.size
 have HB := Aside0.mk hB
 clear hB
 have H : (codec_groups.l0 k l0 a1) = some r := h
 clear h
 have H' := Aside0.mk H
 clear H
 go_enter Try.func58, Try.ntmps58
 go_wp2
 go_loopg [0, 1] k (fun kq v0 v1 w' => ∃ (x0_1 : List Int) (x1_1 : Int), v1 = .int .u64 x1_1 ∧ Aside0 (codec_groups.l0 kq x0_1 x1_1 = some r) ∧ Aside0 (kq ≤ k) ∧ Aside0 (Kd.R (Kd.int .u8) 5 w' w0.heap.size (fun k_ => (P0_ k_ ∨ w.heap.size ≤ k_)) v0 x0_1) ∧ Aside0 (Kept w w' (fun k_ => P0_ k_)) ∧ Aside0 (Below w0.heap.size w0 w'))
 case atStart => exact ⟨(l0), (a1), (by first | rfl | (simp; done) | (simp [*]; done) | (simp only [i64_w]; done)), H', ⟨Nat.le_refl _⟩, ⟨by (with_reducible repeat (first | apply Kd.R_alloc | apply Kd.R_drewN | apply Kd.R_drew)); exact HO0.out⟩, ⟨by repeat (first | (with_reducible first | exact HK.out | apply Kept.alloc | apply Kept.drewN | apply Kept.drew) | exact HK.out)⟩, ⟨by exact zh0_ HB.out⟩⟩
 case round =>
  clear H'
  try clear p2
  obtain ⟨x0_1, x1_1, rfl, HA, HK1, HO_0, HK, HB⟩ := hrel
  cases gk with
  | zero => exact absurd HA.out (by simp [codec_groups.l0])
  | succ k1 =>
   have H := HA.out
   clear HA
   simp only [codec_groups.l0] at H
   by_cases c3 : x1_1 > 127
   ·rw [if_pos c3] at H
    have c3b0 : decide (127 < x1_1) = true := decide_eq_true c3
    clear c3
    by_cases c4 : x0_1.length < 140737488355328
    ·rw [if_pos c4] at H
     have LMc4 := Aside0.mk c4
     clear c4
     obtain ⟨y162, hy162⟩ : ∃ y_ : List Int, y_ = (x0_1 ++ [Go.bits .or .u8 ((x1_1) % 256) 128]) := ⟨_, rfl⟩
     replace H : (codec_groups.l0 k1 y162 (x1_1 / 128)) = some r := by first | (rw [hy162]; with_reducible exact H) | (have H2_ := (Option.bind_some _ _).symm.trans H; rw [hy162]; with_reducible exact H2_) | (have H2_ := (Option.bind_some _ _).symm.trans H; with_reducible exact H2_) | with_reducible exact H | (rw [hy162]; exact H) | exact H
     have Ny162 := Aside0.mk hy162
     clear hy162
     have H' := Aside0.mk H
     clear H
     go_wp2_with (first | ((with_reducible refine gate_builtin (b := .append) (xs := #[.tmp 7, .tmp 11]) rfl ?_); at_builtin; refine Kd.R_append (Kd.int .u8) (w0 := w0) w0.heap.size rfl (.tmp 7) (.tmp 11) 27 5 (.int .u8 0) 1 rfl Try.underlying27 info5 rfl (by decide) (by omega) u0 x0_1 (Go.bits .or .u8 ((x1_1) % 256) 128) [.int .u8 (Go.bits .or .u8 ((x1_1) % 256) 128)] (fun k_ => (P0_ k_ ∨ w.heap.size ≤ k_)) (fun _ => False) rfl rfl ?aP (fun _ hk => hk.elim) ?aF ?aO ?aB ?aS ?aL ?_; (case aP => exact rfl); (case aB => exact (zh0_ HB.out)); (case aF => exact (fun k_ hk => (.inr (Nat.le_trans (by first | exact HK.out.1 | exact (show Kept w _ (fun k_ => P0_ k_) from by repeat (first | (with_reducible first | exact HK.out | apply Kept.alloc | apply Kept.drewN | apply Kept.drew) | exact HK.out)).1) hk)))); (case aO => exact (zR_ HO_0.out)); (case aS => exact (below_size (zh0_ HB.out))); (case aL => have := LMc4.out; omega); intro v163 w5 ho hb hg hat; rw [← Ny162.out] at ho; replace HB := Aside0.mk (hb); replace HK := Aside0.mk (Kept.of_grown (S := (fun k_ => P0_ k_)) hg (by repeat (first | (with_reducible first | exact HK.out | apply Kept.alloc | apply Kept.drewN | apply Kept.drew) | exact HK.out)) (fun k_ e_ => (HO_0.out.1 k_ e_))); have HO164 := Aside0.mk (ho); clear HO_0 ho hb hg hat))
     go_roundg k1
     case measure => have := HK1.out; omega
     case rel => exact ⟨(y162), (x1_1 / 128), (by first | rfl | (simp; done) | (simp [*]; done) | (simp only [i64_w]; done)), H', ⟨by have := HK1.out; omega⟩, ⟨by (with_reducible repeat (first | apply Kd.R_alloc | apply Kd.R_drewN | apply Kd.R_drew)); exact HO164.out⟩, ⟨by repeat (first | (with_reducible first | exact HK.out | apply Kept.alloc | apply Kept.drewN | apply Kept.drew) | exact HK.out)⟩, ⟨by exact zh0_ HB.out⟩⟩
    ·rw [if_neg c4] at H
     cases H
   ·rw [if_neg c3] at H
    have c3b0 : decide (127 < x1_1) = false := decide_eq_false c3
    clear c3
    by_cases c6 : x0_1.length < 140737488355328
    ·rw [if_pos c6] at H
     have LMc6 := Aside0.mk c6
     clear c6
     obtain ⟨y165, hy165⟩ : ∃ y_ : List Int, y_ = (x0_1 ++ [(x1_1) % 256]) := ⟨_, rfl⟩
     replace H : (some y165) = some r := by first | (rw [hy165]; with_reducible exact H) | (have H2_ := (Option.bind_some _ _).symm.trans H; rw [hy165]; with_reducible exact H2_) | (have H2_ := (Option.bind_some _ _).symm.trans H; with_reducible exact H2_) | with_reducible exact H | (rw [hy165]; exact H) | exact H
     have Ny165 := Aside0.mk hy165
     clear hy165
     obtain rfl := Option.some.inj H
     go_wp2_with (first | ((with_reducible refine gate_builtin (b := .append) (xs := #[.tmp 15, .tmp 18]) rfl ?_); at_builtin; refine Kd.R_append (Kd.int .u8) (w0 := w0) w0.heap.size rfl (.tmp 15) (.tmp 18) 27 5 (.int .u8 0) 1 rfl Try.underlying27 info5 rfl (by decide) (by omega) u0 x0_1 ((x1_1) % 256) [.int .u8 ((x1_1) % 256)] (fun k_ => (P0_ k_ ∨ w.heap.size ≤ k_)) (fun _ => False) rfl rfl ?aP (fun _ hk => hk.elim) ?aF ?aO ?aB ?aS ?aL ?_; (case aP => exact rfl); (case aB => exact (zh0_ HB.out)); (case aF => exact (fun k_ hk => (.inr (Nat.le_trans (by first | exact HK.out.1 | exact (show Kept w _ (fun k_ => P0_ k_) from by repeat (first | (with_reducible first | exact HK.out | apply Kept.alloc | apply Kept.drewN | apply Kept.drew) | exact HK.out)).1) hk)))); (case aO => exact (zR_ HO_0.out)); (case aS => exact (below_size (zh0_ HB.out))); (case aL => have := LMc6.out; omega); intro v166 w7 ho hb hg hat; rw [← Ny165.out] at ho; replace HB := Aside0.mk (hb); replace HK := Aside0.mk (Kept.of_grown (S := (fun k_ => P0_ k_)) hg (by repeat (first | (with_reducible first | exact HK.out | apply Kept.alloc | apply Kept.drewN | apply Kept.drew) | exact HK.out)) (fun k_ e_ => (HO_0.out.1 k_ e_))); have HO167 := Aside0.mk (ho); clear HO_0 ho hb hg hat))
     go_ret
     exact ⟨_, by first | rfl | (simp [errW_none, errW_some] <;> rfl) | (simp [*, errW_none, errW_some] <;> rfl), by (with_reducible repeat (first | apply Kd.R_alloc | apply Kd.R_drewN | apply Kd.R_drew)); exact HO167.out, by exact zh0_ HB.out, by repeat (first | (with_reducible first | exact HK.out | apply Kept.alloc | apply Kept.drewN | apply Kept.drew) | exact HK.out)⟩
    ·rw [if_neg c6] at H
     cases H
def codec_own.f (l0 : List Int) : Option (List Int) := if ([] : List Int).length + l0.length < 140737488355328 then (some (([] : List Int) ++ l0)) else (none)
set_option maxHeartbeats 8000000 in
set_option maxRecDepth 100000 in
theorem codec_own.calls (A0 : Option Addr) (c0 : Nat) (l0 : List Int) (r : List Int) (w : World) (hr0 : Kd.C (Kd.int .u8) w A0 l0.length l0) (hc0 : l0.length ≤ c0) (h : codec_own.f l0 = some r) :
  Calls Try.prog 59 #[.slice A0 l0.length c0] w fun e w' => ∃ v0_ : Value, e = .returned (v0_) ∧ Kd.R (Kd.int .u8) 5 w' w.heap.size (fun _ => True) v0_ r ∧ Below w.heap.size w w' := by
 have HR0 := Aside0.mk hr0
 have HC0 := Aside0.mk hc0
 clear hr0 hc0
 have HB := Aside0.mk (Below.refl w.heap.size w)
 have H : (if ([] : List Int).length + l0.length < 140737488355328 then (some (([] : List Int) ++ l0)) else (none)) = some r := h
 clear h
 by_cases c2 : ([] : List Int).length + l0.length < 140737488355328
 ·rw [if_pos c2] at H
  have LMc2 := Aside0.mk c2
  clear c2
  obtain ⟨y168, hy168⟩ : ∃ y_ : List Int, y_ = (([] : List Int) ++ l0) := ⟨_, rfl⟩
  replace H : (some y168) = some r := by first | (rw [hy168]; with_reducible exact H) | (have H2_ := (Option.bind_some _ _).symm.trans H; rw [hy168]; with_reducible exact H2_) | (have H2_ := (Option.bind_some _ _).symm.trans H; with_reducible exact H2_) | with_reducible exact H | (rw [hy168]; exact H) | exact H
  have Ny168 := Aside0.mk hy168
  clear hy168
  obtain rfl := Option.some.inj H
  go_enter Try.func59, Try.ntmps59
  go_wp2_with (first | ((with_reducible refine gate_builtin (b := .append) (xs := #[.const (.slice none 0 0), .tmp 3]) rfl ?_); at_builtin; refine Kd.R_append_rows (Kd.int .u8) (w0 := w) w.heap.size rfl (.const (.slice none 0 0)) (.tmp 3) 27 5 (.int .u8 0) 1 rfl Try.underlying27 info5 rfl (by decide) (by omega) (.slice none 0 0) ([] : List Int) l0 _ _ _ (fun _ => True) (fun _ => False) rfl rfl ?aO ?aR (fun _ _ h => h) (fun _ h => h.elim) ?aF ?aB ?aS ?aL ?_; (case aR => repeat (first | exact HR0.out | (with_reducible refine Kd.C_alloc ?_ _) | (with_reducible refine Kd.C_drewN ?_ _) | (with_reducible refine Kd.C_drew ?_))); (case aB => exact (zh0_ HB.out)); (case aF => exact (fun _ _ => trivial)); (case aO => exact ((Kd.R_nil _ _ _ _ (fun _ => True)))); (case aS => exact (below_size (zh0_ HB.out))); (case aL => have := LMc2.out; omega); intro v169 w3 ho hb hg hat; rw [← Ny168.out] at ho; replace HB := Aside0.mk (hb); have HO170 := Aside0.mk (ho); clear ho hb hg hat))
  go_ret
  exact ⟨_, by first | rfl | (simp [errW_none, errW_some] <;> rfl) | (simp [*, errW_none, errW_some] <;> rfl), by (with_reducible repeat (first | apply Kd.R_alloc | apply Kd.R_drewN | apply Kd.R_drew)); exact HO170.out, by exact zh0_ HB.out⟩
 ·rw [if_neg c2] at H
  cases H
def codec_Num.f (k : Nat) (l0 : List Int) (a1 : Int) : Option (List Int) := (codec_own.f l0).bind fun t171 => ((codec_groups.f k t171 a1).bind fun t174 => (some t174))
set_option maxHeartbeats 8000000 in
set_option maxRecDepth 100000 in
theorem codec_Num.calls (k : Nat) (A0 : Option Addr) (c0 : Nat) (l0 : List Int) (a1 : Int) (r : List Int) (w : World) (hr0 : Kd.C (Kd.int .u8) w A0 l0.length l0) (hc0 : l0.length ≤ c0) (h : codec_Num.f k l0 a1 = some r) :
  Calls Try.prog 40 #[.slice A0 l0.length c0, .int .u64 a1] w fun e w' => ∃ v0_ : Value, e = .returned (v0_) ∧ Kd.R (Kd.int .u8) 5 w' w.heap.size (fun _ => True) v0_ r ∧ Below w.heap.size w w' := by
 have HR0 := Aside0.mk hr0
 have HC0 := Aside0.mk hc0
 clear hr0 hc0
 have HB := Aside0.mk (Below.refl w.heap.size w)
 have H : ((codec_own.f l0).bind fun t171 => ((codec_groups.f k t171 a1).bind fun t174 => (some t174))) = some r := h
 clear h
 obtain ⟨t171, A3, H⟩ := zm H
 (try dsimp only at H)
 obtain ⟨t174, A4, H⟩ := zm H
 (try dsimp only at H)
 obtain rfl := Option.some.inj H
 go_enter Try.func40, Try.ntmps40
 go_wp2_with (first | ((with_reducible refine gate_callee (f := 59) rfl ?_); refine goesL_ (some 6) rfl rfl Try.func59 (by kernel_rfl) rfl #[.slice A0 l0.length c0] rfl zl_ ?_; (with_reducible refine (codec_own.calls _ _ l0 t171 _ ?side1 ?side2 A3.out).mono ?_); (case side1 => repeat (first | exact HR0.out | (with_reducible refine Kd.C_alloc ?_ _) | (with_reducible refine Kd.C_drewN ?_ _) | (with_reducible refine Kd.C_drew ?_))); (case side2 => exact HC0.out); rintro e w5 ⟨v172, rfl, ho0, hb⟩; refine ⟨_, rfl, ?_⟩; have HO173 := Aside0.mk (Kd.R_lower ho0 (below_size (zh0_ HB.out))); replace HB := Aside0.mk (below_step (zh0_ HB.out) hb); (try clear hb); (try clear ho0); obtain ⟨Ao6, co6, eo6⟩ := Kd.R_slice HO173.out; subst eo6) | ((with_reducible refine gate_callee (f := 58) rfl ?_); refine goesL_ (some 8) rfl rfl Try.func58 (by kernel_rfl) rfl #[.slice Ao6 t171.length co6, .int .u64 a1] rfl zl_ ?_; (with_reducible refine (codec_groups.calls k (fun k_ => some k_ = (.slice Ao6 t171.length co6 : Value).ownBlock) (.slice Ao6 t171.length co6) t171 a1 t174 w _ ?side1 ?side2 A4.out).mono ?_); (case side1 => exact zh0_ HB.out); (case side2 => exact Kd.R_tight rfl HO173.out); rintro e w7 ⟨v175, rfl, ho0, hb, hkp⟩; refine ⟨_, rfl, ?_⟩; have HO176 := Aside0.mk (Kd.R_mono (ok' := fun k_ => True) ho0 (fun k_ hk_ => trivial)); replace HB := Aside0.mk (hb); clear HO173; (try clear hb); (try clear hkp); (try clear ho0)))
 go_ret
 exact ⟨_, by first | rfl | (simp [errW_none, errW_some] <;> rfl) | (simp [*, errW_none, errW_some] <;> rfl), by (with_reducible repeat (first | apply Kd.R_alloc | apply Kd.R_drewN | apply Kd.R_drew)); exact HO176.out, by exact zh0_ HB.out⟩
def codec_Text.f (k : Nat) (l0 : List Int) (a1 : ByteArray) : Option (List Int) := (codec_Num.f k l0 (IntKind.u64.wrap ((a1.size : Int)))).bind fun t177 => (if t177.length + a1.size < 140737488355328 then (some (t177 ++ bytesOf a1)) else (none))
set_option maxHeartbeats 8000000 in
set_option maxRecDepth 100000 in
theorem codec_Text.calls (k : Nat) (A0 : Option Addr) (c0 : Nat) (l0 : List Int) (a1 : ByteArray) (r : List Int) (w : World) (hr0 : Kd.C (Kd.int .u8) w A0 l0.length l0) (hc0 : l0.length ≤ c0) (h : codec_Text.f k l0 a1 = some r) :
  Calls Try.prog 41 #[.slice A0 l0.length c0, .string a1] w fun e w' => ∃ v0_ : Value, e = .returned (v0_) ∧ Kd.R (Kd.int .u8) 5 w' w.heap.size (fun _ => True) v0_ r ∧ Below w.heap.size w w' := by
 have HR0 := Aside0.mk hr0
 have HC0 := Aside0.mk hc0
 clear hr0 hc0
 have HB := Aside0.mk (Below.refl w.heap.size w)
 have H : ((codec_Num.f k l0 (IntKind.u64.wrap ((a1.size : Int)))).bind fun t177 => (if t177.length + a1.size < 140737488355328 then (some (t177 ++ bytesOf a1)) else (none))) = some r := h
 clear h
 obtain ⟨t177, A3, H⟩ := zm H
 (try dsimp only at H)
 by_cases c4 : t177.length + a1.size < 140737488355328
 ·rw [if_pos c4] at H
  have LMc4 := Aside0.mk c4
  clear c4
  obtain ⟨y180, hy180⟩ : ∃ y_ : List Int, y_ = (t177 ++ bytesOf a1) := ⟨_, rfl⟩
  replace H : (some y180) = some r := by first | (rw [hy180]; with_reducible exact H) | (have H2_ := (Option.bind_some _ _).symm.trans H; rw [hy180]; with_reducible exact H2_) | (have H2_ := (Option.bind_some _ _).symm.trans H; with_reducible exact H2_) | with_reducible exact H | (rw [hy180]; exact H) | exact H
  have Ny180 := Aside0.mk hy180
  clear hy180
  obtain rfl := Option.some.inj H
  go_enter Try.func41, Try.ntmps41
  go_wp2_with (first | ((with_reducible refine gate_callee (f := 40) rfl ?_); refine goesL_ (some 9) rfl rfl Try.func40 (by kernel_rfl) rfl #[.slice A0 l0.length c0, .int .u64 (IntKind.u64.wrap ((a1.size : Int)))] rfl zl_ ?_; (with_reducible refine (codec_Num.calls k _ _ l0 (IntKind.u64.wrap ((a1.size : Int))) t177 _ ?side1 ?side2 A3.out).mono ?_); (case side1 => repeat (first | exact HR0.out | (with_reducible refine Kd.C_alloc ?_ _) | (with_reducible refine Kd.C_drewN ?_ _) | (with_reducible refine Kd.C_drew ?_))); (case side2 => exact HC0.out); rintro e w5 ⟨v178, rfl, ho0, hb⟩; refine ⟨_, rfl, ?_⟩; have HO179 := Aside0.mk (Kd.R_lower ho0 (below_size (zh0_ HB.out))); replace HB := Aside0.mk (below_step (zh0_ HB.out) hb); (try clear hb); (try clear ho0)) | (at_builtin; refine print_append_str (w0 := w) w.heap.size rfl (.tmp 9) _ 27 9 5 rfl Try.underlying27 Try.underlying9 info5 v178 t177 a1 rfl rfl ?aO ?aB ?aS ?aL ?_; (case aB => exact (zh0_ HB.out)); (case aO => exact (Kd.own_of_R (zR_ HO179.out))); (case aS => exact (below_size (zh0_ HB.out))); (case aL => have := LMc4.out; omega); intro v181 w6 ho0 hb hg; have ho := Kd.R_of_own (h1 := fun _ => rfl) (ok := fun _ => True) ho0 (fun _ _ => trivial); clear ho0; have hat := True.intro; rw [← Ny180.out] at ho; change Kd.R (Kd.int .u8) 5 w6 w.heap.size (fun _ => True) v181 y180 at ho; replace HB := Aside0.mk (hb); have HO182 := Aside0.mk (ho); clear HO179 ho hb hg hat))
  go_ret
  exact ⟨_, by first | rfl | (simp [errW_none, errW_some] <;> rfl) | (simp [*, errW_none, errW_some] <;> rfl), by (with_reducible repeat (first | apply Kd.R_alloc | apply Kd.R_drewN | apply Kd.R_drew)); exact HO182.out, by exact zh0_ HB.out⟩
 ·rw [if_neg c4] at H
  cases H
def crc_shifted.l0 : Nat → Int → Int → Int → Option (Int)
 | 0, _, _, _ => none
 | k + 1, x0, x5, x6 => if x6 < x5 then (crc_shifted.l0 k (Go.bits .xor .u32 (x0 / 2) (Go.bits .and .u32 3988292384 ((-(Go.bits .and .u32 x0 1)) % 4294967296))) x5 (wrap64 (x6 + 1))) else (some x0)
def crc_shifted.f (k : Nat) (a0 : Int) (a1 : Int) : Option (Int) := crc_shifted.l0 k a0 a1 0
set_option maxHeartbeats 8000000 in
set_option maxRecDepth 100000 in
theorem crc_shifted.calls (k : Nat) (a0 : Int) (a1 : Int) (r : Int) (w : World) (h : crc_shifted.f k a0 a1 = some r) :
  Calls Try.prog 71 #[.int .u32 a0, .int .i64 a1] w fun e w' => e = .returned (.int .u32 r) ∧ Drawn0 w w' := by
 have H : (crc_shifted.l0 k a0 a1 0) = some r := h
 clear h
 have H' := Aside0.mk H
 clear H
 go_enter Try.func71, Try.ntmps71
 go_wp2
 go_loopg [0, 6] k (fun kq v0 v6 w' => ∃ (x0_1 : Int) (x6_1 : Int), v0 = .int .u32 x0_1 ∧ v6 = .int .i64 x6_1 ∧ Aside0 (crc_shifted.l0 kq x0_1 a1 x6_1 = some r) ∧ Aside0 (kq ≤ k) ∧ Drawn0 w w')
 case atStart => exact ⟨(a0), (0), (by first | rfl | (simp; done) | (simp [*]; done) | (simp only [i64_w]; done)), (by first | rfl | (simp; done) | (simp [*]; done) | (simp only [i64_w]; done)), H', ⟨Nat.le_refl _⟩, by repeat (first | exact Drawn0.refl _ | apply Drawn0.step)⟩
 case round =>
  clear H'
  try clear p2
  obtain ⟨x0_1, x6_1, rfl, rfl, HA, HK1, ⟨m1, rfl⟩⟩ := hrel
  cases gk with
  | zero => exact absurd HA.out (by simp [crc_shifted.l0])
  | succ k1 =>
   have H := HA.out
   clear HA
   simp only [crc_shifted.l0] at H
   by_cases c3 : x6_1 < a1
   ·rw [if_pos c3] at H
    have c3b0 : decide (x6_1 < a1) = true := decide_eq_true c3
    clear c3
    have H' := Aside0.mk H
    clear H
    go_wp2
    go_roundg k1
    case measure => have := HK1.out; omega
    case rel => exact ⟨(Go.bits .xor .u32 (x0_1 / 2) (Go.bits .and .u32 3988292384 ((-(Go.bits .and .u32 x0_1 1)) % 4294967296))), (wrap64 (x6_1 + 1)), (by first | rfl | (simp; done) | (simp [*]; done) | (simp only [i64_w]; done)), (by first | rfl | (simp; done) | (simp [*]; done) | (simp only [i64_w]; done)), H', ⟨by have := HK1.out; omega⟩, by repeat (first | exact Drawn0.refl _ | apply Drawn0.step)⟩
   ·rw [if_neg c3] at H
    have c3b0 : decide (x6_1 < a1) = false := decide_eq_false c3
    clear c3
    obtain rfl := Option.some.inj H
    go_wp2
    go_ret
    exact ⟨by first | rfl | (simp; done) | (simp [*]; done), by repeat (first | exact Drawn0.refl _ | apply Drawn0.step)⟩
theorem crcTab_shifted : ∀ k : Nat, k < 16 → crc_shifted.f 5 (k : Int) 4 = some (crcTab.getD k 0) := by decide +kernel
def TabRel (w : World) (v2 v3 : Value) (kq : Nat) (wr : World) : Prop := ∃ k : Nat, k ≤ 16 ∧ k + kq = 17 ∧ v3 = .int .i64 k ∧ wr.heap[w.heap.size]? = some (.cells (arrUpto .u32 0 crcTab) 84 (0, 0)) ∧ wr.heap[w.heap.size + 1]? = some (.cells (arrUpto .u32 k crcTab) 84 (0, 0)) ∧ Below w.heap.size w wr
set_option maxHeartbeats 1000000 in
set_option maxRecDepth 100000 in
theorem crc_table.row (w : World) :
  Calls Try.prog 70 #[] w fun e w' => e = .returned (.agg ((crcTab.map (Value.int .u32)).toArray)) ∧ Below w.heap.size w w' := by
 go_enter Try.func70, Try.ntmps70
 go_wp2
 go_loopg [2, 3] 17 (fun kq v2 v3 wr => TabRel w v2 v3 kq wr)
 case atStart =>
  refine ⟨0, by omega, rfl, rfl, ?_, ?_, ?_⟩
  ·exact heap_alloc2_old w _ _
  ·exact heap_alloc2_new w _ _
  ·exact below_alloc (below_alloc (Below.refl _ _) _) _
 case round =>
  obtain ⟨k, hk16, hk, rfl, h0, h1, hb⟩ := hrel
  have Hb := Aside0.mk hb
  have H0 := Aside0.mk h0
  have H1 := Aside0.mk h1
  clear hb h0 h1
  by_cases hlt : k < 16
  ·obtain ⟨gk, rfl⟩ : ∃ m, gk = m + 1 := ⟨gk - 1, by omega⟩
   have HS := Aside0.mk (crcTab_shifted k hlt)
   go_wp2_with fail
   refine (crc_shifted.calls 5 k 4 (crcTab.getD k 0) _ HS.out).mono ?_
   rintro e w' ⟨rfl, ⟨n, rfl⟩⟩
   have hc : wr.cell? ⟨w.heap.size + 1, k, none⟩ = some (.int .u32 0) := by
    rw [cell_of_row _ _ _ _ _ _ H1.out]
    exact arrUpto_get _ (by simpa [crcTab] using hlt)
   have hf : wr.frozen? ⟨w.heap.size + 1, k, none⟩ = false := frozen_of_row _ _ _ _ _ H1.out
   go_wp2_with fail
   go_roundg gk
   case measure => exact Nat.lt_succ_self _
   case rel =>
    refine ⟨k + 1, by omega, by omega, by go_num, ?_, ?_, ?_⟩
    ·refine (heap_setCell_other _ _ _ _ ?_).trans H0.out; exact Nat.ne_of_lt (Nat.lt_succ_self _)
    ·have := heap_setCell_same _ _ k _ _ (.int .u32 (crcTab.getD k 0)) H1.out
     rw [arrUpto_set _ (by simpa [crcTab] using hlt)] at this
     exact this
    ·exact below_set (pw_below_drewN Hb.out _) (Nat.le_succ _)
  ·obtain rfl : k = 16 := by omega
   have e16 : arrUpto .u32 16 crcTab = (crcTab.map (Value.int .u32)).toArray := arrUpto_full _ crcTab
   have H1' := Aside0.mk (e16 ▸ H1.out)
   clear e16 H1 hlt
   go_wp2_with (first | (with_reducible refine wpList_load_row rfl 84 (.tmp 1) rfl (w.heap.size + 1) rfl 84 _ (0, 0) _ H1'.out Try.underlying84 rfl (by kernel_rfl) ?_) | (refine wpList_store_row rfl 84 (.tmp 0) (.tmp 12) rfl w.heap.size _ rfl rfl 84 _ H0.out (by kernel_rfl) (by kernel_rfl) (by kernel_rfl) ?_))
   refine bodyPost_ret (results_cell_row rfl _ _ w.heap.size 84 _ (0, 0) _ rfl (setRow_heap _ _ _ _ _ _ H0.out) Try.underlying84 rfl (by kernel_rfl)) rfl ⟨rfl, ?_⟩
   exact below_setRow Hb.out (Nat.le_refl _) _
def crc_Update.f (a0 : Int) (l1 : List Int) : Option Int := some (Go.bits .xor .u32 4294967295 (l1.foldl crcStep (Go.bits .xor .u32 4294967295 a0)))
def UpdRel (B : Nat) (w : World) (c0 : Int) (l1 : List Int) (kq : Nat) (v6 v14 : Value) (wr : World) : Prop := ∃ k : Nat, k ≤ l1.length ∧ k + kq = l1.length + 1 ∧ v6 = .int .u32 ((l1.take k).foldl crcStep c0) ∧ v14 = .int .i64 k ∧ wr.heap[B]? = some (.cells ((crcTab.map (Value.int .u32)).toArray) 84 (0, 0)) ∧ Below w.heap.size w wr
theorem tab_cell {w : World} {B : Nat} (h : w.heap[B]? = some (.cells ((crcTab.map (Value.int .u32)).toArray) 84 (0, 0))) (c : Int) : w.cell? ⟨B, (Go.bits .and .u32 c 15).toNat, none⟩ = some (.int .u32 (crcEnt c)) := by
 unfold crcEnt
 rw [cell_of_row _ _ _ _ _ _ h]
 have := and15 c
 have h1 : (Go.bits .and .u32 c 15).toNat < crcTab.length := by simp [crcTab]; omega
 rw [List.getElem?_toArray, List.getElem?_map, List.getElem?_eq_getElem h1, List.getD_eq_getElem?_getD, List.getElem?_eq_getElem h1]
 rfl
set_option maxHeartbeats 1000000 in
set_option maxRecDepth 100000 in
theorem crc_Update.calls (a0 : Int) (A1 : Option Addr) (c1 : Nat) (l1 : List Int) (r : Int) (w : World) (hr1 : Kd.C (Kd.int .u8) w A1 l1.length l1) (hc1 : l1.length ≤ c1) (h : crc_Update.f a0 l1 = some r) :
  Calls Try.prog 68 #[.int .u32 a0, .slice A1 l1.length c1] w fun e w' => e = .returned (.int .u32 r) ∧ Below w.heap.size w w' := by
 obtain rfl := Option.some.inj h
 clear h
 have HR1 := Aside0.mk hr1
 have HC1 := Aside0.mk hc1
 clear hr1 hc1
 go_enter Try.func68, Try.ntmps68
 go_wp2_with fail
 refine (crc_table.row _).mono ?_
 rintro e w1 ⟨rfl, hb1⟩
 have Hb1 := Aside0.mk hb1
 clear hb1
 have hn := Aside0.mk (blk_new w1 (.cells ((List.replicate 16 (Value.int .u32 0)).toArray) 84 (0, 0)))
 go_wp2_with (refine wpList_store_row rfl 84 (.tmp 5) (.tmp 9) rfl w1.heap.size _ rfl rfl 84 _ hn.out (by kernel_rfl) (by kernel_rfl) (by kernel_rfl) ?_)
 go_loopg [6, 14] (l1.length + 1) (fun kq v6 v14 wr => UpdRel w1.heap.size w (Go.bits .xor .u32 4294967295 a0) l1 kq v6 v14 wr)
 case atStart =>
  refine ⟨0, by omega, by omega, rfl, rfl, setRow_heap _ _ _ _ _ _ hn.out, ?_⟩
  exact below_setRow (below_alloc Hb1.out _) Hb1.out.size _
 case round =>
  obtain ⟨k, hkl, hk, rfl, rfl, h0, hb⟩ := hrel
  have Hb := Aside0.mk hb
  have H0 := Aside0.mk h0
  have HK := Aside0.mk hk
  clear hb h0 hk hn
  have HT := fun c => tab_cell H0.out c
  generalize hc : (l1.take k).foldl crcStep (Go.bits .xor .u32 4294967295 a0) = c
  have HC := Aside0.mk hc
  clear hc
  by_cases hlt : k < l1.length
  ·obtain ⟨gk, rfl⟩ : ∃ m, gk = m + 1 := ⟨gk - 1, by have := HK.out; omega⟩
   obtain ⟨ad, e, hx⟩ := Kd.at_int HR1.out (k : Int) (by omega) (by omega)
   cases e
   have hx' := pw_cell_below (Hb.out) hx
   rw [Int.toNat_natCast] at hx'
   have HB1 := Aside0.mk (and15 (Go.bits .xor .u32 c ((rd l1 k) % 4294967296)))
   have p1 := eq_true HB1.out.1
   have q1 := eq_true HB1.out.2
   have t1 := HT (Go.bits .xor .u32 c ((rd l1 k) % 4294967296))
   have HB2 := Aside0.mk (and15 (crcNib (Go.bits .xor .u32 c ((rd l1 k) % 4294967296))))
   have p2 := eq_true HB2.out.1
   have q2 := eq_true HB2.out.2
   have t2 := HT (crcNib (Go.bits .xor .u32 c ((rd l1 k) % 4294967296)))
   clear HT hx
   unfold crcNib at p2 q2 t2
   have hm : l1.length ≤ 9223372036854775807 := HR1.out.2.1
   go_wp2_with fail
   go_roundg gk
   case measure => exact Nat.lt_succ_self _
   case rel =>
    refine ⟨k + 1, by omega, by have := HK.out; omega, ?_, by go_num, H0.out, Hb.out⟩
    rw [List.take_succ_eq_append_getElem hlt, List.foldl_append, HC.out]
    have : rd l1 (k : Int) = l1[k] := by simp [rd, List.getD_eq_getElem?_getD, List.getElem?_eq_getElem hlt]
    rw [this]; rfl
  ·obtain rfl : k = l1.length := by omega
   rw [List.take_length] at HC
   go_wp2_with fail
   go_ret
   refine ⟨?_, Hb.out⟩
   rw [HC.out]; rfl
def crc_Of.f (l0 : List Int) : Option (Int) := (crc_Update.f 0 l0).bind fun t183 => (some t183)
set_option maxHeartbeats 8000000 in
set_option maxRecDepth 100000 in
theorem crc_Of.calls (A0 : Option Addr) (c0 : Nat) (l0 : List Int) (r : Int) (w : World) (hr0 : Kd.C (Kd.int .u8) w A0 l0.length l0) (hc0 : l0.length ≤ c0) (h : crc_Of.f l0 = some r) :
  Calls Try.prog 60 #[.slice A0 l0.length c0] w fun e w' => e = .returned (.int .u32 r) ∧ Below w.heap.size w w' := by
 have HR0 := Aside0.mk hr0
 have HC0 := Aside0.mk hc0
 clear hr0 hc0
 have HB := Aside0.mk (Below.refl w.heap.size w)
 have H : ((crc_Update.f 0 l0).bind fun t183 => (some t183)) = some r := h
 clear h
 obtain ⟨t183, A2, H⟩ := zm H
 (try dsimp only at H)
 obtain rfl := Option.some.inj H
 go_enter Try.func60, Try.ntmps60
 go_wp2_with (first | ((with_reducible refine gate_callee (f := 68) rfl ?_); refine goesL_ (some 4) rfl rfl Try.func68 (by kernel_rfl) rfl #[.int .u32 0, .slice A0 l0.length c0] rfl zl_ ?_; (with_reducible refine (crc_Update.calls 0 _ _ l0 t183 _ ?side1 ?side2 A2.out).mono ?_); (case side1 => repeat (first | exact HR0.out | (with_reducible refine Kd.C_alloc ?_ _) | (with_reducible refine Kd.C_drewN ?_ _) | (with_reducible refine Kd.C_drew ?_))); (case side2 => exact HC0.out); rintro e w3 ⟨rfl, hb⟩; refine ⟨_, rfl, ?_⟩; replace HB := Aside0.mk (below_step (zh0_ HB.out) hb); (try clear hb)))
 go_ret
 exact ⟨by first | rfl | (simp [errW_none, errW_some] <;> rfl) | (simp [*, errW_none, errW_some] <;> rfl), by exact zh0_ HB.out⟩
end Go.Proofs.Ytcbgichkeecgiaa.Print
