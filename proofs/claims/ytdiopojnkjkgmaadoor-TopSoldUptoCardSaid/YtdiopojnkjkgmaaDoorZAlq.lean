-- What the claim uses alone (wip/slim.py). Lean checks it.
import Derived.Test.YtdiopojnkjkgmaaDoorZAb
import Derived.Test.YtdiopojnkjkgmaaDoorZAln
import Derived.Test.YtdiopojnkjkgmaaDoorZAlp
namespace Go.Proofs.YtdiopojnkjkgmaaDoor.Print
open Go.RowKit Go.Proofs.YtdiopojnkjkgmaaDoorW.PrintWords Go.Proofs.YtdiopojnkjkgmaaDoorW.PrintLast Go.Proofs.YtdiopojnkjkgmaaDoorW.PrintMore
attribute [local go_sem] max2_mx min2_mn max_two min_two max_three min_three max_four min_four
set_option linter.unusedVariables false
set_option linter.unusedSimpArgs false
mutual
def stock_moved.j0 : Nat → List (S43) → Int → Int → Int × Int → Bool → Int → Int → Int → Int → Int → Int → Option ((List (S43)) × Int)
 | 0, _, _, _, _, _, _, _, _, _, _, _ => none
 | k + 1, x0, x1, x2, x4, x32, x158000, x158001, x158002, x158003, x158004, x158005 => if x32 = true then (some (([] : List (S43)), 2)) else ((cl_T61.f x4 x158000 x158001 x158002 x158003 x158004 x158005).bind fun bt158 => (if bt158.2.2.1 < 0 then (stock_moved.j1 k x0 x1 x2 true bt158.1 bt158.2.1 bt158.2.2.1 bt158.2.2.2.1 bt158.2.2.2.2.1 bt158.2.2.2.2.2) else (if bt158.2.2.2.1 < 0 then (stock_moved.j1 k x0 x1 x2 true bt158.1 bt158.2.1 bt158.2.2.1 bt158.2.2.2.1 bt158.2.2.2.2.1 bt158.2.2.2.2.2) else (stock_moved.j1 k x0 x1 x2 (decide (bt158.2.2.2.2.1 < 0)) bt158.1 bt158.2.1 bt158.2.2.1 bt158.2.2.2.1 bt158.2.2.2.2.1 bt158.2.2.2.2.2))))
def stock_moved.j1 : Nat → List (S43) → Int → Int → Bool → Int → Int → Int → Int → Int → Int → Option ((List (S43)) × Int)
 | 0, _, _, _, _, _, _, _, _, _, _ => none
 | k + 1, x0, x1, x2, x47, x158000, x158001, x158002, x158003, x158004, x158005 => if x47 = true then (some (([] : List (S43)), 13)) else (if x158005 > 1125899906842624 then (some (([] : List (S43)), 5)) else ((stock_place.f k x0 x1 x2).bind fun bt164 => (if bt164.2 = true then (stock_moved.j2 k x0 bt164.1 bt164.2 false x158000 x158001 x158002 x158003 x158004 x158005) else (stock_moved.j2 k x0 bt164.1 bt164.2 (decide ((x0.length : Int) ≥ 4096)) x158000 x158001 x158002 x158003 x158004 x158005))))
def stock_moved.j2 : Nat → List (S43) → Int → Bool → Bool → Int → Int → Int → Int → Int → Int → Option ((List (S43)) × Int)
 | 0, _, _, _, _, _, _, _, _, _, _ => none
 | k + 1, x0, x14, x15, x64, x158000, x158001, x158002, x158003, x158004, x158005 => if x64 = true then (some (([] : List (S43)), 3)) else ((api_Cell_21.f x0).bind fun t166 => (if x15 = true then (if 0 ≤ x14 then (if x14 < (t166.length : Int) then (some ((t166.set (x14 : Int).toNat (⟨x158000, x158001, x158002, x158003, x158004, x158005⟩ : S43)), 0)) else (none)) else (none)) else ((api_Cell_44.f t166 x14 (([(⟨x158000, x158001, x158002, x158003, x158004, x158005⟩ : S43)] : List (S43)))).bind fun t173 => (if 0 ≤ x14 then (if x14 < (t173.length : Int) then (some ((t173.set (x14 : Int).toNat (⟨x158000, x158001, x158002, x158003, x158004, x158005⟩ : S43)), 0)) else (none)) else (none)))))
end
def stock_moved.f (k : Nat) (l0 : List (S43)) (a1 : Int) (a2 : Int) (a3 : Int) (a4 : Int × Int) : Option ((List (S43)) × Int) := (stock_Cell.f k l0 a1 a2).bind fun bt150 => (if bt150.2.2.2.2.2.2 = 0 then (if a3 < 1 then (stock_moved.j0 k l0 a1 a2 a4 true bt150.1 bt150.2.1 bt150.2.2.1 bt150.2.2.2.1 bt150.2.2.2.2.1 bt150.2.2.2.2.2.1) else (stock_moved.j0 k l0 a1 a2 a4 (decide (a3 > 1048576)) bt150.1 bt150.2.1 bt150.2.2.1 bt150.2.2.2.1 bt150.2.2.2.2.1 bt150.2.2.2.2.2.1)) else (some (([] : List (S43)), bt150.2.2.2.2.2.2)))
set_option maxHeartbeats 8000000 in
set_option maxRecDepth 100000 in
theorem stock_moved.calls (k : Nat) (A0 : Option Addr) (c0 : Nat) (l0 : List (S43)) (a1 : Int) (a2 : Int) (a3 : Int) (gc4 : Nat) (a4 : Int × Int) (r1 : List (S43)) (r2 : Int) (w : World) (hr0 : Kd.C k43 w A0 l0.length l0) (hc0 : l0.length ≤ c0) (hg4 : w.heap[gc4]? = some (.cells #[.int .i64 a4.2] 2 (0, 0))) (h : stock_moved.f k l0 a1 a2 a3 a4 = some (r1, r2)) :
  Calls Tryd.prog 22 #[.slice A0 l0.length c0, .int .i64 a1, .int .i64 a2, .int .i64 a3, .func (.func a4.1.toNat) #[] #[.pointer (some ⟨gc4, 0, none⟩)]] w fun e w' => ∃ v0_ : Value, e = .returned (.tuple #[v0_, .int .i64 r2]) ∧ Kd.R k43 43 w' w.heap.size (fun _ => True) v0_ r1 ∧ Below w.heap.size w w' := by
 have hu43 := Tryd.underlying43
 have HR0 := Aside0.mk hr0
 have HC0 := Aside0.mk hc0
 clear hr0 hc0
 have HG4 := Aside0.mk hg4
 clear hg4
 have HB := Aside0.mk (Below.refl w.heap.size w)
 have H : ((stock_Cell.f k l0 a1 a2).bind fun bt150 => (if bt150.2.2.2.2.2.2 = 0 then (if a3 < 1 then (stock_moved.j0 k l0 a1 a2 a4 true bt150.1 bt150.2.1 bt150.2.2.1 bt150.2.2.2.1 bt150.2.2.2.2.1 bt150.2.2.2.2.2.1) else (stock_moved.j0 k l0 a1 a2 a4 (decide (a3 > 1048576)) bt150.1 bt150.2.1 bt150.2.2.1 bt150.2.2.2.1 bt150.2.2.2.2.1 bt150.2.2.2.2.2.1)) else (some (([] : List (S43)), bt150.2.2.2.2.2.2)))) = some (r1, r2) := h
 clear h
 obtain ⟨⟨t150, t151, t152, t153, t154, t155, t156⟩, A6, H⟩ := zm H
 (try dsimp only at H)
 by_cases c7 : t156 = 0
 ·rw [if_pos c7] at H
  obtain ⟨c7b0, c7b1⟩ := zq1 c7
  clear c7
  have HC8 := Aside0.mk H
  clear H
  go_enter Tryd.func22, Tryd.ntmps22
  go_upto_region 4 with (first | ((with_reducible refine gate_callee (f := 12) rfl ?_); refine goesL_ (some 21) rfl rfl Tryd.func12 (by kernel_rfl) rfl #[.slice A0 l0.length c0, .int .i64 a1, .int .i64 a2] rfl zl_ ?_; (with_reducible refine (stock_Cell.calls k _ _ l0 a1 a2 t150 t151 t152 t153 t154 t155 t156 _ ?side1 ?side2 A6.out).mono ?_); (case side1 => repeat (first | exact HR0.out | (with_reducible refine Kd.C_alloc ?_ _) | (with_reducible refine Kd.C_drewN ?_ _) | (with_reducible refine Kd.C_drew ?_))); (case side2 => exact HC0.out); rintro e w9 ⟨rfl, hb⟩; refine ⟨_, rfl, ?_⟩; replace HB := Aside0.mk (below_step (zh0_ HB.out) hb); (try clear hb)) | ((with_reducible refine gate_dst (N := 12) rfl ?_); (try (refine gate_guard (by rfl) ?_; dsimp only)); refine box_event ?hg (N := 12) ?hd (cs := #[.int .i64 0, .int .i64 0, .int .i64 0, .int .i64 0, .int .i64 0, .int .i64 0]) (t := 43) ?hr ?_; (case hd => rfl); (case hg => rfl); (case hr => first | (go_simp; done) | (go_simp; rfl)); intro gb157 hg w10 hbox hb; have BK157 := Aside0.mk (hbox); have GW157 := Aside0.mk ((by rw [hg]; exact (below_size (zh0_ HB.out)) : w.heap.size ≤ gb157)); have GE157 := Aside0.mk ((by rw [hg]; exact (below_size (zh0_ HB.out)) : w.heap.size ≤ gb157)); replace HB := Aside0.mk (below_step (zh0_ HB.out) hb); clear hb hbox hg; have hcz11_0 : w10.cell? ⟨gb157, 0, none⟩ = some (.int .i64 0) := (blk_cell BK157.out 0).trans rfl; have hcz11_1 : w10.cell? ⟨gb157, 1, none⟩ = some (.int .i64 0) := (blk_cell BK157.out 1).trans rfl; have hcz11_2 : w10.cell? ⟨gb157, 2, none⟩ = some (.int .i64 0) := (blk_cell BK157.out 2).trans rfl; have hcz11_3 : w10.cell? ⟨gb157, 3, none⟩ = some (.int .i64 0) := (blk_cell BK157.out 3).trans rfl; have hcz11_4 : w10.cell? ⟨gb157, 4, none⟩ = some (.int .i64 0) := (blk_cell BK157.out 4).trans rfl; have hcz11_5 : w10.cell? ⟨gb157, 5, none⟩ = some (.int .i64 0) := (blk_cell BK157.out 5).trans rfl; have hfz11_0 := blk_frozen BK157.out 0; have hfz11_1 := blk_frozen BK157.out 1; have hfz11_2 := blk_frozen BK157.out 2; have hfz11_3 := blk_frozen BK157.out 3; have hfz11_4 := blk_frozen BK157.out 4; have hfz11_5 := blk_frozen BK157.out 5))
  (try simp only [Act.put, zt0, zt1, zt2])
  go_cut [32] (fun v32 wc => ∃ (kq : Nat) (x32_7 : Bool), v32 = .bool x32_7 ∧ Aside0 (stock_moved.j0 kq l0 a1 a2 a4 x32_7 t150 t151 t152 t153 t154 t155 = some (r1, r2)) ∧ Aside0 (kq ≤ k) ∧ Aside0 (wc.heap[gb157]? = some (.cells #[.int .i64 t150, .int .i64 t151, .int .i64 t152, .int .i64 t153, .int .i64 t154, .int .i64 t155] 43 (0, 0))) ∧ Aside0 (Below w.heap.size w wc))
  case first =>
   have H := HC8.out
   clear HC8
   by_cases c12 : a3 < 1
   ·rw [if_pos c12] at H
    have c12b0 : decide (a3 < 1) = true := decide_eq_true c12
    clear c12
    (first | rw [c12b0] | (simp only [i64_w, i32_w]; rw [c12b0]) | skip)
    have H' := Aside0.mk H
    clear H
    go_wp2
    go_meet
    case rel => exact ⟨_, (true), (by first | rfl | (simp; done) | (simp [*]; done) | (simp only [i64_w]; done)), H', ⟨by first | omega | exact Nat.le_refl _⟩, ⟨by (with_reducible repeat (first | refine blk_drewN ?_ _ | refine blk_drew ?_ | refine blk_alloc ?_ _)); refine blk_put (cs := #[.int .i64 t150, .int .i64 t151, .int .i64 t152, .int .i64 t153, .int .i64 t154, .int .i64 0]) ?_ 5 _ (by first | rfl | (simp only [List.length_drop, List.length_take]; rfl)); (with_reducible repeat (first | refine blk_drewN ?_ _ | refine blk_drew ?_ | refine blk_alloc ?_ _)); refine blk_put (cs := #[.int .i64 t150, .int .i64 t151, .int .i64 t152, .int .i64 t153, .int .i64 0, .int .i64 0]) ?_ 4 _ (by first | rfl | (simp only [List.length_drop, List.length_take]; rfl)); (with_reducible repeat (first | refine blk_drewN ?_ _ | refine blk_drew ?_ | refine blk_alloc ?_ _)); refine blk_put (cs := #[.int .i64 t150, .int .i64 t151, .int .i64 t152, .int .i64 0, .int .i64 0, .int .i64 0]) ?_ 3 _ (by first | rfl | (simp only [List.length_drop, List.length_take]; rfl)); (with_reducible repeat (first | refine blk_drewN ?_ _ | refine blk_drew ?_ | refine blk_alloc ?_ _)); refine blk_put (cs := #[.int .i64 t150, .int .i64 t151, .int .i64 0, .int .i64 0, .int .i64 0, .int .i64 0]) ?_ 2 _ (by first | rfl | (simp only [List.length_drop, List.length_take]; rfl)); (with_reducible repeat (first | refine blk_drewN ?_ _ | refine blk_drew ?_ | refine blk_alloc ?_ _)); refine blk_put (cs := #[.int .i64 t150, .int .i64 0, .int .i64 0, .int .i64 0, .int .i64 0, .int .i64 0]) ?_ 1 _ (by first | rfl | (simp only [List.length_drop, List.length_take]; rfl)); (with_reducible repeat (first | refine blk_drewN ?_ _ | refine blk_drew ?_ | refine blk_alloc ?_ _)); refine blk_put (cs := #[.int .i64 0, .int .i64 0, .int .i64 0, .int .i64 0, .int .i64 0, .int .i64 0]) ?_ 0 _ (by first | rfl | (simp only [List.length_drop, List.length_take]; rfl)); (with_reducible repeat (first | refine blk_drewN ?_ _ | refine blk_drew ?_ | refine blk_alloc ?_ _)); exact BK157.out⟩, ⟨by exact zh1_ HB.out GE157.out⟩⟩
   ·rw [if_neg c12] at H
    have c12b0 : decide (a3 < 1) = false := decide_eq_false c12
    clear c12
    (first | rw [c12b0] | (simp only [i64_w, i32_w]; rw [c12b0]) | skip)
    have H' := Aside0.mk H
    clear H
    go_wp2
    go_meet
    case rel => exact ⟨_, (decide (a3 > 1048576)), (by first | rfl | (simp; done) | (simp [*]; done) | (simp only [i64_w]; done)), H', ⟨by first | omega | exact Nat.le_refl _⟩, ⟨by (with_reducible repeat (first | refine blk_drewN ?_ _ | refine blk_drew ?_ | refine blk_alloc ?_ _)); refine blk_put (cs := #[.int .i64 t150, .int .i64 t151, .int .i64 t152, .int .i64 t153, .int .i64 t154, .int .i64 0]) ?_ 5 _ (by first | rfl | (simp only [List.length_drop, List.length_take]; rfl)); (with_reducible repeat (first | refine blk_drewN ?_ _ | refine blk_drew ?_ | refine blk_alloc ?_ _)); refine blk_put (cs := #[.int .i64 t150, .int .i64 t151, .int .i64 t152, .int .i64 t153, .int .i64 0, .int .i64 0]) ?_ 4 _ (by first | rfl | (simp only [List.length_drop, List.length_take]; rfl)); (with_reducible repeat (first | refine blk_drewN ?_ _ | refine blk_drew ?_ | refine blk_alloc ?_ _)); refine blk_put (cs := #[.int .i64 t150, .int .i64 t151, .int .i64 t152, .int .i64 0, .int .i64 0, .int .i64 0]) ?_ 3 _ (by first | rfl | (simp only [List.length_drop, List.length_take]; rfl)); (with_reducible repeat (first | refine blk_drewN ?_ _ | refine blk_drew ?_ | refine blk_alloc ?_ _)); refine blk_put (cs := #[.int .i64 t150, .int .i64 t151, .int .i64 0, .int .i64 0, .int .i64 0, .int .i64 0]) ?_ 2 _ (by first | rfl | (simp only [List.length_drop, List.length_take]; rfl)); (with_reducible repeat (first | refine blk_drewN ?_ _ | refine blk_drew ?_ | refine blk_alloc ?_ _)); refine blk_put (cs := #[.int .i64 t150, .int .i64 0, .int .i64 0, .int .i64 0, .int .i64 0, .int .i64 0]) ?_ 1 _ (by first | rfl | (simp only [List.length_drop, List.length_take]; rfl)); (with_reducible repeat (first | refine blk_drewN ?_ _ | refine blk_drew ?_ | refine blk_alloc ?_ _)); refine blk_put (cs := #[.int .i64 0, .int .i64 0, .int .i64 0, .int .i64 0, .int .i64 0, .int .i64 0]) ?_ 0 _ (by first | rfl | (simp only [List.length_drop, List.length_take]; rfl)); (with_reducible repeat (first | refine blk_drewN ?_ _ | refine blk_drew ?_ | refine blk_alloc ?_ _)); exact BK157.out⟩, ⟨by exact zh1_ HB.out GE157.out⟩⟩
  case rest =>
   clear HC8
   try clear c1
   try clear c2
   try clear p2
   try clear c7
   try clear c7b0
   try clear c7b1
   try clear c12
   try clear c12b0
   try clear hcz11_0
   try clear hcz11_1
   try clear hcz11_2
   try clear hcz11_3
   try clear hcz11_4
   try clear hcz11_5
   try clear hfz11_0
   try clear hfz11_1
   try clear hfz11_2
   try clear hfz11_3
   try clear hfz11_4
   try clear hfz11_5
   (try clear BK157)
   obtain ⟨kq, x32_7, rfl, HA, HJ7, BK157, HB⟩ := hcut
   cases kq with
   | zero => exact absurd HA.out (by simp [stock_moved.j0])
   | succ kj7 =>
    have H := HA.out
    clear HA
    simp only [stock_moved.j0] at H
    by_cases c13 : x32_7 = true
    ·subst c13
     replace H := (if_pos (rfl : true = true)).symm.trans H
     simp only [Option.some.injEq, Prod.mk.injEq] at H
     obtain ⟨rfl, rfl⟩ := H
     go_wp2
     go_ret2
     exact ⟨_, by first | rfl | (simp [errW_none, errW_some] <;> rfl) | (simp [*, errW_none, errW_some] <;> rfl), by first | exact Kd.R_nil _ _ _ _ _ | exact Kd.N_nil _ _ _ _ _ | exact Kd.V_nil _ _ _ _ _ | exact Kd.Q_nil _ _ _ _ _ | exact Kd.S_nil _ _ _ _ _, by exact zh1_ HB.out GE157.out⟩
    ·replace c13 := Bool.eq_false_iff.mpr c13
     subst c13
     replace H := (if_neg (show ¬ (false = true) by decide)).symm.trans H
     obtain ⟨⟨t158, t159, t160, t161, t162, t163⟩, A14, H⟩ := zm H
     (try dsimp only at H)
     have HC15 := Aside0.mk H
     clear H
     go_upto_region 7 with (first | ((with_reducible refine gate_value (T := 33) rfl ?_); refine goesCL_ (some 34) rfl rfl (cl_T61.ok A14.out) #[.pointer (some ⟨gb157, 0, none⟩)] #[.pointer (some ⟨gc4, 0, none⟩)] rfl (by first | rfl | (simp only [Act.eval]; rfl)) (by first | rfl | (simp only [List.map_toArray, List.map_cons, List.map_nil]; rfl)) ?_; refine (cl_T61.calls a4 t150 t151 t152 t153 t154 t155 t158 t159 t160 t161 t162 t163 _ gb157 gc4 (zb_ BK157.out) (blk_below HG4.out (zh1_ HB.out GE157.out)) A14.out).mono ?_; rintro e w16 ⟨rfl, hbk, hkb⟩; refine ⟨_, rfl, ?_⟩; replace BK157 := Aside0.mk (hbk); replace HB := Aside0.mk (Below.trans (zh1_ HB.out GE157.out) (Below.mono hkb GE157.out)); clear hbk hkb))
     (try simp only [Act.put, zt0, zt1, zt2])
     go_cut [47] (fun v47 wc => ∃ (kq : Nat) (x47_14 : Bool), v47 = .bool x47_14 ∧ Aside0 (stock_moved.j1 kq l0 a1 a2 x47_14 t158 t159 t160 t161 t162 t163 = some (r1, r2)) ∧ Aside0 (kq ≤ kj7) ∧ Aside0 (wc.heap[gb157]? = some (.cells #[.int .i64 t158, .int .i64 t159, .int .i64 t160, .int .i64 t161, .int .i64 t162, .int .i64 t163] 43 (0, 0))) ∧ Aside0 (Below w.heap.size w wc))
     case first =>
      have H := HC15.out
      clear HC15
      by_cases c17 : t160 < 0
      ·rw [if_pos c17] at H
       have c17b0 : decide (t160 < 0) = true := decide_eq_true c17
       clear c17
       (first | rw [c17b0] | (simp only [i64_w, i32_w]; rw [c17b0]) | skip)
       have H' := Aside0.mk H
       clear H
       have hcz18_0 : w16.cell? ⟨gb157, 0, none⟩ = some (.int .i64 t158) := (blk_cell BK157.out 0).trans rfl
       have hcz18_1 : w16.cell? ⟨gb157, 1, none⟩ = some (.int .i64 t159) := (blk_cell BK157.out 1).trans rfl
       have hcz18_2 : w16.cell? ⟨gb157, 2, none⟩ = some (.int .i64 t160) := (blk_cell BK157.out 2).trans rfl
       have hcz18_3 : w16.cell? ⟨gb157, 3, none⟩ = some (.int .i64 t161) := (blk_cell BK157.out 3).trans rfl
       have hcz18_4 : w16.cell? ⟨gb157, 4, none⟩ = some (.int .i64 t162) := (blk_cell BK157.out 4).trans rfl
       have hcz18_5 : w16.cell? ⟨gb157, 5, none⟩ = some (.int .i64 t163) := (blk_cell BK157.out 5).trans rfl
       have hfz18_0 := blk_frozen BK157.out 0
       have hfz18_1 := blk_frozen BK157.out 1
       have hfz18_2 := blk_frozen BK157.out 2
       have hfz18_3 := blk_frozen BK157.out 3
       have hfz18_4 := blk_frozen BK157.out 4
       have hfz18_5 := blk_frozen BK157.out 5
       go_wp2
       go_meet
       case rel => exact ⟨_, (true), (by first | rfl | (simp; done) | (simp [*]; done) | (simp only [i64_w]; done)), H', ⟨by have := HJ7.out; first | omega | exact Nat.le_refl _⟩, ⟨by (with_reducible repeat (first | refine blk_drewN ?_ _ | refine blk_drew ?_ | refine blk_alloc ?_ _)); exact BK157.out⟩, ⟨by exact zh1_ HB.out GE157.out⟩⟩
      ·rw [if_neg c17] at H
       have c17b0 : decide (t160 < 0) = false := decide_eq_false c17
       clear c17
       (first | rw [c17b0] | (simp only [i64_w, i32_w]; rw [c17b0]) | skip)
       by_cases c19 : t161 < 0
       ·rw [if_pos c19] at H
        have c19b0 : decide (t161 < 0) = true := decide_eq_true c19
        clear c19
        have H' := Aside0.mk H
        clear H
        have hcz20_0 : w16.cell? ⟨gb157, 0, none⟩ = some (.int .i64 t158) := (blk_cell BK157.out 0).trans rfl
        have hcz20_1 : w16.cell? ⟨gb157, 1, none⟩ = some (.int .i64 t159) := (blk_cell BK157.out 1).trans rfl
        have hcz20_2 : w16.cell? ⟨gb157, 2, none⟩ = some (.int .i64 t160) := (blk_cell BK157.out 2).trans rfl
        have hcz20_3 : w16.cell? ⟨gb157, 3, none⟩ = some (.int .i64 t161) := (blk_cell BK157.out 3).trans rfl
        have hcz20_4 : w16.cell? ⟨gb157, 4, none⟩ = some (.int .i64 t162) := (blk_cell BK157.out 4).trans rfl
        have hcz20_5 : w16.cell? ⟨gb157, 5, none⟩ = some (.int .i64 t163) := (blk_cell BK157.out 5).trans rfl
        have hfz20_0 := blk_frozen BK157.out 0
        have hfz20_1 := blk_frozen BK157.out 1
        have hfz20_2 := blk_frozen BK157.out 2
        have hfz20_3 := blk_frozen BK157.out 3
        have hfz20_4 := blk_frozen BK157.out 4
        have hfz20_5 := blk_frozen BK157.out 5
        go_wp2
        go_meet
        case rel => exact ⟨_, (true), (by first | rfl | (simp; done) | (simp [*]; done) | (simp only [i64_w]; done)), H', ⟨by have := HJ7.out; first | omega | exact Nat.le_refl _⟩, ⟨by (with_reducible repeat (first | refine blk_drewN ?_ _ | refine blk_drew ?_ | refine blk_alloc ?_ _)); exact BK157.out⟩, ⟨by exact zh1_ HB.out GE157.out⟩⟩
       ·rw [if_neg c19] at H
        have c19b0 : decide (t161 < 0) = false := decide_eq_false c19
        clear c19
        have H' := Aside0.mk H
        clear H
        have hcz21_0 : w16.cell? ⟨gb157, 0, none⟩ = some (.int .i64 t158) := (blk_cell BK157.out 0).trans rfl
        have hcz21_1 : w16.cell? ⟨gb157, 1, none⟩ = some (.int .i64 t159) := (blk_cell BK157.out 1).trans rfl
        have hcz21_2 : w16.cell? ⟨gb157, 2, none⟩ = some (.int .i64 t160) := (blk_cell BK157.out 2).trans rfl
        have hcz21_3 : w16.cell? ⟨gb157, 3, none⟩ = some (.int .i64 t161) := (blk_cell BK157.out 3).trans rfl
        have hcz21_4 : w16.cell? ⟨gb157, 4, none⟩ = some (.int .i64 t162) := (blk_cell BK157.out 4).trans rfl
        have hcz21_5 : w16.cell? ⟨gb157, 5, none⟩ = some (.int .i64 t163) := (blk_cell BK157.out 5).trans rfl
        have hfz21_0 := blk_frozen BK157.out 0
        have hfz21_1 := blk_frozen BK157.out 1
        have hfz21_2 := blk_frozen BK157.out 2
        have hfz21_3 := blk_frozen BK157.out 3
        have hfz21_4 := blk_frozen BK157.out 4
        have hfz21_5 := blk_frozen BK157.out 5
        go_wp2
        go_meet
        case rel => exact ⟨_, (decide (t162 < 0)), (by first | rfl | (simp; done) | (simp [*]; done) | (simp only [i64_w]; done)), H', ⟨by have := HJ7.out; first | omega | exact Nat.le_refl _⟩, ⟨by (with_reducible repeat (first | refine blk_drewN ?_ _ | refine blk_drew ?_ | refine blk_alloc ?_ _)); exact BK157.out⟩, ⟨by exact zh1_ HB.out GE157.out⟩⟩
     case rest =>
      clear HC15
      try clear c1
      try clear c2
      try clear p2
      try clear c4
      try clear c7
      try clear c7b0
      try clear c7b1
      try clear c12
      try clear c12b0
      try clear c13
      try clear c17
      try clear c17b0
      try clear c19
      try clear c19b0
      try clear hcz11_0
      try clear hcz11_1
      try clear hcz11_2
      try clear hcz11_3
      try clear hcz11_4
      try clear hcz11_5
      try clear hcz18_0
      try clear hcz18_1
      try clear hcz18_2
      try clear hcz18_3
      try clear hcz18_4
      try clear hcz18_5
      try clear hcz20_0
      try clear hcz20_1
      try clear hcz20_2
      try clear hcz20_3
      try clear hcz20_4
      try clear hcz20_5
      try clear hcz21_0
      try clear hcz21_1
      try clear hcz21_2
      try clear hcz21_3
      try clear hcz21_4
      try clear hcz21_5
      try clear hfz11_0
      try clear hfz11_1
      try clear hfz11_2
      try clear hfz11_3
      try clear hfz11_4
      try clear hfz11_5
      try clear hfz18_0
      try clear hfz18_1
      try clear hfz18_2
      try clear hfz18_3
      try clear hfz18_4
      try clear hfz18_5
      try clear hfz20_0
      try clear hfz20_1
      try clear hfz20_2
      try clear hfz20_3
      try clear hfz20_4
      try clear hfz20_5
      try clear hfz21_0
      try clear hfz21_1
      try clear hfz21_2
      try clear hfz21_3
      try clear hfz21_4
      try clear hfz21_5
      try clear p2
      (try clear BK157)
      obtain ⟨kq, x47_14, rfl, HA, HJ14, BK157, HB⟩ := hcut
      cases kq with
      | zero => exact absurd HA.out (by simp [stock_moved.j1])
      | succ kj14 =>
       have H := HA.out
       clear HA
       simp only [stock_moved.j1] at H
       by_cases c22 : x47_14 = true
       ·subst c22
        replace H := (if_pos (rfl : true = true)).symm.trans H
        simp only [Option.some.injEq, Prod.mk.injEq] at H
        obtain ⟨rfl, rfl⟩ := H
        go_wp2
        go_ret2
        exact ⟨_, by first | rfl | (simp [errW_none, errW_some] <;> rfl) | (simp [*, errW_none, errW_some] <;> rfl), by first | exact Kd.R_nil _ _ _ _ _ | exact Kd.N_nil _ _ _ _ _ | exact Kd.V_nil _ _ _ _ _ | exact Kd.Q_nil _ _ _ _ _ | exact Kd.S_nil _ _ _ _ _, by exact zh1_ HB.out GE157.out⟩
       ·replace c22 := Bool.eq_false_iff.mpr c22
        subst c22
        replace H := (if_neg (show ¬ (false = true) by decide)).symm.trans H
        by_cases c23 : t163 > 1125899906842624
        ·rw [if_pos c23] at H
         have c23b0 : decide (1125899906842624 < t163) = true := decide_eq_true c23
         clear c23
         simp only [Option.some.injEq, Prod.mk.injEq] at H
         obtain ⟨rfl, rfl⟩ := H
         have hcz24_0 : wc.cell? ⟨gb157, 0, none⟩ = some (.int .i64 t158) := (blk_cell BK157.out 0).trans rfl
         have hcz24_1 : wc.cell? ⟨gb157, 1, none⟩ = some (.int .i64 t159) := (blk_cell BK157.out 1).trans rfl
         have hcz24_2 : wc.cell? ⟨gb157, 2, none⟩ = some (.int .i64 t160) := (blk_cell BK157.out 2).trans rfl
         have hcz24_3 : wc.cell? ⟨gb157, 3, none⟩ = some (.int .i64 t161) := (blk_cell BK157.out 3).trans rfl
         have hcz24_4 : wc.cell? ⟨gb157, 4, none⟩ = some (.int .i64 t162) := (blk_cell BK157.out 4).trans rfl
         have hcz24_5 : wc.cell? ⟨gb157, 5, none⟩ = some (.int .i64 t163) := (blk_cell BK157.out 5).trans rfl
         have hfz24_0 := blk_frozen BK157.out 0
         have hfz24_1 := blk_frozen BK157.out 1
         have hfz24_2 := blk_frozen BK157.out 2
         have hfz24_3 := blk_frozen BK157.out 3
         have hfz24_4 := blk_frozen BK157.out 4
         have hfz24_5 := blk_frozen BK157.out 5
         go_wp2
         go_ret2
         exact ⟨_, by first | rfl | (simp [errW_none, errW_some] <;> rfl) | (simp [*, errW_none, errW_some] <;> rfl), by first | exact Kd.R_nil _ _ _ _ _ | exact Kd.N_nil _ _ _ _ _ | exact Kd.V_nil _ _ _ _ _ | exact Kd.Q_nil _ _ _ _ _ | exact Kd.S_nil _ _ _ _ _, by exact zh1_ HB.out GE157.out⟩
        ·rw [if_neg c23] at H
         have c23b0 : decide (1125899906842624 < t163) = false := decide_eq_false c23
         clear c23
         obtain ⟨⟨t164, t165⟩, A25, H⟩ := zm H
         (try dsimp only at H)
         have HC26 := Aside0.mk H
         clear H
         have hcz27_0 : wc.cell? ⟨gb157, 0, none⟩ = some (.int .i64 t158) := (blk_cell BK157.out 0).trans rfl
         have hcz27_1 : wc.cell? ⟨gb157, 1, none⟩ = some (.int .i64 t159) := (blk_cell BK157.out 1).trans rfl
         have hcz27_2 : wc.cell? ⟨gb157, 2, none⟩ = some (.int .i64 t160) := (blk_cell BK157.out 2).trans rfl
         have hcz27_3 : wc.cell? ⟨gb157, 3, none⟩ = some (.int .i64 t161) := (blk_cell BK157.out 3).trans rfl
         have hcz27_4 : wc.cell? ⟨gb157, 4, none⟩ = some (.int .i64 t162) := (blk_cell BK157.out 4).trans rfl
         have hcz27_5 : wc.cell? ⟨gb157, 5, none⟩ = some (.int .i64 t163) := (blk_cell BK157.out 5).trans rfl
         have hfz27_0 := blk_frozen BK157.out 0
         have hfz27_1 := blk_frozen BK157.out 1
         have hfz27_2 := blk_frozen BK157.out 2
         have hfz27_3 := blk_frozen BK157.out 3
         have hfz27_4 := blk_frozen BK157.out 4
         have hfz27_5 := blk_frozen BK157.out 5
         go_upto_region 12 with (first | ((with_reducible refine gate_callee (f := 33) rfl ?_); refine goesL_ (some 55) rfl rfl Tryd.func33 (by kernel_rfl) rfl #[.slice A0 l0.length c0, .int .i64 a1, .int .i64 a2] rfl zl_ ?_; (with_reducible refine (stock_place.calls kj14 _ _ l0 a1 a2 t164 t165 _ ?side1 ?side2 A25.out).mono ?_); (case side1 => exact zc_ (Kd.C_below HR0.out HB.out)); (case side2 => exact HC0.out); rintro e w28 ⟨rfl, hb⟩; refine ⟨_, rfl, ?_⟩; replace BK157 := Aside0.mk (blk_below (zb_ BK157.out) hb); replace HB := Aside0.mk (below_step (zh1_ HB.out GE157.out) hb); (try clear hb)))
         (try simp only [Act.put, zt0, zt1, zt2])
         go_cut [64] (fun v64 wc => ∃ (kq : Nat) (x64_25 : Bool), v64 = .bool x64_25 ∧ Aside0 (stock_moved.j2 kq l0 t164 t165 x64_25 t158 t159 t160 t161 t162 t163 = some (r1, r2)) ∧ Aside0 (kq ≤ kj14) ∧ Aside0 (wc.heap[gb157]? = some (.cells #[.int .i64 t158, .int .i64 t159, .int .i64 t160, .int .i64 t161, .int .i64 t162, .int .i64 t163] 43 (0, 0))) ∧ Aside0 (Below w.heap.size w wc))
         case first =>
          have H := HC26.out
          clear HC26
          by_cases c29 : t165 = true
          ·subst c29
           replace H := (if_pos (rfl : true = true)).symm.trans H
           have H' := Aside0.mk H
           clear H
           go_wp2
           go_meet
           case rel => exact ⟨_, (false), (by first | rfl | (simp; done) | (simp [*]; done) | (simp only [i64_w]; done)), H', ⟨by have := HJ7.out; have := HJ14.out; first | omega | exact Nat.le_refl _⟩, ⟨by (with_reducible repeat (first | refine blk_drewN ?_ _ | refine blk_drew ?_ | refine blk_alloc ?_ _)); exact BK157.out⟩, ⟨by exact zh1_ HB.out GE157.out⟩⟩
          ·replace c29 := Bool.eq_false_iff.mpr c29
           subst c29
           replace H := (if_neg (show ¬ (false = true) by decide)).symm.trans H
           have H' := Aside0.mk H
           clear H
           go_wp2
           go_meet
           case rel => exact ⟨_, (decide ((l0.length : Int) ≥ 4096)), (by first | rfl | (simp; done) | (simp [*]; done) | (simp only [i64_w]; done)), H', ⟨by have := HJ7.out; have := HJ14.out; first | omega | exact Nat.le_refl _⟩, ⟨by (with_reducible repeat (first | refine blk_drewN ?_ _ | refine blk_drew ?_ | refine blk_alloc ?_ _)); exact BK157.out⟩, ⟨by exact zh1_ HB.out GE157.out⟩⟩
         case rest =>
          clear HC26
          try clear c1
          try clear c2
          try clear p2
          try clear c3
          try clear c4
          try clear c7
          try clear c7b0
          try clear c7b1
          try clear c12
          try clear c12b0
          try clear c13
          try clear c17
          try clear c17b0
          try clear c19
          try clear c19b0
          try clear c22
          try clear c23
          try clear c23b0
          try clear c29
          try clear hcz11_0
          try clear hcz11_1
          try clear hcz11_2
          try clear hcz11_3
          try clear hcz11_4
          try clear hcz11_5
          try clear hcz18_0
          try clear hcz18_1
          try clear hcz18_2
          try clear hcz18_3
          try clear hcz18_4
          try clear hcz18_5
          try clear hcz20_0
          try clear hcz20_1
          try clear hcz20_2
          try clear hcz20_3
          try clear hcz20_4
          try clear hcz20_5
          try clear hcz21_0
          try clear hcz21_1
          try clear hcz21_2
          try clear hcz21_3
          try clear hcz21_4
          try clear hcz21_5
          try clear hcz24_0
          try clear hcz24_1
          try clear hcz24_2
          try clear hcz24_3
          try clear hcz24_4
          try clear hcz24_5
          try clear hcz27_0
          try clear hcz27_1
          try clear hcz27_2
          try clear hcz27_3
          try clear hcz27_4
          try clear hcz27_5
          try clear hfz11_0
          try clear hfz11_1
          try clear hfz11_2
          try clear hfz11_3
          try clear hfz11_4
          try clear hfz11_5
          try clear hfz18_0
          try clear hfz18_1
          try clear hfz18_2
          try clear hfz18_3
          try clear hfz18_4
          try clear hfz18_5
          try clear hfz20_0
          try clear hfz20_1
          try clear hfz20_2
          try clear hfz20_3
          try clear hfz20_4
          try clear hfz20_5
          try clear hfz21_0
          try clear hfz21_1
          try clear hfz21_2
          try clear hfz21_3
          try clear hfz21_4
          try clear hfz21_5
          try clear hfz24_0
          try clear hfz24_1
          try clear hfz24_2
          try clear hfz24_3
          try clear hfz24_4
          try clear hfz24_5
          try clear hfz27_0
          try clear hfz27_1
          try clear hfz27_2
          try clear hfz27_3
          try clear hfz27_4
          try clear hfz27_5
          try clear p2
          (try clear BK157)
          obtain ⟨kq, x64_25, rfl, HA, HJ25, BK157, HB⟩ := hcut
          cases kq with
          | zero => exact absurd HA.out (by simp [stock_moved.j2])
          | succ kj25 =>
           have H := HA.out
           clear HA
           simp only [stock_moved.j2] at H
           by_cases c30 : x64_25 = true
           ·subst c30
            replace H := (if_pos (rfl : true = true)).symm.trans H
            simp only [Option.some.injEq, Prod.mk.injEq] at H
            obtain ⟨rfl, rfl⟩ := H
            go_wp2
            go_ret2
            exact ⟨_, by first | rfl | (simp [errW_none, errW_some] <;> rfl) | (simp [*, errW_none, errW_some] <;> rfl), by first | exact Kd.R_nil _ _ _ _ _ | exact Kd.N_nil _ _ _ _ _ | exact Kd.V_nil _ _ _ _ _ | exact Kd.Q_nil _ _ _ _ _ | exact Kd.S_nil _ _ _ _ _, by exact zh1_ HB.out GE157.out⟩
           ·replace c30 := Bool.eq_false_iff.mpr c30
            subst c30
            replace H := (if_neg (show ¬ (false = true) by decide)).symm.trans H
            obtain ⟨t166, A31, H⟩ := zm H
            (try dsimp only at H)
            by_cases c32 : t165 = true
            ·subst c32
             replace H := (if_pos (rfl : true = true)).symm.trans H
             by_cases c33 : 0 ≤ t164
             ·rw [if_pos c33] at H
              have c33b0 : decide (0 ≤ t164) = true := decide_eq_true c33
              clear c33
              by_cases c34 : t164 < (t166.length : Int)
              ·rw [if_pos c34] at H
               have c34b0 : decide (t164 < (t166.length : Int)) = true := decide_eq_true c34
               clear c34
               obtain ⟨y169, hy169⟩ : ∃ y_ : List (S43), y_ = (t166.set (t164 : Int).toNat (⟨t158, t159, t160, t161, t162, t163⟩ : S43)) := ⟨_, rfl⟩
               replace H : (some (y169, 0)) = some (r1, r2) := by first | (rw [hy169]; with_reducible exact H) | (have H2_ := (Option.bind_some _ _).symm.trans H; rw [hy169]; with_reducible exact H2_) | (have H2_ := (Option.bind_some _ _).symm.trans H; with_reducible exact H2_) | with_reducible exact H | (rw [hy169]; exact H) | exact H
               have Ny169 := Aside0.mk hy169
               clear hy169
               simp only [Option.some.injEq, Prod.mk.injEq] at H
               obtain ⟨rfl, rfl⟩ := H
               go_wp2_with (first | ((with_reducible refine gate_callee (f := 21) rfl ?_); refine goesL_ (some 66) rfl rfl Tryd.func21 (by kernel_rfl) rfl #[.slice A0 l0.length c0] rfl zl_ ?_; (with_reducible refine (api_Cell_21.calls _ _ l0 t166 _ ?side1 ?side2 A31.out).mono ?_); (case side1 => exact zc_ (Kd.C_below HR0.out HB.out)); (case side2 => exact HC0.out); rintro e w36 ⟨v167, rfl, ho0, hb⟩; refine ⟨_, rfl, ?_⟩; have HO168 := Aside0.mk (Kd.R_lower (Kd.R_newB ho0 (zb_ BK157.out)) (below_size (zh1_ HB.out GE157.out))); replace BK157 := Aside0.mk (blk_below (zb_ BK157.out) hb); replace HB := Aside0.mk (below_step (zh1_ HB.out GE157.out) hb); (try clear hb); (try clear hk); (try clear ho0); have hcz37_0 : w36.cell? ⟨gb157, 0, none⟩ = some (.int .i64 t158) := (blk_cell BK157.out 0).trans rfl; have hcz37_1 : w36.cell? ⟨gb157, 1, none⟩ = some (.int .i64 t159) := (blk_cell BK157.out 1).trans rfl; have hcz37_2 : w36.cell? ⟨gb157, 2, none⟩ = some (.int .i64 t160) := (blk_cell BK157.out 2).trans rfl; have hcz37_3 : w36.cell? ⟨gb157, 3, none⟩ = some (.int .i64 t161) := (blk_cell BK157.out 3).trans rfl; have hcz37_4 : w36.cell? ⟨gb157, 4, none⟩ = some (.int .i64 t162) := (blk_cell BK157.out 4).trans rfl; have hcz37_5 : w36.cell? ⟨gb157, 5, none⟩ = some (.int .i64 t163) := (blk_cell BK157.out 5).trans rfl; have hfz37_0 := blk_frozen BK157.out 0; have hfz37_1 := blk_frozen BK157.out 1; have hfz37_2 := blk_frozen BK157.out 2; have hfz37_3 := blk_frozen BK157.out 3; have hfz37_4 := blk_frozen BK157.out 4; have hfz37_5 := blk_frozen BK157.out 5; have p35 : 0 ≤ (t164 : Int) := of_decide_eq_true za_; have q35 : (t164 : Int) < ((t166.length : Int) : Int) := of_decide_eq_true za_; obtain ⟨go35, co35, eo35, gb35, gl35, cl35, HG35⟩ := Kd.R_form HO168.out (by omega); (first | cases eo35 | (injection eo35 with ea_ en_ ec_; (first | subst ea_ | (injection ea_ with ea_; subst ea_)); subst ec_; clear en_)); have GB35 := Aside0.mk gb35; have GG35 := Aside0.mk HG35; clear gb35 gl35 HG35; obtain ⟨ce35, hcl35, hM35, hcc35, hfr35⟩ := Kd.R_elem HO168.out z43 (t164 : Int) p35 q35; obtain rfl := k43_openM hM35; have hx35_0 : w36.cell? ⟨go35, (t164 : Int).toNat * 6, none⟩ = some (.int .i64 ((rd_T43 t166 t164).f0)) := hcc35 0 _ rfl; have hx35_1 : w36.cell? ⟨go35, (t164 : Int).toNat * 6 + 1, none⟩ = some (.int .i64 ((rd_T43 t166 t164).f1)) := hcc35 1 _ rfl; have hx35_2 : w36.cell? ⟨go35, (t164 : Int).toNat * 6 + 2, none⟩ = some (.int .i64 ((rd_T43 t166 t164).f2)) := hcc35 2 _ rfl; have hx35_3 : w36.cell? ⟨go35, (t164 : Int).toNat * 6 + 3, none⟩ = some (.int .i64 ((rd_T43 t166 t164).f3)) := hcc35 3 _ rfl; have hx35_4 : w36.cell? ⟨go35, (t164 : Int).toNat * 6 + 4, none⟩ = some (.int .i64 ((rd_T43 t166 t164).f4)) := hcc35 4 _ rfl; have hx35_5 : w36.cell? ⟨go35, (t164 : Int).toNat * 6 + 5, none⟩ = some (.int .i64 ((rd_T43 t166 t164).f5)) := hcc35 5 _ rfl; have hf35_0 : w36.frozen? ⟨go35, (t164 : Int).toNat * 6, none⟩ = false := hfr35 0; have hf35_1 : w36.frozen? ⟨go35, (t164 : Int).toNat * 6 + 1, none⟩ = false := hfr35 1; have hf35_2 : w36.frozen? ⟨go35, (t164 : Int).toNat * 6 + 2, none⟩ = false := hfr35 2; have hf35_3 : w36.frozen? ⟨go35, (t164 : Int).toNat * 6 + 3, none⟩ = false := hfr35 3; have hf35_4 : w36.frozen? ⟨go35, (t164 : Int).toNat * 6 + 4, none⟩ = false := hfr35 4; have hf35_5 : w36.frozen? ⟨go35, (t164 : Int).toNat * 6 + 5, none⟩ = false := hfr35 5; clear hcl35 hcc35 hfr35 hM35; replace p35 := eq_true p35; replace q35 := eq_true q35; have n_ := Aside0.mk (Kd.R_mono (ok' := (fun k_ => k_ ≠ gb157)) HO168.out (fun k_ hk => hk.2)); clear HO168; have HO168 := n_; clear n_; have HX38 := Aside0.mk (show Kd.R k43 43 w36 w.heap.size (fun k_ => k_ ≠ gb157) (.slice (some ⟨go35, 0, none⟩) t166.length co35) t166 from (zR_ HO168.out)); obtain ⟨ce38, hcl38, hM38, hcc38, hfr38⟩ := Kd.R_elem HX38.out z43 (t164 : Int) (of_decide_eq_true za_) (by have h_ : (t164 : Int) < ((t166.length : Int) : Int) := of_decide_eq_true za_; first | exact h_ | (have e_ := (Kd.R_reads' HO168.out).1; omega) | simpa using h_); obtain rfl := k43_openM hM38; have HP38 := Kd.R_seg HX38.out (t164 : Int) (of_decide_eq_true za_) (by have h_ : (t164 : Int) < ((t166.length : Int) : Int) := of_decide_eq_true za_; first | exact h_ | (have e_ := (Kd.R_reads' HO168.out).1; omega) | simpa using h_) (seg := [.int .i64 t158, .int .i64 t159, .int .i64 t160, .int .i64 t161, .int .i64 t162, .int .i64 t163]) (j := 0) hcl38 hcc38 (show 6 ≤ 6 from by decide) (x' := (⟨t158, t159, t160, t161, t162, t163⟩ : S43)) (k43_mkM _ _ _ (⟨t158, t159, t160, t161, t162, t163⟩ : S43) ) (fun _ hk => hk); have hx38_0 := hcc38 0 _ rfl; (try simp only [show (k43).sz = 6 from rfl, Nat.mul_one, Nat.add_zero] at hx38_0); have hf38_0 := hfr38 0; (try simp only [show (k43).sz = 6 from rfl, Nat.mul_one, Nat.add_zero] at hf38_0); have hx38_1 := hcc38 1 _ rfl; (try simp only [show (k43).sz = 6 from rfl, Nat.mul_one, Nat.add_zero] at hx38_1); have hf38_1 := hfr38 1; (try simp only [show (k43).sz = 6 from rfl, Nat.mul_one, Nat.add_zero] at hf38_1); have hx38_2 := hcc38 2 _ rfl; (try simp only [show (k43).sz = 6 from rfl, Nat.mul_one, Nat.add_zero] at hx38_2); have hf38_2 := hfr38 2; (try simp only [show (k43).sz = 6 from rfl, Nat.mul_one, Nat.add_zero] at hf38_2); have hx38_3 := hcc38 3 _ rfl; (try simp only [show (k43).sz = 6 from rfl, Nat.mul_one, Nat.add_zero] at hx38_3); have hf38_3 := hfr38 3; (try simp only [show (k43).sz = 6 from rfl, Nat.mul_one, Nat.add_zero] at hf38_3); have hx38_4 := hcc38 4 _ rfl; (try simp only [show (k43).sz = 6 from rfl, Nat.mul_one, Nat.add_zero] at hx38_4); have hf38_4 := hfr38 4; (try simp only [show (k43).sz = 6 from rfl, Nat.mul_one, Nat.add_zero] at hf38_4); have hx38_5 := hcc38 5 _ rfl; (try simp only [show (k43).sz = 6 from rfl, Nat.mul_one, Nat.add_zero] at hx38_5); have hf38_5 := hfr38 5; (try simp only [show (k43).sz = 6 from rfl, Nat.mul_one, Nat.add_zero] at hf38_5); clear hcl38 hcc38 hfr38 hM38) | ((with_reducible refine gate_store (t := 43) (p := 77) rfl ?_); refine store_event (t := 43) (p := 77) (v := ?vo_w39) (w1 := ((((((w36.setCell ⟨go35, (t164 : Int).toNat * 6, none⟩ (.int .i64 t158)).setCell ⟨go35, (t164 : Int).toNat * 6 + 1, none⟩ (.int .i64 t159)).setCell ⟨go35, (t164 : Int).toNat * 6 + 2, none⟩ (.int .i64 t160)).setCell ⟨go35, (t164 : Int).toNat * 6 + 3, none⟩ (.int .i64 t161)).setCell ⟨go35, (t164 : Int).toNat * 6 + 4, none⟩ (.int .i64 t162)).setCell ⟨go35, (t164 : Int).toNat * 6 + 5, none⟩ (.int .i64 t163))) ?hg ?ho ?hn ?hr ?_; (case ho => rfl); (case hg => rfl); (case hn => rfl); (case hr => first | (go_simp; done) | (go_simp; rfl)); intro w39 hw; have hg : w36.grownBy w39 (some go35) := (by rw [hw]; exact HP38.2); have hp_ : Kd.R k43 43 w39 w.heap.size (fun k_ => k_ ≠ gb157) (.slice (some ⟨go35, 0, none⟩) t166.length co35) y169 := (by rw [hw, Ny169.out]; exact HP38.1); clear HP38; replace BK157 := Aside0.mk (blk_grown (zb_ BK157.out) hg (Kd.R_away HO168.out (fun _ hk => hk))); replace HO168 := Aside0.mk (hp_); replace HB := Aside0.mk ((by rw [hw]; exact below_set (below_set (below_set (below_set (below_set (below_set (HB.out) GB35.out) GB35.out) GB35.out) GB35.out) GB35.out) GB35.out : Below w.heap.size w w39)); clear hg hw hp_))
               go_ret2
               exact ⟨_, by first | rfl | (simp [errW_none, errW_some] <;> rfl) | (simp [*, errW_none, errW_some] <;> rfl), by (with_reducible repeat (first | apply Kd.R_alloc | apply Kd.R_drewN | apply Kd.R_drew)); exact Kd.R_mono HO168.out (fun _ hk => trivial), by exact zh1_ HB.out GE157.out⟩
              ·rw [if_neg c34] at H
               cases H
             ·rw [if_neg c33] at H
              cases H
            ·replace c32 := Bool.eq_false_iff.mpr c32
             subst c32
             replace H := (if_neg (show ¬ (false = true) by decide)).symm.trans H
             obtain ⟨y170, hy170⟩ : ∃ y_ : List (S43), y_ = (([(⟨t158, t159, t160, t161, t162, t163⟩ : S43)] : List (S43))) := ⟨_, rfl⟩
             replace H : ((api_Cell_44.f t166 t164 y170).bind fun t173 => (if 0 ≤ t164 then (if t164 < (t173.length : Int) then (some ((t173.set (t164 : Int).toNat (⟨t158, t159, t160, t161, t162, t163⟩ : S43)), 0)) else (none)) else (none))) = some (r1, r2) := by first | (rw [hy170]; with_reducible exact H) | (have H2_ := (Option.bind_some _ _).symm.trans H; rw [hy170]; with_reducible exact H2_) | (have H2_ := (Option.bind_some _ _).symm.trans H; with_reducible exact H2_) | with_reducible exact H | (rw [hy170]; exact H) | exact H
             have Ny170 := Aside0.mk hy170
             clear hy170
             obtain ⟨t173, A40, H⟩ := zm H
             (try dsimp only at H)
             by_cases c41 : 0 ≤ t164
             ·rw [if_pos c41] at H
              have c41b0 : decide (0 ≤ t164) = true := decide_eq_true c41
              clear c41
              by_cases c42 : t164 < (t173.length : Int)
              ·rw [if_pos c42] at H
               have c42b0 : decide (t164 < (t173.length : Int)) = true := decide_eq_true c42
               clear c42
               obtain ⟨y176, hy176⟩ : ∃ y_ : List (S43), y_ = (t173.set (t164 : Int).toNat (⟨t158, t159, t160, t161, t162, t163⟩ : S43)) := ⟨_, rfl⟩
               replace H : (some (y176, 0)) = some (r1, r2) := by first | (rw [hy176]; with_reducible exact H) | (have H2_ := (Option.bind_some _ _).symm.trans H; rw [hy176]; with_reducible exact H2_) | (have H2_ := (Option.bind_some _ _).symm.trans H; with_reducible exact H2_) | with_reducible exact H | (rw [hy176]; exact H) | exact H
               have Ny176 := Aside0.mk hy176
               clear hy176
               simp only [Option.some.injEq, Prod.mk.injEq] at H
               obtain ⟨rfl, rfl⟩ := H
               go_wp2_with (first | ((with_reducible refine gate_callee (f := 21) rfl ?_); refine goesL_ (some 66) rfl rfl Tryd.func21 (by kernel_rfl) rfl #[.slice A0 l0.length c0] rfl zl_ ?_; (with_reducible refine (api_Cell_21.calls _ _ l0 t166 _ ?side1 ?side2 A31.out).mono ?_); (case side1 => exact zc_ (Kd.C_below HR0.out HB.out)); (case side2 => exact HC0.out); rintro e w44 ⟨v167, rfl, ho0, hb⟩; refine ⟨_, rfl, ?_⟩; have HO168 := Aside0.mk (Kd.R_lower (Kd.R_newB ho0 (zb_ BK157.out)) (below_size (zh1_ HB.out GE157.out))); replace BK157 := Aside0.mk (blk_below (zb_ BK157.out) hb); replace HB := Aside0.mk (below_step (zh1_ HB.out GE157.out) hb); (try clear hb); (try clear hk); (try clear ho0); have hcz45_0 : w44.cell? ⟨gb157, 0, none⟩ = some (.int .i64 t158) := (blk_cell BK157.out 0).trans rfl; have hcz45_1 : w44.cell? ⟨gb157, 1, none⟩ = some (.int .i64 t159) := (blk_cell BK157.out 1).trans rfl; have hcz45_2 : w44.cell? ⟨gb157, 2, none⟩ = some (.int .i64 t160) := (blk_cell BK157.out 2).trans rfl; have hcz45_3 : w44.cell? ⟨gb157, 3, none⟩ = some (.int .i64 t161) := (blk_cell BK157.out 3).trans rfl; have hcz45_4 : w44.cell? ⟨gb157, 4, none⟩ = some (.int .i64 t162) := (blk_cell BK157.out 4).trans rfl; have hcz45_5 : w44.cell? ⟨gb157, 5, none⟩ = some (.int .i64 t163) := (blk_cell BK157.out 5).trans rfl; have hfz45_0 := blk_frozen BK157.out 0; have hfz45_1 := blk_frozen BK157.out 1; have hfz45_2 := blk_frozen BK157.out 2; have hfz45_3 := blk_frozen BK157.out 3; have hfz45_4 := blk_frozen BK157.out 4; have hfz45_5 := blk_frozen BK157.out 5) | ((with_reducible refine gate_dst (N := 72) rfl ?_); (try (refine gate_guard (by rfl) ?_; dsimp only)); refine Kd.R_lit k43 _ 43 ?hg (N := 72) ?hd (xs := ([(⟨t158, t159, t160, t161, t162, t163⟩ : S43)] : List (S43))) (inner := [.int .i64 t158, .int .i64 t159, .int .i64 t160, .int .i64 t161, .int .i64 t162, .int .i64 t163]) (ok := fun _ => True) (okp := fun _ => True) ?hr ?hp (fun _ hk => hk) trivial (Below.refl _ _) (Nat.le_refl _) (by simp) ?_; (case hd => rfl); (case hg => rfl); (case hr => first | (go_simp; done) | (go_simp; rfl)); (case hp => exact (Reps.c6 (show Kd.M k43 _ _ _ (⟨t158, t159, t160, t161, t162, t163⟩ : S43) [.int .i64 t158, .int .i64 t159, .int .i64 t160, .int .i64 t161, .int .i64 t162, .int .i64 t163] from (k43_mkM _ _ _ (⟨t158, t159, t160, t161, t162, t163⟩ : S43) )) (Reps.none _ _))); intro v171 w46 ho47 hb hg_ hnew_; clear hg_ hnew_; (first | rw [← Ny170.out] at ho47 | (simp only [Int.reduceToNat] at ho47; rw [← Ny170.out] at ho47)); have HO172 := Aside0.mk (Kd.R_lower (Kd.R_newB (Kd.R_new' ho47 (Kd.R_lt (zR_ HO168.out))) (zb_ BK157.out)) (below_size (zh1_ HB.out GE157.out))); replace HO168 := Aside0.mk (Kd.R_elder' (zR_ HO168.out) (Kd.R_base ho47) hb); replace BK157 := Aside0.mk (blk_below (zb_ BK157.out) hb); replace HB := Aside0.mk (below_step (zh1_ HB.out GE157.out) hb); clear hb ho47; obtain ⟨Ao48, co48, eo48⟩ := Kd.R_slice HO168.out; subst eo48; obtain ⟨Ao49, co49, eo49⟩ := Kd.R_slice HO172.out; subst eo49) | ((with_reducible refine gate_callee (f := 44) rfl ?_); refine goesL_ (some 73) rfl rfl Tryd.func44 (by kernel_rfl) rfl #[.slice Ao48 t166.length co48, .int .i64 t164, .slice Ao49 y170.length co49] rfl zl_ ?_; (with_reducible refine (api_Cell_44.calls (fun k_ => some k_ = (.slice Ao48 t166.length co48 : Value).ownBlock) (.slice Ao48 t166.length co48) t166 t164 _ _ y170 t173 w _ ?side1 ?side2 ?side3 ?side4 A40.out).mono ?_); (case side1 => exact zh1_ HB.out GE157.out); (case side2 => exact Kd.R_tight rfl HO168.out); (case side3 => exact Kd.C_kept_own (HO172.out) (fun k_ hk_ hs_ => (hk_.1.2) hs_)); (case side4 => exact (Kd.R_reads' HO172.out).2.1); rintro e w50 ⟨v174, rfl, ho0, hb, hkp⟩; refine ⟨_, rfl, ?_⟩; have HO175 := Aside0.mk (Kd.R_mono (ok' := fun k_ => some k_ ≠ (.slice Ao49 y170.length co49 : Value).ownBlock ∧ k_ ≠ gb157) ho0 (fun k_ hk_ => ⟨Or.elim hk_ (fun hs_ => fun e_ => (((HO172.out).1 k_ e_.symm).1.2) hs_) (fun hn_ => (Kd.fresh' (Kd.R_lt (zR_ HO172.out)) k_ hn_)), Or.elim hk_ (fun hs_ => fun e_ => (Kd.R_away HO168.out (fun _ hk => hk.1.2)) (by rw [← e_]; exact hs_)) (fun hn_ => (Kd.freshB (zb_ BK157.out) k_ hn_))⟩)); replace BK157 := Aside0.mk (blk_kept (zb_ BK157.out) hkp (fun hs_ => (fun e_ => (Kd.R_away HO168.out (fun _ hk => hk.1.2)) e_) hs_)); replace HO172 := Aside0.mk (Kd.R_mono (ok' := fun k_ => k_ ≠ gb157 ∧ some k_ ≠ (v174 : Value).ownBlock) (Kd.R_keptB (HO172.out) hkp (fun k_ hk_ hs_ => (hk_.1.2) hs_)) (fun k_ hk_ => ⟨hk_.1.2, fun e_ => Or.elim (ho0.1 k_ e_.symm) (fun hs_ => hk_.2.1 hs_) (fun hn_ => Nat.not_le.2 hk_.2.2 hn_)⟩)); replace HB := Aside0.mk (hb); clear HO168; (try clear hb); (try clear hkp); (try clear ho0); have hcz51_0 : w50.cell? ⟨gb157, 0, none⟩ = some (.int .i64 t158) := (blk_cell BK157.out 0).trans rfl; have hcz51_1 : w50.cell? ⟨gb157, 1, none⟩ = some (.int .i64 t159) := (blk_cell BK157.out 1).trans rfl; have hcz51_2 : w50.cell? ⟨gb157, 2, none⟩ = some (.int .i64 t160) := (blk_cell BK157.out 2).trans rfl; have hcz51_3 : w50.cell? ⟨gb157, 3, none⟩ = some (.int .i64 t161) := (blk_cell BK157.out 3).trans rfl; have hcz51_4 : w50.cell? ⟨gb157, 4, none⟩ = some (.int .i64 t162) := (blk_cell BK157.out 4).trans rfl; have hcz51_5 : w50.cell? ⟨gb157, 5, none⟩ = some (.int .i64 t163) := (blk_cell BK157.out 5).trans rfl; have hfz51_0 := blk_frozen BK157.out 0; have hfz51_1 := blk_frozen BK157.out 1; have hfz51_2 := blk_frozen BK157.out 2; have hfz51_3 := blk_frozen BK157.out 3; have hfz51_4 := blk_frozen BK157.out 4; have hfz51_5 := blk_frozen BK157.out 5; have p43 : 0 ≤ (t164 : Int) := of_decide_eq_true za_; have q43 : (t164 : Int) < ((t173.length : Int) : Int) := of_decide_eq_true za_; obtain ⟨go43, co43, eo43, gb43, gl43, cl43, HG43⟩ := Kd.R_form HO175.out (by omega); (first | cases eo43 | (injection eo43 with ea_ en_ ec_; (first | subst ea_ | (injection ea_ with ea_; subst ea_)); subst ec_; clear en_)); have GB43 := Aside0.mk gb43; have GG43 := Aside0.mk HG43; clear gb43 gl43 HG43; obtain ⟨ce43, hcl43, hM43, hcc43, hfr43⟩ := Kd.R_elem HO175.out z43 (t164 : Int) p43 q43; obtain rfl := k43_openM hM43; have hx43_0 : w50.cell? ⟨go43, (t164 : Int).toNat * 6, none⟩ = some (.int .i64 ((rd_T43 t173 t164).f0)) := hcc43 0 _ rfl; have hx43_1 : w50.cell? ⟨go43, (t164 : Int).toNat * 6 + 1, none⟩ = some (.int .i64 ((rd_T43 t173 t164).f1)) := hcc43 1 _ rfl; have hx43_2 : w50.cell? ⟨go43, (t164 : Int).toNat * 6 + 2, none⟩ = some (.int .i64 ((rd_T43 t173 t164).f2)) := hcc43 2 _ rfl; have hx43_3 : w50.cell? ⟨go43, (t164 : Int).toNat * 6 + 3, none⟩ = some (.int .i64 ((rd_T43 t173 t164).f3)) := hcc43 3 _ rfl; have hx43_4 : w50.cell? ⟨go43, (t164 : Int).toNat * 6 + 4, none⟩ = some (.int .i64 ((rd_T43 t173 t164).f4)) := hcc43 4 _ rfl; have hx43_5 : w50.cell? ⟨go43, (t164 : Int).toNat * 6 + 5, none⟩ = some (.int .i64 ((rd_T43 t173 t164).f5)) := hcc43 5 _ rfl; have hf43_0 : w50.frozen? ⟨go43, (t164 : Int).toNat * 6, none⟩ = false := hfr43 0; have hf43_1 : w50.frozen? ⟨go43, (t164 : Int).toNat * 6 + 1, none⟩ = false := hfr43 1; have hf43_2 : w50.frozen? ⟨go43, (t164 : Int).toNat * 6 + 2, none⟩ = false := hfr43 2; have hf43_3 : w50.frozen? ⟨go43, (t164 : Int).toNat * 6 + 3, none⟩ = false := hfr43 3; have hf43_4 : w50.frozen? ⟨go43, (t164 : Int).toNat * 6 + 4, none⟩ = false := hfr43 4; have hf43_5 : w50.frozen? ⟨go43, (t164 : Int).toNat * 6 + 5, none⟩ = false := hfr43 5; clear hcl43 hcc43 hfr43 hM43; replace p43 := eq_true p43; replace q43 := eq_true q43; have HX52 := Aside0.mk (show Kd.R k43 43 w50 w.heap.size (fun k_ => some k_ ≠ (.slice Ao49 y170.length co49 : Value).ownBlock ∧ k_ ≠ gb157) (.slice (some ⟨go43, 0, none⟩) t173.length co43) t173 from (zR_ HO175.out)); obtain ⟨ce52, hcl52, hM52, hcc52, hfr52⟩ := Kd.R_elem HX52.out z43 (t164 : Int) (of_decide_eq_true za_) (by have h_ : (t164 : Int) < ((t173.length : Int) : Int) := of_decide_eq_true za_; first | exact h_ | (have e_ := (Kd.R_reads' HO175.out).1; omega) | simpa using h_); obtain rfl := k43_openM hM52; have HP52 := Kd.R_seg HX52.out (t164 : Int) (of_decide_eq_true za_) (by have h_ : (t164 : Int) < ((t173.length : Int) : Int) := of_decide_eq_true za_; first | exact h_ | (have e_ := (Kd.R_reads' HO175.out).1; omega) | simpa using h_) (seg := [.int .i64 t158, .int .i64 t159, .int .i64 t160, .int .i64 t161, .int .i64 t162, .int .i64 t163]) (j := 0) hcl52 hcc52 (show 6 ≤ 6 from by decide) (x' := (⟨t158, t159, t160, t161, t162, t163⟩ : S43)) (k43_mkM _ _ _ (⟨t158, t159, t160, t161, t162, t163⟩ : S43) ) (fun _ hk => hk); have hx52_0 := hcc52 0 _ rfl; (try simp only [show (k43).sz = 6 from rfl, Nat.mul_one, Nat.add_zero] at hx52_0); have hf52_0 := hfr52 0; (try simp only [show (k43).sz = 6 from rfl, Nat.mul_one, Nat.add_zero] at hf52_0); have hx52_1 := hcc52 1 _ rfl; (try simp only [show (k43).sz = 6 from rfl, Nat.mul_one, Nat.add_zero] at hx52_1); have hf52_1 := hfr52 1; (try simp only [show (k43).sz = 6 from rfl, Nat.mul_one, Nat.add_zero] at hf52_1); have hx52_2 := hcc52 2 _ rfl; (try simp only [show (k43).sz = 6 from rfl, Nat.mul_one, Nat.add_zero] at hx52_2); have hf52_2 := hfr52 2; (try simp only [show (k43).sz = 6 from rfl, Nat.mul_one, Nat.add_zero] at hf52_2); have hx52_3 := hcc52 3 _ rfl; (try simp only [show (k43).sz = 6 from rfl, Nat.mul_one, Nat.add_zero] at hx52_3); have hf52_3 := hfr52 3; (try simp only [show (k43).sz = 6 from rfl, Nat.mul_one, Nat.add_zero] at hf52_3); have hx52_4 := hcc52 4 _ rfl; (try simp only [show (k43).sz = 6 from rfl, Nat.mul_one, Nat.add_zero] at hx52_4); have hf52_4 := hfr52 4; (try simp only [show (k43).sz = 6 from rfl, Nat.mul_one, Nat.add_zero] at hf52_4); have hx52_5 := hcc52 5 _ rfl; (try simp only [show (k43).sz = 6 from rfl, Nat.mul_one, Nat.add_zero] at hx52_5); have hf52_5 := hfr52 5; (try simp only [show (k43).sz = 6 from rfl, Nat.mul_one, Nat.add_zero] at hf52_5); clear hcl52 hcc52 hfr52 hM52) | ((with_reducible refine gate_store (t := 43) (p := 77) rfl ?_); refine store_event (t := 43) (p := 77) (v := ?vo_w53) (w1 := ((((((w50.setCell ⟨go43, (t164 : Int).toNat * 6, none⟩ (.int .i64 t158)).setCell ⟨go43, (t164 : Int).toNat * 6 + 1, none⟩ (.int .i64 t159)).setCell ⟨go43, (t164 : Int).toNat * 6 + 2, none⟩ (.int .i64 t160)).setCell ⟨go43, (t164 : Int).toNat * 6 + 3, none⟩ (.int .i64 t161)).setCell ⟨go43, (t164 : Int).toNat * 6 + 4, none⟩ (.int .i64 t162)).setCell ⟨go43, (t164 : Int).toNat * 6 + 5, none⟩ (.int .i64 t163))) ?hg ?ho ?hn ?hr ?_; (case ho => rfl); (case hg => rfl); (case hn => rfl); (case hr => first | (go_simp; done) | (go_simp; rfl)); intro w53 hw; have hg : w50.grownBy w53 (some go43) := (by rw [hw]; exact HP52.2); have hp_ : Kd.R k43 43 w53 w.heap.size (fun k_ => some k_ ≠ (.slice Ao49 y170.length co49 : Value).ownBlock ∧ k_ ≠ gb157) (.slice (some ⟨go43, 0, none⟩) t173.length co43) y176 := (by rw [hw, Ny176.out]; exact HP52.1); clear HP52; replace BK157 := Aside0.mk (blk_grown (zb_ BK157.out) hg (Kd.R_away HO175.out (fun _ hk => hk.2))); replace HO172 := Aside0.mk (Kd.R_after (v := (.slice (some ⟨go43, 0, none⟩) t173.length co43)) (v1 := (.slice (some ⟨go43, 0, none⟩) t173.length co43)) (ok := (fun k_ => k_ ≠ gb157)) (zR_ HO172.out) hg (.inl rfl)); replace HO175 := Aside0.mk (hp_); replace HB := Aside0.mk ((by rw [hw]; exact below_set (below_set (below_set (below_set (below_set (below_set (HB.out) GB43.out) GB43.out) GB43.out) GB43.out) GB43.out) GB43.out : Below w.heap.size w w53)); clear hg hw hp_))
               go_ret2
               exact ⟨_, by first | rfl | (simp [errW_none, errW_some] <;> rfl) | (simp [*, errW_none, errW_some] <;> rfl), by (with_reducible repeat (first | apply Kd.R_alloc | apply Kd.R_drewN | apply Kd.R_drew)); exact Kd.R_mono HO175.out (fun _ hk => trivial), by exact zh1_ HB.out GE157.out⟩
              ·rw [if_neg c42] at H
               cases H
             ·rw [if_neg c41] at H
              cases H
 ·rw [if_neg c7] at H
  obtain ⟨c7b0, c7b1⟩ := zq0 c7
  simp only [Option.some.injEq, Prod.mk.injEq] at H
  obtain ⟨rfl, rfl⟩ := H
  go_enter Tryd.func22, Tryd.ntmps22
  go_wp2_with (first | ((with_reducible refine gate_callee (f := 12) rfl ?_); refine goesL_ (some 21) rfl rfl Tryd.func12 (by kernel_rfl) rfl #[.slice A0 l0.length c0, .int .i64 a1, .int .i64 a2] rfl zl_ ?_; (with_reducible refine (stock_Cell.calls k _ _ l0 a1 a2 t150 t151 t152 t153 t154 t155 t156 _ ?side1 ?side2 A6.out).mono ?_); (case side1 => repeat (first | exact HR0.out | (with_reducible refine Kd.C_alloc ?_ _) | (with_reducible refine Kd.C_drewN ?_ _) | (with_reducible refine Kd.C_drew ?_))); (case side2 => exact HC0.out); rintro e w54 ⟨rfl, hb⟩; refine ⟨_, rfl, ?_⟩; replace HB := Aside0.mk (below_step (zh0_ HB.out) hb); (try clear hb)) | ((with_reducible refine gate_dst (N := 12) rfl ?_); (try (refine gate_guard (by rfl) ?_; dsimp only)); refine box_event ?hg (N := 12) ?hd (cs := #[.int .i64 0, .int .i64 0, .int .i64 0, .int .i64 0, .int .i64 0, .int .i64 0]) (t := 43) ?hr ?_; (case hd => rfl); (case hg => rfl); (case hr => first | (go_simp; done) | (go_simp; rfl)); intro gb157 hg w55 hbox hb; have BK157 := Aside0.mk (hbox); have GW157 := Aside0.mk ((by rw [hg]; exact (below_size (zh0_ HB.out)) : w.heap.size ≤ gb157)); have GE157 := Aside0.mk ((by rw [hg]; exact (below_size (zh0_ HB.out)) : w.heap.size ≤ gb157)); replace HB := Aside0.mk (below_step (zh0_ HB.out) hb); clear hb hbox hg; have hcz56_0 : w55.cell? ⟨gb157, 0, none⟩ = some (.int .i64 0) := (blk_cell BK157.out 0).trans rfl; have hcz56_1 : w55.cell? ⟨gb157, 1, none⟩ = some (.int .i64 0) := (blk_cell BK157.out 1).trans rfl; have hcz56_2 : w55.cell? ⟨gb157, 2, none⟩ = some (.int .i64 0) := (blk_cell BK157.out 2).trans rfl; have hcz56_3 : w55.cell? ⟨gb157, 3, none⟩ = some (.int .i64 0) := (blk_cell BK157.out 3).trans rfl; have hcz56_4 : w55.cell? ⟨gb157, 4, none⟩ = some (.int .i64 0) := (blk_cell BK157.out 4).trans rfl; have hcz56_5 : w55.cell? ⟨gb157, 5, none⟩ = some (.int .i64 0) := (blk_cell BK157.out 5).trans rfl; have hfz56_0 := blk_frozen BK157.out 0; have hfz56_1 := blk_frozen BK157.out 1; have hfz56_2 := blk_frozen BK157.out 2; have hfz56_3 := blk_frozen BK157.out 3; have hfz56_4 := blk_frozen BK157.out 4; have hfz56_5 := blk_frozen BK157.out 5))
  go_ret2
  exact ⟨_, by first | rfl | (simp [errW_none, errW_some] <;> rfl) | (simp [*, errW_none, errW_some] <;> rfl), by first | exact Kd.R_nil _ _ _ _ _ | exact Kd.N_nil _ _ _ _ _ | exact Kd.V_nil _ _ _ _ _ | exact Kd.Q_nil _ _ _ _ _ | exact Kd.S_nil _ _ _ _ _, by exact zh1_ HB.out GE157.out⟩
end Go.Proofs.YtdiopojnkjkgmaaDoor.Print
namespace Go.Proofs.YtdiopojnkjkgmaaDoor.Print
open Go.RowKit Go.Proofs.YtdiopojnkjkgmaaDoorW.PrintWords Go.Proofs.YtdiopojnkjkgmaaDoorW.PrintLast Go.Proofs.YtdiopojnkjkgmaaDoorW.PrintMore
attribute [local go_sem] max2_mx min2_mn max_two min_two max_three min_three max_four min_four
set_option linter.unusedVariables false
set_option linter.unusedSimpArgs false
def stock_Reserve.f (k : Nat) (l0 : List (S43)) (a1 : Int) (a2 : Int) (a3 : Int) : Option ((List (S43)) × Int) := stock_moved.f k l0 a1 a2 a3 (23, a3)
set_option maxHeartbeats 4000000 in
set_option maxRecDepth 100000 in
theorem stock_Reserve.calls (k : Nat) (A0 : Option Addr) (c0 : Nat) (l0 : List (S43)) (a1 : Int) (a2 : Int) (a3 : Int) (r1 : List (S43)) (r2 : Int) (w : World) (hr0 : Kd.C k43 w A0 l0.length l0) (hc0 : l0.length ≤ c0) (h : stock_Reserve.f k l0 a1 a2 a3 = some (r1, r2)) :
  Calls Tryd.prog 8 #[.slice A0 l0.length c0, .int .i64 a1, .int .i64 a2, .int .i64 a3] w fun e w' => ∃ v0_ : Value, e = .returned (.tuple #[v0_, .int .i64 r2]) ∧ Kd.R k43 43 w' w.heap.size (fun _ => True) v0_ r1 ∧ Below w.heap.size w w' := by
 have HR0 := Aside0.mk hr0
 have HC0 := Aside0.mk hc0
 have HH := Aside0.mk h
 clear hr0 hc0 h
 go_enter Tryd.func8, Tryd.ntmps8
 go_wp2_with (first | ((with_reducible refine gate_dst (N := 7) rfl ?_); refine box_event ?hg (N := 7) ?hd (cs := #[.int .i64 a3]) (t := 2) ?hr ?_; (case hd => rfl); (case hg => rfl); (case hr => first | (go_simp; done) | (go_simp; rfl)); intro gb hg w1 hbox hb; have BK := Aside0.mk hbox; have HB := Aside0.mk hb; have HG := Aside0.mk hg; have hx : w1.cell? ⟨gb, 0, none⟩ = some (.int .i64 a3) := (blk_cell hbox 0).trans rfl; clear hbox hb hg) | ((with_reducible refine gate_callee (f := 22) rfl ?_); refine goesL_ (some 15) rfl rfl Tryd.func22 (by kernel_rfl) rfl #[.slice A0 l0.length c0, .int .i64 a1, .int .i64 a2, .int .i64 a3, .func (.func (((23 : Int), a3) : Int × Int).1.toNat) #[] #[.pointer (some ⟨gb, 0, none⟩)]] rfl (by (try simp only [List.map_toArray, List.map_cons, List.map_nil]); first | done | rfl) ?_; refine (stock_moved.calls k _ _ l0 a1 a2 a3 gb (23, a3) r1 r2 _ (Kd.C_below HR0.out HB.out) HC0.out BK.out HH.out).mono ?_; rintro e w2 ⟨v0_, rfl, hR, hb2⟩; refine ⟨_, rfl, ?_⟩))
 go_ret2
 exact ⟨_, rfl, Kd.R_lower hR HB.out.size, below_step HB.out hb2⟩
def stock_Send.f (k : Nat) (l0 : List (S43)) (a1 : Int) (a2 : Int) (a3 : Int) : Option ((List (S43)) × Int) := stock_moved.f k l0 a1 a2 a3 (31, a3)
set_option maxHeartbeats 4000000 in
set_option maxRecDepth 100000 in
theorem stock_Send.calls (k : Nat) (A0 : Option Addr) (c0 : Nat) (l0 : List (S43)) (a1 : Int) (a2 : Int) (a3 : Int) (r1 : List (S43)) (r2 : Int) (w : World) (hr0 : Kd.C k43 w A0 l0.length l0) (hc0 : l0.length ≤ c0) (h : stock_Send.f k l0 a1 a2 a3 = some (r1, r2)) :
  Calls Tryd.prog 11 #[.slice A0 l0.length c0, .int .i64 a1, .int .i64 a2, .int .i64 a3] w fun e w' => ∃ v0_ : Value, e = .returned (.tuple #[v0_, .int .i64 r2]) ∧ Kd.R k43 43 w' w.heap.size (fun _ => True) v0_ r1 ∧ Below w.heap.size w w' := by
 have HR0 := Aside0.mk hr0
 have HC0 := Aside0.mk hc0
 have HH := Aside0.mk h
 clear hr0 hc0 h
 go_enter Tryd.func11, Tryd.ntmps11
 go_wp2_with (first | ((with_reducible refine gate_dst (N := 7) rfl ?_); refine box_event ?hg (N := 7) ?hd (cs := #[.int .i64 a3]) (t := 2) ?hr ?_; (case hd => rfl); (case hg => rfl); (case hr => first | (go_simp; done) | (go_simp; rfl)); intro gb hg w1 hbox hb; have BK := Aside0.mk hbox; have HB := Aside0.mk hb; have HG := Aside0.mk hg; have hx : w1.cell? ⟨gb, 0, none⟩ = some (.int .i64 a3) := (blk_cell hbox 0).trans rfl; clear hbox hb hg) | ((with_reducible refine gate_callee (f := 22) rfl ?_); refine goesL_ (some 15) rfl rfl Tryd.func22 (by kernel_rfl) rfl #[.slice A0 l0.length c0, .int .i64 a1, .int .i64 a2, .int .i64 a3, .func (.func (((31 : Int), a3) : Int × Int).1.toNat) #[] #[.pointer (some ⟨gb, 0, none⟩)]] rfl (by (try simp only [List.map_toArray, List.map_cons, List.map_nil]); first | done | rfl) ?_; refine (stock_moved.calls k _ _ l0 a1 a2 a3 gb (31, a3) r1 r2 _ (Kd.C_below HR0.out HB.out) HC0.out BK.out HH.out).mono ?_; rintro e w2 ⟨v0_, rfl, hR, hb2⟩; refine ⟨_, rfl, ?_⟩))
 go_ret2
 exact ⟨_, rfl, Kd.R_lower hR HB.out.size, below_step HB.out hb2⟩
def stock_TakeBack.f (k : Nat) (l0 : List (S43)) (a1 : Int) (a2 : Int) (a3 : Int) : Option ((List (S43)) × Int) := stock_moved.f k l0 a1 a2 a3 (34, a3)
set_option maxHeartbeats 4000000 in
set_option maxRecDepth 100000 in
theorem stock_TakeBack.calls (k : Nat) (A0 : Option Addr) (c0 : Nat) (l0 : List (S43)) (a1 : Int) (a2 : Int) (a3 : Int) (r1 : List (S43)) (r2 : Int) (w : World) (hr0 : Kd.C k43 w A0 l0.length l0) (hc0 : l0.length ≤ c0) (h : stock_TakeBack.f k l0 a1 a2 a3 = some (r1, r2)) :
  Calls Tryd.prog 13 #[.slice A0 l0.length c0, .int .i64 a1, .int .i64 a2, .int .i64 a3] w fun e w' => ∃ v0_ : Value, e = .returned (.tuple #[v0_, .int .i64 r2]) ∧ Kd.R k43 43 w' w.heap.size (fun _ => True) v0_ r1 ∧ Below w.heap.size w w' := by
 have HR0 := Aside0.mk hr0
 have HC0 := Aside0.mk hc0
 have HH := Aside0.mk h
 clear hr0 hc0 h
 go_enter Tryd.func13, Tryd.ntmps13
 go_wp2_with (first | ((with_reducible refine gate_dst (N := 7) rfl ?_); refine box_event ?hg (N := 7) ?hd (cs := #[.int .i64 a3]) (t := 2) ?hr ?_; (case hd => rfl); (case hg => rfl); (case hr => first | (go_simp; done) | (go_simp; rfl)); intro gb hg w1 hbox hb; have BK := Aside0.mk hbox; have HB := Aside0.mk hb; have HG := Aside0.mk hg; have hx : w1.cell? ⟨gb, 0, none⟩ = some (.int .i64 a3) := (blk_cell hbox 0).trans rfl; clear hbox hb hg) | ((with_reducible refine gate_callee (f := 22) rfl ?_); refine goesL_ (some 15) rfl rfl Tryd.func22 (by kernel_rfl) rfl #[.slice A0 l0.length c0, .int .i64 a1, .int .i64 a2, .int .i64 a3, .func (.func (((34 : Int), a3) : Int × Int).1.toNat) #[] #[.pointer (some ⟨gb, 0, none⟩)]] rfl (by (try simp only [List.map_toArray, List.map_cons, List.map_nil]); first | done | rfl) ?_; refine (stock_moved.calls k _ _ l0 a1 a2 a3 gb (34, a3) r1 r2 _ (Kd.C_below HR0.out HB.out) HC0.out BK.out HH.out).mono ?_; rintro e w2 ⟨v0_, rfl, hR, hb2⟩; refine ⟨_, rfl, ?_⟩))
 go_ret2
 exact ⟨_, rfl, Kd.R_lower hR HB.out.size, below_step HB.out hb2⟩
end Go.Proofs.YtdiopojnkjkgmaaDoor.Print
namespace Go.Proofs.YtdiopojnkjkgmaaDoor.Print
open Go.RowKit Go.Proofs.YtdiopojnkjkgmaaDoorW.PrintWords Go.Proofs.YtdiopojnkjkgmaaDoorW.PrintLast Go.Proofs.YtdiopojnkjkgmaaDoorW.PrintMore
attribute [local go_sem] max2_mx min2_mn max_two min_two max_three min_three max_four min_four
set_option linter.unusedVariables false
set_option linter.unusedSimpArgs false
def call_T31.f (k : Nat) (x : Int) (l0 : List (S43)) (a1 : Int) (a2 : Int) (a3 : Int) : Option ((List (S43)) × Int) := if x = 8 then (stock_Reserve.f k l0 a1 a2 a3) else if x = 11 then (stock_Send.f k l0 a1 a2 a3) else if x = 13 then (stock_TakeBack.f k l0 a1 a2 a3) else none
theorem call_T31.ok {k : Nat} {x : Int} {l0 : List (S43)} {a1 : Int} {a2 : Int} {a3 : Int} {r} (h : call_T31.f k x l0 a1 a2 a3 = some r) : FnOk Tryd.prog x := by
 unfold call_T31.f at h
 by_cases h8 : x = 8
 ·subst h8; exact ⟨by decide, _, Tryd.func8, by kernel_rfl, by kernel_rfl⟩
 rw [if_neg h8] at h
 by_cases h11 : x = 11
 ·subst h11; exact ⟨by decide, _, Tryd.func11, by kernel_rfl, by kernel_rfl⟩
 rw [if_neg h11] at h
 by_cases h13 : x = 13
 ·subst h13; exact ⟨by decide, _, Tryd.func13, by kernel_rfl, by kernel_rfl⟩
 rw [if_neg h13] at h
 cases h
theorem call_T31.calls (k : Nat) (x : Int) (A0 : Option Addr) (c0 : Nat) (l0 : List (S43)) (a1 : Int) (a2 : Int) (a3 : Int) (r1 : List (S43)) (r2 : Int) (w : World) (hr0 : Kd.C k43 w A0 l0.length l0) (hc0 : l0.length ≤ c0) (h : call_T31.f k x l0 a1 a2 a3 = some (r1, r2)) :
  Calls Tryd.prog x.toNat #[.slice A0 l0.length c0, .int .i64 a1, .int .i64 a2, .int .i64 a3] w fun e w' => ∃ v0_ : Value, e = .returned (.tuple #[v0_, .int .i64 r2]) ∧ Kd.R k43 43 w' w.heap.size (fun _ => True) v0_ r1 ∧ Below w.heap.size w w' := by
 unfold call_T31.f at h
 by_cases h8 : x = 8
 ·subst h8
  rw [if_pos rfl] at h
  exact stock_Reserve.calls k A0 c0 l0 a1 a2 a3 r1 r2 w hr0 hc0 h
 rw [if_neg h8] at h
 by_cases h11 : x = 11
 ·subst h11
  rw [if_pos rfl] at h
  exact stock_Send.calls k A0 c0 l0 a1 a2 a3 r1 r2 w hr0 hc0 h
 rw [if_neg h11] at h
 by_cases h13 : x = 13
 ·subst h13
  rw [if_pos rfl] at h
  exact stock_TakeBack.calls k A0 c0 l0 a1 a2 a3 r1 r2 w hr0 hc0 h
 rw [if_neg h13] at h
 cases h
theorem binEql_T31 {w : World} (x : Int) : (binOp .eql 31 (encFn x) .nilFunc).run Tryd.prog w = .ok (.bool (decide (x < 0))) w := binEql_fn Tryd.underlying31 x
theorem binNeq_T31 {w : World} (x : Int) : (binOp .neq 31 (encFn x) .nilFunc).run Tryd.prog w = .ok (.bool (!decide (x < 0))) w := binNeq_fn Tryd.underlying31 x
end Go.Proofs.YtdiopojnkjkgmaaDoor.Print
namespace Go.Proofs.YtdiopojnkjkgmaaDoor.Print
open Go.RowKit Go.Proofs.YtdiopojnkjkgmaaDoorW.PrintWords Go.Proofs.YtdiopojnkjkgmaaDoorW.PrintLast Go.Proofs.YtdiopojnkjkgmaaDoorW.PrintMore
attribute [local go_sem] max2_mx min2_mn max_two min_two max_three min_three max_four min_four
set_option linter.unusedVariables false
set_option linter.unusedSimpArgs false
attribute [local go_sem] eqGuard_fn binEql_T31 binNeq_T31
def stock_Lines.l0 : Nat → Int → List (S43) → List (S41) → Int → Int → Option ((List (S43)) × Int)
 | 0, _, _, _, _, _ => none
 | k + 1, x2, x8, x17, x18, x19 => if x19 < x18 then (if 0 ≤ x19 then (if x19 < (x17.length : Int) then ((call_T31.f k x2 x8 ((rd_T41 x17 x19).f0) ((rd_T41 x17 x19).f1) ((rd_T41 x17 x19).f2)).bind fun bt182 => (if bt182.2 = 0 then (stock_Lines.l0 k x2 bt182.1 x17 x18 (wrap64 (x19 + 1))) else (some (([] : List (S43)), bt182.2)))) else (none)) else (none)) else (some (x8, 0))
def stock_Lines.f (k : Nat) (l0 : List (S43)) (l1 : List (S41)) (a2 : Int) : Option ((List (S43)) × Int) := if a2 < 0 then (some (([] : List (S43)), 1)) else ((api_Cell_21.f l0).bind fun t177 => (stock_Lines.l0 k a2 t177 l1 (l1.length : Int) 0))
set_option maxHeartbeats 8000000 in
set_option maxRecDepth 100000 in
theorem stock_Lines.calls (k : Nat) (A0 : Option Addr) (c0 : Nat) (l0 : List (S43)) (A1 : Option Addr) (c1 : Nat) (l1 : List (S41)) (a2 : Int) (r1 : List (S43)) (r2 : Int) (w : World) (hr0 : Kd.C k43 w A0 l0.length l0) (hc0 : l0.length ≤ c0) (hr1 : Kd.C k41 w A1 l1.length l1) (hc1 : l1.length ≤ c1) (h : stock_Lines.f k l0 l1 a2 = some (r1, r2)) :
  Calls Tryd.prog 7 #[.slice A0 l0.length c0, .slice A1 l1.length c1, encFn a2] w fun e w' => ∃ v0_ : Value, e = .returned (.tuple #[v0_, .int .i64 r2]) ∧ Kd.R k43 43 w' w.heap.size (fun _ => True) v0_ r1 ∧ Below w.heap.size w w' := by
 have hu41 := Tryd.underlying41
 have HR0 := Aside0.mk hr0
 have HC0 := Aside0.mk hc0
 clear hr0 hc0
 have HR1 := Aside0.mk hr1
 have HC1 := Aside0.mk hc1
 clear hr1 hc1
 have HB := Aside0.mk (Below.refl w.heap.size w)
 have H : (if a2 < 0 then (some (([] : List (S43)), 1)) else ((api_Cell_21.f l0).bind fun t177 => (stock_Lines.l0 k a2 t177 l1 (l1.length : Int) 0))) = some (r1, r2) := h
 clear h
 by_cases c4 : a2 < 0
 ·rw [if_pos c4] at H
  have c4b0 : decide (a2 < 0) = true := decide_eq_true c4
  clear c4
  simp only [Option.some.injEq, Prod.mk.injEq] at H
  obtain ⟨rfl, rfl⟩ := H
  go_enter Tryd.func7, Tryd.ntmps7
  go_wp2
  go_ret2
  exact ⟨_, by first | rfl | (simp [errW_none, errW_some] <;> rfl) | (simp [*, errW_none, errW_some] <;> rfl), by first | exact Kd.R_nil _ _ _ _ _ | exact Kd.N_nil _ _ _ _ _ | exact Kd.V_nil _ _ _ _ _ | exact Kd.Q_nil _ _ _ _ _ | exact Kd.S_nil _ _ _ _ _, by exact zh0_ HB.out⟩
 ·rw [if_neg c4] at H
  have c4b0 : decide (a2 < 0) = false := decide_eq_false c4
  clear c4
  obtain ⟨t177, A5, H⟩ := zm H
  (try dsimp only at H)
  have H' := Aside0.mk H
  clear H
  go_enter Tryd.func7, Tryd.ntmps7
  go_wp2_with (first | ((with_reducible refine gate_callee (f := 21) rfl ?_); refine goesL_ (some 16) rfl rfl Tryd.func21 (by kernel_rfl) rfl #[.slice A0 l0.length c0] rfl zl_ ?_; (with_reducible refine (api_Cell_21.calls _ _ l0 t177 _ ?side1 ?side2 A5.out).mono ?_); (case side1 => repeat (first | exact HR0.out | (with_reducible refine Kd.C_alloc ?_ _) | (with_reducible refine Kd.C_drewN ?_ _) | (with_reducible refine Kd.C_drew ?_))); (case side2 => exact HC0.out); rintro e w6 ⟨v178, rfl, ho0, hb⟩; refine ⟨_, rfl, ?_⟩; have HO179 := Aside0.mk (Kd.R_lower ho0 (below_size (zh0_ HB.out))); replace HB := Aside0.mk (below_step (zh0_ HB.out) hb); (try clear hb); (try clear ho0)))
  go_loopg [8, 19] k (fun kq v8 v19 w' => ∃ (x8_1 : List (S43)) (x19_1 : Int), v19 = .int .i64 x19_1 ∧ Aside0 (stock_Lines.l0 kq a2 x8_1 l1 (l1.length : Int) x19_1 = some (r1, r2)) ∧ Aside0 (kq ≤ k) ∧ Aside0 (Kd.R k43 43 w' w.heap.size (fun _ => True) v8 x8_1) ∧ Aside0 (Below w.heap.size w w'))
  case atStart => exact ⟨(t177), (0), (by first | rfl | (simp; done) | (simp [*]; done) | (simp only [i64_w]; done)), H', ⟨Nat.le_refl _⟩, ⟨by (with_reducible repeat (first | apply Kd.R_alloc | apply Kd.R_drewN | apply Kd.R_drew)); exact HO179.out⟩, ⟨by exact zh0_ HB.out⟩⟩
  case round =>
   clear H'
   try clear c1
   try clear c2
   try clear p2
   try clear c4
   try clear c4b0
   obtain ⟨x8_1, x19_1, rfl, HA, HK1, HO_8, HB⟩ := hrel
   cases gk with
   | zero => exact absurd HA.out (by simp [stock_Lines.l0])
   | succ k1 =>
    have H := HA.out
    clear HA
    simp only [stock_Lines.l0] at H
    by_cases c7 : x19_1 < (l1.length : Int)
    ·rw [if_pos c7] at H
     have c7b0 : decide (x19_1 < (l1.length : Int)) = true := decide_eq_true c7
     clear c7
     by_cases c8 : 0 ≤ x19_1
     ·rw [if_pos c8] at H
      have c8b0 : decide (0 ≤ x19_1) = true := decide_eq_true c8
      clear c8
      by_cases c9 : x19_1 < (l1.length : Int)
      ·rw [if_pos c9] at H
       have c9b0 : decide (x19_1 < (l1.length : Int)) = true := decide_eq_true c9
       clear c9
       obtain ⟨⟨t182, t183⟩, A10, H⟩ := zm H
       (try dsimp only at H)
       by_cases c11 : t183 = 0
       ·rw [if_pos c11] at H
        obtain ⟨c11b0, c11b1⟩ := zq1 c11
        clear c11
        have H' := Aside0.mk H
        clear H
        have p180 : 0 ≤ (x19_1 : Int) := of_decide_eq_true za_
        have q180 : x19_1 < (l1.length : Int) := of_decide_eq_true za_
        obtain ⟨ad180, e180, hx180_0, hx180_1, hx180_2, hx180_3⟩ := at_T41 HR1.out x19_1 p180 q180
        cases e180
        replace hx180_0 := zx_ HB.out hx180_0
        replace hx180_1 := zx_ HB.out hx180_1
        replace hx180_2 := zx_ HB.out hx180_2
        replace hx180_3 := zx_ HB.out hx180_3
        replace p180 := eq_true p180
        replace q180 := eq_true q180
        go_wp2_with (first | ((with_reducible refine gate_dst (N := 10) rfl ?_); refine box_event ?hg (N := 10) ?hd (cs := #[.int .i64 0, .int .i64 0, .int .i64 0, .int .i64 0]) (t := 41) ?hr ?_; (case hd => rfl); (case hg => rfl); (case hr => first | (go_simp; done) | (go_simp; rfl)); intro gb181 hg w12 hbox hb; replace HO_8 := Aside0.mk (Kd.R_below (zR_ HO_8.out) hb); have BK181 := Aside0.mk (hbox); have GW181 := Aside0.mk ((by rw [hg]; exact (below_size (zh0_ HB.out)) : w.heap.size ≤ gb181)); have GE181 := Aside0.mk ((by rw [hg]; exact (below_size (zh0_ HB.out)) : w.heap.size ≤ gb181)); replace HB := Aside0.mk (below_step (zh0_ HB.out) hb); clear hb hbox hg; obtain ⟨hcz13_0, hcz13_1, hcz13_2, hcz13_3⟩ := zc4 BK181.out; obtain ⟨hfz13_0, hfz13_1, hfz13_2, hfz13_3⟩ := zz4 BK181.out; obtain ⟨Ao14, co14, eo14⟩ := Kd.R_slice HO_8.out; subst eo14) | ((with_reducible refine gate_value (T := 24) rfl ?_); refine goesLV_ (some 32) rfl rfl (call_T31.ok A10.out) #[.slice Ao14 x8_1.length co14, .int .i64 ((rd_T41 l1 x19_1).f0), .int .i64 ((rd_T41 l1 x19_1).f1), .int .i64 ((rd_T41 l1 x19_1).f2)] rfl (by first | rfl | (simp only [Act.eval]; rfl)) zl_ ?_; (with_reducible refine (call_T31.calls k1 a2 _ _ x8_1 ((rd_T41 l1 x19_1).f0) ((rd_T41 l1 x19_1).f1) ((rd_T41 l1 x19_1).f2) t182 t183 _ ?side1 ?side2 A10.out).mono ?_); (case side1 => refine (Kd.R_reads' (e := 43) (base := w.heap.size) (ok := fun k_ => True) (n := x8_1.length) (c := co14) ?_).2.2; exact (by (with_reducible repeat (first | apply Kd.R_alloc | apply Kd.R_drewN | apply Kd.R_drew)); exact (Kd.R_mono (Kd.R_far (p := ⟨gb181, 3, none⟩) (Kd.R_far (p := ⟨gb181, 2, none⟩) (Kd.R_far (p := ⟨gb181, 1, none⟩) (Kd.R_far (p := ⟨gb181, 0, none⟩) (Kd.R_types HO_8.out BK181.out (by decide)) (fun _ hk => hk.2) (.int .i64 ((rd_T41 l1 x19_1).f0))) (fun _ hk => hk.2) (.int .i64 ((rd_T41 l1 x19_1).f1))) (fun _ hk => hk.2) (.int .i64 ((rd_T41 l1 x19_1).f2))) (fun _ hk => hk.2) (.int .i64 ((rd_T41 l1 x19_1).f3))) (fun _ h_ => h_.1)))); (case side2 => exact (Kd.R_reads' HO_8.out).2.1); rintro e w15 ⟨v184, rfl, ho0, hb⟩; refine ⟨_, rfl, ?_⟩; have HO185 := Aside0.mk (Kd.R_lower (Kd.R_new' ho0 (Kd.R_lt (by (with_reducible repeat (first | apply Kd.R_alloc | apply Kd.R_drewN | apply Kd.R_drew)); exact (Kd.R_mono (Kd.R_far (p := ⟨gb181, 3, none⟩) (Kd.R_far (p := ⟨gb181, 2, none⟩) (Kd.R_far (p := ⟨gb181, 1, none⟩) (Kd.R_far (p := ⟨gb181, 0, none⟩) (Kd.R_types HO_8.out BK181.out (by decide)) (fun _ hk => hk.2) (.int .i64 ((rd_T41 l1 x19_1).f0))) (fun _ hk => hk.2) (.int .i64 ((rd_T41 l1 x19_1).f1))) (fun _ hk => hk.2) (.int .i64 ((rd_T41 l1 x19_1).f2))) (fun _ hk => hk.2) (.int .i64 ((rd_T41 l1 x19_1).f3))) (fun _ h_ => h_.1))))) (below_size (zh1_ HB.out GE181.out))); replace HO_8 := Aside0.mk (Kd.R_elder' (by (with_reducible repeat (first | apply Kd.R_alloc | apply Kd.R_drewN | apply Kd.R_drew)); exact (Kd.R_mono (Kd.R_far (p := ⟨gb181, 3, none⟩) (Kd.R_far (p := ⟨gb181, 2, none⟩) (Kd.R_far (p := ⟨gb181, 1, none⟩) (Kd.R_far (p := ⟨gb181, 0, none⟩) (Kd.R_types HO_8.out BK181.out (by decide)) (fun _ hk => hk.2) (.int .i64 ((rd_T41 l1 x19_1).f0))) (fun _ hk => hk.2) (.int .i64 ((rd_T41 l1 x19_1).f1))) (fun _ hk => hk.2) (.int .i64 ((rd_T41 l1 x19_1).f2))) (fun _ hk => hk.2) (.int .i64 ((rd_T41 l1 x19_1).f3))) (fun _ h_ => h_.1))) (Kd.R_base ho0) hb); replace BK181 := Aside0.mk (blk_below (g := gb181) (o := .cells #[.int .i64 ((rd_T41 l1 x19_1).f0), .int .i64 ((rd_T41 l1 x19_1).f1), .int .i64 ((rd_T41 l1 x19_1).f2), .int .i64 ((rd_T41 l1 x19_1).f3)] 41 (0, 0)) (zp_ BK181.out) hb); replace HB := Aside0.mk (below_step (zh1_ HB.out GE181.out) hb); (try clear hb); (try clear hk); (try clear ho0)))
        go_roundg k1
        case measure => have := HK1.out; omega
        case rel => exact ⟨(t182), (wrap64 (x19_1 + 1)), (by first | rfl | (simp; done) | (simp [*]; done) | (simp only [i64_w]; done)), H', ⟨by have := HK1.out; omega⟩, ⟨by (with_reducible repeat (first | apply Kd.R_alloc | apply Kd.R_drewN | apply Kd.R_drew)); exact Kd.R_mono HO185.out (fun _ hk => trivial)⟩, ⟨by exact zh1_ HB.out GE181.out⟩⟩
       ·rw [if_neg c11] at H
        obtain ⟨c11b0, c11b1⟩ := zq0 c11
        simp only [Option.some.injEq, Prod.mk.injEq] at H
        obtain ⟨rfl, rfl⟩ := H
        have p180 : 0 ≤ (x19_1 : Int) := of_decide_eq_true za_
        have q180 : x19_1 < (l1.length : Int) := of_decide_eq_true za_
        obtain ⟨ad180, e180, hx180_0, hx180_1, hx180_2, hx180_3⟩ := at_T41 HR1.out x19_1 p180 q180
        cases e180
        replace hx180_0 := zx_ HB.out hx180_0
        replace hx180_1 := zx_ HB.out hx180_1
        replace hx180_2 := zx_ HB.out hx180_2
        replace hx180_3 := zx_ HB.out hx180_3
        replace p180 := eq_true p180
        replace q180 := eq_true q180
        go_wp2_with (first | ((with_reducible refine gate_dst (N := 10) rfl ?_); refine box_event ?hg (N := 10) ?hd (cs := #[.int .i64 0, .int .i64 0, .int .i64 0, .int .i64 0]) (t := 41) ?hr ?_; (case hd => rfl); (case hg => rfl); (case hr => first | (go_simp; done) | (go_simp; rfl)); intro gb181 hg w16 hbox hb; replace HO_8 := Aside0.mk (Kd.R_below (zR_ HO_8.out) hb); have BK181 := Aside0.mk (hbox); have GW181 := Aside0.mk ((by rw [hg]; exact (below_size (zh0_ HB.out)) : w.heap.size ≤ gb181)); have GE181 := Aside0.mk ((by rw [hg]; exact (below_size (zh0_ HB.out)) : w.heap.size ≤ gb181)); replace HB := Aside0.mk (below_step (zh0_ HB.out) hb); clear hb hbox hg; obtain ⟨hcz17_0, hcz17_1, hcz17_2, hcz17_3⟩ := zc4 BK181.out; obtain ⟨hfz17_0, hfz17_1, hfz17_2, hfz17_3⟩ := zz4 BK181.out; obtain ⟨Ao18, co18, eo18⟩ := Kd.R_slice HO_8.out; subst eo18) | ((with_reducible refine gate_value (T := 24) rfl ?_); refine goesLV_ (some 32) rfl rfl (call_T31.ok A10.out) #[.slice Ao18 x8_1.length co18, .int .i64 ((rd_T41 l1 x19_1).f0), .int .i64 ((rd_T41 l1 x19_1).f1), .int .i64 ((rd_T41 l1 x19_1).f2)] rfl (by first | rfl | (simp only [Act.eval]; rfl)) zl_ ?_; (with_reducible refine (call_T31.calls k1 a2 _ _ x8_1 ((rd_T41 l1 x19_1).f0) ((rd_T41 l1 x19_1).f1) ((rd_T41 l1 x19_1).f2) t182 t183 _ ?side1 ?side2 A10.out).mono ?_); (case side1 => refine (Kd.R_reads' (e := 43) (base := w.heap.size) (ok := fun k_ => True) (n := x8_1.length) (c := co18) ?_).2.2; exact (by (with_reducible repeat (first | apply Kd.R_alloc | apply Kd.R_drewN | apply Kd.R_drew)); exact (Kd.R_mono (Kd.R_far (p := ⟨gb181, 3, none⟩) (Kd.R_far (p := ⟨gb181, 2, none⟩) (Kd.R_far (p := ⟨gb181, 1, none⟩) (Kd.R_far (p := ⟨gb181, 0, none⟩) (Kd.R_types HO_8.out BK181.out (by decide)) (fun _ hk => hk.2) (.int .i64 ((rd_T41 l1 x19_1).f0))) (fun _ hk => hk.2) (.int .i64 ((rd_T41 l1 x19_1).f1))) (fun _ hk => hk.2) (.int .i64 ((rd_T41 l1 x19_1).f2))) (fun _ hk => hk.2) (.int .i64 ((rd_T41 l1 x19_1).f3))) (fun _ h_ => h_.1)))); (case side2 => exact (Kd.R_reads' HO_8.out).2.1); rintro e w19 ⟨v184, rfl, ho0, hb⟩; refine ⟨_, rfl, ?_⟩; have HO185 := Aside0.mk (Kd.R_lower (Kd.R_new' ho0 (Kd.R_lt (by (with_reducible repeat (first | apply Kd.R_alloc | apply Kd.R_drewN | apply Kd.R_drew)); exact (Kd.R_mono (Kd.R_far (p := ⟨gb181, 3, none⟩) (Kd.R_far (p := ⟨gb181, 2, none⟩) (Kd.R_far (p := ⟨gb181, 1, none⟩) (Kd.R_far (p := ⟨gb181, 0, none⟩) (Kd.R_types HO_8.out BK181.out (by decide)) (fun _ hk => hk.2) (.int .i64 ((rd_T41 l1 x19_1).f0))) (fun _ hk => hk.2) (.int .i64 ((rd_T41 l1 x19_1).f1))) (fun _ hk => hk.2) (.int .i64 ((rd_T41 l1 x19_1).f2))) (fun _ hk => hk.2) (.int .i64 ((rd_T41 l1 x19_1).f3))) (fun _ h_ => h_.1))))) (below_size (zh1_ HB.out GE181.out))); replace HO_8 := Aside0.mk (Kd.R_elder' (by (with_reducible repeat (first | apply Kd.R_alloc | apply Kd.R_drewN | apply Kd.R_drew)); exact (Kd.R_mono (Kd.R_far (p := ⟨gb181, 3, none⟩) (Kd.R_far (p := ⟨gb181, 2, none⟩) (Kd.R_far (p := ⟨gb181, 1, none⟩) (Kd.R_far (p := ⟨gb181, 0, none⟩) (Kd.R_types HO_8.out BK181.out (by decide)) (fun _ hk => hk.2) (.int .i64 ((rd_T41 l1 x19_1).f0))) (fun _ hk => hk.2) (.int .i64 ((rd_T41 l1 x19_1).f1))) (fun _ hk => hk.2) (.int .i64 ((rd_T41 l1 x19_1).f2))) (fun _ hk => hk.2) (.int .i64 ((rd_T41 l1 x19_1).f3))) (fun _ h_ => h_.1))) (Kd.R_base ho0) hb); replace BK181 := Aside0.mk (blk_below (g := gb181) (o := .cells #[.int .i64 ((rd_T41 l1 x19_1).f0), .int .i64 ((rd_T41 l1 x19_1).f1), .int .i64 ((rd_T41 l1 x19_1).f2), .int .i64 ((rd_T41 l1 x19_1).f3)] 41 (0, 0)) (zp_ BK181.out) hb); replace HB := Aside0.mk (below_step (zh1_ HB.out GE181.out) hb); (try clear hb); (try clear hk); (try clear ho0)))
        go_ret2
        exact ⟨_, by first | rfl | (simp [errW_none, errW_some] <;> rfl) | (simp [*, errW_none, errW_some] <;> rfl), by first | exact Kd.R_nil _ _ _ _ _ | exact Kd.N_nil _ _ _ _ _ | exact Kd.V_nil _ _ _ _ _ | exact Kd.Q_nil _ _ _ _ _ | exact Kd.S_nil _ _ _ _ _, by exact zh1_ HB.out GE181.out⟩
      ·rw [if_neg c9] at H
       cases H
     ·rw [if_neg c8] at H
      cases H
    ·rw [if_neg c7] at H
     have c7b0 : decide (x19_1 < (l1.length : Int)) = false := decide_eq_false c7
     clear c7
     simp only [Option.some.injEq, Prod.mk.injEq] at H
     obtain ⟨rfl, rfl⟩ := H
     go_wp2
     go_ret2
     exact ⟨_, by first | rfl | (simp [errW_none, errW_some] <;> rfl) | (simp [*, errW_none, errW_some] <;> rfl), by (with_reducible repeat (first | apply Kd.R_alloc | apply Kd.R_drewN | apply Kd.R_drew)); exact HO_8.out, by exact zh0_ HB.out⟩
end Go.Proofs.YtdiopojnkjkgmaaDoor.Print
namespace Go.Proofs.YtdiopojnkjkgmaaDoor.Print
open Go.RowKit Go.Proofs.YtdiopojnkjkgmaaDoorW.PrintWords Go.Proofs.YtdiopojnkjkgmaaDoorW.PrintLast Go.Proofs.YtdiopojnkjkgmaaDoorW.PrintMore
attribute [local go_sem] max2_mx min2_mn max_two min_two max_three min_three max_four min_four
set_option linter.unusedVariables false
set_option linter.unusedSimpArgs false
def ledger_amount.f (a0 : Int) : Option (Bool) := if a0 ≥ 1 then (some (decide (a0 ≤ 1152921504606846976))) else (some false)
set_option maxHeartbeats 8000000 in
set_option maxRecDepth 100000 in
theorem ledger_amount.calls (a0 : Int) (r : Bool) (w : World) (h : ledger_amount.f a0 = some r) :
  Calls Tryd.prog 26 #[.int .i64 a0] w fun e w' => e = .returned (.bool r) ∧ Drawn0 w w' := by
 have H : (if a0 ≥ 1 then (some (decide (a0 ≤ 1152921504606846976))) else (some false)) = some r := h
 clear h
 by_cases c2 : a0 ≥ 1
 ·rw [if_pos c2] at H
  have c2b0 : decide (1 ≤ a0) = true := decide_eq_true c2
  clear c2
  obtain rfl := Option.some.inj H
  go_enter Tryd.func26, Tryd.ntmps26
  go_wp2
  go_ret
  exact ⟨by first | rfl | (simp; done) | (simp [*]; done), by repeat (first | exact Drawn0.refl _ | apply Drawn0.step)⟩
 ·rw [if_neg c2] at H
  have c2b0 : decide (1 ≤ a0) = false := decide_eq_false c2
  clear c2
  obtain rfl := Option.some.inj H
  go_enter Tryd.func26, Tryd.ntmps26
  go_wp2
  go_ret
  exact ⟨by first | rfl | (simp; done) | (simp [*]; done), by repeat (first | exact Drawn0.refl _ | apply Drawn0.step)⟩
def ledger_account.f (a0 : Int) : Option (Bool) := if a0 ≥ 1 then (some (decide (a0 < 4))) else (some false)
set_option maxHeartbeats 8000000 in
set_option maxRecDepth 100000 in
theorem ledger_account.calls (a0 : Int) (r : Bool) (w : World) (h : ledger_account.f a0 = some r) :
  Calls Tryd.prog 36 #[.int .u8 a0] w fun e w' => e = .returned (.bool r) ∧ Drawn0 w w' := by
 have H : (if a0 ≥ 1 then (some (decide (a0 < 4))) else (some false)) = some r := h
 clear h
 by_cases c2 : a0 ≥ 1
 ·rw [if_pos c2] at H
  have c2b0 : decide (1 ≤ a0) = true := decide_eq_true c2
  clear c2
  obtain rfl := Option.some.inj H
  go_enter Tryd.func36, Tryd.ntmps36
  go_wp2
  go_ret
  exact ⟨by first | rfl | (simp; done) | (simp [*]; done), by repeat (first | exact Drawn0.refl _ | apply Drawn0.step)⟩
 ·rw [if_neg c2] at H
  have c2b0 : decide (1 ≤ a0) = false := decide_eq_false c2
  clear c2
  obtain rfl := Option.some.inj H
  go_enter Tryd.func36, Tryd.ntmps36
  go_wp2
  go_ret
  exact ⟨by first | rfl | (simp; done) | (simp [*]; done), by repeat (first | exact Drawn0.refl _ | apply Drawn0.step)⟩
end Go.Proofs.YtdiopojnkjkgmaaDoor.Print
namespace Go.Proofs.YtdiopojnkjkgmaaDoor.Print
open Go.RowKit Go.Proofs.YtdiopojnkjkgmaaDoorW.PrintWords Go.Proofs.YtdiopojnkjkgmaaDoorW.PrintLast Go.Proofs.YtdiopojnkjkgmaaDoorW.PrintMore
attribute [local go_sem] max2_mx min2_mn max_two min_two max_three min_three max_four min_four
set_option linter.unusedVariables false
set_option linter.unusedSimpArgs false
def pcells (p : S47) : Array Value := #[.int .i64 p.f0, .int .i64 p.f1, .int .i64 p.f2, .int .i64 p.f3]
def xcells (x : S69) : Array Value := #[.int .i64 x.f0, .int .u8 x.f1, .int .u8 x.f2, .int .i64 x.f3]
def add1 (p : S47) (x : S69) : S47 := if x.f2 = 2 then ⟨p.f0, wrap64 (p.f1 + x.f3), p.f2, p.f3⟩ else p
def add2 (p : S47) (x : S69) : S47 := if x.f1 = 2 then ⟨p.f0, wrap64 (p.f1 - x.f3), p.f2, p.f3⟩ else p
def add3 (p : S47) (x : S69) : S47 := if x.f2 = 3 then ⟨p.f0, p.f1, wrap64 (p.f2 + x.f3), p.f3⟩ else p
def add4 (p : S47) (x : S69) : S47 := if x.f1 = 3 then ⟨p.f0, p.f1, p.f2, wrap64 (p.f3 + x.f3)⟩ else p
def addP (p : S47) (x : S69) : S47 := add4 (add3 (add2 (add1 p x) x) x) x
def fits (p : S47) : Bool := decide (p.f1 ≤ 1152921504606846976) && (decide (-1152921504606846976 ≤ p.f1) && (decide (p.f2 ≤ 1152921504606846976) && decide (p.f3 ≤ 1152921504606846976)))
structure AddS (B : Nat) (w wr : World) (g gx : Nat) (p : S47) (x : S69) : Prop where
 BP : wr.heap[g]? = some (.cells (pcells p) 47 (0, 0))
 BX : wr.heap[gx]? = some (.cells (xcells x) 69 (0, 0))
 KB : KeepBut w wr g none
 HB : Below B w wr
theorem AddS.drew {B : Nat} {w wr : World} {g gx : Nat} {p : S47} {x : S69} (h : AddS B w wr g gx p x) : AddS B w wr.drew g gx p x := ⟨h.BP, h.BX, keep_drew h.KB, below_drew1 h.HB⟩
theorem AddS.drewN {B : Nat} {w wr : World} {g gx : Nat} {p : S47} {x : S69} (h : AddS B w wr g gx p x) (n : Nat) : AddS B w (wr.drewN n) g gx p x := ⟨h.BP, h.BX, keep_drewN h.KB n, pw_below_drewN h.HB n⟩
theorem AddS.put {B : Nat} {w wr : World} {g gx : Nat} {p p' : S47} {x : S69} (h : AddS B w wr g gx p x) (hB : B ≤ g) (hne : gx ≠ g) (i : Nat) (v : Value) (e : (pcells p).setIfInBounds i v = pcells p') : AddS B w (wr.setCell ⟨g, i, none⟩ v) g gx p' x :=
 ⟨blk_put h.BP i v e, blk_far h.BX hne v, h.KB.set_ i v, h.HB.setCell hB v⟩
set_option maxHeartbeats 2000000 in
set_option maxRecDepth 100000 in
theorem ledger_add.row (B : Nat) (g : Nat) (p : S47) (x : S69) (w : World) (hg : w.heap[g]? = some (.cells (pcells p) 47 (0, 0))) (hB : B ≤ g) :
  Calls Tryd.prog 49 #[.pointer (some ⟨g, 0, none⟩), .agg (xcells x)] w fun e w' => e = .returned (.bool (fits (addP p x))) ∧ w'.heap[g]? = some (.cells (pcells (addP p x)) 47 (0, 0)) ∧ KeepBut w w' g none ∧ Below B w w' := by
 have HG := Aside0.mk hg
 have HBG := Aside0.mk hB
 have hlt := blk_lt hg
 have HL := Aside0.mk hlt
 clear hg hB hlt
 have hu55 := Tryd.underlying69
 unfold xcells
 go_enter Tryd.func49, Tryd.ntmps49
 go_upto_if 7 with (first | ((with_reducible refine gate_dst (N := 3) rfl ?_); refine box_event ?hg (N := 3) ?hd (cs := #[.int .i64 x.f0, .int .u8 x.f1, .int .u8 x.f2, .int .i64 x.f3]) (t := 69) ?hr ?_; (case hd => rfl); (case hg => rfl); (case hr => first | (go_simp; done) | (go_simp; rfl)); intro gx hgx w1 hbox hb; have HX : Aside0 (gx ≠ g) := ⟨by rw [hgx]; exact (Nat.ne_of_lt HL.out).symm⟩; have AS : Aside0 (AddS B w w1 g gx p x) := ⟨⟨blk_below HG.out hb, hbox, KeepBut.of_below hb _ _, hb.mono (Nat.le_trans HBG.out (Nat.le_of_lt HL.out))⟩⟩; have hx1 := (blk_cell hbox 1).trans rfl; have hx2 := (blk_cell hbox 2).trans rfl; clear hbox hb hgx))
 go_cut [] (fun wc => Aside0 (AddS B w wc g gx (add1 p x) x))
 case first =>
  obtain ⟨q, hq⟩ : ∃ q, q = p := ⟨_, rfl⟩
  rw [← hq] at AS
  have HQ := Aside0.mk hq.symm
  clear hq
  have HE : Aside0 (add1 q x = (add1 p x)) := ⟨by first | (rw [← HQ.out]; done) | (rw [← HQ.out]; rfl)⟩
  clear HQ
  try clear hx1
  try clear hx2
  by_cases hd : x.f2 = 2
  ·have hd1 : (x.f2 == 2) = true := beq_iff_eq.mpr hd
   have HS : Aside0 (add1 q x = _) := ⟨if_pos hd⟩
   (first | rw [hd1] | skip)
   have hc1 : w1.cell? ⟨g, 1, none⟩ = some (.int .i64 q.f1) := (blk_cell AS.out.BP 1).trans rfl
   have hc2 : w1.cell? ⟨g, 2, none⟩ = some (.int .i64 q.f2) := (blk_cell AS.out.BP 2).trans rfl
   have hc3 : w1.cell? ⟨g, 3, none⟩ = some (.int .i64 q.f3) := (blk_cell AS.out.BP 3).trans rfl
   have hf1 := blk_frozen AS.out.BP 1
   have hf2 := blk_frozen AS.out.BP 2
   have hf3 := blk_frozen AS.out.BP 3
   have hx1 : w1.cell? ⟨gx, 1, none⟩ = some (.int .u8 x.f1) := (blk_cell AS.out.BX 1).trans rfl
   have hx2 : w1.cell? ⟨gx, 2, none⟩ = some (.int .u8 x.f2) := (blk_cell AS.out.BX 2).trans rfl
   have hx3 : w1.cell? ⟨gx, 3, none⟩ = some (.int .i64 x.f3) := (blk_cell AS.out.BX 3).trans rfl
   clear hd
   go_wp2_with fail
   clear hc1 hc2 hc3 hf1 hf2 hf3 hx1 hx2 hx3
   refine start_ (n := 10) (S := fun w' => AddS B w w' g gx q x ∧ w'.cell? ⟨g, 1, none⟩ = some (.int .i64 q.f1) ∧ w'.cell? ⟨gx, 3, none⟩ = some (.int .i64 x.f3)) (ds := [9]) (zB 0 10) (by kernel_rfl) rfl rfl ⟨AS.out.drew, ((blk_cell AS.out.drew.BP 1).trans rfl), ((blk_cell AS.out.drew.BX 3).trans rfl)⟩ (fun hHeld => ?_)
   refine zpu 0 (some 8) (zB 1 9) (by kernel_rfl) ?_
   refine zpu 1 (some 9) (zB 2 8) (by kernel_rfl) ?_
   refine zpu 2 (some 10) (zB 3 7) (by kernel_rfl) ?_
   refine zpu 4 (some 12) #[true, true, true, false, true, false, false, false, false, false] (by kernel_rfl) ?_
   refine zta 3 (some 11) (zB 5 5) (by kernel_rfl) hHeld ?_
   refine zta 5 (some 13) (zB 6 4) (by kernel_rfl) hHeld ?_
   refine zpu 6 (some 14) (zB 7 3) (by kernel_rfl) ?_
   refine zpu 7 (some 15) (zB 8 2) (by kernel_rfl) ?_
   refine zpu 8 (some 16) (zB 9 1) (by kernel_rfl) ?_
   refine last_ (i := 9) (N := none) (zB 10 0) rfl rfl (by kernel_rfl) (by decide) (fun K hK => ?_)
   obtain ⟨SH, SX, SY⟩ := hHeld
   have hf := blk_frozen SH.BP 1
   refine skip_ (w1 := ?_) (by rfl) rfl ?_ ?_
   rotate_left
   ·go_simp
    rfl
   have SN := SH.put (p' := add1 q x) HBG.out HX.out 1 (.int .i64 (wrap64 (q.f1 + x.f3))) (by rw [HS.out]; rfl)
   refine hK.out _ _ ?_
   clear hK K
   refine done_ (by kernel_rfl) ?_
   go_wp2_with fail
   go_meet
   case rel => exact ⟨by rw [← HE.out]; exact SN⟩
  ·have hd1 : (x.f2 == 2) = false := beq_eq_false_iff_ne.mpr hd
   have HS : Aside0 (add1 q x = q) := ⟨if_neg hd⟩
   (first | rw [hd1] | skip)
   clear hd
   go_wp2_with fail
   go_meet
   case rel => exact ⟨by rw [← HE.out, HS.out]; exact AS.out⟩
 case rest =>
  clear AS
  try clear hx1
  try clear hx2
  have AS := hcut
  clear hcut
  have hx1 : wc.cell? ⟨gx, 1, none⟩ = some (.int .u8 x.f1) := (blk_cell AS.out.BX 1).trans rfl
  have hx2 : wc.cell? ⟨gx, 2, none⟩ = some (.int .u8 x.f2) := (blk_cell AS.out.BX 2).trans rfl
  go_upto_if 19 with (fail)
  go_cut [] (fun wc => Aside0 (AddS B w wc g gx (add2 (add1 p x) x) x))
  case first =>
   generalize hq : (add1 p x) = q at AS
   have HQ := Aside0.mk hq
   clear hq
   have HE : Aside0 (add2 q x = (add2 (add1 p x) x)) := ⟨by first | (rw [← HQ.out]; done) | (rw [← HQ.out]; rfl)⟩
   clear HQ
   try clear hx1
   try clear hx2
   by_cases hd : x.f1 = 2
   ·have hd1 : (x.f1 == 2) = true := beq_iff_eq.mpr hd
    have HS : Aside0 (add2 q x = _) := ⟨if_pos hd⟩
    (first | rw [hd1] | skip)
    have hc1 : wc.cell? ⟨g, 1, none⟩ = some (.int .i64 q.f1) := (blk_cell AS.out.BP 1).trans rfl
    have hc2 : wc.cell? ⟨g, 2, none⟩ = some (.int .i64 q.f2) := (blk_cell AS.out.BP 2).trans rfl
    have hc3 : wc.cell? ⟨g, 3, none⟩ = some (.int .i64 q.f3) := (blk_cell AS.out.BP 3).trans rfl
    have hf1 := blk_frozen AS.out.BP 1
    have hf2 := blk_frozen AS.out.BP 2
    have hf3 := blk_frozen AS.out.BP 3
    have hx1 : wc.cell? ⟨gx, 1, none⟩ = some (.int .u8 x.f1) := (blk_cell AS.out.BX 1).trans rfl
    have hx2 : wc.cell? ⟨gx, 2, none⟩ = some (.int .u8 x.f2) := (blk_cell AS.out.BX 2).trans rfl
    have hx3 : wc.cell? ⟨gx, 3, none⟩ = some (.int .i64 x.f3) := (blk_cell AS.out.BX 3).trans rfl
    clear hd
    go_wp2_with fail
    clear hc1 hc2 hc3 hf1 hf2 hf3 hx1 hx2 hx3
    refine start_ (n := 10) (S := fun w' => AddS B w w' g gx q x ∧ w'.cell? ⟨g, 1, none⟩ = some (.int .i64 q.f1) ∧ w'.cell? ⟨gx, 3, none⟩ = some (.int .i64 x.f3)) (ds := [9]) (zB 0 10) (by kernel_rfl) rfl rfl ⟨AS.out.drew, ((blk_cell AS.out.drew.BP 1).trans rfl), ((blk_cell AS.out.drew.BX 3).trans rfl)⟩ (fun hHeld => ?_)
    refine zpu 0 (some 20) (zB 1 9) (by kernel_rfl) ?_
    refine zpu 1 (some 21) (zB 2 8) (by kernel_rfl) ?_
    refine zpu 2 (some 22) (zB 3 7) (by kernel_rfl) ?_
    refine zpu 4 (some 24) #[true, true, true, false, true, false, false, false, false, false] (by kernel_rfl) ?_
    refine zta 3 (some 23) (zB 5 5) (by kernel_rfl) hHeld ?_
    refine zta 5 (some 25) (zB 6 4) (by kernel_rfl) hHeld ?_
    refine zpu 6 (some 26) (zB 7 3) (by kernel_rfl) ?_
    refine zpu 7 (some 27) (zB 8 2) (by kernel_rfl) ?_
    refine zpu 8 (some 28) (zB 9 1) (by kernel_rfl) ?_
    refine last_ (i := 9) (N := none) (zB 10 0) rfl rfl (by kernel_rfl) (by decide) (fun K hK => ?_)
    obtain ⟨SH, SX, SY⟩ := hHeld
    have hf := blk_frozen SH.BP 1
    refine skip_ (w1 := ?_) (by rfl) rfl ?_ ?_
    rotate_left
    ·go_simp
     rfl
    have SN := SH.put (p' := add2 q x) HBG.out HX.out 1 (.int .i64 (wrap64 (q.f1 - x.f3))) (by rw [HS.out]; rfl)
    refine hK.out _ _ ?_
    clear hK K
    refine done_ (by kernel_rfl) ?_
    go_wp2_with fail
    go_meet
    case rel => exact ⟨by rw [← HE.out]; exact SN⟩
   ·have hd1 : (x.f1 == 2) = false := beq_eq_false_iff_ne.mpr hd
    have HS : Aside0 (add2 q x = q) := ⟨if_neg hd⟩
    (first | rw [hd1] | skip)
    clear hd
    go_wp2_with fail
    go_meet
    case rel => exact ⟨by rw [← HE.out, HS.out]; exact AS.out⟩
  case rest =>
   clear AS
   try clear hx1
   try clear hx2
   have AS := hcut
   clear hcut
   have hx1 : wc.cell? ⟨gx, 1, none⟩ = some (.int .u8 x.f1) := (blk_cell AS.out.BX 1).trans rfl
   have hx2 : wc.cell? ⟨gx, 2, none⟩ = some (.int .u8 x.f2) := (blk_cell AS.out.BX 2).trans rfl
   go_upto_if 31 with (fail)
   go_cut [] (fun wc => Aside0 (AddS B w wc g gx (add3 (add2 (add1 p x) x) x) x))
   case first =>
    generalize hq : (add2 (add1 p x) x) = q at AS
    have HQ := Aside0.mk hq
    clear hq
    have HE : Aside0 (add3 q x = (add3 (add2 (add1 p x) x) x)) := ⟨by first | (rw [← HQ.out]; done) | (rw [← HQ.out]; rfl)⟩
    clear HQ
    try clear hx1
    try clear hx2
    by_cases hd : x.f2 = 3
    ·have hd1 : (x.f2 == 3) = true := beq_iff_eq.mpr hd
     have HS : Aside0 (add3 q x = _) := ⟨if_pos hd⟩
     (first | rw [hd1] | skip)
     have hc1 : wc.cell? ⟨g, 1, none⟩ = some (.int .i64 q.f1) := (blk_cell AS.out.BP 1).trans rfl
     have hc2 : wc.cell? ⟨g, 2, none⟩ = some (.int .i64 q.f2) := (blk_cell AS.out.BP 2).trans rfl
     have hc3 : wc.cell? ⟨g, 3, none⟩ = some (.int .i64 q.f3) := (blk_cell AS.out.BP 3).trans rfl
     have hf1 := blk_frozen AS.out.BP 1
     have hf2 := blk_frozen AS.out.BP 2
     have hf3 := blk_frozen AS.out.BP 3
     have hx1 : wc.cell? ⟨gx, 1, none⟩ = some (.int .u8 x.f1) := (blk_cell AS.out.BX 1).trans rfl
     have hx2 : wc.cell? ⟨gx, 2, none⟩ = some (.int .u8 x.f2) := (blk_cell AS.out.BX 2).trans rfl
     have hx3 : wc.cell? ⟨gx, 3, none⟩ = some (.int .i64 x.f3) := (blk_cell AS.out.BX 3).trans rfl
     clear hd
     go_wp2_with fail
     clear hc1 hc2 hc3 hf1 hf2 hf3 hx1 hx2 hx3
     refine start_ (n := 10) (S := fun w' => AddS B w w' g gx q x ∧ w'.cell? ⟨g, 2, none⟩ = some (.int .i64 q.f2) ∧ w'.cell? ⟨gx, 3, none⟩ = some (.int .i64 x.f3)) (ds := [9]) (zB 0 10) (by kernel_rfl) rfl rfl ⟨AS.out.drew, ((blk_cell AS.out.drew.BP 2).trans rfl), ((blk_cell AS.out.drew.BX 3).trans rfl)⟩ (fun hHeld => ?_)
     refine zpu 0 (some 32) (zB 1 9) (by kernel_rfl) ?_
     refine zpu 1 (some 33) (zB 2 8) (by kernel_rfl) ?_
     refine zpu 2 (some 34) (zB 3 7) (by kernel_rfl) ?_
     refine zpu 4 (some 36) #[true, true, true, false, true, false, false, false, false, false] (by kernel_rfl) ?_
     refine zta 3 (some 35) (zB 5 5) (by kernel_rfl) hHeld ?_
     refine zta 5 (some 37) (zB 6 4) (by kernel_rfl) hHeld ?_
     refine zpu 6 (some 38) (zB 7 3) (by kernel_rfl) ?_
     refine zpu 7 (some 39) (zB 8 2) (by kernel_rfl) ?_
     refine zpu 8 (some 40) (zB 9 1) (by kernel_rfl) ?_
     refine last_ (i := 9) (N := none) (zB 10 0) rfl rfl (by kernel_rfl) (by decide) (fun K hK => ?_)
     obtain ⟨SH, SX, SY⟩ := hHeld
     have hf := blk_frozen SH.BP 2
     refine skip_ (w1 := ?_) (by rfl) rfl ?_ ?_
     rotate_left
     ·go_simp
      rfl
     have SN := SH.put (p' := add3 q x) HBG.out HX.out 2 (.int .i64 (wrap64 (q.f2 + x.f3))) (by rw [HS.out]; rfl)
     refine hK.out _ _ ?_
     clear hK K
     refine done_ (by kernel_rfl) ?_
     go_wp2_with fail
     go_meet
     case rel => exact ⟨by rw [← HE.out]; exact SN⟩
    ·have hd1 : (x.f2 == 3) = false := beq_eq_false_iff_ne.mpr hd
     have HS : Aside0 (add3 q x = q) := ⟨if_neg hd⟩
     (first | rw [hd1] | skip)
     clear hd
     go_wp2_with fail
     go_meet
     case rel => exact ⟨by rw [← HE.out, HS.out]; exact AS.out⟩
   case rest =>
    clear AS
    try clear hx1
    try clear hx2
    have AS := hcut
    clear hcut
    have hx1 : wc.cell? ⟨gx, 1, none⟩ = some (.int .u8 x.f1) := (blk_cell AS.out.BX 1).trans rfl
    have hx2 : wc.cell? ⟨gx, 2, none⟩ = some (.int .u8 x.f2) := (blk_cell AS.out.BX 2).trans rfl
    go_upto_if 43 with (fail)
    go_cut [] (fun wc => Aside0 (AddS B w wc g gx (addP p x) x))
    case first =>
     generalize hq : (add3 (add2 (add1 p x) x) x) = q at AS
     have HQ := Aside0.mk hq
     clear hq
     have HE : Aside0 (add4 q x = (addP p x)) := ⟨by first | (rw [← HQ.out]; done) | (rw [← HQ.out]; rfl)⟩
     clear HQ
     try clear hx1
     try clear hx2
     by_cases hd : x.f1 = 3
     ·have hd1 : (x.f1 == 3) = true := beq_iff_eq.mpr hd
      have HS : Aside0 (add4 q x = _) := ⟨if_pos hd⟩
      (first | rw [hd1] | skip)
      have hc1 : wc.cell? ⟨g, 1, none⟩ = some (.int .i64 q.f1) := (blk_cell AS.out.BP 1).trans rfl
      have hc2 : wc.cell? ⟨g, 2, none⟩ = some (.int .i64 q.f2) := (blk_cell AS.out.BP 2).trans rfl
      have hc3 : wc.cell? ⟨g, 3, none⟩ = some (.int .i64 q.f3) := (blk_cell AS.out.BP 3).trans rfl
      have hf1 := blk_frozen AS.out.BP 1
      have hf2 := blk_frozen AS.out.BP 2
      have hf3 := blk_frozen AS.out.BP 3
      have hx1 : wc.cell? ⟨gx, 1, none⟩ = some (.int .u8 x.f1) := (blk_cell AS.out.BX 1).trans rfl
      have hx2 : wc.cell? ⟨gx, 2, none⟩ = some (.int .u8 x.f2) := (blk_cell AS.out.BX 2).trans rfl
      have hx3 : wc.cell? ⟨gx, 3, none⟩ = some (.int .i64 x.f3) := (blk_cell AS.out.BX 3).trans rfl
      clear hd
      go_wp2_with fail
      clear hc1 hc2 hc3 hf1 hf2 hf3 hx1 hx2 hx3
      refine start_ (n := 10) (S := fun w' => AddS B w w' g gx q x ∧ w'.cell? ⟨g, 3, none⟩ = some (.int .i64 q.f3) ∧ w'.cell? ⟨gx, 3, none⟩ = some (.int .i64 x.f3)) (ds := [9]) (zB 0 10) (by kernel_rfl) rfl rfl ⟨AS.out.drew, ((blk_cell AS.out.drew.BP 3).trans rfl), ((blk_cell AS.out.drew.BX 3).trans rfl)⟩ (fun hHeld => ?_)
      refine zpu 0 (some 44) (zB 1 9) (by kernel_rfl) ?_
      refine zpu 1 (some 45) (zB 2 8) (by kernel_rfl) ?_
      refine zpu 2 (some 46) (zB 3 7) (by kernel_rfl) ?_
      refine zpu 4 (some 48) #[true, true, true, false, true, false, false, false, false, false] (by kernel_rfl) ?_
      refine zta 3 (some 47) (zB 5 5) (by kernel_rfl) hHeld ?_
      refine zta 5 (some 49) (zB 6 4) (by kernel_rfl) hHeld ?_
      refine zpu 6 (some 50) (zB 7 3) (by kernel_rfl) ?_
      refine zpu 7 (some 51) (zB 8 2) (by kernel_rfl) ?_
      refine zpu 8 (some 52) (zB 9 1) (by kernel_rfl) ?_
      refine last_ (i := 9) (N := none) (zB 10 0) rfl rfl (by kernel_rfl) (by decide) (fun K hK => ?_)
      obtain ⟨SH, SX, SY⟩ := hHeld
      have hf := blk_frozen SH.BP 3
      refine skip_ (w1 := ?_) (by rfl) rfl ?_ ?_
      rotate_left
      ·go_simp
       rfl
      have SN := SH.put (p' := add4 q x) HBG.out HX.out 3 (.int .i64 (wrap64 (q.f3 + x.f3))) (by rw [HS.out]; rfl)
      refine hK.out _ _ ?_
      clear hK K
      refine done_ (by kernel_rfl) ?_
      go_wp2_with fail
      go_meet
      case rel => exact ⟨by rw [← HE.out]; exact SN⟩
     ·have hd1 : (x.f1 == 3) = false := beq_eq_false_iff_ne.mpr hd
      have HS : Aside0 (add4 q x = q) := ⟨if_neg hd⟩
      (first | rw [hd1] | skip)
      clear hd
      go_wp2_with fail
      go_meet
      case rel => exact ⟨by rw [← HE.out, HS.out]; exact AS.out⟩
    case rest =>
     clear AS
     try clear hx1
     try clear hx2
     have AS := hcut
     clear hcut
     obtain ⟨q, hq⟩ : ∃ q, q = addP p x := ⟨_, rfl⟩
     rw [← hq] at AS
     have HQ := Aside0.mk hq
     clear hq
     have hc1 : wc.cell? ⟨g, 1, none⟩ = some (.int .i64 q.f1) := (blk_cell AS.out.BP 1).trans rfl
     have hc2 : wc.cell? ⟨g, 2, none⟩ = some (.int .i64 q.f2) := (blk_cell AS.out.BP 2).trans rfl
     have hc3 : wc.cell? ⟨g, 3, none⟩ = some (.int .i64 q.f3) := (blk_cell AS.out.BP 3).trans rfl
     rcases Bool.eq_false_or_eq_true (decide (q.f1 ≤ 1152921504606846976)) with d0 | d0
     ·rcases Bool.eq_false_or_eq_true (decide (-1152921504606846976 ≤ q.f1)) with d1 | d1
      ·rcases Bool.eq_false_or_eq_true (decide (q.f2 ≤ 1152921504606846976)) with d2 | d2
       ·rcases Bool.eq_false_or_eq_true (decide (q.f3 ≤ 1152921504606846976)) with d3 | d3
        ·have hft : fits q = true := by unfold fits; simp only [d0, d1, d2, d3, Bool.true_and, Bool.false_and]
         have HF := Aside0.mk hft
         clear hft
         go_wp2_with fail
         go_ret
         exact ⟨by rw [← HQ.out, HF.out]; rfl, by rw [← HQ.out]; exact AS.out.BP, AS.out.KB, AS.out.HB⟩
        ·have hft : fits q = false := by unfold fits; simp only [d0, d1, d2, d3, Bool.true_and, Bool.false_and]
         have HF := Aside0.mk hft
         clear hft
         go_wp2_with fail
         go_ret
         exact ⟨by rw [← HQ.out, HF.out]; rfl, by rw [← HQ.out]; exact AS.out.BP, AS.out.KB, AS.out.HB⟩
       ·have hft : fits q = false := by unfold fits; simp only [d0, d1, d2, Bool.true_and, Bool.false_and]
        have HF := Aside0.mk hft
        clear hft
        go_wp2_with fail
        go_ret
        exact ⟨by rw [← HQ.out, HF.out]; rfl, by rw [← HQ.out]; exact AS.out.BP, AS.out.KB, AS.out.HB⟩
      ·have hft : fits q = false := by unfold fits; simp only [d0, d1, Bool.true_and, Bool.false_and]
       have HF := Aside0.mk hft
       clear hft
       go_wp2_with fail
       go_ret
       exact ⟨by rw [← HQ.out, HF.out]; rfl, by rw [← HQ.out]; exact AS.out.BP, AS.out.KB, AS.out.HB⟩
     ·have hft : fits q = false := by unfold fits; simp only [d0, Bool.true_and, Bool.false_and]
      have HF := Aside0.mk hft
      clear hft
      go_wp2_with fail
      go_ret
      exact ⟨by rw [← HQ.out, HF.out]; rfl, by rw [← HQ.out]; exact AS.out.BP, AS.out.KB, AS.out.HB⟩
def postOk (x : S69) : Bool := decide (1 ≤ x.f0) && (decide (x.f0 ≤ 1024) && (decide (1 ≤ x.f3) && (decide (x.f3 ≤ 1152921504606846976) && (decide (1 ≤ x.f1) && (decide (x.f1 < 4) && (decide (1 ≤ x.f2) && (decide (x.f2 < 4) && !(x.f1 == x.f2))))))))
def zeroP (n : Int) : S47 := ⟨n, 0, 0, 0⟩
def eqP (p q : S47) : Bool := p.f0 == q.f0 && (p.f1 == q.f1 && (p.f2 == q.f2 && p.f3 == q.f3))
def sumN (l : List S69) (n : Int) : S47 := (l.filter fun x => x.f0 == n).foldl addP (zeroP n)
def hasN (l : List S69) (n : Int) : Bool := l.any fun x => x.f0 == n
def xAt (l : List S69) (k : Nat) : S69 := l.getD k z69
def pAt (l : List S47) (k : Nat) : S47 := l.getD k z47
theorem rd_xAt (l : List S69) (k : Nat) : rd_T69 l (k : Int) = xAt l k := by unfold rd_T69 xAt; rw [Int.toNat_natCast]
theorem rd_pAt (l : List S47) (k : Nat) : rd_T47 l (k : Int) = pAt l k := by unfold rd_T47 pAt; rw [Int.toNat_natCast]
def okX (l : List S69) (k : Nat) : Bool := postOk (xAt l k) && fits (sumN (l.take (k + 1)) (xAt l k).f0)
def okP1 (l : List S47) (i : Nat) : Bool := decide (1 ≤ (pAt l i).f0) && (decide ((pAt l i).f0 ≤ 1024) && (!(eqP (pAt l i) (zeroP (pAt l i).f0)) && (!(decide (0 < i) && decide ((pAt l (i - 1)).f0 ≥ (pAt l i).f0)) && (!(decide ((pAt l i).f1 < 0)) && !(decide ((pAt l i).f3 > (pAt l i).f2))))))
def okP (ps : List S47) (xs : List S69) (i : Nat) : Bool := okP1 ps i && eqP (sumN xs (pAt ps i).f0) (pAt ps i)
def okR (ps : List S47) (xs : List S69) (k : Nat) : Bool := ps.any (fun p => p.f0 == (xAt xs k).f0) || eqP (sumN xs (xAt xs k).f0) (zeroP (xAt xs k).f0)
def goodL (ps : List S47) (xs : List S69) : Bool := (decide (ps.length ≤ 1024) && decide (xs.length ≤ 16384)) && ((List.range xs.length).all (okX xs) && ((List.range ps.length).all (okP ps xs) && (List.range xs.length).all (okR ps xs)))
theorem addP_f0 (p : S47) (x : S69) : (addP p x).f0 = p.f0 := by
 unfold addP add4 add3 add2 add1
 split <;> split <;> split <;> split <;> rfl
theorem foldP_f0 (l : List S69) : ∀ p : S47, (l.foldl addP p).f0 = p.f0 := by
 induction l with
 | nil => intro p; rfl
 | cons x l ih => intro p; rw [List.foldl_cons, ih, addP_f0]
theorem sumN_f0 (l : List S69) (n : Int) : (sumN l n).f0 = n := foldP_f0 _ _
theorem eqP_iff (p q : S47) : eqP p q = true ↔ p = q := by
 obtain ⟨a, b, c, d⟩ := p
 obtain ⟨a', b', c', d'⟩ := q
 unfold eqP
 simp only [Bool.and_eq_true, beq_iff_eq, S47.mk.injEq]
theorem take_xAt (l : List S69) (k : Nat) (h : k < l.length) : l.take (k + 1) = l.take k ++ [xAt l k] := by
 rw [List.take_succ_eq_append_getElem h]
 unfold xAt
 rw [List.getD_eq_getElem?_getD, List.getElem?_eq_getElem h]
 rfl
theorem sumN_snoc (l : List S69) (x : S69) (n : Int) : sumN (l ++ [x]) n = if x.f0 = n then addP (sumN l n) x else sumN l n := by
 unfold sumN
 rw [List.filter_append]
 by_cases h : x.f0 = n
 ·rw [if_pos h]; simp [h, List.foldl_append]
 ·rw [if_neg h]; simp [h]
theorem hasN_snoc (l : List S69) (x : S69) (n : Int) : hasN (l ++ [x]) n = (hasN l n || x.f0 == n) := by
 unfold hasN; simp [List.any_append]
theorem sumN_none (l : List S69) (n : Int) (h : hasN l n = false) : sumN l n = zeroP n := by
 unfold sumN
 rw [List.filter_eq_nil_iff.mpr]
 ·rfl
 ·intro x hx he
  have := List.any_eq_false.mp h x hx
  exact this he
end Go.Proofs.YtdiopojnkjkgmaaDoor.Print
namespace Go.Proofs.YtdiopojnkjkgmaaDoor.Print
open Go.RowKit Go.Proofs.YtdiopojnkjkgmaaDoorW.PrintWords Go.Proofs.YtdiopojnkjkgmaaDoorW.PrintLast Go.Proofs.YtdiopojnkjkgmaaDoorW.PrintMore
attribute [local go_sem] max2_mx min2_mn max_two min_two max_three min_three max_four min_four
set_option linter.unusedVariables false
set_option linter.unusedSimpArgs false
def ledger_known.f (a0 : Int) : Option (Bool) := if a0 ≥ 1 then (some (decide (a0 ≤ 1024))) else (some false)
set_option maxHeartbeats 8000000 in
set_option maxRecDepth 100000 in
theorem ledger_known.calls (a0 : Int) (r : Bool) (w : World) (h : ledger_known.f a0 = some r) :
  Calls Tryd.prog 47 #[.int .i64 a0] w fun e w' => e = .returned (.bool r) ∧ Drawn0 w w' := by
 have H : (if a0 ≥ 1 then (some (decide (a0 ≤ 1024))) else (some false)) = some r := h
 clear h
 by_cases c2 : a0 ≥ 1
 ·rw [if_pos c2] at H
  have c2b0 : decide (1 ≤ a0) = true := decide_eq_true c2
  clear c2
  obtain rfl := Option.some.inj H
  go_enter Tryd.func47, Tryd.ntmps47
  go_wp2
  go_ret
  exact ⟨by first | rfl | (simp; done) | (simp [*]; done), by repeat (first | exact Drawn0.refl _ | apply Drawn0.step)⟩
 ·rw [if_neg c2] at H
  have c2b0 : decide (1 ≤ a0) = false := decide_eq_false c2
  clear c2
  obtain rfl := Option.some.inj H
  go_enter Tryd.func47, Tryd.ntmps47
  go_wp2
  go_ret
  exact ⟨by first | rfl | (simp; done) | (simp [*]; done), by repeat (first | exact Drawn0.refl _ | apply Drawn0.step)⟩
end Go.Proofs.YtdiopojnkjkgmaaDoor.Print
