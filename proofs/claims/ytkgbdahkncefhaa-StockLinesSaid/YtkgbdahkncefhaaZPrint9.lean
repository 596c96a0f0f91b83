-- A claim's text with what it uses alone (wip/slim.py, over what the kit's print and this session's tools wrote). Not trusted: Lean checks it.
import Derived.Test.YtkgbdahkncefhaaZPrint0
import Derived.Test.YtkgbdahkncefhaaZPrint7
import Derived.Test.YtkgbdahkncefhaaZPrint8
namespace Go.Proofs.Ytkgbdahkncefhaa.Print
open Go.RowKit Go.Proofs.YtkgbdahkncefhaaW.PrintWords Go.Proofs.YtkgbdahkncefhaaW.PrintLast Go.Proofs.YtkgbdahkncefhaaW.PrintMore
attribute [local go_sem] max2_mx min2_mn max_two min_two max_three min_three max_four min_four
set_option linter.unusedVariables false
set_option linter.unusedSimpArgs false
mutual
def stock_moved.j0 : Nat → List (S33) → Int → Int → Int × Int → Bool → Int → Int → Int → Int → Int → Int → Option ((List (S33)) × Int)
  | 0, _, _, _, _, _, _, _, _, _, _, _ => none
  | k + 1, x0, x1, x2, x4, x32, x146000, x146001, x146002, x146003, x146004, x146005 => if x32 = true then (some (([] : List (S33)), 2)) else ((cl_T48.f x4 x146000 x146001 x146002 x146003 x146004 x146005).bind fun bt146 => (if bt146.2.2.1 < 0 then (stock_moved.j1 k x0 x1 x2 true bt146.1 bt146.2.1 bt146.2.2.1 bt146.2.2.2.1 bt146.2.2.2.2.1 bt146.2.2.2.2.2) else (if bt146.2.2.2.1 < 0 then (stock_moved.j1 k x0 x1 x2 true bt146.1 bt146.2.1 bt146.2.2.1 bt146.2.2.2.1 bt146.2.2.2.2.1 bt146.2.2.2.2.2) else (stock_moved.j1 k x0 x1 x2 (decide (bt146.2.2.2.2.1 < 0)) bt146.1 bt146.2.1 bt146.2.2.1 bt146.2.2.2.1 bt146.2.2.2.2.1 bt146.2.2.2.2.2))))
def stock_moved.j1 : Nat → List (S33) → Int → Int → Bool → Int → Int → Int → Int → Int → Int → Option ((List (S33)) × Int)
  | 0, _, _, _, _, _, _, _, _, _, _ => none
  | k + 1, x0, x1, x2, x47, x146000, x146001, x146002, x146003, x146004, x146005 => if x47 = true then (some (([] : List (S33)), 13)) else (if x146005 > 1125899906842624 then (some (([] : List (S33)), 5)) else ((stock_place.f k x0 x1 x2).bind fun bt152 => (if bt152.2 = true then (stock_moved.j2 k x0 bt152.1 bt152.2 false x146000 x146001 x146002 x146003 x146004 x146005) else (stock_moved.j2 k x0 bt152.1 bt152.2 (decide ((x0.length : Int) ≥ 4096)) x146000 x146001 x146002 x146003 x146004 x146005))))
def stock_moved.j2 : Nat → List (S33) → Int → Bool → Bool → Int → Int → Int → Int → Int → Int → Option ((List (S33)) × Int)
  | 0, _, _, _, _, _, _, _, _, _, _ => none
  | k + 1, x0, x14, x15, x64, x146000, x146001, x146002, x146003, x146004, x146005 => if x64 = true then (some (([] : List (S33)), 3)) else ((api_Cell_37.f x0).bind fun t154 => (if x15 = true then (if 0 ≤ x14 then (if x14 < (t154.length : Int) then (some ((t154.set (x14 : Int).toNat (⟨x146000, x146001, x146002, x146003, x146004, x146005⟩ : S33)), 0)) else (none)) else (none)) else ((api_Cell_38.f t154 x14 (([(⟨x146000, x146001, x146002, x146003, x146004, x146005⟩ : S33)] : List (S33)))).bind fun t161 => (if 0 ≤ x14 then (if x14 < (t161.length : Int) then (some ((t161.set (x14 : Int).toNat (⟨x146000, x146001, x146002, x146003, x146004, x146005⟩ : S33)), 0)) else (none)) else (none)))))
end
def stock_moved.f (k : Nat) (l0 : List (S33)) (a1 : Int) (a2 : Int) (a3 : Int) (a4 : Int × Int) : Option ((List (S33)) × Int) := (stock_Cell.f k l0 a1 a2).bind fun bt138 => (if bt138.2.2.2.2.2.2 = 0 then (if a3 < 1 then (stock_moved.j0 k l0 a1 a2 a4 true bt138.1 bt138.2.1 bt138.2.2.1 bt138.2.2.2.1 bt138.2.2.2.2.1 bt138.2.2.2.2.2.1) else (stock_moved.j0 k l0 a1 a2 a4 (decide (a3 > 1048576)) bt138.1 bt138.2.1 bt138.2.2.1 bt138.2.2.2.1 bt138.2.2.2.2.1 bt138.2.2.2.2.2.1)) else (some (([] : List (S33)), bt138.2.2.2.2.2.2)))
theorem stock_moved.mono_l : ∀ k, (∀ y0 y1 y2 y3 y4 y5 y6 y7 y8 y9 y10, LeO (stock_moved.j0 k y0 y1 y2 y3 y4 y5 y6 y7 y8 y9 y10) (stock_moved.j0 (k + 1) y0 y1 y2 y3 y4 y5 y6 y7 y8 y9 y10)) ∧ (∀ y0 y1 y2 y3 y4 y5 y6 y7 y8 y9, LeO (stock_moved.j1 k y0 y1 y2 y3 y4 y5 y6 y7 y8 y9) (stock_moved.j1 (k + 1) y0 y1 y2 y3 y4 y5 y6 y7 y8 y9)) ∧ (∀ y0 y1 y2 y3 y4 y5 y6 y7 y8 y9, LeO (stock_moved.j2 k y0 y1 y2 y3 y4 y5 y6 y7 y8 y9) (stock_moved.j2 (k + 1) y0 y1 y2 y3 y4 y5 y6 y7 y8 y9))
  | 0 => ⟨fun _ _ _ _ _ _ _ _ _ _ _ r h => by simp [stock_moved.j0] at h, fun _ _ _ _ _ _ _ _ _ _ r h => by simp [stock_moved.j1] at h, fun _ _ _ _ _ _ _ _ _ _ r h => by simp [stock_moved.j2] at h⟩
  | k + 1 => by
    obtain ⟨ih0, ih1, ih2⟩ := stock_moved.mono_l k
    refine ⟨?_, ?_, ?_⟩
    · intro y0 y1 y2 y3 y4 y5 y6 y7 y8 y9 y10
      unfold stock_moved.j0
      repeat' first
      | (with_reducible exact ih0 _ _ _ _ _ _ _ _ _ _ _)
      | (with_reducible exact ih1 _ _ _ _ _ _ _ _ _ _)
      | (with_reducible exact ih2 _ _ _ _ _ _ _ _ _ _)
      | (with_reducible exact stock_Cell.mono _ _ _ _)
      | (with_reducible exact stock_place.mono _ _ _ _)
      | (with_reducible exact LeO.refl _)
      | (with_reducible exact LeO.none _)
      | (with_reducible refine LeO.ite ?_ ?_)
      | (with_reducible refine LeO.bind ?_ (fun _ => ?_))
      | exact ih0 _ _ _ _ _ _ _ _ _ _ _
      | exact ih1 _ _ _ _ _ _ _ _ _ _
      | exact ih2 _ _ _ _ _ _ _ _ _ _
      | exact stock_Cell.mono _ _ _ _
      | exact stock_place.mono _ _ _ _
      | exact LeO.none _
      | refine LeO.ite ?_ ?_
      | refine LeO.bind ?_ (fun _ => ?_)
    · intro y0 y1 y2 y3 y4 y5 y6 y7 y8 y9
      unfold stock_moved.j1
      repeat' first
      | (with_reducible exact ih0 _ _ _ _ _ _ _ _ _ _ _)
      | (with_reducible exact ih1 _ _ _ _ _ _ _ _ _ _)
      | (with_reducible exact ih2 _ _ _ _ _ _ _ _ _ _)
      | (with_reducible exact stock_Cell.mono _ _ _ _)
      | (with_reducible exact stock_place.mono _ _ _ _)
      | (with_reducible exact LeO.refl _)
      | (with_reducible exact LeO.none _)
      | (with_reducible refine LeO.ite ?_ ?_)
      | (with_reducible refine LeO.bind ?_ (fun _ => ?_))
      | exact ih0 _ _ _ _ _ _ _ _ _ _ _
      | exact ih1 _ _ _ _ _ _ _ _ _ _
      | exact ih2 _ _ _ _ _ _ _ _ _ _
      | exact stock_Cell.mono _ _ _ _
      | exact stock_place.mono _ _ _ _
      | exact LeO.none _
      | refine LeO.ite ?_ ?_
      | refine LeO.bind ?_ (fun _ => ?_)
    · intro y0 y1 y2 y3 y4 y5 y6 y7 y8 y9
      unfold stock_moved.j2
      repeat' first
      | (with_reducible exact ih0 _ _ _ _ _ _ _ _ _ _ _)
      | (with_reducible exact ih1 _ _ _ _ _ _ _ _ _ _)
      | (with_reducible exact ih2 _ _ _ _ _ _ _ _ _ _)
      | (with_reducible exact stock_Cell.mono _ _ _ _)
      | (with_reducible exact stock_place.mono _ _ _ _)
      | (with_reducible exact LeO.refl _)
      | (with_reducible exact LeO.none _)
      | (with_reducible refine LeO.ite ?_ ?_)
      | (with_reducible refine LeO.bind ?_ (fun _ => ?_))
      | exact ih0 _ _ _ _ _ _ _ _ _ _ _
      | exact ih1 _ _ _ _ _ _ _ _ _ _
      | exact ih2 _ _ _ _ _ _ _ _ _ _
      | exact stock_Cell.mono _ _ _ _
      | exact stock_place.mono _ _ _ _
      | exact LeO.none _
      | refine LeO.ite ?_ ?_
      | refine LeO.bind ?_ (fun _ => ?_)
theorem stock_moved.mono : ∀ a0 a1 a2 a3 a4 k, LeO (stock_moved.f k a0 a1 a2 a3 a4) (stock_moved.f (k + 1) a0 a1 a2 a3 a4) := by
  intro a0 a1 a2 a3 a4 k
  obtain ⟨ih0, ih1, ih2⟩ := stock_moved.mono_l k
  unfold stock_moved.f
  repeat' first
      | (with_reducible exact ih0 _ _ _ _ _ _ _ _ _ _ _)
      | (with_reducible exact ih1 _ _ _ _ _ _ _ _ _ _)
      | (with_reducible exact ih2 _ _ _ _ _ _ _ _ _ _)
      | (with_reducible exact stock_Cell.mono _ _ _ _)
      | (with_reducible exact stock_place.mono _ _ _ _)
      | (with_reducible exact LeO.refl _)
      | (with_reducible exact LeO.none _)
      | (with_reducible refine LeO.ite ?_ ?_)
      | (with_reducible refine LeO.bind ?_ (fun _ => ?_))
      | exact ih0 _ _ _ _ _ _ _ _ _ _ _
      | exact ih1 _ _ _ _ _ _ _ _ _ _
      | exact ih2 _ _ _ _ _ _ _ _ _ _
      | exact stock_Cell.mono _ _ _ _
      | exact stock_place.mono _ _ _ _
      | exact LeO.none _
      | refine LeO.ite ?_ ?_
      | refine LeO.bind ?_ (fun _ => ?_)
set_option maxHeartbeats 8000000 in
set_option maxRecDepth 100000 in
theorem stock_moved.calls (k : Nat) (A0 : Option Addr) (c0 : Nat) (l0 : List (S33)) (a1 : Int) (a2 : Int) (a3 : Int) (gc4 : Nat) (a4 : Int × Int) (r1 : List (S33)) (r2 : Int) (w : World) (hr0 : Kd.C k33 w A0 l0.length l0) (hc0 : l0.length ≤ c0) (hg4 : w.heap[gc4]? = some (.cells #[.int .i64 a4.2] 2 (0, 0))) (h : stock_moved.f k l0 a1 a2 a3 a4 = some (r1, r2)) :
    Calls Try.prog 23 #[.slice A0 l0.length c0, .int .i64 a1, .int .i64 a2, .int .i64 a3, .func (.func a4.1.toNat) #[] #[.pointer (some ⟨gc4, 0, none⟩)]] w fun e w' => ∃ v0_ : Value, e = .returned (.tuple #[v0_, .int .i64 r2]) ∧ Kd.R k33 33 w' w.heap.size (fun _ => True) v0_ r1 ∧ Below w.heap.size w w' := by
  have hu33 := Try.underlying33
  have HR0 := Aside0.mk hr0
  have HC0 := Aside0.mk hc0
  clear hr0 hc0
  have HG4 := Aside0.mk hg4
  clear hg4
  have HB := Aside0.mk (Below.refl w.heap.size w)
  have H : ((stock_Cell.f k l0 a1 a2).bind fun bt138 => (if bt138.2.2.2.2.2.2 = 0 then (if a3 < 1 then (stock_moved.j0 k l0 a1 a2 a4 true bt138.1 bt138.2.1 bt138.2.2.1 bt138.2.2.2.1 bt138.2.2.2.2.1 bt138.2.2.2.2.2.1) else (stock_moved.j0 k l0 a1 a2 a4 (decide (a3 > 1048576)) bt138.1 bt138.2.1 bt138.2.2.1 bt138.2.2.2.1 bt138.2.2.2.2.1 bt138.2.2.2.2.2.1)) else (some (([] : List (S33)), bt138.2.2.2.2.2.2)))) = some (r1, r2) := h
  clear h
  replace H := Option.bind_eq_some_iff.mp H
  obtain ⟨⟨t138, t139, t140, t141, t142, t143, t144⟩, A60, H⟩ := H
  replace H : (if t144 = 0 then (if a3 < 1 then (stock_moved.j0 k l0 a1 a2 a4 true t138 t139 t140 t141 t142 t143) else (stock_moved.j0 k l0 a1 a2 a4 (decide (a3 > 1048576)) t138 t139 t140 t141 t142 t143)) else (some (([] : List (S33)), t144))) = some (r1, r2) := H
  have A6 := Aside0.mk A60
  clear A60
  by_cases c7 : t144 = 0
  · rw [if_pos c7] at H
    have c7b0 : (t144 == 0) = true := beq_iff_eq.mpr c7
    have c7b1 : (t144 != 0) = false := bne_eq_false_iff_eq.mpr c7
    clear c7
    have HC8 := Aside0.mk H
    clear H
    go_enter Try.func23, Try.ntmps23
    go_upto_region 4 with (first | ((with_reducible refine gate_callee (f := 17) rfl ?_); refine goesL_ (some 21) rfl rfl Try.func17 (by kernel_rfl) rfl #[.slice A0 l0.length c0, .int .i64 a1, .int .i64 a2] rfl (by (try simp only [List.map_toArray, List.map_cons, List.map_nil]); first | done | rfl | (simp only [List.length_drop, List.length_take]; rfl)) ?_; (with_reducible refine (stock_Cell.calls k _ _ l0 a1 a2 t138 t139 t140 t141 t142 t143 t144 _ ?side1 ?side2 A6.out).mono ?_); (case side1 => repeat (first | exact HR0.out | (with_reducible refine Kd.C_alloc ?_ _) | (with_reducible refine Kd.C_drewN ?_ _) | (with_reducible refine Kd.C_drew ?_))); (case side2 => exact HC0.out); rintro e w9 ⟨rfl, hb⟩; refine ⟨_, rfl, ?_⟩; have n0_ := Aside0.mk (below_step (by repeat (first | (with_reducible first | exact HB.out | apply below_alloc | apply pw_below_drewN | apply below_drew1) | exact HB.out)) hb); clear HB; have HB := n0_; clear n0_; (try clear hb); (try clear hb2); (try clear hk); (try clear hi)) | ((with_reducible refine gate_dst (N := 12) rfl ?_); (try (refine gate_guard (by rfl) ?_; dsimp only)); refine box_event ?hg (N := 12) ?hd (cs := #[.int .i64 0, .int .i64 0, .int .i64 0, .int .i64 0, .int .i64 0, .int .i64 0]) (t := 33) ?hr ?_; (case hd => rfl); (case hg => rfl); (case hr => first | (go_simp; done) | (go_simp; rfl)); intro gb145 hg w10 hbox hb; have n0_ := Aside0.mk (below_step (by repeat (first | (with_reducible first | exact HB.out | apply below_alloc | apply pw_below_drewN | apply below_drew1) | exact HB.out)) hb); have n1_ := Aside0.mk (hbox); have n2_ := Aside0.mk ((by rw [hg]; exact (below_size (by repeat (first | (with_reducible first | exact HB.out | apply below_alloc | apply pw_below_drewN | apply below_drew1) | exact HB.out))) : w.heap.size ≤ gb145)); have n3_ := Aside0.mk ((by rw [hg]; exact (below_size (by repeat (first | (with_reducible first | exact HB.out | apply below_alloc | apply pw_below_drewN | apply below_drew1) | exact HB.out))) : w.heap.size ≤ gb145)); clear HB; have HB := n0_; have BK145 := n1_; have GW145 := n2_; have GE145 := n3_; clear n0_ n1_ n2_ n3_; clear hb hbox hg; have hcz11_0 : w10.cell? ⟨gb145, 0, none⟩ = some (.int .i64 0) := (blk_cell BK145.out 0).trans rfl; have hcz11_1 : w10.cell? ⟨gb145, 1, none⟩ = some (.int .i64 0) := (blk_cell BK145.out 1).trans rfl; have hcz11_2 : w10.cell? ⟨gb145, 2, none⟩ = some (.int .i64 0) := (blk_cell BK145.out 2).trans rfl; have hcz11_3 : w10.cell? ⟨gb145, 3, none⟩ = some (.int .i64 0) := (blk_cell BK145.out 3).trans rfl; have hcz11_4 : w10.cell? ⟨gb145, 4, none⟩ = some (.int .i64 0) := (blk_cell BK145.out 4).trans rfl; have hcz11_5 : w10.cell? ⟨gb145, 5, none⟩ = some (.int .i64 0) := (blk_cell BK145.out 5).trans rfl; have hfz11_0 := blk_frozen BK145.out 0; have hfz11_1 := blk_frozen BK145.out 1; have hfz11_2 := blk_frozen BK145.out 2; have hfz11_3 := blk_frozen BK145.out 3; have hfz11_4 := blk_frozen BK145.out 4; have hfz11_5 := blk_frozen BK145.out 5))
    (try simp only [Act.put, List.setIfInBounds_toArray, List.set_cons_zero, List.set_cons_succ])
    go_cut [32] (fun v32 wc => ∃ (kq : Nat) (x32_7 : Bool), v32 = .bool x32_7 ∧ Aside0 (stock_moved.j0 kq l0 a1 a2 a4 x32_7 t138 t139 t140 t141 t142 t143 = some (r1, r2)) ∧ Aside0 (kq ≤ k) ∧ Aside0 (wc.heap[gb145]? = some (.cells #[.int .i64 t138, .int .i64 t139, .int .i64 t140, .int .i64 t141, .int .i64 t142, .int .i64 t143] 33 (0, 0))) ∧ Aside0 (Below w.heap.size w wc))
    case first =>
      have H := HC8.out
      clear HC8
      by_cases c12 : a3 < 1
      · rw [if_pos c12] at H
        have c12b0 : decide (a3 < 1) = true := decide_eq_true c12
        clear c12
        (first | rw [c12b0] | (simp only [i64_w, i32_w]; rw [c12b0]) | skip)
        have H' := Aside0.mk H
        clear H
        go_wp2
        go_meet
        case rel => exact ⟨_, (true), (by first | rfl | (simp; done) | (simp [*]; done)), H', ⟨by first | omega | exact Nat.le_refl _⟩, ⟨by (with_reducible repeat (first | refine blk_drewN ?_ _ | refine blk_drew ?_ | refine blk_alloc ?_ _)); refine blk_put (cs := #[.int .i64 t138, .int .i64 t139, .int .i64 t140, .int .i64 t141, .int .i64 t142, .int .i64 0]) ?_ 5 _ rfl; (with_reducible repeat (first | refine blk_drewN ?_ _ | refine blk_drew ?_ | refine blk_alloc ?_ _)); refine blk_put (cs := #[.int .i64 t138, .int .i64 t139, .int .i64 t140, .int .i64 t141, .int .i64 0, .int .i64 0]) ?_ 4 _ rfl; (with_reducible repeat (first | refine blk_drewN ?_ _ | refine blk_drew ?_ | refine blk_alloc ?_ _)); refine blk_put (cs := #[.int .i64 t138, .int .i64 t139, .int .i64 t140, .int .i64 0, .int .i64 0, .int .i64 0]) ?_ 3 _ rfl; (with_reducible repeat (first | refine blk_drewN ?_ _ | refine blk_drew ?_ | refine blk_alloc ?_ _)); refine blk_put (cs := #[.int .i64 t138, .int .i64 t139, .int .i64 0, .int .i64 0, .int .i64 0, .int .i64 0]) ?_ 2 _ rfl; (with_reducible repeat (first | refine blk_drewN ?_ _ | refine blk_drew ?_ | refine blk_alloc ?_ _)); refine blk_put (cs := #[.int .i64 t138, .int .i64 0, .int .i64 0, .int .i64 0, .int .i64 0, .int .i64 0]) ?_ 1 _ rfl; (with_reducible repeat (first | refine blk_drewN ?_ _ | refine blk_drew ?_ | refine blk_alloc ?_ _)); refine blk_put (cs := #[.int .i64 0, .int .i64 0, .int .i64 0, .int .i64 0, .int .i64 0, .int .i64 0]) ?_ 0 _ rfl; (with_reducible repeat (first | refine blk_drewN ?_ _ | refine blk_drew ?_ | refine blk_alloc ?_ _)); exact BK145.out⟩, ⟨by repeat (first | (with_reducible first | exact HB.out | apply below_alloc | apply pw_below_drewN | apply below_drew1 | refine below_set ?_ GE145.out) | exact HB.out)⟩⟩
      · rw [if_neg c12] at H
        have c12b0 : decide (a3 < 1) = false := decide_eq_false c12
        clear c12
        (first | rw [c12b0] | (simp only [i64_w, i32_w]; rw [c12b0]) | skip)
        have H' := Aside0.mk H
        clear H
        go_wp2
        go_meet
        case rel => exact ⟨_, (decide (a3 > 1048576)), (by first | rfl | (simp; done) | (simp [*]; done)), H', ⟨by first | omega | exact Nat.le_refl _⟩, ⟨by (with_reducible repeat (first | refine blk_drewN ?_ _ | refine blk_drew ?_ | refine blk_alloc ?_ _)); refine blk_put (cs := #[.int .i64 t138, .int .i64 t139, .int .i64 t140, .int .i64 t141, .int .i64 t142, .int .i64 0]) ?_ 5 _ rfl; (with_reducible repeat (first | refine blk_drewN ?_ _ | refine blk_drew ?_ | refine blk_alloc ?_ _)); refine blk_put (cs := #[.int .i64 t138, .int .i64 t139, .int .i64 t140, .int .i64 t141, .int .i64 0, .int .i64 0]) ?_ 4 _ rfl; (with_reducible repeat (first | refine blk_drewN ?_ _ | refine blk_drew ?_ | refine blk_alloc ?_ _)); refine blk_put (cs := #[.int .i64 t138, .int .i64 t139, .int .i64 t140, .int .i64 0, .int .i64 0, .int .i64 0]) ?_ 3 _ rfl; (with_reducible repeat (first | refine blk_drewN ?_ _ | refine blk_drew ?_ | refine blk_alloc ?_ _)); refine blk_put (cs := #[.int .i64 t138, .int .i64 t139, .int .i64 0, .int .i64 0, .int .i64 0, .int .i64 0]) ?_ 2 _ rfl; (with_reducible repeat (first | refine blk_drewN ?_ _ | refine blk_drew ?_ | refine blk_alloc ?_ _)); refine blk_put (cs := #[.int .i64 t138, .int .i64 0, .int .i64 0, .int .i64 0, .int .i64 0, .int .i64 0]) ?_ 1 _ rfl; (with_reducible repeat (first | refine blk_drewN ?_ _ | refine blk_drew ?_ | refine blk_alloc ?_ _)); refine blk_put (cs := #[.int .i64 0, .int .i64 0, .int .i64 0, .int .i64 0, .int .i64 0, .int .i64 0]) ?_ 0 _ rfl; (with_reducible repeat (first | refine blk_drewN ?_ _ | refine blk_drew ?_ | refine blk_alloc ?_ _)); exact BK145.out⟩, ⟨by repeat (first | (with_reducible first | exact HB.out | apply below_alloc | apply pw_below_drewN | apply below_drew1 | refine below_set ?_ GE145.out) | exact HB.out)⟩⟩
    case rest =>
      clear HC8
      try clear c1
      try clear c2
      try clear p2
      try clear c7
      try clear c7b0
      try clear c7b1
      try clear c12
      try clear c12b0
      try clear hcz11_0
      try clear hcz11_1
      try clear hcz11_2
      try clear hcz11_3
      try clear hcz11_4
      try clear hcz11_5
      try clear hfz11_0
      try clear hfz11_1
      try clear hfz11_2
      try clear hfz11_3
      try clear hfz11_4
      try clear hfz11_5
      obtain ⟨kq, x32_7, rfl, HA, HJ7, BK145, HB⟩ := hcut
      cases kq with
      | zero => exact absurd HA.out (by simp [stock_moved.j0])
      | succ kj7 =>
        have H := HA.out
        clear HA
        simp only [stock_moved.j0] at H
        by_cases c13 : x32_7 = true
        · subst c13
          have H1 : (some (([] : List (S33)), 2)) = some (r1, r2) := by rw [if_pos rfl] at H; exact H
          clear H
          have H := H1
          clear H1
          simp only [Option.some.injEq, Prod.mk.injEq] at H
          obtain ⟨rfl, rfl⟩ := H
          go_wp2
          go_ret2
          exact ⟨_, by first | rfl | (simp [errW_none, errW_some] <;> rfl) | (simp [*, errW_none, errW_some] <;> rfl), by first | exact Kd.R_nil _ _ _ _ _ | exact Kd.N_nil _ _ _ _ _ | exact Kd.V_nil _ _ _ _ _ | exact Kd.Q_nil _ _ _ _ _ | exact Kd.S_nil _ _ _ _ _, by repeat (first | (with_reducible first | exact HB.out | apply below_alloc | apply pw_below_drewN | apply below_drew1 | refine below_set ?_ GE145.out) | exact HB.out)⟩
        · replace c13 := Bool.eq_false_iff.mpr c13
          subst c13
          have H1 : ((cl_T48.f a4 t138 t139 t140 t141 t142 t143).bind fun bt146 => (if bt146.2.2.1 < 0 then (stock_moved.j1 kj7 l0 a1 a2 true bt146.1 bt146.2.1 bt146.2.2.1 bt146.2.2.2.1 bt146.2.2.2.2.1 bt146.2.2.2.2.2) else (if bt146.2.2.2.1 < 0 then (stock_moved.j1 kj7 l0 a1 a2 true bt146.1 bt146.2.1 bt146.2.2.1 bt146.2.2.2.1 bt146.2.2.2.2.1 bt146.2.2.2.2.2) else (stock_moved.j1 kj7 l0 a1 a2 (decide (bt146.2.2.2.2.1 < 0)) bt146.1 bt146.2.1 bt146.2.2.1 bt146.2.2.2.1 bt146.2.2.2.2.1 bt146.2.2.2.2.2)))) = some (r1, r2) := by rw [if_neg (show ¬ (false = true) by decide)] at H; exact H
          clear H
          have H := H1
          clear H1
          replace H := Option.bind_eq_some_iff.mp H
          obtain ⟨⟨t146, t147, t148, t149, t150, t151⟩, A140, H⟩ := H
          replace H : (if t148 < 0 then (stock_moved.j1 kj7 l0 a1 a2 true t146 t147 t148 t149 t150 t151) else (if t149 < 0 then (stock_moved.j1 kj7 l0 a1 a2 true t146 t147 t148 t149 t150 t151) else (stock_moved.j1 kj7 l0 a1 a2 (decide (t150 < 0)) t146 t147 t148 t149 t150 t151))) = some (r1, r2) := H
          have A14 := Aside0.mk A140
          clear A140
          have HC15 := Aside0.mk H
          clear H
          go_upto_region 7 with (first | ((with_reducible refine gate_value (T := 33) rfl ?_); refine goesCL_ (some 34) rfl rfl (cl_T48.ok A14.out) #[.pointer (some ⟨gb145, 0, none⟩)] #[.pointer (some ⟨gc4, 0, none⟩)] rfl (by first | rfl | (simp only [Act.eval]; rfl)) (by first | rfl | (simp only [List.map_toArray, List.map_cons, List.map_nil]; rfl)) ?_; refine (cl_T48.calls a4 t138 t139 t140 t141 t142 t143 t146 t147 t148 t149 t150 t151 _ gb145 gc4 (by (with_reducible repeat (first | refine blk_drewN ?_ _ | refine blk_drew ?_ | refine blk_alloc ?_ _)); exact BK145.out) (blk_below HG4.out (by repeat (first | (with_reducible first | exact HB.out | apply below_alloc | apply pw_below_drewN | apply below_drew1 | refine below_set ?_ GE145.out) | exact HB.out))) A14.out).mono ?_; rintro e w16 ⟨rfl, hbk, hkb⟩; refine ⟨_, rfl, ?_⟩; have n0_ := Aside0.mk (hbk); have n1_ := Aside0.mk (Below.trans (by repeat (first | (with_reducible first | exact HB.out | apply below_alloc | apply pw_below_drewN | apply below_drew1 | refine below_set ?_ GE145.out) | exact HB.out)) (Below.mono hkb GE145.out)); clear BK145; clear HB; have BK145 := n0_; have HB := n1_; clear n0_ n1_; clear hbk hkb))
          (try simp only [Act.put, List.setIfInBounds_toArray, List.set_cons_zero, List.set_cons_succ])
          go_cut [47] (fun v47 wc => ∃ (kq : Nat) (x47_14 : Bool), v47 = .bool x47_14 ∧ Aside0 (stock_moved.j1 kq l0 a1 a2 x47_14 t146 t147 t148 t149 t150 t151 = some (r1, r2)) ∧ Aside0 (kq ≤ kj7) ∧ Aside0 (wc.heap[gb145]? = some (.cells #[.int .i64 t146, .int .i64 t147, .int .i64 t148, .int .i64 t149, .int .i64 t150, .int .i64 t151] 33 (0, 0))) ∧ Aside0 (Below w.heap.size w wc))
          case first =>
            have H := HC15.out
            clear HC15
            by_cases c17 : t148 < 0
            · rw [if_pos c17] at H
              have c17b0 : decide (t148 < 0) = true := decide_eq_true c17
              clear c17
              (first | rw [c17b0] | (simp only [i64_w, i32_w]; rw [c17b0]) | skip)
              have H' := Aside0.mk H
              clear H
              have hcz18_0 : w16.cell? ⟨gb145, 0, none⟩ = some (.int .i64 t146) := (blk_cell BK145.out 0).trans rfl
              have hcz18_1 : w16.cell? ⟨gb145, 1, none⟩ = some (.int .i64 t147) := (blk_cell BK145.out 1).trans rfl
              have hcz18_2 : w16.cell? ⟨gb145, 2, none⟩ = some (.int .i64 t148) := (blk_cell BK145.out 2).trans rfl
              have hcz18_3 : w16.cell? ⟨gb145, 3, none⟩ = some (.int .i64 t149) := (blk_cell BK145.out 3).trans rfl
              have hcz18_4 : w16.cell? ⟨gb145, 4, none⟩ = some (.int .i64 t150) := (blk_cell BK145.out 4).trans rfl
              have hcz18_5 : w16.cell? ⟨gb145, 5, none⟩ = some (.int .i64 t151) := (blk_cell BK145.out 5).trans rfl
              have hfz18_0 := blk_frozen BK145.out 0
              have hfz18_1 := blk_frozen BK145.out 1
              have hfz18_2 := blk_frozen BK145.out 2
              have hfz18_3 := blk_frozen BK145.out 3
              have hfz18_4 := blk_frozen BK145.out 4
              have hfz18_5 := blk_frozen BK145.out 5
              go_wp2
              go_meet
              case rel => exact ⟨_, (true), (by first | rfl | (simp; done) | (simp [*]; done)), H', ⟨by have := HJ7.out; first | omega | exact Nat.le_refl _⟩, ⟨by (with_reducible repeat (first | refine blk_drewN ?_ _ | refine blk_drew ?_ | refine blk_alloc ?_ _)); exact BK145.out⟩, ⟨by repeat (first | (with_reducible first | exact HB.out | apply below_alloc | apply pw_below_drewN | apply below_drew1 | refine below_set ?_ GE145.out) | exact HB.out)⟩⟩
            · rw [if_neg c17] at H
              have c17b0 : decide (t148 < 0) = false := decide_eq_false c17
              clear c17
              (first | rw [c17b0] | (simp only [i64_w, i32_w]; rw [c17b0]) | skip)
              by_cases c19 : t149 < 0
              · rw [if_pos c19] at H
                have c19b0 : decide (t149 < 0) = true := decide_eq_true c19
                clear c19
                have H' := Aside0.mk H
                clear H
                have hcz20_0 : w16.cell? ⟨gb145, 0, none⟩ = some (.int .i64 t146) := (blk_cell BK145.out 0).trans rfl
                have hcz20_1 : w16.cell? ⟨gb145, 1, none⟩ = some (.int .i64 t147) := (blk_cell BK145.out 1).trans rfl
                have hcz20_2 : w16.cell? ⟨gb145, 2, none⟩ = some (.int .i64 t148) := (blk_cell BK145.out 2).trans rfl
                have hcz20_3 : w16.cell? ⟨gb145, 3, none⟩ = some (.int .i64 t149) := (blk_cell BK145.out 3).trans rfl
                have hcz20_4 : w16.cell? ⟨gb145, 4, none⟩ = some (.int .i64 t150) := (blk_cell BK145.out 4).trans rfl
                have hcz20_5 : w16.cell? ⟨gb145, 5, none⟩ = some (.int .i64 t151) := (blk_cell BK145.out 5).trans rfl
                have hfz20_0 := blk_frozen BK145.out 0
                have hfz20_1 := blk_frozen BK145.out 1
                have hfz20_2 := blk_frozen BK145.out 2
                have hfz20_3 := blk_frozen BK145.out 3
                have hfz20_4 := blk_frozen BK145.out 4
                have hfz20_5 := blk_frozen BK145.out 5
                go_wp2
                go_meet
                case rel => exact ⟨_, (true), (by first | rfl | (simp; done) | (simp [*]; done)), H', ⟨by have := HJ7.out; first | omega | exact Nat.le_refl _⟩, ⟨by (with_reducible repeat (first | refine blk_drewN ?_ _ | refine blk_drew ?_ | refine blk_alloc ?_ _)); exact BK145.out⟩, ⟨by repeat (first | (with_reducible first | exact HB.out | apply below_alloc | apply pw_below_drewN | apply below_drew1 | refine below_set ?_ GE145.out) | exact HB.out)⟩⟩
              · rw [if_neg c19] at H
                have c19b0 : decide (t149 < 0) = false := decide_eq_false c19
                clear c19
                have H' := Aside0.mk H
                clear H
                have hcz21_0 : w16.cell? ⟨gb145, 0, none⟩ = some (.int .i64 t146) := (blk_cell BK145.out 0).trans rfl
                have hcz21_1 : w16.cell? ⟨gb145, 1, none⟩ = some (.int .i64 t147) := (blk_cell BK145.out 1).trans rfl
                have hcz21_2 : w16.cell? ⟨gb145, 2, none⟩ = some (.int .i64 t148) := (blk_cell BK145.out 2).trans rfl
                have hcz21_3 : w16.cell? ⟨gb145, 3, none⟩ = some (.int .i64 t149) := (blk_cell BK145.out 3).trans rfl
                have hcz21_4 : w16.cell? ⟨gb145, 4, none⟩ = some (.int .i64 t150) := (blk_cell BK145.out 4).trans rfl
                have hcz21_5 : w16.cell? ⟨gb145, 5, none⟩ = some (.int .i64 t151) := (blk_cell BK145.out 5).trans rfl
                have hfz21_0 := blk_frozen BK145.out 0
                have hfz21_1 := blk_frozen BK145.out 1
                have hfz21_2 := blk_frozen BK145.out 2
                have hfz21_3 := blk_frozen BK145.out 3
                have hfz21_4 := blk_frozen BK145.out 4
                have hfz21_5 := blk_frozen BK145.out 5
                go_wp2
                go_meet
                case rel => exact ⟨_, (decide (t150 < 0)), (by first | rfl | (simp; done) | (simp [*]; done)), H', ⟨by have := HJ7.out; first | omega | exact Nat.le_refl _⟩, ⟨by (with_reducible repeat (first | refine blk_drewN ?_ _ | refine blk_drew ?_ | refine blk_alloc ?_ _)); exact BK145.out⟩, ⟨by repeat (first | (with_reducible first | exact HB.out | apply below_alloc | apply pw_below_drewN | apply below_drew1 | refine below_set ?_ GE145.out) | exact HB.out)⟩⟩
          case rest =>
            clear HC15
            try clear c1
            try clear c2
            try clear p2
            try clear c4
            try clear c7
            try clear c7b0
            try clear c7b1
            try clear c12
            try clear c12b0
            try clear c13
            try clear c17
            try clear c17b0
            try clear c19
            try clear c19b0
            try clear hcz11_0
            try clear hcz11_1
            try clear hcz11_2
            try clear hcz11_3
            try clear hcz11_4
            try clear hcz11_5
            try clear hcz18_0
            try clear hcz18_1
            try clear hcz18_2
            try clear hcz18_3
            try clear hcz18_4
            try clear hcz18_5
            try clear hcz20_0
            try clear hcz20_1
            try clear hcz20_2
            try clear hcz20_3
            try clear hcz20_4
            try clear hcz20_5
            try clear hcz21_0
            try clear hcz21_1
            try clear hcz21_2
            try clear hcz21_3
            try clear hcz21_4
            try clear hcz21_5
            try clear hfz11_0
            try clear hfz11_1
            try clear hfz11_2
            try clear hfz11_3
            try clear hfz11_4
            try clear hfz11_5
            try clear hfz18_0
            try clear hfz18_1
            try clear hfz18_2
            try clear hfz18_3
            try clear hfz18_4
            try clear hfz18_5
            try clear hfz20_0
            try clear hfz20_1
            try clear hfz20_2
            try clear hfz20_3
            try clear hfz20_4
            try clear hfz20_5
            try clear hfz21_0
            try clear hfz21_1
            try clear hfz21_2
            try clear hfz21_3
            try clear hfz21_4
            try clear hfz21_5
            try clear p2
            obtain ⟨kq, x47_14, rfl, HA, HJ14, BK145, HB⟩ := hcut
            cases kq with
            | zero => exact absurd HA.out (by simp [stock_moved.j1])
            | succ kj14 =>
              have H := HA.out
              clear HA
              simp only [stock_moved.j1] at H
              by_cases c22 : x47_14 = true
              · subst c22
                have H1 : (some (([] : List (S33)), 13)) = some (r1, r2) := by rw [if_pos rfl] at H; exact H
                clear H
                have H := H1
                clear H1
                simp only [Option.some.injEq, Prod.mk.injEq] at H
                obtain ⟨rfl, rfl⟩ := H
                go_wp2
                go_ret2
                exact ⟨_, by first | rfl | (simp [errW_none, errW_some] <;> rfl) | (simp [*, errW_none, errW_some] <;> rfl), by first | exact Kd.R_nil _ _ _ _ _ | exact Kd.N_nil _ _ _ _ _ | exact Kd.V_nil _ _ _ _ _ | exact Kd.Q_nil _ _ _ _ _ | exact Kd.S_nil _ _ _ _ _, by repeat (first | (with_reducible first | exact HB.out | apply below_alloc | apply pw_below_drewN | apply below_drew1 | refine below_set ?_ GE145.out) | exact HB.out)⟩
              · replace c22 := Bool.eq_false_iff.mpr c22
                subst c22
                have H1 : (if t151 > 1125899906842624 then (some (([] : List (S33)), 5)) else ((stock_place.f kj14 l0 a1 a2).bind fun bt152 => (if bt152.2 = true then (stock_moved.j2 kj14 l0 bt152.1 bt152.2 false t146 t147 t148 t149 t150 t151) else (stock_moved.j2 kj14 l0 bt152.1 bt152.2 (decide ((l0.length : Int) ≥ 4096)) t146 t147 t148 t149 t150 t151)))) = some (r1, r2) := by rw [if_neg (show ¬ (false = true) by decide)] at H; exact H
                clear H
                have H := H1
                clear H1
                by_cases c23 : t151 > 1125899906842624
                · rw [if_pos c23] at H
                  have c23b0 : decide (1125899906842624 < t151) = true := decide_eq_true c23
                  clear c23
                  simp only [Option.some.injEq, Prod.mk.injEq] at H
                  obtain ⟨rfl, rfl⟩ := H
                  have hcz24_0 : wc.cell? ⟨gb145, 0, none⟩ = some (.int .i64 t146) := (blk_cell BK145.out 0).trans rfl
                  have hcz24_1 : wc.cell? ⟨gb145, 1, none⟩ = some (.int .i64 t147) := (blk_cell BK145.out 1).trans rfl
                  have hcz24_2 : wc.cell? ⟨gb145, 2, none⟩ = some (.int .i64 t148) := (blk_cell BK145.out 2).trans rfl
                  have hcz24_3 : wc.cell? ⟨gb145, 3, none⟩ = some (.int .i64 t149) := (blk_cell BK145.out 3).trans rfl
                  have hcz24_4 : wc.cell? ⟨gb145, 4, none⟩ = some (.int .i64 t150) := (blk_cell BK145.out 4).trans rfl
                  have hcz24_5 : wc.cell? ⟨gb145, 5, none⟩ = some (.int .i64 t151) := (blk_cell BK145.out 5).trans rfl
                  have hfz24_0 := blk_frozen BK145.out 0
                  have hfz24_1 := blk_frozen BK145.out 1
                  have hfz24_2 := blk_frozen BK145.out 2
                  have hfz24_3 := blk_frozen BK145.out 3
                  have hfz24_4 := blk_frozen BK145.out 4
                  have hfz24_5 := blk_frozen BK145.out 5
                  go_wp2
                  go_ret2
                  exact ⟨_, by first | rfl | (simp [errW_none, errW_some] <;> rfl) | (simp [*, errW_none, errW_some] <;> rfl), by first | exact Kd.R_nil _ _ _ _ _ | exact Kd.N_nil _ _ _ _ _ | exact Kd.V_nil _ _ _ _ _ | exact Kd.Q_nil _ _ _ _ _ | exact Kd.S_nil _ _ _ _ _, by repeat (first | (with_reducible first | exact HB.out | apply below_alloc | apply pw_below_drewN | apply below_drew1 | refine below_set ?_ GE145.out) | exact HB.out)⟩
                · rw [if_neg c23] at H
                  have c23b0 : decide (1125899906842624 < t151) = false := decide_eq_false c23
                  clear c23
                  replace H := Option.bind_eq_some_iff.mp H
                  obtain ⟨⟨t152, t153⟩, A250, H⟩ := H
                  replace H : (if t153 = true then (stock_moved.j2 kj14 l0 t152 t153 false t146 t147 t148 t149 t150 t151) else (stock_moved.j2 kj14 l0 t152 t153 (decide ((l0.length : Int) ≥ 4096)) t146 t147 t148 t149 t150 t151)) = some (r1, r2) := H
                  have A25 := Aside0.mk A250
                  clear A250
                  have HC26 := Aside0.mk H
                  clear H
                  have hcz27_0 : wc.cell? ⟨gb145, 0, none⟩ = some (.int .i64 t146) := (blk_cell BK145.out 0).trans rfl
                  have hcz27_1 : wc.cell? ⟨gb145, 1, none⟩ = some (.int .i64 t147) := (blk_cell BK145.out 1).trans rfl
                  have hcz27_2 : wc.cell? ⟨gb145, 2, none⟩ = some (.int .i64 t148) := (blk_cell BK145.out 2).trans rfl
                  have hcz27_3 : wc.cell? ⟨gb145, 3, none⟩ = some (.int .i64 t149) := (blk_cell BK145.out 3).trans rfl
                  have hcz27_4 : wc.cell? ⟨gb145, 4, none⟩ = some (.int .i64 t150) := (blk_cell BK145.out 4).trans rfl
                  have hcz27_5 : wc.cell? ⟨gb145, 5, none⟩ = some (.int .i64 t151) := (blk_cell BK145.out 5).trans rfl
                  have hfz27_0 := blk_frozen BK145.out 0
                  have hfz27_1 := blk_frozen BK145.out 1
                  have hfz27_2 := blk_frozen BK145.out 2
                  have hfz27_3 := blk_frozen BK145.out 3
                  have hfz27_4 := blk_frozen BK145.out 4
                  have hfz27_5 := blk_frozen BK145.out 5
                  go_upto_region 12 with (first | ((with_reducible refine gate_callee (f := 34) rfl ?_); refine goesL_ (some 55) rfl rfl Try.func34 (by kernel_rfl) rfl #[.slice A0 l0.length c0, .int .i64 a1, .int .i64 a2] rfl (by (try simp only [List.map_toArray, List.map_cons, List.map_nil]); first | done | rfl | (simp only [List.length_drop, List.length_take]; rfl)) ?_; (with_reducible refine (stock_place.calls kj14 _ _ l0 a1 a2 t152 t153 _ ?side1 ?side2 A25.out).mono ?_); (case side1 => repeat (first | exact (Kd.C_below HR0.out HB.out) | (with_reducible refine Kd.C_alloc ?_ _) | (with_reducible refine Kd.C_drewN ?_ _) | (with_reducible refine Kd.C_drew ?_))); (case side2 => exact HC0.out); rintro e w28 ⟨rfl, hb⟩; refine ⟨_, rfl, ?_⟩; have n0_ := Aside0.mk (blk_below (g := gb145) (o := .cells #[.int .i64 t146, .int .i64 t147, .int .i64 t148, .int .i64 t149, .int .i64 t150, .int .i64 t151] 33 (0, 0)) (by (with_reducible repeat (first | refine blk_drewN ?_ _ | refine blk_drew ?_ | refine blk_alloc ?_ _)); exact BK145.out) hb); have n1_ := Aside0.mk (below_step (by repeat (first | (with_reducible first | exact HB.out | apply below_alloc | apply pw_below_drewN | apply below_drew1 | refine below_set ?_ GE145.out) | exact HB.out)) hb); clear BK145; clear HB; have BK145 := n0_; have HB := n1_; clear n0_ n1_; (try clear hb); (try clear hb2); (try clear hk); (try clear hi)))
                  (try simp only [Act.put, List.setIfInBounds_toArray, List.set_cons_zero, List.set_cons_succ])
                  go_cut [64] (fun v64 wc => ∃ (kq : Nat) (x64_25 : Bool), v64 = .bool x64_25 ∧ Aside0 (stock_moved.j2 kq l0 t152 t153 x64_25 t146 t147 t148 t149 t150 t151 = some (r1, r2)) ∧ Aside0 (kq ≤ kj14) ∧ Aside0 (wc.heap[gb145]? = some (.cells #[.int .i64 t146, .int .i64 t147, .int .i64 t148, .int .i64 t149, .int .i64 t150, .int .i64 t151] 33 (0, 0))) ∧ Aside0 (Below w.heap.size w wc))
                  case first =>
                    have H := HC26.out
                    clear HC26
                    by_cases c29 : t153 = true
                    · subst c29
                      have H1 : (stock_moved.j2 kj14 l0 t152 true false t146 t147 t148 t149 t150 t151) = some (r1, r2) := by rw [if_pos rfl] at H; exact H
                      clear H
                      have H := H1
                      clear H1
                      have H' := Aside0.mk H
                      clear H
                      go_wp2
                      go_meet
                      case rel => exact ⟨_, (false), (by first | rfl | (simp; done) | (simp [*]; done)), H', ⟨by have := HJ7.out; have := HJ14.out; first | omega | exact Nat.le_refl _⟩, ⟨by (with_reducible repeat (first | refine blk_drewN ?_ _ | refine blk_drew ?_ | refine blk_alloc ?_ _)); exact BK145.out⟩, ⟨by repeat (first | (with_reducible first | exact HB.out | apply below_alloc | apply pw_below_drewN | apply below_drew1 | refine below_set ?_ GE145.out) | exact HB.out)⟩⟩
                    · replace c29 := Bool.eq_false_iff.mpr c29
                      subst c29
                      have H1 : (stock_moved.j2 kj14 l0 t152 false (decide ((l0.length : Int) ≥ 4096)) t146 t147 t148 t149 t150 t151) = some (r1, r2) := by rw [if_neg (show ¬ (false = true) by decide)] at H; exact H
                      clear H
                      have H := H1
                      clear H1
                      have H' := Aside0.mk H
                      clear H
                      go_wp2
                      go_meet
                      case rel => exact ⟨_, (decide ((l0.length : Int) ≥ 4096)), (by first | rfl | (simp; done) | (simp [*]; done)), H', ⟨by have := HJ7.out; have := HJ14.out; first | omega | exact Nat.le_refl _⟩, ⟨by (with_reducible repeat (first | refine blk_drewN ?_ _ | refine blk_drew ?_ | refine blk_alloc ?_ _)); exact BK145.out⟩, ⟨by repeat (first | (with_reducible first | exact HB.out | apply below_alloc | apply pw_below_drewN | apply below_drew1 | refine below_set ?_ GE145.out) | exact HB.out)⟩⟩
                  case rest =>
                    clear HC26
                    try clear c1
                    try clear c2
                    try clear p2
                    try clear c3
                    try clear c4
                    try clear c7
                    try clear c7b0
                    try clear c7b1
                    try clear c12
                    try clear c12b0
                    try clear c13
                    try clear c17
                    try clear c17b0
                    try clear c19
                    try clear c19b0
                    try clear c22
                    try clear c23
                    try clear c23b0
                    try clear c29
                    try clear hcz11_0
                    try clear hcz11_1
                    try clear hcz11_2
                    try clear hcz11_3
                    try clear hcz11_4
                    try clear hcz11_5
                    try clear hcz18_0
                    try clear hcz18_1
                    try clear hcz18_2
                    try clear hcz18_3
                    try clear hcz18_4
                    try clear hcz18_5
                    try clear hcz20_0
                    try clear hcz20_1
                    try clear hcz20_2
                    try clear hcz20_3
                    try clear hcz20_4
                    try clear hcz20_5
                    try clear hcz21_0
                    try clear hcz21_1
                    try clear hcz21_2
                    try clear hcz21_3
                    try clear hcz21_4
                    try clear hcz21_5
                    try clear hcz24_0
                    try clear hcz24_1
                    try clear hcz24_2
                    try clear hcz24_3
                    try clear hcz24_4
                    try clear hcz24_5
                    try clear hcz27_0
                    try clear hcz27_1
                    try clear hcz27_2
                    try clear hcz27_3
                    try clear hcz27_4
                    try clear hcz27_5
                    try clear hfz11_0
                    try clear hfz11_1
                    try clear hfz11_2
                    try clear hfz11_3
                    try clear hfz11_4
                    try clear hfz11_5
                    try clear hfz18_0
                    try clear hfz18_1
                    try clear hfz18_2
                    try clear hfz18_3
                    try clear hfz18_4
                    try clear hfz18_5
                    try clear hfz20_0
                    try clear hfz20_1
                    try clear hfz20_2
                    try clear hfz20_3
                    try clear hfz20_4
                    try clear hfz20_5
                    try clear hfz21_0
                    try clear hfz21_1
                    try clear hfz21_2
                    try clear hfz21_3
                    try clear hfz21_4
                    try clear hfz21_5
                    try clear hfz24_0
                    try clear hfz24_1
                    try clear hfz24_2
                    try clear hfz24_3
                    try clear hfz24_4
                    try clear hfz24_5
                    try clear hfz27_0
                    try clear hfz27_1
                    try clear hfz27_2
                    try clear hfz27_3
                    try clear hfz27_4
                    try clear hfz27_5
                    try clear p2
                    obtain ⟨kq, x64_25, rfl, HA, HJ25, BK145, HB⟩ := hcut
                    cases kq with
                    | zero => exact absurd HA.out (by simp [stock_moved.j2])
                    | succ kj25 =>
                      have H := HA.out
                      clear HA
                      simp only [stock_moved.j2] at H
                      by_cases c30 : x64_25 = true
                      · subst c30
                        have H1 : (some (([] : List (S33)), 3)) = some (r1, r2) := by rw [if_pos rfl] at H; exact H
                        clear H
                        have H := H1
                        clear H1
                        simp only [Option.some.injEq, Prod.mk.injEq] at H
                        obtain ⟨rfl, rfl⟩ := H
                        go_wp2
                        go_ret2
                        exact ⟨_, by first | rfl | (simp [errW_none, errW_some] <;> rfl) | (simp [*, errW_none, errW_some] <;> rfl), by first | exact Kd.R_nil _ _ _ _ _ | exact Kd.N_nil _ _ _ _ _ | exact Kd.V_nil _ _ _ _ _ | exact Kd.Q_nil _ _ _ _ _ | exact Kd.S_nil _ _ _ _ _, by repeat (first | (with_reducible first | exact HB.out | apply below_alloc | apply pw_below_drewN | apply below_drew1 | refine below_set ?_ GE145.out) | exact HB.out)⟩
                      · replace c30 := Bool.eq_false_iff.mpr c30
                        subst c30
                        have H1 : ((api_Cell_37.f l0).bind fun t154 => (if t153 = true then (if 0 ≤ t152 then (if t152 < (t154.length : Int) then (some ((t154.set (t152 : Int).toNat (⟨t146, t147, t148, t149, t150, t151⟩ : S33)), 0)) else (none)) else (none)) else ((api_Cell_38.f t154 t152 (([(⟨t146, t147, t148, t149, t150, t151⟩ : S33)] : List (S33)))).bind fun t161 => (if 0 ≤ t152 then (if t152 < (t161.length : Int) then (some ((t161.set (t152 : Int).toNat (⟨t146, t147, t148, t149, t150, t151⟩ : S33)), 0)) else (none)) else (none))))) = some (r1, r2) := by rw [if_neg (show ¬ (false = true) by decide)] at H; exact H
                        clear H
                        have H := H1
                        clear H1
                        replace H := Option.bind_eq_some_iff.mp H
                        obtain ⟨t154, A310, H⟩ := H
                        replace H : (if t153 = true then (if 0 ≤ t152 then (if t152 < (t154.length : Int) then (some ((t154.set (t152 : Int).toNat (⟨t146, t147, t148, t149, t150, t151⟩ : S33)), 0)) else (none)) else (none)) else ((api_Cell_38.f t154 t152 (([(⟨t146, t147, t148, t149, t150, t151⟩ : S33)] : List (S33)))).bind fun t161 => (if 0 ≤ t152 then (if t152 < (t161.length : Int) then (some ((t161.set (t152 : Int).toNat (⟨t146, t147, t148, t149, t150, t151⟩ : S33)), 0)) else (none)) else (none)))) = some (r1, r2) := H
                        have A31 := Aside0.mk A310
                        clear A310
                        by_cases c32 : t153 = true
                        · subst c32
                          have H1 : (if 0 ≤ t152 then (if t152 < (t154.length : Int) then (some ((t154.set (t152 : Int).toNat (⟨t146, t147, t148, t149, t150, t151⟩ : S33)), 0)) else (none)) else (none)) = some (r1, r2) := by rw [if_pos rfl] at H; exact H
                          clear H
                          have H := H1
                          clear H1
                          by_cases c33 : 0 ≤ t152
                          · rw [if_pos c33] at H
                            have c33b0 : decide (0 ≤ t152) = true := decide_eq_true c33
                            clear c33
                            by_cases c34 : t152 < (t154.length : Int)
                            · rw [if_pos c34] at H
                              have c34b0 : decide (t152 < (t154.length : Int)) = true := decide_eq_true c34
                              clear c34
                              obtain ⟨y157, hy157⟩ : ∃ y_ : List (S33), y_ = (t154.set (t152 : Int).toNat (⟨t146, t147, t148, t149, t150, t151⟩ : S33)) := ⟨_, rfl⟩
                              replace H : (some (y157, 0)) = some (r1, r2) := by first | (rw [hy157]; with_reducible exact H) | (have H2_ := (Option.bind_some _ _).symm.trans H; rw [hy157]; with_reducible exact H2_) | (have H2_ := (Option.bind_some _ _).symm.trans H; with_reducible exact H2_) | with_reducible exact H | (rw [hy157]; exact H) | exact H
                              have Ny157 := Aside0.mk hy157
                              clear hy157
                              simp only [Option.some.injEq, Prod.mk.injEq] at H
                              obtain ⟨rfl, rfl⟩ := H
                              go_wp2_with (first | ((with_reducible refine gate_callee (f := 37) rfl ?_); refine goesL_ (some 66) rfl rfl Try.func37 (by kernel_rfl) rfl #[.slice A0 l0.length c0] rfl (by (try simp only [List.map_toArray, List.map_cons, List.map_nil]); first | done | rfl | (simp only [List.length_drop, List.length_take]; rfl)) ?_; (with_reducible refine (api_Cell_37.calls _ _ l0 t154 _ ?side1 ?side2 A31.out).mono ?_); (case side1 => repeat (first | exact (Kd.C_below HR0.out HB.out) | (with_reducible refine Kd.C_alloc ?_ _) | (with_reducible refine Kd.C_drewN ?_ _) | (with_reducible refine Kd.C_drew ?_))); (case side2 => exact HC0.out); rintro e w36 ⟨v155, rfl, ho0, hb⟩; refine ⟨_, rfl, ?_⟩; have n0_ := Aside0.mk (Kd.R_lower (Kd.R_newB ho0 (g := gb145) (o := .cells #[.int .i64 t146, .int .i64 t147, .int .i64 t148, .int .i64 t149, .int .i64 t150, .int .i64 t151] 33 (0, 0)) (by (with_reducible repeat (first | refine blk_drewN ?_ _ | refine blk_drew ?_ | refine blk_alloc ?_ _)); exact BK145.out)) (below_size (by repeat (first | (with_reducible first | exact HB.out | apply below_alloc | apply pw_below_drewN | apply below_drew1 | refine below_set ?_ GE145.out) | exact HB.out)))); have n1_ := Aside0.mk (blk_below (g := gb145) (o := .cells #[.int .i64 t146, .int .i64 t147, .int .i64 t148, .int .i64 t149, .int .i64 t150, .int .i64 t151] 33 (0, 0)) (by (with_reducible repeat (first | refine blk_drewN ?_ _ | refine blk_drew ?_ | refine blk_alloc ?_ _)); exact BK145.out) hb); have n2_ := Aside0.mk (below_step (by repeat (first | (with_reducible first | exact HB.out | apply below_alloc | apply pw_below_drewN | apply below_drew1 | refine below_set ?_ GE145.out) | exact HB.out)) hb); clear BK145; clear HB; have HO156 := n0_; have BK145 := n1_; have HB := n2_; clear n0_ n1_ n2_; (try clear hb); (try clear hb2); (try clear hk); (try clear hi); (try clear ho0); have hcz37_0 : w36.cell? ⟨gb145, 0, none⟩ = some (.int .i64 t146) := (blk_cell BK145.out 0).trans rfl; have hcz37_1 : w36.cell? ⟨gb145, 1, none⟩ = some (.int .i64 t147) := (blk_cell BK145.out 1).trans rfl; have hcz37_2 : w36.cell? ⟨gb145, 2, none⟩ = some (.int .i64 t148) := (blk_cell BK145.out 2).trans rfl; have hcz37_3 : w36.cell? ⟨gb145, 3, none⟩ = some (.int .i64 t149) := (blk_cell BK145.out 3).trans rfl; have hcz37_4 : w36.cell? ⟨gb145, 4, none⟩ = some (.int .i64 t150) := (blk_cell BK145.out 4).trans rfl; have hcz37_5 : w36.cell? ⟨gb145, 5, none⟩ = some (.int .i64 t151) := (blk_cell BK145.out 5).trans rfl; have hfz37_0 := blk_frozen BK145.out 0; have hfz37_1 := blk_frozen BK145.out 1; have hfz37_2 := blk_frozen BK145.out 2; have hfz37_3 := blk_frozen BK145.out 3; have hfz37_4 := blk_frozen BK145.out 4; have hfz37_5 := blk_frozen BK145.out 5; have p35 : 0 ≤ (t152 : Int) := of_decide_eq_true (by first | (with_reducible assumption) | assumption); have q35 : (t152 : Int) < ((t154.length : Int) : Int) := of_decide_eq_true (by first | (with_reducible assumption) | assumption); obtain ⟨go35, co35, eo35, gb35, gl35, cl35, HG35⟩ := Kd.R_form HO156.out (by omega); (first | cases eo35 | (injection eo35 with ea_ en_ ec_; (first | subst ea_ | (injection ea_ with ea_; subst ea_)); subst ec_; clear en_)); have GB35 := Aside0.mk gb35; have GG35 := Aside0.mk HG35; clear gb35 gl35 HG35; obtain ⟨ce35, hcl35, hM35, hcc35, hfr35⟩ := Kd.R_elem HO156.out z33 (t152 : Int) p35 q35; obtain rfl := k33_openM hM35; have hx35_0 : w36.cell? ⟨go35, (t152 : Int).toNat * 6, none⟩ = some (.int .i64 ((rd_T33 t154 t152).f0)) := hcc35 0 _ rfl; have hx35_1 : w36.cell? ⟨go35, (t152 : Int).toNat * 6 + 1, none⟩ = some (.int .i64 ((rd_T33 t154 t152).f1)) := hcc35 1 _ rfl; have hx35_2 : w36.cell? ⟨go35, (t152 : Int).toNat * 6 + 2, none⟩ = some (.int .i64 ((rd_T33 t154 t152).f2)) := hcc35 2 _ rfl; have hx35_3 : w36.cell? ⟨go35, (t152 : Int).toNat * 6 + 3, none⟩ = some (.int .i64 ((rd_T33 t154 t152).f3)) := hcc35 3 _ rfl; have hx35_4 : w36.cell? ⟨go35, (t152 : Int).toNat * 6 + 4, none⟩ = some (.int .i64 ((rd_T33 t154 t152).f4)) := hcc35 4 _ rfl; have hx35_5 : w36.cell? ⟨go35, (t152 : Int).toNat * 6 + 5, none⟩ = some (.int .i64 ((rd_T33 t154 t152).f5)) := hcc35 5 _ rfl; have hf35_0 : w36.frozen? ⟨go35, (t152 : Int).toNat * 6, none⟩ = false := hfr35 0; have hf35_1 : w36.frozen? ⟨go35, (t152 : Int).toNat * 6 + 1, none⟩ = false := hfr35 1; have hf35_2 : w36.frozen? ⟨go35, (t152 : Int).toNat * 6 + 2, none⟩ = false := hfr35 2; have hf35_3 : w36.frozen? ⟨go35, (t152 : Int).toNat * 6 + 3, none⟩ = false := hfr35 3; have hf35_4 : w36.frozen? ⟨go35, (t152 : Int).toNat * 6 + 4, none⟩ = false := hfr35 4; have hf35_5 : w36.frozen? ⟨go35, (t152 : Int).toNat * 6 + 5, none⟩ = false := hfr35 5; clear hcl35 hcc35 hfr35 hM35; replace p35 := eq_true p35; replace q35 := eq_true q35; have n_ := Aside0.mk (Kd.R_mono (ok' := (fun k_ => k_ ≠ gb145)) HO156.out (fun k_ hk => hk.2)); clear HO156; have HO156 := n_; clear n_; have HX38 := Aside0.mk (show Kd.R k33 33 w36 w.heap.size (fun k_ => k_ ≠ gb145) (.slice (some ⟨go35, 0, none⟩) t154.length co35) t154 from (by (with_reducible repeat (first | apply Kd.R_alloc | apply Kd.R_drewN | apply Kd.R_drew)); exact HO156.out)); obtain ⟨ce38, hcl38, hM38, hcc38, hfr38⟩ := Kd.R_elem HX38.out z33 (t152 : Int) (of_decide_eq_true (by first | (with_reducible assumption) | assumption)) (by have h_ : (t152 : Int) < ((t154.length : Int) : Int) := of_decide_eq_true (by first | (with_reducible assumption) | assumption); first | exact h_ | (have e_ := (Kd.R_reads' HO156.out).1; omega) | simpa using h_); obtain rfl := k33_openM hM38; have HP38 := Kd.R_seg HX38.out (t152 : Int) (of_decide_eq_true (by first | (with_reducible assumption) | assumption)) (by have h_ : (t152 : Int) < ((t154.length : Int) : Int) := of_decide_eq_true (by first | (with_reducible assumption) | assumption); first | exact h_ | (have e_ := (Kd.R_reads' HO156.out).1; omega) | simpa using h_) (seg := [.int .i64 t146, .int .i64 t147, .int .i64 t148, .int .i64 t149, .int .i64 t150, .int .i64 t151]) (j := 0) hcl38 hcc38 (show 6 ≤ 6 from by decide) (x' := (⟨t146, t147, t148, t149, t150, t151⟩ : S33)) (k33_mkM _ _ _ (⟨t146, t147, t148, t149, t150, t151⟩ : S33) ) (fun _ hk => hk); have hx38_0 := hcc38 0 _ rfl; (try simp only [show (k33).sz = 6 from rfl, Nat.mul_one, Nat.add_zero] at hx38_0); have hf38_0 := hfr38 0; (try simp only [show (k33).sz = 6 from rfl, Nat.mul_one, Nat.add_zero] at hf38_0); have hx38_1 := hcc38 1 _ rfl; (try simp only [show (k33).sz = 6 from rfl, Nat.mul_one, Nat.add_zero] at hx38_1); have hf38_1 := hfr38 1; (try simp only [show (k33).sz = 6 from rfl, Nat.mul_one, Nat.add_zero] at hf38_1); have hx38_2 := hcc38 2 _ rfl; (try simp only [show (k33).sz = 6 from rfl, Nat.mul_one, Nat.add_zero] at hx38_2); have hf38_2 := hfr38 2; (try simp only [show (k33).sz = 6 from rfl, Nat.mul_one, Nat.add_zero] at hf38_2); have hx38_3 := hcc38 3 _ rfl; (try simp only [show (k33).sz = 6 from rfl, Nat.mul_one, Nat.add_zero] at hx38_3); have hf38_3 := hfr38 3; (try simp only [show (k33).sz = 6 from rfl, Nat.mul_one, Nat.add_zero] at hf38_3); have hx38_4 := hcc38 4 _ rfl; (try simp only [show (k33).sz = 6 from rfl, Nat.mul_one, Nat.add_zero] at hx38_4); have hf38_4 := hfr38 4; (try simp only [show (k33).sz = 6 from rfl, Nat.mul_one, Nat.add_zero] at hf38_4); have hx38_5 := hcc38 5 _ rfl; (try simp only [show (k33).sz = 6 from rfl, Nat.mul_one, Nat.add_zero] at hx38_5); have hf38_5 := hfr38 5; (try simp only [show (k33).sz = 6 from rfl, Nat.mul_one, Nat.add_zero] at hf38_5); clear hcl38 hcc38 hfr38 hM38) | ((with_reducible refine gate_store (t := 33) (p := 77) rfl ?_); refine store_event (t := 33) (p := 77) (v := ?vo_w39) (w1 := ((((((w36.setCell ⟨go35, (t152 : Int).toNat * 6, none⟩ (.int .i64 t146)).setCell ⟨go35, (t152 : Int).toNat * 6 + 1, none⟩ (.int .i64 t147)).setCell ⟨go35, (t152 : Int).toNat * 6 + 2, none⟩ (.int .i64 t148)).setCell ⟨go35, (t152 : Int).toNat * 6 + 3, none⟩ (.int .i64 t149)).setCell ⟨go35, (t152 : Int).toNat * 6 + 4, none⟩ (.int .i64 t150)).setCell ⟨go35, (t152 : Int).toNat * 6 + 5, none⟩ (.int .i64 t151))) ?hg ?ho ?hn ?hr ?_; (case ho => rfl); (case hg => rfl); (case hn => rfl); (case hr => first | (go_simp; done) | (go_simp; rfl)); intro w39 hw; have hg : w36.grownBy w39 (some go35) := (by rw [hw]; exact HP38.2); have hp_ : Kd.R k33 33 w39 w.heap.size (fun k_ => k_ ≠ gb145) (.slice (some ⟨go35, 0, none⟩) t154.length co35) y157 := (by rw [hw, Ny157.out]; exact HP38.1); clear HP38; have n0_ := Aside0.mk (blk_grown (g := gb145) (o := .cells #[.int .i64 t146, .int .i64 t147, .int .i64 t148, .int .i64 t149, .int .i64 t150, .int .i64 t151] 33 (0, 0)) (by (with_reducible repeat (first | refine blk_drewN ?_ _ | refine blk_drew ?_ | refine blk_alloc ?_ _)); exact BK145.out) hg (Kd.R_away HO156.out (fun _ hk => hk))); have n1_ := Aside0.mk (hp_); have n2_ := Aside0.mk ((by rw [hw]; exact below_set (below_set (below_set (below_set (below_set (below_set (HB.out) GB35.out) GB35.out) GB35.out) GB35.out) GB35.out) GB35.out : Below w.heap.size w w39)); clear BK145; clear HO156; clear HB; have BK145 := n0_; have HO156 := n1_; have HB := n2_; clear n0_ n1_ n2_; clear hg hw hp_))
                              go_ret2
                              exact ⟨_, by first | rfl | (simp [errW_none, errW_some] <;> rfl) | (simp [*, errW_none, errW_some] <;> rfl), by (with_reducible repeat (first | apply Kd.R_alloc | apply Kd.R_drewN | apply Kd.R_drew)); exact Kd.R_mono HO156.out (fun _ hk => trivial), by repeat (first | (with_reducible first | exact HB.out | apply below_alloc | apply pw_below_drewN | apply below_drew1 | refine below_set ?_ GE145.out) | exact HB.out)⟩
                            · rw [if_neg c34] at H
                              exact absurd H (by simp)
                          · rw [if_neg c33] at H
                            exact absurd H (by simp)
                        · replace c32 := Bool.eq_false_iff.mpr c32
                          subst c32
                          have H1 : ((api_Cell_38.f t154 t152 (([(⟨t146, t147, t148, t149, t150, t151⟩ : S33)] : List (S33)))).bind fun t161 => (if 0 ≤ t152 then (if t152 < (t161.length : Int) then (some ((t161.set (t152 : Int).toNat (⟨t146, t147, t148, t149, t150, t151⟩ : S33)), 0)) else (none)) else (none))) = some (r1, r2) := by rw [if_neg (show ¬ (false = true) by decide)] at H; exact H
                          clear H
                          have H := H1
                          clear H1
                          obtain ⟨y158, hy158⟩ : ∃ y_ : List (S33), y_ = (([(⟨t146, t147, t148, t149, t150, t151⟩ : S33)] : List (S33))) := ⟨_, rfl⟩
                          replace H : ((api_Cell_38.f t154 t152 y158).bind fun t161 => (if 0 ≤ t152 then (if t152 < (t161.length : Int) then (some ((t161.set (t152 : Int).toNat (⟨t146, t147, t148, t149, t150, t151⟩ : S33)), 0)) else (none)) else (none))) = some (r1, r2) := by first | (rw [hy158]; with_reducible exact H) | (have H2_ := (Option.bind_some _ _).symm.trans H; rw [hy158]; with_reducible exact H2_) | (have H2_ := (Option.bind_some _ _).symm.trans H; with_reducible exact H2_) | with_reducible exact H | (rw [hy158]; exact H) | exact H
                          have Ny158 := Aside0.mk hy158
                          clear hy158
                          replace H := Option.bind_eq_some_iff.mp H
                          obtain ⟨t161, A400, H⟩ := H
                          replace H : (if 0 ≤ t152 then (if t152 < (t161.length : Int) then (some ((t161.set (t152 : Int).toNat (⟨t146, t147, t148, t149, t150, t151⟩ : S33)), 0)) else (none)) else (none)) = some (r1, r2) := H
                          have A40 := Aside0.mk A400
                          clear A400
                          by_cases c41 : 0 ≤ t152
                          · rw [if_pos c41] at H
                            have c41b0 : decide (0 ≤ t152) = true := decide_eq_true c41
                            clear c41
                            by_cases c42 : t152 < (t161.length : Int)
                            · rw [if_pos c42] at H
                              have c42b0 : decide (t152 < (t161.length : Int)) = true := decide_eq_true c42
                              clear c42
                              obtain ⟨y164, hy164⟩ : ∃ y_ : List (S33), y_ = (t161.set (t152 : Int).toNat (⟨t146, t147, t148, t149, t150, t151⟩ : S33)) := ⟨_, rfl⟩
                              replace H : (some (y164, 0)) = some (r1, r2) := by first | (rw [hy164]; with_reducible exact H) | (have H2_ := (Option.bind_some _ _).symm.trans H; rw [hy164]; with_reducible exact H2_) | (have H2_ := (Option.bind_some _ _).symm.trans H; with_reducible exact H2_) | with_reducible exact H | (rw [hy164]; exact H) | exact H
                              have Ny164 := Aside0.mk hy164
                              clear hy164
                              simp only [Option.some.injEq, Prod.mk.injEq] at H
                              obtain ⟨rfl, rfl⟩ := H
                              go_wp2_with (first | ((with_reducible refine gate_callee (f := 37) rfl ?_); refine goesL_ (some 66) rfl rfl Try.func37 (by kernel_rfl) rfl #[.slice A0 l0.length c0] rfl (by (try simp only [List.map_toArray, List.map_cons, List.map_nil]); first | done | rfl | (simp only [List.length_drop, List.length_take]; rfl)) ?_; (with_reducible refine (api_Cell_37.calls _ _ l0 t154 _ ?side1 ?side2 A31.out).mono ?_); (case side1 => repeat (first | exact (Kd.C_below HR0.out HB.out) | (with_reducible refine Kd.C_alloc ?_ _) | (with_reducible refine Kd.C_drewN ?_ _) | (with_reducible refine Kd.C_drew ?_))); (case side2 => exact HC0.out); rintro e w44 ⟨v155, rfl, ho0, hb⟩; refine ⟨_, rfl, ?_⟩; have n0_ := Aside0.mk (Kd.R_lower (Kd.R_newB ho0 (g := gb145) (o := .cells #[.int .i64 t146, .int .i64 t147, .int .i64 t148, .int .i64 t149, .int .i64 t150, .int .i64 t151] 33 (0, 0)) (by (with_reducible repeat (first | refine blk_drewN ?_ _ | refine blk_drew ?_ | refine blk_alloc ?_ _)); exact BK145.out)) (below_size (by repeat (first | (with_reducible first | exact HB.out | apply below_alloc | apply pw_below_drewN | apply below_drew1 | refine below_set ?_ GE145.out) | exact HB.out)))); have n1_ := Aside0.mk (blk_below (g := gb145) (o := .cells #[.int .i64 t146, .int .i64 t147, .int .i64 t148, .int .i64 t149, .int .i64 t150, .int .i64 t151] 33 (0, 0)) (by (with_reducible repeat (first | refine blk_drewN ?_ _ | refine blk_drew ?_ | refine blk_alloc ?_ _)); exact BK145.out) hb); have n2_ := Aside0.mk (below_step (by repeat (first | (with_reducible first | exact HB.out | apply below_alloc | apply pw_below_drewN | apply below_drew1 | refine below_set ?_ GE145.out) | exact HB.out)) hb); clear BK145; clear HB; have HO156 := n0_; have BK145 := n1_; have HB := n2_; clear n0_ n1_ n2_; (try clear hb); (try clear hb2); (try clear hk); (try clear hi); (try clear ho0); have hcz45_0 : w44.cell? ⟨gb145, 0, none⟩ = some (.int .i64 t146) := (blk_cell BK145.out 0).trans rfl; have hcz45_1 : w44.cell? ⟨gb145, 1, none⟩ = some (.int .i64 t147) := (blk_cell BK145.out 1).trans rfl; have hcz45_2 : w44.cell? ⟨gb145, 2, none⟩ = some (.int .i64 t148) := (blk_cell BK145.out 2).trans rfl; have hcz45_3 : w44.cell? ⟨gb145, 3, none⟩ = some (.int .i64 t149) := (blk_cell BK145.out 3).trans rfl; have hcz45_4 : w44.cell? ⟨gb145, 4, none⟩ = some (.int .i64 t150) := (blk_cell BK145.out 4).trans rfl; have hcz45_5 : w44.cell? ⟨gb145, 5, none⟩ = some (.int .i64 t151) := (blk_cell BK145.out 5).trans rfl; have hfz45_0 := blk_frozen BK145.out 0; have hfz45_1 := blk_frozen BK145.out 1; have hfz45_2 := blk_frozen BK145.out 2; have hfz45_3 := blk_frozen BK145.out 3; have hfz45_4 := blk_frozen BK145.out 4; have hfz45_5 := blk_frozen BK145.out 5) | ((with_reducible refine gate_dst (N := 72) rfl ?_); (try (refine gate_guard (by rfl) ?_; dsimp only)); refine Kd.R_lit k33 _ 33 ?hg (N := 72) ?hd (xs := ([(⟨t146, t147, t148, t149, t150, t151⟩ : S33)] : List (S33))) (inner := [.int .i64 t146, .int .i64 t147, .int .i64 t148, .int .i64 t149, .int .i64 t150, .int .i64 t151]) (ok := fun _ => True) (okp := fun _ => True) ?hr ?hp (fun _ hk => hk) trivial (Below.refl _ _) (Nat.le_refl _) (by simp) ?_; (case hd => rfl); (case hg => rfl); (case hr => first | (go_simp; done) | (go_simp; rfl)); (case hp => exact (Reps.c6 (show Kd.M k33 _ _ _ (⟨t146, t147, t148, t149, t150, t151⟩ : S33) [.int .i64 t146, .int .i64 t147, .int .i64 t148, .int .i64 t149, .int .i64 t150, .int .i64 t151] from (k33_mkM _ _ _ (⟨t146, t147, t148, t149, t150, t151⟩ : S33) )) (Reps.none _ _))); intro v159 w46 ho47 hb hg_ hnew_; clear hg_ hnew_; (first | rw [← Ny158.out] at ho47 | (simp only [Int.reduceToNat] at ho47; rw [← Ny158.out] at ho47)); have n0_ := Aside0.mk (Kd.R_elder' (by (with_reducible repeat (first | apply Kd.R_alloc | apply Kd.R_drewN | apply Kd.R_drew)); exact HO156.out) (Kd.R_base ho47) hb); have n1_ := Aside0.mk (Kd.R_lower (Kd.R_newB (Kd.R_new' ho47 (Kd.R_lt (by (with_reducible repeat (first | apply Kd.R_alloc | apply Kd.R_drewN | apply Kd.R_drew)); exact HO156.out))) (g := gb145) (o := .cells #[.int .i64 t146, .int .i64 t147, .int .i64 t148, .int .i64 t149, .int .i64 t150, .int .i64 t151] 33 (0, 0)) (by (with_reducible repeat (first | refine blk_drewN ?_ _ | refine blk_drew ?_ | refine blk_alloc ?_ _)); exact BK145.out)) (below_size (by repeat (first | (with_reducible first | exact HB.out | apply below_alloc | apply pw_below_drewN | apply below_drew1 | refine below_set ?_ GE145.out) | exact HB.out)))); have n2_ := Aside0.mk (blk_below (g := gb145) (o := .cells #[.int .i64 t146, .int .i64 t147, .int .i64 t148, .int .i64 t149, .int .i64 t150, .int .i64 t151] 33 (0, 0)) (by (with_reducible repeat (first | refine blk_drewN ?_ _ | refine blk_drew ?_ | refine blk_alloc ?_ _)); exact BK145.out) hb); have n3_ := Aside0.mk (below_step (by repeat (first | (with_reducible first | exact HB.out | apply below_alloc | apply pw_below_drewN | apply below_drew1 | refine below_set ?_ GE145.out) | exact HB.out)) hb); clear HO156; clear BK145; clear HB; have HO156 := n0_; have HO160 := n1_; have BK145 := n2_; have HB := n3_; clear n0_ n1_ n2_ n3_; clear hb ho47; obtain ⟨Ao48, co48, eo48⟩ := Kd.R_slice HO156.out; subst eo48; obtain ⟨Ao49, co49, eo49⟩ := Kd.R_slice HO160.out; subst eo49) | ((with_reducible refine gate_callee (f := 38) rfl ?_); refine goesL_ (some 73) rfl rfl Try.func38 (by kernel_rfl) rfl #[.slice Ao48 t154.length co48, .int .i64 t152, .slice Ao49 y158.length co49] rfl (by (try simp only [List.map_toArray, List.map_cons, List.map_nil]); first | done | rfl | (simp only [List.length_drop, List.length_take]; rfl)) ?_; (with_reducible refine (api_Cell_38.calls (fun k_ => some k_ = (.slice Ao48 t154.length co48 : Value).ownBlock) (.slice Ao48 t154.length co48) t154 t152 _ _ y158 t161 w _ ?side1 ?side2 ?side3 ?side4 A40.out).mono ?_); (case side1 => repeat (first | (with_reducible first | exact HB.out | apply below_alloc | apply pw_below_drewN | apply below_drew1 | refine below_set ?_ GE145.out) | exact HB.out)); (case side2 => exact Kd.R_tight rfl HO156.out); (case side3 => exact Kd.C_kept_own (HO160.out) (fun k_ hk_ hs_ => (hk_.1.2) hs_)); (case side4 => exact (Kd.R_reads' HO160.out).2.1); rintro e w50 ⟨v162, rfl, ho0, hb, hkp⟩; refine ⟨_, rfl, ?_⟩; have n0_ := Aside0.mk (blk_kept (by (with_reducible repeat (first | refine blk_drewN ?_ _ | refine blk_drew ?_ | refine blk_alloc ?_ _)); exact BK145.out) hkp (fun hs_ => (fun e_ => (Kd.R_away HO156.out (fun _ hk => hk.1.2)) e_) hs_)); have n1_ := Aside0.mk (Kd.R_mono (ok' := fun k_ => k_ ≠ gb145 ∧ some k_ ≠ (v162 : Value).ownBlock) (Kd.R_keptB (HO160.out) hkp (fun k_ hk_ hs_ => (hk_.1.2) hs_)) (fun k_ hk_ => ⟨hk_.1.2, fun e_ => Or.elim (ho0.1 k_ e_.symm) (fun hs_ => hk_.2.1 hs_) (fun hn_ => Nat.not_le.2 hk_.2.2 hn_)⟩)); have n2_ := Aside0.mk (Kd.R_mono (ok' := fun k_ => some k_ ≠ (.slice Ao49 y158.length co49 : Value).ownBlock ∧ k_ ≠ gb145) ho0 (fun k_ hk_ => ⟨Or.elim hk_ (fun hs_ => fun e_ => (((HO160.out).1 k_ e_.symm).1.2) hs_) (fun hn_ => (Kd.fresh' (Kd.R_lt (by (with_reducible repeat (first | apply Kd.R_alloc | apply Kd.R_drewN | apply Kd.R_drew)); exact HO160.out)) k_ hn_)), Or.elim hk_ (fun hs_ => fun e_ => (Kd.R_away HO156.out (fun _ hk => hk.1.2)) (by rw [← e_]; exact hs_)) (fun hn_ => (Kd.freshB (g := gb145) (o := .cells #[.int .i64 t146, .int .i64 t147, .int .i64 t148, .int .i64 t149, .int .i64 t150, .int .i64 t151] 33 (0, 0)) (by (with_reducible repeat (first | refine blk_drewN ?_ _ | refine blk_drew ?_ | refine blk_alloc ?_ _)); exact BK145.out) k_ hn_))⟩)); have n3_ := Aside0.mk (hb); clear BK145; clear HO160; clear HB; clear HO156; have BK145 := n0_; have HO160 := n1_; have HO163 := n2_; have HB := n3_; clear n0_ n1_ n2_ n3_; (try clear hb); (try clear hkp); (try clear ho0); have hcz51_0 : w50.cell? ⟨gb145, 0, none⟩ = some (.int .i64 t146) := (blk_cell BK145.out 0).trans rfl; have hcz51_1 : w50.cell? ⟨gb145, 1, none⟩ = some (.int .i64 t147) := (blk_cell BK145.out 1).trans rfl; have hcz51_2 : w50.cell? ⟨gb145, 2, none⟩ = some (.int .i64 t148) := (blk_cell BK145.out 2).trans rfl; have hcz51_3 : w50.cell? ⟨gb145, 3, none⟩ = some (.int .i64 t149) := (blk_cell BK145.out 3).trans rfl; have hcz51_4 : w50.cell? ⟨gb145, 4, none⟩ = some (.int .i64 t150) := (blk_cell BK145.out 4).trans rfl; have hcz51_5 : w50.cell? ⟨gb145, 5, none⟩ = some (.int .i64 t151) := (blk_cell BK145.out 5).trans rfl; have hfz51_0 := blk_frozen BK145.out 0; have hfz51_1 := blk_frozen BK145.out 1; have hfz51_2 := blk_frozen BK145.out 2; have hfz51_3 := blk_frozen BK145.out 3; have hfz51_4 := blk_frozen BK145.out 4; have hfz51_5 := blk_frozen BK145.out 5; have p43 : 0 ≤ (t152 : Int) := of_decide_eq_true (by first | (with_reducible assumption) | assumption); have q43 : (t152 : Int) < ((t161.length : Int) : Int) := of_decide_eq_true (by first | (with_reducible assumption) | assumption); obtain ⟨go43, co43, eo43, gb43, gl43, cl43, HG43⟩ := Kd.R_form HO163.out (by omega); (first | cases eo43 | (injection eo43 with ea_ en_ ec_; (first | subst ea_ | (injection ea_ with ea_; subst ea_)); subst ec_; clear en_)); have GB43 := Aside0.mk gb43; have GG43 := Aside0.mk HG43; clear gb43 gl43 HG43; obtain ⟨ce43, hcl43, hM43, hcc43, hfr43⟩ := Kd.R_elem HO163.out z33 (t152 : Int) p43 q43; obtain rfl := k33_openM hM43; have hx43_0 : w50.cell? ⟨go43, (t152 : Int).toNat * 6, none⟩ = some (.int .i64 ((rd_T33 t161 t152).f0)) := hcc43 0 _ rfl; have hx43_1 : w50.cell? ⟨go43, (t152 : Int).toNat * 6 + 1, none⟩ = some (.int .i64 ((rd_T33 t161 t152).f1)) := hcc43 1 _ rfl; have hx43_2 : w50.cell? ⟨go43, (t152 : Int).toNat * 6 + 2, none⟩ = some (.int .i64 ((rd_T33 t161 t152).f2)) := hcc43 2 _ rfl; have hx43_3 : w50.cell? ⟨go43, (t152 : Int).toNat * 6 + 3, none⟩ = some (.int .i64 ((rd_T33 t161 t152).f3)) := hcc43 3 _ rfl; have hx43_4 : w50.cell? ⟨go43, (t152 : Int).toNat * 6 + 4, none⟩ = some (.int .i64 ((rd_T33 t161 t152).f4)) := hcc43 4 _ rfl; have hx43_5 : w50.cell? ⟨go43, (t152 : Int).toNat * 6 + 5, none⟩ = some (.int .i64 ((rd_T33 t161 t152).f5)) := hcc43 5 _ rfl; have hf43_0 : w50.frozen? ⟨go43, (t152 : Int).toNat * 6, none⟩ = false := hfr43 0; have hf43_1 : w50.frozen? ⟨go43, (t152 : Int).toNat * 6 + 1, none⟩ = false := hfr43 1; have hf43_2 : w50.frozen? ⟨go43, (t152 : Int).toNat * 6 + 2, none⟩ = false := hfr43 2; have hf43_3 : w50.frozen? ⟨go43, (t152 : Int).toNat * 6 + 3, none⟩ = false := hfr43 3; have hf43_4 : w50.frozen? ⟨go43, (t152 : Int).toNat * 6 + 4, none⟩ = false := hfr43 4; have hf43_5 : w50.frozen? ⟨go43, (t152 : Int).toNat * 6 + 5, none⟩ = false := hfr43 5; clear hcl43 hcc43 hfr43 hM43; replace p43 := eq_true p43; replace q43 := eq_true q43; have HX52 := Aside0.mk (show Kd.R k33 33 w50 w.heap.size (fun k_ => some k_ ≠ (.slice Ao49 y158.length co49 : Value).ownBlock ∧ k_ ≠ gb145) (.slice (some ⟨go43, 0, none⟩) t161.length co43) t161 from (by (with_reducible repeat (first | apply Kd.R_alloc | apply Kd.R_drewN | apply Kd.R_drew)); exact HO163.out)); obtain ⟨ce52, hcl52, hM52, hcc52, hfr52⟩ := Kd.R_elem HX52.out z33 (t152 : Int) (of_decide_eq_true (by first | (with_reducible assumption) | assumption)) (by have h_ : (t152 : Int) < ((t161.length : Int) : Int) := of_decide_eq_true (by first | (with_reducible assumption) | assumption); first | exact h_ | (have e_ := (Kd.R_reads' HO163.out).1; omega) | simpa using h_); obtain rfl := k33_openM hM52; have HP52 := Kd.R_seg HX52.out (t152 : Int) (of_decide_eq_true (by first | (with_reducible assumption) | assumption)) (by have h_ : (t152 : Int) < ((t161.length : Int) : Int) := of_decide_eq_true (by first | (with_reducible assumption) | assumption); first | exact h_ | (have e_ := (Kd.R_reads' HO163.out).1; omega) | simpa using h_) (seg := [.int .i64 t146, .int .i64 t147, .int .i64 t148, .int .i64 t149, .int .i64 t150, .int .i64 t151]) (j := 0) hcl52 hcc52 (show 6 ≤ 6 from by decide) (x' := (⟨t146, t147, t148, t149, t150, t151⟩ : S33)) (k33_mkM _ _ _ (⟨t146, t147, t148, t149, t150, t151⟩ : S33) ) (fun _ hk => hk); have hx52_0 := hcc52 0 _ rfl; (try simp only [show (k33).sz = 6 from rfl, Nat.mul_one, Nat.add_zero] at hx52_0); have hf52_0 := hfr52 0; (try simp only [show (k33).sz = 6 from rfl, Nat.mul_one, Nat.add_zero] at hf52_0); have hx52_1 := hcc52 1 _ rfl; (try simp only [show (k33).sz = 6 from rfl, Nat.mul_one, Nat.add_zero] at hx52_1); have hf52_1 := hfr52 1; (try simp only [show (k33).sz = 6 from rfl, Nat.mul_one, Nat.add_zero] at hf52_1); have hx52_2 := hcc52 2 _ rfl; (try simp only [show (k33).sz = 6 from rfl, Nat.mul_one, Nat.add_zero] at hx52_2); have hf52_2 := hfr52 2; (try simp only [show (k33).sz = 6 from rfl, Nat.mul_one, Nat.add_zero] at hf52_2); have hx52_3 := hcc52 3 _ rfl; (try simp only [show (k33).sz = 6 from rfl, Nat.mul_one, Nat.add_zero] at hx52_3); have hf52_3 := hfr52 3; (try simp only [show (k33).sz = 6 from rfl, Nat.mul_one, Nat.add_zero] at hf52_3); have hx52_4 := hcc52 4 _ rfl; (try simp only [show (k33).sz = 6 from rfl, Nat.mul_one, Nat.add_zero] at hx52_4); have hf52_4 := hfr52 4; (try simp only [show (k33).sz = 6 from rfl, Nat.mul_one, Nat.add_zero] at hf52_4); have hx52_5 := hcc52 5 _ rfl; (try simp only [show (k33).sz = 6 from rfl, Nat.mul_one, Nat.add_zero] at hx52_5); have hf52_5 := hfr52 5; (try simp only [show (k33).sz = 6 from rfl, Nat.mul_one, Nat.add_zero] at hf52_5); clear hcl52 hcc52 hfr52 hM52) | ((with_reducible refine gate_store (t := 33) (p := 77) rfl ?_); refine store_event (t := 33) (p := 77) (v := ?vo_w53) (w1 := ((((((w50.setCell ⟨go43, (t152 : Int).toNat * 6, none⟩ (.int .i64 t146)).setCell ⟨go43, (t152 : Int).toNat * 6 + 1, none⟩ (.int .i64 t147)).setCell ⟨go43, (t152 : Int).toNat * 6 + 2, none⟩ (.int .i64 t148)).setCell ⟨go43, (t152 : Int).toNat * 6 + 3, none⟩ (.int .i64 t149)).setCell ⟨go43, (t152 : Int).toNat * 6 + 4, none⟩ (.int .i64 t150)).setCell ⟨go43, (t152 : Int).toNat * 6 + 5, none⟩ (.int .i64 t151))) ?hg ?ho ?hn ?hr ?_; (case ho => rfl); (case hg => rfl); (case hn => rfl); (case hr => first | (go_simp; done) | (go_simp; rfl)); intro w53 hw; have hg : w50.grownBy w53 (some go43) := (by rw [hw]; exact HP52.2); have hp_ : Kd.R k33 33 w53 w.heap.size (fun k_ => some k_ ≠ (.slice Ao49 y158.length co49 : Value).ownBlock ∧ k_ ≠ gb145) (.slice (some ⟨go43, 0, none⟩) t161.length co43) y164 := (by rw [hw, Ny164.out]; exact HP52.1); clear HP52; have n0_ := Aside0.mk (blk_grown (g := gb145) (o := .cells #[.int .i64 t146, .int .i64 t147, .int .i64 t148, .int .i64 t149, .int .i64 t150, .int .i64 t151] 33 (0, 0)) (by (with_reducible repeat (first | refine blk_drewN ?_ _ | refine blk_drew ?_ | refine blk_alloc ?_ _)); exact BK145.out) hg (Kd.R_away HO163.out (fun _ hk => hk.2))); have n1_ := Aside0.mk (Kd.R_after (v := (.slice (some ⟨go43, 0, none⟩) t161.length co43)) (v1 := (.slice (some ⟨go43, 0, none⟩) t161.length co43)) (ok := (fun k_ => k_ ≠ gb145)) (by (with_reducible repeat (first | apply Kd.R_alloc | apply Kd.R_drewN | apply Kd.R_drew)); exact HO160.out) hg (.inl rfl)); have n2_ := Aside0.mk (hp_); have n3_ := Aside0.mk ((by rw [hw]; exact below_set (below_set (below_set (below_set (below_set (below_set (HB.out) GB43.out) GB43.out) GB43.out) GB43.out) GB43.out) GB43.out : Below w.heap.size w w53)); clear BK145; clear HO160; clear HO163; clear HB; have BK145 := n0_; have HO160 := n1_; have HO163 := n2_; have HB := n3_; clear n0_ n1_ n2_ n3_; clear hg hw hp_))
                              go_ret2
                              exact ⟨_, by first | rfl | (simp [errW_none, errW_some] <;> rfl) | (simp [*, errW_none, errW_some] <;> rfl), by (with_reducible repeat (first | apply Kd.R_alloc | apply Kd.R_drewN | apply Kd.R_drew)); exact Kd.R_mono HO163.out (fun _ hk => trivial), by repeat (first | (with_reducible first | exact HB.out | apply below_alloc | apply pw_below_drewN | apply below_drew1 | refine below_set ?_ GE145.out) | exact HB.out)⟩
                            · rw [if_neg c42] at H
                              exact absurd H (by simp)
                          · rw [if_neg c41] at H
                            exact absurd H (by simp)
  · rw [if_neg c7] at H
    have c7b0 : (t144 == 0) = false := beq_eq_false_iff_ne.mpr c7
    have c7b1 : (t144 != 0) = true := bne_iff_ne.mpr c7
    simp only [Option.some.injEq, Prod.mk.injEq] at H
    obtain ⟨rfl, rfl⟩ := H
    go_enter Try.func23, Try.ntmps23
    go_wp2_with (first | ((with_reducible refine gate_callee (f := 17) rfl ?_); refine goesL_ (some 21) rfl rfl Try.func17 (by kernel_rfl) rfl #[.slice A0 l0.length c0, .int .i64 a1, .int .i64 a2] rfl (by (try simp only [List.map_toArray, List.map_cons, List.map_nil]); first | done | rfl | (simp only [List.length_drop, List.length_take]; rfl)) ?_; (with_reducible refine (stock_Cell.calls k _ _ l0 a1 a2 t138 t139 t140 t141 t142 t143 t144 _ ?side1 ?side2 A6.out).mono ?_); (case side1 => repeat (first | exact HR0.out | (with_reducible refine Kd.C_alloc ?_ _) | (with_reducible refine Kd.C_drewN ?_ _) | (with_reducible refine Kd.C_drew ?_))); (case side2 => exact HC0.out); rintro e w54 ⟨rfl, hb⟩; refine ⟨_, rfl, ?_⟩; have n0_ := Aside0.mk (below_step (by repeat (first | (with_reducible first | exact HB.out | apply below_alloc | apply pw_below_drewN | apply below_drew1) | exact HB.out)) hb); clear HB; have HB := n0_; clear n0_; (try clear hb); (try clear hb2); (try clear hk); (try clear hi)) | ((with_reducible refine gate_dst (N := 12) rfl ?_); (try (refine gate_guard (by rfl) ?_; dsimp only)); refine box_event ?hg (N := 12) ?hd (cs := #[.int .i64 0, .int .i64 0, .int .i64 0, .int .i64 0, .int .i64 0, .int .i64 0]) (t := 33) ?hr ?_; (case hd => rfl); (case hg => rfl); (case hr => first | (go_simp; done) | (go_simp; rfl)); intro gb145 hg w55 hbox hb; have n0_ := Aside0.mk (below_step (by repeat (first | (with_reducible first | exact HB.out | apply below_alloc | apply pw_below_drewN | apply below_drew1) | exact HB.out)) hb); have n1_ := Aside0.mk (hbox); have n2_ := Aside0.mk ((by rw [hg]; exact (below_size (by repeat (first | (with_reducible first | exact HB.out | apply below_alloc | apply pw_below_drewN | apply below_drew1) | exact HB.out))) : w.heap.size ≤ gb145)); have n3_ := Aside0.mk ((by rw [hg]; exact (below_size (by repeat (first | (with_reducible first | exact HB.out | apply below_alloc | apply pw_below_drewN | apply below_drew1) | exact HB.out))) : w.heap.size ≤ gb145)); clear HB; have HB := n0_; have BK145 := n1_; have GW145 := n2_; have GE145 := n3_; clear n0_ n1_ n2_ n3_; clear hb hbox hg; have hcz56_0 : w55.cell? ⟨gb145, 0, none⟩ = some (.int .i64 0) := (blk_cell BK145.out 0).trans rfl; have hcz56_1 : w55.cell? ⟨gb145, 1, none⟩ = some (.int .i64 0) := (blk_cell BK145.out 1).trans rfl; have hcz56_2 : w55.cell? ⟨gb145, 2, none⟩ = some (.int .i64 0) := (blk_cell BK145.out 2).trans rfl; have hcz56_3 : w55.cell? ⟨gb145, 3, none⟩ = some (.int .i64 0) := (blk_cell BK145.out 3).trans rfl; have hcz56_4 : w55.cell? ⟨gb145, 4, none⟩ = some (.int .i64 0) := (blk_cell BK145.out 4).trans rfl; have hcz56_5 : w55.cell? ⟨gb145, 5, none⟩ = some (.int .i64 0) := (blk_cell BK145.out 5).trans rfl; have hfz56_0 := blk_frozen BK145.out 0; have hfz56_1 := blk_frozen BK145.out 1; have hfz56_2 := blk_frozen BK145.out 2; have hfz56_3 := blk_frozen BK145.out 3; have hfz56_4 := blk_frozen BK145.out 4; have hfz56_5 := blk_frozen BK145.out 5))
    go_ret2
    exact ⟨_, by first | rfl | (simp [errW_none, errW_some] <;> rfl) | (simp [*, errW_none, errW_some] <;> rfl), by first | exact Kd.R_nil _ _ _ _ _ | exact Kd.N_nil _ _ _ _ _ | exact Kd.V_nil _ _ _ _ _ | exact Kd.Q_nil _ _ _ _ _ | exact Kd.S_nil _ _ _ _ _, by repeat (first | (with_reducible first | exact HB.out | apply below_alloc | apply pw_below_drewN | apply below_drew1 | refine below_set ?_ GE145.out) | exact HB.out)⟩
end Go.Proofs.Ytkgbdahkncefhaa.Print
