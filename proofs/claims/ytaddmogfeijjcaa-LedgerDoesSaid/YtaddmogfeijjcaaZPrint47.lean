-- What the claim uses alone (wip/slim.py). Lean checks it.
import Derived.Test.YtaddmogfeijjcaaZAb
import Derived.Test.YtaddmogfeijjcaaZPrint0
import Derived.Test.YtaddmogfeijjcaaZPrint34
import Derived.Test.YtaddmogfeijjcaaZPrint36
import Derived.Test.YtaddmogfeijjcaaZPrint46
namespace Go.Proofs.Ytaddmogfeijjcaa.Print
open Go.RowKit Go.Proofs.YtaddmogfeijjcaaW.PrintWords Go.Proofs.YtaddmogfeijjcaaW.PrintLast Go.Proofs.YtaddmogfeijjcaaW.PrintMore
attribute [local go_sem] max2_mx min2_mn max_two min_two max_three min_three max_four min_four
set_option linter.unusedVariables false
set_option linter.unusedSimpArgs false
mutual
def ladingref14_Balance.j0 : Nat → Int → Int → Bool → List (S31) → List (S55) → Option (Int × Int)
 | 0, _, _, _, _, _ => none
 | k + 1, x1, x6, x22, x316000, x316001 => if x22 = true then (ladingref14_Balance.j1 k x1 2 x316000 x316001) else (ladingref14_Balance.j1 k x1 x6 x316000 x316001)
def ladingref14_Balance.j1 : Nat → Int → Int → List (S31) → List (S55) → Option (Int × Int)
 | 0, _, _, _, _ => none
 | k + 1, x1, x6, x316000, x316001 => if x6 = 0 then (ladingref14_Balance.l0 k x1 0 0 x316001 (x316001.length : Int) 0) else (some (0, x6))
def ladingref14_Balance.l0 : Nat → Int → Int → Int → List (S55) → Int → Int → Option (Int × Int)
 | 0, _, _, _, _, _, _ => none
 | k + 1, x1, x8, x9, x27, x28, x29 => if x29 < x28 then (if 0 ≤ x29 then (if x29 < (x27.length : Int) then (if ((rd_T55 x27 x29).f2) = x1 then (if ((rd_T55 x27 x29).f1) = x1 then (ladingref14_Balance.l0 k x1 (wrap64 (x8 + ((wrap64 (-((rd_T55 x27 x29).f3))) / 4294967296))) (wrap64 (x9 + (wrap64 ((wrap64 (-((rd_T55 x27 x29).f3))) - (wrap64 (((wrap64 (-((rd_T55 x27 x29).f3))) / 4294967296) * 4294967296)))))) x27 x28 (wrap64 (x29 + 1))) else (ladingref14_Balance.l0 k x1 (wrap64 (x8 + (((rd_T55 x27 x29).f3) / 4294967296))) (wrap64 (x9 + (wrap64 (((rd_T55 x27 x29).f3) - (wrap64 ((((rd_T55 x27 x29).f3) / 4294967296) * 4294967296)))))) x27 x28 (wrap64 (x29 + 1)))) else (if ((rd_T55 x27 x29).f1) = x1 then (ladingref14_Balance.l0 k x1 (wrap64 (x8 + ((wrap64 (-((rd_T55 x27 x29).f3))) / 4294967296))) (wrap64 (x9 + (wrap64 ((wrap64 (-((rd_T55 x27 x29).f3))) - (wrap64 (((wrap64 (-((rd_T55 x27 x29).f3))) / 4294967296) * 4294967296)))))) x27 x28 (wrap64 (x29 + 1))) else (ladingref14_Balance.l0 k x1 (wrap64 (x8 + (0 / 4294967296))) (wrap64 (x9 + (-((0 / 4294967296) * 4294967296)))) x27 x28 (wrap64 (x29 + 1))))) else (none)) else (none)) else (if (wrap64 (x8 + (x9 / 4294967296))) > 2147483647 then (some (0, 5)) else (if (wrap64 (x8 + (x9 / 4294967296))) < (-2147483648) then (some (0, 5)) else ((some (([wrap64 ((wrap64 (x8 + (x9 / 4294967296))) * 4294967296), wrap64 (x9 - (wrap64 ((x9 / 4294967296) * 4294967296)))] : List Int) : List Int)).bind fun y318 => (if ([] : List Int).length + y318.length < 17592186044416 then ((ladingref01_Sum.f k (([] : List Int) ++ y318)).bind fun bt324 => (some (bt324.1, bt324.2))) else (none)))))
end
def ladingref14_Balance.f (k : Nat) (l0_0 : List (S31)) (l0_1 : List (S55)) (a1 : Int) : Option (Int × Int) := (ladingref14_Check.f l0_0 l0_1).bind fun t316 => (if t316 = 0 then ((ladingref14_account.f a1).bind fun t317 => (ladingref14_Balance.j0 k a1 t316 (!t317) l0_0 l0_1)) else (ladingref14_Balance.j0 k a1 t316 false l0_0 l0_1))
set_option maxHeartbeats 8000000 in
set_option maxRecDepth 100000 in
theorem ladingref14_Balance.calls (k : Nat) (A0_0 : Option Addr) (c0_0 : Nat) (l0_0 : List (S31)) (A0_1 : Option Addr) (c0_1 : Nat) (l0_1 : List (S55)) (a1 : Int) (r1 : Int) (r2 : Int) (w : World) (hr0_0 : Kd.C k31 w A0_0 l0_0.length l0_0) (hc0_0 : l0_0.length ≤ c0_0) (hr0_1 : Kd.C k55 w A0_1 l0_1.length l0_1) (hc0_1 : l0_1.length ≤ c0_1) (h : ladingref14_Balance.f k l0_0 l0_1 a1 = some (r1, r2)) :
  Calls Try.prog 22 #[.agg #[.slice A0_0 l0_0.length c0_0, .slice A0_1 l0_1.length c0_1], .int .u8 a1] w fun e w' => e = .returned (.tuple #[.int .i64 r1, .int .i64 r2]) ∧ Below w.heap.size w w' := by
 have hu25 := Try.underlying25
 have hu55 := Try.underlying55
 have HR0_0 := Aside0.mk hr0_0
 have HC0_0 := Aside0.mk hc0_0
 clear hr0_0 hc0_0
 have HR0_1 := Aside0.mk hr0_1
 have HC0_1 := Aside0.mk hc0_1
 clear hr0_1 hc0_1
 have HB := Aside0.mk (Below.refl w.heap.size w)
 have H : ((ladingref14_Check.f l0_0 l0_1).bind fun t316 => (if t316 = 0 then ((ladingref14_account.f a1).bind fun t317 => (ladingref14_Balance.j0 k a1 t316 (!t317) l0_0 l0_1)) else (ladingref14_Balance.j0 k a1 t316 false l0_0 l0_1))) = some (r1, r2) := h
 clear h
 replace H := Option.bind_eq_some_iff.mp H
 obtain ⟨t316, A30, H⟩ := H
 replace H : (if t316 = 0 then ((ladingref14_account.f a1).bind fun t317 => (ladingref14_Balance.j0 k a1 t316 (!t317) l0_0 l0_1)) else (ladingref14_Balance.j0 k a1 t316 false l0_0 l0_1)) = some (r1, r2) := H
 have A3 := Aside0.mk A30
 clear A30
 have HC4 := Aside0.mk H
 clear H
 go_enter Try.func22, Try.ntmps22
 go_upto_region 2 with (first | ((with_reducible refine gate_dst (N := 2) rfl ?_); refine box_event ?hg (N := 2) ?hd (cs := #[.slice A0_0 l0_0.length c0_0, .slice A0_1 l0_1.length c0_1]) (t := 25) ?hr ?_; (case hd => rfl); (case hg => rfl); (case hr => first | (go_simp; done) | (go_simp; rfl)); intro gb315 hg w5 hbox hb; have n0_ := Aside0.mk (below_step (zh0_ HB.out) hb); have n1_ := Aside0.mk (hbox); have n2_ := Aside0.mk ((by rw [hg]; exact (below_size (zh0_ HB.out)) : w.heap.size ≤ gb315)); have n3_ := Aside0.mk ((by rw [hg]; exact (below_size (zh0_ HB.out)) : w.heap.size ≤ gb315)); clear HB; have HB := n0_; have BK315 := n1_; have GW315 := n2_; have GE315 := n3_; clear n0_ n1_ n2_ n3_; clear hb hbox hg; have hcz6_0 : w5.cell? ⟨gb315, 0, none⟩ = some (.slice A0_0 l0_0.length c0_0) := (blk_cell BK315.out 0).trans rfl; have hcz6_1 : w5.cell? ⟨gb315, 1, none⟩ = some (.slice A0_1 l0_1.length c0_1) := (blk_cell BK315.out 1).trans rfl; have hfz6_0 := blk_frozen BK315.out 0; have hfz6_1 := blk_frozen BK315.out 1) | ((with_reducible refine gate_callee (f := 24) rfl ?_); refine goesL_ (some 15) rfl rfl Try.func24 (by kernel_rfl) rfl #[.agg #[.slice A0_0 l0_0.length c0_0, .slice A0_1 l0_1.length c0_1]] rfl zl_ ?_; (with_reducible refine (ladingref14_Check.calls _ _ l0_0 _ _ l0_1 t316 _ ?side1 ?side2 ?side3 ?side4 A3.out).mono ?_); (case side1 => exact zc_ (Kd.C_below HR0_0.out HB.out)); (case side2 => exact HC0_0.out); (case side3 => exact zc_ (Kd.C_below HR0_1.out HB.out)); (case side4 => exact HC0_1.out); rintro e w7 ⟨rfl, hb⟩; refine ⟨_, rfl, ?_⟩; have n0_ := Aside0.mk (blk_below (zb_ BK315.out) hb); have n1_ := Aside0.mk (below_step (zh1_ HB.out GE315.out) hb); clear BK315; clear HB; have BK315 := n0_; have HB := n1_; clear n0_ n1_; (try clear hb); (try clear hb2); (try clear hk); (try clear hi)))
 (try simp only [Act.put, zt0, zt1, zt2])
 go_cut [22] (fun v22 wc => ∃ (kq : Nat) (x22_3 : Bool), v22 = .bool x22_3 ∧ Aside0 (ladingref14_Balance.j0 kq a1 t316 x22_3 l0_0 l0_1 = some (r1, r2)) ∧ Aside0 (kq ≤ k) ∧ Aside0 (wc.heap[gb315]? = some (.cells #[(.slice A0_0 l0_0.length c0_0), (.slice A0_1 l0_1.length c0_1)] 25 (0, 0))) ∧ Aside0 (Below w.heap.size w wc))
 case first =>
  have H := HC4.out
  clear HC4
  by_cases c8 : t316 = 0
  ·rw [if_pos c8] at H
   have c8b0 : (t316 == 0) = true := beq_iff_eq.mpr c8
   have c8b1 : (t316 != 0) = false := bne_eq_false_iff_eq.mpr c8
   clear c8
   (first | rw [c8b0] | (simp only [i64_w, i32_w]; rw [c8b0]) | skip)
   replace H := Option.bind_eq_some_iff.mp H
   obtain ⟨t317, A90, H⟩ := H
   replace H : (ladingref14_Balance.j0 k a1 t316 (!t317) l0_0 l0_1) = some (r1, r2) := H
   have A9 := Aside0.mk A90
   clear A90
   have H' := Aside0.mk H
   clear H
   go_wp2_with (first | (go_at_call 40; (with_reducible refine (ladingref14_account.calls a1 t317 _ A9.out).mono ?_); rintro e w' ⟨rfl, ⟨nd, rfl⟩⟩))
   go_meet
   case rel => exact ⟨_, (!t317), (by first | rfl | (simp; done) | (simp [*]; done) | (simp only [i64_w]; done)), H', ⟨by first | omega | exact Nat.le_refl _⟩, ⟨by (with_reducible repeat (first | refine blk_drewN ?_ _ | refine blk_drew ?_ | refine blk_alloc ?_ _)); exact BK315.out⟩, ⟨by exact zh1_ HB.out GE315.out⟩⟩
  ·rw [if_neg c8] at H
   have c8b0 : (t316 == 0) = false := beq_eq_false_iff_ne.mpr c8
   have c8b1 : (t316 != 0) = true := bne_iff_ne.mpr c8
   (first | rw [c8b0] | (simp only [i64_w, i32_w]; rw [c8b0]) | skip)
   have H' := Aside0.mk H
   clear H
   go_wp2
   go_meet
   case rel => exact ⟨_, (false), (by first | rfl | (simp; done) | (simp [*]; done) | (simp only [i64_w]; done)), H', ⟨by first | omega | exact Nat.le_refl _⟩, ⟨by (with_reducible repeat (first | refine blk_drewN ?_ _ | refine blk_drew ?_ | refine blk_alloc ?_ _)); exact BK315.out⟩, ⟨by exact zh1_ HB.out GE315.out⟩⟩
 case rest =>
  clear HC4
  try clear c2
  try clear p2
  try clear c8
  try clear c8b0
  try clear c8b1
  try clear hcz6_0
  try clear hcz6_1
  try clear hfz6_0
  try clear hfz6_1
  obtain ⟨kq, x22_3, rfl, HA, HJ3, BK315, HB⟩ := hcut
  cases kq with
  | zero => exact absurd HA.out (by simp [ladingref14_Balance.j0])
  | succ kj3 =>
   have H := HA.out
   clear HA
   simp only [ladingref14_Balance.j0] at H
   have HC10 := Aside0.mk H
   clear H
   go_upto_if 22 with (fail)
   go_cut [6] (fun v6 wc => ∃ (kq : Nat) (x6_9 : Int), v6 = .int .i64 x6_9 ∧ Aside0 (ladingref14_Balance.j1 kq a1 x6_9 l0_0 l0_1 = some (r1, r2)) ∧ Aside0 (kq ≤ kj3) ∧ Aside0 (wc.heap[gb315]? = some (.cells #[(.slice A0_0 l0_0.length c0_0), (.slice A0_1 l0_1.length c0_1)] 25 (0, 0))) ∧ Aside0 (Below w.heap.size w wc))
   case first =>
    have H := HC10.out
    clear HC10
    by_cases c11 : x22_3 = true
    ·subst c11
     have H1 : (ladingref14_Balance.j1 kj3 a1 2 l0_0 l0_1) = some (r1, r2) := by rw [if_pos rfl] at H; exact H
     clear H
     have H := H1
     clear H1
     have H' := Aside0.mk H
     clear H
     go_wp2
     go_meet
     case rel => exact ⟨_, (2), (by first | rfl | (simp; done) | (simp [*]; done) | (simp only [i64_w]; done)), H', ⟨by have := HJ3.out; first | omega | exact Nat.le_refl _⟩, ⟨by (with_reducible repeat (first | refine blk_drewN ?_ _ | refine blk_drew ?_ | refine blk_alloc ?_ _)); exact BK315.out⟩, ⟨by exact zh1_ HB.out GE315.out⟩⟩
    ·replace c11 := Bool.eq_false_iff.mpr c11
     subst c11
     have H1 : (ladingref14_Balance.j1 kj3 a1 t316 l0_0 l0_1) = some (r1, r2) := by rw [if_neg (show ¬ (false = true) by decide)] at H; exact H
     clear H
     have H := H1
     clear H1
     have H' := Aside0.mk H
     clear H
     go_wp2
     go_meet
     case rel => exact ⟨_, (t316), (by first | rfl | (simp; done) | (simp [*]; done) | (simp only [i64_w]; done)), H', ⟨by have := HJ3.out; first | omega | exact Nat.le_refl _⟩, ⟨by (with_reducible repeat (first | refine blk_drewN ?_ _ | refine blk_drew ?_ | refine blk_alloc ?_ _)); exact BK315.out⟩, ⟨by exact zh1_ HB.out GE315.out⟩⟩
   case rest =>
    clear HC10
    try clear c1
    try clear c2
    try clear p2
    try clear c8
    try clear c8b0
    try clear c8b1
    try clear c11
    try clear hcz6_0
    try clear hcz6_1
    try clear hfz6_0
    try clear hfz6_1
    try clear p2
    obtain ⟨kq, x6_9, rfl, HA, HJ9, BK315, HB⟩ := hcut
    cases kq with
    | zero => exact absurd HA.out (by simp [ladingref14_Balance.j1])
    | succ kj9 =>
     have H := HA.out
     clear HA
     simp only [ladingref14_Balance.j1] at H
     by_cases c12 : x6_9 = 0
     ·rw [if_pos c12] at H
      have c12b0 : (x6_9 == 0) = true := beq_iff_eq.mpr c12
      have c12b1 : (x6_9 != 0) = false := bne_eq_false_iff_eq.mpr c12
      clear c12
      have H' := Aside0.mk H
      clear H
      have hcz13_0 : wc.cell? ⟨gb315, 0, none⟩ = some (.slice A0_0 l0_0.length c0_0) := (blk_cell BK315.out 0).trans rfl
      have hcz13_1 : wc.cell? ⟨gb315, 1, none⟩ = some (.slice A0_1 l0_1.length c0_1) := (blk_cell BK315.out 1).trans rfl
      have hfz13_0 := blk_frozen BK315.out 0
      have hfz13_1 := blk_frozen BK315.out 1
      go_wp2
      go_loopg [8, 9, 29] kj9 (fun kq v8 v9 v29 w' => ∃ (x8_3 : Int) (x9_3 : Int) (x29_3 : Int), v8 = .int .i64 x8_3 ∧ v9 = .int .i64 x9_3 ∧ v29 = .int .i64 x29_3 ∧ Aside0 (ladingref14_Balance.l0 kq a1 x8_3 x9_3 l0_1 (l0_1.length : Int) x29_3 = some (r1, r2)) ∧ Aside0 (kq ≤ kj9) ∧ Aside0 (w'.heap[gb315]? = some (.cells #[(.slice A0_0 l0_0.length c0_0), (.slice A0_1 l0_1.length c0_1)] 25 (0, 0))) ∧ Aside0 (Below w.heap.size w w'))
      case atStart => exact ⟨(0), (0), (0), (by first | rfl | (simp; done) | (simp [*]; done) | (simp only [i64_w]; done)), (by first | rfl | (simp; done) | (simp [*]; done) | (simp only [i64_w]; done)), (by first | rfl | (simp; done) | (simp [*]; done) | (simp only [i64_w]; done)), H', ⟨Nat.le_refl _⟩, ⟨by (with_reducible repeat (first | refine blk_drewN ?_ _ | refine blk_drew ?_ | refine blk_alloc ?_ _)); exact BK315.out⟩, ⟨by exact zh1_ HB.out GE315.out⟩⟩
      case round =>
       clear H'
       try clear c1
       try clear c2
       try clear p2
       try clear c8
       try clear c8b0
       try clear c8b1
       try clear c11
       try clear c12
       try clear c12b0
       try clear c12b1
       try clear hcz13_0
       try clear hcz13_1
       try clear hcz6_0
       try clear hcz6_1
       try clear hfz13_0
       try clear hfz13_1
       try clear hfz6_0
       try clear hfz6_1
       try clear p2
       obtain ⟨x8_3, x9_3, x29_3, rfl, rfl, rfl, HA, HK3, BK315, HB⟩ := hrel
       cases gk with
       | zero => exact absurd HA.out (by simp [ladingref14_Balance.l0])
       | succ k3 =>
        have H := HA.out
        clear HA
        simp only [ladingref14_Balance.l0] at H
        by_cases c14 : x29_3 < (l0_1.length : Int)
        ·rw [if_pos c14] at H
         have c14b0 : decide (x29_3 < (l0_1.length : Int)) = true := decide_eq_true c14
         clear c14
         by_cases c15 : 0 ≤ x29_3
         ·rw [if_pos c15] at H
          have c15b0 : decide (0 ≤ x29_3) = true := decide_eq_true c15
          clear c15
          by_cases c16 : x29_3 < (l0_1.length : Int)
          ·rw [if_pos c16] at H
           have c16b0 : decide (x29_3 < (l0_1.length : Int)) = true := decide_eq_true c16
           clear c16
           by_cases c17 : ((rd_T55 l0_1 x29_3).f2) = a1
           ·rw [if_pos c17] at H
            have c17b0 : (((rd_T55 l0_1 x29_3).f2) == a1) = true := beq_iff_eq.mpr c17
            have c17b1 : (((rd_T55 l0_1 x29_3).f2) != a1) = false := bne_eq_false_iff_eq.mpr c17
            clear c17
            by_cases c18 : ((rd_T55 l0_1 x29_3).f1) = a1
            ·rw [if_pos c18] at H
             have c18b0 : (((rd_T55 l0_1 x29_3).f1) == a1) = true := beq_iff_eq.mpr c18
             have c18b1 : (((rd_T55 l0_1 x29_3).f1) != a1) = false := bne_eq_false_iff_eq.mpr c18
             clear c18
             have H' := Aside0.mk H
             clear H
             have p326 : 0 ≤ (x29_3 : Int) := of_decide_eq_true za_
             have q326 : x29_3 < (l0_1.length : Int) := of_decide_eq_true za_
             obtain ⟨ad326, e326, hx326_0, hx326_1, hx326_2, hx326_3⟩ := at_T55 HR0_1.out x29_3 p326 q326
             cases e326
             replace hx326_0 := zx_ HB.out hx326_0
             replace hx326_1 := zx_ HB.out hx326_1
             replace hx326_2 := zx_ HB.out hx326_2
             replace hx326_3 := zx_ HB.out hx326_3
             replace p326 := eq_true p326
             replace q326 := eq_true q326
             go_wp2_with (first | ((with_reducible refine gate_dst (N := 11) rfl ?_); refine box_event ?hg (N := 11) ?hd (cs := #[.int .i64 0, .int .u8 0, .int .u8 0, .int .i64 0]) (t := 55) ?hr ?_; (case hd => rfl); (case hg => rfl); (case hr => first | (go_simp; done) | (go_simp; rfl)); intro gb327 hg w19 hbox hb; have n0_ := Aside0.mk (blk_below (zb_ BK315.out) hb); have n1_ := Aside0.mk (below_step (zh1_ HB.out GE315.out) hb); have n2_ := Aside0.mk (hbox); have n3_ := Aside0.mk ((by rw [hg]; exact (below_size (zh1_ HB.out GE315.out)) : w.heap.size ≤ gb327)); have n4_ := Aside0.mk ((by rw [hg]; exact (below_size (zh1_ HB.out GE315.out)) : w.heap.size ≤ gb327)); have n5_ := Aside0.mk ((by rw [hg]; exact Nat.ne_of_lt (blk_lt (zb_ BK315.out)) : gb315 ≠ gb327)); have n6_ := Aside0.mk ((by rw [hg]; exact Nat.ne_of_gt (blk_lt (zb_ BK315.out)) : gb327 ≠ gb315)); clear BK315; clear HB; have BK315 := n0_; have HB := n1_; have BK327 := n2_; have GW327 := n3_; have GE327 := n4_; have NB315_327 := n5_; have NB327_315 := n6_; clear n0_ n1_ n2_ n3_ n4_ n5_ n6_; clear hb hbox hg; have hnb20 := NB327_315.out; have hnc20 := NB315_327.out; obtain ⟨hcz21_0, hcz21_1, hcz21_2, hcz21_3⟩ := zc4 BK327.out; obtain ⟨hfz21_0, hfz21_1, hfz21_2, hfz21_3⟩ := zz4 BK327.out))
             go_roundg k3
             case measure => have := HJ3.out; have := HJ9.out; have := HK3.out; omega
             case rel => exact ⟨(wrap64 (x8_3 + ((wrap64 (-((rd_T55 l0_1 x29_3).f3))) / 4294967296))), (wrap64 (x9_3 + (wrap64 ((wrap64 (-((rd_T55 l0_1 x29_3).f3))) - (wrap64 (((wrap64 (-((rd_T55 l0_1 x29_3).f3))) / 4294967296) * 4294967296)))))), (wrap64 (x29_3 + 1)), (by first | rfl | (simp; done) | (simp [*]; done) | (simp only [i64_w]; done)), (by first | rfl | (simp; done) | (simp [*]; done) | (simp only [i64_w]; done)), (by first | rfl | (simp; done) | (simp [*]; done) | (simp only [i64_w]; done)), H', ⟨by have := HJ3.out; have := HJ9.out; have := HK3.out; omega⟩, ⟨by (with_reducible repeat (first | refine blk_drewN ?_ _ | refine blk_drew ?_ | refine blk_alloc ?_ _)); refine blk_far ?_ NB315_327.out _; (with_reducible repeat (first | refine blk_drewN ?_ _ | refine blk_drew ?_ | refine blk_alloc ?_ _)); refine blk_far ?_ NB315_327.out _; (with_reducible repeat (first | refine blk_drewN ?_ _ | refine blk_drew ?_ | refine blk_alloc ?_ _)); refine blk_far ?_ NB315_327.out _; (with_reducible repeat (first | refine blk_drewN ?_ _ | refine blk_drew ?_ | refine blk_alloc ?_ _)); refine blk_far ?_ NB315_327.out _; (with_reducible repeat (first | refine blk_drewN ?_ _ | refine blk_drew ?_ | refine blk_alloc ?_ _)); exact BK315.out⟩, ⟨by exact zh2_ HB.out GE315.out GE327.out⟩⟩
            ·rw [if_neg c18] at H
             have c18b0 : (((rd_T55 l0_1 x29_3).f1) == a1) = false := beq_eq_false_iff_ne.mpr c18
             have c18b1 : (((rd_T55 l0_1 x29_3).f1) != a1) = true := bne_iff_ne.mpr c18
             have H' := Aside0.mk H
             clear H
             have p326 : 0 ≤ (x29_3 : Int) := of_decide_eq_true za_
             have q326 : x29_3 < (l0_1.length : Int) := of_decide_eq_true za_
             obtain ⟨ad326, e326, hx326_0, hx326_1, hx326_2, hx326_3⟩ := at_T55 HR0_1.out x29_3 p326 q326
             cases e326
             replace hx326_0 := zx_ HB.out hx326_0
             replace hx326_1 := zx_ HB.out hx326_1
             replace hx326_2 := zx_ HB.out hx326_2
             replace hx326_3 := zx_ HB.out hx326_3
             replace p326 := eq_true p326
             replace q326 := eq_true q326
             go_wp2_with (first | ((with_reducible refine gate_dst (N := 11) rfl ?_); refine box_event ?hg (N := 11) ?hd (cs := #[.int .i64 0, .int .u8 0, .int .u8 0, .int .i64 0]) (t := 55) ?hr ?_; (case hd => rfl); (case hg => rfl); (case hr => first | (go_simp; done) | (go_simp; rfl)); intro gb327 hg w22 hbox hb; have n0_ := Aside0.mk (blk_below (zb_ BK315.out) hb); have n1_ := Aside0.mk (below_step (zh1_ HB.out GE315.out) hb); have n2_ := Aside0.mk (hbox); have n3_ := Aside0.mk ((by rw [hg]; exact (below_size (zh1_ HB.out GE315.out)) : w.heap.size ≤ gb327)); have n4_ := Aside0.mk ((by rw [hg]; exact (below_size (zh1_ HB.out GE315.out)) : w.heap.size ≤ gb327)); have n5_ := Aside0.mk ((by rw [hg]; exact Nat.ne_of_lt (blk_lt (zb_ BK315.out)) : gb315 ≠ gb327)); have n6_ := Aside0.mk ((by rw [hg]; exact Nat.ne_of_gt (blk_lt (zb_ BK315.out)) : gb327 ≠ gb315)); clear BK315; clear HB; have BK315 := n0_; have HB := n1_; have BK327 := n2_; have GW327 := n3_; have GE327 := n4_; have NB315_327 := n5_; have NB327_315 := n6_; clear n0_ n1_ n2_ n3_ n4_ n5_ n6_; clear hb hbox hg; have hnb23 := NB327_315.out; have hnc23 := NB315_327.out; obtain ⟨hcz24_0, hcz24_1, hcz24_2, hcz24_3⟩ := zc4 BK327.out; obtain ⟨hfz24_0, hfz24_1, hfz24_2, hfz24_3⟩ := zz4 BK327.out))
             go_roundg k3
             case measure => have := HJ3.out; have := HJ9.out; have := HK3.out; omega
             case rel => exact ⟨(wrap64 (x8_3 + (((rd_T55 l0_1 x29_3).f3) / 4294967296))), (wrap64 (x9_3 + (wrap64 (((rd_T55 l0_1 x29_3).f3) - (wrap64 ((((rd_T55 l0_1 x29_3).f3) / 4294967296) * 4294967296)))))), (wrap64 (x29_3 + 1)), (by first | rfl | (simp; done) | (simp [*]; done) | (simp only [i64_w]; done)), (by first | rfl | (simp; done) | (simp [*]; done) | (simp only [i64_w]; done)), (by first | rfl | (simp; done) | (simp [*]; done) | (simp only [i64_w]; done)), H', ⟨by have := HJ3.out; have := HJ9.out; have := HK3.out; omega⟩, ⟨by (with_reducible repeat (first | refine blk_drewN ?_ _ | refine blk_drew ?_ | refine blk_alloc ?_ _)); refine blk_far ?_ NB315_327.out _; (with_reducible repeat (first | refine blk_drewN ?_ _ | refine blk_drew ?_ | refine blk_alloc ?_ _)); refine blk_far ?_ NB315_327.out _; (with_reducible repeat (first | refine blk_drewN ?_ _ | refine blk_drew ?_ | refine blk_alloc ?_ _)); refine blk_far ?_ NB315_327.out _; (with_reducible repeat (first | refine blk_drewN ?_ _ | refine blk_drew ?_ | refine blk_alloc ?_ _)); refine blk_far ?_ NB315_327.out _; (with_reducible repeat (first | refine blk_drewN ?_ _ | refine blk_drew ?_ | refine blk_alloc ?_ _)); exact BK315.out⟩, ⟨by exact zh2_ HB.out GE315.out GE327.out⟩⟩
           ·rw [if_neg c17] at H
            have c17b0 : (((rd_T55 l0_1 x29_3).f2) == a1) = false := beq_eq_false_iff_ne.mpr c17
            have c17b1 : (((rd_T55 l0_1 x29_3).f2) != a1) = true := bne_iff_ne.mpr c17
            by_cases c25 : ((rd_T55 l0_1 x29_3).f1) = a1
            ·rw [if_pos c25] at H
             have c25b0 : (((rd_T55 l0_1 x29_3).f1) == a1) = true := beq_iff_eq.mpr c25
             have c25b1 : (((rd_T55 l0_1 x29_3).f1) != a1) = false := bne_eq_false_iff_eq.mpr c25
             clear c25
             have H' := Aside0.mk H
             clear H
             have p326 : 0 ≤ (x29_3 : Int) := of_decide_eq_true za_
             have q326 : x29_3 < (l0_1.length : Int) := of_decide_eq_true za_
             obtain ⟨ad326, e326, hx326_0, hx326_1, hx326_2, hx326_3⟩ := at_T55 HR0_1.out x29_3 p326 q326
             cases e326
             replace hx326_0 := zx_ HB.out hx326_0
             replace hx326_1 := zx_ HB.out hx326_1
             replace hx326_2 := zx_ HB.out hx326_2
             replace hx326_3 := zx_ HB.out hx326_3
             replace p326 := eq_true p326
             replace q326 := eq_true q326
             go_wp2_with (first | ((with_reducible refine gate_dst (N := 11) rfl ?_); refine box_event ?hg (N := 11) ?hd (cs := #[.int .i64 0, .int .u8 0, .int .u8 0, .int .i64 0]) (t := 55) ?hr ?_; (case hd => rfl); (case hg => rfl); (case hr => first | (go_simp; done) | (go_simp; rfl)); intro gb327 hg w26 hbox hb; have n0_ := Aside0.mk (blk_below (zb_ BK315.out) hb); have n1_ := Aside0.mk (below_step (zh1_ HB.out GE315.out) hb); have n2_ := Aside0.mk (hbox); have n3_ := Aside0.mk ((by rw [hg]; exact (below_size (zh1_ HB.out GE315.out)) : w.heap.size ≤ gb327)); have n4_ := Aside0.mk ((by rw [hg]; exact (below_size (zh1_ HB.out GE315.out)) : w.heap.size ≤ gb327)); have n5_ := Aside0.mk ((by rw [hg]; exact Nat.ne_of_lt (blk_lt (zb_ BK315.out)) : gb315 ≠ gb327)); have n6_ := Aside0.mk ((by rw [hg]; exact Nat.ne_of_gt (blk_lt (zb_ BK315.out)) : gb327 ≠ gb315)); clear BK315; clear HB; have BK315 := n0_; have HB := n1_; have BK327 := n2_; have GW327 := n3_; have GE327 := n4_; have NB315_327 := n5_; have NB327_315 := n6_; clear n0_ n1_ n2_ n3_ n4_ n5_ n6_; clear hb hbox hg; have hnb27 := NB327_315.out; have hnc27 := NB315_327.out; obtain ⟨hcz28_0, hcz28_1, hcz28_2, hcz28_3⟩ := zc4 BK327.out; obtain ⟨hfz28_0, hfz28_1, hfz28_2, hfz28_3⟩ := zz4 BK327.out))
             go_roundg k3
             case measure => have := HJ3.out; have := HJ9.out; have := HK3.out; omega
             case rel => exact ⟨(wrap64 (x8_3 + ((wrap64 (-((rd_T55 l0_1 x29_3).f3))) / 4294967296))), (wrap64 (x9_3 + (wrap64 ((wrap64 (-((rd_T55 l0_1 x29_3).f3))) - (wrap64 (((wrap64 (-((rd_T55 l0_1 x29_3).f3))) / 4294967296) * 4294967296)))))), (wrap64 (x29_3 + 1)), (by first | rfl | (simp; done) | (simp [*]; done) | (simp only [i64_w]; done)), (by first | rfl | (simp; done) | (simp [*]; done) | (simp only [i64_w]; done)), (by first | rfl | (simp; done) | (simp [*]; done) | (simp only [i64_w]; done)), H', ⟨by have := HJ3.out; have := HJ9.out; have := HK3.out; omega⟩, ⟨by (with_reducible repeat (first | refine blk_drewN ?_ _ | refine blk_drew ?_ | refine blk_alloc ?_ _)); refine blk_far ?_ NB315_327.out _; (with_reducible repeat (first | refine blk_drewN ?_ _ | refine blk_drew ?_ | refine blk_alloc ?_ _)); refine blk_far ?_ NB315_327.out _; (with_reducible repeat (first | refine blk_drewN ?_ _ | refine blk_drew ?_ | refine blk_alloc ?_ _)); refine blk_far ?_ NB315_327.out _; (with_reducible repeat (first | refine blk_drewN ?_ _ | refine blk_drew ?_ | refine blk_alloc ?_ _)); refine blk_far ?_ NB315_327.out _; (with_reducible repeat (first | refine blk_drewN ?_ _ | refine blk_drew ?_ | refine blk_alloc ?_ _)); exact BK315.out⟩, ⟨by exact zh2_ HB.out GE315.out GE327.out⟩⟩
            ·rw [if_neg c25] at H
             have c25b0 : (((rd_T55 l0_1 x29_3).f1) == a1) = false := beq_eq_false_iff_ne.mpr c25
             have c25b1 : (((rd_T55 l0_1 x29_3).f1) != a1) = true := bne_iff_ne.mpr c25
             have H' := Aside0.mk H
             clear H
             have p326 : 0 ≤ (x29_3 : Int) := of_decide_eq_true za_
             have q326 : x29_3 < (l0_1.length : Int) := of_decide_eq_true za_
             obtain ⟨ad326, e326, hx326_0, hx326_1, hx326_2, hx326_3⟩ := at_T55 HR0_1.out x29_3 p326 q326
             cases e326
             replace hx326_0 := zx_ HB.out hx326_0
             replace hx326_1 := zx_ HB.out hx326_1
             replace hx326_2 := zx_ HB.out hx326_2
             replace hx326_3 := zx_ HB.out hx326_3
             replace p326 := eq_true p326
             replace q326 := eq_true q326
             go_wp2_with (first | ((with_reducible refine gate_dst (N := 11) rfl ?_); refine box_event ?hg (N := 11) ?hd (cs := #[.int .i64 0, .int .u8 0, .int .u8 0, .int .i64 0]) (t := 55) ?hr ?_; (case hd => rfl); (case hg => rfl); (case hr => first | (go_simp; done) | (go_simp; rfl)); intro gb327 hg w29 hbox hb; have n0_ := Aside0.mk (blk_below (zb_ BK315.out) hb); have n1_ := Aside0.mk (below_step (zh1_ HB.out GE315.out) hb); have n2_ := Aside0.mk (hbox); have n3_ := Aside0.mk ((by rw [hg]; exact (below_size (zh1_ HB.out GE315.out)) : w.heap.size ≤ gb327)); have n4_ := Aside0.mk ((by rw [hg]; exact (below_size (zh1_ HB.out GE315.out)) : w.heap.size ≤ gb327)); have n5_ := Aside0.mk ((by rw [hg]; exact Nat.ne_of_lt (blk_lt (zb_ BK315.out)) : gb315 ≠ gb327)); have n6_ := Aside0.mk ((by rw [hg]; exact Nat.ne_of_gt (blk_lt (zb_ BK315.out)) : gb327 ≠ gb315)); clear BK315; clear HB; have BK315 := n0_; have HB := n1_; have BK327 := n2_; have GW327 := n3_; have GE327 := n4_; have NB315_327 := n5_; have NB327_315 := n6_; clear n0_ n1_ n2_ n3_ n4_ n5_ n6_; clear hb hbox hg; have hnb30 := NB327_315.out; have hnc30 := NB315_327.out; obtain ⟨hcz31_0, hcz31_1, hcz31_2, hcz31_3⟩ := zc4 BK327.out; obtain ⟨hfz31_0, hfz31_1, hfz31_2, hfz31_3⟩ := zz4 BK327.out))
             go_roundg k3
             case measure => have := HJ3.out; have := HJ9.out; have := HK3.out; omega
             case rel => exact ⟨(wrap64 (x8_3 + (0 / 4294967296))), (wrap64 (x9_3 + (-((0 / 4294967296) * 4294967296)))), (wrap64 (x29_3 + 1)), (by first | rfl | (simp; done) | (simp [*]; done) | (simp only [i64_w]; done)), (by first | rfl | (simp; done) | (simp [*]; done) | (simp only [i64_w]; done)), (by first | rfl | (simp; done) | (simp [*]; done) | (simp only [i64_w]; done)), H', ⟨by have := HJ3.out; have := HJ9.out; have := HK3.out; omega⟩, ⟨by (with_reducible repeat (first | refine blk_drewN ?_ _ | refine blk_drew ?_ | refine blk_alloc ?_ _)); refine blk_far ?_ NB315_327.out _; (with_reducible repeat (first | refine blk_drewN ?_ _ | refine blk_drew ?_ | refine blk_alloc ?_ _)); refine blk_far ?_ NB315_327.out _; (with_reducible repeat (first | refine blk_drewN ?_ _ | refine blk_drew ?_ | refine blk_alloc ?_ _)); refine blk_far ?_ NB315_327.out _; (with_reducible repeat (first | refine blk_drewN ?_ _ | refine blk_drew ?_ | refine blk_alloc ?_ _)); refine blk_far ?_ NB315_327.out _; (with_reducible repeat (first | refine blk_drewN ?_ _ | refine blk_drew ?_ | refine blk_alloc ?_ _)); exact BK315.out⟩, ⟨by exact zh2_ HB.out GE315.out GE327.out⟩⟩
          ·rw [if_neg c16] at H
           exact absurd H (by simp)
         ·rw [if_neg c15] at H
          exact absurd H (by simp)
        ·rw [if_neg c14] at H
         have c14b0 : decide (x29_3 < (l0_1.length : Int)) = false := decide_eq_false c14
         clear c14
         by_cases c32 : (wrap64 (x8_3 + (x9_3 / 4294967296))) > 2147483647
         ·rw [if_pos c32] at H
          have c32b0 : decide (2147483647 < (wrap64 (x8_3 + (x9_3 / 4294967296)))) = true := decide_eq_true c32
          clear c32
          simp only [Option.some.injEq, Prod.mk.injEq] at H
          obtain ⟨rfl, rfl⟩ := H
          go_wp2
          go_ret2
          exact ⟨by first | rfl | (simp [errW_none, errW_some] <;> rfl) | (simp [*, errW_none, errW_some] <;> rfl), by exact zh1_ HB.out GE315.out⟩
         ·rw [if_neg c32] at H
          have c32b0 : decide (2147483647 < (wrap64 (x8_3 + (x9_3 / 4294967296)))) = false := decide_eq_false c32
          clear c32
          by_cases c33 : (wrap64 (x8_3 + (x9_3 / 4294967296))) < (-2147483648)
          ·rw [if_pos c33] at H
           have c33b0 : decide ((wrap64 (x8_3 + (x9_3 / 4294967296))) < (-2147483648)) = true := decide_eq_true c33
           clear c33
           simp only [Option.some.injEq, Prod.mk.injEq] at H
           obtain ⟨rfl, rfl⟩ := H
           go_wp2
           go_ret2
           exact ⟨by first | rfl | (simp [errW_none, errW_some] <;> rfl) | (simp [*, errW_none, errW_some] <;> rfl), by exact zh1_ HB.out GE315.out⟩
          ·rw [if_neg c33] at H
           have c33b0 : decide ((wrap64 (x8_3 + (x9_3 / 4294967296))) < (-2147483648)) = false := decide_eq_false c33
           clear c33
           obtain ⟨y318, hy318⟩ : ∃ y_ : List Int, y_ = (([wrap64 ((wrap64 (x8_3 + (x9_3 / 4294967296))) * 4294967296), wrap64 (x9_3 - (wrap64 ((x9_3 / 4294967296) * 4294967296)))] : List Int)) := ⟨_, rfl⟩
           replace H : (if ([] : List Int).length + y318.length < 17592186044416 then ((ladingref01_Sum.f k3 (([] : List Int) ++ y318)).bind fun bt324 => (some (bt324.1, bt324.2))) else (none)) = some (r1, r2) := by first | (rw [hy318]; with_reducible exact H) | (have H2_ := (Option.bind_some _ _).symm.trans H; rw [hy318]; with_reducible exact H2_) | (have H2_ := (Option.bind_some _ _).symm.trans H; with_reducible exact H2_) | with_reducible exact H | (rw [hy318]; exact H) | exact H
           have Ny318 := Aside0.mk hy318
           clear hy318
           by_cases c34 : ([] : List Int).length + y318.length < 17592186044416
           ·rw [if_pos c34] at H
            have LMc34 := Aside0.mk c34
            clear c34
            obtain ⟨y321, hy321⟩ : ∃ y_ : List Int, y_ = (([] : List Int) ++ y318) := ⟨_, rfl⟩
            replace H : ((ladingref01_Sum.f k3 y321).bind fun bt324 => (some (bt324.1, bt324.2))) = some (r1, r2) := by first | (rw [hy321]; with_reducible exact H) | (have H2_ := (Option.bind_some _ _).symm.trans H; rw [hy321]; with_reducible exact H2_) | (have H2_ := (Option.bind_some _ _).symm.trans H; with_reducible exact H2_) | with_reducible exact H | (rw [hy321]; exact H) | exact H
            have Ny321 := Aside0.mk hy321
            clear hy321
            replace H := Option.bind_eq_some_iff.mp H
            obtain ⟨⟨t324, t325⟩, A350, H⟩ := H
            replace H : (some (t324, t325)) = some (r1, r2) := H
            have A35 := Aside0.mk A350
            clear A350
            simp only [Option.some.injEq, Prod.mk.injEq] at H
            obtain ⟨rfl, rfl⟩ := H
            go_wp2_with (first | ((with_reducible refine gate_dst (N := 77) rfl ?_); refine Kd.R_lit (Kd.int .i64) _ 2 ?hg (N := 77) ?hd (xs := ([wrap64 ((wrap64 (x8_3 + (x9_3 / 4294967296))) * 4294967296), wrap64 (x9_3 - (wrap64 ((x9_3 / 4294967296) * 4294967296)))] : List Int)) (inner := [.int .i64 (wrap64 ((wrap64 (x8_3 + (x9_3 / 4294967296))) * 4294967296)), .int .i64 (wrap64 (x9_3 - (wrap64 ((x9_3 / 4294967296) * 4294967296))))]) (ok := fun _ => True) (okp := fun _ => True) ?hr ?hp (fun _ hk => hk) trivial (Below.refl _ _) (Nat.le_refl _) (by simp) ?_; (case hd => rfl); (case hg => rfl); (case hr => first | (go_simp; done) | (go_simp; rfl)); (case hp => exact (Reps.one (show Kd.M (Kd.int .i64) _ _ _ (wrap64 ((wrap64 (x8_3 + (x9_3 / 4294967296))) * 4294967296)) [.int .i64 (wrap64 ((wrap64 (x8_3 + (x9_3 / 4294967296))) * 4294967296))] from rfl) (Reps.one (show Kd.M (Kd.int .i64) _ _ _ (wrap64 (x9_3 - (wrap64 ((x9_3 / 4294967296) * 4294967296)))) [.int .i64 (wrap64 (x9_3 - (wrap64 ((x9_3 / 4294967296) * 4294967296))))] from rfl) (Reps.none _ _)))); intro v319 w36 ho37 hb hg_ hnew_; clear hg_ hnew_; (first | rw [← Ny318.out] at ho37 | (simp only [Int.reduceToNat] at ho37; rw [← Ny318.out] at ho37)); have n0_ := Aside0.mk (Kd.R_lower ho37 (below_size (zh1_ HB.out GE315.out))); have n1_ := Aside0.mk (blk_below (zb_ BK315.out) hb); have n2_ := Aside0.mk (below_step (zh1_ HB.out GE315.out) hb); clear BK315; clear HB; have HO320 := n0_; have BK315 := n1_; have HB := n2_; clear n0_ n1_ n2_; clear hb ho37; obtain ⟨Ao39, co39, eo39⟩ := Kd.R_slice HO320.out; subst eo39) | ((with_reducible refine gate_builtin (b := .append) (xs := #[.tmp 73, .tmp 77]) rfl ?_); at_builtin; refine Kd.R_append_rows (Kd.int .i64) (w0 := w) w.heap.size rfl (.tmp 73) (.tmp 77) 66 2 (.int .i64 0) 8 rfl Try.underlying66 info2 rfl (by decide) (by omega) (.slice none 0 0) ([] : List Int) y318 _ _ _ (fun k_ => some k_ ≠ (.slice Ao39 y318.length co39 : Value).ownBlock) (fun _ => False) rfl rfl ?aO ?aR (fun _ _ h => h) (fun _ h => h.elim) ?aF ?aB ?aS ?aL ?_; (case aR => repeat (first | exact (Kd.R_reads' HO320.out).2.2 | (with_reducible refine Kd.C_alloc ?_ _) | (with_reducible refine Kd.C_drewN ?_ _) | (with_reducible refine Kd.C_drew ?_))); (case aB => exact (zh1_ HB.out GE315.out)); (case aF => exact (fun k_ hk => Kd.fresh' (Kd.R_lt (zR_ HO320.out)) k_ hk)); (case aO => exact ((Kd.R_nil _ _ _ _ (fun k_ => some k_ ≠ (.slice Ao39 y318.length co39 : Value).ownBlock)))); (case aS => exact (below_size (zh1_ HB.out GE315.out))); (case aL => have := LMc34.out; omega); intro v322 w38 ho hb hg hat; rw [← Ny321.out] at ho; have n0_ := Aside0.mk (blk_grown (zb_ BK315.out) hg (by simp [Value.ownBlock])); have n1_ := Aside0.mk (Kd.R_after (Kd.R_apart_nil (zR_ HO320.out)) hg hat); have n2_ := Aside0.mk (hb); have n3_ := Aside0.mk (ho); clear BK315; clear HO320; clear HB; have BK315 := n0_; have HO320 := n1_; have HB := n2_; have HO323 := n3_; clear n0_ n1_ n2_ n3_; clear ho hb hg hat; obtain ⟨Ao40, co40, eo40⟩ := Kd.R_slice HO323.out; subst eo40) | ((with_reducible refine gate_callee (f := 41) rfl ?_); refine goesL_ (some 80) rfl rfl Try.func41 (by kernel_rfl) rfl #[.slice Ao40 y321.length co40] rfl zl_ ?_; (with_reducible refine (ladingref01_Sum.calls k3 _ _ y321 t324 t325 _ ?side1 ?side2 A35.out).mono ?_); (case side1 => repeat (first | exact (Kd.R_reads' HO323.out).2.2 | (with_reducible refine Kd.C_alloc ?_ _) | (with_reducible refine Kd.C_drewN ?_ _) | (with_reducible refine Kd.C_drew ?_))); (case side2 => exact (Kd.R_reads' HO323.out).2.1); rintro e w' ⟨rfl, ⟨nd, rfl⟩⟩; refine ⟨_, rfl, ?_⟩))
            go_ret2
            exact ⟨by first | rfl | (simp [errW_none, errW_some] <;> rfl) | (simp [*, errW_none, errW_some] <;> rfl), by exact zh1_ HB.out GE315.out⟩
           ·rw [if_neg c34] at H
            exact absurd H (by simp)
     ·rw [if_neg c12] at H
      have c12b0 : (x6_9 == 0) = false := beq_eq_false_iff_ne.mpr c12
      have c12b1 : (x6_9 != 0) = true := bne_iff_ne.mpr c12
      simp only [Option.some.injEq, Prod.mk.injEq] at H
      obtain ⟨rfl, rfl⟩ := H
      go_wp2
      go_ret2
      exact ⟨by first | rfl | (simp [errW_none, errW_some] <;> rfl) | (simp [*, errW_none, errW_some] <;> rfl), by exact zh1_ HB.out GE315.out⟩
end Go.Proofs.Ytaddmogfeijjcaa.Print
