-- What the claim uses alone (wip/slim.py). Lean checks it.
import Derived.Test.YtdiopojnkjkgmaaDoorZAb
import Derived.Test.YtdiopojnkjkgmaaDoorZAln
import Derived.Test.YtdiopojnkjkgmaaDoorZAlo
namespace Go.Proofs.YtdiopojnkjkgmaaDoor.Print
open Go.RowKit Go.Proofs.YtdiopojnkjkgmaaDoorW.PrintWords Go.Proofs.YtdiopojnkjkgmaaDoorW.PrintLast Go.Proofs.YtdiopojnkjkgmaaDoorW.PrintMore
attribute [local go_sem] max2_mx min2_mn max_two min_two max_three min_three max_four min_four
set_option linter.unusedVariables false
set_option linter.unusedSimpArgs false
def money_Total.l0 : Nat → List Int → List (S41) → Int → Int → Option (Int × Int)
 | 0, _, _, _, _ => none
 | k + 1, x4, x13, x14, x15 => if x15 < x14 then (if 0 ≤ x15 then (if x15 < (x13.length : Int) then (if ((rd_T41 x13 x15).f2) < 1 then (some (0, 2)) else (if ((rd_T41 x13 x15).f2) > 1048576 then (some (0, 2)) else (if ((rd_T41 x13 x15).f3) < 0 then (some (0, 2)) else (if ((rd_T41 x13 x15).f3) > 1099511627776 then (some (0, 2)) else (if x15 < (x4.length : Int) then (money_Total.l0 k (x4.set (x15 : Int).toNat (wrap64 (((rd_T41 x13 x15).f2) * ((rd_T41 x13 x15).f3)))) x13 x14 (wrap64 (x15 + 1))) else (none)))))) else (none)) else (none)) else ((money_Sum.f x4).bind fun bt134 => (some (bt134.1, bt134.2)))
def money_Total.f (k : Nat) (l0 : List (S41)) : Option (Int × Int) := if (l0.length : Int) > 16 then (some (0, 3)) else (if 0 ≤ (l0.length : Int) then (if ((l0.length : Int) : Int).toNat ≤ 35184372088832 then (money_Total.l0 k (List.replicate ((l0.length : Int) : Int).toNat 0) l0 (l0.length : Int) 0) else (none)) else (none))
set_option maxHeartbeats 8000000 in
set_option maxRecDepth 100000 in
theorem money_Total.calls (k : Nat) (A0 : Option Addr) (c0 : Nat) (l0 : List (S41)) (r1 : Int) (r2 : Int) (w : World) (hr0 : Kd.C k41 w A0 l0.length l0) (hc0 : l0.length ≤ c0) (h : money_Total.f k l0 = some (r1, r2)) :
  Calls Tryd.prog 6 #[.slice A0 l0.length c0] w fun e w' => e = .returned (.tuple #[.int .i64 r1, .int .i64 r2]) ∧ Below w.heap.size w w' := by
 have hu41 := Tryd.underlying41
 have HR0 := Aside0.mk hr0
 have HC0 := Aside0.mk hc0
 clear hr0 hc0
 have HB := Aside0.mk (Below.refl w.heap.size w)
 have H : (if (l0.length : Int) > 16 then (some (0, 3)) else (if 0 ≤ (l0.length : Int) then (if ((l0.length : Int) : Int).toNat ≤ 35184372088832 then (money_Total.l0 k (List.replicate ((l0.length : Int) : Int).toNat 0) l0 (l0.length : Int) 0) else (none)) else (none))) = some (r1, r2) := h
 clear h
 by_cases c2 : (l0.length : Int) > 16
 ·rw [if_pos c2] at H
  have c2b0 : decide (16 < (l0.length : Int)) = true := decide_eq_true c2
  have c2b1 : decide (16 < l0.length) = true := decide_eq_true (by omega)
  clear c2
  simp only [Option.some.injEq, Prod.mk.injEq] at H
  obtain ⟨rfl, rfl⟩ := H
  go_enter Tryd.func6, Tryd.ntmps6
  go_wp2
  go_ret2
  exact ⟨by first | rfl | (simp [errW_none, errW_some] <;> rfl) | (simp [*, errW_none, errW_some] <;> rfl), by exact zh0_ HB.out⟩
 ·rw [if_neg c2] at H
  have c2b0 : decide (16 < (l0.length : Int)) = false := decide_eq_false c2
  have c2b1 : decide (16 < l0.length) = false := decide_eq_false (by omega)
  clear c2
  by_cases c3 : 0 ≤ (l0.length : Int)
  ·rw [if_pos c3] at H
   have c3b0 := eq_true c3
   have c3b1 : decide (0 ≤ (l0.length : Int)) = true := decide_eq_true c3
   clear c3
   by_cases c4 : ((l0.length : Int) : Int).toNat ≤ 35184372088832
   ·rw [if_pos c4] at H
    have c4b0 := eq_true c4
    have c4b1 : decide (((l0.length : Int) : Int).toNat ≤ 35184372088832) = true := decide_eq_true c4
    clear c4
    obtain ⟨y128, hy128⟩ : ∃ y_ : List Int, y_ = (List.replicate ((l0.length : Int) : Int).toNat 0) := ⟨_, rfl⟩
    replace H : (money_Total.l0 k y128 l0 (l0.length : Int) 0) = some (r1, r2) := by first | (rw [hy128]; with_reducible exact H) | (have H2_ := (Option.bind_some _ _).symm.trans H; rw [hy128]; with_reducible exact H2_) | (have H2_ := (Option.bind_some _ _).symm.trans H; with_reducible exact H2_) | with_reducible exact H | (rw [hy128]; exact H) | exact H
    have Ny128 := Aside0.mk hy128
    clear hy128
    have H' := Aside0.mk H
    clear H
    go_enter Tryd.func6, Tryd.ntmps6
    go_wp2_with (first | ((with_reducible refine gate_dst (N := 12) rfl ?_); refine Kd.R_make (Kd.int .i64) _ 2 rfl (N := 12) rfl 56 _ _ rfl (l0.length : Int) rfl rfl Tryd.underlying56 (.int .i64 0) 8 info2 rfl (by decide) (by omega) 0 (ok := fun _ => True) (okp := fun _ => True) rfl (fun _ hk => hk) trivial (of_decide_eq_true za_) (Nat.le_trans (Nat.mul_le_mul_right _ (of_decide_eq_true za_ : (l0.length : Int).toNat ≤ 35184372088832)) (by omega)) (Below.refl _ _) (Nat.le_refl _) ?_; intro v129 w5 ho6 hb hg_ hnew_; clear hg_ hnew_; (first | rw [← Ny128.out] at ho6 | (simp only [Int.reduceToNat] at ho6; rw [← Ny128.out] at ho6)); have HO130 := Aside0.mk (Kd.R_lower ho6 (below_size (zh0_ HB.out))); replace HB := Aside0.mk (below_step (zh0_ HB.out) hb); clear hb ho6))
    go_loopg [15] k (fun kq v15 w' => ∃ (x4_1 : List Int) (x15_1 : Int), v15 = .int .i64 x15_1 ∧ Aside0 (money_Total.l0 kq x4_1 l0 (l0.length : Int) x15_1 = some (r1, r2)) ∧ Aside0 (kq ≤ k) ∧ Aside0 (Kd.R (Kd.int .i64) 2 w' w.heap.size (fun _ => True) v129 x4_1) ∧ Aside0 (Below w.heap.size w w'))
    case atStart => exact ⟨(y128), (0), (by first | rfl | (simp; done) | (simp [*]; done) | (simp only [i64_w]; done)), H', ⟨Nat.le_refl _⟩, ⟨by (with_reducible repeat (first | apply Kd.R_alloc | apply Kd.R_drewN | apply Kd.R_drew)); exact HO130.out⟩, ⟨by exact zh0_ HB.out⟩⟩
    case round =>
     clear H'
     try clear c2
     try clear c2b0
     try clear c2b1
     try clear p2
     try clear c3
     try clear c3b0
     try clear c3b1
     try clear c4
     try clear c4b0
     try clear c4b1
     try clear c6
     obtain ⟨x4_1, x15_1, rfl, HA, HK1, HO_4, HB⟩ := hrel
     cases gk with
     | zero => exact absurd HA.out (by simp [money_Total.l0])
     | succ k1 =>
      have H := HA.out
      clear HA
      simp only [money_Total.l0] at H
      by_cases c7 : x15_1 < (l0.length : Int)
      ·rw [if_pos c7] at H
       have c7b0 : decide (x15_1 < (l0.length : Int)) = true := decide_eq_true c7
       clear c7
       by_cases c8 : 0 ≤ x15_1
       ·rw [if_pos c8] at H
        have c8b0 : decide (0 ≤ x15_1) = true := decide_eq_true c8
        clear c8
        by_cases c9 : x15_1 < (l0.length : Int)
        ·rw [if_pos c9] at H
         have c9b0 : decide (x15_1 < (l0.length : Int)) = true := decide_eq_true c9
         clear c9
         by_cases c10 : ((rd_T41 l0 x15_1).f2) < 1
         ·rw [if_pos c10] at H
          have c10b0 : decide (((rd_T41 l0 x15_1).f2) < 1) = true := decide_eq_true c10
          clear c10
          simp only [Option.some.injEq, Prod.mk.injEq] at H
          obtain ⟨rfl, rfl⟩ := H
          have p131 : 0 ≤ (x15_1 : Int) := of_decide_eq_true za_
          have q131 : x15_1 < (l0.length : Int) := of_decide_eq_true za_
          obtain ⟨ad131, e131, hx131_0, hx131_1, hx131_2, hx131_3⟩ := at_T41 HR0.out x15_1 p131 q131
          cases e131
          replace hx131_0 := zx_ HB.out hx131_0
          replace hx131_1 := zx_ HB.out hx131_1
          replace hx131_2 := zx_ HB.out hx131_2
          replace hx131_3 := zx_ HB.out hx131_3
          replace p131 := eq_true p131
          replace q131 := eq_true q131
          go_wp2_with (first | ((with_reducible refine gate_dst (N := 6) rfl ?_); refine box_event ?hg (N := 6) ?hd (cs := #[.int .i64 0, .int .i64 0, .int .i64 0, .int .i64 0]) (t := 41) ?hr ?_; (case hd => rfl); (case hg => rfl); (case hr => first | (go_simp; done) | (go_simp; rfl)); intro gb132 hg w11 hbox hb; replace HO_4 := Aside0.mk (Kd.R_below (zR_ HO_4.out) hb); have BK132 := Aside0.mk (hbox); have GW132 := Aside0.mk ((by rw [hg]; exact (below_size (zh0_ HB.out)) : w.heap.size ≤ gb132)); have GE132 := Aside0.mk ((by rw [hg]; exact (below_size (zh0_ HB.out)) : w.heap.size ≤ gb132)); replace HB := Aside0.mk (below_step (zh0_ HB.out) hb); clear hb hbox hg; obtain ⟨hcz12_0, hcz12_1, hcz12_2, hcz12_3⟩ := zc4 BK132.out; obtain ⟨hfz12_0, hfz12_1, hfz12_2, hfz12_3⟩ := zz4 BK132.out))
          go_ret2
          exact ⟨by first | rfl | (simp [errW_none, errW_some] <;> rfl) | (simp [*, errW_none, errW_some] <;> rfl), by exact zh1_ HB.out GE132.out⟩
         ·rw [if_neg c10] at H
          have c10b0 : decide (((rd_T41 l0 x15_1).f2) < 1) = false := decide_eq_false c10
          clear c10
          by_cases c13 : ((rd_T41 l0 x15_1).f2) > 1048576
          ·rw [if_pos c13] at H
           have c13b0 : decide (1048576 < ((rd_T41 l0 x15_1).f2)) = true := decide_eq_true c13
           clear c13
           simp only [Option.some.injEq, Prod.mk.injEq] at H
           obtain ⟨rfl, rfl⟩ := H
           have p131 : 0 ≤ (x15_1 : Int) := of_decide_eq_true za_
           have q131 : x15_1 < (l0.length : Int) := of_decide_eq_true za_
           obtain ⟨ad131, e131, hx131_0, hx131_1, hx131_2, hx131_3⟩ := at_T41 HR0.out x15_1 p131 q131
           cases e131
           replace hx131_0 := zx_ HB.out hx131_0
           replace hx131_1 := zx_ HB.out hx131_1
           replace hx131_2 := zx_ HB.out hx131_2
           replace hx131_3 := zx_ HB.out hx131_3
           replace p131 := eq_true p131
           replace q131 := eq_true q131
           go_wp2_with (first | ((with_reducible refine gate_dst (N := 6) rfl ?_); refine box_event ?hg (N := 6) ?hd (cs := #[.int .i64 0, .int .i64 0, .int .i64 0, .int .i64 0]) (t := 41) ?hr ?_; (case hd => rfl); (case hg => rfl); (case hr => first | (go_simp; done) | (go_simp; rfl)); intro gb132 hg w14 hbox hb; replace HO_4 := Aside0.mk (Kd.R_below (zR_ HO_4.out) hb); have BK132 := Aside0.mk (hbox); have GW132 := Aside0.mk ((by rw [hg]; exact (below_size (zh0_ HB.out)) : w.heap.size ≤ gb132)); have GE132 := Aside0.mk ((by rw [hg]; exact (below_size (zh0_ HB.out)) : w.heap.size ≤ gb132)); replace HB := Aside0.mk (below_step (zh0_ HB.out) hb); clear hb hbox hg; obtain ⟨hcz15_0, hcz15_1, hcz15_2, hcz15_3⟩ := zc4 BK132.out; obtain ⟨hfz15_0, hfz15_1, hfz15_2, hfz15_3⟩ := zz4 BK132.out))
           go_ret2
           exact ⟨by first | rfl | (simp [errW_none, errW_some] <;> rfl) | (simp [*, errW_none, errW_some] <;> rfl), by exact zh1_ HB.out GE132.out⟩
          ·rw [if_neg c13] at H
           have c13b0 : decide (1048576 < ((rd_T41 l0 x15_1).f2)) = false := decide_eq_false c13
           clear c13
           by_cases c16 : ((rd_T41 l0 x15_1).f3) < 0
           ·rw [if_pos c16] at H
            have c16b0 : decide (((rd_T41 l0 x15_1).f3) < 0) = true := decide_eq_true c16
            clear c16
            simp only [Option.some.injEq, Prod.mk.injEq] at H
            obtain ⟨rfl, rfl⟩ := H
            have p131 : 0 ≤ (x15_1 : Int) := of_decide_eq_true za_
            have q131 : x15_1 < (l0.length : Int) := of_decide_eq_true za_
            obtain ⟨ad131, e131, hx131_0, hx131_1, hx131_2, hx131_3⟩ := at_T41 HR0.out x15_1 p131 q131
            cases e131
            replace hx131_0 := zx_ HB.out hx131_0
            replace hx131_1 := zx_ HB.out hx131_1
            replace hx131_2 := zx_ HB.out hx131_2
            replace hx131_3 := zx_ HB.out hx131_3
            replace p131 := eq_true p131
            replace q131 := eq_true q131
            go_wp2_with (first | ((with_reducible refine gate_dst (N := 6) rfl ?_); refine box_event ?hg (N := 6) ?hd (cs := #[.int .i64 0, .int .i64 0, .int .i64 0, .int .i64 0]) (t := 41) ?hr ?_; (case hd => rfl); (case hg => rfl); (case hr => first | (go_simp; done) | (go_simp; rfl)); intro gb132 hg w17 hbox hb; replace HO_4 := Aside0.mk (Kd.R_below (zR_ HO_4.out) hb); have BK132 := Aside0.mk (hbox); have GW132 := Aside0.mk ((by rw [hg]; exact (below_size (zh0_ HB.out)) : w.heap.size ≤ gb132)); have GE132 := Aside0.mk ((by rw [hg]; exact (below_size (zh0_ HB.out)) : w.heap.size ≤ gb132)); replace HB := Aside0.mk (below_step (zh0_ HB.out) hb); clear hb hbox hg; obtain ⟨hcz18_0, hcz18_1, hcz18_2, hcz18_3⟩ := zc4 BK132.out; obtain ⟨hfz18_0, hfz18_1, hfz18_2, hfz18_3⟩ := zz4 BK132.out))
            go_ret2
            exact ⟨by first | rfl | (simp [errW_none, errW_some] <;> rfl) | (simp [*, errW_none, errW_some] <;> rfl), by exact zh1_ HB.out GE132.out⟩
           ·rw [if_neg c16] at H
            have c16b0 : decide (((rd_T41 l0 x15_1).f3) < 0) = false := decide_eq_false c16
            clear c16
            by_cases c19 : ((rd_T41 l0 x15_1).f3) > 1099511627776
            ·rw [if_pos c19] at H
             have c19b0 : decide (1099511627776 < ((rd_T41 l0 x15_1).f3)) = true := decide_eq_true c19
             clear c19
             simp only [Option.some.injEq, Prod.mk.injEq] at H
             obtain ⟨rfl, rfl⟩ := H
             have p131 : 0 ≤ (x15_1 : Int) := of_decide_eq_true za_
             have q131 : x15_1 < (l0.length : Int) := of_decide_eq_true za_
             obtain ⟨ad131, e131, hx131_0, hx131_1, hx131_2, hx131_3⟩ := at_T41 HR0.out x15_1 p131 q131
             cases e131
             replace hx131_0 := zx_ HB.out hx131_0
             replace hx131_1 := zx_ HB.out hx131_1
             replace hx131_2 := zx_ HB.out hx131_2
             replace hx131_3 := zx_ HB.out hx131_3
             replace p131 := eq_true p131
             replace q131 := eq_true q131
             go_wp2_with (first | ((with_reducible refine gate_dst (N := 6) rfl ?_); refine box_event ?hg (N := 6) ?hd (cs := #[.int .i64 0, .int .i64 0, .int .i64 0, .int .i64 0]) (t := 41) ?hr ?_; (case hd => rfl); (case hg => rfl); (case hr => first | (go_simp; done) | (go_simp; rfl)); intro gb132 hg w20 hbox hb; replace HO_4 := Aside0.mk (Kd.R_below (zR_ HO_4.out) hb); have BK132 := Aside0.mk (hbox); have GW132 := Aside0.mk ((by rw [hg]; exact (below_size (zh0_ HB.out)) : w.heap.size ≤ gb132)); have GE132 := Aside0.mk ((by rw [hg]; exact (below_size (zh0_ HB.out)) : w.heap.size ≤ gb132)); replace HB := Aside0.mk (below_step (zh0_ HB.out) hb); clear hb hbox hg; obtain ⟨hcz21_0, hcz21_1, hcz21_2, hcz21_3⟩ := zc4 BK132.out; obtain ⟨hfz21_0, hfz21_1, hfz21_2, hfz21_3⟩ := zz4 BK132.out))
             go_ret2
             exact ⟨by first | rfl | (simp [errW_none, errW_some] <;> rfl) | (simp [*, errW_none, errW_some] <;> rfl), by exact zh1_ HB.out GE132.out⟩
            ·rw [if_neg c19] at H
             have c19b0 : decide (1099511627776 < ((rd_T41 l0 x15_1).f3)) = false := decide_eq_false c19
             clear c19
             by_cases c22 : x15_1 < (x4_1.length : Int)
             ·rw [if_pos c22] at H
              have c22b0 : decide (x15_1 < (x4_1.length : Int)) = true := decide_eq_true c22
              clear c22
              obtain ⟨y133, hy133⟩ : ∃ y_ : List Int, y_ = (x4_1.set (x15_1 : Int).toNat (wrap64 (((rd_T41 l0 x15_1).f2) * ((rd_T41 l0 x15_1).f3)))) := ⟨_, rfl⟩
              replace H : (money_Total.l0 k1 y133 l0 (l0.length : Int) (wrap64 (x15_1 + 1))) = some (r1, r2) := by first | (rw [hy133]; with_reducible exact H) | (have H2_ := (Option.bind_some _ _).symm.trans H; rw [hy133]; with_reducible exact H2_) | (have H2_ := (Option.bind_some _ _).symm.trans H; with_reducible exact H2_) | with_reducible exact H | (rw [hy133]; exact H) | exact H
              have Ny133 := Aside0.mk hy133
              clear hy133
              have H' := Aside0.mk H
              clear H
              have p131 : 0 ≤ (x15_1 : Int) := of_decide_eq_true za_
              have q131 : x15_1 < (l0.length : Int) := of_decide_eq_true za_
              obtain ⟨ad131, e131, hx131_0, hx131_1, hx131_2, hx131_3⟩ := at_T41 HR0.out x15_1 p131 q131
              cases e131
              replace hx131_0 := zx_ HB.out hx131_0
              replace hx131_1 := zx_ HB.out hx131_1
              replace hx131_2 := zx_ HB.out hx131_2
              replace hx131_3 := zx_ HB.out hx131_3
              replace p131 := eq_true p131
              replace q131 := eq_true q131
              go_wp2_with (first | ((with_reducible refine gate_dst (N := 6) rfl ?_); refine box_event ?hg (N := 6) ?hd (cs := #[.int .i64 0, .int .i64 0, .int .i64 0, .int .i64 0]) (t := 41) ?hr ?_; (case hd => rfl); (case hg => rfl); (case hr => first | (go_simp; done) | (go_simp; rfl)); intro gb132 hg w24 hbox hb; replace HO_4 := Aside0.mk (Kd.R_below (zR_ HO_4.out) hb); have BK132 := Aside0.mk (hbox); have GW132 := Aside0.mk ((by rw [hg]; exact (below_size (zh0_ HB.out)) : w.heap.size ≤ gb132)); have GE132 := Aside0.mk ((by rw [hg]; exact (below_size (zh0_ HB.out)) : w.heap.size ≤ gb132)); replace HB := Aside0.mk (below_step (zh0_ HB.out) hb); clear hb hbox hg; obtain ⟨hcz25_0, hcz25_1, hcz25_2, hcz25_3⟩ := zc4 BK132.out; obtain ⟨hfz25_0, hfz25_1, hfz25_2, hfz25_3⟩ := zz4 BK132.out) | ((with_reducible refine gate_store (t := 41) (p := 6) rfl ?_); refine store_event (t := 41) (p := 6) (v := ?vo_w26) (w1 := ((((w24.setCell ⟨gb132, 0, none⟩ (.int .i64 ((rd_T41 l0 x15_1).f0))).setCell ⟨gb132, 1, none⟩ (.int .i64 ((rd_T41 l0 x15_1).f1))).setCell ⟨gb132, 2, none⟩ (.int .i64 ((rd_T41 l0 x15_1).f2))).setCell ⟨gb132, 3, none⟩ (.int .i64 ((rd_T41 l0 x15_1).f3)))) ?hg ?ho ?hn ?hr ?_; (case ho => rfl); (case hg => rfl); (case hn => rfl); (case hr => first | (go_simp; done) | (go_simp; rfl)); intro w26 hw; have n0_ : Aside0 (Kd.R (Kd.int .i64) 2 w26 w.heap.size (fun _ => True) v129 x4_1) := ⟨(by rw [hw]; exact (by (with_reducible repeat (first | apply Kd.R_alloc | apply Kd.R_drewN | apply Kd.R_drew)); exact Kd.R_mono (Kd.R_far (p := ⟨gb132, 3, none⟩) (Kd.R_far (p := ⟨gb132, 2, none⟩) (Kd.R_far (p := ⟨gb132, 1, none⟩) (Kd.R_far (p := ⟨gb132, 0, none⟩) (Kd.R_types HO_4.out BK132.out (by decide)) (fun _ hk => hk.2) (.int .i64 ((rd_T41 l0 x15_1).f0))) (fun _ hk => hk.2) (.int .i64 ((rd_T41 l0 x15_1).f1))) (fun _ hk => hk.2) (.int .i64 ((rd_T41 l0 x15_1).f2))) (fun _ hk => hk.2) (.int .i64 ((rd_T41 l0 x15_1).f3))) (fun _ hk => trivial)))⟩; have n1_ : Aside0 (w26.heap[gb132]? = some (.cells #[.int .i64 ((rd_T41 l0 x15_1).f0), .int .i64 ((rd_T41 l0 x15_1).f1), .int .i64 ((rd_T41 l0 x15_1).f2), .int .i64 ((rd_T41 l0 x15_1).f3)] 41 (0, 0))) := ⟨(by rw [hw]; exact (zp_ BK132.out))⟩; have n2_ : Aside0 (Below w.heap.size w w26) := ⟨(by rw [hw]; exact (zh1_ HB.out GE132.out))⟩; clear hw HO_4 BK132 HB; have HO_4 := n0_; have BK132 := n1_; have HB := n2_; clear n0_ n1_ n2_; obtain ⟨hcz27_0, hcz27_1, hcz27_2, hcz27_3⟩ := zc4 BK132.out; obtain ⟨hfz27_0, hfz27_1, hfz27_2, hfz27_3⟩ := zz4 BK132.out; have p23 : 0 ≤ (x15_1 : Int) := of_decide_eq_true za_; have q23 : (x15_1 : Int) < ((x4_1.length : Int) : Int) := of_decide_eq_true za_; obtain ⟨go23, co23, eo23, gb23, gl23, cl23, HG23⟩ := Kd.R_form HO_4.out (by omega); (first | cases eo23 | (injection eo23 with ea_ en_ ec_; (first | subst ea_ | (injection ea_ with ea_; subst ea_)); subst ec_; clear en_)); have GB23 := Aside0.mk gb23; have GG23 := Aside0.mk HG23; clear gb23 gl23 HG23; obtain ⟨hx23_0, hf23_0⟩ := Kd.R_celln 0 HO_4.out (x15_1 : Int) p23 q23; replace p23 := eq_true p23; replace q23 := eq_true q23; obtain ⟨hy28_, hz28_⟩ := Kd.R_celln 0 HO_4.out (x15_1 : Int) (of_decide_eq_true za_) (of_decide_eq_true za_); have HP28 := Kd.R_putg HO_4.out (x15_1 : Int) (wrap64 (((rd_T41 l0 x15_1).f2) * ((rd_T41 l0 x15_1).f3)))) | ((with_reducible refine gate_store (t := 2) (p := 45) rfl ?_); refine store_event (t := 2) (p := 45) (v := ?vo_w29) (w1 := (w26.setCell ⟨go23, (x15_1 : Int).toNat, none⟩ (.int .i64 (wrap64 (((rd_T41 l0 x15_1).f2) * ((rd_T41 l0 x15_1).f3)))))) ?hg ?ho ?hn ?hr ?_; (case ho => rfl); (case hg => rfl); (case hn => rfl); (case hr => first | (go_simp; done) | (go_simp; rfl)); intro w29 hw; have hg : w26.grownBy w29 (some go23) := (by rw [hw]; exact HP28.2); have hp_ : Kd.R (Kd.int .i64) 2 w29 w.heap.size (fun _ => True) (.slice (some ⟨go23, 0, none⟩) x4_1.length co23) y133 := (by rw [hw, Ny133.out]; exact HP28.1); clear HP28; replace BK132 := Aside0.mk (blk_grown (zb_ BK132.out) hg (Kd.R_ne HO_4.out BK132.out (by decide))); replace HO_4 := Aside0.mk (hp_); replace HB := Aside0.mk ((by rw [hw]; exact below_set (HB.out) GB23.out : Below w.heap.size w w29)); clear hg hw hp_))
              go_roundg k1
              case measure => have := HK1.out; omega
              case rel => exact ⟨(y133), (wrap64 (x15_1 + 1)), (by first | rfl | (simp; done) | (simp [*]; done) | (simp only [i64_w]; done)), H', ⟨by have := HK1.out; omega⟩, ⟨by (with_reducible repeat (first | apply Kd.R_alloc | apply Kd.R_drewN | apply Kd.R_drew)); exact HO_4.out⟩, ⟨by exact zh1_ HB.out GE132.out⟩⟩
             ·rw [if_neg c22] at H
              cases H
        ·rw [if_neg c9] at H
         cases H
       ·rw [if_neg c8] at H
        cases H
      ·rw [if_neg c7] at H
       have c7b0 : decide (x15_1 < (l0.length : Int)) = false := decide_eq_false c7
       clear c7
       obtain ⟨⟨t134, t135⟩, A30, H⟩ := zm H
       (try dsimp only at H)
       simp only [Option.some.injEq, Prod.mk.injEq] at H
       obtain ⟨rfl, rfl⟩ := H
       obtain ⟨Ao31, co31, eo31⟩ := Kd.R_slice HO_4.out
       subst eo31
       go_wp2_with (first | ((with_reducible refine gate_callee (f := 20) rfl ?_); refine goesL_ (some 48) rfl rfl Tryd.func20 (by kernel_rfl) rfl #[.slice Ao31 x4_1.length co31] rfl zl_ ?_; (with_reducible refine (money_Sum.calls _ _ x4_1 t134 t135 _ ?side1 ?side2 A30.out).mono ?_); (case side1 => repeat (first | exact (Kd.R_reads' HO_4.out).2.2 | (with_reducible refine Kd.C_alloc ?_ _) | (with_reducible refine Kd.C_drewN ?_ _) | (with_reducible refine Kd.C_drew ?_))); (case side2 => exact (Kd.R_reads' HO_4.out).2.1); rintro e w32 ⟨rfl, hb⟩; refine ⟨_, rfl, ?_⟩; replace HO_4 := Aside0.mk (Kd.R_below (zR_ HO_4.out) hb); replace HB := Aside0.mk (below_step (zh0_ HB.out) hb); (try clear hb)))
       go_ret2
       exact ⟨by first | rfl | (simp [errW_none, errW_some] <;> rfl) | (simp [*, errW_none, errW_some] <;> rfl), by exact zh0_ HB.out⟩
   ·rw [if_neg c4] at H
    cases H
  ·rw [if_neg c3] at H
   cases H
end Go.Proofs.YtdiopojnkjkgmaaDoor.Print
namespace Go.Proofs.YtdiopojnkjkgmaaDoor.Print
open Go.RowKit Go.Proofs.YtdiopojnkjkgmaaDoorW.PrintWords Go.Proofs.YtdiopojnkjkgmaaDoorW.PrintLast Go.Proofs.YtdiopojnkjkgmaaDoorW.PrintMore
attribute [local go_sem] max2_mx min2_mn max_two min_two max_three min_three max_four min_four
set_option linter.unusedVariables false
set_option linter.unusedSimpArgs false
def api_Cell_52.l0 : Nat → List (S43) → Int → Int → Int → Int → Int → Int → Int → Int → Int → Int → Option (Int × Bool)
 | 0, _, _, _, _, _, _, _, _, _, _, _ => none
 | k + 1, x0, x2, x8, x9, x10, x137000, x137001, x137002, x137003, x137004, x137005 => if x9 < x10 then (if 0 ≤ (wrap64 ((IntKind.u64.wrap (wrap64 (x9 + x10))) / 2)) then (if (wrap64 ((IntKind.u64.wrap (wrap64 (x9 + x10))) / 2)) < (x0.length : Int) then ((call_T55.f k x2 ((rd_T43 x0 (wrap64 ((IntKind.u64.wrap (wrap64 (x9 + x10))) / 2))).f0) ((rd_T43 x0 (wrap64 ((IntKind.u64.wrap (wrap64 (x9 + x10))) / 2))).f1) ((rd_T43 x0 (wrap64 ((IntKind.u64.wrap (wrap64 (x9 + x10))) / 2))).f2) ((rd_T43 x0 (wrap64 ((IntKind.u64.wrap (wrap64 (x9 + x10))) / 2))).f3) ((rd_T43 x0 (wrap64 ((IntKind.u64.wrap (wrap64 (x9 + x10))) / 2))).f4) ((rd_T43 x0 (wrap64 ((IntKind.u64.wrap (wrap64 (x9 + x10))) / 2))).f5) x137000 x137001 x137002 x137003 x137004 x137005).bind fun t140 => (if t140 < 0 then (api_Cell_52.l0 k x0 x2 x8 (wrap64 ((wrap64 ((IntKind.u64.wrap (wrap64 (x9 + x10))) / 2)) + 1)) x10 x137000 x137001 x137002 x137003 x137004 x137005) else (api_Cell_52.l0 k x0 x2 x8 x9 (wrap64 ((IntKind.u64.wrap (wrap64 (x9 + x10))) / 2)) x137000 x137001 x137002 x137003 x137004 x137005))) else (none)) else (none)) else (if x9 < x8 then (if 0 ≤ x9 then (if x9 < (x0.length : Int) then ((call_T55.f k x2 ((rd_T43 x0 x9).f0) ((rd_T43 x0 x9).f1) ((rd_T43 x0 x9).f2) ((rd_T43 x0 x9).f3) ((rd_T43 x0 x9).f4) ((rd_T43 x0 x9).f5) x137000 x137001 x137002 x137003 x137004 x137005).bind fun t138 => (some (x9, (t138 == 0)))) else (none)) else (none)) else (some (x9, false)))
def api_Cell_52.f (k : Nat) (l0 : List (S43)) (a1_0 : Int) (a1_1 : Int) (a1_2 : Int) (a1_3 : Int) (a1_4 : Int) (a1_5 : Int) (a2 : Int) : Option (Int × Bool) := api_Cell_52.l0 k l0 a2 (l0.length : Int) 0 (l0.length : Int) a1_0 a1_1 a1_2 a1_3 a1_4 a1_5
def api_Cell_52.T5 : Bool × List (List Nat × List Nat) := (true, [([], []), ([], []), ([], []), ([1, 2], [1, 2]), ([3], [3]), ([], []), ([0, 4, 5], [0, 4, 5]), ([6], [6])])
def api_Cell_52.B5 : List Nat := [0, 0, 0, 6, 14, 0, 63, 127]
theorem api_Cell_52.tab5 : rtab .any (opsOf Tryd.f52 5) = api_Cell_52.T5 := by kernel_rfl
theorem api_Cell_52.bits5 : waitsOk api_Cell_52.T5.2 api_Cell_52.B5 = true := by kernel_rfl
def api_Cell_52.T8 : Bool × List (List Nat × List Nat) := (true, [([], []), ([], []), ([], []), ([1, 2], [1, 2]), ([3], [3]), ([4], [4]), ([4], [4]), ([4], [4]), ([6, 7, 4], [4, 6, 7]), ([8, 4], [4, 8]), ([4], [4]), ([5, 9, 10, 4, 4], [4, 5, 9, 10]), ([11, 4], [4, 11]), ([4, 12], [4, 12]), ([0, 11, 0], [0]), ([13, 14, 0, 1, 2, 3, 4, 5, 6, 7, 8, 9, 10, 11, 12, 13, 14], [13])])
def api_Cell_52.B8 : List Nat := [0, 0, 0, 6, 14, 30, 30, 30, 222, 478, 30, 2046, 4094, 8190, 4095, 32767]
theorem api_Cell_52.tab8 : rtab .any (opsOf Tryd.f52 8) = api_Cell_52.T8 := by kernel_rfl
theorem api_Cell_52.bits8 : waitsOk api_Cell_52.T8.2 api_Cell_52.B8 = true := by kernel_rfl
set_option maxHeartbeats 8000000 in
set_option maxRecDepth 100000 in
theorem api_Cell_52.calls (k : Nat) (A0 : Option Addr) (c0 : Nat) (l0 : List (S43)) (a1_0 : Int) (a1_1 : Int) (a1_2 : Int) (a1_3 : Int) (a1_4 : Int) (a1_5 : Int) (a2 : Int) (r1 : Int) (r2 : Bool) (w : World) (hr0 : Kd.C k43 w A0 l0.length l0) (hc0 : l0.length ≤ c0) (h : api_Cell_52.f k l0 a1_0 a1_1 a1_2 a1_3 a1_4 a1_5 a2 = some (r1, r2)) :
  Calls Tryd.prog 52 #[.slice A0 l0.length c0, .agg #[.int .i64 a1_0, .int .i64 a1_1, .int .i64 a1_2, .int .i64 a1_3, .int .i64 a1_4, .int .i64 a1_5], encFn a2] w fun e w' => e = .returned (.tuple #[.int .i64 r1, .bool r2]) ∧ Below w.heap.size w w' := by
 have hu43 := Tryd.underlying43
 have HR0 := Aside0.mk hr0
 have HC0 := Aside0.mk hc0
 clear hr0 hc0
 have HB := Aside0.mk (Below.refl w.heap.size w)
 have H : (api_Cell_52.l0 k l0 a2 (l0.length : Int) 0 (l0.length : Int) a1_0 a1_1 a1_2 a1_3 a1_4 a1_5) = some (r1, r2) := h
 clear h
 have H' := Aside0.mk H
 clear H
 go_enter Tryd.func52, Tryd.ntmps52
 go_wp2_with (first | ((with_reducible refine gate_dst (N := 4) rfl ?_); refine box_event ?hg (N := 4) ?hd (cs := #[.int .i64 a1_0, .int .i64 a1_1, .int .i64 a1_2, .int .i64 a1_3, .int .i64 a1_4, .int .i64 a1_5]) (t := 43) ?hr ?_; (case hd => rfl); (case hg => rfl); (case hr => first | (go_simp; done) | (go_simp; rfl)); intro gb136 hg w4 hbox hb; have BK136 := Aside0.mk (hbox); have GW136 := Aside0.mk ((by rw [hg]; exact (below_size (zh0_ HB.out)) : w.heap.size ≤ gb136)); have GE136 := Aside0.mk ((by rw [hg]; exact (below_size (zh0_ HB.out)) : w.heap.size ≤ gb136)); replace HB := Aside0.mk (below_step (zh0_ HB.out) hb); clear hb hbox hg))
 go_loopg [9, 10] k (fun kq v9 v10 w' => ∃ (x9_1 : Int) (x10_1 : Int), v9 = .int .i64 x9_1 ∧ v10 = .int .i64 x10_1 ∧ Aside0 (api_Cell_52.l0 kq l0 a2 (l0.length : Int) x9_1 x10_1 a1_0 a1_1 a1_2 a1_3 a1_4 a1_5 = some (r1, r2)) ∧ Aside0 (kq ≤ k) ∧ Aside0 (w'.heap[gb136]? = some (.cells #[.int .i64 a1_0, .int .i64 a1_1, .int .i64 a1_2, .int .i64 a1_3, .int .i64 a1_4, .int .i64 a1_5] 43 (0, 0))) ∧ Aside0 (Below w.heap.size w w'))
 case atStart => exact ⟨(0), ((l0.length : Int)), (by first | rfl | (simp; done) | (simp [*]; done) | (simp only [i64_w]; done)), (by first | rfl | (simp; done) | (simp [*]; done) | (simp only [i64_w]; done)), H', ⟨Nat.le_refl _⟩, ⟨by (with_reducible repeat (first | refine blk_drewN ?_ _ | refine blk_drew ?_ | refine blk_alloc ?_ _)); exact BK136.out⟩, ⟨by exact zh1_ HB.out GE136.out⟩⟩
 case round =>
  clear H'
  try clear p2
  (try clear BK136)
  obtain ⟨x9_1, x10_1, rfl, rfl, HA, HK1, BK136, HB⟩ := hrel
  cases gk with
  | zero => exact absurd HA.out (by simp [api_Cell_52.l0])
  | succ k1 =>
   have H := HA.out
   clear HA
   simp only [api_Cell_52.l0] at H
   by_cases c5 : x9_1 < x10_1
   ·rw [if_pos c5] at H
    have c5b0 : decide (x9_1 < x10_1) = true := decide_eq_true c5
    clear c5
    obtain ⟨ji6, hji6⟩ : ∃ j_ : Int, (wrap64 ((IntKind.u64.wrap (wrap64 (x9_1 + x10_1))) / 2)) = j_ := ⟨_, rfl⟩
    replace H : (if 0 ≤ (ji6) then (if (ji6) < (l0.length : Int) then ((call_T55.f k1 a2 ((rd_T43 l0 (ji6)).f0) ((rd_T43 l0 (ji6)).f1) ((rd_T43 l0 (ji6)).f2) ((rd_T43 l0 (ji6)).f3) ((rd_T43 l0 (ji6)).f4) ((rd_T43 l0 (ji6)).f5) a1_0 a1_1 a1_2 a1_3 a1_4 a1_5).bind fun t140 => (if t140 < 0 then (api_Cell_52.l0 k1 l0 a2 (l0.length : Int) (wrap64 ((ji6) + 1)) x10_1 a1_0 a1_1 a1_2 a1_3 a1_4 a1_5) else (api_Cell_52.l0 k1 l0 a2 (l0.length : Int) x9_1 ji6 a1_0 a1_1 a1_2 a1_3 a1_4 a1_5))) else (none)) else (none)) = some (r1, r2) := by first | (rw [hji6] at H; exact H) | (simp only [hji6] at H ⊢; exact H)
    have hji6w : (IntKind.i64.wrap ((IntKind.u64.wrap (wrap64 (x9_1 + x10_1))) / 2)) = ji6 := (i64_w _).trans hji6
    by_cases c7 : 0 ≤ (ji6)
    ·rw [if_pos c7] at H
     have c7b0 : decide (0 ≤ (ji6)) = true := decide_eq_true c7
     clear c7
     by_cases c8 : (ji6) < (l0.length : Int)
     ·rw [if_pos c8] at H
      have c8b0 : decide ((ji6) < (l0.length : Int)) = true := decide_eq_true c8
      clear c8
      obtain ⟨t140, A9, H⟩ := zm H
      (try dsimp only at H)
      by_cases c10 : t140 < 0
      ·rw [if_pos c10] at H
       have c10b0 : decide (t140 < 0) = true := decide_eq_true c10
       clear c10
       have H' := Aside0.mk H
       clear H
       try go_wp2
       have n0_ := Aside0.mk (blk_drew BK136.out)
       have n1_ := Aside0.mk (below_drew1 HB.out)
       clear BK136 HB
       have BK136 := n0_
       have HB := n1_
       clear n0_ n1_
       have p139 : 0 ≤ ((ji6) : Int) := of_decide_eq_true za_
       have q139 : (ji6) < (l0.length : Int) := of_decide_eq_true za_
       obtain ⟨ad139, e139, hx139_0, hx139_1, hx139_2, hx139_3, hx139_4, hx139_5⟩ := at_T43 HR0.out (ji6) p139 q139
       have hw139_5 := hx139_5
       have hw139_4 := hx139_4
       have hw139_3 := hx139_3
       have hw139_2 := hx139_2
       have hw139_1 := hx139_1
       have hw139_0 := hx139_0
       cases e139
       replace hx139_0 := zx_ HB.out hx139_0
       replace hx139_1 := zx_ HB.out hx139_1
       replace hx139_2 := zx_ HB.out hx139_2
       replace hx139_3 := zx_ HB.out hx139_3
       replace hx139_4 := zx_ HB.out hx139_4
       replace hx139_5 := zx_ HB.out hx139_5
       replace p139 := eq_true p139
       replace q139 := eq_true q139
       refine start_ (n := 8) (S := fun w' => w'.cell? ⟨gb136, 0, none⟩ = some (.int .i64 a1_0) ∧ w'.cell? ⟨gb136, 1, none⟩ = some (.int .i64 a1_1) ∧ w'.cell? ⟨gb136, 2, none⟩ = some (.int .i64 a1_2) ∧ w'.cell? ⟨gb136, 3, none⟩ = some (.int .i64 a1_3) ∧ w'.cell? ⟨gb136, 4, none⟩ = some (.int .i64 a1_4) ∧ w'.cell? ⟨gb136, 5, none⟩ = some (.int .i64 a1_5) ∧ w'.cell? (ad139.add (((ji6)).toNat * 6)) = some (.int .i64 ((rd_T43 l0 (ji6)).f0)) ∧ w'.cell? ⟨(ad139.add (((ji6)).toNat * 6)).block, (ad139.add (((ji6)).toNat * 6)).off + 1, none⟩ = some (.int .i64 ((rd_T43 l0 (ji6)).f1)) ∧ w'.cell? ⟨(ad139.add (((ji6)).toNat * 6)).block, (ad139.add (((ji6)).toNat * 6)).off + 2, none⟩ = some (.int .i64 ((rd_T43 l0 (ji6)).f2)) ∧ w'.cell? ⟨(ad139.add (((ji6)).toNat * 6)).block, (ad139.add (((ji6)).toNat * 6)).off + 3, none⟩ = some (.int .i64 ((rd_T43 l0 (ji6)).f3)) ∧ w'.cell? ⟨(ad139.add (((ji6)).toNat * 6)).block, (ad139.add (((ji6)).toNat * 6)).off + 4, none⟩ = some (.int .i64 ((rd_T43 l0 (ji6)).f4)) ∧ w'.cell? ⟨(ad139.add (((ji6)).toNat * 6)).block, (ad139.add (((ji6)).toNat * 6)).off + 5, none⟩ = some (.int .i64 ((rd_T43 l0 (ji6)).f5))) (ds := []) (zB 0 8) (by kernel_rfl) rfl rfl ⟨(blk_cell BK136.out 0).trans rfl, (blk_cell BK136.out 1).trans rfl, (blk_cell BK136.out 2).trans rfl, (blk_cell BK136.out 3).trans rfl, (blk_cell BK136.out 4).trans rfl, (blk_cell BK136.out 5).trans rfl, ((HB.out.cell (World.block_lt_of_cell? w _ hw139_0)).trans hw139_0), ((HB.out.cell (World.block_lt_of_cell? w _ hw139_1)).trans hw139_1), ((HB.out.cell (World.block_lt_of_cell? w _ hw139_2)).trans hw139_2), ((HB.out.cell (World.block_lt_of_cell? w _ hw139_3)).trans hw139_3), ((HB.out.cell (World.block_lt_of_cell? w _ hw139_4)).trans hw139_4), ((HB.out.cell (World.block_lt_of_cell? w _ hw139_5)).trans hw139_5)⟩ (fun hHeld => ?_); refine with_tabW api_Cell_52.tab5 api_Cell_52.bits5 (fun HT_ HW_ => ?_)
       generalize wr.drew = w11 at BK136 HB hx139_0 hx139_1 hx139_2 hx139_3 hx139_4 hx139_5 hHeld ⊢
       refine zpu 0 (some 24) (zB 1 7) (any_of HT_.out (by kernel_rfl)) ?_
       refine zpu 1 (some 25) (zB 2 6) (any_of HT_.out (by kernel_rfl)) ?_
       refine zpu 2 (some 26) (zB 3 5) (any_of HT_.out (by kernel_rfl)) ?_
       refine zpu 3 (some 27) (zB 4 4) (any_of HT_.out (by kernel_rfl)) ?_
       refine zta 4 (some 28) (zB 5 3) (take_ofW HT_.out HW_.out (by kernel_rfl)) hHeld ?_
       refine zta 5 (some 29) (zB 6 2) (take_ofW HT_.out HW_.out (by kernel_rfl)) hHeld ?_
       refine one_ (i := 6) (N := some 30) (zB 7 1) rfl rfl (one_of HT_.out (by kernel_rfl)) (by decide) (fun K hK => ?_)
       refine goesV_ (call_T55.ok A9.out) #[.agg #[.int .i64 ((rd_T43 l0 (ji6)).f0), .int .i64 ((rd_T43 l0 (ji6)).f1), .int .i64 ((rd_T43 l0 (ji6)).f2), .int .i64 ((rd_T43 l0 (ji6)).f3), .int .i64 ((rd_T43 l0 (ji6)).f4), .int .i64 ((rd_T43 l0 (ji6)).f5)], .agg #[.int .i64 a1_0, .int .i64 a1_1, .int .i64 a1_2, .int .i64 a1_3, .int .i64 a1_4, .int .i64 a1_5]] (by rfl) rfl rfl (by first | rfl | (simp only [Act.eval]; rfl)) (by (try simp only [List.map_toArray, List.map_cons, List.map_nil]); first | done | (simp only [hji6]; rfl) | rfl | (simp only [List.length_drop, List.length_take]; rfl)) ?_
       with_reducible refine (call_T55.calls k1 a2 ((rd_T43 l0 (ji6)).f0) ((rd_T43 l0 (ji6)).f1) ((rd_T43 l0 (ji6)).f2) ((rd_T43 l0 (ji6)).f3) ((rd_T43 l0 (ji6)).f4) ((rd_T43 l0 (ji6)).f5) a1_0 a1_1 a1_2 a1_3 a1_4 a1_5 t140 _ A9.out).mono ?_
       rintro e w12 ⟨rfl, hb⟩
       refine ⟨_, rfl, ?_⟩
       have n0_ := Aside0.mk (blk_below (zb_ BK136.out) hb)
       have n1_ := Aside0.mk (below_step (zh1_ HB.out GE136.out) hb)
       clear BK136 HB
       have BK136 := n0_
       have HB := n1_
       clear n0_ n1_
       (try clear hb)
       (try clear hb2)
       (try clear hk)
       (try clear hi)
       refine hK.out _ _ ⟨(blk_cell BK136.out 0).trans rfl, (blk_cell BK136.out 1).trans rfl, (blk_cell BK136.out 2).trans rfl, (blk_cell BK136.out 3).trans rfl, (blk_cell BK136.out 4).trans rfl, (blk_cell BK136.out 5).trans rfl, ((HB.out.cell (World.block_lt_of_cell? w _ hw139_0)).trans hw139_0), ((HB.out.cell (World.block_lt_of_cell? w _ hw139_1)).trans hw139_1), ((HB.out.cell (World.block_lt_of_cell? w _ hw139_2)).trans hw139_2), ((HB.out.cell (World.block_lt_of_cell? w _ hw139_3)).trans hw139_3), ((HB.out.cell (World.block_lt_of_cell? w _ hw139_4)).trans hw139_4), ((HB.out.cell (World.block_lt_of_cell? w _ hw139_5)).trans hw139_5)⟩ (fun hHeld => ?_)
       clear hK K
       refine zno 30 ?_
       refine zpu 7 (some 31) (zB 8 0) (any_of HT_.out (by kernel_rfl)) ?_
       refine done_ (done_of HT_.out (by kernel_rfl)) ?_
       try go_wp2
       go_roundg k1
       case measure => have := HK1.out; omega
       case rel => exact ⟨(wrap64 ((ji6) + 1)), (x10_1), (by first | rfl | (simp; done) | (simp only [← hji6] <;> (first | rfl | simp)) | (simp [*]; done)), (by first | rfl | (simp; done) | (simp [*]; done) | (simp only [i64_w]; done)), H', ⟨by have := HK1.out; omega⟩, ⟨by (with_reducible repeat (first | refine blk_drewN ?_ _ | refine blk_drew ?_ | refine blk_alloc ?_ _)); exact BK136.out⟩, ⟨by exact zh1_ HB.out GE136.out⟩⟩
      ·rw [if_neg c10] at H
       have c10b0 : decide (t140 < 0) = false := decide_eq_false c10
       clear c10
       have H' := Aside0.mk H
       clear H
       try go_wp2
       have n0_ := Aside0.mk (blk_drew BK136.out)
       have n1_ := Aside0.mk (below_drew1 HB.out)
       clear BK136 HB
       have BK136 := n0_
       have HB := n1_
       clear n0_ n1_
       have p139 : 0 ≤ ((ji6) : Int) := of_decide_eq_true za_
       have q139 : (ji6) < (l0.length : Int) := of_decide_eq_true za_
       obtain ⟨ad139, e139, hx139_0, hx139_1, hx139_2, hx139_3, hx139_4, hx139_5⟩ := at_T43 HR0.out (ji6) p139 q139
       have hw139_5 := hx139_5
       have hw139_4 := hx139_4
       have hw139_3 := hx139_3
       have hw139_2 := hx139_2
       have hw139_1 := hx139_1
       have hw139_0 := hx139_0
       cases e139
       replace hx139_0 := zx_ HB.out hx139_0
       replace hx139_1 := zx_ HB.out hx139_1
       replace hx139_2 := zx_ HB.out hx139_2
       replace hx139_3 := zx_ HB.out hx139_3
       replace hx139_4 := zx_ HB.out hx139_4
       replace hx139_5 := zx_ HB.out hx139_5
       replace p139 := eq_true p139
       replace q139 := eq_true q139
       refine start_ (n := 8) (S := fun w' => w'.cell? ⟨gb136, 0, none⟩ = some (.int .i64 a1_0) ∧ w'.cell? ⟨gb136, 1, none⟩ = some (.int .i64 a1_1) ∧ w'.cell? ⟨gb136, 2, none⟩ = some (.int .i64 a1_2) ∧ w'.cell? ⟨gb136, 3, none⟩ = some (.int .i64 a1_3) ∧ w'.cell? ⟨gb136, 4, none⟩ = some (.int .i64 a1_4) ∧ w'.cell? ⟨gb136, 5, none⟩ = some (.int .i64 a1_5) ∧ w'.cell? (ad139.add (((ji6)).toNat * 6)) = some (.int .i64 ((rd_T43 l0 (ji6)).f0)) ∧ w'.cell? ⟨(ad139.add (((ji6)).toNat * 6)).block, (ad139.add (((ji6)).toNat * 6)).off + 1, none⟩ = some (.int .i64 ((rd_T43 l0 (ji6)).f1)) ∧ w'.cell? ⟨(ad139.add (((ji6)).toNat * 6)).block, (ad139.add (((ji6)).toNat * 6)).off + 2, none⟩ = some (.int .i64 ((rd_T43 l0 (ji6)).f2)) ∧ w'.cell? ⟨(ad139.add (((ji6)).toNat * 6)).block, (ad139.add (((ji6)).toNat * 6)).off + 3, none⟩ = some (.int .i64 ((rd_T43 l0 (ji6)).f3)) ∧ w'.cell? ⟨(ad139.add (((ji6)).toNat * 6)).block, (ad139.add (((ji6)).toNat * 6)).off + 4, none⟩ = some (.int .i64 ((rd_T43 l0 (ji6)).f4)) ∧ w'.cell? ⟨(ad139.add (((ji6)).toNat * 6)).block, (ad139.add (((ji6)).toNat * 6)).off + 5, none⟩ = some (.int .i64 ((rd_T43 l0 (ji6)).f5))) (ds := []) (zB 0 8) (by kernel_rfl) rfl rfl ⟨(blk_cell BK136.out 0).trans rfl, (blk_cell BK136.out 1).trans rfl, (blk_cell BK136.out 2).trans rfl, (blk_cell BK136.out 3).trans rfl, (blk_cell BK136.out 4).trans rfl, (blk_cell BK136.out 5).trans rfl, ((HB.out.cell (World.block_lt_of_cell? w _ hw139_0)).trans hw139_0), ((HB.out.cell (World.block_lt_of_cell? w _ hw139_1)).trans hw139_1), ((HB.out.cell (World.block_lt_of_cell? w _ hw139_2)).trans hw139_2), ((HB.out.cell (World.block_lt_of_cell? w _ hw139_3)).trans hw139_3), ((HB.out.cell (World.block_lt_of_cell? w _ hw139_4)).trans hw139_4), ((HB.out.cell (World.block_lt_of_cell? w _ hw139_5)).trans hw139_5)⟩ (fun hHeld => ?_); refine with_tabW api_Cell_52.tab5 api_Cell_52.bits5 (fun HT_ HW_ => ?_)
       generalize wr.drew = w13 at BK136 HB hx139_0 hx139_1 hx139_2 hx139_3 hx139_4 hx139_5 hHeld ⊢
       refine zpu 0 (some 24) (zB 1 7) (any_of HT_.out (by kernel_rfl)) ?_
       refine zpu 1 (some 25) (zB 2 6) (any_of HT_.out (by kernel_rfl)) ?_
       refine zpu 2 (some 26) (zB 3 5) (any_of HT_.out (by kernel_rfl)) ?_
       refine zpu 3 (some 27) (zB 4 4) (any_of HT_.out (by kernel_rfl)) ?_
       refine zta 4 (some 28) (zB 5 3) (take_ofW HT_.out HW_.out (by kernel_rfl)) hHeld ?_
       refine zta 5 (some 29) (zB 6 2) (take_ofW HT_.out HW_.out (by kernel_rfl)) hHeld ?_
       refine one_ (i := 6) (N := some 30) (zB 7 1) rfl rfl (one_of HT_.out (by kernel_rfl)) (by decide) (fun K hK => ?_)
       refine goesV_ (call_T55.ok A9.out) #[.agg #[.int .i64 ((rd_T43 l0 (ji6)).f0), .int .i64 ((rd_T43 l0 (ji6)).f1), .int .i64 ((rd_T43 l0 (ji6)).f2), .int .i64 ((rd_T43 l0 (ji6)).f3), .int .i64 ((rd_T43 l0 (ji6)).f4), .int .i64 ((rd_T43 l0 (ji6)).f5)], .agg #[.int .i64 a1_0, .int .i64 a1_1, .int .i64 a1_2, .int .i64 a1_3, .int .i64 a1_4, .int .i64 a1_5]] (by rfl) rfl rfl (by first | rfl | (simp only [Act.eval]; rfl)) (by (try simp only [List.map_toArray, List.map_cons, List.map_nil]); first | done | (simp only [hji6]; rfl) | rfl | (simp only [List.length_drop, List.length_take]; rfl)) ?_
       with_reducible refine (call_T55.calls k1 a2 ((rd_T43 l0 (ji6)).f0) ((rd_T43 l0 (ji6)).f1) ((rd_T43 l0 (ji6)).f2) ((rd_T43 l0 (ji6)).f3) ((rd_T43 l0 (ji6)).f4) ((rd_T43 l0 (ji6)).f5) a1_0 a1_1 a1_2 a1_3 a1_4 a1_5 t140 _ A9.out).mono ?_
       rintro e w14 ⟨rfl, hb⟩
       refine ⟨_, rfl, ?_⟩
       have n0_ := Aside0.mk (blk_below (zb_ BK136.out) hb)
       have n1_ := Aside0.mk (below_step (zh1_ HB.out GE136.out) hb)
       clear BK136 HB
       have BK136 := n0_
       have HB := n1_
       clear n0_ n1_
       (try clear hb)
       (try clear hb2)
       (try clear hk)
       (try clear hi)
       refine hK.out _ _ ⟨(blk_cell BK136.out 0).trans rfl, (blk_cell BK136.out 1).trans rfl, (blk_cell BK136.out 2).trans rfl, (blk_cell BK136.out 3).trans rfl, (blk_cell BK136.out 4).trans rfl, (blk_cell BK136.out 5).trans rfl, ((HB.out.cell (World.block_lt_of_cell? w _ hw139_0)).trans hw139_0), ((HB.out.cell (World.block_lt_of_cell? w _ hw139_1)).trans hw139_1), ((HB.out.cell (World.block_lt_of_cell? w _ hw139_2)).trans hw139_2), ((HB.out.cell (World.block_lt_of_cell? w _ hw139_3)).trans hw139_3), ((HB.out.cell (World.block_lt_of_cell? w _ hw139_4)).trans hw139_4), ((HB.out.cell (World.block_lt_of_cell? w _ hw139_5)).trans hw139_5)⟩ (fun hHeld => ?_)
       clear hK K
       refine zno 30 ?_
       refine zpu 7 (some 31) (zB 8 0) (any_of HT_.out (by kernel_rfl)) ?_
       refine done_ (done_of HT_.out (by kernel_rfl)) ?_
       try go_wp2
       go_roundg k1
       case measure => have := HK1.out; omega
       case rel => exact ⟨(x9_1), (ji6), (by first | rfl | (simp; done) | (simp [*]; done) | (simp only [i64_w]; done)), (by first | rfl | (simp; done) | (simp only [← hji6] <;> (first | rfl | simp)) | (simp [*]; done)), H', ⟨by have := HK1.out; omega⟩, ⟨by (with_reducible repeat (first | refine blk_drewN ?_ _ | refine blk_drew ?_ | refine blk_alloc ?_ _)); exact BK136.out⟩, ⟨by exact zh1_ HB.out GE136.out⟩⟩
     ·rw [if_neg c8] at H
      cases H
    ·rw [if_neg c7] at H
     cases H
   ·rw [if_neg c5] at H
    have c5b0 : decide (x9_1 < x10_1) = false := decide_eq_false c5
    clear c5
    by_cases c15 : x9_1 < (l0.length : Int)
    ·rw [if_pos c15] at H
     have c15b0 : decide (x9_1 < (l0.length : Int)) = true := decide_eq_true c15
     clear c15
     by_cases c16 : 0 ≤ x9_1
     ·rw [if_pos c16] at H
      have c16b0 : decide (0 ≤ x9_1) = true := decide_eq_true c16
      clear c16
      by_cases c17 : x9_1 < (l0.length : Int)
      ·rw [if_pos c17] at H
       have c17b0 : decide (x9_1 < (l0.length : Int)) = true := decide_eq_true c17
       clear c17
       obtain ⟨t138, A18, H⟩ := zm H
       (try dsimp only at H)
       simp only [Option.some.injEq, Prod.mk.injEq] at H
       obtain ⟨rfl, rfl⟩ := H
       try go_wp2
       have n0_ := Aside0.mk (blk_drew BK136.out)
       have n1_ := Aside0.mk (below_drew1 HB.out)
       clear BK136 HB
       have BK136 := n0_
       have HB := n1_
       clear n0_ n1_
       have p137 : 0 ≤ (x9_1 : Int) := of_decide_eq_true za_
       have q137 : x9_1 < (l0.length : Int) := of_decide_eq_true za_
       obtain ⟨ad137, e137, hx137_0, hx137_1, hx137_2, hx137_3, hx137_4, hx137_5⟩ := at_T43 HR0.out x9_1 p137 q137
       have hw137_5 := hx137_5
       have hw137_4 := hx137_4
       have hw137_3 := hx137_3
       have hw137_2 := hx137_2
       have hw137_1 := hx137_1
       have hw137_0 := hx137_0
       cases e137
       replace hx137_0 := zx_ HB.out hx137_0
       replace hx137_1 := zx_ HB.out hx137_1
       replace hx137_2 := zx_ HB.out hx137_2
       replace hx137_3 := zx_ HB.out hx137_3
       replace hx137_4 := zx_ HB.out hx137_4
       replace hx137_5 := zx_ HB.out hx137_5
       replace p137 := eq_true p137
       replace q137 := eq_true q137
       refine start_ (n := 16) (S := fun w' => w'.cell? ⟨gb136, 0, none⟩ = some (.int .i64 a1_0) ∧ w'.cell? ⟨gb136, 1, none⟩ = some (.int .i64 a1_1) ∧ w'.cell? ⟨gb136, 2, none⟩ = some (.int .i64 a1_2) ∧ w'.cell? ⟨gb136, 3, none⟩ = some (.int .i64 a1_3) ∧ w'.cell? ⟨gb136, 4, none⟩ = some (.int .i64 a1_4) ∧ w'.cell? ⟨gb136, 5, none⟩ = some (.int .i64 a1_5) ∧ w'.cell? (ad137.add ((x9_1).toNat * 6)) = some (.int .i64 ((rd_T43 l0 x9_1).f0)) ∧ w'.cell? ⟨(ad137.add ((x9_1).toNat * 6)).block, (ad137.add ((x9_1).toNat * 6)).off + 1, none⟩ = some (.int .i64 ((rd_T43 l0 x9_1).f1)) ∧ w'.cell? ⟨(ad137.add ((x9_1).toNat * 6)).block, (ad137.add ((x9_1).toNat * 6)).off + 2, none⟩ = some (.int .i64 ((rd_T43 l0 x9_1).f2)) ∧ w'.cell? ⟨(ad137.add ((x9_1).toNat * 6)).block, (ad137.add ((x9_1).toNat * 6)).off + 3, none⟩ = some (.int .i64 ((rd_T43 l0 x9_1).f3)) ∧ w'.cell? ⟨(ad137.add ((x9_1).toNat * 6)).block, (ad137.add ((x9_1).toNat * 6)).off + 4, none⟩ = some (.int .i64 ((rd_T43 l0 x9_1).f4)) ∧ w'.cell? ⟨(ad137.add ((x9_1).toNat * 6)).block, (ad137.add ((x9_1).toNat * 6)).off + 5, none⟩ = some (.int .i64 ((rd_T43 l0 x9_1).f5))) (ds := []) (zB 0 16) (by kernel_rfl) rfl rfl ⟨(blk_cell BK136.out 0).trans rfl, (blk_cell BK136.out 1).trans rfl, (blk_cell BK136.out 2).trans rfl, (blk_cell BK136.out 3).trans rfl, (blk_cell BK136.out 4).trans rfl, (blk_cell BK136.out 5).trans rfl, ((HB.out.cell (World.block_lt_of_cell? w _ hw137_0)).trans hw137_0), ((HB.out.cell (World.block_lt_of_cell? w _ hw137_1)).trans hw137_1), ((HB.out.cell (World.block_lt_of_cell? w _ hw137_2)).trans hw137_2), ((HB.out.cell (World.block_lt_of_cell? w _ hw137_3)).trans hw137_3), ((HB.out.cell (World.block_lt_of_cell? w _ hw137_4)).trans hw137_4), ((HB.out.cell (World.block_lt_of_cell? w _ hw137_5)).trans hw137_5)⟩ (fun hHeld => ?_); refine with_tabW api_Cell_52.tab8 api_Cell_52.bits8 (fun HT_ HW_ => ?_)
       generalize wr.drew = w19 at BK136 HB hx137_0 hx137_1 hx137_2 hx137_3 hx137_4 hx137_5 hHeld ⊢
       refine zpu 0 (some 35) (zB 1 15) (any_of HT_.out (by kernel_rfl)) ?_
       refine zpu 1 (some 36) (zB 2 14) (any_of HT_.out (by kernel_rfl)) ?_
       refine zpu 2 (some 37) (zB 3 13) (any_of HT_.out (by kernel_rfl)) ?_
       refine zpu 3 (some 38) (zB 4 12) (any_of HT_.out (by kernel_rfl)) ?_
       refine zpu 4 (some 39) (zB 5 11) (any_of HT_.out (by kernel_rfl)) ?_
       refine zpu 5 (some 40) (zB 6 10) (any_of HT_.out (by kernel_rfl)) ?_
       refine zpu 6 (some 41) (zB 7 9) (any_of HT_.out (by kernel_rfl)) ?_
       refine zpu 7 (some 42) (zB 8 8) (any_of HT_.out (by kernel_rfl)) ?_
       refine zpu 8 (some 43) (zB 9 7) (any_of HT_.out (by kernel_rfl)) ?_
       refine zta 9 (some 44) (zB 10 6) (take_ofW HT_.out HW_.out (by kernel_rfl)) hHeld ?_
       refine zta 10 (some 45) (zB 11 5) (take_ofW HT_.out HW_.out (by kernel_rfl)) hHeld ?_
       refine one_ (i := 11) (N := some 46) (zB 12 4) rfl rfl (one_of HT_.out (by kernel_rfl)) (by decide) (fun K hK => ?_)
       refine goesV_ (call_T55.ok A18.out) #[.agg #[.int .i64 ((rd_T43 l0 x9_1).f0), .int .i64 ((rd_T43 l0 x9_1).f1), .int .i64 ((rd_T43 l0 x9_1).f2), .int .i64 ((rd_T43 l0 x9_1).f3), .int .i64 ((rd_T43 l0 x9_1).f4), .int .i64 ((rd_T43 l0 x9_1).f5)], .agg #[.int .i64 a1_0, .int .i64 a1_1, .int .i64 a1_2, .int .i64 a1_3, .int .i64 a1_4, .int .i64 a1_5]] (by rfl) rfl rfl (by first | rfl | (simp only [Act.eval]; rfl)) zl_ ?_
       with_reducible refine (call_T55.calls k1 a2 ((rd_T43 l0 x9_1).f0) ((rd_T43 l0 x9_1).f1) ((rd_T43 l0 x9_1).f2) ((rd_T43 l0 x9_1).f3) ((rd_T43 l0 x9_1).f4) ((rd_T43 l0 x9_1).f5) a1_0 a1_1 a1_2 a1_3 a1_4 a1_5 t138 _ A18.out).mono ?_
       rintro e w20 ⟨rfl, hb⟩
       refine ⟨_, rfl, ?_⟩
       have n0_ := Aside0.mk (blk_below (zb_ BK136.out) hb)
       have n1_ := Aside0.mk (below_step (zh1_ HB.out GE136.out) hb)
       clear BK136 HB
       have BK136 := n0_
       have HB := n1_
       clear n0_ n1_
       (try clear hb)
       (try clear hb2)
       (try clear hk)
       (try clear hi)
       refine hK.out _ _ ⟨(blk_cell BK136.out 0).trans rfl, (blk_cell BK136.out 1).trans rfl, (blk_cell BK136.out 2).trans rfl, (blk_cell BK136.out 3).trans rfl, (blk_cell BK136.out 4).trans rfl, (blk_cell BK136.out 5).trans rfl, ((HB.out.cell (World.block_lt_of_cell? w _ hw137_0)).trans hw137_0), ((HB.out.cell (World.block_lt_of_cell? w _ hw137_1)).trans hw137_1), ((HB.out.cell (World.block_lt_of_cell? w _ hw137_2)).trans hw137_2), ((HB.out.cell (World.block_lt_of_cell? w _ hw137_3)).trans hw137_3), ((HB.out.cell (World.block_lt_of_cell? w _ hw137_4)).trans hw137_4), ((HB.out.cell (World.block_lt_of_cell? w _ hw137_5)).trans hw137_5)⟩ (fun hHeld => ?_)
       clear hK K
       refine zno 46 ?_
       refine zpu 12 (some 47) (zB 13 3) (any_of HT_.out (by kernel_rfl)) ?_
       refine zpu 13 (some 48) (zB 14 2) (any_of HT_.out (by kernel_rfl)) ?_
       refine zpu 14 (some 6) (zB 15 1) (any_of HT_.out (by kernel_rfl)) ?_
       refine zpu 15 (some 7) (zB 16 0) (any_of HT_.out (by kernel_rfl)) ?_
       refine done_ (done_of HT_.out (by kernel_rfl)) ?_
       try go_wp2
       go_ret2
       exact ⟨by first | rfl | (simp [errW_none, errW_some] <;> rfl) | (simp [*, errW_none, errW_some] <;> rfl), by exact zh1_ HB.out GE136.out⟩
      ·rw [if_neg c17] at H
       cases H
     ·rw [if_neg c16] at H
      cases H
    ·rw [if_neg c15] at H
     have c15b0 : decide (x9_1 < (l0.length : Int)) = false := decide_eq_false c15
     clear c15
     simp only [Option.some.injEq, Prod.mk.injEq] at H
     obtain ⟨rfl, rfl⟩ := H
     try go_wp2
     have n0_ := Aside0.mk (blk_drew BK136.out)
     have n1_ := Aside0.mk (below_drew1 HB.out)
     clear BK136 HB
     have BK136 := n0_
     have HB := n1_
     clear n0_ n1_
     refine start_ (n := 16) (S := fun w' => True) (ds := []) (zB 0 16) (by kernel_rfl) rfl rfl trivial (fun hHeld => ?_); refine with_tabW api_Cell_52.tab8 api_Cell_52.bits8 (fun HT_ HW_ => ?_)
     generalize wr.drew = w21 at BK136 HB hHeld ⊢
     refine zpu 0 (some 35) (zB 1 15) (any_of HT_.out (by kernel_rfl)) ?_
     refine zpu 1 (some 36) (zB 2 14) (any_of HT_.out (by kernel_rfl)) ?_
     refine zpu 2 (some 37) (zB 3 13) (any_of HT_.out (by kernel_rfl)) ?_
     refine zpu 3 (some 38) (zB 4 12) (any_of HT_.out (by kernel_rfl)) ?_
     refine zpu 4 (some 39) (zB 5 11) (any_of HT_.out (by kernel_rfl)) ?_
     refine pure_ (i := 5) (N := some 40) (v := undef) (a' := ?_) (zB 6 10) rfl rfl (any_of HT_.out (by kernel_rfl)) (fun _ _ _ h => h) (Or.inr ⟨by rfl, rfl⟩) ?_ ?_
     rotate_left
     ·simp only [Act.put, zt0, zt1, zt2, i64_w, i32_w]
      rfl
     refine pure_ (i := 6) (N := some 41) (v := undef) (a' := ?_) (zB 7 9) rfl rfl (any_of HT_.out (by kernel_rfl)) (fun _ _ _ h => h) (Or.inr ⟨by rfl, rfl⟩) ?_ ?_
     rotate_left
     ·simp only [Act.put, zt0, zt1, zt2, i64_w, i32_w]
      rfl
     refine pure_ (i := 7) (N := some 42) (v := undef) (a' := ?_) (zB 8 8) rfl rfl (any_of HT_.out (by kernel_rfl)) (fun _ _ _ h => h) (Or.inr ⟨by rfl, rfl⟩) ?_ ?_
     rotate_left
     ·simp only [Act.put, zt0, zt1, zt2, i64_w, i32_w]
      rfl
     refine pure_ (i := 8) (N := some 43) (v := undef) (a' := ?_) (zB 9 7) rfl rfl (any_of HT_.out (by kernel_rfl)) (fun _ _ _ h => h) (Or.inr ⟨by rfl, rfl⟩) ?_ ?_
     rotate_left
     ·simp only [Act.put, zt0, zt1, zt2, i64_w, i32_w]
      rfl
     refine pure_ (i := 9) (N := some 44) (v := undef) (a' := ?_) (zB 10 6) rfl rfl (any_of HT_.out (by kernel_rfl)) (fun _ _ _ h => h) (Or.inr ⟨by rfl, rfl⟩) ?_ ?_
     rotate_left
     ·simp only [Act.put, zt0, zt1, zt2, i64_w, i32_w]
      rfl
     refine pure_ (i := 10) (N := some 45) (v := undef) (a' := ?_) (zB 11 5) rfl rfl (any_of HT_.out (by kernel_rfl)) (fun _ _ _ h => h) (Or.inr ⟨by rfl, rfl⟩) ?_ ?_
     rotate_left
     ·simp only [Act.put, zt0, zt1, zt2, i64_w, i32_w]
      rfl
     refine pure_ (i := 11) (N := some 46) (v := undef) (a' := ?_) (zB 12 4) rfl rfl (any_of HT_.out (by kernel_rfl)) (fun _ _ _ h => h) (Or.inr ⟨by rfl, rfl⟩) ?_ ?_
     rotate_left
     ·simp only [Act.put, zt0, zt1, zt2, i64_w, i32_w]
      rfl
     refine pure_ (i := 12) (N := some 47) (v := undef) (a' := ?_) (zB 13 3) rfl rfl (any_of HT_.out (by kernel_rfl)) (fun _ _ _ h => h) (Or.inr ⟨by rfl, rfl⟩) ?_ ?_
     rotate_left
     ·simp only [Act.put, zt0, zt1, zt2, i64_w, i32_w]
      rfl
     refine zpu 13 (some 48) (zB 14 2) (any_of HT_.out (by kernel_rfl)) ?_
     refine zpu 14 (some 6) (zB 15 1) (any_of HT_.out (by kernel_rfl)) ?_
     refine zpu 15 (some 7) (zB 16 0) (any_of HT_.out (by kernel_rfl)) ?_
     refine done_ (done_of HT_.out (by kernel_rfl)) ?_
     try go_wp2
     go_ret2
     exact ⟨by first | rfl | (simp [errW_none, errW_some] <;> rfl) | (simp [*, errW_none, errW_some] <;> rfl), by exact zh1_ HB.out GE136.out⟩
end Go.Proofs.YtdiopojnkjkgmaaDoor.Print
namespace Go.Proofs.YtdiopojnkjkgmaaDoor.Print
open Go.RowKit Go.Proofs.YtdiopojnkjkgmaaDoorW.PrintWords Go.Proofs.YtdiopojnkjkgmaaDoorW.PrintLast Go.Proofs.YtdiopojnkjkgmaaDoorW.PrintMore
attribute [local go_sem] max2_mx min2_mn max_two min_two max_three min_three max_four min_four
set_option linter.unusedVariables false
set_option linter.unusedSimpArgs false
def stock_place.f (k : Nat) (l0 : List (S43)) (a1 : Int) (a2 : Int) : Option (Int × Bool) := (api_Cell_52.f k l0 a1 a2 0 0 0 0 19).bind fun bt141 => (some (bt141.1, bt141.2))
set_option maxHeartbeats 8000000 in
set_option maxRecDepth 100000 in
theorem stock_place.calls (k : Nat) (A0 : Option Addr) (c0 : Nat) (l0 : List (S43)) (a1 : Int) (a2 : Int) (r1 : Int) (r2 : Bool) (w : World) (hr0 : Kd.C k43 w A0 l0.length l0) (hc0 : l0.length ≤ c0) (h : stock_place.f k l0 a1 a2 = some (r1, r2)) :
  Calls Tryd.prog 33 #[.slice A0 l0.length c0, .int .i64 a1, .int .i64 a2] w fun e w' => e = .returned (.tuple #[.int .i64 r1, .bool r2]) ∧ Below w.heap.size w w' := by
 have hu43 := Tryd.underlying43
 have HR0 := Aside0.mk hr0
 have HC0 := Aside0.mk hc0
 clear hr0 hc0
 have HB := Aside0.mk (Below.refl w.heap.size w)
 have H : ((api_Cell_52.f k l0 a1 a2 0 0 0 0 19).bind fun bt141 => (some (bt141.1, bt141.2))) = some (r1, r2) := h
 clear h
 obtain ⟨⟨t141, t142⟩, A4, H⟩ := zm H
 (try dsimp only at H)
 simp only [Option.some.injEq, Prod.mk.injEq] at H
 obtain ⟨rfl, rfl⟩ := H
 go_enter Tryd.func33, Tryd.ntmps33
 go_wp2_with (first | ((with_reducible refine gate_callee (f := 52) rfl ?_); refine goesL_ (some 12) rfl rfl Tryd.func52 (by kernel_rfl) rfl #[.slice A0 l0.length c0, .agg #[.int .i64 a1, .int .i64 a2, .int .i64 0, .int .i64 0, .int .i64 0, .int .i64 0], encFn 19] rfl zl_ ?_; (with_reducible refine (api_Cell_52.calls k _ _ l0 a1 a2 0 0 0 0 19 t141 t142 _ ?side1 ?side2 A4.out).mono ?_); (case side1 => repeat (first | exact HR0.out | (with_reducible refine Kd.C_alloc ?_ _) | (with_reducible refine Kd.C_drewN ?_ _) | (with_reducible refine Kd.C_drew ?_))); (case side2 => exact HC0.out); rintro e w5 ⟨rfl, hb⟩; refine ⟨_, rfl, ?_⟩; replace HB := Aside0.mk (below_step (zh0_ HB.out) hb); (try clear hb)))
 go_ret2
 exact ⟨by first | rfl | (simp [errW_none, errW_some] <;> rfl) | (simp [*, errW_none, errW_some] <;> rfl), by exact zh0_ HB.out⟩
end Go.Proofs.YtdiopojnkjkgmaaDoor.Print
namespace Go.Proofs.YtdiopojnkjkgmaaDoor.Print
open Go.RowKit Go.Proofs.YtdiopojnkjkgmaaDoorW.PrintWords Go.Proofs.YtdiopojnkjkgmaaDoorW.PrintLast Go.Proofs.YtdiopojnkjkgmaaDoorW.PrintMore
attribute [local go_sem] max2_mx min2_mn max_two min_two max_three min_three max_four min_four
set_option linter.unusedVariables false
set_option linter.unusedSimpArgs false
def stock_Cell.j0 : Nat → List (S43) → Int → Int → Bool → Option (Int × Int × Int × Int × Int × Int × Int)
 | 0, _, _, _, _ => none
 | k + 1, x0, x1, x2, x24 => if x24 = true then (some (0, 0, 0, 0, 0, 0, 2)) else ((stock_place.f k x0 x1 x2).bind fun bt147 => (if bt147.2 = true then (if 0 ≤ bt147.1 then (if bt147.1 < (x0.length : Int) then (some ((rd_T43 x0 bt147.1).f0, (rd_T43 x0 bt147.1).f1, (rd_T43 x0 bt147.1).f2, (rd_T43 x0 bt147.1).f3, (rd_T43 x0 bt147.1).f4, (rd_T43 x0 bt147.1).f5, 0)) else (none)) else (none)) else (some (x1, x2, 0, 0, 0, 0, 0))))
def stock_Cell.f (k : Nat) (l0 : List (S43)) (a1 : Int) (a2 : Int) : Option (Int × Int × Int × Int × Int × Int × Int) := (stock_Check.f k l0).bind fun t144 => (if t144 = 0 then ((stock_known.f a1).bind fun t145 => (if t145 = true then ((stock_known.f a2).bind fun t146 => (stock_Cell.j0 k l0 a1 a2 (!t146))) else (stock_Cell.j0 k l0 a1 a2 true))) else (some (0, 0, 0, 0, 0, 0, t144)))
set_option maxHeartbeats 8000000 in
set_option maxRecDepth 100000 in
theorem stock_Cell.calls (k : Nat) (A0 : Option Addr) (c0 : Nat) (l0 : List (S43)) (a1 : Int) (a2 : Int) (r1 : Int) (r2 : Int) (r3 : Int) (r4 : Int) (r5 : Int) (r6 : Int) (r7 : Int) (w : World) (hr0 : Kd.C k43 w A0 l0.length l0) (hc0 : l0.length ≤ c0) (h : stock_Cell.f k l0 a1 a2 = some (r1, r2, r3, r4, r5, r6, r7)) :
  Calls Tryd.prog 12 #[.slice A0 l0.length c0, .int .i64 a1, .int .i64 a2] w fun e w' => e = .returned (.tuple #[.agg #[.int .i64 r1, .int .i64 r2, .int .i64 r3, .int .i64 r4, .int .i64 r5, .int .i64 r6], .int .i64 r7]) ∧ Below w.heap.size w w' := by
 have hu43 := Tryd.underlying43
 have HR0 := Aside0.mk hr0
 have HC0 := Aside0.mk hc0
 clear hr0 hc0
 have HB := Aside0.mk (Below.refl w.heap.size w)
 have H : ((stock_Check.f k l0).bind fun t144 => (if t144 = 0 then ((stock_known.f a1).bind fun t145 => (if t145 = true then ((stock_known.f a2).bind fun t146 => (stock_Cell.j0 k l0 a1 a2 (!t146))) else (stock_Cell.j0 k l0 a1 a2 true))) else (some (0, 0, 0, 0, 0, 0, t144)))) = some (r1, r2, r3, r4, r5, r6, r7) := h
 clear h
 obtain ⟨t144, A4, H⟩ := zm H
 (try dsimp only at H)
 by_cases c5 : t144 = 0
 ·rw [if_pos c5] at H
  obtain ⟨c5b0, c5b1⟩ := zq1 c5
  clear c5
  have HC6 := Aside0.mk H
  clear H
  go_enter Tryd.func12, Tryd.ntmps12
  go_upto_region 4 with (first | ((with_reducible refine gate_dst (N := 6) rfl ?_); refine box_event ?hg (N := 6) ?hd (cs := #[.int .i64 0, .int .i64 0, .int .i64 0, .int .i64 0, .int .i64 0, .int .i64 0]) (t := 43) ?hr ?_; (case hd => rfl); (case hg => rfl); (case hr => first | (go_simp; done) | (go_simp; rfl)); intro gb143 hg w7 hbox hb; have BK143 := Aside0.mk (hbox); have GW143 := Aside0.mk ((by rw [hg]; exact (below_size (zh0_ HB.out)) : w.heap.size ≤ gb143)); have GE143 := Aside0.mk ((by rw [hg]; exact (below_size (zh0_ HB.out)) : w.heap.size ≤ gb143)); replace HB := Aside0.mk (below_step (zh0_ HB.out) hb); clear hb hbox hg) | ((with_reducible refine gate_callee (f := 5) rfl ?_); refine goesL_ (some 12) rfl rfl Tryd.func5 (by kernel_rfl) rfl #[.slice A0 l0.length c0] rfl zl_ ?_; (with_reducible refine (stock_Check.calls k _ _ l0 t144 _ ?side1 ?side2 A4.out).mono ?_); (case side1 => exact zc_ (Kd.C_below HR0.out HB.out)); (case side2 => exact HC0.out); rintro e w8 ⟨rfl, hb⟩; refine ⟨_, rfl, ?_⟩; replace BK143 := Aside0.mk (blk_below (zb_ BK143.out) hb); replace HB := Aside0.mk (below_step (zh1_ HB.out GE143.out) hb); (try clear hb)))
  (try simp only [Act.put, zt0, zt1, zt2])
  go_cut [24] (fun v24 wc => ∃ (kq : Nat) (x24_5 : Bool), v24 = .bool x24_5 ∧ Aside0 (stock_Cell.j0 kq l0 a1 a2 x24_5 = some (r1, r2, r3, r4, r5, r6, r7)) ∧ Aside0 (kq ≤ k) ∧ Aside0 (wc.heap[gb143]? = some (.cells #[.int .i64 0, .int .i64 0, .int .i64 0, .int .i64 0, .int .i64 0, .int .i64 0] 43 (0, 0))) ∧ Aside0 (Below w.heap.size w wc))
  case first =>
   have H := HC6.out
   clear HC6
   obtain ⟨t145, A9, H⟩ := zm H
   (try dsimp only at H)
   by_cases c10 : t145 = true
   ·subst c10
    replace H := (if_pos (rfl : true = true)).symm.trans H
    obtain ⟨t146, A11, H⟩ := zm H
    (try dsimp only at H)
    have H' := Aside0.mk H
    clear H
    go_wp2_with (first | ((with_reducible refine gate_callee (f := 32) rfl ?_); refine goesL_ (some 18) rfl rfl Tryd.func32 (by kernel_rfl) rfl #[.int .i64 a1] rfl zl_ ?_; (with_reducible refine (stock_known.calls a1 true _ A9.out).mono ?_); rintro e w' ⟨rfl, ⟨nd, rfl⟩⟩; refine ⟨_, rfl, ?_⟩) | (go_at_call 32; (with_reducible refine (stock_known.calls a2 t146 _ A11.out).mono ?_); rintro e w' ⟨rfl, ⟨nd, rfl⟩⟩))
    go_meet
    case rel => exact ⟨_, (!t146), (by first | rfl | (simp; done) | (simp [*]; done) | (simp only [i64_w]; done)), H', ⟨by first | omega | exact Nat.le_refl _⟩, ⟨by (with_reducible repeat (first | refine blk_drewN ?_ _ | refine blk_drew ?_ | refine blk_alloc ?_ _)); exact BK143.out⟩, ⟨by exact zh1_ HB.out GE143.out⟩⟩
   ·replace c10 := Bool.eq_false_iff.mpr c10
    subst c10
    replace H := (if_neg (show ¬ (false = true) by decide)).symm.trans H
    have H' := Aside0.mk H
    clear H
    go_wp2_with (first | ((with_reducible refine gate_callee (f := 32) rfl ?_); refine goesL_ (some 18) rfl rfl Tryd.func32 (by kernel_rfl) rfl #[.int .i64 a1] rfl zl_ ?_; (with_reducible refine (stock_known.calls a1 false _ A9.out).mono ?_); rintro e w' ⟨rfl, ⟨nd, rfl⟩⟩; refine ⟨_, rfl, ?_⟩))
    go_meet
    case rel => exact ⟨_, (true), (by first | rfl | (simp; done) | (simp [*]; done) | (simp only [i64_w]; done)), H', ⟨by first | omega | exact Nat.le_refl _⟩, ⟨by (with_reducible repeat (first | refine blk_drewN ?_ _ | refine blk_drew ?_ | refine blk_alloc ?_ _)); exact BK143.out⟩, ⟨by exact zh1_ HB.out GE143.out⟩⟩
  case rest =>
   clear HC6
   try clear c1
   try clear p2
   try clear c3
   try clear c5
   try clear c5b0
   try clear c5b1
   try clear c10
   (try clear BK143)
   obtain ⟨kq, x24_5, rfl, HA, HJ5, BK143, HB⟩ := hcut
   cases kq with
   | zero => exact absurd HA.out (by simp [stock_Cell.j0])
   | succ kj5 =>
    have H := HA.out
    clear HA
    simp only [stock_Cell.j0] at H
    by_cases c12 : x24_5 = true
    ·subst c12
     replace H := (if_pos (rfl : true = true)).symm.trans H
     simp only [Option.some.injEq, Prod.mk.injEq] at H
     obtain ⟨rfl, rfl, rfl, rfl, rfl, rfl, rfl⟩ := H
     have hcz13_0 : wc.cell? ⟨gb143, 0, none⟩ = some (.int .i64 0) := (blk_cell BK143.out 0).trans rfl
     have hcz13_1 : wc.cell? ⟨gb143, 1, none⟩ = some (.int .i64 0) := (blk_cell BK143.out 1).trans rfl
     have hcz13_2 : wc.cell? ⟨gb143, 2, none⟩ = some (.int .i64 0) := (blk_cell BK143.out 2).trans rfl
     have hcz13_3 : wc.cell? ⟨gb143, 3, none⟩ = some (.int .i64 0) := (blk_cell BK143.out 3).trans rfl
     have hcz13_4 : wc.cell? ⟨gb143, 4, none⟩ = some (.int .i64 0) := (blk_cell BK143.out 4).trans rfl
     have hcz13_5 : wc.cell? ⟨gb143, 5, none⟩ = some (.int .i64 0) := (blk_cell BK143.out 5).trans rfl
     have hfz13_0 := blk_frozen BK143.out 0
     have hfz13_1 := blk_frozen BK143.out 1
     have hfz13_2 := blk_frozen BK143.out 2
     have hfz13_3 := blk_frozen BK143.out 3
     have hfz13_4 := blk_frozen BK143.out 4
     have hfz13_5 := blk_frozen BK143.out 5
     go_wp2
     refine bodyPost_ret (results_ct rfl _ _ gb143 43 #[.int .i64 0, .int .i64 0, .int .i64 0, .int .i64 0, .int .i64 0, .int .i64 0] (0, 0) _ rfl (by (with_reducible repeat (first | refine blk_drewN ?_ _ | refine blk_drew ?_ | refine blk_alloc ?_ _)); refine blk_put (cs := #[.int .i64 0, .int .i64 0, .int .i64 0, .int .i64 0, .int .i64 0, .int .i64 0]) ?_ 5 _ (by first | rfl | (simp only [List.length_drop, List.length_take]; rfl)); (with_reducible repeat (first | refine blk_drewN ?_ _ | refine blk_drew ?_ | refine blk_alloc ?_ _)); refine blk_put (cs := #[.int .i64 0, .int .i64 0, .int .i64 0, .int .i64 0, .int .i64 0, .int .i64 0]) ?_ 4 _ (by first | rfl | (simp only [List.length_drop, List.length_take]; rfl)); (with_reducible repeat (first | refine blk_drewN ?_ _ | refine blk_drew ?_ | refine blk_alloc ?_ _)); refine blk_put (cs := #[.int .i64 0, .int .i64 0, .int .i64 0, .int .i64 0, .int .i64 0, .int .i64 0]) ?_ 3 _ (by first | rfl | (simp only [List.length_drop, List.length_take]; rfl)); (with_reducible repeat (first | refine blk_drewN ?_ _ | refine blk_drew ?_ | refine blk_alloc ?_ _)); refine blk_put (cs := #[.int .i64 0, .int .i64 0, .int .i64 0, .int .i64 0, .int .i64 0, .int .i64 0]) ?_ 2 _ (by first | rfl | (simp only [List.length_drop, List.length_take]; rfl)); (with_reducible repeat (first | refine blk_drewN ?_ _ | refine blk_drew ?_ | refine blk_alloc ?_ _)); refine blk_put (cs := #[.int .i64 0, .int .i64 0, .int .i64 0, .int .i64 0, .int .i64 0, .int .i64 0]) ?_ 1 _ (by first | rfl | (simp only [List.length_drop, List.length_take]; rfl)); (with_reducible repeat (first | refine blk_drewN ?_ _ | refine blk_drew ?_ | refine blk_alloc ?_ _)); refine blk_put (cs := #[.int .i64 0, .int .i64 0, .int .i64 0, .int .i64 0, .int .i64 0, .int .i64 0]) ?_ 0 _ (by first | rfl | (simp only [List.length_drop, List.length_take]; rfl)); (with_reducible repeat (first | refine blk_drewN ?_ _ | refine blk_drew ?_ | refine blk_alloc ?_ _)); exact BK143.out) Tryd.underlying43 rfl (by kernel_rfl)) rfl ?_
     exact ⟨by first | rfl | (simp [errW_none, errW_some] <;> rfl) | (simp [*, errW_none, errW_some] <;> rfl), by exact zh1_ HB.out GE143.out⟩
    ·replace c12 := Bool.eq_false_iff.mpr c12
     subst c12
     replace H := (if_neg (show ¬ (false = true) by decide)).symm.trans H
     obtain ⟨⟨t147, t148⟩, A14, H⟩ := zm H
     (try dsimp only at H)
     by_cases c15 : t148 = true
     ·subst c15
      replace H := (if_pos (rfl : true = true)).symm.trans H
      by_cases c16 : 0 ≤ t147
      ·rw [if_pos c16] at H
       have c16b0 : decide (0 ≤ t147) = true := decide_eq_true c16
       clear c16
       by_cases c17 : t147 < (l0.length : Int)
       ·rw [if_pos c17] at H
        have c17b0 : decide (t147 < (l0.length : Int)) = true := decide_eq_true c17
        clear c17
        simp only [Option.some.injEq, Prod.mk.injEq] at H
        obtain ⟨rfl, rfl, rfl, rfl, rfl, rfl, rfl⟩ := H
        go_wp2_with (first | ((with_reducible refine gate_callee (f := 33) rfl ?_); refine goesL_ (some 30) rfl rfl Tryd.func33 (by kernel_rfl) rfl #[.slice A0 l0.length c0, .int .i64 a1, .int .i64 a2] rfl zl_ ?_; (with_reducible refine (stock_place.calls kj5 _ _ l0 a1 a2 t147 true _ ?side1 ?side2 A14.out).mono ?_); (case side1 => exact zc_ (Kd.C_below HR0.out HB.out)); (case side2 => exact HC0.out); rintro e w18 ⟨rfl, hb⟩; refine ⟨_, rfl, ?_⟩; replace BK143 := Aside0.mk (blk_below (zb_ BK143.out) hb); replace HB := Aside0.mk (below_step (zh1_ HB.out GE143.out) hb); (try clear hb); have p149 : 0 ≤ (t147 : Int) := of_decide_eq_true za_; have q149 : t147 < (l0.length : Int) := of_decide_eq_true za_; obtain ⟨ad149, e149, hx149_0, hx149_1, hx149_2, hx149_3, hx149_4, hx149_5⟩ := at_T43 HR0.out t147 p149 q149; cases e149; replace hx149_0 := zx_ HB.out hx149_0; replace hx149_1 := zx_ HB.out hx149_1; replace hx149_2 := zx_ HB.out hx149_2; replace hx149_3 := zx_ HB.out hx149_3; replace hx149_4 := zx_ HB.out hx149_4; replace hx149_5 := zx_ HB.out hx149_5; replace p149 := eq_true p149; replace q149 := eq_true q149; have hcz19_0 : w18.cell? ⟨gb143, 0, none⟩ = some (.int .i64 0) := (blk_cell BK143.out 0).trans rfl; have hcz19_1 : w18.cell? ⟨gb143, 1, none⟩ = some (.int .i64 0) := (blk_cell BK143.out 1).trans rfl; have hcz19_2 : w18.cell? ⟨gb143, 2, none⟩ = some (.int .i64 0) := (blk_cell BK143.out 2).trans rfl; have hcz19_3 : w18.cell? ⟨gb143, 3, none⟩ = some (.int .i64 0) := (blk_cell BK143.out 3).trans rfl; have hcz19_4 : w18.cell? ⟨gb143, 4, none⟩ = some (.int .i64 0) := (blk_cell BK143.out 4).trans rfl; have hcz19_5 : w18.cell? ⟨gb143, 5, none⟩ = some (.int .i64 0) := (blk_cell BK143.out 5).trans rfl; have hfz19_0 := blk_frozen BK143.out 0; have hfz19_1 := blk_frozen BK143.out 1; have hfz19_2 := blk_frozen BK143.out 2; have hfz19_3 := blk_frozen BK143.out 3; have hfz19_4 := blk_frozen BK143.out 4; have hfz19_5 := blk_frozen BK143.out 5))
        refine bodyPost_ret (results_ct rfl _ _ gb143 43 #[.int .i64 ((rd_T43 l0 t147).f0), .int .i64 ((rd_T43 l0 t147).f1), .int .i64 ((rd_T43 l0 t147).f2), .int .i64 ((rd_T43 l0 t147).f3), .int .i64 ((rd_T43 l0 t147).f4), .int .i64 ((rd_T43 l0 t147).f5)] (0, 0) _ rfl (by (with_reducible repeat (first | refine blk_drewN ?_ _ | refine blk_drew ?_ | refine blk_alloc ?_ _)); refine blk_put (cs := #[.int .i64 ((rd_T43 l0 t147).f0), .int .i64 ((rd_T43 l0 t147).f1), .int .i64 ((rd_T43 l0 t147).f2), .int .i64 ((rd_T43 l0 t147).f3), .int .i64 ((rd_T43 l0 t147).f4), .int .i64 0]) ?_ 5 _ (by first | rfl | (simp only [List.length_drop, List.length_take]; rfl)); (with_reducible repeat (first | refine blk_drewN ?_ _ | refine blk_drew ?_ | refine blk_alloc ?_ _)); refine blk_put (cs := #[.int .i64 ((rd_T43 l0 t147).f0), .int .i64 ((rd_T43 l0 t147).f1), .int .i64 ((rd_T43 l0 t147).f2), .int .i64 ((rd_T43 l0 t147).f3), .int .i64 0, .int .i64 0]) ?_ 4 _ (by first | rfl | (simp only [List.length_drop, List.length_take]; rfl)); (with_reducible repeat (first | refine blk_drewN ?_ _ | refine blk_drew ?_ | refine blk_alloc ?_ _)); refine blk_put (cs := #[.int .i64 ((rd_T43 l0 t147).f0), .int .i64 ((rd_T43 l0 t147).f1), .int .i64 ((rd_T43 l0 t147).f2), .int .i64 0, .int .i64 0, .int .i64 0]) ?_ 3 _ (by first | rfl | (simp only [List.length_drop, List.length_take]; rfl)); (with_reducible repeat (first | refine blk_drewN ?_ _ | refine blk_drew ?_ | refine blk_alloc ?_ _)); refine blk_put (cs := #[.int .i64 ((rd_T43 l0 t147).f0), .int .i64 ((rd_T43 l0 t147).f1), .int .i64 0, .int .i64 0, .int .i64 0, .int .i64 0]) ?_ 2 _ (by first | rfl | (simp only [List.length_drop, List.length_take]; rfl)); (with_reducible repeat (first | refine blk_drewN ?_ _ | refine blk_drew ?_ | refine blk_alloc ?_ _)); refine blk_put (cs := #[.int .i64 ((rd_T43 l0 t147).f0), .int .i64 0, .int .i64 0, .int .i64 0, .int .i64 0, .int .i64 0]) ?_ 1 _ (by first | rfl | (simp only [List.length_drop, List.length_take]; rfl)); (with_reducible repeat (first | refine blk_drewN ?_ _ | refine blk_drew ?_ | refine blk_alloc ?_ _)); refine blk_put (cs := #[.int .i64 0, .int .i64 0, .int .i64 0, .int .i64 0, .int .i64 0, .int .i64 0]) ?_ 0 _ (by first | rfl | (simp only [List.length_drop, List.length_take]; rfl)); (with_reducible repeat (first | refine blk_drewN ?_ _ | refine blk_drew ?_ | refine blk_alloc ?_ _)); exact BK143.out) Tryd.underlying43 rfl (by kernel_rfl)) rfl ?_
        exact ⟨by first | rfl | (simp [errW_none, errW_some] <;> rfl) | (simp [*, errW_none, errW_some] <;> rfl), by exact zh1_ HB.out GE143.out⟩
       ·rw [if_neg c17] at H
        cases H
      ·rw [if_neg c16] at H
       cases H
     ·replace c15 := Bool.eq_false_iff.mpr c15
      subst c15
      replace H := (if_neg (show ¬ (false = true) by decide)).symm.trans H
      simp only [Option.some.injEq, Prod.mk.injEq] at H
      obtain ⟨rfl, rfl, rfl, rfl, rfl, rfl, rfl⟩ := H
      go_wp2_with (first | ((with_reducible refine gate_callee (f := 33) rfl ?_); refine goesL_ (some 30) rfl rfl Tryd.func33 (by kernel_rfl) rfl #[.slice A0 l0.length c0, .int .i64 a1, .int .i64 a2] rfl zl_ ?_; (with_reducible refine (stock_place.calls kj5 _ _ l0 a1 a2 t147 false _ ?side1 ?side2 A14.out).mono ?_); (case side1 => exact zc_ (Kd.C_below HR0.out HB.out)); (case side2 => exact HC0.out); rintro e w20 ⟨rfl, hb⟩; refine ⟨_, rfl, ?_⟩; replace BK143 := Aside0.mk (blk_below (zb_ BK143.out) hb); replace HB := Aside0.mk (below_step (zh1_ HB.out GE143.out) hb); (try clear hb); have hcz21_0 : w20.cell? ⟨gb143, 0, none⟩ = some (.int .i64 0) := (blk_cell BK143.out 0).trans rfl; have hcz21_1 : w20.cell? ⟨gb143, 1, none⟩ = some (.int .i64 0) := (blk_cell BK143.out 1).trans rfl; have hcz21_2 : w20.cell? ⟨gb143, 2, none⟩ = some (.int .i64 0) := (blk_cell BK143.out 2).trans rfl; have hcz21_3 : w20.cell? ⟨gb143, 3, none⟩ = some (.int .i64 0) := (blk_cell BK143.out 3).trans rfl; have hcz21_4 : w20.cell? ⟨gb143, 4, none⟩ = some (.int .i64 0) := (blk_cell BK143.out 4).trans rfl; have hcz21_5 : w20.cell? ⟨gb143, 5, none⟩ = some (.int .i64 0) := (blk_cell BK143.out 5).trans rfl; have hfz21_0 := blk_frozen BK143.out 0; have hfz21_1 := blk_frozen BK143.out 1; have hfz21_2 := blk_frozen BK143.out 2; have hfz21_3 := blk_frozen BK143.out 3; have hfz21_4 := blk_frozen BK143.out 4; have hfz21_5 := blk_frozen BK143.out 5))
      refine bodyPost_ret (results_ct rfl _ _ gb143 43 #[.int .i64 a1, .int .i64 a2, .int .i64 0, .int .i64 0, .int .i64 0, .int .i64 0] (0, 0) _ rfl (by (with_reducible repeat (first | refine blk_drewN ?_ _ | refine blk_drew ?_ | refine blk_alloc ?_ _)); refine blk_put (cs := #[.int .i64 a1, .int .i64 a2, .int .i64 0, .int .i64 0, .int .i64 0, .int .i64 0]) ?_ 5 _ (by first | rfl | (simp only [List.length_drop, List.length_take]; rfl)); (with_reducible repeat (first | refine blk_drewN ?_ _ | refine blk_drew ?_ | refine blk_alloc ?_ _)); refine blk_put (cs := #[.int .i64 a1, .int .i64 a2, .int .i64 0, .int .i64 0, .int .i64 0, .int .i64 0]) ?_ 4 _ (by first | rfl | (simp only [List.length_drop, List.length_take]; rfl)); (with_reducible repeat (first | refine blk_drewN ?_ _ | refine blk_drew ?_ | refine blk_alloc ?_ _)); refine blk_put (cs := #[.int .i64 a1, .int .i64 a2, .int .i64 0, .int .i64 0, .int .i64 0, .int .i64 0]) ?_ 3 _ (by first | rfl | (simp only [List.length_drop, List.length_take]; rfl)); (with_reducible repeat (first | refine blk_drewN ?_ _ | refine blk_drew ?_ | refine blk_alloc ?_ _)); refine blk_put (cs := #[.int .i64 a1, .int .i64 a2, .int .i64 0, .int .i64 0, .int .i64 0, .int .i64 0]) ?_ 2 _ (by first | rfl | (simp only [List.length_drop, List.length_take]; rfl)); (with_reducible repeat (first | refine blk_drewN ?_ _ | refine blk_drew ?_ | refine blk_alloc ?_ _)); refine blk_put (cs := #[.int .i64 a1, .int .i64 0, .int .i64 0, .int .i64 0, .int .i64 0, .int .i64 0]) ?_ 1 _ (by first | rfl | (simp only [List.length_drop, List.length_take]; rfl)); (with_reducible repeat (first | refine blk_drewN ?_ _ | refine blk_drew ?_ | refine blk_alloc ?_ _)); refine blk_put (cs := #[.int .i64 0, .int .i64 0, .int .i64 0, .int .i64 0, .int .i64 0, .int .i64 0]) ?_ 0 _ (by first | rfl | (simp only [List.length_drop, List.length_take]; rfl)); (with_reducible repeat (first | refine blk_drewN ?_ _ | refine blk_drew ?_ | refine blk_alloc ?_ _)); exact BK143.out) Tryd.underlying43 rfl (by kernel_rfl)) rfl ?_
      exact ⟨by first | rfl | (simp [errW_none, errW_some] <;> rfl) | (simp [*, errW_none, errW_some] <;> rfl), by exact zh1_ HB.out GE143.out⟩
 ·rw [if_neg c5] at H
  obtain ⟨c5b0, c5b1⟩ := zq0 c5
  simp only [Option.some.injEq, Prod.mk.injEq] at H
  obtain ⟨rfl, rfl, rfl, rfl, rfl, rfl, rfl⟩ := H
  go_enter Tryd.func12, Tryd.ntmps12
  go_wp2_with (first | ((with_reducible refine gate_dst (N := 6) rfl ?_); refine box_event ?hg (N := 6) ?hd (cs := #[.int .i64 0, .int .i64 0, .int .i64 0, .int .i64 0, .int .i64 0, .int .i64 0]) (t := 43) ?hr ?_; (case hd => rfl); (case hg => rfl); (case hr => first | (go_simp; done) | (go_simp; rfl)); intro gb143 hg w22 hbox hb; have BK143 := Aside0.mk (hbox); have GW143 := Aside0.mk ((by rw [hg]; exact (below_size (zh0_ HB.out)) : w.heap.size ≤ gb143)); have GE143 := Aside0.mk ((by rw [hg]; exact (below_size (zh0_ HB.out)) : w.heap.size ≤ gb143)); replace HB := Aside0.mk (below_step (zh0_ HB.out) hb); clear hb hbox hg) | ((with_reducible refine gate_callee (f := 5) rfl ?_); refine goesL_ (some 12) rfl rfl Tryd.func5 (by kernel_rfl) rfl #[.slice A0 l0.length c0] rfl zl_ ?_; (with_reducible refine (stock_Check.calls k _ _ l0 t144 _ ?side1 ?side2 A4.out).mono ?_); (case side1 => exact zc_ (Kd.C_below HR0.out HB.out)); (case side2 => exact HC0.out); rintro e w23 ⟨rfl, hb⟩; refine ⟨_, rfl, ?_⟩; replace BK143 := Aside0.mk (blk_below (zb_ BK143.out) hb); replace HB := Aside0.mk (below_step (zh1_ HB.out GE143.out) hb); (try clear hb); have hcz24_0 : w23.cell? ⟨gb143, 0, none⟩ = some (.int .i64 0) := (blk_cell BK143.out 0).trans rfl; have hcz24_1 : w23.cell? ⟨gb143, 1, none⟩ = some (.int .i64 0) := (blk_cell BK143.out 1).trans rfl; have hcz24_2 : w23.cell? ⟨gb143, 2, none⟩ = some (.int .i64 0) := (blk_cell BK143.out 2).trans rfl; have hcz24_3 : w23.cell? ⟨gb143, 3, none⟩ = some (.int .i64 0) := (blk_cell BK143.out 3).trans rfl; have hcz24_4 : w23.cell? ⟨gb143, 4, none⟩ = some (.int .i64 0) := (blk_cell BK143.out 4).trans rfl; have hcz24_5 : w23.cell? ⟨gb143, 5, none⟩ = some (.int .i64 0) := (blk_cell BK143.out 5).trans rfl; have hfz24_0 := blk_frozen BK143.out 0; have hfz24_1 := blk_frozen BK143.out 1; have hfz24_2 := blk_frozen BK143.out 2; have hfz24_3 := blk_frozen BK143.out 3; have hfz24_4 := blk_frozen BK143.out 4; have hfz24_5 := blk_frozen BK143.out 5))
  refine bodyPost_ret (results_ct rfl _ _ gb143 43 #[.int .i64 0, .int .i64 0, .int .i64 0, .int .i64 0, .int .i64 0, .int .i64 0] (0, 0) _ rfl (by (with_reducible repeat (first | refine blk_drewN ?_ _ | refine blk_drew ?_ | refine blk_alloc ?_ _)); refine blk_put (cs := #[.int .i64 0, .int .i64 0, .int .i64 0, .int .i64 0, .int .i64 0, .int .i64 0]) ?_ 5 _ (by first | rfl | (simp only [List.length_drop, List.length_take]; rfl)); (with_reducible repeat (first | refine blk_drewN ?_ _ | refine blk_drew ?_ | refine blk_alloc ?_ _)); refine blk_put (cs := #[.int .i64 0, .int .i64 0, .int .i64 0, .int .i64 0, .int .i64 0, .int .i64 0]) ?_ 4 _ (by first | rfl | (simp only [List.length_drop, List.length_take]; rfl)); (with_reducible repeat (first | refine blk_drewN ?_ _ | refine blk_drew ?_ | refine blk_alloc ?_ _)); refine blk_put (cs := #[.int .i64 0, .int .i64 0, .int .i64 0, .int .i64 0, .int .i64 0, .int .i64 0]) ?_ 3 _ (by first | rfl | (simp only [List.length_drop, List.length_take]; rfl)); (with_reducible repeat (first | refine blk_drewN ?_ _ | refine blk_drew ?_ | refine blk_alloc ?_ _)); refine blk_put (cs := #[.int .i64 0, .int .i64 0, .int .i64 0, .int .i64 0, .int .i64 0, .int .i64 0]) ?_ 2 _ (by first | rfl | (simp only [List.length_drop, List.length_take]; rfl)); (with_reducible repeat (first | refine blk_drewN ?_ _ | refine blk_drew ?_ | refine blk_alloc ?_ _)); refine blk_put (cs := #[.int .i64 0, .int .i64 0, .int .i64 0, .int .i64 0, .int .i64 0, .int .i64 0]) ?_ 1 _ (by first | rfl | (simp only [List.length_drop, List.length_take]; rfl)); (with_reducible repeat (first | refine blk_drewN ?_ _ | refine blk_drew ?_ | refine blk_alloc ?_ _)); refine blk_put (cs := #[.int .i64 0, .int .i64 0, .int .i64 0, .int .i64 0, .int .i64 0, .int .i64 0]) ?_ 0 _ (by first | rfl | (simp only [List.length_drop, List.length_take]; rfl)); (with_reducible repeat (first | refine blk_drewN ?_ _ | refine blk_drew ?_ | refine blk_alloc ?_ _)); exact BK143.out) Tryd.underlying43 rfl (by kernel_rfl)) rfl ?_
  exact ⟨by first | rfl | (simp [errW_none, errW_some] <;> rfl) | (simp [*, errW_none, errW_some] <;> rfl), by exact zh1_ HB.out GE143.out⟩
end Go.Proofs.YtdiopojnkjkgmaaDoor.Print
namespace Go.Proofs.YtdiopojnkjkgmaaDoor.Print
open Go.RowKit Go.Proofs.YtdiopojnkjkgmaaDoorW.PrintWords Go.Proofs.YtdiopojnkjkgmaaDoorW.PrintLast Go.Proofs.YtdiopojnkjkgmaaDoorW.PrintMore
attribute [local go_sem] max2_mx min2_mn max_two min_two max_three min_three max_four min_four
set_option linter.unusedVariables false
set_option linter.unusedSimpArgs false
def api_Cell_21.f (l0 : List S43) : Option (List S43) := if l0.length * 48 ≤ 140737488355328 then some l0 else none
set_option maxHeartbeats 4000000 in
set_option maxRecDepth 100000 in
theorem api_Cell_21.calls (A0 : Option Addr) (c0 : Nat) (l0 : List (S43)) (r : List (S43)) (w : World) (hr0 : Kd.C k43 w A0 l0.length l0) (hc0 : l0.length ≤ c0) (h : api_Cell_21.f l0 = some r) :
  Calls Tryd.prog 21 #[.slice A0 l0.length c0] w fun e w' => ∃ v0_ : Value, e = .returned v0_ ∧ Kd.R k43 43 w' w.heap.size (fun _ => True) v0_ r ∧ Below w.heap.size w w' := by
 unfold api_Cell_21.f at h
 split at h
 case isFalse => cases h
 case isTrue hbig =>
 obtain rfl := Option.some.inj h
 have qS : ∀ (w : World) (a : Option Addr) (n c : Nat), (binOp .eql 22 (.slice a n c) (.slice none 0 0)).run Tryd.prog w = .ok (.bool a.isNone) w := fun w a n c => Lib.run_eql_slice_nil w _ _ a n c 0 0 Tryd.underlying22
 have HR := Aside0.mk hr0
 have HC := Aside0.mk hc0
 cases A0 with
 | none =>
  have hn : l0.length = 0 := by
   rcases Nat.eq_zero_or_pos l0.length with h0 | h0
   ·exact h0
   ·obtain ⟨_, h, _⟩ := hr0.2.2 h0; cases h
  obtain rfl : l0 = [] := List.eq_nil_of_length_eq_zero hn
  clear hr0 hc0 hn
  go_enter Tryd.func21, Tryd.ntmps21
  go_wp2
  go_ret
  exact ⟨_, rfl, Kd.R_nil _ _ _ _ _, Below.refl _ _⟩
 | some ad =>
  clear hr0 hc0
  obtain ⟨W1, hW1⟩ : ∃ W1, W1 = w.alloc (.cells #[] 43) := ⟨_, rfl⟩
  have hO : Kd.R k43 43 W1 w.heap.size (fun _ => True) (.slice (some ⟨w.heap.size, 0, none⟩) 0 0) [] := by
   refine ⟨fun _ _ => trivial, [], ⟨rfl, .inr ⟨w.heap.size, 0, #[], rfl, Nat.le_refl _, ?_, Nat.le_refl _, by simp only [maxLen]; omega, rfl, rfl⟩⟩, Reps.none _ _⟩
   rw [hW1]; exact heap_alloc_new w _
  have hB : Below w.heap.size w W1 := by rw [hW1]; exact below_alloc (Below.refl _ _) _
  have HO := Aside0.mk hO
  have HB := Aside0.mk hB
  have HS : Aside0 (w.heap.size ≤ W1.heap.size) := ⟨hB.size⟩
  have HC1 : Aside0 (Kd.C k43 W1 (some ad) l0.length l0) := ⟨Kd.C_below HR.out hB⟩
  clear hO hB
  subst hW1
  go_enter Tryd.func21, Tryd.ntmps21
  go_wp2_with (at_builtin; (refine Kd.R_append_rows k43 (w0 := w) w.heap.size rfl _ _ 22 43 _ 48 rfl Tryd.underlying22 info43 rfl (by decide) (by decide) _ [] l0 (some ad) l0.length c0 (fun _ => True) (fun _ => False) rfl rfl HO.out HC1.out (fun x cs hK => hK) (fun _ hk => hk.elim) (fun _ _ => trivial) HB.out HS.out (by simpa using hbig) ?_); rintro v1 w1 ho hb hg hat)
  go_ret
  exact ⟨v1, rfl, ho, hb⟩
end Go.Proofs.YtdiopojnkjkgmaaDoor.Print
namespace Go.Proofs.YtdiopojnkjkgmaaDoor.Print
open Go.RowKit Go.Proofs.YtdiopojnkjkgmaaDoorW.PrintWords Go.Proofs.YtdiopojnkjkgmaaDoorW.PrintLast Go.Proofs.YtdiopojnkjkgmaaDoorW.PrintMore
attribute [local go_sem] max2_mx min2_mn max_two min_two max_three min_three max_four min_four
set_option linter.unusedVariables false
set_option linter.unusedSimpArgs false
set_option maxHeartbeats 4000000 in
set_option maxRecDepth 100000 in
theorem stock_TakeBack_1.cl_Reserve (n f0 f1 f2 f3 f4 f5 : Int) (w : World) (g gc : Nat) (hg : w.heap[g]? = some (.cells #[.int .i64 f0, .int .i64 f1, .int .i64 f2, .int .i64 f3, .int .i64 f4, .int .i64 f5] 43 (0, 0))) (hc : w.heap[gc]? = some (.cells #[.int .i64 n] 2 (0, 0))) :
  Calls Tryd.prog 23 #[.pointer (some ⟨g, 0, none⟩), .pointer (some ⟨gc, 0, none⟩)] w fun e w' => e = .returned (.tuple #[]) ∧ w'.heap[g]? = some (.cells #[.int .i64 f0, .int .i64 f1, .int .i64 (wrap64 (f2 - n)), .int .i64 (wrap64 (f3 + n)), .int .i64 f4, .int .i64 f5] 43 (0, 0)) ∧ Below g w w' := by
 have hu := Tryd.underlying43
 have hne : gc ≠ g := by rintro rfl; rw [hg] at hc; injection hc with hc; injection hc with _ hc; simp at hc
 have c2 : w.cell? ⟨g, 2, none⟩ = some (.int .i64 f2) := (blk_cell hg 2).trans rfl
 have z2 : w.frozen? ⟨g, 2, none⟩ = false := blk_frozen hg 2
 have c3 : w.cell? ⟨g, 3, none⟩ = some (.int .i64 f3) := (blk_cell hg 3).trans rfl
 have z3 : w.frozen? ⟨g, 3, none⟩ = false := blk_frozen hg 3
 have c4 : w.cell? ⟨g, 4, none⟩ = some (.int .i64 f4) := (blk_cell hg 4).trans rfl
 have z4 : w.frozen? ⟨g, 4, none⟩ = false := blk_frozen hg 4
 have c5 : w.cell? ⟨g, 5, none⟩ = some (.int .i64 f5) := (blk_cell hg 5).trans rfl
 have z5 : w.frozen? ⟨g, 5, none⟩ = false := blk_frozen hg 5
 have cc : w.cell? ⟨gc, 0, none⟩ = some (.int .i64 n) := (blk_cell hc 0).trans rfl
 have HG := Aside0.mk hg
 clear hg hc
 go_enter Tryd.func23, Tryd.ntmps23
 go_wp2
 go_region
 all_goals go_end0
 all_goals exact ⟨rfl, by first | exact blk_drew (blk_put (blk_put HG.out 2 _ rfl) 3 _ rfl) | exact blk_drew (blk_put (blk_put HG.out 3 _ rfl) 2 _ rfl), (((Below.refl g w).setCell (Nat.le_refl _) _).setCell (Nat.le_refl _) _).drew⟩
set_option maxHeartbeats 4000000 in
set_option maxRecDepth 100000 in
theorem stock_TakeBack_1.cl_Send (n f0 f1 f2 f3 f4 f5 : Int) (w : World) (g gc : Nat) (hg : w.heap[g]? = some (.cells #[.int .i64 f0, .int .i64 f1, .int .i64 f2, .int .i64 f3, .int .i64 f4, .int .i64 f5] 43 (0, 0))) (hc : w.heap[gc]? = some (.cells #[.int .i64 n] 2 (0, 0))) :
  Calls Tryd.prog 31 #[.pointer (some ⟨g, 0, none⟩), .pointer (some ⟨gc, 0, none⟩)] w fun e w' => e = .returned (.tuple #[]) ∧ w'.heap[g]? = some (.cells #[.int .i64 f0, .int .i64 f1, .int .i64 f2, .int .i64 (wrap64 (f3 - n)), .int .i64 (wrap64 (f4 + n)), .int .i64 f5] 43 (0, 0)) ∧ Below g w w' := by
 have hu := Tryd.underlying43
 have hne : gc ≠ g := by rintro rfl; rw [hg] at hc; injection hc with hc; injection hc with _ hc; simp at hc
 have c2 : w.cell? ⟨g, 2, none⟩ = some (.int .i64 f2) := (blk_cell hg 2).trans rfl
 have z2 : w.frozen? ⟨g, 2, none⟩ = false := blk_frozen hg 2
 have c3 : w.cell? ⟨g, 3, none⟩ = some (.int .i64 f3) := (blk_cell hg 3).trans rfl
 have z3 : w.frozen? ⟨g, 3, none⟩ = false := blk_frozen hg 3
 have c4 : w.cell? ⟨g, 4, none⟩ = some (.int .i64 f4) := (blk_cell hg 4).trans rfl
 have z4 : w.frozen? ⟨g, 4, none⟩ = false := blk_frozen hg 4
 have c5 : w.cell? ⟨g, 5, none⟩ = some (.int .i64 f5) := (blk_cell hg 5).trans rfl
 have z5 : w.frozen? ⟨g, 5, none⟩ = false := blk_frozen hg 5
 have cc : w.cell? ⟨gc, 0, none⟩ = some (.int .i64 n) := (blk_cell hc 0).trans rfl
 have HG := Aside0.mk hg
 clear hg hc
 go_enter Tryd.func31, Tryd.ntmps31
 go_wp2
 go_region
 all_goals go_end0
 all_goals exact ⟨rfl, by first | exact blk_drew (blk_put (blk_put HG.out 3 _ rfl) 4 _ rfl) | exact blk_drew (blk_put (blk_put HG.out 4 _ rfl) 3 _ rfl), (((Below.refl g w).setCell (Nat.le_refl _) _).setCell (Nat.le_refl _) _).drew⟩
set_option maxHeartbeats 4000000 in
set_option maxRecDepth 100000 in
theorem stock_TakeBack_1.cl_TakeBack (n f0 f1 f2 f3 f4 f5 : Int) (w : World) (g gc : Nat) (hg : w.heap[g]? = some (.cells #[.int .i64 f0, .int .i64 f1, .int .i64 f2, .int .i64 f3, .int .i64 f4, .int .i64 f5] 43 (0, 0))) (hc : w.heap[gc]? = some (.cells #[.int .i64 n] 2 (0, 0))) :
  Calls Tryd.prog 34 #[.pointer (some ⟨g, 0, none⟩), .pointer (some ⟨gc, 0, none⟩)] w fun e w' => e = .returned (.tuple #[]) ∧ w'.heap[g]? = some (.cells #[.int .i64 f0, .int .i64 f1, .int .i64 (wrap64 (f2 + n)), .int .i64 f3, .int .i64 (wrap64 (f4 - n)), .int .i64 f5] 43 (0, 0)) ∧ Below g w w' := by
 have hu := Tryd.underlying43
 have hne : gc ≠ g := by rintro rfl; rw [hg] at hc; injection hc with hc; injection hc with _ hc; simp at hc
 have c2 : w.cell? ⟨g, 2, none⟩ = some (.int .i64 f2) := (blk_cell hg 2).trans rfl
 have z2 : w.frozen? ⟨g, 2, none⟩ = false := blk_frozen hg 2
 have c3 : w.cell? ⟨g, 3, none⟩ = some (.int .i64 f3) := (blk_cell hg 3).trans rfl
 have z3 : w.frozen? ⟨g, 3, none⟩ = false := blk_frozen hg 3
 have c4 : w.cell? ⟨g, 4, none⟩ = some (.int .i64 f4) := (blk_cell hg 4).trans rfl
 have z4 : w.frozen? ⟨g, 4, none⟩ = false := blk_frozen hg 4
 have c5 : w.cell? ⟨g, 5, none⟩ = some (.int .i64 f5) := (blk_cell hg 5).trans rfl
 have z5 : w.frozen? ⟨g, 5, none⟩ = false := blk_frozen hg 5
 have cc : w.cell? ⟨gc, 0, none⟩ = some (.int .i64 n) := (blk_cell hc 0).trans rfl
 have HG := Aside0.mk hg
 clear hg hc
 go_enter Tryd.func34, Tryd.ntmps34
 go_wp2
 go_region
 all_goals go_end0
 all_goals exact ⟨rfl, by first | exact blk_drew (blk_put (blk_put HG.out 4 _ rfl) 2 _ rfl) | exact blk_drew (blk_put (blk_put HG.out 2 _ rfl) 4 _ rfl), (((Below.refl g w).setCell (Nat.le_refl _) _).setCell (Nat.le_refl _) _).drew⟩
def cl_T61.f (p : Int × Int) (f0 f1 f2 f3 f4 f5 : Int) : Option (Int × Int × Int × Int × Int × Int) :=
 if p.1 = 23 then some (f0, f1, wrap64 (f2 - p.2), wrap64 (f3 + p.2), f4, f5)
 else if p.1 = 31 then some (f0, f1, f2, wrap64 (f3 - p.2), wrap64 (f4 + p.2), f5)
 else if p.1 = 34 then some (f0, f1, wrap64 (f2 + p.2), f3, wrap64 (f4 - p.2), f5)
 else none
theorem cl_T61.ok {p : Int × Int} {f0 f1 f2 f3 f4 f5 : Int} {r} (h : cl_T61.f p f0 f1 f2 f3 f4 f5 = some r) : FnOk Tryd.prog p.1 := by
 unfold cl_T61.f at h
 by_cases h23 : p.1 = 23
 ·rw [h23]; exact ⟨by decide, _, Tryd.func23, by kernel_rfl, by kernel_rfl⟩
 rw [if_neg h23] at h
 by_cases h31 : p.1 = 31
 ·rw [h31]; exact ⟨by decide, _, Tryd.func31, by kernel_rfl, by kernel_rfl⟩
 rw [if_neg h31] at h
 by_cases h34 : p.1 = 34
 ·rw [h34]; exact ⟨by decide, _, Tryd.func34, by kernel_rfl, by kernel_rfl⟩
 rw [if_neg h34] at h
 cases h
theorem cl_T61.calls (p : Int × Int) (f0 f1 f2 f3 f4 f5 r1 r2 r3 r4 r5 r6 : Int) (w : World) (g gc : Nat) (hg : w.heap[g]? = some (.cells #[.int .i64 f0, .int .i64 f1, .int .i64 f2, .int .i64 f3, .int .i64 f4, .int .i64 f5] 43 (0, 0))) (hc : w.heap[gc]? = some (.cells #[.int .i64 p.2] 2 (0, 0))) (h : cl_T61.f p f0 f1 f2 f3 f4 f5 = some (r1, r2, r3, r4, r5, r6)) :
  Calls Tryd.prog p.1.toNat #[.pointer (some ⟨g, 0, none⟩), .pointer (some ⟨gc, 0, none⟩)] w fun e w' => e = .returned (.tuple #[]) ∧ w'.heap[g]? = some (.cells #[.int .i64 r1, .int .i64 r2, .int .i64 r3, .int .i64 r4, .int .i64 r5, .int .i64 r6] 43 (0, 0)) ∧ Below g w w' := by
 unfold cl_T61.f at h
 by_cases h23 : p.1 = 23
 ·rw [if_pos h23] at h
  simp only [Option.some.injEq, Prod.mk.injEq] at h
  obtain ⟨rfl, rfl, rfl, rfl, rfl, rfl⟩ := h
  rw [h23]
  exact stock_TakeBack_1.cl_Reserve p.2 f0 f1 f2 f3 f4 f5 w g gc hg hc
 rw [if_neg h23] at h
 by_cases h31 : p.1 = 31
 ·rw [if_pos h31] at h
  simp only [Option.some.injEq, Prod.mk.injEq] at h
  obtain ⟨rfl, rfl, rfl, rfl, rfl, rfl⟩ := h
  rw [h31]
  exact stock_TakeBack_1.cl_Send p.2 f0 f1 f2 f3 f4 f5 w g gc hg hc
 rw [if_neg h31] at h
 by_cases h34 : p.1 = 34
 ·rw [if_pos h34] at h
  simp only [Option.some.injEq, Prod.mk.injEq] at h
  obtain ⟨rfl, rfl, rfl, rfl, rfl, rfl⟩ := h
  rw [h34]
  exact stock_TakeBack_1.cl_TakeBack p.2 f0 f1 f2 f3 f4 f5 w g gc hg hc
 rw [if_neg h34] at h
 cases h
end Go.Proofs.YtdiopojnkjkgmaaDoor.Print
namespace Go.Proofs.YtdiopojnkjkgmaaDoor.Print
open Go.RowKit Go.Proofs.YtdiopojnkjkgmaaDoorW.PrintWords Go.Proofs.YtdiopojnkjkgmaaDoorW.PrintLast Go.Proofs.YtdiopojnkjkgmaaDoorW.PrintMore
attribute [local go_sem] max2_mx min2_mn max_two min_two max_three min_three max_four min_four
set_option linter.unusedVariables false
set_option linter.unusedSimpArgs false
set_option maxHeartbeats 4000000 in
set_option maxRecDepth 100000 in
theorem api_Cell_44.end_ (w : World) (base : Nat) (v : Value) (n : Nat) (xs : List Value) (hO : w.ownsRow base 43 6 v n xs) (vb : Addr) (vc : Nat) (ys : List Value) (hy : ∀ j u, ys[j]? = some u → w.cell? (vb.add j) = some u) (hyl : ys.length = 6) (h1 : ∀ u ∈ ys, u.oneCell' = true) (hbig : (n + 1) * 48 ≤ 140737488355328) (hbase : base ≤ w.heap.size) :
  Calls Tryd.prog 44 #[v, .int .i64 n, .slice (some vb) 1 vc] w fun e w' => ∃ v1, e = .returned v1 ∧ w'.ownsRow base 43 6 v1 (n + 1) (xs ++ ys) ∧ w.grownBy w' v.ownBlock ∧ (v1.ownBlock = v.ownBlock ∨ v1.ownBlock = some w.heap.size) := by
 obtain ⟨i0, hi0, hz0, hzs, hzb⟩ := info_parts info43
 obtain ⟨v1, w1, hr, h2, h3, _, h5⟩ := run_append_own_at (P := Tryd.prog) (w := w) base 22 22 43 i0 (.agg #[(.int .i64 0), (.int .i64 0), (.int .i64 0), (.int .i64 0), (.int .i64 0), (.int .i64 0)]) 6 48 Tryd.underlying22 hi0 hz0 hzs hzb rfl (by omega) v n xs hO vb 1 vc ys (by simpa using hyl) hy h1 (by simp only [maxLen]; omega) hbig hbase
 have H2 := Aside0.mk h2
 have H3 := Aside0.mk h3
 have H5 := Aside0.mk h5
 clear h2 h3 h5
 have hshape : ∃ A c, v = .slice A n c ∧ n ≤ c := by
  rcases hO.2 with ⟨rfl, rfl⟩ | ⟨g, cap, cur, rfl, _, _, h, _⟩
  ·exact ⟨_, _, rfl, Nat.le_refl _⟩
  ·exact ⟨_, _, rfl, h⟩
 have HY := Aside0.mk hy
 clear hO hy
 obtain ⟨A, c, rfl, hnc⟩ := hshape
 have hn63 : n ≤ 9223372036854775807 := by omega
 go_enter Tryd.func44, Tryd.ntmps44
 go_wp2_with (at_builtin; refine Lib.wpList_append_run _ rfl _ _ _ _ rfl _ _ rfl rfl _ _ hr ?_)
 all_goals go_ret
 all_goals exact ⟨v1, rfl, H2.out, by cases A <;> exact H3.out, by cases A <;> exact H5.out⟩
set_option maxHeartbeats 4000000 in
set_option maxRecDepth 100000 in
theorem api_Cell_44.grow_ (w : World) (g n c i : Nat) (cur : Array Value) (xs : List Value) (hg : w.heap[g]? = some (.cells cur 43 (0, 0))) (hsz : cur.size = c * 6) (hxs : cur.toList.take (n * 6) = xs) (hxl : xs.length = n * 6) (h1x : ∀ u ∈ xs, u.oneCell' = true) (hi : i < n) (hnc : n ≤ c) (hroom : c < n + 1)
  (vb : Addr) (vc : Nat) (ys : List Value) (hy : ∀ j u, ys[j]? = some u → w.cell? (vb.add j) = some u) (hyl : ys.length = 6) (h1 : ∀ u ∈ ys, u.oneCell' = true) (hbig : (n + 1) * 48 ≤ 140737488355328) :
  Calls Tryd.prog 44 #[.slice (some ⟨g, 0, none⟩) n c, .int .i64 i, .slice (some vb) 1 vc] w fun e w' => ∃ G R, e = .returned (.slice (some ⟨w.heap.size, 0, none⟩) (n + 1) G) ∧ (n + 1 ≤ G ∧ G ≤ maxLen) ∧ w'.heap[w.heap.size]? = some (.cells R 43 (0, 0)) ∧ R.size = G * 6 ∧ R.toList.take ((n + 1) * 6) = xs.take (i * 6) ++ ys ++ xs.drop (i * 6) ∧ w.grownBy w' none := by
 obtain ⟨i0, hi0, hz0, hzs, hzb⟩ := info_parts info43
 have hold : (Builtin.firstCells i0.size i (.slice (some ⟨g, 0, none⟩) i c)).run Tryd.prog w.drew = .ok (xs.take (i * 6)).toArray w.drew := by
  rw [hzs]
  exact run_firstCells_some w.drew 6 i ⟨g, 0, none⟩ i c (xs.take (i * 6)) (by rw [List.length_take]; omega) (fun j v hj => by
   rw [add_plain, cell_of_row _ _ _ _ _ _ (show w.drew.heap[g]? = _ from hg), ← Array.getElem?_toList]
   rw [List.getElem?_take] at hj
   split at hj
   ·rw [← hxs, List.getElem?_take] at hj
    split at hj
    ·exact hj
    ·cases hj
   ·cases hj)
 have hkk : (n : Int) + (1 : Int) - (i : Int) = ((n + 1 - i : Nat) : Int) := by omega
 have hik : i + (n + 1 - i) = n + 1 := by omega
 obtain ⟨G, R0, hG, hGl, hR0, hR0t, hrz⟩ : ∃ G R0, n + 1 ≤ G ∧ G ≤ maxLen ∧ Array.size R0 = G * 6 ∧ R0.toList.take (i * 6) = xs.take (i * 6) ∧ (Builtin.append_ #[22, 3] 22 #[.slice (some ⟨g, 0, none⟩) i c, .int .i64 ((n : Int) + (1 : Int) - (i : Int))]).run Tryd.prog w = .ok (.slice (some ⟨w.heap.size, 0, none⟩) (n + 1) G) (w.drew.alloc (.cells R0 43)) := by
  have h := Lib.run_append_grow_zeros w 22 3 22 43 i0 _ .i64 .i64 Tryd.underlying22 Tryd.underlying3 hi0 hz0 (some ⟨g, 0, none⟩) i c (xs.take (i * 6)) hold (n + 1 - i) (by omega) (by omega) (by omega) (by omega) (by rw [hzb]; omega) (by rw [hzb, hik]; exact growslice_fits hroom hbig)
  rw [hik, ← hkk] at h
  have hge := grownCap_ge w (n + 1) c 43
  refine ⟨_, _, hge, grownCap_le_maxLen w (n + 1) c 43 (by unfold maxLen; omega), ?_, ?_, h⟩
  ·rw [Array.size_append, Array.size_append, List.size_toArray, size_zeroCells, size_zeroCells, List.length_take, show ((.agg #[(.int .i64 0), (.int .i64 0), (.int .i64 0), (.int .i64 0), (.int .i64 0), (.int .i64 0)]) : Value).cells.size = 6 from rfl, Nat.min_eq_left (by omega), ← Nat.add_mul, ← Nat.add_mul]
   congr 1
   omega
  ·rw [Array.toList_append, Array.toList_append, List.append_assoc, List.take_append_of_le_length (by rw [List.length_take]; omega), List.take_of_length_le (by rw [List.length_take]; omega)]
 have hgw : g < w.heap.size := blk_lt hg
 obtain ⟨R1, hR1⟩ : ∃ R1, R1 = (R0.toList.take (i * 6) ++ ys ++ R0.toList.drop (i * 6 + ys.length)).toArray := ⟨_, rfl⟩
 obtain ⟨R2, hR2⟩ : ∃ R2, R2 = (R1.toList.take ((i + 1) * 6) ++ xs.drop (i * 6) ++ R1.toList.drop ((i + 1) * 6 + (xs.drop (i * 6)).length)).toArray := ⟨_, rfl⟩
 have hdl : (xs.drop (i * 6)).length = (n - i) * 6 := by rw [List.length_drop, hxl, Nat.sub_mul]
 have hR1s : R1.size = G * 6 := by
  rw [hR1, List.size_toArray, List.length_append, List.length_append, List.length_take, List.length_drop, Array.length_toList, hyl, hR0]
  omega
 have hR2s : R2.size = G * 6 := by
  rw [hR2]
  generalize xs.drop (i * 6) = D at hdl
  rw [List.size_toArray, List.length_append, List.length_append, List.length_take, List.length_drop, Array.length_toList, hdl, hR1s]
  omega
 have hR1t : R1.toList.take ((i + 1) * 6) = xs.take (i * 6) ++ ys := by
  have hl0 : (R0.toList.take (i * 6)).length = i * 6 := by rw [List.length_take, Array.length_toList, hR0]; omega
  rw [hR1, List.take_append_of_le_length (by rw [List.length_append, hl0, hyl]; omega), List.take_of_length_le (by rw [List.length_append, hl0, hyl]; omega), hR0t]
 have hR2t : R2.toList.take ((n + 1) * 6) = xs.take (i * 6) ++ ys ++ xs.drop (i * 6) := by
  have hl1 : (xs.take (i * 6) ++ ys).length = (i + 1) * 6 := by rw [List.length_append, List.length_take, hyl]; omega
  rw [hR2, hR1t, List.take_append_of_le_length (by rw [List.length_append, hl1, hdl]; omega), List.take_of_length_le (by rw [List.length_append, hl1, hdl]; omega)]
 have hNW : (w.alloc (.cells R0 43)).drew.heap[w.heap.size]? = some (.cells R0 43 (0, 0)) := heap_alloc_new w _
 have hmin1 : Nat.min 1 (n + 1 - i) = 1 := Nat.min_eq_left (by omega)
 have hmin2 : Nat.min (n - i) (n - i) = n - i := Nat.min_eq_left (Nat.le_refl _)
 have hcp1 : (Builtin.copy_ #[22, 22] 3 #[.slice (some ⟨w.heap.size, i * 6, none⟩) (n + 1 - i) (G - i), .slice (some vb) 1 vc]).run Tryd.prog (w.alloc (.cells R0 43)).drew = .ok (goInt (Nat.min 1 (n + 1 - i))) ((w.alloc (.cells R0 43)).drew.setRow w.heap.size R1) := by
  rw [hR1]
  exact run_copy_rowsz _ 22 22 3 43 6 w.heap.size (i * 6) (n + 1 - i) (G - i) vb 1 vc R0 43 ys Tryd.underlying22 (by rw [hi0]; simp [hzs]) hNW (by rw [hyl, hmin1])
   (fun j v hj => by
    have := hy j v hj
    exact pw_cell_below (below_alloc (Below.refl _ _) _) this) (by rw [hyl, hR0]; omega) h1
 have hNW1 : ((w.alloc (.cells R0 43)).drew.setRow w.heap.size R1).drew.heap[w.heap.size]? = some (.cells R1 43 (0, 0)) := setRow_heap _ _ R0 R1 43 _ hNW
 have hgW1 : ((w.alloc (.cells R0 43)).drew.setRow w.heap.size R1).drew.heap[g]? = some (.cells cur 43 (0, 0)) := by
  show ((w.alloc (.cells R0 43)).setRow w.heap.size R1).heap[g]? = _
  rw [setRow_other _ _ _ _ (by omega)]
  exact blk_alloc hg _
 have hcp2 : (Builtin.copy_ #[22, 22] 3 #[.slice (some ⟨w.heap.size, (i + 1) * 6, none⟩) (n - i) (G - (i + 1)), .slice (some ⟨g, i * 6, none⟩) (n - i) (c - i)]).run Tryd.prog ((w.alloc (.cells R0 43)).drew.setRow w.heap.size R1).drew = .ok (goInt (Nat.min (n - i) (n - i))) (((w.alloc (.cells R0 43)).drew.setRow w.heap.size R1).drew.setRow w.heap.size R2) := by
  rw [hR2]
  exact run_copy_rowsz _ 22 22 3 43 6 w.heap.size ((i + 1) * 6) (n - i) (G - (i + 1)) ⟨g, i * 6, none⟩ (n - i) (c - i) R1 43 (xs.drop (i * 6)) Tryd.underlying22 (by rw [hi0]; simp [hzs]) hNW1 (by rw [hdl, hmin2])
   (fun j v hj => by
    rw [Addr.add_lit, cell_of_row _ _ _ _ _ _ hgW1, ← Array.getElem?_toList]
    rw [List.getElem?_drop, ← hxs, List.getElem?_take] at hj
    split at hj
    ·exact hj
    ·cases hj) (by rw [hdl, hR1s]; omega) (fun v hv => h1x v (List.mem_of_mem_drop hv))
 have hfin : (((w.alloc (.cells R0 43)).drew.setRow w.heap.size R1).drew.setRow w.heap.size R2).heap[w.heap.size]? = some (.cells R2 43 (0, 0)) := setRow_heap _ _ R1 R2 43 _ hNW1
 have hgrown : w.grownBy (((w.alloc (.cells R0 43)).drew.setRow w.heap.size R1).drew.setRow w.heap.size R2) none := by
  have hB : Below w.heap.size w (((w.alloc (.cells R0 43)).drew.setRow w.heap.size R1).drew.setRow w.heap.size R2) :=
   below_setRow (below_drew (below_setRow (below_drew (below_alloc (Below.refl _ _) _)) (Nat.le_refl _) _)) (Nat.le_refl _) _
  exact grown_of_below hB none
 have F1 := Aside0.mk hfin
 have F2 := Aside0.mk hgrown
 have F3 := Aside0.mk hR2s
 have F4 := Aside0.mk hR2t
 have F5 := Aside0.mk (And.intro hG hGl)
 clear hmin1 hmin2 hfin hgrown hR2s hR2t hR2 hR1t hR1s hR1 hdl hNW hNW1 hgW1 hR0 hR0t hy
 have hin : i ≤ n := by omega
 have hGi : ¬ (G = i) := by omega
 have hGi1 : ¬ (G = i + 1) := by omega
 have hci : ¬ (c = i) := by omega
 clear hkk hik hold
 have hw1 : IntKind.i64.wrap ((i : Int) + (1 : Int)) = (i : Int) + (1 : Int) := by rw [IntKind.wrap_i64]; omega
 have hb1 : (0 : Int) ≤ (i : Int) + (1 : Int) := by omega
 have mixed : Tryd.prog.follows Departure.mixedOrders = true := by kernel_rfl
 have htn : ((i : Int) + (1 : Int)).toNat = i + 1 := by omega
 (try simp only [Nat.mul_one] at hrz hcp1 hcp2)
 go_enter Tryd.func44, Tryd.ntmps44
 go_wp2_with (first
  | (at_builtin; refine Lib.wpList_append_run _ rfl _ _ _ _ rfl _ _ rfl rfl _ _ hrz ?_)
  | (at_builtin; refine wpList_copy_runI _ rfl _ _ 22 22 rfl _ _ rfl rfl hcp1 ?_)
  | (at_builtin; refine wpList_copy_runI _ rfl _ _ 22 22 rfl _ _ rfl rfl hcp2 ?_))
 go_region_law_o (refine step_copy_runI rfl _ _ 22 22 rfl _ _ (by simp [Act.eval, Act.put]) (by simp [Act.eval, Act.put]) hcp2 ?_)
 go_wp2
 go_ret
 exact ⟨G, R2, rfl, F5.out, F1.out, F3.out, F4.out, F2.out⟩
set_option maxHeartbeats 4000000 in
set_option maxRecDepth 100000 in
theorem api_Cell_44.shift_ (w : World) (g n c i : Nat) (cur : Array Value) (xs : List Value) (hg : w.heap[g]? = some (.cells cur 43 (0, 0))) (hsz : cur.size = c * 6) (hcm : c ≤ maxLen) (hxs : cur.toList.take (n * 6) = xs) (hxl : xs.length = n * 6) (h1x : ∀ u ∈ xs, u.oneCell' = true) (hi : i < n) (hroom : n + 1 ≤ c)
  (vb : Addr) (vc : Nat) (ys : List Value) (hvg : vb.block ≠ g) (hy : ∀ j u, ys[j]? = some u → w.cell? (vb.add j) = some u) (hyl : ys.length = 6) (h1 : ∀ u ∈ ys, u.oneCell' = true) :
  Calls Tryd.prog 44 #[.slice (some ⟨g, 0, none⟩) n c, .int .i64 i, .slice (some vb) 1 vc] w fun e w' => ∃ R, e = .returned (.slice (some ⟨g, 0, none⟩) (n + 1) c) ∧ w'.heap[g]? = some (.cells R 43 (0, 0)) ∧ R.size = c * 6 ∧ R.toList.take ((n + 1) * 6) = xs.take (i * 6) ++ ys ++ xs.drop (i * 6) ∧ w.grownBy w' (some g) := by
 obtain ⟨i0, hi0, hz0, hzs, hzb⟩ := info_parts info43
 have hc63 : c ≤ 9223372036854775807 := by simp only [maxLen] at hcm; omega
 have hgw : g < w.heap.size := blk_lt hg
 have hdl : (xs.drop (i * 6)).length = (n - i) * 6 := by rw [List.length_drop, hxl, Nat.sub_mul]
 obtain ⟨D, hD⟩ : ∃ D, D = xs.drop (i * 6) := ⟨_, rfl⟩
 rw [← hD] at hdl ⊢
 obtain ⟨R1, hR1⟩ : ∃ R1, R1 = (cur.toList.take ((i + 1) * 6) ++ D ++ cur.toList.drop ((i + 1) * 6 + D.length)).toArray := ⟨_, rfl⟩
 obtain ⟨R2, hR2⟩ : ∃ R2, R2 = (R1.toList.take (i * 6) ++ ys ++ R1.toList.drop (i * 6 + ys.length)).toArray := ⟨_, rfl⟩
 have hR1s : R1.size = c * 6 := by
  rw [hR1, List.size_toArray, List.length_append, List.length_append, List.length_take, List.length_drop, Array.length_toList, hdl, hsz]
  omega
 have hR2s : R2.size = c * 6 := by
  rw [hR2, List.size_toArray, List.length_append, List.length_append, List.length_take, List.length_drop, Array.length_toList, hyl, hR1s]
  omega
 have hl0 : (cur.toList.take ((i + 1) * 6)).length = (i + 1) * 6 := by rw [List.length_take, Array.length_toList, hsz]; omega
 have hR2t : R2.toList.take ((n + 1) * 6) = xs.take (i * 6) ++ ys ++ D := by
  have ht : R1.toList.take (i * 6) = xs.take (i * 6) := by
   rw [hR1, List.append_assoc, List.take_append_of_le_length (by omega), List.take_take, Nat.min_eq_left (by omega), ← hxs, List.take_take, Nat.min_eq_left (by omega)]
  have hd : R1.toList.drop (i * 6 + ys.length) = D ++ cur.toList.drop ((i + 1) * 6 + D.length) := by
   rw [hR1, hyl, List.append_assoc, show i * 6 + 6 = (i + 1) * 6 by omega, List.drop_append, List.drop_of_length_le (by omega), hl0, Nat.sub_self, List.drop_zero, List.nil_append]
  have hl2 : (xs.take (i * 6) ++ ys ++ D).length = (n + 1) * 6 := by
   rw [List.length_append, List.length_append, List.length_take, hyl, hdl]; omega
  rw [hR2, ht, hd, ← List.append_assoc, List.take_append_of_le_length (by omega), List.take_of_length_le (by omega)]
 have hmin1 : Nat.min 1 (n + 1 - i) = 1 := Nat.min_eq_left (by omega)
 have hmin2 : Nat.min (n + 1 - i) (n - i) = n - i := Nat.min_eq_right (by omega)
 have hcp1 : (Builtin.copy_ #[22, 22] 3 #[.slice (some ⟨g, (i + 1) * 6, none⟩) (n - i) (c - (i + 1)), .slice (some ⟨g, i * 6, none⟩) (n + 1 - i) (c - i)]).run Tryd.prog w.drew = .ok (goInt (Nat.min (n + 1 - i) (n - i))) (w.drew.setRow g R1) := by
  rw [hR1]
  exact run_copy_rowsz _ 22 22 3 43 6 g ((i + 1) * 6) (n - i) (c - (i + 1)) ⟨g, i * 6, none⟩ (n + 1 - i) (c - i) cur 43 D Tryd.underlying22 (by rw [hi0]; simp [hzs]) hg (by rw [hdl, hmin2])
   (fun j v hj => by
    rw [Addr.add_lit, cell_of_row _ _ _ _ _ _ (show w.drew.heap[g]? = _ from hg), ← Array.getElem?_toList]
    rw [hD, List.getElem?_drop, ← hxs, List.getElem?_take] at hj
    split at hj
    ·exact hj
    ·cases hj) (by rw [hdl, hsz]; omega) (fun v hv => h1x v (List.mem_of_mem_drop (hD ▸ hv)))
 have hg1 : (w.drew.setRow g R1).heap[g]? = some (.cells R1 43 (0, 0)) := setRow_heap _ _ cur R1 43 _ hg
 have hcp2 : (Builtin.copy_ #[22, 22] 3 #[.slice (some ⟨g, i * 6, none⟩) (n + 1 - i) (c - i), .slice (some vb) 1 vc]).run Tryd.prog (w.drew.setRow g R1) = .ok (goInt (Nat.min 1 (n + 1 - i))) ((w.drew.setRow g R1).setRow g R2) := by
  rw [hR2]
  exact run_copy_rowsz _ 22 22 3 43 6 g (i * 6) (n + 1 - i) (c - i) vb 1 vc R1 43 ys Tryd.underlying22 (by rw [hi0]; simp [hzs]) hg1 (by rw [hyl, hmin1])
   (fun j v hj => by
    rw [cell_setRow_other _ _ _ _ (by rw [show (vb.add j).block = vb.block by unfold Addr.add; split <;> rfl]; exact hvg)]
    exact hy j v hj) (by rw [hyl, hR1s]; omega) h1
 have hfin : ((w.drew.setRow g R1).setRow g R2).heap[g]? = some (.cells R2 43 (0, 0)) := setRow_heap _ _ R1 R2 43 _ hg1
 have hgrown : w.grownBy ((w.drew.setRow g R1).setRow g R2) (some g) := by
  refine ⟨rfl, rfl, rfl, by simp, fun k hk hne => ?_⟩
  have hkg : k ≠ g := fun h => hne (by rw [h])
  rw [setRow_other _ _ _ _ hkg, setRow_other _ _ _ _ hkg]
  rfl
 have hov : ∀ lb cb, (callFunc 57 #[.slice (some vb) 1 vc, .slice (some ⟨g, (i + 1) * 6, none⟩) lb cb]).run Tryd.prog w = .ok (.value (.bool false)) w := fun lb cb => by
  rw [run_callFunc_extern Tryd.func57 (by kernel_rfl) (by kernel_rfl) (by kernel_rfl) (e := Extern.SlicesOverlaps.overlaps #[22, 22] #[4]) (by kernel_rfl),
   run_overlaps_own w 22 4 43 Tryd.underlying22 6 (fun w => by simp [sizeOf, typeInfo, hi0, hzs]) vb ⟨g, (i + 1) * 6, none⟩ 1 vc lb cb hvg (ys[0]'(by omega)) (by have h := hy 0 _ (List.getElem?_eq_getElem (show 0 < ys.length by omega)); rwa [show vb.add 0 = vb by unfold Addr.add; rfl] at h) cur 43 hg (by omega)]
  rfl
 have F1 := Aside0.mk hfin
 have F2 := Aside0.mk hgrown
 have F3 := Aside0.mk hR2s
 have F4 := Aside0.mk hR2t
 clear hmin1 hmin2 hfin hgrown hR2s hR2t hR2 hR1s hR1 hl0 hg1 hy
 have hin : i ≤ n := by omega
 have hin1 : (i : Int) ≤ (n : Int) + 1 := by omega
 have hci1 : ¬ (c = i + 1) := by omega
 have hci : ¬ (c = i) := by omega
 have hw1 : IntKind.i64.wrap ((i : Int) + (1 : Int)) = (i : Int) + (1 : Int) := by rw [IntKind.wrap_i64]; omega
 have hb1 : (0 : Int) ≤ (i : Int) + (1 : Int) := by omega
 have mixed : Tryd.prog.follows Departure.mixedOrders = true := by kernel_rfl
 have htn : ((i : Int) + (1 : Int)).toNat = i + 1 := by omega
 (try simp only [Nat.mul_one] at hov hcp1 hcp2)
 go_enter Tryd.func44, Tryd.ntmps44
 go_wp2_with (simp only [hov])
 go_region_law_o (refine step_copy_runI rfl _ _ 22 22 rfl _ _ (by simp [Act.eval, Act.put]) (by simp [Act.eval, Act.put]) hcp1 ?_)
 go_wp2_with (at_builtin; refine wpList_copy_runI _ rfl _ _ 22 22 rfl _ _ rfl rfl hcp2 ?_)
 go_ret
 exact ⟨R2, rfl, F1.out, F3.out, F4.out, F2.out⟩
set_option maxHeartbeats 4000000 in
set_option maxRecDepth 100000 in
theorem api_Cell_44.ins (P0_ okp : Nat → Prop) (v : Value) (l0 : List (S43)) (i : Nat) (hi : i ≤ l0.length) (ad : Addr) (c2 : Nat) (p : S43) (ys : List Value) (base : Nat) (w : World) (hbase : base ≤ w.heap.size) (ho0 : Kd.R k43 43 w base P0_ v l0) (hyl : ys.length = 6) (hys : ∀ j u, ys[j]? = some u → w.cell? (ad.add j) = some u) (hM : k43.M w base okp p ys) (hokp : ∀ k, okp k → P0_ k ∧ some k ≠ v.ownBlock) (hfoot : ∀ g, v.ownBlock = some g → ad.block ≠ g) (hbig : (l0.length + 1) * 48 ≤ 140737488355328) :
  Calls Tryd.prog 44 #[v, .int .i64 (i : Int), .slice (some ad) 1 c2] w fun e w' => ∃ v1 : Value, e = .returned v1 ∧ Kd.R k43 43 w' base (fun k_ => (P0_ k_ ∨ w.heap.size ≤ k_)) v1 (l0.take i ++ [p] ++ l0.drop i) ∧ w.grownBy w' v.ownBlock ∧ (v1.ownBlock = v.ownBlock ∨ ∃ b, v1.ownBlock = some b ∧ w.heap.size ≤ b) := by
 have h1y := k43.K_one (k43.K_of_M hM)
 obtain ⟨h0, inner, hown, hrep⟩ := ho0
 have h1x : ∀ u ∈ inner, u.oneCell' = true := Kd.reps_one hrep (show 0 < k43.sz by decide) (fun _ _ hq => k43.K_one (k43.K_of_M hq))
 have hil := hown.1
 have fin : ∀ (v1 : Value) (w' : World), w'.ownsRow base 43 6 v1 (l0.length + 1) (inner.take (i * 6) ++ ys ++ inner.drop (i * 6)) → w.grownBy w' v.ownBlock → (v1.ownBlock = v.ownBlock ∨ ∃ b, v1.ownBlock = some b ∧ w.heap.size ≤ b) →
   Kd.R k43 43 w' base (fun k_ => (P0_ k_ ∨ w.heap.size ≤ k_)) v1 (l0.take i ++ [p] ++ l0.drop i) ∧ w.grownBy w' v.ownBlock ∧ (v1.ownBlock = v.ownBlock ∨ ∃ b, v1.ownBlock = some b ∧ w.heap.size ≤ b) := fun v1 w' ho hg hat =>
  ⟨R_inserted h0 hrep hM hokp hi ho hg hat, hg, hat⟩
 rcases Nat.lt_or_ge i l0.length with hlt | hge
 ·rcases hown.2 with ⟨_, hn⟩ | ⟨g, cap, cur, rfl, hbas, hheap, hnc, hcm, hcs, htk⟩
  ·omega
  ·have hvg : ad.block ≠ g := hfoot g rfl
   rcases Nat.lt_or_ge cap (l0.length + 1) with hroom | hroom
   ·refine (api_Cell_44.grow_ w g l0.length cap i cur inner hheap hcs htk hil h1x hlt hnc hroom ad c2 ys hys hyl h1y hbig).mono ?_
    rintro e w' ⟨G, R, rfl, ⟨hG, hGm⟩, hH, hRs, hRt, hgr⟩
    refine ⟨_, rfl, fin _ w' ⟨?_, .inr ⟨_, G, R, rfl, hbase, hH, hG, hGm, hRs, hRt⟩⟩ (grownBy_any hgr _) (.inr ⟨_, rfl, Nat.le_refl _⟩)⟩
    rw [← hRt, List.length_take, show R.toList.length = _ from (Array.length_toList).trans hRs]; omega
   ·refine (api_Cell_44.shift_ w g l0.length cap i cur inner hheap hcs hcm htk hil h1x hlt hroom ad c2 ys hvg hys hyl h1y).mono ?_
    rintro e w' ⟨R, rfl, hH, hRs, hRt, hgr⟩
    refine ⟨_, rfl, fin _ w' ⟨?_, .inr ⟨g, cap, R, rfl, hbas, hH, hroom, hcm, hRs, hRt⟩⟩ hgr (.inl rfl)⟩
    rw [← hRt, List.length_take, show R.toList.length = _ from (Array.length_toList).trans hRs]; omega
 ·obtain rfl : i = l0.length := by omega
  refine (api_Cell_44.end_ w base v l0.length inner hown ad c2 ys hys hyl h1y hbig hbase).mono ?_
  rintro e w' ⟨v1, rfl, ho, hgr, hat⟩
  refine ⟨v1, rfl, fin v1 w' ?_ hgr (hat.imp id (fun h => ⟨_, h, Nat.le_refl _⟩))⟩
  rw [List.take_of_length_le (by rw [hil]; exact Nat.le_refl _), List.drop_of_length_le (by rw [hil]; exact Nat.le_refl _), List.append_nil]
  exact ho
def api_Cell_44.f (l0 : List S43) (a1 : Int) (l2 : List S43) : Option (List S43) :=
 if 0 ≤ a1 ∧ a1 ≤ (l0.length : Int) ∧ l2.length = 1 ∧ (l0.length + 1) * 48 ≤ 140737488355328 then some (l0.take a1.toNat ++ l2 ++ l0.drop a1.toNat) else none
set_option maxHeartbeats 4000000 in
set_option maxRecDepth 100000 in
theorem api_Cell_44.calls (P0_ : Nat → Prop) (u9000_ : Value) (l0 : List (S43)) (a1 : Int) (A2 : Option Addr) (c2 : Nat) (l2 : List (S43)) (r : List (S43)) (w0 w : World) (hB : Below w0.heap.size w0 w) (ho0 : Kd.R k43 43 w w0.heap.size P0_ u9000_ l0) (hr2 : ∀ W_, Kept w W_ (fun k_ => P0_ k_) → Kd.C k43 W_ A2 l2.length l2) (hc2 : l2.length ≤ c2) (h : api_Cell_44.f l0 a1 l2 = some r) :
  Calls Tryd.prog 44 #[u9000_, .int .i64 a1, .slice A2 l2.length c2] w fun e w' => ∃ v0_ : Value, e = .returned v0_ ∧ Kd.R k43 43 w' w0.heap.size (fun k_ => (P0_ k_ ∨ w.heap.size ≤ k_)) v0_ r ∧ Below w0.heap.size w0 w' ∧ Kept w w' (fun k_ => P0_ k_) := by
 unfold api_Cell_44.f at h
 split at h
 case isFalse => cases h
 case isTrue hc =>
 obtain rfl := Option.some.inj h
 obtain ⟨ha0, ha1, hl2, hbig⟩ := hc
 obtain ⟨i, rfl⟩ := Int.eq_ofNat_of_zero_le ha0
 have hi : i ≤ l0.length := by omega
 simp only [Int.toNat_natCast]
 match l2, hl2 with
 | [p], _ =>
 have hC := hr2 w (Kept.refl _ _)
 obtain ⟨ad, hA, hel⟩ := hC.2.2 (Nat.zero_lt_one)
 subst hA
 have hfoot : ¬ P0_ ad.block := Kd.foot_neS hr2 (Nat.zero_lt_one) (show 0 < k43.sz by decide)
 obtain ⟨ys, hyl, hK, hys0⟩ := hel 0 p rfl
 have hys : ∀ j u, ys[j]? = some u → w.cell? (ad.add j) = some u := fun j u hj => by
  have := hys0 j u hj
  rwa [Nat.zero_mul, Nat.zero_add] at this
 have hM : k43.M w w0.heap.size (fun _ => False) p ys := hK
 have hbo := Kd.R_base ho0
 have h0 := ho0.1
 refine (api_Cell_44.ins P0_ (fun _ => False) u9000_ l0 i hi ad c2 p ys w0.heap.size w hB.size ho0 hyl hys hM (fun _ hk => hk.elim) (fun g hg e => hfoot (e ▸ h0 g hg)) hbig).mono ?_
 rintro e w' ⟨v1, rfl, ho, hg, hat⟩
 exact ⟨v1, rfl, ho, hB.grown hg hB.size hbo, Kept.of_grown hg (Kept.refl _ _) (fun k hk => .inl (h0 k hk))⟩
end Go.Proofs.YtdiopojnkjkgmaaDoor.Print
