-- What the claim uses alone (wip/slim.py). Lean checks it.
import Derived.Test.YtcbgichkeecgiaaDoorZAb
import Derived.Test.YtcbgichkeecgiaaDoorZAln
namespace Go.Proofs.YtcbgichkeecgiaaDoor.Print
open Go.RowKit Go.Proofs.YtcbgichkeecgiaaDoorW.PrintWords Go.Proofs.YtcbgichkeecgiaaDoorW.PrintLast Go.Proofs.YtcbgichkeecgiaaDoorW.PrintMore
attribute [local go_sem] max2_mx min2_mn max_two min_two max_three min_three max_four min_four
set_option linter.unusedVariables false
set_option linter.unusedSimpArgs false
mutual
def ladingref03_ReadNum.l0 : Nat → List Int → Int → Int → Option (Int × List Int × Int)
 | 0, _, _, _ => none
 | k + 1, x0, x5, x6 => if x6 < (x0.length : Int) then (ladingref03_ReadNum.j1 k x0 x5 x6 (decide (x6 < 10))) else (ladingref03_ReadNum.j1 k x0 x5 x6 false)
def ladingref03_ReadNum.j1 : Nat → List Int → Int → Int → Bool → Option (Int × List Int × Int)
 | 0, _, _, _, _ => none
 | k + 1, x0, x5, x6, x15 => if x15 = true then (if 0 ≤ x6 then (if x6 < (x0.length : Int) then (if x6 = 9 then (ladingref03_ReadNum.j2 k x0 x5 x6 (IntKind.u64.wrap (Int.tmod (rd x0 x6) 128)) (decide ((IntKind.u64.wrap (Int.tmod (rd x0 x6) 128)) > 1))) else (ladingref03_ReadNum.j2 k x0 x5 x6 (IntKind.u64.wrap (Int.tmod (rd x0 x6) 128)) false)) else (none)) else (none)) else (some (0, ([] : List Int), 6))
def ladingref03_ReadNum.j2 : Nat → List Int → Int → Int → Int → Bool → Option (Int × List Int × Int)
 | 0, _, _, _, _, _ => none
 | k + 1, x0, x5, x6, x7, x29 => if x29 = true then (some (0, ([] : List Int), 6)) else (if 0 ≤ (IntKind.u64.wrap (wrap64 (7 * x6))) then (if 0 ≤ x6 then (if x6 < (x0.length : Int) then (if (rd x0 x6) < 128 then (if (rd x0 x6) = 0 then (if x6 > 0 then (some (0, ([] : List Int), 6)) else ((some (([] : List Int) : List Int)).bind fun y351 => (if 0 ≤ (wrap64 (x6 + 1)) then (if (wrap64 (x6 + 1)) ≤ (x0.length : Int) then (if y351.length + (x0.drop ((wrap64 (x6 + 1)) : Int).toNat).length < 140737488355328 then (some (IntKind.u64.wrap (x5 + (shl .u64 x7 (IntKind.u64.wrap (wrap64 (7 * x6))))), (y351 ++ (x0.drop ((wrap64 (x6 + 1)) : Int).toNat)), 0)) else (none)) else (none)) else (none)))) else ((some (([] : List Int) : List Int)).bind fun y358 => (if 0 ≤ (wrap64 (x6 + 1)) then (if (wrap64 (x6 + 1)) ≤ (x0.length : Int) then (if y358.length + (x0.drop ((wrap64 (x6 + 1)) : Int).toNat).length < 140737488355328 then (some (IntKind.u64.wrap (x5 + (shl .u64 x7 (IntKind.u64.wrap (wrap64 (7 * x6))))), (y358 ++ (x0.drop ((wrap64 (x6 + 1)) : Int).toNat)), 0)) else (none)) else (none)) else (none)))) else (ladingref03_ReadNum.l0 k x0 (IntKind.u64.wrap (x5 + (shl .u64 x7 (IntKind.u64.wrap (wrap64 (7 * x6)))))) (wrap64 (x6 + 1)))) else (none)) else (none)) else (none))
end
def ladingref03_ReadNum.f (k : Nat) (l0 : List Int) : Option (Int × List Int × Int) := ladingref03_ReadNum.l0 k l0 0 0
set_option maxHeartbeats 8000000 in
set_option maxRecDepth 100000 in
theorem ladingref03_ReadNum.calls (k : Nat) (A0 : Option Addr) (c0 : Nat) (l0 : List Int) (r1 : Int) (r2 : List Int) (r3 : Int) (w : World) (hr0 : Kd.C (Kd.int .u8) w A0 l0.length l0) (hc0 : l0.length ≤ c0) (h : ladingref03_ReadNum.f k l0 = some (r1, r2, r3)) :
  Calls Tryd.prog 50 #[.slice A0 l0.length c0] w fun e w' => ∃ v1_ : Value, e = .returned (.tuple #[.int .u64 r1, v1_, .int .i64 r3]) ∧ Kd.R (Kd.int .u8) 5 w' w.heap.size (fun _ => True) v1_ r2 ∧ Below w.heap.size w w' := by
 have HR0 := Aside0.mk hr0
 have HC0 := Aside0.mk hc0
 clear hr0 hc0
 have HB := Aside0.mk (Below.refl w.heap.size w)
 have H : (ladingref03_ReadNum.l0 k l0 0 0) = some (r1, r2, r3) := h
 clear h
 have H' := Aside0.mk H
 clear H
 go_enter Tryd.func50, Tryd.ntmps50
 go_wp2
 go_loopg [5, 6] k (fun kq v5 v6 w' => ∃ (x5_1 : Int) (x6_1 : Int), v5 = .int .u64 x5_1 ∧ v6 = .int .i64 x6_1 ∧ Aside0 (ladingref03_ReadNum.l0 kq l0 x5_1 x6_1 = some (r1, r2, r3)) ∧ Aside0 (kq ≤ k) ∧ Aside0 (Below w.heap.size w w'))
 case atStart => exact ⟨(0), (0), (by first | rfl | (simp; done) | (simp [*]; done) | (simp only [i64_w]; done)), (by first | rfl | (simp; done) | (simp [*]; done) | (simp only [i64_w]; done)), H', ⟨Nat.le_refl _⟩, ⟨by exact zh0_ HB.out⟩⟩
 case round =>
  clear H'
  obtain ⟨x5_1, x6_1, rfl, rfl, HA, HK1, HB⟩ := hrel
  cases gk with
  | zero => exact absurd HA.out (by simp [ladingref03_ReadNum.l0])
  | succ k1 =>
   have H := HA.out
   clear HA
   simp only [ladingref03_ReadNum.l0] at H
   have HC2 := Aside0.mk H
   clear H
   go_upto_region 3 with (fail)
   go_cut [15] (fun v15 wc => ∃ (kq : Nat) (x15_1 : Bool), v15 = .bool x15_1 ∧ Aside0 (ladingref03_ReadNum.j1 kq l0 x5_1 x6_1 x15_1 = some (r1, r2, r3)) ∧ Aside0 (kq ≤ k1) ∧ Aside0 (Below w.heap.size w wc))
   case first =>
    have H := HC2.out
    clear HC2
    by_cases c3 : x6_1 < (l0.length : Int)
    ·rw [if_pos c3] at H
     have c3b0 : decide (x6_1 < (l0.length : Int)) = true := decide_eq_true c3
     clear c3
     (first | rw [c3b0] | (simp only [i64_w, i32_w]; rw [c3b0]) | skip)
     have H' := Aside0.mk H
     clear H
     go_wp2
     go_meet
     case rel => exact ⟨_, (decide (x6_1 < 10)), (by first | rfl | (simp; done) | (simp [*]; done) | (simp only [i64_w]; done)), H', ⟨by have := HK1.out; first | omega | exact Nat.le_refl _⟩, ⟨by exact zh0_ HB.out⟩⟩
    ·rw [if_neg c3] at H
     have c3b0 : decide (x6_1 < (l0.length : Int)) = false := decide_eq_false c3
     clear c3
     (first | rw [c3b0] | (simp only [i64_w, i32_w]; rw [c3b0]) | skip)
     have H' := Aside0.mk H
     clear H
     go_wp2
     go_meet
     case rel => exact ⟨_, (false), (by first | rfl | (simp; done) | (simp [*]; done) | (simp only [i64_w]; done)), H', ⟨by have := HK1.out; first | omega | exact Nat.le_refl _⟩, ⟨by exact zh0_ HB.out⟩⟩
   case rest =>
    clear HC2
    try clear p2
    try clear c3
    try clear c3b0
    obtain ⟨kq, x15_1, rfl, HA, HJ1, HB⟩ := hcut
    cases kq with
    | zero => exact absurd HA.out (by simp [ladingref03_ReadNum.j1])
    | succ kj1 =>
     have H := HA.out
     clear HA
     simp only [ladingref03_ReadNum.j1] at H
     by_cases c4 : x15_1 = true
     ·subst c4
      replace H := (if_pos (rfl : true = true)).symm.trans H
      by_cases c5 : 0 ≤ x6_1
      ·rw [if_pos c5] at H
       have c5b0 : decide (0 ≤ x6_1) = true := decide_eq_true c5
       clear c5
       by_cases c6 : x6_1 < (l0.length : Int)
       ·rw [if_pos c6] at H
        have c6b0 : decide (x6_1 < (l0.length : Int)) = true := decide_eq_true c6
        clear c6
        have HC7 := Aside0.mk H
        clear H
        have p348 : 0 ≤ (x6_1 : Int) := of_decide_eq_true za_
        have q348 : x6_1 < (l0.length : Int) := of_decide_eq_true za_
        obtain ⟨ad348, e348, hx348_0⟩ := Kd.at_int HR0.out x6_1 p348 q348
        cases e348
        replace hx348_0 := zx_ HB.out hx348_0
        replace p348 := eq_true p348
        replace q348 := eq_true q348
        go_upto_region 6 with (fail)
        go_cut [29] (fun v29 wc => ∃ (kq : Nat) (x29_6 : Bool), v29 = .bool x29_6 ∧ Aside0 (ladingref03_ReadNum.j2 kq l0 x5_1 x6_1 (IntKind.u64.wrap (Int.tmod (rd l0 x6_1) 128)) x29_6 = some (r1, r2, r3)) ∧ Aside0 (kq ≤ kj1) ∧ Aside0 (Below w.heap.size w wc))
        case first =>
         have H := HC7.out
         clear HC7
         by_cases c8 : x6_1 = 9
         ·rw [if_pos c8] at H
          obtain ⟨c8b0, c8b1⟩ := zq1 c8
          clear c8
          (first | rw [c8b0] | (simp only [i64_w, i32_w]; rw [c8b0]) | skip)
          have H' := Aside0.mk H
          clear H
          go_wp2
          go_meet
          case rel => exact ⟨_, (decide ((IntKind.u64.wrap (Int.tmod (rd l0 x6_1) 128)) > 1)), (by first | rfl | (simp; done) | (simp [*]; done) | (simp only [i64_w]; done)), H', ⟨by have := HK1.out; have := HJ1.out; first | omega | exact Nat.le_refl _⟩, ⟨by exact zh0_ HB.out⟩⟩
         ·rw [if_neg c8] at H
          obtain ⟨c8b0, c8b1⟩ := zq0 c8
          (first | rw [c8b0] | (simp only [i64_w, i32_w]; rw [c8b0]) | skip)
          have H' := Aside0.mk H
          clear H
          go_wp2
          go_meet
          case rel => exact ⟨_, (false), (by first | rfl | (simp; done) | (simp [*]; done) | (simp only [i64_w]; done)), H', ⟨by have := HK1.out; have := HJ1.out; first | omega | exact Nat.le_refl _⟩, ⟨by exact zh0_ HB.out⟩⟩
        case rest =>
         clear HC7
         try clear p2
         try clear c3
         try clear c3b0
         try clear p3
         try clear q3
         try clear hx3
         try clear c4
         try clear c5
         try clear c5b0
         try clear c6
         try clear c6b0
         try clear c8
         try clear c8b0
         try clear c8b1
         try clear hx348_0
         try clear p2
         try clear p348
         try clear q348
         obtain ⟨kq, x29_6, rfl, HA, HJ6, HB⟩ := hcut
         cases kq with
         | zero => exact absurd HA.out (by simp [ladingref03_ReadNum.j2])
         | succ kj6 =>
          have H := HA.out
          clear HA
          simp only [ladingref03_ReadNum.j2] at H
          by_cases c9 : x29_6 = true
          ·subst c9
           replace H := (if_pos (rfl : true = true)).symm.trans H
           simp only [Option.some.injEq, Prod.mk.injEq] at H
           obtain ⟨rfl, rfl, rfl⟩ := H
           go_wp2
           go_ret3
           exact ⟨_, by first | rfl | (simp [errW_none, errW_some] <;> rfl) | (simp [*, errW_none, errW_some] <;> rfl), by first | exact Kd.R_nil _ _ _ _ _ | exact Kd.N_nil _ _ _ _ _ | exact Kd.V_nil _ _ _ _ _ | exact Kd.Q_nil _ _ _ _ _ | exact Kd.S_nil _ _ _ _ _, by exact zh0_ HB.out⟩
          ·replace c9 := Bool.eq_false_iff.mpr c9
           subst c9
           replace H := (if_neg (show ¬ (false = true) by decide)).symm.trans H
           obtain ⟨ji10, hji10⟩ : ∃ j_ : Int, (IntKind.u64.wrap (wrap64 (7 * x6_1))) = j_ := ⟨_, rfl⟩
           replace H : (if 0 ≤ (ji10) then (if 0 ≤ x6_1 then (if x6_1 < (l0.length : Int) then (if (rd l0 x6_1) < 128 then (if (rd l0 x6_1) = 0 then (if x6_1 > 0 then (some (0, ([] : List Int), 6)) else ((some (([] : List Int) : List Int)).bind fun y351 => (if 0 ≤ (wrap64 (x6_1 + 1)) then (if (wrap64 (x6_1 + 1)) ≤ (l0.length : Int) then (if y351.length + (l0.drop ((wrap64 (x6_1 + 1)) : Int).toNat).length < 140737488355328 then (some (IntKind.u64.wrap (x5_1 + (shl .u64 (IntKind.u64.wrap (Int.tmod (rd l0 x6_1) 128)) (ji10))), (y351 ++ (l0.drop ((wrap64 (x6_1 + 1)) : Int).toNat)), 0)) else (none)) else (none)) else (none)))) else ((some (([] : List Int) : List Int)).bind fun y358 => (if 0 ≤ (wrap64 (x6_1 + 1)) then (if (wrap64 (x6_1 + 1)) ≤ (l0.length : Int) then (if y358.length + (l0.drop ((wrap64 (x6_1 + 1)) : Int).toNat).length < 140737488355328 then (some (IntKind.u64.wrap (x5_1 + (shl .u64 (IntKind.u64.wrap (Int.tmod (rd l0 x6_1) 128)) (ji10))), (y358 ++ (l0.drop ((wrap64 (x6_1 + 1)) : Int).toNat)), 0)) else (none)) else (none)) else (none)))) else (ladingref03_ReadNum.l0 kj6 l0 (IntKind.u64.wrap (x5_1 + (shl .u64 (IntKind.u64.wrap (Int.tmod (rd l0 x6_1) 128)) (ji10)))) (wrap64 (x6_1 + 1)))) else (none)) else (none)) else (none)) = some (r1, r2, r3) := by first | (rw [hji10] at H; exact H) | (simp only [hji10] at H ⊢; exact H)
           by_cases c11 : 0 ≤ (ji10)
           ·rw [if_pos c11] at H
            have c11b0 := eq_true c11
            have c11b1 : decide (0 ≤ (ji10)) = true := decide_eq_true c11
            clear c11
            obtain ⟨ji12, hji12⟩ : ∃ j_ : Int, (shl .u64 (IntKind.u64.wrap (Int.tmod (rd l0 x6_1) 128)) (ji10)) = j_ := ⟨_, rfl⟩
            replace H : (if 0 ≤ x6_1 then (if x6_1 < (l0.length : Int) then (if (rd l0 x6_1) < 128 then (if (rd l0 x6_1) = 0 then (if x6_1 > 0 then (some (0, ([] : List Int), 6)) else ((some (([] : List Int) : List Int)).bind fun y351 => (if 0 ≤ (wrap64 (x6_1 + 1)) then (if (wrap64 (x6_1 + 1)) ≤ (l0.length : Int) then (if y351.length + (l0.drop ((wrap64 (x6_1 + 1)) : Int).toNat).length < 140737488355328 then (some (IntKind.u64.wrap (x5_1 + (ji12)), (y351 ++ (l0.drop ((wrap64 (x6_1 + 1)) : Int).toNat)), 0)) else (none)) else (none)) else (none)))) else ((some (([] : List Int) : List Int)).bind fun y358 => (if 0 ≤ (wrap64 (x6_1 + 1)) then (if (wrap64 (x6_1 + 1)) ≤ (l0.length : Int) then (if y358.length + (l0.drop ((wrap64 (x6_1 + 1)) : Int).toNat).length < 140737488355328 then (some (IntKind.u64.wrap (x5_1 + (ji12)), (y358 ++ (l0.drop ((wrap64 (x6_1 + 1)) : Int).toNat)), 0)) else (none)) else (none)) else (none)))) else (ladingref03_ReadNum.l0 kj6 l0 (IntKind.u64.wrap (x5_1 + (ji12))) (wrap64 (x6_1 + 1)))) else (none)) else (none)) = some (r1, r2, r3) := by first | (rw [hji12] at H; exact H) | (simp only [hji12] at H ⊢; exact H)
            have hji12_ : (IntKind.u64.wrap ((IntKind.u64.wrap (Int.tmod (rd l0 x6_1) 128)) * 2 ^ min (ji10).toNat 64)) = ji12 := hji12
            have hji12z : (ji10) ≤ 64 → (IntKind.u64.wrap ((IntKind.u64.wrap (Int.tmod (rd l0 x6_1) 128)) * 2 ^ (ji10).toNat)) = ji12 := shl_small hji12
            by_cases c13 : 0 ≤ x6_1
            ·rw [if_pos c13] at H
             have c13b0 : decide (0 ≤ x6_1) = true := decide_eq_true c13
             clear c13
             by_cases c14 : x6_1 < (l0.length : Int)
             ·rw [if_pos c14] at H
              have c14b0 : decide (x6_1 < (l0.length : Int)) = true := decide_eq_true c14
              clear c14
              by_cases c15 : (rd l0 x6_1) < 128
              ·rw [if_pos c15] at H
               have c15b0 : decide ((rd l0 x6_1) < 128) = true := decide_eq_true c15
               clear c15
               by_cases c16 : (rd l0 x6_1) = 0
               ·rw [if_pos c16] at H
                obtain ⟨c16b0, c16b1⟩ := zq1 c16
                clear c16
                by_cases c17 : x6_1 > 0
                ·rw [if_pos c17] at H
                 have c17b0 : decide (0 < x6_1) = true := decide_eq_true c17
                 clear c17
                 simp only [Option.some.injEq, Prod.mk.injEq] at H
                 obtain ⟨rfl, rfl, rfl⟩ := H
                 have p349 : 0 ≤ (x6_1 : Int) := of_decide_eq_true za_
                 have q349 : x6_1 < (l0.length : Int) := of_decide_eq_true za_
                 obtain ⟨ad349, e349, hx349_0⟩ := Kd.at_int HR0.out x6_1 p349 q349
                 obtain rfl : ad348 = ad349 := (by injection e349)
                 replace hx349_0 := zx_ HB.out hx349_0
                 replace p349 := eq_true p349
                 replace q349 := eq_true q349
                 have p350 : 0 ≤ (x6_1 : Int) := of_decide_eq_true za_
                 have q350 : x6_1 < (l0.length : Int) := of_decide_eq_true za_
                 obtain ⟨ad350, e350, hx350_0⟩ := Kd.at_int HR0.out x6_1 p350 q350
                 obtain rfl : ad348 = ad350 := (by injection e350)
                 replace hx350_0 := zx_ HB.out hx350_0
                 replace p350 := eq_true p350
                 replace q350 := eq_true q350
                 go_wp2
                 go_ret3
                 exact ⟨_, by first | rfl | (simp [errW_none, errW_some] <;> rfl) | (simp only [← hji10, ← hji12]; first | rfl | (simp [errW_none, errW_some] <;> rfl)) | (simp [*, errW_none, errW_some] <;> rfl), by first | exact Kd.R_nil _ _ _ _ _ | exact Kd.N_nil _ _ _ _ _ | exact Kd.V_nil _ _ _ _ _ | exact Kd.Q_nil _ _ _ _ _ | exact Kd.S_nil _ _ _ _ _, by exact zh0_ HB.out⟩
                ·rw [if_neg c17] at H
                 have c17b0 : decide (0 < x6_1) = false := decide_eq_false c17
                 clear c17
                 obtain ⟨y351, hy351⟩ : ∃ y_ : List Int, y_ = (([] : List Int)) := ⟨_, rfl⟩
                 replace H : (if 0 ≤ (wrap64 (x6_1 + 1)) then (if (wrap64 (x6_1 + 1)) ≤ (l0.length : Int) then (if y351.length + (l0.drop ((wrap64 (x6_1 + 1)) : Int).toNat).length < 140737488355328 then (some (IntKind.u64.wrap (x5_1 + (ji12)), (y351 ++ (l0.drop ((wrap64 (x6_1 + 1)) : Int).toNat)), 0)) else (none)) else (none)) else (none)) = some (r1, r2, r3) := by first | (rw [hy351]; with_reducible exact H) | (have H2_ := (Option.bind_some _ _).symm.trans H; rw [hy351]; with_reducible exact H2_) | (have H2_ := (Option.bind_some _ _).symm.trans H; with_reducible exact H2_) | with_reducible exact H | (rw [hy351]; exact H) | exact H
                 have Ny351 := Aside0.mk hy351
                 clear hy351
                 obtain ⟨ji18, hji18⟩ : ∃ j_ : Int, (wrap64 (x6_1 + 1)) = j_ := ⟨_, rfl⟩
                 replace H : (if 0 ≤ (ji18) then (if (ji18) ≤ (l0.length : Int) then (if y351.length + (l0.drop ((ji18) : Int).toNat).length < 140737488355328 then (some (IntKind.u64.wrap (x5_1 + (ji12)), (y351 ++ (l0.drop ((ji18) : Int).toNat)), 0)) else (none)) else (none)) else (none)) = some (r1, r2, r3) := by first | (rw [hji18] at H; exact H) | (simp only [hji18] at H ⊢; exact H)
                 have hji18w : (IntKind.i64.wrap (x6_1 + 1)) = ji18 := (i64_w _).trans hji18
                 by_cases c19 : 0 ≤ (ji18)
                 ·rw [if_pos c19] at H
                  have c19b0 := eq_true c19
                  have c19b1 : decide (0 ≤ (ji18)) = true := decide_eq_true c19
                  clear c19
                  by_cases c20 : (ji18) ≤ (l0.length : Int)
                  ·rw [if_pos c20] at H
                   have c20b0 := eq_true c20
                   have c20b1 : decide ((ji18) ≤ (l0.length : Int)) = true := decide_eq_true c20
                   clear c20
                   by_cases c21 : y351.length + (l0.drop ((ji18) : Int).toNat).length < 140737488355328
                   ·rw [if_pos c21] at H
                    have LMc21 := Aside0.mk c21
                    clear c21
                    obtain ⟨y355, hy355⟩ : ∃ y_ : List Int, y_ = (y351 ++ (l0.drop ((ji18) : Int).toNat)) := ⟨_, rfl⟩
                    replace H : (some (IntKind.u64.wrap (x5_1 + (ji12)), y355, 0)) = some (r1, r2, r3) := by first | (rw [hy355]; with_reducible exact H) | (have H2_ := (Option.bind_some _ _).symm.trans H; rw [hy355]; with_reducible exact H2_) | (have H2_ := (Option.bind_some _ _).symm.trans H; with_reducible exact H2_) | with_reducible exact H | (rw [hy355]; exact H) | exact H
                    have Ny355 := Aside0.mk hy355
                    clear hy355
                    simp only [Option.some.injEq, Prod.mk.injEq] at H
                    obtain ⟨rfl, rfl, rfl⟩ := H
                    have p349 : 0 ≤ (x6_1 : Int) := of_decide_eq_true za_
                    have q349 : x6_1 < (l0.length : Int) := of_decide_eq_true za_
                    obtain ⟨ad349, e349, hx349_0⟩ := Kd.at_int HR0.out x6_1 p349 q349
                    obtain rfl : ad348 = ad349 := (by injection e349)
                    replace hx349_0 := zx_ HB.out hx349_0
                    replace p349 := eq_true p349
                    replace q349 := eq_true q349
                    have p350 : 0 ≤ (x6_1 : Int) := of_decide_eq_true za_
                    have q350 : x6_1 < (l0.length : Int) := of_decide_eq_true za_
                    obtain ⟨ad350, e350, hx350_0⟩ := Kd.at_int HR0.out x6_1 p350 q350
                    obtain rfl : ad348 = ad350 := (by injection e350)
                    replace hx350_0 := zx_ HB.out hx350_0
                    replace p350 := eq_true p350
                    replace q350 := eq_true q350
                    go_wp2_with (first | ((with_reducible refine gate_dst (N := 52) rfl ?_); refine Kd.R_lit (Kd.int .u8) _ 5 ?hg (N := 52) ?hd (xs := ([] : List Int)) (inner := []) (ok := fun _ => True) (okp := fun _ => True) ?hr ?hp (fun _ hk => hk) trivial (Below.refl _ _) (Nat.le_refl _) (by simp) ?_; (case hd => rfl); (case hg => rfl); (case hr => first | (go_simp; done) | (go_simp; rfl)); (case hp => exact (Reps.none _ _)); intro v352 w22 ho23 hb hg_ hnew_; clear hg_ hnew_; (first | rw [← Ny351.out] at ho23 | (simp only [Int.reduceToNat] at ho23; rw [← Ny351.out] at ho23)); have HO353 := Aside0.mk (Kd.R_lower ho23 (below_size (zh0_ HB.out))); replace HB := Aside0.mk (below_step (zh0_ HB.out) hb); clear hb ho23; obtain ⟨i024, hi024, _, hsz24, _⟩ := info_parts info5; obtain ⟨A24, hcut24, hA24, hC24⟩ := print_drop_of (P := Tryd.prog) (Value.int .u8) 0 26 5 .i64 Tryd.underlying26 hi024 hsz24 (some ad348) c0 l0 (ji18) (of_decide_eq_true za_) (of_decide_eq_true za_) HC0.out; have HR354 := Aside0.mk (Kd.C_of_reads (h1 := fun _ => rfl) (hA24 _ (Kd.reads_of_C HR0.out))); have HC354 := Aside0.mk hC24; clear hA24 hC24 hi024 hsz24) | ((with_reducible refine gate_builtin (b := .append) (xs := #[.tmp 52, .tmp 56]) rfl ?_); at_builtin; refine Kd.R_append_rows (Kd.int .u8) (w0 := w) w.heap.size rfl (.tmp 52) (.tmp 56) 26 5 (.int .u8 0) 1 rfl Tryd.underlying26 info5 rfl (by decide) (by omega) v352 y351 (l0.drop ((ji18) : Int).toNat) _ _ _ (fun _ => True) (fun _ => False) rfl rfl ?aO ?aR (fun _ _ h => h) (fun _ h => h.elim) ?aF ?aB ?aS ?aL ?_; (case aR => first | (refine Eq.mp (congrArg (fun n_ => ReadsRow _ _ _ _ n_ _) (show (l0.drop ((ji18) : Int).toNat).length = (l0.length - (ji18).toNat) from List.length_drop)) ?_; repeat (first | exact (Kd.C_below HR354.out HB.out) | (with_reducible refine Kd.C_alloc ?_ _) | (with_reducible refine Kd.C_drewN ?_ _) | (with_reducible refine Kd.C_drew ?_)); done) | (repeat (first | exact (Kd.C_below HR354.out HB.out) | (with_reducible refine Kd.C_alloc ?_ _) | (with_reducible refine Kd.C_drewN ?_ _) | (with_reducible refine Kd.C_drew ?_)))); (case aB => exact (zh0_ HB.out)); (case aF => exact (fun _ _ => trivial)); (case aO => exact (zR_ HO353.out)); (case aS => exact (below_size (zh0_ HB.out))); (case aL => have := LMc21.out; have hlx_ := (show (l0.drop ((ji18) : Int).toNat).length = (l0.length - (ji18).toNat) from List.length_drop); omega); intro v356 w25 ho hb hg hat; rw [← Ny355.out] at ho; replace HB := Aside0.mk (hb); have HO357 := Aside0.mk (ho); clear HO353 ho hb hg hat))
                    go_ret3
                    exact ⟨_, by first | rfl | (simp [errW_none, errW_some] <;> rfl) | (simp only [← hji10, ← hji12, ← hji18]; first | rfl | (simp [errW_none, errW_some] <;> rfl)) | (simp [*, errW_none, errW_some] <;> rfl), by (with_reducible repeat (first | apply Kd.R_alloc | apply Kd.R_drewN | apply Kd.R_drew)); exact HO357.out, by exact zh0_ HB.out⟩
                   ·rw [if_neg c21] at H
                    cases H
                  ·rw [if_neg c20] at H
                   cases H
                 ·rw [if_neg c19] at H
                  cases H
               ·rw [if_neg c16] at H
                obtain ⟨c16b0, c16b1⟩ := zq0 c16
                obtain ⟨y358, hy358⟩ : ∃ y_ : List Int, y_ = (([] : List Int)) := ⟨_, rfl⟩
                replace H : (if 0 ≤ (wrap64 (x6_1 + 1)) then (if (wrap64 (x6_1 + 1)) ≤ (l0.length : Int) then (if y358.length + (l0.drop ((wrap64 (x6_1 + 1)) : Int).toNat).length < 140737488355328 then (some (IntKind.u64.wrap (x5_1 + (ji12)), (y358 ++ (l0.drop ((wrap64 (x6_1 + 1)) : Int).toNat)), 0)) else (none)) else (none)) else (none)) = some (r1, r2, r3) := by first | (rw [hy358]; with_reducible exact H) | (have H2_ := (Option.bind_some _ _).symm.trans H; rw [hy358]; with_reducible exact H2_) | (have H2_ := (Option.bind_some _ _).symm.trans H; with_reducible exact H2_) | with_reducible exact H | (rw [hy358]; exact H) | exact H
                have Ny358 := Aside0.mk hy358
                clear hy358
                obtain ⟨ji26, hji26⟩ : ∃ j_ : Int, (wrap64 (x6_1 + 1)) = j_ := ⟨_, rfl⟩
                replace H : (if 0 ≤ (ji26) then (if (ji26) ≤ (l0.length : Int) then (if y358.length + (l0.drop ((ji26) : Int).toNat).length < 140737488355328 then (some (IntKind.u64.wrap (x5_1 + (ji12)), (y358 ++ (l0.drop ((ji26) : Int).toNat)), 0)) else (none)) else (none)) else (none)) = some (r1, r2, r3) := by first | (rw [hji26] at H; exact H) | (simp only [hji26] at H ⊢; exact H)
                have hji26w : (IntKind.i64.wrap (x6_1 + 1)) = ji26 := (i64_w _).trans hji26
                by_cases c27 : 0 ≤ (ji26)
                ·rw [if_pos c27] at H
                 have c27b0 := eq_true c27
                 have c27b1 : decide (0 ≤ (ji26)) = true := decide_eq_true c27
                 clear c27
                 by_cases c28 : (ji26) ≤ (l0.length : Int)
                 ·rw [if_pos c28] at H
                  have c28b0 := eq_true c28
                  have c28b1 : decide ((ji26) ≤ (l0.length : Int)) = true := decide_eq_true c28
                  clear c28
                  by_cases c29 : y358.length + (l0.drop ((ji26) : Int).toNat).length < 140737488355328
                  ·rw [if_pos c29] at H
                   have LMc29 := Aside0.mk c29
                   clear c29
                   obtain ⟨y362, hy362⟩ : ∃ y_ : List Int, y_ = (y358 ++ (l0.drop ((ji26) : Int).toNat)) := ⟨_, rfl⟩
                   replace H : (some (IntKind.u64.wrap (x5_1 + (ji12)), y362, 0)) = some (r1, r2, r3) := by first | (rw [hy362]; with_reducible exact H) | (have H2_ := (Option.bind_some _ _).symm.trans H; rw [hy362]; with_reducible exact H2_) | (have H2_ := (Option.bind_some _ _).symm.trans H; with_reducible exact H2_) | with_reducible exact H | (rw [hy362]; exact H) | exact H
                   have Ny362 := Aside0.mk hy362
                   clear hy362
                   simp only [Option.some.injEq, Prod.mk.injEq] at H
                   obtain ⟨rfl, rfl, rfl⟩ := H
                   have p349 : 0 ≤ (x6_1 : Int) := of_decide_eq_true za_
                   have q349 : x6_1 < (l0.length : Int) := of_decide_eq_true za_
                   obtain ⟨ad349, e349, hx349_0⟩ := Kd.at_int HR0.out x6_1 p349 q349
                   obtain rfl : ad348 = ad349 := (by injection e349)
                   replace hx349_0 := zx_ HB.out hx349_0
                   replace p349 := eq_true p349
                   replace q349 := eq_true q349
                   have p350 : 0 ≤ (x6_1 : Int) := of_decide_eq_true za_
                   have q350 : x6_1 < (l0.length : Int) := of_decide_eq_true za_
                   obtain ⟨ad350, e350, hx350_0⟩ := Kd.at_int HR0.out x6_1 p350 q350
                   obtain rfl : ad348 = ad350 := (by injection e350)
                   replace hx350_0 := zx_ HB.out hx350_0
                   replace p350 := eq_true p350
                   replace q350 := eq_true q350
                   go_wp2_with (first | ((with_reducible refine gate_dst (N := 52) rfl ?_); refine Kd.R_lit (Kd.int .u8) _ 5 ?hg (N := 52) ?hd (xs := ([] : List Int)) (inner := []) (ok := fun _ => True) (okp := fun _ => True) ?hr ?hp (fun _ hk => hk) trivial (Below.refl _ _) (Nat.le_refl _) (by simp) ?_; (case hd => rfl); (case hg => rfl); (case hr => first | (go_simp; done) | (go_simp; rfl)); (case hp => exact (Reps.none _ _)); intro v359 w30 ho31 hb hg_ hnew_; clear hg_ hnew_; (first | rw [← Ny358.out] at ho31 | (simp only [Int.reduceToNat] at ho31; rw [← Ny358.out] at ho31)); have HO360 := Aside0.mk (Kd.R_lower ho31 (below_size (zh0_ HB.out))); replace HB := Aside0.mk (below_step (zh0_ HB.out) hb); clear hb ho31; obtain ⟨i032, hi032, _, hsz32, _⟩ := info_parts info5; obtain ⟨A32, hcut32, hA32, hC32⟩ := print_drop_of (P := Tryd.prog) (Value.int .u8) 0 26 5 .i64 Tryd.underlying26 hi032 hsz32 (some ad348) c0 l0 (ji26) (of_decide_eq_true za_) (of_decide_eq_true za_) HC0.out; have HR361 := Aside0.mk (Kd.C_of_reads (h1 := fun _ => rfl) (hA32 _ (Kd.reads_of_C HR0.out))); have HC361 := Aside0.mk hC32; clear hA32 hC32 hi032 hsz32) | ((with_reducible refine gate_builtin (b := .append) (xs := #[.tmp 52, .tmp 56]) rfl ?_); at_builtin; refine Kd.R_append_rows (Kd.int .u8) (w0 := w) w.heap.size rfl (.tmp 52) (.tmp 56) 26 5 (.int .u8 0) 1 rfl Tryd.underlying26 info5 rfl (by decide) (by omega) v359 y358 (l0.drop ((ji26) : Int).toNat) _ _ _ (fun _ => True) (fun _ => False) rfl rfl ?aO ?aR (fun _ _ h => h) (fun _ h => h.elim) ?aF ?aB ?aS ?aL ?_; (case aR => first | (refine Eq.mp (congrArg (fun n_ => ReadsRow _ _ _ _ n_ _) (show (l0.drop ((ji26) : Int).toNat).length = (l0.length - (ji26).toNat) from List.length_drop)) ?_; repeat (first | exact (Kd.C_below HR361.out HB.out) | (with_reducible refine Kd.C_alloc ?_ _) | (with_reducible refine Kd.C_drewN ?_ _) | (with_reducible refine Kd.C_drew ?_)); done) | (repeat (first | exact (Kd.C_below HR361.out HB.out) | (with_reducible refine Kd.C_alloc ?_ _) | (with_reducible refine Kd.C_drewN ?_ _) | (with_reducible refine Kd.C_drew ?_)))); (case aB => exact (zh0_ HB.out)); (case aF => exact (fun _ _ => trivial)); (case aO => exact (zR_ HO360.out)); (case aS => exact (below_size (zh0_ HB.out))); (case aL => have := LMc29.out; have hlx_ := (show (l0.drop ((ji26) : Int).toNat).length = (l0.length - (ji26).toNat) from List.length_drop); omega); intro v363 w33 ho hb hg hat; rw [← Ny362.out] at ho; replace HB := Aside0.mk (hb); have HO364 := Aside0.mk (ho); clear HO360 ho hb hg hat))
                   go_ret3
                   exact ⟨_, by first | rfl | (simp [errW_none, errW_some] <;> rfl) | (simp only [← hji10, ← hji12, ← hji26]; first | rfl | (simp [errW_none, errW_some] <;> rfl)) | (simp [*, errW_none, errW_some] <;> rfl), by (with_reducible repeat (first | apply Kd.R_alloc | apply Kd.R_drewN | apply Kd.R_drew)); exact HO364.out, by exact zh0_ HB.out⟩
                  ·rw [if_neg c29] at H
                   cases H
                 ·rw [if_neg c28] at H
                  cases H
                ·rw [if_neg c27] at H
                 cases H
              ·rw [if_neg c15] at H
               have c15b0 : decide ((rd l0 x6_1) < 128) = false := decide_eq_false c15
               clear c15
               have H' := Aside0.mk H
               clear H
               have p349 : 0 ≤ (x6_1 : Int) := of_decide_eq_true za_
               have q349 : x6_1 < (l0.length : Int) := of_decide_eq_true za_
               obtain ⟨ad349, e349, hx349_0⟩ := Kd.at_int HR0.out x6_1 p349 q349
               obtain rfl : ad348 = ad349 := (by injection e349)
               replace hx349_0 := zx_ HB.out hx349_0
               replace p349 := eq_true p349
               replace q349 := eq_true q349
               go_wp2
               go_roundg kj6
               case measure => have := HK1.out; have := HJ1.out; have := HJ6.out; omega
               case rel => exact ⟨(IntKind.u64.wrap (x5_1 + (ji12))), (wrap64 (x6_1 + 1)), (by first | rfl | (simp; done) | (simp only [← hji12] <;> (first | rfl | simp)) | (simp [*]; done)), (by first | rfl | (simp; done) | (simp [*]; done) | (simp only [i64_w]; done)), H', ⟨by have := HK1.out; have := HJ1.out; have := HJ6.out; omega⟩, ⟨by exact zh0_ HB.out⟩⟩
             ·rw [if_neg c14] at H
              cases H
            ·rw [if_neg c13] at H
             cases H
           ·rw [if_neg c11] at H
            cases H
       ·rw [if_neg c6] at H
        cases H
      ·rw [if_neg c5] at H
       cases H
     ·replace c4 := Bool.eq_false_iff.mpr c4
      subst c4
      replace H := (if_neg (show ¬ (false = true) by decide)).symm.trans H
      simp only [Option.some.injEq, Prod.mk.injEq] at H
      obtain ⟨rfl, rfl, rfl⟩ := H
      go_wp2
      go_ret3
      exact ⟨_, by first | rfl | (simp [errW_none, errW_some] <;> rfl) | (simp [*, errW_none, errW_some] <;> rfl), by first | exact Kd.R_nil _ _ _ _ _ | exact Kd.N_nil _ _ _ _ _ | exact Kd.V_nil _ _ _ _ _ | exact Kd.Q_nil _ _ _ _ _ | exact Kd.S_nil _ _ _ _ _, by exact zh0_ HB.out⟩
end Go.Proofs.YtcbgichkeecgiaaDoor.Print
