-- What the claim uses alone (wip/slim.py). Lean checks it.
import Derived.Test.YtaddmogfeijjcaaZPrint0
import Derived.Test.YtaddmogfeijjcaaZPrint21
namespace Go.Proofs.Ytaddmogfeijjcaa.Print
open Go.RowKit Go.Proofs.YtaddmogfeijjcaaW.PrintWords Go.Proofs.YtaddmogfeijjcaaW.PrintLast Go.Proofs.YtaddmogfeijjcaaW.PrintMore
attribute [local go_sem] max2_mx min2_mn max_two min_two max_three min_three max_four min_four
set_option linter.unusedVariables false
set_option linter.unusedSimpArgs false
theorem money_Mul.and32 (x : Int) (h0 : 0 ≤ x) (h1 : x < 18446744073709551616) : Go.bits .and .u64 x 4294967295 = x % 4294967296 :=
 bits_mask .u64 64 (by decide) (fun x h0 h1 => by rw [IntKind.wrap_u64]; omega) 32 (by decide) x h0 h1
theorem money_Mul.w64 {x : Int} (h0 : 0 ≤ x) (h1 : x < 18446744073709551616) : IntKind.u64.wrap x = x := by rw [IntKind.wrap_u64]; omega
theorem money_Mul.mul_is (x y : Nat) (hx : x < 18446744073709551616) (hy : y < 18446744073709551616) : bits_Mul64.f x y = some (((x * y / 18446744073709551616 : Nat) : Int), ((x * y % 18446744073709551616 : Nat) : Int)) := by
 obtain ⟨h1, h2, h3, h4⟩ := Go.Lib.mul64_hi x y hx hy
 have ha := Go.Lib.half_mul_le (a := x / 4294967296) (b := y / 4294967296) (by omega) (by omega)
 have hb := Go.Lib.half_mul_le (a := x / 4294967296) (b := y % 4294967296) (by omega) (by omega)
 have hc := Go.Lib.half_mul_le (a := x % 4294967296) (b := y / 4294967296) (by omega) (by omega)
 have hd := Go.Lib.half_mul_le (a := x % 4294967296) (b := y % 4294967296) (by omega) (by omega)
 unfold bits_Mul64.f
 rw [money_Mul.and32 (x : Int) (by omega) (by omega), money_Mul.and32 (y : Int) (by omega) (by omega)]
 have e1 : ((x : Int) % 4294967296) * ((y : Int) % 4294967296) = ((x % 4294967296 * (y % 4294967296) : Nat) : Int) := by simp
 have e2 : ((x : Int) / 4294967296) * ((y : Int) % 4294967296) = ((x / 4294967296 * (y % 4294967296) : Nat) : Int) := by simp
 have e3 : ((x : Int) % 4294967296) * ((y : Int) / 4294967296) = ((x % 4294967296 * (y / 4294967296) : Nat) : Int) := by simp
 have e4 : ((x : Int) / 4294967296) * ((y : Int) / 4294967296) = ((x / 4294967296 * (y / 4294967296) : Nat) : Int) := by simp
 have e5 : (x : Int) * (y : Int) = ((x * y : Nat) : Int) := by simp
 rw [e1, e2, e3, e4, e5, ← h4]
 generalize x % 4294967296 * (y % 4294967296) = d at *
 generalize x / 4294967296 * (y % 4294967296) = b at *
 generalize x % 4294967296 * (y / 4294967296) = c at *
 generalize x / 4294967296 * (y / 4294967296) = a at *
 have g1 : IntKind.u64.wrap (d : Int) = (d : Int) := money_Mul.w64 (by omega) (by omega)
 have g2 : IntKind.u64.wrap (b : Int) = (b : Int) := money_Mul.w64 (by omega) (by omega)
 have g3 : IntKind.u64.wrap (c : Int) = (c : Int) := money_Mul.w64 (by omega) (by omega)
 have g4 : IntKind.u64.wrap (a : Int) = (a : Int) := money_Mul.w64 (by omega) (by omega)
 rw [g1, g2, g3, g4]
 have g5 : IntKind.u64.wrap ((b : Int) + (d : Int) / 4294967296) = ((b + d / 4294967296 : Nat) : Int) := (money_Mul.w64 (by omega) (by omega)).trans (by omega)
 rw [g5]
 generalize b + d / 4294967296 = t at *
 rw [money_Mul.and32 (t : Int) (by omega) (by omega)]
 have g6 : IntKind.u64.wrap ((t : Int) % 4294967296 + (c : Int)) = ((t % 4294967296 + c : Nat) : Int) := (money_Mul.w64 (by omega) (by omega)).trans (by omega)
 rw [g6]
 have g7 : IntKind.u64.wrap ((a : Int) + (t : Int) / 4294967296) = ((a + t / 4294967296 : Nat) : Int) := (money_Mul.w64 (by omega) (by omega)).trans (by omega)
 rw [g7]
 rw [show IntKind.u64.wrap _ = _ from (money_Mul.w64 (by omega) (by omega)).trans rfl]
 generalize x * y = p at *
 rw [IntKind.wrap_u64 (p : Int)]
 rfl
theorem money_Mul.size_is (a : Int) (h0 : -9223372036854775808 ≤ a) (h1 : a ≤ 9223372036854775807) : money_size.f a = some ((a.natAbs : Nat) : Int) := by
 unfold money_size.f
 split
 ·rw [IntKind.wrap_u64, IntKind.wrap_u64]; congr 1; omega
 ·rw [IntKind.wrap_u64]; congr 1; omega
theorem money_Mul.abs_mul (a b : Int) : a.natAbs * b.natAbs = (a * b).natAbs := (Int.natAbs_mul a b).symm
theorem money_Mul.neg_of {a b : Int} (h : (decide (a < 0) != decide (b < 0)) = true) : a * b ≤ 0 := by
 by_cases ha : a < 0
 ·by_cases hb : b < 0
  ·simp [ha, hb] at h
  ·exact Int.mul_nonpos_of_nonpos_of_nonneg (by omega) (by omega)
 ·by_cases hb : b < 0
  ·exact Int.mul_nonpos_of_nonneg_of_nonpos (by omega) (by omega)
  ·simp [ha, hb] at h
theorem money_Mul.pos_of {a b : Int} (h : (decide (a < 0) != decide (b < 0)) = false) : 0 ≤ a * b := by
 by_cases ha : a < 0
 ·by_cases hb : b < 0
  ·exact Int.mul_nonneg_of_nonpos_of_nonpos (by omega) (by omega)
  ·simp [ha, hb] at h
 ·by_cases hb : b < 0
  ·simp [ha, hb] at h
  ·exact Int.mul_nonneg (by omega) (by omega)
def money_Mul.f (a b : Int) : Option (Int × Int) := if (-9223372036854775808 ≤ a ∧ a ≤ 9223372036854775807) ∧ (-9223372036854775808 ≤ b ∧ b ≤ 9223372036854775807) then (if -9223372036854775808 ≤ a * b ∧ a * b ≤ 9223372036854775807 then some (a * b, 0) else some (0, 5)) else none
set_option maxHeartbeats 4000000 in
set_option maxRecDepth 100000 in
theorem money_Mul.pure (a0 : Int) (a1 : Int) (r1 : Int) (r2 : Int) (w : World) (h : money_Mul.f a0 a1 = some (r1, r2)) :
  Calls Try.prog 33 #[.int .i64 a0, .int .i64 a1] w fun e w' => e = .returned (.tuple #[.int .i64 r1, .int .i64 r2]) ∧ Drawn0 w w' := by
 unfold money_Mul.f at h
 split at h
 case isFalse => cases h
 case isTrue hc =>
 obtain ⟨⟨ha0, ha1⟩, hb0, hb1⟩ := hc
 have S1 := Aside0.mk (money_Mul.size_is a0 ha0 ha1)
 have S2 := Aside0.mk (money_Mul.size_is a1 hb0 hb1)
 have S3 := Aside0.mk (money_Mul.mul_is a0.natAbs a1.natAbs (by omega) (by omega))
 obtain ⟨d, hd⟩ : ∃ d, d = (decide (a0 < 0) != decide (a1 < 0)) := ⟨_, rfl⟩
 have hd' : (d = true → a0 * a1 ≤ 0) ∧ (d = false → 0 ≤ a0 * a1) := ⟨fun h => money_Mul.neg_of (hd ▸ h), fun h => money_Mul.pos_of (hd ▸ h)⟩
 have HD := Aside0.mk hd'
 have hm : (a0.natAbs * a1.natAbs) = (a0 * a1).natAbs := money_Mul.abs_mul a0 a1
 rw [hm] at S3
 obtain ⟨hi, hhi⟩ : ∃ hi, hi = (((a0 * a1).natAbs / 18446744073709551616 : Nat) : Int) := ⟨_, rfl⟩
 obtain ⟨lo, hlo⟩ : ∃ lo, lo = (((a0 * a1).natAbs % 18446744073709551616 : Nat) : Int) := ⟨_, rfl⟩
 rw [← hhi, ← hlo] at S3
 generalize a0 * a1 = m at *
 have hH : m.natAbs = hi * 18446744073709551616 + lo ∧ 0 ≤ hi ∧ 0 ≤ lo ∧ lo < 18446744073709551616 := by omega
 have HM := Aside0.mk hH
 have HF := Aside0.mk h
 clear h hd' hm hhi hlo hH ha0 ha1 hb0 hb1
 rcases Bool.eq_false_or_eq_true (decide (a0 < 0)) with t1 | t1 <;> rcases Bool.eq_false_or_eq_true (decide (a1 < 0)) with t2 | t2
 ·rw [t1, t2] at hd
  subst hd
  have hsg := HD.out.2 rfl
  by_cases z1 : hi = 0
  ·by_cases z2 : 9223372036854775808 < lo
   ·have f1 : (hi == 0) = true := beq_iff_eq.mpr z1
    have f2 : (hi != 0) = false := bne_eq_false_iff_eq.mpr z1
    have f3 : decide (9223372036854775808 < lo) = true := decide_eq_true z2
    have hr : r1 = 0 ∧ r2 = 5 := by
     have := HF.out; have hM := HM.out
     rw [if_neg (by omega)] at this
     simp only [Option.some.injEq, Prod.mk.injEq] at this
     exact ⟨this.1.symm, this.2.symm⟩
    obtain ⟨rfl, rfl⟩ := hr
    clear HF HD hsg HM z1 z2
    go_enter Try.func33, Try.ntmps33
    go_wp2_with fail
    refine (money_size.calls _ _ _ S1.out).mono ?_
    rintro e w1 ⟨rfl, ⟨n1, rfl⟩⟩
    go_wp2_with fail
    refine (money_size.calls _ _ _ S2.out).mono ?_
    rintro e w1 ⟨rfl, ⟨n2, rfl⟩⟩
    go_wp2_with fail
    refine (bits_Mul64.calls _ _ _ _ _ S3.out).mono ?_
    rintro e w1 ⟨rfl, ⟨n3, rfl⟩⟩
    go_wp2_with fail
    go_ret2
    exact ⟨by first | rfl | (rw [← HV.out]; rfl), by repeat (first | exact Drawn0.refl _ | apply Drawn0.step)⟩
   ·by_cases z3 : lo = 9223372036854775808
    ·have f1 : (hi == 0) = true := beq_iff_eq.mpr z1
     have f2 : (hi != 0) = false := bne_eq_false_iff_eq.mpr z1
     have f3 : decide (9223372036854775808 < lo) = false := decide_eq_false z2
     have f4 : (lo == 9223372036854775808) = true := beq_iff_eq.mpr z3
     have hr : r1 = 0 ∧ r2 = 5 := by
      have := HF.out; have hM := HM.out
      rw [if_neg (by omega)] at this
      simp only [Option.some.injEq, Prod.mk.injEq] at this
      exact ⟨this.1.symm, this.2.symm⟩
     obtain ⟨rfl, rfl⟩ := hr
     clear HF HD hsg HM z1 z2 z3
     go_enter Try.func33, Try.ntmps33
     go_wp2_with fail
     refine (money_size.calls _ _ _ S1.out).mono ?_
     rintro e w1 ⟨rfl, ⟨n1, rfl⟩⟩
     go_wp2_with fail
     refine (money_size.calls _ _ _ S2.out).mono ?_
     rintro e w1 ⟨rfl, ⟨n2, rfl⟩⟩
     go_wp2_with fail
     refine (bits_Mul64.calls _ _ _ _ _ S3.out).mono ?_
     rintro e w1 ⟨rfl, ⟨n3, rfl⟩⟩
     go_wp2_with fail
     go_ret2
     exact ⟨by first | rfl | (rw [← HV.out]; rfl), by repeat (first | exact Drawn0.refl _ | apply Drawn0.step)⟩
    ·have f1 : (hi == 0) = true := beq_iff_eq.mpr z1
     have f2 : (hi != 0) = false := bne_eq_false_iff_eq.mpr z1
     have f3 : decide (9223372036854775808 < lo) = false := decide_eq_false z2
     have f4 : (lo == 9223372036854775808) = false := beq_eq_false_iff_ne.mpr z3
     have hr : wrap64 lo = r1 ∧ r2 = 0 := by
      have := HF.out; have hM := HM.out
      rw [if_pos (by omega)] at this
      simp only [Option.some.injEq, Prod.mk.injEq] at this
      refine ⟨?_, this.2.symm⟩
      rw [← this.1]
      unfold wrap64
      (try rw [IntKind.wrap_u64])
      omega
     obtain ⟨hv, rfl⟩ := hr
     have HV := Aside0.mk hv
     clear hv
     clear HF HD hsg HM z1 z2 z3
     go_enter Try.func33, Try.ntmps33
     go_wp2_with fail
     refine (money_size.calls _ _ _ S1.out).mono ?_
     rintro e w1 ⟨rfl, ⟨n1, rfl⟩⟩
     go_wp2_with fail
     refine (money_size.calls _ _ _ S2.out).mono ?_
     rintro e w1 ⟨rfl, ⟨n2, rfl⟩⟩
     go_wp2_with fail
     refine (bits_Mul64.calls _ _ _ _ _ S3.out).mono ?_
     rintro e w1 ⟨rfl, ⟨n3, rfl⟩⟩
     go_wp2_with fail
     go_ret2
     exact ⟨by first | rfl | (rw [← HV.out]; rfl), by repeat (first | exact Drawn0.refl _ | apply Drawn0.step)⟩
  ·have f1 : (hi == 0) = false := beq_eq_false_iff_ne.mpr z1
   have f2 : (hi != 0) = true := bne_iff_ne.mpr z1
   have hr : r1 = 0 ∧ r2 = 5 := by
    have := HF.out; have hM := HM.out
    rw [if_neg (by omega)] at this
    simp only [Option.some.injEq, Prod.mk.injEq] at this
    exact ⟨this.1.symm, this.2.symm⟩
   obtain ⟨rfl, rfl⟩ := hr
   clear HF HD hsg HM z1
   go_enter Try.func33, Try.ntmps33
   go_wp2_with fail
   refine (money_size.calls _ _ _ S1.out).mono ?_
   rintro e w1 ⟨rfl, ⟨n1, rfl⟩⟩
   go_wp2_with fail
   refine (money_size.calls _ _ _ S2.out).mono ?_
   rintro e w1 ⟨rfl, ⟨n2, rfl⟩⟩
   go_wp2_with fail
   refine (bits_Mul64.calls _ _ _ _ _ S3.out).mono ?_
   rintro e w1 ⟨rfl, ⟨n3, rfl⟩⟩
   go_wp2_with fail
   go_ret2
   exact ⟨by first | rfl | (rw [← HV.out]; rfl), by repeat (first | exact Drawn0.refl _ | apply Drawn0.step)⟩
 ·rw [t1, t2] at hd
  subst hd
  have hsg := HD.out.1 rfl
  by_cases z1 : hi = 0
  ·by_cases z2 : 9223372036854775808 < lo
   ·have f1 : (hi == 0) = true := beq_iff_eq.mpr z1
    have f2 : (hi != 0) = false := bne_eq_false_iff_eq.mpr z1
    have f3 : decide (9223372036854775808 < lo) = true := decide_eq_true z2
    have hr : r1 = 0 ∧ r2 = 5 := by
     have := HF.out; have hM := HM.out
     rw [if_neg (by omega)] at this
     simp only [Option.some.injEq, Prod.mk.injEq] at this
     exact ⟨this.1.symm, this.2.symm⟩
    obtain ⟨rfl, rfl⟩ := hr
    clear HF HD hsg HM z1 z2
    go_enter Try.func33, Try.ntmps33
    go_wp2_with fail
    refine (money_size.calls _ _ _ S1.out).mono ?_
    rintro e w1 ⟨rfl, ⟨n1, rfl⟩⟩
    go_wp2_with fail
    refine (money_size.calls _ _ _ S2.out).mono ?_
    rintro e w1 ⟨rfl, ⟨n2, rfl⟩⟩
    go_wp2_with fail
    refine (bits_Mul64.calls _ _ _ _ _ S3.out).mono ?_
    rintro e w1 ⟨rfl, ⟨n3, rfl⟩⟩
    go_wp2_with fail
    go_ret2
    exact ⟨by first | rfl | (rw [← HV.out]; rfl), by repeat (first | exact Drawn0.refl _ | apply Drawn0.step)⟩
   ·by_cases z3 : lo = 9223372036854775808
    ·have f1 : (hi == 0) = true := beq_iff_eq.mpr z1
     have f2 : (hi != 0) = false := bne_eq_false_iff_eq.mpr z1
     have f3 : decide (9223372036854775808 < lo) = false := decide_eq_false z2
     have f4 : (lo == 9223372036854775808) = true := beq_iff_eq.mpr z3
     have hr : wrap64 (IntKind.u64.wrap (-lo)) = r1 ∧ r2 = 0 := by
      have := HF.out; have hM := HM.out
      rw [if_pos (by omega)] at this
      simp only [Option.some.injEq, Prod.mk.injEq] at this
      refine ⟨?_, this.2.symm⟩
      rw [← this.1]
      unfold wrap64
      (try rw [IntKind.wrap_u64])
      omega
     obtain ⟨hv, rfl⟩ := hr
     have HV := Aside0.mk hv
     clear hv
     clear HF HD hsg HM z1 z2 z3
     go_enter Try.func33, Try.ntmps33
     go_wp2_with fail
     refine (money_size.calls _ _ _ S1.out).mono ?_
     rintro e w1 ⟨rfl, ⟨n1, rfl⟩⟩
     go_wp2_with fail
     refine (money_size.calls _ _ _ S2.out).mono ?_
     rintro e w1 ⟨rfl, ⟨n2, rfl⟩⟩
     go_wp2_with fail
     refine (bits_Mul64.calls _ _ _ _ _ S3.out).mono ?_
     rintro e w1 ⟨rfl, ⟨n3, rfl⟩⟩
     go_wp2_with fail
     go_ret2
     exact ⟨by first | rfl | (rw [← HV.out]; rfl), by repeat (first | exact Drawn0.refl _ | apply Drawn0.step)⟩
    ·have f1 : (hi == 0) = true := beq_iff_eq.mpr z1
     have f2 : (hi != 0) = false := bne_eq_false_iff_eq.mpr z1
     have f3 : decide (9223372036854775808 < lo) = false := decide_eq_false z2
     have f4 : (lo == 9223372036854775808) = false := beq_eq_false_iff_ne.mpr z3
     have hr : wrap64 (IntKind.u64.wrap (-lo)) = r1 ∧ r2 = 0 := by
      have := HF.out; have hM := HM.out
      rw [if_pos (by omega)] at this
      simp only [Option.some.injEq, Prod.mk.injEq] at this
      refine ⟨?_, this.2.symm⟩
      rw [← this.1]
      unfold wrap64
      (try rw [IntKind.wrap_u64])
      omega
     obtain ⟨hv, rfl⟩ := hr
     have HV := Aside0.mk hv
     clear hv
     clear HF HD hsg HM z1 z2 z3
     go_enter Try.func33, Try.ntmps33
     go_wp2_with fail
     refine (money_size.calls _ _ _ S1.out).mono ?_
     rintro e w1 ⟨rfl, ⟨n1, rfl⟩⟩
     go_wp2_with fail
     refine (money_size.calls _ _ _ S2.out).mono ?_
     rintro e w1 ⟨rfl, ⟨n2, rfl⟩⟩
     go_wp2_with fail
     refine (bits_Mul64.calls _ _ _ _ _ S3.out).mono ?_
     rintro e w1 ⟨rfl, ⟨n3, rfl⟩⟩
     go_wp2_with fail
     go_ret2
     exact ⟨by first | rfl | (rw [← HV.out]; rfl), by repeat (first | exact Drawn0.refl _ | apply Drawn0.step)⟩
  ·have f1 : (hi == 0) = false := beq_eq_false_iff_ne.mpr z1
   have f2 : (hi != 0) = true := bne_iff_ne.mpr z1
   have hr : r1 = 0 ∧ r2 = 5 := by
    have := HF.out; have hM := HM.out
    rw [if_neg (by omega)] at this
    simp only [Option.some.injEq, Prod.mk.injEq] at this
    exact ⟨this.1.symm, this.2.symm⟩
   obtain ⟨rfl, rfl⟩ := hr
   clear HF HD hsg HM z1
   go_enter Try.func33, Try.ntmps33
   go_wp2_with fail
   refine (money_size.calls _ _ _ S1.out).mono ?_
   rintro e w1 ⟨rfl, ⟨n1, rfl⟩⟩
   go_wp2_with fail
   refine (money_size.calls _ _ _ S2.out).mono ?_
   rintro e w1 ⟨rfl, ⟨n2, rfl⟩⟩
   go_wp2_with fail
   refine (bits_Mul64.calls _ _ _ _ _ S3.out).mono ?_
   rintro e w1 ⟨rfl, ⟨n3, rfl⟩⟩
   go_wp2_with fail
   go_ret2
   exact ⟨by first | rfl | (rw [← HV.out]; rfl), by repeat (first | exact Drawn0.refl _ | apply Drawn0.step)⟩
 ·rw [t1, t2] at hd
  subst hd
  have hsg := HD.out.1 rfl
  by_cases z1 : hi = 0
  ·by_cases z2 : 9223372036854775808 < lo
   ·have f1 : (hi == 0) = true := beq_iff_eq.mpr z1
    have f2 : (hi != 0) = false := bne_eq_false_iff_eq.mpr z1
    have f3 : decide (9223372036854775808 < lo) = true := decide_eq_true z2
    have hr : r1 = 0 ∧ r2 = 5 := by
     have := HF.out; have hM := HM.out
     rw [if_neg (by omega)] at this
     simp only [Option.some.injEq, Prod.mk.injEq] at this
     exact ⟨this.1.symm, this.2.symm⟩
    obtain ⟨rfl, rfl⟩ := hr
    clear HF HD hsg HM z1 z2
    go_enter Try.func33, Try.ntmps33
    go_wp2_with fail
    refine (money_size.calls _ _ _ S1.out).mono ?_
    rintro e w1 ⟨rfl, ⟨n1, rfl⟩⟩
    go_wp2_with fail
    refine (money_size.calls _ _ _ S2.out).mono ?_
    rintro e w1 ⟨rfl, ⟨n2, rfl⟩⟩
    go_wp2_with fail
    refine (bits_Mul64.calls _ _ _ _ _ S3.out).mono ?_
    rintro e w1 ⟨rfl, ⟨n3, rfl⟩⟩
    go_wp2_with fail
    go_ret2
    exact ⟨by first | rfl | (rw [← HV.out]; rfl), by repeat (first | exact Drawn0.refl _ | apply Drawn0.step)⟩
   ·by_cases z3 : lo = 9223372036854775808
    ·have f1 : (hi == 0) = true := beq_iff_eq.mpr z1
     have f2 : (hi != 0) = false := bne_eq_false_iff_eq.mpr z1
     have f3 : decide (9223372036854775808 < lo) = false := decide_eq_false z2
     have f4 : (lo == 9223372036854775808) = true := beq_iff_eq.mpr z3
     have hr : wrap64 (IntKind.u64.wrap (-lo)) = r1 ∧ r2 = 0 := by
      have := HF.out; have hM := HM.out
      rw [if_pos (by omega)] at this
      simp only [Option.some.injEq, Prod.mk.injEq] at this
      refine ⟨?_, this.2.symm⟩
      rw [← this.1]
      unfold wrap64
      (try rw [IntKind.wrap_u64])
      omega
     obtain ⟨hv, rfl⟩ := hr
     have HV := Aside0.mk hv
     clear hv
     clear HF HD hsg HM z1 z2 z3
     go_enter Try.func33, Try.ntmps33
     go_wp2_with fail
     refine (money_size.calls _ _ _ S1.out).mono ?_
     rintro e w1 ⟨rfl, ⟨n1, rfl⟩⟩
     go_wp2_with fail
     refine (money_size.calls _ _ _ S2.out).mono ?_
     rintro e w1 ⟨rfl, ⟨n2, rfl⟩⟩
     go_wp2_with fail
     refine (bits_Mul64.calls _ _ _ _ _ S3.out).mono ?_
     rintro e w1 ⟨rfl, ⟨n3, rfl⟩⟩
     go_wp2_with fail
     go_ret2
     exact ⟨by first | rfl | (rw [← HV.out]; rfl), by repeat (first | exact Drawn0.refl _ | apply Drawn0.step)⟩
    ·have f1 : (hi == 0) = true := beq_iff_eq.mpr z1
     have f2 : (hi != 0) = false := bne_eq_false_iff_eq.mpr z1
     have f3 : decide (9223372036854775808 < lo) = false := decide_eq_false z2
     have f4 : (lo == 9223372036854775808) = false := beq_eq_false_iff_ne.mpr z3
     have hr : wrap64 (IntKind.u64.wrap (-lo)) = r1 ∧ r2 = 0 := by
      have := HF.out; have hM := HM.out
      rw [if_pos (by omega)] at this
      simp only [Option.some.injEq, Prod.mk.injEq] at this
      refine ⟨?_, this.2.symm⟩
      rw [← this.1]
      unfold wrap64
      (try rw [IntKind.wrap_u64])
      omega
     obtain ⟨hv, rfl⟩ := hr
     have HV := Aside0.mk hv
     clear hv
     clear HF HD hsg HM z1 z2 z3
     go_enter Try.func33, Try.ntmps33
     go_wp2_with fail
     refine (money_size.calls _ _ _ S1.out).mono ?_
     rintro e w1 ⟨rfl, ⟨n1, rfl⟩⟩
     go_wp2_with fail
     refine (money_size.calls _ _ _ S2.out).mono ?_
     rintro e w1 ⟨rfl, ⟨n2, rfl⟩⟩
     go_wp2_with fail
     refine (bits_Mul64.calls _ _ _ _ _ S3.out).mono ?_
     rintro e w1 ⟨rfl, ⟨n3, rfl⟩⟩
     go_wp2_with fail
     go_ret2
     exact ⟨by first | rfl | (rw [← HV.out]; rfl), by repeat (first | exact Drawn0.refl _ | apply Drawn0.step)⟩
  ·have f1 : (hi == 0) = false := beq_eq_false_iff_ne.mpr z1
   have f2 : (hi != 0) = true := bne_iff_ne.mpr z1
   have hr : r1 = 0 ∧ r2 = 5 := by
    have := HF.out; have hM := HM.out
    rw [if_neg (by omega)] at this
    simp only [Option.some.injEq, Prod.mk.injEq] at this
    exact ⟨this.1.symm, this.2.symm⟩
   obtain ⟨rfl, rfl⟩ := hr
   clear HF HD hsg HM z1
   go_enter Try.func33, Try.ntmps33
   go_wp2_with fail
   refine (money_size.calls _ _ _ S1.out).mono ?_
   rintro e w1 ⟨rfl, ⟨n1, rfl⟩⟩
   go_wp2_with fail
   refine (money_size.calls _ _ _ S2.out).mono ?_
   rintro e w1 ⟨rfl, ⟨n2, rfl⟩⟩
   go_wp2_with fail
   refine (bits_Mul64.calls _ _ _ _ _ S3.out).mono ?_
   rintro e w1 ⟨rfl, ⟨n3, rfl⟩⟩
   go_wp2_with fail
   go_ret2
   exact ⟨by first | rfl | (rw [← HV.out]; rfl), by repeat (first | exact Drawn0.refl _ | apply Drawn0.step)⟩
 ·rw [t1, t2] at hd
  subst hd
  have hsg := HD.out.2 rfl
  by_cases z1 : hi = 0
  ·by_cases z2 : 9223372036854775808 < lo
   ·have f1 : (hi == 0) = true := beq_iff_eq.mpr z1
    have f2 : (hi != 0) = false := bne_eq_false_iff_eq.mpr z1
    have f3 : decide (9223372036854775808 < lo) = true := decide_eq_true z2
    have hr : r1 = 0 ∧ r2 = 5 := by
     have := HF.out; have hM := HM.out
     rw [if_neg (by omega)] at this
     simp only [Option.some.injEq, Prod.mk.injEq] at this
     exact ⟨this.1.symm, this.2.symm⟩
    obtain ⟨rfl, rfl⟩ := hr
    clear HF HD hsg HM z1 z2
    go_enter Try.func33, Try.ntmps33
    go_wp2_with fail
    refine (money_size.calls _ _ _ S1.out).mono ?_
    rintro e w1 ⟨rfl, ⟨n1, rfl⟩⟩
    go_wp2_with fail
    refine (money_size.calls _ _ _ S2.out).mono ?_
    rintro e w1 ⟨rfl, ⟨n2, rfl⟩⟩
    go_wp2_with fail
    refine (bits_Mul64.calls _ _ _ _ _ S3.out).mono ?_
    rintro e w1 ⟨rfl, ⟨n3, rfl⟩⟩
    go_wp2_with fail
    go_ret2
    exact ⟨by first | rfl | (rw [← HV.out]; rfl), by repeat (first | exact Drawn0.refl _ | apply Drawn0.step)⟩
   ·by_cases z3 : lo = 9223372036854775808
    ·have f1 : (hi == 0) = true := beq_iff_eq.mpr z1
     have f2 : (hi != 0) = false := bne_eq_false_iff_eq.mpr z1
     have f3 : decide (9223372036854775808 < lo) = false := decide_eq_false z2
     have f4 : (lo == 9223372036854775808) = true := beq_iff_eq.mpr z3
     have hr : r1 = 0 ∧ r2 = 5 := by
      have := HF.out; have hM := HM.out
      rw [if_neg (by omega)] at this
      simp only [Option.some.injEq, Prod.mk.injEq] at this
      exact ⟨this.1.symm, this.2.symm⟩
     obtain ⟨rfl, rfl⟩ := hr
     clear HF HD hsg HM z1 z2 z3
     go_enter Try.func33, Try.ntmps33
     go_wp2_with fail
     refine (money_size.calls _ _ _ S1.out).mono ?_
     rintro e w1 ⟨rfl, ⟨n1, rfl⟩⟩
     go_wp2_with fail
     refine (money_size.calls _ _ _ S2.out).mono ?_
     rintro e w1 ⟨rfl, ⟨n2, rfl⟩⟩
     go_wp2_with fail
     refine (bits_Mul64.calls _ _ _ _ _ S3.out).mono ?_
     rintro e w1 ⟨rfl, ⟨n3, rfl⟩⟩
     go_wp2_with fail
     go_ret2
     exact ⟨by first | rfl | (rw [← HV.out]; rfl), by repeat (first | exact Drawn0.refl _ | apply Drawn0.step)⟩
    ·have f1 : (hi == 0) = true := beq_iff_eq.mpr z1
     have f2 : (hi != 0) = false := bne_eq_false_iff_eq.mpr z1
     have f3 : decide (9223372036854775808 < lo) = false := decide_eq_false z2
     have f4 : (lo == 9223372036854775808) = false := beq_eq_false_iff_ne.mpr z3
     have hr : wrap64 lo = r1 ∧ r2 = 0 := by
      have := HF.out; have hM := HM.out
      rw [if_pos (by omega)] at this
      simp only [Option.some.injEq, Prod.mk.injEq] at this
      refine ⟨?_, this.2.symm⟩
      rw [← this.1]
      unfold wrap64
      (try rw [IntKind.wrap_u64])
      omega
     obtain ⟨hv, rfl⟩ := hr
     have HV := Aside0.mk hv
     clear hv
     clear HF HD hsg HM z1 z2 z3
     go_enter Try.func33, Try.ntmps33
     go_wp2_with fail
     refine (money_size.calls _ _ _ S1.out).mono ?_
     rintro e w1 ⟨rfl, ⟨n1, rfl⟩⟩
     go_wp2_with fail
     refine (money_size.calls _ _ _ S2.out).mono ?_
     rintro e w1 ⟨rfl, ⟨n2, rfl⟩⟩
     go_wp2_with fail
     refine (bits_Mul64.calls _ _ _ _ _ S3.out).mono ?_
     rintro e w1 ⟨rfl, ⟨n3, rfl⟩⟩
     go_wp2_with fail
     go_ret2
     exact ⟨by first | rfl | (rw [← HV.out]; rfl), by repeat (first | exact Drawn0.refl _ | apply Drawn0.step)⟩
  ·have f1 : (hi == 0) = false := beq_eq_false_iff_ne.mpr z1
   have f2 : (hi != 0) = true := bne_iff_ne.mpr z1
   have hr : r1 = 0 ∧ r2 = 5 := by
    have := HF.out; have hM := HM.out
    rw [if_neg (by omega)] at this
    simp only [Option.some.injEq, Prod.mk.injEq] at this
    exact ⟨this.1.symm, this.2.symm⟩
   obtain ⟨rfl, rfl⟩ := hr
   clear HF HD hsg HM z1
   go_enter Try.func33, Try.ntmps33
   go_wp2_with fail
   refine (money_size.calls _ _ _ S1.out).mono ?_
   rintro e w1 ⟨rfl, ⟨n1, rfl⟩⟩
   go_wp2_with fail
   refine (money_size.calls _ _ _ S2.out).mono ?_
   rintro e w1 ⟨rfl, ⟨n2, rfl⟩⟩
   go_wp2_with fail
   refine (bits_Mul64.calls _ _ _ _ _ S3.out).mono ?_
   rintro e w1 ⟨rfl, ⟨n3, rfl⟩⟩
   go_wp2_with fail
   go_ret2
   exact ⟨by first | rfl | (rw [← HV.out]; rfl), by repeat (first | exact Drawn0.refl _ | apply Drawn0.step)⟩
theorem money_Mul.calls (a0 : Int) (a1 : Int) (r1 : Int) (r2 : Int) (w : World) (h : money_Mul.f a0 a1 = some (r1, r2)) :
  Calls Try.prog 33 #[.int .i64 a0, .int .i64 a1] w fun e w' => e = .returned (.tuple #[.int .i64 r1, .int .i64 r2]) ∧ Below w.heap.size w w' := by
 refine (money_Mul.pure a0 a1 r1 r2 w h).mono ?_
 rintro e w' ⟨rfl, ⟨nd, rfl⟩⟩
 exact ⟨rfl, pw_below_drewN (Below.refl _ _) nd⟩
end Go.Proofs.Ytaddmogfeijjcaa.Print
