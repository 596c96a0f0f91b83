-- What the claim uses alone (wip/slim.py). Lean checks it.
import Derived.Test.YtaddmogfeijjcaaZAb
import Derived.Test.YtaddmogfeijjcaaZPrint0
namespace Go.Proofs.Ytaddmogfeijjcaa.Print
open Go.RowKit Go.Proofs.YtaddmogfeijjcaaW.PrintWords Go.Proofs.YtaddmogfeijjcaaW.PrintLast Go.Proofs.YtaddmogfeijjcaaW.PrintMore
attribute [local go_sem] max2_mx min2_mn max_two min_two max_three min_three max_four min_four
set_option linter.unusedVariables false
set_option linter.unusedSimpArgs false
def ladingref01_all.l0 : Nat → Int → Int → List Int → Int → Int → Option (Int × Bool)
 | 0, _, _, _, _, _ => none
 | k + 1, x4, x5, x9, x10, x11 => if x11 < x10 then (if 0 ≤ x11 then (if x11 < (x9.length : Int) then (ladingref01_all.l0 k (wrap64 (x4 + ((rd x9 x11) / 4294967296))) (wrap64 (x5 + (wrap64 ((rd x9 x11) - (wrap64 (((rd x9 x11) / 4294967296) * 4294967296)))))) x9 x10 (wrap64 (x11 + 1))) else (none)) else (none)) else (if (wrap64 (x4 + (x5 / 4294967296))) < (-2147483648) then (some (0, false)) else (if (wrap64 (x4 + (x5 / 4294967296))) > 2147483647 then (some (0, false)) else (some (wrap64 ((wrap64 ((wrap64 (x4 + (x5 / 4294967296))) * 4294967296)) + (wrap64 (x5 - (wrap64 ((x5 / 4294967296) * 4294967296))))), true))))
def ladingref01_all.f (k : Nat) (l0 : List Int) : Option (Int × Bool) := ladingref01_all.l0 k 0 0 l0 (l0.length : Int) 0
set_option maxHeartbeats 8000000 in
set_option maxRecDepth 100000 in
theorem ladingref01_all.calls (k : Nat) (A0 : Option Addr) (c0 : Nat) (l0 : List Int) (r1 : Int) (r2 : Bool) (w : World) (hr0 : Kd.C (Kd.int .i64) w A0 l0.length l0) (hc0 : l0.length ≤ c0) (h : ladingref01_all.f k l0 = some (r1, r2)) :
  Calls Try.prog 54 #[.slice A0 l0.length c0] w fun e w' => e = .returned (.tuple #[.int .i64 r1, .bool r2]) ∧ Drawn0 w w' := by
 have HR0 := Aside0.mk hr0
 have HC0 := Aside0.mk hc0
 clear hr0 hc0
 have H : (ladingref01_all.l0 k 0 0 l0 (l0.length : Int) 0) = some (r1, r2) := h
 clear h
 have H' := Aside0.mk H
 clear H
 go_enter Try.func54, Try.ntmps54
 go_wp2
 go_loopg [4, 5, 11] k (fun kq v4 v5 v11 w' => ∃ (x4_1 : Int) (x5_1 : Int) (x11_1 : Int), v4 = .int .i64 x4_1 ∧ v5 = .int .i64 x5_1 ∧ v11 = .int .i64 x11_1 ∧ Aside0 (ladingref01_all.l0 kq x4_1 x5_1 l0 (l0.length : Int) x11_1 = some (r1, r2)) ∧ Aside0 (kq ≤ k) ∧ Drawn0 w w')
 case atStart => exact ⟨(0), (0), (0), (by first | rfl | (simp; done) | (simp [*]; done) | (simp only [i64_w]; done)), (by first | rfl | (simp; done) | (simp [*]; done) | (simp only [i64_w]; done)), (by first | rfl | (simp; done) | (simp [*]; done) | (simp only [i64_w]; done)), H', ⟨Nat.le_refl _⟩, by repeat (first | exact Drawn0.refl _ | apply Drawn0.step)⟩
 case round =>
  clear H'
  obtain ⟨x4_1, x5_1, x11_1, rfl, rfl, rfl, HA, HK1, ⟨m1, rfl⟩⟩ := hrel
  cases gk with
  | zero => exact absurd HA.out (by simp [ladingref01_all.l0])
  | succ k1 =>
   have H := HA.out
   clear HA
   simp only [ladingref01_all.l0] at H
   by_cases c2 : x11_1 < (l0.length : Int)
   ·rw [if_pos c2] at H
    have c2b0 : decide (x11_1 < (l0.length : Int)) = true := decide_eq_true c2
    clear c2
    by_cases c3 : 0 ≤ x11_1
    ·rw [if_pos c3] at H
     have c3b0 : decide (0 ≤ x11_1) = true := decide_eq_true c3
     clear c3
     by_cases c4 : x11_1 < (l0.length : Int)
     ·rw [if_pos c4] at H
      have c4b0 : decide (x11_1 < (l0.length : Int)) = true := decide_eq_true c4
      clear c4
      have H' := Aside0.mk H
      clear H
      have p312 : 0 ≤ (x11_1 : Int) := of_decide_eq_true za_
      have q312 : x11_1 < (l0.length : Int) := of_decide_eq_true za_
      obtain ⟨ad312, e312, hx312_0⟩ := Kd.at_int HR0.out x11_1 p312 q312
      cases e312
      replace p312 := eq_true p312
      replace q312 := eq_true q312
      go_wp2
      go_roundg k1
      case measure => have := HK1.out; omega
      case rel => exact ⟨(wrap64 (x4_1 + ((rd l0 x11_1) / 4294967296))), (wrap64 (x5_1 + (wrap64 ((rd l0 x11_1) - (wrap64 (((rd l0 x11_1) / 4294967296) * 4294967296)))))), (wrap64 (x11_1 + 1)), (by first | rfl | (simp; done) | (simp [*]; done) | (simp only [i64_w]; done)), (by first | rfl | (simp; done) | (simp [*]; done) | (simp only [i64_w]; done)), (by first | rfl | (simp; done) | (simp [*]; done) | (simp only [i64_w]; done)), H', ⟨by have := HK1.out; omega⟩, by repeat (first | exact Drawn0.refl _ | apply Drawn0.step)⟩
     ·rw [if_neg c4] at H
      exact absurd H (by simp)
    ·rw [if_neg c3] at H
     exact absurd H (by simp)
   ·rw [if_neg c2] at H
    have c2b0 : decide (x11_1 < (l0.length : Int)) = false := decide_eq_false c2
    clear c2
    by_cases c5 : (wrap64 (x4_1 + (x5_1 / 4294967296))) < (-2147483648)
    ·rw [if_pos c5] at H
     have c5b0 : decide ((wrap64 (x4_1 + (x5_1 / 4294967296))) < (-2147483648)) = true := decide_eq_true c5
     clear c5
     simp only [Option.some.injEq, Prod.mk.injEq] at H
     obtain ⟨rfl, rfl⟩ := H
     go_wp2
     go_ret2
     exact ⟨by first | rfl | (simp; done) | (simp [*]; done), by repeat (first | exact Drawn0.refl _ | apply Drawn0.step)⟩
    ·rw [if_neg c5] at H
     have c5b0 : decide ((wrap64 (x4_1 + (x5_1 / 4294967296))) < (-2147483648)) = false := decide_eq_false c5
     clear c5
     by_cases c6 : (wrap64 (x4_1 + (x5_1 / 4294967296))) > 2147483647
     ·rw [if_pos c6] at H
      have c6b0 : decide (2147483647 < (wrap64 (x4_1 + (x5_1 / 4294967296)))) = true := decide_eq_true c6
      clear c6
      simp only [Option.some.injEq, Prod.mk.injEq] at H
      obtain ⟨rfl, rfl⟩ := H
      go_wp2
      go_ret2
      exact ⟨by first | rfl | (simp; done) | (simp [*]; done), by repeat (first | exact Drawn0.refl _ | apply Drawn0.step)⟩
     ·rw [if_neg c6] at H
      have c6b0 : decide (2147483647 < (wrap64 (x4_1 + (x5_1 / 4294967296)))) = false := decide_eq_false c6
      clear c6
      simp only [Option.some.injEq, Prod.mk.injEq] at H
      obtain ⟨rfl, rfl⟩ := H
      go_wp2
      go_ret2
      exact ⟨by first | rfl | (simp; done) | (simp [*]; done), by repeat (first | exact Drawn0.refl _ | apply Drawn0.step)⟩
end Go.Proofs.Ytaddmogfeijjcaa.Print
