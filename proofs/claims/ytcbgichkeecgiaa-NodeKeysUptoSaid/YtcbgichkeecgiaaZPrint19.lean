-- A claim's text with what it uses alone (wip/slim.py, over what the kit's print and this session's tools wrote). Not trusted: Lean checks it.
import Derived.Test.YtcbgichkeecgiaaZAb
import Derived.Test.YtcbgichkeecgiaaZPrint0
namespace Go.Proofs.Ytcbgichkeecgiaa.Print
open Go.RowKit Go.Proofs.YtcbgichkeecgiaaW.PrintWords Go.Proofs.YtcbgichkeecgiaaW.PrintLast Go.Proofs.YtcbgichkeecgiaaW.PrintMore
attribute [local go_sem] max2_mx min2_mn max_two min_two max_three min_three max_four min_four
set_option linter.unusedVariables false
set_option linter.unusedSimpArgs false
def ladingref06_rises.l0 : Nat → List (List Int) → List (List Int) → Int → Int → Option (Bool)
 | 0, _, _, _, _ => none
 | k + 1, x0, x5, x6, x7 => if x7 < x6 then (if 0 ≤ x7 then (if x7 < (x5.length : Int) then (if ((rd_L1 x5 x7).length : Int) > 256 then (some false) else (if x7 > 0 then (if 0 ≤ (wrap64 (x7 - 1)) then (if (wrap64 (x7 - 1)) < (x0.length : Int) then (if ((Op.bytesLess ((strOfNums (rd_L1 x0 (wrap64 (x7 - 1)))).toList) ((strOfNums (rd_L1 x5 x7)).toList)) = true) then (ladingref06_rises.l0 k x0 x5 x6 (wrap64 (x7 + 1))) else (some false)) else (none)) else (none)) else (ladingref06_rises.l0 k x0 x5 x6 (wrap64 (x7 + 1))))) else (none)) else (none)) else (some true)
def ladingref06_rises.f (k : Nat) (l0 : List (List Int)) : Option (Bool) := ladingref06_rises.l0 k l0 l0 (l0.length : Int) 0
set_option maxHeartbeats 8000000 in
set_option maxRecDepth 100000 in
theorem ladingref06_rises.calls (k : Nat) (A0 : Option Addr) (c0 : Nat) (l0 : List (List Int)) (r : Bool) (w : World) (hr0 : Kd.C (Kd.slice 5 (Kd.int .u8)) w A0 l0.length l0) (hc0 : l0.length ≤ c0) (h : ladingref06_rises.f k l0 = some r) :
  Calls Try.prog 63 #[.slice A0 l0.length c0] w fun e w' => e = .returned (.bool r) ∧ Drawn0 w w' := by
 have HR0 := Aside0.mk hr0
 have HC0 := Aside0.mk hc0
 clear hr0 hc0
 have H : (ladingref06_rises.l0 k l0 l0 (l0.length : Int) 0) = some r := h
 clear h
 have H' := Aside0.mk H
 clear H
 go_enter Try.func63, Try.ntmps63
 go_wp2
 repeat (go_quiet (fail); try go_wp2)
 go_loopg [7] k (fun kq v7 w' => ∃ (x7_1 : Int), v7 = .int .i64 x7_1 ∧ Aside0 (ladingref06_rises.l0 kq l0 l0 (l0.length : Int) x7_1 = some r) ∧ Aside0 (kq ≤ k) ∧ Drawn0 w w')
 case atStart => exact ⟨(0), (by first | rfl | (simp; done) | (simp [*]; done) | (simp only [i64_w]; done)), H', ⟨Nat.le_refl _⟩, by repeat (first | exact Drawn0.refl _ | apply Drawn0.step)⟩
 case round =>
  clear H'
  obtain ⟨x7_1, rfl, HA, HK1, ⟨m1, rfl⟩⟩ := hrel
  cases gk with
  | zero => exact absurd HA.out (by simp [ladingref06_rises.l0])
  | succ k1 =>
   have H := HA.out
   clear HA
   simp only [ladingref06_rises.l0] at H
   by_cases c2 : x7_1 < (l0.length : Int)
   ·rw [if_pos c2] at H
    have c2b0 : decide (x7_1 < (l0.length : Int)) = true := decide_eq_true c2
    clear c2
    by_cases c3 : 0 ≤ x7_1
    ·rw [if_pos c3] at H
     have c3b0 : decide (0 ≤ x7_1) = true := decide_eq_true c3
     clear c3
     by_cases c4 : x7_1 < (l0.length : Int)
     ·rw [if_pos c4] at H
      have c4b0 : decide (x7_1 < (l0.length : Int)) = true := decide_eq_true c4
      clear c4
      by_cases c5 : ((rd_L1 l0 x7_1).length : Int) > 256
      ·rw [if_pos c5] at H
       have c5b0 : decide (256 < ((rd_L1 l0 x7_1).length : Int)) = true := decide_eq_true c5
       have c5b1 : decide (256 < (rd_L1 l0 x7_1).length) = true := decide_eq_true (by omega)
       clear c5
       obtain rfl := Option.some.inj H
       have p296 : 0 ≤ (x7_1 : Int) := of_decide_eq_true za_
       have q296 : x7_1 < (l0.length : Int) := of_decide_eq_true za_
       obtain ⟨ad296, A296_0, c296_0, e296, hx296_0, hl296_0, hi296_0⟩ := at_L1 HR0.out x7_1 p296 q296
       cases e296
       have HR296_0 := Aside0.mk hi296_0
       have HC296_0 := Aside0.mk hl296_0
       clear hi296_0 hl296_0
       replace p296 := eq_true p296
       replace q296 := eq_true q296
       go_wp2
       repeat (go_quiet (fail); try go_wp2)
       go_ret
       exact ⟨by first | rfl | (simp; done) | (simp [*]; done), by repeat (first | exact Drawn0.refl _ | apply Drawn0.step)⟩
      ·rw [if_neg c5] at H
       have c5b0 : decide (256 < ((rd_L1 l0 x7_1).length : Int)) = false := decide_eq_false c5
       have c5b1 : decide (256 < (rd_L1 l0 x7_1).length) = false := decide_eq_false (by omega)
       clear c5
       by_cases c6 : x7_1 > 0
       ·rw [if_pos c6] at H
        have c6b0 : decide (0 < x7_1) = true := decide_eq_true c6
        clear c6
        obtain ⟨ji7, hji7⟩ : ∃ j_ : Int, (wrap64 (x7_1 - 1)) = j_ := ⟨_, rfl⟩
        replace H : (if 0 ≤ (ji7) then (if (ji7) < (l0.length : Int) then (if ((Op.bytesLess ((strOfNums (rd_L1 l0 (ji7))).toList) ((strOfNums (rd_L1 l0 x7_1)).toList)) = true) then (ladingref06_rises.l0 k1 l0 l0 (l0.length : Int) (wrap64 (x7_1 + 1))) else (some false)) else (none)) else (none)) = some r := by first | (rw [hji7] at H; exact H) | (simp only [hji7] at H ⊢; exact H)
        have hji7w : (IntKind.i64.wrap (x7_1 - 1)) = ji7 := (i64_w _).trans hji7
        by_cases c8 : 0 ≤ (ji7)
        ·rw [if_pos c8] at H
         have c8b0 : decide (0 ≤ (ji7)) = true := decide_eq_true c8
         clear c8
         by_cases c9 : (ji7) < (l0.length : Int)
         ·rw [if_pos c9] at H
          have c9b0 : decide ((ji7) < (l0.length : Int)) = true := decide_eq_true c9
          clear c9
          by_cases c10 : ((Op.bytesLess ((strOfNums (rd_L1 l0 (ji7))).toList) ((strOfNums (rd_L1 l0 x7_1)).toList)) = true)
          ·rw [if_pos c10] at H
           have c10b0 : (Op.bytesLess ((strOfNums (rd_L1 l0 (ji7))).toList) ((strOfNums (rd_L1 l0 x7_1)).toList)) = true := c10
           clear c10
           have H' := Aside0.mk H
           clear H
           have p296 : 0 ≤ (x7_1 : Int) := of_decide_eq_true za_
           have q296 : x7_1 < (l0.length : Int) := of_decide_eq_true za_
           obtain ⟨ad296, A296_0, c296_0, e296, hx296_0, hl296_0, hi296_0⟩ := at_L1 HR0.out x7_1 p296 q296
           cases e296
           have HR296_0 := Aside0.mk hi296_0
           have HC296_0 := Aside0.mk hl296_0
           clear hi296_0 hl296_0
           replace p296 := eq_true p296
           replace q296 := eq_true q296
           have p297 : 0 ≤ ((ji7) : Int) := of_decide_eq_true za_
           have q297 : (ji7) < (l0.length : Int) := of_decide_eq_true za_
           obtain ⟨ad297, A297_0, c297_0, e297, hx297_0, hl297_0, hi297_0⟩ := at_L1 HR0.out (ji7) p297 q297
           obtain rfl : ad296 = ad297 := (by injection e297)
           have HR297_0 := Aside0.mk hi297_0
           have HC297_0 := Aside0.mk hl297_0
           clear hi297_0 hl297_0
           replace p297 := eq_true p297
           replace q297 := eq_true q297
           have hcv11 := Kd.C_string (P := Try.prog) (A := A297_0) (c := c297_0) Try.underlying27 Try.underlying5 Try.underlying9 HR297_0.out
           have hcw12 := fun n_ : Nat => Kd.C_string (P := Try.prog) (A := A297_0) (c := c297_0) Try.underlying27 Try.underlying5 Try.underlying9 (Kd.C_drewN HR297_0.out n_)
           have hcv13 := Kd.C_string (P := Try.prog) (A := A296_0) (c := c296_0) Try.underlying27 Try.underlying5 Try.underlying9 HR296_0.out
           have hcw14 := fun n_ : Nat => Kd.C_string (P := Try.prog) (A := A296_0) (c := c296_0) Try.underlying27 Try.underlying5 Try.underlying9 (Kd.C_drewN HR296_0.out n_)
           go_wp2
           repeat (go_quiet (fail); try go_wp2)
           go_roundg k1
           case measure => have := HK1.out; omega
           case rel => exact ⟨(wrap64 (x7_1 + 1)), (by first | rfl | (simp; done) | (simp [*]; done) | (simp only [i64_w]; done)), H', ⟨by have := HK1.out; omega⟩, by repeat (first | exact Drawn0.refl _ | apply Drawn0.step)⟩
          ·rw [if_neg c10] at H
           have c10b0 : (Op.bytesLess ((strOfNums (rd_L1 l0 (ji7))).toList) ((strOfNums (rd_L1 l0 x7_1)).toList)) = false := by simpa using c10
           clear c10
           obtain rfl := Option.some.inj H
           have p296 : 0 ≤ (x7_1 : Int) := of_decide_eq_true za_
           have q296 : x7_1 < (l0.length : Int) := of_decide_eq_true za_
           obtain ⟨ad296, A296_0, c296_0, e296, hx296_0, hl296_0, hi296_0⟩ := at_L1 HR0.out x7_1 p296 q296
           cases e296
           have HR296_0 := Aside0.mk hi296_0
           have HC296_0 := Aside0.mk hl296_0
           clear hi296_0 hl296_0
           replace p296 := eq_true p296
           replace q296 := eq_true q296
           have p297 : 0 ≤ ((ji7) : Int) := of_decide_eq_true za_
           have q297 : (ji7) < (l0.length : Int) := of_decide_eq_true za_
           obtain ⟨ad297, A297_0, c297_0, e297, hx297_0, hl297_0, hi297_0⟩ := at_L1 HR0.out (ji7) p297 q297
           obtain rfl : ad296 = ad297 := (by injection e297)
           have HR297_0 := Aside0.mk hi297_0
           have HC297_0 := Aside0.mk hl297_0
           clear hi297_0 hl297_0
           replace p297 := eq_true p297
           replace q297 := eq_true q297
           have hcv15 := Kd.C_string (P := Try.prog) (A := A297_0) (c := c297_0) Try.underlying27 Try.underlying5 Try.underlying9 HR297_0.out
           have hcw16 := fun n_ : Nat => Kd.C_string (P := Try.prog) (A := A297_0) (c := c297_0) Try.underlying27 Try.underlying5 Try.underlying9 (Kd.C_drewN HR297_0.out n_)
           have hcv17 := Kd.C_string (P := Try.prog) (A := A296_0) (c := c296_0) Try.underlying27 Try.underlying5 Try.underlying9 HR296_0.out
           have hcw18 := fun n_ : Nat => Kd.C_string (P := Try.prog) (A := A296_0) (c := c296_0) Try.underlying27 Try.underlying5 Try.underlying9 (Kd.C_drewN HR296_0.out n_)
           go_wp2
           repeat (go_quiet (fail); try go_wp2)
           go_ret
           exact ⟨by first | rfl | (simp; done) | (simp only [← hji7] <;> (first | rfl | simp)) | (simp [*]; done), by repeat (first | exact Drawn0.refl _ | apply Drawn0.step)⟩
         ·rw [if_neg c9] at H
          exact absurd H (by simp)
        ·rw [if_neg c8] at H
         exact absurd H (by simp)
       ·rw [if_neg c6] at H
        have c6b0 : decide (0 < x7_1) = false := decide_eq_false c6
        clear c6
        have H' := Aside0.mk H
        clear H
        have p296 : 0 ≤ (x7_1 : Int) := of_decide_eq_true za_
        have q296 : x7_1 < (l0.length : Int) := of_decide_eq_true za_
        obtain ⟨ad296, A296_0, c296_0, e296, hx296_0, hl296_0, hi296_0⟩ := at_L1 HR0.out x7_1 p296 q296
        cases e296
        have HR296_0 := Aside0.mk hi296_0
        have HC296_0 := Aside0.mk hl296_0
        clear hi296_0 hl296_0
        replace p296 := eq_true p296
        replace q296 := eq_true q296
        go_wp2
        repeat (go_quiet (fail); try go_wp2)
        go_roundg k1
        case measure => have := HK1.out; omega
        case rel => exact ⟨(wrap64 (x7_1 + 1)), (by first | rfl | (simp; done) | (simp [*]; done) | (simp only [i64_w]; done)), H', ⟨by have := HK1.out; omega⟩, by repeat (first | exact Drawn0.refl _ | apply Drawn0.step)⟩
     ·rw [if_neg c4] at H
      exact absurd H (by simp)
    ·rw [if_neg c3] at H
     exact absurd H (by simp)
   ·rw [if_neg c2] at H
    have c2b0 : decide (x7_1 < (l0.length : Int)) = false := decide_eq_false c2
    clear c2
    obtain rfl := Option.some.inj H
    go_wp2
    repeat (go_quiet (fail); try go_wp2)
    go_ret
    exact ⟨by first | rfl | (simp; done) | (simp [*]; done), by repeat (first | exact Drawn0.refl _ | apply Drawn0.step)⟩
end Go.Proofs.Ytcbgichkeecgiaa.Print
