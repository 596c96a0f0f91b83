-- What the claim uses alone (wip/slim.py). Lean checks it.
import Derived.Test.YtaddmogfeijjcaaZAb
import Derived.Test.YtaddmogfeijjcaaZPrint0
import Derived.Test.YtaddmogfeijjcaaZPrint3
import Derived.Test.YtaddmogfeijjcaaZPrint4
import Derived.Test.YtaddmogfeijjcaaZPrint5
namespace Go.Proofs.Ytaddmogfeijjcaa.Print
open Go.RowKit Go.Proofs.YtaddmogfeijjcaaW.PrintWords Go.Proofs.YtaddmogfeijjcaaW.PrintLast Go.Proofs.YtaddmogfeijjcaaW.PrintMore
attribute [local go_sem] max2_mx min2_mn max_two min_two max_three min_three max_four min_four
set_option linter.unusedVariables false
set_option linter.unusedSimpArgs false
theorem ledger_place.cmp_int_is (a b : Int) : cmp_Compare_int.f a b = some (if a < b then -1 else if a > b then 1 else 0) := by
 unfold cmp_Compare_int.f cmp_isNaN_int.f
 rw [Option.bind_some, Option.bind_some, if_neg (by simp), if_neg (by simp)]
 split
 ·rfl
 ·split <;> rfl
theorem ledger_place.closure_is (x y y2 y3 a1 : Int) : ledger_place_1.f x y y2 y3 a1 = some (if x < a1 then -1 else if x > a1 then 1 else 0) := by
 unfold ledger_place_1.f
 rw [ledger_place.cmp_int_is]; rfl
def ledger_place.P (l0 : List S31) (a1 : Int) (h : Nat) : Bool := decide ((rd_T31 l0 (h : Int)).f0 < a1)
def ledger_place.Rel (w : World) (l0 : List S31) (a1 : Int) (fin : Nat) (kq : Nat) (v9 v10 : Value) (wr : World) : Prop := ∃ i j : Nat, i ≤ j ∧ j ≤ l0.length ∧ j - i < 2 ^ kq ∧ v9 = .int .i64 i ∧ v10 = .int .i64 j ∧ bsN (ledger_place.P l0 a1) kq i j = fin ∧ Below w.heap.size w wr
set_option maxHeartbeats 1000000 in
set_option maxRecDepth 100000 in
theorem ledger_place.bs_row (A0 : Option Addr) (c0 : Nat) (l0 : List S31) (a1 : Int) (w : World) (hr0 : Kd.C k31 w A0 l0.length l0) (hc0 : l0.length ≤ c0) (hbig : l0.length ≤ 4611686018427387904) (fin : Nat) (hfin : bsN (ledger_place.P l0 a1) 64 0 l0.length = fin) :
  Calls Try.prog 55 #[.slice A0 l0.length c0, .int .i64 a1, .func (.func 56) #[] #[]] w fun e w' => e = .returned (.tuple #[.int .i64 fin, .bool (decide (fin < l0.length) && decide ((rd_T31 l0 (fin : Int)).f0 = a1))]) ∧ Below w.heap.size w w' := by
 have HR0 := Aside0.mk hr0
 have HC0 := Aside0.mk hc0
 have HBG := Aside0.mk hbig
 have HF := Aside0.mk hfin
 have hle : fin ≤ l0.length := hfin ▸ bsN_le _ 64 0 l0.length (Nat.zero_le _)
 have HLE := Aside0.mk hle
 clear hr0 hc0 hbig hfin hle
 go_enter Try.func55, Try.ntmps55
 go_wp2
 go_loopg [9, 10] 64 (fun kq v9 v10 wr => ledger_place.Rel w l0 a1 fin kq v9 v10 wr)
 case atStart => exact ⟨0, l0.length, Nat.zero_le _, Nat.le_refl _, by have := HBG.out; omega, rfl, rfl, HF.out, Below.refl _ _⟩
 case round =>
  obtain ⟨i, j, hij, hjl, hk, rfl, rfl, hb, hB⟩ := hrel
  have HB := Aside0.mk hB
  clear hB HF
  by_cases hlt : i < j
  ·obtain ⟨q, rfl⟩ : ∃ q, gk = q + 1 := by
    rcases gk with _ | q
    ·simp at hk; omega
    ·exact ⟨q, rfl⟩
   have t1 : decide ((i : Int) < (j : Int)) = true := decide_eq_true (Int.ofNat_lt.mpr hlt)
   have t1n : decide (i < j) = true := decide_eq_true hlt
   obtain ⟨m, hm⟩ : ∃ m, m = (i + j) / 2 := ⟨_, rfl⟩
   have hmj : m < l0.length := by omega
   obtain ⟨ad, rfl, hx0, hx1, hx2, hx3⟩ := at_T31 HR0.out (m : Int) (Int.natCast_nonneg _) (Int.ofNat_lt.mpr hmj)
   replace hx0 := zx_ HB.out hx0
   replace hx1 := zx_ HB.out hx1
   replace hx2 := zx_ HB.out hx2
   replace hx3 := zx_ HB.out hx3
   have hsum : (0 : Int) ≤ (i : Int) + (j : Int) ∧ (i : Int) + (j : Int) ≤ 9223372036854775807 := by have := HBG.out; omega
   have hadd : IntKind.i64.wrap ((i : Int) + (j : Int)) = (i : Int) + (j : Int) := wi64_in hsum.1 hsum.2
   have hu : IntKind.u64.wrap ((i : Int) + (j : Int)) = (i : Int) + (j : Int) := wu64_in hsum.1 hsum.2
   have hh : wrap64 (((i : Int) + (j : Int)) / 2) = (m : Int) := half_in hm hsum.2
   have pm : ((m : Int) < (l0.length : Int)) = True := eq_true (Int.ofNat_lt.mpr hmj)
   rw [Int.toNat_natCast] at hx0 hx1 hx2 hx3
   have HC := Aside0.mk (ledger_place.closure_is (rd_T31 l0 (m : Int)).f0 (rd_T31 l0 (m : Int)).f1 (rd_T31 l0 (m : Int)).f2 (rd_T31 l0 (m : Int)).f3 a1)
   have HM := Aside0.mk hm
   have HHH := Aside0.mk hh
   have HI := Aside0.mk (And.intro hij (And.intro hjl (And.intro hk (And.intro hlt hmj))))
   have hbs : bsN (ledger_place.P l0 a1) (q + 1) i j = if ledger_place.P l0 a1 m then bsN (ledger_place.P l0 a1) q (m + 1) j else bsN (ledger_place.P l0 a1) q i m := by rw [bsN, if_pos hlt, ← hm]
   have HS := Aside0.mk (hbs.symm.trans hb)
   clear hm hsum hbs hb hij hjl hk hlt hmj
   go_wp2_with fail
   refine (ledger_place_1.calls _ _ _ _ a1 _ _ HC.out).mono ?_
   rintro e w' ⟨rfl, hb2⟩
   have HB2 := Aside0.mk (below_then HB.out HB.out.size hb2)
   clear hb2 hx0 hx1 hx2 hx3 HC hu hh hadd t1 t1n pm
   rw [HHH.out]
   by_cases hc : (rd_T31 l0 (m : Int)).f0 < a1
   ·have e1 : (if (rd_T31 l0 (m : Int)).f0 < a1 then (-1 : Int) else if (rd_T31 l0 (m : Int)).f0 > a1 then 1 else 0) = -1 := if_pos hc
    have hS := HS.out
    rw [if_pos (show ledger_place.P l0 a1 m = true from decide_eq_true hc)] at hS
    have HS2 := Aside0.mk hS
    have hw : IntKind.i64.wrap ((m : Int) + 1) = (m : Int) + 1 := wi64_in (by omega) (by have := HBG.out; have := HI.out; omega)
    clear hS HS hc
    rw [e1]
    clear e1
    go_wp2_with fail
    go_roundg q
    case measure => exact Nat.lt_succ_self _
    case rel =>
     refine ⟨m + 1, j, ?_, HI.out.2.1, ?_, ?_, rfl, HS2.out, HB2.out⟩
     ·have := HI.out; have := HM.out; omega
     ·have h1 := HI.out; have h2 := HM.out; have h3 := Nat.pow_succ 2 q; omega
     ·go_num
   ·have e1 : ∃ z, (if (rd_T31 l0 (m : Int)).f0 < a1 then (-1 : Int) else if (rd_T31 l0 (m : Int)).f0 > a1 then 1 else 0) = z ∧ decide (z < 0) = false := by
     rw [if_neg hc]; split <;> exact ⟨_, rfl, rfl⟩
    have hS := HS.out
    rw [if_neg (by rw [ledger_place.P, decide_eq_true_eq]; exact hc)] at hS
    have HS2 := Aside0.mk hS
    obtain ⟨z, e1, hz⟩ := e1
    clear hS HS hc
    rw [e1]
    clear e1
    go_wp2_with fail
    go_roundg q
    case measure => exact Nat.lt_succ_self _
    case rel =>
     refine ⟨i, m, ?_, ?_, ?_, rfl, rfl, HS2.out, HB2.out⟩
     ·have := HI.out; have := HM.out; omega
     ·have := HI.out; omega
     ·have h1 := HI.out; have h2 := HM.out; have h3 := Nat.pow_succ 2 q; omega
  ·have e0 : bsN (ledger_place.P l0 a1) gk i j = i := by cases gk with
    | zero => rfl
    | succ q => rw [bsN, if_neg hlt]
   obtain rfl : i = fin := e0.symm.trans hb
   have t1 : decide ((i : Int) < (j : Int)) = false := decide_eq_false (by omega)
   have t1n : decide (i < j) = false := decide_eq_false hlt
   clear e0 hb hk hjl hij
   by_cases hin : i < l0.length
   ·obtain ⟨ad, rfl, hx0, hx1, hx2, hx3⟩ := at_T31 HR0.out (i : Int) (by omega) (by omega)
    replace hx0 := zx_ HB.out hx0
    replace hx1 := zx_ HB.out hx1
    replace hx2 := zx_ HB.out hx2
    replace hx3 := zx_ HB.out hx3
    have pm : ((i : Int) < (l0.length : Int)) = True := eq_true (by omega)
    have pd : decide ((i : Int) < (l0.length : Int)) = true := decide_eq_true (by omega)
    have pdn : decide (i < l0.length) = true := decide_eq_true hin
    rw [Int.toNat_natCast] at hx0 hx1 hx2 hx3
    have HC := Aside0.mk (ledger_place.closure_is (rd_T31 l0 (i : Int)).f0 (rd_T31 l0 (i : Int)).f1 (rd_T31 l0 (i : Int)).f2 (rd_T31 l0 (i : Int)).f3 a1)
    go_wp2_with fail
    refine (ledger_place_1.calls _ _ _ _ a1 _ _ HC.out).mono ?_
    rintro e w' ⟨rfl, hb2⟩
    have HB2 := Aside0.mk (below_then HB.out HB.out.size hb2)
    clear hb2 hx0 hx1 hx2 hx3 HC
    have e2 : ((if (rd_T31 l0 (i : Int)).f0 < a1 then (-1 : Int) else if (rd_T31 l0 (i : Int)).f0 > a1 then 1 else 0) == 0) = decide ((rd_T31 l0 (i : Int)).f0 = a1) := by
     split
     ·rename_i h; rw [decide_eq_false (by omega)]; rfl
     ·split
      ·rename_i h; rw [decide_eq_false (by omega)]; rfl
      ·rename_i h1 h2; rw [decide_eq_true (by omega)]; rfl
    generalize (if (rd_T31 l0 (i : Int)).f0 < a1 then (-1 : Int) else if (rd_T31 l0 (i : Int)).f0 > a1 then 1 else 0) = z at e2
    have E2 := Aside0.mk e2
    clear e2
    go_wp2_with fail
    go_ret2
    exact ⟨by rw [decide_eq_true hin, Bool.true_and, ← E2.out]; rfl, HB2.out⟩
   ·have pd : decide ((i : Int) < (l0.length : Int)) = false := decide_eq_false (by omega)
    have pdn : decide (i < l0.length) = false := decide_eq_false hin
    go_wp2_with fail
    go_ret2
    exact ⟨by rw [decide_eq_false hin, Bool.false_and]; rfl, HB.out⟩
def ledger_place.f (l0 : List S31) (a1 : Int) : Option (Int × Bool) := if l0.length ≤ 4611686018427387904 then some ((bsN (ledger_place.P l0 a1) 64 0 l0.length : Int), decide (bsN (ledger_place.P l0 a1) 64 0 l0.length < l0.length) && decide ((rd_T31 l0 (bsN (ledger_place.P l0 a1) 64 0 l0.length : Int)).f0 = a1)) else none
theorem ledger_place.calls (A0 : Option Addr) (c0 : Nat) (l0 : List (S31)) (a1 : Int) (r1 : Int) (r2 : Bool) (w : World) (hr0 : Kd.C k31 w A0 l0.length l0) (hc0 : l0.length ≤ c0) (h : ledger_place.f l0 a1 = some (r1, r2)) :
  Calls Try.prog 49 #[.slice A0 l0.length c0, .int .i64 a1] w fun e w' => e = .returned (.tuple #[.int .i64 r1, .bool r2]) ∧ Below w.heap.size w w' := by
 unfold ledger_place.f at h
 split at h
 case isFalse => cases h
 case isTrue hbig =>
 have hC := ledger_place.bs_row A0 c0 l0 a1 w hr0 hc0 hbig _ rfl
 generalize hfin : bsN (ledger_place.P l0 a1) 64 0 l0.length = fin at h hC
 obtain ⟨h1, h2⟩ := Prod.mk.inj (Option.some.inj h)
 rw [h2, h1] at hC
 have HC := Aside0.mk hC
 clear hC h h1 h2 hfin hr0 hc0
 go_enter Try.func49, Try.ntmps49
 go_wp2_with fail
 refine HC.out.mono ?_
 rintro e w' ⟨rfl, hb2⟩
 go_wp2_with fail
 go_ret2
 exact ⟨rfl, hb2⟩
end Go.Proofs.Ytaddmogfeijjcaa.Print
