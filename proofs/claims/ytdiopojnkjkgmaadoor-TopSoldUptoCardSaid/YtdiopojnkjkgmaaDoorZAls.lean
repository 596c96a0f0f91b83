-- What the claim uses alone (wip/slim.py). Lean checks it.
import Derived.Test.YtdiopojnkjkgmaaDoorZAb
import Derived.Test.YtdiopojnkjkgmaaDoorZAln
import Derived.Test.YtdiopojnkjkgmaaDoorZAlq
import Derived.Test.YtdiopojnkjkgmaaDoorZAlr
namespace Go.Proofs.YtdiopojnkjkgmaaDoor.Print
open Go.RowKit Go.Proofs.YtdiopojnkjkgmaaDoorW.PrintWords Go.Proofs.YtdiopojnkjkgmaaDoorW.PrintLast Go.Proofs.YtdiopojnkjkgmaaDoorW.PrintMore
attribute [local go_sem] max2_mx min2_mn max_two min_two max_three min_three max_four min_four
set_option linter.unusedVariables false
set_option linter.unusedSimpArgs false
theorem ledger_place.cmp_int_is (a b : Int) : cmp_Compare_int.f a b = some (if a < b then -1 else if a > b then 1 else 0) := by
 unfold cmp_Compare_int.f cmp_isNaN_int.f
 rw [Option.bind_some, Option.bind_some, if_neg (by simp), if_neg (by simp)]
 split
 ·rfl
 ·split <;> rfl
theorem ledger_place.closure_is (x y y2 y3 a1 : Int) : ledger_place_1.f x y y2 y3 a1 = some (if x < a1 then -1 else if x > a1 then 1 else 0) := by
 unfold ledger_place_1.f
 rw [ledger_place.cmp_int_is]; rfl
def ledger_place.P (l0 : List S47) (a1 : Int) (h : Nat) : Bool := decide ((rd_T47 l0 (h : Int)).f0 < a1)
def ledger_place.Rel (w : World) (l0 : List S47) (a1 : Int) (fin : Nat) (kq : Nat) (v9 v10 : Value) (wr : World) : Prop := ∃ i j : Nat, i ≤ j ∧ j ≤ l0.length ∧ j - i < 2 ^ kq ∧ v9 = .int .i64 i ∧ v10 = .int .i64 j ∧ bsN (ledger_place.P l0 a1) kq i j = fin ∧ Below w.heap.size w wr
set_option maxHeartbeats 1000000 in
set_option maxRecDepth 100000 in
theorem ledger_place.bs_row (A0 : Option Addr) (c0 : Nat) (l0 : List S47) (a1 : Int) (w : World) (hr0 : Kd.C k47 w A0 l0.length l0) (hc0 : l0.length ≤ c0) (hbig : l0.length ≤ 4611686018427387904) (fin : Nat) (hfin : bsN (ledger_place.P l0 a1) 64 0 l0.length = fin) :
  Calls Tryd.prog 59 #[.slice A0 l0.length c0, .int .i64 a1, .func (.func 60) #[] #[]] w fun e w' => e = .returned (.tuple #[.int .i64 fin, .bool (decide (fin < l0.length) && decide ((rd_T47 l0 (fin : Int)).f0 = a1))]) ∧ Below w.heap.size w w' := by
 have HR0 := Aside0.mk hr0
 have HC0 := Aside0.mk hc0
 have HBG := Aside0.mk hbig
 have HF := Aside0.mk hfin
 have hle : fin ≤ l0.length := hfin ▸ bsN_le _ 64 0 l0.length (Nat.zero_le _)
 have HLE := Aside0.mk hle
 clear hr0 hc0 hbig hfin hle
 go_enter Tryd.func59, Tryd.ntmps59
 go_wp2
 go_loopg [9, 10] 64 (fun kq v9 v10 wr => ledger_place.Rel w l0 a1 fin kq v9 v10 wr)
 case atStart => exact ⟨0, l0.length, Nat.zero_le _, Nat.le_refl _, by have := HBG.out; omega, rfl, rfl, HF.out, Below.refl _ _⟩
 case round =>
  obtain ⟨i, j, hij, hjl, hk, rfl, rfl, hb, hB⟩ := hrel
  have HB := Aside0.mk hB
  clear hB HF
  by_cases hlt : i < j
  ·obtain ⟨q, rfl⟩ : ∃ q, gk = q + 1 := by
    rcases gk with _ | q
    ·simp at hk; omega
    ·exact ⟨q, rfl⟩
   have t1 : decide ((i : Int) < (j : Int)) = true := decide_eq_true (Int.ofNat_lt.mpr hlt)
   have t1n : decide (i < j) = true := decide_eq_true hlt
   obtain ⟨m, hm⟩ : ∃ m, m = (i + j) / 2 := ⟨_, rfl⟩
   have hmj : m < l0.length := by omega
   obtain ⟨ad, rfl, hx0, hx1, hx2, hx3⟩ := at_T47 HR0.out (m : Int) (Int.natCast_nonneg _) (Int.ofNat_lt.mpr hmj)
   replace hx0 := zx_ HB.out hx0
   replace hx1 := zx_ HB.out hx1
   replace hx2 := zx_ HB.out hx2
   replace hx3 := zx_ HB.out hx3
   have hsum : (0 : Int) ≤ (i : Int) + (j : Int) ∧ (i : Int) + (j : Int) ≤ 9223372036854775807 := by have := HBG.out; omega
   have hadd : IntKind.i64.wrap ((i : Int) + (j : Int)) = (i : Int) + (j : Int) := wi64_in hsum.1 hsum.2
   have hu : IntKind.u64.wrap ((i : Int) + (j : Int)) = (i : Int) + (j : Int) := wu64_in hsum.1 hsum.2
   have hh : wrap64 (((i : Int) + (j : Int)) / 2) = (m : Int) := half_in hm hsum.2
   have pm : ((m : Int) < (l0.length : Int)) = True := eq_true (Int.ofNat_lt.mpr hmj)
   rw [Int.toNat_natCast] at hx0 hx1 hx2 hx3
   have HC := Aside0.mk (ledger_place.closure_is (rd_T47 l0 (m : Int)).f0 (rd_T47 l0 (m : Int)).f1 (rd_T47 l0 (m : Int)).f2 (rd_T47 l0 (m : Int)).f3 a1)
   have HM := Aside0.mk hm
   have HHH := Aside0.mk hh
   have HI := Aside0.mk (And.intro hij (And.intro hjl (And.intro hk (And.intro hlt hmj))))
   have hbs : bsN (ledger_place.P l0 a1) (q + 1) i j = if ledger_place.P l0 a1 m then bsN (ledger_place.P l0 a1) q (m + 1) j else bsN (ledger_place.P l0 a1) q i m := by rw [bsN, if_pos hlt, ← hm]
   have HS := Aside0.mk (hbs.symm.trans hb)
   clear hm hsum hbs hb hij hjl hk hlt hmj
   go_wp2_with fail
   refine (ledger_place_1.calls _ _ _ _ a1 _ _ HC.out).mono ?_
   rintro e w' ⟨rfl, hb2⟩
   have HB2 := Aside0.mk (below_then HB.out HB.out.size hb2)
   clear hb2 hx0 hx1 hx2 hx3 HC hu hh hadd t1 t1n pm
   rw [HHH.out]
   by_cases hc : (rd_T47 l0 (m : Int)).f0 < a1
   ·have e1 : (if (rd_T47 l0 (m : Int)).f0 < a1 then (-1 : Int) else if (rd_T47 l0 (m : Int)).f0 > a1 then 1 else 0) = -1 := if_pos hc
    have hS := HS.out
    rw [if_pos (show ledger_place.P l0 a1 m = true from decide_eq_true hc)] at hS
    have HS2 := Aside0.mk hS
    have hw : IntKind.i64.wrap ((m : Int) + 1) = (m : Int) + 1 := wi64_in (by omega) (by have := HBG.out; have := HI.out; omega)
    clear hS HS hc
    rw [e1]
    clear e1
    go_wp2_with fail
    go_roundg q
    case measure => exact Nat.lt_succ_self _
    case rel =>
     refine ⟨m + 1, j, ?_, HI.out.2.1, ?_, ?_, rfl, HS2.out, HB2.out⟩
     ·have := HI.out; have := HM.out; omega
     ·have h1 := HI.out; have h2 := HM.out; have h3 := Nat.pow_succ 2 q; omega
     ·go_num
   ·have e1 : ∃ z, (if (rd_T47 l0 (m : Int)).f0 < a1 then (-1 : Int) else if (rd_T47 l0 (m : Int)).f0 > a1 then 1 else 0) = z ∧ decide (z < 0) = false := by
     rw [if_neg hc]; split <;> exact ⟨_, rfl, rfl⟩
    have hS := HS.out
    rw [if_neg (by rw [ledger_place.P, decide_eq_true_eq]; exact hc)] at hS
    have HS2 := Aside0.mk hS
    obtain ⟨z, e1, hz⟩ := e1
    clear hS HS hc
    rw [e1]
    clear e1
    go_wp2_with fail
    go_roundg q
    case measure => exact Nat.lt_succ_self _
    case rel =>
     refine ⟨i, m, ?_, ?_, ?_, rfl, rfl, HS2.out, HB2.out⟩
     ·have := HI.out; have := HM.out; omega
     ·have := HI.out; omega
     ·have h1 := HI.out; have h2 := HM.out; have h3 := Nat.pow_succ 2 q; omega
  ·have e0 : bsN (ledger_place.P l0 a1) gk i j = i := by cases gk with
    | zero => rfl
    | succ q => rw [bsN, if_neg hlt]
   obtain rfl : i = fin := e0.symm.trans hb
   have t1 : decide ((i : Int) < (j : Int)) = false := decide_eq_false (by omega)
   have t1n : decide (i < j) = false := decide_eq_false hlt
   clear e0 hb hk hjl hij
   by_cases hin : i < l0.length
   ·obtain ⟨ad, rfl, hx0, hx1, hx2, hx3⟩ := at_T47 HR0.out (i : Int) (by omega) (by omega)
    replace hx0 := zx_ HB.out hx0
    replace hx1 := zx_ HB.out hx1
    replace hx2 := zx_ HB.out hx2
    replace hx3 := zx_ HB.out hx3
    have pm : ((i : Int) < (l0.length : Int)) = True := eq_true (by omega)
    have pd : decide ((i : Int) < (l0.length : Int)) = true := decide_eq_true (by omega)
    have pdn : decide (i < l0.length) = true := decide_eq_true hin
    rw [Int.toNat_natCast] at hx0 hx1 hx2 hx3
    have HC := Aside0.mk (ledger_place.closure_is (rd_T47 l0 (i : Int)).f0 (rd_T47 l0 (i : Int)).f1 (rd_T47 l0 (i : Int)).f2 (rd_T47 l0 (i : Int)).f3 a1)
    go_wp2_with fail
    refine (ledger_place_1.calls _ _ _ _ a1 _ _ HC.out).mono ?_
    rintro e w' ⟨rfl, hb2⟩
    have HB2 := Aside0.mk (below_then HB.out HB.out.size hb2)
    clear hb2 hx0 hx1 hx2 hx3 HC
    have e2 : ((if (rd_T47 l0 (i : Int)).f0 < a1 then (-1 : Int) else if (rd_T47 l0 (i : Int)).f0 > a1 then 1 else 0) == 0) = decide ((rd_T47 l0 (i : Int)).f0 = a1) := by
     split
     ·rename_i h; rw [decide_eq_false (by omega)]; rfl
     ·split
      ·rename_i h; rw [decide_eq_false (by omega)]; rfl
      ·rename_i h1 h2; rw [decide_eq_true (by omega)]; rfl
    generalize (if (rd_T47 l0 (i : Int)).f0 < a1 then (-1 : Int) else if (rd_T47 l0 (i : Int)).f0 > a1 then 1 else 0) = z at e2
    have E2 := Aside0.mk e2
    clear e2
    go_wp2_with fail
    go_ret2
    exact ⟨by rw [decide_eq_true hin, Bool.true_and, ← E2.out]; rfl, HB2.out⟩
   ·have pd : decide ((i : Int) < (l0.length : Int)) = false := decide_eq_false (by omega)
    have pdn : decide (i < l0.length) = false := decide_eq_false hin
    go_wp2_with fail
    go_ret2
    exact ⟨by rw [decide_eq_false hin, Bool.false_and]; rfl, HB.out⟩
def ledger_place.f (l0 : List S47) (a1 : Int) : Option (Int × Bool) := if l0.length ≤ 4611686018427387904 then some ((bsN (ledger_place.P l0 a1) 64 0 l0.length : Int), decide (bsN (ledger_place.P l0 a1) 64 0 l0.length < l0.length) && decide ((rd_T47 l0 (bsN (ledger_place.P l0 a1) 64 0 l0.length : Int)).f0 = a1)) else none
theorem ledger_place.calls (A0 : Option Addr) (c0 : Nat) (l0 : List (S47)) (a1 : Int) (r1 : Int) (r2 : Bool) (w : World) (hr0 : Kd.C k47 w A0 l0.length l0) (hc0 : l0.length ≤ c0) (h : ledger_place.f l0 a1 = some (r1, r2)) :
  Calls Tryd.prog 48 #[.slice A0 l0.length c0, .int .i64 a1] w fun e w' => e = .returned (.tuple #[.int .i64 r1, .bool r2]) ∧ Below w.heap.size w w' := by
 unfold ledger_place.f at h
 split at h
 case isFalse => cases h
 case isTrue hbig =>
 have hC := ledger_place.bs_row A0 c0 l0 a1 w hr0 hc0 hbig _ rfl
 generalize hfin : bsN (ledger_place.P l0 a1) 64 0 l0.length = fin at h hC
 obtain ⟨h1, h2⟩ := Prod.mk.inj (Option.some.inj h)
 rw [h2, h1] at hC
 have HC := Aside0.mk hC
 clear hC h h1 h2 hfin hr0 hc0
 go_enter Tryd.func48, Tryd.ntmps48
 go_wp2_with fail
 refine HC.out.mono ?_
 rintro e w' ⟨rfl, hb2⟩
 go_wp2_with fail
 go_ret2
 exact ⟨rfl, hb2⟩
end Go.Proofs.YtdiopojnkjkgmaaDoor.Print
namespace Go.Proofs.YtdiopojnkjkgmaaDoor.Print
open Go.RowKit Go.Proofs.YtdiopojnkjkgmaaDoorW.PrintWords Go.Proofs.YtdiopojnkjkgmaaDoorW.PrintLast Go.Proofs.YtdiopojnkjkgmaaDoorW.PrintMore
attribute [local go_sem] max2_mx min2_mn max_two min_two max_three min_three max_four min_four
set_option linter.unusedVariables false
set_option linter.unusedSimpArgs false
def plcI (ps : List S47) (n : Int) : Nat := bsN (ledger_place.P ps n) 64 0 ps.length
def plcB (ps : List S47) (n : Int) : Bool := decide (plcI ps n < ps.length) && decide ((rd_T47 ps (plcI ps n : Int)).f0 = n)
def payOf (ps : List S47) (n : Int) : S47 := if plcB ps n = true then pAt ps (plcI ps n) else zeroP n
theorem plc_is (ps : List S47) (n : Int) (h : ps.length ≤ 4611686018427387904) : ledger_place.f ps n = some ((plcI ps n : Int), plcB ps n) := if_pos h
theorem plc_lt {ps : List S47} {n : Int} (h : plcB ps n = true) : plcI ps n < ps.length := by
 unfold plcB at h
 simp only [Bool.and_eq_true, decide_eq_true_eq] at h
 exact h.1
theorem plc_le (ps : List S47) (n : Int) : plcI ps n ≤ ps.length := bsN_le _ 64 0 ps.length (Nat.zero_le _)
set_option maxHeartbeats 4000000 in
set_option maxRecDepth 100000 in
theorem ledger_book_pay.row (w0 : World) (g : Nat) (vp vq : Value) (ps : List S47) (qs : List S69) (why : Int) (n : Int) (w : World) (hk : Bk w0 w g vp vq ps qs why) (hl : ps.length ≤ 4611686018427387904) :
  Calls Tryd.prog 27 #[.pointer (some ⟨g, 0, none⟩), .int .i64 n] w fun e w' => e = .returned (.agg (pcells (payOf ps n))) ∧ Below w.heap.size w w' := by
 have hu31 := Tryd.underlying47
 obtain ⟨Ap, cp, rfl⟩ := Kd.R_slice hk.rp
 have HK := Aside0.mk hk
 have HP := Aside0.mk (plc_is ps n hl)
 have HLL := Aside0.mk hl
 clear hk hl
 obtain ⟨i, hi⟩ : ∃ i, i = plcI ps n := ⟨_, rfl⟩
 obtain ⟨b, hb_⟩ : ∃ b, b = plcB ps n := ⟨_, rfl⟩
 rw [← hi, ← hb_] at HP
 have HI := Aside0.mk hi
 have HBB := Aside0.mk hb_
 clear hi hb_
 go_enter Tryd.func27, Tryd.ntmps27
 go_wp2_with (first | ((with_reducible refine gate_dst (N := 4) rfl ?_); refine box_event ?hg (N := 4) ?hd (cs := #[.int .i64 0, .int .i64 0, .int .i64 0, .int .i64 0]) (t := 47) ?hr ?_; (case hd => rfl); (case hg => rfl); (case hr => first | (go_simp; done) | (go_simp; rfl)); intro g4 hg4 w1 hbox hb; have K1 := Aside0.mk (HK.out.below hb); have BP := Aside0.mk hbox; have HB := Aside0.mk hb; have G4 : Aside0 (w.heap.size ≤ g4) := ⟨by rw [hg4]; exact Nat.le_refl _⟩; have hg0 := (blk_cell K1.out.blk 0).trans rfl; clear hbox hb hg4 HK))
 refine (ledger_place.calls Ap cp ps n _ _ _ (Kd.R_reads' K1.out.rp).2.2 (Kd.R_reads' K1.out.rp).2.1 HP.out).mono ?_
 rintro e w2 ⟨rfl, hb2⟩
 have K2 := Aside0.mk (K1.out.below hb2)
 have BP2 := Aside0.mk (blk_below BP.out hb2)
 have HB2 := Aside0.mk (below_step HB.out hb2)
 clear hg0 hb2 K1 BP HB HP
 have hg0 := (blk_cell K2.out.blk 0).trans rfl
 have hz0 := (blk_cell BP2.out 0).trans rfl
 have hz1 := (blk_cell BP2.out 1).trans rfl
 have hz2 := (blk_cell BP2.out 2).trans rfl
 have hz3 := (blk_cell BP2.out 3).trans rfl
 have hf0 := blk_frozen BP2.out 0
 have hf1 := blk_frozen BP2.out 1
 have hf2 := blk_frozen BP2.out 2
 have hf3 := blk_frozen BP2.out 3
 cases b with
 | false =>
  have HV : Aside0 (payOf ps n = zeroP n) := ⟨if_neg (by rw [← HBB.out]; simp)⟩
  go_wp2_with fail
  refine bodyPost_ret (results_cell_row rfl _ _ g4 47 #[.int .i64 n, .int .i64 0, .int .i64 0, .int .i64 0] (0, 0) _ rfl (set4B BP2.out _ _ _ _) Tryd.underlying47 rfl (by kernel_rfl)) rfl ⟨by rw [HV.out]; rfl, set4W HB2.out G4.out _ _ _ _⟩
 | true =>
  have HV : Aside0 (payOf ps n = pAt ps i) := ⟨by unfold payOf; rw [← HBB.out, if_pos rfl, ← HI.out]⟩
  have hlt : i < ps.length := by rw [HI.out]; exact plc_lt HBB.out.symm
  obtain ⟨ad, he, hx0, hx1, hx2, hx3⟩ := at_T47 (Kd.R_reads' K2.out.rp).2.2 (i : Int) (Int.natCast_nonneg _) (Int.ofNat_lt.mpr hlt)
  subst he
  rw [Int.toNat_natCast, rd_pAt] at hx0 hx1 hx2 hx3
  obtain ⟨p, hp⟩ : ∃ p, p = pAt ps i := ⟨_, rfl⟩
  rw [← hp] at hx0 hx1 hx2 hx3 HV
  have pm : ((i : Int) < (ps.length : Int)) = True := eq_true (Int.ofNat_lt.mpr hlt)
  clear hlt hp
  go_wp2_with fail
  refine bodyPost_ret (results_cell_row rfl _ _ g4 47 #[.int .i64 p.f0, .int .i64 p.f1, .int .i64 p.f2, .int .i64 p.f3] (0, 0) _ rfl (set4B BP2.out _ _ _ _) Tryd.underlying47 rfl (by kernel_rfl)) rfl ⟨by rw [HV.out]; rfl, set4W HB2.out G4.out _ _ _ _⟩
end Go.Proofs.YtdiopojnkjkgmaaDoor.Print
namespace Go.Proofs.YtdiopojnkjkgmaaDoor.Print
open Go.RowKit Go.Proofs.YtdiopojnkjkgmaaDoorW.PrintWords Go.Proofs.YtdiopojnkjkgmaaDoorW.PrintLast Go.Proofs.YtdiopojnkjkgmaaDoorW.PrintMore
attribute [local go_sem] max2_mx min2_mn max_two min_two max_three min_three max_four min_four
set_option linter.unusedVariables false
set_option linter.unusedSimpArgs false
theorem api_Pay_50.zeros (z : Value) : (Builtin.zeroCells z.cells 1).toList = z.cells.toList := by
 unfold Builtin.zeroCells
 apply List.ext_getElem
 ·simp
 ·intro i h1 h2
  have hl : i < z.cells.size := by simpa using h2
  simp [Nat.mod_eq_of_lt hl, hl]
theorem api_Pay_50.clear_one (w : World) (g o c : Nat) (cs : Array Value) (hg : w.heap[g]? = some (.cells cs 47 (0, 0))) (ho : o + 4 ≤ cs.size) (ty : TypeId) :
  (Builtin.clear_ #[32] ty #[.slice (some ⟨g, o, none⟩) 1 c]).run Tryd.prog w = .ok (.tuple #[]) (w.setCells g o ((.agg #[(.int .i64 0), (.int .i64 0), (.int .i64 0), (.int .i64 0)]) : Value).cells.toList) := by
 obtain ⟨i0, hi0, hz0, hzs, hzb⟩ := info_parts info47
 have hzv : (zeroValue 47).run Tryd.prog w = .ok (.agg #[(.int .i64 0), (.int .i64 0), (.int .i64 0), (.int .i64 0)]) w := by
  simp [zeroValue, typeInfo, hi0, hz0]
 have hst := run_storeCells_cells (P := Tryd.prog) g o ((.agg #[(.int .i64 0), (.int .i64 0), (.int .i64 0), (.int .i64 0)]) : Value).cells.toList 0 w
  (fun j hj => by rw [cell_of_row w g _ cs 47 (0, 0) hg, Array.getElem?_eq_getElem (by have : j < 4 := hj; omega)]; rfl)
  (fun j _ => blk_frozen hg _) (by decide)
 rw [Nat.add_zero] at hst
 have hst2 : (storeCells ⟨g, o, none⟩ ((.agg #[(.int .i64 0), (.int .i64 0), (.int .i64 0), (.int .i64 0)]) : Value).cells.toList).run Tryd.prog w = .ok () (w.setCells g o ((.agg #[(.int .i64 0), (.int .i64 0), (.int .i64 0), (.int .i64 0)]) : Value).cells.toList) := by simpa using hst
 simp only [Builtin.clear_]
 simp [run_underlying Tryd.underlying32, hzv, api_Pay_50.zeros]
 rw [hst2]
 rfl
set_option maxHeartbeats 4000000 in
set_option maxRecDepth 100000 in
theorem api_Pay_50.raw (w : World) (g n c i : Nat) (cur : Array Value) (xs : List Value) (hg : w.heap[g]? = some (.cells cur 47 (0, 0))) (hsz : cur.size = c * 4) (hcm : c ≤ maxLen) (hxs : cur.toList.take (n * 4) = xs) (hxl : xs.length = n * 4) (h1x : ∀ u ∈ xs, u.oneCell' = true) (hi : i < n) (hnc : n ≤ c) :
  Calls Tryd.prog 50 #[.slice (some ⟨g, 0, none⟩) n c, .int .i64 (i : Int), .int .i64 ((i : Int) + 1)] w fun e w' => ∃ R, e = .returned (.slice (some ⟨g, 0, none⟩) (n - 1) c) ∧ w'.heap[g]? = some (.cells R 47 (0, 0)) ∧ R.size = c * 4 ∧ R.toList.take ((n - 1) * 4) = xs.take (i * 4) ++ xs.drop ((i + 1) * 4) ∧ w.grownBy w' (some g) := by
 obtain ⟨i0, hi0, hz0, hzs, hzb⟩ := info_parts info47
 have hc63 : c ≤ 9223372036854775807 := by simp only [maxLen] at hcm; omega
 obtain ⟨news, hnews⟩ : ∃ news, news = xs.drop ((i + 1) * 4) := ⟨_, rfl⟩
 have hnl : news.length = (n - (i + 1)) * 4 := by rw [hnews, List.length_drop, hxl, Nat.sub_mul]
 have hdg : w.drew.heap[g]? = some (.cells cur 47 (0, 0)) := hg
 obtain ⟨A, hA, hsrc⟩ : ∃ A : Addr, (if c = i + 1 then some (⟨g, 0, none⟩ : Addr) else some ⟨g, (i + 1) * 4, none⟩) = some A ∧ Hid (∀ t u, news[t]? = some u → w.drew.cell? (A.add t) = some u) := by
  by_cases h : c = i + 1
  ·refine ⟨⟨g, 0, none⟩, by simp [h], fun t u hu => ?_⟩
   have h0 : news = [] := List.eq_nil_of_length_eq_zero (by rw [hnl]; omega)
   rw [h0] at hu
   simp at hu
  ·refine ⟨⟨g, (i + 1) * 4, none⟩, by simp [h], fun t u hu => ?_⟩
   rw [Addr.add_lit, cell_of_row _ _ _ _ _ _ hdg, ← Array.getElem?_toList]
   rw [hnews, List.getElem?_drop, ← hxs, List.getElem?_take] at hu
   split at hu
   ·exact hu
   ·cases hu
 have s1 : Hid (news.length = (n - (i + 1)) * 4) := hnl
 have s2 : Hid (∀ u ∈ news, u.oneCell' = true) := fun u hu => h1x u (List.mem_of_mem_drop (hnews ▸ hu))
 have s3 : Hid (∀ t, t < news.length → (w.drew.cell? ⟨g, 0 + i * 4 + t, none⟩).isSome = true ∧ w.drew.frozen? ⟨g, 0 + i * 4 + t, none⟩ = false) := by
  intro t ht
  rw [hnl] at ht
  exact ⟨by rw [cell_of_row _ _ _ _ _ _ hdg, Array.getElem?_eq_getElem (by omega)]; rfl, blk_frozen hdg _⟩
 obtain ⟨W1, hW1⟩ : ∃ W1, W1 = w.drew.setCells g (0 + i * 4) news := ⟨_, rfl⟩
 obtain ⟨R1, hR1, hR1s, hR1t⟩ := setCells_row news (0 + i * 4) w.drew cur hdg (by omega)
 rw [← hW1] at hR1
 obtain ⟨a1, a2, a3, a4⟩ := setCells_same g news (0 + i * 4) w.drew
 have hfar1 : ∀ k, k ≠ g → W1.heap[k]? = w.heap[k]? := fun k hk => by rw [hW1]; exact setCells_far news _ k hk
 rw [← hW1] at a1 a2 a3 a4
 obtain ⟨W2, hW2⟩ : ∃ W2, W2 = W1.setCells g ((n - 1) * 4) ((.agg #[(.int .i64 0), (.int .i64 0), (.int .i64 0), (.int .i64 0)]) : Value).cells.toList := ⟨_, rfl⟩
 obtain ⟨R2, hR2, hR2s, hR2t⟩ := setCells_row ((.agg #[(.int .i64 0), (.int .i64 0), (.int .i64 0), (.int .i64 0)]) : Value).cells.toList ((n - 1) * 4) W1 R1 hR1 (by rw [hR1s, hsz, show ((.agg #[(.int .i64 0), (.int .i64 0), (.int .i64 0), (.int .i64 0)]) : Value).cells.toList.length = 4 from rfl]; omega)
 rw [← hW2] at hR2
 obtain ⟨b1, b2, b3, b4⟩ := setCells_same g ((.agg #[(.int .i64 0), (.int .i64 0), (.int .i64 0), (.int .i64 0)]) : Value).cells.toList ((n - 1) * 4) W1
 rw [← hW2] at b1 b2 b3 b4
 have hcl : ∀ ty, (Builtin.clear_ #[32] ty #[.slice (some ⟨g, (i + (n - (i + 1))) * 4, none⟩) (n - (i + (n - (i + 1)))) (c - (i + (n - (i + 1))))]).run Tryd.prog W1 = .ok (.tuple #[]) W2 := fun ty => by
  rw [hW2, show n - (i + (n - (i + 1))) = 1 by omega, show i + (n - (i + 1)) = n - 1 by omega]; exact api_Pay_50.clear_one W1 g ((n - 1) * 4) _ R1 hR1 (by rw [hR1s, hsz]; omega) ty
 have hgrown : w.grownBy W2 (some g) := ⟨b1.trans a1, b2.trans a2, b3.trans a3, by rw [b4, a4]; exact Nat.le_refl _, fun k _ hk => by
  have hkg : k ≠ g := fun h => hk (by rw [h])
  rw [hW2, setCells_far _ _ k hkg]; exact hfar1 k hkg⟩
 have htake : R2.toList.take ((n - 1) * 4) = xs.take (i * 4) ++ news := by
  rw [hR2t, List.append_assoc, List.take_append_of_le_length (by rw [List.length_take, Array.length_toList, hR1s, hsz]; omega), List.take_take, Nat.min_eq_left (Nat.le_refl _), hR1t, Nat.zero_add]
  have h7 : cur.toList.take (i * 4) = xs.take (i * 4) := by rw [← hxs, List.take_take, Nat.min_eq_left (by omega)]
  rw [h7]
  exact List.take_left' (by rw [List.length_append, List.length_take, hnl]; omega)
 have F1 := Aside0.mk hR2
 have F2 := Aside0.mk (hR2s.trans (hR1s.trans hsz))
 have F3 := Aside0.mk (hnews ▸ htake)
 have F4 := Aside0.mk hgrown
 (try simp only [Nat.mul_one] at hcl hA)
 have HCL := Aside0.mk hcl
 have HW : Hid (W1 = w.drew.setCells g (0 + i * 4) news) := hW1
 have hic : i ≤ c := by omega
 have hi1c : i + 1 ≤ c := by omega
 have hin : i ≤ n := by omega
 have hi1n : i + 1 ≤ n := by omega
 have hne : ¬ ((i : Int) = (i : Int) + 1) := by omega
 have hneb : ((i : Int) == (i : Int) + 1) = false := beq_eq_false_iff_ne.mpr hne
 clear hW1 hR1 hR1s hR1t hfar1 a1 a2 a3 a4 hW2 hR2 hR2s hR2t b1 b2 b3 b4 hgrown htake hdg hnews hnl hxs hxl h1x hg hsz hcl
 have mixed : Tryd.prog.follows Departure.mixedOrders = true := by kernel_rfl
 have htn : ((i : Int) + (1 : Int)).toNat = i + 1 := by omega
 have hb1 : (0 : Int) ≤ (i : Int) + (1 : Int) := by omega
 have hb2 : (i : Int) + (1 : Int) ≤ (n : Int) := by omega
 go_enter Tryd.func50, Tryd.ntmps50
 go_wp2_with fail
 go_region_law_o (refine step_append_room rfl (.tmp 22) (.tmp 25) 32 rfl 47 i0 4 Tryd.underlying32 hi0 hzs g 0 i c (by simp [Act.eval, Act.put]) A (n - (i + 1)) (c - (i + 1)) news (by simp [Act.eval, Act.put]) s1.out hsrc.out s2.out (by omega) s3.out ?_; rw [← HW.out])
 have hcl := HCL.out
 go_wp2
 go_ret
 exact ⟨R2, by rw [show n - 1 = i + (n - (i + 1)) by omega]; rfl, F1.out, F2.out, F3.out, F4.out⟩
theorem api_Pay_50.del (P0_ : Nat → Prop) (v : Value) (l0 : List (S47)) (i : Nat) (hi : i < l0.length) (base : Nat) (w : World) (ho0 : Kd.R k47 47 w base P0_ v l0) :
  Calls Tryd.prog 50 #[v, .int .i64 (i : Int), .int .i64 ((i : Int) + 1)] w fun e w' => ∃ v1 : Value, e = .returned v1 ∧ Kd.R k47 47 w' base P0_ v1 (l0.eraseIdx i) ∧ w.grownBy w' v.ownBlock ∧ v1.ownBlock = v.ownBlock := by
 obtain ⟨h0, inner, hown, hrep⟩ := ho0
 have h1x : ∀ u ∈ inner, u.oneCell' = true := Kd.reps_one hrep (show 0 < k47.sz by decide) (fun _ _ hq => k47.K_one (k47.K_of_M hq))
 have hil : inner.length = l0.length * 4 := hown.1
 rcases hown.2 with ⟨_, hn⟩ | ⟨g, cap, cur, rfl, hbas, hheap, hnc, hcm, hcs, htk⟩
 ·omega
 refine (api_Pay_50.raw w g l0.length cap i cur inner hheap hcs hcm htk hil h1x hi hnc).mono ?_
 rintro e w' ⟨R, rfl, hH, hRs, hRt, hgr⟩
 have hel : (l0.eraseIdx i).length = l0.length - 1 := List.length_eraseIdx_of_lt hi
 have hob : ∀ m, (Value.slice (some ⟨g, 0, none⟩) m cap).ownBlock = some g := fun m => rfl
 refine ⟨_, rfl, ⟨fun k hk => h0 k hk, inner.take (i * 4) ++ inner.drop ((i + 1) * 4), ?_, ?_⟩, hgr, rfl⟩
 ·rw [hel]
  refine ⟨?_, .inr ⟨g, cap, R, rfl, hbas, hH, by omega, hcm, hRs, hRt⟩⟩
  show (inner.take (i * 4) ++ inner.drop ((i + 1) * 4)).length = (l0.length - 1) * 4
  rw [List.length_append, List.length_take, List.length_drop, hil]
  have : (l0.length - 1) * 4 = l0.length * 4 - 4 := by rw [Nat.sub_mul, Nat.one_mul]
  omega
 ·rw [List.eraseIdx_eq_take_drop_succ]
  have hmv : ∀ p q, k47.M w base (fun k' => P0_ k' ∧ some k' ≠ (Value.slice (some ⟨g, 0, none⟩) l0.length cap).ownBlock) p q → k47.M w' base (fun k' => P0_ k' ∧ some k' ≠ (Value.slice (some ⟨g, 0, none⟩) (l0.length - 1) cap).ownBlock) p q := fun p q hp =>
   Kd.M_grown hp hgr (fun k hk => hk.2)
  exact Kd.reps_append ((Kd.reps_take hrep (by omega)).imp_ hmv) ((Kd.reps_drop hrep).imp_ hmv)
def api_Pay_50.f (l0 : List S47) (a1 a2 : Int) : Option (List S47) :=
 if 0 ≤ a1 ∧ a1 < (l0.length : Int) ∧ a2 = a1 + 1 then some (l0.eraseIdx a1.toNat) else none
theorem api_Pay_50.calls (P0_ : Nat → Prop) (u9000_ : Value) (l0 : List (S47)) (a1 a2 : Int) (r : List (S47)) (w0 w : World) (hB : Below w0.heap.size w0 w) (ho0 : Kd.R k47 47 w w0.heap.size P0_ u9000_ l0) (h : api_Pay_50.f l0 a1 a2 = some r) :
  Calls Tryd.prog 50 #[u9000_, .int .i64 a1, .int .i64 a2] w fun e w' => ∃ v0_ : Value, e = .returned v0_ ∧ Kd.R k47 47 w' w0.heap.size (fun k_ => (P0_ k_ ∨ w.heap.size ≤ k_)) v0_ r ∧ Below w0.heap.size w0 w' ∧ Kept w w' (fun k_ => P0_ k_) := by
 unfold api_Pay_50.f at h
 split at h
 case isFalse => cases h
 case isTrue hc =>
 obtain rfl := Option.some.inj h
 obtain ⟨ha0, ha1, rfl⟩ := hc
 obtain ⟨i, rfl⟩ := Int.eq_ofNat_of_zero_le ha0
 simp only [Int.toNat_natCast]
 have hbo := Kd.R_base ho0
 have h0 := ho0.1
 refine (api_Pay_50.del P0_ u9000_ l0 i (by omega) w0.heap.size w ho0).mono ?_
 rintro e w' ⟨v1, rfl, ho, hg, hat⟩
 exact ⟨v1, rfl, Kd.R_mono ho (fun _ hk => .inl hk), hB.grown hg hB.size hbo, Kept.of_grown hg (Kept.refl _ _) (fun k hk => .inl (h0 k hk))⟩
end Go.Proofs.YtdiopojnkjkgmaaDoor.Print
namespace Go.Proofs.YtdiopojnkjkgmaaDoor.Print
open Go.RowKit Go.Proofs.YtdiopojnkjkgmaaDoorW.PrintWords Go.Proofs.YtdiopojnkjkgmaaDoorW.PrintLast Go.Proofs.YtdiopojnkjkgmaaDoorW.PrintMore
attribute [local go_sem] max2_mx min2_mn max_two min_two max_three min_three max_four min_four
set_option linter.unusedVariables false
set_option linter.unusedSimpArgs false
set_option maxHeartbeats 4000000 in
set_option maxRecDepth 100000 in
theorem api_Pay_51.end_ (w : World) (base : Nat) (v : Value) (n : Nat) (xs : List Value) (hO : w.ownsRow base 47 4 v n xs) (vb : Addr) (vc : Nat) (ys : List Value) (hy : ∀ j u, ys[j]? = some u → w.cell? (vb.add j) = some u) (hyl : ys.length = 4) (h1 : ∀ u ∈ ys, u.oneCell' = true) (hbig : (n + 1) * 32 ≤ 140737488355328) (hbase : base ≤ w.heap.size) :
  Calls Tryd.prog 51 #[v, .int .i64 n, .slice (some vb) 1 vc] w fun e w' => ∃ v1, e = .returned v1 ∧ w'.ownsRow base 47 4 v1 (n + 1) (xs ++ ys) ∧ w.grownBy w' v.ownBlock ∧ (v1.ownBlock = v.ownBlock ∨ v1.ownBlock = some w.heap.size) := by
 obtain ⟨i0, hi0, hz0, hzs, hzb⟩ := info_parts info47
 obtain ⟨v1, w1, hr, h2, h3, _, h5⟩ := run_append_own_at (P := Tryd.prog) (w := w) base 32 32 47 i0 (.agg #[(.int .i64 0), (.int .i64 0), (.int .i64 0), (.int .i64 0)]) 4 32 Tryd.underlying32 hi0 hz0 hzs hzb rfl (by omega) v n xs hO vb 1 vc ys (by simpa using hyl) hy h1 (by simp only [maxLen]; omega) hbig hbase
 have H2 := Aside0.mk h2
 have H3 := Aside0.mk h3
 have H5 := Aside0.mk h5
 clear h2 h3 h5
 have hshape : ∃ A c, v = .slice A n c ∧ n ≤ c := by
  rcases hO.2 with ⟨rfl, rfl⟩ | ⟨g, cap, cur, rfl, _, _, h, _⟩
  ·exact ⟨_, _, rfl, Nat.le_refl _⟩
  ·exact ⟨_, _, rfl, h⟩
 have HY := Aside0.mk hy
 clear hO hy
 obtain ⟨A, c, rfl, hnc⟩ := hshape
 have hn63 : n ≤ 9223372036854775807 := by omega
 go_enter Tryd.func51, Tryd.ntmps51
 go_wp2_with (at_builtin; refine Lib.wpList_append_run _ rfl _ _ _ _ rfl _ _ rfl rfl _ _ hr ?_)
 all_goals go_ret
 all_goals exact ⟨v1, rfl, H2.out, by cases A <;> exact H3.out, by cases A <;> exact H5.out⟩
set_option maxHeartbeats 4000000 in
set_option maxRecDepth 100000 in
theorem api_Pay_51.grow_ (w : World) (g n c i : Nat) (cur : Array Value) (xs : List Value) (hg : w.heap[g]? = some (.cells cur 47 (0, 0))) (hsz : cur.size = c * 4) (hxs : cur.toList.take (n * 4) = xs) (hxl : xs.length = n * 4) (h1x : ∀ u ∈ xs, u.oneCell' = true) (hi : i < n) (hnc : n ≤ c) (hroom : c < n + 1)
  (vb : Addr) (vc : Nat) (ys : List Value) (hy : ∀ j u, ys[j]? = some u → w.cell? (vb.add j) = some u) (hyl : ys.length = 4) (h1 : ∀ u ∈ ys, u.oneCell' = true) (hbig : (n + 1) * 32 ≤ 140737488355328) :
  Calls Tryd.prog 51 #[.slice (some ⟨g, 0, none⟩) n c, .int .i64 i, .slice (some vb) 1 vc] w fun e w' => ∃ G R, e = .returned (.slice (some ⟨w.heap.size, 0, none⟩) (n + 1) G) ∧ (n + 1 ≤ G ∧ G ≤ maxLen) ∧ w'.heap[w.heap.size]? = some (.cells R 47 (0, 0)) ∧ R.size = G * 4 ∧ R.toList.take ((n + 1) * 4) = xs.take (i * 4) ++ ys ++ xs.drop (i * 4) ∧ w.grownBy w' none := by
 obtain ⟨i0, hi0, hz0, hzs, hzb⟩ := info_parts info47
 have hold : (Builtin.firstCells i0.size i (.slice (some ⟨g, 0, none⟩) i c)).run Tryd.prog w.drew = .ok (xs.take (i * 4)).toArray w.drew := by
  rw [hzs]
  exact run_firstCells_some w.drew 4 i ⟨g, 0, none⟩ i c (xs.take (i * 4)) (by rw [List.length_take]; omega) (fun j v hj => by
   rw [add_plain, cell_of_row _ _ _ _ _ _ (show w.drew.heap[g]? = _ from hg), ← Array.getElem?_toList]
   rw [List.getElem?_take] at hj
   split at hj
   ·rw [← hxs, List.getElem?_take] at hj
    split at hj
    ·exact hj
    ·cases hj
   ·cases hj)
 have hkk : (n : Int) + (1 : Int) - (i : Int) = ((n + 1 - i : Nat) : Int) := by omega
 have hik : i + (n + 1 - i) = n + 1 := by omega
 obtain ⟨G, R0, hG, hGl, hR0, hR0t, hrz⟩ : ∃ G R0, n + 1 ≤ G ∧ G ≤ maxLen ∧ Array.size R0 = G * 4 ∧ R0.toList.take (i * 4) = xs.take (i * 4) ∧ (Builtin.append_ #[32, 3] 32 #[.slice (some ⟨g, 0, none⟩) i c, .int .i64 ((n : Int) + (1 : Int) - (i : Int))]).run Tryd.prog w = .ok (.slice (some ⟨w.heap.size, 0, none⟩) (n + 1) G) (w.drew.alloc (.cells R0 47)) := by
  have h := Lib.run_append_grow_zeros w 32 3 32 47 i0 _ .i64 .i64 Tryd.underlying32 Tryd.underlying3 hi0 hz0 (some ⟨g, 0, none⟩) i c (xs.take (i * 4)) hold (n + 1 - i) (by omega) (by omega) (by omega) (by omega) (by rw [hzb]; omega) (by rw [hzb, hik]; exact growslice_fits hroom hbig)
  rw [hik, ← hkk] at h
  have hge := grownCap_ge w (n + 1) c 47
  refine ⟨_, _, hge, grownCap_le_maxLen w (n + 1) c 47 (by unfold maxLen; omega), ?_, ?_, h⟩
  ·rw [Array.size_append, Array.size_append, List.size_toArray, size_zeroCells, size_zeroCells, List.length_take, show ((.agg #[(.int .i64 0), (.int .i64 0), (.int .i64 0), (.int .i64 0)]) : Value).cells.size = 4 from rfl, Nat.min_eq_left (by omega), ← Nat.add_mul, ← Nat.add_mul]
   congr 1
   omega
  ·rw [Array.toList_append, Array.toList_append, List.append_assoc, List.take_append_of_le_length (by rw [List.length_take]; omega), List.take_of_length_le (by rw [List.length_take]; omega)]
 have hgw : g < w.heap.size := blk_lt hg
 obtain ⟨R1, hR1⟩ : ∃ R1, R1 = (R0.toList.take (i * 4) ++ ys ++ R0.toList.drop (i * 4 + ys.length)).toArray := ⟨_, rfl⟩
 obtain ⟨R2, hR2⟩ : ∃ R2, R2 = (R1.toList.take ((i + 1) * 4) ++ xs.drop (i * 4) ++ R1.toList.drop ((i + 1) * 4 + (xs.drop (i * 4)).length)).toArray := ⟨_, rfl⟩
 have hdl : (xs.drop (i * 4)).length = (n - i) * 4 := by rw [List.length_drop, hxl, Nat.sub_mul]
 have hR1s : R1.size = G * 4 := by
  rw [hR1, List.size_toArray, List.length_append, List.length_append, List.length_take, List.length_drop, Array.length_toList, hyl, hR0]
  omega
 have hR2s : R2.size = G * 4 := by
  rw [hR2]
  generalize xs.drop (i * 4) = D at hdl
  rw [List.size_toArray, List.length_append, List.length_append, List.length_take, List.length_drop, Array.length_toList, hdl, hR1s]
  omega
 have hR1t : R1.toList.take ((i + 1) * 4) = xs.take (i * 4) ++ ys := by
  have hl0 : (R0.toList.take (i * 4)).length = i * 4 := by rw [List.length_take, Array.length_toList, hR0]; omega
  rw [hR1, List.take_append_of_le_length (by rw [List.length_append, hl0, hyl]; omega), List.take_of_length_le (by rw [List.length_append, hl0, hyl]; omega), hR0t]
 have hR2t : R2.toList.take ((n + 1) * 4) = xs.take (i * 4) ++ ys ++ xs.drop (i * 4) := by
  have hl1 : (xs.take (i * 4) ++ ys).length = (i + 1) * 4 := by rw [List.length_append, List.length_take, hyl]; omega
  rw [hR2, hR1t, List.take_append_of_le_length (by rw [List.length_append, hl1, hdl]; omega), List.take_of_length_le (by rw [List.length_append, hl1, hdl]; omega)]
 have hNW : (w.alloc (.cells R0 47)).drew.heap[w.heap.size]? = some (.cells R0 47 (0, 0)) := heap_alloc_new w _
 have hmin1 : Nat.min 1 (n + 1 - i) = 1 := Nat.min_eq_left (by omega)
 have hmin2 : Nat.min (n - i) (n - i) = n - i := Nat.min_eq_left (Nat.le_refl _)
 have hcp1 : (Builtin.copy_ #[32, 32] 3 #[.slice (some ⟨w.heap.size, i * 4, none⟩) (n + 1 - i) (G - i), .slice (some vb) 1 vc]).run Tryd.prog (w.alloc (.cells R0 47)).drew = .ok (goInt (Nat.min 1 (n + 1 - i))) ((w.alloc (.cells R0 47)).drew.setRow w.heap.size R1) := by
  rw [hR1]
  exact run_copy_rowsz _ 32 32 3 47 4 w.heap.size (i * 4) (n + 1 - i) (G - i) vb 1 vc R0 47 ys Tryd.underlying32 (by rw [hi0]; simp [hzs]) hNW (by rw [hyl, hmin1])
   (fun j v hj => by
    have := hy j v hj
    exact pw_cell_below (below_alloc (Below.refl _ _) _) this) (by rw [hyl, hR0]; omega) h1
 have hNW1 : ((w.alloc (.cells R0 47)).drew.setRow w.heap.size R1).drew.heap[w.heap.size]? = some (.cells R1 47 (0, 0)) := setRow_heap _ _ R0 R1 47 _ hNW
 have hgW1 : ((w.alloc (.cells R0 47)).drew.setRow w.heap.size R1).drew.heap[g]? = some (.cells cur 47 (0, 0)) := by
  show ((w.alloc (.cells R0 47)).setRow w.heap.size R1).heap[g]? = _
  rw [setRow_other _ _ _ _ (by omega)]
  exact blk_alloc hg _
 have hcp2 : (Builtin.copy_ #[32, 32] 3 #[.slice (some ⟨w.heap.size, (i + 1) * 4, none⟩) (n - i) (G - (i + 1)), .slice (some ⟨g, i * 4, none⟩) (n - i) (c - i)]).run Tryd.prog ((w.alloc (.cells R0 47)).drew.setRow w.heap.size R1).drew = .ok (goInt (Nat.min (n - i) (n - i))) (((w.alloc (.cells R0 47)).drew.setRow w.heap.size R1).drew.setRow w.heap.size R2) := by
  rw [hR2]
  exact run_copy_rowsz _ 32 32 3 47 4 w.heap.size ((i + 1) * 4) (n - i) (G - (i + 1)) ⟨g, i * 4, none⟩ (n - i) (c - i) R1 47 (xs.drop (i * 4)) Tryd.underlying32 (by rw [hi0]; simp [hzs]) hNW1 (by rw [hdl, hmin2])
   (fun j v hj => by
    rw [Addr.add_lit, cell_of_row _ _ _ _ _ _ hgW1, ← Array.getElem?_toList]
    rw [List.getElem?_drop, ← hxs, List.getElem?_take] at hj
    split at hj
    ·exact hj
    ·cases hj) (by rw [hdl, hR1s]; omega) (fun v hv => h1x v (List.mem_of_mem_drop hv))
 have hfin : (((w.alloc (.cells R0 47)).drew.setRow w.heap.size R1).drew.setRow w.heap.size R2).heap[w.heap.size]? = some (.cells R2 47 (0, 0)) := setRow_heap _ _ R1 R2 47 _ hNW1
 have hgrown : w.grownBy (((w.alloc (.cells R0 47)).drew.setRow w.heap.size R1).drew.setRow w.heap.size R2) none := by
  have hB : Below w.heap.size w (((w.alloc (.cells R0 47)).drew.setRow w.heap.size R1).drew.setRow w.heap.size R2) :=
   below_setRow (below_drew (below_setRow (below_drew (below_alloc (Below.refl _ _) _)) (Nat.le_refl _) _)) (Nat.le_refl _) _
  exact grown_of_below hB none
 have F1 := Aside0.mk hfin
 have F2 := Aside0.mk hgrown
 have F3 := Aside0.mk hR2s
 have F4 := Aside0.mk hR2t
 have F5 := Aside0.mk (And.intro hG hGl)
 clear hmin1 hmin2 hfin hgrown hR2s hR2t hR2 hR1t hR1s hR1 hdl hNW hNW1 hgW1 hR0 hR0t hy
 have hin : i ≤ n := by omega
 have hGi : ¬ (G = i) := by omega
 have hGi1 : ¬ (G = i + 1) := by omega
 have hci : ¬ (c = i) := by omega
 clear hkk hik hold
 have hw1 : IntKind.i64.wrap ((i : Int) + (1 : Int)) = (i : Int) + (1 : Int) := by rw [IntKind.wrap_i64]; omega
 have hb1 : (0 : Int) ≤ (i : Int) + (1 : Int) := by omega
 have mixed : Tryd.prog.follows Departure.mixedOrders = true := by kernel_rfl
 have htn : ((i : Int) + (1 : Int)).toNat = i + 1 := by omega
 (try simp only [Nat.mul_one] at hrz hcp1 hcp2)
 go_enter Tryd.func51, Tryd.ntmps51
 go_wp2_with (first
  | (at_builtin; refine Lib.wpList_append_run _ rfl _ _ _ _ rfl _ _ rfl rfl _ _ hrz ?_)
  | (at_builtin; refine wpList_copy_runI _ rfl _ _ 32 32 rfl _ _ rfl rfl hcp1 ?_)
  | (at_builtin; refine wpList_copy_runI _ rfl _ _ 32 32 rfl _ _ rfl rfl hcp2 ?_))
 go_region_law_o (refine step_copy_runI rfl _ _ 32 32 rfl _ _ (by simp [Act.eval, Act.put]) (by simp [Act.eval, Act.put]) hcp2 ?_)
 go_wp2
 go_ret
 exact ⟨G, R2, rfl, F5.out, F1.out, F3.out, F4.out, F2.out⟩
set_option maxHeartbeats 4000000 in
set_option maxRecDepth 100000 in
theorem api_Pay_51.shift_ (w : World) (g n c i : Nat) (cur : Array Value) (xs : List Value) (hg : w.heap[g]? = some (.cells cur 47 (0, 0))) (hsz : cur.size = c * 4) (hcm : c ≤ maxLen) (hxs : cur.toList.take (n * 4) = xs) (hxl : xs.length = n * 4) (h1x : ∀ u ∈ xs, u.oneCell' = true) (hi : i < n) (hroom : n + 1 ≤ c)
  (vb : Addr) (vc : Nat) (ys : List Value) (hvg : vb.block ≠ g) (hy : ∀ j u, ys[j]? = some u → w.cell? (vb.add j) = some u) (hyl : ys.length = 4) (h1 : ∀ u ∈ ys, u.oneCell' = true) :
  Calls Tryd.prog 51 #[.slice (some ⟨g, 0, none⟩) n c, .int .i64 i, .slice (some vb) 1 vc] w fun e w' => ∃ R, e = .returned (.slice (some ⟨g, 0, none⟩) (n + 1) c) ∧ w'.heap[g]? = some (.cells R 47 (0, 0)) ∧ R.size = c * 4 ∧ R.toList.take ((n + 1) * 4) = xs.take (i * 4) ++ ys ++ xs.drop (i * 4) ∧ w.grownBy w' (some g) := by
 obtain ⟨i0, hi0, hz0, hzs, hzb⟩ := info_parts info47
 have hc63 : c ≤ 9223372036854775807 := by simp only [maxLen] at hcm; omega
 have hgw : g < w.heap.size := blk_lt hg
 have hdl : (xs.drop (i * 4)).length = (n - i) * 4 := by rw [List.length_drop, hxl, Nat.sub_mul]
 obtain ⟨D, hD⟩ : ∃ D, D = xs.drop (i * 4) := ⟨_, rfl⟩
 rw [← hD] at hdl ⊢
 obtain ⟨R1, hR1⟩ : ∃ R1, R1 = (cur.toList.take ((i + 1) * 4) ++ D ++ cur.toList.drop ((i + 1) * 4 + D.length)).toArray := ⟨_, rfl⟩
 obtain ⟨R2, hR2⟩ : ∃ R2, R2 = (R1.toList.take (i * 4) ++ ys ++ R1.toList.drop (i * 4 + ys.length)).toArray := ⟨_, rfl⟩
 have hR1s : R1.size = c * 4 := by
  rw [hR1, List.size_toArray, List.length_append, List.length_append, List.length_take, List.length_drop, Array.length_toList, hdl, hsz]
  omega
 have hR2s : R2.size = c * 4 := by
  rw [hR2, List.size_toArray, List.length_append, List.length_append, List.length_take, List.length_drop, Array.length_toList, hyl, hR1s]
  omega
 have hl0 : (cur.toList.take ((i + 1) * 4)).length = (i + 1) * 4 := by rw [List.length_take, Array.length_toList, hsz]; omega
 have hR2t : R2.toList.take ((n + 1) * 4) = xs.take (i * 4) ++ ys ++ D := by
  have ht : R1.toList.take (i * 4) = xs.take (i * 4) := by
   rw [hR1, List.append_assoc, List.take_append_of_le_length (by omega), List.take_take, Nat.min_eq_left (by omega), ← hxs, List.take_take, Nat.min_eq_left (by omega)]
  have hd : R1.toList.drop (i * 4 + ys.length) = D ++ cur.toList.drop ((i + 1) * 4 + D.length) := by
   rw [hR1, hyl, List.append_assoc, show i * 4 + 4 = (i + 1) * 4 by omega, List.drop_append, List.drop_of_length_le (by omega), hl0, Nat.sub_self, List.drop_zero, List.nil_append]
  have hl2 : (xs.take (i * 4) ++ ys ++ D).length = (n + 1) * 4 := by
   rw [List.length_append, List.length_append, List.length_take, hyl, hdl]; omega
  rw [hR2, ht, hd, ← List.append_assoc, List.take_append_of_le_length (by omega), List.take_of_length_le (by omega)]
 have hmin1 : Nat.min 1 (n + 1 - i) = 1 := Nat.min_eq_left (by omega)
 have hmin2 : Nat.min (n + 1 - i) (n - i) = n - i := Nat.min_eq_right (by omega)
 have hcp1 : (Builtin.copy_ #[32, 32] 3 #[.slice (some ⟨g, (i + 1) * 4, none⟩) (n - i) (c - (i + 1)), .slice (some ⟨g, i * 4, none⟩) (n + 1 - i) (c - i)]).run Tryd.prog w.drew = .ok (goInt (Nat.min (n + 1 - i) (n - i))) (w.drew.setRow g R1) := by
  rw [hR1]
  exact run_copy_rowsz _ 32 32 3 47 4 g ((i + 1) * 4) (n - i) (c - (i + 1)) ⟨g, i * 4, none⟩ (n + 1 - i) (c - i) cur 47 D Tryd.underlying32 (by rw [hi0]; simp [hzs]) hg (by rw [hdl, hmin2])
   (fun j v hj => by
    rw [Addr.add_lit, cell_of_row _ _ _ _ _ _ (show w.drew.heap[g]? = _ from hg), ← Array.getElem?_toList]
    rw [hD, List.getElem?_drop, ← hxs, List.getElem?_take] at hj
    split at hj
    ·exact hj
    ·cases hj) (by rw [hdl, hsz]; omega) (fun v hv => h1x v (List.mem_of_mem_drop (hD ▸ hv)))
 have hg1 : (w.drew.setRow g R1).heap[g]? = some (.cells R1 47 (0, 0)) := setRow_heap _ _ cur R1 47 _ hg
 have hcp2 : (Builtin.copy_ #[32, 32] 3 #[.slice (some ⟨g, i * 4, none⟩) (n + 1 - i) (c - i), .slice (some vb) 1 vc]).run Tryd.prog (w.drew.setRow g R1) = .ok (goInt (Nat.min 1 (n + 1 - i))) ((w.drew.setRow g R1).setRow g R2) := by
  rw [hR2]
  exact run_copy_rowsz _ 32 32 3 47 4 g (i * 4) (n + 1 - i) (c - i) vb 1 vc R1 47 ys Tryd.underlying32 (by rw [hi0]; simp [hzs]) hg1 (by rw [hyl, hmin1])
   (fun j v hj => by
    rw [cell_setRow_other _ _ _ _ (by rw [show (vb.add j).block = vb.block by unfold Addr.add; split <;> rfl]; exact hvg)]
    exact hy j v hj) (by rw [hyl, hR1s]; omega) h1
 have hfin : ((w.drew.setRow g R1).setRow g R2).heap[g]? = some (.cells R2 47 (0, 0)) := setRow_heap _ _ R1 R2 47 _ hg1
 have hgrown : w.grownBy ((w.drew.setRow g R1).setRow g R2) (some g) := by
  refine ⟨rfl, rfl, rfl, by simp, fun k hk hne => ?_⟩
  have hkg : k ≠ g := fun h => hne (by rw [h])
  rw [setRow_other _ _ _ _ hkg, setRow_other _ _ _ _ hkg]
  rfl
 have hov : ∀ lb cb, (callFunc 61 #[.slice (some vb) 1 vc, .slice (some ⟨g, (i + 1) * 4, none⟩) lb cb]).run Tryd.prog w = .ok (.value (.bool false)) w := fun lb cb => by
  rw [run_callFunc_extern Tryd.func61 (by kernel_rfl) (by kernel_rfl) (by kernel_rfl) (e := Extern.SlicesOverlaps.overlaps #[32, 32] #[4]) (by kernel_rfl),
   run_overlaps_own w 32 4 47 Tryd.underlying32 4 (fun w => by simp [sizeOf, typeInfo, hi0, hzs]) vb ⟨g, (i + 1) * 4, none⟩ 1 vc lb cb hvg (ys[0]'(by omega)) (by have h := hy 0 _ (List.getElem?_eq_getElem (show 0 < ys.length by omega)); rwa [show vb.add 0 = vb by unfold Addr.add; rfl] at h) cur 47 hg (by omega)]
  rfl
 have F1 := Aside0.mk hfin
 have F2 := Aside0.mk hgrown
 have F3 := Aside0.mk hR2s
 have F4 := Aside0.mk hR2t
 clear hmin1 hmin2 hfin hgrown hR2s hR2t hR2 hR1s hR1 hl0 hg1 hy
 have hin : i ≤ n := by omega
 have hin1 : (i : Int) ≤ (n : Int) + 1 := by omega
 have hci1 : ¬ (c = i + 1) := by omega
 have hci : ¬ (c = i) := by omega
 have hw1 : IntKind.i64.wrap ((i : Int) + (1 : Int)) = (i : Int) + (1 : Int) := by rw [IntKind.wrap_i64]; omega
 have hb1 : (0 : Int) ≤ (i : Int) + (1 : Int) := by omega
 have mixed : Tryd.prog.follows Departure.mixedOrders = true := by kernel_rfl
 have htn : ((i : Int) + (1 : Int)).toNat = i + 1 := by omega
 (try simp only [Nat.mul_one] at hov hcp1 hcp2)
 go_enter Tryd.func51, Tryd.ntmps51
 go_wp2_with (simp only [hov])
 go_region_law_o (refine step_copy_runI rfl _ _ 32 32 rfl _ _ (by simp [Act.eval, Act.put]) (by simp [Act.eval, Act.put]) hcp1 ?_)
 go_wp2_with (at_builtin; refine wpList_copy_runI _ rfl _ _ 32 32 rfl _ _ rfl rfl hcp2 ?_)
 go_ret
 exact ⟨R2, rfl, F1.out, F3.out, F4.out, F2.out⟩
set_option maxHeartbeats 4000000 in
set_option maxRecDepth 100000 in
theorem api_Pay_51.ins (P0_ okp : Nat → Prop) (v : Value) (l0 : List (S47)) (i : Nat) (hi : i ≤ l0.length) (ad : Addr) (c2 : Nat) (p : S47) (ys : List Value) (base : Nat) (w : World) (hbase : base ≤ w.heap.size) (ho0 : Kd.R k47 47 w base P0_ v l0) (hyl : ys.length = 4) (hys : ∀ j u, ys[j]? = some u → w.cell? (ad.add j) = some u) (hM : k47.M w base okp p ys) (hokp : ∀ k, okp k → P0_ k ∧ some k ≠ v.ownBlock) (hfoot : ∀ g, v.ownBlock = some g → ad.block ≠ g) (hbig : (l0.length + 1) * 32 ≤ 140737488355328) :
  Calls Tryd.prog 51 #[v, .int .i64 (i : Int), .slice (some ad) 1 c2] w fun e w' => ∃ v1 : Value, e = .returned v1 ∧ Kd.R k47 47 w' base (fun k_ => (P0_ k_ ∨ w.heap.size ≤ k_)) v1 (l0.take i ++ [p] ++ l0.drop i) ∧ w.grownBy w' v.ownBlock ∧ (v1.ownBlock = v.ownBlock ∨ ∃ b, v1.ownBlock = some b ∧ w.heap.size ≤ b) := by
 have h1y := k47.K_one (k47.K_of_M hM)
 obtain ⟨h0, inner, hown, hrep⟩ := ho0
 have h1x : ∀ u ∈ inner, u.oneCell' = true := Kd.reps_one hrep (show 0 < k47.sz by decide) (fun _ _ hq => k47.K_one (k47.K_of_M hq))
 have hil := hown.1
 have fin : ∀ (v1 : Value) (w' : World), w'.ownsRow base 47 4 v1 (l0.length + 1) (inner.take (i * 4) ++ ys ++ inner.drop (i * 4)) → w.grownBy w' v.ownBlock → (v1.ownBlock = v.ownBlock ∨ ∃ b, v1.ownBlock = some b ∧ w.heap.size ≤ b) →
   Kd.R k47 47 w' base (fun k_ => (P0_ k_ ∨ w.heap.size ≤ k_)) v1 (l0.take i ++ [p] ++ l0.drop i) ∧ w.grownBy w' v.ownBlock ∧ (v1.ownBlock = v.ownBlock ∨ ∃ b, v1.ownBlock = some b ∧ w.heap.size ≤ b) := fun v1 w' ho hg hat =>
  ⟨R_inserted h0 hrep hM hokp hi ho hg hat, hg, hat⟩
 rcases Nat.lt_or_ge i l0.length with hlt | hge
 ·rcases hown.2 with ⟨_, hn⟩ | ⟨g, cap, cur, rfl, hbas, hheap, hnc, hcm, hcs, htk⟩
  ·omega
  ·have hvg : ad.block ≠ g := hfoot g rfl
   rcases Nat.lt_or_ge cap (l0.length + 1) with hroom | hroom
   ·refine (api_Pay_51.grow_ w g l0.length cap i cur inner hheap hcs htk hil h1x hlt hnc hroom ad c2 ys hys hyl h1y hbig).mono ?_
    rintro e w' ⟨G, R, rfl, ⟨hG, hGm⟩, hH, hRs, hRt, hgr⟩
    refine ⟨_, rfl, fin _ w' ⟨?_, .inr ⟨_, G, R, rfl, hbase, hH, hG, hGm, hRs, hRt⟩⟩ (grownBy_any hgr _) (.inr ⟨_, rfl, Nat.le_refl _⟩)⟩
    rw [← hRt, List.length_take, show R.toList.length = _ from (Array.length_toList).trans hRs]; omega
   ·refine (api_Pay_51.shift_ w g l0.length cap i cur inner hheap hcs hcm htk hil h1x hlt hroom ad c2 ys hvg hys hyl h1y).mono ?_
    rintro e w' ⟨R, rfl, hH, hRs, hRt, hgr⟩
    refine ⟨_, rfl, fin _ w' ⟨?_, .inr ⟨g, cap, R, rfl, hbas, hH, hroom, hcm, hRs, hRt⟩⟩ hgr (.inl rfl)⟩
    rw [← hRt, List.length_take, show R.toList.length = _ from (Array.length_toList).trans hRs]; omega
 ·obtain rfl : i = l0.length := by omega
  refine (api_Pay_51.end_ w base v l0.length inner hown ad c2 ys hys hyl h1y hbig hbase).mono ?_
  rintro e w' ⟨v1, rfl, ho, hgr, hat⟩
  refine ⟨v1, rfl, fin v1 w' ?_ hgr (hat.imp id (fun h => ⟨_, h, Nat.le_refl _⟩))⟩
  rw [List.take_of_length_le (by rw [hil]; exact Nat.le_refl _), List.drop_of_length_le (by rw [hil]; exact Nat.le_refl _), List.append_nil]
  exact ho
def api_Pay_51.f (l0 : List S47) (a1 : Int) (l2 : List S47) : Option (List S47) :=
 if 0 ≤ a1 ∧ a1 ≤ (l0.length : Int) ∧ l2.length = 1 ∧ (l0.length + 1) * 32 ≤ 140737488355328 then some (l0.take a1.toNat ++ l2 ++ l0.drop a1.toNat) else none
set_option maxHeartbeats 4000000 in
set_option maxRecDepth 100000 in
theorem api_Pay_51.calls (P0_ : Nat → Prop) (u9000_ : Value) (l0 : List (S47)) (a1 : Int) (A2 : Option Addr) (c2 : Nat) (l2 : List (S47)) (r : List (S47)) (w0 w : World) (hB : Below w0.heap.size w0 w) (ho0 : Kd.R k47 47 w w0.heap.size P0_ u9000_ l0) (hr2 : ∀ W_, Kept w W_ (fun k_ => P0_ k_) → Kd.C k47 W_ A2 l2.length l2) (hc2 : l2.length ≤ c2) (h : api_Pay_51.f l0 a1 l2 = some r) :
  Calls Tryd.prog 51 #[u9000_, .int .i64 a1, .slice A2 l2.length c2] w fun e w' => ∃ v0_ : Value, e = .returned v0_ ∧ Kd.R k47 47 w' w0.heap.size (fun k_ => (P0_ k_ ∨ w.heap.size ≤ k_)) v0_ r ∧ Below w0.heap.size w0 w' ∧ Kept w w' (fun k_ => P0_ k_) := by
 unfold api_Pay_51.f at h
 split at h
 case isFalse => cases h
 case isTrue hc =>
 obtain rfl := Option.some.inj h
 obtain ⟨ha0, ha1, hl2, hbig⟩ := hc
 obtain ⟨i, rfl⟩ := Int.eq_ofNat_of_zero_le ha0
 have hi : i ≤ l0.length := by omega
 simp only [Int.toNat_natCast]
 match l2, hl2 with
 | [p], _ =>
 have hC := hr2 w (Kept.refl _ _)
 obtain ⟨ad, hA, hel⟩ := hC.2.2 (Nat.zero_lt_one)
 subst hA
 have hfoot : ¬ P0_ ad.block := Kd.foot_neS hr2 (Nat.zero_lt_one) (show 0 < k47.sz by decide)
 obtain ⟨ys, hyl, hK, hys0⟩ := hel 0 p rfl
 have hys : ∀ j u, ys[j]? = some u → w.cell? (ad.add j) = some u := fun j u hj => by
  have := hys0 j u hj
  rwa [Nat.zero_mul, Nat.zero_add] at this
 have hM : k47.M w w0.heap.size (fun _ => False) p ys := hK
 have hbo := Kd.R_base ho0
 have h0 := ho0.1
 refine (api_Pay_51.ins P0_ (fun _ => False) u9000_ l0 i hi ad c2 p ys w0.heap.size w hB.size ho0 hyl hys hM (fun _ hk => hk.elim) (fun g hg e => hfoot (e ▸ h0 g hg)) hbig).mono ?_
 rintro e w' ⟨v1, rfl, ho, hg, hat⟩
 exact ⟨v1, rfl, ho, hB.grown hg hB.size hbo, Kept.of_grown hg (Kept.refl _ _) (fun k hk => .inl (h0 k hk))⟩
end Go.Proofs.YtdiopojnkjkgmaaDoor.Print
namespace Go.Proofs.YtdiopojnkjkgmaaDoor.Print
open Go.RowKit Go.Proofs.YtdiopojnkjkgmaaDoorW.PrintWords Go.Proofs.YtdiopojnkjkgmaaDoorW.PrintLast Go.Proofs.YtdiopojnkjkgmaaDoorW.PrintMore
attribute [local go_sem] max2_mx min2_mn max_two min_two max_three min_three max_four min_four
set_option linter.unusedVariables false
set_option linter.unusedSimpArgs false
attribute [local go_sem high] eqA47
def postP (ps : List S47) (x : S69) : List S47 := (if plcB ps x.f0 = true then ps.eraseIdx (plcI ps x.f0) else ps)
def postL (ps : List S47) (x : S69) : List S47 := if eqP (addP (payOf ps x.f0) x) (zeroP x.f0) = true then postP ps x else (postP ps x).take (plcI ps x.f0) ++ [addP (payOf ps x.f0) x] ++ (postP ps x).drop (plcI ps x.f0)
def postE (qs : List S69) (why : Int) : Int := unl why (decide (16384 ≤ (qs.length : Int))) 3
def postW (ps : List S47) (x : S69) : Int := unl 0 (!(fits (addP (payOf ps x.f0) x))) 5
theorem postE_lt {qs : List S69} {why : Int} (h : postE qs why = 0) : qs.length < 16384 := by
 by_cases hm : 16384 ≤ (qs.length : Int)
 ·exfalso
  unfold postE unl at h
  rw [decide_eq_true hm] at h
  split at h
  ·cases h
  ·rename_i h1
   exact h1 ⟨h, rfl⟩
 ·omega
theorem postP_le (ps : List S47) (x : S69) : plcI ps x.f0 ≤ (postP ps x).length := by
 unfold postP
 split
 ·rename_i h
  have := plc_lt h
  rw [List.length_eraseIdx]
  split <;> omega
 ·exact plc_le ps x.f0
theorem postP_len (ps : List S47) (x : S69) : (postP ps x).length ≤ ps.length := by
 unfold postP
 split
 ·rw [List.length_eraseIdx]
  split <;> omega
 ·exact Nat.le_refl _
def postPs (ps : List S47) (qs : List S69) (why : Int) (x : S69) : List S47 := if postE qs why = 0 then postL ps x else ps
def postQs (qs : List S69) (why : Int) (x : S69) : List S69 := if postE qs why = 0 then qs ++ [x] else qs
def postWs (ps : List S47) (qs : List S69) (why : Int) (x : S69) : Int := if postE qs why = 0 then postW ps x else postE qs why
structure PoS (w0 wS W : World) (g gx gp : Nat) (vp0 vq0 vp vq : Value) (ps : List S47) (qs : List S69) (why : Int) (x : S69) (p : S47) : Prop where
 K : Bk w0 W g vp vq ps qs why
 BX : W.heap[gx]? = some (.cells #[.int .i64 x.f0, .int .u8 x.f1, .int .u8 x.f2, .int .i64 x.f3] 69 (0, 0))
 BP : W.heap[gp]? = some (.cells #[.int .i64 p.f0, .int .i64 p.f1, .int .i64 p.f2, .int .i64 p.f3] 47 (0, 0))
 OP : ∀ k, vp.ownBlock = some k → k ≠ gp
 OQ : ∀ k, vq.ownBlock = some k → k ≠ gx
 KE : Kept wS W (BkS g vp0 vq0)
 NP : ∀ k, vp.ownBlock = some k → some k = vp0.ownBlock ∨ wS.heap.size ≤ k
 NQ : ∀ k, vq.ownBlock = some k → some k = vq0.ownBlock ∨ wS.heap.size ≤ k
 hx : wS.heap.size ≤ gx
 hp : wS.heap.size ≤ gp
section
variable {w0 wS W W1 : World} {g gx gp : Nat} {vp0 vq0 vp vq : Value} {ps : List S47} {qs : List S69} {why : Int} {x : S69} {p : S47}
theorem PoS.below (h : PoS w0 wS W g gx gp vp0 vq0 vp vq ps qs why x p) (hb : Below W.heap.size W W1) : PoS w0 wS W1 g gx gp vp0 vq0 vp vq ps qs why x p := ⟨h.K.below hb, blk_below h.BX hb, blk_below h.BP hb, h.OP, h.OQ, h.KE.below hb, h.NP, h.NQ, h.hx, h.hp⟩
theorem PoS.drewN (h : PoS w0 wS W g gx gp vp0 vq0 vp vq ps qs why x p) (n : Nat) : PoS w0 wS (W.drewN n) g gx gp vp0 vq0 vp vq ps qs why x p := h.below (pw_below_drewN (Below.refl _ _) n)
theorem PoS.keep (h : PoS w0 wS W g gx gp vp0 vq0 vp vq ps qs why x p) (hk : KeepBut W W1 gp none) (hb : Below w0.heap.size w0 W1) {p1 : S47} (hp : W1.heap[gp]? = some (.cells #[.int .i64 p1.f0, .int .i64 p1.f1, .int .i64 p1.f2, .int .i64 p1.f3] 47 (0, 0))) : PoS w0 wS W1 g gx gp vp0 vq0 vp vq ps qs why x p1 :=
 ⟨⟨hk.blk h.K.blk (blk_ne h.K.blk h.BP (by decide)) (by simp), h.K.hg, Kd.R_mono (Kd.R_keep (Kd.R_tight rfl h.K.rp) hk (fun k hk => h.OP k hk.symm)) (fun _ _ => trivial), Kd.R_mono (Kd.R_keep (Kd.R_tight rfl h.K.rq) hk (fun k hk he => (Kd.R_ne h.K.rq h.BP (by decide)) (he ▸ hk))) (fun _ _ => trivial), hb⟩, hk.blk h.BX (blk_ne h.BX h.BP (by decide)) (by simp), hp, h.OP, h.OQ, h.KE.of_keep hk (.inr h.hp), h.NP, h.NQ, h.hx, h.hp⟩
theorem PoS.unless (h : PoS w0 wS W g gx gp vp0 vq0 vp vq ps qs why x p) {why1 : Int} (hk : Bk w0 W1 g vp vq ps qs why1) (hs : Kept W W1 (fun k => k = g)) : PoS w0 wS W1 g gx gp vp0 vq0 vp vq ps qs why1 x p :=
 ⟨hk, blk_kept h.BX hs (blk_ne h.BX h.K.blk (by decide)), blk_kept h.BP hs (blk_ne h.BP h.K.blk (by decide)), h.OP, h.OQ, h.KE.then_ hs (fun k hk => .inl (.inl hk)), h.NP, h.NQ, h.hx, h.hp⟩
theorem PoS.pays (h : PoS w0 wS W g gx gp vp0 vq0 vp vq ps qs why x p) {v1 : Value} {ps1 : List S47} (hr : Kd.R k47 47 W1 w0.heap.size (fun k => some k = vp.ownBlock ∨ W.heap.size ≤ k) v1 ps1) (hb : Below w0.heap.size w0 W1) (hs : Kept W W1 (fun k => some k = vp.ownBlock)) : W1.heap[g]? = some (.cells #[vp, vq, .int .i64 why] 76 (0, 0)) ∧ PoS w0 wS (W1.setCell ⟨g, 0, none⟩ v1) g gx gp vp0 vq0 v1 vq ps1 qs why x p := by
 have hg1 : W1.heap[g]? = some _ := blk_kept h.K.blk hs (fun he => Kd.R_ne h.K.rp h.K.blk (by decide) he)
 have hx1 : W1.heap[gx]? = some _ := blk_kept h.BX hs (fun he => Kd.R_ne h.K.rp h.BX (by decide) he)
 have hp1 : W1.heap[gp]? = some _ := blk_kept h.BP hs (fun he => h.OP gp he.symm rfl)
 have hq1 : Kd.R k69 69 W1 w0.heap.size (fun _ => True) vq qs := Kd.R_mono (Kd.R_kept (Kd.R_tight rfl h.K.rq) hs (fun k hk he => (rows_ne h.K.rp h.K.rq (by decide)) k he.symm hk)) (fun _ _ => trivial)
 have hks : Kept wS W1 (BkS g vp0 vq0) := h.KE.then_ hs (fun k hk => (h.NP k hk.symm).imp (fun h1 => .inr (.inl h1)) id)
 refine ⟨hg1, ⟨blk_put hg1 0 _ rfl, h.K.hg, Kd.R_mono (Kd.R_set hr hg1 (by decide) 0 _) (fun _ _ => trivial), Kd.R_set hq1 hg1 (by decide) 0 _, below_set hb h.K.hg⟩, blk_far hx1 (blk_ne h.BX h.K.blk (by decide)) _, blk_far hp1 (blk_ne h.BP h.K.blk (by decide)) _, fun k hk => ?_, h.OQ, hks.setCell (p := ⟨g, 0, none⟩) (.inl (.inl rfl)) _, fun k hk => ?_, h.NQ, h.hx, h.hp⟩
 ·rcases hr.1 k hk with h1 | h1
  ·exact h.OP k h1.symm
  ·have := blk_lt h.BP; omega
 ·rcases hr.1 k hk with h1 | h1
  ·exact h.NP k h1.symm
  ·exact .inr (Nat.le_trans h.KE.1 h1)
end
def ledger_book_post.T5 : Bool × List (List Nat × List Nat) := (true, [([], []), ([0], [0]), ([1], [1]), ([2], [2]), ([3], [3]), ([], []), ([5], [5]), ([4, 6], [4, 6]), ([7], [7]), ([8], [8]), ([8], [8]), ([9, 7, 0, 1, 2, 3, 4, 5, 6, 7, 8, 9], [9]), ([10, 11, 0, 1, 2, 3, 4, 5, 6, 7, 8, 9, 10, 11], [10])])
def ledger_book_post.B5 : List Nat := [0, 1, 3, 7, 15, 0, 32, 127, 255, 511, 511, 1023, 4095]
theorem ledger_book_post.tab5 : rtab .any (opsOf Tryd.f28 5) = ledger_book_post.T5 := by kernel_rfl
theorem ledger_book_post.bits5 : waitsOk ledger_book_post.T5.2 ledger_book_post.B5 = true := by kernel_rfl
def ledger_book_post.T9 : Bool × List (List Nat × List Nat) := (true, [([], []), ([], []), ([1], [1]), ([2], [2]), ([3], [3]), ([4], [4]), ([], []), ([], []), ([7], [7]), ([5, 6, 8], [5, 6, 8]), ([0, 0, 1, 2, 3, 4, 5, 6, 7, 8, 9], [0]), ([10, 0, 1, 2, 3, 4, 5, 6, 7, 8, 9], [10]), ([11, 0, 1, 2, 3, 4, 5, 6, 7, 8, 9], [11]), ([12, 9, 9, 0, 1, 2, 3, 4, 5, 6, 7, 8, 9], [9, 12])])
def ledger_book_post.B9 : List Nat := [0, 0, 2, 6, 14, 30, 0, 0, 128, 510, 1023, 2047, 4095, 8191]
theorem ledger_book_post.tab9 : rtab .any (opsOf Tryd.f28 9) = ledger_book_post.T9 := by kernel_rfl
theorem ledger_book_post.bits9 : waitsOk ledger_book_post.T9.2 ledger_book_post.B9 = true := by kernel_rfl
def ledger_book_post.T10 : Bool × List (List Nat × List Nat) := (true, [([], []), ([], []), ([1], [1]), ([2], [2]), ([3], [3]), ([4], [4]), ([], []), ([6], [6]), ([5, 7], [5, 7]), ([0, 0, 1, 2, 3, 4, 5, 6, 7, 8], [0]), ([9, 0, 1, 2, 3, 4, 5, 6, 7, 8], [9]), ([10, 0, 1, 2, 3, 4, 5, 6, 7, 8], [10]), ([11, 8, 8, 0, 1, 2, 3, 4, 5, 6, 7, 8], [8, 11])])
def ledger_book_post.B10 : List Nat := [0, 0, 2, 6, 14, 30, 0, 64, 254, 511, 1023, 2047, 4095]
theorem ledger_book_post.tab10 : rtab .any (opsOf Tryd.f28 10) = ledger_book_post.T10 := by kernel_rfl
theorem ledger_book_post.bits10 : waitsOk ledger_book_post.T10.2 ledger_book_post.B10 = true := by kernel_rfl
set_option maxHeartbeats 16000000 in
set_option maxRecDepth 100000 in
theorem ledger_book_post.row (w0 : World) (g : Nat) (vp vq : Value) (ps : List S47) (qs : List S69) (why : Int) (x : S69) (w : World) (hk : Bk w0 w g vp vq ps qs why) (hl : postE qs why = 0 → ps.length ≤ 4000000000000) :
  Calls Tryd.prog 28 #[.pointer (some ⟨g, 0, none⟩), .agg #[.int .i64 x.f0, .int .u8 x.f1, .int .u8 x.f2, .int .i64 x.f3]] w fun e w' => e = .returned (.tuple #[]) ∧ Kept w w' (BkS g vp vq) ∧ ∃ vp1 vq1 : Value, Bk w0 w' g vp1 vq1 (postPs ps qs why x) (postQs qs why x) (postWs ps qs why x) := by
 have hu25 := Tryd.underlying35
 have hu31 := Tryd.underlying47
 have hu55 := Tryd.underlying69
 have hu58 := Tryd.underlying76
 obtain ⟨Ap, cp, rfl⟩ := Kd.R_slice hk.rp
 obtain ⟨Aq, cq, rfl⟩ := Kd.R_slice hk.rq
 have HK := Aside0.mk hk
 have HLH := Aside0.mk hl
 clear hk hl
 obtain ⟨many, hmany⟩ : ∃ many, decide (16384 ≤ (qs.length : Int)) = many := ⟨_, rfl⟩
 have hmany2 : decide (16384 ≤ qs.length) = many := by rw [← hmany]; by_cases h : 16384 ≤ qs.length <;> simp [h] <;> omega
 obtain ⟨why1, hw1⟩ : ∃ why1, why1 = postE qs why := ⟨_, rfl⟩
 have HW1 : Aside0 (unl why many 3 = why1) := ⟨by rw [hw1, ← hmany]; rfl⟩
 have HWE := Aside0.mk hw1
 have HMA := Aside0.mk hmany
 clear hw1
 go_enter Tryd.func28, Tryd.ntmps28
 go_wp2_with (first | ((with_reducible refine gate_dst (N := 3) rfl ?_); refine box_event ?hg (N := 3) ?hd (cs := #[.int .i64 x.f0, .int .u8 x.f1, .int .u8 x.f2, .int .i64 x.f3]) (t := 69) ?hr ?_; (case hd => rfl); (case hg => rfl); (case hr => first | (go_simp; done) | (go_simp; rfl)); intro gx hgx w1 hbox hb; have K1 := Aside0.mk (HK.out.below hb); have BX := Aside0.mk hbox; have HB := Aside0.mk hb; have GX : Aside0 (w.heap.size ≤ gx) := ⟨by rw [hgx]; exact Nat.le_refl _⟩; have OQ : Aside0 (∀ k, (Value.slice Aq qs.length cq).ownBlock = some k → k ≠ gx) := ⟨fun k hk he => by have := own_lt (Kd.R_own HK.out.rq).choose_spec k hk; omega⟩; have hg1 := (blk_cell K1.out.blk 1).trans rfl; clear hbox hb hgx))
 refine (ledger_book_unless.row w0 g _ _ ps qs why many 3 _ K1.out).mono ?_
 rintro e w2 ⟨rfl, hk2, hs2⟩
 rw [HW1.out] at hk2
 have K2 := Aside0.mk hk2
 have BX2 := Aside0.mk (blk_kept BX.out hs2 (blk_ne BX.out K1.out.blk (by decide)))
 have KE2 : Aside0 (Kept w w2 (BkS g (.slice Ap ps.length cp) (.slice Aq qs.length cq))) := ⟨(Kept.of_below HB.out _).then_ hs2 (fun k hk => .inl (.inl hk))⟩
 clear hg1 hmany hmany2 hk2 hs2 K1 BX HB HW1
 have h2 := (blk_cell K2.out.blk 2).trans rfl
 by_cases hz : why1 = 0
 ·subst hz
  have HLL := Aside0.mk (HLH.out HWE.out.symm)
  have P1 : Aside0 (postPs ps qs why x = postL ps x) := ⟨if_pos HWE.out.symm⟩
  have P2 : Aside0 (postQs qs why x = qs ++ [x]) := ⟨if_pos HWE.out.symm⟩
  have P3 : Aside0 (postWs ps qs why x = postW ps x) := ⟨if_pos HWE.out.symm⟩
  have HQS : Aside0 (qs.length < 16384) := ⟨postE_lt HWE.out.symm⟩
  clear HWE HMA
  have hx0 : w2.cell? ⟨gx, 0, none⟩ = some (.int .i64 x.f0) := (blk_cell BX2.out 0).trans rfl
  go_wp2_with fail
  refine (ledger_book_pay.row w0 g _ _ ps qs 0 x.f0 _ K2.out (by have := HLL.out; omega)).mono ?_
  rintro e w3 ⟨rfl, hb3⟩
  obtain ⟨p, hp⟩ : ∃ p, p = payOf ps x.f0 := ⟨_, rfl⟩
  rw [← hp]
  have HP := Aside0.mk hp
  clear hp h2 hx0
  unfold pcells
  go_upto_region 4 with (first | ((with_reducible refine gate_dst (N := 4) rfl ?_); refine box_event ?hg (N := 4) ?hd (cs := #[.int .i64 0, .int .i64 0, .int .i64 0, .int .i64 0]) (t := 47) ?hr ?_; (case hd => rfl); (case hg => rfl); (case hr => first | (go_simp; done) | (go_simp; rfl)); intro gp hgp w4 hbox hb; have hb4 := below_step hb3 hb; have K4 := Aside0.mk (K2.out.below hb4); have BX4 := Aside0.mk (blk_below BX2.out hb4); have KE4 := Aside0.mk (KE2.out.below hb4); have BP := Aside0.mk hbox; have GP : Aside0 (w.heap.size ≤ gp ∧ gx ≠ gp ∧ g ≠ gp ∧ ∀ k, (Value.slice Ap ps.length cp).ownBlock = some k → k ≠ gp) := ⟨by rw [hgp]; exact Nat.le_trans KE2.out.1 hb3.size, by rw [hgp]; exact Nat.ne_of_lt (Nat.lt_of_lt_of_le (blk_lt BX2.out) hb3.size), by rw [hgp]; exact Nat.ne_of_lt (Nat.lt_of_lt_of_le (blk_lt K2.out.blk) hb3.size), fun k hk he => by have h1 := own_lt (Kd.R_own K2.out.rp).choose_spec k hk; have := hb3.size; omega⟩; have hz0 := (blk_cell hbox 0).trans rfl; have hz1 := (blk_cell hbox 1).trans rfl; have hz2 := (blk_cell hbox 2).trans rfl; have hz3 := (blk_cell hbox 3).trans rfl; have hf0 := blk_frozen hbox 0; have hf1 := blk_frozen hbox 1; have hf2 := blk_frozen hbox 2; have hf3 := blk_frozen hbox 3; clear hbox hb hgp hb4 K2 BX2 KE2))
  clear hb3
  have KF : Aside0 (Bk w0 ((((w4.setCell ⟨gp, 0, none⟩ (.int .i64 p.f0)).setCell ⟨gp, 1, none⟩ (.int .i64 p.f1)).setCell ⟨gp, 2, none⟩ (.int .i64 p.f2)).setCell ⟨gp, 3, none⟩ (.int .i64 p.f3)) g (.slice Ap ps.length cp) (.slice Aq qs.length cq) ps qs 0) := ⟨⟨set4F K4.out.blk GP.out.2.2.1 _ _ _ _, K4.out.hg, set4P K4.out.rp rfl GP.out.2.2.2 _ _ _ _, set4R K4.out.rq BP.out (by decide) _ _ _ _, set4W K4.out.hb (Nat.le_trans HK.out.hb.size GP.out.1) _ _ _ _⟩⟩
  have PO : Aside0 (PoS w0 w ((((w4.setCell ⟨gp, 0, none⟩ (.int .i64 p.f0)).setCell ⟨gp, 1, none⟩ (.int .i64 p.f1)).setCell ⟨gp, 2, none⟩ (.int .i64 p.f2)).setCell ⟨gp, 3, none⟩ (.int .i64 p.f3)) g gx gp (.slice Ap ps.length cp) (.slice Aq qs.length cq) (.slice Ap ps.length cp) (.slice Aq qs.length cq) ps qs 0 x p) := ⟨⟨KF.out, set4F BX4.out GP.out.2.1 _ _ _ _, set4B BP.out _ _ _ _, GP.out.2.2.2, OQ.out, (((KE4.out.setCell (p := ⟨gp, 0, none⟩) (.inr GP.out.1) _).setCell (p := ⟨gp, 1, none⟩) (.inr GP.out.1) _).setCell (p := ⟨gp, 2, none⟩) (.inr GP.out.1) _).setCell (p := ⟨gp, 3, none⟩) (.inr GP.out.1) _, fun k hk => .inl hk.symm, fun k hk => .inl hk.symm, GX.out, GP.out.1⟩⟩
  clear hz0 hz1 hz2 hz3 hf0 hf1 hf2 hf3 K4 BX4 KE4 BP KF
  obtain ⟨w5, hw5⟩ : ∃ w5, w5 = ((((w4.setCell ⟨gp, 0, none⟩ (.int .i64 p.f0)).setCell ⟨gp, 1, none⟩ (.int .i64 p.f1)).setCell ⟨gp, 2, none⟩ (.int .i64 p.f2)).setCell ⟨gp, 3, none⟩ (.int .i64 p.f3)) := ⟨_, rfl⟩
  rw [← hw5] at PO ⊢
  clear hw5
  have hx0 : w5.cell? ⟨gx, 0, none⟩ = some (.int .i64 x.f0) := (blk_cell PO.out.BX 0).trans rfl
  have hx1 : w5.cell? ⟨gx, 1, none⟩ = some (.int .u8 x.f1) := (blk_cell PO.out.BX 1).trans rfl
  have hx2 : w5.cell? ⟨gx, 2, none⟩ = some (.int .u8 x.f2) := (blk_cell PO.out.BX 2).trans rfl
  have hx3 : w5.cell? ⟨gx, 3, none⟩ = some (.int .i64 x.f3) := (blk_cell PO.out.BX 3).trans rfl
  go_wp2_with fail
  refine (ledger_add.row w0.heap.size gp p x _ PO.out.BP (Nat.le_trans HK.out.hb.size GP.out.1)).mono ?_
  rintro e w6 ⟨rfl, hp6, hk6, hb6⟩
  clear hx0 hx1 hx2 hx3
  obtain ⟨p1, hp1⟩ : ∃ p1, p1 = addP p x := ⟨_, rfl⟩
  rw [← hp1] at hp6 ⊢
  have PO1 := Aside0.mk (PO.out.keep (p1 := p1) hk6 (below_then_ PO.out.K.hb hb6) hp6)
  have HP1 : Aside0 (p1 = addP (payOf ps x.f0) x) := ⟨by rw [hp1, HP.out]⟩
  clear hp1 hp6 hk6 hb6 PO HP
  obtain ⟨ft, hft⟩ : ∃ ft, ft = fits p1 := ⟨_, rfl⟩
  rw [← hft]
  have HFT := Aside0.mk hft
  clear hft
  go_wp2_with fail
  refine (ledger_book_unless.row w0 g _ _ ps qs 0 (!ft) 5 _ PO1.out.K).mono ?_
  rintro e w7 ⟨rfl, hk7, hs7⟩
  obtain ⟨c, hc⟩ : ∃ c, c = unl 0 (!ft) 5 := ⟨_, rfl⟩
  rw [← hc] at hk7
  have PO := Aside0.mk (PO1.out.unless hk7 hs7)
  have HC : Aside0 (postW ps x = c) := ⟨by rw [hc, HFT.out, HP1.out]; rfl⟩
  clear hc hk7 hs7 PO1 HFT
  obtain ⟨i, hi⟩ : ∃ i, i = plcI ps x.f0 := ⟨_, rfl⟩
  obtain ⟨b, hb_⟩ : ∃ b, b = plcB ps x.f0 := ⟨_, rfl⟩
  have HI := Aside0.mk hi
  have HBB := Aside0.mk hb_
  clear hi hb_
  have HPL : Aside0 (ledger_place.f ps x.f0 = some ((i : Int), b)) := ⟨by rw [HI.out, HBB.out]; exact plc_is ps x.f0 (by have := HLL.out; omega)⟩
  go_upto_region 5 with (fail)
  go_cut [5, 6] (fun v5 v6 wc => v5 = .int .i64 i ∧ v6 = .bool b ∧ Aside0 (PoS w0 w wc g gx gp (.slice Ap ps.length cp) (.slice Aq qs.length cq) (.slice Ap ps.length cp) (.slice Aq qs.length cq) ps qs c x p1))
  case first =>
   refine start_ (n := 13) (S := fun w' => PoS w0 w w' g gx gp (.slice Ap ps.length cp) (.slice Aq qs.length cq) (.slice Ap ps.length cp) (.slice Aq qs.length cq) ps qs c x p1 ∧ w'.cell? ⟨g, 0, none⟩ = some (.slice Ap ps.length cp) ∧ w'.cell? ⟨gx, 0, none⟩ = some (.int .i64 x.f0)) (ds := []) (zB 0 13) (by kernel_rfl) rfl rfl ⟨(PO.out.drewN 1), ((blk_cell (PO.out.drewN 1).K.blk 0).trans rfl), ((blk_cell (PO.out.drewN 1).BX 0).trans rfl)⟩ (fun hHeld => ?_)
   refine with_tabW ledger_book_post.tab5 ledger_book_post.bits5 (fun HT_ HW_ => ?_)
   refine zpu 0 (some 31) (zB 1 12) (any_of HT_.out (by kernel_rfl)) ?_
   refine zpu 1 (some 32) (zB 2 11) (any_of HT_.out (by kernel_rfl)) ?_
   refine zpu 2 (some 33) (zB 3 10) (any_of HT_.out (by kernel_rfl)) ?_
   refine zpu 3 (some 34) (zB 4 9) (any_of HT_.out (by kernel_rfl)) ?_
   refine zpu 5 (some 36) #[true, true, true, true, false, true, false, false, false, false, false, false, false] (any_of HT_.out (by kernel_rfl)) ?_
   refine zta 4 (some 35) (zB 6 7) (take_ofW HT_.out HW_.out (by kernel_rfl)) hHeld ?_
   refine zta 6 (some 37) (zB 7 6) (take_ofW HT_.out HW_.out (by kernel_rfl)) hHeld ?_
   refine one_ (i := 7) (N := some 38) (zB 8 5) rfl rfl (one_of HT_.out (by kernel_rfl)) (by decide) (fun K hK => ?_)
   obtain ⟨SH, SZ_⟩ := hHeld
   clear SZ_
   refine goes_ Tryd.func48 (by kernel_rfl) rfl #[.slice Ap ps.length cp, .int .i64 x.f0] (by rfl) rfl rfl zl_ ?_
   with_reducible refine (ledger_place.calls Ap cp ps x.f0 _ _ _ (Kd.R_reads' SH.K.rp).2.2 (Kd.R_reads' SH.K.rp).2.1 HPL.out).mono ?_
   rintro e w8 ⟨rfl, hb8⟩
   have SH2 := SH.below hb8
   refine ⟨_, rfl, ?_⟩
   refine hK.out _ _ ⟨SH2, ((blk_cell SH2.K.blk 0).trans rfl), ((blk_cell SH2.BX 0).trans rfl)⟩ (fun hHeld => ?_)
   clear hK K
   refine zno 38 ?_
   refine zpu 8 (some 30) (zB 9 4) (any_of HT_.out (by kernel_rfl)) ?_
   refine zpu 9 (some 39) (zB 10 3) (any_of HT_.out (by kernel_rfl)) ?_
   refine zpu 10 (some 40) (zB 11 2) (any_of HT_.out (by kernel_rfl)) ?_
   refine zpu 11 (some 5) (zB 12 1) (any_of HT_.out (by kernel_rfl)) ?_
   refine zpu 12 (some 6) (zB 13 0) (any_of HT_.out (by kernel_rfl)) ?_
   refine done_ (done_of HT_.out (by kernel_rfl)) ?_
   obtain ⟨SH, SZ_⟩ := hHeld
   clear SZ_
   go_wp2_with fail
   go_meet
   case rel => exact ⟨rfl, rfl, ⟨SH⟩⟩
  case rest =>
   clear PO HPL
   obtain ⟨rfl, rfl, PO⟩ := hcut
   go_upto_if 41 with (fail)
   go_cut [] (fun wc => ∃ (A1 : Option Addr) (c1 : Nat), Aside0 (PoS w0 w wc g gx gp (.slice Ap ps.length cp) (.slice Aq qs.length cq) (.slice A1 (postP ps x).length c1) (.slice Aq qs.length cq) (postP ps x) qs c x p1))
   case first =>
    cases b with
    | false =>
     have HPP : Aside0 (postP ps x = ps) := ⟨if_neg (by rw [← HBB.out]; simp)⟩
     go_wp2_with fail
     go_meet
     case rel => exact ⟨Ap, cp, by rw [HPP.out]; exact PO⟩
    | true =>
     have HPP : Aside0 (postP ps x = ps.eraseIdx i) := ⟨by unfold postP; rw [← HBB.out, if_pos rfl, HI.out]⟩
     have hlt : i < ps.length := by rw [HI.out]; exact plc_lt HBB.out.symm
     have hg0 := (blk_cell PO.out.K.blk 0).trans rfl
     have hw1 : wrap64 ((i : Int) + 1) = (i : Int) + 1 := by have := HLL.out; unfold wrap64; omega
     have HDL : Aside0 (api_Pay_50.f ps (i : Int) ((i : Int) + 1) = some (ps.eraseIdx i)) := ⟨by unfold api_Pay_50.f; rw [if_pos ⟨by omega, by omega, rfl⟩, Int.toNat_natCast]⟩
     clear hlt
     go_wp2_with fail
     try rw [hw1]
     refine (api_Pay_50.calls (fun k => some k = (Value.slice Ap ps.length cp).ownBlock) _ ps (i : Int) ((i : Int) + 1) _ w0 _ PO.out.K.hb (Kd.R_tight rfl PO.out.K.rp) HDL.out).mono ?_
     rintro e w9 ⟨v9, rfl, hr9, hb9, hs9⟩
     rw [← HPP.out] at hr9
     obtain ⟨A1, c1, rfl⟩ := Kd.R_slice hr9
     have NG := PO.out.pays hr9 hb9 hs9
     have NB := Aside0.mk NG.1
     have PO1 := Aside0.mk NG.2
     have hc0 := (blk_cell NB.out 0).trans rfl
     have hcf := blk_frozen NB.out 0
     clear hg0 hw1 hr9 hb9 hs9 NG
     go_wp2_with fail
     go_meet
     case rel => exact ⟨A1, c1, PO1⟩
   case rest =>
    clear PO
    obtain ⟨A1, c1, PO⟩ := hcut
    have HIL : Aside0 (i ≤ (postP ps x).length) := ⟨by rw [HI.out]; exact postP_le ps x⟩
    have HPLE : Aside0 ((postP ps x).length ≤ 4000000000000) := ⟨Nat.le_trans (postP_len ps x) HLL.out⟩
    obtain ⟨l1, hl1⟩ : ∃ l1, l1 = postP ps x := ⟨_, rfl⟩
    rw [← hl1] at PO HIL HPLE
    have HL1 := Aside0.mk hl1
    clear hl1
    have hx0 : wc.cell? ⟨gx, 0, none⟩ = some (.int .i64 x.f0) := (blk_cell PO.out.BX 0).trans rfl
    have hp0 : wc.cell? ⟨gp, 0, none⟩ = some (.int .i64 p1.f0) := (blk_cell PO.out.BP 0).trans rfl
    have hp1 : wc.cell? ⟨gp, 1, none⟩ = some (.int .i64 p1.f1) := (blk_cell PO.out.BP 1).trans rfl
    have hp2 : wc.cell? ⟨gp, 2, none⟩ = some (.int .i64 p1.f2) := (blk_cell PO.out.BP 2).trans rfl
    have hp3 : wc.cell? ⟨gp, 3, none⟩ = some (.int .i64 p1.f3) := (blk_cell PO.out.BP 3).trans rfl
    go_upto_if 59 with (fail)
    obtain ⟨nz, hnz⟩ : ∃ nz, nz = (!p1.f0 == x.f0 || (!p1.f1 == 0 || (!p1.f2 == 0 || !p1.f3 == 0))) := ⟨_, rfl⟩
    rw [← hnz]
    have HNZ : Aside0 (eqP p1 (zeroP x.f0) = !nz) := ⟨by rw [hnz]; unfold eqP zeroP; cases (p1.f0 == x.f0) <;> cases (p1.f1 == 0) <;> cases (p1.f2 == 0) <;> cases (p1.f3 == 0) <;> rfl⟩
    clear hnz
    go_cut [] (fun wc => ∃ (A2 : Option Addr) (c2 : Nat), Aside0 (PoS w0 w wc g gx gp (.slice Ap ps.length cp) (.slice Aq qs.length cq) (.slice A2 (postL ps x).length c2) (.slice Aq qs.length cq) (postL ps x) qs c x p1))
    case first =>
     cases nz with
     | false =>
      have HPP : Aside0 (postL ps x = l1) := ⟨by unfold postL; rw [← HP1.out, HNZ.out, HL1.out]; rfl⟩
      go_wp2_with fail
      go_meet
      case rel => exact ⟨A1, c1, by rw [HPP.out]; exact PO⟩
     | true =>
      have HPP : Aside0 (postL ps x = l1.take i ++ [p1] ++ l1.drop i) := ⟨by unfold postL; rw [← HP1.out, HNZ.out, HL1.out, HI.out]; rfl⟩
      have HIN : Aside0 (api_Pay_51.f l1 (i : Int) [p1] = some (l1.take i ++ [p1] ++ l1.drop i)) := ⟨by unfold api_Pay_51.f; rw [if_pos ⟨by omega, by have := HIL.out; omega, rfl, by have := HPLE.out; omega⟩, Int.toNat_natCast]⟩
      clear hx0 hp0 hp1 hp2 hp3
      go_upto_region 9 with (fail)
      refine start_ (n := 14) (S := fun w' => PoS w0 w w' g gx gp (.slice Ap ps.length cp) (.slice Aq qs.length cq) (.slice A1 l1.length c1) (.slice Aq qs.length cq) l1 qs c x p1 ∧ w'.cell? ⟨g, 0, none⟩ = some (.slice A1 l1.length c1) ∧ w'.cell? ⟨gp, 0, none⟩ = some (.int .i64 p1.f0) ∧ w'.cell? ⟨gp, 1, none⟩ = some (.int .i64 p1.f1) ∧ w'.cell? ⟨gp, 2, none⟩ = some (.int .i64 p1.f2) ∧ w'.cell? ⟨gp, 3, none⟩ = some (.int .i64 p1.f3)) (ds := [9, 13]) (zB 0 14) (by kernel_rfl) rfl rfl ⟨(PO.out.drewN 1), ((blk_cell (PO.out.drewN 1).K.blk 0).trans rfl), ((blk_cell (PO.out.drewN 1).BP 0).trans rfl), ((blk_cell (PO.out.drewN 1).BP 1).trans rfl), ((blk_cell (PO.out.drewN 1).BP 2).trans rfl), ((blk_cell (PO.out.drewN 1).BP 3).trans rfl)⟩ (fun hHeld => ?_)
      refine with_tabW ledger_book_post.tab9 ledger_book_post.bits9 (fun HT_ HW_ => ?_)
      refine zpu 0 (some 60) (zB 1 13) (any_of HT_.out (by kernel_rfl)) ?_
      refine zpu 1 (some 61) (zB 2 12) (any_of HT_.out (by kernel_rfl)) ?_
      refine zpu 2 (some 62) (zB 3 11) (any_of HT_.out (by kernel_rfl)) ?_
      refine zpu 3 (some 63) (zB 4 10) (any_of HT_.out (by kernel_rfl)) ?_
      refine zpu 4 (some 64) (zB 5 9) (any_of HT_.out (by kernel_rfl)) ?_
      refine zpu 6 (some 66) #[true, true, true, true, true, false, true, false, false, false, false, false, false, false] (any_of HT_.out (by kernel_rfl)) ?_
      refine zta 5 (some 65) (zB 7 7) (take_ofW HT_.out HW_.out (by kernel_rfl)) hHeld ?_
      refine zta 7 (some 67) (zB 8 6) (take_ofW HT_.out HW_.out (by kernel_rfl)) hHeld ?_
      refine one_ (i := 8) (N := some 68) (zB 9 5) rfl rfl (one_of HT_.out (by kernel_rfl)) (by decide) (fun K hK => ?_)
      obtain ⟨SH, SZ_⟩ := hHeld
      clear SZ_
      refine Kd.R_lit_step k47 _ 47 ?hg (N := 68) ?hd (xs := [p1]) (inner := [.int .i64 p1.f0, .int .i64 p1.f1, .int .i64 p1.f2, .int .i64 p1.f3]) (ok := fun _ => True) (okp := fun _ => True) ?hr ?hp (fun _ hk => hk) trivial (Below.refl _ _) (Nat.le_refl _) (by simp) ?_; (case hd => rfl); (case hg => rfl); (case hr => first | (go_simp; done) | (go_simp; rfl)); (case hp => exact Reps.snoc (Reps.none _ _) (k47_mkM _ _ _ p1) rfl)
      intro vL w7 ho hb hg_ hnew_
      obtain ⟨AL, cL, rfl⟩ := Kd.R_slice ho
      have HLIT : Aside0 (Kd.R k47 47 w7 w0.heap.size (fun k => ¬ some k = (Value.slice A1 l1.length c1).ownBlock) (.slice AL [p1].length cL) [p1]) := ⟨Kd.R_lower (Kd.R_mono (Kd.R_bound ho) (fun k hk he => by have h1 := own_lt (Kd.R_own SH.K.rp).choose_spec k he.symm; have := hk.2.1; omega)) SH.K.hb.size⟩
      have SH2 := SH.below hb
      clear hg_ hnew_ ho hb
      refine hK.out _ _ ⟨SH2, ((blk_cell SH2.K.blk 0).trans rfl), ((blk_cell SH2.BP 0).trans rfl), ((blk_cell SH2.BP 1).trans rfl), ((blk_cell SH2.BP 2).trans rfl), ((blk_cell SH2.BP 3).trans rfl)⟩ (fun hHeld => ?_)
      clear hK K
      refine zno 68 ?_
      refine last_ (i := 9) (N := some 69) (zB 10 4) rfl rfl (one_of HT_.out (by kernel_rfl)) (by decide) (fun K hK => ?_)
      obtain ⟨SH, SZ_⟩ := hHeld
      clear SZ_
      refine goes_ Tryd.func51 (by kernel_rfl) rfl #[.slice A1 l1.length c1, .int .i64 i, .slice AL [p1].length cL] (by rfl) rfl rfl zl_ ?_
      with_reducible refine (api_Pay_51.calls (fun k => some k = (Value.slice A1 l1.length c1).ownBlock) _ l1 (i : Int) AL cL [p1] _ w0 _ SH.K.hb (Kd.R_tight rfl SH.K.rp) (Kd.C_kept_own HLIT.out (fun k hk => hk)) (Kd.R_reads' HLIT.out).2.1 HIN.out).mono ?_
      rintro e w9 ⟨v9, rfl, hr9, hb9, hs9⟩
      rw [← HPP.out] at hr9
      obtain ⟨A2, c2, rfl⟩ := Kd.R_slice hr9
      have NG := SH.pays hr9 hb9 hs9
      have NB := Aside0.mk NG.1
      have PO1 := Aside0.mk NG.2
      clear hr9 hb9 hs9 NG
      refine ⟨_, rfl, ?_⟩
      refine hK.out _ _ ?_
      clear hK K
      refine zno 69 ?_
      refine zpu 10 (some 70) (zB 11 3) (any_of HT_.out (by kernel_rfl)) ?_
      refine zpu 11 (some 71) (zB 12 2) (any_of HT_.out (by kernel_rfl)) ?_
      refine zpu 12 (some 72) (zB 13 1) (any_of HT_.out (by kernel_rfl)) ?_
      refine last_ (i := 13) (N := none) (zB 14 0) rfl rfl (one_of HT_.out (by kernel_rfl)) (by decide) (fun K hK => ?_)
      have hc0 := (blk_cell NB.out 0).trans rfl
      have hcf := blk_frozen NB.out 0
      refine skip_ (w1 := ?_) (by rfl) rfl ?_ ?_
      rotate_left
      ·go_simp
       rfl
      refine hK.out _ _ ?_
      clear hK K
      refine done_ (done_of HT_.out (by kernel_rfl)) ?_
      go_wp2_with fail
      go_meet
      case rel => exact ⟨A2, c2, PO1⟩
    case rest =>
     clear PO
     obtain ⟨A2, c2, PO⟩ := hcut
     clear HNZ HIL HPLE HL1 HI HBB HP1 hx0 hp0 hp1 hp2 hp3
     go_upto_region 10 with (fail)
     refine start_ (n := 13) (S := fun w' => PoS w0 w w' g gx gp (.slice Ap ps.length cp) (.slice Aq qs.length cq) (.slice A2 (postL ps x).length c2) (.slice Aq qs.length cq) (postL ps x) qs c x p1 ∧ w'.cell? ⟨g, 1, none⟩ = some (.slice Aq qs.length cq) ∧ w'.cell? ⟨gx, 0, none⟩ = some (.int .i64 x.f0) ∧ w'.cell? ⟨gx, 1, none⟩ = some (.int .u8 x.f1) ∧ w'.cell? ⟨gx, 2, none⟩ = some (.int .u8 x.f2) ∧ w'.cell? ⟨gx, 3, none⟩ = some (.int .i64 x.f3)) (ds := [8, 12]) (zB 0 13) (by kernel_rfl) rfl rfl ⟨(PO.out.drewN 1), ((blk_cell (PO.out.drewN 1).K.blk 1).trans rfl), ((blk_cell (PO.out.drewN 1).BX 0).trans rfl), ((blk_cell (PO.out.drewN 1).BX 1).trans rfl), ((blk_cell (PO.out.drewN 1).BX 2).trans rfl), ((blk_cell (PO.out.drewN 1).BX 3).trans rfl)⟩ (fun hHeld => ?_)
     refine with_tabW ledger_book_post.tab10 ledger_book_post.bits10 (fun HT_ HW_ => ?_)
     refine zpu 0 (some 73) (zB 1 12) (any_of HT_.out (by kernel_rfl)) ?_
     refine zpu 1 (some 74) (zB 2 11) (any_of HT_.out (by kernel_rfl)) ?_
     refine zpu 2 (some 75) (zB 3 10) (any_of HT_.out (by kernel_rfl)) ?_
     refine zpu 3 (some 76) (zB 4 9) (any_of HT_.out (by kernel_rfl)) ?_
     refine zpu 4 (some 77) (zB 5 8) (any_of HT_.out (by kernel_rfl)) ?_
     refine zta 5 (some 78) (zB 6 7) (take_ofW HT_.out HW_.out (by kernel_rfl)) hHeld ?_
     refine zta 6 (some 79) (zB 7 6) (take_ofW HT_.out HW_.out (by kernel_rfl)) hHeld ?_
     refine one_ (i := 7) (N := some 80) (zB 8 5) rfl rfl (one_of HT_.out (by kernel_rfl)) (by decide) (fun K hK => ?_)
     obtain ⟨SH, SZ_⟩ := hHeld
     clear SZ_
     refine Kd.R_lit_step k69 _ 69 ?hg (N := 80) ?hd (xs := [x]) (inner := [.int .i64 x.f0, .int .u8 x.f1, .int .u8 x.f2, .int .i64 x.f3]) (ok := fun _ => True) (okp := fun _ => True) ?hr ?hp (fun _ hk => hk) trivial (Below.refl _ _) (Nat.le_refl _) (by simp) ?_; (case hd => rfl); (case hg => rfl); (case hr => first | (go_simp; done) | (go_simp; rfl)); (case hp => exact Reps.snoc (Reps.none _ _) (k69_mkM _ _ _ x) rfl)
     intro vL w7 ho hb hg_ hnew_
     obtain ⟨AL, cL, rfl⟩ := Kd.R_slice ho
     have HLIT := Aside0.mk ho
     have SH2 := SH.below hb
     clear hg_ hnew_ ho hb
     refine hK.out _ _ ⟨SH2, ((blk_cell SH2.K.blk 1).trans rfl), ((blk_cell SH2.BX 0).trans rfl), ((blk_cell SH2.BX 1).trans rfl), ((blk_cell SH2.BX 2).trans rfl), ((blk_cell SH2.BX 3).trans rfl)⟩ (fun hHeld => ?_)
     clear hK K
     refine zno 80 ?_
     refine last_ (i := 8) (N := some 81) (zB 9 4) rfl rfl (one_of HT_.out (by kernel_rfl)) (by decide) (fun K hK => ?_)
     obtain ⟨SH, SZ_⟩ := hHeld
     clear SZ_
     refine Kd.R_append_rows_step k69 (w0 := w0) w0.heap.size (by rfl) (.tmp 78) (.tmp 80) 33 69 (.agg #[.int .i64 0, .int .u8 0, .int .u8 0, .int .i64 0]) 24 rfl Tryd.underlying33 info69 rfl (by decide) (by omega) (.slice Aq qs.length cq) qs [x] _ _ _ (fun _ => True) (fun _ => False) rfl rfl SH.K.rq (Kd.R_reads' HLIT.out).2.2 (fun _ _ h => h) (fun _ h => h.elim) (fun _ _ => trivial) SH.K.hb SH.K.hb.size (by have := HQS.out; simp only [List.length_cons, List.length_nil]; omega) ?_
     intro vC w8 ho hb hg hat
     obtain ⟨AC, cC, hvC⟩ := Kd.R_slice ho
     rw [show (qs ++ [x]).length = qs.length + 1 by simp] at hvC
     subst hvC
     have NB : Aside0 (w8.heap[g]? = some (.cells #[.slice A2 (postL ps x).length c2, .slice Aq qs.length cq, .int .i64 c] 76 (0, 0))) := ⟨blk_grown SH.K.blk hg (Kd.R_ne SH.K.rq SH.K.blk (by decide))⟩
     have NR : Aside0 (Kd.R k47 47 w8 w0.heap.size (fun _ => True) (.slice A2 (postL ps x).length c2) (postL ps x)) := ⟨Kd.R_grown2 SH.K.rp rfl hg (rows_ne SH.K.rq SH.K.rp (by decide))⟩
     have NQ := Aside0.mk ho
     have NB2 := Aside0.mk hb
     have NE : Aside0 (Kept w w8 (BkS g (.slice Ap ps.length cp) (.slice Aq qs.length cq))) := ⟨Kept.of_grown hg SH.KE (fun k hk => (SH.NQ k hk).imp (fun h1 => .inr (.inr h1)) id)⟩
     have NG := Aside0.mk SH.K.hg
     clear ho hb hg hat
     refine hK.out _ _ ?_
     clear hK K
     refine zno 81 ?_
     refine zpu 9 (some 82) (zB 10 3) (any_of HT_.out (by kernel_rfl)) ?_
     refine zpu 10 (some 83) (zB 11 2) (any_of HT_.out (by kernel_rfl)) ?_
     refine zpu 11 (some 84) (zB 12 1) (any_of HT_.out (by kernel_rfl)) ?_
     refine last_ (i := 12) (N := none) (zB 13 0) rfl rfl (one_of HT_.out (by kernel_rfl)) (by decide) (fun K hK => ?_)
     have hc0 := (blk_cell NB.out 1).trans rfl
     have hcf := blk_frozen NB.out 1
     refine skip_ (w1 := ?_) (by rfl) rfl ?_ ?_
     rotate_left
     ·go_simp
      rfl
     refine hK.out _ _ ?_
     clear hK K
     refine done_ (done_of HT_.out (by kernel_rfl)) ?_
     go_wp2_with fail
     first | go_end0 | ((try simp only [Exit.inBlock, Exit.then]); refine bodyPost_ret (results_none rfl _ _ _) rfl ?_)
     exact ⟨rfl, NE.out.setCell (p := ⟨g, 1, none⟩) (.inl (.inl rfl)) _, _, _, by rw [P1.out, P2.out, P3.out, HC.out]; exact ⟨blk_put NB.out 1 _ rfl, NG.out, Kd.R_set NR.out NB.out (by decide) 1 _, Kd.R_set NQ.out NB.out (by decide) 1 _, below_set NB2.out NG.out⟩⟩
 ·have e1 : (why1 == 0) = false := beq_eq_false_iff_ne.mpr hz
  have e2 : (why1 != 0) = true := bne_iff_ne.mpr hz
  have P1 : Aside0 (postPs ps qs why x = ps) := ⟨if_neg (by rw [← HWE.out]; exact hz)⟩
  have P2 : Aside0 (postQs qs why x = qs) := ⟨if_neg (by rw [← HWE.out]; exact hz)⟩
  have P3 : Aside0 (postWs ps qs why x = why1) := ⟨(if_neg (by rw [← HWE.out]; exact hz)).trans HWE.out.symm⟩
  clear hz
  go_wp2_with fail
  first | go_end0 | ((try simp only [Exit.inBlock, Exit.then]); refine bodyPost_ret (results_none rfl _ _ _) rfl ?_)
  exact ⟨rfl, KE2.out, _, _, by rw [P1.out, P2.out, P3.out]; exact K2.out⟩
end Go.Proofs.YtdiopojnkjkgmaaDoor.Print
