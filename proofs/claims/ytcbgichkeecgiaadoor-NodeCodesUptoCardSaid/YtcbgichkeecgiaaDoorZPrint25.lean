-- What the claim uses alone (wip/slim.py). Lean checks it.
import Derived.Test.YtcbgichkeecgiaaDoorZAb
import Derived.Test.YtcbgichkeecgiaaDoorZAln
import Derived.Test.YtcbgichkeecgiaaDoorZPrint23
import Derived.Test.YtcbgichkeecgiaaDoorZPrint24
namespace Go.Proofs.YtcbgichkeecgiaaDoor.Print
open Go.RowKit Go.Proofs.YtcbgichkeecgiaaDoorW.PrintWords Go.Proofs.YtcbgichkeecgiaaDoorW.PrintLast Go.Proofs.YtcbgichkeecgiaaDoorW.PrintMore
attribute [local go_sem] max2_mx min2_mn max_two min_two max_three min_three max_four min_four
set_option linter.unusedVariables false
set_option linter.unusedSimpArgs false
mutual
def ladingref06_read.j0 : Nat → List Int → Bool → Option (Bool × (List (List Int)) × (List (List Int)) × List Int × Bool)
 | 0, _, _ => none
 | k + 1, x0, x34 => if x34 = true then (some (false, ([] : List (List Int)), ([] : List (List Int)), ([] : List Int), false)) else (if 0 < (x0.length : Int) then (if 1 ≤ (x0.length : Int) then ((ladingref03_ReadNum.f k (x0.drop 1)).bind fun bt376 => (if bt376.2.2 = 0 then (ladingref06_read.j1 k bt376.1 bt376.2.1 (decide (bt376.1 > 4096)) ((rd x0 0) == 1)) else (ladingref06_read.j1 k bt376.1 bt376.2.1 true ((rd x0 0) == 1)))) else (none)) else (none))
def ladingref06_read.j1 : Nat → Int → List Int → Bool → Bool → Option (Bool × (List (List Int)) × (List (List Int)) × List Int × Bool)
 | 0, _, _, _, _ => none
 | k + 1, x5, x6, x53, x375000 => if x53 = true then (some (false, ([] : List (List Int)), ([] : List (List Int)), ([] : List Int), false)) else (if x375000 = true then (ladingref06_read.j2 k x5 x6 x375000 ([] : List Int)) else ((ladingref06_kid.f k x6).bind fun bt381 => (if bt381.2.2 = true then (if ([] : List Int).length < 17592186044416 then (ladingref06_read.j2 k x5 bt381.2.1 x375000 (([] : List Int) ++ [bt381.1])) else (none)) else (some (false, ([] : List (List Int)), ([] : List (List Int)), ([] : List Int), false)))))
def ladingref06_read.j2 : Nat → Int → List Int → Bool → List Int → Option (Bool × (List (List Int)) × (List (List Int)) × List Int × Bool)
 | 0, _, _, _, _ => none
 | k + 1, x5, x6, x375000, x375003 => ladingref06_read.l0 k x5 x6 0 x375000 ([] : List (List Int)) ([] : List (List Int)) x375003
def ladingref06_read.l0 : Nat → Int → List Int → Int → Bool → List (List Int) → List (List Int) → List Int → Option (Bool × (List (List Int)) × (List (List Int)) × List Int × Bool)
 | 0, _, _, _, _, _, _, _ => none
 | k + 1, x5, x6, x11, x375000, x375001, x375002, x375003 => if x11 < x5 then ((ladingref06_entry.f k x6 256).bind fun bt389 => (if bt389.2.2 = true then (if x375001.length < 5864062014805 then ((some (x375001 ++ [bt389.1] : List (List Int))).bind fun y396 => (if x375000 = true then ((ladingref06_entry.f k bt389.2.1 512).bind fun bt399 => (if bt399.2.2 = true then (if x375002.length < 5864062014805 then (ladingref06_read.l0 k x5 bt399.2.1 (IntKind.u64.wrap (x11 + 1)) x375000 y396 (x375002 ++ [bt399.1]) x375003) else (none)) else (some (false, ([] : List (List Int)), ([] : List (List Int)), ([] : List Int), false)))) else ((ladingref06_kid.f k bt389.2.1).bind fun bt409 => (if bt409.2.2 = true then (if x375003.length < 17592186044416 then (ladingref06_read.l0 k x5 bt409.2.1 (IntKind.u64.wrap (x11 + 1)) x375000 y396 x375002 (x375003 ++ [bt409.1])) else (none)) else (some (false, ([] : List (List Int)), ([] : List (List Int)), ([] : List Int), false)))))) else (none)) else (some (false, ([] : List (List Int)), ([] : List (List Int)), ([] : List Int), false)))) else (some (x375000, x375001, x375002, x375003, true))
end
def ladingref06_read.f (k : Nat) (l0 : List Int) : Option (Bool × (List (List Int)) × (List (List Int)) × List Int × Bool) := if (l0.length : Int) = 0 then (ladingref06_read.j0 k l0 true) else (if 0 < (l0.length : Int) then (if (rd l0 0) = 1 then (ladingref06_read.j0 k l0 false) else (ladingref06_read.j0 k l0 ((rd l0 0) != 2))) else (none))
set_option maxHeartbeats 8000000 in
set_option maxRecDepth 100000 in
theorem ladingref06_read.calls (k : Nat) (A0 : Option Addr) (c0 : Nat) (l0 : List Int) (r1 : Bool) (r2 : List (List Int)) (r3 : List (List Int)) (r4 : List Int) (r5 : Bool) (w : World) (hr0 : Kd.C (Kd.int .u8) w A0 l0.length l0) (hc0 : l0.length ≤ c0) (h : ladingref06_read.f k l0 = some (r1, r2, r3, r4, r5)) :
  Calls Tryd.prog 26 #[.slice A0 l0.length c0] w fun e w' => ∃ v1_ v2_ v3_ : Value, e = .returned (.tuple #[.agg #[.bool r1, v1_, v2_, v3_], .bool r5]) ∧ Kd.N (Kd.slice 5 (Kd.int .u8)) 26 w' w.heap.size (fun k_ => (w.heap.size ≤ k_) ∧ some k_ ≠ (v2_ : Value).ownBlock ∧ some k_ ≠ (v3_ : Value).ownBlock) v1_ r2 ∧ Kd.N (Kd.slice 5 (Kd.int .u8)) 26 w' w.heap.size (fun k_ => (w.heap.size ≤ k_) ∧ some k_ ≠ (v1_ : Value).ownBlock ∧ some k_ ≠ (v3_ : Value).ownBlock) v2_ r3 ∧ Kd.R (Kd.int .i64) 3 w' w.heap.size (fun k_ => (w.heap.size ≤ k_)) v3_ r4 ∧ Below w.heap.size w w' := by
 have hu25 := Tryd.underlying25
 have HR0 := Aside0.mk hr0
 have HC0 := Aside0.mk hc0
 clear hr0 hc0
 have HB := Aside0.mk (Below.refl w.heap.size w)
 have H : (if (l0.length : Int) = 0 then (ladingref06_read.j0 k l0 true) else (if 0 < (l0.length : Int) then (if (rd l0 0) = 1 then (ladingref06_read.j0 k l0 false) else (ladingref06_read.j0 k l0 ((rd l0 0) != 2))) else (none))) = some (r1, r2, r3, r4, r5) := h
 clear h
 have HC2 := Aside0.mk H
 clear H
 go_enter Tryd.func26, Tryd.ntmps26
 go_upto_region 1 with (first | ((with_reducible refine gate_dst (N := 2) rfl ?_); refine box_event ?hg (N := 2) ?hd (cs := #[.bool false, .slice none 0 0, .slice none 0 0, .slice none 0 0]) (t := 25) ?hr ?_; (case hd => rfl); (case hg => rfl); (case hr => first | (go_simp; done) | (go_simp; rfl)); intro gb370 hg w3 hbox hb; have BK370 := Aside0.mk (hbox); have GW370 := Aside0.mk ((by rw [hg]; exact (below_size (zh0_ HB.out)) : w.heap.size ≤ gb370)); have GE370 := Aside0.mk ((by rw [hg]; exact (below_size (zh0_ HB.out)) : w.heap.size ≤ gb370)); replace HB := Aside0.mk (below_step (zh0_ HB.out) hb); clear hb hbox hg))
 (try simp only [Act.put, zt0, zt1, zt2])
 go_cut [34] (fun v34 wc => ∃ (kq : Nat) (x34_1 : Bool), v34 = .bool x34_1 ∧ Aside0 (ladingref06_read.j0 kq l0 x34_1 = some (r1, r2, r3, r4, r5)) ∧ Aside0 (kq ≤ k) ∧ Aside0 (wc.heap[gb370]? = some (.cells #[.bool false, (.slice none 0 0), (.slice none 0 0), (.slice none 0 0)] 25 (0, 0))) ∧ Aside0 (Below w.heap.size w wc))
 case first =>
  have H := HC2.out
  clear HC2
  by_cases c4 : (l0.length : Int) = 0
  ·rw [if_pos c4] at H
   obtain ⟨c4b0, c4b1⟩ := zq1 c4
   clear c4
   (first | rw [c4b0] | (simp only [i64_w, i32_w]; rw [c4b0]) | skip)
   have H' := Aside0.mk H
   clear H
   go_wp2
   go_meet
   case rel => exact ⟨_, (true), (by first | rfl | (simp; done) | (simp [*]; done) | (simp only [i64_w]; done)), H', ⟨by first | omega | exact Nat.le_refl _⟩, ⟨by (with_reducible repeat (first | refine blk_drewN ?_ _ | refine blk_drew ?_ | refine blk_alloc ?_ _)); exact BK370.out⟩, ⟨by exact zh1_ HB.out GE370.out⟩⟩
  ·rw [if_neg c4] at H
   obtain ⟨c4b0, c4b1⟩ := zq0 c4
   have c4b2 : ¬ (l0 = []) := fun h_ => c4 (by rw [h_]; rfl)
   (first | rw [c4b0] | (simp only [i64_w, i32_w]; rw [c4b0]) | skip)
   by_cases c5 : 0 < (l0.length : Int)
   ·rw [if_pos c5] at H
    have c5b0 : decide (0 < (l0.length : Int)) = true := decide_eq_true c5
    have c5b1 : decide (0 < l0.length) = true := decide_eq_true (by omega)
    clear c5
    by_cases c6 : (rd l0 0) = 1
    ·rw [if_pos c6] at H
     obtain ⟨c6b0, c6b1⟩ := zq1 c6
     clear c6
     have H' := Aside0.mk H
     clear H
     have p371 : 0 ≤ (0 : Int) := (by omega)
     have q371 : 0 < (l0.length : Int) := of_decide_eq_true za_
     obtain ⟨ad371, e371, hx371_0⟩ := Kd.at_int HR0.out 0 p371 q371
     cases e371
     have qi371 : (0 < l0.length) = True := eq_true (by omega)
     (try rw [show ((0 : Int)).toNat = 0 from rfl] at hx371_0)
     (try rw [Addr.add_zero'] at hx371_0)
     replace hx371_0 := zx_ HB.out hx371_0
     replace p371 := eq_true p371
     replace q371 := eq_true q371
     go_wp2
     go_meet
     case rel => exact ⟨_, (false), (by first | rfl | (simp; done) | (simp [*]; done) | (simp only [i64_w]; done)), H', ⟨by first | omega | exact Nat.le_refl _⟩, ⟨by (with_reducible repeat (first | refine blk_drewN ?_ _ | refine blk_drew ?_ | refine blk_alloc ?_ _)); exact BK370.out⟩, ⟨by exact zh1_ HB.out GE370.out⟩⟩
    ·rw [if_neg c6] at H
     obtain ⟨c6b0, c6b1⟩ := zq0 c6
     have H' := Aside0.mk H
     clear H
     have p371 : 0 ≤ (0 : Int) := (by omega)
     have q371 : 0 < (l0.length : Int) := of_decide_eq_true za_
     obtain ⟨ad371, e371, hx371_0⟩ := Kd.at_int HR0.out 0 p371 q371
     cases e371
     have qi371 : (0 < l0.length) = True := eq_true (by omega)
     (try rw [show ((0 : Int)).toNat = 0 from rfl] at hx371_0)
     (try rw [Addr.add_zero'] at hx371_0)
     replace hx371_0 := zx_ HB.out hx371_0
     replace p371 := eq_true p371
     replace q371 := eq_true q371
     have p372 : 0 ≤ (0 : Int) := (by omega)
     have q372 : 0 < (l0.length : Int) := of_decide_eq_true za_
     obtain ⟨ad372, e372, hx372_0⟩ := Kd.at_int HR0.out 0 p372 q372
     obtain rfl : ad371 = ad372 := (by injection e372)
     have qi372 : (0 < l0.length) = True := eq_true (by omega)
     (try rw [show ((0 : Int)).toNat = 0 from rfl] at hx372_0)
     (try rw [Addr.add_zero'] at hx372_0)
     replace hx372_0 := zx_ HB.out hx372_0
     replace p372 := eq_true p372
     replace q372 := eq_true q372
     go_wp2
     go_meet
     case rel => exact ⟨_, (((rd l0 0) != 2)), (by first | rfl | (simp; done) | (simp [*]; done) | (simp only [i64_w]; done)), H', ⟨by first | omega | exact Nat.le_refl _⟩, ⟨by (with_reducible repeat (first | refine blk_drewN ?_ _ | refine blk_drew ?_ | refine blk_alloc ?_ _)); exact BK370.out⟩, ⟨by exact zh1_ HB.out GE370.out⟩⟩
   ·rw [if_neg c5] at H
    cases H
 case rest =>
  clear HC2
  try clear c2
  try clear p2
  try clear p3
  try clear q3
  try clear hx3
  try clear qi3
  try clear c4
  try clear c4b0
  try clear c4b1
  try clear c4b2
  try clear c5
  try clear c5b0
  try clear c5b1
  try clear c6
  try clear c6b0
  try clear c6b1
  try clear hx371_0
  try clear hx372_0
  try clear p371
  try clear p372
  try clear q371
  try clear q372
  (try clear BK370)
  obtain ⟨kq, x34_1, rfl, HA, HJ1, BK370, HB⟩ := hcut
  cases kq with
  | zero => exact absurd HA.out (by simp [ladingref06_read.j0])
  | succ kj1 =>
   have H := HA.out
   clear HA
   simp only [ladingref06_read.j0] at H
   by_cases c7 : x34_1 = true
   ·subst c7
    replace H := (if_pos (rfl : true = true)).symm.trans H
    simp only [Option.some.injEq, Prod.mk.injEq] at H
    obtain ⟨rfl, rfl, rfl, rfl, rfl⟩ := H
    obtain ⟨hcz8_0, hcz8_1, hcz8_2, hcz8_3⟩ := zc4 BK370.out
    obtain ⟨hfz8_0, hfz8_1, hfz8_2, hfz8_3⟩ := zz4 BK370.out
    go_wp2
    refine bodyPost_ret (results_ct rfl _ _ gb370 25 #[.bool false, .slice none 0 0, .slice none 0 0, .slice none 0 0] (0, 0) _ rfl (zp_ BK370.out) Tryd.underlying25 rfl (by kernel_rfl)) rfl ?_
    exact ⟨_, _, _, by first | rfl | (simp [errW_none, errW_some] <;> rfl) | (simp [*, errW_none, errW_some] <;> rfl), by first | exact Kd.S_nil _ _ _ _ _ | exact Kd.N_nil _ _ _ _ _ | exact Kd.V_nil _ _ _ _ _ | exact Kd.Q_nil _ _ _ _ _ | exact Kd.R_nil _ _ _ _ _, by first | exact Kd.S_nil _ _ _ _ _ | exact Kd.N_nil _ _ _ _ _ | exact Kd.V_nil _ _ _ _ _ | exact Kd.Q_nil _ _ _ _ _ | exact Kd.R_nil _ _ _ _ _, by first | exact Kd.R_nil _ _ _ _ _ | exact Kd.N_nil _ _ _ _ _ | exact Kd.V_nil _ _ _ _ _ | exact Kd.Q_nil _ _ _ _ _ | exact Kd.S_nil _ _ _ _ _, by exact zh1_ HB.out GE370.out⟩
   ·replace c7 := Bool.eq_false_iff.mpr c7
    subst c7
    replace H := (if_neg (show ¬ (false = true) by decide)).symm.trans H
    by_cases c9 : 0 < (l0.length : Int)
    ·rw [if_pos c9] at H
     have c9b0 : decide (0 < (l0.length : Int)) = true := decide_eq_true c9
     have c9b1 : decide (0 < l0.length) = true := decide_eq_true (by omega)
     clear c9
     by_cases c10 : 1 ≤ (l0.length : Int)
     ·rw [if_pos c10] at H
      have c10b0 := eq_true c10
      have c10b1 : decide (1 ≤ (l0.length : Int)) = true := decide_eq_true c10
      clear c10
      obtain ⟨⟨t376, t377, t378⟩, A11, H⟩ := zm H
      (try dsimp only at H)
      have HC12 := Aside0.mk H
      clear H
      have p373 : 0 ≤ (0 : Int) := (by omega)
      have q373 : 0 < (l0.length : Int) := of_decide_eq_true za_
      obtain ⟨ad373, e373, hx373_0⟩ := Kd.at_int HR0.out 0 p373 q373
      cases e373
      have qi373 : (0 < l0.length) = True := eq_true (by omega)
      (try rw [show ((0 : Int)).toNat = 0 from rfl] at hx373_0)
      (try rw [Addr.add_zero'] at hx373_0)
      replace hx373_0 := zx_ HB.out hx373_0
      replace p373 := eq_true p373
      replace q373 := eq_true q373
      go_upto_region 5 with (first | ((with_reducible refine gate_dst (N := 4) rfl ?_); refine box_event ?hg (N := 4) ?hd (cs := #[.bool false, .slice none 0 0, .slice none 0 0, .slice none 0 0]) (t := 25) ?hr ?_; (case hd => rfl); (case hg => rfl); (case hr => first | (go_simp; done) | (go_simp; rfl)); intro gb374 hg w13 hbox hb; have BK374 := Aside0.mk (hbox); have GW374 := Aside0.mk ((by rw [hg]; exact (below_size (zh1_ HB.out GE370.out)) : w.heap.size ≤ gb374)); have GE374 := Aside0.mk ((by rw [hg]; exact (below_size (zh1_ HB.out GE370.out)) : w.heap.size ≤ gb374)); replace HB := Aside0.mk (below_step (zh1_ HB.out GE370.out) hb); have NB370_374 := Aside0.mk ((by rw [hg]; exact Nat.ne_of_lt (blk_lt (zb_ BK370.out)) : gb370 ≠ gb374)); have NB374_370 := Aside0.mk ((by rw [hg]; exact Nat.ne_of_gt (blk_lt (zb_ BK370.out)) : gb374 ≠ gb370)); replace BK370 := Aside0.mk (blk_below (zb_ BK370.out) hb); clear hb hbox hg; have hnb14 := NB374_370.out; have hnc14 := NB370_374.out; obtain ⟨hcz15_0, hcz15_1, hcz15_2, hcz15_3⟩ := zc4 BK374.out; obtain ⟨hfz15_0, hfz15_1, hfz15_2, hfz15_3⟩ := zz4 BK374.out; obtain ⟨i016, hi016, _, hsz16, _⟩ := info_parts info5; obtain ⟨A16, hcut16, hA16, hC16⟩ := print_drop_of (P := Tryd.prog) (Value.int .u8) 0 26 5 .i64 Tryd.underlying26 hi016 hsz16 (some ad373) c0 l0 1 (by omega) (of_decide_eq_true za_) HC0.out; have HR375 := Aside0.mk (Kd.C_of_reads (h1 := fun _ => rfl) (hA16 _ (Kd.reads_of_C HR0.out))); have HC375 := Aside0.mk hC16; clear hA16 hC16 hi016 hsz16) | ((with_reducible refine gate_callee (f := 50) rfl ?_); refine goesL_ (some 44) rfl rfl Tryd.func50 (by kernel_rfl) rfl #[.slice A16 (l0.drop 1).length (c0 - 1)] rfl (by (try simp only [List.map_toArray, List.map_cons, List.map_nil]); first | done | (rw [show (l0.drop 1).length = (l0.length - 1) from List.length_drop] <;> rfl) | rfl | (simp only [List.length_drop, List.length_take]; rfl)) ?_; (with_reducible refine (ladingref03_ReadNum.calls kj1 _ _ (l0.drop 1) t376 t377 t378 _ ?side1 ?side2 A11.out).mono ?_); (case side1 => exact Kd.C_below HR375.out (zh2_ HB.out GE370.out GE374.out)); (case side2 => exact HC375.out); rintro e w17 ⟨v379, rfl, ho0, hb⟩; refine ⟨_, rfl, ?_⟩; have HO380 := Aside0.mk (Kd.R_lower (Kd.R_newM (M := fun k_ => (w.heap.size ≤ k_)) ho0 (below_size (zh2_ HB.out GE370.out GE374.out)) (fun k_ h_ => h_)) (below_size (zh2_ HB.out GE370.out GE374.out))); replace BK370 := Aside0.mk (blk_below (g := gb370) (o := .cells #[.bool false, .slice none 0 0, .slice none 0 0, .slice none 0 0] 25 (0, 0)) (zf_ NB370_374.out BK370.out) hb); replace BK374 := Aside0.mk (blk_below (g := gb374) (o := .cells #[.bool ((rd l0 0) == 1), .slice none 0 0, .slice none 0 0, .slice none 0 0] 25 (0, 0)) (zp_ BK374.out) hb); replace HB := Aside0.mk (below_step (zh2_ HB.out GE370.out GE374.out) hb); (try clear hb); (try clear ho0)))
      (try simp only [Act.put, zt0, zt1, zt2])
      go_cut [53] (fun v53 wc => ∃ (kq : Nat) (x53_11 : Bool), v53 = .bool x53_11 ∧ Aside0 (ladingref06_read.j1 kq t376 t377 x53_11 ((rd l0 0) == 1) = some (r1, r2, r3, r4, r5)) ∧ Aside0 (kq ≤ kj1) ∧ Aside0 (Kd.R (Kd.int .u8) 5 wc w.heap.size (fun k_ => (w.heap.size ≤ k_)) v379 t377) ∧ Aside0 (wc.heap[gb370]? = some (.cells #[.bool false, (.slice none 0 0), (.slice none 0 0), (.slice none 0 0)] 25 (0, 0))) ∧ Aside0 (wc.heap[gb374]? = some (.cells #[.bool ((rd l0 0) == 1), (.slice none 0 0), (.slice none 0 0), (.slice none 0 0)] 25 (0, 0))) ∧ Aside0 (Below w.heap.size w wc))
      case first =>
       have H := HC12.out
       clear HC12
       by_cases c18 : t378 = 0
       ·rw [if_pos c18] at H
        obtain ⟨c18b0, c18b1⟩ := zq1 c18
        clear c18
        (first | rw [c18b0] | (simp only [i64_w, i32_w]; rw [c18b0]) | skip)
        have H' := Aside0.mk H
        clear H
        go_wp2
        go_meet
        case rel => exact ⟨_, (decide (t376 > 4096)), (by first | rfl | (simp; done) | (simp [*]; done) | (simp only [i64_w]; done)), H', ⟨by have := HJ1.out; first | omega | exact Nat.le_refl _⟩, ⟨by (with_reducible repeat (first | apply Kd.R_alloc | apply Kd.R_drewN | apply Kd.R_drew)); exact Kd.R_mono HO380.out (fun _ hk => hk.1)⟩, ⟨by (with_reducible repeat (first | refine blk_drewN ?_ _ | refine blk_drew ?_ | refine blk_alloc ?_ _)); exact BK370.out⟩, ⟨by (with_reducible repeat (first | refine blk_drewN ?_ _ | refine blk_drew ?_ | refine blk_alloc ?_ _)); exact BK374.out⟩, ⟨by exact zh2_ HB.out GE370.out GE374.out⟩⟩
       ·rw [if_neg c18] at H
        obtain ⟨c18b0, c18b1⟩ := zq0 c18
        (first | rw [c18b0] | (simp only [i64_w, i32_w]; rw [c18b0]) | skip)
        have H' := Aside0.mk H
        clear H
        go_wp2
        go_meet
        case rel => exact ⟨_, (true), (by first | rfl | (simp; done) | (simp [*]; done) | (simp only [i64_w]; done)), H', ⟨by have := HJ1.out; first | omega | exact Nat.le_refl _⟩, ⟨by (with_reducible repeat (first | apply Kd.R_alloc | apply Kd.R_drewN | apply Kd.R_drew)); exact Kd.R_mono HO380.out (fun _ hk => hk.1)⟩, ⟨by (with_reducible repeat (first | refine blk_drewN ?_ _ | refine blk_drew ?_ | refine blk_alloc ?_ _)); exact BK370.out⟩, ⟨by (with_reducible repeat (first | refine blk_drewN ?_ _ | refine blk_drew ?_ | refine blk_alloc ?_ _)); exact BK374.out⟩, ⟨by exact zh2_ HB.out GE370.out GE374.out⟩⟩
      case rest =>
       clear HC12
       try clear c1
       try clear c2
       try clear p2
       try clear p3
       try clear q3
       try clear hx3
       try clear qi3
       try clear c4
       try clear c4b0
       try clear c4b1
       try clear c4b2
       try clear c5
       try clear c5b0
       try clear c5b1
       try clear c6
       try clear c6b0
       try clear c6b1
       try clear c7
       try clear c9
       try clear c9b0
       try clear c9b1
       try clear c10
       try clear c10b0
       try clear c10b1
       try clear c14
       try clear c18
       try clear c18b0
       try clear c18b1
       try clear hcz15_0
       try clear hcz15_1
       try clear hcz15_2
       try clear hcz15_3
       try clear hcz8_0
       try clear hcz8_1
       try clear hcz8_2
       try clear hcz8_3
       try clear hfz15_0
       try clear hfz15_1
       try clear hfz15_2
       try clear hfz15_3
       try clear hfz8_0
       try clear hfz8_1
       try clear hfz8_2
       try clear hfz8_3
       try clear hx371_0
       try clear hx372_0
       try clear hx373_0
       try clear p2
       try clear p3
       try clear p371
       try clear p372
       try clear p373
       try clear q3
       try clear q371
       try clear q372
       try clear q373
       (try clear BK370)
       (try clear BK374)
       obtain ⟨kq, x53_11, rfl, HA, HJ11, HO_6, BK370, BK374, HB⟩ := hcut
       cases kq with
       | zero => exact absurd HA.out (by simp [ladingref06_read.j1])
       | succ kj11 =>
        have H := HA.out
        clear HA
        simp only [ladingref06_read.j1] at H
        by_cases c19 : x53_11 = true
        ·subst c19
         replace H := (if_pos (rfl : true = true)).symm.trans H
         simp only [Option.some.injEq, Prod.mk.injEq] at H
         obtain ⟨rfl, rfl, rfl, rfl, rfl⟩ := H
         have hnb20 := NB370_374.out
         have hnc20 := NB374_370.out
         obtain ⟨hcz21_0, hcz21_1, hcz21_2, hcz21_3⟩ := zc4 BK370.out
         obtain ⟨hfz21_0, hfz21_1, hfz21_2, hfz21_3⟩ := zz4 BK370.out
         go_wp2
         refine bodyPost_ret (results_ct rfl _ _ gb370 25 #[.bool false, .slice none 0 0, .slice none 0 0, .slice none 0 0] (0, 0) _ rfl (zp_ BK370.out) Tryd.underlying25 rfl (by kernel_rfl)) rfl ?_
         exact ⟨_, _, _, by first | rfl | (simp [errW_none, errW_some] <;> rfl) | (simp [*, errW_none, errW_some] <;> rfl), by first | exact Kd.S_nil _ _ _ _ _ | exact Kd.N_nil _ _ _ _ _ | exact Kd.V_nil _ _ _ _ _ | exact Kd.Q_nil _ _ _ _ _ | exact Kd.R_nil _ _ _ _ _, by first | exact Kd.S_nil _ _ _ _ _ | exact Kd.N_nil _ _ _ _ _ | exact Kd.V_nil _ _ _ _ _ | exact Kd.Q_nil _ _ _ _ _ | exact Kd.R_nil _ _ _ _ _, by first | exact Kd.R_nil _ _ _ _ _ | exact Kd.N_nil _ _ _ _ _ | exact Kd.V_nil _ _ _ _ _ | exact Kd.Q_nil _ _ _ _ _ | exact Kd.S_nil _ _ _ _ _, by exact zh2_ HB.out GE370.out GE374.out⟩
        ·replace c19 := Bool.eq_false_iff.mpr c19
         subst c19
         replace H := (if_neg (show ¬ (false = true) by decide)).symm.trans H
         have HC22 := Aside0.mk H
         clear H
         have hnb23 := NB374_370.out
         have hnc23 := NB370_374.out
         obtain ⟨hcz24_0, hcz24_1, hcz24_2, hcz24_3⟩ := zc4 BK374.out
         obtain ⟨hfz24_0, hfz24_1, hfz24_2, hfz24_3⟩ := zz4 BK374.out
         go_upto_if 57 with (fail)
         go_cut [6] (fun v6 wc => ∃ (kq : Nat) (x6_21 : List Int) (x371000_21 : Bool) (x375003_21 : List Int) (u375003 : Value), Aside0 (ladingref06_read.j2 kq t376 x6_21 ((rd l0 0) == 1) x375003_21 = some (r1, r2, r3, r4, r5)) ∧ Aside0 (kq ≤ kj11) ∧ Aside0 (Kd.R (Kd.int .u8) 5 wc w.heap.size (fun k_ => (w.heap.size ≤ k_)) v6 x6_21) ∧ Aside0 (Kd.R (Kd.int .i64) 3 wc w.heap.size (fun k_ => (w.heap.size ≤ k_)) u375003 x375003_21) ∧ Aside0 (wc.heap[gb370]? = some (.cells #[.bool x371000_21, (.slice none 0 0), (.slice none 0 0), (.slice none 0 0)] 25 (0, 0))) ∧ Aside0 (wc.heap[gb374]? = some (.cells #[.bool ((rd l0 0) == 1), (.slice none 0 0), (.slice none 0 0), u375003] 25 (0, 0))) ∧ Aside0 (Below w.heap.size w wc))
         case first =>
          have H := HC22.out
          clear HC22
          by_cases c25 : ((rd l0 0) == 1) = true
          ·rw [if_pos c25] at H
           have c25b0 : ((rd l0 0) == 1) = true := c25
           (try (have c25b1 : decide ((rd l0 0) = 1) = true := by simpa using c25))
           (try (have c25b2 : ((rd l0 0) == 1) = true := by simpa using c25))
           clear c25
           (first | rw [c25b0] | (simp only [i64_w, i32_w]; rw [c25b0]) | skip)
           have H' := Aside0.mk H
           clear H
           go_wp2
           go_meet
           case rel => exact ⟨_, (t377), (false), (([] : List Int)), (.slice none 0 0), H', ⟨by have := HJ1.out; have := HJ11.out; first | omega | exact Nat.le_refl _⟩, ⟨by (with_reducible repeat (first | apply Kd.R_alloc | apply Kd.R_drewN | apply Kd.R_drew)); exact HO_6.out⟩, ⟨by first | exact Kd.R_nil _ _ _ _ _ | exact Kd.N_nil _ _ _ _ _ | exact Kd.V_nil _ _ _ _ _ | exact Kd.Q_nil _ _ _ _ _ | exact Kd.S_nil _ _ _ _ _⟩, ⟨by (with_reducible repeat (first | refine blk_drewN ?_ _ | refine blk_drew ?_ | refine blk_alloc ?_ _)); exact BK370.out⟩, ⟨by (with_reducible repeat (first | refine blk_drewN ?_ _ | refine blk_drew ?_ | refine blk_alloc ?_ _)); exact BK374.out⟩, ⟨by exact zh2_ HB.out GE370.out GE374.out⟩⟩
          ·rw [if_neg c25] at H
           have c25b0 : ((rd l0 0) == 1) = false := by simpa using c25
           (try (have c25b1 : decide ((rd l0 0) = 1) = false := by simpa using c25))
           (try (have c25b2 : ((rd l0 0) == 1) = false := by simpa using c25))
           (try (have c25b3 : ¬ ((rd l0 0) = 1) := by simpa using c25))
           clear c25
           (first | rw [c25b0] | (simp only [i64_w, i32_w]; rw [c25b0]) | skip)
           obtain ⟨⟨t381, t382, t383⟩, A26, H⟩ := zm H
           (try dsimp only at H)
           by_cases c27 : t383 = true
           ·subst c27
            replace H := (if_pos (rfl : true = true)).symm.trans H
            by_cases c28 : ([] : List Int).length < 17592186044416
            ·rw [if_pos c28] at H
             have LMc28 := Aside0.mk c28
             clear c28
             obtain ⟨y386, hy386⟩ : ∃ y_ : List Int, y_ = (([] : List Int) ++ [t381]) := ⟨_, rfl⟩
             replace H : (ladingref06_read.j2 kj11 t376 t382 ((rd l0 0) == 1) y386) = some (r1, r2, r3, r4, r5) := by first | (rw [hy386]; with_reducible exact H) | (have H2_ := (Option.bind_some _ _).symm.trans H; rw [hy386]; with_reducible exact H2_) | (have H2_ := (Option.bind_some _ _).symm.trans H; with_reducible exact H2_) | with_reducible exact H | (rw [hy386]; exact H) | exact H
             have Ny386 := Aside0.mk hy386
             clear hy386
             have H' := Aside0.mk H
             clear H
             obtain ⟨Ao29, co29, eo29⟩ := Kd.R_slice HO_6.out
             subst eo29
             go_wp2_with (first | ((with_reducible refine gate_callee (f := 51) rfl ?_); refine goesL_ (some 60) rfl rfl Tryd.func51 (by kernel_rfl) rfl #[.slice Ao29 t377.length co29] rfl zl_ ?_; (with_reducible refine (ladingref06_kid.calls kj11 _ _ t377 t381 t382 true _ ?side1 ?side2 A26.out).mono ?_); (case side1 => repeat (first | exact (Kd.R_reads' HO_6.out).2.2 | (with_reducible refine Kd.C_alloc ?_ _) | (with_reducible refine Kd.C_drewN ?_ _) | (with_reducible refine Kd.C_drew ?_))); (case side2 => exact (Kd.R_reads' HO_6.out).2.1); rintro e w30 ⟨v384, rfl, ho0, hb⟩; refine ⟨_, rfl, ?_⟩; have HO385 := Aside0.mk (Kd.R_lower (Kd.R_new' (Kd.R_newM (M := fun k_ => (w.heap.size ≤ k_)) ho0 (below_size (zh2_ HB.out GE370.out GE374.out)) (fun k_ h_ => h_)) (Kd.R_lt (zR_ HO_6.out))) (below_size (zh2_ HB.out GE370.out GE374.out))); replace HO_6 := Aside0.mk (Kd.R_elder' (zR_ HO_6.out) (Kd.R_base ho0) hb); replace BK370 := Aside0.mk (blk_below (zb_ BK370.out) hb); replace BK374 := Aside0.mk (blk_below (zb_ BK374.out) hb); replace HB := Aside0.mk (below_step (zh2_ HB.out GE370.out GE374.out) hb); (try clear hb); (try clear hk); (try clear ho0); have hnb31 := NB374_370.out; have hnc31 := NB370_374.out; obtain ⟨hcz32_0, hcz32_1, hcz32_2, hcz32_3⟩ := zc4 BK374.out; obtain ⟨hfz32_0, hfz32_1, hfz32_2, hfz32_3⟩ := zz4 BK374.out) | ((with_reducible refine gate_builtin (b := .append) (xs := #[.tmp 68, .tmp 70]) rfl ?_); at_builtin; refine Kd.R_append (Kd.int .i64) (w0 := w) w.heap.size rfl (.tmp 68) (.tmp 70) 23 3 (.int .i64 0) 8 rfl Tryd.underlying23 info3 rfl (by decide) (by omega) (.slice none 0 0) ([] : List Int) t381 [.int .i64 t381] (fun k_ => (w.heap.size ≤ k_)) (fun _ => False) rfl rfl ?aP (fun _ hk => hk.elim) ?aF ?aO ?aB ?aS ?aL ?_; (case aP => exact rfl); (case aB => exact (zh2_ HB.out GE370.out GE374.out)); (case aF => exact (fun k_ hk => (Nat.le_trans (below_size (zh2_ HB.out GE370.out GE374.out)) hk))); (case aO => exact ((Kd.R_nil _ _ _ _ (fun k_ => (w.heap.size ≤ k_))))); (case aS => exact (below_size (zh2_ HB.out GE370.out GE374.out))); (case aL => have := LMc28.out; omega); intro v387 w33 ho hb hg hat; rw [← Ny386.out] at ho; replace HO_6 := Aside0.mk (Kd.R_grown (zR_ HO_6.out) hg (fun _ _ => by simp [Value.ownBlock])); replace BK370 := Aside0.mk (blk_grown (zb_ BK370.out) hg (by simp [Value.ownBlock])); replace BK374 := Aside0.mk (blk_grown (zb_ BK374.out) hg (by simp [Value.ownBlock])); replace HO385 := Aside0.mk (Kd.R_grown (zR_ HO385.out) hg (fun _ _ => by simp [Value.ownBlock])); replace HB := Aside0.mk (hb); have HO388 := Aside0.mk (ho); clear ho hb hg hat; obtain ⟨Ao34, co34, eo34⟩ := Kd.R_slice HO388.out; subst eo34; obtain ⟨hcz35_0, hcz35_1, hcz35_2, hcz35_3⟩ := zc4 BK374.out; obtain ⟨hfz35_0, hfz35_1, hfz35_2, hfz35_3⟩ := zz4 BK374.out))
             go_meet
             case rel => exact ⟨_, (t382), (false), (y386), (.slice Ao34 y386.length co34), H', ⟨by have := HJ1.out; have := HJ11.out; first | omega | exact Nat.le_refl _⟩, ⟨by (with_reducible repeat (first | apply Kd.R_alloc | apply Kd.R_drewN | apply Kd.R_drew)); exact Kd.R_mono (Kd.R_far (p := ⟨gb374, 3, none⟩) (Kd.R_types HO385.out BK374.out (by decide)) (fun _ hk => hk.2) (.slice Ao34 y386.length co34)) (fun _ hk => hk.1.1.1)⟩, ⟨by (with_reducible repeat (first | apply Kd.R_alloc | apply Kd.R_drewN | apply Kd.R_drew)); exact Kd.R_mono (Kd.R_far (p := ⟨gb374, 3, none⟩) (Kd.R_types HO388.out BK374.out (by decide)) (fun _ hk => hk.2) (.slice Ao34 y386.length co34)) (fun _ hk => hk.1)⟩, ⟨by (with_reducible repeat (first | refine blk_drewN ?_ _ | refine blk_drew ?_ | refine blk_alloc ?_ _)); refine blk_far ?_ NB370_374.out _; (with_reducible repeat (first | refine blk_drewN ?_ _ | refine blk_drew ?_ | refine blk_alloc ?_ _)); exact BK370.out⟩, ⟨by (with_reducible repeat (first | refine blk_drewN ?_ _ | refine blk_drew ?_ | refine blk_alloc ?_ _)); refine blk_put (cs := #[.bool ((rd l0 0) == 1), .slice none 0 0, .slice none 0 0, .slice none 0 0]) ?_ 3 _ (by first | rfl | (simp only [List.length_drop, List.length_take]; rfl)); (with_reducible repeat (first | refine blk_drewN ?_ _ | refine blk_drew ?_ | refine blk_alloc ?_ _)); exact BK374.out⟩, ⟨by exact zh2_ HB.out GE370.out GE374.out⟩⟩
            ·rw [if_neg c28] at H
             cases H
           ·replace c27 := Bool.eq_false_iff.mpr c27
            subst c27
            replace H := (if_neg (show ¬ (false = true) by decide)).symm.trans H
            simp only [Option.some.injEq, Prod.mk.injEq] at H
            obtain ⟨rfl, rfl, rfl, rfl, rfl⟩ := H
            obtain ⟨Ao36, co36, eo36⟩ := Kd.R_slice HO_6.out
            subst eo36
            go_wp2_with (first | ((with_reducible refine gate_callee (f := 51) rfl ?_); refine goesL_ (some 60) rfl rfl Tryd.func51 (by kernel_rfl) rfl #[.slice Ao36 t377.length co36] rfl zl_ ?_; (with_reducible refine (ladingref06_kid.calls kj11 _ _ t377 t381 t382 false _ ?side1 ?side2 A26.out).mono ?_); (case side1 => repeat (first | exact (Kd.R_reads' HO_6.out).2.2 | (with_reducible refine Kd.C_alloc ?_ _) | (with_reducible refine Kd.C_drewN ?_ _) | (with_reducible refine Kd.C_drew ?_))); (case side2 => exact (Kd.R_reads' HO_6.out).2.1); rintro e w37 ⟨v384, rfl, ho0, hb⟩; refine ⟨_, rfl, ?_⟩; have HO385 := Aside0.mk (Kd.R_lower (Kd.R_new' (Kd.R_newM (M := fun k_ => (w.heap.size ≤ k_)) ho0 (below_size (zh2_ HB.out GE370.out GE374.out)) (fun k_ h_ => h_)) (Kd.R_lt (zR_ HO_6.out))) (below_size (zh2_ HB.out GE370.out GE374.out))); replace HO_6 := Aside0.mk (Kd.R_elder' (zR_ HO_6.out) (Kd.R_base ho0) hb); replace BK370 := Aside0.mk (blk_below (zb_ BK370.out) hb); replace BK374 := Aside0.mk (blk_below (zb_ BK374.out) hb); replace HB := Aside0.mk (below_step (zh2_ HB.out GE370.out GE374.out) hb); (try clear hb); (try clear ho0); have hnb38 := NB370_374.out; have hnc38 := NB374_370.out; obtain ⟨hcz39_0, hcz39_1, hcz39_2, hcz39_3⟩ := zc4 BK370.out; obtain ⟨hfz39_0, hfz39_1, hfz39_2, hfz39_3⟩ := zz4 BK370.out))
            refine bodyPost_ret (results_ct rfl _ _ gb370 25 #[.bool false, .slice none 0 0, .slice none 0 0, .slice none 0 0] (0, 0) _ rfl (zp_ BK370.out) Tryd.underlying25 rfl (by kernel_rfl)) rfl ?_
            exact ⟨_, _, _, by first | rfl | (simp [errW_none, errW_some] <;> rfl) | (simp [*, errW_none, errW_some] <;> rfl), by first | exact Kd.S_nil _ _ _ _ _ | exact Kd.N_nil _ _ _ _ _ | exact Kd.V_nil _ _ _ _ _ | exact Kd.Q_nil _ _ _ _ _ | exact Kd.R_nil _ _ _ _ _, by first | exact Kd.S_nil _ _ _ _ _ | exact Kd.N_nil _ _ _ _ _ | exact Kd.V_nil _ _ _ _ _ | exact Kd.Q_nil _ _ _ _ _ | exact Kd.R_nil _ _ _ _ _, by first | exact Kd.R_nil _ _ _ _ _ | exact Kd.N_nil _ _ _ _ _ | exact Kd.V_nil _ _ _ _ _ | exact Kd.Q_nil _ _ _ _ _ | exact Kd.S_nil _ _ _ _ _, by exact zh2_ HB.out GE370.out GE374.out⟩
         case rest =>
          clear HC22
          try clear c1
          try clear c2
          try clear p2
          try clear c3
          try clear p3
          try clear q3
          try clear hx3
          try clear qi3
          try clear c4
          try clear c4b0
          try clear c4b1
          try clear c4b2
          try clear c5
          try clear c5b0
          try clear c5b1
          try clear c6
          try clear c6b0
          try clear c6b1
          try clear c7
          try clear c9
          try clear c9b0
          try clear c9b1
          try clear c10
          try clear c10b0
          try clear c10b1
          try clear c14
          try clear c18
          try clear c18b0
          try clear c18b1
          try clear c19
          try clear c20
          try clear c23
          try clear c25
          try clear c25b0
          try clear c25b1
          try clear c25b2
          try clear c26
          try clear c27
          try clear c28
          try clear c31
          try clear p37
          try clear q37
          try clear hx37
          try clear qi37
          try clear c38
          try clear hcz15_0
          try clear hcz15_1
          try clear hcz15_2
          try clear hcz15_3
          try clear hcz21_0
          try clear hcz21_1
          try clear hcz21_2
          try clear hcz21_3
          try clear hcz24_0
          try clear hcz24_1
          try clear hcz24_2
          try clear hcz24_3
          try clear hcz32_0
          try clear hcz32_1
          try clear hcz32_2
          try clear hcz32_3
          try clear hcz35_0
          try clear hcz35_1
          try clear hcz35_2
          try clear hcz35_3
          try clear hcz39_0
          try clear hcz39_1
          try clear hcz39_2
          try clear hcz39_3
          try clear hcz8_0
          try clear hcz8_1
          try clear hcz8_2
          try clear hcz8_3
          try clear hfz15_0
          try clear hfz15_1
          try clear hfz15_2
          try clear hfz15_3
          try clear hfz21_0
          try clear hfz21_1
          try clear hfz21_2
          try clear hfz21_3
          try clear hfz24_0
          try clear hfz24_1
          try clear hfz24_2
          try clear hfz24_3
          try clear hfz32_0
          try clear hfz32_1
          try clear hfz32_2
          try clear hfz32_3
          try clear hfz35_0
          try clear hfz35_1
          try clear hfz35_2
          try clear hfz35_3
          try clear hfz39_0
          try clear hfz39_1
          try clear hfz39_2
          try clear hfz39_3
          try clear hfz8_0
          try clear hfz8_1
          try clear hfz8_2
          try clear hfz8_3
          try clear hx371_0
          try clear hx372_0
          try clear hx373_0
          try clear p2
          try clear p3
          try clear p371
          try clear p372
          try clear p373
          try clear q3
          try clear q371
          try clear q372
          try clear q373
          (try clear BK370)
          (try clear BK374)
          obtain ⟨kq, x6_21, x371000_21, x375003_21, u375003, HA, HJ21, HO_6, HO_375003, BK370, BK374, HB⟩ := hcut
          cases kq with
          | zero => exact absurd HA.out (by simp [ladingref06_read.j2])
          | succ kj21 =>
           have H := HA.out
           clear HA
           simp only [ladingref06_read.j2] at H
           have H' := Aside0.mk H
           clear H
           go_wp2
           go_loopg [6, 11] kj21 (fun kq v6 v11 w' => ∃ (x6_4 : List Int) (x11_4 : Int) (x371000_4 : Bool) (x375001_4 : List (List Int)) (x375002_4 : List (List Int)) (x375003_4 : List Int) (u375001 : Value) (u375002 : Value) (u375003 : Value), v11 = .int .u64 x11_4 ∧ Aside0 (ladingref06_read.l0 kq t376 x6_4 x11_4 ((rd l0 0) == 1) x375001_4 x375002_4 x375003_4 = some (r1, r2, r3, r4, r5)) ∧ Aside0 (kq ≤ kj21) ∧ Aside0 (Kd.V (Kd.int .u8) 5 w' w.heap.size (fun k_ => (w.heap.size ≤ k_) ∧ some k_ ≠ (u375001 : Value).ownBlock ∧ some k_ ≠ (u375002 : Value).ownBlock ∧ some k_ ≠ (u375003 : Value).ownBlock ∧ k_ ≠ gb370 ∧ k_ ≠ gb374) v6 x6_4) ∧ Aside0 (Kd.N (Kd.slice 5 (Kd.int .u8)) 26 w' w.heap.size (fun k_ => (w.heap.size ≤ k_) ∧ some k_ ≠ (u375002 : Value).ownBlock ∧ some k_ ≠ (u375003 : Value).ownBlock ∧ k_ ≠ gb370 ∧ k_ ≠ gb374) u375001 x375001_4) ∧ Aside0 (Kd.N (Kd.slice 5 (Kd.int .u8)) 26 w' w.heap.size (fun k_ => (w.heap.size ≤ k_) ∧ some k_ ≠ (u375001 : Value).ownBlock ∧ some k_ ≠ (u375003 : Value).ownBlock ∧ k_ ≠ gb370 ∧ k_ ≠ gb374) u375002 x375002_4) ∧ Aside0 (Kd.R (Kd.int .i64) 3 w' w.heap.size (fun k_ => (w.heap.size ≤ k_)) u375003 x375003_4) ∧ Aside0 (w'.heap[gb370]? = some (.cells #[.bool x371000_4, (.slice none 0 0), (.slice none 0 0), (.slice none 0 0)] 25 (0, 0))) ∧ Aside0 (w'.heap[gb374]? = some (.cells #[.bool ((rd l0 0) == 1), u375001, u375002, u375003] 25 (0, 0))) ∧ Aside0 (Below w.heap.size w w'))
           case atStart => exact ⟨(x6_21), (0), (x371000_21), (([] : List (List Int))), (([] : List (List Int))), (x375003_21), (.slice none 0 0), (.slice none 0 0), (u375003), (by first | rfl | (simp; done) | (simp [*]; done) | (simp only [i64_w]; done)), H', ⟨Nat.le_refl _⟩, ⟨Kd.R_V (by (with_reducible repeat (first | apply Kd.R_alloc | apply Kd.R_drewN | apply Kd.R_drew)); exact Kd.R_mono (Kd.R_types (Kd.R_types (Kd.R_apart' HO_6.out (Kd.R_typed HO_375003.out) (by decide)) BK370.out (by decide)) BK374.out (by decide)) (fun _ hk => ⟨hk.1.1.1, ⟨(by simp [Value.ownBlock]), ⟨(by simp [Value.ownBlock]), ⟨hk.1.1.2, ⟨hk.1.2, hk.2⟩⟩⟩⟩⟩))⟩, ⟨by first | exact Kd.S_nil _ _ _ _ _ | exact Kd.N_nil _ _ _ _ _ | exact Kd.V_nil _ _ _ _ _ | exact Kd.Q_nil _ _ _ _ _ | exact Kd.R_nil _ _ _ _ _⟩, ⟨by first | exact Kd.S_nil _ _ _ _ _ | exact Kd.N_nil _ _ _ _ _ | exact Kd.V_nil _ _ _ _ _ | exact Kd.Q_nil _ _ _ _ _ | exact Kd.R_nil _ _ _ _ _⟩, ⟨by (with_reducible repeat (first | apply Kd.R_alloc | apply Kd.R_drewN | apply Kd.R_drew)); exact HO_375003.out⟩, ⟨by (with_reducible repeat (first | refine blk_drewN ?_ _ | refine blk_drew ?_ | refine blk_alloc ?_ _)); exact BK370.out⟩, ⟨by (with_reducible repeat (first | refine blk_drewN ?_ _ | refine blk_drew ?_ | refine blk_alloc ?_ _)); exact BK374.out⟩, ⟨by exact zh2_ HB.out GE370.out GE374.out⟩⟩
           case round =>
            clear H'
            try clear c1
            try clear c2
            try clear p2
            try clear c3
            try clear p3
            try clear q3
            try clear hx3
            try clear qi3
            try clear c4
            try clear c4b0
            try clear c4b1
            try clear c4b2
            try clear c5
            try clear c5b0
            try clear c5b1
            try clear c6
            try clear c6b0
            try clear c6b1
            try clear c7
            try clear c9
            try clear c9b0
            try clear c9b1
            try clear c10
            try clear c10b0
            try clear c10b1
            try clear c14
            try clear c18
            try clear c18b0
            try clear c18b1
            try clear c19
            try clear c20
            try clear c23
            try clear c25
            try clear c25b0
            try clear c25b1
            try clear c25b2
            try clear c26
            try clear c27
            try clear c28
            try clear c31
            try clear p37
            try clear q37
            try clear hx37
            try clear qi37
            try clear c38
            try clear hcz15_0
            try clear hcz15_1
            try clear hcz15_2
            try clear hcz15_3
            try clear hcz21_0
            try clear hcz21_1
            try clear hcz21_2
            try clear hcz21_3
            try clear hcz24_0
            try clear hcz24_1
            try clear hcz24_2
            try clear hcz24_3
            try clear hcz32_0
            try clear hcz32_1
            try clear hcz32_2
            try clear hcz32_3
            try clear hcz35_0
            try clear hcz35_1
            try clear hcz35_2
            try clear hcz35_3
            try clear hcz39_0
            try clear hcz39_1
            try clear hcz39_2
            try clear hcz39_3
            try clear hcz8_0
            try clear hcz8_1
            try clear hcz8_2
            try clear hcz8_3
            try clear hfz15_0
            try clear hfz15_1
            try clear hfz15_2
            try clear hfz15_3
            try clear hfz21_0
            try clear hfz21_1
            try clear hfz21_2
            try clear hfz21_3
            try clear hfz24_0
            try clear hfz24_1
            try clear hfz24_2
            try clear hfz24_3
            try clear hfz32_0
            try clear hfz32_1
            try clear hfz32_2
            try clear hfz32_3
            try clear hfz35_0
            try clear hfz35_1
            try clear hfz35_2
            try clear hfz35_3
            try clear hfz39_0
            try clear hfz39_1
            try clear hfz39_2
            try clear hfz39_3
            try clear hfz8_0
            try clear hfz8_1
            try clear hfz8_2
            try clear hfz8_3
            try clear hx371_0
            try clear hx372_0
            try clear hx373_0
            try clear p2
            try clear p3
            try clear p37
            try clear p371
            try clear p372
            try clear p373
            try clear q3
            try clear q37
            try clear q371
            try clear q372
            try clear q373
            (try clear BK370)
            (try clear BK374)
            obtain ⟨x6_4, x11_4, x371000_4, x375001_4, x375002_4, x375003_4, u375001, u375002, u375003, rfl, HA, HK4, HO_6, HO_375001, HO_375002, HO_375003, BK370, BK374, HB⟩ := hrel
            cases gk with
            | zero => exact absurd HA.out (by simp [ladingref06_read.l0])
            | succ k4 =>
             have H := HA.out
             clear HA
             simp only [ladingref06_read.l0] at H
             by_cases c40 : x11_4 < t376
             ·rw [if_pos c40] at H
              have c40b0 : decide (x11_4 < t376) = true := decide_eq_true c40
              clear c40
              obtain ⟨⟨t389, t392, t395⟩, A41, H⟩ := zm H
              (try dsimp only at H)
              by_cases c42 : t395 = true
              ·subst c42
               replace H := (if_pos (rfl : true = true)).symm.trans H
               by_cases c43 : x375001_4.length < 5864062014805
               ·rw [if_pos c43] at H
                have LMc43 := Aside0.mk c43
                clear c43
                obtain ⟨y396, hy396⟩ : ∃ y_ : List (List Int), y_ = (x375001_4 ++ [t389]) := ⟨_, rfl⟩
                replace H : (if ((rd l0 0) == 1) = true then ((ladingref06_entry.f k4 t392 512).bind fun bt399 => (if bt399.2.2 = true then (if x375002_4.length < 5864062014805 then (ladingref06_read.l0 k4 t376 bt399.2.1 (IntKind.u64.wrap (x11_4 + 1)) ((rd l0 0) == 1) y396 (x375002_4 ++ [bt399.1]) x375003_4) else (none)) else (some (false, ([] : List (List Int)), ([] : List (List Int)), ([] : List Int), false)))) else ((ladingref06_kid.f k4 t392).bind fun bt409 => (if bt409.2.2 = true then (if x375003_4.length < 17592186044416 then (ladingref06_read.l0 k4 t376 bt409.2.1 (IntKind.u64.wrap (x11_4 + 1)) ((rd l0 0) == 1) y396 x375002_4 (x375003_4 ++ [bt409.1])) else (none)) else (some (false, ([] : List (List Int)), ([] : List (List Int)), ([] : List Int), false))))) = some (r1, r2, r3, r4, r5) := by first | (rw [hy396]; with_reducible exact H) | (have H2_ := (Option.bind_some _ _).symm.trans H; rw [hy396]; with_reducible exact H2_) | (have H2_ := (Option.bind_some _ _).symm.trans H; with_reducible exact H2_) | with_reducible exact H | (rw [hy396]; exact H) | exact H
                have Ny396 := Aside0.mk hy396
                clear hy396
                by_cases c44 : ((rd l0 0) == 1) = true
                ·rw [if_pos c44] at H
                 have c44b0 : ((rd l0 0) == 1) = true := c44
                 (try (have c44b1 : decide ((rd l0 0) = 1) = true := by simpa using c44))
                 (try (have c44b2 : ((rd l0 0) == 1) = true := by simpa using c44))
                 clear c44
                 obtain ⟨⟨t399, t402, t405⟩, A45, H⟩ := zm H
                 (try dsimp only at H)
                 by_cases c46 : t405 = true
                 ·subst c46
                  replace H := (if_pos (rfl : true = true)).symm.trans H
                  by_cases c47 : x375002_4.length < 5864062014805
                  ·rw [if_pos c47] at H
                   have LMc47 := Aside0.mk c47
                   clear c47
                   obtain ⟨y406, hy406⟩ : ∃ y_ : List (List Int), y_ = (x375002_4 ++ [t399]) := ⟨_, rfl⟩
                   replace H : (ladingref06_read.l0 k4 t376 t402 (IntKind.u64.wrap (x11_4 + 1)) ((rd l0 0) == 1) y396 y406 x375003_4) = some (r1, r2, r3, r4, r5) := by first | (rw [hy406]; with_reducible exact H) | (have H2_ := (Option.bind_some _ _).symm.trans H; rw [hy406]; with_reducible exact H2_) | (have H2_ := (Option.bind_some _ _).symm.trans H; with_reducible exact H2_) | with_reducible exact H | (rw [hy406]; exact H) | exact H
                   have Ny406 := Aside0.mk hy406
                   clear hy406
                   have H' := Aside0.mk H
                   clear H
                   obtain ⟨Ao48, co48, eo48⟩ := Kd.V_slice HO_6.out
                   subst eo48
                   go_wp2_with (first | ((with_reducible refine gate_callee (f := 52) rfl ?_); refine goesL_ (some 81) rfl rfl Tryd.func52 (by kernel_rfl) rfl #[.slice Ao48 x6_4.length co48, .int .i64 256] rfl zl_ ?_; (with_reducible refine (ladingref06_entry.calls k4 _ _ x6_4 256 t389 t392 true _ ?side1 ?side2 A41.out).mono ?_); (case side1 => repeat (first | exact (Kd.V_reads' HO_6.out).2.2 | (with_reducible refine Kd.C_alloc ?_ _) | (with_reducible refine Kd.C_drewN ?_ _) | (with_reducible refine Kd.C_drew ?_))); (case side2 => exact (Kd.V_reads' HO_6.out).2.1); rintro e w49 ⟨v390, v393, rfl, ho0, ho1, hb⟩; refine ⟨_, rfl, ?_⟩; replace HO_6 := Aside0.mk (Kd.V_below (zV_ HO_6.out) hb); have HO391 := Aside0.mk (Kd.V_lower (Kd.V_mono (ok' := fun k_ => (w.heap.size ≤ k_) ∧ some k_ ≠ (u375001 : Value).ownBlock ∧ some k_ ≠ (u375002 : Value).ownBlock ∧ some k_ ≠ (u375003 : Value).ownBlock ∧ k_ ≠ gb370 ∧ k_ ≠ gb374) ho0 (fun k_ hk_ => ⟨(Nat.le_trans (below_size (zh2_ HB.out GE370.out GE374.out)) hk_), (Kd.fresh' (Kd.N_lt (zN_ HO_375001.out)) k_ hk_), (Kd.fresh' (Kd.N_lt (zN_ HO_375002.out)) k_ hk_), (Kd.fresh' (Kd.R_lt (zR_ HO_375003.out)) k_ hk_), (Kd.freshB (zb_ BK370.out) k_ hk_), (Kd.freshB (zb_ BK374.out) k_ hk_)⟩)) (below_size (zh2_ HB.out GE370.out GE374.out))); have HO394 := Aside0.mk (Kd.V_lower (Kd.V_mono (ok' := fun k_ => (w.heap.size ≤ k_) ∧ some k_ ≠ (u375001 : Value).ownBlock ∧ some k_ ≠ (u375002 : Value).ownBlock ∧ some k_ ≠ (u375003 : Value).ownBlock ∧ k_ ≠ gb370 ∧ k_ ≠ gb374) ho1 (fun k_ hk_ => ⟨(Nat.le_trans (below_size (zh2_ HB.out GE370.out GE374.out)) hk_), (Kd.fresh' (Kd.N_lt (zN_ HO_375001.out)) k_ hk_), (Kd.fresh' (Kd.N_lt (zN_ HO_375002.out)) k_ hk_), (Kd.fresh' (Kd.R_lt (zR_ HO_375003.out)) k_ hk_), (Kd.freshB (zb_ BK370.out) k_ hk_), (Kd.freshB (zb_ BK374.out) k_ hk_)⟩)) (below_size (zh2_ HB.out GE370.out GE374.out))); replace HO_375001 := Aside0.mk (Kd.N_below (zN_ HO_375001.out) hb); replace HO_375002 := Aside0.mk (Kd.N_below (zN_ HO_375002.out) hb); replace HO_375003 := Aside0.mk (Kd.R_below (zR_ HO_375003.out) hb); replace BK370 := Aside0.mk (blk_below (zb_ BK370.out) hb); replace BK374 := Aside0.mk (blk_below (zb_ BK374.out) hb); replace HB := Aside0.mk (below_step (zh2_ HB.out GE370.out GE374.out) hb); (try clear hb); (try clear hk); (try clear ho0); (try clear ho1); have hnb50 := NB374_370.out; have hnc50 := NB370_374.out; obtain ⟨hcz51_0, hcz51_1, hcz51_2, hcz51_3⟩ := zc4 BK374.out; obtain ⟨hfz51_0, hfz51_1, hfz51_2, hfz51_3⟩ := zz4 BK374.out; obtain ⟨Ao53, co53, eo53⟩ := Kd.V_slice HO391.out; subst eo53) | ((with_reducible refine gate_builtin (b := .append) (xs := #[.tmp 89, .tmp 91]) rfl ?_); at_builtin; refine Kd.N_append (Kd.slice 5 (Kd.int .u8)) (w0 := w) w.heap.size rfl (.tmp 89) (.tmp 91) 22 26 (.slice none 0 0) 24 rfl Tryd.underlying22 info26 rfl (by decide) (by omega) u375001 x375001_4 t389 [.slice Ao53 t389.length co53] (fun k_ => (w.heap.size ≤ k_) ∧ some k_ ≠ (u375002 : Value).ownBlock ∧ some k_ ≠ (u375003 : Value).ownBlock ∧ k_ ≠ gb370 ∧ k_ ≠ gb374) (fun k_ => ((fun k_ => (w.heap.size ≤ k_) ∧ some k_ ≠ (u375002 : Value).ownBlock ∧ some k_ ≠ (u375003 : Value).ownBlock ∧ k_ ≠ gb370 ∧ k_ ≠ gb374)) k_ ∧ some k_ ≠ (u375001 : Value).ownBlock) rfl rfl ?aP (fun _ hk => hk) ?aF ?aO ?aB ?aS ?aL ?_; (case aP => exact (Kd.FK_slice_mk (Kd.V_reads' (Kd.V_mono (ok' := (fun k_ => ((fun k_ => (w.heap.size ≤ k_) ∧ some k_ ≠ (u375002 : Value).ownBlock ∧ some k_ ≠ (u375003 : Value).ownBlock ∧ k_ ≠ gb370 ∧ k_ ≠ gb374)) k_ ∧ some k_ ≠ (u375001 : Value).ownBlock)) (HO391.out) (fun k_ hk => ⟨⟨hk.1, ⟨hk.2.2.1, ⟨hk.2.2.2.1, ⟨hk.2.2.2.2.1, hk.2.2.2.2.2⟩⟩⟩⟩, hk.2.1⟩))).2.1 (Kd.V_F (Kd.V_mono (ok' := (fun k_ => ((fun k_ => (w.heap.size ≤ k_) ∧ some k_ ≠ (u375002 : Value).ownBlock ∧ some k_ ≠ (u375003 : Value).ownBlock ∧ k_ ≠ gb370 ∧ k_ ≠ gb374)) k_ ∧ some k_ ≠ (u375001 : Value).ownBlock)) (HO391.out) (fun k_ hk => ⟨⟨hk.1, ⟨hk.2.2.1, ⟨hk.2.2.2.1, ⟨hk.2.2.2.2.1, hk.2.2.2.2.2⟩⟩⟩⟩, hk.2.1⟩))))); (case aB => exact (zh2_ HB.out GE370.out GE374.out)); (case aF => exact (fun k_ hk => ⟨(Nat.le_trans (below_size (zh2_ HB.out GE370.out GE374.out)) hk), Kd.fresh' (Kd.N_lt (zN_ HO_375002.out)) k_ hk, Kd.fresh' (Kd.R_lt (zR_ HO_375003.out)) k_ hk, Kd.freshB (zb_ BK370.out) k_ hk, Kd.freshB (zb_ BK374.out) k_ hk⟩)); (case aO => exact (zN_ HO_375001.out)); (case aS => exact (below_size (zh2_ HB.out GE370.out GE374.out))); (case aL => have := LMc43.out; omega); intro v397 w52 ho hb hg hat; rw [← Ny396.out] at ho; replace HO_6 := Aside0.mk (Kd.V_afterv (ok := (fun k_ => (w.heap.size ≤ k_) ∧ some k_ ≠ (u375002 : Value).ownBlock ∧ some k_ ≠ (u375003 : Value).ownBlock ∧ k_ ≠ gb370 ∧ k_ ≠ gb374)) (by (with_reducible repeat (first | apply Kd.V_alloc | apply Kd.V_drewN | apply Kd.V_drew)); exact Kd.V_mono HO_6.out (fun _ hk => ⟨⟨hk.1, ⟨hk.2.2.1, ⟨hk.2.2.2.1, ⟨hk.2.2.2.2.1, hk.2.2.2.2.2⟩⟩⟩⟩, hk.2.1⟩)) hg hat); replace HO_375002 := Aside0.mk (Kd.N_afterv (ok := (fun k_ => (w.heap.size ≤ k_) ∧ some k_ ≠ (u375003 : Value).ownBlock ∧ k_ ≠ gb370 ∧ k_ ≠ gb374)) (by (with_reducible repeat (first | apply Kd.N_alloc | apply Kd.N_drewN | apply Kd.N_drew)); exact Kd.N_mono HO_375002.out (fun _ hk => ⟨⟨hk.1, ⟨hk.2.2.1, ⟨hk.2.2.2.1, hk.2.2.2.2⟩⟩⟩, hk.2.1⟩)) hg hat); replace HO_375003 := Aside0.mk (Kd.R_over' (zR_ HO_375003.out) (Kd.N_typed (zN_ HO_375001.out)) (by decide) hg); replace BK370 := Aside0.mk (blk_grown (zb_ BK370.out) hg (Kd.N_ne HO_375001.out BK370.out (by decide))); replace BK374 := Aside0.mk (blk_grown (zb_ BK374.out) hg (Kd.N_ne HO_375001.out BK374.out (by decide))); replace HO391 := Aside0.mk (Kd.V_afterv (ok := (fun k_ => (w.heap.size ≤ k_) ∧ some k_ ≠ (u375002 : Value).ownBlock ∧ some k_ ≠ (u375003 : Value).ownBlock ∧ k_ ≠ gb370 ∧ k_ ≠ gb374)) (by (with_reducible repeat (first | apply Kd.V_alloc | apply Kd.V_drewN | apply Kd.V_drew)); exact Kd.V_mono HO391.out (fun _ hk => ⟨⟨hk.1, ⟨hk.2.2.1, ⟨hk.2.2.2.1, ⟨hk.2.2.2.2.1, hk.2.2.2.2.2⟩⟩⟩⟩, hk.2.1⟩)) hg hat); replace HO394 := Aside0.mk (Kd.V_afterv (ok := (fun k_ => (w.heap.size ≤ k_) ∧ some k_ ≠ (u375002 : Value).ownBlock ∧ some k_ ≠ (u375003 : Value).ownBlock ∧ k_ ≠ gb370 ∧ k_ ≠ gb374)) (by (with_reducible repeat (first | apply Kd.V_alloc | apply Kd.V_drewN | apply Kd.V_drew)); exact Kd.V_mono HO394.out (fun _ hk => ⟨⟨hk.1, ⟨hk.2.2.1, ⟨hk.2.2.2.1, ⟨hk.2.2.2.2.1, hk.2.2.2.2.2⟩⟩⟩⟩, hk.2.1⟩)) hg hat); replace HB := Aside0.mk (hb); have HO398 := Aside0.mk (ho); clear HO_375001 ho hb hg hat; obtain ⟨Ao54, co54, eo54⟩ := Kd.N_slice HO398.out; subst eo54; obtain ⟨hcz55_0, hcz55_1, hcz55_2, hcz55_3⟩ := zc4 BK374.out; obtain ⟨hfz55_0, hfz55_1, hfz55_2, hfz55_3⟩ := zz4 BK374.out; obtain ⟨Ao56, co56, eo56⟩ := Kd.V_slice HO394.out; subst eo56) | ((with_reducible refine gate_callee (f := 52) rfl ?_); refine goesL_ (some 98) rfl rfl Tryd.func52 (by kernel_rfl) rfl #[.slice Ao56 t392.length co56, .int .i64 512] rfl zl_ ?_; (with_reducible refine (ladingref06_entry.calls k4 _ _ t392 512 t399 t402 true _ ?side1 ?side2 A45.out).mono ?_); (case side1 => refine (Kd.V_reads' (e := 5) (base := w.heap.size) (ok := fun k_ => (((w.heap.size ≤ k_) ∧ (some k_ ≠ (u375002 : Value).ownBlock ∧ (some k_ ≠ (u375003 : Value).ownBlock ∧ (k_ ≠ gb370 ∧ k_ ≠ gb374)))) ∧ some k_ ≠ (.slice Ao54 y396.length co54 : Value).ownBlock)) (n := t392.length) (c := co56) ?_).2.2; exact (by (with_reducible repeat (first | apply Kd.V_alloc | apply Kd.V_drewN | apply Kd.V_drew)); exact (Kd.V_mono (Kd.V_far (p := ⟨gb374, 1, none⟩) (Kd.V_mono HO394.out (fun k_ hk => (⟨hk, hk.1.2.2.2.2⟩ : _ ∧ k_ ≠ gb374))) (fun _ hk => hk.2) (.slice Ao54 y396.length co54)) (fun _ h_ => h_.1)))); (case side2 => exact (Kd.V_reads' HO394.out).2.1); rintro e w57 ⟨v400, v403, rfl, ho0, ho1, hb⟩; refine ⟨_, rfl, ?_⟩; replace HO_6 := Aside0.mk (Kd.V_below (by (with_reducible repeat (first | apply Kd.V_alloc | apply Kd.V_drewN | apply Kd.V_drew)); exact (Kd.V_mono (Kd.V_far (p := ⟨gb374, 1, none⟩) (Kd.V_mono HO_6.out (fun k_ hk => (⟨hk, hk.1.2.2.2.2⟩ : _ ∧ k_ ≠ gb374))) (fun _ hk => hk.2) (.slice Ao54 y396.length co54)) (fun _ h_ => h_.1))) hb); replace HO391 := Aside0.mk (Kd.V_below (by (with_reducible repeat (first | apply Kd.V_alloc | apply Kd.V_drewN | apply Kd.V_drew)); exact (Kd.V_mono (Kd.V_far (p := ⟨gb374, 1, none⟩) (Kd.V_mono HO391.out (fun k_ hk => (⟨hk, hk.1.2.2.2.2⟩ : _ ∧ k_ ≠ gb374))) (fun _ hk => hk.2) (.slice Ao54 y396.length co54)) (fun _ h_ => h_.1))) hb); replace HO394 := Aside0.mk (Kd.V_below (by (with_reducible repeat (first | apply Kd.V_alloc | apply Kd.V_drewN | apply Kd.V_drew)); exact (Kd.V_mono (Kd.V_far (p := ⟨gb374, 1, none⟩) (Kd.V_mono HO394.out (fun k_ hk => (⟨hk, hk.1.2.2.2.2⟩ : _ ∧ k_ ≠ gb374))) (fun _ hk => hk.2) (.slice Ao54 y396.length co54)) (fun _ h_ => h_.1))) hb); have HO401 := Aside0.mk (Kd.V_lower (Kd.V_mono (ok' := fun k_ => (w.heap.size ≤ k_) ∧ some k_ ≠ (u375002 : Value).ownBlock ∧ some k_ ≠ (u375003 : Value).ownBlock ∧ some k_ ≠ (.slice Ao54 y396.length co54 : Value).ownBlock ∧ k_ ≠ gb370 ∧ k_ ≠ gb374) ho0 (fun k_ hk_ => ⟨(Nat.le_trans (below_size (zh2_ HB.out GE370.out GE374.out)) hk_), (Kd.fresh' (Kd.N_lt (by (with_reducible repeat (first | apply Kd.N_alloc | apply Kd.N_drewN | apply Kd.N_drew)); exact (Kd.N_mono (Kd.N_far (p := ⟨gb374, 1, none⟩) (Kd.N_mono HO_375002.out (fun k_ hk => (⟨hk, hk.1.2.2.2⟩ : _ ∧ k_ ≠ gb374))) (fun _ hk => hk.2) (.slice Ao54 y396.length co54)) (fun _ h_ => h_.1)))) k_ hk_), (Kd.fresh' (Kd.R_lt (by (with_reducible repeat (first | apply Kd.R_alloc | apply Kd.R_drewN | apply Kd.R_drew)); exact (Kd.R_mono (Kd.R_far (p := ⟨gb374, 1, none⟩) (Kd.R_types HO_375003.out BK374.out (by decide)) (fun _ hk => hk.2) (.slice Ao54 y396.length co54)) (fun _ h_ => h_.1)))) k_ hk_), (Kd.fresh' (Kd.N_lt (by (with_reducible repeat (first | apply Kd.N_alloc | apply Kd.N_drewN | apply Kd.N_drew)); exact (Kd.N_mono (Kd.N_far (p := ⟨gb374, 1, none⟩) (Kd.N_mono HO398.out (fun k_ hk => (⟨hk, hk.2.2.2.2⟩ : _ ∧ k_ ≠ gb374))) (fun _ hk => hk.2) (.slice Ao54 y396.length co54)) (fun _ h_ => h_.1)))) k_ hk_), (Kd.freshB (g := gb370) (o := .cells #[.bool x371000_4, .slice none 0 0, .slice none 0 0, .slice none 0 0] 25 (0, 0)) (zf_ NB370_374.out BK370.out) k_ hk_), (Kd.freshB (g := gb374) (o := .cells #[.bool ((rd l0 0) == 1), .slice Ao54 y396.length co54, u375002, u375003] 25 (0, 0)) (by (with_reducible repeat (first | refine blk_drewN ?_ _ | refine blk_drew ?_ | refine blk_alloc ?_ _)); refine blk_put (cs := #[.bool ((rd l0 0) == 1), u375001, u375002, u375003]) ?_ 1 _ (by first | rfl | (simp only [List.length_drop, List.length_take]; rfl)); (with_reducible repeat (first | refine blk_drewN ?_ _ | refine blk_drew ?_ | refine blk_alloc ?_ _)); exact BK374.out) k_ hk_)⟩)) (below_size (zh2_ HB.out GE370.out GE374.out))); have HO404 := Aside0.mk (Kd.V_lower (Kd.V_mono (ok' := fun k_ => (w.heap.size ≤ k_) ∧ some k_ ≠ (u375002 : Value).ownBlock ∧ some k_ ≠ (u375003 : Value).ownBlock ∧ some k_ ≠ (.slice Ao54 y396.length co54 : Value).ownBlock ∧ k_ ≠ gb370 ∧ k_ ≠ gb374) ho1 (fun k_ hk_ => ⟨(Nat.le_trans (below_size (zh2_ HB.out GE370.out GE374.out)) hk_), (Kd.fresh' (Kd.N_lt (by (with_reducible repeat (first | apply Kd.N_alloc | apply Kd.N_drewN | apply Kd.N_drew)); exact (Kd.N_mono (Kd.N_far (p := ⟨gb374, 1, none⟩) (Kd.N_mono HO_375002.out (fun k_ hk => (⟨hk, hk.1.2.2.2⟩ : _ ∧ k_ ≠ gb374))) (fun _ hk => hk.2) (.slice Ao54 y396.length co54)) (fun _ h_ => h_.1)))) k_ hk_), (Kd.fresh' (Kd.R_lt (by (with_reducible repeat (first | apply Kd.R_alloc | apply Kd.R_drewN | apply Kd.R_drew)); exact (Kd.R_mono (Kd.R_far (p := ⟨gb374, 1, none⟩) (Kd.R_types HO_375003.out BK374.out (by decide)) (fun _ hk => hk.2) (.slice Ao54 y396.length co54)) (fun _ h_ => h_.1)))) k_ hk_), (Kd.fresh' (Kd.N_lt (by (with_reducible repeat (first | apply Kd.N_alloc | apply Kd.N_drewN | apply Kd.N_drew)); exact (Kd.N_mono (Kd.N_far (p := ⟨gb374, 1, none⟩) (Kd.N_mono HO398.out (fun k_ hk => (⟨hk, hk.2.2.2.2⟩ : _ ∧ k_ ≠ gb374))) (fun _ hk => hk.2) (.slice Ao54 y396.length co54)) (fun _ h_ => h_.1)))) k_ hk_), (Kd.freshB (g := gb370) (o := .cells #[.bool x371000_4, .slice none 0 0, .slice none 0 0, .slice none 0 0] 25 (0, 0)) (zf_ NB370_374.out BK370.out) k_ hk_), (Kd.freshB (g := gb374) (o := .cells #[.bool ((rd l0 0) == 1), .slice Ao54 y396.length co54, u375002, u375003] 25 (0, 0)) (by (with_reducible repeat (first | refine blk_drewN ?_ _ | refine blk_drew ?_ | refine blk_alloc ?_ _)); refine blk_put (cs := #[.bool ((rd l0 0) == 1), u375001, u375002, u375003]) ?_ 1 _ (by first | rfl | (simp only [List.length_drop, List.length_take]; rfl)); (with_reducible repeat (first | refine blk_drewN ?_ _ | refine blk_drew ?_ | refine blk_alloc ?_ _)); exact BK374.out) k_ hk_)⟩)) (below_size (zh2_ HB.out GE370.out GE374.out))); replace HO_375002 := Aside0.mk (Kd.N_below (by (with_reducible repeat (first | apply Kd.N_alloc | apply Kd.N_drewN | apply Kd.N_drew)); exact (Kd.N_mono (Kd.N_far (p := ⟨gb374, 1, none⟩) (Kd.N_mono HO_375002.out (fun k_ hk => (⟨hk, hk.1.2.2.2⟩ : _ ∧ k_ ≠ gb374))) (fun _ hk => hk.2) (.slice Ao54 y396.length co54)) (fun _ h_ => h_.1))) hb); replace HO_375003 := Aside0.mk (Kd.R_below (by (with_reducible repeat (first | apply Kd.R_alloc | apply Kd.R_drewN | apply Kd.R_drew)); exact (Kd.R_mono (Kd.R_far (p := ⟨gb374, 1, none⟩) (Kd.R_types HO_375003.out BK374.out (by decide)) (fun _ hk => hk.2) (.slice Ao54 y396.length co54)) (fun _ h_ => h_.1))) hb); replace HO398 := Aside0.mk (Kd.N_below (by (with_reducible repeat (first | apply Kd.N_alloc | apply Kd.N_drewN | apply Kd.N_drew)); exact (Kd.N_mono (Kd.N_far (p := ⟨gb374, 1, none⟩) (Kd.N_mono HO398.out (fun k_ hk => (⟨hk, hk.2.2.2.2⟩ : _ ∧ k_ ≠ gb374))) (fun _ hk => hk.2) (.slice Ao54 y396.length co54)) (fun _ h_ => h_.1))) hb); replace BK370 := Aside0.mk (blk_below (g := gb370) (o := .cells #[.bool x371000_4, .slice none 0 0, .slice none 0 0, .slice none 0 0] 25 (0, 0)) (zf_ NB370_374.out BK370.out) hb); replace BK374 := Aside0.mk (blk_below (g := gb374) (o := .cells #[.bool ((rd l0 0) == 1), .slice Ao54 y396.length co54, u375002, u375003] 25 (0, 0)) (by (with_reducible repeat (first | refine blk_drewN ?_ _ | refine blk_drew ?_ | refine blk_alloc ?_ _)); refine blk_put (cs := #[.bool ((rd l0 0) == 1), u375001, u375002, u375003]) ?_ 1 _ (by first | rfl | (simp only [List.length_drop, List.length_take]; rfl)); (with_reducible repeat (first | refine blk_drewN ?_ _ | refine blk_drew ?_ | refine blk_alloc ?_ _)); exact BK374.out) hb); replace HB := Aside0.mk (below_step (zh2_ HB.out GE370.out GE374.out) hb); (try clear hb); (try clear hk); (try clear ho0); (try clear ho1); obtain ⟨hcz58_0, hcz58_1, hcz58_2, hcz58_3⟩ := zc4 BK374.out; obtain ⟨hfz58_0, hfz58_1, hfz58_2, hfz58_3⟩ := zz4 BK374.out; obtain ⟨Ao60, co60, eo60⟩ := Kd.V_slice HO401.out; subst eo60) | ((with_reducible refine gate_builtin (b := .append) (xs := #[.tmp 106, .tmp 108]) rfl ?_); at_builtin; refine Kd.N_append (Kd.slice 5 (Kd.int .u8)) (w0 := w) w.heap.size rfl (.tmp 106) (.tmp 108) 22 26 (.slice none 0 0) 24 rfl Tryd.underlying22 info26 rfl (by decide) (by omega) u375002 x375002_4 t399 [.slice Ao60 t399.length co60] (fun k_ => (w.heap.size ≤ k_) ∧ some k_ ≠ (u375003 : Value).ownBlock ∧ some k_ ≠ (.slice Ao54 y396.length co54 : Value).ownBlock ∧ k_ ≠ gb370 ∧ k_ ≠ gb374) (fun k_ => ((fun k_ => (w.heap.size ≤ k_) ∧ some k_ ≠ (u375003 : Value).ownBlock ∧ some k_ ≠ (.slice Ao54 y396.length co54 : Value).ownBlock ∧ k_ ≠ gb370 ∧ k_ ≠ gb374)) k_ ∧ some k_ ≠ (u375002 : Value).ownBlock) rfl rfl ?aP (fun _ hk => hk) ?aF ?aO ?aB ?aS ?aL ?_; (case aP => exact (Kd.FK_slice_mk (Kd.V_reads' (Kd.V_mono (ok' := (fun k_ => ((fun k_ => (w.heap.size ≤ k_) ∧ some k_ ≠ (u375003 : Value).ownBlock ∧ some k_ ≠ (.slice Ao54 y396.length co54 : Value).ownBlock ∧ k_ ≠ gb370 ∧ k_ ≠ gb374)) k_ ∧ some k_ ≠ (u375002 : Value).ownBlock)) (HO401.out) (fun k_ hk => ⟨⟨hk.1, ⟨hk.2.2.1, ⟨hk.2.2.2.1, ⟨hk.2.2.2.2.1, hk.2.2.2.2.2⟩⟩⟩⟩, hk.2.1⟩))).2.1 (Kd.V_F (Kd.V_mono (ok' := (fun k_ => ((fun k_ => (w.heap.size ≤ k_) ∧ some k_ ≠ (u375003 : Value).ownBlock ∧ some k_ ≠ (.slice Ao54 y396.length co54 : Value).ownBlock ∧ k_ ≠ gb370 ∧ k_ ≠ gb374)) k_ ∧ some k_ ≠ (u375002 : Value).ownBlock)) (HO401.out) (fun k_ hk => ⟨⟨hk.1, ⟨hk.2.2.1, ⟨hk.2.2.2.1, ⟨hk.2.2.2.2.1, hk.2.2.2.2.2⟩⟩⟩⟩, hk.2.1⟩))))); (case aB => exact (zh2_ HB.out GE370.out GE374.out)); (case aF => exact (fun k_ hk => ⟨(Nat.le_trans (below_size (zh2_ HB.out GE370.out GE374.out)) hk), Kd.fresh' (Kd.R_lt (zR_ HO_375003.out)) k_ hk, Kd.fresh' (Kd.N_lt (zN_ HO398.out)) k_ hk, Kd.freshB (zb_ BK370.out) k_ hk, Kd.freshB (zb_ BK374.out) k_ hk⟩)); (case aO => exact (by (with_reducible repeat (first | apply Kd.N_alloc | apply Kd.N_drewN | apply Kd.N_drew)); exact Kd.N_mono HO_375002.out (fun _ hk => ⟨hk.1.1, ⟨hk.1.2.1, ⟨hk.2, ⟨hk.1.2.2.1, hk.1.2.2.2⟩⟩⟩⟩))); (case aS => exact (below_size (zh2_ HB.out GE370.out GE374.out))); (case aL => have := LMc47.out; omega); intro v407 w59 ho hb hg hat; rw [← Ny406.out] at ho; replace HO_6 := Aside0.mk (Kd.V_afterv (ok := (fun k_ => (w.heap.size ≤ k_) ∧ some k_ ≠ (u375003 : Value).ownBlock ∧ some k_ ≠ (.slice Ao54 y396.length co54 : Value).ownBlock ∧ k_ ≠ gb370 ∧ k_ ≠ gb374)) (by (with_reducible repeat (first | apply Kd.V_alloc | apply Kd.V_drewN | apply Kd.V_drew)); exact Kd.V_mono HO_6.out (fun _ hk => ⟨⟨hk.1.1, ⟨hk.1.2.2.1, ⟨hk.2, ⟨hk.1.2.2.2.1, hk.1.2.2.2.2⟩⟩⟩⟩, hk.1.2.1⟩)) hg hat); replace HO_375003 := Aside0.mk (Kd.R_over' (zR_ HO_375003.out) (Kd.N_typed (zN_ HO_375002.out)) (by decide) hg); replace BK370 := Aside0.mk (blk_grown (zb_ BK370.out) hg (Kd.N_ne HO_375002.out BK370.out (by decide))); replace BK374 := Aside0.mk (blk_grown (zb_ BK374.out) hg (Kd.N_ne HO_375002.out BK374.out (by decide))); replace HO391 := Aside0.mk (Kd.V_afterv (ok := (fun k_ => (w.heap.size ≤ k_) ∧ some k_ ≠ (u375003 : Value).ownBlock ∧ some k_ ≠ (.slice Ao54 y396.length co54 : Value).ownBlock ∧ k_ ≠ gb370 ∧ k_ ≠ gb374)) (by (with_reducible repeat (first | apply Kd.V_alloc | apply Kd.V_drewN | apply Kd.V_drew)); exact Kd.V_mono HO391.out (fun _ hk => ⟨⟨hk.1.1, ⟨hk.1.2.2.1, ⟨hk.2, ⟨hk.1.2.2.2.1, hk.1.2.2.2.2⟩⟩⟩⟩, hk.1.2.1⟩)) hg hat); replace HO394 := Aside0.mk (Kd.V_afterv (ok := (fun k_ => (w.heap.size ≤ k_) ∧ some k_ ≠ (u375003 : Value).ownBlock ∧ some k_ ≠ (.slice Ao54 y396.length co54 : Value).ownBlock ∧ k_ ≠ gb370 ∧ k_ ≠ gb374)) (by (with_reducible repeat (first | apply Kd.V_alloc | apply Kd.V_drewN | apply Kd.V_drew)); exact Kd.V_mono HO394.out (fun _ hk => ⟨⟨hk.1.1, ⟨hk.1.2.2.1, ⟨hk.2, ⟨hk.1.2.2.2.1, hk.1.2.2.2.2⟩⟩⟩⟩, hk.1.2.1⟩)) hg hat); replace HO398 := Aside0.mk (Kd.N_afterv (ok := (fun k_ => (w.heap.size ≤ k_) ∧ some k_ ≠ (u375003 : Value).ownBlock ∧ k_ ≠ gb370 ∧ k_ ≠ gb374)) (by (with_reducible repeat (first | apply Kd.N_alloc | apply Kd.N_drewN | apply Kd.N_drew)); exact Kd.N_mono HO398.out (fun _ hk => ⟨⟨hk.1, ⟨hk.2.2.1, ⟨hk.2.2.2.1, hk.2.2.2.2⟩⟩⟩, hk.2.1⟩)) hg hat); replace HO401 := Aside0.mk (Kd.V_afterv (ok := (fun k_ => (w.heap.size ≤ k_) ∧ some k_ ≠ (u375003 : Value).ownBlock ∧ some k_ ≠ (.slice Ao54 y396.length co54 : Value).ownBlock ∧ k_ ≠ gb370 ∧ k_ ≠ gb374)) (by (with_reducible repeat (first | apply Kd.V_alloc | apply Kd.V_drewN | apply Kd.V_drew)); exact Kd.V_mono HO401.out (fun _ hk => ⟨⟨hk.1, ⟨hk.2.2.1, ⟨hk.2.2.2.1, ⟨hk.2.2.2.2.1, hk.2.2.2.2.2⟩⟩⟩⟩, hk.2.1⟩)) hg hat); replace HO404 := Aside0.mk (Kd.V_afterv (ok := (fun k_ => (w.heap.size ≤ k_) ∧ some k_ ≠ (u375003 : Value).ownBlock ∧ some k_ ≠ (.slice Ao54 y396.length co54 : Value).ownBlock ∧ k_ ≠ gb370 ∧ k_ ≠ gb374)) (by (with_reducible repeat (first | apply Kd.V_alloc | apply Kd.V_drewN | apply Kd.V_drew)); exact Kd.V_mono HO404.out (fun _ hk => ⟨⟨hk.1, ⟨hk.2.2.1, ⟨hk.2.2.2.1, ⟨hk.2.2.2.2.1, hk.2.2.2.2.2⟩⟩⟩⟩, hk.2.1⟩)) hg hat); replace HB := Aside0.mk (hb); have HO408 := Aside0.mk (ho); clear HO_375002 ho hb hg hat; obtain ⟨Ao61, co61, eo61⟩ := Kd.N_slice HO408.out; subst eo61; obtain ⟨hcz62_0, hcz62_1, hcz62_2, hcz62_3⟩ := zc4 BK374.out; obtain ⟨hfz62_0, hfz62_1, hfz62_2, hfz62_3⟩ := zz4 BK374.out))
                   go_roundg k4
                   case measure => have := HJ1.out; have := HJ11.out; have := HJ21.out; have := HK4.out; omega
                   case rel => exact ⟨(t402), (IntKind.u64.wrap (x11_4 + 1)), (x371000_4), (y396), (y406), (x375003_4), (.slice Ao54 y396.length co54), (.slice Ao61 y406.length co61), (u375003), (by first | rfl | (simp; done) | (simp [*]; done) | (simp only [i64_w]; done)), H', ⟨by have := HJ1.out; have := HJ11.out; have := HJ21.out; have := HK4.out; omega⟩, ⟨by (with_reducible repeat (first | apply Kd.V_alloc | apply Kd.V_drewN | apply Kd.V_drew)); exact Kd.V_mono (Kd.V_far (p := ⟨gb374, 2, none⟩) (Kd.V_mono HO404.out (fun k_ hk => (⟨hk, hk.1.2.2.2.2⟩ : _ ∧ k_ ≠ gb374))) (fun _ hk => hk.2) (.slice Ao61 y406.length co61)) (fun _ hk => ⟨hk.1.1.1, ⟨hk.1.1.2.2.1, ⟨hk.1.2, ⟨hk.1.1.2.1, ⟨hk.1.1.2.2.2.1, hk.1.1.2.2.2.2⟩⟩⟩⟩⟩)⟩, ⟨by (with_reducible repeat (first | apply Kd.N_alloc | apply Kd.N_drewN | apply Kd.N_drew)); exact Kd.N_mono (Kd.N_far (p := ⟨gb374, 2, none⟩) (Kd.N_mono HO398.out (fun k_ hk => (⟨hk, hk.1.2.2.2⟩ : _ ∧ k_ ≠ gb374))) (fun _ hk => hk.2) (.slice Ao61 y406.length co61)) (fun _ hk => ⟨hk.1.1.1, ⟨hk.1.2, ⟨hk.1.1.2.1, ⟨hk.1.1.2.2.1, hk.1.1.2.2.2⟩⟩⟩⟩)⟩, ⟨by (with_reducible repeat (first | apply Kd.N_alloc | apply Kd.N_drewN | apply Kd.N_drew)); exact Kd.N_mono (Kd.N_far (p := ⟨gb374, 2, none⟩) (Kd.N_mono HO408.out (fun k_ hk => (⟨hk, hk.2.2.2.2⟩ : _ ∧ k_ ≠ gb374))) (fun _ hk => hk.2) (.slice Ao61 y406.length co61)) (fun _ hk => ⟨hk.1.1, ⟨hk.1.2.2.1, ⟨hk.1.2.1, ⟨hk.1.2.2.2.1, hk.1.2.2.2.2⟩⟩⟩⟩)⟩, ⟨by (with_reducible repeat (first | apply Kd.R_alloc | apply Kd.R_drewN | apply Kd.R_drew)); exact Kd.R_mono (Kd.R_far (p := ⟨gb374, 2, none⟩) (Kd.R_types HO_375003.out BK374.out (by decide)) (fun _ hk => hk.2) (.slice Ao61 y406.length co61)) (fun _ hk => hk.1)⟩, ⟨by (with_reducible repeat (first | refine blk_drewN ?_ _ | refine blk_drew ?_ | refine blk_alloc ?_ _)); refine blk_far ?_ NB370_374.out _; (with_reducible repeat (first | refine blk_drewN ?_ _ | refine blk_drew ?_ | refine blk_alloc ?_ _)); exact BK370.out⟩, ⟨by (with_reducible repeat (first | refine blk_drewN ?_ _ | refine blk_drew ?_ | refine blk_alloc ?_ _)); refine blk_put (cs := #[.bool ((rd l0 0) == 1), .slice Ao54 y396.length co54, u375002, u375003]) ?_ 2 _ (by first | rfl | (simp only [List.length_drop, List.length_take]; rfl)); (with_reducible repeat (first | refine blk_drewN ?_ _ | refine blk_drew ?_ | refine blk_alloc ?_ _)); exact BK374.out⟩, ⟨by exact zh2_ HB.out GE370.out GE374.out⟩⟩
                  ·rw [if_neg c47] at H
                   cases H
                 ·replace c46 := Bool.eq_false_iff.mpr c46
                  subst c46
                  replace H := (if_neg (show ¬ (false = true) by decide)).symm.trans H
                  simp only [Option.some.injEq, Prod.mk.injEq] at H
                  obtain ⟨rfl, rfl, rfl, rfl, rfl⟩ := H
                  obtain ⟨Ao63, co63, eo63⟩ := Kd.V_slice HO_6.out
                  subst eo63
                  go_wp2_with (first | ((with_reducible refine gate_callee (f := 52) rfl ?_); refine goesL_ (some 81) rfl rfl Tryd.func52 (by kernel_rfl) rfl #[.slice Ao63 x6_4.length co63, .int .i64 256] rfl zl_ ?_; (with_reducible refine (ladingref06_entry.calls k4 _ _ x6_4 256 t389 t392 true _ ?side1 ?side2 A41.out).mono ?_); (case side1 => repeat (first | exact (Kd.V_reads' HO_6.out).2.2 | (with_reducible refine Kd.C_alloc ?_ _) | (with_reducible refine Kd.C_drewN ?_ _) | (with_reducible refine Kd.C_drew ?_))); (case side2 => exact (Kd.V_reads' HO_6.out).2.1); rintro e w64 ⟨v390, v393, rfl, ho0, ho1, hb⟩; refine ⟨_, rfl, ?_⟩; replace HO_6 := Aside0.mk (Kd.V_below (zV_ HO_6.out) hb); have HO391 := Aside0.mk (Kd.V_lower (Kd.V_mono (ok' := fun k_ => (w.heap.size ≤ k_) ∧ some k_ ≠ (u375001 : Value).ownBlock ∧ some k_ ≠ (u375002 : Value).ownBlock ∧ some k_ ≠ (u375003 : Value).ownBlock ∧ k_ ≠ gb370 ∧ k_ ≠ gb374) ho0 (fun k_ hk_ => ⟨(Nat.le_trans (below_size (zh2_ HB.out GE370.out GE374.out)) hk_), (Kd.fresh' (Kd.N_lt (zN_ HO_375001.out)) k_ hk_), (Kd.fresh' (Kd.N_lt (zN_ HO_375002.out)) k_ hk_), (Kd.fresh' (Kd.R_lt (zR_ HO_375003.out)) k_ hk_), (Kd.freshB (zb_ BK370.out) k_ hk_), (Kd.freshB (zb_ BK374.out) k_ hk_)⟩)) (below_size (zh2_ HB.out GE370.out GE374.out))); have HO394 := Aside0.mk (Kd.V_lower (Kd.V_mono (ok' := fun k_ => (w.heap.size ≤ k_) ∧ some k_ ≠ (u375001 : Value).ownBlock ∧ some k_ ≠ (u375002 : Value).ownBlock ∧ some k_ ≠ (u375003 : Value).ownBlock ∧ k_ ≠ gb370 ∧ k_ ≠ gb374) ho1 (fun k_ hk_ => ⟨(Nat.le_trans (below_size (zh2_ HB.out GE370.out GE374.out)) hk_), (Kd.fresh' (Kd.N_lt (zN_ HO_375001.out)) k_ hk_), (Kd.fresh' (Kd.N_lt (zN_ HO_375002.out)) k_ hk_), (Kd.fresh' (Kd.R_lt (zR_ HO_375003.out)) k_ hk_), (Kd.freshB (zb_ BK370.out) k_ hk_), (Kd.freshB (zb_ BK374.out) k_ hk_)⟩)) (below_size (zh2_ HB.out GE370.out GE374.out))); replace HO_375001 := Aside0.mk (Kd.N_below (zN_ HO_375001.out) hb); replace HO_375002 := Aside0.mk (Kd.N_below (zN_ HO_375002.out) hb); replace HO_375003 := Aside0.mk (Kd.R_below (zR_ HO_375003.out) hb); replace BK370 := Aside0.mk (blk_below (zb_ BK370.out) hb); replace BK374 := Aside0.mk (blk_below (zb_ BK374.out) hb); replace HB := Aside0.mk (below_step (zh2_ HB.out GE370.out GE374.out) hb); (try clear hb); (try clear hk); (try clear ho0); (try clear ho1); have hnb65 := NB374_370.out; have hnc65 := NB370_374.out; obtain ⟨hcz66_0, hcz66_1, hcz66_2, hcz66_3⟩ := zc4 BK374.out; obtain ⟨hfz66_0, hfz66_1, hfz66_2, hfz66_3⟩ := zz4 BK374.out; obtain ⟨Ao68, co68, eo68⟩ := Kd.V_slice HO391.out; subst eo68) | ((with_reducible refine gate_builtin (b := .append) (xs := #[.tmp 89, .tmp 91]) rfl ?_); at_builtin; refine Kd.N_append (Kd.slice 5 (Kd.int .u8)) (w0 := w) w.heap.size rfl (.tmp 89) (.tmp 91) 22 26 (.slice none 0 0) 24 rfl Tryd.underlying22 info26 rfl (by decide) (by omega) u375001 x375001_4 t389 [.slice Ao68 t389.length co68] (fun k_ => (w.heap.size ≤ k_) ∧ some k_ ≠ (u375002 : Value).ownBlock ∧ some k_ ≠ (u375003 : Value).ownBlock ∧ k_ ≠ gb370 ∧ k_ ≠ gb374) (fun k_ => ((fun k_ => (w.heap.size ≤ k_) ∧ some k_ ≠ (u375002 : Value).ownBlock ∧ some k_ ≠ (u375003 : Value).ownBlock ∧ k_ ≠ gb370 ∧ k_ ≠ gb374)) k_ ∧ some k_ ≠ (u375001 : Value).ownBlock) rfl rfl ?aP (fun _ hk => hk) ?aF ?aO ?aB ?aS ?aL ?_; (case aP => exact (Kd.FK_slice_mk (Kd.V_reads' (Kd.V_mono (ok' := (fun k_ => ((fun k_ => (w.heap.size ≤ k_) ∧ some k_ ≠ (u375002 : Value).ownBlock ∧ some k_ ≠ (u375003 : Value).ownBlock ∧ k_ ≠ gb370 ∧ k_ ≠ gb374)) k_ ∧ some k_ ≠ (u375001 : Value).ownBlock)) (HO391.out) (fun k_ hk => ⟨⟨hk.1, ⟨hk.2.2.1, ⟨hk.2.2.2.1, ⟨hk.2.2.2.2.1, hk.2.2.2.2.2⟩⟩⟩⟩, hk.2.1⟩))).2.1 (Kd.V_F (Kd.V_mono (ok' := (fun k_ => ((fun k_ => (w.heap.size ≤ k_) ∧ some k_ ≠ (u375002 : Value).ownBlock ∧ some k_ ≠ (u375003 : Value).ownBlock ∧ k_ ≠ gb370 ∧ k_ ≠ gb374)) k_ ∧ some k_ ≠ (u375001 : Value).ownBlock)) (HO391.out) (fun k_ hk => ⟨⟨hk.1, ⟨hk.2.2.1, ⟨hk.2.2.2.1, ⟨hk.2.2.2.2.1, hk.2.2.2.2.2⟩⟩⟩⟩, hk.2.1⟩))))); (case aB => exact (zh2_ HB.out GE370.out GE374.out)); (case aF => exact (fun k_ hk => ⟨(Nat.le_trans (below_size (zh2_ HB.out GE370.out GE374.out)) hk), Kd.fresh' (Kd.N_lt (zN_ HO_375002.out)) k_ hk, Kd.fresh' (Kd.R_lt (zR_ HO_375003.out)) k_ hk, Kd.freshB (zb_ BK370.out) k_ hk, Kd.freshB (zb_ BK374.out) k_ hk⟩)); (case aO => exact (zN_ HO_375001.out)); (case aS => exact (below_size (zh2_ HB.out GE370.out GE374.out))); (case aL => have := LMc43.out; omega); intro v397 w67 ho hb hg hat; rw [← Ny396.out] at ho; replace HO_6 := Aside0.mk (Kd.V_afterv (ok := (fun k_ => (w.heap.size ≤ k_) ∧ some k_ ≠ (u375002 : Value).ownBlock ∧ some k_ ≠ (u375003 : Value).ownBlock ∧ k_ ≠ gb370 ∧ k_ ≠ gb374)) (by (with_reducible repeat (first | apply Kd.V_alloc | apply Kd.V_drewN | apply Kd.V_drew)); exact Kd.V_mono HO_6.out (fun _ hk => ⟨⟨hk.1, ⟨hk.2.2.1, ⟨hk.2.2.2.1, ⟨hk.2.2.2.2.1, hk.2.2.2.2.2⟩⟩⟩⟩, hk.2.1⟩)) hg hat); replace HO_375002 := Aside0.mk (Kd.N_afterv (ok := (fun k_ => (w.heap.size ≤ k_) ∧ some k_ ≠ (u375003 : Value).ownBlock ∧ k_ ≠ gb370 ∧ k_ ≠ gb374)) (by (with_reducible repeat (first | apply Kd.N_alloc | apply Kd.N_drewN | apply Kd.N_drew)); exact Kd.N_mono HO_375002.out (fun _ hk => ⟨⟨hk.1, ⟨hk.2.2.1, ⟨hk.2.2.2.1, hk.2.2.2.2⟩⟩⟩, hk.2.1⟩)) hg hat); replace HO_375003 := Aside0.mk (Kd.R_over' (zR_ HO_375003.out) (Kd.N_typed (zN_ HO_375001.out)) (by decide) hg); replace BK370 := Aside0.mk (blk_grown (zb_ BK370.out) hg (Kd.N_ne HO_375001.out BK370.out (by decide))); replace BK374 := Aside0.mk (blk_grown (zb_ BK374.out) hg (Kd.N_ne HO_375001.out BK374.out (by decide))); replace HO391 := Aside0.mk (Kd.V_afterv (ok := (fun k_ => (w.heap.size ≤ k_) ∧ some k_ ≠ (u375002 : Value).ownBlock ∧ some k_ ≠ (u375003 : Value).ownBlock ∧ k_ ≠ gb370 ∧ k_ ≠ gb374)) (by (with_reducible repeat (first | apply Kd.V_alloc | apply Kd.V_drewN | apply Kd.V_drew)); exact Kd.V_mono HO391.out (fun _ hk => ⟨⟨hk.1, ⟨hk.2.2.1, ⟨hk.2.2.2.1, ⟨hk.2.2.2.2.1, hk.2.2.2.2.2⟩⟩⟩⟩, hk.2.1⟩)) hg hat); replace HO394 := Aside0.mk (Kd.V_afterv (ok := (fun k_ => (w.heap.size ≤ k_) ∧ some k_ ≠ (u375002 : Value).ownBlock ∧ some k_ ≠ (u375003 : Value).ownBlock ∧ k_ ≠ gb370 ∧ k_ ≠ gb374)) (by (with_reducible repeat (first | apply Kd.V_alloc | apply Kd.V_drewN | apply Kd.V_drew)); exact Kd.V_mono HO394.out (fun _ hk => ⟨⟨hk.1, ⟨hk.2.2.1, ⟨hk.2.2.2.1, ⟨hk.2.2.2.2.1, hk.2.2.2.2.2⟩⟩⟩⟩, hk.2.1⟩)) hg hat); replace HB := Aside0.mk (hb); have HO398 := Aside0.mk (ho); clear HO_375001 ho hb hg hat; obtain ⟨Ao69, co69, eo69⟩ := Kd.N_slice HO398.out; subst eo69; obtain ⟨hcz70_0, hcz70_1, hcz70_2, hcz70_3⟩ := zc4 BK374.out; obtain ⟨hfz70_0, hfz70_1, hfz70_2, hfz70_3⟩ := zz4 BK374.out; obtain ⟨Ao71, co71, eo71⟩ := Kd.V_slice HO394.out; subst eo71) | ((with_reducible refine gate_callee (f := 52) rfl ?_); refine goesL_ (some 98) rfl rfl Tryd.func52 (by kernel_rfl) rfl #[.slice Ao71 t392.length co71, .int .i64 512] rfl zl_ ?_; (with_reducible refine (ladingref06_entry.calls k4 _ _ t392 512 t399 t402 false _ ?side1 ?side2 A45.out).mono ?_); (case side1 => refine (Kd.V_reads' (e := 5) (base := w.heap.size) (ok := fun k_ => (((w.heap.size ≤ k_) ∧ (some k_ ≠ (u375002 : Value).ownBlock ∧ (some k_ ≠ (u375003 : Value).ownBlock ∧ (k_ ≠ gb370 ∧ k_ ≠ gb374)))) ∧ some k_ ≠ (.slice Ao69 y396.length co69 : Value).ownBlock)) (n := t392.length) (c := co71) ?_).2.2; exact (by (with_reducible repeat (first | apply Kd.V_alloc | apply Kd.V_drewN | apply Kd.V_drew)); exact (Kd.V_mono (Kd.V_far (p := ⟨gb374, 1, none⟩) (Kd.V_mono HO394.out (fun k_ hk => (⟨hk, hk.1.2.2.2.2⟩ : _ ∧ k_ ≠ gb374))) (fun _ hk => hk.2) (.slice Ao69 y396.length co69)) (fun _ h_ => h_.1)))); (case side2 => exact (Kd.V_reads' HO394.out).2.1); rintro e w72 ⟨v400, v403, rfl, ho0, ho1, hb⟩; refine ⟨_, rfl, ?_⟩; replace HO_6 := Aside0.mk (Kd.V_below (by (with_reducible repeat (first | apply Kd.V_alloc | apply Kd.V_drewN | apply Kd.V_drew)); exact (Kd.V_mono (Kd.V_far (p := ⟨gb374, 1, none⟩) (Kd.V_mono HO_6.out (fun k_ hk => (⟨hk, hk.1.2.2.2.2⟩ : _ ∧ k_ ≠ gb374))) (fun _ hk => hk.2) (.slice Ao69 y396.length co69)) (fun _ h_ => h_.1))) hb); replace HO391 := Aside0.mk (Kd.V_below (by (with_reducible repeat (first | apply Kd.V_alloc | apply Kd.V_drewN | apply Kd.V_drew)); exact (Kd.V_mono (Kd.V_far (p := ⟨gb374, 1, none⟩) (Kd.V_mono HO391.out (fun k_ hk => (⟨hk, hk.1.2.2.2.2⟩ : _ ∧ k_ ≠ gb374))) (fun _ hk => hk.2) (.slice Ao69 y396.length co69)) (fun _ h_ => h_.1))) hb); replace HO394 := Aside0.mk (Kd.V_below (by (with_reducible repeat (first | apply Kd.V_alloc | apply Kd.V_drewN | apply Kd.V_drew)); exact (Kd.V_mono (Kd.V_far (p := ⟨gb374, 1, none⟩) (Kd.V_mono HO394.out (fun k_ hk => (⟨hk, hk.1.2.2.2.2⟩ : _ ∧ k_ ≠ gb374))) (fun _ hk => hk.2) (.slice Ao69 y396.length co69)) (fun _ h_ => h_.1))) hb); have HO401 := Aside0.mk (Kd.V_lower (Kd.V_mono (ok' := fun k_ => (w.heap.size ≤ k_) ∧ some k_ ≠ (u375002 : Value).ownBlock ∧ some k_ ≠ (u375003 : Value).ownBlock ∧ some k_ ≠ (.slice Ao69 y396.length co69 : Value).ownBlock ∧ k_ ≠ gb370 ∧ k_ ≠ gb374) ho0 (fun k_ hk_ => ⟨(Nat.le_trans (below_size (zh2_ HB.out GE370.out GE374.out)) hk_), (Kd.fresh' (Kd.N_lt (by (with_reducible repeat (first | apply Kd.N_alloc | apply Kd.N_drewN | apply Kd.N_drew)); exact (Kd.N_mono (Kd.N_far (p := ⟨gb374, 1, none⟩) (Kd.N_mono HO_375002.out (fun k_ hk => (⟨hk, hk.1.2.2.2⟩ : _ ∧ k_ ≠ gb374))) (fun _ hk => hk.2) (.slice Ao69 y396.length co69)) (fun _ h_ => h_.1)))) k_ hk_), (Kd.fresh' (Kd.R_lt (by (with_reducible repeat (first | apply Kd.R_alloc | apply Kd.R_drewN | apply Kd.R_drew)); exact (Kd.R_mono (Kd.R_far (p := ⟨gb374, 1, none⟩) (Kd.R_types HO_375003.out BK374.out (by decide)) (fun _ hk => hk.2) (.slice Ao69 y396.length co69)) (fun _ h_ => h_.1)))) k_ hk_), (Kd.fresh' (Kd.N_lt (by (with_reducible repeat (first | apply Kd.N_alloc | apply Kd.N_drewN | apply Kd.N_drew)); exact (Kd.N_mono (Kd.N_far (p := ⟨gb374, 1, none⟩) (Kd.N_mono HO398.out (fun k_ hk => (⟨hk, hk.2.2.2.2⟩ : _ ∧ k_ ≠ gb374))) (fun _ hk => hk.2) (.slice Ao69 y396.length co69)) (fun _ h_ => h_.1)))) k_ hk_), (Kd.freshB (g := gb370) (o := .cells #[.bool x371000_4, .slice none 0 0, .slice none 0 0, .slice none 0 0] 25 (0, 0)) (zf_ NB370_374.out BK370.out) k_ hk_), (Kd.freshB (g := gb374) (o := .cells #[.bool ((rd l0 0) == 1), .slice Ao69 y396.length co69, u375002, u375003] 25 (0, 0)) (by (with_reducible repeat (first | refine blk_drewN ?_ _ | refine blk_drew ?_ | refine blk_alloc ?_ _)); refine blk_put (cs := #[.bool ((rd l0 0) == 1), u375001, u375002, u375003]) ?_ 1 _ (by first | rfl | (simp only [List.length_drop, List.length_take]; rfl)); (with_reducible repeat (first | refine blk_drewN ?_ _ | refine blk_drew ?_ | refine blk_alloc ?_ _)); exact BK374.out) k_ hk_)⟩)) (below_size (zh2_ HB.out GE370.out GE374.out))); have HO404 := Aside0.mk (Kd.V_lower (Kd.V_mono (ok' := fun k_ => (w.heap.size ≤ k_) ∧ some k_ ≠ (u375002 : Value).ownBlock ∧ some k_ ≠ (u375003 : Value).ownBlock ∧ some k_ ≠ (.slice Ao69 y396.length co69 : Value).ownBlock ∧ k_ ≠ gb370 ∧ k_ ≠ gb374) ho1 (fun k_ hk_ => ⟨(Nat.le_trans (below_size (zh2_ HB.out GE370.out GE374.out)) hk_), (Kd.fresh' (Kd.N_lt (by (with_reducible repeat (first | apply Kd.N_alloc | apply Kd.N_drewN | apply Kd.N_drew)); exact (Kd.N_mono (Kd.N_far (p := ⟨gb374, 1, none⟩) (Kd.N_mono HO_375002.out (fun k_ hk => (⟨hk, hk.1.2.2.2⟩ : _ ∧ k_ ≠ gb374))) (fun _ hk => hk.2) (.slice Ao69 y396.length co69)) (fun _ h_ => h_.1)))) k_ hk_), (Kd.fresh' (Kd.R_lt (by (with_reducible repeat (first | apply Kd.R_alloc | apply Kd.R_drewN | apply Kd.R_drew)); exact (Kd.R_mono (Kd.R_far (p := ⟨gb374, 1, none⟩) (Kd.R_types HO_375003.out BK374.out (by decide)) (fun _ hk => hk.2) (.slice Ao69 y396.length co69)) (fun _ h_ => h_.1)))) k_ hk_), (Kd.fresh' (Kd.N_lt (by (with_reducible repeat (first | apply Kd.N_alloc | apply Kd.N_drewN | apply Kd.N_drew)); exact (Kd.N_mono (Kd.N_far (p := ⟨gb374, 1, none⟩) (Kd.N_mono HO398.out (fun k_ hk => (⟨hk, hk.2.2.2.2⟩ : _ ∧ k_ ≠ gb374))) (fun _ hk => hk.2) (.slice Ao69 y396.length co69)) (fun _ h_ => h_.1)))) k_ hk_), (Kd.freshB (g := gb370) (o := .cells #[.bool x371000_4, .slice none 0 0, .slice none 0 0, .slice none 0 0] 25 (0, 0)) (zf_ NB370_374.out BK370.out) k_ hk_), (Kd.freshB (g := gb374) (o := .cells #[.bool ((rd l0 0) == 1), .slice Ao69 y396.length co69, u375002, u375003] 25 (0, 0)) (by (with_reducible repeat (first | refine blk_drewN ?_ _ | refine blk_drew ?_ | refine blk_alloc ?_ _)); refine blk_put (cs := #[.bool ((rd l0 0) == 1), u375001, u375002, u375003]) ?_ 1 _ (by first | rfl | (simp only [List.length_drop, List.length_take]; rfl)); (with_reducible repeat (first | refine blk_drewN ?_ _ | refine blk_drew ?_ | refine blk_alloc ?_ _)); exact BK374.out) k_ hk_)⟩)) (below_size (zh2_ HB.out GE370.out GE374.out))); replace HO_375002 := Aside0.mk (Kd.N_below (by (with_reducible repeat (first | apply Kd.N_alloc | apply Kd.N_drewN | apply Kd.N_drew)); exact (Kd.N_mono (Kd.N_far (p := ⟨gb374, 1, none⟩) (Kd.N_mono HO_375002.out (fun k_ hk => (⟨hk, hk.1.2.2.2⟩ : _ ∧ k_ ≠ gb374))) (fun _ hk => hk.2) (.slice Ao69 y396.length co69)) (fun _ h_ => h_.1))) hb); replace HO_375003 := Aside0.mk (Kd.R_below (by (with_reducible repeat (first | apply Kd.R_alloc | apply Kd.R_drewN | apply Kd.R_drew)); exact (Kd.R_mono (Kd.R_far (p := ⟨gb374, 1, none⟩) (Kd.R_types HO_375003.out BK374.out (by decide)) (fun _ hk => hk.2) (.slice Ao69 y396.length co69)) (fun _ h_ => h_.1))) hb); replace HO398 := Aside0.mk (Kd.N_below (by (with_reducible repeat (first | apply Kd.N_alloc | apply Kd.N_drewN | apply Kd.N_drew)); exact (Kd.N_mono (Kd.N_far (p := ⟨gb374, 1, none⟩) (Kd.N_mono HO398.out (fun k_ hk => (⟨hk, hk.2.2.2.2⟩ : _ ∧ k_ ≠ gb374))) (fun _ hk => hk.2) (.slice Ao69 y396.length co69)) (fun _ h_ => h_.1))) hb); replace BK370 := Aside0.mk (blk_below (g := gb370) (o := .cells #[.bool x371000_4, .slice none 0 0, .slice none 0 0, .slice none 0 0] 25 (0, 0)) (zf_ NB370_374.out BK370.out) hb); replace BK374 := Aside0.mk (blk_below (g := gb374) (o := .cells #[.bool ((rd l0 0) == 1), .slice Ao69 y396.length co69, u375002, u375003] 25 (0, 0)) (by (with_reducible repeat (first | refine blk_drewN ?_ _ | refine blk_drew ?_ | refine blk_alloc ?_ _)); refine blk_put (cs := #[.bool ((rd l0 0) == 1), u375001, u375002, u375003]) ?_ 1 _ (by first | rfl | (simp only [List.length_drop, List.length_take]; rfl)); (with_reducible repeat (first | refine blk_drewN ?_ _ | refine blk_drew ?_ | refine blk_alloc ?_ _)); exact BK374.out) hb); replace HB := Aside0.mk (below_step (zh2_ HB.out GE370.out GE374.out) hb); (try clear hb); (try clear hk); (try clear ho0); (try clear ho1); obtain ⟨hcz73_0, hcz73_1, hcz73_2, hcz73_3⟩ := zc4 BK370.out; obtain ⟨hfz73_0, hfz73_1, hfz73_2, hfz73_3⟩ := zz4 BK370.out))
                  refine bodyPost_ret (results_ct rfl _ _ gb370 25 #[.bool false, .slice none 0 0, .slice none 0 0, .slice none 0 0] (0, 0) _ rfl (zp_ BK370.out) Tryd.underlying25 rfl (by kernel_rfl)) rfl ?_
                  exact ⟨_, _, _, by first | rfl | (simp [errW_none, errW_some] <;> rfl) | (simp [*, errW_none, errW_some] <;> rfl), by first | exact Kd.S_nil _ _ _ _ _ | exact Kd.N_nil _ _ _ _ _ | exact Kd.V_nil _ _ _ _ _ | exact Kd.Q_nil _ _ _ _ _ | exact Kd.R_nil _ _ _ _ _, by first | exact Kd.S_nil _ _ _ _ _ | exact Kd.N_nil _ _ _ _ _ | exact Kd.V_nil _ _ _ _ _ | exact Kd.Q_nil _ _ _ _ _ | exact Kd.R_nil _ _ _ _ _, by first | exact Kd.R_nil _ _ _ _ _ | exact Kd.N_nil _ _ _ _ _ | exact Kd.V_nil _ _ _ _ _ | exact Kd.Q_nil _ _ _ _ _ | exact Kd.S_nil _ _ _ _ _, by exact zh2_ HB.out GE370.out GE374.out⟩
                ·rw [if_neg c44] at H
                 have c44b0 : ((rd l0 0) == 1) = false := by simpa using c44
                 (try (have c44b1 : decide ((rd l0 0) = 1) = false := by simpa using c44))
                 (try (have c44b2 : ((rd l0 0) == 1) = false := by simpa using c44))
                 (try (have c44b3 : ¬ ((rd l0 0) = 1) := by simpa using c44))
                 clear c44
                 obtain ⟨⟨t409, t410, t411⟩, A74, H⟩ := zm H
                 (try dsimp only at H)
                 by_cases c75 : t411 = true
                 ·subst c75
                  replace H := (if_pos (rfl : true = true)).symm.trans H
                  by_cases c76 : x375003_4.length < 17592186044416
                  ·rw [if_pos c76] at H
                   have LMc76 := Aside0.mk c76
                   clear c76
                   obtain ⟨y414, hy414⟩ : ∃ y_ : List Int, y_ = (x375003_4 ++ [t409]) := ⟨_, rfl⟩
                   replace H : (ladingref06_read.l0 k4 t376 t410 (IntKind.u64.wrap (x11_4 + 1)) ((rd l0 0) == 1) y396 x375002_4 y414) = some (r1, r2, r3, r4, r5) := by first | (rw [hy414]; with_reducible exact H) | (have H2_ := (Option.bind_some _ _).symm.trans H; rw [hy414]; with_reducible exact H2_) | (have H2_ := (Option.bind_some _ _).symm.trans H; with_reducible exact H2_) | with_reducible exact H | (rw [hy414]; exact H) | exact H
                   have Ny414 := Aside0.mk hy414
                   clear hy414
                   have H' := Aside0.mk H
                   clear H
                   obtain ⟨Ao77, co77, eo77⟩ := Kd.V_slice HO_6.out
                   subst eo77
                   go_wp2_with (first | ((with_reducible refine gate_callee (f := 52) rfl ?_); refine goesL_ (some 81) rfl rfl Tryd.func52 (by kernel_rfl) rfl #[.slice Ao77 x6_4.length co77, .int .i64 256] rfl zl_ ?_; (with_reducible refine (ladingref06_entry.calls k4 _ _ x6_4 256 t389 t392 true _ ?side1 ?side2 A41.out).mono ?_); (case side1 => repeat (first | exact (Kd.V_reads' HO_6.out).2.2 | (with_reducible refine Kd.C_alloc ?_ _) | (with_reducible refine Kd.C_drewN ?_ _) | (with_reducible refine Kd.C_drew ?_))); (case side2 => exact (Kd.V_reads' HO_6.out).2.1); rintro e w78 ⟨v390, v393, rfl, ho0, ho1, hb⟩; refine ⟨_, rfl, ?_⟩; replace HO_6 := Aside0.mk (Kd.V_below (zV_ HO_6.out) hb); have HO391 := Aside0.mk (Kd.V_lower (Kd.V_mono (ok' := fun k_ => (w.heap.size ≤ k_) ∧ some k_ ≠ (u375001 : Value).ownBlock ∧ some k_ ≠ (u375002 : Value).ownBlock ∧ some k_ ≠ (u375003 : Value).ownBlock ∧ k_ ≠ gb370 ∧ k_ ≠ gb374) ho0 (fun k_ hk_ => ⟨(Nat.le_trans (below_size (zh2_ HB.out GE370.out GE374.out)) hk_), (Kd.fresh' (Kd.N_lt (zN_ HO_375001.out)) k_ hk_), (Kd.fresh' (Kd.N_lt (zN_ HO_375002.out)) k_ hk_), (Kd.fresh' (Kd.R_lt (zR_ HO_375003.out)) k_ hk_), (Kd.freshB (zb_ BK370.out) k_ hk_), (Kd.freshB (zb_ BK374.out) k_ hk_)⟩)) (below_size (zh2_ HB.out GE370.out GE374.out))); have HO394 := Aside0.mk (Kd.V_lower (Kd.V_mono (ok' := fun k_ => (w.heap.size ≤ k_) ∧ some k_ ≠ (u375001 : Value).ownBlock ∧ some k_ ≠ (u375002 : Value).ownBlock ∧ some k_ ≠ (u375003 : Value).ownBlock ∧ k_ ≠ gb370 ∧ k_ ≠ gb374) ho1 (fun k_ hk_ => ⟨(Nat.le_trans (below_size (zh2_ HB.out GE370.out GE374.out)) hk_), (Kd.fresh' (Kd.N_lt (zN_ HO_375001.out)) k_ hk_), (Kd.fresh' (Kd.N_lt (zN_ HO_375002.out)) k_ hk_), (Kd.fresh' (Kd.R_lt (zR_ HO_375003.out)) k_ hk_), (Kd.freshB (zb_ BK370.out) k_ hk_), (Kd.freshB (zb_ BK374.out) k_ hk_)⟩)) (below_size (zh2_ HB.out GE370.out GE374.out))); replace HO_375001 := Aside0.mk (Kd.N_below (zN_ HO_375001.out) hb); replace HO_375002 := Aside0.mk (Kd.N_below (zN_ HO_375002.out) hb); replace HO_375003 := Aside0.mk (Kd.R_below (zR_ HO_375003.out) hb); replace BK370 := Aside0.mk (blk_below (zb_ BK370.out) hb); replace BK374 := Aside0.mk (blk_below (zb_ BK374.out) hb); replace HB := Aside0.mk (below_step (zh2_ HB.out GE370.out GE374.out) hb); (try clear hb); (try clear hk); (try clear ho0); (try clear ho1); have hnb79 := NB374_370.out; have hnc79 := NB370_374.out; obtain ⟨hcz80_0, hcz80_1, hcz80_2, hcz80_3⟩ := zc4 BK374.out; obtain ⟨hfz80_0, hfz80_1, hfz80_2, hfz80_3⟩ := zz4 BK374.out; obtain ⟨Ao82, co82, eo82⟩ := Kd.V_slice HO391.out; subst eo82) | ((with_reducible refine gate_builtin (b := .append) (xs := #[.tmp 89, .tmp 91]) rfl ?_); at_builtin; refine Kd.N_append (Kd.slice 5 (Kd.int .u8)) (w0 := w) w.heap.size rfl (.tmp 89) (.tmp 91) 22 26 (.slice none 0 0) 24 rfl Tryd.underlying22 info26 rfl (by decide) (by omega) u375001 x375001_4 t389 [.slice Ao82 t389.length co82] (fun k_ => (w.heap.size ≤ k_) ∧ some k_ ≠ (u375002 : Value).ownBlock ∧ some k_ ≠ (u375003 : Value).ownBlock ∧ k_ ≠ gb370 ∧ k_ ≠ gb374) (fun k_ => ((fun k_ => (w.heap.size ≤ k_) ∧ some k_ ≠ (u375002 : Value).ownBlock ∧ some k_ ≠ (u375003 : Value).ownBlock ∧ k_ ≠ gb370 ∧ k_ ≠ gb374)) k_ ∧ some k_ ≠ (u375001 : Value).ownBlock) rfl rfl ?aP (fun _ hk => hk) ?aF ?aO ?aB ?aS ?aL ?_; (case aP => exact (Kd.FK_slice_mk (Kd.V_reads' (Kd.V_mono (ok' := (fun k_ => ((fun k_ => (w.heap.size ≤ k_) ∧ some k_ ≠ (u375002 : Value).ownBlock ∧ some k_ ≠ (u375003 : Value).ownBlock ∧ k_ ≠ gb370 ∧ k_ ≠ gb374)) k_ ∧ some k_ ≠ (u375001 : Value).ownBlock)) (HO391.out) (fun k_ hk => ⟨⟨hk.1, ⟨hk.2.2.1, ⟨hk.2.2.2.1, ⟨hk.2.2.2.2.1, hk.2.2.2.2.2⟩⟩⟩⟩, hk.2.1⟩))).2.1 (Kd.V_F (Kd.V_mono (ok' := (fun k_ => ((fun k_ => (w.heap.size ≤ k_) ∧ some k_ ≠ (u375002 : Value).ownBlock ∧ some k_ ≠ (u375003 : Value).ownBlock ∧ k_ ≠ gb370 ∧ k_ ≠ gb374)) k_ ∧ some k_ ≠ (u375001 : Value).ownBlock)) (HO391.out) (fun k_ hk => ⟨⟨hk.1, ⟨hk.2.2.1, ⟨hk.2.2.2.1, ⟨hk.2.2.2.2.1, hk.2.2.2.2.2⟩⟩⟩⟩, hk.2.1⟩))))); (case aB => exact (zh2_ HB.out GE370.out GE374.out)); (case aF => exact (fun k_ hk => ⟨(Nat.le_trans (below_size (zh2_ HB.out GE370.out GE374.out)) hk), Kd.fresh' (Kd.N_lt (zN_ HO_375002.out)) k_ hk, Kd.fresh' (Kd.R_lt (zR_ HO_375003.out)) k_ hk, Kd.freshB (zb_ BK370.out) k_ hk, Kd.freshB (zb_ BK374.out) k_ hk⟩)); (case aO => exact (zN_ HO_375001.out)); (case aS => exact (below_size (zh2_ HB.out GE370.out GE374.out))); (case aL => have := LMc43.out; omega); intro v397 w81 ho hb hg hat; rw [← Ny396.out] at ho; replace HO_6 := Aside0.mk (Kd.V_afterv (ok := (fun k_ => (w.heap.size ≤ k_) ∧ some k_ ≠ (u375002 : Value).ownBlock ∧ some k_ ≠ (u375003 : Value).ownBlock ∧ k_ ≠ gb370 ∧ k_ ≠ gb374)) (by (with_reducible repeat (first | apply Kd.V_alloc | apply Kd.V_drewN | apply Kd.V_drew)); exact Kd.V_mono HO_6.out (fun _ hk => ⟨⟨hk.1, ⟨hk.2.2.1, ⟨hk.2.2.2.1, ⟨hk.2.2.2.2.1, hk.2.2.2.2.2⟩⟩⟩⟩, hk.2.1⟩)) hg hat); replace HO_375002 := Aside0.mk (Kd.N_afterv (ok := (fun k_ => (w.heap.size ≤ k_) ∧ some k_ ≠ (u375003 : Value).ownBlock ∧ k_ ≠ gb370 ∧ k_ ≠ gb374)) (by (with_reducible repeat (first | apply Kd.N_alloc | apply Kd.N_drewN | apply Kd.N_drew)); exact Kd.N_mono HO_375002.out (fun _ hk => ⟨⟨hk.1, ⟨hk.2.2.1, ⟨hk.2.2.2.1, hk.2.2.2.2⟩⟩⟩, hk.2.1⟩)) hg hat); replace HO_375003 := Aside0.mk (Kd.R_over' (zR_ HO_375003.out) (Kd.N_typed (zN_ HO_375001.out)) (by decide) hg); replace BK370 := Aside0.mk (blk_grown (zb_ BK370.out) hg (Kd.N_ne HO_375001.out BK370.out (by decide))); replace BK374 := Aside0.mk (blk_grown (zb_ BK374.out) hg (Kd.N_ne HO_375001.out BK374.out (by decide))); replace HO391 := Aside0.mk (Kd.V_afterv (ok := (fun k_ => (w.heap.size ≤ k_) ∧ some k_ ≠ (u375002 : Value).ownBlock ∧ some k_ ≠ (u375003 : Value).ownBlock ∧ k_ ≠ gb370 ∧ k_ ≠ gb374)) (by (with_reducible repeat (first | apply Kd.V_alloc | apply Kd.V_drewN | apply Kd.V_drew)); exact Kd.V_mono HO391.out (fun _ hk => ⟨⟨hk.1, ⟨hk.2.2.1, ⟨hk.2.2.2.1, ⟨hk.2.2.2.2.1, hk.2.2.2.2.2⟩⟩⟩⟩, hk.2.1⟩)) hg hat); replace HO394 := Aside0.mk (Kd.V_afterv (ok := (fun k_ => (w.heap.size ≤ k_) ∧ some k_ ≠ (u375002 : Value).ownBlock ∧ some k_ ≠ (u375003 : Value).ownBlock ∧ k_ ≠ gb370 ∧ k_ ≠ gb374)) (by (with_reducible repeat (first | apply Kd.V_alloc | apply Kd.V_drewN | apply Kd.V_drew)); exact Kd.V_mono HO394.out (fun _ hk => ⟨⟨hk.1, ⟨hk.2.2.1, ⟨hk.2.2.2.1, ⟨hk.2.2.2.2.1, hk.2.2.2.2.2⟩⟩⟩⟩, hk.2.1⟩)) hg hat); replace HB := Aside0.mk (hb); have HO398 := Aside0.mk (ho); clear HO_375001 ho hb hg hat; obtain ⟨Ao83, co83, eo83⟩ := Kd.N_slice HO398.out; subst eo83; obtain ⟨hcz84_0, hcz84_1, hcz84_2, hcz84_3⟩ := zc4 BK374.out; obtain ⟨hfz84_0, hfz84_1, hfz84_2, hfz84_3⟩ := zz4 BK374.out; obtain ⟨Ao85, co85, eo85⟩ := Kd.V_slice HO394.out; subst eo85) | ((with_reducible refine gate_callee (f := 51) rfl ?_); refine goesL_ (some 114) rfl rfl Tryd.func51 (by kernel_rfl) rfl #[.slice Ao85 t392.length co85] rfl zl_ ?_; (with_reducible refine (ladingref06_kid.calls k4 _ _ t392 t409 t410 true _ ?side1 ?side2 A74.out).mono ?_); (case side1 => refine (Kd.V_reads' (e := 5) (base := w.heap.size) (ok := fun k_ => (((w.heap.size ≤ k_) ∧ (some k_ ≠ (u375002 : Value).ownBlock ∧ (some k_ ≠ (u375003 : Value).ownBlock ∧ (k_ ≠ gb370 ∧ k_ ≠ gb374)))) ∧ some k_ ≠ (.slice Ao83 y396.length co83 : Value).ownBlock)) (n := t392.length) (c := co85) ?_).2.2; exact (by (with_reducible repeat (first | apply Kd.V_alloc | apply Kd.V_drewN | apply Kd.V_drew)); exact (Kd.V_mono (Kd.V_far (p := ⟨gb374, 1, none⟩) (Kd.V_mono HO394.out (fun k_ hk => (⟨hk, hk.1.2.2.2.2⟩ : _ ∧ k_ ≠ gb374))) (fun _ hk => hk.2) (.slice Ao83 y396.length co83)) (fun _ h_ => h_.1)))); (case side2 => exact (Kd.V_reads' HO394.out).2.1); rintro e w86 ⟨v412, rfl, ho0, hb⟩; refine ⟨_, rfl, ?_⟩; replace HO_6 := Aside0.mk (Kd.V_elder' (by (with_reducible repeat (first | apply Kd.V_alloc | apply Kd.V_drewN | apply Kd.V_drew)); exact (Kd.V_mono (Kd.V_far (p := ⟨gb374, 1, none⟩) (Kd.V_mono HO_6.out (fun k_ hk => (⟨hk, hk.1.2.2.2.2⟩ : _ ∧ k_ ≠ gb374))) (fun _ hk => hk.2) (.slice Ao83 y396.length co83)) (fun _ h_ => h_.1))) (Kd.R_base ho0) hb); replace HO_375002 := Aside0.mk (Kd.N_elder' (by (with_reducible repeat (first | apply Kd.N_alloc | apply Kd.N_drewN | apply Kd.N_drew)); exact (Kd.N_mono (Kd.N_far (p := ⟨gb374, 1, none⟩) (Kd.N_mono HO_375002.out (fun k_ hk => (⟨hk, hk.1.2.2.2⟩ : _ ∧ k_ ≠ gb374))) (fun _ hk => hk.2) (.slice Ao83 y396.length co83)) (fun _ h_ => h_.1))) (Kd.R_base ho0) hb); replace HO_375003 := Aside0.mk (Kd.R_below (by (with_reducible repeat (first | apply Kd.R_alloc | apply Kd.R_drewN | apply Kd.R_drew)); exact (Kd.R_mono (Kd.R_far (p := ⟨gb374, 1, none⟩) (Kd.R_types HO_375003.out BK374.out (by decide)) (fun _ hk => hk.2) (.slice Ao83 y396.length co83)) (fun _ h_ => h_.1))) hb); replace HO391 := Aside0.mk (Kd.V_elder' (by (with_reducible repeat (first | apply Kd.V_alloc | apply Kd.V_drewN | apply Kd.V_drew)); exact (Kd.V_mono (Kd.V_far (p := ⟨gb374, 1, none⟩) (Kd.V_mono HO391.out (fun k_ hk => (⟨hk, hk.1.2.2.2.2⟩ : _ ∧ k_ ≠ gb374))) (fun _ hk => hk.2) (.slice Ao83 y396.length co83)) (fun _ h_ => h_.1))) (Kd.R_base ho0) hb); replace HO394 := Aside0.mk (Kd.V_elder' (by (with_reducible repeat (first | apply Kd.V_alloc | apply Kd.V_drewN | apply Kd.V_drew)); exact (Kd.V_mono (Kd.V_far (p := ⟨gb374, 1, none⟩) (Kd.V_mono HO394.out (fun k_ hk => (⟨hk, hk.1.2.2.2.2⟩ : _ ∧ k_ ≠ gb374))) (fun _ hk => hk.2) (.slice Ao83 y396.length co83)) (fun _ h_ => h_.1))) (Kd.R_base ho0) hb); replace HO398 := Aside0.mk (Kd.N_elder' (by (with_reducible repeat (first | apply Kd.N_alloc | apply Kd.N_drewN | apply Kd.N_drew)); exact (Kd.N_mono (Kd.N_far (p := ⟨gb374, 1, none⟩) (Kd.N_mono HO398.out (fun k_ hk => (⟨hk, hk.2.2.2.2⟩ : _ ∧ k_ ≠ gb374))) (fun _ hk => hk.2) (.slice Ao83 y396.length co83)) (fun _ h_ => h_.1))) (Kd.R_base ho0) hb); have HO413 := Aside0.mk (Kd.R_lower (Kd.R_newM (M := fun k_ => (w.heap.size ≤ k_)) ho0 (below_size (zh2_ HB.out GE370.out GE374.out)) (fun k_ h_ => h_)) (below_size (zh2_ HB.out GE370.out GE374.out))); replace BK370 := Aside0.mk (blk_below (g := gb370) (o := .cells #[.bool x371000_4, .slice none 0 0, .slice none 0 0, .slice none 0 0] 25 (0, 0)) (zf_ NB370_374.out BK370.out) hb); replace BK374 := Aside0.mk (blk_below (g := gb374) (o := .cells #[.bool ((rd l0 0) == 1), .slice Ao83 y396.length co83, u375002, u375003] 25 (0, 0)) (by (with_reducible repeat (first | refine blk_drewN ?_ _ | refine blk_drew ?_ | refine blk_alloc ?_ _)); refine blk_put (cs := #[.bool ((rd l0 0) == 1), u375001, u375002, u375003]) ?_ 1 _ (by first | rfl | (simp only [List.length_drop, List.length_take]; rfl)); (with_reducible repeat (first | refine blk_drewN ?_ _ | refine blk_drew ?_ | refine blk_alloc ?_ _)); exact BK374.out) hb); replace HB := Aside0.mk (below_step (zh2_ HB.out GE370.out GE374.out) hb); (try clear hb); (try clear hk); (try clear ho0); obtain ⟨hcz87_0, hcz87_1, hcz87_2, hcz87_3⟩ := zc4 BK374.out; obtain ⟨hfz87_0, hfz87_1, hfz87_2, hfz87_3⟩ := zz4 BK374.out) | ((with_reducible refine gate_builtin (b := .append) (xs := #[.tmp 122, .tmp 124]) rfl ?_); at_builtin; refine Kd.R_append (Kd.int .i64) (w0 := w) w.heap.size rfl (.tmp 122) (.tmp 124) 23 3 (.int .i64 0) 8 rfl Tryd.underlying23 info3 rfl (by decide) (by omega) u375003 x375003_4 t409 [.int .i64 t409] (fun k_ => (w.heap.size ≤ k_)) (fun _ => False) rfl rfl ?aP (fun _ hk => hk.elim) ?aF ?aO ?aB ?aS ?aL ?_; (case aP => exact rfl); (case aB => exact (zh2_ HB.out GE370.out GE374.out)); (case aF => exact (fun k_ hk => (Nat.le_trans (below_size (zh2_ HB.out GE370.out GE374.out)) hk))); (case aO => exact (zR_ HO_375003.out)); (case aS => exact (below_size (zh2_ HB.out GE370.out GE374.out))); (case aL => have := LMc76.out; omega); intro v415 w88 ho hb hg hat; rw [← Ny414.out] at ho; replace HO_6 := Aside0.mk (Kd.V_afterv (ok := (fun k_ => (w.heap.size ≤ k_) ∧ some k_ ≠ (u375002 : Value).ownBlock ∧ some k_ ≠ (.slice Ao83 y396.length co83 : Value).ownBlock ∧ some k_ ≠ (v412 : Value).ownBlock ∧ k_ ≠ gb370 ∧ k_ ≠ gb374)) (by (with_reducible repeat (first | apply Kd.V_alloc | apply Kd.V_drewN | apply Kd.V_drew)); exact Kd.V_mono HO_6.out (fun _ hk => ⟨⟨hk.1.1.1, ⟨hk.1.1.2.1, ⟨hk.1.2, ⟨hk.2, ⟨hk.1.1.2.2.2.1, hk.1.1.2.2.2.2⟩⟩⟩⟩⟩, hk.1.1.2.2.1⟩)) hg hat); replace HO_375002 := Aside0.mk (Kd.N_afterv (ok := (fun k_ => (w.heap.size ≤ k_) ∧ some k_ ≠ (.slice Ao83 y396.length co83 : Value).ownBlock ∧ some k_ ≠ (v412 : Value).ownBlock ∧ k_ ≠ gb370 ∧ k_ ≠ gb374)) (by (with_reducible repeat (first | apply Kd.N_alloc | apply Kd.N_drewN | apply Kd.N_drew)); exact Kd.N_mono HO_375002.out (fun _ hk => ⟨⟨hk.1.1.1, ⟨hk.1.2, ⟨hk.2, ⟨hk.1.1.2.2.1, hk.1.1.2.2.2⟩⟩⟩⟩, hk.1.1.2.1⟩)) hg hat); replace BK370 := Aside0.mk (blk_grown (zb_ BK370.out) hg (Kd.R_ne HO_375003.out BK370.out (by decide))); replace BK374 := Aside0.mk (blk_grown (zb_ BK374.out) hg (Kd.R_ne HO_375003.out BK374.out (by decide))); replace HO391 := Aside0.mk (Kd.V_afterv (ok := (fun k_ => (w.heap.size ≤ k_) ∧ some k_ ≠ (u375002 : Value).ownBlock ∧ some k_ ≠ (.slice Ao83 y396.length co83 : Value).ownBlock ∧ some k_ ≠ (v412 : Value).ownBlock ∧ k_ ≠ gb370 ∧ k_ ≠ gb374)) (by (with_reducible repeat (first | apply Kd.V_alloc | apply Kd.V_drewN | apply Kd.V_drew)); exact Kd.V_mono HO391.out (fun _ hk => ⟨⟨hk.1.1.1, ⟨hk.1.1.2.1, ⟨hk.1.2, ⟨hk.2, ⟨hk.1.1.2.2.2.1, hk.1.1.2.2.2.2⟩⟩⟩⟩⟩, hk.1.1.2.2.1⟩)) hg hat); replace HO394 := Aside0.mk (Kd.V_afterv (ok := (fun k_ => (w.heap.size ≤ k_) ∧ some k_ ≠ (u375002 : Value).ownBlock ∧ some k_ ≠ (.slice Ao83 y396.length co83 : Value).ownBlock ∧ some k_ ≠ (v412 : Value).ownBlock ∧ k_ ≠ gb370 ∧ k_ ≠ gb374)) (by (with_reducible repeat (first | apply Kd.V_alloc | apply Kd.V_drewN | apply Kd.V_drew)); exact Kd.V_mono HO394.out (fun _ hk => ⟨⟨hk.1.1.1, ⟨hk.1.1.2.1, ⟨hk.1.2, ⟨hk.2, ⟨hk.1.1.2.2.2.1, hk.1.1.2.2.2.2⟩⟩⟩⟩⟩, hk.1.1.2.2.1⟩)) hg hat); replace HO398 := Aside0.mk (Kd.N_afterv (ok := (fun k_ => (w.heap.size ≤ k_) ∧ some k_ ≠ (u375002 : Value).ownBlock ∧ some k_ ≠ (v412 : Value).ownBlock ∧ k_ ≠ gb370 ∧ k_ ≠ gb374)) (by (with_reducible repeat (first | apply Kd.N_alloc | apply Kd.N_drewN | apply Kd.N_drew)); exact Kd.N_mono HO398.out (fun _ hk => ⟨⟨hk.1.1, ⟨hk.1.2.1, ⟨hk.2, ⟨hk.1.2.2.2.1, hk.1.2.2.2.2⟩⟩⟩⟩, hk.1.2.2.1⟩)) hg hat); replace HO413 := Aside0.mk (Kd.R_over' (zR_ HO413.out) (Kd.R_typed (zR_ HO_375003.out)) (by decide) hg); replace HB := Aside0.mk (hb); have HO416 := Aside0.mk (ho); clear HO_375003 ho hb hg hat; obtain ⟨Ao89, co89, eo89⟩ := Kd.R_slice HO416.out; subst eo89; obtain ⟨hcz90_0, hcz90_1, hcz90_2, hcz90_3⟩ := zc4 BK374.out; obtain ⟨hfz90_0, hfz90_1, hfz90_2, hfz90_3⟩ := zz4 BK374.out))
                   go_roundg k4
                   case measure => have := HJ1.out; have := HJ11.out; have := HJ21.out; have := HK4.out; omega
                   case rel => exact ⟨(t410), (IntKind.u64.wrap (x11_4 + 1)), (x371000_4), (y396), (x375002_4), (y414), (.slice Ao83 y396.length co83), (u375002), (.slice Ao89 y414.length co89), (by first | rfl | (simp; done) | (simp [*]; done) | (simp only [i64_w]; done)), H', ⟨by have := HJ1.out; have := HJ11.out; have := HJ21.out; have := HK4.out; omega⟩, ⟨Kd.R_V (by (with_reducible repeat (first | apply Kd.R_alloc | apply Kd.R_drewN | apply Kd.R_drew)); exact Kd.R_mono (Kd.R_far (p := ⟨gb374, 3, none⟩) (Kd.R_types (Kd.R_types (Kd.R_types (Kd.R_apart' (Kd.R_apart' (Kd.R_apart' HO413.out (Kd.N_typed HO398.out) (by decide)) (Kd.N_typed HO_375002.out) (by decide)) (Kd.R_typed HO416.out) (by decide)) BK370.out (by decide)) BK374.out (by decide)) BK374.out (by decide)) (fun _ hk => hk.2) (.slice Ao89 y414.length co89)) (fun _ hk => ⟨hk.1.1.1.1.1.1.1, ⟨hk.1.1.1.1.1.2, ⟨hk.1.1.1.1.2, ⟨hk.1.1.1.2, ⟨hk.1.1.2, hk.1.2⟩⟩⟩⟩⟩))⟩, ⟨by (with_reducible repeat (first | apply Kd.N_alloc | apply Kd.N_drewN | apply Kd.N_drew)); exact Kd.N_mono (Kd.N_far (p := ⟨gb374, 3, none⟩) (Kd.N_mono HO398.out (fun k_ hk => (⟨hk, hk.1.2.2.2.2⟩ : _ ∧ k_ ≠ gb374))) (fun _ hk => hk.2) (.slice Ao89 y414.length co89)) (fun _ hk => ⟨hk.1.1.1, ⟨hk.1.1.2.1, ⟨hk.1.2, ⟨hk.1.1.2.2.2.1, hk.1.1.2.2.2.2⟩⟩⟩⟩)⟩, ⟨by (with_reducible repeat (first | apply Kd.N_alloc | apply Kd.N_drewN | apply Kd.N_drew)); exact Kd.N_mono (Kd.N_far (p := ⟨gb374, 3, none⟩) (Kd.N_mono HO_375002.out (fun k_ hk => (⟨hk, hk.1.2.2.2.2⟩ : _ ∧ k_ ≠ gb374))) (fun _ hk => hk.2) (.slice Ao89 y414.length co89)) (fun _ hk => ⟨hk.1.1.1, ⟨hk.1.1.2.1, ⟨hk.1.2, ⟨hk.1.1.2.2.2.1, hk.1.1.2.2.2.2⟩⟩⟩⟩)⟩, ⟨by (with_reducible repeat (first | apply Kd.R_alloc | apply Kd.R_drewN | apply Kd.R_drew)); exact Kd.R_mono (Kd.R_far (p := ⟨gb374, 3, none⟩) (Kd.R_types HO416.out BK374.out (by decide)) (fun _ hk => hk.2) (.slice Ao89 y414.length co89)) (fun _ hk => hk.1)⟩, ⟨by (with_reducible repeat (first | refine blk_drewN ?_ _ | refine blk_drew ?_ | refine blk_alloc ?_ _)); refine blk_far ?_ NB370_374.out _; (with_reducible repeat (first | refine blk_drewN ?_ _ | refine blk_drew ?_ | refine blk_alloc ?_ _)); exact BK370.out⟩, ⟨by (with_reducible repeat (first | refine blk_drewN ?_ _ | refine blk_drew ?_ | refine blk_alloc ?_ _)); refine blk_put (cs := #[.bool ((rd l0 0) == 1), .slice Ao83 y396.length co83, u375002, u375003]) ?_ 3 _ (by first | rfl | (simp only [List.length_drop, List.length_take]; rfl)); (with_reducible repeat (first | refine blk_drewN ?_ _ | refine blk_drew ?_ | refine blk_alloc ?_ _)); exact BK374.out⟩, ⟨by exact zh2_ HB.out GE370.out GE374.out⟩⟩
                  ·rw [if_neg c76] at H
                   cases H
                 ·replace c75 := Bool.eq_false_iff.mpr c75
                  subst c75
                  replace H := (if_neg (show ¬ (false = true) by decide)).symm.trans H
                  simp only [Option.some.injEq, Prod.mk.injEq] at H
                  obtain ⟨rfl, rfl, rfl, rfl, rfl⟩ := H
                  obtain ⟨Ao91, co91, eo91⟩ := Kd.V_slice HO_6.out
                  subst eo91
                  go_wp2_with (first | ((with_reducible refine gate_callee (f := 52) rfl ?_); refine goesL_ (some 81) rfl rfl Tryd.func52 (by kernel_rfl) rfl #[.slice Ao91 x6_4.length co91, .int .i64 256] rfl zl_ ?_; (with_reducible refine (ladingref06_entry.calls k4 _ _ x6_4 256 t389 t392 true _ ?side1 ?side2 A41.out).mono ?_); (case side1 => repeat (first | exact (Kd.V_reads' HO_6.out).2.2 | (with_reducible refine Kd.C_alloc ?_ _) | (with_reducible refine Kd.C_drewN ?_ _) | (with_reducible refine Kd.C_drew ?_))); (case side2 => exact (Kd.V_reads' HO_6.out).2.1); rintro e w92 ⟨v390, v393, rfl, ho0, ho1, hb⟩; refine ⟨_, rfl, ?_⟩; replace HO_6 := Aside0.mk (Kd.V_below (zV_ HO_6.out) hb); have HO391 := Aside0.mk (Kd.V_lower (Kd.V_mono (ok' := fun k_ => (w.heap.size ≤ k_) ∧ some k_ ≠ (u375001 : Value).ownBlock ∧ some k_ ≠ (u375002 : Value).ownBlock ∧ some k_ ≠ (u375003 : Value).ownBlock ∧ k_ ≠ gb370 ∧ k_ ≠ gb374) ho0 (fun k_ hk_ => ⟨(Nat.le_trans (below_size (zh2_ HB.out GE370.out GE374.out)) hk_), (Kd.fresh' (Kd.N_lt (zN_ HO_375001.out)) k_ hk_), (Kd.fresh' (Kd.N_lt (zN_ HO_375002.out)) k_ hk_), (Kd.fresh' (Kd.R_lt (zR_ HO_375003.out)) k_ hk_), (Kd.freshB (zb_ BK370.out) k_ hk_), (Kd.freshB (zb_ BK374.out) k_ hk_)⟩)) (below_size (zh2_ HB.out GE370.out GE374.out))); have HO394 := Aside0.mk (Kd.V_lower (Kd.V_mono (ok' := fun k_ => (w.heap.size ≤ k_) ∧ some k_ ≠ (u375001 : Value).ownBlock ∧ some k_ ≠ (u375002 : Value).ownBlock ∧ some k_ ≠ (u375003 : Value).ownBlock ∧ k_ ≠ gb370 ∧ k_ ≠ gb374) ho1 (fun k_ hk_ => ⟨(Nat.le_trans (below_size (zh2_ HB.out GE370.out GE374.out)) hk_), (Kd.fresh' (Kd.N_lt (zN_ HO_375001.out)) k_ hk_), (Kd.fresh' (Kd.N_lt (zN_ HO_375002.out)) k_ hk_), (Kd.fresh' (Kd.R_lt (zR_ HO_375003.out)) k_ hk_), (Kd.freshB (zb_ BK370.out) k_ hk_), (Kd.freshB (zb_ BK374.out) k_ hk_)⟩)) (below_size (zh2_ HB.out GE370.out GE374.out))); replace HO_375001 := Aside0.mk (Kd.N_below (zN_ HO_375001.out) hb); replace HO_375002 := Aside0.mk (Kd.N_below (zN_ HO_375002.out) hb); replace HO_375003 := Aside0.mk (Kd.R_below (zR_ HO_375003.out) hb); replace BK370 := Aside0.mk (blk_below (zb_ BK370.out) hb); replace BK374 := Aside0.mk (blk_below (zb_ BK374.out) hb); replace HB := Aside0.mk (below_step (zh2_ HB.out GE370.out GE374.out) hb); (try clear hb); (try clear hk); (try clear ho0); (try clear ho1); have hnb93 := NB374_370.out; have hnc93 := NB370_374.out; obtain ⟨hcz94_0, hcz94_1, hcz94_2, hcz94_3⟩ := zc4 BK374.out; obtain ⟨hfz94_0, hfz94_1, hfz94_2, hfz94_3⟩ := zz4 BK374.out; obtain ⟨Ao96, co96, eo96⟩ := Kd.V_slice HO391.out; subst eo96) | ((with_reducible refine gate_builtin (b := .append) (xs := #[.tmp 89, .tmp 91]) rfl ?_); at_builtin; refine Kd.N_append (Kd.slice 5 (Kd.int .u8)) (w0 := w) w.heap.size rfl (.tmp 89) (.tmp 91) 22 26 (.slice none 0 0) 24 rfl Tryd.underlying22 info26 rfl (by decide) (by omega) u375001 x375001_4 t389 [.slice Ao96 t389.length co96] (fun k_ => (w.heap.size ≤ k_) ∧ some k_ ≠ (u375002 : Value).ownBlock ∧ some k_ ≠ (u375003 : Value).ownBlock ∧ k_ ≠ gb370 ∧ k_ ≠ gb374) (fun k_ => ((fun k_ => (w.heap.size ≤ k_) ∧ some k_ ≠ (u375002 : Value).ownBlock ∧ some k_ ≠ (u375003 : Value).ownBlock ∧ k_ ≠ gb370 ∧ k_ ≠ gb374)) k_ ∧ some k_ ≠ (u375001 : Value).ownBlock) rfl rfl ?aP (fun _ hk => hk) ?aF ?aO ?aB ?aS ?aL ?_; (case aP => exact (Kd.FK_slice_mk (Kd.V_reads' (Kd.V_mono (ok' := (fun k_ => ((fun k_ => (w.heap.size ≤ k_) ∧ some k_ ≠ (u375002 : Value).ownBlock ∧ some k_ ≠ (u375003 : Value).ownBlock ∧ k_ ≠ gb370 ∧ k_ ≠ gb374)) k_ ∧ some k_ ≠ (u375001 : Value).ownBlock)) (HO391.out) (fun k_ hk => ⟨⟨hk.1, ⟨hk.2.2.1, ⟨hk.2.2.2.1, ⟨hk.2.2.2.2.1, hk.2.2.2.2.2⟩⟩⟩⟩, hk.2.1⟩))).2.1 (Kd.V_F (Kd.V_mono (ok' := (fun k_ => ((fun k_ => (w.heap.size ≤ k_) ∧ some k_ ≠ (u375002 : Value).ownBlock ∧ some k_ ≠ (u375003 : Value).ownBlock ∧ k_ ≠ gb370 ∧ k_ ≠ gb374)) k_ ∧ some k_ ≠ (u375001 : Value).ownBlock)) (HO391.out) (fun k_ hk => ⟨⟨hk.1, ⟨hk.2.2.1, ⟨hk.2.2.2.1, ⟨hk.2.2.2.2.1, hk.2.2.2.2.2⟩⟩⟩⟩, hk.2.1⟩))))); (case aB => exact (zh2_ HB.out GE370.out GE374.out)); (case aF => exact (fun k_ hk => ⟨(Nat.le_trans (below_size (zh2_ HB.out GE370.out GE374.out)) hk), Kd.fresh' (Kd.N_lt (zN_ HO_375002.out)) k_ hk, Kd.fresh' (Kd.R_lt (zR_ HO_375003.out)) k_ hk, Kd.freshB (zb_ BK370.out) k_ hk, Kd.freshB (zb_ BK374.out) k_ hk⟩)); (case aO => exact (zN_ HO_375001.out)); (case aS => exact (below_size (zh2_ HB.out GE370.out GE374.out))); (case aL => have := LMc43.out; omega); intro v397 w95 ho hb hg hat; rw [← Ny396.out] at ho; replace HO_6 := Aside0.mk (Kd.V_afterv (ok := (fun k_ => (w.heap.size ≤ k_) ∧ some k_ ≠ (u375002 : Value).ownBlock ∧ some k_ ≠ (u375003 : Value).ownBlock ∧ k_ ≠ gb370 ∧ k_ ≠ gb374)) (by (with_reducible repeat (first | apply Kd.V_alloc | apply Kd.V_drewN | apply Kd.V_drew)); exact Kd.V_mono HO_6.out (fun _ hk => ⟨⟨hk.1, ⟨hk.2.2.1, ⟨hk.2.2.2.1, ⟨hk.2.2.2.2.1, hk.2.2.2.2.2⟩⟩⟩⟩, hk.2.1⟩)) hg hat); replace HO_375002 := Aside0.mk (Kd.N_afterv (ok := (fun k_ => (w.heap.size ≤ k_) ∧ some k_ ≠ (u375003 : Value).ownBlock ∧ k_ ≠ gb370 ∧ k_ ≠ gb374)) (by (with_reducible repeat (first | apply Kd.N_alloc | apply Kd.N_drewN | apply Kd.N_drew)); exact Kd.N_mono HO_375002.out (fun _ hk => ⟨⟨hk.1, ⟨hk.2.2.1, ⟨hk.2.2.2.1, hk.2.2.2.2⟩⟩⟩, hk.2.1⟩)) hg hat); replace HO_375003 := Aside0.mk (Kd.R_over' (zR_ HO_375003.out) (Kd.N_typed (zN_ HO_375001.out)) (by decide) hg); replace BK370 := Aside0.mk (blk_grown (zb_ BK370.out) hg (Kd.N_ne HO_375001.out BK370.out (by decide))); replace BK374 := Aside0.mk (blk_grown (zb_ BK374.out) hg (Kd.N_ne HO_375001.out BK374.out (by decide))); replace HO391 := Aside0.mk (Kd.V_afterv (ok := (fun k_ => (w.heap.size ≤ k_) ∧ some k_ ≠ (u375002 : Value).ownBlock ∧ some k_ ≠ (u375003 : Value).ownBlock ∧ k_ ≠ gb370 ∧ k_ ≠ gb374)) (by (with_reducible repeat (first | apply Kd.V_alloc | apply Kd.V_drewN | apply Kd.V_drew)); exact Kd.V_mono HO391.out (fun _ hk => ⟨⟨hk.1, ⟨hk.2.2.1, ⟨hk.2.2.2.1, ⟨hk.2.2.2.2.1, hk.2.2.2.2.2⟩⟩⟩⟩, hk.2.1⟩)) hg hat); replace HO394 := Aside0.mk (Kd.V_afterv (ok := (fun k_ => (w.heap.size ≤ k_) ∧ some k_ ≠ (u375002 : Value).ownBlock ∧ some k_ ≠ (u375003 : Value).ownBlock ∧ k_ ≠ gb370 ∧ k_ ≠ gb374)) (by (with_reducible repeat (first | apply Kd.V_alloc | apply Kd.V_drewN | apply Kd.V_drew)); exact Kd.V_mono HO394.out (fun _ hk => ⟨⟨hk.1, ⟨hk.2.2.1, ⟨hk.2.2.2.1, ⟨hk.2.2.2.2.1, hk.2.2.2.2.2⟩⟩⟩⟩, hk.2.1⟩)) hg hat); replace HB := Aside0.mk (hb); have HO398 := Aside0.mk (ho); clear HO_375001 ho hb hg hat; obtain ⟨Ao97, co97, eo97⟩ := Kd.N_slice HO398.out; subst eo97; obtain ⟨hcz98_0, hcz98_1, hcz98_2, hcz98_3⟩ := zc4 BK374.out; obtain ⟨hfz98_0, hfz98_1, hfz98_2, hfz98_3⟩ := zz4 BK374.out; obtain ⟨Ao99, co99, eo99⟩ := Kd.V_slice HO394.out; subst eo99) | ((with_reducible refine gate_callee (f := 51) rfl ?_); refine goesL_ (some 114) rfl rfl Tryd.func51 (by kernel_rfl) rfl #[.slice Ao99 t392.length co99] rfl zl_ ?_; (with_reducible refine (ladingref06_kid.calls k4 _ _ t392 t409 t410 false _ ?side1 ?side2 A74.out).mono ?_); (case side1 => refine (Kd.V_reads' (e := 5) (base := w.heap.size) (ok := fun k_ => (((w.heap.size ≤ k_) ∧ (some k_ ≠ (u375002 : Value).ownBlock ∧ (some k_ ≠ (u375003 : Value).ownBlock ∧ (k_ ≠ gb370 ∧ k_ ≠ gb374)))) ∧ some k_ ≠ (.slice Ao97 y396.length co97 : Value).ownBlock)) (n := t392.length) (c := co99) ?_).2.2; exact (by (with_reducible repeat (first | apply Kd.V_alloc | apply Kd.V_drewN | apply Kd.V_drew)); exact (Kd.V_mono (Kd.V_far (p := ⟨gb374, 1, none⟩) (Kd.V_mono HO394.out (fun k_ hk => (⟨hk, hk.1.2.2.2.2⟩ : _ ∧ k_ ≠ gb374))) (fun _ hk => hk.2) (.slice Ao97 y396.length co97)) (fun _ h_ => h_.1)))); (case side2 => exact (Kd.V_reads' HO394.out).2.1); rintro e w100 ⟨v412, rfl, ho0, hb⟩; refine ⟨_, rfl, ?_⟩; replace HO_6 := Aside0.mk (Kd.V_elder' (by (with_reducible repeat (first | apply Kd.V_alloc | apply Kd.V_drewN | apply Kd.V_drew)); exact (Kd.V_mono (Kd.V_far (p := ⟨gb374, 1, none⟩) (Kd.V_mono HO_6.out (fun k_ hk => (⟨hk, hk.1.2.2.2.2⟩ : _ ∧ k_ ≠ gb374))) (fun _ hk => hk.2) (.slice Ao97 y396.length co97)) (fun _ h_ => h_.1))) (Kd.R_base ho0) hb); replace HO_375002 := Aside0.mk (Kd.N_elder' (by (with_reducible repeat (first | apply Kd.N_alloc | apply Kd.N_drewN | apply Kd.N_drew)); exact (Kd.N_mono (Kd.N_far (p := ⟨gb374, 1, none⟩) (Kd.N_mono HO_375002.out (fun k_ hk => (⟨hk, hk.1.2.2.2⟩ : _ ∧ k_ ≠ gb374))) (fun _ hk => hk.2) (.slice Ao97 y396.length co97)) (fun _ h_ => h_.1))) (Kd.R_base ho0) hb); replace HO_375003 := Aside0.mk (Kd.R_below (by (with_reducible repeat (first | apply Kd.R_alloc | apply Kd.R_drewN | apply Kd.R_drew)); exact (Kd.R_mono (Kd.R_far (p := ⟨gb374, 1, none⟩) (Kd.R_types HO_375003.out BK374.out (by decide)) (fun _ hk => hk.2) (.slice Ao97 y396.length co97)) (fun _ h_ => h_.1))) hb); replace HO391 := Aside0.mk (Kd.V_elder' (by (with_reducible repeat (first | apply Kd.V_alloc | apply Kd.V_drewN | apply Kd.V_drew)); exact (Kd.V_mono (Kd.V_far (p := ⟨gb374, 1, none⟩) (Kd.V_mono HO391.out (fun k_ hk => (⟨hk, hk.1.2.2.2.2⟩ : _ ∧ k_ ≠ gb374))) (fun _ hk => hk.2) (.slice Ao97 y396.length co97)) (fun _ h_ => h_.1))) (Kd.R_base ho0) hb); replace HO394 := Aside0.mk (Kd.V_elder' (by (with_reducible repeat (first | apply Kd.V_alloc | apply Kd.V_drewN | apply Kd.V_drew)); exact (Kd.V_mono (Kd.V_far (p := ⟨gb374, 1, none⟩) (Kd.V_mono HO394.out (fun k_ hk => (⟨hk, hk.1.2.2.2.2⟩ : _ ∧ k_ ≠ gb374))) (fun _ hk => hk.2) (.slice Ao97 y396.length co97)) (fun _ h_ => h_.1))) (Kd.R_base ho0) hb); replace HO398 := Aside0.mk (Kd.N_elder' (by (with_reducible repeat (first | apply Kd.N_alloc | apply Kd.N_drewN | apply Kd.N_drew)); exact (Kd.N_mono (Kd.N_far (p := ⟨gb374, 1, none⟩) (Kd.N_mono HO398.out (fun k_ hk => (⟨hk, hk.2.2.2.2⟩ : _ ∧ k_ ≠ gb374))) (fun _ hk => hk.2) (.slice Ao97 y396.length co97)) (fun _ h_ => h_.1))) (Kd.R_base ho0) hb); have HO413 := Aside0.mk (Kd.R_lower (Kd.R_newM (M := fun k_ => (w.heap.size ≤ k_)) ho0 (below_size (zh2_ HB.out GE370.out GE374.out)) (fun k_ h_ => h_)) (below_size (zh2_ HB.out GE370.out GE374.out))); replace BK370 := Aside0.mk (blk_below (g := gb370) (o := .cells #[.bool x371000_4, .slice none 0 0, .slice none 0 0, .slice none 0 0] 25 (0, 0)) (zf_ NB370_374.out BK370.out) hb); replace BK374 := Aside0.mk (blk_below (g := gb374) (o := .cells #[.bool ((rd l0 0) == 1), .slice Ao97 y396.length co97, u375002, u375003] 25 (0, 0)) (by (with_reducible repeat (first | refine blk_drewN ?_ _ | refine blk_drew ?_ | refine blk_alloc ?_ _)); refine blk_put (cs := #[.bool ((rd l0 0) == 1), u375001, u375002, u375003]) ?_ 1 _ (by first | rfl | (simp only [List.length_drop, List.length_take]; rfl)); (with_reducible repeat (first | refine blk_drewN ?_ _ | refine blk_drew ?_ | refine blk_alloc ?_ _)); exact BK374.out) hb); replace HB := Aside0.mk (below_step (zh2_ HB.out GE370.out GE374.out) hb); (try clear hb); (try clear hk); (try clear ho0); obtain ⟨hcz101_0, hcz101_1, hcz101_2, hcz101_3⟩ := zc4 BK370.out; obtain ⟨hfz101_0, hfz101_1, hfz101_2, hfz101_3⟩ := zz4 BK370.out))
                  refine bodyPost_ret (results_ct rfl _ _ gb370 25 #[.bool false, .slice none 0 0, .slice none 0 0, .slice none 0 0] (0, 0) _ rfl (zp_ BK370.out) Tryd.underlying25 rfl (by kernel_rfl)) rfl ?_
                  exact ⟨_, _, _, by first | rfl | (simp [errW_none, errW_some] <;> rfl) | (simp [*, errW_none, errW_some] <;> rfl), by first | exact Kd.S_nil _ _ _ _ _ | exact Kd.N_nil _ _ _ _ _ | exact Kd.V_nil _ _ _ _ _ | exact Kd.Q_nil _ _ _ _ _ | exact Kd.R_nil _ _ _ _ _, by first | exact Kd.S_nil _ _ _ _ _ | exact Kd.N_nil _ _ _ _ _ | exact Kd.V_nil _ _ _ _ _ | exact Kd.Q_nil _ _ _ _ _ | exact Kd.R_nil _ _ _ _ _, by first | exact Kd.R_nil _ _ _ _ _ | exact Kd.N_nil _ _ _ _ _ | exact Kd.V_nil _ _ _ _ _ | exact Kd.Q_nil _ _ _ _ _ | exact Kd.S_nil _ _ _ _ _, by exact zh2_ HB.out GE370.out GE374.out⟩
               ·rw [if_neg c43] at H
                cases H
              ·replace c42 := Bool.eq_false_iff.mpr c42
               subst c42
               replace H := (if_neg (show ¬ (false = true) by decide)).symm.trans H
               simp only [Option.some.injEq, Prod.mk.injEq] at H
               obtain ⟨rfl, rfl, rfl, rfl, rfl⟩ := H
               obtain ⟨Ao102, co102, eo102⟩ := Kd.V_slice HO_6.out
               subst eo102
               go_wp2_with (first | ((with_reducible refine gate_callee (f := 52) rfl ?_); refine goesL_ (some 81) rfl rfl Tryd.func52 (by kernel_rfl) rfl #[.slice Ao102 x6_4.length co102, .int .i64 256] rfl zl_ ?_; (with_reducible refine (ladingref06_entry.calls k4 _ _ x6_4 256 t389 t392 false _ ?side1 ?side2 A41.out).mono ?_); (case side1 => repeat (first | exact (Kd.V_reads' HO_6.out).2.2 | (with_reducible refine Kd.C_alloc ?_ _) | (with_reducible refine Kd.C_drewN ?_ _) | (with_reducible refine Kd.C_drew ?_))); (case side2 => exact (Kd.V_reads' HO_6.out).2.1); rintro e w103 ⟨v390, v393, rfl, ho0, ho1, hb⟩; refine ⟨_, rfl, ?_⟩; replace HO_6 := Aside0.mk (Kd.V_below (zV_ HO_6.out) hb); have HO391 := Aside0.mk (Kd.V_lower (Kd.V_mono (ok' := fun k_ => (w.heap.size ≤ k_) ∧ some k_ ≠ (u375001 : Value).ownBlock ∧ some k_ ≠ (u375002 : Value).ownBlock ∧ some k_ ≠ (u375003 : Value).ownBlock ∧ k_ ≠ gb370 ∧ k_ ≠ gb374) ho0 (fun k_ hk_ => ⟨(Nat.le_trans (below_size (zh2_ HB.out GE370.out GE374.out)) hk_), (Kd.fresh' (Kd.N_lt (zN_ HO_375001.out)) k_ hk_), (Kd.fresh' (Kd.N_lt (zN_ HO_375002.out)) k_ hk_), (Kd.fresh' (Kd.R_lt (zR_ HO_375003.out)) k_ hk_), (Kd.freshB (zb_ BK370.out) k_ hk_), (Kd.freshB (zb_ BK374.out) k_ hk_)⟩)) (below_size (zh2_ HB.out GE370.out GE374.out))); have HO394 := Aside0.mk (Kd.V_lower (Kd.V_mono (ok' := fun k_ => (w.heap.size ≤ k_) ∧ some k_ ≠ (u375001 : Value).ownBlock ∧ some k_ ≠ (u375002 : Value).ownBlock ∧ some k_ ≠ (u375003 : Value).ownBlock ∧ k_ ≠ gb370 ∧ k_ ≠ gb374) ho1 (fun k_ hk_ => ⟨(Nat.le_trans (below_size (zh2_ HB.out GE370.out GE374.out)) hk_), (Kd.fresh' (Kd.N_lt (zN_ HO_375001.out)) k_ hk_), (Kd.fresh' (Kd.N_lt (zN_ HO_375002.out)) k_ hk_), (Kd.fresh' (Kd.R_lt (zR_ HO_375003.out)) k_ hk_), (Kd.freshB (zb_ BK370.out) k_ hk_), (Kd.freshB (zb_ BK374.out) k_ hk_)⟩)) (below_size (zh2_ HB.out GE370.out GE374.out))); replace HO_375001 := Aside0.mk (Kd.N_below (zN_ HO_375001.out) hb); replace HO_375002 := Aside0.mk (Kd.N_below (zN_ HO_375002.out) hb); replace HO_375003 := Aside0.mk (Kd.R_below (zR_ HO_375003.out) hb); replace BK370 := Aside0.mk (blk_below (zb_ BK370.out) hb); replace BK374 := Aside0.mk (blk_below (zb_ BK374.out) hb); replace HB := Aside0.mk (below_step (zh2_ HB.out GE370.out GE374.out) hb); (try clear hb); (try clear ho0); (try clear ho1); have hnb104 := NB370_374.out; have hnc104 := NB374_370.out; obtain ⟨hcz105_0, hcz105_1, hcz105_2, hcz105_3⟩ := zc4 BK370.out; obtain ⟨hfz105_0, hfz105_1, hfz105_2, hfz105_3⟩ := zz4 BK370.out))
               refine bodyPost_ret (results_ct rfl _ _ gb370 25 #[.bool false, .slice none 0 0, .slice none 0 0, .slice none 0 0] (0, 0) _ rfl (zp_ BK370.out) Tryd.underlying25 rfl (by kernel_rfl)) rfl ?_
               exact ⟨_, _, _, by first | rfl | (simp [errW_none, errW_some] <;> rfl) | (simp [*, errW_none, errW_some] <;> rfl), by first | exact Kd.S_nil _ _ _ _ _ | exact Kd.N_nil _ _ _ _ _ | exact Kd.V_nil _ _ _ _ _ | exact Kd.Q_nil _ _ _ _ _ | exact Kd.R_nil _ _ _ _ _, by first | exact Kd.S_nil _ _ _ _ _ | exact Kd.N_nil _ _ _ _ _ | exact Kd.V_nil _ _ _ _ _ | exact Kd.Q_nil _ _ _ _ _ | exact Kd.R_nil _ _ _ _ _, by first | exact Kd.R_nil _ _ _ _ _ | exact Kd.N_nil _ _ _ _ _ | exact Kd.V_nil _ _ _ _ _ | exact Kd.Q_nil _ _ _ _ _ | exact Kd.S_nil _ _ _ _ _, by exact zh2_ HB.out GE370.out GE374.out⟩
             ·rw [if_neg c40] at H
              have c40b0 : decide (x11_4 < t376) = false := decide_eq_false c40
              clear c40
              simp only [Option.some.injEq, Prod.mk.injEq] at H
              obtain ⟨rfl, rfl, rfl, rfl, rfl⟩ := H
              have hnb106 := NB374_370.out
              have hnc106 := NB370_374.out
              obtain ⟨hcz107_0, hcz107_1, hcz107_2, hcz107_3⟩ := zc4 BK374.out
              obtain ⟨hfz107_0, hfz107_1, hfz107_2, hfz107_3⟩ := zz4 BK374.out
              obtain ⟨hcz108_0, hcz108_1, hcz108_2, hcz108_3⟩ := zc4 BK370.out
              obtain ⟨hfz108_0, hfz108_1, hfz108_2, hfz108_3⟩ := zz4 BK370.out
              obtain ⟨Ao109, co109, eo109⟩ := Kd.N_slice HO_375001.out
              subst eo109
              obtain ⟨Ao110, co110, eo110⟩ := Kd.N_slice HO_375002.out
              subst eo110
              obtain ⟨Ao111, co111, eo111⟩ := Kd.R_slice HO_375003.out
              subst eo111
              go_wp2
              refine bodyPost_ret (results_ct rfl _ _ gb370 25 #[.bool ((rd l0 0) == 1), .slice Ao109 x375001_4.length co109, .slice Ao110 x375002_4.length co110, .slice Ao111 x375003_4.length co111] (0, 0) _ rfl (zp_ BK370.out) Tryd.underlying25 rfl (by kernel_rfl)) rfl ?_
              exact ⟨_, _, _, by first | rfl | (simp [errW_none, errW_some] <;> rfl) | (simp [*, errW_none, errW_some] <;> rfl), by (with_reducible repeat (first | apply Kd.N_alloc | apply Kd.N_drewN | apply Kd.N_drew)); exact Kd.N_mono (Kd.N_far (p := ⟨gb370, 3, none⟩) (Kd.N_far (p := ⟨gb370, 2, none⟩) (Kd.N_far (p := ⟨gb370, 1, none⟩) (Kd.N_far (p := ⟨gb370, 0, none⟩) (Kd.N_mono HO_375001.out (fun k_ hk => (⟨hk, hk.2.2.2.1⟩ : _ ∧ k_ ≠ gb370))) (fun _ hk => hk.2) (.bool ((rd l0 0) == 1))) (fun _ hk => hk.2) (.slice Ao109 x375001_4.length co109)) (fun _ hk => hk.2) (.slice Ao110 x375002_4.length co110)) (fun _ hk => hk.2) (.slice Ao111 x375003_4.length co111)) (fun _ hk => ⟨hk.1.1, ⟨hk.1.2.1, hk.1.2.2.1⟩⟩), by (with_reducible repeat (first | apply Kd.N_alloc | apply Kd.N_drewN | apply Kd.N_drew)); exact Kd.N_mono (Kd.N_far (p := ⟨gb370, 3, none⟩) (Kd.N_far (p := ⟨gb370, 2, none⟩) (Kd.N_far (p := ⟨gb370, 1, none⟩) (Kd.N_far (p := ⟨gb370, 0, none⟩) (Kd.N_mono HO_375002.out (fun k_ hk => (⟨hk, hk.2.2.2.1⟩ : _ ∧ k_ ≠ gb370))) (fun _ hk => hk.2) (.bool ((rd l0 0) == 1))) (fun _ hk => hk.2) (.slice Ao109 x375001_4.length co109)) (fun _ hk => hk.2) (.slice Ao110 x375002_4.length co110)) (fun _ hk => hk.2) (.slice Ao111 x375003_4.length co111)) (fun _ hk => ⟨hk.1.1, ⟨hk.1.2.1, hk.1.2.2.1⟩⟩), by (with_reducible repeat (first | apply Kd.R_alloc | apply Kd.R_drewN | apply Kd.R_drew)); exact Kd.R_mono (Kd.R_far (p := ⟨gb370, 3, none⟩) (Kd.R_far (p := ⟨gb370, 2, none⟩) (Kd.R_far (p := ⟨gb370, 1, none⟩) (Kd.R_far (p := ⟨gb370, 0, none⟩) (Kd.R_types HO_375003.out BK370.out (by decide)) (fun _ hk => hk.2) (.bool ((rd l0 0) == 1))) (fun _ hk => hk.2) (.slice Ao109 x375001_4.length co109)) (fun _ hk => hk.2) (.slice Ao110 x375002_4.length co110)) (fun _ hk => hk.2) (.slice Ao111 x375003_4.length co111)) (fun _ hk => hk.1), by exact zh2_ HB.out GE370.out GE374.out⟩
     ·rw [if_neg c10] at H
      cases H
    ·rw [if_neg c9] at H
     cases H
end Go.Proofs.YtcbgichkeecgiaaDoor.Print
