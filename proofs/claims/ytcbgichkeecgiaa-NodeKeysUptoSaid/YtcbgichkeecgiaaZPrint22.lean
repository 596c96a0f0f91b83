-- A claim's text with what it uses alone (wip/slim.py, over what the kit's print and this session's tools wrote). Not trusted: Lean checks it.
import Derived.Test.YtcbgichkeecgiaaZAb
import Derived.Test.YtcbgichkeecgiaaZPrint0
import Derived.Test.YtcbgichkeecgiaaZPrint21
namespace Go.Proofs.Ytcbgichkeecgiaa.Print
open Go.RowKit Go.Proofs.YtcbgichkeecgiaaW.PrintWords Go.Proofs.YtcbgichkeecgiaaW.PrintLast Go.Proofs.YtcbgichkeecgiaaW.PrintMore
attribute [local go_sem] max2_mx min2_mn max_two min_two max_three min_three max_four min_four
set_option linter.unusedVariables false
set_option linter.unusedSimpArgs false
mutual
def ladingref06_text.l0 : Nat → List Int → List (List Int) → Int → Int → Bool → List (List Int) → List (List Int) → List Int → Option (List Int)
 | 0, _, _, _, _, _, _, _, _ => none
 | k + 1, x3, x18, x19, x20, x321000, x321001, x321002, x321003 => if x20 < x19 then (if 0 ≤ x20 then (if x20 < (x18.length : Int) then ((ladingref03_Text.f k x3 (strOfNums (rd_L1 x18 x20))).bind fun t328 => (if x20 < (x321002.length : Int) then ((ladingref03_Text.f k t328 (strOfNums (rd_L1 x321002 x20))).bind fun t332 => (ladingref06_text.l0 k t332 x18 x19 (wrap64 (x20 + 1)) x321000 x321001 x321002 x321003)) else (none))) else (none)) else (none)) else (some x3)
def ladingref06_text.l1 : Nat → List Int → List (List Int) → Int → Int → Bool → List (List Int) → List (List Int) → List Int → Option (List Int)
 | 0, _, _, _, _, _, _, _, _ => none
 | k + 1, x6, x52, x53, x54, x321000, x321001, x321002, x321003 => if x54 < x53 then (if 0 ≤ x54 then (if x54 < (x52.length : Int) then ((ladingref03_Text.f k x6 (strOfNums (rd_L1 x52 x54))).bind fun t346 => (if 0 ≤ (wrap64 (x54 + 1)) then (if (wrap64 (x54 + 1)) < (x321003.length : Int) then ((ladingref03_Num.f k t346 (IntKind.u64.wrap (rd x321003 (wrap64 (x54 + 1))))).bind fun t350 => (ladingref06_text.l1 k t350 x52 x53 (wrap64 (x54 + 1)) x321000 x321001 x321002 x321003)) else (none)) else (none))) else (none)) else (none)) else (some x6)
end
def ladingref06_text.f (k : Nat) (a0_0 : Bool) (l0_1 : List (List Int)) (l0_2 : List (List Int)) (l0_3 : List Int) : Option (List Int) := if a0_0 = true then ((ladingref03_Num.f k (([1] : List Int)) (IntKind.u64.wrap ((l0_1.length : Int)))).bind fun t324 => (ladingref06_text.l0 k t324 l0_1 (l0_1.length : Int) 0 a0_0 l0_1 l0_2 l0_3)) else ((ladingref03_Num.f k (([2] : List Int)) (IntKind.u64.wrap ((l0_1.length : Int)))).bind fun t338 => (if 0 < (l0_3.length : Int) then ((ladingref03_Num.f k t338 (IntKind.u64.wrap (rd l0_3 0))).bind fun t342 => (ladingref06_text.l1 k t342 l0_1 (l0_1.length : Int) 0 a0_0 l0_1 l0_2 l0_3)) else (none)))
def ladingref06_text.T6 : Bool × List (List Nat × List Nat) := (true, [([], []), ([], []), ([1], [1]), ([0, 2], [0, 2]), ([], []), ([4], [4]), ([], []), ([5, 6], [5, 6]), ([7], [7]), ([8], [8]), ([3, 9, 3], [3, 9]), ([10, 10, 0, 1, 2, 3, 4, 5, 6, 7, 8, 9, 10], [0, 10])])
def ladingref06_text.B6 : List Nat := [0, 0, 2, 7, 0, 16, 0, 112, 240, 496, 1023, 2047]
theorem ladingref06_text.tab6 : rtab .any (opsOf Try.f53 6) = ladingref06_text.T6 := by kernel_rfl
theorem ladingref06_text.bits6 : waitsOk ladingref06_text.T6.2 ladingref06_text.B6 = true := by kernel_rfl
def ladingref06_text.T14 : Bool × List (List Nat × List Nat) := (true, [([], []), ([], []), ([1], [1]), ([0, 2], [0, 2]), ([], []), ([4], [4]), ([], []), ([6], [6]), ([5, 7], [5, 7]), ([8], [8]), ([9], [9]), ([3, 10, 3], [3, 10]), ([11, 11, 0, 1, 2, 3, 4, 5, 6, 7, 8, 9, 10, 11], [0, 11])])
def ladingref06_text.B14 : List Nat := [0, 0, 2, 7, 0, 16, 0, 64, 240, 496, 1008, 2047, 4095]
theorem ladingref06_text.tab14 : rtab .any (opsOf Try.f53 14) = ladingref06_text.T14 := by kernel_rfl
theorem ladingref06_text.bits14 : waitsOk ladingref06_text.T14.2 ladingref06_text.B14 = true := by kernel_rfl
set_option maxHeartbeats 8000000 in
set_option maxRecDepth 100000 in
theorem ladingref06_text.calls (k : Nat) (a0_0 : Bool) (A0_1 : Option Addr) (c0_1 : Nat) (l0_1 : List (List Int)) (A0_2 : Option Addr) (c0_2 : Nat) (l0_2 : List (List Int)) (A0_3 : Option Addr) (c0_3 : Nat) (l0_3 : List Int) (r : List Int) (w : World) (hr0_1 : Kd.C (Kd.slice 5 (Kd.int .u8)) w A0_1 l0_1.length l0_1) (hc0_1 : l0_1.length ≤ c0_1) (hr0_2 : Kd.C (Kd.slice 5 (Kd.int .u8)) w A0_2 l0_2.length l0_2) (hc0_2 : l0_2.length ≤ c0_2) (hr0_3 : Kd.C (Kd.int .i64) w A0_3 l0_3.length l0_3) (hc0_3 : l0_3.length ≤ c0_3) (h : ladingref06_text.f k a0_0 l0_1 l0_2 l0_3 = some r) :
  Calls Try.prog 53 #[.agg #[.bool a0_0, .slice A0_1 l0_1.length c0_1, .slice A0_2 l0_2.length c0_2, .slice A0_3 l0_3.length c0_3]] w fun e w' => ∃ v0_ : Value, e = .returned (v0_) ∧ Kd.R (Kd.int .u8) 5 w' w.heap.size (fun _ => True) v0_ r ∧ Below w.heap.size w w' := by
 have hu26 := Try.underlying26
 have HR0_1 := Aside0.mk hr0_1
 have HC0_1 := Aside0.mk hc0_1
 clear hr0_1 hc0_1
 have HR0_2 := Aside0.mk hr0_2
 have HC0_2 := Aside0.mk hc0_2
 clear hr0_2 hc0_2
 have HR0_3 := Aside0.mk hr0_3
 have HC0_3 := Aside0.mk hc0_3
 clear hr0_3 hc0_3
 have HB := Aside0.mk (Below.refl w.heap.size w)
 have H : (if a0_0 = true then ((ladingref03_Num.f k (([1] : List Int)) (IntKind.u64.wrap ((l0_1.length : Int)))).bind fun t324 => (ladingref06_text.l0 k t324 l0_1 (l0_1.length : Int) 0 a0_0 l0_1 l0_2 l0_3)) else ((ladingref03_Num.f k (([2] : List Int)) (IntKind.u64.wrap ((l0_1.length : Int)))).bind fun t338 => (if 0 < (l0_3.length : Int) then ((ladingref03_Num.f k t338 (IntKind.u64.wrap (rd l0_3 0))).bind fun t342 => (ladingref06_text.l1 k t342 l0_1 (l0_1.length : Int) 0 a0_0 l0_1 l0_2 l0_3)) else (none)))) = some r := h
 clear h
 by_cases c2 : a0_0 = true
 ·subst c2
  have H1 : ((ladingref03_Num.f k (([1] : List Int)) (IntKind.u64.wrap ((l0_1.length : Int)))).bind fun t324 => (ladingref06_text.l0 k t324 l0_1 (l0_1.length : Int) 0 true l0_1 l0_2 l0_3)) = some r := by rw [if_pos rfl] at H; exact H
  clear H
  have H := H1
  clear H1
  obtain ⟨y321, hy321⟩ : ∃ y_ : List Int, y_ = (([1] : List Int)) := ⟨_, rfl⟩
  replace H : ((ladingref03_Num.f k y321 (IntKind.u64.wrap ((l0_1.length : Int)))).bind fun t324 => (ladingref06_text.l0 k t324 l0_1 (l0_1.length : Int) 0 true l0_1 l0_2 l0_3)) = some r := by first | (rw [hy321]; with_reducible exact H) | (have H2_ := (Option.bind_some _ _).symm.trans H; rw [hy321]; with_reducible exact H2_) | (have H2_ := (Option.bind_some _ _).symm.trans H; with_reducible exact H2_) | with_reducible exact H | (rw [hy321]; exact H) | exact H
  have Ny321 := Aside0.mk hy321
  clear hy321
  replace H := Option.bind_eq_some_iff.mp H
  obtain ⟨t324, A30, H⟩ := H
  replace H : (ladingref06_text.l0 k t324 l0_1 (l0_1.length : Int) 0 true l0_1 l0_2 l0_3) = some r := H
  have A3 := Aside0.mk A30
  clear A30
  have H' := Aside0.mk H
  clear H
  go_enter Try.func53, Try.ntmps53
  go_wp2_with (first | ((with_reducible refine gate_dst (N := 1) rfl ?_); refine box_event ?hg (N := 1) ?hd (cs := #[.bool true, .slice A0_1 l0_1.length c0_1, .slice A0_2 l0_2.length c0_2, .slice A0_3 l0_3.length c0_3]) (t := 26) ?hr ?_; (case hd => rfl); (case hg => rfl); (case hr => first | (go_simp; done) | (go_simp; rfl)); intro gb320 hg w4 hbox hb; have n0_ := Aside0.mk (below_step (zh0_ HB.out) hb); have n1_ := Aside0.mk (hbox); have n2_ := Aside0.mk ((by rw [hg]; exact (below_size (zh0_ HB.out)) : w.heap.size ≤ gb320)); have n3_ := Aside0.mk ((by rw [hg]; exact (below_size (zh0_ HB.out)) : w.heap.size ≤ gb320)); clear HB; have HB := n0_; have BK320 := n1_; have GW320 := n2_; have GE320 := n3_; clear n0_ n1_ n2_ n3_; clear hb hbox hg; obtain ⟨hcz5_0, hcz5_1, hcz5_2, hcz5_3⟩ := zc4 BK320.out; obtain ⟨hfz5_0, hfz5_1, hfz5_2, hfz5_3⟩ := zz4 BK320.out) | ((with_reducible refine gate_dst (N := 11) rfl ?_); refine Kd.R_lit (Kd.int .u8) _ 5 ?hg (N := 11) ?hd (xs := ([1] : List Int)) (inner := [.int .u8 1]) (ok := fun _ => True) (okp := fun _ => True) ?hr ?hp (fun _ hk => hk) trivial (Below.refl _ _) (Nat.le_refl _) (by simp) ?_; (case hd => rfl); (case hg => rfl); (case hr => first | (go_simp; done) | (go_simp; rfl)); (case hp => exact (Reps.one (show Kd.M (Kd.int .u8) _ _ _ 1 [.int .u8 1] from rfl) (Reps.none _ _))); intro v322 w6 ho7 hb hg_ hnew_; clear hg_ hnew_; (first | rw [← Ny321.out] at ho7 | (simp only [Int.reduceToNat] at ho7; rw [← Ny321.out] at ho7)); have n0_ := Aside0.mk (Kd.R_lower ho7 (below_size (zh1_ HB.out GE320.out))); have n1_ := Aside0.mk (blk_below (g := gb320) (o := .cells #[.bool true, .slice A0_1 l0_1.length c0_1, .slice A0_2 l0_2.length c0_2, .slice A0_3 l0_3.length c0_3] 26 (0, 0)) (zb_ BK320.out) hb); have n2_ := Aside0.mk (below_step (zh1_ HB.out GE320.out) hb); clear BK320; clear HB; have HO323 := n0_; have BK320 := n1_; have HB := n2_; clear n0_ n1_ n2_; clear hb ho7; obtain ⟨hcz8_0, hcz8_1, hcz8_2, hcz8_3⟩ := zc4 BK320.out; obtain ⟨hfz8_0, hfz8_1, hfz8_2, hfz8_3⟩ := zz4 BK320.out; obtain ⟨Ao9, co9, eo9⟩ := Kd.R_slice HO323.out; subst eo9) | ((with_reducible refine gate_callee (f := 64) rfl ?_); refine goesL_ (some 16) rfl rfl Try.func64 (by kernel_rfl) rfl #[.slice Ao9 y321.length co9, .int .u64 (IntKind.u64.wrap ((l0_1.length : Int)))] rfl zl_ ?_; (with_reducible refine (ladingref03_Num.calls k _ _ y321 (IntKind.u64.wrap ((l0_1.length : Int))) t324 _ ?side1 ?side2 A3.out).mono ?_); (case side1 => repeat (first | exact (Kd.R_reads' HO323.out).2.2 | (with_reducible refine Kd.C_alloc ?_ _) | (with_reducible refine Kd.C_drewN ?_ _) | (with_reducible refine Kd.C_drew ?_))); (case side2 => exact (Kd.R_reads' HO323.out).2.1); rintro e w10 ⟨v325, rfl, ho0, hb⟩; refine ⟨_, rfl, ?_⟩; have n0_ := Aside0.mk (Kd.R_elder' (zR_ HO323.out) (Kd.R_base ho0) hb); have n1_ := Aside0.mk (Kd.R_lower (Kd.R_new' ho0 (Kd.R_lt (zR_ HO323.out))) (below_size (zh1_ HB.out GE320.out))); have n2_ := Aside0.mk (blk_below (g := gb320) (o := .cells #[.bool true, .slice A0_1 l0_1.length c0_1, .slice A0_2 l0_2.length c0_2, .slice A0_3 l0_3.length c0_3] 26 (0, 0)) (zb_ BK320.out) hb); have n3_ := Aside0.mk (below_step (zh1_ HB.out GE320.out) hb); clear HO323; clear BK320; clear HB; have HO323 := n0_; have HO326 := n1_; have BK320 := n2_; have HB := n3_; clear n0_ n1_ n2_ n3_; (try clear hb); (try clear hb2); (try clear hk); (try clear hi); (try clear ho0); obtain ⟨hcz11_0, hcz11_1, hcz11_2, hcz11_3⟩ := zc4 BK320.out; obtain ⟨hfz11_0, hfz11_1, hfz11_2, hfz11_3⟩ := zz4 BK320.out))
  go_loopg [3, 20] k (fun kq v3 v20 w' => ∃ (x3_1 : List Int) (x20_1 : Int), v20 = .int .i64 x20_1 ∧ Aside0 (ladingref06_text.l0 kq x3_1 l0_1 (l0_1.length : Int) x20_1 true l0_1 l0_2 l0_3 = some r) ∧ Aside0 (kq ≤ k) ∧ Aside0 (Kd.R (Kd.int .u8) 5 w' w.heap.size (fun _ => True) v3 x3_1) ∧ Aside0 (w'.heap[gb320]? = some (.cells #[.bool true, (.slice A0_1 l0_1.length c0_1), (.slice A0_2 l0_2.length c0_2), (.slice A0_3 l0_3.length c0_3)] 26 (0, 0))) ∧ Aside0 (Below w.heap.size w w'))
  case atStart => exact ⟨(t324), (0), (by first | rfl | (simp; done) | (simp [*]; done) | (simp only [i64_w]; done)), H', ⟨Nat.le_refl _⟩, ⟨by (with_reducible repeat (first | apply Kd.R_alloc | apply Kd.R_drewN | apply Kd.R_drew)); exact Kd.R_mono HO326.out (fun _ hk => trivial)⟩, ⟨by (with_reducible repeat (first | refine blk_drewN ?_ _ | refine blk_drew ?_ | refine blk_alloc ?_ _)); exact BK320.out⟩, ⟨by exact zh1_ HB.out GE320.out⟩⟩
  case round =>
   clear H'
   try clear c2
   try clear p2
   try clear c5
   try clear c6
   try clear hcz11_0
   try clear hcz11_1
   try clear hcz11_2
   try clear hcz11_3
   try clear hcz5_0
   try clear hcz5_1
   try clear hcz5_2
   try clear hcz5_3
   try clear hcz8_0
   try clear hcz8_1
   try clear hcz8_2
   try clear hcz8_3
   try clear hfz11_0
   try clear hfz11_1
   try clear hfz11_2
   try clear hfz11_3
   try clear hfz5_0
   try clear hfz5_1
   try clear hfz5_2
   try clear hfz5_3
   try clear hfz8_0
   try clear hfz8_1
   try clear hfz8_2
   try clear hfz8_3
   (try clear BK320)
   obtain ⟨x3_1, x20_1, rfl, HA, HK1, HO_3, BK320, HB⟩ := hrel
   cases gk with
   | zero => exact absurd HA.out (by simp [ladingref06_text.l0])
   | succ k1 =>
    have H := HA.out
    clear HA
    simp only [ladingref06_text.l0] at H
    by_cases c12 : x20_1 < (l0_1.length : Int)
    ·rw [if_pos c12] at H
     have c12b0 : decide (x20_1 < (l0_1.length : Int)) = true := decide_eq_true c12
     clear c12
     by_cases c13 : 0 ≤ x20_1
     ·rw [if_pos c13] at H
      have c13b0 : decide (0 ≤ x20_1) = true := decide_eq_true c13
      clear c13
      by_cases c14 : x20_1 < (l0_1.length : Int)
      ·rw [if_pos c14] at H
       have c14b0 : decide (x20_1 < (l0_1.length : Int)) = true := decide_eq_true c14
       clear c14
       replace H := Option.bind_eq_some_iff.mp H
       obtain ⟨t328, A150, H⟩ := H
       replace H : (if x20_1 < (l0_2.length : Int) then ((ladingref03_Text.f k1 t328 (strOfNums (rd_L1 l0_2 x20_1))).bind fun t332 => (ladingref06_text.l0 k1 t332 l0_1 (l0_1.length : Int) (wrap64 (x20_1 + 1)) true l0_1 l0_2 l0_3)) else (none)) = some r := H
       have A15 := Aside0.mk A150
       clear A150
       by_cases c16 : x20_1 < (l0_2.length : Int)
       ·rw [if_pos c16] at H
        have c16b0 : decide (x20_1 < (l0_2.length : Int)) = true := decide_eq_true c16
        clear c16
        replace H := Option.bind_eq_some_iff.mp H
        obtain ⟨t332, A170, H⟩ := H
        replace H : (ladingref06_text.l0 k1 t332 l0_1 (l0_1.length : Int) (wrap64 (x20_1 + 1)) true l0_1 l0_2 l0_3) = some r := H
        have A17 := Aside0.mk A170
        clear A170
        have H' := Aside0.mk H
        clear H
        have p327 : 0 ≤ (x20_1 : Int) := of_decide_eq_true za_
        have q327 : x20_1 < (l0_1.length : Int) := of_decide_eq_true za_
        obtain ⟨ad327, A327_0, c327_0, e327, hx327_0, hl327_0, hi327_0⟩ := at_L1 HR0_1.out x20_1 p327 q327
        cases e327
        replace hx327_0 := (HB.out.cell (World.block_lt_of_cell? w _ hx327_0)).trans hx327_0
        have HR327_0 := Aside0.mk hi327_0
        have HC327_0 := Aside0.mk hl327_0
        clear hi327_0 hl327_0
        replace p327 := eq_true p327
        replace q327 := eq_true q327
        try go_wp2
        have n0_ := Aside0.mk (Kd.R_drew HO_3.out)
        have n1_ := Aside0.mk (blk_drew BK320.out)
        have n2_ := Aside0.mk (below_drew1 HB.out)
        clear HO_3
        clear BK320
        clear HB
        have HO_3 := n0_
        have BK320 := n1_
        have HB := n2_
        clear n0_ n1_ n2_
        have p331 : 0 ≤ (x20_1 : Int) := of_decide_eq_true za_
        have q331 : x20_1 < (l0_2.length : Int) := of_decide_eq_true za_
        obtain ⟨ad331, A331_0, c331_0, e331, hx331_0, hl331_0, hi331_0⟩ := at_L1 HR0_2.out x20_1 p331 q331
        have hw331_0 := hx331_0
        cases e331
        replace hx331_0 := (HB.out.cell (World.block_lt_of_cell? w _ hx331_0)).trans hx331_0
        have HR331_0 := Aside0.mk hi331_0
        have HC331_0 := Aside0.mk hl331_0
        clear hi331_0 hl331_0
        replace p331 := eq_true p331
        replace q331 := eq_true q331
        obtain ⟨Ao19, co19, eo19⟩ := Kd.R_slice HO_3.out
        (first | subst eo19 | (injection eo19 with f1_ f2_ f3_; have f4_ := f1_.symm; have f5_ := f3_.symm; clear f1_ f2_ f3_; subst f4_; subst f5_))
        refine start_ (n := 12) (S := fun w' => w'.cell? ⟨gb320, 0, none⟩ = some (.bool true) ∧ w'.cell? ⟨gb320, 1, none⟩ = some (.slice (some ad327) l0_1.length c0_1) ∧ w'.cell? ⟨gb320, 2, none⟩ = some (.slice (some ad331) l0_2.length c0_2) ∧ w'.cell? ⟨gb320, 3, none⟩ = some (.slice A0_3 l0_3.length c0_3) ∧ (convert 27 9 (.slice A327_0 (rd_L1 l0_1 x20_1).length c327_0)).run Try.prog w' = .ok (.string (strOfNums (rd_L1 l0_1 x20_1))) w' ∧ w'.cell? (ad331.add (x20_1).toNat) = some (.slice A331_0 (rd_L1 l0_2 x20_1).length c331_0) ∧ (convert 27 9 (.slice A331_0 (rd_L1 l0_2 x20_1).length c331_0)).run Try.prog w' = .ok (.string (strOfNums (rd_L1 l0_2 x20_1))) w') (ds := []) #[false, false, false, false, false, false, false, false, false, false, false, false] (by kernel_rfl) rfl rfl ⟨(blk_cell BK320.out 0).trans rfl, (blk_cell BK320.out 1).trans rfl, (blk_cell BK320.out 2).trans rfl, (blk_cell BK320.out 3).trans rfl, (Kd.C_string (P := Try.prog) (A := A327_0) (c := c327_0) Try.underlying27 Try.underlying5 Try.underlying9 (Kd.C_below HR327_0.out HB.out)), ((HB.out.cell (World.block_lt_of_cell? w _ hw331_0)).trans hw331_0), (Kd.C_string (P := Try.prog) (A := A331_0) (c := c331_0) Try.underlying27 Try.underlying5 Try.underlying9 (Kd.C_below HR331_0.out HB.out))⟩ (fun hHeld => ?_); refine with_tabW ladingref06_text.tab6 ladingref06_text.bits6 (fun HT_ HW_ => ?_)
        generalize wr.drew = w18 at HO_3 BK320 HB HR331_0 hx331_0 hHeld ⊢
        refine pure_ (i := 0) (N := some 25) (v := ?_) (a' := ?_) #[true, false, false, false, false, false, false, false, false, false, false, false] rfl rfl (any_of HT_.out (by kernel_rfl)) (fun _ _ _ h => h) (Or.inl ⟨by rfl, ?_⟩) ?_ ?_
        rotate_left
        ·intro w'
         go_simp
         with_reducible rfl
        rotate_left
        ·simp only [Act.put, List.setIfInBounds_toArray, List.set_cons_zero, List.set_cons_succ, i64_w, i32_w]
         rfl
        refine pure_ (i := 1) (N := some 26) (v := ?_) (a' := ?_) #[true, true, false, false, false, false, false, false, false, false, false, false] rfl rfl (any_of HT_.out (by kernel_rfl)) (fun _ _ _ h => h) (Or.inl ⟨by rfl, ?_⟩) ?_ ?_
        rotate_left
        ·intro w'
         go_simp
         with_reducible rfl
        rotate_left
        ·simp only [Act.put, List.setIfInBounds_toArray, List.set_cons_zero, List.set_cons_succ, i64_w, i32_w]
         rfl
        refine pure_ (i := 4) (N := some 29) (v := ?_) (a' := ?_) #[true, true, false, false, true, false, false, false, false, false, false, false] rfl rfl (any_of HT_.out (by kernel_rfl)) (fun _ _ _ h => h) (Or.inl ⟨by rfl, ?_⟩) ?_ ?_
        rotate_left
        ·intro w'
         go_simp
         with_reducible rfl
        rotate_left
        ·simp only [Act.put, List.setIfInBounds_toArray, List.set_cons_zero, List.set_cons_succ, i64_w, i32_w]
         rfl
        refine pure_ (i := 6) (N := some 31) (v := ?_) (a' := ?_) #[true, true, false, false, true, false, true, false, false, false, false, false] rfl rfl (any_of HT_.out (by kernel_rfl)) (fun _ _ _ h => h) (Or.inl ⟨by rfl, ?_⟩) ?_ ?_
        rotate_left
        ·intro w'
         go_simp
         with_reducible rfl
        rotate_left
        ·simp only [Act.put, List.setIfInBounds_toArray, List.set_cons_zero, List.set_cons_succ, i64_w, i32_w]
         rfl
        refine take_ (i := 2) (N := some 27) (v := ?_) (a' := ?_) #[true, true, true, false, true, false, true, false, false, false, false, false] rfl rfl (take_ofW HT_.out HW_.out (by kernel_rfl)) (fun _ _ _ h => h) (Or.inl ⟨by rfl, ?_⟩) hHeld ?_ ?_
        rotate_left
        ·rintro w' ⟨s0, s1, s2, s3, s4, s5, s6⟩
         go_simp
         with_reducible rfl
        rotate_left
        ·simp only [Act.put, List.setIfInBounds_toArray, List.set_cons_zero, List.set_cons_succ, i64_w, i32_w]
         rfl
        refine take_ (i := 5) (N := some 30) (v := ?_) (a' := ?_) #[true, true, true, false, true, true, true, false, false, false, false, false] rfl rfl (take_ofW HT_.out HW_.out (by kernel_rfl)) (fun _ _ _ h => h) (Or.inl ⟨by rfl, ?_⟩) hHeld ?_ ?_
        rotate_left
        ·rintro w' ⟨s0, s1, s2, s3, s4, s5, s6⟩
         go_simp
         with_reducible rfl
        rotate_left
        ·simp only [Act.put, List.setIfInBounds_toArray, List.set_cons_zero, List.set_cons_succ, i64_w, i32_w]
         rfl
        refine pure_ (i := 7) (N := some 32) (v := ?_) (a' := ?_) #[true, true, true, false, true, true, true, true, false, false, false, false] rfl rfl (any_of HT_.out (by kernel_rfl)) (fun _ _ _ h => h) (Or.inl ⟨by rfl, ?_⟩) ?_ ?_
        rotate_left
        ·intro w'
         go_simp
         with_reducible rfl
        rotate_left
        ·simp only [Act.put, List.setIfInBounds_toArray, List.set_cons_zero, List.set_cons_succ, i64_w, i32_w]
         rfl
        refine take_ (i := 8) (N := some 33) (v := ?_) (a' := ?_) #[true, true, true, false, true, true, true, true, true, false, false, false] rfl rfl (take_ofW HT_.out HW_.out (by kernel_rfl)) (fun _ _ _ h => h) (Or.inl ⟨by rfl, ?_⟩) hHeld ?_ ?_
        rotate_left
        ·rintro w' ⟨s0, s1, s2, s3, s4, s5, s6⟩
         go_simp
         with_reducible rfl
        rotate_left
        ·simp only [Act.put, List.setIfInBounds_toArray, List.set_cons_zero, List.set_cons_succ, i64_w, i32_w]
         rfl
        refine take_ (i := 9) (N := some 34) (v := ?_) (a' := ?_) #[true, true, true, false, true, true, true, true, true, true, false, false] rfl rfl (take_ofW HT_.out HW_.out (by kernel_rfl)) (fun _ _ _ h => h) (Or.inl ⟨by rfl, ?_⟩) hHeld ?_ ?_
        rotate_left
        ·rintro w' ⟨s0, s1, s2, s3, s4, s5, s6⟩
         go_simp
         with_reducible rfl
        rotate_left
        ·simp only [Act.put, List.setIfInBounds_toArray, List.set_cons_zero, List.set_cons_succ, i64_w, i32_w]
         rfl
        refine one_ (i := 3) (N := some 28) #[true, true, true, true, true, true, true, true, true, true, false, false] rfl rfl (one_of HT_.out (by kernel_rfl)) (by decide) (fun K hK => ?_)
        refine goes_ Try.func65 (by kernel_rfl) rfl #[.slice Ao19 x3_1.length co19, .string (strOfNums (rd_L1 l0_1 x20_1))] (by rfl) rfl rfl zl_ ?_
        with_reducible refine (ladingref03_Text.calls k1 _ _ x3_1 (strOfNums (rd_L1 l0_1 x20_1)) t328 _ ?side1 ?side2 A15.out).mono ?_
        (case side1 => repeat (first | exact (Kd.R_reads' HO_3.out).2.2 | (with_reducible refine Kd.C_alloc ?_ _) | (with_reducible refine Kd.C_drewN ?_ _) | (with_reducible refine Kd.C_drew ?_)))
        (case side2 => exact (Kd.R_reads' HO_3.out).2.1)
        rintro e w20 ⟨v329, rfl, ho0, hb⟩
        refine ⟨_, rfl, ?_⟩
        have n0_ := Aside0.mk (Kd.R_elder' (zR_ HO_3.out) (Kd.R_base ho0) hb)
        have n1_ := Aside0.mk (Kd.R_lower (Kd.R_new' ho0 (Kd.R_lt (zR_ HO_3.out))) (below_size (zh1_ HB.out GE320.out)))
        have n2_ := Aside0.mk (blk_below (g := gb320) (o := .cells #[.bool true, .slice (some ad327) l0_1.length c0_1, .slice (some ad331) l0_2.length c0_2, .slice A0_3 l0_3.length c0_3] 26 (0, 0)) (zb_ BK320.out) hb)
        have n3_ := Aside0.mk (below_step (zh1_ HB.out GE320.out) hb)
        clear HO_3
        clear BK320
        clear HB
        have HO_3 := n0_
        have HO330 := n1_
        have BK320 := n2_
        have HB := n3_
        clear n0_ n1_ n2_ n3_
        (try clear hb)
        (try clear hb2)
        (try clear hk)
        (try clear hi)
        (try clear ho0)
        obtain ⟨Ao21, co21, eo21⟩ := Kd.R_slice HO330.out
        (first | subst eo21 | (injection eo21 with f1_ f2_ f3_; have f4_ := f1_.symm; have f5_ := f3_.symm; clear f1_ f2_ f3_; subst f4_; subst f5_))
        refine hK.out _ _ ⟨(blk_cell BK320.out 0).trans rfl, (blk_cell BK320.out 1).trans rfl, (blk_cell BK320.out 2).trans rfl, (blk_cell BK320.out 3).trans rfl, (Kd.C_string (P := Try.prog) (A := A327_0) (c := c327_0) Try.underlying27 Try.underlying5 Try.underlying9 (Kd.C_below HR327_0.out HB.out)), ((HB.out.cell (World.block_lt_of_cell? w _ hw331_0)).trans hw331_0), (Kd.C_string (P := Try.prog) (A := A331_0) (c := c331_0) Try.underlying27 Try.underlying5 Try.underlying9 (Kd.C_below HR331_0.out HB.out))⟩ (fun hHeld => ?_)
        clear hK K
        refine norm_ (a' := ?_) ?_ ?_
        rotate_left
        ·show Act.put _ (some 28) _ = _
         simp only [Act.put, List.setIfInBounds_toArray, List.set_cons_zero, List.set_cons_succ, i64_w, i32_w]
         rfl
        refine one_ (i := 10) (N := some 35) #[true, true, true, true, true, true, true, true, true, true, true, false] rfl rfl (one_of HT_.out (by kernel_rfl)) (by decide) (fun K hK => ?_)
        refine goes_ Try.func65 (by kernel_rfl) rfl #[.slice Ao21 t328.length co21, .string (strOfNums (rd_L1 l0_2 x20_1))] (by rfl) rfl rfl zl_ ?_
        with_reducible refine (ladingref03_Text.calls k1 _ _ t328 (strOfNums (rd_L1 l0_2 x20_1)) t332 _ ?side1 ?side2 A17.out).mono ?_
        (case side1 => repeat (first | exact (Kd.R_reads' HO330.out).2.2 | (with_reducible refine Kd.C_alloc ?_ _) | (with_reducible refine Kd.C_drewN ?_ _) | (with_reducible refine Kd.C_drew ?_)))
        (case side2 => exact (Kd.R_reads' HO330.out).2.1)
        rintro e w22 ⟨v333, rfl, ho0, hb⟩
        refine ⟨_, rfl, ?_⟩
        have n0_ := Aside0.mk (Kd.R_elder' (zR_ HO_3.out) (Kd.R_base ho0) hb)
        have n1_ := Aside0.mk (Kd.R_elder' (zR_ HO330.out) (Kd.R_base ho0) hb)
        have n2_ := Aside0.mk (Kd.R_lower (Kd.R_new' (Kd.R_new' ho0 (Kd.R_lt (zR_ HO_3.out))) (Kd.R_lt (zR_ HO330.out))) (below_size (zh1_ HB.out GE320.out)))
        have n3_ := Aside0.mk (blk_below (g := gb320) (o := .cells #[.bool true, .slice (some ad327) l0_1.length c0_1, .slice (some ad331) l0_2.length c0_2, .slice A0_3 l0_3.length c0_3] 26 (0, 0)) (zb_ BK320.out) hb)
        have n4_ := Aside0.mk (below_step (zh1_ HB.out GE320.out) hb)
        clear HO_3
        clear HO330
        clear BK320
        clear HB
        have HO_3 := n0_
        have HO330 := n1_
        have HO334 := n2_
        have BK320 := n3_
        have HB := n4_
        clear n0_ n1_ n2_ n3_ n4_
        (try clear hb)
        (try clear hb2)
        (try clear hk)
        (try clear hi)
        (try clear ho0)
        refine hK.out _ _ ⟨(blk_cell BK320.out 0).trans rfl, (blk_cell BK320.out 1).trans rfl, (blk_cell BK320.out 2).trans rfl, (blk_cell BK320.out 3).trans rfl, (Kd.C_string (P := Try.prog) (A := A327_0) (c := c327_0) Try.underlying27 Try.underlying5 Try.underlying9 (Kd.C_below HR327_0.out HB.out)), ((HB.out.cell (World.block_lt_of_cell? w _ hw331_0)).trans hw331_0), (Kd.C_string (P := Try.prog) (A := A331_0) (c := c331_0) Try.underlying27 Try.underlying5 Try.underlying9 (Kd.C_below HR331_0.out HB.out))⟩ (fun hHeld => ?_)
        clear hK K
        refine norm_ (a' := ?_) ?_ ?_
        rotate_left
        ·show Act.put _ (some 35) _ = _
         simp only [Act.put, List.setIfInBounds_toArray, List.set_cons_zero, List.set_cons_succ, i64_w, i32_w]
         rfl
        refine pure_ (i := 11) (N := some 3) (v := ?_) (a' := ?_) #[true, true, true, true, true, true, true, true, true, true, true, true] rfl rfl (any_of HT_.out (by kernel_rfl)) (fun _ _ _ h => h) (Or.inl ⟨by rfl, ?_⟩) ?_ ?_
        rotate_left
        ·intro w'
         go_simp
         with_reducible rfl
        rotate_left
        ·simp only [Act.put, List.setIfInBounds_toArray, List.set_cons_zero, List.set_cons_succ, i64_w, i32_w]
         rfl
        refine done_ (done_of HT_.out (by kernel_rfl)) ?_
        try go_wp2
        go_roundg k1
        case measure => have := HK1.out; omega
        case rel => exact ⟨(t332), (wrap64 (x20_1 + 1)), (by first | rfl | (simp; done) | (simp [*]; done) | (simp only [i64_w]; done)), H', ⟨by have := HK1.out; omega⟩, ⟨by (with_reducible repeat (first | apply Kd.R_alloc | apply Kd.R_drewN | apply Kd.R_drew)); exact Kd.R_mono HO334.out (fun _ hk => trivial)⟩, ⟨by (with_reducible repeat (first | refine blk_drewN ?_ _ | refine blk_drew ?_ | refine blk_alloc ?_ _)); exact BK320.out⟩, ⟨by exact zh1_ HB.out GE320.out⟩⟩
       ·rw [if_neg c16] at H
        exact absurd H (by simp)
      ·rw [if_neg c14] at H
       exact absurd H (by simp)
     ·rw [if_neg c13] at H
      exact absurd H (by simp)
    ·rw [if_neg c12] at H
     have c12b0 : decide (x20_1 < (l0_1.length : Int)) = false := decide_eq_false c12
     clear c12
     obtain rfl := Option.some.inj H
     go_wp2
     go_ret
     exact ⟨_, by first | rfl | (simp [errW_none, errW_some] <;> rfl) | (simp [*, errW_none, errW_some] <;> rfl), by (with_reducible repeat (first | apply Kd.R_alloc | apply Kd.R_drewN | apply Kd.R_drew)); exact HO_3.out, by exact zh1_ HB.out GE320.out⟩
 ·replace c2 := Bool.eq_false_iff.mpr c2
  subst c2
  have H1 : ((ladingref03_Num.f k (([2] : List Int)) (IntKind.u64.wrap ((l0_1.length : Int)))).bind fun t338 => (if 0 < (l0_3.length : Int) then ((ladingref03_Num.f k t338 (IntKind.u64.wrap (rd l0_3 0))).bind fun t342 => (ladingref06_text.l1 k t342 l0_1 (l0_1.length : Int) 0 false l0_1 l0_2 l0_3)) else (none))) = some r := by rw [if_neg (show ¬ (false = true) by decide)] at H; exact H
  clear H
  have H := H1
  clear H1
  obtain ⟨y335, hy335⟩ : ∃ y_ : List Int, y_ = (([2] : List Int)) := ⟨_, rfl⟩
  replace H : ((ladingref03_Num.f k y335 (IntKind.u64.wrap ((l0_1.length : Int)))).bind fun t338 => (if 0 < (l0_3.length : Int) then ((ladingref03_Num.f k t338 (IntKind.u64.wrap (rd l0_3 0))).bind fun t342 => (ladingref06_text.l1 k t342 l0_1 (l0_1.length : Int) 0 false l0_1 l0_2 l0_3)) else (none))) = some r := by first | (rw [hy335]; with_reducible exact H) | (have H2_ := (Option.bind_some _ _).symm.trans H; rw [hy335]; with_reducible exact H2_) | (have H2_ := (Option.bind_some _ _).symm.trans H; with_reducible exact H2_) | with_reducible exact H | (rw [hy335]; exact H) | exact H
  have Ny335 := Aside0.mk hy335
  clear hy335
  replace H := Option.bind_eq_some_iff.mp H
  obtain ⟨t338, A230, H⟩ := H
  replace H : (if 0 < (l0_3.length : Int) then ((ladingref03_Num.f k t338 (IntKind.u64.wrap (rd l0_3 0))).bind fun t342 => (ladingref06_text.l1 k t342 l0_1 (l0_1.length : Int) 0 false l0_1 l0_2 l0_3)) else (none)) = some r := H
  have A23 := Aside0.mk A230
  clear A230
  by_cases c24 : 0 < (l0_3.length : Int)
  ·rw [if_pos c24] at H
   have c24b0 : decide (0 < (l0_3.length : Int)) = true := decide_eq_true c24
   have c24b1 : decide (0 < l0_3.length) = true := decide_eq_true (by omega)
   clear c24
   replace H := Option.bind_eq_some_iff.mp H
   obtain ⟨t342, A250, H⟩ := H
   replace H : (ladingref06_text.l1 k t342 l0_1 (l0_1.length : Int) 0 false l0_1 l0_2 l0_3) = some r := H
   have A25 := Aside0.mk A250
   clear A250
   have H' := Aside0.mk H
   clear H
   go_enter Try.func53, Try.ntmps53
   go_wp2_with (first | ((with_reducible refine gate_dst (N := 1) rfl ?_); refine box_event ?hg (N := 1) ?hd (cs := #[.bool false, .slice A0_1 l0_1.length c0_1, .slice A0_2 l0_2.length c0_2, .slice A0_3 l0_3.length c0_3]) (t := 26) ?hr ?_; (case hd => rfl); (case hg => rfl); (case hr => first | (go_simp; done) | (go_simp; rfl)); intro gb320 hg w26 hbox hb; have n0_ := Aside0.mk (below_step (zh0_ HB.out) hb); have n1_ := Aside0.mk (hbox); have n2_ := Aside0.mk ((by rw [hg]; exact (below_size (zh0_ HB.out)) : w.heap.size ≤ gb320)); have n3_ := Aside0.mk ((by rw [hg]; exact (below_size (zh0_ HB.out)) : w.heap.size ≤ gb320)); clear HB; have HB := n0_; have BK320 := n1_; have GW320 := n2_; have GE320 := n3_; clear n0_ n1_ n2_ n3_; clear hb hbox hg; obtain ⟨hcz27_0, hcz27_1, hcz27_2, hcz27_3⟩ := zc4 BK320.out; obtain ⟨hfz27_0, hfz27_1, hfz27_2, hfz27_3⟩ := zz4 BK320.out) | ((with_reducible refine gate_dst (N := 38) rfl ?_); refine Kd.R_lit (Kd.int .u8) _ 5 ?hg (N := 38) ?hd (xs := ([2] : List Int)) (inner := [.int .u8 2]) (ok := fun _ => True) (okp := fun _ => True) ?hr ?hp (fun _ hk => hk) trivial (Below.refl _ _) (Nat.le_refl _) (by simp) ?_; (case hd => rfl); (case hg => rfl); (case hr => first | (go_simp; done) | (go_simp; rfl)); (case hp => exact (Reps.one (show Kd.M (Kd.int .u8) _ _ _ 2 [.int .u8 2] from rfl) (Reps.none _ _))); intro v336 w28 ho29 hb hg_ hnew_; clear hg_ hnew_; (first | rw [← Ny335.out] at ho29 | (simp only [Int.reduceToNat] at ho29; rw [← Ny335.out] at ho29)); have n0_ := Aside0.mk (Kd.R_lower ho29 (below_size (zh1_ HB.out GE320.out))); have n1_ := Aside0.mk (blk_below (g := gb320) (o := .cells #[.bool false, .slice A0_1 l0_1.length c0_1, .slice A0_2 l0_2.length c0_2, .slice A0_3 l0_3.length c0_3] 26 (0, 0)) (zb_ BK320.out) hb); have n2_ := Aside0.mk (below_step (zh1_ HB.out GE320.out) hb); clear BK320; clear HB; have HO337 := n0_; have BK320 := n1_; have HB := n2_; clear n0_ n1_ n2_; clear hb ho29; obtain ⟨hcz30_0, hcz30_1, hcz30_2, hcz30_3⟩ := zc4 BK320.out; obtain ⟨hfz30_0, hfz30_1, hfz30_2, hfz30_3⟩ := zz4 BK320.out; obtain ⟨Ao31, co31, eo31⟩ := Kd.R_slice HO337.out; subst eo31) | ((with_reducible refine gate_callee (f := 64) rfl ?_); refine goesL_ (some 43) rfl rfl Try.func64 (by kernel_rfl) rfl #[.slice Ao31 y335.length co31, .int .u64 (IntKind.u64.wrap ((l0_1.length : Int)))] rfl zl_ ?_; (with_reducible refine (ladingref03_Num.calls k _ _ y335 (IntKind.u64.wrap ((l0_1.length : Int))) t338 _ ?side1 ?side2 A23.out).mono ?_); (case side1 => repeat (first | exact (Kd.R_reads' HO337.out).2.2 | (with_reducible refine Kd.C_alloc ?_ _) | (with_reducible refine Kd.C_drewN ?_ _) | (with_reducible refine Kd.C_drew ?_))); (case side2 => exact (Kd.R_reads' HO337.out).2.1); rintro e w32 ⟨v339, rfl, ho0, hb⟩; refine ⟨_, rfl, ?_⟩; have n0_ := Aside0.mk (Kd.R_elder' (zR_ HO337.out) (Kd.R_base ho0) hb); have n1_ := Aside0.mk (Kd.R_lower (Kd.R_new' ho0 (Kd.R_lt (zR_ HO337.out))) (below_size (zh1_ HB.out GE320.out))); have n2_ := Aside0.mk (blk_below (g := gb320) (o := .cells #[.bool false, .slice A0_1 l0_1.length c0_1, .slice A0_2 l0_2.length c0_2, .slice A0_3 l0_3.length c0_3] 26 (0, 0)) (zb_ BK320.out) hb); have n3_ := Aside0.mk (below_step (zh1_ HB.out GE320.out) hb); clear HO337; clear BK320; clear HB; have HO337 := n0_; have HO340 := n1_; have BK320 := n2_; have HB := n3_; clear n0_ n1_ n2_ n3_; (try clear hb); (try clear hb2); (try clear hk); (try clear hi); (try clear ho0); obtain ⟨hcz33_0, hcz33_1, hcz33_2, hcz33_3⟩ := zc4 BK320.out; obtain ⟨hfz33_0, hfz33_1, hfz33_2, hfz33_3⟩ := zz4 BK320.out; have p341 : 0 ≤ (0 : Int) := (by omega); have q341 : 0 < (l0_3.length : Int) := of_decide_eq_true za_; obtain ⟨ad341, e341, hx341_0⟩ := Kd.at_int HR0_3.out 0 p341 q341; cases e341; have qi341 : (0 < l0_3.length) = True := eq_true (by omega); (try rw [show ((0 : Int)).toNat = 0 from rfl] at hx341_0); (try rw [Addr.add_zero'] at hx341_0); replace hx341_0 := (HB.out.cell (World.block_lt_of_cell? w _ hx341_0)).trans hx341_0; replace p341 := eq_true p341; replace q341 := eq_true q341; obtain ⟨Ao34, co34, eo34⟩ := Kd.R_slice HO340.out; subst eo34) | ((with_reducible refine gate_callee (f := 64) rfl ?_); refine goesL_ (some 50) rfl rfl Try.func64 (by kernel_rfl) rfl #[.slice Ao34 t338.length co34, .int .u64 (IntKind.u64.wrap (rd l0_3 0))] rfl zl_ ?_; (with_reducible refine (ladingref03_Num.calls k _ _ t338 (IntKind.u64.wrap (rd l0_3 0)) t342 _ ?side1 ?side2 A25.out).mono ?_); (case side1 => repeat (first | exact (Kd.R_reads' HO340.out).2.2 | (with_reducible refine Kd.C_alloc ?_ _) | (with_reducible refine Kd.C_drewN ?_ _) | (with_reducible refine Kd.C_drew ?_))); (case side2 => exact (Kd.R_reads' HO340.out).2.1); rintro e w35 ⟨v343, rfl, ho0, hb⟩; refine ⟨_, rfl, ?_⟩; have n0_ := Aside0.mk (Kd.R_elder' (zR_ HO337.out) (Kd.R_base ho0) hb); have n1_ := Aside0.mk (Kd.R_elder' (zR_ HO340.out) (Kd.R_base ho0) hb); have n2_ := Aside0.mk (Kd.R_lower (Kd.R_new' (Kd.R_new' ho0 (Kd.R_lt (zR_ HO337.out))) (Kd.R_lt (zR_ HO340.out))) (below_size (zh1_ HB.out GE320.out))); have n3_ := Aside0.mk (blk_below (g := gb320) (o := .cells #[.bool false, .slice A0_1 l0_1.length c0_1, .slice A0_2 l0_2.length c0_2, .slice (some ad341) l0_3.length c0_3] 26 (0, 0)) (zb_ BK320.out) hb); have n4_ := Aside0.mk (below_step (zh1_ HB.out GE320.out) hb); clear HO337; clear HO340; clear BK320; clear HB; have HO337 := n0_; have HO340 := n1_; have HO344 := n2_; have BK320 := n3_; have HB := n4_; clear n0_ n1_ n2_ n3_ n4_; (try clear hb); (try clear hb2); (try clear hk); (try clear hi); (try clear ho0); obtain ⟨hcz36_0, hcz36_1, hcz36_2, hcz36_3⟩ := zc4 BK320.out; obtain ⟨hfz36_0, hfz36_1, hfz36_2, hfz36_3⟩ := zz4 BK320.out))
   go_loopg [6, 54] k (fun kq v6 v54 w' => ∃ (x6_1 : List Int) (x54_1 : Int), v54 = .int .i64 x54_1 ∧ Aside0 (ladingref06_text.l1 kq x6_1 l0_1 (l0_1.length : Int) x54_1 false l0_1 l0_2 l0_3 = some r) ∧ Aside0 (kq ≤ k) ∧ Aside0 (Kd.R (Kd.int .u8) 5 w' w.heap.size (fun _ => True) v6 x6_1) ∧ Aside0 (w'.heap[gb320]? = some (.cells #[.bool false, (.slice A0_1 l0_1.length c0_1), (.slice A0_2 l0_2.length c0_2), (.slice (some ad341) l0_3.length c0_3)] 26 (0, 0))) ∧ Aside0 (Below w.heap.size w w'))
   case atStart => exact ⟨(t342), (0), (by first | rfl | (simp; done) | (simp [*]; done) | (simp only [i64_w]; done)), H', ⟨Nat.le_refl _⟩, ⟨by (with_reducible repeat (first | apply Kd.R_alloc | apply Kd.R_drewN | apply Kd.R_drew)); exact Kd.R_mono HO344.out (fun _ hk => trivial)⟩, ⟨by (with_reducible repeat (first | refine blk_drewN ?_ _ | refine blk_drew ?_ | refine blk_alloc ?_ _)); exact BK320.out⟩, ⟨by exact zh1_ HB.out GE320.out⟩⟩
   case round =>
    clear H'
    try clear c1
    try clear c2
    try clear p2
    try clear c3
    try clear p3
    try clear q3
    try clear hx3
    try clear qi3
    try clear c5
    try clear c6
    try clear p6
    try clear c12
    try clear c12b0
    try clear c13
    try clear c13b0
    try clear c14
    try clear c14b0
    try clear c16
    try clear c16b0
    try clear c24
    try clear c24b0
    try clear c24b1
    try clear c32
    try clear p32
    try clear q32
    try clear hx32
    try clear c33
    try clear p33
    try clear q33
    try clear hx33
    try clear p34
    try clear q34
    try clear hx34
    try clear qi34
    try clear hcz11_0
    try clear hcz11_1
    try clear hcz11_2
    try clear hcz11_3
    try clear hcz27_0
    try clear hcz27_1
    try clear hcz27_2
    try clear hcz27_3
    try clear hcz30_0
    try clear hcz30_1
    try clear hcz30_2
    try clear hcz30_3
    try clear hcz33_0
    try clear hcz33_1
    try clear hcz33_2
    try clear hcz33_3
    try clear hcz36_0
    try clear hcz36_1
    try clear hcz36_2
    try clear hcz36_3
    try clear hcz5_0
    try clear hcz5_1
    try clear hcz5_2
    try clear hcz5_3
    try clear hcz8_0
    try clear hcz8_1
    try clear hcz8_2
    try clear hcz8_3
    try clear hfz11_0
    try clear hfz11_1
    try clear hfz11_2
    try clear hfz11_3
    try clear hfz27_0
    try clear hfz27_1
    try clear hfz27_2
    try clear hfz27_3
    try clear hfz30_0
    try clear hfz30_1
    try clear hfz30_2
    try clear hfz30_3
    try clear hfz33_0
    try clear hfz33_1
    try clear hfz33_2
    try clear hfz33_3
    try clear hfz36_0
    try clear hfz36_1
    try clear hfz36_2
    try clear hfz36_3
    try clear hfz5_0
    try clear hfz5_1
    try clear hfz5_2
    try clear hfz5_3
    try clear hfz8_0
    try clear hfz8_1
    try clear hfz8_2
    try clear hfz8_3
    try clear hx327_0
    try clear hx331_0
    try clear hx341_0
    try clear p2
    try clear p327
    try clear p331
    try clear p341
    try clear q327
    try clear q331
    try clear q341
    (try clear BK320)
    obtain ⟨x6_1, x54_1, rfl, HA, HK1, HO_6, BK320, HB⟩ := hrel
    cases gk with
    | zero => exact absurd HA.out (by simp [ladingref06_text.l1])
    | succ k1 =>
     have H := HA.out
     clear HA
     simp only [ladingref06_text.l1] at H
     by_cases c37 : x54_1 < (l0_1.length : Int)
     ·rw [if_pos c37] at H
      have c37b0 : decide (x54_1 < (l0_1.length : Int)) = true := decide_eq_true c37
      clear c37
      by_cases c38 : 0 ≤ x54_1
      ·rw [if_pos c38] at H
       have c38b0 : decide (0 ≤ x54_1) = true := decide_eq_true c38
       clear c38
       by_cases c39 : x54_1 < (l0_1.length : Int)
       ·rw [if_pos c39] at H
        have c39b0 : decide (x54_1 < (l0_1.length : Int)) = true := decide_eq_true c39
        clear c39
        replace H := Option.bind_eq_some_iff.mp H
        obtain ⟨t346, A400, H⟩ := H
        replace H : (if 0 ≤ (wrap64 (x54_1 + 1)) then (if (wrap64 (x54_1 + 1)) < (l0_3.length : Int) then ((ladingref03_Num.f k1 t346 (IntKind.u64.wrap (rd l0_3 (wrap64 (x54_1 + 1))))).bind fun t350 => (ladingref06_text.l1 k1 t350 l0_1 (l0_1.length : Int) (wrap64 (x54_1 + 1)) false l0_1 l0_2 l0_3)) else (none)) else (none)) = some r := H
        have A40 := Aside0.mk A400
        clear A400
        obtain ⟨ji41, hji41⟩ : ∃ j_ : Int, (wrap64 (x54_1 + 1)) = j_ := ⟨_, rfl⟩
        replace H : (if 0 ≤ (ji41) then (if (ji41) < (l0_3.length : Int) then ((ladingref03_Num.f k1 t346 (IntKind.u64.wrap (rd l0_3 (ji41)))).bind fun t350 => (ladingref06_text.l1 k1 t350 l0_1 (l0_1.length : Int) ji41 false l0_1 l0_2 l0_3)) else (none)) else (none)) = some r := by first | (rw [hji41] at H; exact H) | (simp only [hji41] at H ⊢; exact H)
        (try rw [hji41] at A40)
        have hji41w : (IntKind.i64.wrap (x54_1 + 1)) = ji41 := (i64_w _).trans hji41
        by_cases c42 : 0 ≤ (ji41)
        ·rw [if_pos c42] at H
         have c42b0 : decide (0 ≤ (ji41)) = true := decide_eq_true c42
         clear c42
         by_cases c43 : (ji41) < (l0_3.length : Int)
         ·rw [if_pos c43] at H
          have c43b0 : decide ((ji41) < (l0_3.length : Int)) = true := decide_eq_true c43
          clear c43
          replace H := Option.bind_eq_some_iff.mp H
          obtain ⟨t350, A440, H⟩ := H
          replace H : (ladingref06_text.l1 k1 t350 l0_1 (l0_1.length : Int) ji41 false l0_1 l0_2 l0_3) = some r := H
          have A44 := Aside0.mk A440
          clear A440
          have H' := Aside0.mk H
          clear H
          have p345 : 0 ≤ (x54_1 : Int) := of_decide_eq_true za_
          have q345 : x54_1 < (l0_1.length : Int) := of_decide_eq_true za_
          obtain ⟨ad345, A345_0, c345_0, e345, hx345_0, hl345_0, hi345_0⟩ := at_L1 HR0_1.out x54_1 p345 q345
          cases e345
          replace hx345_0 := (HB.out.cell (World.block_lt_of_cell? w _ hx345_0)).trans hx345_0
          have HR345_0 := Aside0.mk hi345_0
          have HC345_0 := Aside0.mk hl345_0
          clear hi345_0 hl345_0
          replace p345 := eq_true p345
          replace q345 := eq_true q345
          try go_wp2
          have n0_ := Aside0.mk (Kd.R_drew HO_6.out)
          have n1_ := Aside0.mk (blk_drew BK320.out)
          have n2_ := Aside0.mk (below_drew1 HB.out)
          clear HO_6
          clear BK320
          clear HB
          have HO_6 := n0_
          have BK320 := n1_
          have HB := n2_
          clear n0_ n1_ n2_
          have p349 : 0 ≤ ((ji41) : Int) := of_decide_eq_true za_
          have q349 : (ji41) < (l0_3.length : Int) := of_decide_eq_true za_
          obtain ⟨ad349, e349, hx349_0⟩ := Kd.at_int HR0_3.out (ji41) p349 q349
          have hw349_0 := hx349_0
          obtain rfl : ad341 = ad349 := (by injection e349)
          replace hx349_0 := (HB.out.cell (World.block_lt_of_cell? w _ hx349_0)).trans hx349_0
          replace p349 := eq_true p349
          replace q349 := eq_true q349
          obtain ⟨Ao46, co46, eo46⟩ := Kd.R_slice HO_6.out
          (first | subst eo46 | (injection eo46 with f1_ f2_ f3_; have f4_ := f1_.symm; have f5_ := f3_.symm; clear f1_ f2_ f3_; subst f4_; subst f5_))
          refine start_ (n := 13) (S := fun w' => w'.cell? ⟨gb320, 0, none⟩ = some (.bool false) ∧ w'.cell? ⟨gb320, 1, none⟩ = some (.slice (some ad345) l0_1.length c0_1) ∧ w'.cell? ⟨gb320, 2, none⟩ = some (.slice A0_2 l0_2.length c0_2) ∧ w'.cell? ⟨gb320, 3, none⟩ = some (.slice (some ad341) l0_3.length c0_3) ∧ (convert 27 9 (.slice A345_0 (rd_L1 l0_1 x54_1).length c345_0)).run Try.prog w' = .ok (.string (strOfNums (rd_L1 l0_1 x54_1))) w' ∧ w'.cell? (ad341.add ((ji41)).toNat) = some (.int .i64 (rd l0_3 (ji41)))) (ds := []) #[false, false, false, false, false, false, false, false, false, false, false, false, false] (by kernel_rfl) rfl rfl ⟨(blk_cell BK320.out 0).trans rfl, (blk_cell BK320.out 1).trans rfl, (blk_cell BK320.out 2).trans rfl, (blk_cell BK320.out 3).trans rfl, (Kd.C_string (P := Try.prog) (A := A345_0) (c := c345_0) Try.underlying27 Try.underlying5 Try.underlying9 (Kd.C_below HR345_0.out HB.out)), ((HB.out.cell (World.block_lt_of_cell? w _ hw349_0)).trans hw349_0)⟩ (fun hHeld => ?_); refine with_tabW ladingref06_text.tab14 ladingref06_text.bits14 (fun HT_ HW_ => ?_)
          generalize wr.drew = w45 at HO_6 BK320 HB hx349_0 hHeld ⊢
          refine pure_ (i := 0) (N := some 59) (v := ?_) (a' := ?_) #[true, false, false, false, false, false, false, false, false, false, false, false, false] rfl rfl (any_of HT_.out (by kernel_rfl)) (fun _ _ _ h => h) (Or.inl ⟨by rfl, ?_⟩) ?_ ?_
          rotate_left
          ·intro w'
           go_simp
           with_reducible rfl
          rotate_left
          ·simp only [Act.put, List.setIfInBounds_toArray, List.set_cons_zero, List.set_cons_succ, i64_w, i32_w]
           rfl
          refine pure_ (i := 1) (N := some 60) (v := ?_) (a' := ?_) #[true, true, false, false, false, false, false, false, false, false, false, false, false] rfl rfl (any_of HT_.out (by kernel_rfl)) (fun _ _ _ h => h) (Or.inl ⟨by rfl, ?_⟩) ?_ ?_
          rotate_left
          ·intro w'
           go_simp
           with_reducible rfl
          rotate_left
          ·simp only [Act.put, List.setIfInBounds_toArray, List.set_cons_zero, List.set_cons_succ, i64_w, i32_w]
           rfl
          refine pure_ (i := 4) (N := some 63) (v := ?_) (a' := ?_) #[true, true, false, false, true, false, false, false, false, false, false, false, false] rfl rfl (any_of HT_.out (by kernel_rfl)) (fun _ _ _ h => h) (Or.inl ⟨by rfl, ?_⟩) ?_ ?_
          rotate_left
          ·intro w'
           go_simp
           with_reducible rfl
          rotate_left
          ·simp only [Act.put, List.setIfInBounds_toArray, List.set_cons_zero, List.set_cons_succ, i64_w, i32_w]
           rfl
          refine pure_ (i := 6) (N := some 65) (v := ?_) (a' := ?_) #[true, true, false, false, true, false, true, false, false, false, false, false, false] rfl rfl (any_of HT_.out (by kernel_rfl)) (fun _ _ _ h => h) (Or.inl ⟨by rfl, ?_⟩) ?_ ?_
          rotate_left
          ·intro w'
           go_simp
           with_reducible rfl
          rotate_left
          ·simp only [Act.put, List.setIfInBounds_toArray, List.set_cons_zero, List.set_cons_succ, i64_w, i32_w]
           rfl
          refine pure_ (i := 7) (N := some 66) (v := ?_) (a' := ?_) #[true, true, false, false, true, false, true, true, false, false, false, false, false] rfl rfl (any_of HT_.out (by kernel_rfl)) (fun _ _ _ h => h) (Or.inl ⟨by rfl, ?_⟩) ?_ ?_
          rotate_left
          ·intro w'
           go_simp
           with_reducible rfl
          rotate_left
          ·simp only [Act.put, List.setIfInBounds_toArray, List.set_cons_zero, List.set_cons_succ, i64_w, i32_w]
           rfl
          refine take_ (i := 2) (N := some 61) (v := ?_) (a' := ?_) #[true, true, true, false, true, false, true, true, false, false, false, false, false] rfl rfl (take_ofW HT_.out HW_.out (by kernel_rfl)) (fun _ _ _ h => h) (Or.inl ⟨by rfl, ?_⟩) hHeld ?_ ?_
          rotate_left
          ·rintro w' ⟨s0, s1, s2, s3, s4, s5⟩
           go_simp
           with_reducible rfl
          rotate_left
          ·simp only [Act.put, List.setIfInBounds_toArray, List.set_cons_zero, List.set_cons_succ, i64_w, i32_w]
           rfl
          refine take_ (i := 5) (N := some 64) (v := ?_) (a' := ?_) #[true, true, true, false, true, true, true, true, false, false, false, false, false] rfl rfl (take_ofW HT_.out HW_.out (by kernel_rfl)) (fun _ _ _ h => h) (Or.inl ⟨by rfl, ?_⟩) hHeld ?_ ?_
          rotate_left
          ·rintro w' ⟨s0, s1, s2, s3, s4, s5⟩
           go_simp
           with_reducible rfl
          rotate_left
          ·simp only [Act.put, List.setIfInBounds_toArray, List.set_cons_zero, List.set_cons_succ, i64_w, i32_w]
           rfl
          refine pure_ (i := 8) (N := some 67) (v := ?_) (a' := ?_) #[true, true, true, false, true, true, true, true, true, false, false, false, false] rfl rfl (any_of HT_.out (by kernel_rfl)) (fun _ _ _ h => h) (Or.inl ⟨by rfl, ?_⟩) ?_ ?_
          rotate_left
          ·intro w'
           go_simp
           with_reducible rfl
          rotate_left
          ·simp only [Act.put, List.setIfInBounds_toArray, List.set_cons_zero, List.set_cons_succ, i64_w, i32_w]
           rfl
          refine take_ (i := 9) (N := some 68) (v := ?_) (a' := ?_) #[true, true, true, false, true, true, true, true, true, true, false, false, false] rfl rfl (take_ofW HT_.out HW_.out (by kernel_rfl)) (fun _ _ _ h => h) (Or.inl ⟨by rfl, ?_⟩) hHeld ?_ ?_
          rotate_left
          ·rintro w' ⟨s0, s1, s2, s3, s4, s5⟩
           go_simp
           with_reducible rfl
          rotate_left
          ·simp only [Act.put, List.setIfInBounds_toArray, List.set_cons_zero, List.set_cons_succ, i64_w, i32_w]
           rfl
          refine pure_ (i := 10) (N := some 69) (v := ?_) (a' := ?_) #[true, true, true, false, true, true, true, true, true, true, true, false, false] rfl rfl (any_of HT_.out (by kernel_rfl)) (fun _ _ _ h => h) (Or.inl ⟨by rfl, ?_⟩) ?_ ?_
          rotate_left
          ·intro w'
           go_simp
           with_reducible rfl
          rotate_left
          ·simp only [Act.put, List.setIfInBounds_toArray, List.set_cons_zero, List.set_cons_succ, i64_w, i32_w]
           rfl
          refine one_ (i := 3) (N := some 62) #[true, true, true, true, true, true, true, true, true, true, true, false, false] rfl rfl (one_of HT_.out (by kernel_rfl)) (by decide) (fun K hK => ?_)
          refine goes_ Try.func65 (by kernel_rfl) rfl #[.slice Ao46 x6_1.length co46, .string (strOfNums (rd_L1 l0_1 x54_1))] (by rfl) rfl rfl zl_ ?_
          with_reducible refine (ladingref03_Text.calls k1 _ _ x6_1 (strOfNums (rd_L1 l0_1 x54_1)) t346 _ ?side1 ?side2 A40.out).mono ?_
          (case side1 => repeat (first | exact (Kd.R_reads' HO_6.out).2.2 | (with_reducible refine Kd.C_alloc ?_ _) | (with_reducible refine Kd.C_drewN ?_ _) | (with_reducible refine Kd.C_drew ?_)))
          (case side2 => exact (Kd.R_reads' HO_6.out).2.1)
          rintro e w47 ⟨v347, rfl, ho0, hb⟩
          refine ⟨_, rfl, ?_⟩
          have n0_ := Aside0.mk (Kd.R_elder' (zR_ HO_6.out) (Kd.R_base ho0) hb)
          have n1_ := Aside0.mk (Kd.R_lower (Kd.R_new' ho0 (Kd.R_lt (zR_ HO_6.out))) (below_size (zh1_ HB.out GE320.out)))
          have n2_ := Aside0.mk (blk_below (g := gb320) (o := .cells #[.bool false, .slice (some ad345) l0_1.length c0_1, .slice A0_2 l0_2.length c0_2, .slice (some ad341) l0_3.length c0_3] 26 (0, 0)) (zb_ BK320.out) hb)
          have n3_ := Aside0.mk (below_step (zh1_ HB.out GE320.out) hb)
          clear HO_6
          clear BK320
          clear HB
          have HO_6 := n0_
          have HO348 := n1_
          have BK320 := n2_
          have HB := n3_
          clear n0_ n1_ n2_ n3_
          (try clear hb)
          (try clear hb2)
          (try clear hk)
          (try clear hi)
          (try clear ho0)
          obtain ⟨Ao48, co48, eo48⟩ := Kd.R_slice HO348.out
          (first | subst eo48 | (injection eo48 with f1_ f2_ f3_; have f4_ := f1_.symm; have f5_ := f3_.symm; clear f1_ f2_ f3_; subst f4_; subst f5_))
          refine hK.out _ _ ⟨(blk_cell BK320.out 0).trans rfl, (blk_cell BK320.out 1).trans rfl, (blk_cell BK320.out 2).trans rfl, (blk_cell BK320.out 3).trans rfl, (Kd.C_string (P := Try.prog) (A := A345_0) (c := c345_0) Try.underlying27 Try.underlying5 Try.underlying9 (Kd.C_below HR345_0.out HB.out)), ((HB.out.cell (World.block_lt_of_cell? w _ hw349_0)).trans hw349_0)⟩ (fun hHeld => ?_)
          clear hK K
          refine norm_ (a' := ?_) ?_ ?_
          rotate_left
          ·show Act.put _ (some 62) _ = _
           simp only [Act.put, List.setIfInBounds_toArray, List.set_cons_zero, List.set_cons_succ, i64_w, i32_w]
           rfl
          refine one_ (i := 11) (N := some 70) #[true, true, true, true, true, true, true, true, true, true, true, true, false] rfl rfl (one_of HT_.out (by kernel_rfl)) (by decide) (fun K hK => ?_)
          refine goes_ Try.func64 (by kernel_rfl) rfl #[.slice Ao48 t346.length co48, .int .u64 (IntKind.u64.wrap (rd l0_3 (ji41)))] (by rfl) rfl rfl (by (try simp only [List.map_toArray, List.map_cons, List.map_nil]); first | done | (simp only [hji41]; rfl) | rfl | (simp only [List.length_drop, List.length_take]; rfl)) ?_
          with_reducible refine (ladingref03_Num.calls k1 _ _ t346 (IntKind.u64.wrap (rd l0_3 (ji41))) t350 _ ?side1 ?side2 A44.out).mono ?_
          (case side1 => repeat (first | exact (Kd.R_reads' HO348.out).2.2 | (with_reducible refine Kd.C_alloc ?_ _) | (with_reducible refine Kd.C_drewN ?_ _) | (with_reducible refine Kd.C_drew ?_)))
          (case side2 => exact (Kd.R_reads' HO348.out).2.1)
          rintro e w49 ⟨v351, rfl, ho0, hb⟩
          refine ⟨_, rfl, ?_⟩
          have n0_ := Aside0.mk (Kd.R_elder' (zR_ HO_6.out) (Kd.R_base ho0) hb)
          have n1_ := Aside0.mk (Kd.R_elder' (zR_ HO348.out) (Kd.R_base ho0) hb)
          have n2_ := Aside0.mk (Kd.R_lower (Kd.R_new' (Kd.R_new' ho0 (Kd.R_lt (zR_ HO_6.out))) (Kd.R_lt (zR_ HO348.out))) (below_size (zh1_ HB.out GE320.out)))
          have n3_ := Aside0.mk (blk_below (g := gb320) (o := .cells #[.bool false, .slice (some ad345) l0_1.length c0_1, .slice A0_2 l0_2.length c0_2, .slice (some ad341) l0_3.length c0_3] 26 (0, 0)) (zb_ BK320.out) hb)
          have n4_ := Aside0.mk (below_step (zh1_ HB.out GE320.out) hb)
          clear HO_6
          clear HO348
          clear BK320
          clear HB
          have HO_6 := n0_
          have HO348 := n1_
          have HO352 := n2_
          have BK320 := n3_
          have HB := n4_
          clear n0_ n1_ n2_ n3_ n4_
          (try clear hb)
          (try clear hb2)
          (try clear hk)
          (try clear hi)
          (try clear ho0)
          refine hK.out _ _ ⟨(blk_cell BK320.out 0).trans rfl, (blk_cell BK320.out 1).trans rfl, (blk_cell BK320.out 2).trans rfl, (blk_cell BK320.out 3).trans rfl, (Kd.C_string (P := Try.prog) (A := A345_0) (c := c345_0) Try.underlying27 Try.underlying5 Try.underlying9 (Kd.C_below HR345_0.out HB.out)), ((HB.out.cell (World.block_lt_of_cell? w _ hw349_0)).trans hw349_0)⟩ (fun hHeld => ?_)
          clear hK K
          refine norm_ (a' := ?_) ?_ ?_
          rotate_left
          ·show Act.put _ (some 70) _ = _
           simp only [Act.put, List.setIfInBounds_toArray, List.set_cons_zero, List.set_cons_succ, i64_w, i32_w]
           rfl
          refine pure_ (i := 12) (N := some 6) (v := ?_) (a' := ?_) #[true, true, true, true, true, true, true, true, true, true, true, true, true] rfl rfl (any_of HT_.out (by kernel_rfl)) (fun _ _ _ h => h) (Or.inl ⟨by rfl, ?_⟩) ?_ ?_
          rotate_left
          ·intro w'
           go_simp
           with_reducible rfl
          rotate_left
          ·simp only [Act.put, List.setIfInBounds_toArray, List.set_cons_zero, List.set_cons_succ, i64_w, i32_w]
           rfl
          refine done_ (done_of HT_.out (by kernel_rfl)) ?_
          try go_wp2
          go_roundg k1
          case measure => have := HK1.out; omega
          case rel => exact ⟨(t350), (ji41), (by first | rfl | (simp; done) | (simp only [← hji41] <;> (first | rfl | simp)) | (simp [*]; done)), H', ⟨by have := HK1.out; omega⟩, ⟨by (with_reducible repeat (first | apply Kd.R_alloc | apply Kd.R_drewN | apply Kd.R_drew)); exact Kd.R_mono HO352.out (fun _ hk => trivial)⟩, ⟨by (with_reducible repeat (first | refine blk_drewN ?_ _ | refine blk_drew ?_ | refine blk_alloc ?_ _)); exact BK320.out⟩, ⟨by exact zh1_ HB.out GE320.out⟩⟩
         ·rw [if_neg c43] at H
          exact absurd H (by simp)
        ·rw [if_neg c42] at H
         exact absurd H (by simp)
       ·rw [if_neg c39] at H
        exact absurd H (by simp)
      ·rw [if_neg c38] at H
       exact absurd H (by simp)
     ·rw [if_neg c37] at H
      have c37b0 : decide (x54_1 < (l0_1.length : Int)) = false := decide_eq_false c37
      clear c37
      obtain rfl := Option.some.inj H
      go_wp2
      go_ret
      exact ⟨_, by first | rfl | (simp [errW_none, errW_some] <;> rfl) | (simp [*, errW_none, errW_some] <;> rfl), by (with_reducible repeat (first | apply Kd.R_alloc | apply Kd.R_drewN | apply Kd.R_drew)); exact HO_6.out, by exact zh1_ HB.out GE320.out⟩
  ·rw [if_neg c24] at H
   exact absurd H (by simp)
end Go.Proofs.Ytcbgichkeecgiaa.Print
