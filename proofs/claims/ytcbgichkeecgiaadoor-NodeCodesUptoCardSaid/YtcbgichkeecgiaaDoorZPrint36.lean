-- What the claim uses alone (wip/slim.py). Lean checks it.
import Derived.Test.YtcbgichkeecgiaaDoorZAb
import Derived.Test.YtcbgichkeecgiaaDoorZAln
import Derived.Test.YtcbgichkeecgiaaDoorZAlo
import Derived.Test.YtcbgichkeecgiaaDoorZPrint22
import Derived.Test.YtcbgichkeecgiaaDoorZPrint26
import Derived.Test.YtcbgichkeecgiaaDoorZAlq
import Derived.Test.YtcbgichkeecgiaaDoorZPrint35
namespace Go.Proofs.YtcbgichkeecgiaaDoor.Print
open Go.RowKit Go.Proofs.YtcbgichkeecgiaaDoorW.PrintWords Go.Proofs.YtcbgichkeecgiaaDoorW.PrintLast Go.Proofs.YtcbgichkeecgiaaDoorW.PrintMore
attribute [local go_sem] max2_mx min2_mn max_two min_two max_three min_three max_four min_four
set_option linter.unusedVariables false
set_option linter.unusedSimpArgs false
def ladinglaw06_NodeCodes.f (k : Nat) (a0_0 : Bool) (l0_1 : List (List Int)) (l0_2 : List (List Int)) (l0_3 : List Int) (l1 : List Int) : Option (Bool) := (ladingref06_Copy.f k a0_0 l0_1 l0_2 l0_3).bind fun bt494 => ((node_Encode.f k bt494.1 bt494.2.1 bt494.2.2.1 bt494.2.2.2).bind fun bt505 => ((ladingref06_Encode.f k a0_0 l0_1 l0_2 l0_3).bind fun bt509 => ((node_Decode.f k l1).bind fun bt513 => ((ladingref06_Decode.f k l1).bind fun bt525 => ((ladinglaw06_lives.f).bind fun t537 => (if t537 = true then ((node_Check.f k bt494.1 bt494.2.1 bt494.2.2.1 bt494.2.2.2).bind fun t538 => ((ladingref06_Check.f k a0_0 l0_1 l0_2 l0_3).bind fun t539 => (if t538 = t539 then ((node_Size.f k bt494.1 bt494.2.1 bt494.2.2.1 bt494.2.2.2).bind fun t540 => ((ladingref06_Size.f k a0_0 l0_1 l0_2 l0_3).bind fun t541 => (if t540 = t541 then (if (strOfNums bt505.1).toList = (strOfNums bt509.1).toList then (if bt505.2 = bt509.2 then ((ladingref06_Same.f k bt513.1 bt513.2.1 bt513.2.2.1 bt513.2.2.2.1 bt525.1 bt525.2.1 bt525.2.2.1 bt525.2.2.2.1).bind fun t542 => (if t542 = true then (if bt513.2.2.2.2 = bt525.2.2.2.2 then ((ladingref06_Same.f k bt494.1 bt494.2.1 bt494.2.2.1 bt494.2.2.2 a0_0 l0_1 l0_2 l0_3).bind fun t543 => (some t543)) else (none)) else (none))) else (none)) else (none)) else (none)))) else (none)))) else (none)))))))
def ladinglaw06_NodeCodes.T6 : Bool × List (List Nat × List Nat) := (true, [([], []), ([0, 0], [0]), ([1], [1]), ([2, 1, 1], [1, 2]), ([1], [1]), ([4, 3, 1], [1, 4]), ([3, 5, 1], [1, 3, 5]), ([1, 6], [1, 6]), ([7, 5], [7]), ([8], [8]), ([9, 8, 8], [8, 9]), ([8], [8]), ([11, 10, 8], [8, 11]), ([10, 12, 8], [8, 10, 12]), ([8, 13], [8, 13]), ([14, 12], [14]), ([15], [15]), ([16, 15], [15, 16]), ([15], [15]), ([18, 15], [15, 18]), ([17, 19, 15], [15, 17, 19]), ([15, 20], [15, 20]), ([21, 15], [21]), ([22], [22]), ([22], [22]), ([23, 24, 22], [22, 23, 24]), ([22, 25], [22, 25]), ([26, 22], [26]), ([27], [27]), ([27], [27]), ([28, 29, 27, 27], [27, 28, 29]), ([27, 30], [27, 30]), ([31, 30], [31]), ([32], [32]), ([32], [32]), ([33, 34, 32], [32, 33, 34]), ([32, 35], [32, 35]), ([36, 32], [36]), ([37], [37]), ([37], [37]), ([38, 39, 37, 37], [37, 38, 39]), ([37, 40], [37, 40]), ([41, 40, 0, 1, 2, 3, 4, 5, 6, 7, 8, 9, 10, 11, 12, 13, 14, 15, 16, 17, 18, 19, 20, 21, 22, 23, 24, 25, 26, 27, 28, 29, 30, 31, 32, 33, 34, 35, 36, 37, 38, 39, 40, 41], [41])])
def ladinglaw06_NodeCodes.B6 : List Nat := [0, 1, 3, 7, 3, 31, 63, 127, 255, 511, 1023, 511, 4095, 8191, 16383, 32767, 65535, 131071, 65535, 327679, 1048575, 2097151, 4194303, 8388607, 8388607, 33554431, 67108863, 134217727, 268435455, 268435455, 1073741823, 2147483647, 4294967295, 8589934591, 8589934591, 34359738367, 68719476735, 137438953471, 274877906943, 274877906943, 1099511627775, 2199023255551, 4398046511103]
theorem ladinglaw06_NodeCodes.tab6 : rtab .any (opsOf Tryd.f3 6) = ladinglaw06_NodeCodes.T6 := by kernel_rfl
theorem ladinglaw06_NodeCodes.bits6 : waitsOk ladinglaw06_NodeCodes.T6.2 ladinglaw06_NodeCodes.B6 = true := by kernel_rfl
set_option maxHeartbeats 8000000 in
set_option maxRecDepth 100000 in
theorem ladinglaw06_NodeCodes.calls (k : Nat) (a0_0 : Bool) (A0_1 : Option Addr) (c0_1 : Nat) (l0_1 : List (List Int)) (A0_2 : Option Addr) (c0_2 : Nat) (l0_2 : List (List Int)) (A0_3 : Option Addr) (c0_3 : Nat) (l0_3 : List Int) (A1 : Option Addr) (c1 : Nat) (l1 : List Int) (r : Bool) (w : World) (hr0_1 : Kd.C (Kd.slice 5 (Kd.int .u8)) w A0_1 l0_1.length l0_1) (hc0_1 : l0_1.length ≤ c0_1) (hr0_2 : Kd.C (Kd.slice 5 (Kd.int .u8)) w A0_2 l0_2.length l0_2) (hc0_2 : l0_2.length ≤ c0_2) (hr0_3 : Kd.C (Kd.int .i64) w A0_3 l0_3.length l0_3) (hc0_3 : l0_3.length ≤ c0_3) (hr1 : Kd.C (Kd.int .u8) w A1 l1.length l1) (hc1 : l1.length ≤ c1) (h : ladinglaw06_NodeCodes.f k a0_0 l0_1 l0_2 l0_3 l1 = some r) :
  Calls Tryd.prog 3 #[.agg #[.bool a0_0, .slice A0_1 l0_1.length c0_1, .slice A0_2 l0_2.length c0_2, .slice A0_3 l0_3.length c0_3], .slice A1 l1.length c1] w fun e w' => e = .returned (.bool r) ∧ Below w.heap.size w w' := by
 have hu25 := Tryd.underlying25
 have HR0_1 := Aside0.mk hr0_1
 have HC0_1 := Aside0.mk hc0_1
 clear hr0_1 hc0_1
 have HR0_2 := Aside0.mk hr0_2
 have HC0_2 := Aside0.mk hc0_2
 clear hr0_2 hc0_2
 have HR0_3 := Aside0.mk hr0_3
 have HC0_3 := Aside0.mk hc0_3
 clear hr0_3 hc0_3
 have HR1 := Aside0.mk hr1
 have HC1 := Aside0.mk hc1
 clear hr1 hc1
 have HB := Aside0.mk (Below.refl w.heap.size w)
 have H : ((ladingref06_Copy.f k a0_0 l0_1 l0_2 l0_3).bind fun bt494 => ((node_Encode.f k bt494.1 bt494.2.1 bt494.2.2.1 bt494.2.2.2).bind fun bt505 => ((ladingref06_Encode.f k a0_0 l0_1 l0_2 l0_3).bind fun bt509 => ((node_Decode.f k l1).bind fun bt513 => ((ladingref06_Decode.f k l1).bind fun bt525 => ((ladinglaw06_lives.f).bind fun t537 => (if t537 = true then ((node_Check.f k bt494.1 bt494.2.1 bt494.2.2.1 bt494.2.2.2).bind fun t538 => ((ladingref06_Check.f k a0_0 l0_1 l0_2 l0_3).bind fun t539 => (if t538 = t539 then ((node_Size.f k bt494.1 bt494.2.1 bt494.2.2.1 bt494.2.2.2).bind fun t540 => ((ladingref06_Size.f k a0_0 l0_1 l0_2 l0_3).bind fun t541 => (if t540 = t541 then (if (strOfNums bt505.1).toList = (strOfNums bt509.1).toList then (if bt505.2 = bt509.2 then ((ladingref06_Same.f k bt513.1 bt513.2.1 bt513.2.2.1 bt513.2.2.2.1 bt525.1 bt525.2.1 bt525.2.2.1 bt525.2.2.2.1).bind fun t542 => (if t542 = true then (if bt513.2.2.2.2 = bt525.2.2.2.2 then ((ladingref06_Same.f k bt494.1 bt494.2.1 bt494.2.2.1 bt494.2.2.2 a0_0 l0_1 l0_2 l0_3).bind fun t543 => (some t543)) else (none)) else (none))) else (none)) else (none)) else (none)))) else (none)))) else (none)))))))) = some r := h
 clear h
 obtain ⟨⟨t494, t495, t498, t501⟩, A3, H⟩ := zm H
 (try dsimp only at H)
 obtain ⟨⟨t505, t508⟩, A4, H⟩ := zm H
 (try dsimp only at H)
 obtain ⟨⟨t509, t512⟩, A5, H⟩ := zm H
 (try dsimp only at H)
 obtain ⟨⟨t513, t514, t517, t520, t523⟩, A6, H⟩ := zm H
 (try dsimp only at H)
 obtain ⟨⟨t525, t526, t529, t532, t535⟩, A7, H⟩ := zm H
 (try dsimp only at H)
 obtain ⟨t537, A8, H⟩ := zm H
 (try dsimp only at H)
 by_cases c9 : t537 = true
 ·subst c9
  replace H := (if_pos (rfl : true = true)).symm.trans H
  obtain ⟨t538, A10, H⟩ := zm H
  (try dsimp only at H)
  obtain ⟨t539, A11, H⟩ := zm H
  (try dsimp only at H)
  by_cases c12 : t538 = t539
  ·rw [if_pos c12] at H
   obtain ⟨c12b0, c12b1⟩ := zq1 c12
   clear c12
   obtain ⟨t540, A13, H⟩ := zm H
   (try dsimp only at H)
   obtain ⟨t541, A14, H⟩ := zm H
   (try dsimp only at H)
   by_cases c15 : t540 = t541
   ·rw [if_pos c15] at H
    obtain ⟨c15b0, c15b1⟩ := zq1 c15
    clear c15
    by_cases c16 : (strOfNums t505).toList = (strOfNums t509).toList
    ·rw [if_pos c16] at H
     obtain ⟨c16b0, c16b1⟩ := zq1 c16
     clear c16
     by_cases c17 : t508 = t512
     ·rw [if_pos c17] at H
      obtain ⟨c17b0, c17b1⟩ := zq1 c17
      clear c17
      obtain ⟨t542, A18, H⟩ := zm H
      (try dsimp only at H)
      by_cases c19 : t542 = true
      ·subst c19
       replace H := (if_pos (rfl : true = true)).symm.trans H
       by_cases c20 : t523 = t535
       ·rw [if_pos c20] at H
        obtain ⟨c20b0, c20b1⟩ := zq1 c20
        clear c20
        obtain ⟨t543, A21, H⟩ := zm H
        (try dsimp only at H)
        obtain rfl := Option.some.inj H
        go_enter Tryd.func3, Tryd.ntmps3
        try go_wp2_with (first | ((with_reducible refine gate_dst (N := 2) rfl ?_); refine box_event ?hg (N := 2) ?hd (cs := #[.bool a0_0, .slice A0_1 l0_1.length c0_1, .slice A0_2 l0_2.length c0_2, .slice A0_3 l0_3.length c0_3]) (t := 25) ?hr ?_; (case hd => rfl); (case hg => rfl); (case hr => first | (go_simp; done) | (go_simp; rfl)); intro gb493 hg w22 hbox hb; have BK493 := Aside0.mk (hbox); have GW493 := Aside0.mk ((by rw [hg]; exact (below_size (zh0_ HB.out)) : w.heap.size ≤ gb493)); have GE493 := Aside0.mk ((by rw [hg]; exact (below_size (zh0_ HB.out)) : w.heap.size ≤ gb493)); replace HB := Aside0.mk (below_step (zh0_ HB.out) hb); clear hb hbox hg; obtain ⟨hcz23_0, hcz23_1, hcz23_2, hcz23_3⟩ := zc4 BK493.out; obtain ⟨hfz23_0, hfz23_1, hfz23_2, hfz23_3⟩ := zz4 BK493.out) | ((with_reducible refine gate_callee (f := 5) rfl ?_); refine goesL_ (some 15) rfl rfl Tryd.func5 (by kernel_rfl) rfl #[.agg #[.bool a0_0, .slice A0_1 l0_1.length c0_1, .slice A0_2 l0_2.length c0_2, .slice A0_3 l0_3.length c0_3]] rfl zl_ ?_; (with_reducible refine (ladingref06_Copy.calls k a0_0 _ _ l0_1 _ _ l0_2 _ _ l0_3 t494 t495 t498 t501 _ ?side1 ?side2 ?side3 ?side4 ?side5 ?side6 A3.out).mono ?_); (case side1 => exact zc_ (Kd.C_below HR0_1.out HB.out)); (case side2 => exact HC0_1.out); (case side3 => exact zc_ (Kd.C_below HR0_2.out HB.out)); (case side4 => exact HC0_2.out); (case side5 => exact zc_ (Kd.C_below HR0_3.out HB.out)); (case side6 => exact HC0_3.out); rintro e w24 ⟨v496, v499, v502, rfl, ho0, ho1, ho2, hb⟩; refine ⟨_, rfl, ?_⟩; have HO497 := Aside0.mk (Kd.N_lower (Kd.N_mono (ok' := fun k_ => some k_ ≠ (v499 : Value).ownBlock ∧ some k_ ≠ (v502 : Value).ownBlock ∧ k_ ≠ gb493) (Kd.S_N (Kd.S_bound (Kd.S_apart' ho0 (Kd.R_typed ho2) (by decide)))) (fun k_ hk_ => ⟨hk_.1.1, hk_.1.2, (Kd.freshB (zb_ BK493.out) k_ hk_.2.1)⟩)) (below_size (zh1_ HB.out GE493.out))); have HO500 := Aside0.mk (Kd.N_lower (Kd.N_mono (ok' := fun k_ => some k_ ≠ (v496 : Value).ownBlock ∧ some k_ ≠ (v502 : Value).ownBlock ∧ k_ ≠ gb493) (Kd.S_N (Kd.S_bound (Kd.S_apart' ho1 (Kd.R_typed ho2) (by decide)))) (fun k_ hk_ => ⟨hk_.1.1, hk_.1.2, (Kd.freshB (zb_ BK493.out) k_ hk_.2.1)⟩)) (below_size (zh1_ HB.out GE493.out))); have HO503 := Aside0.mk (Kd.R_lower ho2 (below_size (zh1_ HB.out GE493.out))); replace BK493 := Aside0.mk (blk_below (zb_ BK493.out) hb); replace HB := Aside0.mk (below_step (zh1_ HB.out GE493.out) hb); (try clear hb); (try clear hk); (try clear ho0); (try clear ho1); (try clear ho2)) | ((with_reducible refine gate_dst (N := 5) rfl ?_); refine box_event ?hg (N := 5) ?hd (cs := #[.bool false, .slice none 0 0, .slice none 0 0, .slice none 0 0]) (t := 25) ?hr ?_; (case hd => rfl); (case hg => rfl); (case hr => first | (go_simp; done) | (go_simp; rfl)); intro gb504 hg w25 hbox hb; replace HO497 := Aside0.mk (Kd.N_below (Kd.N_elderB (zN_ HO497.out) gb504 (Nat.le_of_eq hg.symm)) hb); replace HO500 := Aside0.mk (Kd.N_below (Kd.N_elderB (zN_ HO500.out) gb504 (Nat.le_of_eq hg.symm)) hb); replace HO503 := Aside0.mk (Kd.R_below (zR_ HO503.out) hb); have BK504 := Aside0.mk (hbox); have GW504 := Aside0.mk ((by rw [hg]; exact (below_size (zh1_ HB.out GE493.out)) : w.heap.size ≤ gb504)); have GE504 := Aside0.mk ((by rw [hg]; exact (below_size (zh1_ HB.out GE493.out)) : w.heap.size ≤ gb504)); replace HB := Aside0.mk (below_step (zh1_ HB.out GE493.out) hb); have NB493_504 := Aside0.mk ((by rw [hg]; exact Nat.ne_of_lt (blk_lt (zb_ BK493.out)) : gb493 ≠ gb504)); have NB504_493 := Aside0.mk ((by rw [hg]; exact Nat.ne_of_gt (blk_lt (zb_ BK493.out)) : gb504 ≠ gb493)); replace BK493 := Aside0.mk (blk_below (zb_ BK493.out) hb); clear hb hbox hg; have hnb26 := NB504_493.out; have hnc26 := NB493_504.out; obtain ⟨hcz27_0, hcz27_1, hcz27_2, hcz27_3⟩ := zc4 BK504.out; obtain ⟨hfz27_0, hfz27_1, hfz27_2, hfz27_3⟩ := zz4 BK504.out; obtain ⟨Ao28, co28, eo28⟩ := Kd.N_slice HO497.out; subst eo28; obtain ⟨Ao29, co29, eo29⟩ := Kd.N_slice HO500.out; subst eo29; obtain ⟨Ao30, co30, eo30⟩ := Kd.R_slice HO503.out; subst eo30) | ((with_reducible refine gate_callee (f := 6) rfl ?_); refine goesL_ (some 18) rfl rfl Tryd.func6 (by kernel_rfl) rfl #[.agg #[.bool t494, .slice Ao28 t495.length co28, .slice Ao29 t498.length co29, .slice Ao30 t501.length co30]] rfl zl_ ?_; (with_reducible refine (node_Encode.calls k t494 _ _ t495 _ _ t498 _ _ t501 t505 t508 _ ?side1 ?side2 ?side3 ?side4 ?side5 ?side6 A4.out).mono ?_); (case side1 => exact (Kd.N_reads' (n := t495.length) (c := co28) (zN4 HO497.out (fun _ hk => hk.2))).2.2); (case side2 => exact (Kd.N_reads' HO497.out).2.1); (case side3 => exact (Kd.N_reads' (n := t498.length) (c := co29) (zN4 HO500.out (fun _ hk => hk.2))).2.2); (case side4 => exact (Kd.N_reads' HO500.out).2.1); (case side5 => refine (Kd.R_reads' (e := 3) (base := w.heap.size) (ok := fun k_ => True) (n := t501.length) (c := co30) ?_).2.2; exact (zr4_ HO503.out BK504.out)); (case side6 => exact (Kd.R_reads' HO503.out).2.1); rintro e w31 ⟨v506, rfl, ho0, hb⟩; refine ⟨_, rfl, ?_⟩; replace HO497 := Aside0.mk (Kd.N_elder' (zN4 HO497.out (fun _ hk => hk.2)) (Kd.R_base ho0) hb); replace HO500 := Aside0.mk (Kd.N_elder' (zN4 HO500.out (fun _ hk => hk.2)) (Kd.R_base ho0) hb); replace HO503 := Aside0.mk (Kd.R_below (zr4_ HO503.out BK504.out) hb); have HO507 := Aside0.mk (Kd.R_lower ho0 (below_size (zh2_ HB.out GE493.out GE504.out))); replace BK493 := Aside0.mk (blk_below (g := gb493) (o := .cells #[.bool a0_0, .slice A0_1 l0_1.length c0_1, .slice A0_2 l0_2.length c0_2, .slice A0_3 l0_3.length c0_3] 25 (0, 0)) (zf_ NB493_504.out BK493.out) hb); replace BK504 := Aside0.mk (blk_below (g := gb504) (o := .cells #[.bool t494, .slice Ao28 t495.length co28, .slice Ao29 t498.length co29, .slice Ao30 t501.length co30] 25 (0, 0)) (zp_ BK504.out) hb); replace HB := Aside0.mk (below_step (zh2_ HB.out GE493.out GE504.out) hb); (try clear hb); (try clear hk); (try clear ho0); obtain ⟨hcz32_0, hcz32_1, hcz32_2, hcz32_3⟩ := zc4 BK493.out; obtain ⟨hfz32_0, hfz32_1, hfz32_2, hfz32_3⟩ := zz4 BK493.out) | ((with_reducible refine gate_callee (f := 7) rfl ?_); refine goesL_ (some 23) rfl rfl Tryd.func7 (by kernel_rfl) rfl #[.agg #[.bool a0_0, .slice A0_1 l0_1.length c0_1, .slice A0_2 l0_2.length c0_2, .slice A0_3 l0_3.length c0_3]] rfl zl_ ?_; (with_reducible refine (ladingref06_Encode.calls k a0_0 _ _ l0_1 _ _ l0_2 _ _ l0_3 t509 t512 _ ?side1 ?side2 ?side3 ?side4 ?side5 ?side6 A5.out).mono ?_); (case side1 => exact zc_ (Kd.C_below HR0_1.out HB.out)); (case side2 => exact HC0_1.out); (case side3 => exact zc_ (Kd.C_below HR0_2.out HB.out)); (case side4 => exact HC0_2.out); (case side5 => exact zc_ (Kd.C_below HR0_3.out HB.out)); (case side6 => exact HC0_3.out); rintro e w33 ⟨v510, rfl, ho0, hb⟩; refine ⟨_, rfl, ?_⟩; replace HO497 := Aside0.mk (Kd.N_elder' (zN_ HO497.out) (Kd.R_base ho0) hb); replace HO500 := Aside0.mk (Kd.N_elder' (zN_ HO500.out) (Kd.R_base ho0) hb); replace HO503 := Aside0.mk (Kd.R_below (zR_ HO503.out) hb); have HO511 := Aside0.mk (Kd.R_lower (Kd.R_new' ho0 (Kd.R_lt (zR_ HO507.out))) (below_size (zh2_ HB.out GE493.out GE504.out))); replace HO507 := Aside0.mk (Kd.R_elder' (zR_ HO507.out) (Kd.R_base ho0) hb); replace BK493 := Aside0.mk (blk_below (zb_ BK493.out) hb); replace BK504 := Aside0.mk (blk_below (zb_ BK504.out) hb); replace HB := Aside0.mk (below_step (zh2_ HB.out GE493.out GE504.out) hb); (try clear hb); (try clear hk); (try clear ho0)) | ((with_reducible refine gate_callee (f := 8) rfl ?_); refine goesL_ (some 28) rfl rfl Tryd.func8 (by kernel_rfl) rfl #[.slice A1 l1.length c1] rfl zl_ ?_; (with_reducible refine (node_Decode.calls k _ _ l1 t513 t514 t517 t520 t523 _ ?side1 ?side2 A6.out).mono ?_); (case side1 => exact zc_ (Kd.C_below HR1.out HB.out)); (case side2 => exact HC1.out); rintro e w34 ⟨v515, v518, v521, rfl, ho0, ho1, ho2, hb⟩; refine ⟨_, rfl, ?_⟩; have HO516 := Aside0.mk (Kd.V_lower (Kd.V_mono (ok' := fun k_ => some k_ ≠ (.slice Ao28 t495.length co28 : Value).ownBlock ∧ some k_ ≠ (.slice Ao29 t498.length co29 : Value).ownBlock ∧ some k_ ≠ (.slice Ao30 t501.length co30 : Value).ownBlock ∧ some k_ ≠ (v506 : Value).ownBlock ∧ some k_ ≠ (v510 : Value).ownBlock ∧ k_ ≠ gb493 ∧ k_ ≠ gb504) ho0 (fun k_ hk_ => ⟨(Kd.fresh' (Kd.N_lt (zN_ HO497.out)) k_ hk_), (Kd.fresh' (Kd.N_lt (zN_ HO500.out)) k_ hk_), (Kd.fresh' (Kd.R_lt (zR_ HO503.out)) k_ hk_), (Kd.fresh' (Kd.R_lt (zR_ HO507.out)) k_ hk_), (Kd.fresh' (Kd.R_lt (zR_ HO511.out)) k_ hk_), (Kd.freshB (zb_ BK493.out) k_ hk_), (Kd.freshB (zb_ BK504.out) k_ hk_)⟩)) (below_size (zh2_ HB.out GE493.out GE504.out))); have HO519 := Aside0.mk (Kd.V_lower (Kd.V_mono (ok' := fun k_ => some k_ ≠ (.slice Ao28 t495.length co28 : Value).ownBlock ∧ some k_ ≠ (.slice Ao29 t498.length co29 : Value).ownBlock ∧ some k_ ≠ (.slice Ao30 t501.length co30 : Value).ownBlock ∧ some k_ ≠ (v506 : Value).ownBlock ∧ some k_ ≠ (v510 : Value).ownBlock ∧ k_ ≠ gb493 ∧ k_ ≠ gb504) ho1 (fun k_ hk_ => ⟨(Kd.fresh' (Kd.N_lt (zN_ HO497.out)) k_ hk_), (Kd.fresh' (Kd.N_lt (zN_ HO500.out)) k_ hk_), (Kd.fresh' (Kd.R_lt (zR_ HO503.out)) k_ hk_), (Kd.fresh' (Kd.R_lt (zR_ HO507.out)) k_ hk_), (Kd.fresh' (Kd.R_lt (zR_ HO511.out)) k_ hk_), (Kd.freshB (zb_ BK493.out) k_ hk_), (Kd.freshB (zb_ BK504.out) k_ hk_)⟩)) (below_size (zh2_ HB.out GE493.out GE504.out))); have HO522 := Aside0.mk (Kd.V_lower (Kd.V_mono (ok' := fun k_ => some k_ ≠ (.slice Ao28 t495.length co28 : Value).ownBlock ∧ some k_ ≠ (.slice Ao29 t498.length co29 : Value).ownBlock ∧ some k_ ≠ (.slice Ao30 t501.length co30 : Value).ownBlock ∧ some k_ ≠ (v506 : Value).ownBlock ∧ some k_ ≠ (v510 : Value).ownBlock ∧ k_ ≠ gb493 ∧ k_ ≠ gb504) ho2 (fun k_ hk_ => ⟨(Kd.fresh' (Kd.N_lt (zN_ HO497.out)) k_ hk_), (Kd.fresh' (Kd.N_lt (zN_ HO500.out)) k_ hk_), (Kd.fresh' (Kd.R_lt (zR_ HO503.out)) k_ hk_), (Kd.fresh' (Kd.R_lt (zR_ HO507.out)) k_ hk_), (Kd.fresh' (Kd.R_lt (zR_ HO511.out)) k_ hk_), (Kd.freshB (zb_ BK493.out) k_ hk_), (Kd.freshB (zb_ BK504.out) k_ hk_)⟩)) (below_size (zh2_ HB.out GE493.out GE504.out))); replace HO497 := Aside0.mk (Kd.N_below (zN_ HO497.out) hb); replace HO500 := Aside0.mk (Kd.N_below (zN_ HO500.out) hb); replace HO503 := Aside0.mk (Kd.R_below (zR_ HO503.out) hb); replace HO507 := Aside0.mk (Kd.R_below (zR_ HO507.out) hb); replace HO511 := Aside0.mk (Kd.R_below (zR_ HO511.out) hb); replace BK493 := Aside0.mk (blk_below (zb_ BK493.out) hb); replace BK504 := Aside0.mk (blk_below (zb_ BK504.out) hb); replace HB := Aside0.mk (below_step (zh2_ HB.out GE493.out GE504.out) hb); (try clear hb); (try clear hk); (try clear ho0); (try clear ho1); (try clear ho2)) | ((with_reducible refine gate_dst (N := 10) rfl ?_); refine box_event ?hg (N := 10) ?hd (cs := #[.bool false, .slice none 0 0, .slice none 0 0, .slice none 0 0]) (t := 25) ?hr ?_; (case hd => rfl); (case hg => rfl); (case hr => first | (go_simp; done) | (go_simp; rfl)); intro gb524 hg w35 hbox hb; replace HO497 := Aside0.mk (Kd.N_below (Kd.N_elderB (zN_ HO497.out) gb524 (Nat.le_of_eq hg.symm)) hb); replace HO500 := Aside0.mk (Kd.N_below (Kd.N_elderB (zN_ HO500.out) gb524 (Nat.le_of_eq hg.symm)) hb); replace HO503 := Aside0.mk (Kd.R_below (zR_ HO503.out) hb); replace HO507 := Aside0.mk (Kd.R_below (zR_ HO507.out) hb); replace HO511 := Aside0.mk (Kd.R_below (zR_ HO511.out) hb); replace HO516 := Aside0.mk (Kd.V_below (Kd.V_elderB (zV_ HO516.out) gb524 (Nat.le_of_eq hg.symm)) hb); replace HO519 := Aside0.mk (Kd.V_below (Kd.V_elderB (zV_ HO519.out) gb524 (Nat.le_of_eq hg.symm)) hb); replace HO522 := Aside0.mk (Kd.V_below (Kd.V_elderB (zV_ HO522.out) gb524 (Nat.le_of_eq hg.symm)) hb); have BK524 := Aside0.mk (hbox); have GW524 := Aside0.mk ((by rw [hg]; exact (below_size (zh2_ HB.out GE493.out GE504.out)) : w.heap.size ≤ gb524)); have GE524 := Aside0.mk ((by rw [hg]; exact (below_size (zh2_ HB.out GE493.out GE504.out)) : w.heap.size ≤ gb524)); replace HB := Aside0.mk (below_step (zh2_ HB.out GE493.out GE504.out) hb); have NB493_524 := Aside0.mk ((by rw [hg]; exact Nat.ne_of_lt (blk_lt (zb_ BK493.out)) : gb493 ≠ gb524)); have NB524_493 := Aside0.mk ((by rw [hg]; exact Nat.ne_of_gt (blk_lt (zb_ BK493.out)) : gb524 ≠ gb493)); replace BK493 := Aside0.mk (blk_below (zb_ BK493.out) hb); have NB504_524 := Aside0.mk ((by rw [hg]; exact Nat.ne_of_lt (blk_lt (zb_ BK504.out)) : gb504 ≠ gb524)); have NB524_504 := Aside0.mk ((by rw [hg]; exact Nat.ne_of_gt (blk_lt (zb_ BK504.out)) : gb524 ≠ gb504)); replace BK504 := Aside0.mk (blk_below (zb_ BK504.out) hb); clear hb hbox hg; have hnb36 := NB524_493.out; have hnc36 := NB493_524.out; have hnb37 := NB524_504.out; have hnc37 := NB504_524.out; obtain ⟨hcz38_0, hcz38_1, hcz38_2, hcz38_3⟩ := zc4 BK524.out; obtain ⟨hfz38_0, hfz38_1, hfz38_2, hfz38_3⟩ := zz4 BK524.out; obtain ⟨Ao39, co39, eo39⟩ := Kd.V_slice HO516.out; subst eo39; obtain ⟨Ao40, co40, eo40⟩ := Kd.V_slice HO519.out; subst eo40; obtain ⟨Ao41, co41, eo41⟩ := Kd.V_slice HO522.out; subst eo41) | ((with_reducible refine gate_callee (f := 9) rfl ?_); refine goesL_ (some 33) rfl rfl Tryd.func9 (by kernel_rfl) rfl #[.slice A1 l1.length c1] rfl zl_ ?_; (with_reducible refine (ladingref06_Decode.calls k _ _ l1 t525 t526 t529 t532 t535 _ ?side1 ?side2 A7.out).mono ?_); (case side1 => exact Kd.C_below HR1.out (zh3_ HB.out GE493.out GE504.out GE524.out)); (case side2 => exact HC1.out); rintro e w42 ⟨v527, v530, v533, rfl, ho0, ho1, ho2, hb⟩; refine ⟨_, rfl, ?_⟩; replace HO516 := Aside0.mk (Kd.V_mono (Kd.V_told (Kd.V_told (Kd.V_told (Kd.V_old (by (with_reducible repeat (first | apply Kd.V_alloc | apply Kd.V_drewN | apply Kd.V_drew)); exact (Kd.V_mono (zv4 (Kd.V_mono HO516.out (fun k_ hk => (⟨hk, hk.2⟩ : _ ∧ k_ ≠ gb524)))) (fun _ h_ => h_.1))) hb) (Kd.N_base ho0)) (Kd.N_base ho1)) (Kd.R_base ho2)) (fun _ h_ => h_.1)); replace HO519 := Aside0.mk (Kd.V_mono (Kd.V_told (Kd.V_told (Kd.V_told (Kd.V_old (by (with_reducible repeat (first | apply Kd.V_alloc | apply Kd.V_drewN | apply Kd.V_drew)); exact (Kd.V_mono (zv4 (Kd.V_mono HO519.out (fun k_ hk => (⟨hk, hk.2⟩ : _ ∧ k_ ≠ gb524)))) (fun _ h_ => h_.1))) hb) (Kd.N_base ho0)) (Kd.N_base ho1)) (Kd.R_base ho2)) (fun _ h_ => h_.1)); replace HO522 := Aside0.mk (Kd.V_mono (Kd.V_told (Kd.V_told (Kd.V_told (Kd.V_old (by (with_reducible repeat (first | apply Kd.V_alloc | apply Kd.V_drewN | apply Kd.V_drew)); exact (Kd.V_mono (zv4 (Kd.V_mono HO522.out (fun k_ hk => (⟨hk, hk.2⟩ : _ ∧ k_ ≠ gb524)))) (fun _ h_ => h_.1))) hb) (Kd.N_base ho0)) (Kd.N_base ho1)) (Kd.R_base ho2)) (fun _ h_ => h_.1)); have HO528 := Aside0.mk (Kd.N_lower (Kd.N_mono (ok' := fun k_ => some k_ ≠ (v530 : Value).ownBlock ∧ some k_ ≠ (v533 : Value).ownBlock ∧ some k_ ≠ (.slice Ao28 t495.length co28 : Value).ownBlock ∧ some k_ ≠ (.slice Ao29 t498.length co29 : Value).ownBlock ∧ some k_ ≠ (.slice Ao30 t501.length co30 : Value).ownBlock ∧ some k_ ≠ (v506 : Value).ownBlock ∧ some k_ ≠ (v510 : Value).ownBlock ∧ k_ ≠ gb493 ∧ k_ ≠ gb504 ∧ k_ ≠ gb524) ho0 (fun k_ hk_ => ⟨hk_.2.1, hk_.2.2, (Kd.fresh' (Kd.N_lt (zN4 HO497.out (fun _ hk => hk.2))) k_ hk_.1), (Kd.fresh' (Kd.N_lt (zN4 HO500.out (fun _ hk => hk.2))) k_ hk_.1), (Kd.fresh' (Kd.R_lt (zr4_ HO503.out BK524.out)) k_ hk_.1), (Kd.fresh' (Kd.R_lt (zr4_ HO507.out BK524.out)) k_ hk_.1), (Kd.fresh' (Kd.R_lt (zr4_ HO511.out BK524.out)) k_ hk_.1), (Kd.freshB (g := gb493) (o := .cells #[.bool a0_0, .slice A0_1 l0_1.length c0_1, .slice A0_2 l0_2.length c0_2, .slice A0_3 l0_3.length c0_3] 25 (0, 0)) (zf_ NB493_524.out BK493.out) k_ hk_.1), (Kd.freshB (g := gb504) (o := .cells #[.bool t494, .slice Ao28 t495.length co28, .slice Ao29 t498.length co29, .slice Ao30 t501.length co30] 25 (0, 0)) (zf_ NB504_524.out BK504.out) k_ hk_.1), (Kd.freshB (g := gb524) (o := .cells #[.bool t513, .slice Ao39 t514.length co39, .slice Ao40 t517.length co40, .slice Ao41 t520.length co41] 25 (0, 0)) (zp_ BK524.out) k_ hk_.1)⟩)) (below_size (zh3_ HB.out GE493.out GE504.out GE524.out))); have HO531 := Aside0.mk (Kd.N_lower (Kd.N_mono (ok' := fun k_ => some k_ ≠ (v527 : Value).ownBlock ∧ some k_ ≠ (v533 : Value).ownBlock ∧ some k_ ≠ (.slice Ao28 t495.length co28 : Value).ownBlock ∧ some k_ ≠ (.slice Ao29 t498.length co29 : Value).ownBlock ∧ some k_ ≠ (.slice Ao30 t501.length co30 : Value).ownBlock ∧ some k_ ≠ (v506 : Value).ownBlock ∧ some k_ ≠ (v510 : Value).ownBlock ∧ k_ ≠ gb493 ∧ k_ ≠ gb504 ∧ k_ ≠ gb524) ho1 (fun k_ hk_ => ⟨hk_.2.1, hk_.2.2, (Kd.fresh' (Kd.N_lt (zN4 HO497.out (fun _ hk => hk.2))) k_ hk_.1), (Kd.fresh' (Kd.N_lt (zN4 HO500.out (fun _ hk => hk.2))) k_ hk_.1), (Kd.fresh' (Kd.R_lt (zr4_ HO503.out BK524.out)) k_ hk_.1), (Kd.fresh' (Kd.R_lt (zr4_ HO507.out BK524.out)) k_ hk_.1), (Kd.fresh' (Kd.R_lt (zr4_ HO511.out BK524.out)) k_ hk_.1), (Kd.freshB (g := gb493) (o := .cells #[.bool a0_0, .slice A0_1 l0_1.length c0_1, .slice A0_2 l0_2.length c0_2, .slice A0_3 l0_3.length c0_3] 25 (0, 0)) (zf_ NB493_524.out BK493.out) k_ hk_.1), (Kd.freshB (g := gb504) (o := .cells #[.bool t494, .slice Ao28 t495.length co28, .slice Ao29 t498.length co29, .slice Ao30 t501.length co30] 25 (0, 0)) (zf_ NB504_524.out BK504.out) k_ hk_.1), (Kd.freshB (g := gb524) (o := .cells #[.bool t513, .slice Ao39 t514.length co39, .slice Ao40 t517.length co40, .slice Ao41 t520.length co41] 25 (0, 0)) (zp_ BK524.out) k_ hk_.1)⟩)) (below_size (zh3_ HB.out GE493.out GE504.out GE524.out))); replace HO497 := Aside0.mk (Kd.N_mono (Kd.N_told (Kd.N_told (Kd.N_told (Kd.N_old (zN4 HO497.out (fun _ hk => hk.2)) hb) (Kd.N_base ho0)) (Kd.N_base ho1)) (Kd.R_base ho2)) (fun _ h_ => h_.1)); replace HO500 := Aside0.mk (Kd.N_mono (Kd.N_told (Kd.N_told (Kd.N_told (Kd.N_old (zN4 HO500.out (fun _ hk => hk.2)) hb) (Kd.N_base ho0)) (Kd.N_base ho1)) (Kd.R_base ho2)) (fun _ h_ => h_.1)); replace HO507 := Aside0.mk (Kd.R_below (zr4_ HO507.out BK524.out) hb); replace HO511 := Aside0.mk (Kd.R_below (zr4_ HO511.out BK524.out) hb); have HO534 := Aside0.mk (Kd.R_lower (Kd.R_new' (Kd.R_mono (ok' := fun k_ => True) ho2 (fun _ hk_ => trivial)) (Kd.R_lt (zr4_ HO503.out BK524.out))) (below_size (zh3_ HB.out GE493.out GE504.out GE524.out))); replace HO503 := Aside0.mk (Kd.R_elder' (zr4_ HO503.out BK524.out) (Kd.R_base ho2) hb); replace BK493 := Aside0.mk (blk_below (g := gb493) (o := .cells #[.bool a0_0, .slice A0_1 l0_1.length c0_1, .slice A0_2 l0_2.length c0_2, .slice A0_3 l0_3.length c0_3] 25 (0, 0)) (zf_ NB493_524.out BK493.out) hb); replace BK504 := Aside0.mk (blk_below (g := gb504) (o := .cells #[.bool t494, .slice Ao28 t495.length co28, .slice Ao29 t498.length co29, .slice Ao30 t501.length co30] 25 (0, 0)) (zf_ NB504_524.out BK504.out) hb); replace BK524 := Aside0.mk (blk_below (g := gb524) (o := .cells #[.bool t513, .slice Ao39 t514.length co39, .slice Ao40 t517.length co40, .slice Ao41 t520.length co41] 25 (0, 0)) (zp_ BK524.out) hb); replace HB := Aside0.mk (below_step (zh3_ HB.out GE493.out GE504.out GE524.out) hb); (try clear hb); (try clear hk); (try clear ho0); (try clear ho1); (try clear ho2)) | ((with_reducible refine gate_dst (N := 12) rfl ?_); refine box_event ?hg (N := 12) ?hd (cs := #[.bool false, .slice none 0 0, .slice none 0 0, .slice none 0 0]) (t := 25) ?hr ?_; (case hd => rfl); (case hg => rfl); (case hr => first | (go_simp; done) | (go_simp; rfl)); intro gb536 hg w43 hbox hb; replace HO497 := Aside0.mk (Kd.N_below (Kd.N_elderB (zN_ HO497.out) gb536 (Nat.le_of_eq hg.symm)) hb); replace HO500 := Aside0.mk (Kd.N_below (Kd.N_elderB (zN_ HO500.out) gb536 (Nat.le_of_eq hg.symm)) hb); replace HO503 := Aside0.mk (Kd.R_below (zR_ HO503.out) hb); replace HO507 := Aside0.mk (Kd.R_below (zR_ HO507.out) hb); replace HO511 := Aside0.mk (Kd.R_below (zR_ HO511.out) hb); replace HO516 := Aside0.mk (Kd.V_below (Kd.V_elderB (zV_ HO516.out) gb536 (Nat.le_of_eq hg.symm)) hb); replace HO519 := Aside0.mk (Kd.V_below (Kd.V_elderB (zV_ HO519.out) gb536 (Nat.le_of_eq hg.symm)) hb); replace HO522 := Aside0.mk (Kd.V_below (Kd.V_elderB (zV_ HO522.out) gb536 (Nat.le_of_eq hg.symm)) hb); replace HO528 := Aside0.mk (Kd.N_below (Kd.N_elderB (zN_ HO528.out) gb536 (Nat.le_of_eq hg.symm)) hb); replace HO531 := Aside0.mk (Kd.N_below (Kd.N_elderB (zN_ HO531.out) gb536 (Nat.le_of_eq hg.symm)) hb); replace HO534 := Aside0.mk (Kd.R_below (zR_ HO534.out) hb); have BK536 := Aside0.mk (hbox); have GW536 := Aside0.mk ((by rw [hg]; exact (below_size (zh3_ HB.out GE493.out GE504.out GE524.out)) : w.heap.size ≤ gb536)); have GE536 := Aside0.mk ((by rw [hg]; exact (below_size (zh3_ HB.out GE493.out GE504.out GE524.out)) : w.heap.size ≤ gb536)); replace HB := Aside0.mk (below_step (zh3_ HB.out GE493.out GE504.out GE524.out) hb); have NB493_536 := Aside0.mk ((by rw [hg]; exact Nat.ne_of_lt (blk_lt (zb_ BK493.out)) : gb493 ≠ gb536)); have NB536_493 := Aside0.mk ((by rw [hg]; exact Nat.ne_of_gt (blk_lt (zb_ BK493.out)) : gb536 ≠ gb493)); replace BK493 := Aside0.mk (blk_below (zb_ BK493.out) hb); have NB504_536 := Aside0.mk ((by rw [hg]; exact Nat.ne_of_lt (blk_lt (zb_ BK504.out)) : gb504 ≠ gb536)); have NB536_504 := Aside0.mk ((by rw [hg]; exact Nat.ne_of_gt (blk_lt (zb_ BK504.out)) : gb536 ≠ gb504)); replace BK504 := Aside0.mk (blk_below (zb_ BK504.out) hb); have NB524_536 := Aside0.mk ((by rw [hg]; exact Nat.ne_of_lt (blk_lt (zb_ BK524.out)) : gb524 ≠ gb536)); have NB536_524 := Aside0.mk ((by rw [hg]; exact Nat.ne_of_gt (blk_lt (zb_ BK524.out)) : gb536 ≠ gb524)); replace BK524 := Aside0.mk (blk_below (zb_ BK524.out) hb); clear hb hbox hg; have hnb44 := NB536_493.out; have hnc44 := NB493_536.out; have hnb45 := NB536_504.out; have hnc45 := NB504_536.out; have hnb46 := NB536_524.out; have hnc46 := NB524_536.out; obtain ⟨hcz47_0, hcz47_1, hcz47_2, hcz47_3⟩ := zc4 BK536.out; obtain ⟨hfz47_0, hfz47_1, hfz47_2, hfz47_3⟩ := zz4 BK536.out; obtain ⟨Ao48, co48, eo48⟩ := Kd.N_slice HO528.out; subst eo48; obtain ⟨Ao49, co49, eo49⟩ := Kd.N_slice HO531.out; subst eo49; obtain ⟨Ao50, co50, eo50⟩ := Kd.R_slice HO534.out; subst eo50))
        have n0_ : Aside0 (Kd.N (Kd.slice 5 (Kd.int .u8)) 26 ((((w43.setCell ⟨gb536, 0, none⟩ (.bool t525)).setCell ⟨gb536, 1, none⟩ (.slice Ao48 t526.length co48)).setCell ⟨gb536, 2, none⟩ (.slice Ao49 t529.length co49)).setCell ⟨gb536, 3, none⟩ (.slice Ao50 t532.length co50)) w.heap.size (fun k_ => some k_ ≠ (.slice Ao29 t498.length co29 : Value).ownBlock ∧ some k_ ≠ (.slice Ao30 t501.length co30 : Value).ownBlock ∧ some k_ ≠ (v506 : Value).ownBlock ∧ some k_ ≠ (v510 : Value).ownBlock ∧ some k_ ≠ (.slice Ao48 t526.length co48 : Value).ownBlock ∧ some k_ ≠ (.slice Ao49 t529.length co49 : Value).ownBlock ∧ some k_ ≠ (.slice Ao50 t532.length co50 : Value).ownBlock ∧ k_ ≠ gb493 ∧ k_ ≠ gb504 ∧ k_ ≠ gb524 ∧ k_ ≠ gb536) (.slice Ao28 t495.length co28) t495) := ⟨by (with_reducible repeat (first | apply Kd.N_alloc | apply Kd.N_drewN | apply Kd.N_drew)); exact Kd.N_mono (Kd.N_far (p := ⟨gb536, 3, none⟩) (Kd.N_far (p := ⟨gb536, 2, none⟩) (Kd.N_far (p := ⟨gb536, 1, none⟩) (Kd.N_far (p := ⟨gb536, 0, none⟩) (Kd.N_mono HO497.out (fun k_ hk => (⟨hk, hk.2⟩ : _ ∧ k_ ≠ gb536))) (fun _ hk => hk.2) (.bool t525)) (fun _ hk => hk.2) (.slice Ao48 t526.length co48)) (fun _ hk => hk.2) (.slice Ao49 t529.length co49)) (fun _ hk => hk.2) (.slice Ao50 t532.length co50)) (fun _ hk => ⟨hk.1.1.1.1.1.1.1.1.1.1, ⟨hk.1.1.1.1.1.1.1.1.1.2.1, ⟨hk.1.1.1.1.1.1.1.2, ⟨hk.1.1.1.1.1.1.2, ⟨hk.1.1.1.1.2, ⟨hk.1.1.1.2, ⟨hk.1.1.2, ⟨hk.1.1.1.1.1.1.1.1.1.2.2, ⟨hk.1.1.1.1.1.1.1.1.2, ⟨hk.1.1.1.1.1.2, hk.1.2⟩⟩⟩⟩⟩⟩⟩⟩⟩⟩)⟩
        have n1_ : Aside0 (Kd.N (Kd.slice 5 (Kd.int .u8)) 26 ((((w43.setCell ⟨gb536, 0, none⟩ (.bool t525)).setCell ⟨gb536, 1, none⟩ (.slice Ao48 t526.length co48)).setCell ⟨gb536, 2, none⟩ (.slice Ao49 t529.length co49)).setCell ⟨gb536, 3, none⟩ (.slice Ao50 t532.length co50)) w.heap.size (fun k_ => some k_ ≠ (.slice Ao28 t495.length co28 : Value).ownBlock ∧ some k_ ≠ (.slice Ao30 t501.length co30 : Value).ownBlock ∧ some k_ ≠ (v506 : Value).ownBlock ∧ some k_ ≠ (v510 : Value).ownBlock ∧ some k_ ≠ (.slice Ao48 t526.length co48 : Value).ownBlock ∧ some k_ ≠ (.slice Ao49 t529.length co49 : Value).ownBlock ∧ some k_ ≠ (.slice Ao50 t532.length co50 : Value).ownBlock ∧ k_ ≠ gb493 ∧ k_ ≠ gb504 ∧ k_ ≠ gb524 ∧ k_ ≠ gb536) (.slice Ao29 t498.length co29) t498) := ⟨by (with_reducible repeat (first | apply Kd.N_alloc | apply Kd.N_drewN | apply Kd.N_drew)); exact Kd.N_mono (Kd.N_far (p := ⟨gb536, 3, none⟩) (Kd.N_far (p := ⟨gb536, 2, none⟩) (Kd.N_far (p := ⟨gb536, 1, none⟩) (Kd.N_far (p := ⟨gb536, 0, none⟩) (Kd.N_mono HO500.out (fun k_ hk => (⟨hk, hk.2⟩ : _ ∧ k_ ≠ gb536))) (fun _ hk => hk.2) (.bool t525)) (fun _ hk => hk.2) (.slice Ao48 t526.length co48)) (fun _ hk => hk.2) (.slice Ao49 t529.length co49)) (fun _ hk => hk.2) (.slice Ao50 t532.length co50)) (fun _ hk => ⟨hk.1.1.1.1.1.1.1.1.1.1, ⟨hk.1.1.1.1.1.1.1.1.1.2.1, ⟨hk.1.1.1.1.1.1.1.2, ⟨hk.1.1.1.1.1.1.2, ⟨hk.1.1.1.1.2, ⟨hk.1.1.1.2, ⟨hk.1.1.2, ⟨hk.1.1.1.1.1.1.1.1.1.2.2, ⟨hk.1.1.1.1.1.1.1.1.2, ⟨hk.1.1.1.1.1.2, hk.1.2⟩⟩⟩⟩⟩⟩⟩⟩⟩⟩)⟩
        have n2_ : Aside0 (Kd.R (Kd.int .i64) 3 ((((w43.setCell ⟨gb536, 0, none⟩ (.bool t525)).setCell ⟨gb536, 1, none⟩ (.slice Ao48 t526.length co48)).setCell ⟨gb536, 2, none⟩ (.slice Ao49 t529.length co49)).setCell ⟨gb536, 3, none⟩ (.slice Ao50 t532.length co50)) w.heap.size (fun k_ => some k_ ≠ (.slice Ao50 t532.length co50 : Value).ownBlock) (.slice Ao30 t501.length co30) t501) := ⟨by (with_reducible repeat (first | apply Kd.R_alloc | apply Kd.R_drewN | apply Kd.R_drew)); exact Kd.R_mono (Kd.R_far (p := ⟨gb536, 3, none⟩) (Kd.R_far (p := ⟨gb536, 2, none⟩) (Kd.R_far (p := ⟨gb536, 1, none⟩) (Kd.R_far (p := ⟨gb536, 0, none⟩) (Kd.R_types HO503.out BK536.out (by decide)) (fun _ hk => hk.2) (.bool t525)) (fun _ hk => hk.2) (.slice Ao48 t526.length co48)) (fun _ hk => hk.2) (.slice Ao49 t529.length co49)) (fun _ hk => hk.2) (.slice Ao50 t532.length co50)) (fun _ hk => hk.1.2)⟩
        have n3_ : Aside0 (Kd.R (Kd.int .u8) 5 ((((w43.setCell ⟨gb536, 0, none⟩ (.bool t525)).setCell ⟨gb536, 1, none⟩ (.slice Ao48 t526.length co48)).setCell ⟨gb536, 2, none⟩ (.slice Ao49 t529.length co49)).setCell ⟨gb536, 3, none⟩ (.slice Ao50 t532.length co50)) w.heap.size (fun k_ => some k_ ≠ (v510 : Value).ownBlock) v506 t505) := ⟨by (with_reducible repeat (first | apply Kd.R_alloc | apply Kd.R_drewN | apply Kd.R_drew)); exact Kd.R_mono (Kd.R_far (p := ⟨gb536, 3, none⟩) (Kd.R_far (p := ⟨gb536, 2, none⟩) (Kd.R_far (p := ⟨gb536, 1, none⟩) (Kd.R_far (p := ⟨gb536, 0, none⟩) (Kd.R_types HO507.out BK536.out (by decide)) (fun _ hk => hk.2) (.bool t525)) (fun _ hk => hk.2) (.slice Ao48 t526.length co48)) (fun _ hk => hk.2) (.slice Ao49 t529.length co49)) (fun _ hk => hk.2) (.slice Ao50 t532.length co50)) (fun _ hk => hk.1.2)⟩
        have n4_ : Aside0 (Kd.R (Kd.int .u8) 5 ((((w43.setCell ⟨gb536, 0, none⟩ (.bool t525)).setCell ⟨gb536, 1, none⟩ (.slice Ao48 t526.length co48)).setCell ⟨gb536, 2, none⟩ (.slice Ao49 t529.length co49)).setCell ⟨gb536, 3, none⟩ (.slice Ao50 t532.length co50)) w.heap.size (fun k_ => some k_ ≠ (v506 : Value).ownBlock) v510 t509) := ⟨by (with_reducible repeat (first | apply Kd.R_alloc | apply Kd.R_drewN | apply Kd.R_drew)); exact Kd.R_mono (Kd.R_far (p := ⟨gb536, 3, none⟩) (Kd.R_far (p := ⟨gb536, 2, none⟩) (Kd.R_far (p := ⟨gb536, 1, none⟩) (Kd.R_far (p := ⟨gb536, 0, none⟩) (Kd.R_types HO511.out BK536.out (by decide)) (fun _ hk => hk.2) (.bool t525)) (fun _ hk => hk.2) (.slice Ao48 t526.length co48)) (fun _ hk => hk.2) (.slice Ao49 t529.length co49)) (fun _ hk => hk.2) (.slice Ao50 t532.length co50)) (fun _ hk => hk.1.2)⟩
        have n5_ : Aside0 (Kd.V (Kd.slice 5 (Kd.int .u8)) 26 ((((w43.setCell ⟨gb536, 0, none⟩ (.bool t525)).setCell ⟨gb536, 1, none⟩ (.slice Ao48 t526.length co48)).setCell ⟨gb536, 2, none⟩ (.slice Ao49 t529.length co49)).setCell ⟨gb536, 3, none⟩ (.slice Ao50 t532.length co50)) w.heap.size (fun k_ => some k_ ≠ (.slice Ao28 t495.length co28 : Value).ownBlock ∧ some k_ ≠ (.slice Ao29 t498.length co29 : Value).ownBlock ∧ some k_ ≠ (.slice Ao30 t501.length co30 : Value).ownBlock ∧ some k_ ≠ (v506 : Value).ownBlock ∧ some k_ ≠ (v510 : Value).ownBlock ∧ some k_ ≠ (.slice Ao48 t526.length co48 : Value).ownBlock ∧ some k_ ≠ (.slice Ao49 t529.length co49 : Value).ownBlock ∧ some k_ ≠ (.slice Ao50 t532.length co50 : Value).ownBlock ∧ k_ ≠ gb493 ∧ k_ ≠ gb504 ∧ k_ ≠ gb524 ∧ k_ ≠ gb536) (.slice Ao39 t514.length co39) t514) := ⟨by (with_reducible repeat (first | apply Kd.V_alloc | apply Kd.V_drewN | apply Kd.V_drew)); exact Kd.V_mono (zv4 (Kd.V_mono HO516.out (fun k_ hk => (⟨hk, hk.2⟩ : _ ∧ k_ ≠ gb536)))) (fun _ hk => ⟨hk.1.1.1.1.1.1.1, ⟨hk.1.1.1.1.1.1.2.1, ⟨hk.1.1.1.1.1.1.2.2.1, ⟨hk.1.1.1.1.1.1.2.2.2.1, ⟨hk.1.1.1.1.1.1.2.2.2.2.1, ⟨hk.1.1.1.1.2, ⟨hk.1.1.1.2, ⟨hk.1.1.2, ⟨hk.1.1.1.1.1.1.2.2.2.2.2.1, ⟨hk.1.1.1.1.1.1.2.2.2.2.2.2, ⟨hk.1.1.1.1.1.2, hk.1.2⟩⟩⟩⟩⟩⟩⟩⟩⟩⟩⟩)⟩
        have n6_ : Aside0 (Kd.V (Kd.slice 5 (Kd.int .u8)) 26 ((((w43.setCell ⟨gb536, 0, none⟩ (.bool t525)).setCell ⟨gb536, 1, none⟩ (.slice Ao48 t526.length co48)).setCell ⟨gb536, 2, none⟩ (.slice Ao49 t529.length co49)).setCell ⟨gb536, 3, none⟩ (.slice Ao50 t532.length co50)) w.heap.size (fun k_ => some k_ ≠ (.slice Ao28 t495.length co28 : Value).ownBlock ∧ some k_ ≠ (.slice Ao29 t498.length co29 : Value).ownBlock ∧ some k_ ≠ (.slice Ao30 t501.length co30 : Value).ownBlock ∧ some k_ ≠ (v506 : Value).ownBlock ∧ some k_ ≠ (v510 : Value).ownBlock ∧ some k_ ≠ (.slice Ao48 t526.length co48 : Value).ownBlock ∧ some k_ ≠ (.slice Ao49 t529.length co49 : Value).ownBlock ∧ some k_ ≠ (.slice Ao50 t532.length co50 : Value).ownBlock ∧ k_ ≠ gb493 ∧ k_ ≠ gb504 ∧ k_ ≠ gb524 ∧ k_ ≠ gb536) (.slice Ao40 t517.length co40) t517) := ⟨by (with_reducible repeat (first | apply Kd.V_alloc | apply Kd.V_drewN | apply Kd.V_drew)); exact Kd.V_mono (zv4 (Kd.V_mono HO519.out (fun k_ hk => (⟨hk, hk.2⟩ : _ ∧ k_ ≠ gb536)))) (fun _ hk => ⟨hk.1.1.1.1.1.1.1, ⟨hk.1.1.1.1.1.1.2.1, ⟨hk.1.1.1.1.1.1.2.2.1, ⟨hk.1.1.1.1.1.1.2.2.2.1, ⟨hk.1.1.1.1.1.1.2.2.2.2.1, ⟨hk.1.1.1.1.2, ⟨hk.1.1.1.2, ⟨hk.1.1.2, ⟨hk.1.1.1.1.1.1.2.2.2.2.2.1, ⟨hk.1.1.1.1.1.1.2.2.2.2.2.2, ⟨hk.1.1.1.1.1.2, hk.1.2⟩⟩⟩⟩⟩⟩⟩⟩⟩⟩⟩)⟩
        have n7_ : Aside0 (Kd.V (Kd.int .i64) 3 ((((w43.setCell ⟨gb536, 0, none⟩ (.bool t525)).setCell ⟨gb536, 1, none⟩ (.slice Ao48 t526.length co48)).setCell ⟨gb536, 2, none⟩ (.slice Ao49 t529.length co49)).setCell ⟨gb536, 3, none⟩ (.slice Ao50 t532.length co50)) w.heap.size (fun k_ => some k_ ≠ (.slice Ao28 t495.length co28 : Value).ownBlock ∧ some k_ ≠ (.slice Ao29 t498.length co29 : Value).ownBlock ∧ some k_ ≠ (.slice Ao30 t501.length co30 : Value).ownBlock ∧ some k_ ≠ (v506 : Value).ownBlock ∧ some k_ ≠ (v510 : Value).ownBlock ∧ some k_ ≠ (.slice Ao48 t526.length co48 : Value).ownBlock ∧ some k_ ≠ (.slice Ao49 t529.length co49 : Value).ownBlock ∧ some k_ ≠ (.slice Ao50 t532.length co50 : Value).ownBlock ∧ k_ ≠ gb493 ∧ k_ ≠ gb504 ∧ k_ ≠ gb524 ∧ k_ ≠ gb536) (.slice Ao41 t520.length co41) t520) := ⟨by (with_reducible repeat (first | apply Kd.V_alloc | apply Kd.V_drewN | apply Kd.V_drew)); exact Kd.V_mono (zv4 (Kd.V_mono HO522.out (fun k_ hk => (⟨hk, hk.2⟩ : _ ∧ k_ ≠ gb536)))) (fun _ hk => ⟨hk.1.1.1.1.1.1.1, ⟨hk.1.1.1.1.1.1.2.1, ⟨hk.1.1.1.1.1.1.2.2.1, ⟨hk.1.1.1.1.1.1.2.2.2.1, ⟨hk.1.1.1.1.1.1.2.2.2.2.1, ⟨hk.1.1.1.1.2, ⟨hk.1.1.1.2, ⟨hk.1.1.2, ⟨hk.1.1.1.1.1.1.2.2.2.2.2.1, ⟨hk.1.1.1.1.1.1.2.2.2.2.2.2, ⟨hk.1.1.1.1.1.2, hk.1.2⟩⟩⟩⟩⟩⟩⟩⟩⟩⟩⟩)⟩
        have n8_ : Aside0 (Kd.N (Kd.slice 5 (Kd.int .u8)) 26 ((((w43.setCell ⟨gb536, 0, none⟩ (.bool t525)).setCell ⟨gb536, 1, none⟩ (.slice Ao48 t526.length co48)).setCell ⟨gb536, 2, none⟩ (.slice Ao49 t529.length co49)).setCell ⟨gb536, 3, none⟩ (.slice Ao50 t532.length co50)) w.heap.size (fun k_ => some k_ ≠ (.slice Ao28 t495.length co28 : Value).ownBlock ∧ some k_ ≠ (.slice Ao29 t498.length co29 : Value).ownBlock ∧ some k_ ≠ (.slice Ao30 t501.length co30 : Value).ownBlock ∧ some k_ ≠ (v506 : Value).ownBlock ∧ some k_ ≠ (v510 : Value).ownBlock ∧ some k_ ≠ (.slice Ao49 t529.length co49 : Value).ownBlock ∧ some k_ ≠ (.slice Ao50 t532.length co50 : Value).ownBlock ∧ k_ ≠ gb493 ∧ k_ ≠ gb504 ∧ k_ ≠ gb524 ∧ k_ ≠ gb536) (.slice Ao48 t526.length co48) t526) := ⟨by (with_reducible repeat (first | apply Kd.N_alloc | apply Kd.N_drewN | apply Kd.N_drew)); exact Kd.N_mono (Kd.N_far (p := ⟨gb536, 3, none⟩) (Kd.N_far (p := ⟨gb536, 2, none⟩) (Kd.N_far (p := ⟨gb536, 1, none⟩) (Kd.N_far (p := ⟨gb536, 0, none⟩) (Kd.N_mono HO528.out (fun k_ hk => (⟨hk, hk.2⟩ : _ ∧ k_ ≠ gb536))) (fun _ hk => hk.2) (.bool t525)) (fun _ hk => hk.2) (.slice Ao48 t526.length co48)) (fun _ hk => hk.2) (.slice Ao49 t529.length co49)) (fun _ hk => hk.2) (.slice Ao50 t532.length co50)) (fun _ hk => ⟨hk.1.1.2.2.1, ⟨hk.1.1.2.2.2.1, ⟨hk.1.1.2.2.2.2.1, ⟨hk.1.1.2.2.2.2.2.1, ⟨hk.1.1.2.2.2.2.2.2.1, ⟨hk.1.1.1, ⟨hk.1.1.2.1, ⟨hk.1.1.2.2.2.2.2.2.2.1, ⟨hk.1.1.2.2.2.2.2.2.2.2.1, ⟨hk.1.1.2.2.2.2.2.2.2.2.2, hk.1.2⟩⟩⟩⟩⟩⟩⟩⟩⟩⟩)⟩
        have n9_ : Aside0 (Kd.N (Kd.slice 5 (Kd.int .u8)) 26 ((((w43.setCell ⟨gb536, 0, none⟩ (.bool t525)).setCell ⟨gb536, 1, none⟩ (.slice Ao48 t526.length co48)).setCell ⟨gb536, 2, none⟩ (.slice Ao49 t529.length co49)).setCell ⟨gb536, 3, none⟩ (.slice Ao50 t532.length co50)) w.heap.size (fun k_ => some k_ ≠ (.slice Ao28 t495.length co28 : Value).ownBlock ∧ some k_ ≠ (.slice Ao29 t498.length co29 : Value).ownBlock ∧ some k_ ≠ (.slice Ao30 t501.length co30 : Value).ownBlock ∧ some k_ ≠ (v506 : Value).ownBlock ∧ some k_ ≠ (v510 : Value).ownBlock ∧ some k_ ≠ (.slice Ao48 t526.length co48 : Value).ownBlock ∧ some k_ ≠ (.slice Ao50 t532.length co50 : Value).ownBlock ∧ k_ ≠ gb493 ∧ k_ ≠ gb504 ∧ k_ ≠ gb524 ∧ k_ ≠ gb536) (.slice Ao49 t529.length co49) t529) := ⟨by (with_reducible repeat (first | apply Kd.N_alloc | apply Kd.N_drewN | apply Kd.N_drew)); exact Kd.N_mono (Kd.N_far (p := ⟨gb536, 3, none⟩) (Kd.N_far (p := ⟨gb536, 2, none⟩) (Kd.N_far (p := ⟨gb536, 1, none⟩) (Kd.N_far (p := ⟨gb536, 0, none⟩) (Kd.N_mono HO531.out (fun k_ hk => (⟨hk, hk.2⟩ : _ ∧ k_ ≠ gb536))) (fun _ hk => hk.2) (.bool t525)) (fun _ hk => hk.2) (.slice Ao48 t526.length co48)) (fun _ hk => hk.2) (.slice Ao49 t529.length co49)) (fun _ hk => hk.2) (.slice Ao50 t532.length co50)) (fun _ hk => ⟨hk.1.1.2.2.1, ⟨hk.1.1.2.2.2.1, ⟨hk.1.1.2.2.2.2.1, ⟨hk.1.1.2.2.2.2.2.1, ⟨hk.1.1.2.2.2.2.2.2.1, ⟨hk.1.1.1, ⟨hk.1.1.2.1, ⟨hk.1.1.2.2.2.2.2.2.2.1, ⟨hk.1.1.2.2.2.2.2.2.2.2.1, ⟨hk.1.1.2.2.2.2.2.2.2.2.2, hk.1.2⟩⟩⟩⟩⟩⟩⟩⟩⟩⟩)⟩
        have n10_ : Aside0 (Kd.R (Kd.int .i64) 3 ((((w43.setCell ⟨gb536, 0, none⟩ (.bool t525)).setCell ⟨gb536, 1, none⟩ (.slice Ao48 t526.length co48)).setCell ⟨gb536, 2, none⟩ (.slice Ao49 t529.length co49)).setCell ⟨gb536, 3, none⟩ (.slice Ao50 t532.length co50)) w.heap.size (fun k_ => some k_ ≠ (.slice Ao30 t501.length co30 : Value).ownBlock) (.slice Ao50 t532.length co50) t532) := ⟨by (with_reducible repeat (first | apply Kd.R_alloc | apply Kd.R_drewN | apply Kd.R_drew)); exact Kd.R_mono (Kd.R_far (p := ⟨gb536, 3, none⟩) (Kd.R_far (p := ⟨gb536, 2, none⟩) (Kd.R_far (p := ⟨gb536, 1, none⟩) (Kd.R_far (p := ⟨gb536, 0, none⟩) (Kd.R_types HO534.out BK536.out (by decide)) (fun _ hk => hk.2) (.bool t525)) (fun _ hk => hk.2) (.slice Ao48 t526.length co48)) (fun _ hk => hk.2) (.slice Ao49 t529.length co49)) (fun _ hk => hk.2) (.slice Ao50 t532.length co50)) (fun _ hk => hk.1.2)⟩
        have n11_ : Aside0 (((((w43.setCell ⟨gb536, 0, none⟩ (.bool t525)).setCell ⟨gb536, 1, none⟩ (.slice Ao48 t526.length co48)).setCell ⟨gb536, 2, none⟩ (.slice Ao49 t529.length co49)).setCell ⟨gb536, 3, none⟩ (.slice Ao50 t532.length co50)).heap[gb493]? = some (.cells #[.bool a0_0, .slice A0_1 l0_1.length c0_1, .slice A0_2 l0_2.length c0_2, .slice A0_3 l0_3.length c0_3] 25 (0, 0))) := ⟨by (with_reducible repeat (first | refine blk_drewN ?_ _ | refine blk_drew ?_ | refine blk_alloc ?_ _)); refine blk_far ?_ NB493_536.out _; (with_reducible repeat (first | refine blk_drewN ?_ _ | refine blk_drew ?_ | refine blk_alloc ?_ _)); refine blk_far ?_ NB493_536.out _; (with_reducible repeat (first | refine blk_drewN ?_ _ | refine blk_drew ?_ | refine blk_alloc ?_ _)); refine blk_far ?_ NB493_536.out _; (with_reducible repeat (first | refine blk_drewN ?_ _ | refine blk_drew ?_ | refine blk_alloc ?_ _)); refine blk_far ?_ NB493_536.out _; (with_reducible repeat (first | refine blk_drewN ?_ _ | refine blk_drew ?_ | refine blk_alloc ?_ _)); exact BK493.out⟩
        have n12_ : Aside0 (((((w43.setCell ⟨gb536, 0, none⟩ (.bool t525)).setCell ⟨gb536, 1, none⟩ (.slice Ao48 t526.length co48)).setCell ⟨gb536, 2, none⟩ (.slice Ao49 t529.length co49)).setCell ⟨gb536, 3, none⟩ (.slice Ao50 t532.length co50)).heap[gb504]? = some (.cells #[.bool t494, .slice Ao28 t495.length co28, .slice Ao29 t498.length co29, .slice Ao30 t501.length co30] 25 (0, 0))) := ⟨by (with_reducible repeat (first | refine blk_drewN ?_ _ | refine blk_drew ?_ | refine blk_alloc ?_ _)); refine blk_far ?_ NB504_536.out _; (with_reducible repeat (first | refine blk_drewN ?_ _ | refine blk_drew ?_ | refine blk_alloc ?_ _)); refine blk_far ?_ NB504_536.out _; (with_reducible repeat (first | refine blk_drewN ?_ _ | refine blk_drew ?_ | refine blk_alloc ?_ _)); refine blk_far ?_ NB504_536.out _; (with_reducible repeat (first | refine blk_drewN ?_ _ | refine blk_drew ?_ | refine blk_alloc ?_ _)); refine blk_far ?_ NB504_536.out _; (with_reducible repeat (first | refine blk_drewN ?_ _ | refine blk_drew ?_ | refine blk_alloc ?_ _)); exact BK504.out⟩
        have n13_ : Aside0 (((((w43.setCell ⟨gb536, 0, none⟩ (.bool t525)).setCell ⟨gb536, 1, none⟩ (.slice Ao48 t526.length co48)).setCell ⟨gb536, 2, none⟩ (.slice Ao49 t529.length co49)).setCell ⟨gb536, 3, none⟩ (.slice Ao50 t532.length co50)).heap[gb524]? = some (.cells #[.bool t513, .slice Ao39 t514.length co39, .slice Ao40 t517.length co40, .slice Ao41 t520.length co41] 25 (0, 0))) := ⟨by (with_reducible repeat (first | refine blk_drewN ?_ _ | refine blk_drew ?_ | refine blk_alloc ?_ _)); refine blk_far ?_ NB524_536.out _; (with_reducible repeat (first | refine blk_drewN ?_ _ | refine blk_drew ?_ | refine blk_alloc ?_ _)); refine blk_far ?_ NB524_536.out _; (with_reducible repeat (first | refine blk_drewN ?_ _ | refine blk_drew ?_ | refine blk_alloc ?_ _)); refine blk_far ?_ NB524_536.out _; (with_reducible repeat (first | refine blk_drewN ?_ _ | refine blk_drew ?_ | refine blk_alloc ?_ _)); refine blk_far ?_ NB524_536.out _; (with_reducible repeat (first | refine blk_drewN ?_ _ | refine blk_drew ?_ | refine blk_alloc ?_ _)); exact BK524.out⟩
        have n14_ : Aside0 (((((w43.setCell ⟨gb536, 0, none⟩ (.bool t525)).setCell ⟨gb536, 1, none⟩ (.slice Ao48 t526.length co48)).setCell ⟨gb536, 2, none⟩ (.slice Ao49 t529.length co49)).setCell ⟨gb536, 3, none⟩ (.slice Ao50 t532.length co50)).heap[gb536]? = some (.cells #[.bool t525, .slice Ao48 t526.length co48, .slice Ao49 t529.length co49, .slice Ao50 t532.length co50] 25 (0, 0))) := ⟨by (with_reducible repeat (first | refine blk_drewN ?_ _ | refine blk_drew ?_ | refine blk_alloc ?_ _)); refine blk_put (cs := #[.bool t525, .slice Ao48 t526.length co48, .slice Ao49 t529.length co49, .slice none 0 0]) ?_ 3 _ (by first | rfl | (simp only [List.length_drop, List.length_take]; rfl)); (with_reducible repeat (first | refine blk_drewN ?_ _ | refine blk_drew ?_ | refine blk_alloc ?_ _)); refine blk_put (cs := #[.bool t525, .slice Ao48 t526.length co48, .slice none 0 0, .slice none 0 0]) ?_ 2 _ (by first | rfl | (simp only [List.length_drop, List.length_take]; rfl)); (with_reducible repeat (first | refine blk_drewN ?_ _ | refine blk_drew ?_ | refine blk_alloc ?_ _)); refine blk_put (cs := #[.bool t525, .slice none 0 0, .slice none 0 0, .slice none 0 0]) ?_ 1 _ (by first | rfl | (simp only [List.length_drop, List.length_take]; rfl)); (with_reducible repeat (first | refine blk_drewN ?_ _ | refine blk_drew ?_ | refine blk_alloc ?_ _)); refine blk_put (cs := #[.bool false, .slice none 0 0, .slice none 0 0, .slice none 0 0]) ?_ 0 _ (by first | rfl | (simp only [List.length_drop, List.length_take]; rfl)); (with_reducible repeat (first | refine blk_drewN ?_ _ | refine blk_drew ?_ | refine blk_alloc ?_ _)); exact BK536.out⟩
        have n15_ : Aside0 (Below w.heap.size w ((((w43.setCell ⟨gb536, 0, none⟩ (.bool t525)).setCell ⟨gb536, 1, none⟩ (.slice Ao48 t526.length co48)).setCell ⟨gb536, 2, none⟩ (.slice Ao49 t529.length co49)).setCell ⟨gb536, 3, none⟩ (.slice Ao50 t532.length co50))) := ⟨by exact zh4_ HB.out GE493.out GE504.out GE524.out GE536.out⟩
        (try clear HO497)
        (try clear HO500)
        (try clear HO503)
        (try clear HO507)
        (try clear HO511)
        (try clear HO516)
        (try clear HO519)
        (try clear HO522)
        (try clear HO528)
        (try clear HO531)
        (try clear HO534)
        (try clear BK493)
        (try clear BK504)
        (try clear BK524)
        (try clear BK536)
        (try clear HB)
        generalize ((((w43.setCell ⟨gb536, 0, none⟩ (.bool t525)).setCell ⟨gb536, 1, none⟩ (.slice Ao48 t526.length co48)).setCell ⟨gb536, 2, none⟩ (.slice Ao49 t529.length co49)).setCell ⟨gb536, 3, none⟩ (.slice Ao50 t532.length co50)) = w51 at n0_ n1_ n2_ n3_ n4_ n5_ n6_ n7_ n8_ n9_ n10_ n11_ n12_ n13_ n14_ n15_ ⊢
        have HO497 := n0_
        have HO500 := n1_
        have HO503 := n2_
        have HO507 := n3_
        have HO511 := n4_
        have HO516 := n5_
        have HO519 := n6_
        have HO522 := n7_
        have HO528 := n8_
        have HO531 := n9_
        have HO534 := n10_
        have BK493 := n11_
        have BK504 := n12_
        have BK524 := n13_
        have BK536 := n14_
        have HB := n15_
        clear n0_ n1_ n2_ n3_ n4_ n5_ n6_ n7_ n8_ n9_ n10_ n11_ n12_ n13_ n14_ n15_
        have n0_ := Aside0.mk (Kd.N_drew HO497.out)
        have n1_ := Aside0.mk (Kd.N_drew HO500.out)
        have n2_ := Aside0.mk (Kd.R_drew HO503.out)
        have n3_ := Aside0.mk (Kd.R_drew HO507.out)
        have n4_ := Aside0.mk (Kd.R_drew HO511.out)
        have n5_ := Aside0.mk (Kd.V_drew HO516.out)
        have n6_ := Aside0.mk (Kd.V_drew HO519.out)
        have n7_ := Aside0.mk (Kd.V_drew HO522.out)
        have n8_ := Aside0.mk (Kd.N_drew HO528.out)
        have n9_ := Aside0.mk (Kd.N_drew HO531.out)
        have n10_ := Aside0.mk (Kd.R_drew HO534.out)
        have n11_ := Aside0.mk (blk_drew BK493.out)
        have n12_ := Aside0.mk (blk_drew BK504.out)
        have n13_ := Aside0.mk (blk_drew BK524.out)
        have n14_ := Aside0.mk (blk_drew BK536.out)
        have n15_ := Aside0.mk (below_drew1 HB.out)
        clear HO497 HO500 HO503 HO507 HO511 HO516 HO519 HO522 HO528 HO531 HO534 BK493 BK504 BK524 BK536 HB
        have HO497 := n0_
        have HO500 := n1_
        have HO503 := n2_
        have HO507 := n3_
        have HO511 := n4_
        have HO516 := n5_
        have HO519 := n6_
        have HO522 := n7_
        have HO528 := n8_
        have HO531 := n9_
        have HO534 := n10_
        have BK493 := n11_
        have BK504 := n12_
        have BK524 := n13_
        have BK536 := n14_
        have HB := n15_
        clear n0_ n1_ n2_ n3_ n4_ n5_ n6_ n7_ n8_ n9_ n10_ n11_ n12_ n13_ n14_ n15_
        refine start_ (n := 43) (S := fun w' => w'.cell? ⟨gb504, 0, none⟩ = some (.bool t494) ∧ w'.cell? ⟨gb504, 1, none⟩ = some (.slice Ao28 t495.length co28) ∧ w'.cell? ⟨gb504, 2, none⟩ = some (.slice Ao29 t498.length co29) ∧ w'.cell? ⟨gb504, 3, none⟩ = some (.slice Ao30 t501.length co30) ∧ w'.cell? ⟨gb493, 0, none⟩ = some (.bool a0_0) ∧ w'.cell? ⟨gb493, 1, none⟩ = some (.slice A0_1 l0_1.length c0_1) ∧ w'.cell? ⟨gb493, 2, none⟩ = some (.slice A0_2 l0_2.length c0_2) ∧ w'.cell? ⟨gb493, 3, none⟩ = some (.slice A0_3 l0_3.length c0_3) ∧ w'.cell? ⟨gb524, 0, none⟩ = some (.bool t513) ∧ w'.cell? ⟨gb524, 1, none⟩ = some (.slice Ao39 t514.length co39) ∧ w'.cell? ⟨gb524, 2, none⟩ = some (.slice Ao40 t517.length co40) ∧ w'.cell? ⟨gb524, 3, none⟩ = some (.slice Ao41 t520.length co41) ∧ w'.cell? ⟨gb536, 0, none⟩ = some (.bool t525) ∧ w'.cell? ⟨gb536, 1, none⟩ = some (.slice Ao48 t526.length co48) ∧ w'.cell? ⟨gb536, 2, none⟩ = some (.slice Ao49 t529.length co49) ∧ w'.cell? ⟨gb536, 3, none⟩ = some (.slice Ao50 t532.length co50) ∧ (convert 26 9 (v506)).run Tryd.prog w' = .ok (.string (strOfNums t505)) w' ∧ (convert 26 9 (v510)).run Tryd.prog w' = .ok (.string (strOfNums t509)) w') (ds := []) (zB 0 43) (by kernel_rfl) rfl rfl ⟨(blk_cell BK504.out 0).trans rfl, (blk_cell BK504.out 1).trans rfl, (blk_cell BK504.out 2).trans rfl, (blk_cell BK504.out 3).trans rfl, (blk_cell BK493.out 0).trans rfl, (blk_cell BK493.out 1).trans rfl, (blk_cell BK493.out 2).trans rfl, (blk_cell BK493.out 3).trans rfl, (blk_cell BK524.out 0).trans rfl, (blk_cell BK524.out 1).trans rfl, (blk_cell BK524.out 2).trans rfl, (blk_cell BK524.out 3).trans rfl, (blk_cell BK536.out 0).trans rfl, (blk_cell BK536.out 1).trans rfl, (blk_cell BK536.out 2).trans rfl, (blk_cell BK536.out 3).trans rfl, (own_string (P := Tryd.prog) Tryd.underlying26 Tryd.underlying5 Tryd.underlying9 (Kd.own_of_R HO507.out)), (own_string (P := Tryd.prog) Tryd.underlying26 Tryd.underlying5 Tryd.underlying9 (Kd.own_of_R HO511.out))⟩ (fun hHeld => ?_); refine with_tabW ladinglaw06_NodeCodes.tab6 ladinglaw06_NodeCodes.bits6 (fun HT_ HW_ => ?_)
        generalize w51.drew = w52 at HO497 HO500 HO503 HO507 HO511 HO516 HO519 HO522 HO528 HO531 HO534 BK493 BK504 BK524 BK536 HB hHeld ⊢
        refine one_ (i := 0) (N := some 36) (zB 1 42) rfl rfl (one_of HT_.out (by kernel_rfl)) (by decide) (fun K hK => ?_)
        refine goes_ Tryd.func10 (by kernel_rfl) rfl #[] (by rfl) rfl rfl zl_ ?_
        with_reducible refine (ladinglaw06_lives.calls  true _ A8.out).mono ?_
        rintro e w53 ⟨rfl, hb⟩
        refine ⟨_, rfl, ?_⟩
        have n0_ := Aside0.mk (Kd.N_below (zN_ HO497.out) hb)
        have n1_ := Aside0.mk (Kd.N_below (zN_ HO500.out) hb)
        have n2_ := Aside0.mk (Kd.R_below (zR_ HO503.out) hb)
        have n3_ := Aside0.mk (Kd.R_below (zR_ HO507.out) hb)
        have n4_ := Aside0.mk (Kd.R_below (zR_ HO511.out) hb)
        have n5_ := Aside0.mk (Kd.V_below (zV_ HO516.out) hb)
        have n6_ := Aside0.mk (Kd.V_below (zV_ HO519.out) hb)
        have n7_ := Aside0.mk (Kd.V_below (zV_ HO522.out) hb)
        have n8_ := Aside0.mk (Kd.N_below (zN_ HO528.out) hb)
        have n9_ := Aside0.mk (Kd.N_below (zN_ HO531.out) hb)
        have n10_ := Aside0.mk (Kd.R_below (zR_ HO534.out) hb)
        have n11_ := Aside0.mk (blk_below (zb_ BK493.out) hb)
        have n12_ := Aside0.mk (blk_below (zb_ BK504.out) hb)
        have n13_ := Aside0.mk (blk_below (zb_ BK524.out) hb)
        have n14_ := Aside0.mk (blk_below (zb_ BK536.out) hb)
        have n15_ := Aside0.mk (below_step (zh4_ HB.out GE493.out GE504.out GE524.out GE536.out) hb)
        clear HO497 HO500 HO503 HO507 HO511 HO516 HO519 HO522 HO528 HO531 HO534 BK493 BK504 BK524 BK536 HB
        have HO497 := n0_
        have HO500 := n1_
        have HO503 := n2_
        have HO507 := n3_
        have HO511 := n4_
        have HO516 := n5_
        have HO519 := n6_
        have HO522 := n7_
        have HO528 := n8_
        have HO531 := n9_
        have HO534 := n10_
        have BK493 := n11_
        have BK504 := n12_
        have BK524 := n13_
        have BK536 := n14_
        have HB := n15_
        clear n0_ n1_ n2_ n3_ n4_ n5_ n6_ n7_ n8_ n9_ n10_ n11_ n12_ n13_ n14_ n15_
        (try clear hb)
        (try clear hb2)
        (try clear hk)
        (try clear hi)
        refine hK.out _ _ ⟨(blk_cell BK504.out 0).trans rfl, (blk_cell BK504.out 1).trans rfl, (blk_cell BK504.out 2).trans rfl, (blk_cell BK504.out 3).trans rfl, (blk_cell BK493.out 0).trans rfl, (blk_cell BK493.out 1).trans rfl, (blk_cell BK493.out 2).trans rfl, (blk_cell BK493.out 3).trans rfl, (blk_cell BK524.out 0).trans rfl, (blk_cell BK524.out 1).trans rfl, (blk_cell BK524.out 2).trans rfl, (blk_cell BK524.out 3).trans rfl, (blk_cell BK536.out 0).trans rfl, (blk_cell BK536.out 1).trans rfl, (blk_cell BK536.out 2).trans rfl, (blk_cell BK536.out 3).trans rfl, (own_string (P := Tryd.prog) Tryd.underlying26 Tryd.underlying5 Tryd.underlying9 (Kd.own_of_R HO507.out)), (own_string (P := Tryd.prog) Tryd.underlying26 Tryd.underlying5 Tryd.underlying9 (Kd.own_of_R HO511.out))⟩ (fun hHeld => ?_)
        clear hK K
        refine zno 36 ?_
        refine zpu 1 (some 37) (zB 2 41) (any_of HT_.out (by kernel_rfl)) ?_
        refine zta 2 (some 38) (zB 3 40) (take_ofW HT_.out HW_.out (by kernel_rfl)) hHeld ?_
        refine zta 4 (some 40) #[true, true, true, false, true, false, false, false, false, false, false, false, false, false, false, false, false, false, false, false, false, false, false, false, false, false, false, false, false, false, false, false, false, false, false, false, false, false, false, false, false, false, false] (take_ofW HT_.out HW_.out (by kernel_rfl)) hHeld ?_
        refine one_ (i := 3) (N := some 39) (zB 5 38) rfl rfl (one_of HT_.out (by kernel_rfl)) (by decide) (fun K hK => ?_)
        refine goes_ Tryd.func11 (by kernel_rfl) rfl #[.agg #[.bool t494, .slice Ao28 t495.length co28, .slice Ao29 t498.length co29, .slice Ao30 t501.length co30]] (by rfl) rfl rfl zl_ ?_
        with_reducible refine (node_Check.calls k t494 _ _ t495 _ _ t498 _ _ t501 t538 _ ?side1 ?side2 ?side3 ?side4 ?side5 ?side6 A10.out).mono ?_
        (case side1 => repeat (first | exact (Kd.N_reads' HO497.out).2.2 | (with_reducible refine Kd.C_alloc ?_ _) | (with_reducible refine Kd.C_drewN ?_ _) | (with_reducible refine Kd.C_drew ?_)))
        (case side2 => exact (Kd.N_reads' HO497.out).2.1)
        (case side3 => repeat (first | exact (Kd.N_reads' HO500.out).2.2 | (with_reducible refine Kd.C_alloc ?_ _) | (with_reducible refine Kd.C_drewN ?_ _) | (with_reducible refine Kd.C_drew ?_)))
        (case side4 => exact (Kd.N_reads' HO500.out).2.1)
        (case side5 => repeat (first | exact (Kd.R_reads' HO503.out).2.2 | (with_reducible refine Kd.C_alloc ?_ _) | (with_reducible refine Kd.C_drewN ?_ _) | (with_reducible refine Kd.C_drew ?_)))
        (case side6 => exact (Kd.R_reads' HO503.out).2.1)
        rintro e w54 ⟨rfl, hb⟩
        refine ⟨_, rfl, ?_⟩
        have n0_ := Aside0.mk (Kd.N_below (zN_ HO497.out) hb)
        have n1_ := Aside0.mk (Kd.N_below (zN_ HO500.out) hb)
        have n2_ := Aside0.mk (Kd.R_below (zR_ HO503.out) hb)
        have n3_ := Aside0.mk (Kd.R_below (zR_ HO507.out) hb)
        have n4_ := Aside0.mk (Kd.R_below (zR_ HO511.out) hb)
        have n5_ := Aside0.mk (Kd.V_below (zV_ HO516.out) hb)
        have n6_ := Aside0.mk (Kd.V_below (zV_ HO519.out) hb)
        have n7_ := Aside0.mk (Kd.V_below (zV_ HO522.out) hb)
        have n8_ := Aside0.mk (Kd.N_below (zN_ HO528.out) hb)
        have n9_ := Aside0.mk (Kd.N_below (zN_ HO531.out) hb)
        have n10_ := Aside0.mk (Kd.R_below (zR_ HO534.out) hb)
        have n11_ := Aside0.mk (blk_below (zb_ BK493.out) hb)
        have n12_ := Aside0.mk (blk_below (zb_ BK504.out) hb)
        have n13_ := Aside0.mk (blk_below (zb_ BK524.out) hb)
        have n14_ := Aside0.mk (blk_below (zb_ BK536.out) hb)
        have n15_ := Aside0.mk (below_step (zh4_ HB.out GE493.out GE504.out GE524.out GE536.out) hb)
        clear HO497 HO500 HO503 HO507 HO511 HO516 HO519 HO522 HO528 HO531 HO534 BK493 BK504 BK524 BK536 HB
        have HO497 := n0_
        have HO500 := n1_
        have HO503 := n2_
        have HO507 := n3_
        have HO511 := n4_
        have HO516 := n5_
        have HO519 := n6_
        have HO522 := n7_
        have HO528 := n8_
        have HO531 := n9_
        have HO534 := n10_
        have BK493 := n11_
        have BK504 := n12_
        have BK524 := n13_
        have BK536 := n14_
        have HB := n15_
        clear n0_ n1_ n2_ n3_ n4_ n5_ n6_ n7_ n8_ n9_ n10_ n11_ n12_ n13_ n14_ n15_
        (try clear hb)
        (try clear hb2)
        (try clear hk)
        (try clear hi)
        refine hK.out _ _ ⟨(blk_cell BK504.out 0).trans rfl, (blk_cell BK504.out 1).trans rfl, (blk_cell BK504.out 2).trans rfl, (blk_cell BK504.out 3).trans rfl, (blk_cell BK493.out 0).trans rfl, (blk_cell BK493.out 1).trans rfl, (blk_cell BK493.out 2).trans rfl, (blk_cell BK493.out 3).trans rfl, (blk_cell BK524.out 0).trans rfl, (blk_cell BK524.out 1).trans rfl, (blk_cell BK524.out 2).trans rfl, (blk_cell BK524.out 3).trans rfl, (blk_cell BK536.out 0).trans rfl, (blk_cell BK536.out 1).trans rfl, (blk_cell BK536.out 2).trans rfl, (blk_cell BK536.out 3).trans rfl, (own_string (P := Tryd.prog) Tryd.underlying26 Tryd.underlying5 Tryd.underlying9 (Kd.own_of_R HO507.out)), (own_string (P := Tryd.prog) Tryd.underlying26 Tryd.underlying5 Tryd.underlying9 (Kd.own_of_R HO511.out))⟩ (fun hHeld => ?_)
        clear hK K
        refine zno 39 ?_
        refine one_ (i := 5) (N := some 41) (zB 6 37) rfl rfl (one_of HT_.out (by kernel_rfl)) (by decide) (fun K hK => ?_)
        refine goes_ Tryd.func12 (by kernel_rfl) rfl #[.agg #[.bool a0_0, .slice A0_1 l0_1.length c0_1, .slice A0_2 l0_2.length c0_2, .slice A0_3 l0_3.length c0_3]] (by rfl) rfl rfl zl_ ?_
        with_reducible refine (ladingref06_Check.calls k a0_0 _ _ l0_1 _ _ l0_2 _ _ l0_3 t539 _ ?side1 ?side2 ?side3 ?side4 ?side5 ?side6 A11.out).mono ?_
        (case side1 => exact zc_ (Kd.C_below HR0_1.out HB.out))
        (case side2 => exact HC0_1.out)
        (case side3 => exact zc_ (Kd.C_below HR0_2.out HB.out))
        (case side4 => exact HC0_2.out)
        (case side5 => exact zc_ (Kd.C_below HR0_3.out HB.out))
        (case side6 => exact HC0_3.out)
        rintro e w55 ⟨rfl, hb⟩
        refine ⟨_, rfl, ?_⟩
        have n0_ := Aside0.mk (Kd.N_below (zN_ HO497.out) hb)
        have n1_ := Aside0.mk (Kd.N_below (zN_ HO500.out) hb)
        have n2_ := Aside0.mk (Kd.R_below (zR_ HO503.out) hb)
        have n3_ := Aside0.mk (Kd.R_below (zR_ HO507.out) hb)
        have n4_ := Aside0.mk (Kd.R_below (zR_ HO511.out) hb)
        have n5_ := Aside0.mk (Kd.V_below (zV_ HO516.out) hb)
        have n6_ := Aside0.mk (Kd.V_below (zV_ HO519.out) hb)
        have n7_ := Aside0.mk (Kd.V_below (zV_ HO522.out) hb)
        have n8_ := Aside0.mk (Kd.N_below (zN_ HO528.out) hb)
        have n9_ := Aside0.mk (Kd.N_below (zN_ HO531.out) hb)
        have n10_ := Aside0.mk (Kd.R_below (zR_ HO534.out) hb)
        have n11_ := Aside0.mk (blk_below (zb_ BK493.out) hb)
        have n12_ := Aside0.mk (blk_below (zb_ BK504.out) hb)
        have n13_ := Aside0.mk (blk_below (zb_ BK524.out) hb)
        have n14_ := Aside0.mk (blk_below (zb_ BK536.out) hb)
        have n15_ := Aside0.mk (below_step (zh4_ HB.out GE493.out GE504.out GE524.out GE536.out) hb)
        clear HO497 HO500 HO503 HO507 HO511 HO516 HO519 HO522 HO528 HO531 HO534 BK493 BK504 BK524 BK536 HB
        have HO497 := n0_
        have HO500 := n1_
        have HO503 := n2_
        have HO507 := n3_
        have HO511 := n4_
        have HO516 := n5_
        have HO519 := n6_
        have HO522 := n7_
        have HO528 := n8_
        have HO531 := n9_
        have HO534 := n10_
        have BK493 := n11_
        have BK504 := n12_
        have BK524 := n13_
        have BK536 := n14_
        have HB := n15_
        clear n0_ n1_ n2_ n3_ n4_ n5_ n6_ n7_ n8_ n9_ n10_ n11_ n12_ n13_ n14_ n15_
        (try clear hb)
        (try clear hb2)
        (try clear hk)
        (try clear hi)
        refine hK.out _ _ ⟨(blk_cell BK504.out 0).trans rfl, (blk_cell BK504.out 1).trans rfl, (blk_cell BK504.out 2).trans rfl, (blk_cell BK504.out 3).trans rfl, (blk_cell BK493.out 0).trans rfl, (blk_cell BK493.out 1).trans rfl, (blk_cell BK493.out 2).trans rfl, (blk_cell BK493.out 3).trans rfl, (blk_cell BK524.out 0).trans rfl, (blk_cell BK524.out 1).trans rfl, (blk_cell BK524.out 2).trans rfl, (blk_cell BK524.out 3).trans rfl, (blk_cell BK536.out 0).trans rfl, (blk_cell BK536.out 1).trans rfl, (blk_cell BK536.out 2).trans rfl, (blk_cell BK536.out 3).trans rfl, (own_string (P := Tryd.prog) Tryd.underlying26 Tryd.underlying5 Tryd.underlying9 (Kd.own_of_R HO507.out)), (own_string (P := Tryd.prog) Tryd.underlying26 Tryd.underlying5 Tryd.underlying9 (Kd.own_of_R HO511.out))⟩ (fun hHeld => ?_)
        clear hK K
        refine zno 41 ?_
        refine zpu 6 (some 42) (zB 7 36) (any_of HT_.out (by kernel_rfl)) ?_
        refine zpu 7 (some 43) (zB 8 35) (any_of HT_.out (by kernel_rfl)) ?_
        refine zpu 8 (some 44) (zB 9 34) (any_of HT_.out (by kernel_rfl)) ?_
        refine zta 9 (some 45) (zB 10 33) (take_ofW HT_.out HW_.out (by kernel_rfl)) hHeld ?_
        refine zta 11 (some 47) #[true, true, true, true, true, true, true, true, true, true, false, true, false, false, false, false, false, false, false, false, false, false, false, false, false, false, false, false, false, false, false, false, false, false, false, false, false, false, false, false, false, false, false] (take_ofW HT_.out HW_.out (by kernel_rfl)) hHeld ?_
        refine one_ (i := 10) (N := some 46) (zB 12 31) rfl rfl (one_of HT_.out (by kernel_rfl)) (by decide) (fun K hK => ?_)
        refine goes_ Tryd.func13 (by kernel_rfl) rfl #[.agg #[.bool t494, .slice Ao28 t495.length co28, .slice Ao29 t498.length co29, .slice Ao30 t501.length co30]] (by rfl) rfl rfl zl_ ?_
        with_reducible refine (node_Size.calls k t494 _ _ t495 _ _ t498 _ _ t501 t540 _ ?side1 ?side2 ?side3 ?side4 ?side5 ?side6 A13.out).mono ?_
        (case side1 => repeat (first | exact (Kd.N_reads' HO497.out).2.2 | (with_reducible refine Kd.C_alloc ?_ _) | (with_reducible refine Kd.C_drewN ?_ _) | (with_reducible refine Kd.C_drew ?_)))
        (case side2 => exact (Kd.N_reads' HO497.out).2.1)
        (case side3 => repeat (first | exact (Kd.N_reads' HO500.out).2.2 | (with_reducible refine Kd.C_alloc ?_ _) | (with_reducible refine Kd.C_drewN ?_ _) | (with_reducible refine Kd.C_drew ?_)))
        (case side4 => exact (Kd.N_reads' HO500.out).2.1)
        (case side5 => repeat (first | exact (Kd.R_reads' HO503.out).2.2 | (with_reducible refine Kd.C_alloc ?_ _) | (with_reducible refine Kd.C_drewN ?_ _) | (with_reducible refine Kd.C_drew ?_)))
        (case side6 => exact (Kd.R_reads' HO503.out).2.1)
        rintro e w56 ⟨rfl, hb⟩
        refine ⟨_, rfl, ?_⟩
        have n0_ := Aside0.mk (Kd.N_below (zN_ HO497.out) hb)
        have n1_ := Aside0.mk (Kd.N_below (zN_ HO500.out) hb)
        have n2_ := Aside0.mk (Kd.R_below (zR_ HO503.out) hb)
        have n3_ := Aside0.mk (Kd.R_below (zR_ HO507.out) hb)
        have n4_ := Aside0.mk (Kd.R_below (zR_ HO511.out) hb)
        have n5_ := Aside0.mk (Kd.V_below (zV_ HO516.out) hb)
        have n6_ := Aside0.mk (Kd.V_below (zV_ HO519.out) hb)
        have n7_ := Aside0.mk (Kd.V_below (zV_ HO522.out) hb)
        have n8_ := Aside0.mk (Kd.N_below (zN_ HO528.out) hb)
        have n9_ := Aside0.mk (Kd.N_below (zN_ HO531.out) hb)
        have n10_ := Aside0.mk (Kd.R_below (zR_ HO534.out) hb)
        have n11_ := Aside0.mk (blk_below (zb_ BK493.out) hb)
        have n12_ := Aside0.mk (blk_below (zb_ BK504.out) hb)
        have n13_ := Aside0.mk (blk_below (zb_ BK524.out) hb)
        have n14_ := Aside0.mk (blk_below (zb_ BK536.out) hb)
        have n15_ := Aside0.mk (below_step (zh4_ HB.out GE493.out GE504.out GE524.out GE536.out) hb)
        clear HO497 HO500 HO503 HO507 HO511 HO516 HO519 HO522 HO528 HO531 HO534 BK493 BK504 BK524 BK536 HB
        have HO497 := n0_
        have HO500 := n1_
        have HO503 := n2_
        have HO507 := n3_
        have HO511 := n4_
        have HO516 := n5_
        have HO519 := n6_
        have HO522 := n7_
        have HO528 := n8_
        have HO531 := n9_
        have HO534 := n10_
        have BK493 := n11_
        have BK504 := n12_
        have BK524 := n13_
        have BK536 := n14_
        have HB := n15_
        clear n0_ n1_ n2_ n3_ n4_ n5_ n6_ n7_ n8_ n9_ n10_ n11_ n12_ n13_ n14_ n15_
        (try clear hb)
        (try clear hb2)
        (try clear hk)
        (try clear hi)
        refine hK.out _ _ ⟨(blk_cell BK504.out 0).trans rfl, (blk_cell BK504.out 1).trans rfl, (blk_cell BK504.out 2).trans rfl, (blk_cell BK504.out 3).trans rfl, (blk_cell BK493.out 0).trans rfl, (blk_cell BK493.out 1).trans rfl, (blk_cell BK493.out 2).trans rfl, (blk_cell BK493.out 3).trans rfl, (blk_cell BK524.out 0).trans rfl, (blk_cell BK524.out 1).trans rfl, (blk_cell BK524.out 2).trans rfl, (blk_cell BK524.out 3).trans rfl, (blk_cell BK536.out 0).trans rfl, (blk_cell BK536.out 1).trans rfl, (blk_cell BK536.out 2).trans rfl, (blk_cell BK536.out 3).trans rfl, (own_string (P := Tryd.prog) Tryd.underlying26 Tryd.underlying5 Tryd.underlying9 (Kd.own_of_R HO507.out)), (own_string (P := Tryd.prog) Tryd.underlying26 Tryd.underlying5 Tryd.underlying9 (Kd.own_of_R HO511.out))⟩ (fun hHeld => ?_)
        clear hK K
        refine zno 46 ?_
        refine one_ (i := 12) (N := some 48) (zB 13 30) rfl rfl (one_of HT_.out (by kernel_rfl)) (by decide) (fun K hK => ?_)
        refine goes_ Tryd.func14 (by kernel_rfl) rfl #[.agg #[.bool a0_0, .slice A0_1 l0_1.length c0_1, .slice A0_2 l0_2.length c0_2, .slice A0_3 l0_3.length c0_3]] (by rfl) rfl rfl zl_ ?_
        with_reducible refine (ladingref06_Size.calls k a0_0 _ _ l0_1 _ _ l0_2 _ _ l0_3 t541 _ ?side1 ?side2 ?side3 ?side4 ?side5 ?side6 A14.out).mono ?_
        (case side1 => exact zc_ (Kd.C_below HR0_1.out HB.out))
        (case side2 => exact HC0_1.out)
        (case side3 => exact zc_ (Kd.C_below HR0_2.out HB.out))
        (case side4 => exact HC0_2.out)
        (case side5 => exact zc_ (Kd.C_below HR0_3.out HB.out))
        (case side6 => exact HC0_3.out)
        rintro e w57 ⟨rfl, hb⟩
        refine ⟨_, rfl, ?_⟩
        have n0_ := Aside0.mk (Kd.N_below (zN_ HO497.out) hb)
        have n1_ := Aside0.mk (Kd.N_below (zN_ HO500.out) hb)
        have n2_ := Aside0.mk (Kd.R_below (zR_ HO503.out) hb)
        have n3_ := Aside0.mk (Kd.R_below (zR_ HO507.out) hb)
        have n4_ := Aside0.mk (Kd.R_below (zR_ HO511.out) hb)
        have n5_ := Aside0.mk (Kd.V_below (zV_ HO516.out) hb)
        have n6_ := Aside0.mk (Kd.V_below (zV_ HO519.out) hb)
        have n7_ := Aside0.mk (Kd.V_below (zV_ HO522.out) hb)
        have n8_ := Aside0.mk (Kd.N_below (zN_ HO528.out) hb)
        have n9_ := Aside0.mk (Kd.N_below (zN_ HO531.out) hb)
        have n10_ := Aside0.mk (Kd.R_below (zR_ HO534.out) hb)
        have n11_ := Aside0.mk (blk_below (zb_ BK493.out) hb)
        have n12_ := Aside0.mk (blk_below (zb_ BK504.out) hb)
        have n13_ := Aside0.mk (blk_below (zb_ BK524.out) hb)
        have n14_ := Aside0.mk (blk_below (zb_ BK536.out) hb)
        have n15_ := Aside0.mk (below_step (zh4_ HB.out GE493.out GE504.out GE524.out GE536.out) hb)
        clear HO497 HO500 HO503 HO507 HO511 HO516 HO519 HO522 HO528 HO531 HO534 BK493 BK504 BK524 BK536 HB
        have HO497 := n0_
        have HO500 := n1_
        have HO503 := n2_
        have HO507 := n3_
        have HO511 := n4_
        have HO516 := n5_
        have HO519 := n6_
        have HO522 := n7_
        have HO528 := n8_
        have HO531 := n9_
        have HO534 := n10_
        have BK493 := n11_
        have BK504 := n12_
        have BK524 := n13_
        have BK536 := n14_
        have HB := n15_
        clear n0_ n1_ n2_ n3_ n4_ n5_ n6_ n7_ n8_ n9_ n10_ n11_ n12_ n13_ n14_ n15_
        (try clear hb)
        (try clear hb2)
        (try clear hk)
        (try clear hi)
        refine hK.out _ _ ⟨(blk_cell BK504.out 0).trans rfl, (blk_cell BK504.out 1).trans rfl, (blk_cell BK504.out 2).trans rfl, (blk_cell BK504.out 3).trans rfl, (blk_cell BK493.out 0).trans rfl, (blk_cell BK493.out 1).trans rfl, (blk_cell BK493.out 2).trans rfl, (blk_cell BK493.out 3).trans rfl, (blk_cell BK524.out 0).trans rfl, (blk_cell BK524.out 1).trans rfl, (blk_cell BK524.out 2).trans rfl, (blk_cell BK524.out 3).trans rfl, (blk_cell BK536.out 0).trans rfl, (blk_cell BK536.out 1).trans rfl, (blk_cell BK536.out 2).trans rfl, (blk_cell BK536.out 3).trans rfl, (own_string (P := Tryd.prog) Tryd.underlying26 Tryd.underlying5 Tryd.underlying9 (Kd.own_of_R HO507.out)), (own_string (P := Tryd.prog) Tryd.underlying26 Tryd.underlying5 Tryd.underlying9 (Kd.own_of_R HO511.out))⟩ (fun hHeld => ?_)
        clear hK K
        refine zno 48 ?_
        refine zpu 13 (some 49) (zB 14 29) (any_of HT_.out (by kernel_rfl)) ?_
        refine zpu 14 (some 50) (zB 15 28) (any_of HT_.out (by kernel_rfl)) ?_
        refine zpu 15 (some 51) (zB 16 27) (any_of HT_.out (by kernel_rfl)) ?_
        refine zpu 16 (some 52) (zB 17 26) (any_of HT_.out (by kernel_rfl)) ?_
        refine zpu 18 (some 54) #[true, true, true, true, true, true, true, true, true, true, true, true, true, true, true, true, true, false, true, false, false, false, false, false, false, false, false, false, false, false, false, false, false, false, false, false, false, false, false, false, false, false, false] (any_of HT_.out (by kernel_rfl)) ?_
        refine zta 17 (some 53) (zB 19 24) (take_ofW HT_.out HW_.out (by kernel_rfl)) hHeld ?_
        refine zta 19 (some 55) (zB 20 23) (take_ofW HT_.out HW_.out (by kernel_rfl)) hHeld ?_
        refine zpu 20 (some 56) (zB 21 22) (any_of HT_.out (by kernel_rfl)) ?_
        refine zpu 21 (some 57) (zB 22 21) (any_of HT_.out (by kernel_rfl)) ?_
        refine zpu 22 (some 58) (zB 23 20) (any_of HT_.out (by kernel_rfl)) ?_
        refine zpu 23 (some 59) (zB 24 19) (any_of HT_.out (by kernel_rfl)) ?_
        refine zpu 24 (some 60) (zB 25 18) (any_of HT_.out (by kernel_rfl)) ?_
        refine zpu 25 (some 61) (zB 26 17) (any_of HT_.out (by kernel_rfl)) ?_
        refine zpu 26 (some 62) (zB 27 16) (any_of HT_.out (by kernel_rfl)) ?_
        refine zpu 27 (some 63) (zB 28 15) (any_of HT_.out (by kernel_rfl)) ?_
        refine zta 28 (some 64) (zB 29 14) (take_ofW HT_.out HW_.out (by kernel_rfl)) hHeld ?_
        refine zta 29 (some 65) (zB 30 13) (take_ofW HT_.out HW_.out (by kernel_rfl)) hHeld ?_
        refine one_ (i := 30) (N := some 66) (zB 31 12) rfl rfl (one_of HT_.out (by kernel_rfl)) (by decide) (fun K hK => ?_)
        refine goes_ Tryd.func15 (by kernel_rfl) rfl #[.agg #[.bool t513, .slice Ao39 t514.length co39, .slice Ao40 t517.length co40, .slice Ao41 t520.length co41], .agg #[.bool t525, .slice Ao48 t526.length co48, .slice Ao49 t529.length co49, .slice Ao50 t532.length co50]] (by rfl) rfl rfl zl_ ?_
        with_reducible refine (ladingref06_Same.calls k t513 _ _ t514 _ _ t517 _ _ t520 t525 _ _ t526 _ _ t529 _ _ t532 true _ ?side1 ?side2 ?side3 ?side4 ?side5 ?side6 ?side7 ?side8 ?side9 ?side10 ?side11 ?side12 A18.out).mono ?_
        (case side1 => repeat (first | exact (Kd.V_reads' HO516.out).2.2 | (with_reducible refine Kd.C_alloc ?_ _) | (with_reducible refine Kd.C_drewN ?_ _) | (with_reducible refine Kd.C_drew ?_)))
        (case side2 => exact (Kd.V_reads' HO516.out).2.1)
        (case side3 => repeat (first | exact (Kd.V_reads' HO519.out).2.2 | (with_reducible refine Kd.C_alloc ?_ _) | (with_reducible refine Kd.C_drewN ?_ _) | (with_reducible refine Kd.C_drew ?_)))
        (case side4 => exact (Kd.V_reads' HO519.out).2.1)
        (case side5 => repeat (first | exact (Kd.V_reads' HO522.out).2.2 | (with_reducible refine Kd.C_alloc ?_ _) | (with_reducible refine Kd.C_drewN ?_ _) | (with_reducible refine Kd.C_drew ?_)))
        (case side6 => exact (Kd.V_reads' HO522.out).2.1)
        (case side7 => repeat (first | exact (Kd.N_reads' HO528.out).2.2 | (with_reducible refine Kd.C_alloc ?_ _) | (with_reducible refine Kd.C_drewN ?_ _) | (with_reducible refine Kd.C_drew ?_)))
        (case side8 => exact (Kd.N_reads' HO528.out).2.1)
        (case side9 => repeat (first | exact (Kd.N_reads' HO531.out).2.2 | (with_reducible refine Kd.C_alloc ?_ _) | (with_reducible refine Kd.C_drewN ?_ _) | (with_reducible refine Kd.C_drew ?_)))
        (case side10 => exact (Kd.N_reads' HO531.out).2.1)
        (case side11 => repeat (first | exact (Kd.R_reads' HO534.out).2.2 | (with_reducible refine Kd.C_alloc ?_ _) | (with_reducible refine Kd.C_drewN ?_ _) | (with_reducible refine Kd.C_drew ?_)))
        (case side12 => exact (Kd.R_reads' HO534.out).2.1)
        rintro e w59 ⟨rfl, hb⟩
        refine ⟨_, rfl, ?_⟩
        have n0_ := Aside0.mk (Kd.N_below (zN_ HO497.out) hb)
        have n1_ := Aside0.mk (Kd.N_below (zN_ HO500.out) hb)
        have n2_ := Aside0.mk (Kd.R_below (zR_ HO503.out) hb)
        have n3_ := Aside0.mk (Kd.R_below (zR_ HO507.out) hb)
        have n4_ := Aside0.mk (Kd.R_below (zR_ HO511.out) hb)
        have n5_ := Aside0.mk (Kd.V_below (zV_ HO516.out) hb)
        have n6_ := Aside0.mk (Kd.V_below (zV_ HO519.out) hb)
        have n7_ := Aside0.mk (Kd.V_below (zV_ HO522.out) hb)
        have n8_ := Aside0.mk (Kd.N_below (zN_ HO528.out) hb)
        have n9_ := Aside0.mk (Kd.N_below (zN_ HO531.out) hb)
        have n10_ := Aside0.mk (Kd.R_below (zR_ HO534.out) hb)
        have n11_ := Aside0.mk (blk_below (zb_ BK493.out) hb)
        have n12_ := Aside0.mk (blk_below (zb_ BK504.out) hb)
        have n13_ := Aside0.mk (blk_below (zb_ BK524.out) hb)
        have n14_ := Aside0.mk (blk_below (zb_ BK536.out) hb)
        have n15_ := Aside0.mk (below_step (zh4_ HB.out GE493.out GE504.out GE524.out GE536.out) hb)
        clear HO497 HO500 HO503 HO507 HO511 HO516 HO519 HO522 HO528 HO531 HO534 BK493 BK504 BK524 BK536 HB
        have HO497 := n0_
        have HO500 := n1_
        have HO503 := n2_
        have HO507 := n3_
        have HO511 := n4_
        have HO516 := n5_
        have HO519 := n6_
        have HO522 := n7_
        have HO528 := n8_
        have HO531 := n9_
        have HO534 := n10_
        have BK493 := n11_
        have BK504 := n12_
        have BK524 := n13_
        have BK536 := n14_
        have HB := n15_
        clear n0_ n1_ n2_ n3_ n4_ n5_ n6_ n7_ n8_ n9_ n10_ n11_ n12_ n13_ n14_ n15_
        (try clear hb)
        (try clear hb2)
        (try clear hk)
        (try clear hi)
        refine hK.out _ _ ⟨(blk_cell BK504.out 0).trans rfl, (blk_cell BK504.out 1).trans rfl, (blk_cell BK504.out 2).trans rfl, (blk_cell BK504.out 3).trans rfl, (blk_cell BK493.out 0).trans rfl, (blk_cell BK493.out 1).trans rfl, (blk_cell BK493.out 2).trans rfl, (blk_cell BK493.out 3).trans rfl, (blk_cell BK524.out 0).trans rfl, (blk_cell BK524.out 1).trans rfl, (blk_cell BK524.out 2).trans rfl, (blk_cell BK524.out 3).trans rfl, (blk_cell BK536.out 0).trans rfl, (blk_cell BK536.out 1).trans rfl, (blk_cell BK536.out 2).trans rfl, (blk_cell BK536.out 3).trans rfl, (own_string (P := Tryd.prog) Tryd.underlying26 Tryd.underlying5 Tryd.underlying9 (Kd.own_of_R HO507.out)), (own_string (P := Tryd.prog) Tryd.underlying26 Tryd.underlying5 Tryd.underlying9 (Kd.own_of_R HO511.out))⟩ (fun hHeld => ?_)
        clear hK K
        refine zno 66 ?_
        refine zpu 31 (some 67) (zB 32 11) (any_of HT_.out (by kernel_rfl)) ?_
        refine zpu 32 (some 68) (zB 33 10) (any_of HT_.out (by kernel_rfl)) ?_
        refine zpu 33 (some 69) (zB 34 9) (any_of HT_.out (by kernel_rfl)) ?_
        refine zpu 34 (some 70) (zB 35 8) (any_of HT_.out (by kernel_rfl)) ?_
        refine zpu 35 (some 71) (zB 36 7) (any_of HT_.out (by kernel_rfl)) ?_
        refine zpu 36 (some 72) (zB 37 6) (any_of HT_.out (by kernel_rfl)) ?_
        refine zpu 37 (some 73) (zB 38 5) (any_of HT_.out (by kernel_rfl)) ?_
        refine zta 38 (some 74) (zB 39 4) (take_ofW HT_.out HW_.out (by kernel_rfl)) hHeld ?_
        refine zta 39 (some 75) (zB 40 3) (take_ofW HT_.out HW_.out (by kernel_rfl)) hHeld ?_
        refine one_ (i := 40) (N := some 76) (zB 41 2) rfl rfl (one_of HT_.out (by kernel_rfl)) (by decide) (fun K hK => ?_)
        refine goes_ Tryd.func15 (by kernel_rfl) rfl #[.agg #[.bool t494, .slice Ao28 t495.length co28, .slice Ao29 t498.length co29, .slice Ao30 t501.length co30], .agg #[.bool a0_0, .slice A0_1 l0_1.length c0_1, .slice A0_2 l0_2.length c0_2, .slice A0_3 l0_3.length c0_3]] (by rfl) rfl rfl zl_ ?_
        with_reducible refine (ladingref06_Same.calls k t494 _ _ t495 _ _ t498 _ _ t501 a0_0 _ _ l0_1 _ _ l0_2 _ _ l0_3 t543 _ ?side1 ?side2 ?side3 ?side4 ?side5 ?side6 ?side7 ?side8 ?side9 ?side10 ?side11 ?side12 A21.out).mono ?_
        (case side1 => repeat (first | exact (Kd.N_reads' HO497.out).2.2 | (with_reducible refine Kd.C_alloc ?_ _) | (with_reducible refine Kd.C_drewN ?_ _) | (with_reducible refine Kd.C_drew ?_)))
        (case side2 => exact (Kd.N_reads' HO497.out).2.1)
        (case side3 => repeat (first | exact (Kd.N_reads' HO500.out).2.2 | (with_reducible refine Kd.C_alloc ?_ _) | (with_reducible refine Kd.C_drewN ?_ _) | (with_reducible refine Kd.C_drew ?_)))
        (case side4 => exact (Kd.N_reads' HO500.out).2.1)
        (case side5 => repeat (first | exact (Kd.R_reads' HO503.out).2.2 | (with_reducible refine Kd.C_alloc ?_ _) | (with_reducible refine Kd.C_drewN ?_ _) | (with_reducible refine Kd.C_drew ?_)))
        (case side6 => exact (Kd.R_reads' HO503.out).2.1)
        (case side7 => exact zc_ (Kd.C_below HR0_1.out HB.out))
        (case side8 => exact HC0_1.out)
        (case side9 => exact zc_ (Kd.C_below HR0_2.out HB.out))
        (case side10 => exact HC0_2.out)
        (case side11 => exact zc_ (Kd.C_below HR0_3.out HB.out))
        (case side12 => exact HC0_3.out)
        rintro e w60 ⟨rfl, hb⟩
        refine ⟨_, rfl, ?_⟩
        have n0_ := Aside0.mk (Kd.N_below (zN_ HO497.out) hb)
        have n1_ := Aside0.mk (Kd.N_below (zN_ HO500.out) hb)
        have n2_ := Aside0.mk (Kd.R_below (zR_ HO503.out) hb)
        have n3_ := Aside0.mk (Kd.R_below (zR_ HO507.out) hb)
        have n4_ := Aside0.mk (Kd.R_below (zR_ HO511.out) hb)
        have n5_ := Aside0.mk (Kd.V_below (zV_ HO516.out) hb)
        have n6_ := Aside0.mk (Kd.V_below (zV_ HO519.out) hb)
        have n7_ := Aside0.mk (Kd.V_below (zV_ HO522.out) hb)
        have n8_ := Aside0.mk (Kd.N_below (zN_ HO528.out) hb)
        have n9_ := Aside0.mk (Kd.N_below (zN_ HO531.out) hb)
        have n10_ := Aside0.mk (Kd.R_below (zR_ HO534.out) hb)
        have n11_ := Aside0.mk (blk_below (zb_ BK493.out) hb)
        have n12_ := Aside0.mk (blk_below (zb_ BK504.out) hb)
        have n13_ := Aside0.mk (blk_below (zb_ BK524.out) hb)
        have n14_ := Aside0.mk (blk_below (zb_ BK536.out) hb)
        have n15_ := Aside0.mk (below_step (zh4_ HB.out GE493.out GE504.out GE524.out GE536.out) hb)
        clear HO497 HO500 HO503 HO507 HO511 HO516 HO519 HO522 HO528 HO531 HO534 BK493 BK504 BK524 BK536 HB
        have HO497 := n0_
        have HO500 := n1_
        have HO503 := n2_
        have HO507 := n3_
        have HO511 := n4_
        have HO516 := n5_
        have HO519 := n6_
        have HO522 := n7_
        have HO528 := n8_
        have HO531 := n9_
        have HO534 := n10_
        have BK493 := n11_
        have BK504 := n12_
        have BK524 := n13_
        have BK536 := n14_
        have HB := n15_
        clear n0_ n1_ n2_ n3_ n4_ n5_ n6_ n7_ n8_ n9_ n10_ n11_ n12_ n13_ n14_ n15_
        (try clear hb)
        (try clear hb2)
        (try clear hk)
        (try clear hi)
        refine hK.out _ _ ⟨(blk_cell BK504.out 0).trans rfl, (blk_cell BK504.out 1).trans rfl, (blk_cell BK504.out 2).trans rfl, (blk_cell BK504.out 3).trans rfl, (blk_cell BK493.out 0).trans rfl, (blk_cell BK493.out 1).trans rfl, (blk_cell BK493.out 2).trans rfl, (blk_cell BK493.out 3).trans rfl, (blk_cell BK524.out 0).trans rfl, (blk_cell BK524.out 1).trans rfl, (blk_cell BK524.out 2).trans rfl, (blk_cell BK524.out 3).trans rfl, (blk_cell BK536.out 0).trans rfl, (blk_cell BK536.out 1).trans rfl, (blk_cell BK536.out 2).trans rfl, (blk_cell BK536.out 3).trans rfl, (own_string (P := Tryd.prog) Tryd.underlying26 Tryd.underlying5 Tryd.underlying9 (Kd.own_of_R HO507.out)), (own_string (P := Tryd.prog) Tryd.underlying26 Tryd.underlying5 Tryd.underlying9 (Kd.own_of_R HO511.out))⟩ (fun hHeld => ?_)
        clear hK K
        refine zno 76 ?_
        refine zpu 41 (some 77) (zB 42 1) (any_of HT_.out (by kernel_rfl)) ?_
        refine zpu 42 (some 4) (zB 43 0) (any_of HT_.out (by kernel_rfl)) ?_
        refine done_ (done_of HT_.out (by kernel_rfl)) ?_
        try go_wp2
        go_ret
        exact ⟨by first | rfl | (simp [errW_none, errW_some] <;> rfl) | (simp [*, errW_none, errW_some] <;> rfl), by exact zh4_ HB.out GE493.out GE504.out GE524.out GE536.out⟩
       ·rw [if_neg c20] at H
        cases H
      ·replace c19 := Bool.eq_false_iff.mpr c19
       subst c19
       replace H := (if_neg (show ¬ (false = true) by decide)).symm.trans H
       cases H
     ·rw [if_neg c17] at H
      cases H
    ·rw [if_neg c16] at H
     cases H
   ·rw [if_neg c15] at H
    cases H
  ·rw [if_neg c12] at H
   cases H
 ·replace c9 := Bool.eq_false_iff.mpr c9
  subst c9
  replace H := (if_neg (show ¬ (false = true) by decide)).symm.trans H
  cases H
end Go.Proofs.YtcbgichkeecgiaaDoor.Print
