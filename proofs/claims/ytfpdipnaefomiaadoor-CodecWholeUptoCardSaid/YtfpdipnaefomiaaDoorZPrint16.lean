-- What the claim uses alone (wip/slim.py). Lean checks it.
import Derived.Test.YtfpdipnaefomiaaDoorZPrint0
import Derived.Test.YtfpdipnaefomiaaDoorZPrint4
import Derived.Test.YtfpdipnaefomiaaDoorZPrint5
import Derived.Test.YtfpdipnaefomiaaDoorZPrint15
namespace Go.Proofs.YtfpdipnaefomiaaDoor.Print
open Go.RowKit Go.Proofs.YtfpdipnaefomiaaDoorW.PrintWords Go.Proofs.YtfpdipnaefomiaaDoorW.PrintLast Go.Proofs.YtfpdipnaefomiaaDoorW.PrintMore
attribute [local go_sem] max2_mx min2_mn max_two min_two max_three min_three max_four min_four
set_option linter.unusedVariables false
set_option linter.unusedSimpArgs false
def codec_cursor_take.f (l0_0 : List Int) (a0_1 : Int) (a1 : Int) : Option (List Int × List Int × Int) := if a1 > (IntKind.u64.wrap ((l0_0.length : Int))) then ((codec_cursor_fail.f l0_0 a0_1 6).bind fun bt346 => (if bt346.2 = 0 then (if 0 ≤ a1 then (if a1 ≤ (bt346.1.length : Int) then ((codec_own.f (bt346.1.take (a1 : Int).toNat)).bind fun t350 => (some (t350, bt346.1.drop (a1 : Int).toNat, bt346.2))) else (none)) else (none)) else (some (([] : List Int), bt346.1, bt346.2)))) else (if a0_1 = 0 then (if 0 ≤ a1 then (if a1 ≤ (l0_0.length : Int) then ((codec_own.f (l0_0.take (a1 : Int).toNat)).bind fun t355 => (some (t355, l0_0.drop (a1 : Int).toNat, a0_1))) else (none)) else (none)) else (some (([] : List Int), l0_0, a0_1)))
set_option maxHeartbeats 8000000 in
set_option maxRecDepth 100000 in
theorem codec_cursor_take.calls (g : Nat) (A0_0 : Option Addr) (c0_0 : Nat) (l0_0 : List Int) (a0_1 : Int) (a1 : Int) (r1 : List Int) (r2 : List Int) (r3 : Int) (w0 w : World) (hB : Below w0.heap.size w0 w) (hge : w0.heap.size ≤ g) (hbx : w.heap[g]? = some (.cells #[.slice A0_0 l0_0.length c0_0, .int .i64 a0_1] 66 (0, 0))) (hr0_0 : Kd.C (Kd.int .u8) w0 A0_0 l0_0.length l0_0) (hc0_0 : l0_0.length ≤ c0_0) (h : codec_cursor_take.f l0_0 a0_1 a1 = some (r1, r2, r3)) :
    Calls Tryd.prog 48 #[.pointer (some ⟨g, 0, none⟩), .int .u64 a1] w fun e w' => ∃ v0_ : Value, ∃ (Ax_0 : Option Addr) (cx_0 : Nat), e = .returned (v0_) ∧ Kd.R (Kd.int .u8) 5 w' w.heap.size (fun _ => True) v0_ r1 ∧ w'.heap[g]? = some (.cells #[.slice Ax_0 r2.length cx_0, .int .i64 r3] 66 (0, 0)) ∧ Kd.C (Kd.int .u8) w0 Ax_0 r2.length r2 ∧ r2.length ≤ cx_0 ∧ Below w0.heap.size w0 w' ∧ KeepBut w w' g none := by
  have HR0_0 := Aside0.mk hr0_0
  have HC0_0 := Aside0.mk hc0_0
  clear hr0_0 hc0_0
  have BK0 := Aside0.mk hbx
  clear hbx
  have GE0 := Aside0.mk hge
  have HK := Aside0.mk (KeepBut.refl w g none)
  have HL := Aside0.mk hB.size
  clear hge
  have HW0 := Aside0.mk hB.size
  have HB := Aside0.mk hB
  clear hB
  have H : (if a1 > (IntKind.u64.wrap ((l0_0.length : Int))) then ((codec_cursor_fail.f l0_0 a0_1 6).bind fun bt346 => (if bt346.2 = 0 then (if 0 ≤ a1 then (if a1 ≤ (bt346.1.length : Int) then ((codec_own.f (bt346.1.take (a1 : Int).toNat)).bind fun t350 => (some (t350, bt346.1.drop (a1 : Int).toNat, bt346.2))) else (none)) else (none)) else (some (([] : List Int), bt346.1, bt346.2)))) else (if a0_1 = 0 then (if 0 ≤ a1 then (if a1 ≤ (l0_0.length : Int) then ((codec_own.f (l0_0.take (a1 : Int).toNat)).bind fun t355 => (some (t355, l0_0.drop (a1 : Int).toNat, a0_1))) else (none)) else (none)) else (some (([] : List Int), l0_0, a0_1)))) = some (r1, r2, r3) := h
  clear h
  by_cases c3 : a1 > (IntKind.u64.wrap ((l0_0.length : Int)))
  · rw [if_pos c3] at H
    have c3b0 : decide ((IntKind.u64.wrap ((l0_0.length : Int))) < a1) = true := decide_eq_true c3
    clear c3
    replace H := Option.bind_eq_some_iff.mp H
    obtain ⟨⟨t346, t347⟩, A40, H⟩ := H
    replace H : (if t347 = 0 then (if 0 ≤ a1 then (if a1 ≤ (t346.length : Int) then ((codec_own.f (t346.take (a1 : Int).toNat)).bind fun t350 => (some (t350, t346.drop (a1 : Int).toNat, t347))) else (none)) else (none)) else (some (([] : List Int), t346, t347))) = some (r1, r2, r3) := H
    have A4 := Aside0.mk A40
    clear A40
    by_cases c5 : t347 = 0
    · rw [if_pos c5] at H
      have c5b0 : (t347 == 0) = true := beq_iff_eq.mpr c5
      have c5b1 : (t347 != 0) = false := bne_eq_false_iff_eq.mpr c5
      clear c5
      by_cases c6 : 0 ≤ a1
      · rw [if_pos c6] at H
        have c6b0 := eq_true c6
        have c6b1 : decide (0 ≤ a1) = true := decide_eq_true c6
        clear c6
        by_cases c7 : a1 ≤ (t346.length : Int)
        · rw [if_pos c7] at H
          have c7b0 := eq_true c7
          have c7b1 : decide (a1 ≤ (t346.length : Int)) = true := decide_eq_true c7
          clear c7
          have c8b0 := eq_true (of_decide_eq_true (by first | (with_reducible assumption) | assumption) : 0 ≤ a1)
          have c9b0 := eq_true (of_decide_eq_true (by first | (with_reducible assumption) | assumption) : a1 ≤ (t346.length : Int))
          replace H := Option.bind_eq_some_iff.mp H
          obtain ⟨t350, A100, H⟩ := H
          replace H : (some (t350, t346.drop (a1 : Int).toNat, t347)) = some (r1, r2, r3) := H
          have A10 := Aside0.mk A100
          clear A100
          simp only [Option.some.injEq, Prod.mk.injEq] at H
          obtain ⟨rfl, rfl, rfl⟩ := H
          have hcz11_0 : w.cell? ⟨g, 0, none⟩ = some (.slice A0_0 l0_0.length c0_0) := (blk_cell BK0.out 0).trans rfl
          have hcz11_1 : w.cell? ⟨g, 1, none⟩ = some (.int .i64 a0_1) := (blk_cell BK0.out 1).trans rfl
          have hfz11_0 := blk_frozen BK0.out 0
          have hfz11_1 := blk_frozen BK0.out 1
          go_enter Tryd.func48, Tryd.ntmps48
          go_wp2_with (first | ((with_reducible refine gate_callee (f := 47) rfl ?_); refine goesL_ (some 15) rfl rfl Tryd.func47 (by kernel_rfl) rfl #[.pointer (some ⟨g, 0, none⟩), .int .i64 6] rfl (by (try simp only [List.map_toArray, List.map_cons, List.map_nil]); first | done | rfl | (simp only [List.length_drop, List.length_take]; rfl)) ?_; (with_reducible refine (codec_cursor_fail.calls g A0_0 c0_0 l0_0 a0_1 6 t346 t347 w0 _ ?side1 ?side2 ?side3 ?side4 ?side5 A4.out).mono ?_); (case side1 => exact by repeat (first | (with_reducible first | exact HB.out | apply below_alloc | apply pw_below_drewN | apply below_drew1 | refine below_set ?_ GE0.out) | exact HB.out)); (case side2 => exact GE0.out); (case side3 => exact by (with_reducible repeat (first | refine blk_drewN ?_ _ | refine blk_drew ?_ | refine blk_alloc ?_ _)); exact BK0.out); (case side4 => exact HR0_0.out); (case side5 => exact HC0_0.out); rintro e w12 ⟨Ab346, cb346, rfl, hbk, hcrb346, hclb346, hb0, hkp⟩; refine ⟨_, rfl, ?_⟩; have n0_ := Aside0.mk (hbk); have n1_ := Aside0.mk (KeepBut.trans (by repeat (first | (with_reducible first | exact HK.out | apply KeepBut.set_ | apply keep_drewN | apply keep_drew | apply keep_alloc | refine keep_far ?_ GW0.out _) | exact HK.out)) hkp (.inl rfl)); have n2_ := Aside0.mk (hcrb346); have n3_ := Aside0.mk (hclb346); have n4_ := Aside0.mk (hb0); clear BK0; clear HK; clear HB; have BK0 := n0_; have HK := n1_; have HRb346 := n2_; have HCb346 := n3_; have HB := n4_; clear n0_ n1_ n2_ n3_ n4_; (try clear hb0); (try clear hkp); (try clear hbk); (try clear hcrb346); (try clear hclb346); have hcz13_0 : w12.cell? ⟨g, 0, none⟩ = some (.slice Ab346 t346.length cb346) := (blk_cell BK0.out 0).trans rfl; have hcz13_1 : w12.cell? ⟨g, 1, none⟩ = some (.int .i64 t347) := (blk_cell BK0.out 1).trans rfl; have hfz13_0 := blk_frozen BK0.out 0; have hfz13_1 := blk_frozen BK0.out 1; obtain ⟨i014, hi014, _, hsz14, _⟩ := info_parts info5; obtain ⟨hcut14, hA14, hC14⟩ := print_take_of (P := Tryd.prog) (Value.int .u8) 0 24 5 .u64 Tryd.underlying24 hi014 hsz14 Ab346 cb346 t346 a1 (of_decide_eq_true (by first | (with_reducible assumption) | assumption)) (of_decide_eq_true (by first | (with_reducible assumption) | assumption)) HCb346.out; have HR348 := Aside0.mk (Kd.C_of_reads (h1 := fun _ => rfl) (hA14 _ (Kd.reads_of_C HRb346.out))); have HC348 := Aside0.mk hC14; clear hA14 hC14 hi014 hsz14; obtain ⟨i015, hi015, _, hsz15, _⟩ := info_parts info5; obtain ⟨A15, hcut15, hA15, hC15⟩ := print_drop_of (P := Tryd.prog) (Value.int .u8) 0 24 5 .u64 Tryd.underlying24 hi015 hsz15 Ab346 cb346 t346 a1 (of_decide_eq_true (by first | (with_reducible assumption) | assumption)) (of_decide_eq_true (by first | (with_reducible assumption) | assumption)) HCb346.out; have HR349 := Aside0.mk (Kd.C_of_reads (h1 := fun _ => rfl) (hA15 _ (Kd.reads_of_C HRb346.out))); have HC349 := Aside0.mk hC15; clear hA15 hC15 hi015 hsz15) | ((with_reducible refine gate_callee (f := 42) rfl ?_); refine goesL_ (some 37) rfl rfl Tryd.func42 (by kernel_rfl) rfl #[.slice Ab346 (t346.take (a1 : Int).toNat).length cb346] rfl (by (try simp only [List.map_toArray, List.map_cons, List.map_nil]); first | done | (rw [show (t346.take (a1 : Int).toNat).length = a1.toNat from (by rw [List.length_take]; have h_ : (a1 : Int) ≤ (t346.length : Int) := of_decide_eq_true (by first | (with_reducible assumption) | assumption); omega)] <;> rfl) | rfl | (simp only [List.length_drop, List.length_take]; rfl)) ?_; (with_reducible refine (codec_own.calls _ _ (t346.take (a1 : Int).toNat) t350 _ ?side1 ?side2 A10.out).mono ?_); (case side1 => exact Kd.C_below HR348.out (by repeat (first | (with_reducible first | exact HB.out | apply below_alloc | apply pw_below_drewN | apply below_drew1 | refine below_set ?_ GE0.out) | exact HB.out))); (case side2 => exact HC348.out); rintro e w16 ⟨v351, rfl, ho0, hb⟩; refine ⟨_, rfl, ?_⟩; have n0_ := Aside0.mk (Kd.R_lower ho0 (keep_size (w := w) (g := g) (row := none) (by repeat (first | (with_reducible first | exact HK.out | apply KeepBut.set_ | apply keep_drewN | apply keep_drew | apply keep_alloc | refine keep_far ?_ GW0.out _) | exact HK.out)))); have n1_ := Aside0.mk (blk_below (g := g) (o := .cells #[.slice A15 (t346.drop (a1 : Int).toNat).length (cb346 - a1.toNat), .int .i64 t347] 66 (0, 0)) (by (with_reducible repeat (first | refine blk_drewN ?_ _ | refine blk_drew ?_ | refine blk_alloc ?_ _)); refine blk_put (cs := #[.slice Ab346 t346.length cb346, .int .i64 t347]) ?_ 0 _ (by first | rfl | (simp only [List.length_drop, List.length_take]; rfl)); (with_reducible repeat (first | refine blk_drewN ?_ _ | refine blk_drew ?_ | refine blk_alloc ?_ _)); exact BK0.out) hb); have n2_ := Aside0.mk (KeepBut.trans (by repeat (first | (with_reducible first | exact HK.out | apply KeepBut.set_ | apply keep_drewN | apply keep_drew | apply keep_alloc | refine keep_far ?_ GW0.out _) | exact HK.out)) (KeepBut.of_below hb g none) (.inl rfl)); have n3_ := Aside0.mk (below_step (by repeat (first | (with_reducible first | exact HB.out | apply below_alloc | apply pw_below_drewN | apply below_drew1 | refine below_set ?_ GE0.out) | exact HB.out)) hb); clear BK0; clear HK; clear HB; have HO352 := n0_; have BK0 := n1_; have HK := n2_; have HB := n3_; clear n0_ n1_ n2_ n3_; (try clear hb); (try clear hb2); (try clear hk); (try clear hi); (try clear ho0)))
          go_ret
          exact ⟨_, _, _, by first | rfl | (simp [errW_none, errW_some] <;> rfl) | (simp [*, errW_none, errW_some] <;> rfl), by (with_reducible repeat (first | apply Kd.R_alloc | apply Kd.R_drewN | apply Kd.R_drew)); exact HO352.out, by (with_reducible repeat (first | refine blk_drewN ?_ _ | refine blk_drew ?_ | refine blk_alloc ?_ _)); exact BK0.out, HR349.out, HC349.out, by repeat (first | (with_reducible first | exact HB.out | apply below_alloc | apply pw_below_drewN | apply below_drew1 | refine below_set ?_ GE0.out) | exact HB.out), by repeat (first | (with_reducible first | exact HK.out | apply KeepBut.set_ | apply keep_drewN | apply keep_drew | apply keep_alloc | refine keep_far ?_ GW0.out _) | exact HK.out)⟩
        · rw [if_neg c7] at H
          exact absurd H (by simp)
      · rw [if_neg c6] at H
        exact absurd H (by simp)
    · rw [if_neg c5] at H
      have c5b0 : (t347 == 0) = false := beq_eq_false_iff_ne.mpr c5
      have c5b1 : (t347 != 0) = true := bne_iff_ne.mpr c5
      simp only [Option.some.injEq, Prod.mk.injEq] at H
      obtain ⟨rfl, rfl, rfl⟩ := H
      have hcz17_0 : w.cell? ⟨g, 0, none⟩ = some (.slice A0_0 l0_0.length c0_0) := (blk_cell BK0.out 0).trans rfl
      have hcz17_1 : w.cell? ⟨g, 1, none⟩ = some (.int .i64 a0_1) := (blk_cell BK0.out 1).trans rfl
      have hfz17_0 := blk_frozen BK0.out 0
      have hfz17_1 := blk_frozen BK0.out 1
      go_enter Tryd.func48, Tryd.ntmps48
      go_wp2_with (first | ((with_reducible refine gate_callee (f := 47) rfl ?_); refine goesL_ (some 15) rfl rfl Tryd.func47 (by kernel_rfl) rfl #[.pointer (some ⟨g, 0, none⟩), .int .i64 6] rfl (by (try simp only [List.map_toArray, List.map_cons, List.map_nil]); first | done | rfl | (simp only [List.length_drop, List.length_take]; rfl)) ?_; (with_reducible refine (codec_cursor_fail.calls g A0_0 c0_0 l0_0 a0_1 6 t346 t347 w0 _ ?side1 ?side2 ?side3 ?side4 ?side5 A4.out).mono ?_); (case side1 => exact by repeat (first | (with_reducible first | exact HB.out | apply below_alloc | apply pw_below_drewN | apply below_drew1 | refine below_set ?_ GE0.out) | exact HB.out)); (case side2 => exact GE0.out); (case side3 => exact by (with_reducible repeat (first | refine blk_drewN ?_ _ | refine blk_drew ?_ | refine blk_alloc ?_ _)); exact BK0.out); (case side4 => exact HR0_0.out); (case side5 => exact HC0_0.out); rintro e w18 ⟨Ab346, cb346, rfl, hbk, hcrb346, hclb346, hb0, hkp⟩; refine ⟨_, rfl, ?_⟩; have n0_ := Aside0.mk (hbk); have n1_ := Aside0.mk (KeepBut.trans (by repeat (first | (with_reducible first | exact HK.out | apply KeepBut.set_ | apply keep_drewN | apply keep_drew | apply keep_alloc | refine keep_far ?_ GW0.out _) | exact HK.out)) hkp (.inl rfl)); have n2_ := Aside0.mk (hcrb346); have n3_ := Aside0.mk (hclb346); have n4_ := Aside0.mk (hb0); clear BK0; clear HK; clear HB; have BK0 := n0_; have HK := n1_; have HRb346 := n2_; have HCb346 := n3_; have HB := n4_; clear n0_ n1_ n2_ n3_ n4_; (try clear hb0); (try clear hkp); (try clear hbk); (try clear hcrb346); (try clear hclb346); have hcz19_0 : w18.cell? ⟨g, 0, none⟩ = some (.slice Ab346 t346.length cb346) := (blk_cell BK0.out 0).trans rfl; have hcz19_1 : w18.cell? ⟨g, 1, none⟩ = some (.int .i64 t347) := (blk_cell BK0.out 1).trans rfl; have hfz19_0 := blk_frozen BK0.out 0; have hfz19_1 := blk_frozen BK0.out 1))
      go_ret
      exact ⟨_, _, _, by first | rfl | (simp [errW_none, errW_some] <;> rfl) | (simp [*, errW_none, errW_some] <;> rfl), by first | exact Kd.R_nil _ _ _ _ _ | exact Kd.N_nil _ _ _ _ _ | exact Kd.V_nil _ _ _ _ _ | exact Kd.Q_nil _ _ _ _ _ | exact Kd.S_nil _ _ _ _ _, by (with_reducible repeat (first | refine blk_drewN ?_ _ | refine blk_drew ?_ | refine blk_alloc ?_ _)); exact BK0.out, HRb346.out, HCb346.out, by repeat (first | (with_reducible first | exact HB.out | apply below_alloc | apply pw_below_drewN | apply below_drew1 | refine below_set ?_ GE0.out) | exact HB.out), by repeat (first | (with_reducible first | exact HK.out | apply KeepBut.set_ | apply keep_drewN | apply keep_drew | apply keep_alloc | refine keep_far ?_ GW0.out _) | exact HK.out)⟩
  · rw [if_neg c3] at H
    have c3b0 : decide ((IntKind.u64.wrap ((l0_0.length : Int))) < a1) = false := decide_eq_false c3
    clear c3
    by_cases c20 : a0_1 = 0
    · rw [if_pos c20] at H
      have c20b0 : (a0_1 == 0) = true := beq_iff_eq.mpr c20
      have c20b1 : (a0_1 != 0) = false := bne_eq_false_iff_eq.mpr c20
      clear c20
      by_cases c21 : 0 ≤ a1
      · rw [if_pos c21] at H
        have c21b0 := eq_true c21
        have c21b1 : decide (0 ≤ a1) = true := decide_eq_true c21
        clear c21
        by_cases c22 : a1 ≤ (l0_0.length : Int)
        · rw [if_pos c22] at H
          have c22b0 := eq_true c22
          have c22b1 : decide (a1 ≤ (l0_0.length : Int)) = true := decide_eq_true c22
          clear c22
          have c23b0 := eq_true (of_decide_eq_true (by first | (with_reducible assumption) | assumption) : 0 ≤ a1)
          have c24b0 := eq_true (of_decide_eq_true (by first | (with_reducible assumption) | assumption) : a1 ≤ (l0_0.length : Int))
          replace H := Option.bind_eq_some_iff.mp H
          obtain ⟨t355, A250, H⟩ := H
          replace H : (some (t355, l0_0.drop (a1 : Int).toNat, a0_1)) = some (r1, r2, r3) := H
          have A25 := Aside0.mk A250
          clear A250
          simp only [Option.some.injEq, Prod.mk.injEq] at H
          obtain ⟨rfl, rfl, rfl⟩ := H
          have hcz26_0 : w.cell? ⟨g, 0, none⟩ = some (.slice A0_0 l0_0.length c0_0) := (blk_cell BK0.out 0).trans rfl
          have hcz26_1 : w.cell? ⟨g, 1, none⟩ = some (.int .i64 a0_1) := (blk_cell BK0.out 1).trans rfl
          have hfz26_0 := blk_frozen BK0.out 0
          have hfz26_1 := blk_frozen BK0.out 1
          obtain ⟨i027, hi027, _, hsz27, _⟩ := info_parts info5
          obtain ⟨hcut27, hA27, hC27⟩ := print_take_of (P := Tryd.prog) (Value.int .u8) 0 24 5 .u64 Tryd.underlying24 hi027 hsz27 A0_0 c0_0 l0_0 a1 (of_decide_eq_true (by first | (with_reducible assumption) | assumption)) (of_decide_eq_true (by first | (with_reducible assumption) | assumption)) HC0_0.out
          have HR353 := Aside0.mk (Kd.C_of_reads (h1 := fun _ => rfl) (hA27 _ (Kd.reads_of_C HR0_0.out)))
          have HC353 := Aside0.mk hC27
          clear hA27 hC27 hi027 hsz27
          obtain ⟨i028, hi028, _, hsz28, _⟩ := info_parts info5
          obtain ⟨A28, hcut28, hA28, hC28⟩ := print_drop_of (P := Tryd.prog) (Value.int .u8) 0 24 5 .u64 Tryd.underlying24 hi028 hsz28 A0_0 c0_0 l0_0 a1 (of_decide_eq_true (by first | (with_reducible assumption) | assumption)) (of_decide_eq_true (by first | (with_reducible assumption) | assumption)) HC0_0.out
          have HR354 := Aside0.mk (Kd.C_of_reads (h1 := fun _ => rfl) (hA28 _ (Kd.reads_of_C HR0_0.out)))
          have HC354 := Aside0.mk hC28
          clear hA28 hC28 hi028 hsz28
          go_enter Tryd.func48, Tryd.ntmps48
          go_wp2_with (first | ((with_reducible refine gate_callee (f := 42) rfl ?_); refine goesL_ (some 37) rfl rfl Tryd.func42 (by kernel_rfl) rfl #[.slice A0_0 (l0_0.take (a1 : Int).toNat).length c0_0] rfl (by (try simp only [List.map_toArray, List.map_cons, List.map_nil]); first | done | (rw [show (l0_0.take (a1 : Int).toNat).length = a1.toNat from (by rw [List.length_take]; have h_ : (a1 : Int) ≤ (l0_0.length : Int) := of_decide_eq_true (by first | (with_reducible assumption) | assumption); omega)] <;> rfl) | rfl | (simp only [List.length_drop, List.length_take]; rfl)) ?_; (with_reducible refine (codec_own.calls _ _ (l0_0.take (a1 : Int).toNat) t355 _ ?side1 ?side2 A25.out).mono ?_); (case side1 => exact Kd.C_below HR353.out (by repeat (first | (with_reducible first | exact HB.out | apply below_alloc | apply pw_below_drewN | apply below_drew1 | refine below_set ?_ GE0.out) | exact HB.out))); (case side2 => exact HC353.out); rintro e w29 ⟨v356, rfl, ho0, hb⟩; refine ⟨_, rfl, ?_⟩; have n0_ := Aside0.mk (Kd.R_lower ho0 (keep_size (w := w) (g := g) (row := none) (by repeat (first | (with_reducible first | exact HK.out | apply KeepBut.set_ | apply keep_drewN | apply keep_drew | apply keep_alloc | refine keep_far ?_ GW0.out _) | exact HK.out)))); have n1_ := Aside0.mk (blk_below (g := g) (o := .cells #[.slice A28 (l0_0.drop (a1 : Int).toNat).length (c0_0 - a1.toNat), .int .i64 a0_1] 66 (0, 0)) (by (with_reducible repeat (first | refine blk_drewN ?_ _ | refine blk_drew ?_ | refine blk_alloc ?_ _)); refine blk_put (cs := #[.slice A0_0 l0_0.length c0_0, .int .i64 a0_1]) ?_ 0 _ (by first | rfl | (simp only [List.length_drop, List.length_take]; rfl)); (with_reducible repeat (first | refine blk_drewN ?_ _ | refine blk_drew ?_ | refine blk_alloc ?_ _)); exact BK0.out) hb); have n2_ := Aside0.mk (KeepBut.trans (by repeat (first | (with_reducible first | exact HK.out | apply KeepBut.set_ | apply keep_drewN | apply keep_drew | apply keep_alloc | refine keep_far ?_ GW0.out _) | exact HK.out)) (KeepBut.of_below hb g none) (.inl rfl)); have n3_ := Aside0.mk (below_step (by repeat (first | (with_reducible first | exact HB.out | apply below_alloc | apply pw_below_drewN | apply below_drew1 | refine below_set ?_ GE0.out) | exact HB.out)) hb); clear BK0; clear HK; clear HB; have HO357 := n0_; have BK0 := n1_; have HK := n2_; have HB := n3_; clear n0_ n1_ n2_ n3_; (try clear hb); (try clear hb2); (try clear hk); (try clear hi); (try clear ho0)))
          go_ret
          exact ⟨_, _, _, by first | rfl | (simp [errW_none, errW_some] <;> rfl) | (simp [*, errW_none, errW_some] <;> rfl), by (with_reducible repeat (first | apply Kd.R_alloc | apply Kd.R_drewN | apply Kd.R_drew)); exact HO357.out, by (with_reducible repeat (first | refine blk_drewN ?_ _ | refine blk_drew ?_ | refine blk_alloc ?_ _)); exact BK0.out, HR354.out, HC354.out, by repeat (first | (with_reducible first | exact HB.out | apply below_alloc | apply pw_below_drewN | apply below_drew1 | refine below_set ?_ GE0.out) | exact HB.out), by repeat (first | (with_reducible first | exact HK.out | apply KeepBut.set_ | apply keep_drewN | apply keep_drew | apply keep_alloc | refine keep_far ?_ GW0.out _) | exact HK.out)⟩
        · rw [if_neg c22] at H
          exact absurd H (by simp)
      · rw [if_neg c21] at H
        exact absurd H (by simp)
    · rw [if_neg c20] at H
      have c20b0 : (a0_1 == 0) = false := beq_eq_false_iff_ne.mpr c20
      have c20b1 : (a0_1 != 0) = true := bne_iff_ne.mpr c20
      simp only [Option.some.injEq, Prod.mk.injEq] at H
      obtain ⟨rfl, rfl, rfl⟩ := H
      have hcz30_0 : w.cell? ⟨g, 0, none⟩ = some (.slice A0_0 l0_0.length c0_0) := (blk_cell BK0.out 0).trans rfl
      have hcz30_1 : w.cell? ⟨g, 1, none⟩ = some (.int .i64 a0_1) := (blk_cell BK0.out 1).trans rfl
      have hfz30_0 := blk_frozen BK0.out 0
      have hfz30_1 := blk_frozen BK0.out 1
      go_enter Tryd.func48, Tryd.ntmps48
      go_wp2
      go_ret
      exact ⟨_, _, _, by first | rfl | (simp [errW_none, errW_some] <;> rfl) | (simp [*, errW_none, errW_some] <;> rfl), by first | exact Kd.R_nil _ _ _ _ _ | exact Kd.N_nil _ _ _ _ _ | exact Kd.V_nil _ _ _ _ _ | exact Kd.Q_nil _ _ _ _ _ | exact Kd.S_nil _ _ _ _ _, by (with_reducible repeat (first | refine blk_drewN ?_ _ | refine blk_drew ?_ | refine blk_alloc ?_ _)); exact BK0.out, HR0_0.out, HC0_0.out, by repeat (first | (with_reducible first | exact HB.out | apply below_alloc | apply pw_below_drewN | apply below_drew1 | refine below_set ?_ GE0.out) | exact HB.out), by repeat (first | (with_reducible first | exact HK.out | apply KeepBut.set_ | apply keep_drewN | apply keep_drew | apply keep_alloc | refine keep_far ?_ GW0.out _) | exact HK.out)⟩
def codec_cursor_text.j0 : Nat → Int → Bool → List Int → Int → Option (List Int × List Int × Int)
  | 0, _, _, _, _ => none
  | k + 1, x5, x17, x1000, x1001 => if x17 = true then ((codec_cursor_fail.f x1000 x1001 4).bind fun bt361 => ((codec_cursor_take.f bt361.1 bt361.2 x5).bind fun bt363 => (some (bt363.1, bt363.2.1, bt363.2.2)))) else ((codec_cursor_take.f x1000 x1001 x5).bind fun bt368 => (some (bt368.1, bt368.2.1, bt368.2.2)))
def codec_cursor_text.f (k : Nat) (l0_0 : List Int) (a0_1 : Int) (a1 : Int) : Option (List Int × List Int × Int) := (codec_cursor_num.f k l0_0 a0_1).bind fun bt358 => (if bt358.2.2 = 0 then (codec_cursor_text.j0 k bt358.1 (decide (bt358.1 > a1)) bt358.2.1 bt358.2.2) else (codec_cursor_text.j0 k bt358.1 false bt358.2.1 bt358.2.2))
set_option maxHeartbeats 8000000 in
set_option maxRecDepth 100000 in
theorem codec_cursor_text.calls (k : Nat) (g : Nat) (A0_0 : Option Addr) (c0_0 : Nat) (l0_0 : List Int) (a0_1 : Int) (a1 : Int) (r1 : List Int) (r2 : List Int) (r3 : Int) (w0 w : World) (hB : Below w0.heap.size w0 w) (hge : w0.heap.size ≤ g) (hbx : w.heap[g]? = some (.cells #[.slice A0_0 l0_0.length c0_0, .int .i64 a0_1] 66 (0, 0))) (hr0_0 : Kd.C (Kd.int .u8) w0 A0_0 l0_0.length l0_0) (hc0_0 : l0_0.length ≤ c0_0) (h : codec_cursor_text.f k l0_0 a0_1 a1 = some (r1, r2, r3)) :
    Calls Tryd.prog 45 #[.pointer (some ⟨g, 0, none⟩), .int .u64 a1] w fun e w' => ∃ v0_ : Value, ∃ (Ax_0 : Option Addr) (cx_0 : Nat), e = .returned (v0_) ∧ Kd.R (Kd.int .u8) 5 w' w.heap.size (fun _ => True) v0_ r1 ∧ w'.heap[g]? = some (.cells #[.slice Ax_0 r2.length cx_0, .int .i64 r3] 66 (0, 0)) ∧ Kd.C (Kd.int .u8) w0 Ax_0 r2.length r2 ∧ r2.length ≤ cx_0 ∧ Below w0.heap.size w0 w' ∧ KeepBut w w' g none := by
  have HR0_0 := Aside0.mk hr0_0
  have HC0_0 := Aside0.mk hc0_0
  clear hr0_0 hc0_0
  have BK0 := Aside0.mk hbx
  clear hbx
  have GE0 := Aside0.mk hge
  have HK := Aside0.mk (KeepBut.refl w g none)
  have HL := Aside0.mk hB.size
  clear hge
  have HW0 := Aside0.mk hB.size
  have HB := Aside0.mk hB
  clear hB
  have H : ((codec_cursor_num.f k l0_0 a0_1).bind fun bt358 => (if bt358.2.2 = 0 then (codec_cursor_text.j0 k bt358.1 (decide (bt358.1 > a1)) bt358.2.1 bt358.2.2) else (codec_cursor_text.j0 k bt358.1 false bt358.2.1 bt358.2.2))) = some (r1, r2, r3) := h
  clear h
  replace H := Option.bind_eq_some_iff.mp H
  obtain ⟨⟨t358, t359, t360⟩, A30, H⟩ := H
  replace H : (if t360 = 0 then (codec_cursor_text.j0 k t358 (decide (t358 > a1)) t359 t360) else (codec_cursor_text.j0 k t358 false t359 t360)) = some (r1, r2, r3) := H
  have A3 := Aside0.mk A30
  clear A30
  have HC4 := Aside0.mk H
  clear H
  go_enter Tryd.func45, Tryd.ntmps45
  go_upto_region 2 with (first | ((with_reducible refine gate_callee (f := 43) rfl ?_); refine goesL_ (some 7) rfl rfl Tryd.func43 (by kernel_rfl) rfl #[.pointer (some ⟨g, 0, none⟩)] rfl (by (try simp only [List.map_toArray, List.map_cons, List.map_nil]); first | done | rfl | (simp only [List.length_drop, List.length_take]; rfl)) ?_; (with_reducible refine (codec_cursor_num.calls k g A0_0 c0_0 l0_0 a0_1 t358 t359 t360 w0 _ ?side1 ?side2 ?side3 ?side4 ?side5 A3.out).mono ?_); (case side1 => exact by repeat (first | (with_reducible first | exact HB.out | apply below_alloc | apply pw_below_drewN | apply below_drew1 | refine below_set ?_ GE0.out) | exact HB.out)); (case side2 => exact GE0.out); (case side3 => exact by (with_reducible repeat (first | refine blk_drewN ?_ _ | refine blk_drew ?_ | refine blk_alloc ?_ _)); exact BK0.out); (case side4 => exact HR0_0.out); (case side5 => exact HC0_0.out); rintro e w5 ⟨Ab359, cb359, rfl, hbk, hcrb359, hclb359, hb0, hkp⟩; refine ⟨_, rfl, ?_⟩; have n0_ := Aside0.mk (hbk); have n1_ := Aside0.mk (KeepBut.trans (by repeat (first | (with_reducible first | exact HK.out | apply KeepBut.set_ | apply keep_drewN | apply keep_drew | apply keep_alloc | refine keep_far ?_ GW0.out _) | exact HK.out)) hkp (.inl rfl)); have n2_ := Aside0.mk (hcrb359); have n3_ := Aside0.mk (hclb359); have n4_ := Aside0.mk (hb0); clear BK0; clear HK; clear HB; have BK0 := n0_; have HK := n1_; have HRb359 := n2_; have HCb359 := n3_; have HB := n4_; clear n0_ n1_ n2_ n3_ n4_; (try clear hb0); (try clear hkp); (try clear hbk); (try clear hcrb359); (try clear hclb359)))
  (try simp only [Act.put, List.setIfInBounds_toArray, List.set_cons_zero, List.set_cons_succ])
  go_cut [17] (fun v17 wc => ∃ (kq : Nat) (x17_3 : Bool), v17 = .bool x17_3 ∧ Aside0 (codec_cursor_text.j0 kq t358 x17_3 t359 t360 = some (r1, r2, r3)) ∧ Aside0 (kq ≤ k) ∧ Aside0 (wc.heap[g]? = some (.cells #[(.slice Ab359 t359.length cb359), .int .i64 t360] 66 (0, 0))) ∧ Aside0 (KeepBut w wc g none) ∧ Aside0 (Below w0.heap.size w0 wc))
  case first =>
    have H := HC4.out
    clear HC4
    by_cases c6 : t360 = 0
    · rw [if_pos c6] at H
      have c6b0 : (t360 == 0) = true := beq_iff_eq.mpr c6
      have c6b1 : (t360 != 0) = false := bne_eq_false_iff_eq.mpr c6
      clear c6
      (first | rw [c6b0] | (simp only [i64_w, i32_w]; rw [c6b0]) | skip)
      have H' := Aside0.mk H
      clear H
      have hcz7_0 : w5.cell? ⟨g, 0, none⟩ = some (.slice Ab359 t359.length cb359) := (blk_cell BK0.out 0).trans rfl
      have hcz7_1 : w5.cell? ⟨g, 1, none⟩ = some (.int .i64 t360) := (blk_cell BK0.out 1).trans rfl
      have hfz7_0 := blk_frozen BK0.out 0
      have hfz7_1 := blk_frozen BK0.out 1
      go_wp2
      go_meet
      case rel => exact ⟨_, (decide (t358 > a1)), (by first | rfl | (simp; done) | (simp [*]; done) | (simp only [i64_w]; done)), H', ⟨by first | omega | exact Nat.le_refl _⟩, ⟨by (with_reducible repeat (first | refine blk_drewN ?_ _ | refine blk_drew ?_ | refine blk_alloc ?_ _)); exact BK0.out⟩, ⟨by repeat (first | (with_reducible first | exact HK.out | apply KeepBut.set_ | apply keep_drewN | apply keep_drew | apply keep_alloc | refine keep_far ?_ GW0.out _) | exact HK.out)⟩, ⟨by repeat (first | (with_reducible first | exact HB.out | apply below_alloc | apply pw_below_drewN | apply below_drew1 | refine below_set ?_ GE0.out) | exact HB.out)⟩⟩
    · rw [if_neg c6] at H
      have c6b0 : (t360 == 0) = false := beq_eq_false_iff_ne.mpr c6
      have c6b1 : (t360 != 0) = true := bne_iff_ne.mpr c6
      (first | rw [c6b0] | (simp only [i64_w, i32_w]; rw [c6b0]) | skip)
      have H' := Aside0.mk H
      clear H
      have hcz8_0 : w5.cell? ⟨g, 0, none⟩ = some (.slice Ab359 t359.length cb359) := (blk_cell BK0.out 0).trans rfl
      have hcz8_1 : w5.cell? ⟨g, 1, none⟩ = some (.int .i64 t360) := (blk_cell BK0.out 1).trans rfl
      have hfz8_0 := blk_frozen BK0.out 0
      have hfz8_1 := blk_frozen BK0.out 1
      go_wp2
      go_meet
      case rel => exact ⟨_, (false), (by first | rfl | (simp; done) | (simp [*]; done) | (simp only [i64_w]; done)), H', ⟨by first | omega | exact Nat.le_refl _⟩, ⟨by (with_reducible repeat (first | refine blk_drewN ?_ _ | refine blk_drew ?_ | refine blk_alloc ?_ _)); exact BK0.out⟩, ⟨by repeat (first | (with_reducible first | exact HK.out | apply KeepBut.set_ | apply keep_drewN | apply keep_drew | apply keep_alloc | refine keep_far ?_ GW0.out _) | exact HK.out)⟩, ⟨by repeat (first | (with_reducible first | exact HB.out | apply below_alloc | apply pw_below_drewN | apply below_drew1 | refine below_set ?_ GE0.out) | exact HB.out)⟩⟩
  case rest =>
    clear HC4
    try clear p2
    try clear c4
    try clear c6
    try clear c6b0
    try clear c6b1
    try clear hcz7_0
    try clear hcz7_1
    try clear hcz8_0
    try clear hcz8_1
    try clear hfz7_0
    try clear hfz7_1
    try clear hfz8_0
    try clear hfz8_1
    (try clear BK0)
    obtain ⟨kq, x17_3, rfl, HA, HJ3, BK0, HK, HB⟩ := hcut
    cases kq with
    | zero => exact absurd HA.out (by simp [codec_cursor_text.j0])
    | succ kj3 =>
      have H := HA.out
      clear HA
      simp only [codec_cursor_text.j0] at H
      by_cases c9 : x17_3 = true
      · subst c9
        have H1 : ((codec_cursor_fail.f t359 t360 4).bind fun bt361 => ((codec_cursor_take.f bt361.1 bt361.2 t358).bind fun bt363 => (some (bt363.1, bt363.2.1, bt363.2.2)))) = some (r1, r2, r3) := by rw [if_pos rfl] at H; exact H
        clear H
        have H := H1
        clear H1
        replace H := Option.bind_eq_some_iff.mp H
        obtain ⟨⟨t361, t362⟩, A100, H⟩ := H
        replace H : ((codec_cursor_take.f t361 t362 t358).bind fun bt363 => (some (bt363.1, bt363.2.1, bt363.2.2))) = some (r1, r2, r3) := H
        have A10 := Aside0.mk A100
        clear A100
        replace H := Option.bind_eq_some_iff.mp H
        obtain ⟨⟨t363, t366, t367⟩, A110, H⟩ := H
        replace H : (some (t363, t366, t367)) = some (r1, r2, r3) := H
        have A11 := Aside0.mk A110
        clear A110
        simp only [Option.some.injEq, Prod.mk.injEq] at H
        obtain ⟨rfl, rfl, rfl⟩ := H
        go_wp2_with (first | ((with_reducible refine gate_callee (f := 47) rfl ?_); refine goesL_ (some 19) rfl rfl Tryd.func47 (by kernel_rfl) rfl #[.pointer (some ⟨g, 0, none⟩), .int .i64 4] rfl (by (try simp only [List.map_toArray, List.map_cons, List.map_nil]); first | done | rfl | (simp only [List.length_drop, List.length_take]; rfl)) ?_; (with_reducible refine (codec_cursor_fail.calls g Ab359 cb359 t359 t360 4 t361 t362 w0 _ ?side1 ?side2 ?side3 ?side4 ?side5 A10.out).mono ?_); (case side1 => exact by repeat (first | (with_reducible first | exact HB.out | apply below_alloc | apply pw_below_drewN | apply below_drew1 | refine below_set ?_ GE0.out) | exact HB.out)); (case side2 => exact GE0.out); (case side3 => exact by (with_reducible repeat (first | refine blk_drewN ?_ _ | refine blk_drew ?_ | refine blk_alloc ?_ _)); exact BK0.out); (case side4 => exact HRb359.out); (case side5 => exact HCb359.out); rintro e w12 ⟨Ab361, cb361, rfl, hbk, hcrb361, hclb361, hb0, hkp⟩; refine ⟨_, rfl, ?_⟩; have n0_ := Aside0.mk (hbk); have n1_ := Aside0.mk (KeepBut.trans (by repeat (first | (with_reducible first | exact HK.out | apply KeepBut.set_ | apply keep_drewN | apply keep_drew | apply keep_alloc | refine keep_far ?_ GW0.out _) | exact HK.out)) hkp (.inl rfl)); have n2_ := Aside0.mk (hcrb361); have n3_ := Aside0.mk (hclb361); have n4_ := Aside0.mk (hb0); clear BK0; clear HK; clear HB; have BK0 := n0_; have HK := n1_; have HRb361 := n2_; have HCb361 := n3_; have HB := n4_; clear n0_ n1_ n2_ n3_ n4_; (try clear hb0); (try clear hkp); (try clear hbk); (try clear hcrb361); (try clear hclb361)) | ((with_reducible refine gate_callee (f := 48) rfl ?_); refine goesL_ (some 22) rfl rfl Tryd.func48 (by kernel_rfl) rfl #[.pointer (some ⟨g, 0, none⟩), .int .u64 t358] rfl (by (try simp only [List.map_toArray, List.map_cons, List.map_nil]); first | done | rfl | (simp only [List.length_drop, List.length_take]; rfl)) ?_; (with_reducible refine (codec_cursor_take.calls g Ab361 cb361 t361 t362 t358 t363 t366 t367 w0 _ ?side1 ?side2 ?side3 ?side4 ?side5 A11.out).mono ?_); (case side1 => exact by repeat (first | (with_reducible first | exact HB.out | apply below_alloc | apply pw_below_drewN | apply below_drew1 | refine below_set ?_ GE0.out) | exact HB.out)); (case side2 => exact GE0.out); (case side3 => exact by (with_reducible repeat (first | refine blk_drewN ?_ _ | refine blk_drew ?_ | refine blk_alloc ?_ _)); exact BK0.out); (case side4 => exact HRb361.out); (case side5 => exact HCb361.out); rintro e w13 ⟨v364, Ab366, cb366, rfl, ho0, hbk, hcrb366, hclb366, hb0, hkp⟩; refine ⟨_, rfl, ?_⟩; have n0_ := Aside0.mk (hbk); have n1_ := Aside0.mk (Kd.R_lower ho0 (keep_size (w := w) (g := g) (row := none) (by repeat (first | (with_reducible first | exact HK.out | apply KeepBut.set_ | apply keep_drewN | apply keep_drew | apply keep_alloc | refine keep_far ?_ GW0.out _) | exact HK.out)))); have n2_ := Aside0.mk (KeepBut.trans (by repeat (first | (with_reducible first | exact HK.out | apply KeepBut.set_ | apply keep_drewN | apply keep_drew | apply keep_alloc | refine keep_far ?_ GW0.out _) | exact HK.out)) hkp (.inl rfl)); have n3_ := Aside0.mk (hcrb366); have n4_ := Aside0.mk (hclb366); have n5_ := Aside0.mk (hb0); clear BK0; clear HK; clear HB; have BK0 := n0_; have HO365 := n1_; have HK := n2_; have HRb366 := n3_; have HCb366 := n4_; have HB := n5_; clear n0_ n1_ n2_ n3_ n4_ n5_; (try clear hb0); (try clear hkp); (try clear hbk); (try clear ho0); (try clear hcrb366); (try clear hclb366)))
        go_ret
        exact ⟨_, _, _, by first | rfl | (simp [errW_none, errW_some] <;> rfl) | (simp [*, errW_none, errW_some] <;> rfl), by (with_reducible repeat (first | apply Kd.R_alloc | apply Kd.R_drewN | apply Kd.R_drew)); exact HO365.out, by (with_reducible repeat (first | refine blk_drewN ?_ _ | refine blk_drew ?_ | refine blk_alloc ?_ _)); exact BK0.out, HRb366.out, HCb366.out, by repeat (first | (with_reducible first | exact HB.out | apply below_alloc | apply pw_below_drewN | apply below_drew1 | refine below_set ?_ GE0.out) | exact HB.out), by repeat (first | (with_reducible first | exact HK.out | apply KeepBut.set_ | apply keep_drewN | apply keep_drew | apply keep_alloc | refine keep_far ?_ GW0.out _) | exact HK.out)⟩
      · replace c9 := Bool.eq_false_iff.mpr c9
        subst c9
        have H1 : ((codec_cursor_take.f t359 t360 t358).bind fun bt368 => (some (bt368.1, bt368.2.1, bt368.2.2))) = some (r1, r2, r3) := by rw [if_neg (show ¬ (false = true) by decide)] at H; exact H
        clear H
        have H := H1
        clear H1
        replace H := Option.bind_eq_some_iff.mp H
        obtain ⟨⟨t368, t371, t372⟩, A140, H⟩ := H
        replace H : (some (t368, t371, t372)) = some (r1, r2, r3) := H
        have A14 := Aside0.mk A140
        clear A140
        simp only [Option.some.injEq, Prod.mk.injEq] at H
        obtain ⟨rfl, rfl, rfl⟩ := H
        go_wp2_with (first | ((with_reducible refine gate_callee (f := 48) rfl ?_); refine goesL_ (some 22) rfl rfl Tryd.func48 (by kernel_rfl) rfl #[.pointer (some ⟨g, 0, none⟩), .int .u64 t358] rfl (by (try simp only [List.map_toArray, List.map_cons, List.map_nil]); first | done | rfl | (simp only [List.length_drop, List.length_take]; rfl)) ?_; (with_reducible refine (codec_cursor_take.calls g Ab359 cb359 t359 t360 t358 t368 t371 t372 w0 _ ?side1 ?side2 ?side3 ?side4 ?side5 A14.out).mono ?_); (case side1 => exact by repeat (first | (with_reducible first | exact HB.out | apply below_alloc | apply pw_below_drewN | apply below_drew1 | refine below_set ?_ GE0.out) | exact HB.out)); (case side2 => exact GE0.out); (case side3 => exact by (with_reducible repeat (first | refine blk_drewN ?_ _ | refine blk_drew ?_ | refine blk_alloc ?_ _)); exact BK0.out); (case side4 => exact HRb359.out); (case side5 => exact HCb359.out); rintro e w15 ⟨v369, Ab371, cb371, rfl, ho0, hbk, hcrb371, hclb371, hb0, hkp⟩; refine ⟨_, rfl, ?_⟩; have n0_ := Aside0.mk (hbk); have n1_ := Aside0.mk (Kd.R_lower ho0 (keep_size (w := w) (g := g) (row := none) (by repeat (first | (with_reducible first | exact HK.out | apply KeepBut.set_ | apply keep_drewN | apply keep_drew | apply keep_alloc | refine keep_far ?_ GW0.out _) | exact HK.out)))); have n2_ := Aside0.mk (KeepBut.trans (by repeat (first | (with_reducible first | exact HK.out | apply KeepBut.set_ | apply keep_drewN | apply keep_drew | apply keep_alloc | refine keep_far ?_ GW0.out _) | exact HK.out)) hkp (.inl rfl)); have n3_ := Aside0.mk (hcrb371); have n4_ := Aside0.mk (hclb371); have n5_ := Aside0.mk (hb0); clear BK0; clear HK; clear HB; have BK0 := n0_; have HO370 := n1_; have HK := n2_; have HRb371 := n3_; have HCb371 := n4_; have HB := n5_; clear n0_ n1_ n2_ n3_ n4_ n5_; (try clear hb0); (try clear hkp); (try clear hbk); (try clear ho0); (try clear hcrb371); (try clear hclb371)))
        go_ret
        exact ⟨_, _, _, by first | rfl | (simp [errW_none, errW_some] <;> rfl) | (simp [*, errW_none, errW_some] <;> rfl), by (with_reducible repeat (first | apply Kd.R_alloc | apply Kd.R_drewN | apply Kd.R_drew)); exact HO370.out, by (with_reducible repeat (first | refine blk_drewN ?_ _ | refine blk_drew ?_ | refine blk_alloc ?_ _)); exact BK0.out, HRb371.out, HCb371.out, by repeat (first | (with_reducible first | exact HB.out | apply below_alloc | apply pw_below_drewN | apply below_drew1 | refine below_set ?_ GE0.out) | exact HB.out), by repeat (first | (with_reducible first | exact HK.out | apply KeepBut.set_ | apply keep_drewN | apply keep_drew | apply keep_alloc | refine keep_far ?_ GW0.out _) | exact HK.out)⟩
end Go.Proofs.YtfpdipnaefomiaaDoor.Print
