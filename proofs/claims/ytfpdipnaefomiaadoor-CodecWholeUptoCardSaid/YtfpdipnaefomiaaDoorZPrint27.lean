-- What the claim uses alone (wip/slim.py). Lean checks it.
import Derived.Test.YtfpdipnaefomiaaDoorZPrint0
import Derived.Test.YtfpdipnaefomiaaDoorZPrint4
import Derived.Test.YtfpdipnaefomiaaDoorZPrint16
import Derived.Test.YtfpdipnaefomiaaDoorZPrint26
namespace Go.Proofs.YtfpdipnaefomiaaDoor.Print
open Go.RowKit Go.Proofs.YtfpdipnaefomiaaDoorW.PrintWords Go.Proofs.YtfpdipnaefomiaaDoorW.PrintLast Go.Proofs.YtfpdipnaefomiaaDoorW.PrintMore
attribute [local go_sem] max2_mx min2_mn max_two min_two max_three min_three max_four min_four
set_option linter.unusedVariables false
set_option linter.unusedSimpArgs false
set_option maxHeartbeats 8000000 in
set_option maxRecDepth 100000 in
theorem codec_cursor_fail.calls3 (vp : Value) (g : Nat) (A0_0 : Option Addr) (c0_0 : Nat) (l0_0 : List Int) (a0_1 : Int) (a1 : Int) (r1 : List Int) (r2 : Int) (w0 w : World) (hB : Below w0.heap.size w0 w) (hge : w0.heap.size ≤ g) (hbx : w.heap[g]? = some (.cells #[.slice A0_0 l0_0.length c0_0, .int .i64 a0_1, vp] 73 (0, 0))) (hr0_0 : Kd.C (Kd.int .u8) w0 A0_0 l0_0.length l0_0) (hc0_0 : l0_0.length ≤ c0_0) (h : codec_cursor_fail.f l0_0 a0_1 a1 = some (r1, r2)) :
    Calls Tryd.prog 47 #[.pointer (some ⟨g, 0, none⟩), .int .i64 a1] w fun e w' => ∃ (Ax_0 : Option Addr) (cx_0 : Nat), e = .returned (.tuple #[]) ∧ w'.heap[g]? = some (.cells #[.slice Ax_0 r1.length cx_0, .int .i64 r2, vp] 73 (0, 0)) ∧ Kd.C (Kd.int .u8) w0 Ax_0 r1.length r1 ∧ r1.length ≤ cx_0 ∧ Below w0.heap.size w0 w' ∧ KeepBut w w' g none := by
  have HR0_0 := Aside0.mk hr0_0
  have HC0_0 := Aside0.mk hc0_0
  clear hr0_0 hc0_0
  have BK0 := Aside0.mk hbx
  clear hbx
  have GE0 := Aside0.mk hge
  have HK := Aside0.mk (KeepBut.refl w g none)
  have HL := Aside0.mk hB.size
  clear hge
  have HW0 := Aside0.mk hB.size
  have HB := Aside0.mk hB
  clear hB
  have H : (if a0_1 = 0 then (some (l0_0, a1)) else (some (l0_0, a0_1))) = some (r1, r2) := h
  clear h
  by_cases c3 : a0_1 = 0
  · rw [if_pos c3] at H
    have c3b0 : (a0_1 == 0) = true := beq_iff_eq.mpr c3
    have c3b1 : (a0_1 != 0) = false := bne_eq_false_iff_eq.mpr c3
    clear c3
    simp only [Option.some.injEq, Prod.mk.injEq] at H
    obtain ⟨rfl, rfl⟩ := H
    have hcz4_0 : w.cell? ⟨g, 0, none⟩ = some (.slice A0_0 l0_0.length c0_0) := (blk_cell BK0.out 0).trans rfl
    have hcz4_1 : w.cell? ⟨g, 1, none⟩ = some (.int .i64 a0_1) := (blk_cell BK0.out 1).trans rfl
    have hfz4_0 := blk_frozen BK0.out 0
    have hfz4_1 := blk_frozen BK0.out 1
    go_enter Tryd.func47, Tryd.ntmps47
    go_wp2
    first | go_end0 | ((try simp only [Exit.inBlock, Exit.then]); refine bodyPost_ret (results_none rfl _ _ _) rfl ?_)
    exact ⟨_, _, by first | rfl | (simp [errW_none, errW_some] <;> rfl) | (simp [*, errW_none, errW_some] <;> rfl), by (with_reducible repeat (first | refine blk_drewN ?_ _ | refine blk_drew ?_ | refine blk_alloc ?_ _)); refine blk_put (cs := #[.slice A0_0 l0_0.length c0_0, .int .i64 a0_1, vp]) ?_ 1 _ (by first | rfl | (simp only [List.length_drop, List.length_take]; rfl)); (with_reducible repeat (first | refine blk_drewN ?_ _ | refine blk_drew ?_ | refine blk_alloc ?_ _)); exact BK0.out, HR0_0.out, HC0_0.out, by repeat (first | (with_reducible first | exact HB.out | apply below_alloc | apply pw_below_drewN | apply below_drew1 | refine below_set ?_ GE0.out) | exact HB.out), by repeat (first | (with_reducible first | exact HK.out | apply KeepBut.set_ | apply keep_drewN | apply keep_drew | apply keep_alloc | refine keep_far ?_ GW0.out _) | exact HK.out)⟩
  · rw [if_neg c3] at H
    have c3b0 : (a0_1 == 0) = false := beq_eq_false_iff_ne.mpr c3
    have c3b1 : (a0_1 != 0) = true := bne_iff_ne.mpr c3
    simp only [Option.some.injEq, Prod.mk.injEq] at H
    obtain ⟨rfl, rfl⟩ := H
    have hcz5_0 : w.cell? ⟨g, 0, none⟩ = some (.slice A0_0 l0_0.length c0_0) := (blk_cell BK0.out 0).trans rfl
    have hcz5_1 : w.cell? ⟨g, 1, none⟩ = some (.int .i64 a0_1) := (blk_cell BK0.out 1).trans rfl
    have hfz5_0 := blk_frozen BK0.out 0
    have hfz5_1 := blk_frozen BK0.out 1
    go_enter Tryd.func47, Tryd.ntmps47
    go_wp2
    first | go_end0 | ((try simp only [Exit.inBlock, Exit.then]); refine bodyPost_ret (results_none rfl _ _ _) rfl ?_)
    exact ⟨_, _, by first | rfl | (simp [errW_none, errW_some] <;> rfl) | (simp [*, errW_none, errW_some] <;> rfl), by (with_reducible repeat (first | refine blk_drewN ?_ _ | refine blk_drew ?_ | refine blk_alloc ?_ _)); exact BK0.out, HR0_0.out, HC0_0.out, by repeat (first | (with_reducible first | exact HB.out | apply below_alloc | apply pw_below_drewN | apply below_drew1 | refine below_set ?_ GE0.out) | exact HB.out), by repeat (first | (with_reducible first | exact HK.out | apply KeepBut.set_ | apply keep_drewN | apply keep_drew | apply keep_alloc | refine keep_far ?_ GW0.out _) | exact HK.out)⟩
set_option maxHeartbeats 8000000 in
set_option maxRecDepth 100000 in
theorem codec_cursor_take.calls3 (vp : Value) (g : Nat) (A0_0 : Option Addr) (c0_0 : Nat) (l0_0 : List Int) (a0_1 : Int) (a1 : Int) (r1 : List Int) (r2 : List Int) (r3 : Int) (w0 w : World) (hB : Below w0.heap.size w0 w) (hge : w0.heap.size ≤ g) (hbx : w.heap[g]? = some (.cells #[.slice A0_0 l0_0.length c0_0, .int .i64 a0_1, vp] 73 (0, 0))) (hr0_0 : Kd.C (Kd.int .u8) w0 A0_0 l0_0.length l0_0) (hc0_0 : l0_0.length ≤ c0_0) (h : codec_cursor_take.f l0_0 a0_1 a1 = some (r1, r2, r3)) :
    Calls Tryd.prog 48 #[.pointer (some ⟨g, 0, none⟩), .int .u64 a1] w fun e w' => ∃ v0_ : Value, ∃ (Ax_0 : Option Addr) (cx_0 : Nat), e = .returned (v0_) ∧ Kd.R (Kd.int .u8) 5 w' w.heap.size (fun _ => True) v0_ r1 ∧ w'.heap[g]? = some (.cells #[.slice Ax_0 r2.length cx_0, .int .i64 r3, vp] 73 (0, 0)) ∧ Kd.C (Kd.int .u8) w0 Ax_0 r2.length r2 ∧ r2.length ≤ cx_0 ∧ Below w0.heap.size w0 w' ∧ KeepBut w w' g none := by
  have HR0_0 := Aside0.mk hr0_0
  have HC0_0 := Aside0.mk hc0_0
  clear hr0_0 hc0_0
  have BK0 := Aside0.mk hbx
  clear hbx
  have GE0 := Aside0.mk hge
  have HK := Aside0.mk (KeepBut.refl w g none)
  have HL := Aside0.mk hB.size
  clear hge
  have HW0 := Aside0.mk hB.size
  have HB := Aside0.mk hB
  clear hB
  have H : (if a1 > (IntKind.u64.wrap ((l0_0.length : Int))) then ((codec_cursor_fail.f l0_0 a0_1 6).bind fun bt346 => (if bt346.2 = 0 then (if 0 ≤ a1 then (if a1 ≤ (bt346.1.length : Int) then ((codec_own.f (bt346.1.take (a1 : Int).toNat)).bind fun t350 => (some (t350, bt346.1.drop (a1 : Int).toNat, bt346.2))) else (none)) else (none)) else (some (([] : List Int), bt346.1, bt346.2)))) else (if a0_1 = 0 then (if 0 ≤ a1 then (if a1 ≤ (l0_0.length : Int) then ((codec_own.f (l0_0.take (a1 : Int).toNat)).bind fun t355 => (some (t355, l0_0.drop (a1 : Int).toNat, a0_1))) else (none)) else (none)) else (some (([] : List Int), l0_0, a0_1)))) = some (r1, r2, r3) := h
  clear h
  by_cases c3 : a1 > (IntKind.u64.wrap ((l0_0.length : Int)))
  · rw [if_pos c3] at H
    have c3b0 : decide ((IntKind.u64.wrap ((l0_0.length : Int))) < a1) = true := decide_eq_true c3
    clear c3
    replace H := Option.bind_eq_some_iff.mp H
    obtain ⟨⟨t346, t347⟩, A40, H⟩ := H
    replace H : (if t347 = 0 then (if 0 ≤ a1 then (if a1 ≤ (t346.length : Int) then ((codec_own.f (t346.take (a1 : Int).toNat)).bind fun t350 => (some (t350, t346.drop (a1 : Int).toNat, t347))) else (none)) else (none)) else (some (([] : List Int), t346, t347))) = some (r1, r2, r3) := H
    have A4 := Aside0.mk A40
    clear A40
    by_cases c5 : t347 = 0
    · rw [if_pos c5] at H
      have c5b0 : (t347 == 0) = true := beq_iff_eq.mpr c5
      have c5b1 : (t347 != 0) = false := bne_eq_false_iff_eq.mpr c5
      clear c5
      by_cases c6 : 0 ≤ a1
      · rw [if_pos c6] at H
        have c6b0 := eq_true c6
        have c6b1 : decide (0 ≤ a1) = true := decide_eq_true c6
        clear c6
        by_cases c7 : a1 ≤ (t346.length : Int)
        · rw [if_pos c7] at H
          have c7b0 := eq_true c7
          have c7b1 : decide (a1 ≤ (t346.length : Int)) = true := decide_eq_true c7
          clear c7
          have c8b0 := eq_true (of_decide_eq_true (by first | (with_reducible assumption) | assumption) : 0 ≤ a1)
          have c9b0 := eq_true (of_decide_eq_true (by first | (with_reducible assumption) | assumption) : a1 ≤ (t346.length : Int))
          replace H := Option.bind_eq_some_iff.mp H
          obtain ⟨t350, A100, H⟩ := H
          replace H : (some (t350, t346.drop (a1 : Int).toNat, t347)) = some (r1, r2, r3) := H
          have A10 := Aside0.mk A100
          clear A100
          simp only [Option.some.injEq, Prod.mk.injEq] at H
          obtain ⟨rfl, rfl, rfl⟩ := H
          have hcz11_0 : w.cell? ⟨g, 0, none⟩ = some (.slice A0_0 l0_0.length c0_0) := (blk_cell BK0.out 0).trans rfl
          have hcz11_1 : w.cell? ⟨g, 1, none⟩ = some (.int .i64 a0_1) := (blk_cell BK0.out 1).trans rfl
          have hfz11_0 := blk_frozen BK0.out 0
          have hfz11_1 := blk_frozen BK0.out 1
          go_enter Tryd.func48, Tryd.ntmps48
          go_wp2_with (first | ((with_reducible refine gate_callee (f := 47) rfl ?_); refine goesL_ (some 15) rfl rfl Tryd.func47 (by kernel_rfl) rfl #[.pointer (some ⟨g, 0, none⟩), .int .i64 6] rfl (by (try simp only [List.map_toArray, List.map_cons, List.map_nil]); first | done | rfl | (simp only [List.length_drop, List.length_take]; rfl)) ?_; (with_reducible refine (codec_cursor_fail.calls3 vp g A0_0 c0_0 l0_0 a0_1 6 t346 t347 w0 _ ?side1 ?side2 ?side3 ?side4 ?side5 A4.out).mono ?_); (case side1 => exact by repeat (first | (with_reducible first | exact HB.out | apply below_alloc | apply pw_below_drewN | apply below_drew1 | refine below_set ?_ GE0.out) | exact HB.out)); (case side2 => exact GE0.out); (case side3 => exact by (with_reducible repeat (first | refine blk_drewN ?_ _ | refine blk_drew ?_ | refine blk_alloc ?_ _)); exact BK0.out); (case side4 => exact HR0_0.out); (case side5 => exact HC0_0.out); rintro e w12 ⟨Ab346, cb346, rfl, hbk, hcrb346, hclb346, hb0, hkp⟩; refine ⟨_, rfl, ?_⟩; have n0_ := Aside0.mk (hbk); have n1_ := Aside0.mk (KeepBut.trans (by repeat (first | (with_reducible first | exact HK.out | apply KeepBut.set_ | apply keep_drewN | apply keep_drew | apply keep_alloc | refine keep_far ?_ GW0.out _) | exact HK.out)) hkp (.inl rfl)); have n2_ := Aside0.mk (hcrb346); have n3_ := Aside0.mk (hclb346); have n4_ := Aside0.mk (hb0); clear BK0; clear HK; clear HB; have BK0 := n0_; have HK := n1_; have HRb346 := n2_; have HCb346 := n3_; have HB := n4_; clear n0_ n1_ n2_ n3_ n4_; (try clear hb0); (try clear hkp); (try clear hbk); (try clear hcrb346); (try clear hclb346); have hcz13_0 : w12.cell? ⟨g, 0, none⟩ = some (.slice Ab346 t346.length cb346) := (blk_cell BK0.out 0).trans rfl; have hcz13_1 : w12.cell? ⟨g, 1, none⟩ = some (.int .i64 t347) := (blk_cell BK0.out 1).trans rfl; have hfz13_0 := blk_frozen BK0.out 0; have hfz13_1 := blk_frozen BK0.out 1; obtain ⟨i014, hi014, _, hsz14, _⟩ := info_parts info5; obtain ⟨hcut14, hA14, hC14⟩ := print_take_of (P := Tryd.prog) (Value.int .u8) 0 24 5 .u64 Tryd.underlying24 hi014 hsz14 Ab346 cb346 t346 a1 (of_decide_eq_true (by first | (with_reducible assumption) | assumption)) (of_decide_eq_true (by first | (with_reducible assumption) | assumption)) HCb346.out; have HR348 := Aside0.mk (Kd.C_of_reads (h1 := fun _ => rfl) (hA14 _ (Kd.reads_of_C HRb346.out))); have HC348 := Aside0.mk hC14; clear hA14 hC14 hi014 hsz14; obtain ⟨i015, hi015, _, hsz15, _⟩ := info_parts info5; obtain ⟨A15, hcut15, hA15, hC15⟩ := print_drop_of (P := Tryd.prog) (Value.int .u8) 0 24 5 .u64 Tryd.underlying24 hi015 hsz15 Ab346 cb346 t346 a1 (of_decide_eq_true (by first | (with_reducible assumption) | assumption)) (of_decide_eq_true (by first | (with_reducible assumption) | assumption)) HCb346.out; have HR349 := Aside0.mk (Kd.C_of_reads (h1 := fun _ => rfl) (hA15 _ (Kd.reads_of_C HRb346.out))); have HC349 := Aside0.mk hC15; clear hA15 hC15 hi015 hsz15) | ((with_reducible refine gate_callee (f := 42) rfl ?_); refine goesL_ (some 37) rfl rfl Tryd.func42 (by kernel_rfl) rfl #[.slice Ab346 (t346.take (a1 : Int).toNat).length cb346] rfl (by (try simp only [List.map_toArray, List.map_cons, List.map_nil]); first | done | (rw [show (t346.take (a1 : Int).toNat).length = a1.toNat from (by rw [List.length_take]; have h_ : (a1 : Int) ≤ (t346.length : Int) := of_decide_eq_true (by first | (with_reducible assumption) | assumption); omega)] <;> rfl) | rfl | (simp only [List.length_drop, List.length_take]; rfl)) ?_; (with_reducible refine (codec_own.calls _ _ (t346.take (a1 : Int).toNat) t350 _ ?side1 ?side2 A10.out).mono ?_); (case side1 => exact Kd.C_below HR348.out (by repeat (first | (with_reducible first | exact HB.out | apply below_alloc | apply pw_below_drewN | apply below_drew1 | refine below_set ?_ GE0.out) | exact HB.out))); (case side2 => exact HC348.out); rintro e w16 ⟨v351, rfl, ho0, hb⟩; refine ⟨_, rfl, ?_⟩; have n0_ := Aside0.mk (Kd.R_lower ho0 (keep_size (w := w) (g := g) (row := none) (by repeat (first | (with_reducible first | exact HK.out | apply KeepBut.set_ | apply keep_drewN | apply keep_drew | apply keep_alloc | refine keep_far ?_ GW0.out _) | exact HK.out)))); have n1_ := Aside0.mk (blk_below (g := g) (o := .cells #[.slice A15 (t346.drop (a1 : Int).toNat).length (cb346 - a1.toNat), .int .i64 t347, vp] 73 (0, 0)) (by (with_reducible repeat (first | refine blk_drewN ?_ _ | refine blk_drew ?_ | refine blk_alloc ?_ _)); refine blk_put (cs := #[.slice Ab346 t346.length cb346, .int .i64 t347, vp]) ?_ 0 _ (by first | rfl | (simp only [List.length_drop, List.length_take]; rfl)); (with_reducible repeat (first | refine blk_drewN ?_ _ | refine blk_drew ?_ | refine blk_alloc ?_ _)); exact BK0.out) hb); have n2_ := Aside0.mk (KeepBut.trans (by repeat (first | (with_reducible first | exact HK.out | apply KeepBut.set_ | apply keep_drewN | apply keep_drew | apply keep_alloc | refine keep_far ?_ GW0.out _) | exact HK.out)) (KeepBut.of_below hb g none) (.inl rfl)); have n3_ := Aside0.mk (below_step (by repeat (first | (with_reducible first | exact HB.out | apply below_alloc | apply pw_below_drewN | apply below_drew1 | refine below_set ?_ GE0.out) | exact HB.out)) hb); clear BK0; clear HK; clear HB; have HO352 := n0_; have BK0 := n1_; have HK := n2_; have HB := n3_; clear n0_ n1_ n2_ n3_; (try clear hb); (try clear hb2); (try clear hk); (try clear hi); (try clear ho0)))
          go_ret
          exact ⟨_, _, _, by first | rfl | (simp [errW_none, errW_some] <;> rfl) | (simp [*, errW_none, errW_some] <;> rfl), by (with_reducible repeat (first | apply Kd.R_alloc | apply Kd.R_drewN | apply Kd.R_drew)); exact HO352.out, by (with_reducible repeat (first | refine blk_drewN ?_ _ | refine blk_drew ?_ | refine blk_alloc ?_ _)); exact BK0.out, HR349.out, HC349.out, by repeat (first | (with_reducible first | exact HB.out | apply below_alloc | apply pw_below_drewN | apply below_drew1 | refine below_set ?_ GE0.out) | exact HB.out), by repeat (first | (with_reducible first | exact HK.out | apply KeepBut.set_ | apply keep_drewN | apply keep_drew | apply keep_alloc | refine keep_far ?_ GW0.out _) | exact HK.out)⟩
        · rw [if_neg c7] at H
          exact absurd H (by simp)
      · rw [if_neg c6] at H
        exact absurd H (by simp)
    · rw [if_neg c5] at H
      have c5b0 : (t347 == 0) = false := beq_eq_false_iff_ne.mpr c5
      have c5b1 : (t347 != 0) = true := bne_iff_ne.mpr c5
      simp only [Option.some.injEq, Prod.mk.injEq] at H
      obtain ⟨rfl, rfl, rfl⟩ := H
      have hcz17_0 : w.cell? ⟨g, 0, none⟩ = some (.slice A0_0 l0_0.length c0_0) := (blk_cell BK0.out 0).trans rfl
      have hcz17_1 : w.cell? ⟨g, 1, none⟩ = some (.int .i64 a0_1) := (blk_cell BK0.out 1).trans rfl
      have hfz17_0 := blk_frozen BK0.out 0
      have hfz17_1 := blk_frozen BK0.out 1
      go_enter Tryd.func48, Tryd.ntmps48
      go_wp2_with (first | ((with_reducible refine gate_callee (f := 47) rfl ?_); refine goesL_ (some 15) rfl rfl Tryd.func47 (by kernel_rfl) rfl #[.pointer (some ⟨g, 0, none⟩), .int .i64 6] rfl (by (try simp only [List.map_toArray, List.map_cons, List.map_nil]); first | done | rfl | (simp only [List.length_drop, List.length_take]; rfl)) ?_; (with_reducible refine (codec_cursor_fail.calls3 vp g A0_0 c0_0 l0_0 a0_1 6 t346 t347 w0 _ ?side1 ?side2 ?side3 ?side4 ?side5 A4.out).mono ?_); (case side1 => exact by repeat (first | (with_reducible first | exact HB.out | apply below_alloc | apply pw_below_drewN | apply below_drew1 | refine below_set ?_ GE0.out) | exact HB.out)); (case side2 => exact GE0.out); (case side3 => exact by (with_reducible repeat (first | refine blk_drewN ?_ _ | refine blk_drew ?_ | refine blk_alloc ?_ _)); exact BK0.out); (case side4 => exact HR0_0.out); (case side5 => exact HC0_0.out); rintro e w18 ⟨Ab346, cb346, rfl, hbk, hcrb346, hclb346, hb0, hkp⟩; refine ⟨_, rfl, ?_⟩; have n0_ := Aside0.mk (hbk); have n1_ := Aside0.mk (KeepBut.trans (by repeat (first | (with_reducible first | exact HK.out | apply KeepBut.set_ | apply keep_drewN | apply keep_drew | apply keep_alloc | refine keep_far ?_ GW0.out _) | exact HK.out)) hkp (.inl rfl)); have n2_ := Aside0.mk (hcrb346); have n3_ := Aside0.mk (hclb346); have n4_ := Aside0.mk (hb0); clear BK0; clear HK; clear HB; have BK0 := n0_; have HK := n1_; have HRb346 := n2_; have HCb346 := n3_; have HB := n4_; clear n0_ n1_ n2_ n3_ n4_; (try clear hb0); (try clear hkp); (try clear hbk); (try clear hcrb346); (try clear hclb346); have hcz19_0 : w18.cell? ⟨g, 0, none⟩ = some (.slice Ab346 t346.length cb346) := (blk_cell BK0.out 0).trans rfl; have hcz19_1 : w18.cell? ⟨g, 1, none⟩ = some (.int .i64 t347) := (blk_cell BK0.out 1).trans rfl; have hfz19_0 := blk_frozen BK0.out 0; have hfz19_1 := blk_frozen BK0.out 1))
      go_ret
      exact ⟨_, _, _, by first | rfl | (simp [errW_none, errW_some] <;> rfl) | (simp [*, errW_none, errW_some] <;> rfl), by first | exact Kd.R_nil _ _ _ _ _ | exact Kd.N_nil _ _ _ _ _ | exact Kd.V_nil _ _ _ _ _ | exact Kd.Q_nil _ _ _ _ _ | exact Kd.S_nil _ _ _ _ _, by (with_reducible repeat (first | refine blk_drewN ?_ _ | refine blk_drew ?_ | refine blk_alloc ?_ _)); exact BK0.out, HRb346.out, HCb346.out, by repeat (first | (with_reducible first | exact HB.out | apply below_alloc | apply pw_below_drewN | apply below_drew1 | refine below_set ?_ GE0.out) | exact HB.out), by repeat (first | (with_reducible first | exact HK.out | apply KeepBut.set_ | apply keep_drewN | apply keep_drew | apply keep_alloc | refine keep_far ?_ GW0.out _) | exact HK.out)⟩
  · rw [if_neg c3] at H
    have c3b0 : decide ((IntKind.u64.wrap ((l0_0.length : Int))) < a1) = false := decide_eq_false c3
    clear c3
    by_cases c20 : a0_1 = 0
    · rw [if_pos c20] at H
      have c20b0 : (a0_1 == 0) = true := beq_iff_eq.mpr c20
      have c20b1 : (a0_1 != 0) = false := bne_eq_false_iff_eq.mpr c20
      clear c20
      by_cases c21 : 0 ≤ a1
      · rw [if_pos c21] at H
        have c21b0 := eq_true c21
        have c21b1 : decide (0 ≤ a1) = true := decide_eq_true c21
        clear c21
        by_cases c22 : a1 ≤ (l0_0.length : Int)
        · rw [if_pos c22] at H
          have c22b0 := eq_true c22
          have c22b1 : decide (a1 ≤ (l0_0.length : Int)) = true := decide_eq_true c22
          clear c22
          have c23b0 := eq_true (of_decide_eq_true (by first | (with_reducible assumption) | assumption) : 0 ≤ a1)
          have c24b0 := eq_true (of_decide_eq_true (by first | (with_reducible assumption) | assumption) : a1 ≤ (l0_0.length : Int))
          replace H := Option.bind_eq_some_iff.mp H
          obtain ⟨t355, A250, H⟩ := H
          replace H : (some (t355, l0_0.drop (a1 : Int).toNat, a0_1)) = some (r1, r2, r3) := H
          have A25 := Aside0.mk A250
          clear A250
          simp only [Option.some.injEq, Prod.mk.injEq] at H
          obtain ⟨rfl, rfl, rfl⟩ := H
          have hcz26_0 : w.cell? ⟨g, 0, none⟩ = some (.slice A0_0 l0_0.length c0_0) := (blk_cell BK0.out 0).trans rfl
          have hcz26_1 : w.cell? ⟨g, 1, none⟩ = some (.int .i64 a0_1) := (blk_cell BK0.out 1).trans rfl
          have hfz26_0 := blk_frozen BK0.out 0
          have hfz26_1 := blk_frozen BK0.out 1
          obtain ⟨i027, hi027, _, hsz27, _⟩ := info_parts info5
          obtain ⟨hcut27, hA27, hC27⟩ := print_take_of (P := Tryd.prog) (Value.int .u8) 0 24 5 .u64 Tryd.underlying24 hi027 hsz27 A0_0 c0_0 l0_0 a1 (of_decide_eq_true (by first | (with_reducible assumption) | assumption)) (of_decide_eq_true (by first | (with_reducible assumption) | assumption)) HC0_0.out
          have HR353 := Aside0.mk (Kd.C_of_reads (h1 := fun _ => rfl) (hA27 _ (Kd.reads_of_C HR0_0.out)))
          have HC353 := Aside0.mk hC27
          clear hA27 hC27 hi027 hsz27
          obtain ⟨i028, hi028, _, hsz28, _⟩ := info_parts info5
          obtain ⟨A28, hcut28, hA28, hC28⟩ := print_drop_of (P := Tryd.prog) (Value.int .u8) 0 24 5 .u64 Tryd.underlying24 hi028 hsz28 A0_0 c0_0 l0_0 a1 (of_decide_eq_true (by first | (with_reducible assumption) | assumption)) (of_decide_eq_true (by first | (with_reducible assumption) | assumption)) HC0_0.out
          have HR354 := Aside0.mk (Kd.C_of_reads (h1 := fun _ => rfl) (hA28 _ (Kd.reads_of_C HR0_0.out)))
          have HC354 := Aside0.mk hC28
          clear hA28 hC28 hi028 hsz28
          go_enter Tryd.func48, Tryd.ntmps48
          go_wp2_with (first | ((with_reducible refine gate_callee (f := 42) rfl ?_); refine goesL_ (some 37) rfl rfl Tryd.func42 (by kernel_rfl) rfl #[.slice A0_0 (l0_0.take (a1 : Int).toNat).length c0_0] rfl (by (try simp only [List.map_toArray, List.map_cons, List.map_nil]); first | done | (rw [show (l0_0.take (a1 : Int).toNat).length = a1.toNat from (by rw [List.length_take]; have h_ : (a1 : Int) ≤ (l0_0.length : Int) := of_decide_eq_true (by first | (with_reducible assumption) | assumption); omega)] <;> rfl) | rfl | (simp only [List.length_drop, List.length_take]; rfl)) ?_; (with_reducible refine (codec_own.calls _ _ (l0_0.take (a1 : Int).toNat) t355 _ ?side1 ?side2 A25.out).mono ?_); (case side1 => exact Kd.C_below HR353.out (by repeat (first | (with_reducible first | exact HB.out | apply below_alloc | apply pw_below_drewN | apply below_drew1 | refine below_set ?_ GE0.out) | exact HB.out))); (case side2 => exact HC353.out); rintro e w29 ⟨v356, rfl, ho0, hb⟩; refine ⟨_, rfl, ?_⟩; have n0_ := Aside0.mk (Kd.R_lower ho0 (keep_size (w := w) (g := g) (row := none) (by repeat (first | (with_reducible first | exact HK.out | apply KeepBut.set_ | apply keep_drewN | apply keep_drew | apply keep_alloc | refine keep_far ?_ GW0.out _) | exact HK.out)))); have n1_ := Aside0.mk (blk_below (g := g) (o := .cells #[.slice A28 (l0_0.drop (a1 : Int).toNat).length (c0_0 - a1.toNat), .int .i64 a0_1, vp] 73 (0, 0)) (by (with_reducible repeat (first | refine blk_drewN ?_ _ | refine blk_drew ?_ | refine blk_alloc ?_ _)); refine blk_put (cs := #[.slice A0_0 l0_0.length c0_0, .int .i64 a0_1, vp]) ?_ 0 _ (by first | rfl | (simp only [List.length_drop, List.length_take]; rfl)); (with_reducible repeat (first | refine blk_drewN ?_ _ | refine blk_drew ?_ | refine blk_alloc ?_ _)); exact BK0.out) hb); have n2_ := Aside0.mk (KeepBut.trans (by repeat (first | (with_reducible first | exact HK.out | apply KeepBut.set_ | apply keep_drewN | apply keep_drew | apply keep_alloc | refine keep_far ?_ GW0.out _) | exact HK.out)) (KeepBut.of_below hb g none) (.inl rfl)); have n3_ := Aside0.mk (below_step (by repeat (first | (with_reducible first | exact HB.out | apply below_alloc | apply pw_below_drewN | apply below_drew1 | refine below_set ?_ GE0.out) | exact HB.out)) hb); clear BK0; clear HK; clear HB; have HO357 := n0_; have BK0 := n1_; have HK := n2_; have HB := n3_; clear n0_ n1_ n2_ n3_; (try clear hb); (try clear hb2); (try clear hk); (try clear hi); (try clear ho0)))
          go_ret
          exact ⟨_, _, _, by first | rfl | (simp [errW_none, errW_some] <;> rfl) | (simp [*, errW_none, errW_some] <;> rfl), by (with_reducible repeat (first | apply Kd.R_alloc | apply Kd.R_drewN | apply Kd.R_drew)); exact HO357.out, by (with_reducible repeat (first | refine blk_drewN ?_ _ | refine blk_drew ?_ | refine blk_alloc ?_ _)); exact BK0.out, HR354.out, HC354.out, by repeat (first | (with_reducible first | exact HB.out | apply below_alloc | apply pw_below_drewN | apply below_drew1 | refine below_set ?_ GE0.out) | exact HB.out), by repeat (first | (with_reducible first | exact HK.out | apply KeepBut.set_ | apply keep_drewN | apply keep_drew | apply keep_alloc | refine keep_far ?_ GW0.out _) | exact HK.out)⟩
        · rw [if_neg c22] at H
          exact absurd H (by simp)
      · rw [if_neg c21] at H
        exact absurd H (by simp)
    · rw [if_neg c20] at H
      have c20b0 : (a0_1 == 0) = false := beq_eq_false_iff_ne.mpr c20
      have c20b1 : (a0_1 != 0) = true := bne_iff_ne.mpr c20
      simp only [Option.some.injEq, Prod.mk.injEq] at H
      obtain ⟨rfl, rfl, rfl⟩ := H
      have hcz30_0 : w.cell? ⟨g, 0, none⟩ = some (.slice A0_0 l0_0.length c0_0) := (blk_cell BK0.out 0).trans rfl
      have hcz30_1 : w.cell? ⟨g, 1, none⟩ = some (.int .i64 a0_1) := (blk_cell BK0.out 1).trans rfl
      have hfz30_0 := blk_frozen BK0.out 0
      have hfz30_1 := blk_frozen BK0.out 1
      go_enter Tryd.func48, Tryd.ntmps48
      go_wp2
      go_ret
      exact ⟨_, _, _, by first | rfl | (simp [errW_none, errW_some] <;> rfl) | (simp [*, errW_none, errW_some] <;> rfl), by first | exact Kd.R_nil _ _ _ _ _ | exact Kd.N_nil _ _ _ _ _ | exact Kd.V_nil _ _ _ _ _ | exact Kd.Q_nil _ _ _ _ _ | exact Kd.S_nil _ _ _ _ _, by (with_reducible repeat (first | refine blk_drewN ?_ _ | refine blk_drew ?_ | refine blk_alloc ?_ _)); exact BK0.out, HR0_0.out, HC0_0.out, by repeat (first | (with_reducible first | exact HB.out | apply below_alloc | apply pw_below_drewN | apply below_drew1 | refine below_set ?_ GE0.out) | exact HB.out), by repeat (first | (with_reducible first | exact HK.out | apply KeepBut.set_ | apply keep_drewN | apply keep_drew | apply keep_alloc | refine keep_far ?_ GW0.out _) | exact HK.out)⟩
structure Ks (w0 W : World) (g : Nat) (A : Option Addr) (c : Nat) (left : List Int) (why : Int) (vP : Value) (ps : List S60) : Prop where
  BK : W.heap[g]? = some (.cells #[.slice A left.length c, .int .i64 why, vP] 73 (0, 0))
  GE : w0.heap.size ≤ g
  HB : Below w0.heap.size w0 W
  C : Kd.C (Kd.int .u8) w0 A left.length left
  L : left.length ≤ c
  P : Kd.R k60 60 W w0.heap.size (fun _ => True) vP ps
theorem Ks.below {w0 W W2 : World} {g : Nat} {A : Option Addr} {c : Nat} {left : List Int} {why : Int} {vP : Value} {ps : List S60} (O : Ks w0 W g A c left why vP ps) (hb : Below W.heap.size W W2) : Ks w0 W2 g A c left why vP ps := ⟨blk_below O.BK hb, O.GE, below_step O.HB hb, O.C, O.L, Kd.R_below O.P hb⟩
theorem Ks.over_s {w0 W w9 : World} {g : Nat} {A : Option Addr} {c : Nat} {left : List Int} {why : Int} {vP : Value} {ps : List S60} {b : Nat} {ok : Nat → Prop} {u : Value} {s : List Int} (O : Ks w0 W g A c left why vP ps) (S : Kd.R (Kd.int .u8) 5 W b ok u s) (hb : Below w0.heap.size w0 w9) (hg : W.grownBy w9 u.ownBlock) : Ks w0 w9 g A c left why vP ps :=
  ⟨blk_grown O.BK hg (Kd.R_ne S O.BK (by decide)), O.GE, hb, O.C, O.L, Kd.R_over' O.P (Kd.R_typed S) (by decide) hg⟩
def codec_ReadKey_digits.f (k : Nat) (left : List Int) (why : Int) (ps : List S60) : Option (List Int × Int × List S60) :=
  (codec_cursor_take.f left why 8).bind fun t => if t.2.2 = 0 then (codec_number.f k t.1).bind fun n => if ps.length < 1048576 then some (t.2.1, 0, ps ++ [⟨1, n, ⟨#[]⟩⟩]) else none else some (t.2.1, t.2.2, ps)
def codec_ReadKey_digits.T2 : Bool × List (List Nat × List Nat) := (true, [([], []), ([], []), ([1], [1]), ([2], [2]), ([3], [3]), ([], []), ([5], [5]), ([6], [6]), ([7], [7]), ([4, 8, 6], [4, 8]), ([0, 0, 1, 2, 3, 4, 5, 6, 7, 8, 9], [0]), ([10, 0, 1, 2, 3, 4, 5, 6, 7, 8, 9], [10]), ([11, 9, 9, 0, 1, 2, 3, 4, 5, 6, 7, 8, 9], [9, 11])])
def codec_ReadKey_digits.B2 : List Nat := [0, 0, 2, 6, 14, 0, 32, 96, 224, 510, 1023, 2047, 4095]
theorem codec_ReadKey_digits.tab2 : rtab .any (opsOf Tryd.f49 2) = codec_ReadKey_digits.T2 := by kernel_rfl
theorem codec_ReadKey_digits.bits2 : waitsOk codec_ReadKey_digits.T2.2 codec_ReadKey_digits.B2 = true := by kernel_rfl
set_option maxHeartbeats 4000000 in
set_option maxRecDepth 100000 in
theorem codec_ReadKey_digits.calls (k g : Nat) (A : Option Addr) (c : Nat) (left : List Int) (why : Int) (vP : Value) (ps : List S60) (r1 : List Int) (r2 : Int) (r3 : List S60) (w0 w : World) (hO : Ks w0 w g A c left why vP ps) (h : codec_ReadKey_digits.f k left why ps = some (r1, r2, r3)) :
    Calls Tryd.prog 49 #[.pointer (some ⟨g, 0, none⟩)] w fun e w' => ∃ (A' : Option Addr) (c' : Nat) (v' : Value), e = .returned (.tuple #[]) ∧ Ks w0 w' g A' c' r1 r2 v' r3 := by
  unfold codec_ReadKey_digits.f at h
  replace h := Option.bind_eq_some_iff.mp h
  obtain ⟨⟨b1, q1, e1⟩, ht, h⟩ := h
  simp only at h
  have HT := Aside0.mk ht
  have HH := Aside0.mk h
  have O := Aside0.mk hO
  clear hO ht h
  have hc0 := (blk_cell O.out.BK 0).trans rfl
  have hc1 := (blk_cell O.out.BK 1).trans rfl
  have hc2 := (blk_cell O.out.BK 2).trans rfl
  have hf0 := blk_frozen O.out.BK 0
  have hf1 := blk_frozen O.out.BK 1
  have hf2 := blk_frozen O.out.BK 2
  go_enter Tryd.func49, Tryd.ntmps49
  go_wp2_with fail
  refine (codec_cursor_take.calls3 vP g A c left why 8 b1 q1 e1 w0 _ O.out.HB O.out.GE O.out.BK O.out.C O.out.L HT.out).mono ?_
  rintro e w1 ⟨v1, A1, c1, rfl, hR, hbk, hC, hL, hB, hK⟩
  obtain ⟨Ab, cb, rfl⟩ := Kd.R_slice hR
  have RB := Aside0.mk (Kd.R_reads' hR).2.2
  have LB := Aside0.mk (Kd.R_reads' hR).2.1
  have O1 : Aside0 (Ks w0 w1 g A1 c1 q1 e1 vP ps) := ⟨⟨hbk, O.out.GE, hB, hC, hL, Kd.R_mono (Kd.R_keep (Kd.R_types O.out.P O.out.BK (by decide)) hK (fun _ hk => hk.2)) (fun _ _ => trivial)⟩⟩
  clear hc0 hc1 hc2 hf0 hf1 hf2
  clear hR hbk hC hL hB hK O HT
  have H := HH.out
  clear HH
  have hc0 := (blk_cell O1.out.BK 0).trans rfl
  have hc1 := (blk_cell O1.out.BK 1).trans rfl
  have hc2 := (blk_cell O1.out.BK 2).trans rfl
  have hf0 := blk_frozen O1.out.BK 0
  have hf1 := blk_frozen O1.out.BK 1
  have hf2 := blk_frozen O1.out.BK 2
  by_cases he : e1 = 0
  · rw [if_pos he] at H
    subst he
    replace H := Option.bind_eq_some_iff.mp H
    obtain ⟨n, hn, H⟩ := H
    have HN := Aside0.mk hn
    clear hn
    by_cases hl : ps.length < 1048576
    rotate_left
    · rw [if_neg hl] at H; cases H
    rw [if_pos hl] at H
    simp only [Option.some.injEq, Prod.mk.injEq] at H
    obtain ⟨rfl, rfl, rfl⟩ := H
    have HL := Aside0.mk hl
    clear hl
    go_upto_region 2 with fail
    clear hc0 hc1 hc2 hf0 hf1 hf2
    have n_ := Aside0.mk (O1.out.below (below_drew (Below.refl _ _)))
    have b_ := Aside0.mk (Kd.C_below RB.out (below_drew (Below.refl _ _)))
    clear O1 RB
    have O1 := n_
    have RB := b_
    clear n_ b_
    refine start_ (n := 13) (S := fun w' => w'.cell? ⟨g, 2, none⟩ = some vP) (ds := [12]) #[false, false, false, false, false, false, false, false, false, false, false, false, false] (by kernel_rfl) rfl rfl (((blk_cell O1.out.BK 2).trans rfl)) (fun hHeld => ?_)
    refine with_tabW codec_ReadKey_digits.tab2 codec_ReadKey_digits.bits2 (fun HT_ HW_ => ?_)
    refine pure_ (i := 0) (N := some 13) (v := ?_) (a' := ?_) #[true, false, false, false, false, false, false, false, false, false, false, false, false] rfl rfl (any_of HT_.out (by kernel_rfl)) (fun _ _ _ h => h) (Or.inl ⟨by rfl, ?_⟩) ?_ ?_
    rotate_left
    · intro w'
      go_simp
      with_reducible rfl
    rotate_left
    · simp only [Act.put, List.setIfInBounds_toArray, List.set_cons_zero, List.set_cons_succ, i64_w, i32_w]
      rfl
    refine pure_ (i := 1) (N := some 14) (v := ?_) (a' := ?_) #[true, true, false, false, false, false, false, false, false, false, false, false, false] rfl rfl (any_of HT_.out (by kernel_rfl)) (fun _ _ _ h => h) (Or.inl ⟨by rfl, ?_⟩) ?_ ?_
    rotate_left
    · intro w'
      go_simp
      with_reducible rfl
    rotate_left
    · simp only [Act.put, List.setIfInBounds_toArray, List.set_cons_zero, List.set_cons_succ, i64_w, i32_w]
      rfl
    refine pure_ (i := 2) (N := some 15) (v := ?_) (a' := ?_) #[true, true, true, false, false, false, false, false, false, false, false, false, false] rfl rfl (any_of HT_.out (by kernel_rfl)) (fun _ _ _ h => h) (Or.inl ⟨by rfl, ?_⟩) ?_ ?_
    rotate_left
    · intro w'
      go_simp
      with_reducible rfl
    rotate_left
    · simp only [Act.put, List.setIfInBounds_toArray, List.set_cons_zero, List.set_cons_succ, i64_w, i32_w]
      rfl
    refine pure_ (i := 3) (N := some 16) (v := ?_) (a' := ?_) #[true, true, true, true, false, false, false, false, false, false, false, false, false] rfl rfl (any_of HT_.out (by kernel_rfl)) (fun _ _ _ h => h) (Or.inl ⟨by rfl, ?_⟩) ?_ ?_
    rotate_left
    · intro w'
      go_simp
      with_reducible rfl
    rotate_left
    · simp only [Act.put, List.setIfInBounds_toArray, List.set_cons_zero, List.set_cons_succ, i64_w, i32_w]
      rfl
    refine pure_ (i := 5) (N := some 18) (v := ?_) (a' := ?_) #[true, true, true, true, false, true, false, false, false, false, false, false, false] rfl rfl (any_of HT_.out (by kernel_rfl)) (fun _ _ _ h => h) (Or.inl ⟨by rfl, ?_⟩) ?_ ?_
    rotate_left
    · intro w'
      go_simp
      with_reducible rfl
    rotate_left
    · simp only [Act.put, List.setIfInBounds_toArray, List.set_cons_zero, List.set_cons_succ, i64_w, i32_w]
      rfl
    refine take_ (i := 4) (N := some 17) (v := ?_) (a' := ?_) #[true, true, true, true, true, true, false, false, false, false, false, false, false] rfl rfl (take_ofW HT_.out HW_.out (by kernel_rfl)) (fun _ _ _ h => h) (Or.inl ⟨by rfl, ?_⟩) hHeld ?_ ?_
    rotate_left
    · intro w' s0
      go_simp
      with_reducible rfl
    rotate_left
    · simp only [Act.put, List.setIfInBounds_toArray, List.set_cons_zero, List.set_cons_succ, i64_w, i32_w]
      rfl
    refine one_ (i := 6) (N := some 19) #[true, true, true, true, true, true, true, false, false, false, false, false, false] rfl rfl (one_of HT_.out (by kernel_rfl)) (by decide) (fun K hK => ?_)
    refine goes_ Tryd.func53 (by kernel_rfl) rfl #[.slice Ab b1.length cb] (by rfl) rfl rfl (by (try simp only [List.map_toArray, List.map_cons, List.map_nil]); first | done | rfl | (simp only [List.length_drop, List.length_take]; rfl)) ?_
    refine (codec_number.calls k _ _ b1 n _ RB.out LB.out HN.out).mono ?_
    rintro e w7 ⟨rfl, hd⟩
    refine ⟨_, rfl, ?_⟩
    have n_ := Aside0.mk (O1.out.below hd.below)
    clear O1 RB LB HN hd
    have O1 := n_
    clear n_
    refine hK.out _ _ (((blk_cell O1.out.BK 2).trans rfl)) (fun hHeld => ?_)
    clear hK K
    refine norm_ (a' := ?_) ?_ ?_
    rotate_left
    · show Act.put _ (some 19) _ = _
      simp only [Act.put, List.setIfInBounds_toArray, List.set_cons_zero, List.set_cons_succ, i64_w, i32_w]
      rfl
    refine pure_ (i := 7) (N := some 20) (v := ?_) (a' := ?_) #[true, true, true, true, true, true, true, true, false, false, false, false, false] rfl rfl (any_of HT_.out (by kernel_rfl)) (fun _ _ _ h => h) (Or.inl ⟨by rfl, ?_⟩) ?_ ?_
    rotate_left
    · intro w'
      go_simp
      with_reducible rfl
    rotate_left
    · simp only [Act.put, List.setIfInBounds_toArray, List.set_cons_zero, List.set_cons_succ, i64_w, i32_w]
      rfl
    refine one_ (i := 8) (N := some 21) #[true, true, true, true, true, true, true, true, true, false, false, false, false] rfl rfl (one_of HT_.out (by kernel_rfl)) (by decide) (fun K hK => ?_)
    refine value_ (w1 := ?_) (v := ?_) (by rfl) rfl ?_ ?_
    rotate_left 2
    · go_simp
      constructor
      · rfl
      · rfl
    refine hK.out _ _ (((blk_cell (blk_alloc O1.out.BK _) 2).trans rfl)) (fun hHeld => ?_)
    clear hK K
    refine norm_ (a' := ?_) ?_ ?_
    rotate_left
    · show Act.put _ (some 21) _ = _
      simp only [Act.put, List.setIfInBounds_toArray, List.set_cons_zero, List.set_cons_succ, i64_w, i32_w]
      rfl
    refine one_ (i := 9) (N := some 22) #[true, true, true, true, true, true, true, true, true, true, false, false, false] rfl rfl (one_of HT_.out (by kernel_rfl)) (by decide) (fun K hK => ?_)
    refine Kd.R_append_step k60 (w0 := w0) w0.heap.size (by rfl) (.tmp 17) (.tmp 21) 22 60 (.agg #[(.int .u8 0), (.int .u64 0), (.string ⟨#[]⟩)]) 32 rfl Tryd.underlying22 info60 rfl (by decide) (by omega) vP ps ⟨1, n, ⟨#[]⟩⟩ [.int .u8 1, .int .u64 n, .string ⟨#[]⟩] (fun _ => True) (fun _ => False) rfl rfl (k60_mkM _ _ _ _) (fun _ hk => hk.elim) (fun _ _ => trivial) O1.out.P O1.out.HB O1.out.HB.size (by have := HL.out; omega) ?_
    intro v9 w8 hn hb hg hat
    obtain ⟨A9, c9, hv_⟩ := Kd.R_slice hn
    obtain ⟨n9, e9⟩ : ∃ n9, n9 = (ps ++ [(⟨1, n, ⟨#[]⟩⟩ : S60)]).length := ⟨_, rfl⟩
    rw [← e9] at hv_
    subst hv_
    clear e9
    have BG := Aside0.mk (blk_grown O1.out.BK hg (Kd.R_ne O1.out.P O1.out.BK (by decide)))
    have P9 := Aside0.mk hn
    have B9 := Aside0.mk hb
    clear hn hb hg hat
    refine hK.out _ _ (((blk_cell BG.out 2).trans rfl)) (fun hHeld => ?_)
    clear hK K
    refine norm_ (a' := ?_) ?_ ?_
    rotate_left
    · show Act.put _ (some 22) _ = _
      simp only [Act.put, List.setIfInBounds_toArray, List.set_cons_zero, List.set_cons_succ, i64_w, i32_w]
      rfl
    refine pure_ (i := 10) (N := some 23) (v := ?_) (a' := ?_) #[true, true, true, true, true, true, true, true, true, true, true, false, false] rfl rfl (any_of HT_.out (by kernel_rfl)) (fun _ _ _ h => h) (Or.inl ⟨by rfl, ?_⟩) ?_ ?_
    rotate_left
    · intro w'
      go_simp
      with_reducible rfl
    rotate_left
    · simp only [Act.put, List.setIfInBounds_toArray, List.set_cons_zero, List.set_cons_succ, i64_w, i32_w]
      rfl
    refine pure_ (i := 11) (N := some 24) (v := ?_) (a' := ?_) #[true, true, true, true, true, true, true, true, true, true, true, true, false] rfl rfl (any_of HT_.out (by kernel_rfl)) (fun _ _ _ h => h) (Or.inl ⟨by rfl, ?_⟩) ?_ ?_
    rotate_left
    · intro w'
      go_simp
      with_reducible rfl
    rotate_left
    · simp only [Act.put, List.setIfInBounds_toArray, List.set_cons_zero, List.set_cons_succ, i64_w, i32_w]
      rfl
    refine last_ (i := 12) (N := none) #[true, true, true, true, true, true, true, true, true, true, true, true, true] rfl rfl (one_of HT_.out (by kernel_rfl)) (by decide) (fun K hK => ?_)
    have hh2 := (blk_cell BG.out 2).trans rfl
    have hf2 := blk_frozen BG.out 2
    refine skip_ (w1 := ?_) (by rfl) rfl ?_ ?_
    rotate_left
    · go_simp
      rfl
    clear hh2 hf2
    refine hK.out _ _ ?_
    clear hK K
    refine done_ (done_of HT_.out (by kernel_rfl)) ?_
    (try go_wp2)
    first | go_end0 | ((try simp only [Exit.inBlock, Exit.then]); refine bodyPost_ret (results_none rfl _ _ _) rfl ?_)
    exact ⟨_, _, _, rfl, ⟨blk_put BG.out 2 _ rfl, O1.out.GE, below_set B9.out O1.out.GE, O1.out.C, O1.out.L, Kd.R_mono (Kd.R_far (p := ⟨g, 2, none⟩) (Kd.R_types P9.out BG.out (by decide)) (fun _ hk => hk.2) _) (fun _ _ => trivial)⟩⟩
  · rw [if_neg he] at H
    have z1 : (e1 == 0) = false := beq_eq_false_iff_ne.mpr he
    clear he
    simp only [Option.some.injEq, Prod.mk.injEq] at H
    obtain ⟨rfl, rfl, rfl⟩ := H
    go_wp2
    first | go_end0 | ((try simp only [Exit.inBlock, Exit.then]); refine bodyPost_ret (results_none rfl _ _ _) rfl ?_)
    exact ⟨_, _, _, rfl, O1.out⟩
def codec_ReadKey_words.f : Nat → List Int → Int → List Int → List S60 → Option (List Int × Int × List S60)
  | 0, _, _, _, _ => none
  | m + 1, left, why, s, ps => if why = 0 then ((codec_cursor_take.f left why 1).bind fun t => if t.2.2 = 0 then (if 0 < t.1.length ∧ s.length < 1048576 ∧ ps.length < 1048576 then (if rd t.1 0 ≠ 0 then codec_ReadKey_words.f m t.2.1 0 (s ++ [rd t.1 0]) ps else
      (codec_cursor_take.f t.2.1 0 1).bind fun u => if u.2.2 = 0 then (if 0 < u.1.length then (if rd u.1 0 = 1 then some (u.2.1, 0, ps ++ [⟨2, 0, strOfNums s⟩]) else if rd u.1 0 = 255 then codec_ReadKey_words.f m u.2.1 0 (s ++ [0]) ps else (codec_cursor_fail.f u.2.1 0 6).bind fun v => codec_ReadKey_words.f m v.1 v.2 s ps) else none) else codec_ReadKey_words.f m u.2.1 u.2.2 s ps) else none) else some (t.2.1, t.2.2, ps)) else some (left, why, ps)
theorem codec_ReadKey_words.f.mono : ∀ m left why s ps, LeO (codec_ReadKey_words.f m left why s ps) (codec_ReadKey_words.f (m + 1) left why s ps)
  | 0, _, _, _, _ => fun r h => by simp [codec_ReadKey_words.f] at h
  | m + 1, left, why, s, ps => by
    have ih := codec_ReadKey_words.f.mono m
    unfold codec_ReadKey_words.f
    exact LeO.ite (LeO.bind (LeO.refl _) (fun t => LeO.ite (LeO.ite (LeO.ite (ih _ _ _ _) (LeO.bind (LeO.refl _) (fun u => LeO.ite (LeO.ite (LeO.ite (LeO.refl _) (LeO.ite (ih _ _ _ _) (LeO.bind (LeO.refl _) (fun v => ih _ _ _ _)))) (LeO.refl _)) (ih _ _ _ _)))) (LeO.refl _)) (LeO.refl _))) (LeO.refl _)
def codec_ReadKey_words.T10 : Bool × List (List Nat × List Nat) := (true, [([], []), ([], []), ([1], [1]), ([2], [2]), ([3], [3]), ([], []), ([5], [5]), ([6], [6]), ([7], [7]), ([4, 8], [4, 8]), ([0, 0, 1, 2, 3, 4, 5, 6, 7, 8, 9], [0]), ([10, 0, 1, 2, 3, 4, 5, 6, 7, 8, 9], [10]), ([11, 9, 9, 0, 1, 2, 3, 4, 5, 6, 7, 8, 9], [9, 11])])
def codec_ReadKey_words.B10 : List Nat := [0, 0, 2, 6, 14, 0, 32, 96, 224, 510, 1023, 2047, 4095]
theorem codec_ReadKey_words.tab10 : rtab .any (opsOf Tryd.f50 10) = codec_ReadKey_words.T10 := by kernel_rfl
theorem codec_ReadKey_words.bits10 : waitsOk codec_ReadKey_words.T10.2 codec_ReadKey_words.B10 = true := by kernel_rfl
set_option maxHeartbeats 4000000 in
set_option maxRecDepth 100000 in
theorem codec_ReadKey_words.calls (m g : Nat) (A : Option Addr) (c : Nat) (left : List Int) (why : Int) (vP : Value) (ps : List S60) (r1 : List Int) (r2 : Int) (r3 : List S60) (w0 w : World) (hO : Ks w0 w g A c left why vP ps) (h : codec_ReadKey_words.f m left why [] ps = some (r1, r2, r3)) :
    Calls Tryd.prog 50 #[.pointer (some ⟨g, 0, none⟩)] w fun e w' => ∃ (A' : Option Addr) (c' : Nat) (v' : Value), e = .returned (.tuple #[]) ∧ Ks w0 w' g A' c' r1 r2 v' r3 := by
  have O0 := Aside0.mk hO
  have H0 := Aside0.mk h
  clear hO h
  go_enter Tryd.func50, Tryd.ntmps50
  go_wp2_with fail
  go_loopg [2] m (fun kq v2 wr => ∃ (A : Option Addr) (c : Nat) (left : List Int) (why : Int) (vP : Value) (ps : List S60) (s : List Int), Aside0 (Ks w0 wr g A c left why vP ps) ∧ Aside0 (Kd.R (Kd.int .u8) 5 wr w0.heap.size (fun _ => True) v2 s) ∧ Aside0 (codec_ReadKey_words.f kq left why s ps = some (r1, r2, r3)))
  case atStart => exact ⟨A, c, left, why, vP, ps, [], O0, ⟨Kd.R_nil _ _ _ _ _⟩, H0⟩
  case round =>
    clear O0 H0
    obtain ⟨A, c, left, why, vP, ps, s, O, SR, HA⟩ := hrel
    cases gk with
    | zero => exact absurd HA.out (by simp [codec_ReadKey_words.f])
    | succ q =>
      have H := HA.out
      clear HA
      simp only [codec_ReadKey_words.f] at H
      have hc0 := (blk_cell O.out.BK 0).trans rfl
      have hc1 := (blk_cell O.out.BK 1).trans rfl
      have hc2 := (blk_cell O.out.BK 2).trans rfl
      have hf0 := blk_frozen O.out.BK 0
      have hf1 := blk_frozen O.out.BK 1
      have hf2 := blk_frozen O.out.BK 2
      by_cases hw : why = 0
      · rw [if_pos hw] at H
        have z1 : (why == 0) = true := beq_iff_eq.mpr hw
        subst hw
        replace H := Option.bind_eq_some_iff.mp H
        obtain ⟨⟨b1, q1, e1⟩, ht, H⟩ := H
        simp only at H
        have HT := Aside0.mk ht
        have HH := Aside0.mk H
        clear ht H
        go_wp2_with fail
        refine (codec_cursor_take.calls3 _ g _ _ _ _ 1 b1 q1 e1 w0 _ O.out.HB O.out.GE O.out.BK O.out.C O.out.L HT.out).mono ?_
        rintro e w1 ⟨v1, A1, c1, rfl, hR, hbk, hC, hL, hB, hK⟩
        obtain ⟨Ab1, cb1, rfl⟩ := Kd.R_slice hR
        have RB1 := Aside0.mk (Kd.R_reads' hR).2.2
        have LB1 := Aside0.mk (Kd.R_reads' hR).2.1
        have O1 : Aside0 (Ks w0 w1 g A1 c1 q1 e1 vP ps) := ⟨⟨hbk, O.out.GE, hB, hC, hL, Kd.R_mono (Kd.R_keep (Kd.R_types O.out.P O.out.BK (by decide)) hK (fun _ hk => hk.2)) (fun _ _ => trivial)⟩⟩
        have n_ := Aside0.mk (Kd.R_mono (ok' := fun _ => True) (Kd.R_keep (Kd.R_types SR.out O.out.BK (by decide)) hK (fun _ hk => hk.2)) (fun _ _ => trivial))
        clear hc0 hc1 hc2 hf0 hf1 hf2
        clear hR hbk hC hL hB hK O HT SR
        have SR := n_
        clear n_
        have H := HH.out
        clear HH
        have hc0 := (blk_cell O1.out.BK 0).trans rfl
        have hc1 := (blk_cell O1.out.BK 1).trans rfl
        have hc2 := (blk_cell O1.out.BK 2).trans rfl
        have hf0 := blk_frozen O1.out.BK 0
        have hf1 := blk_frozen O1.out.BK 1
        have hf2 := blk_frozen O1.out.BK 2
        by_cases he1 : e1 = 0
        · rw [if_pos he1] at H
          subst he1
          by_cases hl : 0 < b1.length ∧ s.length < 1048576 ∧ ps.length < 1048576
          rotate_left
          · rw [if_neg hl] at H; cases H
          rw [if_pos hl] at H
          have HL1 := Aside0.mk hl.1
          have HS := Aside0.mk hl.2
          clear hl
          have p0 : 0 ≤ (0 : Int) := (by omega)
          have q0 : (0 : Int) < (b1.length : Int) := by have := HL1.out; omega
          have qi0 : (0 < b1.length) = True := eq_true (by have := HL1.out; omega)
          obtain ⟨ad1, ea1, hx1⟩ := Kd.at_int RB1.out 0 p0 q0
          cases ea1
          (try rw [show ((0 : Int)).toNat = 0 from rfl] at hx1)
          (try rw [Addr.add_zero'] at hx1)
          replace p0 := eq_true p0
          replace q0 := eq_true q0
          obtain ⟨x1, hbx1⟩ : ∃ x, x = rd b1 0 := ⟨_, rfl⟩
          rw [← hbx1] at H hx1
          clear hbx1 RB1 LB1 HL1
          by_cases hn1 : x1 ≠ 0
          · rw [if_pos hn1] at H
            have y1a : (x1 == 0) = false := beq_eq_false_iff_ne.mpr hn1
            have y1b : (x1 != 0) = true := bne_iff_ne.mpr hn1
            clear hn1
            have HH := Aside0.mk H
            clear H
            go_wp2_with (first | ((with_reducible refine gate_builtin (b := .append) (xs := #[.tmp 25, .tmp 29]) rfl ?_); at_builtin; refine Kd.R_append (Kd.int .u8) (w0 := w0) w0.heap.size rfl (.tmp 25) (.tmp 29) 24 5 (.int .u8 0) 1 rfl Tryd.underlying24 info5 rfl (by decide) (by omega) u2 s x1 [.int .u8 x1] (fun _ => True) (fun _ => False) rfl rfl rfl (fun _ hk => hk.elim) (fun _ _ => trivial) SR.out O1.out.HB O1.out.HB.size (by have := HS.out.1; omega) ?_; intro v9 w9 hn hb hg hat; have SN := Aside0.mk hn; have ON := Aside0.mk (O1.out.over_s SR.out hb hg); clear hn hb hg hat SR O1))
            go_roundg q
            case measure => exact Nat.lt_succ_self q
            case rel => exact ⟨_, _, _, _, _, _, s ++ [x1], ON, SN, HH⟩
          · rw [if_neg hn1] at H
            replace hn1 := Classical.not_not.mp hn1
            have y1a : (x1 == 0) = true := beq_iff_eq.mpr hn1
            have y1b : (x1 != 0) = false := bne_eq_false_iff_eq.mpr hn1
            clear hn1
            replace H := Option.bind_eq_some_iff.mp H
            obtain ⟨⟨b2, q2, e2⟩, ht, H⟩ := H
            simp only at H
            have HT := Aside0.mk ht
            have HH := Aside0.mk H
            clear ht H
            go_wp2_with fail
            clear hx1 p0 q0 qi0 y1a y1b
            refine (codec_cursor_take.calls3 _ g _ _ _ _ 1 b2 q2 e2 w0 _ O1.out.HB O1.out.GE O1.out.BK O1.out.C O1.out.L HT.out).mono ?_
            rintro e w2 ⟨v1, A2, c2, rfl, hR, hbk, hC, hL, hB, hK⟩
            obtain ⟨Ab2, cb2, rfl⟩ := Kd.R_slice hR
            have RB2 := Aside0.mk (Kd.R_reads' hR).2.2
            have LB2 := Aside0.mk (Kd.R_reads' hR).2.1
            have O2 : Aside0 (Ks w0 w2 g A2 c2 q2 e2 vP ps) := ⟨⟨hbk, O1.out.GE, hB, hC, hL, Kd.R_mono (Kd.R_keep (Kd.R_types O1.out.P O1.out.BK (by decide)) hK (fun _ hk => hk.2)) (fun _ _ => trivial)⟩⟩
            have n_ := Aside0.mk (Kd.R_mono (ok' := fun _ => True) (Kd.R_keep (Kd.R_types SR.out O1.out.BK (by decide)) hK (fun _ hk => hk.2)) (fun _ _ => trivial))
            clear hc0 hc1 hc2 hf0 hf1 hf2
            clear hR hbk hC hL hB hK O1 HT SR
            have SR := n_
            clear n_
            have H := HH.out
            clear HH
            have hc0 := (blk_cell O2.out.BK 0).trans rfl
            have hc1 := (blk_cell O2.out.BK 1).trans rfl
            have hc2 := (blk_cell O2.out.BK 2).trans rfl
            have hf0 := blk_frozen O2.out.BK 0
            have hf1 := blk_frozen O2.out.BK 1
            have hf2 := blk_frozen O2.out.BK 2
            by_cases he2 : e2 = 0
            · rw [if_pos he2] at H
              subst he2
              by_cases hl : 0 < b2.length
              rotate_left
              · rw [if_neg hl] at H; cases H
              rw [if_pos hl] at H
              have HL2 := Aside0.mk hl
              clear hl
              have p0 : 0 ≤ (0 : Int) := (by omega)
              have q0 : (0 : Int) < (b2.length : Int) := by have := HL2.out; omega
              have qi0 : (0 < b2.length) = True := eq_true (by have := HL2.out; omega)
              obtain ⟨ad2, ea2, hx2⟩ := Kd.at_int RB2.out 0 p0 q0
              cases ea2
              (try rw [show ((0 : Int)).toNat = 0 from rfl] at hx2)
              (try rw [Addr.add_zero'] at hx2)
              replace p0 := eq_true p0
              replace q0 := eq_true q0
              obtain ⟨x2, hbx2⟩ : ∃ x, x = rd b2 0 := ⟨_, rfl⟩
              rw [← hbx2] at H hx2
              clear hbx2 RB2 LB2 HL2
              by_cases hn2 : x2 = 1
              · rw [if_pos hn2] at H
                have y2a : (x2 == 1) = true := beq_iff_eq.mpr hn2
                have y2b : (x2 != 1) = false := bne_eq_false_iff_eq.mpr hn2
                clear hn2
                simp only [Option.some.injEq, Prod.mk.injEq] at H
                obtain ⟨rfl, rfl, rfl⟩ := H
                go_upto_region 10 with fail
                clear hx2 p0 q0 qi0 y2a y2b hc0 hc1 hc2 hf0 hf1 hf2
                have n_ := Aside0.mk (O2.out.below (below_drew (Below.refl _ _)))
                have b_ := Aside0.mk (Kd.R_below SR.out (below_drew (Below.refl _ _)))
                clear O2 SR
                have O2 := n_
                have SR := b_
                clear n_ b_
                refine start_ (n := 13) (S := fun w' => w'.cell? ⟨g, 2, none⟩ = some vP ∧ (convert 24 9 u2).run Tryd.prog w' = .ok (.string (strOfNums s)) w') (ds := [12]) #[false, false, false, false, false, false, false, false, false, false, false, false, false] (by kernel_rfl) rfl rfl ⟨((blk_cell O2.out.BK 2).trans rfl), (own_string (P := Tryd.prog) Tryd.underlying24 Tryd.underlying5 Tryd.underlying9 (Kd.own_of_R SR.out))⟩ (fun hHeld => ?_)
                refine with_tabW codec_ReadKey_words.tab10 codec_ReadKey_words.bits10 (fun HT_ HW_ => ?_)
                refine pure_ (i := 0) (N := some 51) (v := ?_) (a' := ?_) #[true, false, false, false, false, false, false, false, false, false, false, false, false] rfl rfl (any_of HT_.out (by kernel_rfl)) (fun _ _ _ h => h) (Or.inl ⟨by rfl, ?_⟩) ?_ ?_
                rotate_left
                · intro w'
                  go_simp
                  with_reducible rfl
                rotate_left
                · simp only [Act.put, List.setIfInBounds_toArray, List.set_cons_zero, List.set_cons_succ, i64_w, i32_w]
                  rfl
                refine pure_ (i := 1) (N := some 52) (v := ?_) (a' := ?_) #[true, true, false, false, false, false, false, false, false, false, false, false, false] rfl rfl (any_of HT_.out (by kernel_rfl)) (fun _ _ _ h => h) (Or.inl ⟨by rfl, ?_⟩) ?_ ?_
                rotate_left
                · intro w'
                  go_simp
                  with_reducible rfl
                rotate_left
                · simp only [Act.put, List.setIfInBounds_toArray, List.set_cons_zero, List.set_cons_succ, i64_w, i32_w]
                  rfl
                refine pure_ (i := 2) (N := some 53) (v := ?_) (a' := ?_) #[true, true, true, false, false, false, false, false, false, false, false, false, false] rfl rfl (any_of HT_.out (by kernel_rfl)) (fun _ _ _ h => h) (Or.inl ⟨by rfl, ?_⟩) ?_ ?_
                rotate_left
                · intro w'
                  go_simp
                  with_reducible rfl
                rotate_left
                · simp only [Act.put, List.setIfInBounds_toArray, List.set_cons_zero, List.set_cons_succ, i64_w, i32_w]
                  rfl
                refine pure_ (i := 3) (N := some 54) (v := ?_) (a' := ?_) #[true, true, true, true, false, false, false, false, false, false, false, false, false] rfl rfl (any_of HT_.out (by kernel_rfl)) (fun _ _ _ h => h) (Or.inl ⟨by rfl, ?_⟩) ?_ ?_
                rotate_left
                · intro w'
                  go_simp
                  with_reducible rfl
                rotate_left
                · simp only [Act.put, List.setIfInBounds_toArray, List.set_cons_zero, List.set_cons_succ, i64_w, i32_w]
                  rfl
                refine pure_ (i := 5) (N := some 56) (v := ?_) (a' := ?_) #[true, true, true, true, false, true, false, false, false, false, false, false, false] rfl rfl (any_of HT_.out (by kernel_rfl)) (fun _ _ _ h => h) (Or.inl ⟨by rfl, ?_⟩) ?_ ?_
                rotate_left
                · intro w'
                  go_simp
                  with_reducible rfl
                rotate_left
                · simp only [Act.put, List.setIfInBounds_toArray, List.set_cons_zero, List.set_cons_succ, i64_w, i32_w]
                  rfl
                refine take_ (i := 4) (N := some 55) (v := ?_) (a' := ?_) #[true, true, true, true, true, true, false, false, false, false, false, false, false] rfl rfl (take_ofW HT_.out HW_.out (by kernel_rfl)) (fun _ _ _ h => h) (Or.inl ⟨by rfl, ?_⟩) hHeld ?_ ?_
                rotate_left
                · rintro w' ⟨s0, s1⟩
                  go_simp
                  with_reducible rfl
                rotate_left
                · simp only [Act.put, List.setIfInBounds_toArray, List.set_cons_zero, List.set_cons_succ, i64_w, i32_w]
                  rfl
                refine take_ (i := 6) (N := some 57) (v := ?_) (a' := ?_) #[true, true, true, true, true, true, true, false, false, false, false, false, false] rfl rfl (take_ofW HT_.out HW_.out (by kernel_rfl)) (fun _ _ _ h => h) (Or.inl ⟨by rfl, ?_⟩) hHeld ?_ ?_
                rotate_left
                · rintro w' ⟨s0, s1⟩
                  go_simp
                  with_reducible rfl
                rotate_left
                · simp only [Act.put, List.setIfInBounds_toArray, List.set_cons_zero, List.set_cons_succ, i64_w, i32_w]
                  rfl
                refine pure_ (i := 7) (N := some 58) (v := ?_) (a' := ?_) #[true, true, true, true, true, true, true, true, false, false, false, false, false] rfl rfl (any_of HT_.out (by kernel_rfl)) (fun _ _ _ h => h) (Or.inl ⟨by rfl, ?_⟩) ?_ ?_
                rotate_left
                · intro w'
                  go_simp
                  with_reducible rfl
                rotate_left
                · simp only [Act.put, List.setIfInBounds_toArray, List.set_cons_zero, List.set_cons_succ, i64_w, i32_w]
                  rfl
                refine one_ (i := 8) (N := some 59) #[true, true, true, true, true, true, true, true, true, false, false, false, false] rfl rfl (one_of HT_.out (by kernel_rfl)) (by decide) (fun K hK => ?_)
                refine value_ (w1 := ?_) (v := ?_) (by rfl) rfl ?_ ?_
                rotate_left 2
                · go_simp
                  constructor
                  · rfl
                  · rfl
                refine hK.out _ _ ⟨((blk_cell (blk_alloc O2.out.BK _) 2).trans rfl), (own_string (P := Tryd.prog) Tryd.underlying24 Tryd.underlying5 Tryd.underlying9 (Kd.own_of_R (Kd.R_alloc SR.out _)))⟩ (fun hHeld => ?_)
                clear hK K
                refine norm_ (a' := ?_) ?_ ?_
                rotate_left
                · show Act.put _ (some 59) _ = _
                  simp only [Act.put, List.setIfInBounds_toArray, List.set_cons_zero, List.set_cons_succ, i64_w, i32_w]
                  rfl
                refine one_ (i := 9) (N := some 60) #[true, true, true, true, true, true, true, true, true, true, false, false, false] rfl rfl (one_of HT_.out (by kernel_rfl)) (by decide) (fun K hK => ?_)
                refine Kd.R_append_step k60 (w0 := w0) w0.heap.size (by rfl) (.tmp 55) (.tmp 59) 22 60 (.agg #[(.int .u8 0), (.int .u64 0), (.string ⟨#[]⟩)]) 32 rfl Tryd.underlying22 info60 rfl (by decide) (by omega) vP ps ⟨2, 0, strOfNums s⟩ [.int .u8 2, .int .u64 0, .string (strOfNums s)] (fun _ => True) (fun _ => False) rfl rfl (k60_mkM _ _ _ _) (fun _ hk => hk.elim) (fun _ _ => trivial) O2.out.P O2.out.HB O2.out.HB.size (by have := HS.out.2; omega) ?_
                intro v9 w8 hn hb hg hat
                obtain ⟨A9, c9, hv_⟩ := Kd.R_slice hn
                obtain ⟨n9, e9⟩ : ∃ n9, n9 = (ps ++ [(⟨2, 0, strOfNums s⟩ : S60)]).length := ⟨_, rfl⟩
                rw [← e9] at hv_
                subst hv_
                clear e9
                have BG := Aside0.mk (blk_grown O2.out.BK hg (Kd.R_ne O2.out.P O2.out.BK (by decide)))
                have P9 := Aside0.mk hn
                have B9 := Aside0.mk hb
                have S9 := Aside0.mk (Kd.R_over' SR.out (Kd.R_typed O2.out.P) (by decide) hg)
                clear hn hb hg hat
                refine hK.out _ _ ⟨((blk_cell BG.out 2).trans rfl), (own_string (P := Tryd.prog) Tryd.underlying24 Tryd.underlying5 Tryd.underlying9 (Kd.own_of_R S9.out))⟩ (fun hHeld => ?_)
                clear hK K
                refine norm_ (a' := ?_) ?_ ?_
                rotate_left
                · show Act.put _ (some 60) _ = _
                  simp only [Act.put, List.setIfInBounds_toArray, List.set_cons_zero, List.set_cons_succ, i64_w, i32_w]
                  rfl
                refine pure_ (i := 10) (N := some 61) (v := ?_) (a' := ?_) #[true, true, true, true, true, true, true, true, true, true, true, false, false] rfl rfl (any_of HT_.out (by kernel_rfl)) (fun _ _ _ h => h) (Or.inl ⟨by rfl, ?_⟩) ?_ ?_
                rotate_left
                · intro w'
                  go_simp
                  with_reducible rfl
                rotate_left
                · simp only [Act.put, List.setIfInBounds_toArray, List.set_cons_zero, List.set_cons_succ, i64_w, i32_w]
                  rfl
                refine pure_ (i := 11) (N := some 62) (v := ?_) (a' := ?_) #[true, true, true, true, true, true, true, true, true, true, true, true, false] rfl rfl (any_of HT_.out (by kernel_rfl)) (fun _ _ _ h => h) (Or.inl ⟨by rfl, ?_⟩) ?_ ?_
                rotate_left
                · intro w'
                  go_simp
                  with_reducible rfl
                rotate_left
                · simp only [Act.put, List.setIfInBounds_toArray, List.set_cons_zero, List.set_cons_succ, i64_w, i32_w]
                  rfl
                refine last_ (i := 12) (N := none) #[true, true, true, true, true, true, true, true, true, true, true, true, true] rfl rfl (one_of HT_.out (by kernel_rfl)) (by decide) (fun K hK => ?_)
                have hh2 := (blk_cell BG.out 2).trans rfl
                have hf2 := blk_frozen BG.out 2
                refine skip_ (w1 := ?_) (by rfl) rfl ?_ ?_
                rotate_left
                · go_simp
                  rfl
                clear hh2 hf2
                refine hK.out _ _ ?_
                clear hK K
                refine done_ (done_of HT_.out (by kernel_rfl)) ?_
                (try go_wp2)
                first | go_end0 | ((try simp only [Exit.inBlock, Exit.then]); refine bodyPost_ret (results_none rfl _ _ _) rfl ?_)
                exact ⟨_, _, _, rfl, ⟨blk_put BG.out 2 _ rfl, O2.out.GE, below_set B9.out O2.out.GE, O2.out.C, O2.out.L, Kd.R_mono (Kd.R_far (p := ⟨g, 2, none⟩) (Kd.R_types P9.out BG.out (by decide)) (fun _ hk => hk.2) _) (fun _ _ => trivial)⟩⟩
              · rw [if_neg hn2] at H
                have y2a : (x2 == 1) = false := beq_eq_false_iff_ne.mpr hn2
                have y2b : (x2 != 1) = true := bne_iff_ne.mpr hn2
                clear hn2
                by_cases hn3 : x2 = 255
                · rw [if_pos hn3] at H
                  have y3a : (x2 == 255) = true := beq_iff_eq.mpr hn3
                  have y3b : (x2 != 255) = false := bne_eq_false_iff_eq.mpr hn3
                  clear hn3
                  have HH := Aside0.mk H
                  clear H
                  go_wp2_with (first | ((with_reducible refine gate_builtin (b := .append) (xs := #[.tmp 68, .tmp 69]) rfl ?_); at_builtin; refine Kd.R_append (Kd.int .u8) (w0 := w0) w0.heap.size rfl (.tmp 68) (.tmp 69) 24 5 (.int .u8 0) 1 rfl Tryd.underlying24 info5 rfl (by decide) (by omega) u2 s 0 [.int .u8 0] (fun _ => True) (fun _ => False) rfl rfl rfl (fun _ hk => hk.elim) (fun _ _ => trivial) SR.out O2.out.HB O2.out.HB.size (by have := HS.out.1; omega) ?_; intro v9 w9 hn hb hg hat; have SN := Aside0.mk hn; have ON := Aside0.mk (O2.out.over_s SR.out hb hg); clear hn hb hg hat SR O2))
                  go_roundg q
                  case measure => exact Nat.lt_succ_self q
                  case rel => exact ⟨_, _, _, _, _, _, s ++ [0], ON, SN, HH⟩
                · rw [if_neg hn3] at H
                  have y3a : (x2 == 255) = false := beq_eq_false_iff_ne.mpr hn3
                  have y3b : (x2 != 255) = true := bne_iff_ne.mpr hn3
                  clear hn3
                  replace H := Option.bind_eq_some_iff.mp H
                  obtain ⟨⟨q3, e3⟩, ht, H⟩ := H
                  simp only at H
                  have HT := Aside0.mk ht
                  have HH := Aside0.mk H
                  clear ht H
                  go_wp2_with fail
                  clear hx2 p0 q0 qi0 y2a y2b y3a y3b
                  refine (codec_cursor_fail.calls3 _ g _ _ _ _ 6 q3 e3 w0 _ O2.out.HB O2.out.GE O2.out.BK O2.out.C O2.out.L HT.out).mono ?_
                  rintro e w3 ⟨A3, c3, rfl, hbk, hC, hL, hB, hK⟩
                  have O3 : Aside0 (Ks w0 w3 g A3 c3 q3 e3 vP ps) := ⟨⟨hbk, O2.out.GE, hB, hC, hL, Kd.R_mono (Kd.R_keep (Kd.R_types O2.out.P O2.out.BK (by decide)) hK (fun _ hk => hk.2)) (fun _ _ => trivial)⟩⟩
                  have n_ := Aside0.mk (Kd.R_mono (ok' := fun _ => True) (Kd.R_keep (Kd.R_types SR.out O2.out.BK (by decide)) hK (fun _ hk => hk.2)) (fun _ _ => trivial))
                  clear hc0 hc1 hc2 hf0 hf1 hf2
                  clear hbk hC hL hB hK O2 HT SR
                  have SR := n_
                  clear n_
                  go_wp2
                  go_roundg q
                  case measure => exact Nat.lt_succ_self q
                  case rel => exact ⟨_, _, _, _, _, _, s, O3, SR, HH⟩
            · rw [if_neg he2] at H
              have z2a : (e2 == 0) = false := beq_eq_false_iff_ne.mpr he2
              have z2b : (e2 != 0) = true := bne_iff_ne.mpr he2
              clear he2
              have HH := Aside0.mk H
              clear H
              go_wp2
              go_roundg q
              case measure => exact Nat.lt_succ_self q
              case rel => exact ⟨_, _, _, _, _, _, s, O2, SR, HH⟩
        · rw [if_neg he1] at H
          have z2 : (e1 == 0) = false := beq_eq_false_iff_ne.mpr he1
          have z3 : (e1 != 0) = true := bne_iff_ne.mpr he1
          clear he1
          simp only [Option.some.injEq, Prod.mk.injEq] at H
          obtain ⟨rfl, rfl, rfl⟩ := H
          go_wp2
          first | go_end0 | ((try simp only [Exit.inBlock, Exit.then]); refine bodyPost_ret (results_none rfl _ _ _) rfl ?_)
          exact ⟨_, _, _, rfl, O1.out⟩
      · rw [if_neg hw] at H
        have z1 : (why == 0) = false := beq_eq_false_iff_ne.mpr hw
        clear hw
        simp only [Option.some.injEq, Prod.mk.injEq] at H
        obtain ⟨rfl, rfl, rfl⟩ := H
        go_wp2
        first | go_end0 | ((try simp only [Exit.inBlock, Exit.then]); refine bodyPost_ret (results_none rfl _ _ _) rfl ?_)
        exact ⟨_, _, _, rfl, O.out⟩
def codec_ReadKey.g (k : Nat) : Nat → List Int → Int → List S60 → Option (List Int × Int × List S60)
  | 0, _, _, _ => none
  | m + 1, left, why, ps => if 0 < left.length ∧ why = 0 then ((codec_cursor_take.f left why 1).bind fun t => if 0 < t.1.length then (if rd t.1 0 = 1 then ((codec_ReadKey_digits.f k t.2.1 t.2.2 ps).bind fun u => codec_ReadKey.g k m u.1 u.2.1 u.2.2)
      else if rd t.1 0 = 2 then ((codec_ReadKey_words.f k t.2.1 t.2.2 [] ps).bind fun u => codec_ReadKey.g k m u.1 u.2.1 u.2.2) else (codec_cursor_fail.f t.2.1 t.2.2 6).bind fun v => codec_ReadKey.g k m v.1 v.2 ps) else none) else some (left, why, ps)
def codec_ReadKey.h (t : List Int × Int × List S60) : Option (List S60 × Int) := if t.2.1 = 0 then (if 16 < t.2.2.length then some ([], 3) else some (t.2.2, 0)) else some ([], t.2.1)
def codec_ReadKey.f (k : Nat) (l0 : List Int) : Option (List S60 × Int) := if l0.length > 256 then some ([], 4) else (codec_ReadKey.g k k l0 0 []).bind codec_ReadKey.h
set_option maxHeartbeats 4000000 in
set_option maxRecDepth 100000 in
theorem codec_ReadKey.calls (k : Nat) (A0 : Option Addr) (c0 : Nat) (l0 : List Int) (r1 : List S60) (r2 : Int) (w : World) (hr0 : Kd.C (Kd.int .u8) w A0 l0.length l0) (hc0 : l0.length ≤ c0) (h : codec_ReadKey.f k l0 = some (r1, r2)) :
    Calls Tryd.prog 37 #[.slice A0 l0.length c0] w fun e w' => ∃ v0_ : Value, e = .returned (.tuple #[v0_, .int .i64 r2]) ∧ Kd.R k60 60 w' w.heap.size (fun _ => True) v0_ r1 ∧ Below w.heap.size w w' := by
  have R0 := Aside0.mk hr0
  have C0 := Aside0.mk hc0
  unfold codec_ReadKey.f at h
  have H := h
  clear hr0 hc0 h
  by_cases hL : l0.length > 256
  · rw [if_pos hL] at H
    have m1 : decide ((l0.length : Int) > 256) = true := decide_eq_true (by omega)
    have m2 : decide (256 < l0.length) = true := decide_eq_true hL
    clear hL
    simp only [Option.some.injEq, Prod.mk.injEq] at H
    obtain ⟨rfl, rfl⟩ := H
    go_enter Tryd.func37, Tryd.ntmps37
    (try go_wp2_with fail)
    repeat (go_quiet (fail); try go_wp2_with fail)
    (try go_wp2)
    go_ret2
    exact ⟨_, rfl, Kd.R_nil _ _ _ _ _, Below.refl _ _⟩
  · rw [if_neg hL] at H
    have m1 : decide ((l0.length : Int) > 256) = false := decide_eq_false (by omega)
    have m2 : decide (256 < l0.length) = false := decide_eq_false hL
    clear hL
    have HH := Aside0.mk H
    clear H
    go_enter Tryd.func37, Tryd.ntmps37
    go_wp2_with (first | ((with_reducible refine gate_dst (N := 4) rfl ?_); refine box_event ?hg (N := 4) ?hd (cs := #[.slice none 0 0, .int .i64 0, .slice none 0 0]) (t := 73) ?hr ?_; (case hd => rfl); (case hg => rfl); (case hr => first | (go_simp; done) | (go_simp; rfl)); intro g hg w4 hbox hb; have HB := Aside0.mk (below_step (Below.refl _ _) hb); have BK := Aside0.mk hbox; have GE : Aside0 (w.heap.size ≤ g) := ⟨by rw [hg]; exact Nat.le_refl _⟩; clear hbox hb hg; have hc0 := (blk_cell BK.out 0).trans rfl; have hc1 := (blk_cell BK.out 1).trans rfl; have hc2 := (blk_cell BK.out 2).trans rfl; have hf0 := blk_frozen BK.out 0; have hf1 := blk_frozen BK.out 1; have hf2 := blk_frozen BK.out 2))
    clear hc0 hc1 hc2 hf0 hf1 hf2
    go_loopg [] k (fun kq wr => ∃ (A : Option Addr) (c : Nat) (left : List Int) (why : Int) (vP : Value) (ps : List S60), Aside0 (Ks w wr g A c left why vP ps) ∧ Aside0 ((codec_ReadKey.g k kq left why ps).bind codec_ReadKey.h = some (r1, r2)))
    case atStart => exact ⟨A0, c0, l0, 0, .slice none 0 0, [], ⟨⟨blk_put (cs := #[.slice A0 l0.length c0, .int .i64 0, .slice none 0 0]) (blk_put (cs := #[.slice A0 l0.length c0, .int .i64 0, .slice none 0 0]) (blk_put (cs := #[.slice none 0 0, .int .i64 0, .slice none 0 0]) BK.out 0 _ rfl) 1 _ rfl) 2 _ rfl, GE.out, below_set (below_set (below_set HB.out GE.out) GE.out) GE.out, R0.out, C0.out, Kd.R_nil _ _ _ _ _⟩⟩, HH⟩
    case round =>
      clear HH BK HB GE
      obtain ⟨A, c, left, why, vP, ps, O, HA⟩ := hrel
      cases gk with
      | zero => exact absurd HA.out (by simp [codec_ReadKey.g])
      | succ q =>
        have H := HA.out
        clear HA
        simp only [codec_ReadKey.g] at H
        have hc0 := (blk_cell O.out.BK 0).trans rfl
        have hc1 := (blk_cell O.out.BK 1).trans rfl
        have hc2 := (blk_cell O.out.BK 2).trans rfl
        have hf0 := blk_frozen O.out.BK 0
        have hf1 := blk_frozen O.out.BK 1
        have hf2 := blk_frozen O.out.BK 2
        by_cases hl : 0 < left.length
        · have l1 : decide ((left.length : Int) > 0) = true := decide_eq_true (by omega)
          have l2 : decide (0 < left.length) = true := decide_eq_true hl
          by_cases hw : why = 0
          · rw [if_pos ⟨hl, hw⟩] at H
            have w1a : (why == 0) = true := beq_iff_eq.mpr hw
            have w1b : (why != 0) = false := bne_eq_false_iff_eq.mpr hw
            subst hw
            clear hl
            rw [Option.bind_assoc] at H
            replace H := Option.bind_eq_some_iff.mp H
            obtain ⟨⟨b1, q1, e1⟩, ht, H⟩ := H
            simp only at H
            have HT := Aside0.mk ht
            have HH := Aside0.mk H
            clear ht H
            go_wp2_with fail
            refine (codec_cursor_take.calls3 _ g _ _ _ _ 1 b1 q1 e1 w _ O.out.HB O.out.GE O.out.BK O.out.C O.out.L HT.out).mono ?_
            rintro e w1 ⟨v1, A1, c1, rfl, hR, hbk, hC, hL, hB, hK⟩
            obtain ⟨Ab1, cb1, rfl⟩ := Kd.R_slice hR
            have RB1 := Aside0.mk (Kd.R_reads' hR).2.2
            have LB1 := Aside0.mk (Kd.R_reads' hR).2.1
            have O1 : Aside0 (Ks w w1 g A1 c1 q1 e1 vP ps) := ⟨⟨hbk, O.out.GE, hB, hC, hL, Kd.R_mono (Kd.R_keep (Kd.R_types O.out.P O.out.BK (by decide)) hK (fun _ hk => hk.2)) (fun _ _ => trivial)⟩⟩
            skip
            clear hc0 hc1 hc2 hf0 hf1 hf2
            clear hR hbk hC hL hB hK O HT l1 l2 w1a w1b
            skip
            have H := HH.out
            clear HH
            have hc0 := (blk_cell O1.out.BK 0).trans rfl
            have hc1 := (blk_cell O1.out.BK 1).trans rfl
            have hc2 := (blk_cell O1.out.BK 2).trans rfl
            have hf0 := blk_frozen O1.out.BK 0
            have hf1 := blk_frozen O1.out.BK 1
            have hf2 := blk_frozen O1.out.BK 2
            by_cases hb : 0 < b1.length
            rotate_left
            · rw [if_neg hb] at H; exact absurd H (by simp)
            rw [if_pos hb] at H
            have HL1 := Aside0.mk hb
            clear hb
            have p0 : 0 ≤ (0 : Int) := (by omega)
            have q0 : (0 : Int) < (b1.length : Int) := by have := HL1.out; omega
            have qi0 : (0 < b1.length) = True := eq_true (by have := HL1.out; omega)
            obtain ⟨ad1, ea1, hz1⟩ := Kd.at_int RB1.out 0 p0 q0
            cases ea1
            (try rw [show ((0 : Int)).toNat = 0 from rfl] at hz1)
            (try rw [Addr.add_zero'] at hz1)
            replace p0 := eq_true p0
            replace q0 := eq_true q0
            obtain ⟨x1, hbx1⟩ : ∃ x, x = rd b1 0 := ⟨_, rfl⟩
            rw [← hbx1] at H hz1
            clear hbx1 RB1 LB1 HL1
            by_cases hx1 : x1 = 1
            · rw [if_pos hx1] at H
              have y1a : (x1 == 1) = true := beq_iff_eq.mpr hx1
              have y1b : (x1 != 1) = false := bne_eq_false_iff_eq.mpr hx1
              clear hx1
              rw [Option.bind_assoc] at H
              replace H := Option.bind_eq_some_iff.mp H
              obtain ⟨⟨q2, e2, p2⟩, ht, H⟩ := H
              simp only at H
              have HT := Aside0.mk ht
              have HH := Aside0.mk H
              clear ht H
              go_wp2_with fail
              refine (codec_ReadKey_digits.calls k g _ _ q1 e1 _ ps q2 e2 p2 w _ O1.out HT.out).mono ?_
              rintro e w2 ⟨A2, c2, v2, rfl, hO⟩
              have O2 := Aside0.mk hO
              clear hc0 hc1 hc2 hf0 hf1 hf2
              clear hO O1 HT
              go_wp2
              go_roundg q
              case measure => exact Nat.lt_succ_self q
              case rel => exact ⟨_, _, _, _, _, _, O2, HH⟩
            · rw [if_neg hx1] at H
              have y1a : (x1 == 1) = false := beq_eq_false_iff_ne.mpr hx1
              have y1b : (x1 != 1) = true := bne_iff_ne.mpr hx1
              clear hx1
              by_cases hx2 : x1 = 2
              · rw [if_pos hx2] at H
                have y2a : (x1 == 2) = true := beq_iff_eq.mpr hx2
                have y2b : (x1 != 2) = false := bne_eq_false_iff_eq.mpr hx2
                clear hx2
                rw [Option.bind_assoc] at H
                replace H := Option.bind_eq_some_iff.mp H
                obtain ⟨⟨q2, e2, p2⟩, ht, H⟩ := H
                simp only at H
                have HT := Aside0.mk ht
                have HH := Aside0.mk H
                clear ht H
                go_wp2_with fail
                refine (codec_ReadKey_words.calls k g _ _ q1 e1 _ ps q2 e2 p2 w _ O1.out HT.out).mono ?_
                rintro e w2 ⟨A2, c2, v2, rfl, hO⟩
                have O2 := Aside0.mk hO
                clear hc0 hc1 hc2 hf0 hf1 hf2
                clear hO O1 HT
                go_wp2
                go_roundg q
                case measure => exact Nat.lt_succ_self q
                case rel => exact ⟨_, _, _, _, _, _, O2, HH⟩
              · rw [if_neg hx2] at H
                have y2a : (x1 == 2) = false := beq_eq_false_iff_ne.mpr hx2
                have y2b : (x1 != 2) = true := bne_iff_ne.mpr hx2
                clear hx2
                rw [Option.bind_assoc] at H
                replace H := Option.bind_eq_some_iff.mp H
                obtain ⟨⟨q3, e3⟩, ht, H⟩ := H
                simp only at H
                have HT := Aside0.mk ht
                have HH := Aside0.mk H
                clear ht H
                go_wp2_with fail
                refine (codec_cursor_fail.calls3 _ g _ _ q1 e1 6 q3 e3 w _ O1.out.HB O1.out.GE O1.out.BK O1.out.C O1.out.L HT.out).mono ?_
                rintro e w3 ⟨A3, c3, rfl, hbk, hC, hL, hB, hK⟩
                have O3 : Aside0 (Ks w w3 g A3 c3 q3 e3 vP ps) := ⟨⟨hbk, O1.out.GE, hB, hC, hL, Kd.R_mono (Kd.R_keep (Kd.R_types O1.out.P O1.out.BK (by decide)) hK (fun _ hk => hk.2)) (fun _ _ => trivial)⟩⟩
                clear hc0 hc1 hc2 hf0 hf1 hf2
                clear hbk hC hL hB hK O1 HT
                go_wp2
                go_roundg q
                case measure => exact Nat.lt_succ_self q
                case rel => exact ⟨_, _, _, _, _, _, O3, HH⟩
          · rw [if_neg (fun h => hw h.2)] at H
            rw [Option.bind_some] at H
            simp only [codec_ReadKey.h] at H
            rw [if_neg hw] at H
            have w1a : (why == 0) = false := beq_eq_false_iff_ne.mpr hw
            have w1b : (why != 0) = true := bne_iff_ne.mpr hw
            clear hw
            simp only [Option.some.injEq, Prod.mk.injEq] at H
            obtain ⟨rfl, rfl⟩ := H
            (try go_wp2_with fail)
            repeat (go_quiet (fail); try go_wp2_with fail)
            (try go_wp2)
            go_ret2
            exact ⟨_, rfl, Kd.R_nil _ _ _ _ _, by first | exact O.out.HB | exact pw_below_drewN O.out.HB _⟩
        · rw [if_neg (fun h => hl h.1)] at H
          have l1 : decide ((left.length : Int) > 0) = false := decide_eq_false (by omega)
          have l2 : decide (0 < left.length) = false := decide_eq_false hl
          clear hl
          rw [Option.bind_some] at H
          simp only [codec_ReadKey.h] at H
          by_cases hw : why = 0
          · rw [if_pos hw] at H
            have w1a : (why == 0) = true := beq_iff_eq.mpr hw
            have w1b : (why != 0) = false := bne_eq_false_iff_eq.mpr hw
            subst hw
            obtain ⟨AP, cP, rfl⟩ := Kd.R_slice O.out.P
            by_cases hm : 16 < ps.length
            · rw [if_pos hm] at H
              have m1 : decide ((ps.length : Int) > 16) = true := decide_eq_true (by omega)
              have m2 : decide (16 < ps.length) = true := decide_eq_true hm
              clear hm
              simp only [Option.some.injEq, Prod.mk.injEq] at H
              obtain ⟨rfl, rfl⟩ := H
              go_wp2_with fail
              refine (codec_cursor_fail.calls3 _ g _ _ left 0 3 left 3 w _ O.out.HB O.out.GE O.out.BK O.out.C O.out.L rfl).mono ?_
              rintro e w3 ⟨A3, c3, rfl, hbk, hC, hL, hB, hK⟩
              have O3 : Aside0 (Ks w w3 g A3 c3 left 3 (.slice AP ps.length cP) ps) := ⟨⟨hbk, O.out.GE, hB, hC, hL, Kd.R_mono (Kd.R_keep (Kd.R_types O.out.P O.out.BK (by decide)) hK (fun _ hk => hk.2)) (fun _ _ => trivial)⟩⟩
              clear hc0 hc1 hc2 hf0 hf1 hf2
              clear hbk hC hL hB hK O
              have hc0 := (blk_cell O3.out.BK 0).trans rfl
              have hc1 := (blk_cell O3.out.BK 1).trans rfl
              have hc2 := (blk_cell O3.out.BK 2).trans rfl
              have hf0 := blk_frozen O3.out.BK 0
              have hf1 := blk_frozen O3.out.BK 1
              have hf2 := blk_frozen O3.out.BK 2
              (try go_wp2_with fail)
              repeat (go_quiet (fail); try go_wp2_with fail)
              (try go_wp2)
              go_ret2
              exact ⟨_, rfl, Kd.R_nil _ _ _ _ _, by first | exact O3.out.HB | exact pw_below_drewN O3.out.HB _⟩
            · rw [if_neg hm] at H
              have m1 : decide ((ps.length : Int) > 16) = false := decide_eq_false (by omega)
              have m2 : decide (16 < ps.length) = false := decide_eq_false hm
              clear hm
              simp only [Option.some.injEq, Prod.mk.injEq] at H
              obtain ⟨rfl, rfl⟩ := H
              (try go_wp2_with fail)
              repeat (go_quiet (fail); try go_wp2_with fail)
              (try go_wp2)
              go_ret2
              exact ⟨_, rfl, O.out.P, O.out.HB⟩
          · rw [if_neg hw] at H
            have w1a : (why == 0) = false := beq_eq_false_iff_ne.mpr hw
            have w1b : (why != 0) = true := bne_iff_ne.mpr hw
            clear hw
            simp only [Option.some.injEq, Prod.mk.injEq] at H
            obtain ⟨rfl, rfl⟩ := H
            (try go_wp2_with fail)
            repeat (go_quiet (fail); try go_wp2_with fail)
            (try go_wp2)
            go_ret2
            exact ⟨_, rfl, Kd.R_nil _ _ _ _ _, by first | exact O.out.HB | exact pw_below_drewN O.out.HB _⟩
end Go.Proofs.YtfpdipnaefomiaaDoor.Print
