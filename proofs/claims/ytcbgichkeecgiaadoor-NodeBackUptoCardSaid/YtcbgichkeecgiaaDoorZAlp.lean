-- What the claim uses alone (wip/slim.py). Lean checks it.
import Derived.Test.YtcbgichkeecgiaaDoorZAb
import Derived.Test.YtcbgichkeecgiaaDoorZAln
namespace Go.Proofs.YtcbgichkeecgiaaDoor.Print
open Go.RowKit Go.Proofs.YtcbgichkeecgiaaDoorW.PrintWords Go.Proofs.YtcbgichkeecgiaaDoorW.PrintLast Go.Proofs.YtcbgichkeecgiaaDoorW.PrintMore
attribute [local go_sem] max2_mx min2_mn max_two min_two max_three min_three max_four min_four
set_option linter.unusedVariables false
set_option linter.unusedSimpArgs false
def crc_Open.f (l0 : List Int) : Option (List Int × Int) := if (l0.length : Int) < 4 then (some (([] : List Int), 6)) else (if 0 ≤ (wrap64 ((l0.length : Int) - 4)) then (if (wrap64 ((l0.length : Int) - 4)) ≤ (l0.length : Int) then ((crc_Seal.f (l0.take ((wrap64 ((l0.length : Int) - 4)) : Int).toNat)).bind fun t307 => (if (strOfNums t307).toList = (strOfNums l0).toList then (if ([] : List Int).length + (l0.take ((wrap64 ((l0.length : Int) - 4)) : Int).toNat).length < 140737488355328 then (some ((([] : List Int) ++ (l0.take ((wrap64 ((l0.length : Int) - 4)) : Int).toNat)), 0)) else (none)) else (some (([] : List Int), 6)))) else (none)) else (none))
set_option maxHeartbeats 8000000 in
set_option maxRecDepth 100000 in
theorem crc_Open.calls (A0 : Option Addr) (c0 : Nat) (l0 : List Int) (r1 : List Int) (r2 : Int) (w : World) (hr0 : Kd.C (Kd.int .u8) w A0 l0.length l0) (hc0 : l0.length ≤ c0) (h : crc_Open.f l0 = some (r1, r2)) :
  Calls Tryd.prog 22 #[.slice A0 l0.length c0] w fun e w' => ∃ v0_ : Value, e = .returned (.tuple #[v0_, .int .i64 r2]) ∧ Kd.R (Kd.int .u8) 5 w' w.heap.size (fun _ => True) v0_ r1 ∧ Below w.heap.size w w' := by
 have HR0 := Aside0.mk hr0
 have HC0 := Aside0.mk hc0
 clear hr0 hc0
 have HB := Aside0.mk (Below.refl w.heap.size w)
 have H : (if (l0.length : Int) < 4 then (some (([] : List Int), 6)) else (if 0 ≤ (wrap64 ((l0.length : Int) - 4)) then (if (wrap64 ((l0.length : Int) - 4)) ≤ (l0.length : Int) then ((crc_Seal.f (l0.take ((wrap64 ((l0.length : Int) - 4)) : Int).toNat)).bind fun t307 => (if (strOfNums t307).toList = (strOfNums l0).toList then (if ([] : List Int).length + (l0.take ((wrap64 ((l0.length : Int) - 4)) : Int).toNat).length < 140737488355328 then (some ((([] : List Int) ++ (l0.take ((wrap64 ((l0.length : Int) - 4)) : Int).toNat)), 0)) else (none)) else (some (([] : List Int), 6)))) else (none)) else (none))) = some (r1, r2) := h
 clear h
 by_cases c2 : (l0.length : Int) < 4
 ·rw [if_pos c2] at H
  have c2b0 : decide ((l0.length : Int) < 4) = true := decide_eq_true c2
  have c2b1 : decide (l0.length < 4) = true := decide_eq_true (by omega)
  clear c2
  simp only [Option.some.injEq, Prod.mk.injEq] at H
  obtain ⟨rfl, rfl⟩ := H
  go_enter Tryd.func22, Tryd.ntmps22
  go_wp2
  go_ret2
  exact ⟨_, by first | rfl | (simp [errW_none, errW_some] <;> rfl) | (simp [*, errW_none, errW_some] <;> rfl), by first | exact Kd.R_nil _ _ _ _ _ | exact Kd.N_nil _ _ _ _ _ | exact Kd.V_nil _ _ _ _ _ | exact Kd.Q_nil _ _ _ _ _ | exact Kd.S_nil _ _ _ _ _, by exact zh0_ HB.out⟩
 ·rw [if_neg c2] at H
  have c2b0 : decide ((l0.length : Int) < 4) = false := decide_eq_false c2
  have c2b1 : decide (l0.length < 4) = false := decide_eq_false (by omega)
  clear c2
  obtain ⟨ji3, hji3⟩ : ∃ j_ : Int, (wrap64 ((l0.length : Int) - 4)) = j_ := ⟨_, rfl⟩
  replace H : (if 0 ≤ (ji3) then (if (ji3) ≤ (l0.length : Int) then ((crc_Seal.f (l0.take ((ji3) : Int).toNat)).bind fun t307 => (if (strOfNums t307).toList = (strOfNums l0).toList then (if ([] : List Int).length + (l0.take ((ji3) : Int).toNat).length < 140737488355328 then (some ((([] : List Int) ++ (l0.take ((ji3) : Int).toNat)), 0)) else (none)) else (some (([] : List Int), 6)))) else (none)) else (none)) = some (r1, r2) := by first | (rw [hji3] at H; exact H) | (simp only [hji3] at H ⊢; exact H)
  have hji3w : (IntKind.i64.wrap ((l0.length : Int) - 4)) = ji3 := (i64_w _).trans hji3
  by_cases c4 : 0 ≤ (ji3)
  ·rw [if_pos c4] at H
   have c4b0 := eq_true c4
   have c4b1 : decide (0 ≤ (ji3)) = true := decide_eq_true c4
   clear c4
   by_cases c5 : (ji3) ≤ (l0.length : Int)
   ·rw [if_pos c5] at H
    have c5b0 := eq_true c5
    have c5b1 : decide ((ji3) ≤ (l0.length : Int)) = true := decide_eq_true c5
    clear c5
    obtain ⟨t307, A6, H⟩ := zm H
    (try dsimp only at H)
    by_cases c7 : (strOfNums t307).toList = (strOfNums l0).toList
    ·rw [if_pos c7] at H
     obtain ⟨c7b0, c7b1⟩ := zq1 c7
     clear c7
     have c8b0 := eq_true (of_decide_eq_true za_ : 0 ≤ (ji3))
     have c9b0 := eq_true (of_decide_eq_true za_ : (ji3) ≤ (l0.length : Int))
     by_cases c10 : ([] : List Int).length + (l0.take ((ji3) : Int).toNat).length < 140737488355328
     ·rw [if_pos c10] at H
      have LMc10 := Aside0.mk c10
      clear c10
      obtain ⟨y311, hy311⟩ : ∃ y_ : List Int, y_ = (([] : List Int) ++ (l0.take ((ji3) : Int).toNat)) := ⟨_, rfl⟩
      replace H : (some (y311, 0)) = some (r1, r2) := by first | (rw [hy311]; with_reducible exact H) | (have H2_ := (Option.bind_some _ _).symm.trans H; rw [hy311]; with_reducible exact H2_) | (have H2_ := (Option.bind_some _ _).symm.trans H; with_reducible exact H2_) | with_reducible exact H | (rw [hy311]; exact H) | exact H
      have Ny311 := Aside0.mk hy311
      clear hy311
      simp only [Option.some.injEq, Prod.mk.injEq] at H
      obtain ⟨rfl, rfl⟩ := H
      obtain ⟨i011, hi011, _, hsz11, _⟩ := info_parts info5
      obtain ⟨hcut11, hA11, hC11⟩ := print_take_of (P := Tryd.prog) (Value.int .u8) 0 26 5 .i64 Tryd.underlying26 hi011 hsz11 A0 c0 l0 (ji3) (of_decide_eq_true za_) (of_decide_eq_true za_) HC0.out
      have HR306 := Aside0.mk (Kd.C_of_reads (h1 := fun _ => rfl) (hA11 _ (Kd.reads_of_C HR0.out)))
      have HC306 := Aside0.mk hC11
      clear hA11 hC11 hi011 hsz11
      go_enter Tryd.func22, Tryd.ntmps22
      go_wp2_with (first | ((with_reducible refine gate_callee (f := 19) rfl ?_); refine goesL_ (some 13) rfl rfl Tryd.func19 (by kernel_rfl) rfl #[.slice A0 (l0.take ((ji3) : Int).toNat).length c0] rfl (by (try simp only [List.map_toArray, List.map_cons, List.map_nil]); first | done | (rw [show (l0.take ((ji3) : Int).toNat).length = (ji3).toNat from (by rw [List.length_take]; have h_ : ((ji3) : Int) ≤ (l0.length : Int) := of_decide_eq_true za_; omega)] <;> rfl) | (simp only [hji3]; rfl) | rfl | (simp only [List.length_drop, List.length_take]; rfl)) ?_; (with_reducible refine (crc_Seal.calls _ _ (l0.take ((ji3) : Int).toNat) t307 _ ?side1 ?side2 A6.out).mono ?_); (case side1 => repeat (first | exact HR306.out | (with_reducible refine Kd.C_alloc ?_ _) | (with_reducible refine Kd.C_drewN ?_ _) | (with_reducible refine Kd.C_drew ?_))); (case side2 => exact HC306.out); rintro e w12 ⟨v308, rfl, ho0, hb⟩; refine ⟨_, rfl, ?_⟩; have HO309 := Aside0.mk (Kd.R_lower ho0 (below_size (zh0_ HB.out))); replace HB := Aside0.mk (below_step (zh0_ HB.out) hb); (try clear hb); (try clear hk); (try clear ho0); have hcv13 := own_string (P := Tryd.prog) Tryd.underlying26 Tryd.underlying5 Tryd.underlying9 (Kd.own_of_R HO309.out); have hcw14 := fun n_ : Nat => own_string (P := Tryd.prog) Tryd.underlying26 Tryd.underlying5 Tryd.underlying9 (Kd.own_of_R (Kd.R_drewN HO309.out n_)); have hcv15 := Kd.C_string (P := Tryd.prog) (A := A0) (c := c0) Tryd.underlying26 Tryd.underlying5 Tryd.underlying9 (Kd.C_below HR0.out HB.out); have hcw16 := fun n_ : Nat => Kd.C_string (P := Tryd.prog) (A := A0) (c := c0) Tryd.underlying26 Tryd.underlying5 Tryd.underlying9 (Kd.C_drewN (Kd.C_below HR0.out HB.out) n_); obtain ⟨i017, hi017, _, hsz17, _⟩ := info_parts info5; obtain ⟨hcut17, hA17, hC17⟩ := print_take_of (P := Tryd.prog) (Value.int .u8) 0 26 5 .i64 Tryd.underlying26 hi017 hsz17 A0 c0 l0 (ji3) (of_decide_eq_true za_) (of_decide_eq_true za_) HC0.out; have HR310 := Aside0.mk (Kd.C_of_reads (h1 := fun _ => rfl) (hA17 _ (Kd.reads_of_C HR0.out))); have HC310 := Aside0.mk hC17; clear hA17 hC17 hi017 hsz17) | ((with_reducible refine gate_builtin (b := .append) (xs := #[.const (.slice none 0 0), .tmp 23]) rfl ?_); at_builtin; refine Kd.R_append_rows (Kd.int .u8) (w0 := w) w.heap.size rfl (.const (.slice none 0 0)) (.tmp 23) 26 5 (.int .u8 0) 1 rfl Tryd.underlying26 info5 rfl (by decide) (by omega) (.slice none 0 0) ([] : List Int) (l0.take ((ji3) : Int).toNat) _ _ _ (fun k_ => some k_ ≠ (v308 : Value).ownBlock) (fun _ => False) rfl rfl ?aO ?aR (fun _ _ h => h) (fun _ h => h.elim) ?aF ?aB ?aS ?aL ?_; (case aR => first | (refine Eq.mp (congrArg (fun n_ => ReadsRow _ _ _ _ n_ _) (show (l0.take ((ji3) : Int).toNat).length = (ji3).toNat from (by rw [List.length_take]; have h_ : ((ji3) : Int) ≤ (l0.length : Int) := of_decide_eq_true za_; omega))) ?_; repeat (first | exact (Kd.C_below HR310.out HB.out) | (with_reducible refine Kd.C_alloc ?_ _) | (with_reducible refine Kd.C_drewN ?_ _) | (with_reducible refine Kd.C_drew ?_)); done) | (repeat (first | exact (Kd.C_below HR310.out HB.out) | (with_reducible refine Kd.C_alloc ?_ _) | (with_reducible refine Kd.C_drewN ?_ _) | (with_reducible refine Kd.C_drew ?_)))); (case aB => exact (zh0_ HB.out)); (case aF => exact (fun k_ hk => Kd.fresh' (Kd.R_lt (zR_ HO309.out)) k_ hk)); (case aO => exact ((Kd.R_nil _ _ _ _ (fun k_ => some k_ ≠ (v308 : Value).ownBlock)))); (case aS => exact (below_size (zh0_ HB.out))); (case aL => have := LMc10.out; have hlx_ := (show (l0.take ((ji3) : Int).toNat).length = (ji3).toNat from (by rw [List.length_take]; have h_ : ((ji3) : Int) ≤ (l0.length : Int) := of_decide_eq_true za_; omega)); omega); intro v312 w18 ho hb hg hat; rw [← Ny311.out] at ho; replace HO309 := Aside0.mk (Kd.R_after (Kd.R_apart_nil (zR_ HO309.out)) hg hat); replace HB := Aside0.mk (hb); have HO313 := Aside0.mk (ho); clear ho hb hg hat))
      go_ret2
      exact ⟨_, by first | rfl | (simp [errW_none, errW_some] <;> rfl) | (simp only [← hji3]; first | rfl | (simp [errW_none, errW_some] <;> rfl)) | (simp [*, errW_none, errW_some] <;> rfl), by (with_reducible repeat (first | apply Kd.R_alloc | apply Kd.R_drewN | apply Kd.R_drew)); exact Kd.R_mono HO313.out (fun _ hk => trivial), by exact zh0_ HB.out⟩
     ·rw [if_neg c10] at H
      cases H
    ·rw [if_neg c7] at H
     obtain ⟨c7b0, c7b1⟩ := zq0 c7
     simp only [Option.some.injEq, Prod.mk.injEq] at H
     obtain ⟨rfl, rfl⟩ := H
     obtain ⟨i019, hi019, _, hsz19, _⟩ := info_parts info5
     obtain ⟨hcut19, hA19, hC19⟩ := print_take_of (P := Tryd.prog) (Value.int .u8) 0 26 5 .i64 Tryd.underlying26 hi019 hsz19 A0 c0 l0 (ji3) (of_decide_eq_true za_) (of_decide_eq_true za_) HC0.out
     have HR306 := Aside0.mk (Kd.C_of_reads (h1 := fun _ => rfl) (hA19 _ (Kd.reads_of_C HR0.out)))
     have HC306 := Aside0.mk hC19
     clear hA19 hC19 hi019 hsz19
     go_enter Tryd.func22, Tryd.ntmps22
     go_wp2_with (first | ((with_reducible refine gate_callee (f := 19) rfl ?_); refine goesL_ (some 13) rfl rfl Tryd.func19 (by kernel_rfl) rfl #[.slice A0 (l0.take ((ji3) : Int).toNat).length c0] rfl (by (try simp only [List.map_toArray, List.map_cons, List.map_nil]); first | done | (rw [show (l0.take ((ji3) : Int).toNat).length = (ji3).toNat from (by rw [List.length_take]; have h_ : ((ji3) : Int) ≤ (l0.length : Int) := of_decide_eq_true za_; omega)] <;> rfl) | (simp only [hji3]; rfl) | rfl | (simp only [List.length_drop, List.length_take]; rfl)) ?_; (with_reducible refine (crc_Seal.calls _ _ (l0.take ((ji3) : Int).toNat) t307 _ ?side1 ?side2 A6.out).mono ?_); (case side1 => repeat (first | exact HR306.out | (with_reducible refine Kd.C_alloc ?_ _) | (with_reducible refine Kd.C_drewN ?_ _) | (with_reducible refine Kd.C_drew ?_))); (case side2 => exact HC306.out); rintro e w20 ⟨v308, rfl, ho0, hb⟩; refine ⟨_, rfl, ?_⟩; have HO309 := Aside0.mk (Kd.R_lower ho0 (below_size (zh0_ HB.out))); replace HB := Aside0.mk (below_step (zh0_ HB.out) hb); (try clear hb); (try clear ho0); have hcv21 := own_string (P := Tryd.prog) Tryd.underlying26 Tryd.underlying5 Tryd.underlying9 (Kd.own_of_R HO309.out); have hcw22 := fun n_ : Nat => own_string (P := Tryd.prog) Tryd.underlying26 Tryd.underlying5 Tryd.underlying9 (Kd.own_of_R (Kd.R_drewN HO309.out n_)); have hcv23 := Kd.C_string (P := Tryd.prog) (A := A0) (c := c0) Tryd.underlying26 Tryd.underlying5 Tryd.underlying9 (Kd.C_below HR0.out HB.out); have hcw24 := fun n_ : Nat => Kd.C_string (P := Tryd.prog) (A := A0) (c := c0) Tryd.underlying26 Tryd.underlying5 Tryd.underlying9 (Kd.C_drewN (Kd.C_below HR0.out HB.out) n_)))
     go_ret2
     exact ⟨_, by first | rfl | (simp [errW_none, errW_some] <;> rfl) | (simp only [← hji3]; first | rfl | (simp [errW_none, errW_some] <;> rfl)) | (simp [*, errW_none, errW_some] <;> rfl), by first | exact Kd.R_nil _ _ _ _ _ | exact Kd.N_nil _ _ _ _ _ | exact Kd.V_nil _ _ _ _ _ | exact Kd.Q_nil _ _ _ _ _ | exact Kd.S_nil _ _ _ _ _, by exact zh0_ HB.out⟩
   ·rw [if_neg c5] at H
    cases H
  ·rw [if_neg c4] at H
   cases H
def codec_cursor_fail.f (l0_0 : List Int) (a0_1 : Int) (a1 : Int) : Option (List Int × Int) := if a0_1 = 0 then (some (l0_0, a1)) else (some (l0_0, a0_1))
set_option maxHeartbeats 8000000 in
set_option maxRecDepth 100000 in
theorem codec_cursor_fail.calls (g : Nat) (A0_0 : Option Addr) (c0_0 : Nat) (l0_0 : List Int) (a0_1 : Int) (a1 : Int) (r1 : List Int) (r2 : Int) (w0 w : World) (hB : Below w0.heap.size w0 w) (hge : w0.heap.size ≤ g) (hbx : w.heap[g]? = some (.cells #[.slice A0_0 l0_0.length c0_0, .int .i64 a0_1] 89 (0, 0))) (hr0_0 : Kd.C (Kd.int .u8) w0 A0_0 l0_0.length l0_0) (hc0_0 : l0_0.length ≤ c0_0) (h : codec_cursor_fail.f l0_0 a0_1 a1 = some (r1, r2)) :
  Calls Tryd.prog 85 #[.pointer (some ⟨g, 0, none⟩), .int .i64 a1] w fun e w' => ∃ (Ax_0 : Option Addr) (cx_0 : Nat), e = .returned (.tuple #[]) ∧ w'.heap[g]? = some (.cells #[.slice Ax_0 r1.length cx_0, .int .i64 r2] 89 (0, 0)) ∧ Kd.C (Kd.int .u8) w0 Ax_0 r1.length r1 ∧ r1.length ≤ cx_0 ∧ Below w0.heap.size w0 w' ∧ KeepBut w w' g none := by
 have HR0_0 := Aside0.mk hr0_0
 have HC0_0 := Aside0.mk hc0_0
 clear hr0_0 hc0_0
 have BK0 := Aside0.mk hbx
 clear hbx
 have GE0 := Aside0.mk hge
 have HK := Aside0.mk (KeepBut.refl w g none)
 have HL := Aside0.mk hB.size
 clear hge
 have HW0 := Aside0.mk hB.size
 have HB := Aside0.mk hB
 clear hB
 have H : (if a0_1 = 0 then (some (l0_0, a1)) else (some (l0_0, a0_1))) = some (r1, r2) := h
 clear h
 by_cases c3 : a0_1 = 0
 ·rw [if_pos c3] at H
  obtain ⟨c3b0, c3b1⟩ := zq1 c3
  clear c3
  simp only [Option.some.injEq, Prod.mk.injEq] at H
  obtain ⟨rfl, rfl⟩ := H
  have hcz4_0 : w.cell? ⟨g, 0, none⟩ = some (.slice A0_0 l0_0.length c0_0) := (blk_cell BK0.out 0).trans rfl
  have hcz4_1 : w.cell? ⟨g, 1, none⟩ = some (.int .i64 a0_1) := (blk_cell BK0.out 1).trans rfl
  have hfz4_0 := blk_frozen BK0.out 0
  have hfz4_1 := blk_frozen BK0.out 1
  go_enter Tryd.func85, Tryd.ntmps85
  go_wp2
  first | go_end0 | ((try simp only [Exit.inBlock, Exit.then]); refine bodyPost_ret (results_none rfl _ _ _) rfl ?_)
  exact ⟨_, _, by first | rfl | (simp [errW_none, errW_some] <;> rfl) | (simp [*, errW_none, errW_some] <;> rfl), by (with_reducible repeat (first | refine blk_drewN ?_ _ | refine blk_drew ?_ | refine blk_alloc ?_ _)); refine blk_put (cs := #[.slice A0_0 l0_0.length c0_0, .int .i64 a0_1]) ?_ 1 _ (by first | rfl | (simp only [List.length_drop, List.length_take]; rfl)); (with_reducible repeat (first | refine blk_drewN ?_ _ | refine blk_drew ?_ | refine blk_alloc ?_ _)); exact BK0.out, HR0_0.out, HC0_0.out, by exact zh1_ HB.out GE0.out, by repeat (first | (with_reducible first | exact HK.out | apply KeepBut.set_ | apply keep_drewN | apply keep_drew | apply keep_alloc | refine keep_far ?_ GW0.out _) | exact HK.out)⟩
 ·rw [if_neg c3] at H
  obtain ⟨c3b0, c3b1⟩ := zq0 c3
  simp only [Option.some.injEq, Prod.mk.injEq] at H
  obtain ⟨rfl, rfl⟩ := H
  have hcz5_0 : w.cell? ⟨g, 0, none⟩ = some (.slice A0_0 l0_0.length c0_0) := (blk_cell BK0.out 0).trans rfl
  have hcz5_1 : w.cell? ⟨g, 1, none⟩ = some (.int .i64 a0_1) := (blk_cell BK0.out 1).trans rfl
  have hfz5_0 := blk_frozen BK0.out 0
  have hfz5_1 := blk_frozen BK0.out 1
  go_enter Tryd.func85, Tryd.ntmps85
  go_wp2
  first | go_end0 | ((try simp only [Exit.inBlock, Exit.then]); refine bodyPost_ret (results_none rfl _ _ _) rfl ?_)
  exact ⟨_, _, by first | rfl | (simp [errW_none, errW_some] <;> rfl) | (simp [*, errW_none, errW_some] <;> rfl), by (with_reducible repeat (first | refine blk_drewN ?_ _ | refine blk_drew ?_ | refine blk_alloc ?_ _)); exact BK0.out, HR0_0.out, HC0_0.out, by exact zh1_ HB.out GE0.out, by repeat (first | (with_reducible first | exact HK.out | apply KeepBut.set_ | apply keep_drewN | apply keep_drew | apply keep_alloc | refine keep_far ?_ GW0.out _) | exact HK.out)⟩
end Go.Proofs.YtcbgichkeecgiaaDoor.Print
namespace Go.Proofs.YtcbgichkeecgiaaDoor.Print
open Go.RowKit Go.Proofs.YtcbgichkeecgiaaDoorW.PrintWords Go.Proofs.YtcbgichkeecgiaaDoorW.PrintLast Go.Proofs.YtcbgichkeecgiaaDoorW.PrintMore
attribute [local go_sem] max2_mx min2_mn max_two min_two max_three min_three max_four min_four
set_option linter.unusedVariables false
set_option linter.unusedSimpArgs false
mutual
def codec_cursor_num.l0 : Nat → Int → List Int → Int → Int → List Int → Int → Option (Int × List Int × Int)
 | 0, _, _, _, _, _, _ => none
 | k + 1, x3, x10, x11, x12, x1000, x1001 => if x12 < x11 then (if 0 ≤ x12 then (if x12 < (x10.length : Int) then (if x1001 = 0 then (if x12 > 9 then (codec_cursor_num.j1 k x3 x12 (rd x10 x12) (IntKind.u64.wrap (Go.bits .and .u8 (rd x10 x12) 127)) x10 x11 x12 true x1000 x1001) else (if x12 = 9 then (if (IntKind.u64.wrap (Go.bits .and .u8 (rd x10 x12) 127)) > 1 then (codec_cursor_num.j1 k x3 x12 (rd x10 x12) (IntKind.u64.wrap (Go.bits .and .u8 (rd x10 x12) 127)) x10 x11 x12 true x1000 x1001) else (if x12 > 0 then (codec_cursor_num.j1 k x3 x12 (rd x10 x12) (IntKind.u64.wrap (Go.bits .and .u8 (rd x10 x12) 127)) x10 x11 x12 ((rd x10 x12) == 0) x1000 x1001) else (codec_cursor_num.j1 k x3 x12 (rd x10 x12) (IntKind.u64.wrap (Go.bits .and .u8 (rd x10 x12) 127)) x10 x11 x12 false x1000 x1001))) else (if x12 > 0 then (codec_cursor_num.j1 k x3 x12 (rd x10 x12) (IntKind.u64.wrap (Go.bits .and .u8 (rd x10 x12) 127)) x10 x11 x12 ((rd x10 x12) == 0) x1000 x1001) else (codec_cursor_num.j1 k x3 x12 (rd x10 x12) (IntKind.u64.wrap (Go.bits .and .u8 (rd x10 x12) 127)) x10 x11 x12 false x1000 x1001)))) else (codec_cursor_num.j1 k x3 x12 (rd x10 x12) (IntKind.u64.wrap (Go.bits .and .u8 (rd x10 x12) 127)) x10 x11 x12 true x1000 x1001)) else (none)) else (none)) else ((codec_cursor_fail.f x1000 x1001 6).bind fun bt314 => (some (0, bt314.1, bt314.2)))
def codec_cursor_num.j1 : Nat → Int → Int → Int → Int → List Int → Int → Int → Bool → List Int → Int → Option (Int × List Int × Int)
 | 0, _, _, _, _, _, _, _, _, _, _ => none
 | k + 1, x3, x4, x5, x6, x10, x11, x12, x44, x1000, x1001 => if x44 = true then ((codec_cursor_fail.f x1000 x1001 6).bind fun bt317 => (some (0, bt317.1, bt317.2))) else (if 0 ≤ (wrap64 (7 * x4)) then (if x5 < 128 then (if 0 ≤ (wrap64 (x4 + 1)) then (if (wrap64 (x4 + 1)) ≤ (x1000.length : Int) then (some (Go.bits .or .u64 x3 (shl .u64 x6 (wrap64 (7 * x4))), x1000.drop ((wrap64 (x4 + 1)) : Int).toNat, x1001)) else (none)) else (none)) else (codec_cursor_num.l0 k (Go.bits .or .u64 x3 (shl .u64 x6 (wrap64 (7 * x4)))) x10 x11 (wrap64 (x12 + 1)) x1000 x1001)) else (none))
end
def codec_cursor_num.f (k : Nat) (l0_0 : List Int) (a0_1 : Int) : Option (Int × List Int × Int) := codec_cursor_num.l0 k 0 l0_0 (l0_0.length : Int) 0 l0_0 a0_1
set_option maxHeartbeats 8000000 in
set_option maxRecDepth 100000 in
theorem codec_cursor_num.calls (k : Nat) (g : Nat) (A0_0 : Option Addr) (c0_0 : Nat) (l0_0 : List Int) (a0_1 : Int) (r1 : Int) (r2 : List Int) (r3 : Int) (w0 w : World) (hB : Below w0.heap.size w0 w) (hge : w0.heap.size ≤ g) (hbx : w.heap[g]? = some (.cells #[.slice A0_0 l0_0.length c0_0, .int .i64 a0_1] 89 (0, 0))) (hr0_0 : Kd.C (Kd.int .u8) w0 A0_0 l0_0.length l0_0) (hc0_0 : l0_0.length ≤ c0_0) (h : codec_cursor_num.f k l0_0 a0_1 = some (r1, r2, r3)) :
  Calls Tryd.prog 68 #[.pointer (some ⟨g, 0, none⟩)] w fun e w' => ∃ (Ax_0 : Option Addr) (cx_0 : Nat), e = .returned (.int .u64 r1) ∧ w'.heap[g]? = some (.cells #[.slice Ax_0 r2.length cx_0, .int .i64 r3] 89 (0, 0)) ∧ Kd.C (Kd.int .u8) w0 Ax_0 r2.length r2 ∧ r2.length ≤ cx_0 ∧ Below w0.heap.size w0 w' ∧ KeepBut w w' g none := by
 have HR0_0 := Aside0.mk hr0_0
 have HC0_0 := Aside0.mk hc0_0
 clear hr0_0 hc0_0
 have BK0 := Aside0.mk hbx
 clear hbx
 have GE0 := Aside0.mk hge
 have HK := Aside0.mk (KeepBut.refl w g none)
 have HL := Aside0.mk hB.size
 clear hge
 have HW0 := Aside0.mk hB.size
 have HB := Aside0.mk hB
 clear hB
 have H : (codec_cursor_num.l0 k 0 l0_0 (l0_0.length : Int) 0 l0_0 a0_1) = some (r1, r2, r3) := h
 clear h
 have H' := Aside0.mk H
 clear H
 have hcz2_0 : w.cell? ⟨g, 0, none⟩ = some (.slice A0_0 l0_0.length c0_0) := (blk_cell BK0.out 0).trans rfl
 have hcz2_1 : w.cell? ⟨g, 1, none⟩ = some (.int .i64 a0_1) := (blk_cell BK0.out 1).trans rfl
 have hfz2_0 := blk_frozen BK0.out 0
 have hfz2_1 := blk_frozen BK0.out 1
 go_enter Tryd.func68, Tryd.ntmps68
 go_wp2
 go_loopg [3, 12] k (fun kq v3 v12 w' => ∃ (x3_1 : Int) (x12_1 : Int) (x1000_1 : List Int) (Au1000 : Option Addr) (cu1000 : Nat), v3 = .int .u64 x3_1 ∧ v12 = .int .i64 x12_1 ∧ Aside0 (codec_cursor_num.l0 kq x3_1 l0_0 (l0_0.length : Int) x12_1 x1000_1 a0_1 = some (r1, r2, r3)) ∧ Aside0 (kq ≤ k) ∧ Aside0 (Kd.C (Kd.int .u8) w0 Au1000 x1000_1.length x1000_1) ∧ Aside0 (x1000_1.length ≤ cu1000) ∧ Aside0 (w'.heap[g]? = some (.cells #[.slice Au1000 x1000_1.length cu1000, .int .i64 a0_1] 89 (0, 0))) ∧ Aside0 (KeepBut w w' g none) ∧ Aside0 (Below w0.heap.size w0 w'))
 case atStart => exact ⟨(0), (0), (l0_0), (A0_0), (c0_0), (by first | rfl | (simp; done) | (simp [*]; done) | (simp only [i64_w]; done)), (by first | rfl | (simp; done) | (simp [*]; done) | (simp only [i64_w]; done)), H', ⟨Nat.le_refl _⟩, ⟨HR0_0.out⟩, ⟨HC0_0.out⟩, ⟨by (with_reducible repeat (first | refine blk_drewN ?_ _ | refine blk_drew ?_ | refine blk_alloc ?_ _)); exact BK0.out⟩, ⟨by repeat (first | (with_reducible first | exact HK.out | apply KeepBut.set_ | apply keep_drewN | apply keep_drew | apply keep_alloc | refine keep_far ?_ GW0.out _) | exact HK.out)⟩, ⟨by exact zh1_ HB.out GE0.out⟩⟩
 case round =>
  clear H'
  try clear p2
  try clear hcz2_0
  try clear hcz2_1
  try clear hfz2_0
  try clear hfz2_1
  (try clear BK0)
  obtain ⟨x3_1, x12_1, x1000_1, Au1000, cu1000, rfl, rfl, HA, HK1, HRu1000, HCu1000, BK0, HK, HB⟩ := hrel
  cases gk with
  | zero => exact absurd HA.out (by simp [codec_cursor_num.l0])
  | succ k1 =>
   have H := HA.out
   clear HA
   simp only [codec_cursor_num.l0] at H
   by_cases c3 : x12_1 < (l0_0.length : Int)
   ·rw [if_pos c3] at H
    have c3b0 : decide (x12_1 < (l0_0.length : Int)) = true := decide_eq_true c3
    clear c3
    by_cases c4 : 0 ≤ x12_1
    ·rw [if_pos c4] at H
     have c4b0 : decide (0 ≤ x12_1) = true := decide_eq_true c4
     clear c4
     by_cases c5 : x12_1 < (l0_0.length : Int)
     ·rw [if_pos c5] at H
      have c5b0 : decide (x12_1 < (l0_0.length : Int)) = true := decide_eq_true c5
      clear c5
      have HC6 := Aside0.mk H
      clear H
      have p316 : 0 ≤ (x12_1 : Int) := of_decide_eq_true za_
      have q316 : x12_1 < (l0_0.length : Int) := of_decide_eq_true za_
      obtain ⟨ad316, e316, hx316_0⟩ := Kd.at_int HR0_0.out x12_1 p316 q316
      cases e316
      replace hx316_0 := pw_cell_below HB.out hx316_0
      replace p316 := eq_true p316
      replace q316 := eq_true q316
      go_upto_region 6 with (fail)
      go_cut [44] (fun v44 wc => ∃ (kq : Nat) (x44_5 : Bool), v44 = .bool x44_5 ∧ Aside0 (codec_cursor_num.j1 kq x3_1 x12_1 (rd l0_0 x12_1) (IntKind.u64.wrap (Go.bits .and .u8 (rd l0_0 x12_1) 127)) l0_0 (l0_0.length : Int) x12_1 x44_5 x1000_1 a0_1 = some (r1, r2, r3)) ∧ Aside0 (kq ≤ k1) ∧ Aside0 (wc.heap[g]? = some (.cells #[(.slice Au1000 x1000_1.length cu1000), .int .i64 a0_1] 89 (0, 0))) ∧ Aside0 (KeepBut w wc g none) ∧ Aside0 (Below w0.heap.size w0 wc))
      case first =>
       have H := HC6.out
       clear HC6
       by_cases c7 : a0_1 = 0
       ·rw [if_pos c7] at H
        obtain ⟨c7b0, c7b1⟩ := zq1 c7
        clear c7
        (first | rw [c7b0] | (simp only [i64_w, i32_w]; rw [c7b0]) | skip)
        by_cases c8 : x12_1 > 9
        ·rw [if_pos c8] at H
         have c8b0 : decide (9 < x12_1) = true := decide_eq_true c8
         clear c8
         have H' := Aside0.mk H
         clear H
         have hcz9_0 : wr.cell? ⟨g, 0, none⟩ = some (.slice Au1000 x1000_1.length cu1000) := (blk_cell BK0.out 0).trans rfl
         have hcz9_1 : wr.cell? ⟨g, 1, none⟩ = some (.int .i64 a0_1) := (blk_cell BK0.out 1).trans rfl
         have hfz9_0 := blk_frozen BK0.out 0
         have hfz9_1 := blk_frozen BK0.out 1
         go_wp2
         go_meet
         case rel => exact ⟨_, (true), (by first | rfl | (simp; done) | (simp [*]; done) | (simp only [i64_w]; done)), H', ⟨by have := HK1.out; first | omega | exact Nat.le_refl _⟩, ⟨by (with_reducible repeat (first | refine blk_drewN ?_ _ | refine blk_drew ?_ | refine blk_alloc ?_ _)); exact BK0.out⟩, ⟨by repeat (first | (with_reducible first | exact HK.out | apply KeepBut.set_ | apply keep_drewN | apply keep_drew | apply keep_alloc | refine keep_far ?_ GW0.out _) | exact HK.out)⟩, ⟨by exact zh1_ HB.out GE0.out⟩⟩
        ·rw [if_neg c8] at H
         have c8b0 : decide (9 < x12_1) = false := decide_eq_false c8
         clear c8
         by_cases c10 : x12_1 = 9
         ·rw [if_pos c10] at H
          obtain ⟨c10b0, c10b1⟩ := zq1 c10
          clear c10
          by_cases c11 : (IntKind.u64.wrap (Go.bits .and .u8 (rd l0_0 x12_1) 127)) > 1
          ·rw [if_pos c11] at H
           have c11b0 : decide (1 < (IntKind.u64.wrap (Go.bits .and .u8 (rd l0_0 x12_1) 127))) = true := decide_eq_true c11
           clear c11
           have H' := Aside0.mk H
           clear H
           have hcz12_0 : wr.cell? ⟨g, 0, none⟩ = some (.slice Au1000 x1000_1.length cu1000) := (blk_cell BK0.out 0).trans rfl
           have hcz12_1 : wr.cell? ⟨g, 1, none⟩ = some (.int .i64 a0_1) := (blk_cell BK0.out 1).trans rfl
           have hfz12_0 := blk_frozen BK0.out 0
           have hfz12_1 := blk_frozen BK0.out 1
           go_wp2
           go_meet
           case rel => exact ⟨_, (true), (by first | rfl | (simp; done) | (simp [*]; done) | (simp only [i64_w]; done)), H', ⟨by have := HK1.out; first | omega | exact Nat.le_refl _⟩, ⟨by (with_reducible repeat (first | refine blk_drewN ?_ _ | refine blk_drew ?_ | refine blk_alloc ?_ _)); exact BK0.out⟩, ⟨by repeat (first | (with_reducible first | exact HK.out | apply KeepBut.set_ | apply keep_drewN | apply keep_drew | apply keep_alloc | refine keep_far ?_ GW0.out _) | exact HK.out)⟩, ⟨by exact zh1_ HB.out GE0.out⟩⟩
          ·rw [if_neg c11] at H
           have c11b0 : decide (1 < (IntKind.u64.wrap (Go.bits .and .u8 (rd l0_0 x12_1) 127))) = false := decide_eq_false c11
           clear c11
           by_cases c13 : x12_1 > 0
           ·rw [if_pos c13] at H
            have c13b0 : decide (0 < x12_1) = true := decide_eq_true c13
            clear c13
            have H' := Aside0.mk H
            clear H
            have hcz14_0 : wr.cell? ⟨g, 0, none⟩ = some (.slice Au1000 x1000_1.length cu1000) := (blk_cell BK0.out 0).trans rfl
            have hcz14_1 : wr.cell? ⟨g, 1, none⟩ = some (.int .i64 a0_1) := (blk_cell BK0.out 1).trans rfl
            have hfz14_0 := blk_frozen BK0.out 0
            have hfz14_1 := blk_frozen BK0.out 1
            go_wp2
            go_meet
            case rel => exact ⟨_, (((rd l0_0 x12_1) == 0)), (by first | rfl | (simp; done) | (simp [*]; done) | (simp only [i64_w]; done)), H', ⟨by have := HK1.out; first | omega | exact Nat.le_refl _⟩, ⟨by (with_reducible repeat (first | refine blk_drewN ?_ _ | refine blk_drew ?_ | refine blk_alloc ?_ _)); exact BK0.out⟩, ⟨by repeat (first | (with_reducible first | exact HK.out | apply KeepBut.set_ | apply keep_drewN | apply keep_drew | apply keep_alloc | refine keep_far ?_ GW0.out _) | exact HK.out)⟩, ⟨by exact zh1_ HB.out GE0.out⟩⟩
           ·rw [if_neg c13] at H
            have c13b0 : decide (0 < x12_1) = false := decide_eq_false c13
            clear c13
            have H' := Aside0.mk H
            clear H
            have hcz15_0 : wr.cell? ⟨g, 0, none⟩ = some (.slice Au1000 x1000_1.length cu1000) := (blk_cell BK0.out 0).trans rfl
            have hcz15_1 : wr.cell? ⟨g, 1, none⟩ = some (.int .i64 a0_1) := (blk_cell BK0.out 1).trans rfl
            have hfz15_0 := blk_frozen BK0.out 0
            have hfz15_1 := blk_frozen BK0.out 1
            go_wp2
            go_meet
            case rel => exact ⟨_, (false), (by first | rfl | (simp; done) | (simp [*]; done) | (simp only [i64_w]; done)), H', ⟨by have := HK1.out; first | omega | exact Nat.le_refl _⟩, ⟨by (with_reducible repeat (first | refine blk_drewN ?_ _ | refine blk_drew ?_ | refine blk_alloc ?_ _)); exact BK0.out⟩, ⟨by repeat (first | (with_reducible first | exact HK.out | apply KeepBut.set_ | apply keep_drewN | apply keep_drew | apply keep_alloc | refine keep_far ?_ GW0.out _) | exact HK.out)⟩, ⟨by exact zh1_ HB.out GE0.out⟩⟩
         ·rw [if_neg c10] at H
          obtain ⟨c10b0, c10b1⟩ := zq0 c10
          by_cases c16 : x12_1 > 0
          ·rw [if_pos c16] at H
           have c16b0 : decide (0 < x12_1) = true := decide_eq_true c16
           clear c16
           have H' := Aside0.mk H
           clear H
           have hcz17_0 : wr.cell? ⟨g, 0, none⟩ = some (.slice Au1000 x1000_1.length cu1000) := (blk_cell BK0.out 0).trans rfl
           have hcz17_1 : wr.cell? ⟨g, 1, none⟩ = some (.int .i64 a0_1) := (blk_cell BK0.out 1).trans rfl
           have hfz17_0 := blk_frozen BK0.out 0
           have hfz17_1 := blk_frozen BK0.out 1
           go_wp2
           go_meet
           case rel => exact ⟨_, (((rd l0_0 x12_1) == 0)), (by first | rfl | (simp; done) | (simp [*]; done) | (simp only [i64_w]; done)), H', ⟨by have := HK1.out; first | omega | exact Nat.le_refl _⟩, ⟨by (with_reducible repeat (first | refine blk_drewN ?_ _ | refine blk_drew ?_ | refine blk_alloc ?_ _)); exact BK0.out⟩, ⟨by repeat (first | (with_reducible first | exact HK.out | apply KeepBut.set_ | apply keep_drewN | apply keep_drew | apply keep_alloc | refine keep_far ?_ GW0.out _) | exact HK.out)⟩, ⟨by exact zh1_ HB.out GE0.out⟩⟩
          ·rw [if_neg c16] at H
           have c16b0 : decide (0 < x12_1) = false := decide_eq_false c16
           clear c16
           have H' := Aside0.mk H
           clear H
           have hcz18_0 : wr.cell? ⟨g, 0, none⟩ = some (.slice Au1000 x1000_1.length cu1000) := (blk_cell BK0.out 0).trans rfl
           have hcz18_1 : wr.cell? ⟨g, 1, none⟩ = some (.int .i64 a0_1) := (blk_cell BK0.out 1).trans rfl
           have hfz18_0 := blk_frozen BK0.out 0
           have hfz18_1 := blk_frozen BK0.out 1
           go_wp2
           go_meet
           case rel => exact ⟨_, (false), (by first | rfl | (simp; done) | (simp [*]; done) | (simp only [i64_w]; done)), H', ⟨by have := HK1.out; first | omega | exact Nat.le_refl _⟩, ⟨by (with_reducible repeat (first | refine blk_drewN ?_ _ | refine blk_drew ?_ | refine blk_alloc ?_ _)); exact BK0.out⟩, ⟨by repeat (first | (with_reducible first | exact HK.out | apply KeepBut.set_ | apply keep_drewN | apply keep_drew | apply keep_alloc | refine keep_far ?_ GW0.out _) | exact HK.out)⟩, ⟨by exact zh1_ HB.out GE0.out⟩⟩
       ·rw [if_neg c7] at H
        obtain ⟨c7b0, c7b1⟩ := zq0 c7
        (first | rw [c7b0] | (simp only [i64_w, i32_w]; rw [c7b0]) | skip)
        have H' := Aside0.mk H
        clear H
        have hcz19_0 : wr.cell? ⟨g, 0, none⟩ = some (.slice Au1000 x1000_1.length cu1000) := (blk_cell BK0.out 0).trans rfl
        have hcz19_1 : wr.cell? ⟨g, 1, none⟩ = some (.int .i64 a0_1) := (blk_cell BK0.out 1).trans rfl
        have hfz19_0 := blk_frozen BK0.out 0
        have hfz19_1 := blk_frozen BK0.out 1
        go_wp2
        go_meet
        case rel => exact ⟨_, (true), (by first | rfl | (simp; done) | (simp [*]; done) | (simp only [i64_w]; done)), H', ⟨by have := HK1.out; first | omega | exact Nat.le_refl _⟩, ⟨by (with_reducible repeat (first | refine blk_drewN ?_ _ | refine blk_drew ?_ | refine blk_alloc ?_ _)); exact BK0.out⟩, ⟨by repeat (first | (with_reducible first | exact HK.out | apply KeepBut.set_ | apply keep_drewN | apply keep_drew | apply keep_alloc | refine keep_far ?_ GW0.out _) | exact HK.out)⟩, ⟨by exact zh1_ HB.out GE0.out⟩⟩
      case rest =>
       clear HC6
       try clear c1
       try clear p2
       try clear c3
       try clear c3b0
       try clear p3
       try clear q3
       try clear hx3
       try clear c4
       try clear c4b0
       try clear c5
       try clear c5b0
       try clear c6
       try clear c7
       try clear c7b0
       try clear c7b1
       try clear c8
       try clear c8b0
       try clear c10
       try clear c10b0
       try clear c10b1
       try clear c11
       try clear c11b0
       try clear c13
       try clear c13b0
       try clear c16
       try clear c16b0
       try clear hcz12_0
       try clear hcz12_1
       try clear hcz14_0
       try clear hcz14_1
       try clear hcz15_0
       try clear hcz15_1
       try clear hcz17_0
       try clear hcz17_1
       try clear hcz18_0
       try clear hcz18_1
       try clear hcz19_0
       try clear hcz19_1
       try clear hcz2_0
       try clear hcz2_1
       try clear hcz9_0
       try clear hcz9_1
       try clear hfz12_0
       try clear hfz12_1
       try clear hfz14_0
       try clear hfz14_1
       try clear hfz15_0
       try clear hfz15_1
       try clear hfz17_0
       try clear hfz17_1
       try clear hfz18_0
       try clear hfz18_1
       try clear hfz19_0
       try clear hfz19_1
       try clear hfz2_0
       try clear hfz2_1
       try clear hfz9_0
       try clear hfz9_1
       try clear hx316_0
       try clear p2
       try clear p316
       try clear q316
       (try clear BK0)
       obtain ⟨kq, x44_5, rfl, HA, HJ5, BK0, HK, HB⟩ := hcut
       cases kq with
       | zero => exact absurd HA.out (by simp [codec_cursor_num.j1])
       | succ kj5 =>
        have H := HA.out
        clear HA
        simp only [codec_cursor_num.j1] at H
        by_cases c20 : x44_5 = true
        ·subst c20
         replace H := (if_pos (rfl : true = true)).symm.trans H
         obtain ⟨⟨t317, t318⟩, A21, H⟩ := zm H
         (try dsimp only at H)
         simp only [Option.some.injEq, Prod.mk.injEq] at H
         obtain ⟨rfl, rfl, rfl⟩ := H
         go_wp2_with (first | ((with_reducible refine gate_callee (f := 85) rfl ?_); refine goesL_ (some 66) rfl rfl Tryd.func85 (by kernel_rfl) rfl #[.pointer (some ⟨g, 0, none⟩), .int .i64 6] rfl zl_ ?_; (with_reducible refine (codec_cursor_fail.calls g Au1000 cu1000 x1000_1 a0_1 6 t317 t318 w0 _ ?side1 ?side2 ?side3 ?side4 ?side5 A21.out).mono ?_); (case side1 => exact by exact zh1_ HB.out GE0.out); (case side2 => exact GE0.out); (case side3 => exact by (with_reducible repeat (first | refine blk_drewN ?_ _ | refine blk_drew ?_ | refine blk_alloc ?_ _)); exact BK0.out); (case side4 => exact HRu1000.out); (case side5 => exact HCu1000.out); rintro e w22 ⟨Ab317, cb317, rfl, hbk, hcrb317, hclb317, hb0, hkp⟩; refine ⟨_, rfl, ?_⟩; replace BK0 := Aside0.mk (hbk); replace HK := Aside0.mk (KeepBut.trans (by repeat (first | (with_reducible first | exact HK.out | apply KeepBut.set_ | apply keep_drewN | apply keep_drew | apply keep_alloc | refine keep_far ?_ GW0.out _) | exact HK.out)) hkp (.inl rfl)); have HRb317 := Aside0.mk (hcrb317); have HCb317 := Aside0.mk (hclb317); replace HB := Aside0.mk (hb0); (try clear hb0); (try clear hkp); (try clear hbk); (try clear hcrb317); (try clear hclb317)))
         go_ret
         exact ⟨_, _, by first | rfl | (simp [errW_none, errW_some] <;> rfl) | (simp [*, errW_none, errW_some] <;> rfl), by (with_reducible repeat (first | refine blk_drewN ?_ _ | refine blk_drew ?_ | refine blk_alloc ?_ _)); exact BK0.out, HRb317.out, HCb317.out, by exact zh1_ HB.out GE0.out, by repeat (first | (with_reducible first | exact HK.out | apply KeepBut.set_ | apply keep_drewN | apply keep_drew | apply keep_alloc | refine keep_far ?_ GW0.out _) | exact HK.out)⟩
        ·replace c20 := Bool.eq_false_iff.mpr c20
         subst c20
         replace H := (if_neg (show ¬ (false = true) by decide)).symm.trans H
         obtain ⟨ji23, hji23⟩ : ∃ j_ : Int, (wrap64 (7 * x12_1)) = j_ := ⟨_, rfl⟩
         replace H : (if 0 ≤ (ji23) then (if (rd l0_0 x12_1) < 128 then (if 0 ≤ (wrap64 (x12_1 + 1)) then (if (wrap64 (x12_1 + 1)) ≤ (x1000_1.length : Int) then (some (Go.bits .or .u64 x3_1 (shl .u64 (IntKind.u64.wrap (Go.bits .and .u8 (rd l0_0 x12_1) 127)) (ji23)), x1000_1.drop ((wrap64 (x12_1 + 1)) : Int).toNat, a0_1)) else (none)) else (none)) else (codec_cursor_num.l0 kj5 (Go.bits .or .u64 x3_1 (shl .u64 (IntKind.u64.wrap (Go.bits .and .u8 (rd l0_0 x12_1) 127)) (ji23))) l0_0 (l0_0.length : Int) (wrap64 (x12_1 + 1)) x1000_1 a0_1)) else (none)) = some (r1, r2, r3) := by first | (rw [hji23] at H; exact H) | (simp only [hji23] at H ⊢; exact H)
         have hji23w : (IntKind.i64.wrap (7 * x12_1)) = ji23 := (i64_w _).trans hji23
         by_cases c24 : 0 ≤ (ji23)
         ·rw [if_pos c24] at H
          have c24b0 := eq_true c24
          have c24b1 : decide (0 ≤ (ji23)) = true := decide_eq_true c24
          clear c24
          obtain ⟨ji25, hji25⟩ : ∃ j_ : Int, (shl .u64 (IntKind.u64.wrap (Go.bits .and .u8 (rd l0_0 x12_1) 127)) (ji23)) = j_ := ⟨_, rfl⟩
          replace H : (if (rd l0_0 x12_1) < 128 then (if 0 ≤ (wrap64 (x12_1 + 1)) then (if (wrap64 (x12_1 + 1)) ≤ (x1000_1.length : Int) then (some (Go.bits .or .u64 x3_1 (ji25), x1000_1.drop ((wrap64 (x12_1 + 1)) : Int).toNat, a0_1)) else (none)) else (none)) else (codec_cursor_num.l0 kj5 (Go.bits .or .u64 x3_1 (ji25)) l0_0 (l0_0.length : Int) (wrap64 (x12_1 + 1)) x1000_1 a0_1)) = some (r1, r2, r3) := by first | (rw [hji25] at H; exact H) | (simp only [hji25] at H ⊢; exact H)
          have hji25_ : (IntKind.u64.wrap ((IntKind.u64.wrap (Go.bits .and .u8 (rd l0_0 x12_1) 127)) * 2 ^ min (ji23).toNat 64)) = ji25 := hji25
          have hji25z : (ji23) ≤ 64 → (IntKind.u64.wrap ((IntKind.u64.wrap (Go.bits .and .u8 (rd l0_0 x12_1) 127)) * 2 ^ (ji23).toNat)) = ji25 := shl_small hji25
          by_cases c26 : (rd l0_0 x12_1) < 128
          ·rw [if_pos c26] at H
           have c26b0 : decide ((rd l0_0 x12_1) < 128) = true := decide_eq_true c26
           clear c26
           obtain ⟨ji27, hji27⟩ : ∃ j_ : Int, (wrap64 (x12_1 + 1)) = j_ := ⟨_, rfl⟩
           replace H : (if 0 ≤ (ji27) then (if (ji27) ≤ (x1000_1.length : Int) then (some (Go.bits .or .u64 x3_1 (ji25), x1000_1.drop ((ji27) : Int).toNat, a0_1)) else (none)) else (none)) = some (r1, r2, r3) := by first | (rw [hji27] at H; exact H) | (simp only [hji27] at H ⊢; exact H)
           have hji27w : (IntKind.i64.wrap (x12_1 + 1)) = ji27 := (i64_w _).trans hji27
           by_cases c28 : 0 ≤ (ji27)
           ·rw [if_pos c28] at H
            have c28b0 := eq_true c28
            have c28b1 : decide (0 ≤ (ji27)) = true := decide_eq_true c28
            clear c28
            by_cases c29 : (ji27) ≤ (x1000_1.length : Int)
            ·rw [if_pos c29] at H
             have c29b0 := eq_true c29
             have c29b1 : decide ((ji27) ≤ (x1000_1.length : Int)) = true := decide_eq_true c29
             clear c29
             simp only [Option.some.injEq, Prod.mk.injEq] at H
             obtain ⟨rfl, rfl, rfl⟩ := H
             have hcz30_0 : wc.cell? ⟨g, 0, none⟩ = some (.slice Au1000 x1000_1.length cu1000) := (blk_cell BK0.out 0).trans rfl
             have hcz30_1 : wc.cell? ⟨g, 1, none⟩ = some (.int .i64 a0_1) := (blk_cell BK0.out 1).trans rfl
             have hfz30_0 := blk_frozen BK0.out 0
             have hfz30_1 := blk_frozen BK0.out 1
             obtain ⟨i031, hi031, _, hsz31, _⟩ := info_parts info5
             obtain ⟨A31, hcut31, hA31, hC31⟩ := print_drop_of (P := Tryd.prog) (Value.int .u8) 0 26 5 .i64 Tryd.underlying26 hi031 hsz31 Au1000 cu1000 x1000_1 (ji27) (of_decide_eq_true za_) (of_decide_eq_true za_) HCu1000.out
             have HR319 := Aside0.mk (Kd.C_of_reads (h1 := fun _ => rfl) (hA31 _ (Kd.reads_of_C HRu1000.out)))
             have HC319 := Aside0.mk hC31
             clear hA31 hC31 hi031 hsz31
             go_wp2
             go_ret
             exact ⟨_, _, by first | rfl | (simp [errW_none, errW_some] <;> rfl) | (simp only [← hji23, ← hji25, ← hji27]; first | rfl | (simp [errW_none, errW_some] <;> rfl)) | (simp [*, errW_none, errW_some] <;> rfl), by (with_reducible repeat (first | refine blk_drewN ?_ _ | refine blk_drew ?_ | refine blk_alloc ?_ _)); refine blk_put (cs := #[.slice Au1000 x1000_1.length cu1000, .int .i64 a0_1]) ?_ 0 _ (by first | rfl | (simp only [List.length_drop, List.length_take]; rfl)); (with_reducible repeat (first | refine blk_drewN ?_ _ | refine blk_drew ?_ | refine blk_alloc ?_ _)); exact BK0.out, HR319.out, HC319.out, by exact zh1_ HB.out GE0.out, by repeat (first | (with_reducible first | exact HK.out | apply KeepBut.set_ | apply keep_drewN | apply keep_drew | apply keep_alloc | refine keep_far ?_ GW0.out _) | exact HK.out)⟩
            ·rw [if_neg c29] at H
             cases H
           ·rw [if_neg c28] at H
            cases H
          ·rw [if_neg c26] at H
           have c26b0 : decide ((rd l0_0 x12_1) < 128) = false := decide_eq_false c26
           clear c26
           have H' := Aside0.mk H
           clear H
           go_wp2
           go_roundg kj5
           case measure => have := HK1.out; have := HJ5.out; omega
           case rel => exact ⟨(Go.bits .or .u64 x3_1 (ji25)), (wrap64 (x12_1 + 1)), (x1000_1), (Au1000), (cu1000), (by first | rfl | (simp; done) | (simp only [← hji25] <;> (first | rfl | simp)) | (simp [*]; done)), (by first | rfl | (simp; done) | (simp [*]; done) | (simp only [i64_w]; done)), H', ⟨by have := HK1.out; have := HJ5.out; omega⟩, ⟨HRu1000.out⟩, ⟨HCu1000.out⟩, ⟨by (with_reducible repeat (first | refine blk_drewN ?_ _ | refine blk_drew ?_ | refine blk_alloc ?_ _)); exact BK0.out⟩, ⟨by repeat (first | (with_reducible first | exact HK.out | apply KeepBut.set_ | apply keep_drewN | apply keep_drew | apply keep_alloc | refine keep_far ?_ GW0.out _) | exact HK.out)⟩, ⟨by exact zh1_ HB.out GE0.out⟩⟩
         ·rw [if_neg c24] at H
          cases H
     ·rw [if_neg c5] at H
      cases H
    ·rw [if_neg c4] at H
     cases H
   ·rw [if_neg c3] at H
    have c3b0 : decide (x12_1 < (l0_0.length : Int)) = false := decide_eq_false c3
    clear c3
    obtain ⟨⟨t314, t315⟩, A32, H⟩ := zm H
    (try dsimp only at H)
    simp only [Option.some.injEq, Prod.mk.injEq] at H
    obtain ⟨rfl, rfl, rfl⟩ := H
    go_wp2_with (first | ((with_reducible refine gate_callee (f := 85) rfl ?_); refine goesL_ (some 66) rfl rfl Tryd.func85 (by kernel_rfl) rfl #[.pointer (some ⟨g, 0, none⟩), .int .i64 6] rfl zl_ ?_; (with_reducible refine (codec_cursor_fail.calls g Au1000 cu1000 x1000_1 a0_1 6 t314 t315 w0 _ ?side1 ?side2 ?side3 ?side4 ?side5 A32.out).mono ?_); (case side1 => exact by exact zh1_ HB.out GE0.out); (case side2 => exact GE0.out); (case side3 => exact by (with_reducible repeat (first | refine blk_drewN ?_ _ | refine blk_drew ?_ | refine blk_alloc ?_ _)); exact BK0.out); (case side4 => exact HRu1000.out); (case side5 => exact HCu1000.out); rintro e w33 ⟨Ab314, cb314, rfl, hbk, hcrb314, hclb314, hb0, hkp⟩; refine ⟨_, rfl, ?_⟩; replace BK0 := Aside0.mk (hbk); replace HK := Aside0.mk (KeepBut.trans (by repeat (first | (with_reducible first | exact HK.out | apply KeepBut.set_ | apply keep_drewN | apply keep_drew | apply keep_alloc | refine keep_far ?_ GW0.out _) | exact HK.out)) hkp (.inl rfl)); have HRb314 := Aside0.mk (hcrb314); have HCb314 := Aside0.mk (hclb314); replace HB := Aside0.mk (hb0); (try clear hb0); (try clear hkp); (try clear hbk); (try clear hcrb314); (try clear hclb314)))
    go_ret
    exact ⟨_, _, by first | rfl | (simp [errW_none, errW_some] <;> rfl) | (simp [*, errW_none, errW_some] <;> rfl), by (with_reducible repeat (first | refine blk_drewN ?_ _ | refine blk_drew ?_ | refine blk_alloc ?_ _)); exact BK0.out, HRb314.out, HCb314.out, by exact zh1_ HB.out GE0.out, by repeat (first | (with_reducible first | exact HK.out | apply KeepBut.set_ | apply keep_drewN | apply keep_drew | apply keep_alloc | refine keep_far ?_ GW0.out _) | exact HK.out)⟩
end Go.Proofs.YtcbgichkeecgiaaDoor.Print
namespace Go.Proofs.YtcbgichkeecgiaaDoor.Print
open Go.RowKit Go.Proofs.YtcbgichkeecgiaaDoorW.PrintWords Go.Proofs.YtcbgichkeecgiaaDoorW.PrintLast Go.Proofs.YtcbgichkeecgiaaDoorW.PrintMore
attribute [local go_sem] max2_mx min2_mn max_two min_two max_three min_three max_four min_four
set_option linter.unusedVariables false
set_option linter.unusedSimpArgs false
def codec_cursor_rest.f (l0_0 : List Int) (a0_1 : Int) : Option (List Int) := if a0_1 = 0 then ((codec_own.f l0_0).bind fun t320 => (some t320)) else (some ([] : List Int))
set_option maxHeartbeats 8000000 in
set_option maxRecDepth 100000 in
theorem codec_cursor_rest.calls (g : Nat) (A0_0 : Option Addr) (c0_0 : Nat) (l0_0 : List Int) (a0_1 : Int) (r : List Int) (w : World) (hbx : w.heap[g]? = some (.cells #[.slice A0_0 l0_0.length c0_0, .int .i64 a0_1] 89 (0, 0))) (hr0_0 : Kd.C (Kd.int .u8) w A0_0 l0_0.length l0_0) (hc0_0 : l0_0.length ≤ c0_0) (h : codec_cursor_rest.f l0_0 a0_1 = some r) :
  Calls Tryd.prog 69 #[.pointer (some ⟨g, 0, none⟩)] w fun e w' => ∃ v0_ : Value, e = .returned (v0_) ∧ Kd.R (Kd.int .u8) 5 w' w.heap.size (fun _ => True) v0_ r ∧ Below w.heap.size w w' := by
 have HR0_0 := Aside0.mk hr0_0
 have HC0_0 := Aside0.mk hc0_0
 clear hr0_0 hc0_0
 have BK0 := Aside0.mk hbx
 clear hbx
 have HB := Aside0.mk (Below.refl w.heap.size w)
 have H : (if a0_1 = 0 then ((codec_own.f l0_0).bind fun t320 => (some t320)) else (some ([] : List Int))) = some r := h
 clear h
 by_cases c2 : a0_1 = 0
 ·rw [if_pos c2] at H
  obtain ⟨c2b0, c2b1⟩ := zq1 c2
  clear c2
  obtain ⟨t320, A3, H⟩ := zm H
  (try dsimp only at H)
  obtain rfl := Option.some.inj H
  have hcz4_0 : w.cell? ⟨g, 0, none⟩ = some (.slice A0_0 l0_0.length c0_0) := (blk_cell BK0.out 0).trans rfl
  have hcz4_1 : w.cell? ⟨g, 1, none⟩ = some (.int .i64 a0_1) := (blk_cell BK0.out 1).trans rfl
  have hfz4_0 := blk_frozen BK0.out 0
  have hfz4_1 := blk_frozen BK0.out 1
  go_enter Tryd.func69, Tryd.ntmps69
  go_wp2_with (first | ((with_reducible refine gate_callee (f := 36) rfl ?_); refine goesL_ (some 12) rfl rfl Tryd.func36 (by kernel_rfl) rfl #[.slice A0_0 l0_0.length c0_0] rfl zl_ ?_; (with_reducible refine (codec_own.calls _ _ l0_0 t320 _ ?side1 ?side2 A3.out).mono ?_); (case side1 => repeat (first | exact HR0_0.out | (with_reducible refine Kd.C_alloc ?_ _) | (with_reducible refine Kd.C_drewN ?_ _) | (with_reducible refine Kd.C_drew ?_))); (case side2 => exact HC0_0.out); rintro e w5 ⟨v321, rfl, ho0, hb⟩; refine ⟨_, rfl, ?_⟩; have HO322 := Aside0.mk (Kd.R_lower ho0 (below_size (zh0_ HB.out))); replace BK0 := Aside0.mk (blk_below (g := g) (o := .cells #[.slice A0_0 l0_0.length c0_0, .int .i64 a0_1] 89 (0, 0)) (zb_ BK0.out) hb); replace HB := Aside0.mk (below_step (zh0_ HB.out) hb); (try clear hb); (try clear ho0)))
  go_ret
  exact ⟨_, by first | rfl | (simp [errW_none, errW_some] <;> rfl) | (simp [*, errW_none, errW_some] <;> rfl), by (with_reducible repeat (first | apply Kd.R_alloc | apply Kd.R_drewN | apply Kd.R_drew)); exact HO322.out, by exact zh0_ HB.out⟩
 ·rw [if_neg c2] at H
  obtain ⟨c2b0, c2b1⟩ := zq0 c2
  obtain rfl := Option.some.inj H
  have hcz6_0 : w.cell? ⟨g, 0, none⟩ = some (.slice A0_0 l0_0.length c0_0) := (blk_cell BK0.out 0).trans rfl
  have hcz6_1 : w.cell? ⟨g, 1, none⟩ = some (.int .i64 a0_1) := (blk_cell BK0.out 1).trans rfl
  have hfz6_0 := blk_frozen BK0.out 0
  have hfz6_1 := blk_frozen BK0.out 1
  go_enter Tryd.func69, Tryd.ntmps69
  go_wp2
  go_ret
  exact ⟨_, by first | rfl | (simp [errW_none, errW_some] <;> rfl) | (simp [*, errW_none, errW_some] <;> rfl), by first | exact Kd.R_nil _ _ _ _ _ | exact Kd.N_nil _ _ _ _ _ | exact Kd.V_nil _ _ _ _ _ | exact Kd.Q_nil _ _ _ _ _ | exact Kd.S_nil _ _ _ _ _, by exact zh0_ HB.out⟩
def codec_ReadNum.f (k : Nat) (l0 : List Int) : Option (Int × List Int × Int) := (codec_cursor_num.f k l0 0).bind fun bt324 => ((codec_cursor_rest.f bt324.2.1 bt324.2.2).bind fun t327 => (some (bt324.1, t327, bt324.2.2)))
set_option maxHeartbeats 8000000 in
set_option maxRecDepth 100000 in
theorem codec_ReadNum.calls (k : Nat) (A0 : Option Addr) (c0 : Nat) (l0 : List Int) (r1 : Int) (r2 : List Int) (r3 : Int) (w : World) (hr0 : Kd.C (Kd.int .u8) w A0 l0.length l0) (hc0 : l0.length ≤ c0) (h : codec_ReadNum.f k l0 = some (r1, r2, r3)) :
  Calls Tryd.prog 41 #[.slice A0 l0.length c0] w fun e w' => ∃ v1_ : Value, e = .returned (.tuple #[.int .u64 r1, v1_, .int .i64 r3]) ∧ Kd.R (Kd.int .u8) 5 w' w.heap.size (fun _ => True) v1_ r2 ∧ Below w.heap.size w w' := by
 have hu89 := Tryd.underlying89
 have HR0 := Aside0.mk hr0
 have HC0 := Aside0.mk hc0
 clear hr0 hc0
 have HB := Aside0.mk (Below.refl w.heap.size w)
 have H : ((codec_cursor_num.f k l0 0).bind fun bt324 => ((codec_cursor_rest.f bt324.2.1 bt324.2.2).bind fun t327 => (some (bt324.1, t327, bt324.2.2)))) = some (r1, r2, r3) := h
 clear h
 obtain ⟨⟨t324, t325, t326⟩, A2, H⟩ := zm H
 (try dsimp only at H)
 obtain ⟨t327, A3, H⟩ := zm H
 (try dsimp only at H)
 simp only [Option.some.injEq, Prod.mk.injEq] at H
 obtain ⟨rfl, rfl, rfl⟩ := H
 go_enter Tryd.func41, Tryd.ntmps41
 try go_wp2_with (first | ((with_reducible refine gate_dst (N := 5) rfl ?_); refine box_event ?hg (N := 5) ?hd (cs := #[.slice none 0 0, .int .i64 0]) (t := 89) ?hr ?_; (case hd => rfl); (case hg => rfl); (case hr => first | (go_simp; done) | (go_simp; rfl)); intro gb323 hg w4 hbox hb; have BK323 := Aside0.mk (hbox); have GW323 := Aside0.mk ((by rw [hg]; exact (below_size (zh0_ HB.out)) : w.heap.size ≤ gb323)); have GE323 := Aside0.mk ((by rw [hg]; exact (below_size (zh0_ HB.out)) : w.heap.size ≤ gb323)); replace HB := Aside0.mk (below_step (zh0_ HB.out) hb); clear hb hbox hg; have hcz5_0 : w4.cell? ⟨gb323, 0, none⟩ = some (.slice none 0 0) := (blk_cell BK323.out 0).trans rfl; have hcz5_1 : w4.cell? ⟨gb323, 1, none⟩ = some (.int .i64 0) := (blk_cell BK323.out 1).trans rfl; have hfz5_0 := blk_frozen BK323.out 0; have hfz5_1 := blk_frozen BK323.out 1) | ((with_reducible refine gate_callee (f := 68) rfl ?_); refine goesL_ (some 9) rfl rfl Tryd.func68 (by kernel_rfl) rfl #[.pointer (some ⟨gb323, 0, none⟩)] rfl zl_ ?_; (with_reducible refine (codec_cursor_num.calls k gb323 A0 c0 l0 0 t324 t325 t326 w _ ?side1 ?side2 ?side3 ?side4 ?side5 A2.out).mono ?_); (case side1 => exact by exact zh1_ HB.out GE323.out); (case side2 => exact GE323.out); (case side3 => exact by (with_reducible repeat (first | refine blk_drewN ?_ _ | refine blk_drew ?_ | refine blk_alloc ?_ _)); refine blk_put (cs := #[.slice A0 l0.length c0, .int .i64 0]) ?_ 1 _ (by first | rfl | (simp only [List.length_drop, List.length_take]; rfl)); (with_reducible repeat (first | refine blk_drewN ?_ _ | refine blk_drew ?_ | refine blk_alloc ?_ _)); refine blk_put (cs := #[.slice none 0 0, .int .i64 0]) ?_ 0 _ (by first | rfl | (simp only [List.length_drop, List.length_take]; rfl)); (with_reducible repeat (first | refine blk_drewN ?_ _ | refine blk_drew ?_ | refine blk_alloc ?_ _)); exact BK323.out); (case side4 => exact HR0.out); (case side5 => exact HC0.out); rintro e w6 ⟨Ab325, cb325, rfl, hbk, hcrb325, hclb325, hb0, hkp⟩; refine ⟨_, rfl, ?_⟩; replace BK323 := Aside0.mk (hbk); have HRb325 := Aside0.mk (hcrb325); have HCb325 := Aside0.mk (hclb325); replace HB := Aside0.mk (hb0); (try clear hb0); (try clear hkp); (try clear hbk); (try clear hcrb325); (try clear hclb325)))
 have n0_ := Aside0.mk (blk_drew BK323.out)
 have n1_ := Aside0.mk (below_drew1 HB.out)
 clear BK323 HB
 have BK323 := n0_
 have HB := n1_
 clear n0_ n1_
 refine start_ (n := 7) (S := fun w' => w'.cell? ⟨gb323, 0, none⟩ = some (.slice Ab325 t325.length cb325) ∧ w'.cell? ⟨gb323, 1, none⟩ = some (.int .i64 t326)) (ds := []) #[false, false, false, false, false, false, false] (by kernel_rfl) rfl rfl ⟨(blk_cell BK323.out 0).trans rfl, (blk_cell BK323.out 1).trans rfl⟩ (fun hHeld => ?_)
 generalize w6.drew = w7 at BK323 HB hHeld ⊢
 refine zpu 0 (some 10) #[true, false, false, false, false, false, false] (by kernel_rfl) ?_
 refine zpu 2 (some 12) #[true, false, true, false, false, false, false] (by kernel_rfl) ?_
 refine zta 3 (some 13) #[true, false, true, true, false, false, false] (by kernel_rfl) hHeld ?_
 refine one_ (i := 1) (N := some 11) #[true, true, true, true, false, false, false] rfl rfl (by kernel_rfl) (by decide) (fun K hK => ?_)
 refine goes_ Tryd.func69 (by kernel_rfl) rfl #[.pointer (some ⟨gb323, 0, none⟩)] (by rfl) rfl rfl zl_ ?_
 with_reducible refine (codec_cursor_rest.calls gb323 Ab325 cb325 t325 t326 t327 _ ?side1 ?side2 ?side3 A3.out).mono ?_
 (case side1 => exact by (with_reducible repeat (first | refine blk_drewN ?_ _ | refine blk_drew ?_ | refine blk_alloc ?_ _)); exact BK323.out)
 (case side2 => exact zc_ (Kd.C_below HRb325.out HB.out))
 (case side3 => exact HCb325.out)
 rintro e w8 ⟨v328, rfl, ho0, hb⟩
 refine ⟨_, rfl, ?_⟩
 have n0_ := Aside0.mk (Kd.R_lower ho0 (below_size (zh1_ HB.out GE323.out)))
 have n1_ := Aside0.mk (blk_below (zb_ BK323.out) hb)
 have n2_ := Aside0.mk (below_step (zh1_ HB.out GE323.out) hb)
 clear BK323 HB
 have HO329 := n0_
 have BK323 := n1_
 have HB := n2_
 clear n0_ n1_ n2_
 (try clear hb)
 (try clear hb2)
 (try clear hk)
 (try clear hi)
 (try clear ho0)
 refine hK.out _ _ ⟨(blk_cell BK323.out 0).trans rfl, (blk_cell BK323.out 1).trans rfl⟩ (fun hHeld => ?_)
 clear hK K
 refine zno 11 ?_
 refine zpu 4 (some 2) #[true, true, true, true, true, false, false] (by kernel_rfl) ?_
 refine zpu 5 (some 3) #[true, true, true, true, true, true, false] (by kernel_rfl) ?_
 refine zpu 6 (some 4) #[true, true, true, true, true, true, true] (by kernel_rfl) ?_
 refine done_ (by kernel_rfl) ?_
 try go_wp2
 go_ret3
 exact ⟨_, by first | rfl | (simp [errW_none, errW_some] <;> rfl) | (simp [*, errW_none, errW_some] <;> rfl), by (with_reducible repeat (first | apply Kd.R_alloc | apply Kd.R_drewN | apply Kd.R_drew)); exact HO329.out, by exact zh1_ HB.out GE323.out⟩
def bytes_Clone.f (l0 : List Int) : Option (List Int) := if l0.length ≤ 140737488355327 then some l0 else none
set_option maxHeartbeats 4000000 in
set_option maxRecDepth 100000 in
theorem bytes_Clone.calls (A0 : Option Addr) (c0 : Nat) (l0 : List Int) (r : List Int) (w : World) (hr0 : Kd.C (Kd.int .u8) w A0 l0.length l0) (hc0 : l0.length ≤ c0) (h : bytes_Clone.f l0 = some r) :
  Calls Tryd.prog 42 #[.slice A0 l0.length c0] w fun e w' => ∃ v0_ : Value, e = .returned v0_ ∧ Kd.R (Kd.int .u8) 5 w' w.heap.size (fun _ => True) v0_ r ∧ Below w.heap.size w w' := by
 unfold bytes_Clone.f at h
 split at h
 case isFalse => cases h
 case isTrue hbig =>
 obtain rfl := Option.some.inj h
 have qS : ∀ (w : World) (a : Option Addr) (n c : Nat), (binOp .eql 26 (.slice a n c) (.slice none 0 0)).run Tryd.prog w = .ok (.bool a.isNone) w := fun w a n c => Lib.run_eql_slice_nil w _ _ a n c 0 0 Tryd.underlying26
 have HR := Aside0.mk hr0
 have HC := Aside0.mk hc0
 cases A0 with
 | none =>
  have hn : l0.length = 0 := by
   rcases Nat.eq_zero_or_pos l0.length with h0 | h0
   ·exact h0
   ·obtain ⟨_, h, _⟩ := hr0.2.2 h0; cases h
  obtain rfl : l0 = [] := List.eq_nil_of_length_eq_zero hn
  clear hr0 hc0 hn
  go_enter Tryd.func42, Tryd.ntmps42
  go_wp2
  go_ret
  exact ⟨_, rfl, Kd.R_nil _ _ _ _ _, Below.refl _ _⟩
 | some ad =>
  clear hr0 hc0
  obtain ⟨W1, hW1⟩ : ∃ W1, W1 = w.alloc (.cells #[] 5) := ⟨_, rfl⟩
  have hO : Kd.R (Kd.int .u8) 5 W1 w.heap.size (fun _ => True) (.slice (some ⟨w.heap.size, 0, none⟩) 0 0) [] := by
   refine ⟨fun _ _ => trivial, [], ⟨rfl, .inr ⟨w.heap.size, 0, #[], rfl, Nat.le_refl _, ?_, Nat.le_refl _, by simp only [maxLen]; omega, rfl, rfl⟩⟩, Reps.none _ _⟩
   rw [hW1]; exact heap_alloc_new w _
  have hB : Below w.heap.size w W1 := by rw [hW1]; exact below_alloc (Below.refl _ _) _
  have HO := Aside0.mk hO
  have HB := Aside0.mk hB
  have HS : Aside0 (w.heap.size ≤ W1.heap.size) := ⟨hB.size⟩
  have HC1 : Aside0 (Kd.C (Kd.int .u8) W1 (some ad) l0.length l0) := ⟨Kd.C_below HR.out hB⟩
  clear hO hB
  subst hW1
  go_enter Tryd.func42, Tryd.ntmps42
  go_wp2_with (at_builtin; (refine Kd.R_append_rows (Kd.int .u8) (w0 := w) w.heap.size rfl _ _ 26 5 _ 1 rfl Tryd.underlying26 info5 rfl (by decide) (by decide) _ [] l0 (some ad) l0.length c0 (fun _ => True) (fun _ => False) rfl rfl HO.out HC1.out (fun x cs hK => hK) (fun _ hk => hk.elim) (fun _ _ => trivial) HB.out HS.out (by simpa using Nat.le_trans hbig (by decide)) ?_); rintro v1 w1 ho hb hg hat)
  go_ret
  exact ⟨v1, rfl, ho, hb⟩
end Go.Proofs.YtcbgichkeecgiaaDoor.Print
namespace Go.Proofs.YtcbgichkeecgiaaDoor.Print
open Go.RowKit Go.Proofs.YtcbgichkeecgiaaDoorW.PrintWords Go.Proofs.YtcbgichkeecgiaaDoorW.PrintLast Go.Proofs.YtcbgichkeecgiaaDoorW.PrintMore
attribute [local go_sem] max2_mx min2_mn max_two min_two max_three min_three max_four min_four
set_option linter.unusedVariables false
set_option linter.unusedSimpArgs false
def bytes_trimLeftByte.l0 : Nat → List Int → Int → Option (List Int)
 | 0, _, _ => none
 | k + 1, x0, x1 => if (x0.length : Int) > 0 then (if 0 < (x0.length : Int) then (if (rd x0 0) = x1 then (if 1 ≤ (x0.length : Int) then (bytes_trimLeftByte.l0 k (x0.drop 1) x1) else (none)) else (if (x0.length : Int) = 0 then (some ([] : List Int)) else (some x0))) else (none)) else (if (x0.length : Int) = 0 then (some ([] : List Int)) else (some x0))
def bytes_trimLeftByte.f (k : Nat) (l0 : List Int) (a1 : Int) : Option (List Int) := bytes_trimLeftByte.l0 k l0 a1
set_option maxHeartbeats 8000000 in
set_option maxRecDepth 100000 in
theorem bytes_trimLeftByte.calls (k : Nat) (P0_ : Nat → Prop) (A0 : Option Addr) (c0 : Nat) (l0 : List Int) (a1 : Int) (r : List Int) (w : World) (hs0 : Kd.V (Kd.int .u8) 5 w w.heap.size (fun k_ => P0_ k_) (.slice A0 l0.length c0) l0) (h : bytes_trimLeftByte.f k l0 a1 = some r) :
  Calls Tryd.prog 43 #[.slice A0 l0.length c0, .int .u8 a1] w fun e w' => ∃ v0_ : Value, e = .returned (v0_) ∧ Kd.V (Kd.int .u8) 5 w' w.heap.size (fun k_ => (P0_ k_ ∨ w.heap.size ≤ k_)) v0_ r ∧ Below w.heap.size w w' := by
 have HO0 := Aside0.mk (show Kd.V (Kd.int .u8) 5 w w.heap.size (fun k_ => (P0_ k_ ∨ w.heap.size ≤ k_)) (.slice A0 l0.length c0) l0 from Kd.V_mono hs0 (fun k_ hk => .inl hk))
 have HB := Aside0.mk (Below.refl w.heap.size w)
 have H : (bytes_trimLeftByte.l0 k l0 a1) = some r := h
 clear h
 have H' := Aside0.mk H
 clear H
 go_enter Tryd.func43, Tryd.ntmps43
 go_wp2
 go_loopg [0] k (fun kq v0 w' => ∃ (x0_1 : List Int), Aside0 (bytes_trimLeftByte.l0 kq x0_1 a1 = some r) ∧ Aside0 (kq ≤ k) ∧ Aside0 (Kd.V (Kd.int .u8) 5 w' w.heap.size (fun k_ => (P0_ k_ ∨ w.heap.size ≤ k_)) v0 x0_1) ∧ Aside0 (Below w.heap.size w w'))
 case atStart => exact ⟨(l0), H', ⟨Nat.le_refl _⟩, ⟨by (with_reducible repeat (first | apply Kd.V_alloc | apply Kd.V_drewN | apply Kd.V_drew)); exact HO0.out⟩, ⟨by exact zh0_ HB.out⟩⟩
 case round =>
  clear H'
  try clear p2
  obtain ⟨x0_1, HA, HK1, HO_0, HB⟩ := hrel
  cases gk with
  | zero => exact absurd HA.out (by simp [bytes_trimLeftByte.l0])
  | succ k1 =>
   have H := HA.out
   clear HA
   simp only [bytes_trimLeftByte.l0] at H
   by_cases c3 : (x0_1.length : Int) > 0
   ·rw [if_pos c3] at H
    have c3b0 : decide (0 < (x0_1.length : Int)) = true := decide_eq_true c3
    have c3b1 : decide (0 < x0_1.length) = true := decide_eq_true (by omega)
    clear c3
    by_cases c4 : 0 < (x0_1.length : Int)
    ·rw [if_pos c4] at H
     have c4b0 : decide (0 < (x0_1.length : Int)) = true := decide_eq_true c4
     have c4b1 : decide (0 < x0_1.length) = true := decide_eq_true (by omega)
     clear c4
     by_cases c5 : (rd x0_1 0) = a1
     ·rw [if_pos c5] at H
      obtain ⟨c5b0, c5b1⟩ := zq1 c5
      clear c5
      by_cases c6 : 1 ≤ (x0_1.length : Int)
      ·rw [if_pos c6] at H
       have c6b0 := eq_true c6
       have c6b1 : decide (1 ≤ (x0_1.length : Int)) = true := decide_eq_true c6
       clear c6
       obtain ⟨y331, hy331⟩ : ∃ y_ : List Int, y_ = (x0_1.drop 1) := ⟨_, rfl⟩
       replace H : (bytes_trimLeftByte.l0 k1 y331 a1) = some r := by first | (rw [hy331]; with_reducible exact H) | (have H2_ := (Option.bind_some _ _).symm.trans H; rw [hy331]; with_reducible exact H2_) | (have H2_ := (Option.bind_some _ _).symm.trans H; with_reducible exact H2_) | with_reducible exact H | (rw [hy331]; exact H) | exact H
       have Ny331 := Aside0.mk hy331
       clear hy331
       have H' := Aside0.mk H
       clear H
       obtain ⟨Ao7, co7, eo7⟩ := Kd.V_slice HO_0.out
       subst eo7
       have p330 : 0 ≤ (0 : Int) := (by omega)
       have q330 : 0 < (x0_1.length : Int) := of_decide_eq_true za_
       obtain ⟨ad330, e330, hx330_0⟩ := Kd.at_int (Kd.V_reads' HO_0.out).2.2 0 p330 q330
       cases e330
       have qi330 : (0 < x0_1.length) = True := eq_true (by omega)
       (try rw [show ((0 : Int)).toNat = 0 from rfl] at hx330_0)
       (try rw [Addr.add_zero'] at hx330_0)
       replace p330 := eq_true p330
       replace q330 := eq_true q330
       have q8 : (1 : Int) ≤ ((x0_1.length : Int) : Int) := of_decide_eq_true za_
       obtain ⟨i08, hi08, _, hsz8, _⟩ := info_parts info5
       have hroom8 : x0_1.length ≤ co7 := (Kd.V_reads' HO_0.out).2.1
       have hC8 : Kd.F (Kd.int .u8) _ _ (some ad330) x0_1.length x0_1 := (Kd.V_at (base := w.heap.size) HO_0.out).2.2
       have hcut8 := cut_from (P := Tryd.prog) 26 5 .i64 Tryd.underlying26 hi08 1 hsz8 (some ad330) x0_1.length co7 1 (by omega) q8
       have hr8 := Kd.F_cut (m := (1 : Int).toNat) (c := co7) hC8 (by omega) hroom8
       obtain ⟨A8, hA8⟩ : ∃ Az_, Az_ = (if co7 = (1 : Int).toNat then (some ad330) else ((some ad330) : Option Addr).map (·.add ((1 : Int).toNat * 1))) := ⟨_, rfl⟩
       obtain ⟨c8, hc8⟩ : ∃ cz_, cz_ = co7 - (1 : Int).toNat := ⟨_, rfl⟩
       have hy8 : y331.length = x0_1.length - (1 : Int).toNat := (by rw [Ny331.out, List.length_drop] <;> omega)
       rw [show (x0_1).drop (1 : Int).toNat = y331 from Ny331.out.symm] at hr8
       replace hr8 : Kd.F (Kd.int .u8) _ _ A8 y331.length y331 := (by rw [hA8]; exact hr8)
       rw [← hy8, ← hA8, ← hc8] at hcut8
       have HO335 := Aside0.mk (show Kd.V (Kd.int .u8) 5 _ w.heap.size _ (.slice A8 y331.length c8) y331 from Kd.V_mk (by rw [hy8, hc8]; exact Nat.sub_le_sub_right hroom8 _) hr8)
       have HC335 := Aside0.mk (show y331.length ≤ c8 from by rw [hy8, hc8]; exact Nat.sub_le_sub_right hroom8 _)
       clear hr8 hC8 hroom8 hi08 hsz8 hc8
       have KY8 := Aside0.mk hy8
       have KA8 := Aside0.mk hA8
       clear hy8 hA8
       replace q8 := eq_true q8
       go_wp2
       go_roundg k1
       case measure => have := HK1.out; omega
       case rel => exact ⟨(y331), H', ⟨by have := HK1.out; omega⟩, ⟨by (with_reducible repeat (first | apply Kd.V_alloc | apply Kd.V_drewN | apply Kd.V_drew)); exact HO335.out⟩, ⟨by exact zh0_ HB.out⟩⟩
      ·rw [if_neg c6] at H
       cases H
     ·rw [if_neg c5] at H
      obtain ⟨c5b0, c5b1⟩ := zq0 c5
      by_cases c9 : (x0_1.length : Int) = 0
      ·rw [if_pos c9] at H
       obtain ⟨c9b0, c9b1⟩ := zq1 c9
       clear c9
       obtain rfl := Option.some.inj H
       obtain ⟨Ao10, co10, eo10⟩ := Kd.V_slice HO_0.out
       subst eo10
       have p330 : 0 ≤ (0 : Int) := (by omega)
       have q330 : 0 < (x0_1.length : Int) := of_decide_eq_true za_
       obtain ⟨ad330, e330, hx330_0⟩ := Kd.at_int (Kd.V_reads' HO_0.out).2.2 0 p330 q330
       cases e330
       have qi330 : (0 < x0_1.length) = True := eq_true (by omega)
       (try rw [show ((0 : Int)).toNat = 0 from rfl] at hx330_0)
       (try rw [Addr.add_zero'] at hx330_0)
       replace p330 := eq_true p330
       replace q330 := eq_true q330
       go_wp2
       go_ret
       exact ⟨_, by first | rfl | (simp [errW_none, errW_some] <;> rfl) | (simp [*, errW_none, errW_some] <;> rfl), Kd.V_nil _ _ _ _ _, by exact zh0_ HB.out⟩
      ·rw [if_neg c9] at H
       obtain ⟨c9b0, c9b1⟩ := zq0 c9
       have c9b2 : ¬ (x0_1 = []) := fun h_ => c9 (by rw [h_]; rfl)
       obtain rfl := Option.some.inj H
       obtain ⟨Ao11, co11, eo11⟩ := Kd.V_slice HO_0.out
       subst eo11
       have p330 : 0 ≤ (0 : Int) := (by omega)
       have q330 : 0 < (x0_1.length : Int) := of_decide_eq_true za_
       obtain ⟨ad330, e330, hx330_0⟩ := Kd.at_int (Kd.V_reads' HO_0.out).2.2 0 p330 q330
       cases e330
       have qi330 : (0 < x0_1.length) = True := eq_true (by omega)
       (try rw [show ((0 : Int)).toNat = 0 from rfl] at hx330_0)
       (try rw [Addr.add_zero'] at hx330_0)
       replace p330 := eq_true p330
       replace q330 := eq_true q330
       go_wp2
       go_ret
       exact ⟨_, by first | rfl | (simp [errW_none, errW_some] <;> rfl) | (simp [*, errW_none, errW_some] <;> rfl), by (with_reducible repeat (first | apply Kd.V_alloc | apply Kd.V_drewN | apply Kd.V_drew)); exact HO_0.out, by exact zh0_ HB.out⟩
    ·rw [if_neg c4] at H
     cases H
   ·rw [if_neg c3] at H
    have c3b0 : decide (0 < (x0_1.length : Int)) = false := decide_eq_false c3
    have c3b1 : decide (0 < x0_1.length) = false := decide_eq_false (by omega)
    clear c3
    by_cases c12 : (x0_1.length : Int) = 0
    ·rw [if_pos c12] at H
     obtain ⟨c12b0, c12b1⟩ := zq1 c12
     clear c12
     obtain rfl := Option.some.inj H
     obtain ⟨Ao13, co13, eo13⟩ := Kd.V_slice HO_0.out
     subst eo13
     go_wp2
     go_ret
     exact ⟨_, by first | rfl | (simp [errW_none, errW_some] <;> rfl) | (simp [*, errW_none, errW_some] <;> rfl), Kd.V_nil _ _ _ _ _, by exact zh0_ HB.out⟩
    ·rw [if_neg c12] at H
     obtain ⟨c12b0, c12b1⟩ := zq0 c12
     have c12b2 : ¬ (x0_1 = []) := fun h_ => c12 (by rw [h_]; rfl)
     obtain rfl := Option.some.inj H
     obtain ⟨Ao14, co14, eo14⟩ := Kd.V_slice HO_0.out
     subst eo14
     go_wp2
     go_ret
     exact ⟨_, by first | rfl | (simp [errW_none, errW_some] <;> rfl) | (simp [*, errW_none, errW_some] <;> rfl), by (with_reducible repeat (first | apply Kd.V_alloc | apply Kd.V_drewN | apply Kd.V_drew)); exact HO_0.out, by exact zh0_ HB.out⟩
end Go.Proofs.YtcbgichkeecgiaaDoor.Print
namespace Go.Proofs.YtcbgichkeecgiaaDoor.Print
open Go.RowKit Go.Proofs.YtcbgichkeecgiaaDoorW.PrintWords Go.Proofs.YtcbgichkeecgiaaDoorW.PrintLast Go.Proofs.YtcbgichkeecgiaaDoorW.PrintMore
attribute [local go_sem] max2_mx min2_mn max_two min_two max_three min_three max_four min_four
set_option linter.unusedVariables false
set_option linter.unusedSimpArgs false
def bytes_trimRightByte.l0 : Nat → List Int → Int → Option (List Int)
 | 0, _, _ => none
 | k + 1, x0, x1 => if (x0.length : Int) > 0 then (if 0 ≤ (wrap64 ((x0.length : Int) - 1)) then (if (wrap64 ((x0.length : Int) - 1)) < (x0.length : Int) then (if (rd x0 (wrap64 ((x0.length : Int) - 1))) = x1 then (if (wrap64 ((x0.length : Int) - 1)) ≤ (x0.length : Int) then (bytes_trimRightByte.l0 k (x0.take ((wrap64 ((x0.length : Int) - 1)) : Int).toNat) x1) else (none)) else (some x0)) else (none)) else (none)) else (some x0)
def bytes_trimRightByte.f (k : Nat) (l0 : List Int) (a1 : Int) : Option (List Int) := bytes_trimRightByte.l0 k l0 a1
set_option maxHeartbeats 8000000 in
set_option maxRecDepth 100000 in
theorem bytes_trimRightByte.calls (k : Nat) (P0_ : Nat → Prop) (A0 : Option Addr) (c0 : Nat) (l0 : List Int) (a1 : Int) (r : List Int) (w : World) (hs0 : Kd.V (Kd.int .u8) 5 w w.heap.size (fun k_ => P0_ k_) (.slice A0 l0.length c0) l0) (h : bytes_trimRightByte.f k l0 a1 = some r) :
  Calls Tryd.prog 44 #[.slice A0 l0.length c0, .int .u8 a1] w fun e w' => ∃ v0_ : Value, e = .returned (v0_) ∧ Kd.V (Kd.int .u8) 5 w' w.heap.size (fun k_ => (P0_ k_ ∨ w.heap.size ≤ k_)) v0_ r ∧ Below w.heap.size w w' := by
 have HO0 := Aside0.mk (show Kd.V (Kd.int .u8) 5 w w.heap.size (fun k_ => (P0_ k_ ∨ w.heap.size ≤ k_)) (.slice A0 l0.length c0) l0 from Kd.V_mono hs0 (fun k_ hk => .inl hk))
 have HB := Aside0.mk (Below.refl w.heap.size w)
 have H : (bytes_trimRightByte.l0 k l0 a1) = some r := h
 clear h
 have H' := Aside0.mk H
 clear H
 go_enter Tryd.func44, Tryd.ntmps44
 go_wp2
 go_loopg [0] k (fun kq v0 w' => ∃ (x0_1 : List Int), Aside0 (bytes_trimRightByte.l0 kq x0_1 a1 = some r) ∧ Aside0 (kq ≤ k) ∧ Aside0 (Kd.V (Kd.int .u8) 5 w' w.heap.size (fun k_ => (P0_ k_ ∨ w.heap.size ≤ k_)) v0 x0_1) ∧ Aside0 (Below w.heap.size w w'))
 case atStart => exact ⟨(l0), H', ⟨Nat.le_refl _⟩, ⟨by (with_reducible repeat (first | apply Kd.V_alloc | apply Kd.V_drewN | apply Kd.V_drew)); exact HO0.out⟩, ⟨by exact zh0_ HB.out⟩⟩
 case round =>
  clear H'
  try clear p2
  obtain ⟨x0_1, HA, HK1, HO_0, HB⟩ := hrel
  cases gk with
  | zero => exact absurd HA.out (by simp [bytes_trimRightByte.l0])
  | succ k1 =>
   have H := HA.out
   clear HA
   simp only [bytes_trimRightByte.l0] at H
   by_cases c3 : (x0_1.length : Int) > 0
   ·rw [if_pos c3] at H
    have c3b0 : decide (0 < (x0_1.length : Int)) = true := decide_eq_true c3
    have c3b1 : decide (0 < x0_1.length) = true := decide_eq_true (by omega)
    clear c3
    obtain ⟨ji4, hji4⟩ : ∃ j_ : Int, (wrap64 ((x0_1.length : Int) - 1)) = j_ := ⟨_, rfl⟩
    replace H : (if 0 ≤ (ji4) then (if (ji4) < (x0_1.length : Int) then (if (rd x0_1 (ji4)) = a1 then (if (ji4) ≤ (x0_1.length : Int) then (bytes_trimRightByte.l0 k1 (x0_1.take ((ji4) : Int).toNat) a1) else (none)) else (some x0_1)) else (none)) else (none)) = some r := by first | (rw [hji4] at H; exact H) | (simp only [hji4] at H ⊢; exact H)
    have hji4w : (IntKind.i64.wrap ((x0_1.length : Int) - 1)) = ji4 := (i64_w _).trans hji4
    by_cases c5 : 0 ≤ (ji4)
    ·rw [if_pos c5] at H
     have c5b0 : decide (0 ≤ (ji4)) = true := decide_eq_true c5
     clear c5
     by_cases c6 : (ji4) < (x0_1.length : Int)
     ·rw [if_pos c6] at H
      have c6b0 : decide ((ji4) < (x0_1.length : Int)) = true := decide_eq_true c6
      clear c6
      by_cases c7 : (rd x0_1 (ji4)) = a1
      ·rw [if_pos c7] at H
       obtain ⟨c7b0, c7b1⟩ := zq1 c7
       clear c7
       have c8b0 := eq_true (of_decide_eq_true za_ : 0 ≤ (ji4))
       by_cases c9 : (ji4) ≤ (x0_1.length : Int)
       ·rw [if_pos c9] at H
        have c9b0 := eq_true c9
        have c9b1 : decide ((ji4) ≤ (x0_1.length : Int)) = true := decide_eq_true c9
        clear c9
        obtain ⟨y337, hy337⟩ : ∃ y_ : List Int, y_ = (x0_1.take ((ji4) : Int).toNat) := ⟨_, rfl⟩
        replace H : (bytes_trimRightByte.l0 k1 y337 a1) = some r := by first | (rw [hy337]; with_reducible exact H) | (have H2_ := (Option.bind_some _ _).symm.trans H; rw [hy337]; with_reducible exact H2_) | (have H2_ := (Option.bind_some _ _).symm.trans H; with_reducible exact H2_) | with_reducible exact H | (rw [hy337]; exact H) | exact H
        have Ny337 := Aside0.mk hy337
        clear hy337
        have H' := Aside0.mk H
        clear H
        obtain ⟨Ao10, co10, eo10⟩ := Kd.V_slice HO_0.out
        subst eo10
        have p336 : 0 ≤ ((ji4) : Int) := of_decide_eq_true za_
        have q336 : (ji4) < (x0_1.length : Int) := of_decide_eq_true za_
        obtain ⟨ad336, e336, hx336_0⟩ := Kd.at_int (Kd.V_reads' HO_0.out).2.2 (ji4) p336 q336
        cases e336
        replace p336 := eq_true p336
        replace q336 := eq_true q336
        have q11 : ((ji4) : Int) ≤ ((x0_1.length : Int) : Int) := of_decide_eq_true za_
        obtain ⟨i011, hi011, _, hsz11, _⟩ := info_parts info5
        have hroom11 : x0_1.length ≤ co10 := (Kd.V_reads' HO_0.out).2.1
        have hC11 : Kd.F (Kd.int .u8) _ _ (some ad336) x0_1.length x0_1 := (Kd.V_at (base := w.heap.size) HO_0.out).2.2
        have hcut11 := cut_to (P := Tryd.prog) 26 5 .i64 Tryd.underlying26 hi011 (some ad336) x0_1.length co10 (ji4) (of_decide_eq_true za_) q11 hroom11
        have hr11 := Kd.F_take (m := ((ji4) : Int).toNat) hC11 (by omega)
        have hy11 : y337.length = ((ji4) : Int).toNat := (by rw [Ny337.out, List.length_take]; omega)
        rw [← Ny337.out] at hr11
        rw [← hy11] at hcut11
        have HO341 := Aside0.mk (show Kd.V (Kd.int .u8) 5 _ w.heap.size _ (.slice (some ad336) y337.length co10) y337 from Kd.V_mk (by omega) hr11)
        have HC341 := Aside0.mk (show y337.length ≤ co10 from by omega)
        clear hr11 hC11 hroom11 hi011 hsz11
        have KY11 := Aside0.mk hy11
        clear hy11
        replace q11 := eq_true q11
        go_wp2
        go_roundg k1
        case measure => have := HK1.out; omega
        case rel => exact ⟨(y337), H', ⟨by have := HK1.out; omega⟩, ⟨by (with_reducible repeat (first | apply Kd.V_alloc | apply Kd.V_drewN | apply Kd.V_drew)); exact HO341.out⟩, ⟨by exact zh0_ HB.out⟩⟩
       ·rw [if_neg c9] at H
        cases H
      ·rw [if_neg c7] at H
       obtain ⟨c7b0, c7b1⟩ := zq0 c7
       obtain rfl := Option.some.inj H
       obtain ⟨Ao12, co12, eo12⟩ := Kd.V_slice HO_0.out
       subst eo12
       have p336 : 0 ≤ ((ji4) : Int) := of_decide_eq_true za_
       have q336 : (ji4) < (x0_1.length : Int) := of_decide_eq_true za_
       obtain ⟨ad336, e336, hx336_0⟩ := Kd.at_int (Kd.V_reads' HO_0.out).2.2 (ji4) p336 q336
       cases e336
       replace p336 := eq_true p336
       replace q336 := eq_true q336
       go_wp2
       go_ret
       exact ⟨_, by first | rfl | (simp [errW_none, errW_some] <;> rfl) | (simp only [← hji4]; first | rfl | (simp [errW_none, errW_some] <;> rfl)) | (simp [*, errW_none, errW_some] <;> rfl), by (with_reducible repeat (first | apply Kd.V_alloc | apply Kd.V_drewN | apply Kd.V_drew)); exact HO_0.out, by exact zh0_ HB.out⟩
     ·rw [if_neg c6] at H
      cases H
    ·rw [if_neg c5] at H
     cases H
   ·rw [if_neg c3] at H
    have c3b0 : decide (0 < (x0_1.length : Int)) = false := decide_eq_false c3
    have c3b1 : decide (0 < x0_1.length) = false := decide_eq_false (by omega)
    clear c3
    obtain rfl := Option.some.inj H
    obtain ⟨Ao13, co13, eo13⟩ := Kd.V_slice HO_0.out
    subst eo13
    go_wp2
    go_ret
    exact ⟨_, by first | rfl | (simp [errW_none, errW_some] <;> rfl) | (simp [*, errW_none, errW_some] <;> rfl), by (with_reducible repeat (first | apply Kd.V_alloc | apply Kd.V_drewN | apply Kd.V_drew)); exact HO_0.out, by exact zh0_ HB.out⟩
end Go.Proofs.YtcbgichkeecgiaaDoor.Print
