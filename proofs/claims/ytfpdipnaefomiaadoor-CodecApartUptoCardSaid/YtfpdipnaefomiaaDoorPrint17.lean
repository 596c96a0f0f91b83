-- Printed for this claim by wip/xprint.py over the kit's printer. Not trusted: Lean checks it.
import Derived.Test.YtfpdipnaefomiaaDoorPrint0
import Derived.Test.YtfpdipnaefomiaaDoorPrint5
import Derived.Test.YtfpdipnaefomiaaDoorPrint15
import Derived.Test.YtfpdipnaefomiaaDoorPrint16
namespace Go.Proofs.YtfpdipnaefomiaaDoor.Print
open Go.RowKit Go.Proofs.YtfpdipnaefomiaaDoorW.PrintWords Go.Proofs.YtfpdipnaefomiaaDoorW.PrintLast Go.Proofs.YtfpdipnaefomiaaDoorW.PrintMore
attribute [local go_sem] max2_mx min2_mn max_two min_two max_three min_three max_four min_four   -- for this text's walks alone
set_option linter.unusedVariables false
set_option linter.unusedSimpArgs false

/-! ### codec_ReadText: function 30 -/
def codec_ReadText.f (k : Nat) (l0 : List Int) : Option (ByteArray × List Int × Int) := (codec_cursor_text.f k l0 0 1024).bind fun bt374 => ((codec_cursor_rest.f bt374.2.1 bt374.2.2).bind fun t379 => (some (strOfNums bt374.1, t379, bt374.2.2)))
theorem codec_ReadText.mono : ∀ a0 k, LeO (codec_ReadText.f k a0) (codec_ReadText.f (k + 1) a0) := by
  intro a0 k
  unfold codec_ReadText.f
  repeat' first
      | (with_reducible exact codec_cursor_text.mono _ _ _ _)
      | (with_reducible exact LeO.refl _)
      | (with_reducible exact LeO.none _)
      | (with_reducible refine LeO.ite ?_ ?_)
      | (with_reducible refine LeO.bind ?_ (fun _ => ?_))
      | exact codec_cursor_text.mono _ _ _ _
      | exact LeO.none _
      | refine LeO.ite ?_ ?_
      | refine LeO.bind ?_ (fun _ => ?_)
def codec_ReadText.T3 : Bool × List (List Nat × List Nat) := (true, [([], []), ([0], [0]), ([], []), ([], []), ([3], [3]), ([1, 2, 0, 1], [1]), ([2, 5, 0, 1, 2, 5], [2]), ([4, 6, 0, 1, 2, 3, 4, 5, 6], [4])])
def codec_ReadText.B3 : List Nat := [0, 1, 0, 0, 8, 7, 39, 127]
theorem codec_ReadText.tab3 : rtab .any (opsOf Tryd.f30 3) = codec_ReadText.T3 := by kernel_rfl
theorem codec_ReadText.bits3 : waitsOk codec_ReadText.T3.2 codec_ReadText.B3 = true := by kernel_rfl
set_option maxHeartbeats 8000000 in
set_option maxRecDepth 100000 in
theorem codec_ReadText.calls (k : Nat) (A0 : Option Addr) (c0 : Nat) (l0 : List Int) (r1 : ByteArray) (r2 : List Int) (r3 : Int) (w : World) (hr0 : Kd.C (Kd.int .u8) w A0 l0.length l0) (hc0 : l0.length ≤ c0) (h : codec_ReadText.f k l0 = some (r1, r2, r3)) :
    Calls Tryd.prog 30 #[.slice A0 l0.length c0] w fun e w' => ∃ v1_ : Value, e = .returned (.tuple #[.string r1, v1_, .int .i64 r3]) ∧ Kd.R (Kd.int .u8) 5 w' w.heap.size (fun _ => True) v1_ r2 ∧ Below w.heap.size w w' := by
  have hu66 := Tryd.underlying66
  have HR0 := Aside0.mk hr0
  have HC0 := Aside0.mk hc0
  clear hr0 hc0
  have HB := Aside0.mk (Below.refl w.heap.size w)
  have H : ((codec_cursor_text.f k l0 0 1024).bind fun bt374 => ((codec_cursor_rest.f bt374.2.1 bt374.2.2).bind fun t379 => (some (strOfNums bt374.1, t379, bt374.2.2)))) = some (r1, r2, r3) := h
  clear h
  replace H := Option.bind_eq_some_iff.mp H
  obtain ⟨⟨t374, t377, t378⟩, A20, H⟩ := H
  replace H : ((codec_cursor_rest.f t377 t378).bind fun t379 => (some (strOfNums t374, t379, t378))) = some (r1, r2, r3) := H
  have A2 := Aside0.mk A20
  clear A20
  replace H := Option.bind_eq_some_iff.mp H
  obtain ⟨t379, A30, H⟩ := H
  replace H : (some (strOfNums t374, t379, t378)) = some (r1, r2, r3) := H
  have A3 := Aside0.mk A30
  clear A30
  simp only [Option.some.injEq, Prod.mk.injEq] at H
  obtain ⟨rfl, rfl, rfl⟩ := H
  go_enter Tryd.func30, Tryd.ntmps30
  try go_wp2_with (first | ((with_reducible refine gate_dst (N := 5) rfl ?_); refine box_event ?hg (N := 5) ?hd (cs := #[.slice none 0 0, .int .i64 0]) (t := 66) ?hr ?_; (case hd => rfl); (case hg => rfl); (case hr => first | (go_simp; done) | (go_simp; rfl)); intro gb373 hg w4 hbox hb; have n0_ := Aside0.mk (below_step (by repeat (first | (with_reducible first | exact HB.out | apply below_alloc | apply pw_below_drewN | apply below_drew1) | exact HB.out)) hb); have n1_ := Aside0.mk (hbox); have n2_ := Aside0.mk ((by rw [hg]; exact (below_size (by repeat (first | (with_reducible first | exact HB.out | apply below_alloc | apply pw_below_drewN | apply below_drew1) | exact HB.out))) : w.heap.size ≤ gb373)); have n3_ := Aside0.mk ((by rw [hg]; exact (below_size (by repeat (first | (with_reducible first | exact HB.out | apply below_alloc | apply pw_below_drewN | apply below_drew1) | exact HB.out))) : w.heap.size ≤ gb373)); clear HB; have HB := n0_; have BK373 := n1_; have GW373 := n2_; have GE373 := n3_; clear n0_ n1_ n2_ n3_; clear hb hbox hg; have hcz5_0 : w4.cell? ⟨gb373, 0, none⟩ = some (.slice none 0 0) := (blk_cell BK373.out 0).trans rfl; have hcz5_1 : w4.cell? ⟨gb373, 1, none⟩ = some (.int .i64 0) := (blk_cell BK373.out 1).trans rfl; have hfz5_0 := blk_frozen BK373.out 0; have hfz5_1 := blk_frozen BK373.out 1) | ((with_reducible refine gate_callee (f := 45) rfl ?_); refine goesL_ (some 9) rfl rfl Tryd.func45 (by kernel_rfl) rfl #[.pointer (some ⟨gb373, 0, none⟩), .int .u64 1024] rfl (by (try simp only [List.map_toArray, List.map_cons, List.map_nil]); first | done | rfl | (simp only [List.length_drop, List.length_take]; rfl)) ?_; (with_reducible refine (codec_cursor_text.calls k gb373 A0 c0 l0 0 1024 t374 t377 t378 w _ ?side1 ?side2 ?side3 ?side4 ?side5 A2.out).mono ?_); (case side1 => exact by repeat (first | (with_reducible first | exact HB.out | apply below_alloc | apply pw_below_drewN | apply below_drew1 | refine below_set ?_ GE373.out) | exact HB.out)); (case side2 => exact GE373.out); (case side3 => exact by (with_reducible repeat (first | refine blk_drewN ?_ _ | refine blk_drew ?_ | refine blk_alloc ?_ _)); refine blk_put (cs := #[.slice A0 l0.length c0, .int .i64 0]) ?_ 1 _ (by first | rfl | (simp only [List.length_drop, List.length_take]; rfl)); (with_reducible repeat (first | refine blk_drewN ?_ _ | refine blk_drew ?_ | refine blk_alloc ?_ _)); refine blk_put (cs := #[.slice none 0 0, .int .i64 0]) ?_ 0 _ (by first | rfl | (simp only [List.length_drop, List.length_take]; rfl)); (with_reducible repeat (first | refine blk_drewN ?_ _ | refine blk_drew ?_ | refine blk_alloc ?_ _)); exact BK373.out); (case side4 => exact HR0.out); (case side5 => exact HC0.out); rintro e w6 ⟨v375, Ab377, cb377, rfl, ho0, hbk, hcrb377, hclb377, hb0, hkp⟩; refine ⟨_, rfl, ?_⟩; have n0_ := Aside0.mk (hbk); have n1_ := Aside0.mk (Kd.R_lower ho0 (below_size (by repeat (first | (with_reducible first | exact HB.out | apply below_alloc | apply pw_below_drewN | apply below_drew1 | refine below_set ?_ GE373.out) | exact HB.out)))); have n2_ := Aside0.mk (hcrb377); have n3_ := Aside0.mk (hclb377); have n4_ := Aside0.mk (hb0); clear BK373; clear HB; have BK373 := n0_; have HO376 := n1_; have HRb377 := n2_; have HCb377 := n3_; have HB := n4_; clear n0_ n1_ n2_ n3_ n4_; (try clear hb0); (try clear hkp); (try clear hbk); (try clear ho0); (try clear hcrb377); (try clear hclb377)))
  have n0_ := Aside0.mk (Kd.R_drew HO376.out)
  have n1_ := Aside0.mk (blk_drew BK373.out)
  have n2_ := Aside0.mk (below_drew1 HB.out)
  clear HO376
  clear BK373
  clear HB
  have HO376 := n0_
  have BK373 := n1_
  have HB := n2_
  clear n0_ n1_ n2_
  refine start_ (n := 8) (S := fun w' => w'.cell? ⟨gb373, 0, none⟩ = some (.slice Ab377 t377.length cb377) ∧ w'.cell? ⟨gb373, 1, none⟩ = some (.int .i64 t378) ∧ (convert 24 9 (v375)).run Tryd.prog w' = .ok (.string (strOfNums t374)) w') (ds := []) #[false, false, false, false, false, false, false, false] (by kernel_rfl) rfl rfl ⟨(blk_cell BK373.out 0).trans rfl, (blk_cell BK373.out 1).trans rfl, (own_string (P := Tryd.prog) Tryd.underlying24 Tryd.underlying5 Tryd.underlying9 (Kd.own_of_R HO376.out))⟩ (fun hHeld => ?_); refine with_tabW codec_ReadText.tab3 codec_ReadText.bits3 (fun HT_ HW_ => ?_)
  generalize w6.drew = w7 at HO376 BK373 HB hHeld ⊢
  refine pure_ (i := 0) (N := some 10) (v := ?_) (a' := ?_) #[true, false, false, false, false, false, false, false] rfl rfl (any_of HT_.out (by kernel_rfl)) (fun _ _ _ h => h) (Or.inl ⟨by rfl, ?_⟩) ?_ ?_
  rotate_left
  · intro w'
    go_simp
    with_reducible rfl
  rotate_left
  · simp only [Act.put, List.setIfInBounds_toArray, List.set_cons_zero, List.set_cons_succ, i64_w, i32_w]
    rfl
  refine pure_ (i := 3) (N := some 13) (v := ?_) (a' := ?_) #[true, false, false, true, false, false, false, false] rfl rfl (any_of HT_.out (by kernel_rfl)) (fun _ _ _ h => h) (Or.inl ⟨by rfl, ?_⟩) ?_ ?_
  rotate_left
  · intro w'
    go_simp
    with_reducible rfl
  rotate_left
  · simp only [Act.put, List.setIfInBounds_toArray, List.set_cons_zero, List.set_cons_succ, i64_w, i32_w]
    rfl
  refine take_ (i := 1) (N := some 11) (v := ?_) (a' := ?_) #[true, true, false, true, false, false, false, false] rfl rfl (take_ofW HT_.out HW_.out (by kernel_rfl)) (fun _ _ _ h => h) (Or.inl ⟨by rfl, ?_⟩) hHeld ?_ ?_
  rotate_left
  · rintro w' ⟨s0, s1, s2⟩
    go_simp
    with_reducible rfl
  rotate_left
  · simp only [Act.put, List.setIfInBounds_toArray, List.set_cons_zero, List.set_cons_succ, i64_w, i32_w]
    rfl
  refine take_ (i := 4) (N := some 14) (v := ?_) (a' := ?_) #[true, true, false, true, true, false, false, false] rfl rfl (take_ofW HT_.out HW_.out (by kernel_rfl)) (fun _ _ _ h => h) (Or.inl ⟨by rfl, ?_⟩) hHeld ?_ ?_
  rotate_left
  · rintro w' ⟨s0, s1, s2⟩
    go_simp
    with_reducible rfl
  rotate_left
  · simp only [Act.put, List.setIfInBounds_toArray, List.set_cons_zero, List.set_cons_succ, i64_w, i32_w]
    rfl
  refine one_ (i := 2) (N := some 12) #[true, true, true, true, true, false, false, false] rfl rfl (one_of HT_.out (by kernel_rfl)) (by decide) (fun K hK => ?_)
  refine goes_ Tryd.func44 (by kernel_rfl) rfl #[.pointer (some ⟨gb373, 0, none⟩)] (by rfl) rfl rfl (by (try simp only [List.map_toArray, List.map_cons, List.map_nil]); first | done | rfl | (simp only [List.length_drop, List.length_take]; rfl)) ?_
  with_reducible refine (codec_cursor_rest.calls gb373 Ab377 cb377 t377 t378 t379 _ ?side1 ?side2 ?side3 A3.out).mono ?_
  (case side1 => exact by (with_reducible repeat (first | refine blk_drewN ?_ _ | refine blk_drew ?_ | refine blk_alloc ?_ _)); exact BK373.out)
  (case side2 => repeat (first | exact (Kd.C_below HRb377.out HB.out) | (with_reducible refine Kd.C_alloc ?_ _) | (with_reducible refine Kd.C_drewN ?_ _) | (with_reducible refine Kd.C_drew ?_)))
  (case side3 => exact HCb377.out)
  rintro e w8 ⟨v380, rfl, ho0, hb⟩
  refine ⟨_, rfl, ?_⟩
  have n0_ := Aside0.mk (Kd.R_elder' (by (with_reducible repeat (first | apply Kd.R_alloc | apply Kd.R_drewN | apply Kd.R_drew)); exact HO376.out) (Kd.R_base ho0) hb)
  have n1_ := Aside0.mk (Kd.R_lower (Kd.R_new' ho0 (Kd.R_lt (by (with_reducible repeat (first | apply Kd.R_alloc | apply Kd.R_drewN | apply Kd.R_drew)); exact HO376.out))) (below_size (by repeat (first | (with_reducible first | exact HB.out | apply below_alloc | apply pw_below_drewN | apply below_drew1 | refine below_set ?_ GE373.out) | exact HB.out))))
  have n2_ := Aside0.mk (blk_below (g := gb373) (o := .cells #[.slice Ab377 t377.length cb377, .int .i64 t378] 66 (0, 0)) (by (with_reducible repeat (first | refine blk_drewN ?_ _ | refine blk_drew ?_ | refine blk_alloc ?_ _)); exact BK373.out) hb)
  have n3_ := Aside0.mk (below_step (by repeat (first | (with_reducible first | exact HB.out | apply below_alloc | apply pw_below_drewN | apply below_drew1 | refine below_set ?_ GE373.out) | exact HB.out)) hb)
  clear HO376
  clear BK373
  clear HB
  have HO376 := n0_
  have HO381 := n1_
  have BK373 := n2_
  have HB := n3_
  clear n0_ n1_ n2_ n3_
  (try clear hb)
  (try clear hb2)
  (try clear hk)
  (try clear hi)
  (try clear ho0)
  refine hK.out _ _ ⟨(blk_cell BK373.out 0).trans rfl, (blk_cell BK373.out 1).trans rfl, (own_string (P := Tryd.prog) Tryd.underlying24 Tryd.underlying5 Tryd.underlying9 (Kd.own_of_R HO376.out))⟩ (fun hHeld => ?_)
  clear hK K
  refine norm_ (a' := ?_) ?_ ?_
  rotate_left
  · show Act.put _ (some 12) _ = _
    simp only [Act.put, List.setIfInBounds_toArray, List.set_cons_zero, List.set_cons_succ, i64_w, i32_w]
    rfl
  refine pure_ (i := 5) (N := some 2) (v := ?_) (a' := ?_) #[true, true, true, true, true, true, false, false] rfl rfl (any_of HT_.out (by kernel_rfl)) (fun _ _ _ h => h) (Or.inl ⟨by rfl, ?_⟩) ?_ ?_
  rotate_left
  · intro w'
    go_simp
    with_reducible rfl
  rotate_left
  · simp only [Act.put, List.setIfInBounds_toArray, List.set_cons_zero, List.set_cons_succ, i64_w, i32_w]
    rfl
  refine pure_ (i := 6) (N := some 3) (v := ?_) (a' := ?_) #[true, true, true, true, true, true, true, false] rfl rfl (any_of HT_.out (by kernel_rfl)) (fun _ _ _ h => h) (Or.inl ⟨by rfl, ?_⟩) ?_ ?_
  rotate_left
  · intro w'
    go_simp
    with_reducible rfl
  rotate_left
  · simp only [Act.put, List.setIfInBounds_toArray, List.set_cons_zero, List.set_cons_succ, i64_w, i32_w]
    rfl
  refine pure_ (i := 7) (N := some 4) (v := ?_) (a' := ?_) #[true, true, true, true, true, true, true, true] rfl rfl (any_of HT_.out (by kernel_rfl)) (fun _ _ _ h => h) (Or.inl ⟨by rfl, ?_⟩) ?_ ?_
  rotate_left
  · intro w'
    go_simp
    with_reducible rfl
  rotate_left
  · simp only [Act.put, List.setIfInBounds_toArray, List.set_cons_zero, List.set_cons_succ, i64_w, i32_w]
    rfl
  refine done_ (done_of HT_.out (by kernel_rfl)) ?_
  try go_wp2
  go_ret3
  exact ⟨_, by first | rfl | (simp [errW_none, errW_some] <;> rfl) | (simp [*, errW_none, errW_some] <;> rfl), by (with_reducible repeat (first | apply Kd.R_alloc | apply Kd.R_drewN | apply Kd.R_drew)); exact Kd.R_mono HO381.out (fun _ hk => trivial), by repeat (first | (with_reducible first | exact HB.out | apply below_alloc | apply pw_below_drewN | apply below_drew1 | refine below_set ?_ GE373.out) | exact HB.out)⟩

/-! ### ladingref03_text: function 46 -/
def ladingref03_text.f (k : Nat) (l0 : List Int) (a1 : Int) : Option (ByteArray × List Int × Int) := (ladingref03_ReadNum.f k l0).bind fun bt382 => (if bt382.2.2 = 0 then (if bt382.1 > a1 then (some ((⟨#[]⟩ : ByteArray), ([] : List Int), 4)) else (if bt382.1 > (IntKind.u64.wrap ((bt382.2.1.length : Int))) then (some ((⟨#[]⟩ : ByteArray), ([] : List Int), 6)) else (if 0 ≤ bt382.1 then (if bt382.1 ≤ (bt382.2.1.length : Int) then (some (strOfNums (bt382.2.1.take (bt382.1 : Int).toNat), (bt382.2.1.drop (bt382.1 : Int).toNat), 0)) else (none)) else (none)))) else (some ((⟨#[]⟩ : ByteArray), ([] : List Int), bt382.2.2)))
theorem ladingref03_text.mono : ∀ a0 a1 k, LeO (ladingref03_text.f k a0 a1) (ladingref03_text.f (k + 1) a0 a1) := by
  intro a0 a1 k
  unfold ladingref03_text.f
  repeat' first
      | (with_reducible exact ladingref03_ReadNum.mono _ _)
      | (with_reducible exact LeO.refl _)
      | (with_reducible exact LeO.none _)
      | (with_reducible refine LeO.ite ?_ ?_)
      | (with_reducible refine LeO.bind ?_ (fun _ => ?_))
      | exact ladingref03_ReadNum.mono _ _
      | exact LeO.none _
      | refine LeO.ite ?_ ?_
      | refine LeO.bind ?_ (fun _ => ?_)
set_option maxHeartbeats 8000000 in
set_option maxRecDepth 100000 in
theorem ladingref03_text.calls (k : Nat) (A0 : Option Addr) (c0 : Nat) (l0 : List Int) (a1 : Int) (r1 : ByteArray) (r2 : List Int) (r3 : Int) (w : World) (hr0 : Kd.C (Kd.int .u8) w A0 l0.length l0) (hc0 : l0.length ≤ c0) (h : ladingref03_text.f k l0 a1 = some (r1, r2, r3)) :
    Calls Tryd.prog 46 #[.slice A0 l0.length c0, .int .u64 a1] w fun e w' => ∃ v1_ : Value, e = .returned (.tuple #[.string r1, v1_, .int .i64 r3]) ∧ Kd.Q (Kd.int .u8) 5 w' w.heap.size (fun _ => True) v1_ r2 ∧ Below w.heap.size w w' := by
  have HR0 := Aside0.mk hr0
  have HC0 := Aside0.mk hc0
  clear hr0 hc0
  have HB := Aside0.mk (Below.refl w.heap.size w)
  have H : ((ladingref03_ReadNum.f k l0).bind fun bt382 => (if bt382.2.2 = 0 then (if bt382.1 > a1 then (some ((⟨#[]⟩ : ByteArray), ([] : List Int), 4)) else (if bt382.1 > (IntKind.u64.wrap ((bt382.2.1.length : Int))) then (some ((⟨#[]⟩ : ByteArray), ([] : List Int), 6)) else (if 0 ≤ bt382.1 then (if bt382.1 ≤ (bt382.2.1.length : Int) then (some (strOfNums (bt382.2.1.take (bt382.1 : Int).toNat), (bt382.2.1.drop (bt382.1 : Int).toNat), 0)) else (none)) else (none)))) else (some ((⟨#[]⟩ : ByteArray), ([] : List Int), bt382.2.2)))) = some (r1, r2, r3) := h
  clear h
  replace H := Option.bind_eq_some_iff.mp H
  obtain ⟨⟨t382, t383, t384⟩, A30, H⟩ := H
  replace H : (if t384 = 0 then (if t382 > a1 then (some ((⟨#[]⟩ : ByteArray), ([] : List Int), 4)) else (if t382 > (IntKind.u64.wrap ((t383.length : Int))) then (some ((⟨#[]⟩ : ByteArray), ([] : List Int), 6)) else (if 0 ≤ t382 then (if t382 ≤ (t383.length : Int) then (some (strOfNums (t383.take (t382 : Int).toNat), (t383.drop (t382 : Int).toNat), 0)) else (none)) else (none)))) else (some ((⟨#[]⟩ : ByteArray), ([] : List Int), t384))) = some (r1, r2, r3) := H
  have A3 := Aside0.mk A30
  clear A30
  by_cases c4 : t384 = 0
  · rw [if_pos c4] at H
    have c4b0 : (t384 == 0) = true := beq_iff_eq.mpr c4
    have c4b1 : (t384 != 0) = false := bne_eq_false_iff_eq.mpr c4
    clear c4
    by_cases c5 : t382 > a1
    · rw [if_pos c5] at H
      have c5b0 : decide (a1 < t382) = true := decide_eq_true c5
      clear c5
      simp only [Option.some.injEq, Prod.mk.injEq] at H
      obtain ⟨rfl, rfl, rfl⟩ := H
      go_enter Tryd.func46, Tryd.ntmps46
      go_wp2_with (first | (go_at_call 27; (with_reducible refine (ladingref03_ReadNum.calls k _ _ l0 t382 t383 t384 _ ?side1 ?side2 A3.out).mono ?_); (case side1 => repeat (first | exact HR0.out | (with_reducible refine Kd.C_alloc ?_ _) | (with_reducible refine Kd.C_drewN ?_ _) | (with_reducible refine Kd.C_drew ?_))); (case side2 => exact HC0.out); rintro e w6 ⟨v385, rfl, ho0, hb⟩; have n0_ := Aside0.mk (Kd.R_lower ho0 (below_size (by repeat (first | (with_reducible first | exact HB.out | apply below_alloc | apply pw_below_drewN | apply below_drew1) | exact HB.out)))); have n1_ := Aside0.mk (below_step (by repeat (first | (with_reducible first | exact HB.out | apply below_alloc | apply pw_below_drewN | apply below_drew1) | exact HB.out)) hb); clear HB; have HO386 := n0_; have HB := n1_; clear n0_ n1_; (try clear hb); (try clear hb2); (try clear hk); (try clear hi); (try clear ho0)))
      repeat (go_quiet (first | (go_at_call 27; (with_reducible refine (ladingref03_ReadNum.calls k _ _ l0 t382 t383 t384 _ ?side1 ?side2 A3.out).mono ?_); (case side1 => repeat (first | exact HR0.out | (with_reducible refine Kd.C_alloc ?_ _) | (with_reducible refine Kd.C_drewN ?_ _) | (with_reducible refine Kd.C_drew ?_))); (case side2 => exact HC0.out); rintro e w6 ⟨v385, rfl, ho0, hb⟩; have n0_ := Aside0.mk (Kd.R_lower ho0 (below_size (by repeat (first | (with_reducible first | exact HB.out | apply below_alloc | apply pw_below_drewN | apply below_drew1) | exact HB.out)))); have n1_ := Aside0.mk (below_step (by repeat (first | (with_reducible first | exact HB.out | apply below_alloc | apply pw_below_drewN | apply below_drew1) | exact HB.out)) hb); clear HB; have HO386 := n0_; have HB := n1_; clear n0_ n1_; (try clear hb); (try clear hb2); (try clear hk); (try clear hi); (try clear ho0))); try go_wp2_with (first | (go_at_call 27; (with_reducible refine (ladingref03_ReadNum.calls k _ _ l0 t382 t383 t384 _ ?side1 ?side2 A3.out).mono ?_); (case side1 => repeat (first | exact HR0.out | (with_reducible refine Kd.C_alloc ?_ _) | (with_reducible refine Kd.C_drewN ?_ _) | (with_reducible refine Kd.C_drew ?_))); (case side2 => exact HC0.out); rintro e w6 ⟨v385, rfl, ho0, hb⟩; have n0_ := Aside0.mk (Kd.R_lower ho0 (below_size (by repeat (first | (with_reducible first | exact HB.out | apply below_alloc | apply pw_below_drewN | apply below_drew1) | exact HB.out)))); have n1_ := Aside0.mk (below_step (by repeat (first | (with_reducible first | exact HB.out | apply below_alloc | apply pw_below_drewN | apply below_drew1) | exact HB.out)) hb); clear HB; have HO386 := n0_; have HB := n1_; clear n0_ n1_; (try clear hb); (try clear hb2); (try clear hk); (try clear hi); (try clear ho0))))
      go_ret3
      exact ⟨_, by first | rfl | (simp [errW_none, errW_some] <;> rfl) | (simp [*, errW_none, errW_some] <;> rfl), Kd.Q_of_R (by first | exact Kd.R_nil _ _ _ _ _ | exact Kd.N_nil _ _ _ _ _ | exact Kd.V_nil _ _ _ _ _ | exact Kd.Q_nil _ _ _ _ _ | exact Kd.S_nil _ _ _ _ _), by repeat (first | (with_reducible first | exact HB.out | apply below_alloc | apply pw_below_drewN | apply below_drew1) | exact HB.out)⟩
    · rw [if_neg c5] at H
      have c5b0 : decide (a1 < t382) = false := decide_eq_false c5
      clear c5
      by_cases c7 : t382 > (IntKind.u64.wrap ((t383.length : Int)))
      · rw [if_pos c7] at H
        have c7b0 : decide ((IntKind.u64.wrap ((t383.length : Int))) < t382) = true := decide_eq_true c7
        clear c7
        simp only [Option.some.injEq, Prod.mk.injEq] at H
        obtain ⟨rfl, rfl, rfl⟩ := H
        go_enter Tryd.func46, Tryd.ntmps46
        go_wp2_with (first | (go_at_call 27; (with_reducible refine (ladingref03_ReadNum.calls k _ _ l0 t382 t383 t384 _ ?side1 ?side2 A3.out).mono ?_); (case side1 => repeat (first | exact HR0.out | (with_reducible refine Kd.C_alloc ?_ _) | (with_reducible refine Kd.C_drewN ?_ _) | (with_reducible refine Kd.C_drew ?_))); (case side2 => exact HC0.out); rintro e w8 ⟨v385, rfl, ho0, hb⟩; have n0_ := Aside0.mk (Kd.R_lower ho0 (below_size (by repeat (first | (with_reducible first | exact HB.out | apply below_alloc | apply pw_below_drewN | apply below_drew1) | exact HB.out)))); have n1_ := Aside0.mk (below_step (by repeat (first | (with_reducible first | exact HB.out | apply below_alloc | apply pw_below_drewN | apply below_drew1) | exact HB.out)) hb); clear HB; have HO386 := n0_; have HB := n1_; clear n0_ n1_; (try clear hb); (try clear hb2); (try clear hk); (try clear hi); (try clear ho0); obtain ⟨Ao9, co9, eo9⟩ := Kd.R_slice HO386.out; subst eo9))
        repeat (go_quiet (first | (go_at_call 27; (with_reducible refine (ladingref03_ReadNum.calls k _ _ l0 t382 t383 t384 _ ?side1 ?side2 A3.out).mono ?_); (case side1 => repeat (first | exact HR0.out | (with_reducible refine Kd.C_alloc ?_ _) | (with_reducible refine Kd.C_drewN ?_ _) | (with_reducible refine Kd.C_drew ?_))); (case side2 => exact HC0.out); rintro e w8 ⟨v385, rfl, ho0, hb⟩; have n0_ := Aside0.mk (Kd.R_lower ho0 (below_size (by repeat (first | (with_reducible first | exact HB.out | apply below_alloc | apply pw_below_drewN | apply below_drew1) | exact HB.out)))); have n1_ := Aside0.mk (below_step (by repeat (first | (with_reducible first | exact HB.out | apply below_alloc | apply pw_below_drewN | apply below_drew1) | exact HB.out)) hb); clear HB; have HO386 := n0_; have HB := n1_; clear n0_ n1_; (try clear hb); (try clear hb2); (try clear hk); (try clear hi); (try clear ho0); obtain ⟨Ao9, co9, eo9⟩ := Kd.R_slice HO386.out; subst eo9)); try go_wp2_with (first | (go_at_call 27; (with_reducible refine (ladingref03_ReadNum.calls k _ _ l0 t382 t383 t384 _ ?side1 ?side2 A3.out).mono ?_); (case side1 => repeat (first | exact HR0.out | (with_reducible refine Kd.C_alloc ?_ _) | (with_reducible refine Kd.C_drewN ?_ _) | (with_reducible refine Kd.C_drew ?_))); (case side2 => exact HC0.out); rintro e w8 ⟨v385, rfl, ho0, hb⟩; have n0_ := Aside0.mk (Kd.R_lower ho0 (below_size (by repeat (first | (with_reducible first | exact HB.out | apply below_alloc | apply pw_below_drewN | apply below_drew1) | exact HB.out)))); have n1_ := Aside0.mk (below_step (by repeat (first | (with_reducible first | exact HB.out | apply below_alloc | apply pw_below_drewN | apply below_drew1) | exact HB.out)) hb); clear HB; have HO386 := n0_; have HB := n1_; clear n0_ n1_; (try clear hb); (try clear hb2); (try clear hk); (try clear hi); (try clear ho0); obtain ⟨Ao9, co9, eo9⟩ := Kd.R_slice HO386.out; subst eo9)))
        go_ret3
        exact ⟨_, by first | rfl | (simp [errW_none, errW_some] <;> rfl) | (simp [*, errW_none, errW_some] <;> rfl), Kd.Q_of_R (by first | exact Kd.R_nil _ _ _ _ _ | exact Kd.N_nil _ _ _ _ _ | exact Kd.V_nil _ _ _ _ _ | exact Kd.Q_nil _ _ _ _ _ | exact Kd.S_nil _ _ _ _ _), by repeat (first | (with_reducible first | exact HB.out | apply below_alloc | apply pw_below_drewN | apply below_drew1) | exact HB.out)⟩
      · rw [if_neg c7] at H
        have c7b0 : decide ((IntKind.u64.wrap ((t383.length : Int))) < t382) = false := decide_eq_false c7
        clear c7
        by_cases c10 : 0 ≤ t382
        · rw [if_pos c10] at H
          have c10b0 := eq_true c10
          have c10b1 : decide (0 ≤ t382) = true := decide_eq_true c10
          clear c10
          by_cases c11 : t382 ≤ (t383.length : Int)
          · rw [if_pos c11] at H
            have c11b0 := eq_true c11
            have c11b1 : decide (t382 ≤ (t383.length : Int)) = true := decide_eq_true c11
            clear c11
            obtain ⟨y387, hy387⟩ : ∃ y_ : List Int, y_ = (t383.take (t382 : Int).toNat) := ⟨_, rfl⟩
            replace H : (some (strOfNums y387, (t383.drop (t382 : Int).toNat), 0)) = some (r1, r2, r3) := by first | (rw [hy387]; with_reducible exact H) | (have H2_ := (Option.bind_some _ _).symm.trans H; rw [hy387]; with_reducible exact H2_) | (have H2_ := (Option.bind_some _ _).symm.trans H; with_reducible exact H2_) | with_reducible exact H | (rw [hy387]; exact H) | exact H
            have Ny387 := Aside0.mk hy387
            clear hy387
            have c12b0 := eq_true (of_decide_eq_true (by first | (with_reducible assumption) | assumption) : t382 ≤ (t383.length : Int))
            obtain ⟨y391, hy391⟩ : ∃ y_ : List Int, y_ = (t383.drop (t382 : Int).toNat) := ⟨_, rfl⟩
            replace H : (some (strOfNums y387, y391, 0)) = some (r1, r2, r3) := by first | (rw [hy391]; with_reducible exact H) | (have H2_ := (Option.bind_some _ _).symm.trans H; rw [hy391]; with_reducible exact H2_) | (have H2_ := (Option.bind_some _ _).symm.trans H; with_reducible exact H2_) | with_reducible exact H | (rw [hy391]; exact H) | exact H
            have Ny391 := Aside0.mk hy391
            clear hy391
            simp only [Option.some.injEq, Prod.mk.injEq] at H
            obtain ⟨rfl, rfl, rfl⟩ := H
            go_enter Tryd.func46, Tryd.ntmps46
            go_wp2_with (first | (go_at_call 27; (with_reducible refine (ladingref03_ReadNum.calls k _ _ l0 t382 t383 t384 _ ?side1 ?side2 A3.out).mono ?_); (case side1 => repeat (first | exact HR0.out | (with_reducible refine Kd.C_alloc ?_ _) | (with_reducible refine Kd.C_drewN ?_ _) | (with_reducible refine Kd.C_drew ?_))); (case side2 => exact HC0.out); rintro e w13 ⟨v385, rfl, ho0, hb⟩; have n0_ := Aside0.mk (Kd.R_lower ho0 (below_size (by repeat (first | (with_reducible first | exact HB.out | apply below_alloc | apply pw_below_drewN | apply below_drew1) | exact HB.out)))); have n1_ := Aside0.mk (below_step (by repeat (first | (with_reducible first | exact HB.out | apply below_alloc | apply pw_below_drewN | apply below_drew1) | exact HB.out)) hb); clear HB; have HO386 := n0_; have HB := n1_; clear n0_ n1_; (try clear hb); (try clear hb2); (try clear hk); (try clear hi); (try clear ho0); obtain ⟨Ao14, co14, eo14⟩ := Kd.R_slice HO386.out; subst eo14; have q15 : (t382 : Int) ≤ ((t383.length : Int) : Int) := of_decide_eq_true (by first | (with_reducible assumption) | assumption); obtain ⟨i015, hi015, _, hsz15, _⟩ := info_parts info5; have hroom15 : t383.length ≤ co14 := (Kd.R_reads' HO386.out).2.1; have hC15 : Kd.C (Kd.int .u8) _ Ao14 t383.length t383 := (Kd.R_reads' HO386.out).2.2; have hcut15 := cut_to (P := Tryd.prog) 24 5 .u64 Tryd.underlying24 hi015 Ao14 t383.length co14 t382 (of_decide_eq_true (by first | (with_reducible assumption) | assumption)) q15 hroom15; have hr15 := Kd.C_take (m := (t382 : Int).toNat) hC15 (by omega); have hy15 : y387.length = (t382 : Int).toNat := (by rw [Ny387.out, List.length_take]; omega); rw [← Ny387.out] at hr15; rw [← hy15] at hcut15; have HR390 := Aside0.mk hr15; have HC390 := Aside0.mk (show y387.length ≤ co14 from by omega); clear hr15 hC15 hroom15 hi015 hsz15; have KY15 := Aside0.mk hy15; clear hy15; have KL15 := Aside0.mk (show (t382 : Int).toNat ≤ t383.length from by omega); replace q15 := eq_true q15; have hcv16 := Kd.C_string (P := Tryd.prog) (A := Ao14) (c := co14) Tryd.underlying24 Tryd.underlying5 Tryd.underlying9 (by repeat (first | (with_reducible exact HR390.out) | (with_reducible refine Kd.C_alloc ?_ _) | (with_reducible refine Kd.C_drewN ?_ _) | (with_reducible refine Kd.C_drew ?_) | exact HR390.out)); have hcw17 := fun n_ : Nat => Kd.C_string (P := Tryd.prog) (A := Ao14) (c := co14) Tryd.underlying24 Tryd.underlying5 Tryd.underlying9 (Kd.C_drewN (by repeat (first | (with_reducible exact HR390.out) | (with_reducible refine Kd.C_alloc ?_ _) | (with_reducible refine Kd.C_drewN ?_ _) | (with_reducible refine Kd.C_drew ?_) | exact HR390.out)) n_); have q18 : (t382 : Int) ≤ ((t383.length : Int) : Int) := of_decide_eq_true (by first | (with_reducible assumption) | assumption); obtain ⟨i018, hi018, _, hsz18, _⟩ := info_parts info5; have hcut18 := cut_from (P := Tryd.prog) 24 5 .u64 Tryd.underlying24 hi018 1 hsz18 Ao14 t383.length co14 t382 (of_decide_eq_true (by first | (with_reducible assumption) | assumption)) q18; have hr18 := Kd.Q_drop (k := (t382 : Int).toNat) (Kd.Q_of_R HO386.out) (by omega); obtain ⟨A18, hA18⟩ : ∃ Az_, Az_ = (if co14 = (t382 : Int).toNat then Ao14 else (Ao14 : Option Addr).map (·.add ((t382 : Int).toNat * 1))) := ⟨_, rfl⟩; obtain ⟨c18, hc18⟩ : ∃ cz_, cz_ = co14 - (t382 : Int).toNat := ⟨_, rfl⟩; have hy18 : y391.length = t383.length - (t382 : Int).toNat := (by rw [Ny391.out, List.length_drop]); rw [← Ny391.out] at hr18; rw [← hy18, ← hA18, ← hc18] at hcut18; replace hr18 : Kd.Q (Kd.int .u8) 5 w13 w.heap.size (fun _ => True) (.slice A18 y391.length c18) y391 := (by rw [hA18, hc18, hy18]; exact hr18); have HE18 : Aside0 ((Value.slice A18 y391.length c18).ownBlock = (.slice Ao14 t383.length co14 : Value).ownBlock) := ⟨by rw [hA18]; split <;> (cases (Ao14 : Option Addr) <;> first | rfl | simp [Value.ownBlock, add_block])⟩; clear hy18 hi018 hsz18 HO386 hA18 hc18; have HO393 := Aside0.mk hr18; clear hr18; replace q18 := eq_true q18))
            repeat (go_quiet (first | (go_at_call 27; (with_reducible refine (ladingref03_ReadNum.calls k _ _ l0 t382 t383 t384 _ ?side1 ?side2 A3.out).mono ?_); (case side1 => repeat (first | exact HR0.out | (with_reducible refine Kd.C_alloc ?_ _) | (with_reducible refine Kd.C_drewN ?_ _) | (with_reducible refine Kd.C_drew ?_))); (case side2 => exact HC0.out); rintro e w13 ⟨v385, rfl, ho0, hb⟩; have n0_ := Aside0.mk (Kd.R_lower ho0 (below_size (by repeat (first | (with_reducible first | exact HB.out | apply below_alloc | apply pw_below_drewN | apply below_drew1) | exact HB.out)))); have n1_ := Aside0.mk (below_step (by repeat (first | (with_reducible first | exact HB.out | apply below_alloc | apply pw_below_drewN | apply below_drew1) | exact HB.out)) hb); clear HB; have HO386 := n0_; have HB := n1_; clear n0_ n1_; (try clear hb); (try clear hb2); (try clear hk); (try clear hi); (try clear ho0); obtain ⟨Ao14, co14, eo14⟩ := Kd.R_slice HO386.out; subst eo14; have q15 : (t382 : Int) ≤ ((t383.length : Int) : Int) := of_decide_eq_true (by first | (with_reducible assumption) | assumption); obtain ⟨i015, hi015, _, hsz15, _⟩ := info_parts info5; have hroom15 : t383.length ≤ co14 := (Kd.R_reads' HO386.out).2.1; have hC15 : Kd.C (Kd.int .u8) _ Ao14 t383.length t383 := (Kd.R_reads' HO386.out).2.2; have hcut15 := cut_to (P := Tryd.prog) 24 5 .u64 Tryd.underlying24 hi015 Ao14 t383.length co14 t382 (of_decide_eq_true (by first | (with_reducible assumption) | assumption)) q15 hroom15; have hr15 := Kd.C_take (m := (t382 : Int).toNat) hC15 (by omega); have hy15 : y387.length = (t382 : Int).toNat := (by rw [Ny387.out, List.length_take]; omega); rw [← Ny387.out] at hr15; rw [← hy15] at hcut15; have HR390 := Aside0.mk hr15; have HC390 := Aside0.mk (show y387.length ≤ co14 from by omega); clear hr15 hC15 hroom15 hi015 hsz15; have KY15 := Aside0.mk hy15; clear hy15; have KL15 := Aside0.mk (show (t382 : Int).toNat ≤ t383.length from by omega); replace q15 := eq_true q15; have hcv16 := Kd.C_string (P := Tryd.prog) (A := Ao14) (c := co14) Tryd.underlying24 Tryd.underlying5 Tryd.underlying9 (by repeat (first | (with_reducible exact HR390.out) | (with_reducible refine Kd.C_alloc ?_ _) | (with_reducible refine Kd.C_drewN ?_ _) | (with_reducible refine Kd.C_drew ?_) | exact HR390.out)); have hcw17 := fun n_ : Nat => Kd.C_string (P := Tryd.prog) (A := Ao14) (c := co14) Tryd.underlying24 Tryd.underlying5 Tryd.underlying9 (Kd.C_drewN (by repeat (first | (with_reducible exact HR390.out) | (with_reducible refine Kd.C_alloc ?_ _) | (with_reducible refine Kd.C_drewN ?_ _) | (with_reducible refine Kd.C_drew ?_) | exact HR390.out)) n_); have q18 : (t382 : Int) ≤ ((t383.length : Int) : Int) := of_decide_eq_true (by first | (with_reducible assumption) | assumption); obtain ⟨i018, hi018, _, hsz18, _⟩ := info_parts info5; have hcut18 := cut_from (P := Tryd.prog) 24 5 .u64 Tryd.underlying24 hi018 1 hsz18 Ao14 t383.length co14 t382 (of_decide_eq_true (by first | (with_reducible assumption) | assumption)) q18; have hr18 := Kd.Q_drop (k := (t382 : Int).toNat) (Kd.Q_of_R HO386.out) (by omega); obtain ⟨A18, hA18⟩ : ∃ Az_, Az_ = (if co14 = (t382 : Int).toNat then Ao14 else (Ao14 : Option Addr).map (·.add ((t382 : Int).toNat * 1))) := ⟨_, rfl⟩; obtain ⟨c18, hc18⟩ : ∃ cz_, cz_ = co14 - (t382 : Int).toNat := ⟨_, rfl⟩; have hy18 : y391.length = t383.length - (t382 : Int).toNat := (by rw [Ny391.out, List.length_drop]); rw [← Ny391.out] at hr18; rw [← hy18, ← hA18, ← hc18] at hcut18; replace hr18 : Kd.Q (Kd.int .u8) 5 w13 w.heap.size (fun _ => True) (.slice A18 y391.length c18) y391 := (by rw [hA18, hc18, hy18]; exact hr18); have HE18 : Aside0 ((Value.slice A18 y391.length c18).ownBlock = (.slice Ao14 t383.length co14 : Value).ownBlock) := ⟨by rw [hA18]; split <;> (cases (Ao14 : Option Addr) <;> first | rfl | simp [Value.ownBlock, add_block])⟩; clear hy18 hi018 hsz18 HO386 hA18 hc18; have HO393 := Aside0.mk hr18; clear hr18; replace q18 := eq_true q18)); try go_wp2_with (first | (go_at_call 27; (with_reducible refine (ladingref03_ReadNum.calls k _ _ l0 t382 t383 t384 _ ?side1 ?side2 A3.out).mono ?_); (case side1 => repeat (first | exact HR0.out | (with_reducible refine Kd.C_alloc ?_ _) | (with_reducible refine Kd.C_drewN ?_ _) | (with_reducible refine Kd.C_drew ?_))); (case side2 => exact HC0.out); rintro e w13 ⟨v385, rfl, ho0, hb⟩; have n0_ := Aside0.mk (Kd.R_lower ho0 (below_size (by repeat (first | (with_reducible first | exact HB.out | apply below_alloc | apply pw_below_drewN | apply below_drew1) | exact HB.out)))); have n1_ := Aside0.mk (below_step (by repeat (first | (with_reducible first | exact HB.out | apply below_alloc | apply pw_below_drewN | apply below_drew1) | exact HB.out)) hb); clear HB; have HO386 := n0_; have HB := n1_; clear n0_ n1_; (try clear hb); (try clear hb2); (try clear hk); (try clear hi); (try clear ho0); obtain ⟨Ao14, co14, eo14⟩ := Kd.R_slice HO386.out; subst eo14; have q15 : (t382 : Int) ≤ ((t383.length : Int) : Int) := of_decide_eq_true (by first | (with_reducible assumption) | assumption); obtain ⟨i015, hi015, _, hsz15, _⟩ := info_parts info5; have hroom15 : t383.length ≤ co14 := (Kd.R_reads' HO386.out).2.1; have hC15 : Kd.C (Kd.int .u8) _ Ao14 t383.length t383 := (Kd.R_reads' HO386.out).2.2; have hcut15 := cut_to (P := Tryd.prog) 24 5 .u64 Tryd.underlying24 hi015 Ao14 t383.length co14 t382 (of_decide_eq_true (by first | (with_reducible assumption) | assumption)) q15 hroom15; have hr15 := Kd.C_take (m := (t382 : Int).toNat) hC15 (by omega); have hy15 : y387.length = (t382 : Int).toNat := (by rw [Ny387.out, List.length_take]; omega); rw [← Ny387.out] at hr15; rw [← hy15] at hcut15; have HR390 := Aside0.mk hr15; have HC390 := Aside0.mk (show y387.length ≤ co14 from by omega); clear hr15 hC15 hroom15 hi015 hsz15; have KY15 := Aside0.mk hy15; clear hy15; have KL15 := Aside0.mk (show (t382 : Int).toNat ≤ t383.length from by omega); replace q15 := eq_true q15; have hcv16 := Kd.C_string (P := Tryd.prog) (A := Ao14) (c := co14) Tryd.underlying24 Tryd.underlying5 Tryd.underlying9 (by repeat (first | (with_reducible exact HR390.out) | (with_reducible refine Kd.C_alloc ?_ _) | (with_reducible refine Kd.C_drewN ?_ _) | (with_reducible refine Kd.C_drew ?_) | exact HR390.out)); have hcw17 := fun n_ : Nat => Kd.C_string (P := Tryd.prog) (A := Ao14) (c := co14) Tryd.underlying24 Tryd.underlying5 Tryd.underlying9 (Kd.C_drewN (by repeat (first | (with_reducible exact HR390.out) | (with_reducible refine Kd.C_alloc ?_ _) | (with_reducible refine Kd.C_drewN ?_ _) | (with_reducible refine Kd.C_drew ?_) | exact HR390.out)) n_); have q18 : (t382 : Int) ≤ ((t383.length : Int) : Int) := of_decide_eq_true (by first | (with_reducible assumption) | assumption); obtain ⟨i018, hi018, _, hsz18, _⟩ := info_parts info5; have hcut18 := cut_from (P := Tryd.prog) 24 5 .u64 Tryd.underlying24 hi018 1 hsz18 Ao14 t383.length co14 t382 (of_decide_eq_true (by first | (with_reducible assumption) | assumption)) q18; have hr18 := Kd.Q_drop (k := (t382 : Int).toNat) (Kd.Q_of_R HO386.out) (by omega); obtain ⟨A18, hA18⟩ : ∃ Az_, Az_ = (if co14 = (t382 : Int).toNat then Ao14 else (Ao14 : Option Addr).map (·.add ((t382 : Int).toNat * 1))) := ⟨_, rfl⟩; obtain ⟨c18, hc18⟩ : ∃ cz_, cz_ = co14 - (t382 : Int).toNat := ⟨_, rfl⟩; have hy18 : y391.length = t383.length - (t382 : Int).toNat := (by rw [Ny391.out, List.length_drop]); rw [← Ny391.out] at hr18; rw [← hy18, ← hA18, ← hc18] at hcut18; replace hr18 : Kd.Q (Kd.int .u8) 5 w13 w.heap.size (fun _ => True) (.slice A18 y391.length c18) y391 := (by rw [hA18, hc18, hy18]; exact hr18); have HE18 : Aside0 ((Value.slice A18 y391.length c18).ownBlock = (.slice Ao14 t383.length co14 : Value).ownBlock) := ⟨by rw [hA18]; split <;> (cases (Ao14 : Option Addr) <;> first | rfl | simp [Value.ownBlock, add_block])⟩; clear hy18 hi018 hsz18 HO386 hA18 hc18; have HO393 := Aside0.mk hr18; clear hr18; replace q18 := eq_true q18)))
            go_ret3
            exact ⟨_, by first | rfl | (simp [errW_none, errW_some] <;> rfl) | (simp [*, errW_none, errW_some] <;> rfl), by (with_reducible repeat (first | apply Kd.Q_alloc | apply Kd.Q_drewN | apply Kd.Q_drew)); exact HO393.out, by repeat (first | (with_reducible first | exact HB.out | apply below_alloc | apply pw_below_drewN | apply below_drew1) | exact HB.out)⟩
          · rw [if_neg c11] at H
            exact absurd H (by simp)
        · rw [if_neg c10] at H
          exact absurd H (by simp)
  · rw [if_neg c4] at H
    have c4b0 : (t384 == 0) = false := beq_eq_false_iff_ne.mpr c4
    have c4b1 : (t384 != 0) = true := bne_iff_ne.mpr c4
    simp only [Option.some.injEq, Prod.mk.injEq] at H
    obtain ⟨rfl, rfl, rfl⟩ := H
    go_enter Tryd.func46, Tryd.ntmps46
    go_wp2_with (first | (go_at_call 27; (with_reducible refine (ladingref03_ReadNum.calls k _ _ l0 t382 t383 t384 _ ?side1 ?side2 A3.out).mono ?_); (case side1 => repeat (first | exact HR0.out | (with_reducible refine Kd.C_alloc ?_ _) | (with_reducible refine Kd.C_drewN ?_ _) | (with_reducible refine Kd.C_drew ?_))); (case side2 => exact HC0.out); rintro e w19 ⟨v385, rfl, ho0, hb⟩; have n0_ := Aside0.mk (Kd.R_lower ho0 (below_size (by repeat (first | (with_reducible first | exact HB.out | apply below_alloc | apply pw_below_drewN | apply below_drew1) | exact HB.out)))); have n1_ := Aside0.mk (below_step (by repeat (first | (with_reducible first | exact HB.out | apply below_alloc | apply pw_below_drewN | apply below_drew1) | exact HB.out)) hb); clear HB; have HO386 := n0_; have HB := n1_; clear n0_ n1_; (try clear hb); (try clear hb2); (try clear hk); (try clear hi); (try clear ho0)))
    repeat (go_quiet (first | (go_at_call 27; (with_reducible refine (ladingref03_ReadNum.calls k _ _ l0 t382 t383 t384 _ ?side1 ?side2 A3.out).mono ?_); (case side1 => repeat (first | exact HR0.out | (with_reducible refine Kd.C_alloc ?_ _) | (with_reducible refine Kd.C_drewN ?_ _) | (with_reducible refine Kd.C_drew ?_))); (case side2 => exact HC0.out); rintro e w19 ⟨v385, rfl, ho0, hb⟩; have n0_ := Aside0.mk (Kd.R_lower ho0 (below_size (by repeat (first | (with_reducible first | exact HB.out | apply below_alloc | apply pw_below_drewN | apply below_drew1) | exact HB.out)))); have n1_ := Aside0.mk (below_step (by repeat (first | (with_reducible first | exact HB.out | apply below_alloc | apply pw_below_drewN | apply below_drew1) | exact HB.out)) hb); clear HB; have HO386 := n0_; have HB := n1_; clear n0_ n1_; (try clear hb); (try clear hb2); (try clear hk); (try clear hi); (try clear ho0))); try go_wp2_with (first | (go_at_call 27; (with_reducible refine (ladingref03_ReadNum.calls k _ _ l0 t382 t383 t384 _ ?side1 ?side2 A3.out).mono ?_); (case side1 => repeat (first | exact HR0.out | (with_reducible refine Kd.C_alloc ?_ _) | (with_reducible refine Kd.C_drewN ?_ _) | (with_reducible refine Kd.C_drew ?_))); (case side2 => exact HC0.out); rintro e w19 ⟨v385, rfl, ho0, hb⟩; have n0_ := Aside0.mk (Kd.R_lower ho0 (below_size (by repeat (first | (with_reducible first | exact HB.out | apply below_alloc | apply pw_below_drewN | apply below_drew1) | exact HB.out)))); have n1_ := Aside0.mk (below_step (by repeat (first | (with_reducible first | exact HB.out | apply below_alloc | apply pw_below_drewN | apply below_drew1) | exact HB.out)) hb); clear HB; have HO386 := n0_; have HB := n1_; clear n0_ n1_; (try clear hb); (try clear hb2); (try clear hk); (try clear hi); (try clear ho0))))
    go_ret3
    exact ⟨_, by first | rfl | (simp [errW_none, errW_some] <;> rfl) | (simp [*, errW_none, errW_some] <;> rfl), Kd.Q_of_R (by first | exact Kd.R_nil _ _ _ _ _ | exact Kd.N_nil _ _ _ _ _ | exact Kd.V_nil _ _ _ _ _ | exact Kd.Q_nil _ _ _ _ _ | exact Kd.S_nil _ _ _ _ _), by repeat (first | (with_reducible first | exact HB.out | apply below_alloc | apply pw_below_drewN | apply below_drew1) | exact HB.out)⟩

/-! ### ladingref03_ReadText: function 31 -/
def ladingref03_ReadText.f (k : Nat) (l0 : List Int) : Option (ByteArray × List Int × Int) := (ladingref03_text.f k l0 1024).bind fun bt394 => (some (bt394.1, bt394.2.1, bt394.2.2))
theorem ladingref03_ReadText.mono : ∀ a0 k, LeO (ladingref03_ReadText.f k a0) (ladingref03_ReadText.f (k + 1) a0) := by
  intro a0 k
  unfold ladingref03_ReadText.f
  repeat' first
      | (with_reducible exact ladingref03_text.mono _ _ _)
      | (with_reducible exact LeO.refl _)
      | (with_reducible exact LeO.none _)
      | (with_reducible refine LeO.ite ?_ ?_)
      | (with_reducible refine LeO.bind ?_ (fun _ => ?_))
      | exact ladingref03_text.mono _ _ _
      | exact LeO.none _
      | refine LeO.ite ?_ ?_
      | refine LeO.bind ?_ (fun _ => ?_)
set_option maxHeartbeats 8000000 in
set_option maxRecDepth 100000 in
theorem ladingref03_ReadText.calls (k : Nat) (A0 : Option Addr) (c0 : Nat) (l0 : List Int) (r1 : ByteArray) (r2 : List Int) (r3 : Int) (w : World) (hr0 : Kd.C (Kd.int .u8) w A0 l0.length l0) (hc0 : l0.length ≤ c0) (h : ladingref03_ReadText.f k l0 = some (r1, r2, r3)) :
    Calls Tryd.prog 31 #[.slice A0 l0.length c0] w fun e w' => ∃ v1_ : Value, e = .returned (.tuple #[.string r1, v1_, .int .i64 r3]) ∧ Kd.Q (Kd.int .u8) 5 w' w.heap.size (fun _ => True) v1_ r2 ∧ Below w.heap.size w w' := by
  have HR0 := Aside0.mk hr0
  have HC0 := Aside0.mk hc0
  clear hr0 hc0
  have HB := Aside0.mk (Below.refl w.heap.size w)
  have H : ((ladingref03_text.f k l0 1024).bind fun bt394 => (some (bt394.1, bt394.2.1, bt394.2.2))) = some (r1, r2, r3) := h
  clear h
  replace H := Option.bind_eq_some_iff.mp H
  obtain ⟨⟨t394, t395, t396⟩, A20, H⟩ := H
  replace H : (some (t394, t395, t396)) = some (r1, r2, r3) := H
  have A2 := Aside0.mk A20
  clear A20
  simp only [Option.some.injEq, Prod.mk.injEq] at H
  obtain ⟨rfl, rfl, rfl⟩ := H
  go_enter Tryd.func31, Tryd.ntmps31
  go_wp2_with (first | ((with_reducible refine gate_callee (f := 46) rfl ?_); refine goesL_ (some 6) rfl rfl Tryd.func46 (by kernel_rfl) rfl #[.slice A0 l0.length c0, .int .u64 1024] rfl (by (try simp only [List.map_toArray, List.map_cons, List.map_nil]); first | done | rfl | (simp only [List.length_drop, List.length_take]; rfl)) ?_; (with_reducible refine (ladingref03_text.calls k _ _ l0 1024 t394 t395 t396 _ ?side1 ?side2 A2.out).mono ?_); (case side1 => repeat (first | exact HR0.out | (with_reducible refine Kd.C_alloc ?_ _) | (with_reducible refine Kd.C_drewN ?_ _) | (with_reducible refine Kd.C_drew ?_))); (case side2 => exact HC0.out); rintro e w3 ⟨v397, rfl, ho0, hb⟩; refine ⟨_, rfl, ?_⟩; have n0_ := Aside0.mk (Kd.Q_lower ho0 (below_size (by repeat (first | (with_reducible first | exact HB.out | apply below_alloc | apply pw_below_drewN | apply below_drew1) | exact HB.out)))); have n1_ := Aside0.mk (below_step (by repeat (first | (with_reducible first | exact HB.out | apply below_alloc | apply pw_below_drewN | apply below_drew1) | exact HB.out)) hb); clear HB; have HO398 := n0_; have HB := n1_; clear n0_ n1_; (try clear hb); (try clear hb2); (try clear hk); (try clear hi); (try clear ho0)))
  go_ret3
  exact ⟨_, by first | rfl | (simp [errW_none, errW_some] <;> rfl) | (simp [*, errW_none, errW_some] <;> rfl), by (with_reducible repeat (first | apply Kd.Q_alloc | apply Kd.Q_drewN | apply Kd.Q_drew)); exact HO398.out, by repeat (first | (with_reducible first | exact HB.out | apply below_alloc | apply pw_below_drewN | apply below_drew1) | exact HB.out)⟩

end Go.Proofs.YtfpdipnaefomiaaDoor.Print
