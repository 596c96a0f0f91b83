-- Printed for this claim by wip/xprint.py over the kit's printer. Not trusted: Lean checks it.
import Derived.Test.YtfpdipnaefomiaaDoorPrint0
namespace Go.Proofs.YtfpdipnaefomiaaDoor.Print
open Go.RowKit Go.Proofs.YtfpdipnaefomiaaDoorW.PrintWords Go.Proofs.YtfpdipnaefomiaaDoorW.PrintLast Go.Proofs.YtfpdipnaefomiaaDoorW.PrintMore
attribute [local go_sem] max2_mx min2_mn max_two min_two max_three min_three max_four min_four   -- for this text's walks alone
set_option linter.unusedVariables false
set_option linter.unusedSimpArgs false

/-! ### ladinglaw03_order: function 15 -/
mutual
def ladinglaw03_order.l0 : Nat → List (S60) → List (S60) → Int → Int → Option (Int)
  | 0, _, _, _, _ => none
  | k + 1, x0, x1, x9, x10 => if x10 < x9 then (if x10 ≥ (x1.length : Int) then (some 1) else (if 0 ≤ x10 then (if x10 < (x0.length : Int) then (if x10 < (x1.length : Int) then (if ((rd_T60 x0 x10).f0) = ((rd_T60 x1 x10).f0) then (ladinglaw03_order.j1 k x0 x1 x9 x10 false ((rd_T60 x0 x10).f0) ((rd_T60 x0 x10).f1) ((rd_T60 x0 x10).f2) ((rd_T60 x1 x10).f0) ((rd_T60 x1 x10).f1) ((rd_T60 x1 x10).f2)) else (ladinglaw03_order.j1 k x0 x1 x9 x10 (decide (((rd_T60 x0 x10).f0) < ((rd_T60 x1 x10).f0))) ((rd_T60 x0 x10).f0) ((rd_T60 x0 x10).f1) ((rd_T60 x0 x10).f2) ((rd_T60 x1 x10).f0) ((rd_T60 x1 x10).f1) ((rd_T60 x1 x10).f2))) else (none)) else (none)) else (none))) else (if (x0.length : Int) < (x1.length : Int) then (some (-1)) else (some 0))
def ladinglaw03_order.j1 : Nat → List (S60) → List (S60) → Int → Int → Bool → Int → Int → ByteArray → Int → Int → ByteArray → Option (Int)
  | 0, _, _, _, _, _, _, _, _, _, _, _ => none
  | k + 1, x0, x1, x9, x10, x25, x190000, x190001, x190002, x191000, x191001, x191002 => if x25 = true then (some (-1)) else (if x190000 = x191000 then (if x190001 < x191001 then (ladinglaw03_order.j2 k x0 x1 x9 x10 true x190000 x190001 x190002 x191000 x191001 x191002) else (ladinglaw03_order.j2 k x0 x1 x9 x10 (Op.bytesLess x190002.toList x191002.toList) x190000 x190001 x190002 x191000 x191001 x191002)) else (some 1))
def ladinglaw03_order.j2 : Nat → List (S60) → List (S60) → Int → Int → Bool → Int → Int → ByteArray → Int → Int → ByteArray → Option (Int)
  | 0, _, _, _, _, _, _, _, _, _, _, _ => none
  | k + 1, x0, x1, x9, x10, x44, x190000, x190001, x190002, x191000, x191001, x191002 => if x44 = true then (some (-1)) else (if x190001 > x191001 then (some 1) else (if (Op.bytesLess x191002.toList x190002.toList) = true then (some 1) else (ladinglaw03_order.l0 k x0 x1 x9 (wrap64 (x10 + 1)))))
end
def ladinglaw03_order.f (k : Nat) (l0 : List (S60)) (l1 : List (S60)) : Option (Int) := ladinglaw03_order.l0 k l0 l1 (l0.length : Int) 0
theorem ladinglaw03_order.mono_l : ∀ k, (∀ y0 y1 y2 y3, LeO (ladinglaw03_order.l0 k y0 y1 y2 y3) (ladinglaw03_order.l0 (k + 1) y0 y1 y2 y3)) ∧ (∀ y0 y1 y2 y3 y4 y5 y6 y7 y8 y9 y10, LeO (ladinglaw03_order.j1 k y0 y1 y2 y3 y4 y5 y6 y7 y8 y9 y10) (ladinglaw03_order.j1 (k + 1) y0 y1 y2 y3 y4 y5 y6 y7 y8 y9 y10)) ∧ (∀ y0 y1 y2 y3 y4 y5 y6 y7 y8 y9 y10, LeO (ladinglaw03_order.j2 k y0 y1 y2 y3 y4 y5 y6 y7 y8 y9 y10) (ladinglaw03_order.j2 (k + 1) y0 y1 y2 y3 y4 y5 y6 y7 y8 y9 y10))
  | 0 => ⟨fun _ _ _ _ r h => by simp [ladinglaw03_order.l0] at h, fun _ _ _ _ _ _ _ _ _ _ _ r h => by simp [ladinglaw03_order.j1] at h, fun _ _ _ _ _ _ _ _ _ _ _ r h => by simp [ladinglaw03_order.j2] at h⟩
  | k + 1 => by
    obtain ⟨ih0, ih1, ih2⟩ := ladinglaw03_order.mono_l k
    refine ⟨?_, ?_, ?_⟩
    · intro y0 y1 y2 y3
      unfold ladinglaw03_order.l0
      repeat' first
      | (with_reducible exact ih0 _ _ _ _)
      | (with_reducible exact ih1 _ _ _ _ _ _ _ _ _ _ _)
      | (with_reducible exact ih2 _ _ _ _ _ _ _ _ _ _ _)
      | (with_reducible exact LeO.refl _)
      | (with_reducible exact LeO.none _)
      | (with_reducible refine LeO.ite ?_ ?_)
      | (with_reducible refine LeO.bind ?_ (fun _ => ?_))
      | exact ih0 _ _ _ _
      | exact ih1 _ _ _ _ _ _ _ _ _ _ _
      | exact ih2 _ _ _ _ _ _ _ _ _ _ _
      | exact LeO.none _
      | refine LeO.ite ?_ ?_
      | refine LeO.bind ?_ (fun _ => ?_)
    · intro y0 y1 y2 y3 y4 y5 y6 y7 y8 y9 y10
      unfold ladinglaw03_order.j1
      repeat' first
      | (with_reducible exact ih0 _ _ _ _)
      | (with_reducible exact ih1 _ _ _ _ _ _ _ _ _ _ _)
      | (with_reducible exact ih2 _ _ _ _ _ _ _ _ _ _ _)
      | (with_reducible exact LeO.refl _)
      | (with_reducible exact LeO.none _)
      | (with_reducible refine LeO.ite ?_ ?_)
      | (with_reducible refine LeO.bind ?_ (fun _ => ?_))
      | exact ih0 _ _ _ _
      | exact ih1 _ _ _ _ _ _ _ _ _ _ _
      | exact ih2 _ _ _ _ _ _ _ _ _ _ _
      | exact LeO.none _
      | refine LeO.ite ?_ ?_
      | refine LeO.bind ?_ (fun _ => ?_)
    · intro y0 y1 y2 y3 y4 y5 y6 y7 y8 y9 y10
      unfold ladinglaw03_order.j2
      repeat' first
      | (with_reducible exact ih0 _ _ _ _)
      | (with_reducible exact ih1 _ _ _ _ _ _ _ _ _ _ _)
      | (with_reducible exact ih2 _ _ _ _ _ _ _ _ _ _ _)
      | (with_reducible exact LeO.refl _)
      | (with_reducible exact LeO.none _)
      | (with_reducible refine LeO.ite ?_ ?_)
      | (with_reducible refine LeO.bind ?_ (fun _ => ?_))
      | exact ih0 _ _ _ _
      | exact ih1 _ _ _ _ _ _ _ _ _ _ _
      | exact ih2 _ _ _ _ _ _ _ _ _ _ _
      | exact LeO.none _
      | refine LeO.ite ?_ ?_
      | refine LeO.bind ?_ (fun _ => ?_)
theorem ladinglaw03_order.mono : ∀ a0 a1 k, LeO (ladinglaw03_order.f k a0 a1) (ladinglaw03_order.f (k + 1) a0 a1) := by
  intro a0 a1 k
  obtain ⟨ih0, ih1, ih2⟩ := ladinglaw03_order.mono_l k
  unfold ladinglaw03_order.f
  repeat' first
      | (with_reducible exact ih0 _ _ _ _)
      | (with_reducible exact ih1 _ _ _ _ _ _ _ _ _ _ _)
      | (with_reducible exact ih2 _ _ _ _ _ _ _ _ _ _ _)
      | (with_reducible exact LeO.refl _)
      | (with_reducible exact LeO.none _)
      | (with_reducible refine LeO.ite ?_ ?_)
      | (with_reducible refine LeO.bind ?_ (fun _ => ?_))
      | exact ih0 _ _ _ _
      | exact ih1 _ _ _ _ _ _ _ _ _ _ _
      | exact ih2 _ _ _ _ _ _ _ _ _ _ _
      | exact LeO.none _
      | refine LeO.ite ?_ ?_
      | refine LeO.bind ?_ (fun _ => ?_)
def ladinglaw03_order.T6 : Bool × List (List Nat × List Nat) := (true, [([], []), ([], []), ([0, 1], [0, 1]), ([2], [2]), ([], []), ([], []), ([4, 5], [4, 5]), ([6], [6]), ([], []), ([], []), ([8, 3, 0, 1, 2, 3, 8, 9], [3, 8]), ([9, 7, 10, 0, 1, 2, 3, 4, 5, 6, 7, 8, 9, 10], [7, 9])])
def ladinglaw03_order.B6 : List Nat := [0, 0, 3, 7, 0, 0, 48, 112, 0, 0, 783, 2047]
theorem ladinglaw03_order.tab6 : rtab .any (opsOf Tryd.f15 6) = ladinglaw03_order.T6 := by kernel_rfl
theorem ladinglaw03_order.bits6 : waitsOk ladinglaw03_order.T6.2 ladinglaw03_order.B6 = true := by kernel_rfl
set_option maxHeartbeats 8000000 in
set_option maxRecDepth 100000 in
theorem ladinglaw03_order.calls (k : Nat) (A0 : Option Addr) (c0 : Nat) (l0 : List (S60)) (A1 : Option Addr) (c1 : Nat) (l1 : List (S60)) (r : Int) (w : World) (hr0 : Kd.C k60 w A0 l0.length l0) (hc0 : l0.length ≤ c0) (hr1 : Kd.C k60 w A1 l1.length l1) (hc1 : l1.length ≤ c1) (h : ladinglaw03_order.f k l0 l1 = some r) :
    Calls Tryd.prog 15 #[.slice A0 l0.length c0, .slice A1 l1.length c1] w fun e w' => e = .returned (.int .i64 r) ∧ Below w.heap.size w w' := by
  have hu60 := Tryd.underlying60
  have HR0 := Aside0.mk hr0
  have HC0 := Aside0.mk hc0
  clear hr0 hc0
  have HR1 := Aside0.mk hr1
  have HC1 := Aside0.mk hc1
  clear hr1 hc1
  have HB := Aside0.mk (Below.refl w.heap.size w)
  have H : (ladinglaw03_order.l0 k l0 l1 (l0.length : Int) 0) = some r := h
  clear h
  have H' := Aside0.mk H
  clear H
  go_enter Tryd.func15, Tryd.ntmps15
  go_wp2
  go_loopg [10] k (fun kq v10 w' => ∃ (x10_1 : Int), v10 = .int .i64 x10_1 ∧ Aside0 (ladinglaw03_order.l0 kq l0 l1 (l0.length : Int) x10_1 = some r) ∧ Aside0 (kq ≤ k) ∧ Aside0 (Below w.heap.size w w'))
  case atStart => exact ⟨(0), (by first | rfl | (simp; done) | (simp [*]; done)), H', ⟨Nat.le_refl _⟩, ⟨by repeat (first | (with_reducible first | exact HB.out | apply below_alloc | apply pw_below_drewN | apply below_drew1) | exact HB.out)⟩⟩
  case round =>
    clear H'
    try clear c1
    try clear p2
    obtain ⟨x10_1, rfl, HA, HK1, HB⟩ := hrel
    cases gk with
    | zero => exact absurd HA.out (by simp [ladinglaw03_order.l0])
    | succ k1 =>
      have H := HA.out
      clear HA
      simp only [ladinglaw03_order.l0] at H
      by_cases c3 : x10_1 < (l0.length : Int)
      · rw [if_pos c3] at H
        have c3b0 : decide (x10_1 < (l0.length : Int)) = true := decide_eq_true c3
        clear c3
        by_cases c4 : x10_1 ≥ (l1.length : Int)
        · rw [if_pos c4] at H
          have c4b0 : decide ((l1.length : Int) ≤ x10_1) = true := decide_eq_true c4
          clear c4
          obtain rfl := Option.some.inj H
          go_wp2
          go_ret
          exact ⟨by first | rfl | (simp [errW_none, errW_some] <;> rfl) | (simp [*, errW_none, errW_some] <;> rfl), by repeat (first | (with_reducible first | exact HB.out | apply below_alloc | apply pw_below_drewN | apply below_drew1) | exact HB.out)⟩
        · rw [if_neg c4] at H
          have c4b0 : decide ((l1.length : Int) ≤ x10_1) = false := decide_eq_false c4
          clear c4
          by_cases c5 : 0 ≤ x10_1
          · rw [if_pos c5] at H
            have c5b0 : decide (0 ≤ x10_1) = true := decide_eq_true c5
            clear c5
            by_cases c6 : x10_1 < (l0.length : Int)
            · rw [if_pos c6] at H
              have c6b0 : decide (x10_1 < (l0.length : Int)) = true := decide_eq_true c6
              clear c6
              by_cases c7 : x10_1 < (l1.length : Int)
              · rw [if_pos c7] at H
                have c7b0 : decide (x10_1 < (l1.length : Int)) = true := decide_eq_true c7
                clear c7
                have HC8 := Aside0.mk H
                clear H
                try go_wp2
                have n0_ := Aside0.mk (below_drew1 HB.out)
                clear HB
                have HB := n0_
                clear n0_
                have p187 : 0 ≤ (x10_1 : Int) := of_decide_eq_true (by first | (with_reducible assumption) | assumption)
                have q187 : x10_1 < (l0.length : Int) := of_decide_eq_true (by first | (with_reducible assumption) | assumption)
                obtain ⟨ad187, e187, hx187_0, hx187_1, hx187_2⟩ := at_T60 HR0.out x10_1 p187 q187
                have hw187_2 := hx187_2
                have hw187_1 := hx187_1
                have hw187_0 := hx187_0
                cases e187
                replace hx187_0 := (HB.out.cell (World.block_lt_of_cell? w _ hx187_0)).trans hx187_0
                replace hx187_1 := (HB.out.cell (World.block_lt_of_cell? w _ hx187_1)).trans hx187_1
                replace hx187_2 := (HB.out.cell (World.block_lt_of_cell? w _ hx187_2)).trans hx187_2
                replace p187 := eq_true p187
                replace q187 := eq_true q187
                have p188 : 0 ≤ (x10_1 : Int) := of_decide_eq_true (by first | (with_reducible assumption) | assumption)
                have q188 : x10_1 < (l1.length : Int) := of_decide_eq_true (by first | (with_reducible assumption) | assumption)
                obtain ⟨ad188, e188, hx188_0, hx188_1, hx188_2⟩ := at_T60 HR1.out x10_1 p188 q188
                have hw188_2 := hx188_2
                have hw188_1 := hx188_1
                have hw188_0 := hx188_0
                cases e188
                replace hx188_0 := (HB.out.cell (World.block_lt_of_cell? w _ hx188_0)).trans hx188_0
                replace hx188_1 := (HB.out.cell (World.block_lt_of_cell? w _ hx188_1)).trans hx188_1
                replace hx188_2 := (HB.out.cell (World.block_lt_of_cell? w _ hx188_2)).trans hx188_2
                replace p188 := eq_true p188
                replace q188 := eq_true q188
                refine start_ (n := 12) (S := fun w' => w'.cell? (ad187.add ((x10_1).toNat * 3)) = some (.int .u8 ((rd_T60 l0 x10_1).f0)) ∧ w'.cell? ⟨(ad187.add ((x10_1).toNat * 3)).block, (ad187.add ((x10_1).toNat * 3)).off + 1, none⟩ = some (.int .u64 ((rd_T60 l0 x10_1).f1)) ∧ w'.cell? ⟨(ad187.add ((x10_1).toNat * 3)).block, (ad187.add ((x10_1).toNat * 3)).off + 2, none⟩ = some (.string ((rd_T60 l0 x10_1).f2)) ∧ w'.cell? (ad188.add ((x10_1).toNat * 3)) = some (.int .u8 ((rd_T60 l1 x10_1).f0)) ∧ w'.cell? ⟨(ad188.add ((x10_1).toNat * 3)).block, (ad188.add ((x10_1).toNat * 3)).off + 1, none⟩ = some (.int .u64 ((rd_T60 l1 x10_1).f1)) ∧ w'.cell? ⟨(ad188.add ((x10_1).toNat * 3)).block, (ad188.add ((x10_1).toNat * 3)).off + 2, none⟩ = some (.string ((rd_T60 l1 x10_1).f2))) (ds := []) #[false, false, false, false, false, false, false, false, false, false, false, false] (by kernel_rfl) rfl rfl ⟨((HB.out.cell (World.block_lt_of_cell? w _ hw187_0)).trans hw187_0), ((HB.out.cell (World.block_lt_of_cell? w _ hw187_1)).trans hw187_1), ((HB.out.cell (World.block_lt_of_cell? w _ hw187_2)).trans hw187_2), ((HB.out.cell (World.block_lt_of_cell? w _ hw188_0)).trans hw188_0), ((HB.out.cell (World.block_lt_of_cell? w _ hw188_1)).trans hw188_1), ((HB.out.cell (World.block_lt_of_cell? w _ hw188_2)).trans hw188_2)⟩ (fun hHeld => ?_); refine with_tabW ladinglaw03_order.tab6 ladinglaw03_order.bits6 (fun HT_ HW_ => ?_)
                generalize wr.drew = w9 at HB hx187_0 hx187_1 hx187_2 hx188_0 hx188_1 hx188_2 hHeld ⊢
                refine pure_ (i := 0) (N := some 17) (v := ?_) (a' := ?_) #[true, false, false, false, false, false, false, false, false, false, false, false] rfl rfl (any_of HT_.out (by kernel_rfl)) (fun _ _ _ h => h) (Or.inl ⟨by rfl, ?_⟩) ?_ ?_
                rotate_left
                · intro w'
                  go_simp
                  with_reducible rfl
                rotate_left
                · simp only [Act.put, List.setIfInBounds_toArray, List.set_cons_zero, List.set_cons_succ, i64_w, i32_w]
                  rfl
                refine pure_ (i := 1) (N := some 18) (v := ?_) (a' := ?_) #[true, true, false, false, false, false, false, false, false, false, false, false] rfl rfl (any_of HT_.out (by kernel_rfl)) (fun _ _ _ h => h) (Or.inl ⟨by rfl, ?_⟩) ?_ ?_
                rotate_left
                · intro w'
                  go_simp
                  with_reducible rfl
                rotate_left
                · simp only [Act.put, List.setIfInBounds_toArray, List.set_cons_zero, List.set_cons_succ, i64_w, i32_w]
                  rfl
                refine pure_ (i := 2) (N := some 19) (v := ?_) (a' := ?_) #[true, true, true, false, false, false, false, false, false, false, false, false] rfl rfl (any_of HT_.out (by kernel_rfl)) (fun _ _ _ h => h) (Or.inl ⟨by rfl, ?_⟩) ?_ ?_
                rotate_left
                · intro w'
                  go_simp
                  with_reducible rfl
                rotate_left
                · simp only [Act.put, List.setIfInBounds_toArray, List.set_cons_zero, List.set_cons_succ, i64_w, i32_w]
                  rfl
                refine pure_ (i := 4) (N := some 21) (v := ?_) (a' := ?_) #[true, true, true, false, true, false, false, false, false, false, false, false] rfl rfl (any_of HT_.out (by kernel_rfl)) (fun _ _ _ h => h) (Or.inl ⟨by rfl, ?_⟩) ?_ ?_
                rotate_left
                · intro w'
                  go_simp
                  with_reducible rfl
                rotate_left
                · simp only [Act.put, List.setIfInBounds_toArray, List.set_cons_zero, List.set_cons_succ, i64_w, i32_w]
                  rfl
                refine pure_ (i := 5) (N := some 22) (v := ?_) (a' := ?_) #[true, true, true, false, true, true, false, false, false, false, false, false] rfl rfl (any_of HT_.out (by kernel_rfl)) (fun _ _ _ h => h) (Or.inl ⟨by rfl, ?_⟩) ?_ ?_
                rotate_left
                · intro w'
                  go_simp
                  with_reducible rfl
                rotate_left
                · simp only [Act.put, List.setIfInBounds_toArray, List.set_cons_zero, List.set_cons_succ, i64_w, i32_w]
                  rfl
                refine pure_ (i := 6) (N := some 23) (v := ?_) (a' := ?_) #[true, true, true, false, true, true, true, false, false, false, false, false] rfl rfl (any_of HT_.out (by kernel_rfl)) (fun _ _ _ h => h) (Or.inl ⟨by rfl, ?_⟩) ?_ ?_
                rotate_left
                · intro w'
                  go_simp
                  with_reducible rfl
                rotate_left
                · simp only [Act.put, List.setIfInBounds_toArray, List.set_cons_zero, List.set_cons_succ, i64_w, i32_w]
                  rfl
                refine take_ (i := 3) (N := some 20) (v := ?_) (a' := ?_) #[true, true, true, true, true, true, true, false, false, false, false, false] rfl rfl (take_ofW HT_.out HW_.out (by kernel_rfl)) (fun _ _ _ h => h) (Or.inl ⟨by rfl, ?_⟩) hHeld ?_ ?_
                rotate_left
                · rintro w' ⟨s0, s1, s2, s3, s4, s5⟩
                  go_simp
                  with_reducible rfl
                rotate_left
                · simp only [Act.put, List.setIfInBounds_toArray, List.set_cons_zero, List.set_cons_succ, i64_w, i32_w]
                  rfl
                refine take_ (i := 7) (N := some 24) (v := ?_) (a' := ?_) #[true, true, true, true, true, true, true, true, false, false, false, false] rfl rfl (take_ofW HT_.out HW_.out (by kernel_rfl)) (fun _ _ _ h => h) (Or.inl ⟨by rfl, ?_⟩) hHeld ?_ ?_
                rotate_left
                · rintro w' ⟨s0, s1, s2, s3, s4, s5⟩
                  go_simp
                  with_reducible rfl
                rotate_left
                · simp only [Act.put, List.setIfInBounds_toArray, List.set_cons_zero, List.set_cons_succ, i64_w, i32_w]
                  rfl
                refine join_ (σ := Nat × Nat) 2 #[true, true, true, true, true, true, true, true, true, true, false, false] (fun s_ => [(6, .pointer (some ⟨s_.1, 0, none⟩)), (7, .pointer (some ⟨s_.2, 0, none⟩))]) (fun s_ w' => (w'.cell? (ad187.add ((x10_1).toNat * 3)) = some (.int .u8 ((rd_T60 l0 x10_1).f0)) ∧ w'.cell? ⟨(ad187.add ((x10_1).toNat * 3)).block, (ad187.add ((x10_1).toNat * 3)).off + 1, none⟩ = some (.int .u64 ((rd_T60 l0 x10_1).f1)) ∧ w'.cell? ⟨(ad187.add ((x10_1).toNat * 3)).block, (ad187.add ((x10_1).toNat * 3)).off + 2, none⟩ = some (.string ((rd_T60 l0 x10_1).f2)) ∧ w'.cell? (ad188.add ((x10_1).toNat * 3)) = some (.int .u8 ((rd_T60 l1 x10_1).f0)) ∧ w'.cell? ⟨(ad188.add ((x10_1).toNat * 3)).block, (ad188.add ((x10_1).toNat * 3)).off + 1, none⟩ = some (.int .u64 ((rd_T60 l1 x10_1).f1)) ∧ w'.cell? ⟨(ad188.add ((x10_1).toNat * 3)).block, (ad188.add ((x10_1).toNat * 3)).off + 2, none⟩ = some (.string ((rd_T60 l1 x10_1).f2))) ∧ (w'.heap[s_.1]? = some (.cells #[.int .u8 0, .int .u64 0, .string (⟨#[]⟩ : ByteArray)] 60 (0, 0))) ∧ (w'.heap[s_.2]? = some (.cells #[.int .u8 0, .int .u64 0, .string (⟨#[]⟩ : ByteArray)] 60 (0, 0))) ∧ (w.heap.size ≤ s_.1) ∧ (w.heap.size ≤ s_.1) ∧ (s_.2 ≠ s_.1) ∧ (s_.1 ≠ s_.2) ∧ (w.heap.size ≤ s_.2) ∧ (w.heap.size ≤ s_.2) ∧ (Below w.heap.size w w')) ?_ ?_
                rotate_left
                · intro hCont
                  refine two_ (i := 8) (j := 9) (Ni := some 6) (Nj := some 7) #[true, true, true, true, true, true, true, true, true, false, false, false] #[true, true, true, true, true, true, true, true, false, true, false, false] rfl rfl rfl rfl (two_of HT_.out (by kernel_rfl)) (by decide) (by decide) (fun K hK => ?_) (fun K hK => ?_)
                  · skip
                    refine box_step ?hg (N := 6) ?hd (cs := #[.int .u8 0, .int .u64 0, .string (⟨#[]⟩ : ByteArray)]) (t := 60) ?hr ?_; (case hd => rfl); (case hg => rfl); (case hr => first | (go_simp; done) | (go_simp; rfl))
                    intro gb189 hg w10 hbox hb
                    have n0_ := Aside0.mk (below_step (by repeat (first | (with_reducible first | exact HB.out | apply below_alloc | apply pw_below_drewN | apply below_drew1) | exact HB.out)) hb)
                    have n1_ := Aside0.mk (hbox)
                    have n2_ := Aside0.mk ((by rw [hg]; exact (below_size (by repeat (first | (with_reducible first | exact HB.out | apply below_alloc | apply pw_below_drewN | apply below_drew1) | exact HB.out))) : w.heap.size ≤ gb189))
                    have n3_ := Aside0.mk ((by rw [hg]; exact (below_size (by repeat (first | (with_reducible first | exact HB.out | apply below_alloc | apply pw_below_drewN | apply below_drew1) | exact HB.out))) : w.heap.size ≤ gb189))
                    clear HB
                    have HB := n0_
                    have BK189 := n1_
                    have GW189 := n2_
                    have GE189 := n3_
                    clear n0_ n1_ n2_ n3_
                    clear hb hbox hg
                    refine hK.out _ _ ⟨((HB.out.cell (World.block_lt_of_cell? w _ hw187_0)).trans hw187_0), ((HB.out.cell (World.block_lt_of_cell? w _ hw187_1)).trans hw187_1), ((HB.out.cell (World.block_lt_of_cell? w _ hw187_2)).trans hw187_2), ((HB.out.cell (World.block_lt_of_cell? w _ hw188_0)).trans hw188_0), ((HB.out.cell (World.block_lt_of_cell? w _ hw188_1)).trans hw188_1), ((HB.out.cell (World.block_lt_of_cell? w _ hw188_2)).trans hw188_2)⟩ (fun hHeld => ?_)
                    clear hK K
                    refine norm_ (a' := ?_) ?_ ?_
                    rotate_left
                    · show Act.put _ (some 6) _ = _
                      simp only [Act.put, List.setIfInBounds_toArray, List.set_cons_zero, List.set_cons_succ, i64_w, i32_w]
                      rfl
                    refine one_ (i := 9) (N := some 7) #[true, true, true, true, true, true, true, true, true, true, false, false] rfl rfl (one_of HT_.out (by kernel_rfl)) (by decide) (fun K hK => ?_)
                    refine box_step ?hg (N := 7) ?hd (cs := #[.int .u8 0, .int .u64 0, .string (⟨#[]⟩ : ByteArray)]) (t := 60) ?hr ?_; (case hd => rfl); (case hg => rfl); (case hr => first | (go_simp; done) | (go_simp; rfl))
                    intro gb190 hg w11 hbox hb
                    have n0_ := Aside0.mk (blk_below (g := gb189) (o := .cells #[.int .u8 0, .int .u64 0, .string (⟨#[]⟩ : ByteArray)] 60 (0, 0)) (by (with_reducible repeat (first | refine blk_drewN ?_ _ | refine blk_drew ?_ | refine blk_alloc ?_ _)); exact BK189.out) hb)
                    have n1_ := Aside0.mk (below_step (by repeat (first | (with_reducible first | exact HB.out | apply below_alloc | apply pw_below_drewN | apply below_drew1 | refine below_set ?_ GE189.out) | exact HB.out)) hb)
                    have n2_ := Aside0.mk (hbox)
                    have n3_ := Aside0.mk ((by rw [hg]; exact (below_size (by repeat (first | (with_reducible first | exact HB.out | apply below_alloc | apply pw_below_drewN | apply below_drew1 | refine below_set ?_ GE189.out) | exact HB.out))) : w.heap.size ≤ gb190))
                    have n4_ := Aside0.mk ((by rw [hg]; exact (below_size (by repeat (first | (with_reducible first | exact HB.out | apply below_alloc | apply pw_below_drewN | apply below_drew1 | refine below_set ?_ GE189.out) | exact HB.out))) : w.heap.size ≤ gb190))
                    have n5_ := Aside0.mk ((by rw [hg]; exact Nat.ne_of_lt (blk_lt (g := gb189) (o := .cells #[.int .u8 0, .int .u64 0, .string (⟨#[]⟩ : ByteArray)] 60 (0, 0)) (by (with_reducible repeat (first | refine blk_drewN ?_ _ | refine blk_drew ?_ | refine blk_alloc ?_ _)); exact BK189.out)) : gb189 ≠ gb190))
                    have n6_ := Aside0.mk ((by rw [hg]; exact Nat.ne_of_gt (blk_lt (g := gb189) (o := .cells #[.int .u8 0, .int .u64 0, .string (⟨#[]⟩ : ByteArray)] 60 (0, 0)) (by (with_reducible repeat (first | refine blk_drewN ?_ _ | refine blk_drew ?_ | refine blk_alloc ?_ _)); exact BK189.out)) : gb190 ≠ gb189))
                    clear BK189
                    clear HB
                    have BK189 := n0_
                    have HB := n1_
                    have BK190 := n2_
                    have GW190 := n3_
                    have GE190 := n4_
                    have NB189_190 := n5_
                    have NB190_189 := n6_
                    clear n0_ n1_ n2_ n3_ n4_ n5_ n6_
                    clear hb hbox hg
                    refine hK.out _ _ ⟨((HB.out.cell (World.block_lt_of_cell? w _ hw187_0)).trans hw187_0), ((HB.out.cell (World.block_lt_of_cell? w _ hw187_1)).trans hw187_1), ((HB.out.cell (World.block_lt_of_cell? w _ hw187_2)).trans hw187_2), ((HB.out.cell (World.block_lt_of_cell? w _ hw188_0)).trans hw188_0), ((HB.out.cell (World.block_lt_of_cell? w _ hw188_1)).trans hw188_1), ((HB.out.cell (World.block_lt_of_cell? w _ hw188_2)).trans hw188_2)⟩ (fun hHeld => ?_)
                    clear hK K
                    refine norm_ (a' := ?_) ?_ ?_
                    rotate_left
                    · show Act.put _ (some 7) _ = _
                      simp only [Act.put, List.setIfInBounds_toArray, List.set_cons_zero, List.set_cons_succ, i64_w, i32_w]
                      rfl
                    exact norm_ (by simp only [putAll, Act.put, List.setIfInBounds_toArray, List.set_cons_zero, List.set_cons_succ]) (hCont (gb189, gb190) _ ⟨hHeld, (by (with_reducible repeat (first | refine blk_drewN ?_ _ | refine blk_drew ?_ | refine blk_alloc ?_ _)); exact BK189.out), (by (with_reducible repeat (first | refine blk_drewN ?_ _ | refine blk_drew ?_ | refine blk_alloc ?_ _)); exact BK190.out), GW189.out, GE189.out, NB190_189.out, NB189_190.out, GW190.out, GE190.out, (by repeat (first | (with_reducible first | exact HB.out | apply below_alloc | apply pw_below_drewN | apply below_drew1 | refine below_set ?_ GE189.out | refine below_set ?_ GE190.out) | exact HB.out))⟩)
                  · skip
                    refine box_step ?hg (N := 7) ?hd (cs := #[.int .u8 0, .int .u64 0, .string (⟨#[]⟩ : ByteArray)]) (t := 60) ?hr ?_; (case hd => rfl); (case hg => rfl); (case hr => first | (go_simp; done) | (go_simp; rfl))
                    intro gb190 hg w10 hbox hb
                    have n0_ := Aside0.mk (below_step (by repeat (first | (with_reducible first | exact HB.out | apply below_alloc | apply pw_below_drewN | apply below_drew1) | exact HB.out)) hb)
                    have n1_ := Aside0.mk (hbox)
                    have n2_ := Aside0.mk ((by rw [hg]; exact (below_size (by repeat (first | (with_reducible first | exact HB.out | apply below_alloc | apply pw_below_drewN | apply below_drew1) | exact HB.out))) : w.heap.size ≤ gb190))
                    have n3_ := Aside0.mk ((by rw [hg]; exact (below_size (by repeat (first | (with_reducible first | exact HB.out | apply below_alloc | apply pw_below_drewN | apply below_drew1) | exact HB.out))) : w.heap.size ≤ gb190))
                    clear HB
                    have HB := n0_
                    have BK190 := n1_
                    have GW190 := n2_
                    have GE190 := n3_
                    clear n0_ n1_ n2_ n3_
                    clear hb hbox hg
                    refine hK.out _ _ ⟨((HB.out.cell (World.block_lt_of_cell? w _ hw187_0)).trans hw187_0), ((HB.out.cell (World.block_lt_of_cell? w _ hw187_1)).trans hw187_1), ((HB.out.cell (World.block_lt_of_cell? w _ hw187_2)).trans hw187_2), ((HB.out.cell (World.block_lt_of_cell? w _ hw188_0)).trans hw188_0), ((HB.out.cell (World.block_lt_of_cell? w _ hw188_1)).trans hw188_1), ((HB.out.cell (World.block_lt_of_cell? w _ hw188_2)).trans hw188_2)⟩ (fun hHeld => ?_)
                    clear hK K
                    refine norm_ (a' := ?_) ?_ ?_
                    rotate_left
                    · show Act.put _ (some 7) _ = _
                      simp only [Act.put, List.setIfInBounds_toArray, List.set_cons_zero, List.set_cons_succ, i64_w, i32_w]
                      rfl
                    refine one_ (i := 8) (N := some 6) #[true, true, true, true, true, true, true, true, true, true, false, false] rfl rfl (one_of HT_.out (by kernel_rfl)) (by decide) (fun K hK => ?_)
                    refine box_step ?hg (N := 6) ?hd (cs := #[.int .u8 0, .int .u64 0, .string (⟨#[]⟩ : ByteArray)]) (t := 60) ?hr ?_; (case hd => rfl); (case hg => rfl); (case hr => first | (go_simp; done) | (go_simp; rfl))
                    intro gb189 hg w11 hbox hb
                    have n0_ := Aside0.mk (blk_below (g := gb190) (o := .cells #[.int .u8 0, .int .u64 0, .string (⟨#[]⟩ : ByteArray)] 60 (0, 0)) (by (with_reducible repeat (first | refine blk_drewN ?_ _ | refine blk_drew ?_ | refine blk_alloc ?_ _)); exact BK190.out) hb)
                    have n1_ := Aside0.mk (below_step (by repeat (first | (with_reducible first | exact HB.out | apply below_alloc | apply pw_below_drewN | apply below_drew1 | refine below_set ?_ GE190.out) | exact HB.out)) hb)
                    have n2_ := Aside0.mk (hbox)
                    have n3_ := Aside0.mk ((by rw [hg]; exact (below_size (by repeat (first | (with_reducible first | exact HB.out | apply below_alloc | apply pw_below_drewN | apply below_drew1 | refine below_set ?_ GE190.out) | exact HB.out))) : w.heap.size ≤ gb189))
                    have n4_ := Aside0.mk ((by rw [hg]; exact (below_size (by repeat (first | (with_reducible first | exact HB.out | apply below_alloc | apply pw_below_drewN | apply below_drew1 | refine below_set ?_ GE190.out) | exact HB.out))) : w.heap.size ≤ gb189))
                    have n5_ := Aside0.mk ((by rw [hg]; exact Nat.ne_of_lt (blk_lt (g := gb190) (o := .cells #[.int .u8 0, .int .u64 0, .string (⟨#[]⟩ : ByteArray)] 60 (0, 0)) (by (with_reducible repeat (first | refine blk_drewN ?_ _ | refine blk_drew ?_ | refine blk_alloc ?_ _)); exact BK190.out)) : gb190 ≠ gb189))
                    have n6_ := Aside0.mk ((by rw [hg]; exact Nat.ne_of_gt (blk_lt (g := gb190) (o := .cells #[.int .u8 0, .int .u64 0, .string (⟨#[]⟩ : ByteArray)] 60 (0, 0)) (by (with_reducible repeat (first | refine blk_drewN ?_ _ | refine blk_drew ?_ | refine blk_alloc ?_ _)); exact BK190.out)) : gb189 ≠ gb190))
                    clear BK190
                    clear HB
                    have BK190 := n0_
                    have HB := n1_
                    have BK189 := n2_
                    have GW189 := n3_
                    have GE189 := n4_
                    have NB190_189 := n5_
                    have NB189_190 := n6_
                    clear n0_ n1_ n2_ n3_ n4_ n5_ n6_
                    clear hb hbox hg
                    refine hK.out _ _ ⟨((HB.out.cell (World.block_lt_of_cell? w _ hw187_0)).trans hw187_0), ((HB.out.cell (World.block_lt_of_cell? w _ hw187_1)).trans hw187_1), ((HB.out.cell (World.block_lt_of_cell? w _ hw187_2)).trans hw187_2), ((HB.out.cell (World.block_lt_of_cell? w _ hw188_0)).trans hw188_0), ((HB.out.cell (World.block_lt_of_cell? w _ hw188_1)).trans hw188_1), ((HB.out.cell (World.block_lt_of_cell? w _ hw188_2)).trans hw188_2)⟩ (fun hHeld => ?_)
                    clear hK K
                    refine norm_ (a' := ?_) ?_ ?_
                    rotate_left
                    · show Act.put _ (some 6) _ = _
                      simp only [Act.put, List.setIfInBounds_toArray, List.set_cons_zero, List.set_cons_succ, i64_w, i32_w]
                      rfl
                    exact norm_ (by simp only [putAll, Act.put, List.setIfInBounds_toArray, List.set_cons_zero, List.set_cons_succ]) (hCont (gb189, gb190) _ ⟨hHeld, (by (with_reducible repeat (first | refine blk_drewN ?_ _ | refine blk_drew ?_ | refine blk_alloc ?_ _)); exact BK189.out), (by (with_reducible repeat (first | refine blk_drewN ?_ _ | refine blk_drew ?_ | refine blk_alloc ?_ _)); exact BK190.out), GW189.out, GE189.out, NB190_189.out, NB189_190.out, GW190.out, GE190.out, (by repeat (first | (with_reducible first | exact HB.out | apply below_alloc | apply pw_below_drewN | apply below_drew1 | refine below_set ?_ GE190.out | refine below_set ?_ GE189.out) | exact HB.out))⟩)
                rintro ⟨gb189, gb190⟩ w12 ⟨hS_, h0_, h1_, h2_, h3_, h4_, h5_, h6_, h7_, h8_⟩
                have n0_ : Aside0 (w12.heap[gb189]? = some (.cells #[.int .u8 0, .int .u64 0, .string (⟨#[]⟩ : ByteArray)] 60 (0, 0))) := ⟨h0_⟩
                have n1_ : Aside0 (w12.heap[gb190]? = some (.cells #[.int .u8 0, .int .u64 0, .string (⟨#[]⟩ : ByteArray)] 60 (0, 0))) := ⟨h1_⟩
                have n2_ : Aside0 (w.heap.size ≤ gb189) := ⟨h2_⟩
                have n3_ : Aside0 (w.heap.size ≤ gb189) := ⟨h3_⟩
                have n4_ : Aside0 (gb190 ≠ gb189) := ⟨h4_⟩
                have n5_ : Aside0 (gb189 ≠ gb190) := ⟨h5_⟩
                have n6_ : Aside0 (w.heap.size ≤ gb190) := ⟨h6_⟩
                have n7_ : Aside0 (w.heap.size ≤ gb190) := ⟨h7_⟩
                have n8_ : Aside0 (Below w.heap.size w w12) := ⟨h8_⟩
                clear HB
                clear h0_ h1_ h2_ h3_ h4_ h5_ h6_ h7_ h8_
                have BK189 := n0_
                have BK190 := n1_
                have GW189 := n2_
                have GE189 := n3_
                have NB190_189 := n4_
                have NB189_190 := n5_
                have GW190 := n6_
                have GE190 := n7_
                have HB := n8_
                clear n0_ n1_ n2_ n3_ n4_ n5_ n6_ n7_ n8_
                have hHeld : w12.cell? (ad187.add ((x10_1).toNat * 3)) = some (.int .u8 ((rd_T60 l0 x10_1).f0)) ∧ w12.cell? ⟨(ad187.add ((x10_1).toNat * 3)).block, (ad187.add ((x10_1).toNat * 3)).off + 1, none⟩ = some (.int .u64 ((rd_T60 l0 x10_1).f1)) ∧ w12.cell? ⟨(ad187.add ((x10_1).toNat * 3)).block, (ad187.add ((x10_1).toNat * 3)).off + 2, none⟩ = some (.string ((rd_T60 l0 x10_1).f2)) ∧ w12.cell? (ad188.add ((x10_1).toNat * 3)) = some (.int .u8 ((rd_T60 l1 x10_1).f0)) ∧ w12.cell? ⟨(ad188.add ((x10_1).toNat * 3)).block, (ad188.add ((x10_1).toNat * 3)).off + 1, none⟩ = some (.int .u64 ((rd_T60 l1 x10_1).f1)) ∧ w12.cell? ⟨(ad188.add ((x10_1).toNat * 3)).block, (ad188.add ((x10_1).toNat * 3)).off + 2, none⟩ = some (.string ((rd_T60 l1 x10_1).f2)) := hS_
                refine norm_ (a' := ?_) ?_ ?_
                rotate_left
                · simp only [putAll, Act.put, List.setIfInBounds_toArray, List.set_cons_zero, List.set_cons_succ]
                  rfl
                refine one_ (i := 10) (N := none) #[true, true, true, true, true, true, true, true, true, true, true, false] rfl rfl (one_of HT_.out (by kernel_rfl)) (by decide) (fun K hK => ?_)
                have hs13 : w12.cell? ⟨gb189, 0, none⟩ = some (.int .u8 0) := (blk_cell BK189.out 0).trans rfl
                have hfs13 := blk_frozen BK189.out 0
                have hns13_1 := NB190_189.out
                have hms13_1 := NB189_190.out
                have hs14 : w12.cell? ⟨gb189, 1, none⟩ = some (.int .u64 0) := (blk_cell BK189.out 1).trans rfl
                have hfs14 := blk_frozen BK189.out 1
                have hns14_1 := NB190_189.out
                have hms14_1 := NB189_190.out
                have hs15 : w12.cell? ⟨gb189, 2, none⟩ = some (.string (⟨#[]⟩ : ByteArray)) := (blk_cell BK189.out 2).trans rfl
                have hfs15 := blk_frozen BK189.out 2
                have hns15_1 := NB190_189.out
                have hms15_1 := NB189_190.out
                refine skip_ (w1 := ?_) (by rfl) rfl ?_ ?_
                rotate_left
                · go_simp
                  rfl
                refine hK.out _ _ ⟨((cell_far (p := ⟨gb189, _, none⟩) (by first | exact Nat.ne_of_lt (Nat.lt_of_lt_of_le (by have := World.block_lt_of_cell? _ _ hw187_0; first | rwa [add_block] at this | exact this) GW189.out) | (rw [add_block]; exact Nat.ne_of_lt (Nat.lt_of_lt_of_le (by have := World.block_lt_of_cell? _ _ hw187_0; first | rwa [add_block] at this | exact this) GW189.out)) | (show (Addr.add _ _).block ≠ _; rw [add_block]; exact Nat.ne_of_lt (Nat.lt_of_lt_of_le (by have := World.block_lt_of_cell? _ _ hw187_0; first | rwa [add_block] at this | exact this) GW189.out)) | (dsimp only; exact Nat.ne_of_lt (Nat.lt_of_lt_of_le (by have := World.block_lt_of_cell? _ _ hw187_0; first | rwa [add_block] at this | exact this) GW189.out))) _).trans (((cell_far (p := ⟨gb189, _, none⟩) (by first | exact Nat.ne_of_lt (Nat.lt_of_lt_of_le (by have := World.block_lt_of_cell? _ _ hw187_0; first | rwa [add_block] at this | exact this) GW189.out) | (rw [add_block]; exact Nat.ne_of_lt (Nat.lt_of_lt_of_le (by have := World.block_lt_of_cell? _ _ hw187_0; first | rwa [add_block] at this | exact this) GW189.out)) | (show (Addr.add _ _).block ≠ _; rw [add_block]; exact Nat.ne_of_lt (Nat.lt_of_lt_of_le (by have := World.block_lt_of_cell? _ _ hw187_0; first | rwa [add_block] at this | exact this) GW189.out)) | (dsimp only; exact Nat.ne_of_lt (Nat.lt_of_lt_of_le (by have := World.block_lt_of_cell? _ _ hw187_0; first | rwa [add_block] at this | exact this) GW189.out))) _).trans (((cell_far (p := ⟨gb189, _, none⟩) (by first | exact Nat.ne_of_lt (Nat.lt_of_lt_of_le (by have := World.block_lt_of_cell? _ _ hw187_0; first | rwa [add_block] at this | exact this) GW189.out) | (rw [add_block]; exact Nat.ne_of_lt (Nat.lt_of_lt_of_le (by have := World.block_lt_of_cell? _ _ hw187_0; first | rwa [add_block] at this | exact this) GW189.out)) | (show (Addr.add _ _).block ≠ _; rw [add_block]; exact Nat.ne_of_lt (Nat.lt_of_lt_of_le (by have := World.block_lt_of_cell? _ _ hw187_0; first | rwa [add_block] at this | exact this) GW189.out)) | (dsimp only; exact Nat.ne_of_lt (Nat.lt_of_lt_of_le (by have := World.block_lt_of_cell? _ _ hw187_0; first | rwa [add_block] at this | exact this) GW189.out))) _).trans (hHeld.1)))))), ((cell_far (p := ⟨gb189, _, none⟩) (by first | exact Nat.ne_of_lt (Nat.lt_of_lt_of_le (by have := World.block_lt_of_cell? _ _ hw187_1; first | rwa [add_block] at this | exact this) GW189.out) | (rw [add_block]; exact Nat.ne_of_lt (Nat.lt_of_lt_of_le (by have := World.block_lt_of_cell? _ _ hw187_1; first | rwa [add_block] at this | exact this) GW189.out)) | (show (Addr.add _ _).block ≠ _; rw [add_block]; exact Nat.ne_of_lt (Nat.lt_of_lt_of_le (by have := World.block_lt_of_cell? _ _ hw187_1; first | rwa [add_block] at this | exact this) GW189.out)) | (dsimp only; exact Nat.ne_of_lt (Nat.lt_of_lt_of_le (by have := World.block_lt_of_cell? _ _ hw187_1; first | rwa [add_block] at this | exact this) GW189.out))) _).trans (((cell_far (p := ⟨gb189, _, none⟩) (by first | exact Nat.ne_of_lt (Nat.lt_of_lt_of_le (by have := World.block_lt_of_cell? _ _ hw187_1; first | rwa [add_block] at this | exact this) GW189.out) | (rw [add_block]; exact Nat.ne_of_lt (Nat.lt_of_lt_of_le (by have := World.block_lt_of_cell? _ _ hw187_1; first | rwa [add_block] at this | exact this) GW189.out)) | (show (Addr.add _ _).block ≠ _; rw [add_block]; exact Nat.ne_of_lt (Nat.lt_of_lt_of_le (by have := World.block_lt_of_cell? _ _ hw187_1; first | rwa [add_block] at this | exact this) GW189.out)) | (dsimp only; exact Nat.ne_of_lt (Nat.lt_of_lt_of_le (by have := World.block_lt_of_cell? _ _ hw187_1; first | rwa [add_block] at this | exact this) GW189.out))) _).trans (((cell_far (p := ⟨gb189, _, none⟩) (by first | exact Nat.ne_of_lt (Nat.lt_of_lt_of_le (by have := World.block_lt_of_cell? _ _ hw187_1; first | rwa [add_block] at this | exact this) GW189.out) | (rw [add_block]; exact Nat.ne_of_lt (Nat.lt_of_lt_of_le (by have := World.block_lt_of_cell? _ _ hw187_1; first | rwa [add_block] at this | exact this) GW189.out)) | (show (Addr.add _ _).block ≠ _; rw [add_block]; exact Nat.ne_of_lt (Nat.lt_of_lt_of_le (by have := World.block_lt_of_cell? _ _ hw187_1; first | rwa [add_block] at this | exact this) GW189.out)) | (dsimp only; exact Nat.ne_of_lt (Nat.lt_of_lt_of_le (by have := World.block_lt_of_cell? _ _ hw187_1; first | rwa [add_block] at this | exact this) GW189.out))) _).trans (hHeld.2.1)))))), ((cell_far (p := ⟨gb189, _, none⟩) (by first | exact Nat.ne_of_lt (Nat.lt_of_lt_of_le (by have := World.block_lt_of_cell? _ _ hw187_2; first | rwa [add_block] at this | exact this) GW189.out) | (rw [add_block]; exact Nat.ne_of_lt (Nat.lt_of_lt_of_le (by have := World.block_lt_of_cell? _ _ hw187_2; first | rwa [add_block] at this | exact this) GW189.out)) | (show (Addr.add _ _).block ≠ _; rw [add_block]; exact Nat.ne_of_lt (Nat.lt_of_lt_of_le (by have := World.block_lt_of_cell? _ _ hw187_2; first | rwa [add_block] at this | exact this) GW189.out)) | (dsimp only; exact Nat.ne_of_lt (Nat.lt_of_lt_of_le (by have := World.block_lt_of_cell? _ _ hw187_2; first | rwa [add_block] at this | exact this) GW189.out))) _).trans (((cell_far (p := ⟨gb189, _, none⟩) (by first | exact Nat.ne_of_lt (Nat.lt_of_lt_of_le (by have := World.block_lt_of_cell? _ _ hw187_2; first | rwa [add_block] at this | exact this) GW189.out) | (rw [add_block]; exact Nat.ne_of_lt (Nat.lt_of_lt_of_le (by have := World.block_lt_of_cell? _ _ hw187_2; first | rwa [add_block] at this | exact this) GW189.out)) | (show (Addr.add _ _).block ≠ _; rw [add_block]; exact Nat.ne_of_lt (Nat.lt_of_lt_of_le (by have := World.block_lt_of_cell? _ _ hw187_2; first | rwa [add_block] at this | exact this) GW189.out)) | (dsimp only; exact Nat.ne_of_lt (Nat.lt_of_lt_of_le (by have := World.block_lt_of_cell? _ _ hw187_2; first | rwa [add_block] at this | exact this) GW189.out))) _).trans (((cell_far (p := ⟨gb189, _, none⟩) (by first | exact Nat.ne_of_lt (Nat.lt_of_lt_of_le (by have := World.block_lt_of_cell? _ _ hw187_2; first | rwa [add_block] at this | exact this) GW189.out) | (rw [add_block]; exact Nat.ne_of_lt (Nat.lt_of_lt_of_le (by have := World.block_lt_of_cell? _ _ hw187_2; first | rwa [add_block] at this | exact this) GW189.out)) | (show (Addr.add _ _).block ≠ _; rw [add_block]; exact Nat.ne_of_lt (Nat.lt_of_lt_of_le (by have := World.block_lt_of_cell? _ _ hw187_2; first | rwa [add_block] at this | exact this) GW189.out)) | (dsimp only; exact Nat.ne_of_lt (Nat.lt_of_lt_of_le (by have := World.block_lt_of_cell? _ _ hw187_2; first | rwa [add_block] at this | exact this) GW189.out))) _).trans (hHeld.2.2.1)))))), ((cell_far (p := ⟨gb189, _, none⟩) (by first | exact Nat.ne_of_lt (Nat.lt_of_lt_of_le (by have := World.block_lt_of_cell? _ _ hw188_0; first | rwa [add_block] at this | exact this) GW189.out) | (rw [add_block]; exact Nat.ne_of_lt (Nat.lt_of_lt_of_le (by have := World.block_lt_of_cell? _ _ hw188_0; first | rwa [add_block] at this | exact this) GW189.out)) | (show (Addr.add _ _).block ≠ _; rw [add_block]; exact Nat.ne_of_lt (Nat.lt_of_lt_of_le (by have := World.block_lt_of_cell? _ _ hw188_0; first | rwa [add_block] at this | exact this) GW189.out)) | (dsimp only; exact Nat.ne_of_lt (Nat.lt_of_lt_of_le (by have := World.block_lt_of_cell? _ _ hw188_0; first | rwa [add_block] at this | exact this) GW189.out))) _).trans (((cell_far (p := ⟨gb189, _, none⟩) (by first | exact Nat.ne_of_lt (Nat.lt_of_lt_of_le (by have := World.block_lt_of_cell? _ _ hw188_0; first | rwa [add_block] at this | exact this) GW189.out) | (rw [add_block]; exact Nat.ne_of_lt (Nat.lt_of_lt_of_le (by have := World.block_lt_of_cell? _ _ hw188_0; first | rwa [add_block] at this | exact this) GW189.out)) | (show (Addr.add _ _).block ≠ _; rw [add_block]; exact Nat.ne_of_lt (Nat.lt_of_lt_of_le (by have := World.block_lt_of_cell? _ _ hw188_0; first | rwa [add_block] at this | exact this) GW189.out)) | (dsimp only; exact Nat.ne_of_lt (Nat.lt_of_lt_of_le (by have := World.block_lt_of_cell? _ _ hw188_0; first | rwa [add_block] at this | exact this) GW189.out))) _).trans (((cell_far (p := ⟨gb189, _, none⟩) (by first | exact Nat.ne_of_lt (Nat.lt_of_lt_of_le (by have := World.block_lt_of_cell? _ _ hw188_0; first | rwa [add_block] at this | exact this) GW189.out) | (rw [add_block]; exact Nat.ne_of_lt (Nat.lt_of_lt_of_le (by have := World.block_lt_of_cell? _ _ hw188_0; first | rwa [add_block] at this | exact this) GW189.out)) | (show (Addr.add _ _).block ≠ _; rw [add_block]; exact Nat.ne_of_lt (Nat.lt_of_lt_of_le (by have := World.block_lt_of_cell? _ _ hw188_0; first | rwa [add_block] at this | exact this) GW189.out)) | (dsimp only; exact Nat.ne_of_lt (Nat.lt_of_lt_of_le (by have := World.block_lt_of_cell? _ _ hw188_0; first | rwa [add_block] at this | exact this) GW189.out))) _).trans (hHeld.2.2.2.1)))))), ((cell_far (p := ⟨gb189, _, none⟩) (by first | exact Nat.ne_of_lt (Nat.lt_of_lt_of_le (by have := World.block_lt_of_cell? _ _ hw188_1; first | rwa [add_block] at this | exact this) GW189.out) | (rw [add_block]; exact Nat.ne_of_lt (Nat.lt_of_lt_of_le (by have := World.block_lt_of_cell? _ _ hw188_1; first | rwa [add_block] at this | exact this) GW189.out)) | (show (Addr.add _ _).block ≠ _; rw [add_block]; exact Nat.ne_of_lt (Nat.lt_of_lt_of_le (by have := World.block_lt_of_cell? _ _ hw188_1; first | rwa [add_block] at this | exact this) GW189.out)) | (dsimp only; exact Nat.ne_of_lt (Nat.lt_of_lt_of_le (by have := World.block_lt_of_cell? _ _ hw188_1; first | rwa [add_block] at this | exact this) GW189.out))) _).trans (((cell_far (p := ⟨gb189, _, none⟩) (by first | exact Nat.ne_of_lt (Nat.lt_of_lt_of_le (by have := World.block_lt_of_cell? _ _ hw188_1; first | rwa [add_block] at this | exact this) GW189.out) | (rw [add_block]; exact Nat.ne_of_lt (Nat.lt_of_lt_of_le (by have := World.block_lt_of_cell? _ _ hw188_1; first | rwa [add_block] at this | exact this) GW189.out)) | (show (Addr.add _ _).block ≠ _; rw [add_block]; exact Nat.ne_of_lt (Nat.lt_of_lt_of_le (by have := World.block_lt_of_cell? _ _ hw188_1; first | rwa [add_block] at this | exact this) GW189.out)) | (dsimp only; exact Nat.ne_of_lt (Nat.lt_of_lt_of_le (by have := World.block_lt_of_cell? _ _ hw188_1; first | rwa [add_block] at this | exact this) GW189.out))) _).trans (((cell_far (p := ⟨gb189, _, none⟩) (by first | exact Nat.ne_of_lt (Nat.lt_of_lt_of_le (by have := World.block_lt_of_cell? _ _ hw188_1; first | rwa [add_block] at this | exact this) GW189.out) | (rw [add_block]; exact Nat.ne_of_lt (Nat.lt_of_lt_of_le (by have := World.block_lt_of_cell? _ _ hw188_1; first | rwa [add_block] at this | exact this) GW189.out)) | (show (Addr.add _ _).block ≠ _; rw [add_block]; exact Nat.ne_of_lt (Nat.lt_of_lt_of_le (by have := World.block_lt_of_cell? _ _ hw188_1; first | rwa [add_block] at this | exact this) GW189.out)) | (dsimp only; exact Nat.ne_of_lt (Nat.lt_of_lt_of_le (by have := World.block_lt_of_cell? _ _ hw188_1; first | rwa [add_block] at this | exact this) GW189.out))) _).trans (hHeld.2.2.2.2.1)))))), ((cell_far (p := ⟨gb189, _, none⟩) (by first | exact Nat.ne_of_lt (Nat.lt_of_lt_of_le (by have := World.block_lt_of_cell? _ _ hw188_2; first | rwa [add_block] at this | exact this) GW189.out) | (rw [add_block]; exact Nat.ne_of_lt (Nat.lt_of_lt_of_le (by have := World.block_lt_of_cell? _ _ hw188_2; first | rwa [add_block] at this | exact this) GW189.out)) | (show (Addr.add _ _).block ≠ _; rw [add_block]; exact Nat.ne_of_lt (Nat.lt_of_lt_of_le (by have := World.block_lt_of_cell? _ _ hw188_2; first | rwa [add_block] at this | exact this) GW189.out)) | (dsimp only; exact Nat.ne_of_lt (Nat.lt_of_lt_of_le (by have := World.block_lt_of_cell? _ _ hw188_2; first | rwa [add_block] at this | exact this) GW189.out))) _).trans (((cell_far (p := ⟨gb189, _, none⟩) (by first | exact Nat.ne_of_lt (Nat.lt_of_lt_of_le (by have := World.block_lt_of_cell? _ _ hw188_2; first | rwa [add_block] at this | exact this) GW189.out) | (rw [add_block]; exact Nat.ne_of_lt (Nat.lt_of_lt_of_le (by have := World.block_lt_of_cell? _ _ hw188_2; first | rwa [add_block] at this | exact this) GW189.out)) | (show (Addr.add _ _).block ≠ _; rw [add_block]; exact Nat.ne_of_lt (Nat.lt_of_lt_of_le (by have := World.block_lt_of_cell? _ _ hw188_2; first | rwa [add_block] at this | exact this) GW189.out)) | (dsimp only; exact Nat.ne_of_lt (Nat.lt_of_lt_of_le (by have := World.block_lt_of_cell? _ _ hw188_2; first | rwa [add_block] at this | exact this) GW189.out))) _).trans (((cell_far (p := ⟨gb189, _, none⟩) (by first | exact Nat.ne_of_lt (Nat.lt_of_lt_of_le (by have := World.block_lt_of_cell? _ _ hw188_2; first | rwa [add_block] at this | exact this) GW189.out) | (rw [add_block]; exact Nat.ne_of_lt (Nat.lt_of_lt_of_le (by have := World.block_lt_of_cell? _ _ hw188_2; first | rwa [add_block] at this | exact this) GW189.out)) | (show (Addr.add _ _).block ≠ _; rw [add_block]; exact Nat.ne_of_lt (Nat.lt_of_lt_of_le (by have := World.block_lt_of_cell? _ _ hw188_2; first | rwa [add_block] at this | exact this) GW189.out)) | (dsimp only; exact Nat.ne_of_lt (Nat.lt_of_lt_of_le (by have := World.block_lt_of_cell? _ _ hw188_2; first | rwa [add_block] at this | exact this) GW189.out))) _).trans (hHeld.2.2.2.2.2))))))⟩ (fun hHeld => ?_)
                clear hK K
                refine one_ (i := 11) (N := none) #[true, true, true, true, true, true, true, true, true, true, true, true] rfl rfl (one_of HT_.out (by kernel_rfl)) (by decide) (fun K hK => ?_)
                have hs16 : w12.cell? ⟨gb190, 0, none⟩ = some (.int .u8 0) := (blk_cell BK190.out 0).trans rfl
                have hfs16 := blk_frozen BK190.out 0
                have hns16_0 := NB189_190.out
                have hms16_0 := NB190_189.out
                have hs17 : w12.cell? ⟨gb190, 1, none⟩ = some (.int .u64 0) := (blk_cell BK190.out 1).trans rfl
                have hfs17 := blk_frozen BK190.out 1
                have hns17_0 := NB189_190.out
                have hms17_0 := NB190_189.out
                have hs18 : w12.cell? ⟨gb190, 2, none⟩ = some (.string (⟨#[]⟩ : ByteArray)) := (blk_cell BK190.out 2).trans rfl
                have hfs18 := blk_frozen BK190.out 2
                have hns18_0 := NB189_190.out
                have hms18_0 := NB190_189.out
                refine skip_ (w1 := ?_) (by rfl) rfl ?_ ?_
                rotate_left
                · go_simp
                  rfl
                refine hK.out _ _ ⟨((cell_far (p := ⟨gb190, _, none⟩) (by first | exact Nat.ne_of_lt (Nat.lt_of_lt_of_le (by have := World.block_lt_of_cell? _ _ hw187_0; first | rwa [add_block] at this | exact this) GW190.out) | (rw [add_block]; exact Nat.ne_of_lt (Nat.lt_of_lt_of_le (by have := World.block_lt_of_cell? _ _ hw187_0; first | rwa [add_block] at this | exact this) GW190.out)) | (show (Addr.add _ _).block ≠ _; rw [add_block]; exact Nat.ne_of_lt (Nat.lt_of_lt_of_le (by have := World.block_lt_of_cell? _ _ hw187_0; first | rwa [add_block] at this | exact this) GW190.out)) | (dsimp only; exact Nat.ne_of_lt (Nat.lt_of_lt_of_le (by have := World.block_lt_of_cell? _ _ hw187_0; first | rwa [add_block] at this | exact this) GW190.out))) _).trans (((cell_far (p := ⟨gb190, _, none⟩) (by first | exact Nat.ne_of_lt (Nat.lt_of_lt_of_le (by have := World.block_lt_of_cell? _ _ hw187_0; first | rwa [add_block] at this | exact this) GW190.out) | (rw [add_block]; exact Nat.ne_of_lt (Nat.lt_of_lt_of_le (by have := World.block_lt_of_cell? _ _ hw187_0; first | rwa [add_block] at this | exact this) GW190.out)) | (show (Addr.add _ _).block ≠ _; rw [add_block]; exact Nat.ne_of_lt (Nat.lt_of_lt_of_le (by have := World.block_lt_of_cell? _ _ hw187_0; first | rwa [add_block] at this | exact this) GW190.out)) | (dsimp only; exact Nat.ne_of_lt (Nat.lt_of_lt_of_le (by have := World.block_lt_of_cell? _ _ hw187_0; first | rwa [add_block] at this | exact this) GW190.out))) _).trans (((cell_far (p := ⟨gb190, _, none⟩) (by first | exact Nat.ne_of_lt (Nat.lt_of_lt_of_le (by have := World.block_lt_of_cell? _ _ hw187_0; first | rwa [add_block] at this | exact this) GW190.out) | (rw [add_block]; exact Nat.ne_of_lt (Nat.lt_of_lt_of_le (by have := World.block_lt_of_cell? _ _ hw187_0; first | rwa [add_block] at this | exact this) GW190.out)) | (show (Addr.add _ _).block ≠ _; rw [add_block]; exact Nat.ne_of_lt (Nat.lt_of_lt_of_le (by have := World.block_lt_of_cell? _ _ hw187_0; first | rwa [add_block] at this | exact this) GW190.out)) | (dsimp only; exact Nat.ne_of_lt (Nat.lt_of_lt_of_le (by have := World.block_lt_of_cell? _ _ hw187_0; first | rwa [add_block] at this | exact this) GW190.out))) _).trans (hHeld.1)))))), ((cell_far (p := ⟨gb190, _, none⟩) (by first | exact Nat.ne_of_lt (Nat.lt_of_lt_of_le (by have := World.block_lt_of_cell? _ _ hw187_1; first | rwa [add_block] at this | exact this) GW190.out) | (rw [add_block]; exact Nat.ne_of_lt (Nat.lt_of_lt_of_le (by have := World.block_lt_of_cell? _ _ hw187_1; first | rwa [add_block] at this | exact this) GW190.out)) | (show (Addr.add _ _).block ≠ _; rw [add_block]; exact Nat.ne_of_lt (Nat.lt_of_lt_of_le (by have := World.block_lt_of_cell? _ _ hw187_1; first | rwa [add_block] at this | exact this) GW190.out)) | (dsimp only; exact Nat.ne_of_lt (Nat.lt_of_lt_of_le (by have := World.block_lt_of_cell? _ _ hw187_1; first | rwa [add_block] at this | exact this) GW190.out))) _).trans (((cell_far (p := ⟨gb190, _, none⟩) (by first | exact Nat.ne_of_lt (Nat.lt_of_lt_of_le (by have := World.block_lt_of_cell? _ _ hw187_1; first | rwa [add_block] at this | exact this) GW190.out) | (rw [add_block]; exact Nat.ne_of_lt (Nat.lt_of_lt_of_le (by have := World.block_lt_of_cell? _ _ hw187_1; first | rwa [add_block] at this | exact this) GW190.out)) | (show (Addr.add _ _).block ≠ _; rw [add_block]; exact Nat.ne_of_lt (Nat.lt_of_lt_of_le (by have := World.block_lt_of_cell? _ _ hw187_1; first | rwa [add_block] at this | exact this) GW190.out)) | (dsimp only; exact Nat.ne_of_lt (Nat.lt_of_lt_of_le (by have := World.block_lt_of_cell? _ _ hw187_1; first | rwa [add_block] at this | exact this) GW190.out))) _).trans (((cell_far (p := ⟨gb190, _, none⟩) (by first | exact Nat.ne_of_lt (Nat.lt_of_lt_of_le (by have := World.block_lt_of_cell? _ _ hw187_1; first | rwa [add_block] at this | exact this) GW190.out) | (rw [add_block]; exact Nat.ne_of_lt (Nat.lt_of_lt_of_le (by have := World.block_lt_of_cell? _ _ hw187_1; first | rwa [add_block] at this | exact this) GW190.out)) | (show (Addr.add _ _).block ≠ _; rw [add_block]; exact Nat.ne_of_lt (Nat.lt_of_lt_of_le (by have := World.block_lt_of_cell? _ _ hw187_1; first | rwa [add_block] at this | exact this) GW190.out)) | (dsimp only; exact Nat.ne_of_lt (Nat.lt_of_lt_of_le (by have := World.block_lt_of_cell? _ _ hw187_1; first | rwa [add_block] at this | exact this) GW190.out))) _).trans (hHeld.2.1)))))), ((cell_far (p := ⟨gb190, _, none⟩) (by first | exact Nat.ne_of_lt (Nat.lt_of_lt_of_le (by have := World.block_lt_of_cell? _ _ hw187_2; first | rwa [add_block] at this | exact this) GW190.out) | (rw [add_block]; exact Nat.ne_of_lt (Nat.lt_of_lt_of_le (by have := World.block_lt_of_cell? _ _ hw187_2; first | rwa [add_block] at this | exact this) GW190.out)) | (show (Addr.add _ _).block ≠ _; rw [add_block]; exact Nat.ne_of_lt (Nat.lt_of_lt_of_le (by have := World.block_lt_of_cell? _ _ hw187_2; first | rwa [add_block] at this | exact this) GW190.out)) | (dsimp only; exact Nat.ne_of_lt (Nat.lt_of_lt_of_le (by have := World.block_lt_of_cell? _ _ hw187_2; first | rwa [add_block] at this | exact this) GW190.out))) _).trans (((cell_far (p := ⟨gb190, _, none⟩) (by first | exact Nat.ne_of_lt (Nat.lt_of_lt_of_le (by have := World.block_lt_of_cell? _ _ hw187_2; first | rwa [add_block] at this | exact this) GW190.out) | (rw [add_block]; exact Nat.ne_of_lt (Nat.lt_of_lt_of_le (by have := World.block_lt_of_cell? _ _ hw187_2; first | rwa [add_block] at this | exact this) GW190.out)) | (show (Addr.add _ _).block ≠ _; rw [add_block]; exact Nat.ne_of_lt (Nat.lt_of_lt_of_le (by have := World.block_lt_of_cell? _ _ hw187_2; first | rwa [add_block] at this | exact this) GW190.out)) | (dsimp only; exact Nat.ne_of_lt (Nat.lt_of_lt_of_le (by have := World.block_lt_of_cell? _ _ hw187_2; first | rwa [add_block] at this | exact this) GW190.out))) _).trans (((cell_far (p := ⟨gb190, _, none⟩) (by first | exact Nat.ne_of_lt (Nat.lt_of_lt_of_le (by have := World.block_lt_of_cell? _ _ hw187_2; first | rwa [add_block] at this | exact this) GW190.out) | (rw [add_block]; exact Nat.ne_of_lt (Nat.lt_of_lt_of_le (by have := World.block_lt_of_cell? _ _ hw187_2; first | rwa [add_block] at this | exact this) GW190.out)) | (show (Addr.add _ _).block ≠ _; rw [add_block]; exact Nat.ne_of_lt (Nat.lt_of_lt_of_le (by have := World.block_lt_of_cell? _ _ hw187_2; first | rwa [add_block] at this | exact this) GW190.out)) | (dsimp only; exact Nat.ne_of_lt (Nat.lt_of_lt_of_le (by have := World.block_lt_of_cell? _ _ hw187_2; first | rwa [add_block] at this | exact this) GW190.out))) _).trans (hHeld.2.2.1)))))), ((cell_far (p := ⟨gb190, _, none⟩) (by first | exact Nat.ne_of_lt (Nat.lt_of_lt_of_le (by have := World.block_lt_of_cell? _ _ hw188_0; first | rwa [add_block] at this | exact this) GW190.out) | (rw [add_block]; exact Nat.ne_of_lt (Nat.lt_of_lt_of_le (by have := World.block_lt_of_cell? _ _ hw188_0; first | rwa [add_block] at this | exact this) GW190.out)) | (show (Addr.add _ _).block ≠ _; rw [add_block]; exact Nat.ne_of_lt (Nat.lt_of_lt_of_le (by have := World.block_lt_of_cell? _ _ hw188_0; first | rwa [add_block] at this | exact this) GW190.out)) | (dsimp only; exact Nat.ne_of_lt (Nat.lt_of_lt_of_le (by have := World.block_lt_of_cell? _ _ hw188_0; first | rwa [add_block] at this | exact this) GW190.out))) _).trans (((cell_far (p := ⟨gb190, _, none⟩) (by first | exact Nat.ne_of_lt (Nat.lt_of_lt_of_le (by have := World.block_lt_of_cell? _ _ hw188_0; first | rwa [add_block] at this | exact this) GW190.out) | (rw [add_block]; exact Nat.ne_of_lt (Nat.lt_of_lt_of_le (by have := World.block_lt_of_cell? _ _ hw188_0; first | rwa [add_block] at this | exact this) GW190.out)) | (show (Addr.add _ _).block ≠ _; rw [add_block]; exact Nat.ne_of_lt (Nat.lt_of_lt_of_le (by have := World.block_lt_of_cell? _ _ hw188_0; first | rwa [add_block] at this | exact this) GW190.out)) | (dsimp only; exact Nat.ne_of_lt (Nat.lt_of_lt_of_le (by have := World.block_lt_of_cell? _ _ hw188_0; first | rwa [add_block] at this | exact this) GW190.out))) _).trans (((cell_far (p := ⟨gb190, _, none⟩) (by first | exact Nat.ne_of_lt (Nat.lt_of_lt_of_le (by have := World.block_lt_of_cell? _ _ hw188_0; first | rwa [add_block] at this | exact this) GW190.out) | (rw [add_block]; exact Nat.ne_of_lt (Nat.lt_of_lt_of_le (by have := World.block_lt_of_cell? _ _ hw188_0; first | rwa [add_block] at this | exact this) GW190.out)) | (show (Addr.add _ _).block ≠ _; rw [add_block]; exact Nat.ne_of_lt (Nat.lt_of_lt_of_le (by have := World.block_lt_of_cell? _ _ hw188_0; first | rwa [add_block] at this | exact this) GW190.out)) | (dsimp only; exact Nat.ne_of_lt (Nat.lt_of_lt_of_le (by have := World.block_lt_of_cell? _ _ hw188_0; first | rwa [add_block] at this | exact this) GW190.out))) _).trans (hHeld.2.2.2.1)))))), ((cell_far (p := ⟨gb190, _, none⟩) (by first | exact Nat.ne_of_lt (Nat.lt_of_lt_of_le (by have := World.block_lt_of_cell? _ _ hw188_1; first | rwa [add_block] at this | exact this) GW190.out) | (rw [add_block]; exact Nat.ne_of_lt (Nat.lt_of_lt_of_le (by have := World.block_lt_of_cell? _ _ hw188_1; first | rwa [add_block] at this | exact this) GW190.out)) | (show (Addr.add _ _).block ≠ _; rw [add_block]; exact Nat.ne_of_lt (Nat.lt_of_lt_of_le (by have := World.block_lt_of_cell? _ _ hw188_1; first | rwa [add_block] at this | exact this) GW190.out)) | (dsimp only; exact Nat.ne_of_lt (Nat.lt_of_lt_of_le (by have := World.block_lt_of_cell? _ _ hw188_1; first | rwa [add_block] at this | exact this) GW190.out))) _).trans (((cell_far (p := ⟨gb190, _, none⟩) (by first | exact Nat.ne_of_lt (Nat.lt_of_lt_of_le (by have := World.block_lt_of_cell? _ _ hw188_1; first | rwa [add_block] at this | exact this) GW190.out) | (rw [add_block]; exact Nat.ne_of_lt (Nat.lt_of_lt_of_le (by have := World.block_lt_of_cell? _ _ hw188_1; first | rwa [add_block] at this | exact this) GW190.out)) | (show (Addr.add _ _).block ≠ _; rw [add_block]; exact Nat.ne_of_lt (Nat.lt_of_lt_of_le (by have := World.block_lt_of_cell? _ _ hw188_1; first | rwa [add_block] at this | exact this) GW190.out)) | (dsimp only; exact Nat.ne_of_lt (Nat.lt_of_lt_of_le (by have := World.block_lt_of_cell? _ _ hw188_1; first | rwa [add_block] at this | exact this) GW190.out))) _).trans (((cell_far (p := ⟨gb190, _, none⟩) (by first | exact Nat.ne_of_lt (Nat.lt_of_lt_of_le (by have := World.block_lt_of_cell? _ _ hw188_1; first | rwa [add_block] at this | exact this) GW190.out) | (rw [add_block]; exact Nat.ne_of_lt (Nat.lt_of_lt_of_le (by have := World.block_lt_of_cell? _ _ hw188_1; first | rwa [add_block] at this | exact this) GW190.out)) | (show (Addr.add _ _).block ≠ _; rw [add_block]; exact Nat.ne_of_lt (Nat.lt_of_lt_of_le (by have := World.block_lt_of_cell? _ _ hw188_1; first | rwa [add_block] at this | exact this) GW190.out)) | (dsimp only; exact Nat.ne_of_lt (Nat.lt_of_lt_of_le (by have := World.block_lt_of_cell? _ _ hw188_1; first | rwa [add_block] at this | exact this) GW190.out))) _).trans (hHeld.2.2.2.2.1)))))), ((cell_far (p := ⟨gb190, _, none⟩) (by first | exact Nat.ne_of_lt (Nat.lt_of_lt_of_le (by have := World.block_lt_of_cell? _ _ hw188_2; first | rwa [add_block] at this | exact this) GW190.out) | (rw [add_block]; exact Nat.ne_of_lt (Nat.lt_of_lt_of_le (by have := World.block_lt_of_cell? _ _ hw188_2; first | rwa [add_block] at this | exact this) GW190.out)) | (show (Addr.add _ _).block ≠ _; rw [add_block]; exact Nat.ne_of_lt (Nat.lt_of_lt_of_le (by have := World.block_lt_of_cell? _ _ hw188_2; first | rwa [add_block] at this | exact this) GW190.out)) | (dsimp only; exact Nat.ne_of_lt (Nat.lt_of_lt_of_le (by have := World.block_lt_of_cell? _ _ hw188_2; first | rwa [add_block] at this | exact this) GW190.out))) _).trans (((cell_far (p := ⟨gb190, _, none⟩) (by first | exact Nat.ne_of_lt (Nat.lt_of_lt_of_le (by have := World.block_lt_of_cell? _ _ hw188_2; first | rwa [add_block] at this | exact this) GW190.out) | (rw [add_block]; exact Nat.ne_of_lt (Nat.lt_of_lt_of_le (by have := World.block_lt_of_cell? _ _ hw188_2; first | rwa [add_block] at this | exact this) GW190.out)) | (show (Addr.add _ _).block ≠ _; rw [add_block]; exact Nat.ne_of_lt (Nat.lt_of_lt_of_le (by have := World.block_lt_of_cell? _ _ hw188_2; first | rwa [add_block] at this | exact this) GW190.out)) | (dsimp only; exact Nat.ne_of_lt (Nat.lt_of_lt_of_le (by have := World.block_lt_of_cell? _ _ hw188_2; first | rwa [add_block] at this | exact this) GW190.out))) _).trans (((cell_far (p := ⟨gb190, _, none⟩) (by first | exact Nat.ne_of_lt (Nat.lt_of_lt_of_le (by have := World.block_lt_of_cell? _ _ hw188_2; first | rwa [add_block] at this | exact this) GW190.out) | (rw [add_block]; exact Nat.ne_of_lt (Nat.lt_of_lt_of_le (by have := World.block_lt_of_cell? _ _ hw188_2; first | rwa [add_block] at this | exact this) GW190.out)) | (show (Addr.add _ _).block ≠ _; rw [add_block]; exact Nat.ne_of_lt (Nat.lt_of_lt_of_le (by have := World.block_lt_of_cell? _ _ hw188_2; first | rwa [add_block] at this | exact this) GW190.out)) | (dsimp only; exact Nat.ne_of_lt (Nat.lt_of_lt_of_le (by have := World.block_lt_of_cell? _ _ hw188_2; first | rwa [add_block] at this | exact this) GW190.out))) _).trans (hHeld.2.2.2.2.2))))))⟩ (fun hHeld => ?_)
                clear hK K
                refine done_ (done_of HT_.out (by kernel_rfl)) ?_
                go_upto_region 7 with (fail)
                go_cut [25] (fun v25 wc => ∃ (kq : Nat) (x25_7 : Bool), v25 = .bool x25_7 ∧ Aside0 (ladinglaw03_order.j1 kq l0 l1 (l0.length : Int) x10_1 x25_7 ((rd_T60 l0 x10_1).f0) ((rd_T60 l0 x10_1).f1) ((rd_T60 l0 x10_1).f2) ((rd_T60 l1 x10_1).f0) ((rd_T60 l1 x10_1).f1) ((rd_T60 l1 x10_1).f2) = some r) ∧ Aside0 (kq ≤ k1) ∧ Aside0 (wc.heap[gb189]? = some (.cells #[.int .u8 ((rd_T60 l0 x10_1).f0), .int .u64 ((rd_T60 l0 x10_1).f1), .string ((rd_T60 l0 x10_1).f2)] 60 (0, 0))) ∧ Aside0 (wc.heap[gb190]? = some (.cells #[.int .u8 ((rd_T60 l1 x10_1).f0), .int .u64 ((rd_T60 l1 x10_1).f1), .string ((rd_T60 l1 x10_1).f2)] 60 (0, 0))) ∧ Aside0 (Below w.heap.size w wc))
                case first =>
                  have H := HC8.out
                  clear HC8
                  by_cases c19 : ((rd_T60 l0 x10_1).f0) = ((rd_T60 l1 x10_1).f0)
                  · rw [if_pos c19] at H
                    have c19b0 : (((rd_T60 l0 x10_1).f0) == ((rd_T60 l1 x10_1).f0)) = true := beq_iff_eq.mpr c19
                    have c19b1 : (((rd_T60 l0 x10_1).f0) != ((rd_T60 l1 x10_1).f0)) = false := bne_eq_false_iff_eq.mpr c19
                    clear c19
                    (first | rw [c19b0] | (simp only [i64_w, i32_w]; rw [c19b0]) | skip)
                    have H' := Aside0.mk H
                    clear H
                    have hnb20 := NB189_190.out
                    have hnc20 := NB190_189.out
                    have hcz21_0 : w12.cell? ⟨gb189, 0, none⟩ = some (.int .u8 0) := (blk_cell BK189.out 0).trans rfl
                    have hcz21_1 : w12.cell? ⟨gb189, 1, none⟩ = some (.int .u64 0) := (blk_cell BK189.out 1).trans rfl
                    have hcz21_2 : w12.cell? ⟨gb189, 2, none⟩ = some (.string (⟨#[]⟩ : ByteArray)) := (blk_cell BK189.out 2).trans rfl
                    have hfz21_0 := blk_frozen BK189.out 0
                    have hfz21_1 := blk_frozen BK189.out 1
                    have hfz21_2 := blk_frozen BK189.out 2
                    have hcz22_0 : w12.cell? ⟨gb190, 0, none⟩ = some (.int .u8 0) := (blk_cell BK190.out 0).trans rfl
                    have hcz22_1 : w12.cell? ⟨gb190, 1, none⟩ = some (.int .u64 0) := (blk_cell BK190.out 1).trans rfl
                    have hcz22_2 : w12.cell? ⟨gb190, 2, none⟩ = some (.string (⟨#[]⟩ : ByteArray)) := (blk_cell BK190.out 2).trans rfl
                    have hfz22_0 := blk_frozen BK190.out 0
                    have hfz22_1 := blk_frozen BK190.out 1
                    have hfz22_2 := blk_frozen BK190.out 2
                    go_wp2
                    go_meet
                    case rel => exact ⟨_, (false), (by first | rfl | (simp; done) | (simp [*]; done)), H', ⟨by have := HK1.out; first | omega | exact Nat.le_refl _⟩, ⟨by (with_reducible repeat (first | refine blk_drewN ?_ _ | refine blk_drew ?_ | refine blk_alloc ?_ _)); refine blk_far ?_ NB189_190.out _; (with_reducible repeat (first | refine blk_drewN ?_ _ | refine blk_drew ?_ | refine blk_alloc ?_ _)); refine blk_far ?_ NB189_190.out _; (with_reducible repeat (first | refine blk_drewN ?_ _ | refine blk_drew ?_ | refine blk_alloc ?_ _)); refine blk_far ?_ NB189_190.out _; (with_reducible repeat (first | refine blk_drewN ?_ _ | refine blk_drew ?_ | refine blk_alloc ?_ _)); refine blk_put (cs := #[.int .u8 ((rd_T60 l0 x10_1).f0), .int .u64 ((rd_T60 l0 x10_1).f1), .string (⟨#[]⟩ : ByteArray)]) ?_ 2 _ (by first | rfl | (simp only [List.length_drop, List.length_take]; rfl)); (with_reducible repeat (first | refine blk_drewN ?_ _ | refine blk_drew ?_ | refine blk_alloc ?_ _)); refine blk_put (cs := #[.int .u8 ((rd_T60 l0 x10_1).f0), .int .u64 0, .string (⟨#[]⟩ : ByteArray)]) ?_ 1 _ (by first | rfl | (simp only [List.length_drop, List.length_take]; rfl)); (with_reducible repeat (first | refine blk_drewN ?_ _ | refine blk_drew ?_ | refine blk_alloc ?_ _)); refine blk_put (cs := #[.int .u8 0, .int .u64 0, .string (⟨#[]⟩ : ByteArray)]) ?_ 0 _ (by first | rfl | (simp only [List.length_drop, List.length_take]; rfl)); (with_reducible repeat (first | refine blk_drewN ?_ _ | refine blk_drew ?_ | refine blk_alloc ?_ _)); exact BK189.out⟩, ⟨by (with_reducible repeat (first | refine blk_drewN ?_ _ | refine blk_drew ?_ | refine blk_alloc ?_ _)); refine blk_put (cs := #[.int .u8 ((rd_T60 l1 x10_1).f0), .int .u64 ((rd_T60 l1 x10_1).f1), .string (⟨#[]⟩ : ByteArray)]) ?_ 2 _ (by first | rfl | (simp only [List.length_drop, List.length_take]; rfl)); (with_reducible repeat (first | refine blk_drewN ?_ _ | refine blk_drew ?_ | refine blk_alloc ?_ _)); refine blk_put (cs := #[.int .u8 ((rd_T60 l1 x10_1).f0), .int .u64 0, .string (⟨#[]⟩ : ByteArray)]) ?_ 1 _ (by first | rfl | (simp only [List.length_drop, List.length_take]; rfl)); (with_reducible repeat (first | refine blk_drewN ?_ _ | refine blk_drew ?_ | refine blk_alloc ?_ _)); refine blk_put (cs := #[.int .u8 0, .int .u64 0, .string (⟨#[]⟩ : ByteArray)]) ?_ 0 _ (by first | rfl | (simp only [List.length_drop, List.length_take]; rfl)); (with_reducible repeat (first | refine blk_drewN ?_ _ | refine blk_drew ?_ | refine blk_alloc ?_ _)); refine blk_far ?_ NB190_189.out _; (with_reducible repeat (first | refine blk_drewN ?_ _ | refine blk_drew ?_ | refine blk_alloc ?_ _)); refine blk_far ?_ NB190_189.out _; (with_reducible repeat (first | refine blk_drewN ?_ _ | refine blk_drew ?_ | refine blk_alloc ?_ _)); refine blk_far ?_ NB190_189.out _; (with_reducible repeat (first | refine blk_drewN ?_ _ | refine blk_drew ?_ | refine blk_alloc ?_ _)); exact BK190.out⟩, ⟨by repeat (first | (with_reducible first | exact HB.out | apply below_alloc | apply pw_below_drewN | apply below_drew1 | refine below_set ?_ GE189.out | refine below_set ?_ GE190.out) | exact HB.out)⟩⟩
                  · rw [if_neg c19] at H
                    have c19b0 : (((rd_T60 l0 x10_1).f0) == ((rd_T60 l1 x10_1).f0)) = false := beq_eq_false_iff_ne.mpr c19
                    have c19b1 : (((rd_T60 l0 x10_1).f0) != ((rd_T60 l1 x10_1).f0)) = true := bne_iff_ne.mpr c19
                    (first | rw [c19b0] | (simp only [i64_w, i32_w]; rw [c19b0]) | skip)
                    have H' := Aside0.mk H
                    clear H
                    have hnb23 := NB189_190.out
                    have hnc23 := NB190_189.out
                    have hcz24_0 : w12.cell? ⟨gb189, 0, none⟩ = some (.int .u8 0) := (blk_cell BK189.out 0).trans rfl
                    have hcz24_1 : w12.cell? ⟨gb189, 1, none⟩ = some (.int .u64 0) := (blk_cell BK189.out 1).trans rfl
                    have hcz24_2 : w12.cell? ⟨gb189, 2, none⟩ = some (.string (⟨#[]⟩ : ByteArray)) := (blk_cell BK189.out 2).trans rfl
                    have hfz24_0 := blk_frozen BK189.out 0
                    have hfz24_1 := blk_frozen BK189.out 1
                    have hfz24_2 := blk_frozen BK189.out 2
                    have hcz25_0 : w12.cell? ⟨gb190, 0, none⟩ = some (.int .u8 0) := (blk_cell BK190.out 0).trans rfl
                    have hcz25_1 : w12.cell? ⟨gb190, 1, none⟩ = some (.int .u64 0) := (blk_cell BK190.out 1).trans rfl
                    have hcz25_2 : w12.cell? ⟨gb190, 2, none⟩ = some (.string (⟨#[]⟩ : ByteArray)) := (blk_cell BK190.out 2).trans rfl
                    have hfz25_0 := blk_frozen BK190.out 0
                    have hfz25_1 := blk_frozen BK190.out 1
                    have hfz25_2 := blk_frozen BK190.out 2
                    go_wp2
                    go_meet
                    case rel => exact ⟨_, (decide (((rd_T60 l0 x10_1).f0) < ((rd_T60 l1 x10_1).f0))), (by first | rfl | (simp; done) | (simp [*]; done)), H', ⟨by have := HK1.out; first | omega | exact Nat.le_refl _⟩, ⟨by (with_reducible repeat (first | refine blk_drewN ?_ _ | refine blk_drew ?_ | refine blk_alloc ?_ _)); refine blk_far ?_ NB189_190.out _; (with_reducible repeat (first | refine blk_drewN ?_ _ | refine blk_drew ?_ | refine blk_alloc ?_ _)); refine blk_far ?_ NB189_190.out _; (with_reducible repeat (first | refine blk_drewN ?_ _ | refine blk_drew ?_ | refine blk_alloc ?_ _)); refine blk_far ?_ NB189_190.out _; (with_reducible repeat (first | refine blk_drewN ?_ _ | refine blk_drew ?_ | refine blk_alloc ?_ _)); refine blk_put (cs := #[.int .u8 ((rd_T60 l0 x10_1).f0), .int .u64 ((rd_T60 l0 x10_1).f1), .string (⟨#[]⟩ : ByteArray)]) ?_ 2 _ (by first | rfl | (simp only [List.length_drop, List.length_take]; rfl)); (with_reducible repeat (first | refine blk_drewN ?_ _ | refine blk_drew ?_ | refine blk_alloc ?_ _)); refine blk_put (cs := #[.int .u8 ((rd_T60 l0 x10_1).f0), .int .u64 0, .string (⟨#[]⟩ : ByteArray)]) ?_ 1 _ (by first | rfl | (simp only [List.length_drop, List.length_take]; rfl)); (with_reducible repeat (first | refine blk_drewN ?_ _ | refine blk_drew ?_ | refine blk_alloc ?_ _)); refine blk_put (cs := #[.int .u8 0, .int .u64 0, .string (⟨#[]⟩ : ByteArray)]) ?_ 0 _ (by first | rfl | (simp only [List.length_drop, List.length_take]; rfl)); (with_reducible repeat (first | refine blk_drewN ?_ _ | refine blk_drew ?_ | refine blk_alloc ?_ _)); exact BK189.out⟩, ⟨by (with_reducible repeat (first | refine blk_drewN ?_ _ | refine blk_drew ?_ | refine blk_alloc ?_ _)); refine blk_put (cs := #[.int .u8 ((rd_T60 l1 x10_1).f0), .int .u64 ((rd_T60 l1 x10_1).f1), .string (⟨#[]⟩ : ByteArray)]) ?_ 2 _ (by first | rfl | (simp only [List.length_drop, List.length_take]; rfl)); (with_reducible repeat (first | refine blk_drewN ?_ _ | refine blk_drew ?_ | refine blk_alloc ?_ _)); refine blk_put (cs := #[.int .u8 ((rd_T60 l1 x10_1).f0), .int .u64 0, .string (⟨#[]⟩ : ByteArray)]) ?_ 1 _ (by first | rfl | (simp only [List.length_drop, List.length_take]; rfl)); (with_reducible repeat (first | refine blk_drewN ?_ _ | refine blk_drew ?_ | refine blk_alloc ?_ _)); refine blk_put (cs := #[.int .u8 0, .int .u64 0, .string (⟨#[]⟩ : ByteArray)]) ?_ 0 _ (by first | rfl | (simp only [List.length_drop, List.length_take]; rfl)); (with_reducible repeat (first | refine blk_drewN ?_ _ | refine blk_drew ?_ | refine blk_alloc ?_ _)); refine blk_far ?_ NB190_189.out _; (with_reducible repeat (first | refine blk_drewN ?_ _ | refine blk_drew ?_ | refine blk_alloc ?_ _)); refine blk_far ?_ NB190_189.out _; (with_reducible repeat (first | refine blk_drewN ?_ _ | refine blk_drew ?_ | refine blk_alloc ?_ _)); refine blk_far ?_ NB190_189.out _; (with_reducible repeat (first | refine blk_drewN ?_ _ | refine blk_drew ?_ | refine blk_alloc ?_ _)); exact BK190.out⟩, ⟨by repeat (first | (with_reducible first | exact HB.out | apply below_alloc | apply pw_below_drewN | apply below_drew1 | refine below_set ?_ GE189.out | refine below_set ?_ GE190.out) | exact HB.out)⟩⟩
                case rest =>
                  clear HC8
                  try clear c1
                  try clear p1
                  try clear q1
                  try clear hx1
                  try clear c2
                  try clear p2
                  try clear c3
                  try clear c3b0
                  try clear c4
                  try clear c4b0
                  try clear c5
                  try clear c5b0
                  try clear c6
                  try clear c6b0
                  try clear c7
                  try clear c7b0
                  try clear c15
                  try clear p18
                  try clear q18
                  try clear hx18
                  try clear c19
                  try clear c19b0
                  try clear c19b1
                  try clear c20
                  try clear c23
                  try clear hcz21_0
                  try clear hcz21_1
                  try clear hcz21_2
                  try clear hcz22_0
                  try clear hcz22_1
                  try clear hcz22_2
                  try clear hcz24_0
                  try clear hcz24_1
                  try clear hcz24_2
                  try clear hcz25_0
                  try clear hcz25_1
                  try clear hcz25_2
                  try clear hfz21_0
                  try clear hfz21_1
                  try clear hfz21_2
                  try clear hfz22_0
                  try clear hfz22_1
                  try clear hfz22_2
                  try clear hfz24_0
                  try clear hfz24_1
                  try clear hfz24_2
                  try clear hfz25_0
                  try clear hfz25_1
                  try clear hfz25_2
                  try clear hx187_0
                  try clear hx187_1
                  try clear hx187_2
                  try clear hx188_0
                  try clear hx188_1
                  try clear hx188_2
                  try clear p187
                  try clear p188
                  try clear p2
                  try clear q187
                  try clear q188
                  (try clear BK189)
                  (try clear BK190)
                  obtain ⟨kq, x25_7, rfl, HA, HJ7, BK189, BK190, HB⟩ := hcut
                  cases kq with
                  | zero => exact absurd HA.out (by simp [ladinglaw03_order.j1])
                  | succ kj7 =>
                    have H := HA.out
                    clear HA
                    simp only [ladinglaw03_order.j1] at H
                    by_cases c26 : x25_7 = true
                    · subst c26
                      have H1 : (some (-1)) = some r := by rw [if_pos rfl] at H; exact H
                      clear H
                      have H := H1
                      clear H1
                      obtain rfl := Option.some.inj H
                      go_wp2
                      go_ret
                      exact ⟨by first | rfl | (simp [errW_none, errW_some] <;> rfl) | (simp [*, errW_none, errW_some] <;> rfl), by repeat (first | (with_reducible first | exact HB.out | apply below_alloc | apply pw_below_drewN | apply below_drew1 | refine below_set ?_ GE189.out | refine below_set ?_ GE190.out) | exact HB.out)⟩
                    · replace c26 := Bool.eq_false_iff.mpr c26
                      subst c26
                      have H1 : (if ((rd_T60 l0 x10_1).f0) = ((rd_T60 l1 x10_1).f0) then (if ((rd_T60 l0 x10_1).f1) < ((rd_T60 l1 x10_1).f1) then (ladinglaw03_order.j2 kj7 l0 l1 (l0.length : Int) x10_1 true ((rd_T60 l0 x10_1).f0) ((rd_T60 l0 x10_1).f1) ((rd_T60 l0 x10_1).f2) ((rd_T60 l1 x10_1).f0) ((rd_T60 l1 x10_1).f1) ((rd_T60 l1 x10_1).f2)) else (ladinglaw03_order.j2 kj7 l0 l1 (l0.length : Int) x10_1 (Op.bytesLess ((rd_T60 l0 x10_1).f2).toList ((rd_T60 l1 x10_1).f2).toList) ((rd_T60 l0 x10_1).f0) ((rd_T60 l0 x10_1).f1) ((rd_T60 l0 x10_1).f2) ((rd_T60 l1 x10_1).f0) ((rd_T60 l1 x10_1).f1) ((rd_T60 l1 x10_1).f2))) else (some 1)) = some r := by rw [if_neg (show ¬ (false = true) by decide)] at H; exact H
                      clear H
                      have H := H1
                      clear H1
                      by_cases c27 : ((rd_T60 l0 x10_1).f0) = ((rd_T60 l1 x10_1).f0)
                      · rw [if_pos c27] at H
                        have c27b0 : (((rd_T60 l0 x10_1).f0) == ((rd_T60 l1 x10_1).f0)) = true := beq_iff_eq.mpr c27
                        have c27b1 : (((rd_T60 l0 x10_1).f0) != ((rd_T60 l1 x10_1).f0)) = false := bne_eq_false_iff_eq.mpr c27
                        clear c27
                        have HC28 := Aside0.mk H
                        clear H
                        have hnb29 := NB189_190.out
                        have hnc29 := NB190_189.out
                        have hcz30_0 : wc.cell? ⟨gb189, 0, none⟩ = some (.int .u8 ((rd_T60 l0 x10_1).f0)) := (blk_cell BK189.out 0).trans rfl
                        have hcz30_1 : wc.cell? ⟨gb189, 1, none⟩ = some (.int .u64 ((rd_T60 l0 x10_1).f1)) := (blk_cell BK189.out 1).trans rfl
                        have hcz30_2 : wc.cell? ⟨gb189, 2, none⟩ = some (.string ((rd_T60 l0 x10_1).f2)) := (blk_cell BK189.out 2).trans rfl
                        have hfz30_0 := blk_frozen BK189.out 0
                        have hfz30_1 := blk_frozen BK189.out 1
                        have hfz30_2 := blk_frozen BK189.out 2
                        have hcz31_0 : wc.cell? ⟨gb190, 0, none⟩ = some (.int .u8 ((rd_T60 l1 x10_1).f0)) := (blk_cell BK190.out 0).trans rfl
                        have hcz31_1 : wc.cell? ⟨gb190, 1, none⟩ = some (.int .u64 ((rd_T60 l1 x10_1).f1)) := (blk_cell BK190.out 1).trans rfl
                        have hcz31_2 : wc.cell? ⟨gb190, 2, none⟩ = some (.string ((rd_T60 l1 x10_1).f2)) := (blk_cell BK190.out 2).trans rfl
                        have hfz31_0 := blk_frozen BK190.out 0
                        have hfz31_1 := blk_frozen BK190.out 1
                        have hfz31_2 := blk_frozen BK190.out 2
                        go_upto_region 11 with (fail)
                        go_cut [44] (fun v44 wc => ∃ (kq : Nat) (x44_27 : Bool), v44 = .bool x44_27 ∧ Aside0 (ladinglaw03_order.j2 kq l0 l1 (l0.length : Int) x10_1 x44_27 ((rd_T60 l0 x10_1).f0) ((rd_T60 l0 x10_1).f1) ((rd_T60 l0 x10_1).f2) ((rd_T60 l1 x10_1).f0) ((rd_T60 l1 x10_1).f1) ((rd_T60 l1 x10_1).f2) = some r) ∧ Aside0 (kq ≤ kj7) ∧ Aside0 (wc.heap[gb189]? = some (.cells #[.int .u8 ((rd_T60 l0 x10_1).f0), .int .u64 ((rd_T60 l0 x10_1).f1), .string ((rd_T60 l0 x10_1).f2)] 60 (0, 0))) ∧ Aside0 (wc.heap[gb190]? = some (.cells #[.int .u8 ((rd_T60 l1 x10_1).f0), .int .u64 ((rd_T60 l1 x10_1).f1), .string ((rd_T60 l1 x10_1).f2)] 60 (0, 0))) ∧ Aside0 (Below w.heap.size w wc))
                        case first =>
                          have H := HC28.out
                          clear HC28
                          by_cases c32 : ((rd_T60 l0 x10_1).f1) < ((rd_T60 l1 x10_1).f1)
                          · rw [if_pos c32] at H
                            have c32b0 : decide (((rd_T60 l0 x10_1).f1) < ((rd_T60 l1 x10_1).f1)) = true := decide_eq_true c32
                            clear c32
                            (first | rw [c32b0] | (simp only [i64_w, i32_w]; rw [c32b0]) | skip)
                            have H' := Aside0.mk H
                            clear H
                            have hnb33 := NB189_190.out
                            have hnc33 := NB190_189.out
                            have hcz34_0 : wc.cell? ⟨gb189, 0, none⟩ = some (.int .u8 ((rd_T60 l0 x10_1).f0)) := (blk_cell BK189.out 0).trans rfl
                            have hcz34_1 : wc.cell? ⟨gb189, 1, none⟩ = some (.int .u64 ((rd_T60 l0 x10_1).f1)) := (blk_cell BK189.out 1).trans rfl
                            have hcz34_2 : wc.cell? ⟨gb189, 2, none⟩ = some (.string ((rd_T60 l0 x10_1).f2)) := (blk_cell BK189.out 2).trans rfl
                            have hfz34_0 := blk_frozen BK189.out 0
                            have hfz34_1 := blk_frozen BK189.out 1
                            have hfz34_2 := blk_frozen BK189.out 2
                            have hcz35_0 : wc.cell? ⟨gb190, 0, none⟩ = some (.int .u8 ((rd_T60 l1 x10_1).f0)) := (blk_cell BK190.out 0).trans rfl
                            have hcz35_1 : wc.cell? ⟨gb190, 1, none⟩ = some (.int .u64 ((rd_T60 l1 x10_1).f1)) := (blk_cell BK190.out 1).trans rfl
                            have hcz35_2 : wc.cell? ⟨gb190, 2, none⟩ = some (.string ((rd_T60 l1 x10_1).f2)) := (blk_cell BK190.out 2).trans rfl
                            have hfz35_0 := blk_frozen BK190.out 0
                            have hfz35_1 := blk_frozen BK190.out 1
                            have hfz35_2 := blk_frozen BK190.out 2
                            go_wp2
                            go_meet
                            case rel => exact ⟨_, (true), (by first | rfl | (simp; done) | (simp [*]; done)), H', ⟨by have := HK1.out; have := HJ7.out; first | omega | exact Nat.le_refl _⟩, ⟨by (with_reducible repeat (first | refine blk_drewN ?_ _ | refine blk_drew ?_ | refine blk_alloc ?_ _)); exact BK189.out⟩, ⟨by (with_reducible repeat (first | refine blk_drewN ?_ _ | refine blk_drew ?_ | refine blk_alloc ?_ _)); exact BK190.out⟩, ⟨by repeat (first | (with_reducible first | exact HB.out | apply below_alloc | apply pw_below_drewN | apply below_drew1 | refine below_set ?_ GE189.out | refine below_set ?_ GE190.out) | exact HB.out)⟩⟩
                          · rw [if_neg c32] at H
                            have c32b0 : decide (((rd_T60 l0 x10_1).f1) < ((rd_T60 l1 x10_1).f1)) = false := decide_eq_false c32
                            clear c32
                            (first | rw [c32b0] | (simp only [i64_w, i32_w]; rw [c32b0]) | skip)
                            have H' := Aside0.mk H
                            clear H
                            have hnb36 := NB189_190.out
                            have hnc36 := NB190_189.out
                            have hcz37_0 : wc.cell? ⟨gb189, 0, none⟩ = some (.int .u8 ((rd_T60 l0 x10_1).f0)) := (blk_cell BK189.out 0).trans rfl
                            have hcz37_1 : wc.cell? ⟨gb189, 1, none⟩ = some (.int .u64 ((rd_T60 l0 x10_1).f1)) := (blk_cell BK189.out 1).trans rfl
                            have hcz37_2 : wc.cell? ⟨gb189, 2, none⟩ = some (.string ((rd_T60 l0 x10_1).f2)) := (blk_cell BK189.out 2).trans rfl
                            have hfz37_0 := blk_frozen BK189.out 0
                            have hfz37_1 := blk_frozen BK189.out 1
                            have hfz37_2 := blk_frozen BK189.out 2
                            have hcz38_0 : wc.cell? ⟨gb190, 0, none⟩ = some (.int .u8 ((rd_T60 l1 x10_1).f0)) := (blk_cell BK190.out 0).trans rfl
                            have hcz38_1 : wc.cell? ⟨gb190, 1, none⟩ = some (.int .u64 ((rd_T60 l1 x10_1).f1)) := (blk_cell BK190.out 1).trans rfl
                            have hcz38_2 : wc.cell? ⟨gb190, 2, none⟩ = some (.string ((rd_T60 l1 x10_1).f2)) := (blk_cell BK190.out 2).trans rfl
                            have hfz38_0 := blk_frozen BK190.out 0
                            have hfz38_1 := blk_frozen BK190.out 1
                            have hfz38_2 := blk_frozen BK190.out 2
                            go_wp2
                            go_meet
                            case rel => exact ⟨_, ((Op.bytesLess ((rd_T60 l0 x10_1).f2).toList ((rd_T60 l1 x10_1).f2).toList)), (by first | rfl | (simp; done) | (simp [*]; done)), H', ⟨by have := HK1.out; have := HJ7.out; first | omega | exact Nat.le_refl _⟩, ⟨by (with_reducible repeat (first | refine blk_drewN ?_ _ | refine blk_drew ?_ | refine blk_alloc ?_ _)); exact BK189.out⟩, ⟨by (with_reducible repeat (first | refine blk_drewN ?_ _ | refine blk_drew ?_ | refine blk_alloc ?_ _)); exact BK190.out⟩, ⟨by repeat (first | (with_reducible first | exact HB.out | apply below_alloc | apply pw_below_drewN | apply below_drew1 | refine below_set ?_ GE189.out | refine below_set ?_ GE190.out) | exact HB.out)⟩⟩
                        case rest =>
                          clear HC28
                          try clear c1
                          try clear p1
                          try clear q1
                          try clear hx1
                          try clear c2
                          try clear p2
                          try clear c3
                          try clear c3b0
                          try clear c4
                          try clear c4b0
                          try clear c5
                          try clear c5b0
                          try clear c6
                          try clear c6b0
                          try clear c7
                          try clear c7b0
                          try clear c15
                          try clear p18
                          try clear q18
                          try clear hx18
                          try clear c19
                          try clear c19b0
                          try clear c19b1
                          try clear c20
                          try clear c23
                          try clear c26
                          try clear c27
                          try clear c27b0
                          try clear c27b1
                          try clear c29
                          try clear c32
                          try clear c32b0
                          try clear c33
                          try clear c36
                          try clear hcz21_0
                          try clear hcz21_1
                          try clear hcz21_2
                          try clear hcz22_0
                          try clear hcz22_1
                          try clear hcz22_2
                          try clear hcz24_0
                          try clear hcz24_1
                          try clear hcz24_2
                          try clear hcz25_0
                          try clear hcz25_1
                          try clear hcz25_2
                          try clear hcz30_0
                          try clear hcz30_1
                          try clear hcz30_2
                          try clear hcz31_0
                          try clear hcz31_1
                          try clear hcz31_2
                          try clear hcz34_0
                          try clear hcz34_1
                          try clear hcz34_2
                          try clear hcz35_0
                          try clear hcz35_1
                          try clear hcz35_2
                          try clear hcz37_0
                          try clear hcz37_1
                          try clear hcz37_2
                          try clear hcz38_0
                          try clear hcz38_1
                          try clear hcz38_2
                          try clear hfz21_0
                          try clear hfz21_1
                          try clear hfz21_2
                          try clear hfz22_0
                          try clear hfz22_1
                          try clear hfz22_2
                          try clear hfz24_0
                          try clear hfz24_1
                          try clear hfz24_2
                          try clear hfz25_0
                          try clear hfz25_1
                          try clear hfz25_2
                          try clear hfz30_0
                          try clear hfz30_1
                          try clear hfz30_2
                          try clear hfz31_0
                          try clear hfz31_1
                          try clear hfz31_2
                          try clear hfz34_0
                          try clear hfz34_1
                          try clear hfz34_2
                          try clear hfz35_0
                          try clear hfz35_1
                          try clear hfz35_2
                          try clear hfz37_0
                          try clear hfz37_1
                          try clear hfz37_2
                          try clear hfz38_0
                          try clear hfz38_1
                          try clear hfz38_2
                          try clear hx187_0
                          try clear hx187_1
                          try clear hx187_2
                          try clear hx188_0
                          try clear hx188_1
                          try clear hx188_2
                          try clear p1
                          try clear p18
                          try clear p187
                          try clear p188
                          try clear p2
                          try clear q1
                          try clear q18
                          try clear q187
                          try clear q188
                          (try clear BK189)
                          (try clear BK190)
                          obtain ⟨kq, x44_27, rfl, HA, HJ27, BK189, BK190, HB⟩ := hcut
                          cases kq with
                          | zero => exact absurd HA.out (by simp [ladinglaw03_order.j2])
                          | succ kj27 =>
                            have H := HA.out
                            clear HA
                            simp only [ladinglaw03_order.j2] at H
                            by_cases c39 : x44_27 = true
                            · subst c39
                              have H1 : (some (-1)) = some r := by rw [if_pos rfl] at H; exact H
                              clear H
                              have H := H1
                              clear H1
                              obtain rfl := Option.some.inj H
                              go_wp2
                              go_ret
                              exact ⟨by first | rfl | (simp [errW_none, errW_some] <;> rfl) | (simp [*, errW_none, errW_some] <;> rfl), by repeat (first | (with_reducible first | exact HB.out | apply below_alloc | apply pw_below_drewN | apply below_drew1 | refine below_set ?_ GE189.out | refine below_set ?_ GE190.out) | exact HB.out)⟩
                            · replace c39 := Bool.eq_false_iff.mpr c39
                              subst c39
                              have H1 : (if ((rd_T60 l0 x10_1).f1) > ((rd_T60 l1 x10_1).f1) then (some 1) else (if (Op.bytesLess ((rd_T60 l1 x10_1).f2).toList ((rd_T60 l0 x10_1).f2).toList) = true then (some 1) else (ladinglaw03_order.l0 kj27 l0 l1 (l0.length : Int) (wrap64 (x10_1 + 1))))) = some r := by rw [if_neg (show ¬ (false = true) by decide)] at H; exact H
                              clear H
                              have H := H1
                              clear H1
                              by_cases c40 : ((rd_T60 l0 x10_1).f1) > ((rd_T60 l1 x10_1).f1)
                              · rw [if_pos c40] at H
                                have c40b0 : decide (((rd_T60 l1 x10_1).f1) < ((rd_T60 l0 x10_1).f1)) = true := decide_eq_true c40
                                clear c40
                                obtain rfl := Option.some.inj H
                                have hnb41 := NB189_190.out
                                have hnc41 := NB190_189.out
                                have hcz42_0 : wc.cell? ⟨gb189, 0, none⟩ = some (.int .u8 ((rd_T60 l0 x10_1).f0)) := (blk_cell BK189.out 0).trans rfl
                                have hcz42_1 : wc.cell? ⟨gb189, 1, none⟩ = some (.int .u64 ((rd_T60 l0 x10_1).f1)) := (blk_cell BK189.out 1).trans rfl
                                have hcz42_2 : wc.cell? ⟨gb189, 2, none⟩ = some (.string ((rd_T60 l0 x10_1).f2)) := (blk_cell BK189.out 2).trans rfl
                                have hfz42_0 := blk_frozen BK189.out 0
                                have hfz42_1 := blk_frozen BK189.out 1
                                have hfz42_2 := blk_frozen BK189.out 2
                                have hcz43_0 : wc.cell? ⟨gb190, 0, none⟩ = some (.int .u8 ((rd_T60 l1 x10_1).f0)) := (blk_cell BK190.out 0).trans rfl
                                have hcz43_1 : wc.cell? ⟨gb190, 1, none⟩ = some (.int .u64 ((rd_T60 l1 x10_1).f1)) := (blk_cell BK190.out 1).trans rfl
                                have hcz43_2 : wc.cell? ⟨gb190, 2, none⟩ = some (.string ((rd_T60 l1 x10_1).f2)) := (blk_cell BK190.out 2).trans rfl
                                have hfz43_0 := blk_frozen BK190.out 0
                                have hfz43_1 := blk_frozen BK190.out 1
                                have hfz43_2 := blk_frozen BK190.out 2
                                go_wp2
                                go_ret
                                exact ⟨by first | rfl | (simp [errW_none, errW_some] <;> rfl) | (simp [*, errW_none, errW_some] <;> rfl), by repeat (first | (with_reducible first | exact HB.out | apply below_alloc | apply pw_below_drewN | apply below_drew1 | refine below_set ?_ GE189.out | refine below_set ?_ GE190.out) | exact HB.out)⟩
                              · rw [if_neg c40] at H
                                have c40b0 : decide (((rd_T60 l1 x10_1).f1) < ((rd_T60 l0 x10_1).f1)) = false := decide_eq_false c40
                                clear c40
                                by_cases c44 : (Op.bytesLess ((rd_T60 l1 x10_1).f2).toList ((rd_T60 l0 x10_1).f2).toList) = true
                                · rw [if_pos c44] at H
                                  have c44b0 : (Op.bytesLess ((rd_T60 l1 x10_1).f2).toList ((rd_T60 l0 x10_1).f2).toList) = true := c44
                                  clear c44
                                  obtain rfl := Option.some.inj H
                                  have hnb45 := NB189_190.out
                                  have hnc45 := NB190_189.out
                                  have hcz46_0 : wc.cell? ⟨gb189, 0, none⟩ = some (.int .u8 ((rd_T60 l0 x10_1).f0)) := (blk_cell BK189.out 0).trans rfl
                                  have hcz46_1 : wc.cell? ⟨gb189, 1, none⟩ = some (.int .u64 ((rd_T60 l0 x10_1).f1)) := (blk_cell BK189.out 1).trans rfl
                                  have hcz46_2 : wc.cell? ⟨gb189, 2, none⟩ = some (.string ((rd_T60 l0 x10_1).f2)) := (blk_cell BK189.out 2).trans rfl
                                  have hfz46_0 := blk_frozen BK189.out 0
                                  have hfz46_1 := blk_frozen BK189.out 1
                                  have hfz46_2 := blk_frozen BK189.out 2
                                  have hcz47_0 : wc.cell? ⟨gb190, 0, none⟩ = some (.int .u8 ((rd_T60 l1 x10_1).f0)) := (blk_cell BK190.out 0).trans rfl
                                  have hcz47_1 : wc.cell? ⟨gb190, 1, none⟩ = some (.int .u64 ((rd_T60 l1 x10_1).f1)) := (blk_cell BK190.out 1).trans rfl
                                  have hcz47_2 : wc.cell? ⟨gb190, 2, none⟩ = some (.string ((rd_T60 l1 x10_1).f2)) := (blk_cell BK190.out 2).trans rfl
                                  have hfz47_0 := blk_frozen BK190.out 0
                                  have hfz47_1 := blk_frozen BK190.out 1
                                  have hfz47_2 := blk_frozen BK190.out 2
                                  go_wp2
                                  go_ret
                                  exact ⟨by first | rfl | (simp [errW_none, errW_some] <;> rfl) | (simp [*, errW_none, errW_some] <;> rfl), by repeat (first | (with_reducible first | exact HB.out | apply below_alloc | apply pw_below_drewN | apply below_drew1 | refine below_set ?_ GE189.out | refine below_set ?_ GE190.out) | exact HB.out)⟩
                                · rw [if_neg c44] at H
                                  have c44b0 : (Op.bytesLess ((rd_T60 l1 x10_1).f2).toList ((rd_T60 l0 x10_1).f2).toList) = false := by simpa using c44
                                  clear c44
                                  have H' := Aside0.mk H
                                  clear H
                                  have hnb48 := NB189_190.out
                                  have hnc48 := NB190_189.out
                                  have hcz49_0 : wc.cell? ⟨gb189, 0, none⟩ = some (.int .u8 ((rd_T60 l0 x10_1).f0)) := (blk_cell BK189.out 0).trans rfl
                                  have hcz49_1 : wc.cell? ⟨gb189, 1, none⟩ = some (.int .u64 ((rd_T60 l0 x10_1).f1)) := (blk_cell BK189.out 1).trans rfl
                                  have hcz49_2 : wc.cell? ⟨gb189, 2, none⟩ = some (.string ((rd_T60 l0 x10_1).f2)) := (blk_cell BK189.out 2).trans rfl
                                  have hfz49_0 := blk_frozen BK189.out 0
                                  have hfz49_1 := blk_frozen BK189.out 1
                                  have hfz49_2 := blk_frozen BK189.out 2
                                  have hcz50_0 : wc.cell? ⟨gb190, 0, none⟩ = some (.int .u8 ((rd_T60 l1 x10_1).f0)) := (blk_cell BK190.out 0).trans rfl
                                  have hcz50_1 : wc.cell? ⟨gb190, 1, none⟩ = some (.int .u64 ((rd_T60 l1 x10_1).f1)) := (blk_cell BK190.out 1).trans rfl
                                  have hcz50_2 : wc.cell? ⟨gb190, 2, none⟩ = some (.string ((rd_T60 l1 x10_1).f2)) := (blk_cell BK190.out 2).trans rfl
                                  have hfz50_0 := blk_frozen BK190.out 0
                                  have hfz50_1 := blk_frozen BK190.out 1
                                  have hfz50_2 := blk_frozen BK190.out 2
                                  go_wp2
                                  go_roundg kj27
                                  case measure => have := HK1.out; have := HJ7.out; have := HJ27.out; omega
                                  case rel => exact ⟨(wrap64 (x10_1 + 1)), (by first | rfl | (simp; done) | (simp [*]; done)), H', ⟨by have := HK1.out; have := HJ7.out; have := HJ27.out; omega⟩, ⟨by repeat (first | (with_reducible first | exact HB.out | apply below_alloc | apply pw_below_drewN | apply below_drew1 | refine below_set ?_ GE189.out | refine below_set ?_ GE190.out) | exact HB.out)⟩⟩
                      · rw [if_neg c27] at H
                        have c27b0 : (((rd_T60 l0 x10_1).f0) == ((rd_T60 l1 x10_1).f0)) = false := beq_eq_false_iff_ne.mpr c27
                        have c27b1 : (((rd_T60 l0 x10_1).f0) != ((rd_T60 l1 x10_1).f0)) = true := bne_iff_ne.mpr c27
                        obtain rfl := Option.some.inj H
                        have hnb51 := NB189_190.out
                        have hnc51 := NB190_189.out
                        have hcz52_0 : wc.cell? ⟨gb189, 0, none⟩ = some (.int .u8 ((rd_T60 l0 x10_1).f0)) := (blk_cell BK189.out 0).trans rfl
                        have hcz52_1 : wc.cell? ⟨gb189, 1, none⟩ = some (.int .u64 ((rd_T60 l0 x10_1).f1)) := (blk_cell BK189.out 1).trans rfl
                        have hcz52_2 : wc.cell? ⟨gb189, 2, none⟩ = some (.string ((rd_T60 l0 x10_1).f2)) := (blk_cell BK189.out 2).trans rfl
                        have hfz52_0 := blk_frozen BK189.out 0
                        have hfz52_1 := blk_frozen BK189.out 1
                        have hfz52_2 := blk_frozen BK189.out 2
                        have hcz53_0 : wc.cell? ⟨gb190, 0, none⟩ = some (.int .u8 ((rd_T60 l1 x10_1).f0)) := (blk_cell BK190.out 0).trans rfl
                        have hcz53_1 : wc.cell? ⟨gb190, 1, none⟩ = some (.int .u64 ((rd_T60 l1 x10_1).f1)) := (blk_cell BK190.out 1).trans rfl
                        have hcz53_2 : wc.cell? ⟨gb190, 2, none⟩ = some (.string ((rd_T60 l1 x10_1).f2)) := (blk_cell BK190.out 2).trans rfl
                        have hfz53_0 := blk_frozen BK190.out 0
                        have hfz53_1 := blk_frozen BK190.out 1
                        have hfz53_2 := blk_frozen BK190.out 2
                        go_wp2
                        go_ret
                        exact ⟨by first | rfl | (simp [errW_none, errW_some] <;> rfl) | (simp [*, errW_none, errW_some] <;> rfl), by repeat (first | (with_reducible first | exact HB.out | apply below_alloc | apply pw_below_drewN | apply below_drew1 | refine below_set ?_ GE189.out | refine below_set ?_ GE190.out) | exact HB.out)⟩
              · rw [if_neg c7] at H
                exact absurd H (by simp)
            · rw [if_neg c6] at H
              exact absurd H (by simp)
          · rw [if_neg c5] at H
            exact absurd H (by simp)
      · rw [if_neg c3] at H
        have c3b0 : decide (x10_1 < (l0.length : Int)) = false := decide_eq_false c3
        clear c3
        by_cases c54 : (l0.length : Int) < (l1.length : Int)
        · rw [if_pos c54] at H
          have c54b0 : decide ((l0.length : Int) < (l1.length : Int)) = true := decide_eq_true c54
          have c54b1 : decide (l0.length < l1.length) = true := decide_eq_true (Int.ofNat_lt.mp c54)
          clear c54
          obtain rfl := Option.some.inj H
          go_wp2
          go_ret
          exact ⟨by first | rfl | (simp [errW_none, errW_some] <;> rfl) | (simp [*, errW_none, errW_some] <;> rfl), by repeat (first | (with_reducible first | exact HB.out | apply below_alloc | apply pw_below_drewN | apply below_drew1) | exact HB.out)⟩
        · rw [if_neg c54] at H
          have c54b0 : decide ((l0.length : Int) < (l1.length : Int)) = false := decide_eq_false c54
          have c54b1 : decide (l0.length < l1.length) = false := decide_eq_false (fun h => c54 (Int.ofNat_lt.mpr h))
          clear c54
          obtain rfl := Option.some.inj H
          go_wp2
          go_ret
          exact ⟨by first | rfl | (simp [errW_none, errW_some] <;> rfl) | (simp [*, errW_none, errW_some] <;> rfl), by repeat (first | (with_reducible first | exact HB.out | apply below_alloc | apply pw_below_drewN | apply below_drew1) | exact HB.out)⟩

end Go.Proofs.YtfpdipnaefomiaaDoor.Print
