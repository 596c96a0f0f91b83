-- Printed for this claim by wip/xprint.py over the kit's printer. Not trusted: Lean checks it.
import Derived.Test.YtfpdipnaefomiaaDoorPrint0
import Derived.Test.YtfpdipnaefomiaaDoorPrint4
import Derived.Test.YtfpdipnaefomiaaDoorPrint6
import Derived.Test.YtfpdipnaefomiaaDoorPrint9
import Derived.Test.YtfpdipnaefomiaaDoorPrint15
import Derived.Test.YtfpdipnaefomiaaDoorPrint17
namespace Go.Proofs.YtfpdipnaefomiaaDoor.Print
open Go.RowKit Go.Proofs.YtfpdipnaefomiaaDoorW.PrintWords Go.Proofs.YtfpdipnaefomiaaDoorW.PrintLast Go.Proofs.YtfpdipnaefomiaaDoorW.PrintMore
attribute [local go_sem] max2_mx min2_mn max_two min_two max_three min_three max_four min_four   -- for this text's walks alone
set_option linter.unusedVariables false
set_option linter.unusedSimpArgs false

/-! ### ladinglaw03_CodecBack: function 8 -/
mutual
def ladinglaw03_CodecBack.j0 : Nat → List Int → ByteArray → Bool → Option (Bool)
  | 0, _, _, _ => none
  | k + 1, x0, x3, x67 => if x67 = true then (some false) else ((codec_Text.f k ([] : List Int) x3).bind fun t463 => (if t463.length + x0.length < 140737488355328 then ((codec_ReadText.f k (t463 ++ x0)).bind fun bt469 => (if (x3.size : Int) ≤ 1024 then (if bt469.1.toList = x3.toList then (if (strOfNums bt469.2.1).toList = (strOfNums x0).toList then (if bt469.2.2 = 0 then (if (x3.size : Int) > 1024 then (ladinglaw03_CodecBack.j1 k x0 (bt469.2.2 != 4)) else (ladinglaw03_CodecBack.j1 k x0 false)) else (ladinglaw03_CodecBack.j1 k x0 true)) else (ladinglaw03_CodecBack.j1 k x0 true)) else (ladinglaw03_CodecBack.j1 k x0 true)) else (if (x3.size : Int) > 1024 then (ladinglaw03_CodecBack.j1 k x0 (bt469.2.2 != 4)) else (ladinglaw03_CodecBack.j1 k x0 false)))) else (none)))
def ladinglaw03_CodecBack.j1 : Nat → List Int → Bool → Option (Bool)
  | 0, _, _ => none
  | k + 1, x0, x104 => if x104 = true then (some false) else ((codec_ReadNum.f k x0).bind fun bt474 => (if bt474.2.2 = 0 then ((codec_Num.f k ([] : List Int) bt474.1).bind fun t479 => (if t479.length + bt474.2.1.length < 140737488355328 then (ladinglaw03_CodecBack.j2 k x0 ((strOfNums (t479 ++ bt474.2.1)).toList != (strOfNums x0).toList)) else (none))) else (ladinglaw03_CodecBack.j2 k x0 false)))
def ladinglaw03_CodecBack.j2 : Nat → List Int → Bool → Option (Bool)
  | 0, _, _ => none
  | k + 1, x0, x122 => if x122 = true then (some false) else ((codec_ReadText.f k x0).bind fun bt485 => (if bt485.2.2 = 0 then ((codec_Text.f k ([] : List Int) bt485.1).bind fun t490 => (if t490.length + bt485.2.1.length < 140737488355328 then (some ((strOfNums (t490 ++ bt485.2.1)).toList == (strOfNums x0).toList)) else (none))) else (some true)))
end
def ladinglaw03_CodecBack.f (k : Nat) (l0 : List Int) (a1 : Int) (a2 : Int) (a3 : ByteArray) : Option (Bool) := (ladinglaw03_lives.f k).bind fun t440 => (if t440 = true then ((codec_Num.f k ([] : List Int) a1).bind fun t441 => (if t441.length + l0.length < 140737488355328 then ((codec_ReadNum.f k (t441 ++ l0)).bind fun bt447 => ((codec_Int.f k ([] : List Int) a2).bind fun t452 => (if t452.length + l0.length < 140737488355328 then ((codec_ReadInt.f k (t452 ++ l0)).bind fun bt458 => (if bt447.1 = a1 then (if (strOfNums bt447.2.1).toList = (strOfNums l0).toList then (if bt447.2.2 = 0 then (if bt458.1 = a2 then (if (strOfNums bt458.2.1).toList = (strOfNums l0).toList then (ladinglaw03_CodecBack.j0 k l0 a3 (bt458.2.2 != 0)) else (ladinglaw03_CodecBack.j0 k l0 a3 true)) else (ladinglaw03_CodecBack.j0 k l0 a3 true)) else (ladinglaw03_CodecBack.j0 k l0 a3 true)) else (ladinglaw03_CodecBack.j0 k l0 a3 true)) else (ladinglaw03_CodecBack.j0 k l0 a3 true))) else (none)))) else (none))) else (some false))
theorem ladinglaw03_CodecBack.mono_l : ∀ k, (∀ y0 y1 y2, LeO (ladinglaw03_CodecBack.j0 k y0 y1 y2) (ladinglaw03_CodecBack.j0 (k + 1) y0 y1 y2)) ∧ (∀ y0 y1, LeO (ladinglaw03_CodecBack.j1 k y0 y1) (ladinglaw03_CodecBack.j1 (k + 1) y0 y1)) ∧ (∀ y0 y1, LeO (ladinglaw03_CodecBack.j2 k y0 y1) (ladinglaw03_CodecBack.j2 (k + 1) y0 y1))
  | 0 => ⟨fun _ _ _ r h => by simp [ladinglaw03_CodecBack.j0] at h, fun _ _ r h => by simp [ladinglaw03_CodecBack.j1] at h, fun _ _ r h => by simp [ladinglaw03_CodecBack.j2] at h⟩
  | k + 1 => by
    obtain ⟨ih0, ih1, ih2⟩ := ladinglaw03_CodecBack.mono_l k
    refine ⟨?_, ?_, ?_⟩
    · intro y0 y1 y2
      unfold ladinglaw03_CodecBack.j0
      repeat' first
      | (with_reducible exact ih0 _ _ _)
      | (with_reducible exact ih1 _ _)
      | (with_reducible exact ih2 _ _)
      | (with_reducible exact codec_Int.mono _ _ _)
      | (with_reducible exact codec_Num.mono _ _ _)
      | (with_reducible exact codec_ReadInt.mono _ _)
      | (with_reducible exact codec_ReadNum.mono _ _)
      | (with_reducible exact codec_ReadText.mono _ _)
      | (with_reducible exact codec_Text.mono _ _ _)
      | (with_reducible exact ladinglaw03_lives.mono _)
      | (with_reducible exact LeO.refl _)
      | (with_reducible exact LeO.none _)
      | (with_reducible refine LeO.ite ?_ ?_)
      | (with_reducible refine LeO.bind ?_ (fun _ => ?_))
      | exact ih0 _ _ _
      | exact ih1 _ _
      | exact ih2 _ _
      | exact codec_Int.mono _ _ _
      | exact codec_Num.mono _ _ _
      | exact codec_ReadInt.mono _ _
      | exact codec_ReadNum.mono _ _
      | exact codec_ReadText.mono _ _
      | exact codec_Text.mono _ _ _
      | exact ladinglaw03_lives.mono _
      | exact LeO.none _
      | refine LeO.ite ?_ ?_
      | refine LeO.bind ?_ (fun _ => ?_)
    · intro y0 y1
      unfold ladinglaw03_CodecBack.j1
      repeat' first
      | (with_reducible exact ih0 _ _ _)
      | (with_reducible exact ih1 _ _)
      | (with_reducible exact ih2 _ _)
      | (with_reducible exact codec_Int.mono _ _ _)
      | (with_reducible exact codec_Num.mono _ _ _)
      | (with_reducible exact codec_ReadInt.mono _ _)
      | (with_reducible exact codec_ReadNum.mono _ _)
      | (with_reducible exact codec_ReadText.mono _ _)
      | (with_reducible exact codec_Text.mono _ _ _)
      | (with_reducible exact ladinglaw03_lives.mono _)
      | (with_reducible exact LeO.refl _)
      | (with_reducible exact LeO.none _)
      | (with_reducible refine LeO.ite ?_ ?_)
      | (with_reducible refine LeO.bind ?_ (fun _ => ?_))
      | exact ih0 _ _ _
      | exact ih1 _ _
      | exact ih2 _ _
      | exact codec_Int.mono _ _ _
      | exact codec_Num.mono _ _ _
      | exact codec_ReadInt.mono _ _
      | exact codec_ReadNum.mono _ _
      | exact codec_ReadText.mono _ _
      | exact codec_Text.mono _ _ _
      | exact ladinglaw03_lives.mono _
      | exact LeO.none _
      | refine LeO.ite ?_ ?_
      | refine LeO.bind ?_ (fun _ => ?_)
    · intro y0 y1
      unfold ladinglaw03_CodecBack.j2
      repeat' first
      | (with_reducible exact ih0 _ _ _)
      | (with_reducible exact ih1 _ _)
      | (with_reducible exact ih2 _ _)
      | (with_reducible exact codec_Int.mono _ _ _)
      | (with_reducible exact codec_Num.mono _ _ _)
      | (with_reducible exact codec_ReadInt.mono _ _)
      | (with_reducible exact codec_ReadNum.mono _ _)
      | (with_reducible exact codec_ReadText.mono _ _)
      | (with_reducible exact codec_Text.mono _ _ _)
      | (with_reducible exact ladinglaw03_lives.mono _)
      | (with_reducible exact LeO.refl _)
      | (with_reducible exact LeO.none _)
      | (with_reducible refine LeO.ite ?_ ?_)
      | (with_reducible refine LeO.bind ?_ (fun _ => ?_))
      | exact ih0 _ _ _
      | exact ih1 _ _
      | exact ih2 _ _
      | exact codec_Int.mono _ _ _
      | exact codec_Num.mono _ _ _
      | exact codec_ReadInt.mono _ _
      | exact codec_ReadNum.mono _ _
      | exact codec_ReadText.mono _ _
      | exact codec_Text.mono _ _ _
      | exact ladinglaw03_lives.mono _
      | exact LeO.none _
      | refine LeO.ite ?_ ?_
      | refine LeO.bind ?_ (fun _ => ?_)
theorem ladinglaw03_CodecBack.mono : ∀ a0 a1 a2 a3 k, LeO (ladinglaw03_CodecBack.f k a0 a1 a2 a3) (ladinglaw03_CodecBack.f (k + 1) a0 a1 a2 a3) := by
  intro a0 a1 a2 a3 k
  obtain ⟨ih0, ih1, ih2⟩ := ladinglaw03_CodecBack.mono_l k
  unfold ladinglaw03_CodecBack.f
  repeat' first
      | (with_reducible exact ih0 _ _ _)
      | (with_reducible exact ih1 _ _)
      | (with_reducible exact ih2 _ _)
      | (with_reducible exact codec_Int.mono _ _ _)
      | (with_reducible exact codec_Num.mono _ _ _)
      | (with_reducible exact codec_ReadInt.mono _ _)
      | (with_reducible exact codec_ReadNum.mono _ _)
      | (with_reducible exact codec_ReadText.mono _ _)
      | (with_reducible exact codec_Text.mono _ _ _)
      | (with_reducible exact ladinglaw03_lives.mono _)
      | (with_reducible exact LeO.refl _)
      | (with_reducible exact LeO.none _)
      | (with_reducible refine LeO.ite ?_ ?_)
      | (with_reducible refine LeO.bind ?_ (fun _ => ?_))
      | exact ih0 _ _ _
      | exact ih1 _ _
      | exact ih2 _ _
      | exact codec_Int.mono _ _ _
      | exact codec_Num.mono _ _ _
      | exact codec_ReadInt.mono _ _
      | exact codec_ReadNum.mono _ _
      | exact codec_ReadText.mono _ _
      | exact codec_Text.mono _ _ _
      | exact ladinglaw03_lives.mono _
      | exact LeO.none _
      | refine LeO.ite ?_ ?_
      | refine LeO.bind ?_ (fun _ => ?_)
def ladinglaw03_CodecBack.T11 : Bool × List (List Nat × List Nat) := (true, [([], []), ([0], [0]), ([1], [1]), ([2], [2]), ([3, 2, 2], [2, 3]), ([2], [2]), ([4, 5, 4, 2], [2, 4, 5]), ([6, 2], [2, 6]), ([2], [2]), ([8, 2], [2, 8]), ([7, 9, 2], [2, 7, 9]), ([2, 10], [2, 10])])
def ladinglaw03_CodecBack.B11 : List Nat := [0, 1, 3, 7, 15, 7, 63, 127, 7, 263, 1023, 2047]
theorem ladinglaw03_CodecBack.tab11 : rtab .any (opsOf Tryd.f8 11) = ladinglaw03_CodecBack.T11 := by kernel_rfl
theorem ladinglaw03_CodecBack.bits11 : waitsOk ladinglaw03_CodecBack.T11.2 ladinglaw03_CodecBack.B11 = true := by kernel_rfl
def ladinglaw03_CodecBack.T14 : Bool × List (List Nat × List Nat) := (true, [([], []), ([0], [0]), ([1], [1]), ([2], [2]), ([3, 2, 2], [2, 3]), ([2], [2]), ([4, 5, 4, 2], [2, 4, 5]), ([6, 2], [2, 6]), ([2], [2]), ([8, 2], [2, 8]), ([7, 9, 2], [2, 7, 9]), ([2, 10], [2, 10]), ([11, 6, 0, 1, 2, 3, 4, 5, 6, 7, 8, 9, 10, 11], [11])])
def ladinglaw03_CodecBack.B14 : List Nat := [0, 1, 3, 7, 15, 7, 63, 127, 7, 263, 1023, 2047, 4095]
theorem ladinglaw03_CodecBack.tab14 : rtab .any (opsOf Tryd.f8 14) = ladinglaw03_CodecBack.T14 := by kernel_rfl
theorem ladinglaw03_CodecBack.bits14 : waitsOk ladinglaw03_CodecBack.T14.2 ladinglaw03_CodecBack.B14 = true := by kernel_rfl
set_option maxHeartbeats 8000000 in
set_option maxRecDepth 100000 in
theorem ladinglaw03_CodecBack.calls (k : Nat) (A0 : Option Addr) (c0 : Nat) (l0 : List Int) (a1 : Int) (a2 : Int) (a3 : ByteArray) (r : Bool) (w : World) (hr0 : Kd.C (Kd.int .u8) w A0 l0.length l0) (hc0 : l0.length ≤ c0) (hG : GlobOk w) (h : ladinglaw03_CodecBack.f k l0 a1 a2 a3 = some r) :
    Calls Tryd.prog 8 #[.slice A0 l0.length c0, .int .u64 a1, .int .i64 a2, .string a3] w fun e w' => e = .returned (.bool r) ∧ Below w.heap.size w w' := by
  have HR0 := Aside0.mk hr0
  have HC0 := Aside0.mk hc0
  clear hr0 hc0
  have HG := Aside0.mk hG
  clear hG
  have HB := Aside0.mk (Below.refl w.heap.size w)
  have H : ((ladinglaw03_lives.f k).bind fun t440 => (if t440 = true then ((codec_Num.f k ([] : List Int) a1).bind fun t441 => (if t441.length + l0.length < 140737488355328 then ((codec_ReadNum.f k (t441 ++ l0)).bind fun bt447 => ((codec_Int.f k ([] : List Int) a2).bind fun t452 => (if t452.length + l0.length < 140737488355328 then ((codec_ReadInt.f k (t452 ++ l0)).bind fun bt458 => (if bt447.1 = a1 then (if (strOfNums bt447.2.1).toList = (strOfNums l0).toList then (if bt447.2.2 = 0 then (if bt458.1 = a2 then (if (strOfNums bt458.2.1).toList = (strOfNums l0).toList then (ladinglaw03_CodecBack.j0 k l0 a3 (bt458.2.2 != 0)) else (ladinglaw03_CodecBack.j0 k l0 a3 true)) else (ladinglaw03_CodecBack.j0 k l0 a3 true)) else (ladinglaw03_CodecBack.j0 k l0 a3 true)) else (ladinglaw03_CodecBack.j0 k l0 a3 true)) else (ladinglaw03_CodecBack.j0 k l0 a3 true))) else (none)))) else (none))) else (some false))) = some r := h
  clear h
  replace H := Option.bind_eq_some_iff.mp H
  obtain ⟨t440, A50, H⟩ := H
  replace H : (if t440 = true then ((codec_Num.f k ([] : List Int) a1).bind fun t441 => (if t441.length + l0.length < 140737488355328 then ((codec_ReadNum.f k (t441 ++ l0)).bind fun bt447 => ((codec_Int.f k ([] : List Int) a2).bind fun t452 => (if t452.length + l0.length < 140737488355328 then ((codec_ReadInt.f k (t452 ++ l0)).bind fun bt458 => (if bt447.1 = a1 then (if (strOfNums bt447.2.1).toList = (strOfNums l0).toList then (if bt447.2.2 = 0 then (if bt458.1 = a2 then (if (strOfNums bt458.2.1).toList = (strOfNums l0).toList then (ladinglaw03_CodecBack.j0 k l0 a3 (bt458.2.2 != 0)) else (ladinglaw03_CodecBack.j0 k l0 a3 true)) else (ladinglaw03_CodecBack.j0 k l0 a3 true)) else (ladinglaw03_CodecBack.j0 k l0 a3 true)) else (ladinglaw03_CodecBack.j0 k l0 a3 true)) else (ladinglaw03_CodecBack.j0 k l0 a3 true))) else (none)))) else (none))) else (some false)) = some r := H
  have A5 := Aside0.mk A50
  clear A50
  by_cases c6 : t440 = true
  · subst c6
    have H1 : ((codec_Num.f k ([] : List Int) a1).bind fun t441 => (if t441.length + l0.length < 140737488355328 then ((codec_ReadNum.f k (t441 ++ l0)).bind fun bt447 => ((codec_Int.f k ([] : List Int) a2).bind fun t452 => (if t452.length + l0.length < 140737488355328 then ((codec_ReadInt.f k (t452 ++ l0)).bind fun bt458 => (if bt447.1 = a1 then (if (strOfNums bt447.2.1).toList = (strOfNums l0).toList then (if bt447.2.2 = 0 then (if bt458.1 = a2 then (if (strOfNums bt458.2.1).toList = (strOfNums l0).toList then (ladinglaw03_CodecBack.j0 k l0 a3 (bt458.2.2 != 0)) else (ladinglaw03_CodecBack.j0 k l0 a3 true)) else (ladinglaw03_CodecBack.j0 k l0 a3 true)) else (ladinglaw03_CodecBack.j0 k l0 a3 true)) else (ladinglaw03_CodecBack.j0 k l0 a3 true)) else (ladinglaw03_CodecBack.j0 k l0 a3 true))) else (none)))) else (none))) = some r := by rw [if_pos rfl] at H; exact H
    clear H
    have H := H1
    clear H1
    replace H := Option.bind_eq_some_iff.mp H
    obtain ⟨t441, A70, H⟩ := H
    replace H : (if t441.length + l0.length < 140737488355328 then ((codec_ReadNum.f k (t441 ++ l0)).bind fun bt447 => ((codec_Int.f k ([] : List Int) a2).bind fun t452 => (if t452.length + l0.length < 140737488355328 then ((codec_ReadInt.f k (t452 ++ l0)).bind fun bt458 => (if bt447.1 = a1 then (if (strOfNums bt447.2.1).toList = (strOfNums l0).toList then (if bt447.2.2 = 0 then (if bt458.1 = a2 then (if (strOfNums bt458.2.1).toList = (strOfNums l0).toList then (ladinglaw03_CodecBack.j0 k l0 a3 (bt458.2.2 != 0)) else (ladinglaw03_CodecBack.j0 k l0 a3 true)) else (ladinglaw03_CodecBack.j0 k l0 a3 true)) else (ladinglaw03_CodecBack.j0 k l0 a3 true)) else (ladinglaw03_CodecBack.j0 k l0 a3 true)) else (ladinglaw03_CodecBack.j0 k l0 a3 true))) else (none)))) else (none)) = some r := H
    have A7 := Aside0.mk A70
    clear A70
    by_cases c8 : t441.length + l0.length < 140737488355328
    · rw [if_pos c8] at H
      have LMc8 := Aside0.mk c8
      clear c8
      obtain ⟨y444, hy444⟩ : ∃ y_ : List Int, y_ = (t441 ++ l0) := ⟨_, rfl⟩
      replace H : ((codec_ReadNum.f k y444).bind fun bt447 => ((codec_Int.f k ([] : List Int) a2).bind fun t452 => (if t452.length + l0.length < 140737488355328 then ((codec_ReadInt.f k (t452 ++ l0)).bind fun bt458 => (if bt447.1 = a1 then (if (strOfNums bt447.2.1).toList = (strOfNums l0).toList then (if bt447.2.2 = 0 then (if bt458.1 = a2 then (if (strOfNums bt458.2.1).toList = (strOfNums l0).toList then (ladinglaw03_CodecBack.j0 k l0 a3 (bt458.2.2 != 0)) else (ladinglaw03_CodecBack.j0 k l0 a3 true)) else (ladinglaw03_CodecBack.j0 k l0 a3 true)) else (ladinglaw03_CodecBack.j0 k l0 a3 true)) else (ladinglaw03_CodecBack.j0 k l0 a3 true)) else (ladinglaw03_CodecBack.j0 k l0 a3 true))) else (none)))) = some r := by first | (rw [hy444]; with_reducible exact H) | (have H2_ := (Option.bind_some _ _).symm.trans H; rw [hy444]; with_reducible exact H2_) | (have H2_ := (Option.bind_some _ _).symm.trans H; with_reducible exact H2_) | with_reducible exact H | (rw [hy444]; exact H) | exact H
      have Ny444 := Aside0.mk hy444
      clear hy444
      replace H := Option.bind_eq_some_iff.mp H
      obtain ⟨⟨t447, t448, t449⟩, A90, H⟩ := H
      replace H : ((codec_Int.f k ([] : List Int) a2).bind fun t452 => (if t452.length + l0.length < 140737488355328 then ((codec_ReadInt.f k (t452 ++ l0)).bind fun bt458 => (if t447 = a1 then (if (strOfNums t448).toList = (strOfNums l0).toList then (if t449 = 0 then (if bt458.1 = a2 then (if (strOfNums bt458.2.1).toList = (strOfNums l0).toList then (ladinglaw03_CodecBack.j0 k l0 a3 (bt458.2.2 != 0)) else (ladinglaw03_CodecBack.j0 k l0 a3 true)) else (ladinglaw03_CodecBack.j0 k l0 a3 true)) else (ladinglaw03_CodecBack.j0 k l0 a3 true)) else (ladinglaw03_CodecBack.j0 k l0 a3 true)) else (ladinglaw03_CodecBack.j0 k l0 a3 true))) else (none))) = some r := H
      have A9 := Aside0.mk A90
      clear A90
      replace H := Option.bind_eq_some_iff.mp H
      obtain ⟨t452, A100, H⟩ := H
      replace H : (if t452.length + l0.length < 140737488355328 then ((codec_ReadInt.f k (t452 ++ l0)).bind fun bt458 => (if t447 = a1 then (if (strOfNums t448).toList = (strOfNums l0).toList then (if t449 = 0 then (if bt458.1 = a2 then (if (strOfNums bt458.2.1).toList = (strOfNums l0).toList then (ladinglaw03_CodecBack.j0 k l0 a3 (bt458.2.2 != 0)) else (ladinglaw03_CodecBack.j0 k l0 a3 true)) else (ladinglaw03_CodecBack.j0 k l0 a3 true)) else (ladinglaw03_CodecBack.j0 k l0 a3 true)) else (ladinglaw03_CodecBack.j0 k l0 a3 true)) else (ladinglaw03_CodecBack.j0 k l0 a3 true))) else (none)) = some r := H
      have A10 := Aside0.mk A100
      clear A100
      by_cases c11 : t452.length + l0.length < 140737488355328
      · rw [if_pos c11] at H
        have LMc11 := Aside0.mk c11
        clear c11
        obtain ⟨y455, hy455⟩ : ∃ y_ : List Int, y_ = (t452 ++ l0) := ⟨_, rfl⟩
        replace H : ((codec_ReadInt.f k y455).bind fun bt458 => (if t447 = a1 then (if (strOfNums t448).toList = (strOfNums l0).toList then (if t449 = 0 then (if bt458.1 = a2 then (if (strOfNums bt458.2.1).toList = (strOfNums l0).toList then (ladinglaw03_CodecBack.j0 k l0 a3 (bt458.2.2 != 0)) else (ladinglaw03_CodecBack.j0 k l0 a3 true)) else (ladinglaw03_CodecBack.j0 k l0 a3 true)) else (ladinglaw03_CodecBack.j0 k l0 a3 true)) else (ladinglaw03_CodecBack.j0 k l0 a3 true)) else (ladinglaw03_CodecBack.j0 k l0 a3 true))) = some r := by first | (rw [hy455]; with_reducible exact H) | (have H2_ := (Option.bind_some _ _).symm.trans H; rw [hy455]; with_reducible exact H2_) | (have H2_ := (Option.bind_some _ _).symm.trans H; with_reducible exact H2_) | with_reducible exact H | (rw [hy455]; exact H) | exact H
        have Ny455 := Aside0.mk hy455
        clear hy455
        replace H := Option.bind_eq_some_iff.mp H
        obtain ⟨⟨t458, t459, t460⟩, A120, H⟩ := H
        replace H : (if t447 = a1 then (if (strOfNums t448).toList = (strOfNums l0).toList then (if t449 = 0 then (if t458 = a2 then (if (strOfNums t459).toList = (strOfNums l0).toList then (ladinglaw03_CodecBack.j0 k l0 a3 (t460 != 0)) else (ladinglaw03_CodecBack.j0 k l0 a3 true)) else (ladinglaw03_CodecBack.j0 k l0 a3 true)) else (ladinglaw03_CodecBack.j0 k l0 a3 true)) else (ladinglaw03_CodecBack.j0 k l0 a3 true)) else (ladinglaw03_CodecBack.j0 k l0 a3 true)) = some r := H
        have A12 := Aside0.mk A120
        clear A120
        have HC13 := Aside0.mk H
        clear H
        go_enter Tryd.func8, Tryd.ntmps8
        go_upto_region 5 with (first | ((with_reducible refine gate_callee (f := 12) rfl ?_); refine goesL_ (some 18) rfl rfl Tryd.func12 (by kernel_rfl) rfl #[] rfl (by (try simp only [List.map_toArray, List.map_cons, List.map_nil]); first | done | rfl | (simp only [List.length_drop, List.length_take]; rfl)) ?_; (with_reducible refine (ladinglaw03_lives.calls k  true _ ?side1 A5.out).mono ?_); (case side1 => exact GlobOk.below HG.out (by repeat (first | (with_reducible first | exact HB.out | apply below_alloc | apply pw_below_drewN | apply below_drew1) | exact HB.out))); rintro e w14 ⟨rfl, hb⟩; refine ⟨_, rfl, ?_⟩; have n0_ := Aside0.mk (below_step (by repeat (first | (with_reducible first | exact HB.out | apply below_alloc | apply pw_below_drewN | apply below_drew1) | exact HB.out)) hb); clear HB; have HB := n0_; clear n0_; (try clear hb); (try clear hb2); (try clear hk); (try clear hi)) | ((with_reducible refine gate_callee (f := 17) rfl ?_); refine goesL_ (some 22) rfl rfl Tryd.func17 (by kernel_rfl) rfl #[.slice none 0 0, .int .u64 a1] rfl (by (try simp only [List.map_toArray, List.map_cons, List.map_nil]); first | done | rfl | (simp only [List.length_drop, List.length_take]; rfl)) ?_; (refine (codec_Num.calls k _ _ ([] : List Int) a1 t441 _ ?side1 ?side2 A7.out).mono ?_); (case side1 => exact Kd.C_nil _ _); (case side2 => exact Nat.le_refl _); rintro e w15 ⟨v442, rfl, ho0, hb⟩; refine ⟨_, rfl, ?_⟩; have n0_ := Aside0.mk (Kd.R_lower ho0 (below_size (by repeat (first | (with_reducible first | exact HB.out | apply below_alloc | apply pw_below_drewN | apply below_drew1) | exact HB.out)))); have n1_ := Aside0.mk (below_step (by repeat (first | (with_reducible first | exact HB.out | apply below_alloc | apply pw_below_drewN | apply below_drew1) | exact HB.out)) hb); clear HB; have HO443 := n0_; have HB := n1_; clear n0_ n1_; (try clear hb); (try clear hb2); (try clear hk); (try clear hi); (try clear ho0)) | ((with_reducible refine gate_builtin (b := .append) (xs := #[.tmp 22, .tmp 23]) rfl ?_); (try (refine gate_guard (by rfl) ?_; dsimp only)); at_builtin; refine Kd.R_append_rows (Kd.int .u8) (w0 := w) w.heap.size rfl (.tmp 22) (.tmp 23) 24 5 (.int .u8 0) 1 rfl Tryd.underlying24 info5 rfl (by decide) (by omega) v442 t441 l0 _ _ _ (fun _ => True) (fun _ => False) rfl rfl ?aO ?aR (fun _ _ h => h) (fun _ h => h.elim) ?aF ?aB ?aS ?aL ?_; (case aR => repeat (first | exact (Kd.C_below HR0.out HB.out) | (with_reducible refine Kd.C_alloc ?_ _) | (with_reducible refine Kd.C_drewN ?_ _) | (with_reducible refine Kd.C_drew ?_))); (case aB => exact (by repeat (first | (with_reducible first | exact HB.out | apply below_alloc | apply pw_below_drewN | apply below_drew1) | exact HB.out))); (case aF => exact (fun _ _ => trivial)); (case aO => exact (by (with_reducible repeat (first | apply Kd.R_alloc | apply Kd.R_drewN | apply Kd.R_drew)); exact HO443.out)); (case aS => exact (below_size (by repeat (first | (with_reducible first | exact HB.out | apply below_alloc | apply pw_below_drewN | apply below_drew1) | exact HB.out)))); (case aL => have := LMc8.out; omega); intro v445 w16 ho hb hg hat; rw [← Ny444.out] at ho; have n0_ := Aside0.mk (hb); have n1_ := Aside0.mk (ho); clear HB; clear HO443; have HB := n0_; have HO446 := n1_; clear n0_ n1_; clear ho hb hg hat; obtain ⟨Ao17, co17, eo17⟩ := Kd.R_slice HO446.out; subst eo17) | ((with_reducible refine gate_callee (f := 26) rfl ?_); refine goesL_ (some 25) rfl rfl Tryd.func26 (by kernel_rfl) rfl #[.slice Ao17 y444.length co17] rfl (by (try simp only [List.map_toArray, List.map_cons, List.map_nil]); first | done | rfl | (simp only [List.length_drop, List.length_take]; rfl)) ?_; (with_reducible refine (codec_ReadNum.calls k _ _ y444 t447 t448 t449 _ ?side1 ?side2 A9.out).mono ?_); (case side1 => repeat (first | exact (Kd.R_reads' HO446.out).2.2 | (with_reducible refine Kd.C_alloc ?_ _) | (with_reducible refine Kd.C_drewN ?_ _) | (with_reducible refine Kd.C_drew ?_))); (case side2 => exact (Kd.R_reads' HO446.out).2.1); rintro e w18 ⟨v450, rfl, ho0, hb⟩; refine ⟨_, rfl, ?_⟩; have n0_ := Aside0.mk (Kd.R_elder' (by (with_reducible repeat (first | apply Kd.R_alloc | apply Kd.R_drewN | apply Kd.R_drew)); exact HO446.out) (Kd.R_base ho0) hb); have n1_ := Aside0.mk (Kd.R_lower (Kd.R_new' ho0 (Kd.R_lt (by (with_reducible repeat (first | apply Kd.R_alloc | apply Kd.R_drewN | apply Kd.R_drew)); exact HO446.out))) (below_size (by repeat (first | (with_reducible first | exact HB.out | apply below_alloc | apply pw_below_drewN | apply below_drew1) | exact HB.out)))); have n2_ := Aside0.mk (below_step (by repeat (first | (with_reducible first | exact HB.out | apply below_alloc | apply pw_below_drewN | apply below_drew1) | exact HB.out)) hb); clear HO446; clear HB; have HO446 := n0_; have HO451 := n1_; have HB := n2_; clear n0_ n1_ n2_; (try clear hb); (try clear hb2); (try clear hk); (try clear hi); (try clear ho0)) | ((with_reducible refine gate_callee (f := 19) rfl ?_); refine goesL_ (some 31) rfl rfl Tryd.func19 (by kernel_rfl) rfl #[.slice none 0 0, .int .i64 a2] rfl (by (try simp only [List.map_toArray, List.map_cons, List.map_nil]); first | done | rfl | (simp only [List.length_drop, List.length_take]; rfl)) ?_; (refine (codec_Int.calls k _ _ ([] : List Int) a2 t452 _ ?side1 ?side2 A10.out).mono ?_); (case side1 => exact Kd.C_nil _ _); (case side2 => exact Nat.le_refl _); rintro e w19 ⟨v453, rfl, ho0, hb⟩; refine ⟨_, rfl, ?_⟩; have n0_ := Aside0.mk (Kd.R_elder' (by (with_reducible repeat (first | apply Kd.R_alloc | apply Kd.R_drewN | apply Kd.R_drew)); exact HO446.out) (Kd.R_base ho0) hb); have n1_ := Aside0.mk (Kd.R_elder' (by (with_reducible repeat (first | apply Kd.R_alloc | apply Kd.R_drewN | apply Kd.R_drew)); exact HO451.out) (Kd.R_base ho0) hb); have n2_ := Aside0.mk (Kd.R_lower (Kd.R_new' (Kd.R_new' ho0 (Kd.R_lt (by (with_reducible repeat (first | apply Kd.R_alloc | apply Kd.R_drewN | apply Kd.R_drew)); exact HO446.out))) (Kd.R_lt (by (with_reducible repeat (first | apply Kd.R_alloc | apply Kd.R_drewN | apply Kd.R_drew)); exact HO451.out))) (below_size (by repeat (first | (with_reducible first | exact HB.out | apply below_alloc | apply pw_below_drewN | apply below_drew1) | exact HB.out)))); have n3_ := Aside0.mk (below_step (by repeat (first | (with_reducible first | exact HB.out | apply below_alloc | apply pw_below_drewN | apply below_drew1) | exact HB.out)) hb); clear HO446; clear HO451; clear HB; have HO446 := n0_; have HO451 := n1_; have HO454 := n2_; have HB := n3_; clear n0_ n1_ n2_ n3_; (try clear hb); (try clear hb2); (try clear hk); (try clear hi); (try clear ho0)) | ((with_reducible refine gate_builtin (b := .append) (xs := #[.tmp 31, .tmp 32]) rfl ?_); (try (refine gate_guard (by rfl) ?_; dsimp only)); at_builtin; refine Kd.R_append_rows (Kd.int .u8) (w0 := w) w.heap.size rfl (.tmp 31) (.tmp 32) 24 5 (.int .u8 0) 1 rfl Tryd.underlying24 info5 rfl (by decide) (by omega) v453 t452 l0 _ _ _ (fun k_ => some k_ ≠ (.slice Ao17 y444.length co17 : Value).ownBlock ∧ some k_ ≠ (v450 : Value).ownBlock) (fun _ => False) rfl rfl ?aO ?aR (fun _ _ h => h) (fun _ h => h.elim) ?aF ?aB ?aS ?aL ?_; (case aR => repeat (first | exact (Kd.C_below HR0.out HB.out) | (with_reducible refine Kd.C_alloc ?_ _) | (with_reducible refine Kd.C_drewN ?_ _) | (with_reducible refine Kd.C_drew ?_))); (case aB => exact (by repeat (first | (with_reducible first | exact HB.out | apply below_alloc | apply pw_below_drewN | apply below_drew1) | exact HB.out))); (case aF => exact (fun k_ hk => ⟨Kd.fresh' (Kd.R_lt (by (with_reducible repeat (first | apply Kd.R_alloc | apply Kd.R_drewN | apply Kd.R_drew)); exact HO446.out)) k_ hk, Kd.fresh' (Kd.R_lt (by (with_reducible repeat (first | apply Kd.R_alloc | apply Kd.R_drewN | apply Kd.R_drew)); exact HO451.out)) k_ hk⟩)); (case aO => exact (by (with_reducible repeat (first | apply Kd.R_alloc | apply Kd.R_drewN | apply Kd.R_drew)); exact Kd.R_mono HO454.out (fun _ hk => ⟨hk.1.2, hk.2⟩))); (case aS => exact (below_size (by repeat (first | (with_reducible first | exact HB.out | apply below_alloc | apply pw_below_drewN | apply below_drew1) | exact HB.out)))); (case aL => have := LMc11.out; omega); intro v456 w20 ho hb hg hat; rw [← Ny455.out] at ho; have n0_ := Aside0.mk (Kd.R_after (ok := (fun k_ => some k_ ≠ (v450 : Value).ownBlock)) (by (with_reducible repeat (first | apply Kd.R_alloc | apply Kd.R_drewN | apply Kd.R_drew)); exact Kd.R_mono HO446.out (fun _ hk => ⟨hk.1.2, hk.2⟩)) hg hat); have n1_ := Aside0.mk (Kd.R_after (ok := (fun k_ => some k_ ≠ (.slice Ao17 y444.length co17 : Value).ownBlock)) (by (with_reducible repeat (first | apply Kd.R_alloc | apply Kd.R_drewN | apply Kd.R_drew)); exact Kd.R_mono HO451.out (fun _ hk => ⟨hk.1.2, hk.2⟩)) hg hat); have n2_ := Aside0.mk (hb); have n3_ := Aside0.mk (ho); clear HO446; clear HO451; clear HB; clear HO454; have HO446 := n0_; have HO451 := n1_; have HB := n2_; have HO457 := n3_; clear n0_ n1_ n2_ n3_; clear ho hb hg hat; obtain ⟨Ao21, co21, eo21⟩ := Kd.R_slice HO457.out; subst eo21) | ((with_reducible refine gate_callee (f := 28) rfl ?_); refine goesL_ (some 34) rfl rfl Tryd.func28 (by kernel_rfl) rfl #[.slice Ao21 y455.length co21] rfl (by (try simp only [List.map_toArray, List.map_cons, List.map_nil]); first | done | rfl | (simp only [List.length_drop, List.length_take]; rfl)) ?_; (with_reducible refine (codec_ReadInt.calls k _ _ y455 t458 t459 t460 _ ?side1 ?side2 A12.out).mono ?_); (case side1 => repeat (first | exact (Kd.R_reads' HO457.out).2.2 | (with_reducible refine Kd.C_alloc ?_ _) | (with_reducible refine Kd.C_drewN ?_ _) | (with_reducible refine Kd.C_drew ?_))); (case side2 => exact (Kd.R_reads' HO457.out).2.1); rintro e w22 ⟨v461, rfl, ho0, hb⟩; refine ⟨_, rfl, ?_⟩; have n0_ := Aside0.mk (Kd.R_elder' (by (with_reducible repeat (first | apply Kd.R_alloc | apply Kd.R_drewN | apply Kd.R_drew)); exact HO446.out) (Kd.R_base ho0) hb); have n1_ := Aside0.mk (Kd.R_elder' (by (with_reducible repeat (first | apply Kd.R_alloc | apply Kd.R_drewN | apply Kd.R_drew)); exact HO451.out) (Kd.R_base ho0) hb); have n2_ := Aside0.mk (Kd.R_elder' (by (with_reducible repeat (first | apply Kd.R_alloc | apply Kd.R_drewN | apply Kd.R_drew)); exact HO457.out) (Kd.R_base ho0) hb); have n3_ := Aside0.mk (Kd.R_lower (Kd.R_new' (Kd.R_new' (Kd.R_new' ho0 (Kd.R_lt (by (with_reducible repeat (first | apply Kd.R_alloc | apply Kd.R_drewN | apply Kd.R_drew)); exact HO446.out))) (Kd.R_lt (by (with_reducible repeat (first | apply Kd.R_alloc | apply Kd.R_drewN | apply Kd.R_drew)); exact HO451.out))) (Kd.R_lt (by (with_reducible repeat (first | apply Kd.R_alloc | apply Kd.R_drewN | apply Kd.R_drew)); exact HO457.out))) (below_size (by repeat (first | (with_reducible first | exact HB.out | apply below_alloc | apply pw_below_drewN | apply below_drew1) | exact HB.out)))); have n4_ := Aside0.mk (below_step (by repeat (first | (with_reducible first | exact HB.out | apply below_alloc | apply pw_below_drewN | apply below_drew1) | exact HB.out)) hb); clear HO446; clear HO451; clear HO457; clear HB; have HO446 := n0_; have HO451 := n1_; have HO457 := n2_; have HO462 := n3_; have HB := n4_; clear n0_ n1_ n2_ n3_ n4_; (try clear hb); (try clear hb2); (try clear hk); (try clear hi); (try clear ho0)))
        (try simp only [Act.put, List.setIfInBounds_toArray, List.set_cons_zero, List.set_cons_succ])
        go_cut [67] (fun v67 wc => ∃ (kq : Nat) (x67_12 : Bool), v67 = .bool x67_12 ∧ Aside0 (ladinglaw03_CodecBack.j0 kq l0 a3 x67_12 = some r) ∧ Aside0 (kq ≤ k) ∧ Aside0 (Below w.heap.size w wc))
        case first =>
          have H := HC13.out
          clear HC13
          by_cases c23 : t447 = a1
          · rw [if_pos c23] at H
            have c23b0 : (t447 == a1) = true := beq_iff_eq.mpr c23
            have c23b1 : (t447 != a1) = false := bne_eq_false_iff_eq.mpr c23
            clear c23
            (first | rw [c23b0] | (simp only [i64_w, i32_w]; rw [c23b0]) | skip)
            by_cases c24 : (strOfNums t448).toList = (strOfNums l0).toList
            · rw [if_pos c24] at H
              have c24b0 : ((strOfNums t448).toList == (strOfNums l0).toList) = true := beq_iff_eq.mpr c24
              have c24b1 : ((strOfNums t448).toList != (strOfNums l0).toList) = false := bne_eq_false_iff_eq.mpr c24
              clear c24
              by_cases c25 : t449 = 0
              · rw [if_pos c25] at H
                have c25b0 : (t449 == 0) = true := beq_iff_eq.mpr c25
                have c25b1 : (t449 != 0) = false := bne_eq_false_iff_eq.mpr c25
                clear c25
                by_cases c26 : t458 = a2
                · rw [if_pos c26] at H
                  have c26b0 : (t458 == a2) = true := beq_iff_eq.mpr c26
                  have c26b1 : (t458 != a2) = false := bne_eq_false_iff_eq.mpr c26
                  clear c26
                  by_cases c27 : (strOfNums t459).toList = (strOfNums l0).toList
                  · rw [if_pos c27] at H
                    have c27b0 : ((strOfNums t459).toList == (strOfNums l0).toList) = true := beq_iff_eq.mpr c27
                    have c27b1 : ((strOfNums t459).toList != (strOfNums l0).toList) = false := bne_eq_false_iff_eq.mpr c27
                    clear c27
                    have H' := Aside0.mk H
                    clear H
                    have hcv28 := own_string (P := Tryd.prog) Tryd.underlying24 Tryd.underlying5 Tryd.underlying9 (Kd.own_of_R HO451.out)
                    have hcw29 := fun n_ : Nat => own_string (P := Tryd.prog) Tryd.underlying24 Tryd.underlying5 Tryd.underlying9 (Kd.own_of_R (Kd.R_drewN HO451.out n_))
                    have hcv30 := Kd.C_string (P := Tryd.prog) (A := A0) (c := c0) Tryd.underlying24 Tryd.underlying5 Tryd.underlying9 (Kd.C_below HR0.out HB.out)
                    have hcw31 := fun n_ : Nat => Kd.C_string (P := Tryd.prog) (A := A0) (c := c0) Tryd.underlying24 Tryd.underlying5 Tryd.underlying9 (Kd.C_drewN (Kd.C_below HR0.out HB.out) n_)
                    have hcv32 := own_string (P := Tryd.prog) Tryd.underlying24 Tryd.underlying5 Tryd.underlying9 (Kd.own_of_R HO462.out)
                    have hcw33 := fun n_ : Nat => own_string (P := Tryd.prog) Tryd.underlying24 Tryd.underlying5 Tryd.underlying9 (Kd.own_of_R (Kd.R_drewN HO462.out n_))
                    have hcv34 := Kd.C_string (P := Tryd.prog) (A := A0) (c := c0) Tryd.underlying24 Tryd.underlying5 Tryd.underlying9 (Kd.C_below HR0.out HB.out)
                    have hcw35 := fun n_ : Nat => Kd.C_string (P := Tryd.prog) (A := A0) (c := c0) Tryd.underlying24 Tryd.underlying5 Tryd.underlying9 (Kd.C_drewN (Kd.C_below HR0.out HB.out) n_)
                    go_wp2
                    go_meet
                    case rel => exact ⟨_, ((t460 != 0)), (by first | rfl | (simp; done) | (simp [*]; done)), H', ⟨by first | omega | exact Nat.le_refl _⟩, ⟨by repeat (first | (with_reducible first | exact HB.out | apply below_alloc | apply pw_below_drewN | apply below_drew1) | exact HB.out)⟩⟩
                  · rw [if_neg c27] at H
                    have c27b0 : ((strOfNums t459).toList == (strOfNums l0).toList) = false := beq_eq_false_iff_ne.mpr c27
                    have c27b1 : ((strOfNums t459).toList != (strOfNums l0).toList) = true := bne_iff_ne.mpr c27
                    have H' := Aside0.mk H
                    clear H
                    have hcv36 := own_string (P := Tryd.prog) Tryd.underlying24 Tryd.underlying5 Tryd.underlying9 (Kd.own_of_R HO451.out)
                    have hcw37 := fun n_ : Nat => own_string (P := Tryd.prog) Tryd.underlying24 Tryd.underlying5 Tryd.underlying9 (Kd.own_of_R (Kd.R_drewN HO451.out n_))
                    have hcv38 := Kd.C_string (P := Tryd.prog) (A := A0) (c := c0) Tryd.underlying24 Tryd.underlying5 Tryd.underlying9 (Kd.C_below HR0.out HB.out)
                    have hcw39 := fun n_ : Nat => Kd.C_string (P := Tryd.prog) (A := A0) (c := c0) Tryd.underlying24 Tryd.underlying5 Tryd.underlying9 (Kd.C_drewN (Kd.C_below HR0.out HB.out) n_)
                    have hcv40 := own_string (P := Tryd.prog) Tryd.underlying24 Tryd.underlying5 Tryd.underlying9 (Kd.own_of_R HO462.out)
                    have hcw41 := fun n_ : Nat => own_string (P := Tryd.prog) Tryd.underlying24 Tryd.underlying5 Tryd.underlying9 (Kd.own_of_R (Kd.R_drewN HO462.out n_))
                    have hcv42 := Kd.C_string (P := Tryd.prog) (A := A0) (c := c0) Tryd.underlying24 Tryd.underlying5 Tryd.underlying9 (Kd.C_below HR0.out HB.out)
                    have hcw43 := fun n_ : Nat => Kd.C_string (P := Tryd.prog) (A := A0) (c := c0) Tryd.underlying24 Tryd.underlying5 Tryd.underlying9 (Kd.C_drewN (Kd.C_below HR0.out HB.out) n_)
                    go_wp2
                    go_meet
                    case rel => exact ⟨_, (true), (by first | rfl | (simp; done) | (simp [*]; done)), H', ⟨by first | omega | exact Nat.le_refl _⟩, ⟨by repeat (first | (with_reducible first | exact HB.out | apply below_alloc | apply pw_below_drewN | apply below_drew1) | exact HB.out)⟩⟩
                · rw [if_neg c26] at H
                  have c26b0 : (t458 == a2) = false := beq_eq_false_iff_ne.mpr c26
                  have c26b1 : (t458 != a2) = true := bne_iff_ne.mpr c26
                  have H' := Aside0.mk H
                  clear H
                  have hcv44 := own_string (P := Tryd.prog) Tryd.underlying24 Tryd.underlying5 Tryd.underlying9 (Kd.own_of_R HO451.out)
                  have hcw45 := fun n_ : Nat => own_string (P := Tryd.prog) Tryd.underlying24 Tryd.underlying5 Tryd.underlying9 (Kd.own_of_R (Kd.R_drewN HO451.out n_))
                  have hcv46 := Kd.C_string (P := Tryd.prog) (A := A0) (c := c0) Tryd.underlying24 Tryd.underlying5 Tryd.underlying9 (Kd.C_below HR0.out HB.out)
                  have hcw47 := fun n_ : Nat => Kd.C_string (P := Tryd.prog) (A := A0) (c := c0) Tryd.underlying24 Tryd.underlying5 Tryd.underlying9 (Kd.C_drewN (Kd.C_below HR0.out HB.out) n_)
                  go_wp2
                  go_meet
                  case rel => exact ⟨_, (true), (by first | rfl | (simp; done) | (simp [*]; done)), H', ⟨by first | omega | exact Nat.le_refl _⟩, ⟨by repeat (first | (with_reducible first | exact HB.out | apply below_alloc | apply pw_below_drewN | apply below_drew1) | exact HB.out)⟩⟩
              · rw [if_neg c25] at H
                have c25b0 : (t449 == 0) = false := beq_eq_false_iff_ne.mpr c25
                have c25b1 : (t449 != 0) = true := bne_iff_ne.mpr c25
                have H' := Aside0.mk H
                clear H
                have hcv48 := own_string (P := Tryd.prog) Tryd.underlying24 Tryd.underlying5 Tryd.underlying9 (Kd.own_of_R HO451.out)
                have hcw49 := fun n_ : Nat => own_string (P := Tryd.prog) Tryd.underlying24 Tryd.underlying5 Tryd.underlying9 (Kd.own_of_R (Kd.R_drewN HO451.out n_))
                have hcv50 := Kd.C_string (P := Tryd.prog) (A := A0) (c := c0) Tryd.underlying24 Tryd.underlying5 Tryd.underlying9 (Kd.C_below HR0.out HB.out)
                have hcw51 := fun n_ : Nat => Kd.C_string (P := Tryd.prog) (A := A0) (c := c0) Tryd.underlying24 Tryd.underlying5 Tryd.underlying9 (Kd.C_drewN (Kd.C_below HR0.out HB.out) n_)
                go_wp2
                go_meet
                case rel => exact ⟨_, (true), (by first | rfl | (simp; done) | (simp [*]; done)), H', ⟨by first | omega | exact Nat.le_refl _⟩, ⟨by repeat (first | (with_reducible first | exact HB.out | apply below_alloc | apply pw_below_drewN | apply below_drew1) | exact HB.out)⟩⟩
            · rw [if_neg c24] at H
              have c24b0 : ((strOfNums t448).toList == (strOfNums l0).toList) = false := beq_eq_false_iff_ne.mpr c24
              have c24b1 : ((strOfNums t448).toList != (strOfNums l0).toList) = true := bne_iff_ne.mpr c24
              have H' := Aside0.mk H
              clear H
              have hcv52 := own_string (P := Tryd.prog) Tryd.underlying24 Tryd.underlying5 Tryd.underlying9 (Kd.own_of_R HO451.out)
              have hcw53 := fun n_ : Nat => own_string (P := Tryd.prog) Tryd.underlying24 Tryd.underlying5 Tryd.underlying9 (Kd.own_of_R (Kd.R_drewN HO451.out n_))
              have hcv54 := Kd.C_string (P := Tryd.prog) (A := A0) (c := c0) Tryd.underlying24 Tryd.underlying5 Tryd.underlying9 (Kd.C_below HR0.out HB.out)
              have hcw55 := fun n_ : Nat => Kd.C_string (P := Tryd.prog) (A := A0) (c := c0) Tryd.underlying24 Tryd.underlying5 Tryd.underlying9 (Kd.C_drewN (Kd.C_below HR0.out HB.out) n_)
              go_wp2
              go_meet
              case rel => exact ⟨_, (true), (by first | rfl | (simp; done) | (simp [*]; done)), H', ⟨by first | omega | exact Nat.le_refl _⟩, ⟨by repeat (first | (with_reducible first | exact HB.out | apply below_alloc | apply pw_below_drewN | apply below_drew1) | exact HB.out)⟩⟩
          · rw [if_neg c23] at H
            have c23b0 : (t447 == a1) = false := beq_eq_false_iff_ne.mpr c23
            have c23b1 : (t447 != a1) = true := bne_iff_ne.mpr c23
            (first | rw [c23b0] | (simp only [i64_w, i32_w]; rw [c23b0]) | skip)
            have H' := Aside0.mk H
            clear H
            go_wp2
            go_meet
            case rel => exact ⟨_, (true), (by first | rfl | (simp; done) | (simp [*]; done)), H', ⟨by first | omega | exact Nat.le_refl _⟩, ⟨by repeat (first | (with_reducible first | exact HB.out | apply below_alloc | apply pw_below_drewN | apply below_drew1) | exact HB.out)⟩⟩
        case rest =>
          clear HC13
          try clear c1
          try clear c2
          try clear p2
          try clear hcv2
          try clear hcw2
          try clear hcv3
          try clear hcw3
          try clear hcv4
          try clear hcw4
          try clear hcv5
          try clear hcw5
          try clear c6
          try clear c8
          try clear c11
          try clear c12
          try clear c17
          try clear c19
          try clear c23
          try clear c23b0
          try clear c23b1
          try clear c24
          try clear c24b0
          try clear c24b1
          try clear c25
          try clear c25b0
          try clear c25b1
          try clear c26
          try clear c26b0
          try clear c26b1
          try clear c27
          try clear c27b0
          try clear c27b1
          try clear c28
          try clear hcv28
          try clear hcw29
          try clear hcv30
          try clear hcw31
          try clear hcv32
          try clear hcw33
          try clear hcv34
          try clear hcw35
          try clear hcv36
          try clear hcw37
          try clear hcv38
          try clear hcw39
          try clear hcv40
          try clear hcw41
          try clear hcv42
          try clear hcw43
          try clear hcv44
          try clear hcw45
          try clear hcv46
          try clear hcw47
          try clear hcv48
          try clear hcw49
          try clear hcv50
          try clear hcw51
          try clear hcv52
          try clear hcw53
          try clear hcv54
          try clear hcw55
          obtain ⟨kq, x67_12, rfl, HA, HJ12, HB⟩ := hcut
          cases kq with
          | zero => exact absurd HA.out (by simp [ladinglaw03_CodecBack.j0])
          | succ kj12 =>
            have H := HA.out
            clear HA
            simp only [ladinglaw03_CodecBack.j0] at H
            by_cases c56 : x67_12 = true
            · subst c56
              have H1 : (some false) = some r := by rw [if_pos rfl] at H; exact H
              clear H
              have H := H1
              clear H1
              obtain rfl := Option.some.inj H
              go_wp2
              go_ret
              exact ⟨by first | rfl | (simp [errW_none, errW_some] <;> rfl) | (simp [*, errW_none, errW_some] <;> rfl), by repeat (first | (with_reducible first | exact HB.out | apply below_alloc | apply pw_below_drewN | apply below_drew1) | exact HB.out)⟩
            · replace c56 := Bool.eq_false_iff.mpr c56
              subst c56
              have H1 : ((codec_Text.f kj12 ([] : List Int) a3).bind fun t463 => (if t463.length + l0.length < 140737488355328 then ((codec_ReadText.f kj12 (t463 ++ l0)).bind fun bt469 => (if (a3.size : Int) ≤ 1024 then (if bt469.1.toList = a3.toList then (if (strOfNums bt469.2.1).toList = (strOfNums l0).toList then (if bt469.2.2 = 0 then (if (a3.size : Int) > 1024 then (ladinglaw03_CodecBack.j1 kj12 l0 (bt469.2.2 != 4)) else (ladinglaw03_CodecBack.j1 kj12 l0 false)) else (ladinglaw03_CodecBack.j1 kj12 l0 true)) else (ladinglaw03_CodecBack.j1 kj12 l0 true)) else (ladinglaw03_CodecBack.j1 kj12 l0 true)) else (if (a3.size : Int) > 1024 then (ladinglaw03_CodecBack.j1 kj12 l0 (bt469.2.2 != 4)) else (ladinglaw03_CodecBack.j1 kj12 l0 false)))) else (none))) = some r := by rw [if_neg (show ¬ (false = true) by decide)] at H; exact H
              clear H
              have H := H1
              clear H1
              replace H := Option.bind_eq_some_iff.mp H
              obtain ⟨t463, A570, H⟩ := H
              replace H : (if t463.length + l0.length < 140737488355328 then ((codec_ReadText.f kj12 (t463 ++ l0)).bind fun bt469 => (if (a3.size : Int) ≤ 1024 then (if bt469.1.toList = a3.toList then (if (strOfNums bt469.2.1).toList = (strOfNums l0).toList then (if bt469.2.2 = 0 then (if (a3.size : Int) > 1024 then (ladinglaw03_CodecBack.j1 kj12 l0 (bt469.2.2 != 4)) else (ladinglaw03_CodecBack.j1 kj12 l0 false)) else (ladinglaw03_CodecBack.j1 kj12 l0 true)) else (ladinglaw03_CodecBack.j1 kj12 l0 true)) else (ladinglaw03_CodecBack.j1 kj12 l0 true)) else (if (a3.size : Int) > 1024 then (ladinglaw03_CodecBack.j1 kj12 l0 (bt469.2.2 != 4)) else (ladinglaw03_CodecBack.j1 kj12 l0 false)))) else (none)) = some r := H
              have A57 := Aside0.mk A570
              clear A570
              by_cases c58 : t463.length + l0.length < 140737488355328
              · rw [if_pos c58] at H
                have LMc58 := Aside0.mk c58
                clear c58
                obtain ⟨y466, hy466⟩ : ∃ y_ : List Int, y_ = (t463 ++ l0) := ⟨_, rfl⟩
                replace H : ((codec_ReadText.f kj12 y466).bind fun bt469 => (if (a3.size : Int) ≤ 1024 then (if bt469.1.toList = a3.toList then (if (strOfNums bt469.2.1).toList = (strOfNums l0).toList then (if bt469.2.2 = 0 then (if (a3.size : Int) > 1024 then (ladinglaw03_CodecBack.j1 kj12 l0 (bt469.2.2 != 4)) else (ladinglaw03_CodecBack.j1 kj12 l0 false)) else (ladinglaw03_CodecBack.j1 kj12 l0 true)) else (ladinglaw03_CodecBack.j1 kj12 l0 true)) else (ladinglaw03_CodecBack.j1 kj12 l0 true)) else (if (a3.size : Int) > 1024 then (ladinglaw03_CodecBack.j1 kj12 l0 (bt469.2.2 != 4)) else (ladinglaw03_CodecBack.j1 kj12 l0 false)))) = some r := by first | (rw [hy466]; with_reducible exact H) | (have H2_ := (Option.bind_some _ _).symm.trans H; rw [hy466]; with_reducible exact H2_) | (have H2_ := (Option.bind_some _ _).symm.trans H; with_reducible exact H2_) | with_reducible exact H | (rw [hy466]; exact H) | exact H
                have Ny466 := Aside0.mk hy466
                clear hy466
                replace H := Option.bind_eq_some_iff.mp H
                obtain ⟨⟨t469, t470, t471⟩, A590, H⟩ := H
                replace H : (if (a3.size : Int) ≤ 1024 then (if t469.toList = a3.toList then (if (strOfNums t470).toList = (strOfNums l0).toList then (if t471 = 0 then (if (a3.size : Int) > 1024 then (ladinglaw03_CodecBack.j1 kj12 l0 (t471 != 4)) else (ladinglaw03_CodecBack.j1 kj12 l0 false)) else (ladinglaw03_CodecBack.j1 kj12 l0 true)) else (ladinglaw03_CodecBack.j1 kj12 l0 true)) else (ladinglaw03_CodecBack.j1 kj12 l0 true)) else (if (a3.size : Int) > 1024 then (ladinglaw03_CodecBack.j1 kj12 l0 (t471 != 4)) else (ladinglaw03_CodecBack.j1 kj12 l0 false))) = some r := H
                have A59 := Aside0.mk A590
                clear A590
                have HC60 := Aside0.mk H
                clear H
                go_upto_region 8 with (first | ((with_reducible refine gate_callee (f := 21) rfl ?_); refine goesL_ (some 70) rfl rfl Tryd.func21 (by kernel_rfl) rfl #[.slice none 0 0, .string a3] rfl (by (try simp only [List.map_toArray, List.map_cons, List.map_nil]); first | done | rfl | (simp only [List.length_drop, List.length_take]; rfl)) ?_; (refine (codec_Text.calls kj12 _ _ ([] : List Int) a3 t463 _ ?side1 ?side2 A57.out).mono ?_); (case side1 => exact Kd.C_nil _ _); (case side2 => exact Nat.le_refl _); rintro e w61 ⟨v464, rfl, ho0, hb⟩; refine ⟨_, rfl, ?_⟩; have n0_ := Aside0.mk (Kd.R_lower ho0 (below_size (by repeat (first | (with_reducible first | exact HB.out | apply below_alloc | apply pw_below_drewN | apply below_drew1) | exact HB.out)))); have n1_ := Aside0.mk (below_step (by repeat (first | (with_reducible first | exact HB.out | apply below_alloc | apply pw_below_drewN | apply below_drew1) | exact HB.out)) hb); clear HB; have HO465 := n0_; have HB := n1_; clear n0_ n1_; (try clear hb); (try clear hb2); (try clear hk); (try clear hi); (try clear ho0)) | ((with_reducible refine gate_builtin (b := .append) (xs := #[.tmp 70, .tmp 71]) rfl ?_); (try (refine gate_guard (by rfl) ?_; dsimp only)); at_builtin; refine Kd.R_append_rows (Kd.int .u8) (w0 := w) w.heap.size rfl (.tmp 70) (.tmp 71) 24 5 (.int .u8 0) 1 rfl Tryd.underlying24 info5 rfl (by decide) (by omega) v464 t463 l0 _ _ _ (fun _ => True) (fun _ => False) rfl rfl ?aO ?aR (fun _ _ h => h) (fun _ h => h.elim) ?aF ?aB ?aS ?aL ?_; (case aR => repeat (first | exact (Kd.C_below HR0.out HB.out) | (with_reducible refine Kd.C_alloc ?_ _) | (with_reducible refine Kd.C_drewN ?_ _) | (with_reducible refine Kd.C_drew ?_))); (case aB => exact (by repeat (first | (with_reducible first | exact HB.out | apply below_alloc | apply pw_below_drewN | apply below_drew1) | exact HB.out))); (case aF => exact (fun _ _ => trivial)); (case aO => exact (by (with_reducible repeat (first | apply Kd.R_alloc | apply Kd.R_drewN | apply Kd.R_drew)); exact HO465.out)); (case aS => exact (below_size (by repeat (first | (with_reducible first | exact HB.out | apply below_alloc | apply pw_below_drewN | apply below_drew1) | exact HB.out)))); (case aL => have := LMc58.out; omega); intro v467 w62 ho hb hg hat; rw [← Ny466.out] at ho; have n0_ := Aside0.mk (hb); have n1_ := Aside0.mk (ho); clear HB; clear HO465; have HB := n0_; have HO468 := n1_; clear n0_ n1_; clear ho hb hg hat; obtain ⟨Ao63, co63, eo63⟩ := Kd.R_slice HO468.out; subst eo63) | ((with_reducible refine gate_callee (f := 30) rfl ?_); refine goesL_ (some 73) rfl rfl Tryd.func30 (by kernel_rfl) rfl #[.slice Ao63 y466.length co63] rfl (by (try simp only [List.map_toArray, List.map_cons, List.map_nil]); first | done | rfl | (simp only [List.length_drop, List.length_take]; rfl)) ?_; (with_reducible refine (codec_ReadText.calls kj12 _ _ y466 t469 t470 t471 _ ?side1 ?side2 A59.out).mono ?_); (case side1 => repeat (first | exact (Kd.R_reads' HO468.out).2.2 | (with_reducible refine Kd.C_alloc ?_ _) | (with_reducible refine Kd.C_drewN ?_ _) | (with_reducible refine Kd.C_drew ?_))); (case side2 => exact (Kd.R_reads' HO468.out).2.1); rintro e w64 ⟨v472, rfl, ho0, hb⟩; refine ⟨_, rfl, ?_⟩; have n0_ := Aside0.mk (Kd.R_elder' (by (with_reducible repeat (first | apply Kd.R_alloc | apply Kd.R_drewN | apply Kd.R_drew)); exact HO468.out) (Kd.R_base ho0) hb); have n1_ := Aside0.mk (Kd.R_lower (Kd.R_new' ho0 (Kd.R_lt (by (with_reducible repeat (first | apply Kd.R_alloc | apply Kd.R_drewN | apply Kd.R_drew)); exact HO468.out))) (below_size (by repeat (first | (with_reducible first | exact HB.out | apply below_alloc | apply pw_below_drewN | apply below_drew1) | exact HB.out)))); have n2_ := Aside0.mk (below_step (by repeat (first | (with_reducible first | exact HB.out | apply below_alloc | apply pw_below_drewN | apply below_drew1) | exact HB.out)) hb); clear HO468; clear HB; have HO468 := n0_; have HO473 := n1_; have HB := n2_; clear n0_ n1_ n2_; (try clear hb); (try clear hb2); (try clear hk); (try clear hi); (try clear ho0)))
                (try simp only [Act.put, List.setIfInBounds_toArray, List.set_cons_zero, List.set_cons_succ])
                go_cut [104] (fun v104 wc => ∃ (kq : Nat) (x104_59 : Bool), v104 = .bool x104_59 ∧ Aside0 (ladinglaw03_CodecBack.j1 kq l0 x104_59 = some r) ∧ Aside0 (kq ≤ kj12) ∧ Aside0 (Below w.heap.size w wc))
                case first =>
                  have H := HC60.out
                  clear HC60
                  by_cases c65 : (a3.size : Int) ≤ 1024
                  · rw [if_pos c65] at H
                    have c65b0 : decide ((a3.size : Int) ≤ 1024) = true := decide_eq_true c65
                    have c65b1 : decide (a3.size ≤ 1024) = true := decide_eq_true (by omega)
                    clear c65
                    (first | rw [c65b0] | (simp only [i64_w, i32_w]; rw [c65b0]) | skip)
                    by_cases c66 : t469.toList = a3.toList
                    · rw [if_pos c66] at H
                      have c66b0 : (t469.toList == a3.toList) = true := beq_iff_eq.mpr c66
                      have c66b1 : (t469.toList != a3.toList) = false := bne_eq_false_iff_eq.mpr c66
                      clear c66
                      by_cases c67 : (strOfNums t470).toList = (strOfNums l0).toList
                      · rw [if_pos c67] at H
                        have c67b0 : ((strOfNums t470).toList == (strOfNums l0).toList) = true := beq_iff_eq.mpr c67
                        have c67b1 : ((strOfNums t470).toList != (strOfNums l0).toList) = false := bne_eq_false_iff_eq.mpr c67
                        clear c67
                        by_cases c68 : t471 = 0
                        · rw [if_pos c68] at H
                          have c68b0 : (t471 == 0) = true := beq_iff_eq.mpr c68
                          have c68b1 : (t471 != 0) = false := bne_eq_false_iff_eq.mpr c68
                          clear c68
                          by_cases c69 : (a3.size : Int) > 1024
                          · rw [if_pos c69] at H
                            have c69b0 : decide (1024 < (a3.size : Int)) = true := decide_eq_true c69
                            have c69b1 : decide (1024 < a3.size) = true := decide_eq_true (by omega)
                            clear c69
                            have H' := Aside0.mk H
                            clear H
                            have hcv70 := own_string (P := Tryd.prog) Tryd.underlying24 Tryd.underlying5 Tryd.underlying9 (Kd.own_of_R HO473.out)
                            have hcw71 := fun n_ : Nat => own_string (P := Tryd.prog) Tryd.underlying24 Tryd.underlying5 Tryd.underlying9 (Kd.own_of_R (Kd.R_drewN HO473.out n_))
                            have hcv72 := Kd.C_string (P := Tryd.prog) (A := A0) (c := c0) Tryd.underlying24 Tryd.underlying5 Tryd.underlying9 (Kd.C_below HR0.out HB.out)
                            have hcw73 := fun n_ : Nat => Kd.C_string (P := Tryd.prog) (A := A0) (c := c0) Tryd.underlying24 Tryd.underlying5 Tryd.underlying9 (Kd.C_drewN (Kd.C_below HR0.out HB.out) n_)
                            go_wp2
                            go_meet
                            case rel => exact ⟨_, ((t471 != 4)), (by first | rfl | (simp; done) | (simp [*]; done)), H', ⟨by have := HJ12.out; first | omega | exact Nat.le_refl _⟩, ⟨by repeat (first | (with_reducible first | exact HB.out | apply below_alloc | apply pw_below_drewN | apply below_drew1) | exact HB.out)⟩⟩
                          · rw [if_neg c69] at H
                            have c69b0 : decide (1024 < (a3.size : Int)) = false := decide_eq_false c69
                            have c69b1 : decide (1024 < a3.size) = false := decide_eq_false (by omega)
                            clear c69
                            have H' := Aside0.mk H
                            clear H
                            have hcv74 := own_string (P := Tryd.prog) Tryd.underlying24 Tryd.underlying5 Tryd.underlying9 (Kd.own_of_R HO473.out)
                            have hcw75 := fun n_ : Nat => own_string (P := Tryd.prog) Tryd.underlying24 Tryd.underlying5 Tryd.underlying9 (Kd.own_of_R (Kd.R_drewN HO473.out n_))
                            have hcv76 := Kd.C_string (P := Tryd.prog) (A := A0) (c := c0) Tryd.underlying24 Tryd.underlying5 Tryd.underlying9 (Kd.C_below HR0.out HB.out)
                            have hcw77 := fun n_ : Nat => Kd.C_string (P := Tryd.prog) (A := A0) (c := c0) Tryd.underlying24 Tryd.underlying5 Tryd.underlying9 (Kd.C_drewN (Kd.C_below HR0.out HB.out) n_)
                            go_wp2
                            go_meet
                            case rel => exact ⟨_, (false), (by first | rfl | (simp; done) | (simp [*]; done)), H', ⟨by have := HJ12.out; first | omega | exact Nat.le_refl _⟩, ⟨by repeat (first | (with_reducible first | exact HB.out | apply below_alloc | apply pw_below_drewN | apply below_drew1) | exact HB.out)⟩⟩
                        · rw [if_neg c68] at H
                          have c68b0 : (t471 == 0) = false := beq_eq_false_iff_ne.mpr c68
                          have c68b1 : (t471 != 0) = true := bne_iff_ne.mpr c68
                          have H' := Aside0.mk H
                          clear H
                          have hcv78 := own_string (P := Tryd.prog) Tryd.underlying24 Tryd.underlying5 Tryd.underlying9 (Kd.own_of_R HO473.out)
                          have hcw79 := fun n_ : Nat => own_string (P := Tryd.prog) Tryd.underlying24 Tryd.underlying5 Tryd.underlying9 (Kd.own_of_R (Kd.R_drewN HO473.out n_))
                          have hcv80 := Kd.C_string (P := Tryd.prog) (A := A0) (c := c0) Tryd.underlying24 Tryd.underlying5 Tryd.underlying9 (Kd.C_below HR0.out HB.out)
                          have hcw81 := fun n_ : Nat => Kd.C_string (P := Tryd.prog) (A := A0) (c := c0) Tryd.underlying24 Tryd.underlying5 Tryd.underlying9 (Kd.C_drewN (Kd.C_below HR0.out HB.out) n_)
                          go_wp2
                          go_meet
                          case rel => exact ⟨_, (true), (by first | rfl | (simp; done) | (simp [*]; done)), H', ⟨by have := HJ12.out; first | omega | exact Nat.le_refl _⟩, ⟨by repeat (first | (with_reducible first | exact HB.out | apply below_alloc | apply pw_below_drewN | apply below_drew1) | exact HB.out)⟩⟩
                      · rw [if_neg c67] at H
                        have c67b0 : ((strOfNums t470).toList == (strOfNums l0).toList) = false := beq_eq_false_iff_ne.mpr c67
                        have c67b1 : ((strOfNums t470).toList != (strOfNums l0).toList) = true := bne_iff_ne.mpr c67
                        have H' := Aside0.mk H
                        clear H
                        have hcv82 := own_string (P := Tryd.prog) Tryd.underlying24 Tryd.underlying5 Tryd.underlying9 (Kd.own_of_R HO473.out)
                        have hcw83 := fun n_ : Nat => own_string (P := Tryd.prog) Tryd.underlying24 Tryd.underlying5 Tryd.underlying9 (Kd.own_of_R (Kd.R_drewN HO473.out n_))
                        have hcv84 := Kd.C_string (P := Tryd.prog) (A := A0) (c := c0) Tryd.underlying24 Tryd.underlying5 Tryd.underlying9 (Kd.C_below HR0.out HB.out)
                        have hcw85 := fun n_ : Nat => Kd.C_string (P := Tryd.prog) (A := A0) (c := c0) Tryd.underlying24 Tryd.underlying5 Tryd.underlying9 (Kd.C_drewN (Kd.C_below HR0.out HB.out) n_)
                        go_wp2
                        go_meet
                        case rel => exact ⟨_, (true), (by first | rfl | (simp; done) | (simp [*]; done)), H', ⟨by have := HJ12.out; first | omega | exact Nat.le_refl _⟩, ⟨by repeat (first | (with_reducible first | exact HB.out | apply below_alloc | apply pw_below_drewN | apply below_drew1) | exact HB.out)⟩⟩
                    · rw [if_neg c66] at H
                      have c66b0 : (t469.toList == a3.toList) = false := beq_eq_false_iff_ne.mpr c66
                      have c66b1 : (t469.toList != a3.toList) = true := bne_iff_ne.mpr c66
                      have H' := Aside0.mk H
                      clear H
                      go_wp2
                      go_meet
                      case rel => exact ⟨_, (true), (by first | rfl | (simp; done) | (simp [*]; done)), H', ⟨by have := HJ12.out; first | omega | exact Nat.le_refl _⟩, ⟨by repeat (first | (with_reducible first | exact HB.out | apply below_alloc | apply pw_below_drewN | apply below_drew1) | exact HB.out)⟩⟩
                  · rw [if_neg c65] at H
                    have c65b0 : decide ((a3.size : Int) ≤ 1024) = false := decide_eq_false c65
                    have c65b1 : decide (a3.size ≤ 1024) = false := decide_eq_false (by omega)
                    clear c65
                    (first | rw [c65b0] | (simp only [i64_w, i32_w]; rw [c65b0]) | skip)
                    by_cases c86 : (a3.size : Int) > 1024
                    · rw [if_pos c86] at H
                      have c86b0 : decide (1024 < (a3.size : Int)) = true := decide_eq_true c86
                      have c86b1 : decide (1024 < a3.size) = true := decide_eq_true (by omega)
                      clear c86
                      have H' := Aside0.mk H
                      clear H
                      go_wp2
                      go_meet
                      case rel => exact ⟨_, ((t471 != 4)), (by first | rfl | (simp; done) | (simp [*]; done)), H', ⟨by have := HJ12.out; first | omega | exact Nat.le_refl _⟩, ⟨by repeat (first | (with_reducible first | exact HB.out | apply below_alloc | apply pw_below_drewN | apply below_drew1) | exact HB.out)⟩⟩
                    · rw [if_neg c86] at H
                      have c86b0 : decide (1024 < (a3.size : Int)) = false := decide_eq_false c86
                      have c86b1 : decide (1024 < a3.size) = false := decide_eq_false (by omega)
                      clear c86
                      have H' := Aside0.mk H
                      clear H
                      go_wp2
                      go_meet
                      case rel => exact ⟨_, (false), (by first | rfl | (simp; done) | (simp [*]; done)), H', ⟨by have := HJ12.out; first | omega | exact Nat.le_refl _⟩, ⟨by repeat (first | (with_reducible first | exact HB.out | apply below_alloc | apply pw_below_drewN | apply below_drew1) | exact HB.out)⟩⟩
                case rest =>
                  clear HC60
                  try clear c1
                  try clear c2
                  try clear p2
                  try clear hcv2
                  try clear hcw2
                  try clear c3
                  try clear hcv3
                  try clear hcw3
                  try clear hcv4
                  try clear hcw4
                  try clear c5
                  try clear hcv5
                  try clear hcw5
                  try clear c6
                  try clear hcv7
                  try clear hcw7
                  try clear c8
                  try clear hcv8
                  try clear hcw8
                  try clear c11
                  try clear c12
                  try clear c17
                  try clear c19
                  try clear c21
                  try clear c23
                  try clear c23b0
                  try clear c23b1
                  try clear c24
                  try clear c24b0
                  try clear c24b1
                  try clear c25
                  try clear c25b0
                  try clear c25b1
                  try clear c26
                  try clear c26b0
                  try clear c26b1
                  try clear c27
                  try clear c27b0
                  try clear c27b1
                  try clear c28
                  try clear hcv28
                  try clear hcw29
                  try clear c30
                  try clear hcv30
                  try clear hcw31
                  try clear hcv32
                  try clear hcw33
                  try clear hcv34
                  try clear hcw35
                  try clear hcv36
                  try clear hcw37
                  try clear hcv38
                  try clear hcw39
                  try clear hcv40
                  try clear hcw41
                  try clear hcv42
                  try clear hcw43
                  try clear hcv44
                  try clear hcw45
                  try clear hcv46
                  try clear hcw47
                  try clear hcv48
                  try clear hcw49
                  try clear hcv50
                  try clear hcw51
                  try clear hcv52
                  try clear hcw53
                  try clear hcv54
                  try clear hcw55
                  try clear c56
                  try clear c58
                  try clear c65
                  try clear c65b0
                  try clear c65b1
                  try clear c66
                  try clear c66b0
                  try clear c66b1
                  try clear c67
                  try clear c67b0
                  try clear c67b1
                  try clear c68
                  try clear c68b0
                  try clear c68b1
                  try clear c69
                  try clear c69b0
                  try clear c69b1
                  try clear hcv70
                  try clear hcw71
                  try clear hcv72
                  try clear hcw73
                  try clear hcv74
                  try clear hcw75
                  try clear hcv76
                  try clear hcw77
                  try clear hcv78
                  try clear hcw79
                  try clear hcv80
                  try clear hcw81
                  try clear hcv82
                  try clear hcw83
                  try clear hcv84
                  try clear hcw85
                  try clear c86
                  try clear c86b0
                  try clear c86b1
                  try clear p2
                  obtain ⟨kq, x104_59, rfl, HA, HJ59, HB⟩ := hcut
                  cases kq with
                  | zero => exact absurd HA.out (by simp [ladinglaw03_CodecBack.j1])
                  | succ kj59 =>
                    have H := HA.out
                    clear HA
                    simp only [ladinglaw03_CodecBack.j1] at H
                    by_cases c87 : x104_59 = true
                    · subst c87
                      have H1 : (some false) = some r := by rw [if_pos rfl] at H; exact H
                      clear H
                      have H := H1
                      clear H1
                      obtain rfl := Option.some.inj H
                      go_wp2
                      go_ret
                      exact ⟨by first | rfl | (simp [errW_none, errW_some] <;> rfl) | (simp [*, errW_none, errW_some] <;> rfl), by repeat (first | (with_reducible first | exact HB.out | apply below_alloc | apply pw_below_drewN | apply below_drew1) | exact HB.out)⟩
                    · replace c87 := Bool.eq_false_iff.mpr c87
                      subst c87
                      have H1 : ((codec_ReadNum.f kj59 l0).bind fun bt474 => (if bt474.2.2 = 0 then ((codec_Num.f kj59 ([] : List Int) bt474.1).bind fun t479 => (if t479.length + bt474.2.1.length < 140737488355328 then (ladinglaw03_CodecBack.j2 kj59 l0 ((strOfNums (t479 ++ bt474.2.1)).toList != (strOfNums l0).toList)) else (none))) else (ladinglaw03_CodecBack.j2 kj59 l0 false))) = some r := by rw [if_neg (show ¬ (false = true) by decide)] at H; exact H
                      clear H
                      have H := H1
                      clear H1
                      replace H := Option.bind_eq_some_iff.mp H
                      obtain ⟨⟨t474, t475, t476⟩, A880, H⟩ := H
                      replace H : (if t476 = 0 then ((codec_Num.f kj59 ([] : List Int) t474).bind fun t479 => (if t479.length + t475.length < 140737488355328 then (ladinglaw03_CodecBack.j2 kj59 l0 ((strOfNums (t479 ++ t475)).toList != (strOfNums l0).toList)) else (none))) else (ladinglaw03_CodecBack.j2 kj59 l0 false)) = some r := H
                      have A88 := Aside0.mk A880
                      clear A880
                      have HC89 := Aside0.mk H
                      clear H
                      go_upto_region 11 with (first | ((with_reducible refine gate_callee (f := 26) rfl ?_); refine goesL_ (some 107) rfl rfl Tryd.func26 (by kernel_rfl) rfl #[.slice A0 l0.length c0] rfl (by (try simp only [List.map_toArray, List.map_cons, List.map_nil]); first | done | rfl | (simp only [List.length_drop, List.length_take]; rfl)) ?_; (with_reducible refine (codec_ReadNum.calls kj59 _ _ l0 t474 t475 t476 _ ?side1 ?side2 A88.out).mono ?_); (case side1 => repeat (first | exact (Kd.C_below HR0.out HB.out) | (with_reducible refine Kd.C_alloc ?_ _) | (with_reducible refine Kd.C_drewN ?_ _) | (with_reducible refine Kd.C_drew ?_))); (case side2 => exact HC0.out); rintro e w90 ⟨v477, rfl, ho0, hb⟩; refine ⟨_, rfl, ?_⟩; have n0_ := Aside0.mk (Kd.R_lower ho0 (below_size (by repeat (first | (with_reducible first | exact HB.out | apply below_alloc | apply pw_below_drewN | apply below_drew1) | exact HB.out)))); have n1_ := Aside0.mk (below_step (by repeat (first | (with_reducible first | exact HB.out | apply below_alloc | apply pw_below_drewN | apply below_drew1) | exact HB.out)) hb); clear HB; have HO478 := n0_; have HB := n1_; clear n0_ n1_; (try clear hb); (try clear hb2); (try clear hk); (try clear hi); (try clear ho0)))
                      (try simp only [Act.put, List.setIfInBounds_toArray, List.set_cons_zero, List.set_cons_succ])
                      go_cut [122] (fun v122 wc => ∃ (kq : Nat) (x122_88 : Bool), v122 = .bool x122_88 ∧ Aside0 (ladinglaw03_CodecBack.j2 kq l0 x122_88 = some r) ∧ Aside0 (kq ≤ kj59) ∧ Aside0 (Below w.heap.size w wc))
                      case first =>
                        have H := HC89.out
                        clear HC89
                        by_cases c91 : t476 = 0
                        · rw [if_pos c91] at H
                          have c91b0 : (t476 == 0) = true := beq_iff_eq.mpr c91
                          have c91b1 : (t476 != 0) = false := bne_eq_false_iff_eq.mpr c91
                          clear c91
                          (first | rw [c91b0] | (simp only [i64_w, i32_w]; rw [c91b0]) | skip)
                          replace H := Option.bind_eq_some_iff.mp H
                          obtain ⟨t479, A920, H⟩ := H
                          replace H : (if t479.length + t475.length < 140737488355328 then (ladinglaw03_CodecBack.j2 kj59 l0 ((strOfNums (t479 ++ t475)).toList != (strOfNums l0).toList)) else (none)) = some r := H
                          have A92 := Aside0.mk A920
                          clear A920
                          by_cases c93 : t479.length + t475.length < 140737488355328
                          · rw [if_pos c93] at H
                            have LMc93 := Aside0.mk c93
                            clear c93
                            obtain ⟨y482, hy482⟩ : ∃ y_ : List Int, y_ = (t479 ++ t475) := ⟨_, rfl⟩
                            replace H : (ladinglaw03_CodecBack.j2 kj59 l0 ((strOfNums y482).toList != (strOfNums l0).toList)) = some r := by first | (rw [hy482]; with_reducible exact H) | (have H2_ := (Option.bind_some _ _).symm.trans H; rw [hy482]; with_reducible exact H2_) | (have H2_ := (Option.bind_some _ _).symm.trans H; with_reducible exact H2_) | with_reducible exact H | (rw [hy482]; exact H) | exact H
                            have Ny482 := Aside0.mk hy482
                            clear hy482
                            have H' := Aside0.mk H
                            clear H
                            obtain ⟨Ao94, co94, eo94⟩ := Kd.R_slice HO478.out
                            subst eo94
                            try go_wp2
                            have n0_ := Aside0.mk (Kd.R_drew HO478.out)
                            have n1_ := Aside0.mk (below_drew1 HB.out)
                            clear HO478
                            clear HB
                            have HO478 := n0_
                            have HB := n1_
                            clear n0_ n1_
                            refine start_ (n := 12) (S := fun w' => (convert 24 9 (.slice A0 l0.length c0)).run Tryd.prog w' = .ok (.string (strOfNums l0)) w') (ds := []) #[false, false, false, false, false, false, false, false, false, false, false, false] (by kernel_rfl) rfl rfl ((Kd.C_string (P := Tryd.prog) (A := A0) (c := c0) Tryd.underlying24 Tryd.underlying5 Tryd.underlying9 (Kd.C_below HR0.out HB.out))) (fun hHeld => ?_); refine with_tabW ladinglaw03_CodecBack.tab11 ladinglaw03_CodecBack.bits11 (fun HT_ HW_ => ?_)
                            generalize w90.drew = w95 at HO478 HB hHeld ⊢
                            refine pure_ (i := 0) (N := some 111) (v := ?_) (a' := ?_) #[true, false, false, false, false, false, false, false, false, false, false, false] rfl rfl (any_of HT_.out (by kernel_rfl)) (fun _ _ _ h => h) (Or.inl ⟨by rfl, ?_⟩) ?_ ?_
                            rotate_left
                            · intro w'
                              go_simp
                              with_reducible rfl
                            rotate_left
                            · simp only [Act.put, List.setIfInBounds_toArray, List.set_cons_zero, List.set_cons_succ, i64_w, i32_w]
                              rfl
                            refine pure_ (i := 1) (N := some 112) (v := ?_) (a' := ?_) #[true, true, false, false, false, false, false, false, false, false, false, false] rfl rfl (any_of HT_.out (by kernel_rfl)) (fun _ _ _ h => h) (Or.inl ⟨by rfl, ?_⟩) ?_ ?_
                            rotate_left
                            · intro w'
                              go_simp
                              with_reducible rfl
                            rotate_left
                            · simp only [Act.put, List.setIfInBounds_toArray, List.set_cons_zero, List.set_cons_succ, i64_w, i32_w]
                              rfl
                            refine pure_ (i := 2) (N := some 113) (v := ?_) (a' := ?_) #[true, true, true, false, false, false, false, false, false, false, false, false] rfl rfl (any_of HT_.out (by kernel_rfl)) (fun _ _ _ h => h) (Or.inl ⟨by rfl, ?_⟩) ?_ ?_
                            rotate_left
                            · intro w'
                              go_simp
                              with_reducible rfl
                            rotate_left
                            · simp only [Act.put, List.setIfInBounds_toArray, List.set_cons_zero, List.set_cons_succ, i64_w, i32_w]
                              rfl
                            refine pure_ (i := 3) (N := some 114) (v := ?_) (a' := ?_) #[true, true, true, true, false, false, false, false, false, false, false, false] rfl rfl (any_of HT_.out (by kernel_rfl)) (fun _ _ _ h => h) (Or.inl ⟨by rfl, ?_⟩) ?_ ?_
                            rotate_left
                            · intro w'
                              go_simp
                              with_reducible rfl
                            rotate_left
                            · simp only [Act.put, List.setIfInBounds_toArray, List.set_cons_zero, List.set_cons_succ, i64_w, i32_w]
                              rfl
                            refine pure_ (i := 5) (N := some 116) (v := ?_) (a' := ?_) #[true, true, true, true, false, true, false, false, false, false, false, false] rfl rfl (any_of HT_.out (by kernel_rfl)) (fun _ _ _ h => h) (Or.inl ⟨by rfl, ?_⟩) ?_ ?_
                            rotate_left
                            · intro w'
                              go_simp
                              with_reducible rfl
                            rotate_left
                            · simp only [Act.put, List.setIfInBounds_toArray, List.set_cons_zero, List.set_cons_succ, i64_w, i32_w]
                              rfl
                            refine pure_ (i := 8) (N := some 119) (v := ?_) (a' := ?_) #[true, true, true, true, false, true, false, false, true, false, false, false] rfl rfl (any_of HT_.out (by kernel_rfl)) (fun _ _ _ h => h) (Or.inl ⟨by rfl, ?_⟩) ?_ ?_
                            rotate_left
                            · intro w'
                              go_simp
                              with_reducible rfl
                            rotate_left
                            · simp only [Act.put, List.setIfInBounds_toArray, List.set_cons_zero, List.set_cons_succ, i64_w, i32_w]
                              rfl
                            refine take_ (i := 9) (N := some 120) (v := ?_) (a' := ?_) #[true, true, true, true, false, true, false, false, true, true, false, false] rfl rfl (take_ofW HT_.out HW_.out (by kernel_rfl)) (fun _ _ _ h => h) (Or.inl ⟨by rfl, ?_⟩) hHeld ?_ ?_
                            rotate_left
                            · intro w' s0
                              go_simp
                              with_reducible rfl
                            rotate_left
                            · simp only [Act.put, List.setIfInBounds_toArray, List.set_cons_zero, List.set_cons_succ, i64_w, i32_w]
                              rfl
                            refine one_ (i := 4) (N := some 115) #[true, true, true, true, true, true, false, false, true, true, false, false] rfl rfl (one_of HT_.out (by kernel_rfl)) (by decide) (fun K hK => ?_)
                            refine goes_ Tryd.func17 (by kernel_rfl) rfl #[.slice none 0 0, .int .u64 t474] (by rfl) rfl rfl (by (try simp only [List.map_toArray, List.map_cons, List.map_nil]); first | done | rfl | (simp only [List.length_drop, List.length_take]; rfl)) ?_
                            refine (codec_Num.calls kj59 _ _ ([] : List Int) t474 t479 _ ?side1 ?side2 A92.out).mono ?_
                            (case side1 => exact Kd.C_nil _ _)
                            (case side2 => exact Nat.le_refl _)
                            rintro e w96 ⟨v480, rfl, ho0, hb⟩
                            refine ⟨_, rfl, ?_⟩
                            have n0_ := Aside0.mk (Kd.R_elder' (by (with_reducible repeat (first | apply Kd.R_alloc | apply Kd.R_drewN | apply Kd.R_drew)); exact HO478.out) (Kd.R_base ho0) hb)
                            have n1_ := Aside0.mk (Kd.R_lower (Kd.R_new' ho0 (Kd.R_lt (by (with_reducible repeat (first | apply Kd.R_alloc | apply Kd.R_drewN | apply Kd.R_drew)); exact HO478.out))) (below_size (by repeat (first | (with_reducible first | exact HB.out | apply below_alloc | apply pw_below_drewN | apply below_drew1) | exact HB.out))))
                            have n2_ := Aside0.mk (below_step (by repeat (first | (with_reducible first | exact HB.out | apply below_alloc | apply pw_below_drewN | apply below_drew1) | exact HB.out)) hb)
                            clear HO478
                            clear HB
                            have HO478 := n0_
                            have HO481 := n1_
                            have HB := n2_
                            clear n0_ n1_ n2_
                            (try clear hb)
                            (try clear hb2)
                            (try clear hk)
                            (try clear hi)
                            (try clear ho0)
                            refine hK.out _ _ ((Kd.C_string (P := Tryd.prog) (A := A0) (c := c0) Tryd.underlying24 Tryd.underlying5 Tryd.underlying9 (Kd.C_below HR0.out HB.out))) (fun hHeld => ?_)
                            clear hK K
                            refine norm_ (a' := ?_) ?_ ?_
                            rotate_left
                            · show Act.put _ (some 115) _ = _
                              simp only [Act.put, List.setIfInBounds_toArray, List.set_cons_zero, List.set_cons_succ, i64_w, i32_w]
                              rfl
                            refine one_ (i := 6) (N := some 117) #[true, true, true, true, true, true, true, false, true, true, false, false] rfl rfl (one_of HT_.out (by kernel_rfl)) (by decide) (fun K hK => ?_)
                            refine Kd.R_append_rows_step (Kd.int .u8) (w0 := w) w.heap.size (by rfl) (.tmp 115) (.tmp 116) 24 5 (.int .u8 0) 1 rfl Tryd.underlying24 info5 rfl (by decide) (by omega) v480 t479 t475 _ _ _ (fun k_ => some k_ ≠ (.slice Ao94 t475.length co94 : Value).ownBlock) (fun _ => False) rfl rfl ?aO ?aR (fun _ _ h => h) (fun _ h => h.elim) ?aF ?aB ?aS ?aL ?_
                            (case aR => repeat (first | exact (Kd.R_reads' HO478.out).2.2 | (with_reducible refine Kd.C_alloc ?_ _) | (with_reducible refine Kd.C_drewN ?_ _) | (with_reducible refine Kd.C_drew ?_)))
                            (case aB => exact (by repeat (first | (with_reducible first | exact HB.out | apply below_alloc | apply pw_below_drewN | apply below_drew1) | exact HB.out)))
                            (case aF => exact (fun k_ hk => Kd.fresh' (Kd.R_lt (by (with_reducible repeat (first | apply Kd.R_alloc | apply Kd.R_drewN | apply Kd.R_drew)); exact HO478.out)) k_ hk))
                            (case aO => exact (by (with_reducible repeat (first | apply Kd.R_alloc | apply Kd.R_drewN | apply Kd.R_drew)); exact Kd.R_mono HO481.out (fun _ hk => hk.2)))
                            (case aS => exact (below_size (by repeat (first | (with_reducible first | exact HB.out | apply below_alloc | apply pw_below_drewN | apply below_drew1) | exact HB.out))))
                            (case aL => have := LMc93.out; omega)
                            intro v483 w97 ho hb hg hat
                            rw [← Ny482.out] at ho
                            have n0_ := Aside0.mk (Kd.R_after (ok := (fun _ => True)) (by (with_reducible repeat (first | apply Kd.R_alloc | apply Kd.R_drewN | apply Kd.R_drew)); exact HO478.out) hg hat)
                            have n1_ := Aside0.mk (hb)
                            have n2_ := Aside0.mk (ho)
                            clear HO478
                            clear HB
                            clear HO481
                            have HO478 := n0_
                            have HB := n1_
                            have HO484 := n2_
                            clear n0_ n1_ n2_
                            clear ho hb hg hat
                            refine hK.out _ _ ((Kd.C_string (P := Tryd.prog) (A := A0) (c := c0) Tryd.underlying24 Tryd.underlying5 Tryd.underlying9 (Kd.C_below HR0.out HB.out))) (fun hHeld => ?_)
                            clear hK K
                            refine norm_ (a' := ?_) ?_ ?_
                            rotate_left
                            · show Act.put _ (some 117) _ = _
                              simp only [Act.put, List.setIfInBounds_toArray, List.set_cons_zero, List.set_cons_succ, i64_w, i32_w]
                              rfl
                            refine one_ (i := 7) (N := some 118) #[true, true, true, true, true, true, true, true, true, true, false, false] rfl rfl (one_of HT_.out (by kernel_rfl)) (by decide) (fun K hK => ?_)
                            have hcv98 := own_string (P := Tryd.prog) Tryd.underlying24 Tryd.underlying5 Tryd.underlying9 (Kd.own_of_R HO484.out)
                            refine value_ (w1 := ?_) (v := ?_) (by rfl) rfl ?_ ?_
                            rotate_left 2
                            · go_simp
                              constructor
                              · rfl
                              · rfl
                            clear hcv98
                            refine hK.out _ _ ((Kd.C_string (P := Tryd.prog) (A := A0) (c := c0) Tryd.underlying24 Tryd.underlying5 Tryd.underlying9 (Kd.C_below HR0.out HB.out))) (fun hHeld => ?_)
                            clear hK K
                            refine norm_ (a' := ?_) ?_ ?_
                            rotate_left
                            · show Act.put _ (some 118) _ = _
                              simp only [Act.put, List.setIfInBounds_toArray, List.set_cons_zero, List.set_cons_succ, i64_w, i32_w]
                              rfl
                            refine pure_ (i := 10) (N := some 121) (v := ?_) (a' := ?_) #[true, true, true, true, true, true, true, true, true, true, true, false] rfl rfl (any_of HT_.out (by kernel_rfl)) (fun _ _ _ h => h) (Or.inl ⟨by rfl, ?_⟩) ?_ ?_
                            rotate_left
                            · intro w'
                              go_simp
                              with_reducible rfl
                            rotate_left
                            · simp only [Act.put, List.setIfInBounds_toArray, List.set_cons_zero, List.set_cons_succ, i64_w, i32_w]
                              rfl
                            refine pure_ (i := 11) (N := some 122) (v := ?_) (a' := ?_) #[true, true, true, true, true, true, true, true, true, true, true, true] rfl rfl (any_of HT_.out (by kernel_rfl)) (fun _ _ _ h => h) (Or.inl ⟨by rfl, ?_⟩) ?_ ?_
                            rotate_left
                            · intro w'
                              go_simp
                              with_reducible rfl
                            rotate_left
                            · simp only [Act.put, List.setIfInBounds_toArray, List.set_cons_zero, List.set_cons_succ, i64_w, i32_w]
                              rfl
                            refine done_ (done_of HT_.out (by kernel_rfl)) ?_
                            try go_wp2
                            go_meet
                            case rel => exact ⟨_, (((strOfNums y482).toList != (strOfNums l0).toList)), (by first | rfl | (simp; done) | (simp [*]; done)), H', ⟨by have := HJ12.out; have := HJ59.out; first | omega | exact Nat.le_refl _⟩, ⟨by repeat (first | (with_reducible first | exact HB.out | apply below_alloc | apply pw_below_drewN | apply below_drew1) | exact HB.out)⟩⟩
                          · rw [if_neg c93] at H
                            exact absurd H (by simp)
                        · rw [if_neg c91] at H
                          have c91b0 : (t476 == 0) = false := beq_eq_false_iff_ne.mpr c91
                          have c91b1 : (t476 != 0) = true := bne_iff_ne.mpr c91
                          (first | rw [c91b0] | (simp only [i64_w, i32_w]; rw [c91b0]) | skip)
                          have H' := Aside0.mk H
                          clear H
                          try go_wp2
                          have n0_ := Aside0.mk (Kd.R_drew HO478.out)
                          have n1_ := Aside0.mk (below_drew1 HB.out)
                          clear HO478
                          clear HB
                          have HO478 := n0_
                          have HB := n1_
                          clear n0_ n1_
                          refine start_ (n := 12) (S := fun w' => True) (ds := []) #[false, false, false, false, false, false, false, false, false, false, false, false] (by kernel_rfl) rfl rfl trivial (fun hHeld => ?_); refine with_tabW ladinglaw03_CodecBack.tab11 ladinglaw03_CodecBack.bits11 (fun HT_ HW_ => ?_)
                          generalize w90.drew = w100 at HO478 HB hHeld ⊢
                          refine pure_ (i := 0) (N := some 111) (v := ?_) (a' := ?_) #[true, false, false, false, false, false, false, false, false, false, false, false] rfl rfl (any_of HT_.out (by kernel_rfl)) (fun _ _ _ h => h) (Or.inl ⟨by rfl, ?_⟩) ?_ ?_
                          rotate_left
                          · intro w'
                            go_simp
                            with_reducible rfl
                          rotate_left
                          · simp only [Act.put, List.setIfInBounds_toArray, List.set_cons_zero, List.set_cons_succ, i64_w, i32_w]
                            rfl
                          refine pure_ (i := 1) (N := some 112) (v := ?_) (a' := ?_) #[true, true, false, false, false, false, false, false, false, false, false, false] rfl rfl (any_of HT_.out (by kernel_rfl)) (fun _ _ _ h => h) (Or.inl ⟨by rfl, ?_⟩) ?_ ?_
                          rotate_left
                          · intro w'
                            go_simp
                            with_reducible rfl
                          rotate_left
                          · simp only [Act.put, List.setIfInBounds_toArray, List.set_cons_zero, List.set_cons_succ, i64_w, i32_w]
                            rfl
                          refine pure_ (i := 2) (N := some 113) (v := ?_) (a' := ?_) #[true, true, true, false, false, false, false, false, false, false, false, false] rfl rfl (any_of HT_.out (by kernel_rfl)) (fun _ _ _ h => h) (Or.inl ⟨by rfl, ?_⟩) ?_ ?_
                          rotate_left
                          · intro w'
                            go_simp
                            with_reducible rfl
                          rotate_left
                          · simp only [Act.put, List.setIfInBounds_toArray, List.set_cons_zero, List.set_cons_succ, i64_w, i32_w]
                            rfl
                          refine pure_ (i := 3) (N := some 114) (v := undef) (a' := ?_) #[true, true, true, true, false, false, false, false, false, false, false, false] rfl rfl (any_of HT_.out (by kernel_rfl)) (fun _ _ _ h => h) (Or.inr ⟨by rfl, rfl⟩) ?_ ?_
                          rotate_left
                          · simp only [Act.put, List.setIfInBounds_toArray, List.set_cons_zero, List.set_cons_succ, i64_w, i32_w]
                            rfl
                          refine pure_ (i := 4) (N := some 115) (v := undef) (a' := ?_) #[true, true, true, true, true, false, false, false, false, false, false, false] rfl rfl (any_of HT_.out (by kernel_rfl)) (fun _ _ _ h => h) (Or.inr ⟨by rfl, rfl⟩) ?_ ?_
                          rotate_left
                          · simp only [Act.put, List.setIfInBounds_toArray, List.set_cons_zero, List.set_cons_succ, i64_w, i32_w]
                            rfl
                          refine pure_ (i := 5) (N := some 116) (v := undef) (a' := ?_) #[true, true, true, true, true, true, false, false, false, false, false, false] rfl rfl (any_of HT_.out (by kernel_rfl)) (fun _ _ _ h => h) (Or.inr ⟨by rfl, rfl⟩) ?_ ?_
                          rotate_left
                          · simp only [Act.put, List.setIfInBounds_toArray, List.set_cons_zero, List.set_cons_succ, i64_w, i32_w]
                            rfl
                          refine pure_ (i := 6) (N := some 117) (v := undef) (a' := ?_) #[true, true, true, true, true, true, true, false, false, false, false, false] rfl rfl (any_of HT_.out (by kernel_rfl)) (fun _ _ _ h => h) (Or.inr ⟨by rfl, rfl⟩) ?_ ?_
                          rotate_left
                          · simp only [Act.put, List.setIfInBounds_toArray, List.set_cons_zero, List.set_cons_succ, i64_w, i32_w]
                            rfl
                          refine pure_ (i := 7) (N := some 118) (v := undef) (a' := ?_) #[true, true, true, true, true, true, true, true, false, false, false, false] rfl rfl (any_of HT_.out (by kernel_rfl)) (fun _ _ _ h => h) (Or.inr ⟨by rfl, rfl⟩) ?_ ?_
                          rotate_left
                          · simp only [Act.put, List.setIfInBounds_toArray, List.set_cons_zero, List.set_cons_succ, i64_w, i32_w]
                            rfl
                          refine pure_ (i := 8) (N := some 119) (v := undef) (a' := ?_) #[true, true, true, true, true, true, true, true, true, false, false, false] rfl rfl (any_of HT_.out (by kernel_rfl)) (fun _ _ _ h => h) (Or.inr ⟨by rfl, rfl⟩) ?_ ?_
                          rotate_left
                          · simp only [Act.put, List.setIfInBounds_toArray, List.set_cons_zero, List.set_cons_succ, i64_w, i32_w]
                            rfl
                          refine pure_ (i := 9) (N := some 120) (v := undef) (a' := ?_) #[true, true, true, true, true, true, true, true, true, true, false, false] rfl rfl (any_of HT_.out (by kernel_rfl)) (fun _ _ _ h => h) (Or.inr ⟨by rfl, rfl⟩) ?_ ?_
                          rotate_left
                          · simp only [Act.put, List.setIfInBounds_toArray, List.set_cons_zero, List.set_cons_succ, i64_w, i32_w]
                            rfl
                          refine pure_ (i := 10) (N := some 121) (v := undef) (a' := ?_) #[true, true, true, true, true, true, true, true, true, true, true, false] rfl rfl (any_of HT_.out (by kernel_rfl)) (fun _ _ _ h => h) (Or.inr ⟨by rfl, rfl⟩) ?_ ?_
                          rotate_left
                          · simp only [Act.put, List.setIfInBounds_toArray, List.set_cons_zero, List.set_cons_succ, i64_w, i32_w]
                            rfl
                          refine pure_ (i := 11) (N := some 122) (v := ?_) (a' := ?_) #[true, true, true, true, true, true, true, true, true, true, true, true] rfl rfl (any_of HT_.out (by kernel_rfl)) (fun _ _ _ h => h) (Or.inl ⟨by rfl, ?_⟩) ?_ ?_
                          rotate_left
                          · intro w'
                            go_simp
                            with_reducible rfl
                          rotate_left
                          · simp only [Act.put, List.setIfInBounds_toArray, List.set_cons_zero, List.set_cons_succ, i64_w, i32_w]
                            rfl
                          refine done_ (done_of HT_.out (by kernel_rfl)) ?_
                          try go_wp2
                          go_meet
                          case rel => exact ⟨_, (false), (by first | rfl | (simp; done) | (simp [*]; done)), H', ⟨by have := HJ12.out; have := HJ59.out; first | omega | exact Nat.le_refl _⟩, ⟨by repeat (first | (with_reducible first | exact HB.out | apply below_alloc | apply pw_below_drewN | apply below_drew1) | exact HB.out)⟩⟩
                      case rest =>
                        clear HC89
                        try clear c1
                        try clear c2
                        try clear p2
                        try clear hcv2
                        try clear hcw2
                        try clear c3
                        try clear hcv3
                        try clear hcw3
                        try clear hcv4
                        try clear hcw4
                        try clear c5
                        try clear hcv5
                        try clear hcw5
                        try clear c6
                        try clear hcv7
                        try clear hcw7
                        try clear c8
                        try clear hcv8
                        try clear hcw8
                        try clear c9
                        try clear hcv9
                        try clear c11
                        try clear c12
                        try clear c17
                        try clear c19
                        try clear c21
                        try clear c23
                        try clear c23b0
                        try clear c23b1
                        try clear c24
                        try clear c24b0
                        try clear c24b1
                        try clear c25
                        try clear c25b0
                        try clear c25b1
                        try clear c26
                        try clear c26b0
                        try clear c26b1
                        try clear c27
                        try clear c27b0
                        try clear c27b1
                        try clear c28
                        try clear hcv28
                        try clear hcw29
                        try clear c30
                        try clear hcv30
                        try clear hcw31
                        try clear hcv32
                        try clear hcw33
                        try clear hcv34
                        try clear hcw35
                        try clear hcv36
                        try clear hcw37
                        try clear hcv38
                        try clear hcw39
                        try clear hcv40
                        try clear hcw41
                        try clear hcv42
                        try clear hcw43
                        try clear hcv44
                        try clear hcw45
                        try clear hcv46
                        try clear hcw47
                        try clear hcv48
                        try clear hcw49
                        try clear hcv50
                        try clear hcw51
                        try clear hcv52
                        try clear hcw53
                        try clear hcv54
                        try clear hcw55
                        try clear c56
                        try clear c58
                        try clear c65
                        try clear c65b0
                        try clear c65b1
                        try clear c66
                        try clear c66b0
                        try clear c66b1
                        try clear c67
                        try clear c67b0
                        try clear c67b1
                        try clear c68
                        try clear c68b0
                        try clear c68b1
                        try clear c69
                        try clear c69b0
                        try clear c69b1
                        try clear hcv70
                        try clear hcw71
                        try clear hcv72
                        try clear hcw73
                        try clear hcv74
                        try clear hcw75
                        try clear hcv76
                        try clear hcw77
                        try clear hcv78
                        try clear hcw79
                        try clear hcv80
                        try clear hcw81
                        try clear hcv82
                        try clear hcw83
                        try clear hcv84
                        try clear hcw85
                        try clear c86
                        try clear c86b0
                        try clear c86b1
                        try clear c87
                        try clear c91
                        try clear c91b0
                        try clear c91b1
                        try clear c93
                        try clear hcv98
                        try clear p2
                        obtain ⟨kq, x122_88, rfl, HA, HJ88, HB⟩ := hcut
                        cases kq with
                        | zero => exact absurd HA.out (by simp [ladinglaw03_CodecBack.j2])
                        | succ kj88 =>
                          have H := HA.out
                          clear HA
                          simp only [ladinglaw03_CodecBack.j2] at H
                          by_cases c101 : x122_88 = true
                          · subst c101
                            have H1 : (some false) = some r := by rw [if_pos rfl] at H; exact H
                            clear H
                            have H := H1
                            clear H1
                            obtain rfl := Option.some.inj H
                            go_wp2
                            go_ret
                            exact ⟨by first | rfl | (simp [errW_none, errW_some] <;> rfl) | (simp [*, errW_none, errW_some] <;> rfl), by repeat (first | (with_reducible first | exact HB.out | apply below_alloc | apply pw_below_drewN | apply below_drew1) | exact HB.out)⟩
                          · replace c101 := Bool.eq_false_iff.mpr c101
                            subst c101
                            have H1 : ((codec_ReadText.f kj88 l0).bind fun bt485 => (if bt485.2.2 = 0 then ((codec_Text.f kj88 ([] : List Int) bt485.1).bind fun t490 => (if t490.length + bt485.2.1.length < 140737488355328 then (some ((strOfNums (t490 ++ bt485.2.1)).toList == (strOfNums l0).toList)) else (none))) else (some true))) = some r := by rw [if_neg (show ¬ (false = true) by decide)] at H; exact H
                            clear H
                            have H := H1
                            clear H1
                            replace H := Option.bind_eq_some_iff.mp H
                            obtain ⟨⟨t485, t486, t487⟩, A1020, H⟩ := H
                            replace H : (if t487 = 0 then ((codec_Text.f kj88 ([] : List Int) t485).bind fun t490 => (if t490.length + t486.length < 140737488355328 then (some ((strOfNums (t490 ++ t486)).toList == (strOfNums l0).toList)) else (none))) else (some true)) = some r := H
                            have A102 := Aside0.mk A1020
                            clear A1020
                            by_cases c103 : t487 = 0
                            · rw [if_pos c103] at H
                              have c103b0 : (t487 == 0) = true := beq_iff_eq.mpr c103
                              have c103b1 : (t487 != 0) = false := bne_eq_false_iff_eq.mpr c103
                              clear c103
                              replace H := Option.bind_eq_some_iff.mp H
                              obtain ⟨t490, A1040, H⟩ := H
                              replace H : (if t490.length + t486.length < 140737488355328 then (some ((strOfNums (t490 ++ t486)).toList == (strOfNums l0).toList)) else (none)) = some r := H
                              have A104 := Aside0.mk A1040
                              clear A1040
                              by_cases c105 : t490.length + t486.length < 140737488355328
                              · rw [if_pos c105] at H
                                have LMc105 := Aside0.mk c105
                                clear c105
                                obtain ⟨y493, hy493⟩ : ∃ y_ : List Int, y_ = (t490 ++ t486) := ⟨_, rfl⟩
                                replace H : (some ((strOfNums y493).toList == (strOfNums l0).toList)) = some r := by first | (rw [hy493]; with_reducible exact H) | (have H2_ := (Option.bind_some _ _).symm.trans H; rw [hy493]; with_reducible exact H2_) | (have H2_ := (Option.bind_some _ _).symm.trans H; with_reducible exact H2_) | with_reducible exact H | (rw [hy493]; exact H) | exact H
                                have Ny493 := Aside0.mk hy493
                                clear hy493
                                obtain rfl := Option.some.inj H
                                try go_wp2_with (first | ((with_reducible refine gate_callee (f := 30) rfl ?_); refine goesL_ (some 125) rfl rfl Tryd.func30 (by kernel_rfl) rfl #[.slice A0 l0.length c0] rfl (by (try simp only [List.map_toArray, List.map_cons, List.map_nil]); first | done | rfl | (simp only [List.length_drop, List.length_take]; rfl)) ?_; (with_reducible refine (codec_ReadText.calls kj88 _ _ l0 t485 t486 t487 _ ?side1 ?side2 A102.out).mono ?_); (case side1 => repeat (first | exact (Kd.C_below HR0.out HB.out) | (with_reducible refine Kd.C_alloc ?_ _) | (with_reducible refine Kd.C_drewN ?_ _) | (with_reducible refine Kd.C_drew ?_))); (case side2 => exact HC0.out); rintro e w106 ⟨v488, rfl, ho0, hb⟩; refine ⟨_, rfl, ?_⟩; have n0_ := Aside0.mk (Kd.R_lower ho0 (below_size (by repeat (first | (with_reducible first | exact HB.out | apply below_alloc | apply pw_below_drewN | apply below_drew1) | exact HB.out)))); have n1_ := Aside0.mk (below_step (by repeat (first | (with_reducible first | exact HB.out | apply below_alloc | apply pw_below_drewN | apply below_drew1) | exact HB.out)) hb); clear HB; have HO489 := n0_; have HB := n1_; clear n0_ n1_; (try clear hb); (try clear hb2); (try clear hk); (try clear hi); (try clear ho0); obtain ⟨Ao107, co107, eo107⟩ := Kd.R_slice HO489.out; subst eo107))
                                have n0_ := Aside0.mk (Kd.R_drew HO489.out)
                                have n1_ := Aside0.mk (below_drew1 HB.out)
                                clear HO489
                                clear HB
                                have HO489 := n0_
                                have HB := n1_
                                clear n0_ n1_
                                refine start_ (n := 13) (S := fun w' => (convert 24 9 (.slice A0 l0.length c0)).run Tryd.prog w' = .ok (.string (strOfNums l0)) w') (ds := []) #[false, false, false, false, false, false, false, false, false, false, false, false, false] (by kernel_rfl) rfl rfl ((Kd.C_string (P := Tryd.prog) (A := A0) (c := c0) Tryd.underlying24 Tryd.underlying5 Tryd.underlying9 (Kd.C_below HR0.out HB.out))) (fun hHeld => ?_); refine with_tabW ladinglaw03_CodecBack.tab14 ladinglaw03_CodecBack.bits14 (fun HT_ HW_ => ?_)
                                generalize w106.drew = w108 at HO489 HB hHeld ⊢
                                refine pure_ (i := 0) (N := some 129) (v := ?_) (a' := ?_) #[true, false, false, false, false, false, false, false, false, false, false, false, false] rfl rfl (any_of HT_.out (by kernel_rfl)) (fun _ _ _ h => h) (Or.inl ⟨by rfl, ?_⟩) ?_ ?_
                                rotate_left
                                · intro w'
                                  go_simp
                                  with_reducible rfl
                                rotate_left
                                · simp only [Act.put, List.setIfInBounds_toArray, List.set_cons_zero, List.set_cons_succ, i64_w, i32_w]
                                  rfl
                                refine pure_ (i := 1) (N := some 130) (v := ?_) (a' := ?_) #[true, true, false, false, false, false, false, false, false, false, false, false, false] rfl rfl (any_of HT_.out (by kernel_rfl)) (fun _ _ _ h => h) (Or.inl ⟨by rfl, ?_⟩) ?_ ?_
                                rotate_left
                                · intro w'
                                  go_simp
                                  with_reducible rfl
                                rotate_left
                                · simp only [Act.put, List.setIfInBounds_toArray, List.set_cons_zero, List.set_cons_succ, i64_w, i32_w]
                                  rfl
                                refine pure_ (i := 2) (N := some 131) (v := ?_) (a' := ?_) #[true, true, true, false, false, false, false, false, false, false, false, false, false] rfl rfl (any_of HT_.out (by kernel_rfl)) (fun _ _ _ h => h) (Or.inl ⟨by rfl, ?_⟩) ?_ ?_
                                rotate_left
                                · intro w'
                                  go_simp
                                  with_reducible rfl
                                rotate_left
                                · simp only [Act.put, List.setIfInBounds_toArray, List.set_cons_zero, List.set_cons_succ, i64_w, i32_w]
                                  rfl
                                refine pure_ (i := 3) (N := some 132) (v := ?_) (a' := ?_) #[true, true, true, true, false, false, false, false, false, false, false, false, false] rfl rfl (any_of HT_.out (by kernel_rfl)) (fun _ _ _ h => h) (Or.inl ⟨by rfl, ?_⟩) ?_ ?_
                                rotate_left
                                · intro w'
                                  go_simp
                                  with_reducible rfl
                                rotate_left
                                · simp only [Act.put, List.setIfInBounds_toArray, List.set_cons_zero, List.set_cons_succ, i64_w, i32_w]
                                  rfl
                                refine pure_ (i := 5) (N := some 134) (v := ?_) (a' := ?_) #[true, true, true, true, false, true, false, false, false, false, false, false, false] rfl rfl (any_of HT_.out (by kernel_rfl)) (fun _ _ _ h => h) (Or.inl ⟨by rfl, ?_⟩) ?_ ?_
                                rotate_left
                                · intro w'
                                  go_simp
                                  with_reducible rfl
                                rotate_left
                                · simp only [Act.put, List.setIfInBounds_toArray, List.set_cons_zero, List.set_cons_succ, i64_w, i32_w]
                                  rfl
                                refine pure_ (i := 8) (N := some 137) (v := ?_) (a' := ?_) #[true, true, true, true, false, true, false, false, true, false, false, false, false] rfl rfl (any_of HT_.out (by kernel_rfl)) (fun _ _ _ h => h) (Or.inl ⟨by rfl, ?_⟩) ?_ ?_
                                rotate_left
                                · intro w'
                                  go_simp
                                  with_reducible rfl
                                rotate_left
                                · simp only [Act.put, List.setIfInBounds_toArray, List.set_cons_zero, List.set_cons_succ, i64_w, i32_w]
                                  rfl
                                refine take_ (i := 9) (N := some 138) (v := ?_) (a' := ?_) #[true, true, true, true, false, true, false, false, true, true, false, false, false] rfl rfl (take_ofW HT_.out HW_.out (by kernel_rfl)) (fun _ _ _ h => h) (Or.inl ⟨by rfl, ?_⟩) hHeld ?_ ?_
                                rotate_left
                                · intro w' s0
                                  go_simp
                                  with_reducible rfl
                                rotate_left
                                · simp only [Act.put, List.setIfInBounds_toArray, List.set_cons_zero, List.set_cons_succ, i64_w, i32_w]
                                  rfl
                                refine one_ (i := 4) (N := some 133) #[true, true, true, true, true, true, false, false, true, true, false, false, false] rfl rfl (one_of HT_.out (by kernel_rfl)) (by decide) (fun K hK => ?_)
                                refine goes_ Tryd.func21 (by kernel_rfl) rfl #[.slice none 0 0, .string t485] (by rfl) rfl rfl (by (try simp only [List.map_toArray, List.map_cons, List.map_nil]); first | done | rfl | (simp only [List.length_drop, List.length_take]; rfl)) ?_
                                refine (codec_Text.calls kj88 _ _ ([] : List Int) t485 t490 _ ?side1 ?side2 A104.out).mono ?_
                                (case side1 => exact Kd.C_nil _ _)
                                (case side2 => exact Nat.le_refl _)
                                rintro e w109 ⟨v491, rfl, ho0, hb⟩
                                refine ⟨_, rfl, ?_⟩
                                have n0_ := Aside0.mk (Kd.R_elder' (by (with_reducible repeat (first | apply Kd.R_alloc | apply Kd.R_drewN | apply Kd.R_drew)); exact HO489.out) (Kd.R_base ho0) hb)
                                have n1_ := Aside0.mk (Kd.R_lower (Kd.R_new' ho0 (Kd.R_lt (by (with_reducible repeat (first | apply Kd.R_alloc | apply Kd.R_drewN | apply Kd.R_drew)); exact HO489.out))) (below_size (by repeat (first | (with_reducible first | exact HB.out | apply below_alloc | apply pw_below_drewN | apply below_drew1) | exact HB.out))))
                                have n2_ := Aside0.mk (below_step (by repeat (first | (with_reducible first | exact HB.out | apply below_alloc | apply pw_below_drewN | apply below_drew1) | exact HB.out)) hb)
                                clear HO489
                                clear HB
                                have HO489 := n0_
                                have HO492 := n1_
                                have HB := n2_
                                clear n0_ n1_ n2_
                                (try clear hb)
                                (try clear hb2)
                                (try clear hk)
                                (try clear hi)
                                (try clear ho0)
                                refine hK.out _ _ ((Kd.C_string (P := Tryd.prog) (A := A0) (c := c0) Tryd.underlying24 Tryd.underlying5 Tryd.underlying9 (Kd.C_below HR0.out HB.out))) (fun hHeld => ?_)
                                clear hK K
                                refine norm_ (a' := ?_) ?_ ?_
                                rotate_left
                                · show Act.put _ (some 133) _ = _
                                  simp only [Act.put, List.setIfInBounds_toArray, List.set_cons_zero, List.set_cons_succ, i64_w, i32_w]
                                  rfl
                                refine one_ (i := 6) (N := some 135) #[true, true, true, true, true, true, true, false, true, true, false, false, false] rfl rfl (one_of HT_.out (by kernel_rfl)) (by decide) (fun K hK => ?_)
                                refine Kd.R_append_rows_step (Kd.int .u8) (w0 := w) w.heap.size (by rfl) (.tmp 133) (.tmp 134) 24 5 (.int .u8 0) 1 rfl Tryd.underlying24 info5 rfl (by decide) (by omega) v491 t490 t486 _ _ _ (fun k_ => some k_ ≠ (.slice Ao107 t486.length co107 : Value).ownBlock) (fun _ => False) rfl rfl ?aO ?aR (fun _ _ h => h) (fun _ h => h.elim) ?aF ?aB ?aS ?aL ?_
                                (case aR => repeat (first | exact (Kd.R_reads' HO489.out).2.2 | (with_reducible refine Kd.C_alloc ?_ _) | (with_reducible refine Kd.C_drewN ?_ _) | (with_reducible refine Kd.C_drew ?_)))
                                (case aB => exact (by repeat (first | (with_reducible first | exact HB.out | apply below_alloc | apply pw_below_drewN | apply below_drew1) | exact HB.out)))
                                (case aF => exact (fun k_ hk => Kd.fresh' (Kd.R_lt (by (with_reducible repeat (first | apply Kd.R_alloc | apply Kd.R_drewN | apply Kd.R_drew)); exact HO489.out)) k_ hk))
                                (case aO => exact (by (with_reducible repeat (first | apply Kd.R_alloc | apply Kd.R_drewN | apply Kd.R_drew)); exact Kd.R_mono HO492.out (fun _ hk => hk.2)))
                                (case aS => exact (below_size (by repeat (first | (with_reducible first | exact HB.out | apply below_alloc | apply pw_below_drewN | apply below_drew1) | exact HB.out))))
                                (case aL => have := LMc105.out; omega)
                                intro v494 w110 ho hb hg hat
                                rw [← Ny493.out] at ho
                                have n0_ := Aside0.mk (Kd.R_after (ok := (fun _ => True)) (by (with_reducible repeat (first | apply Kd.R_alloc | apply Kd.R_drewN | apply Kd.R_drew)); exact HO489.out) hg hat)
                                have n1_ := Aside0.mk (hb)
                                have n2_ := Aside0.mk (ho)
                                clear HO489
                                clear HB
                                clear HO492
                                have HO489 := n0_
                                have HB := n1_
                                have HO495 := n2_
                                clear n0_ n1_ n2_
                                clear ho hb hg hat
                                refine hK.out _ _ ((Kd.C_string (P := Tryd.prog) (A := A0) (c := c0) Tryd.underlying24 Tryd.underlying5 Tryd.underlying9 (Kd.C_below HR0.out HB.out))) (fun hHeld => ?_)
                                clear hK K
                                refine norm_ (a' := ?_) ?_ ?_
                                rotate_left
                                · show Act.put _ (some 135) _ = _
                                  simp only [Act.put, List.setIfInBounds_toArray, List.set_cons_zero, List.set_cons_succ, i64_w, i32_w]
                                  rfl
                                refine one_ (i := 7) (N := some 136) #[true, true, true, true, true, true, true, true, true, true, false, false, false] rfl rfl (one_of HT_.out (by kernel_rfl)) (by decide) (fun K hK => ?_)
                                have hcv111 := own_string (P := Tryd.prog) Tryd.underlying24 Tryd.underlying5 Tryd.underlying9 (Kd.own_of_R HO495.out)
                                refine value_ (w1 := ?_) (v := ?_) (by rfl) rfl ?_ ?_
                                rotate_left 2
                                · go_simp
                                  constructor
                                  · rfl
                                  · rfl
                                clear hcv111
                                refine hK.out _ _ ((Kd.C_string (P := Tryd.prog) (A := A0) (c := c0) Tryd.underlying24 Tryd.underlying5 Tryd.underlying9 (Kd.C_below HR0.out HB.out))) (fun hHeld => ?_)
                                clear hK K
                                refine norm_ (a' := ?_) ?_ ?_
                                rotate_left
                                · show Act.put _ (some 136) _ = _
                                  simp only [Act.put, List.setIfInBounds_toArray, List.set_cons_zero, List.set_cons_succ, i64_w, i32_w]
                                  rfl
                                refine pure_ (i := 10) (N := some 139) (v := ?_) (a' := ?_) #[true, true, true, true, true, true, true, true, true, true, true, false, false] rfl rfl (any_of HT_.out (by kernel_rfl)) (fun _ _ _ h => h) (Or.inl ⟨by rfl, ?_⟩) ?_ ?_
                                rotate_left
                                · intro w'
                                  go_simp
                                  with_reducible rfl
                                rotate_left
                                · simp only [Act.put, List.setIfInBounds_toArray, List.set_cons_zero, List.set_cons_succ, i64_w, i32_w]
                                  rfl
                                refine pure_ (i := 11) (N := some 140) (v := ?_) (a' := ?_) #[true, true, true, true, true, true, true, true, true, true, true, true, false] rfl rfl (any_of HT_.out (by kernel_rfl)) (fun _ _ _ h => h) (Or.inl ⟨by rfl, ?_⟩) ?_ ?_
                                rotate_left
                                · intro w'
                                  go_simp
                                  with_reducible rfl
                                rotate_left
                                · simp only [Act.put, List.setIfInBounds_toArray, List.set_cons_zero, List.set_cons_succ, i64_w, i32_w]
                                  rfl
                                refine pure_ (i := 12) (N := some 8) (v := ?_) (a' := ?_) #[true, true, true, true, true, true, true, true, true, true, true, true, true] rfl rfl (any_of HT_.out (by kernel_rfl)) (fun _ _ _ h => h) (Or.inl ⟨by rfl, ?_⟩) ?_ ?_
                                rotate_left
                                · intro w'
                                  go_simp
                                  with_reducible rfl
                                rotate_left
                                · simp only [Act.put, List.setIfInBounds_toArray, List.set_cons_zero, List.set_cons_succ, i64_w, i32_w]
                                  rfl
                                refine done_ (done_of HT_.out (by kernel_rfl)) ?_
                                try go_wp2
                                go_ret
                                exact ⟨by first | rfl | (simp [errW_none, errW_some] <;> rfl) | (simp [*, errW_none, errW_some] <;> rfl), by repeat (first | (with_reducible first | exact HB.out | apply below_alloc | apply pw_below_drewN | apply below_drew1) | exact HB.out)⟩
                              · rw [if_neg c105] at H
                                exact absurd H (by simp)
                            · rw [if_neg c103] at H
                              have c103b0 : (t487 == 0) = false := beq_eq_false_iff_ne.mpr c103
                              have c103b1 : (t487 != 0) = true := bne_iff_ne.mpr c103
                              obtain rfl := Option.some.inj H
                              try go_wp2_with (first | ((with_reducible refine gate_callee (f := 30) rfl ?_); refine goesL_ (some 125) rfl rfl Tryd.func30 (by kernel_rfl) rfl #[.slice A0 l0.length c0] rfl (by (try simp only [List.map_toArray, List.map_cons, List.map_nil]); first | done | rfl | (simp only [List.length_drop, List.length_take]; rfl)) ?_; (with_reducible refine (codec_ReadText.calls kj88 _ _ l0 t485 t486 t487 _ ?side1 ?side2 A102.out).mono ?_); (case side1 => repeat (first | exact (Kd.C_below HR0.out HB.out) | (with_reducible refine Kd.C_alloc ?_ _) | (with_reducible refine Kd.C_drewN ?_ _) | (with_reducible refine Kd.C_drew ?_))); (case side2 => exact HC0.out); rintro e w113 ⟨v488, rfl, ho0, hb⟩; refine ⟨_, rfl, ?_⟩; have n0_ := Aside0.mk (Kd.R_lower ho0 (below_size (by repeat (first | (with_reducible first | exact HB.out | apply below_alloc | apply pw_below_drewN | apply below_drew1) | exact HB.out)))); have n1_ := Aside0.mk (below_step (by repeat (first | (with_reducible first | exact HB.out | apply below_alloc | apply pw_below_drewN | apply below_drew1) | exact HB.out)) hb); clear HB; have HO489 := n0_; have HB := n1_; clear n0_ n1_; (try clear hb); (try clear hb2); (try clear hk); (try clear hi); (try clear ho0)))
                              have n0_ := Aside0.mk (Kd.R_drew HO489.out)
                              have n1_ := Aside0.mk (below_drew1 HB.out)
                              clear HO489
                              clear HB
                              have HO489 := n0_
                              have HB := n1_
                              clear n0_ n1_
                              refine start_ (n := 13) (S := fun w' => True) (ds := []) #[false, false, false, false, false, false, false, false, false, false, false, false, false] (by kernel_rfl) rfl rfl trivial (fun hHeld => ?_); refine with_tabW ladinglaw03_CodecBack.tab14 ladinglaw03_CodecBack.bits14 (fun HT_ HW_ => ?_)
                              generalize w113.drew = w114 at HO489 HB hHeld ⊢
                              refine pure_ (i := 0) (N := some 129) (v := ?_) (a' := ?_) #[true, false, false, false, false, false, false, false, false, false, false, false, false] rfl rfl (any_of HT_.out (by kernel_rfl)) (fun _ _ _ h => h) (Or.inl ⟨by rfl, ?_⟩) ?_ ?_
                              rotate_left
                              · intro w'
                                go_simp
                                with_reducible rfl
                              rotate_left
                              · simp only [Act.put, List.setIfInBounds_toArray, List.set_cons_zero, List.set_cons_succ, i64_w, i32_w]
                                rfl
                              refine pure_ (i := 1) (N := some 130) (v := ?_) (a' := ?_) #[true, true, false, false, false, false, false, false, false, false, false, false, false] rfl rfl (any_of HT_.out (by kernel_rfl)) (fun _ _ _ h => h) (Or.inl ⟨by rfl, ?_⟩) ?_ ?_
                              rotate_left
                              · intro w'
                                go_simp
                                with_reducible rfl
                              rotate_left
                              · simp only [Act.put, List.setIfInBounds_toArray, List.set_cons_zero, List.set_cons_succ, i64_w, i32_w]
                                rfl
                              refine pure_ (i := 2) (N := some 131) (v := ?_) (a' := ?_) #[true, true, true, false, false, false, false, false, false, false, false, false, false] rfl rfl (any_of HT_.out (by kernel_rfl)) (fun _ _ _ h => h) (Or.inl ⟨by rfl, ?_⟩) ?_ ?_
                              rotate_left
                              · intro w'
                                go_simp
                                with_reducible rfl
                              rotate_left
                              · simp only [Act.put, List.setIfInBounds_toArray, List.set_cons_zero, List.set_cons_succ, i64_w, i32_w]
                                rfl
                              refine pure_ (i := 3) (N := some 132) (v := undef) (a' := ?_) #[true, true, true, true, false, false, false, false, false, false, false, false, false] rfl rfl (any_of HT_.out (by kernel_rfl)) (fun _ _ _ h => h) (Or.inr ⟨by rfl, rfl⟩) ?_ ?_
                              rotate_left
                              · simp only [Act.put, List.setIfInBounds_toArray, List.set_cons_zero, List.set_cons_succ, i64_w, i32_w]
                                rfl
                              refine pure_ (i := 4) (N := some 133) (v := undef) (a' := ?_) #[true, true, true, true, true, false, false, false, false, false, false, false, false] rfl rfl (any_of HT_.out (by kernel_rfl)) (fun _ _ _ h => h) (Or.inr ⟨by rfl, rfl⟩) ?_ ?_
                              rotate_left
                              · simp only [Act.put, List.setIfInBounds_toArray, List.set_cons_zero, List.set_cons_succ, i64_w, i32_w]
                                rfl
                              refine pure_ (i := 5) (N := some 134) (v := undef) (a' := ?_) #[true, true, true, true, true, true, false, false, false, false, false, false, false] rfl rfl (any_of HT_.out (by kernel_rfl)) (fun _ _ _ h => h) (Or.inr ⟨by rfl, rfl⟩) ?_ ?_
                              rotate_left
                              · simp only [Act.put, List.setIfInBounds_toArray, List.set_cons_zero, List.set_cons_succ, i64_w, i32_w]
                                rfl
                              refine pure_ (i := 6) (N := some 135) (v := undef) (a' := ?_) #[true, true, true, true, true, true, true, false, false, false, false, false, false] rfl rfl (any_of HT_.out (by kernel_rfl)) (fun _ _ _ h => h) (Or.inr ⟨by rfl, rfl⟩) ?_ ?_
                              rotate_left
                              · simp only [Act.put, List.setIfInBounds_toArray, List.set_cons_zero, List.set_cons_succ, i64_w, i32_w]
                                rfl
                              refine pure_ (i := 7) (N := some 136) (v := undef) (a' := ?_) #[true, true, true, true, true, true, true, true, false, false, false, false, false] rfl rfl (any_of HT_.out (by kernel_rfl)) (fun _ _ _ h => h) (Or.inr ⟨by rfl, rfl⟩) ?_ ?_
                              rotate_left
                              · simp only [Act.put, List.setIfInBounds_toArray, List.set_cons_zero, List.set_cons_succ, i64_w, i32_w]
                                rfl
                              refine pure_ (i := 8) (N := some 137) (v := undef) (a' := ?_) #[true, true, true, true, true, true, true, true, true, false, false, false, false] rfl rfl (any_of HT_.out (by kernel_rfl)) (fun _ _ _ h => h) (Or.inr ⟨by rfl, rfl⟩) ?_ ?_
                              rotate_left
                              · simp only [Act.put, List.setIfInBounds_toArray, List.set_cons_zero, List.set_cons_succ, i64_w, i32_w]
                                rfl
                              refine pure_ (i := 9) (N := some 138) (v := undef) (a' := ?_) #[true, true, true, true, true, true, true, true, true, true, false, false, false] rfl rfl (any_of HT_.out (by kernel_rfl)) (fun _ _ _ h => h) (Or.inr ⟨by rfl, rfl⟩) ?_ ?_
                              rotate_left
                              · simp only [Act.put, List.setIfInBounds_toArray, List.set_cons_zero, List.set_cons_succ, i64_w, i32_w]
                                rfl
                              refine pure_ (i := 10) (N := some 139) (v := undef) (a' := ?_) #[true, true, true, true, true, true, true, true, true, true, true, false, false] rfl rfl (any_of HT_.out (by kernel_rfl)) (fun _ _ _ h => h) (Or.inr ⟨by rfl, rfl⟩) ?_ ?_
                              rotate_left
                              · simp only [Act.put, List.setIfInBounds_toArray, List.set_cons_zero, List.set_cons_succ, i64_w, i32_w]
                                rfl
                              refine pure_ (i := 11) (N := some 140) (v := ?_) (a' := ?_) #[true, true, true, true, true, true, true, true, true, true, true, true, false] rfl rfl (any_of HT_.out (by kernel_rfl)) (fun _ _ _ h => h) (Or.inl ⟨by rfl, ?_⟩) ?_ ?_
                              rotate_left
                              · intro w'
                                go_simp
                                with_reducible rfl
                              rotate_left
                              · simp only [Act.put, List.setIfInBounds_toArray, List.set_cons_zero, List.set_cons_succ, i64_w, i32_w]
                                rfl
                              refine pure_ (i := 12) (N := some 8) (v := ?_) (a' := ?_) #[true, true, true, true, true, true, true, true, true, true, true, true, true] rfl rfl (any_of HT_.out (by kernel_rfl)) (fun _ _ _ h => h) (Or.inl ⟨by rfl, ?_⟩) ?_ ?_
                              rotate_left
                              · intro w'
                                go_simp
                                with_reducible rfl
                              rotate_left
                              · simp only [Act.put, List.setIfInBounds_toArray, List.set_cons_zero, List.set_cons_succ, i64_w, i32_w]
                                rfl
                              refine done_ (done_of HT_.out (by kernel_rfl)) ?_
                              try go_wp2
                              go_ret
                              exact ⟨by first | rfl | (simp [errW_none, errW_some] <;> rfl) | (simp [*, errW_none, errW_some] <;> rfl), by repeat (first | (with_reducible first | exact HB.out | apply below_alloc | apply pw_below_drewN | apply below_drew1) | exact HB.out)⟩
              · rw [if_neg c58] at H
                exact absurd H (by simp)
      · rw [if_neg c11] at H
        exact absurd H (by simp)
    · rw [if_neg c8] at H
      exact absurd H (by simp)
  · replace c6 := Bool.eq_false_iff.mpr c6
    subst c6
    have H1 : (some false) = some r := by rw [if_neg (show ¬ (false = true) by decide)] at H; exact H
    clear H
    have H := H1
    clear H1
    obtain rfl := Option.some.inj H
    go_enter Tryd.func8, Tryd.ntmps8
    go_wp2_with (first | ((with_reducible refine gate_callee (f := 12) rfl ?_); refine goesL_ (some 18) rfl rfl Tryd.func12 (by kernel_rfl) rfl #[] rfl (by (try simp only [List.map_toArray, List.map_cons, List.map_nil]); first | done | rfl | (simp only [List.length_drop, List.length_take]; rfl)) ?_; (with_reducible refine (ladinglaw03_lives.calls k  false _ ?side1 A5.out).mono ?_); (case side1 => exact GlobOk.below HG.out (by repeat (first | (with_reducible first | exact HB.out | apply below_alloc | apply pw_below_drewN | apply below_drew1) | exact HB.out))); rintro e w115 ⟨rfl, hb⟩; refine ⟨_, rfl, ?_⟩; have n0_ := Aside0.mk (below_step (by repeat (first | (with_reducible first | exact HB.out | apply below_alloc | apply pw_below_drewN | apply below_drew1) | exact HB.out)) hb); clear HB; have HB := n0_; clear n0_; (try clear hb); (try clear hb2); (try clear hk); (try clear hi)))
    go_ret
    exact ⟨by first | rfl | (simp [errW_none, errW_some] <;> rfl) | (simp [*, errW_none, errW_some] <;> rfl), by repeat (first | (with_reducible first | exact HB.out | apply below_alloc | apply pw_below_drewN | apply below_drew1) | exact HB.out)⟩

end Go.Proofs.YtfpdipnaefomiaaDoor.Print
