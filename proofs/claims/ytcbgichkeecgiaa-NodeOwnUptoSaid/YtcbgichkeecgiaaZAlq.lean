-- What the claim uses alone (wip/slim.py). Lean checks it.
import Derived.Test.YtcbgichkeecgiaaZAb
import Derived.Test.YtcbgichkeecgiaaZAln
import Derived.Test.YtcbgichkeecgiaaZAlp
import Derived.Test.YtcbgichkeecgiaaZAlo
namespace Go.Proofs.Ytcbgichkeecgiaa.Print
open Go.RowKit Go.Proofs.YtcbgichkeecgiaaW.PrintWords Go.Proofs.YtcbgichkeecgiaaW.PrintLast Go.Proofs.YtcbgichkeecgiaaW.PrintMore
attribute [local go_sem] max2_mx min2_mn max_two min_two max_three min_three max_four min_four
set_option linter.unusedVariables false
set_option linter.unusedSimpArgs false
def crc_Seal.f (l0 : List Int) : Option (List Int) := (crc_Of.f l0).bind fun t184 => (if 0 ≤ (wrap64 ((l0.length : Int) + 4)) then (if (wrap64 ((l0.length : Int) + 4) : Int).toNat ≤ 281474976710656 then ((some (([] : List Int) : List Int)).bind fun y185 => (if y185.length + l0.length < 140737488355328 then ((some (y185 ++ l0 : List Int)).bind fun y188 => ((some (([(t184) % 256, (t184 / 256) % 256, (t184 / 65536) % 256, (t184 / 16777216) % 256] : List Int) : List Int)).bind fun y191 => (if y188.length + y191.length < 140737488355328 then (some (y188 ++ y191)) else (none)))) else (none))) else (none)) else (none))
set_option maxHeartbeats 8000000 in
set_option maxRecDepth 100000 in
theorem crc_Seal.calls (A0 : Option Addr) (c0 : Nat) (l0 : List Int) (r : List Int) (w : World) (hr0 : Kd.C (Kd.int .u8) w A0 l0.length l0) (hc0 : l0.length ≤ c0) (h : crc_Seal.f l0 = some r) :
  Calls Try.prog 42 #[.slice A0 l0.length c0] w fun e w' => ∃ v0_ : Value, e = .returned (v0_) ∧ Kd.R (Kd.int .u8) 5 w' w.heap.size (fun _ => True) v0_ r ∧ Below w.heap.size w w' := by
 have HR0 := Aside0.mk hr0
 have HC0 := Aside0.mk hc0
 clear hr0 hc0
 have HB := Aside0.mk (Below.refl w.heap.size w)
 have H : ((crc_Of.f l0).bind fun t184 => (if 0 ≤ (wrap64 ((l0.length : Int) + 4)) then (if (wrap64 ((l0.length : Int) + 4) : Int).toNat ≤ 281474976710656 then ((some (([] : List Int) : List Int)).bind fun y185 => (if y185.length + l0.length < 140737488355328 then ((some (y185 ++ l0 : List Int)).bind fun y188 => ((some (([(t184) % 256, (t184 / 256) % 256, (t184 / 65536) % 256, (t184 / 16777216) % 256] : List Int) : List Int)).bind fun y191 => (if y188.length + y191.length < 140737488355328 then (some (y188 ++ y191)) else (none)))) else (none))) else (none)) else (none))) = some r := h
 clear h
 obtain ⟨t184, A2, H⟩ := zm H
 (try dsimp only at H)
 obtain ⟨ji3, hji3⟩ : ∃ j_ : Int, (wrap64 ((l0.length : Int) + 4)) = j_ := ⟨_, rfl⟩
 replace H : (if 0 ≤ (ji3) then (if (ji3 : Int).toNat ≤ 281474976710656 then ((some (([] : List Int) : List Int)).bind fun y185 => (if y185.length + l0.length < 140737488355328 then ((some (y185 ++ l0 : List Int)).bind fun y188 => ((some (([(t184) % 256, (t184 / 256) % 256, (t184 / 65536) % 256, (t184 / 16777216) % 256] : List Int) : List Int)).bind fun y191 => (if y188.length + y191.length < 140737488355328 then (some (y188 ++ y191)) else (none)))) else (none))) else (none)) else (none)) = some r := by first | (rw [hji3] at H; exact H) | (simp only [hji3] at H ⊢; exact H)
 (try rw [hji3] at A2)
 have hji3w : (IntKind.i64.wrap ((l0.length : Int) + 4)) = ji3 := (i64_w _).trans hji3
 by_cases c4 : 0 ≤ (ji3)
 ·rw [if_pos c4] at H
  have c4b0 := eq_true c4
  have c4b1 : decide (0 ≤ (ji3)) = true := decide_eq_true c4
  clear c4
  by_cases c5 : (ji3 : Int).toNat ≤ 281474976710656
  ·rw [if_pos c5] at H
   have c5b0 := eq_true c5
   have c5b1 : decide ((ji3 : Int).toNat ≤ 281474976710656) = true := decide_eq_true c5
   clear c5
   obtain ⟨y185, hy185⟩ : ∃ y_ : List Int, y_ = (([] : List Int)) := ⟨_, rfl⟩
   replace H : (if y185.length + l0.length < 140737488355328 then ((some (y185 ++ l0 : List Int)).bind fun y188 => ((some (([(t184) % 256, (t184 / 256) % 256, (t184 / 65536) % 256, (t184 / 16777216) % 256] : List Int) : List Int)).bind fun y191 => (if y188.length + y191.length < 140737488355328 then (some (y188 ++ y191)) else (none)))) else (none)) = some r := by first | (rw [hy185]; with_reducible exact H) | (have H2_ := (Option.bind_some _ _).symm.trans H; rw [hy185]; with_reducible exact H2_) | (have H2_ := (Option.bind_some _ _).symm.trans H; with_reducible exact H2_) | with_reducible exact H | (rw [hy185]; exact H) | exact H
   have Ny185 := Aside0.mk hy185
   clear hy185
   by_cases c6 : y185.length + l0.length < 140737488355328
   ·rw [if_pos c6] at H
    have LMc6 := Aside0.mk c6
    clear c6
    obtain ⟨y188, hy188⟩ : ∃ y_ : List Int, y_ = (y185 ++ l0) := ⟨_, rfl⟩
    replace H : ((some (([(t184) % 256, (t184 / 256) % 256, (t184 / 65536) % 256, (t184 / 16777216) % 256] : List Int) : List Int)).bind fun y191 => (if y188.length + y191.length < 140737488355328 then (some (y188 ++ y191)) else (none))) = some r := by first | (rw [hy188]; with_reducible exact H) | (have H2_ := (Option.bind_some _ _).symm.trans H; rw [hy188]; with_reducible exact H2_) | (have H2_ := (Option.bind_some _ _).symm.trans H; with_reducible exact H2_) | with_reducible exact H | (rw [hy188]; exact H) | exact H
    have Ny188 := Aside0.mk hy188
    clear hy188
    obtain ⟨y191, hy191⟩ : ∃ y_ : List Int, y_ = (([(t184) % 256, (t184 / 256) % 256, (t184 / 65536) % 256, (t184 / 16777216) % 256] : List Int)) := ⟨_, rfl⟩
    replace H : (if y188.length + y191.length < 140737488355328 then (some (y188 ++ y191)) else (none)) = some r := by first | (rw [hy191]; with_reducible exact H) | (have H2_ := (Option.bind_some _ _).symm.trans H; rw [hy191]; with_reducible exact H2_) | (have H2_ := (Option.bind_some _ _).symm.trans H; with_reducible exact H2_) | with_reducible exact H | (rw [hy191]; exact H) | exact H
    have Ny191 := Aside0.mk hy191
    clear hy191
    by_cases c7 : y188.length + y191.length < 140737488355328
    ·rw [if_pos c7] at H
     have LMc7 := Aside0.mk c7
     clear c7
     obtain ⟨y194, hy194⟩ : ∃ y_ : List Int, y_ = (y188 ++ y191) := ⟨_, rfl⟩
     replace H : (some y194) = some r := by first | (rw [hy194]; with_reducible exact H) | (have H2_ := (Option.bind_some _ _).symm.trans H; rw [hy194]; with_reducible exact H2_) | (have H2_ := (Option.bind_some _ _).symm.trans H; with_reducible exact H2_) | with_reducible exact H | (rw [hy194]; exact H) | exact H
     have Ny194 := Aside0.mk hy194
     clear hy194
     obtain rfl := Option.some.inj H
     go_enter Try.func42, Try.ntmps42
     go_wp2_with (first | ((with_reducible refine gate_callee (f := 60) rfl ?_); refine goesL_ (some 5) rfl rfl Try.func60 (by kernel_rfl) rfl #[.slice A0 l0.length c0] rfl zl_ ?_; (with_reducible refine (crc_Of.calls _ _ l0 t184 _ ?side1 ?side2 A2.out).mono ?_); (case side1 => repeat (first | exact HR0.out | (with_reducible refine Kd.C_alloc ?_ _) | (with_reducible refine Kd.C_drewN ?_ _) | (with_reducible refine Kd.C_drew ?_))); (case side2 => exact HC0.out); rintro e w8 ⟨rfl, hb⟩; refine ⟨_, rfl, ?_⟩; replace HB := Aside0.mk (below_step (zh0_ HB.out) hb); (try clear hb); (try clear hk)) | ((with_reducible refine gate_dst (N := 9) rfl ?_); refine R_makecap (Kd.int .u8) _ 5 rfl (N := 9) rfl 27 _ _ rfl ji3 rfl rfl Try.underlying27 (.int .u8 0) 1 info5 rfl (by decide) (by omega) (ok := fun _ => True) trivial (of_decide_eq_true za_) (Nat.le_trans (Nat.mul_le_mul_right _ (of_decide_eq_true za_ : (ji3 : Int).toNat ≤ 281474976710656)) (by omega)) (Below.refl _ _) (Nat.le_refl _) ?_; intro v186 w9 ho10 hb hg_ hnew_; clear hg_ hnew_; (first | rw [← Ny185.out] at ho10 | (simp only [Int.reduceToNat] at ho10; rw [← Ny185.out] at ho10)); have HO187 := Aside0.mk (Kd.R_lower ho10 (below_size (zh0_ HB.out))); replace HB := Aside0.mk (below_step (zh0_ HB.out) hb); clear hb ho10) | ((with_reducible refine gate_builtin (b := .append) (xs := #[.tmp 9, .tmp 10]) rfl ?_); at_builtin; refine Kd.R_append_rows (Kd.int .u8) (w0 := w) w.heap.size rfl (.tmp 9) (.tmp 10) 27 5 (.int .u8 0) 1 rfl Try.underlying27 info5 rfl (by decide) (by omega) v186 y185 l0 _ _ _ (fun _ => True) (fun _ => False) rfl rfl ?aO ?aR (fun _ _ h => h) (fun _ h => h.elim) ?aF ?aB ?aS ?aL ?_; (case aR => repeat (first | exact (Kd.C_below HR0.out HB.out) | (with_reducible refine Kd.C_alloc ?_ _) | (with_reducible refine Kd.C_drewN ?_ _) | (with_reducible refine Kd.C_drew ?_))); (case aB => exact (zh0_ HB.out)); (case aF => exact (fun _ _ => trivial)); (case aO => exact (zR_ HO187.out)); (case aS => exact (below_size (zh0_ HB.out))); (case aL => have := LMc6.out; omega); intro v189 w11 ho hb hg hat; rw [← Ny188.out] at ho; replace HB := Aside0.mk (hb); have HO190 := Aside0.mk (ho); clear HO187 ho hb hg hat) | ((with_reducible refine gate_dst (N := 23) rfl ?_); refine Kd.R_lit (Kd.int .u8) _ 5 ?hg (N := 23) ?hd (xs := ([(t184) % 256, (t184 / 256) % 256, (t184 / 65536) % 256, (t184 / 16777216) % 256] : List Int)) (inner := [.int .u8 ((t184) % 256), .int .u8 ((t184 / 256) % 256), .int .u8 ((t184 / 65536) % 256), .int .u8 ((t184 / 16777216) % 256)]) (ok := fun _ => True) (okp := fun _ => True) ?hr ?hp (fun _ hk => hk) trivial (Below.refl _ _) (Nat.le_refl _) (by simp) ?_; (case hd => rfl); (case hg => rfl); (case hr => first | (go_simp; done) | (go_simp; rfl)); (case hp => exact (Reps.one (show Kd.M (Kd.int .u8) _ _ _ ((t184) % 256) [.int .u8 ((t184) % 256)] from rfl) (Reps.one (show Kd.M (Kd.int .u8) _ _ _ ((t184 / 256) % 256) [.int .u8 ((t184 / 256) % 256)] from rfl) (Reps.one (show Kd.M (Kd.int .u8) _ _ _ ((t184 / 65536) % 256) [.int .u8 ((t184 / 65536) % 256)] from rfl) (Reps.one (show Kd.M (Kd.int .u8) _ _ _ ((t184 / 16777216) % 256) [.int .u8 ((t184 / 16777216) % 256)] from rfl) (Reps.none _ _)))))); intro v192 w12 ho13 hb hg_ hnew_; clear hg_ hnew_; (first | rw [← Ny191.out] at ho13 | (simp only [Int.reduceToNat] at ho13; rw [← Ny191.out] at ho13)); have HO193 := Aside0.mk (Kd.R_lower (Kd.R_new' ho13 (Kd.R_lt (zR_ HO190.out))) (below_size (zh0_ HB.out))); replace HO190 := Aside0.mk (Kd.R_elder' (zR_ HO190.out) (Kd.R_base ho13) hb); replace HB := Aside0.mk (below_step (zh0_ HB.out) hb); clear hb ho13; obtain ⟨Ao15, co15, eo15⟩ := Kd.R_slice HO193.out; subst eo15) | ((with_reducible refine gate_builtin (b := .append) (xs := #[.tmp 11, .tmp 23]) rfl ?_); at_builtin; refine Kd.R_append_rows (Kd.int .u8) (w0 := w) w.heap.size rfl (.tmp 11) (.tmp 23) 27 5 (.int .u8 0) 1 rfl Try.underlying27 info5 rfl (by decide) (by omega) v189 y188 y191 _ _ _ (fun k_ => some k_ ≠ (.slice Ao15 y191.length co15 : Value).ownBlock) (fun _ => False) rfl rfl ?aO ?aR (fun _ _ h => h) (fun _ h => h.elim) ?aF ?aB ?aS ?aL ?_; (case aR => repeat (first | exact (Kd.R_reads' HO193.out).2.2 | (with_reducible refine Kd.C_alloc ?_ _) | (with_reducible refine Kd.C_drewN ?_ _) | (with_reducible refine Kd.C_drew ?_))); (case aB => exact (zh0_ HB.out)); (case aF => exact (fun k_ hk => Kd.fresh' (Kd.R_lt (zR_ HO193.out)) k_ hk)); (case aO => exact (by (with_reducible repeat (first | apply Kd.R_alloc | apply Kd.R_drewN | apply Kd.R_drew)); exact Kd.R_mono HO190.out (fun _ hk => hk.2))); (case aS => exact (below_size (zh0_ HB.out))); (case aL => have := LMc7.out; omega); intro v195 w14 ho hb hg hat; rw [← Ny194.out] at ho; replace HO193 := Aside0.mk (Kd.R_after (ok := (fun _ => True)) (zR_ HO193.out) hg hat); replace HB := Aside0.mk (hb); have HO196 := Aside0.mk (ho); clear HO190 ho hb hg hat))
     go_ret
     exact ⟨_, by first | rfl | (simp [errW_none, errW_some] <;> rfl) | (simp only [← hji3]; first | rfl | (simp [errW_none, errW_some] <;> rfl)) | (simp [*, errW_none, errW_some] <;> rfl), by (with_reducible repeat (first | apply Kd.R_alloc | apply Kd.R_drewN | apply Kd.R_drew)); exact Kd.R_mono HO196.out (fun _ hk => trivial), by exact zh0_ HB.out⟩
    ·rw [if_neg c7] at H
     cases H
   ·rw [if_neg c6] at H
    cases H
  ·rw [if_neg c5] at H
   cases H
 ·rw [if_neg c4] at H
  cases H
end Go.Proofs.Ytcbgichkeecgiaa.Print
namespace Go.Proofs.Ytcbgichkeecgiaa.Print
open Go.RowKit Go.Proofs.YtcbgichkeecgiaaW.PrintWords Go.Proofs.YtcbgichkeecgiaaW.PrintLast Go.Proofs.YtcbgichkeecgiaaW.PrintMore
attribute [local go_sem] max2_mx min2_mn max_two min_two max_three min_three max_four min_four
set_option linter.unusedVariables false
set_option linter.unusedSimpArgs false
def node_Encode.pad (l : List Int) : List Int := l.take (min l.length (List.replicate (4092 : Int).toNat (0 : Int)).length) ++ (List.replicate (4092 : Int).toNat 0).drop (min l.length (List.replicate (4092 : Int).toNat (0 : Int)).length)
theorem node_Encode.pad_len (l Z : List Int) : (l.take (min l.length Z.length) ++ Z.drop (min l.length Z.length)).length = Z.length := by rw [List.length_append, List.length_take, List.length_drop]; omega
theorem node_Encode.seal (A : Option Addr) (c : Nat) (l Z r : List Int) (w : World) (hC : Kd.C (Kd.int .u8) w A (l.take (min l.length Z.length) ++ Z.drop (min l.length Z.length)).length (l.take (min l.length Z.length) ++ Z.drop (min l.length Z.length))) (hc : Z.length ≤ c) (h : crc_Seal.f (l.take (min l.length Z.length) ++ Z.drop (min l.length Z.length)) = some r) :
  Calls Try.prog 42 #[.slice A Z.length c] w fun e w' => ∃ v0_ : Value, e = .returned (v0_) ∧ Kd.R (Kd.int .u8) 5 w' w.heap.size (fun _ => True) v0_ r ∧ Below w.heap.size w w' := by
 have hl := node_Encode.pad_len l Z
 generalize l.take (min l.length Z.length) ++ Z.drop (min l.length Z.length) = L at hC h hl
 rw [← hl] at hc ⊢
 exact crc_Seal.calls A c L r w hC hc h
mutual
def node_Encode.j0 : Nat → Int → Bool → List (List Int) → List (List Int) → List Int → Option (List Int × Int)
 | 0, _, _, _, _, _ => none
 | k + 1, x5, x198000, x198001, x198002, x198003 => (codec_Num.f k (([x5] : List Int)) (IntKind.u64.wrap ((x198001.length : Int)))).bind fun t202 => (if x198000 = true then (node_Encode.j1 k t202 x198000 x198001 x198002 x198003) else (if 0 < (x198003.length : Int) then ((codec_Num.f k t202 (IntKind.u64.wrap (rd x198003 0))).bind fun t206 => (node_Encode.j1 k t206 x198000 x198001 x198002 x198003)) else (none)))
def node_Encode.j1 : Nat → List Int → Bool → List (List Int) → List (List Int) → List Int → Option (List Int × Int)
 | 0, _, _, _, _, _ => none
 | k + 1, x6, x198000, x198001, x198002, x198003 => node_Encode.l0 k x6 x198001 (x198001.length : Int) 0 x198000 x198001 x198002 x198003
def node_Encode.l0 : Nat → List Int → List (List Int) → Int → Int → Bool → List (List Int) → List (List Int) → List Int → Option (List Int × Int)
 | 0, _, _, _, _, _, _, _, _ => none
 | k + 1, x6, x35, x36, x37, x198000, x198001, x198002, x198003 => if x37 < x36 then (if 0 ≤ x37 then (if x37 < (x35.length : Int) then ((codec_Text.f k x6 (strOfNums (rd_L1 x35 x37))).bind fun t213 => (if x198000 = true then (if x37 < (x198002.length : Int) then ((codec_Text.f k t213 (strOfNums (rd_L1 x198002 x37))).bind fun t217 => (node_Encode.l0 k t217 x35 x36 (wrap64 (x37 + 1)) x198000 x198001 x198002 x198003)) else (none)) else (if 0 ≤ (wrap64 (x37 + 1)) then (if (wrap64 (x37 + 1)) < (x198003.length : Int) then ((codec_Num.f k t213 (IntKind.u64.wrap (rd x198003 (wrap64 (x37 + 1))))).bind fun t221 => (node_Encode.l0 k t221 x35 x36 (wrap64 (x37 + 1)) x198000 x198001 x198002 x198003)) else (none)) else (none)))) else (none)) else (none)) else (if 4092 ≤ 281474976710656 then ((crc_Seal.f (node_Encode.pad x6)).bind fun t_ => (some (t_, 0))) else (none))
end
def node_Encode.f (k : Nat) (a0_0 : Bool) (l0_1 : List (List Int)) (l0_2 : List (List Int)) (l0_3 : List Int) : Option (List Int × Int) := (node_Check.f k a0_0 l0_1 l0_2 l0_3).bind fun t198 => (if t198 = 0 then (if a0_0 = true then (node_Encode.j0 k 1 a0_0 l0_1 l0_2 l0_3) else (node_Encode.j0 k 2 a0_0 l0_1 l0_2 l0_3)) else (some (([] : List Int), t198)))
set_option maxHeartbeats 8000000 in
set_option maxRecDepth 100000 in
theorem node_Encode.calls (k : Nat) (a0_0 : Bool) (A0_1 : Option Addr) (c0_1 : Nat) (l0_1 : List (List Int)) (A0_2 : Option Addr) (c0_2 : Nat) (l0_2 : List (List Int)) (A0_3 : Option Addr) (c0_3 : Nat) (l0_3 : List Int) (r1 : List Int) (r2 : Int) (w : World) (hr0_1 : Kd.C (Kd.slice 5 (Kd.int .u8)) w A0_1 l0_1.length l0_1) (hc0_1 : l0_1.length ≤ c0_1) (hr0_2 : Kd.C (Kd.slice 5 (Kd.int .u8)) w A0_2 l0_2.length l0_2) (hc0_2 : l0_2.length ≤ c0_2) (hr0_3 : Kd.C (Kd.int .i64) w A0_3 l0_3.length l0_3) (hc0_3 : l0_3.length ≤ c0_3) (h : node_Encode.f k a0_0 l0_1 l0_2 l0_3 = some (r1, r2)) :
  Calls Try.prog 22 #[.agg #[.bool a0_0, .slice A0_1 l0_1.length c0_1, .slice A0_2 l0_2.length c0_2, .slice A0_3 l0_3.length c0_3]] w fun e w' => ∃ v0_ : Value, e = .returned (.tuple #[v0_, .int .i64 r2]) ∧ Kd.R (Kd.int .u8) 5 w' w.heap.size (fun _ => True) v0_ r1 ∧ Below w.heap.size w w' := by
 have hu26 := Try.underlying26
 have HR0_1 := Aside0.mk hr0_1
 have HC0_1 := Aside0.mk hc0_1
 clear hr0_1 hc0_1
 have HR0_2 := Aside0.mk hr0_2
 have HC0_2 := Aside0.mk hc0_2
 clear hr0_2 hc0_2
 have HR0_3 := Aside0.mk hr0_3
 have HC0_3 := Aside0.mk hc0_3
 clear hr0_3 hc0_3
 have HB := Aside0.mk (Below.refl w.heap.size w)
 have H : ((node_Check.f k a0_0 l0_1 l0_2 l0_3).bind fun t198 => (if t198 = 0 then (if a0_0 = true then (node_Encode.j0 k 1 a0_0 l0_1 l0_2 l0_3) else (node_Encode.j0 k 2 a0_0 l0_1 l0_2 l0_3)) else (some (([] : List Int), t198)))) = some (r1, r2) := h
 clear h
 obtain ⟨t198, A2, H⟩ := zm H
 (try dsimp only at H)
 by_cases c3 : t198 = 0
 ·rw [if_pos c3] at H
  obtain ⟨c3b0, c3b1⟩ := zq1 c3
  clear c3
  have HC4 := Aside0.mk H
  clear H
  go_enter Try.func22, Try.ntmps22
  go_upto_if 16 with (first | ((with_reducible refine gate_dst (N := 1) rfl ?_); refine box_event ?hg (N := 1) ?hd (cs := #[.bool a0_0, .slice A0_1 l0_1.length c0_1, .slice A0_2 l0_2.length c0_2, .slice A0_3 l0_3.length c0_3]) (t := 26) ?hr ?_; (case hd => rfl); (case hg => rfl); (case hr => first | (go_simp; done) | (go_simp; rfl)); intro gb197 hg w5 hbox hb; have BK197 := Aside0.mk (hbox); have GW197 := Aside0.mk ((by rw [hg]; exact (below_size (zh0_ HB.out)) : w.heap.size ≤ gb197)); have GE197 := Aside0.mk ((by rw [hg]; exact (below_size (zh0_ HB.out)) : w.heap.size ≤ gb197)); replace HB := Aside0.mk (below_step (zh0_ HB.out) hb); clear hb hbox hg; obtain ⟨hcz6_0, hcz6_1, hcz6_2, hcz6_3⟩ := zc4 BK197.out; obtain ⟨hfz6_0, hfz6_1, hfz6_2, hfz6_3⟩ := zz4 BK197.out) | ((with_reducible refine gate_callee (f := 19) rfl ?_); refine goesL_ (some 11) rfl rfl Try.func19 (by kernel_rfl) rfl #[.agg #[.bool a0_0, .slice A0_1 l0_1.length c0_1, .slice A0_2 l0_2.length c0_2, .slice A0_3 l0_3.length c0_3]] rfl zl_ ?_; (with_reducible refine (node_Check.calls k a0_0 _ _ l0_1 _ _ l0_2 _ _ l0_3 t198 _ ?side1 ?side2 ?side3 ?side4 ?side5 ?side6 A2.out).mono ?_); (case side1 => exact zc_ (Kd.C_below HR0_1.out HB.out)); (case side2 => exact HC0_1.out); (case side3 => exact zc_ (Kd.C_below HR0_2.out HB.out)); (case side4 => exact HC0_2.out); (case side5 => exact zc_ (Kd.C_below HR0_3.out HB.out)); (case side6 => exact HC0_3.out); rintro e w7 ⟨rfl, hb⟩; refine ⟨_, rfl, ?_⟩; replace BK197 := Aside0.mk (blk_below (zb_ BK197.out) hb); replace HB := Aside0.mk (below_step (zh1_ HB.out GE197.out) hb); (try clear hb); obtain ⟨hcz8_0, hcz8_1, hcz8_2, hcz8_3⟩ := zc4 BK197.out; obtain ⟨hfz8_0, hfz8_1, hfz8_2, hfz8_3⟩ := zz4 BK197.out))
  (try simp only [Act.put, zt0, zt1, zt2])
  go_cut [5] (fun v5 wc => ∃ (kq : Nat) (x5_3 : Int), v5 = .int .u8 x5_3 ∧ Aside0 (node_Encode.j0 kq x5_3 a0_0 l0_1 l0_2 l0_3 = some (r1, r2)) ∧ Aside0 (kq ≤ k) ∧ Aside0 (wc.heap[gb197]? = some (.cells #[.bool a0_0, (.slice A0_1 l0_1.length c0_1), (.slice A0_2 l0_2.length c0_2), (.slice A0_3 l0_3.length c0_3)] 26 (0, 0))) ∧ Aside0 (Below w.heap.size w wc))
  case first =>
   have H := HC4.out
   clear HC4
   by_cases c9 : a0_0 = true
   ·subst c9
    replace H := (if_pos (rfl : true = true)).symm.trans H
    have H' := Aside0.mk H
    clear H
    go_wp2
    go_meet
    case rel => exact ⟨_, (1), (by first | rfl | (simp; done) | (simp [*]; done) | (simp only [i64_w]; done)), H', ⟨by first | omega | exact Nat.le_refl _⟩, ⟨by (with_reducible repeat (first | refine blk_drewN ?_ _ | refine blk_drew ?_ | refine blk_alloc ?_ _)); exact BK197.out⟩, ⟨by exact zh1_ HB.out GE197.out⟩⟩
   ·replace c9 := Bool.eq_false_iff.mpr c9
    subst c9
    replace H := (if_neg (show ¬ (false = true) by decide)).symm.trans H
    have H' := Aside0.mk H
    clear H
    go_wp2
    go_meet
    case rel => exact ⟨_, (2), (by first | rfl | (simp; done) | (simp [*]; done) | (simp only [i64_w]; done)), H', ⟨by first | omega | exact Nat.le_refl _⟩, ⟨by (with_reducible repeat (first | refine blk_drewN ?_ _ | refine blk_drew ?_ | refine blk_alloc ?_ _)); exact BK197.out⟩, ⟨by exact zh1_ HB.out GE197.out⟩⟩
  case rest =>
   clear HC4
   try clear c1
   try clear c2
   try clear p2
   try clear c3
   try clear c3b0
   try clear c3b1
   try clear c9
   try clear hcz6_0
   try clear hcz6_1
   try clear hcz6_2
   try clear hcz6_3
   try clear hcz8_0
   try clear hcz8_1
   try clear hcz8_2
   try clear hcz8_3
   try clear hfz6_0
   try clear hfz6_1
   try clear hfz6_2
   try clear hfz6_3
   try clear hfz8_0
   try clear hfz8_1
   try clear hfz8_2
   try clear hfz8_3
   (try clear BK197)
   obtain ⟨kq, x5_3, rfl, HA, HJ3, BK197, HB⟩ := hcut
   cases kq with
   | zero => exact absurd HA.out (by simp [node_Encode.j0])
   | succ kj3 =>
    have H := HA.out
    clear HA
    simp only [node_Encode.j0] at H
    obtain ⟨y199, hy199⟩ : ∃ y_ : List Int, y_ = (([x5_3] : List Int)) := ⟨_, rfl⟩
    replace H : ((codec_Num.f kj3 y199 (IntKind.u64.wrap ((l0_1.length : Int)))).bind fun t202 => (if a0_0 = true then (node_Encode.j1 kj3 t202 a0_0 l0_1 l0_2 l0_3) else (if 0 < (l0_3.length : Int) then ((codec_Num.f kj3 t202 (IntKind.u64.wrap (rd l0_3 0))).bind fun t206 => (node_Encode.j1 kj3 t206 a0_0 l0_1 l0_2 l0_3)) else (none)))) = some (r1, r2) := by first | (rw [hy199]; with_reducible exact H) | (have H2_ := (Option.bind_some _ _).symm.trans H; rw [hy199]; with_reducible exact H2_) | (have H2_ := (Option.bind_some _ _).symm.trans H; with_reducible exact H2_) | with_reducible exact H | (rw [hy199]; exact H) | exact H
    have Ny199 := Aside0.mk hy199
    clear hy199
    obtain ⟨t202, A10, H⟩ := zm H
    (try dsimp only at H)
    have HC11 := Aside0.mk H
    clear H
    go_upto_if 26 with (first | ((with_reducible refine gate_dst (N := 18) rfl ?_); refine Kd.R_lit (Kd.int .u8) _ 5 ?hg (N := 18) ?hd (xs := ([x5_3] : List Int)) (inner := [.int .u8 x5_3]) (ok := fun _ => True) (okp := fun _ => True) ?hr ?hp (fun _ hk => hk) trivial (Below.refl _ _) (Nat.le_refl _) (by simp) ?_; (case hd => rfl); (case hg => rfl); (case hr => first | (go_simp; done) | (go_simp; rfl)); (case hp => exact (Reps.one (show Kd.M (Kd.int .u8) _ _ _ x5_3 [.int .u8 x5_3] from rfl) (Reps.none _ _))); intro v200 w12 ho13 hb hg_ hnew_; clear hg_ hnew_; (first | rw [← Ny199.out] at ho13 | (simp only [Int.reduceToNat] at ho13; rw [← Ny199.out] at ho13)); have HO201 := Aside0.mk (Kd.R_lower ho13 (below_size (zh1_ HB.out GE197.out))); replace BK197 := Aside0.mk (blk_below (zb_ BK197.out) hb); replace HB := Aside0.mk (below_step (zh1_ HB.out GE197.out) hb); clear hb ho13; obtain ⟨hcz14_0, hcz14_1, hcz14_2, hcz14_3⟩ := zc4 BK197.out; obtain ⟨hfz14_0, hfz14_1, hfz14_2, hfz14_3⟩ := zz4 BK197.out; obtain ⟨Ao15, co15, eo15⟩ := Kd.R_slice HO201.out; subst eo15) | ((with_reducible refine gate_callee (f := 40) rfl ?_); refine goesL_ (some 23) rfl rfl Try.func40 (by kernel_rfl) rfl #[.slice Ao15 y199.length co15, .int .u64 (IntKind.u64.wrap ((l0_1.length : Int)))] rfl zl_ ?_; (with_reducible refine (codec_Num.calls kj3 _ _ y199 (IntKind.u64.wrap ((l0_1.length : Int))) t202 _ ?side1 ?side2 A10.out).mono ?_); (case side1 => repeat (first | exact (Kd.R_reads' HO201.out).2.2 | (with_reducible refine Kd.C_alloc ?_ _) | (with_reducible refine Kd.C_drewN ?_ _) | (with_reducible refine Kd.C_drew ?_))); (case side2 => exact (Kd.R_reads' HO201.out).2.1); rintro e w16 ⟨v203, rfl, ho0, hb⟩; refine ⟨_, rfl, ?_⟩; have HO204 := Aside0.mk (Kd.R_lower (Kd.R_new' ho0 (Kd.R_lt (zR_ HO201.out))) (below_size (zh1_ HB.out GE197.out))); replace HO201 := Aside0.mk (Kd.R_elder' (zR_ HO201.out) (Kd.R_base ho0) hb); replace BK197 := Aside0.mk (blk_below (zb_ BK197.out) hb); replace HB := Aside0.mk (below_step (zh1_ HB.out GE197.out) hb); (try clear hb); (try clear hk); (try clear ho0); obtain ⟨hcz17_0, hcz17_1, hcz17_2, hcz17_3⟩ := zc4 BK197.out; obtain ⟨hfz17_0, hfz17_1, hfz17_2, hfz17_3⟩ := zz4 BK197.out))
    (try simp only [Act.put, zt0, zt1, zt2])
    go_cut [6] (fun v6 wc => ∃ (kq : Nat) (x6_10 : List Int), Aside0 (node_Encode.j1 kq x6_10 a0_0 l0_1 l0_2 l0_3 = some (r1, r2)) ∧ Aside0 (kq ≤ kj3) ∧ Aside0 (Kd.R (Kd.int .u8) 5 wc w.heap.size (fun _ => True) v6 x6_10) ∧ Aside0 (wc.heap[gb197]? = some (.cells #[.bool a0_0, (.slice A0_1 l0_1.length c0_1), (.slice A0_2 l0_2.length c0_2), (.slice A0_3 l0_3.length c0_3)] 26 (0, 0))) ∧ Aside0 (Below w.heap.size w wc))
    case first =>
     have H := HC11.out
     clear HC11
     by_cases c18 : a0_0 = true
     ·subst c18
      replace H := (if_pos (rfl : true = true)).symm.trans H
      have H' := Aside0.mk H
      clear H
      go_wp2
      go_meet
      case rel => exact ⟨_, (t202), H', ⟨by have := HJ3.out; first | omega | exact Nat.le_refl _⟩, ⟨by (with_reducible repeat (first | apply Kd.R_alloc | apply Kd.R_drewN | apply Kd.R_drew)); exact Kd.R_mono HO204.out (fun _ hk => trivial)⟩, ⟨by (with_reducible repeat (first | refine blk_drewN ?_ _ | refine blk_drew ?_ | refine blk_alloc ?_ _)); exact BK197.out⟩, ⟨by exact zh1_ HB.out GE197.out⟩⟩
     ·replace c18 := Bool.eq_false_iff.mpr c18
      subst c18
      replace H := (if_neg (show ¬ (false = true) by decide)).symm.trans H
      by_cases c19 : 0 < (l0_3.length : Int)
      ·rw [if_pos c19] at H
       have c19b0 : decide (0 < (l0_3.length : Int)) = true := decide_eq_true c19
       have c19b1 : decide (0 < l0_3.length) = true := decide_eq_true (by omega)
       clear c19
       (first | rw [c19b0] | (simp only [i64_w, i32_w]; rw [c19b0]) | skip)
       obtain ⟨t206, A20, H⟩ := zm H
       (try dsimp only at H)
       have H' := Aside0.mk H
       clear H
       obtain ⟨hcz21_0, hcz21_1, hcz21_2, hcz21_3⟩ := zc4 BK197.out
       obtain ⟨hfz21_0, hfz21_1, hfz21_2, hfz21_3⟩ := zz4 BK197.out
       have p205 : 0 ≤ (0 : Int) := (by omega)
       have q205 : 0 < (l0_3.length : Int) := of_decide_eq_true za_
       obtain ⟨ad205, e205, hx205_0⟩ := Kd.at_int HR0_3.out 0 p205 q205
       cases e205
       have qi205 : (0 < l0_3.length) = True := eq_true (by omega)
       (try rw [show ((0 : Int)).toNat = 0 from rfl] at hx205_0)
       (try rw [Addr.add_zero'] at hx205_0)
       replace hx205_0 := zx_ HB.out hx205_0
       replace p205 := eq_true p205
       replace q205 := eq_true q205
       obtain ⟨Ao22, co22, eo22⟩ := Kd.R_slice HO204.out
       subst eo22
       go_wp2_with (first | ((with_reducible refine gate_callee (f := 40) rfl ?_); refine goesL_ (some 33) rfl rfl Try.func40 (by kernel_rfl) rfl #[.slice Ao22 t202.length co22, .int .u64 (IntKind.u64.wrap (rd l0_3 0))] rfl zl_ ?_; (with_reducible refine (codec_Num.calls kj3 _ _ t202 (IntKind.u64.wrap (rd l0_3 0)) t206 _ ?side1 ?side2 A20.out).mono ?_); (case side1 => repeat (first | exact (Kd.R_reads' HO204.out).2.2 | (with_reducible refine Kd.C_alloc ?_ _) | (with_reducible refine Kd.C_drewN ?_ _) | (with_reducible refine Kd.C_drew ?_))); (case side2 => exact (Kd.R_reads' HO204.out).2.1); rintro e w23 ⟨v207, rfl, ho0, hb⟩; refine ⟨_, rfl, ?_⟩; have HO208 := Aside0.mk (Kd.R_lower (Kd.R_new' (Kd.R_new' ho0 (Kd.R_lt (zR_ HO201.out))) (Kd.R_lt (zR_ HO204.out))) (below_size (zh1_ HB.out GE197.out))); replace HO201 := Aside0.mk (Kd.R_elder' (zR_ HO201.out) (Kd.R_base ho0) hb); replace HO204 := Aside0.mk (Kd.R_elder' (zR_ HO204.out) (Kd.R_base ho0) hb); replace BK197 := Aside0.mk (blk_below (zb_ BK197.out) hb); replace HB := Aside0.mk (below_step (zh1_ HB.out GE197.out) hb); (try clear hb); (try clear ho0)))
       go_meet
       case rel => exact ⟨_, (t206), H', ⟨by have := HJ3.out; first | omega | exact Nat.le_refl _⟩, ⟨by (with_reducible repeat (first | apply Kd.R_alloc | apply Kd.R_drewN | apply Kd.R_drew)); exact Kd.R_mono HO208.out (fun _ hk => trivial)⟩, ⟨by (with_reducible repeat (first | refine blk_drewN ?_ _ | refine blk_drew ?_ | refine blk_alloc ?_ _)); exact BK197.out⟩, ⟨by exact zh1_ HB.out GE197.out⟩⟩
      ·rw [if_neg c19] at H
       cases H
    case rest =>
     clear HC11
     try clear c1
     try clear c2
     try clear p2
     try clear q2
     try clear hx2
     try clear qi2
     try clear c3
     try clear c3b0
     try clear c3b1
     try clear c4
     try clear c9
     try clear c18
     try clear c19
     try clear c19b0
     try clear c19b1
     try clear p20
     try clear q20
     try clear hx20
     try clear qi20
     try clear c22
     try clear hcz14_0
     try clear hcz14_1
     try clear hcz14_2
     try clear hcz14_3
     try clear hcz17_0
     try clear hcz17_1
     try clear hcz17_2
     try clear hcz17_3
     try clear hcz21_0
     try clear hcz21_1
     try clear hcz21_2
     try clear hcz21_3
     try clear hcz6_0
     try clear hcz6_1
     try clear hcz6_2
     try clear hcz6_3
     try clear hcz8_0
     try clear hcz8_1
     try clear hcz8_2
     try clear hcz8_3
     try clear hfz14_0
     try clear hfz14_1
     try clear hfz14_2
     try clear hfz14_3
     try clear hfz17_0
     try clear hfz17_1
     try clear hfz17_2
     try clear hfz17_3
     try clear hfz21_0
     try clear hfz21_1
     try clear hfz21_2
     try clear hfz21_3
     try clear hfz6_0
     try clear hfz6_1
     try clear hfz6_2
     try clear hfz6_3
     try clear hfz8_0
     try clear hfz8_1
     try clear hfz8_2
     try clear hfz8_3
     try clear hx205_0
     try clear p2
     try clear p205
     try clear q205
     (try clear BK197)
     obtain ⟨kq, x6_10, HA, HJ10, HO_6, BK197, HB⟩ := hcut
     cases kq with
     | zero => exact absurd HA.out (by simp [node_Encode.j1])
     | succ kj10 =>
      have H := HA.out
      clear HA
      simp only [node_Encode.j1] at H
      have H' := Aside0.mk H
      clear H
      obtain ⟨hcz24_0, hcz24_1, hcz24_2, hcz24_3⟩ := zc4 BK197.out
      obtain ⟨hfz24_0, hfz24_1, hfz24_2, hfz24_3⟩ := zz4 BK197.out
      go_wp2
      go_loopg [6, 37] kj10 (fun kq v6 v37 w' => ∃ (x6_3 : List Int) (x37_3 : Int), v37 = .int .i64 x37_3 ∧ Aside0 (node_Encode.l0 kq x6_3 l0_1 (l0_1.length : Int) x37_3 a0_0 l0_1 l0_2 l0_3 = some (r1, r2)) ∧ Aside0 (kq ≤ kj10) ∧ Aside0 (Kd.R (Kd.int .u8) 5 w' w.heap.size (fun _ => True) v6 x6_3) ∧ Aside0 (w'.heap[gb197]? = some (.cells #[.bool a0_0, (.slice A0_1 l0_1.length c0_1), (.slice A0_2 l0_2.length c0_2), (.slice A0_3 l0_3.length c0_3)] 26 (0, 0))) ∧ Aside0 (Below w.heap.size w w'))
      case atStart => exact ⟨(x6_10), (0), (by first | rfl | (simp; done) | (simp [*]; done) | (simp only [i64_w]; done)), H', ⟨Nat.le_refl _⟩, ⟨by (with_reducible repeat (first | apply Kd.R_alloc | apply Kd.R_drewN | apply Kd.R_drew)); exact HO_6.out⟩, ⟨by (with_reducible repeat (first | refine blk_drewN ?_ _ | refine blk_drew ?_ | refine blk_alloc ?_ _)); exact BK197.out⟩, ⟨by exact zh1_ HB.out GE197.out⟩⟩
      case round =>
       clear H'
       try clear c1
       try clear c2
       try clear p2
       try clear q2
       try clear hx2
       try clear qi2
       try clear c3
       try clear c3b0
       try clear c3b1
       try clear c4
       try clear c9
       try clear c18
       try clear c19
       try clear c19b0
       try clear c19b1
       try clear p20
       try clear q20
       try clear hx20
       try clear qi20
       try clear c22
       try clear hcz14_0
       try clear hcz14_1
       try clear hcz14_2
       try clear hcz14_3
       try clear hcz17_0
       try clear hcz17_1
       try clear hcz17_2
       try clear hcz17_3
       try clear hcz21_0
       try clear hcz21_1
       try clear hcz21_2
       try clear hcz21_3
       try clear hcz24_0
       try clear hcz24_1
       try clear hcz24_2
       try clear hcz24_3
       try clear hcz6_0
       try clear hcz6_1
       try clear hcz6_2
       try clear hcz6_3
       try clear hcz8_0
       try clear hcz8_1
       try clear hcz8_2
       try clear hcz8_3
       try clear hfz14_0
       try clear hfz14_1
       try clear hfz14_2
       try clear hfz14_3
       try clear hfz17_0
       try clear hfz17_1
       try clear hfz17_2
       try clear hfz17_3
       try clear hfz21_0
       try clear hfz21_1
       try clear hfz21_2
       try clear hfz21_3
       try clear hfz24_0
       try clear hfz24_1
       try clear hfz24_2
       try clear hfz24_3
       try clear hfz6_0
       try clear hfz6_1
       try clear hfz6_2
       try clear hfz6_3
       try clear hfz8_0
       try clear hfz8_1
       try clear hfz8_2
       try clear hfz8_3
       try clear hx205_0
       try clear p2
       try clear p20
       try clear p205
       try clear q2
       try clear q20
       try clear q205
       (try clear BK197)
       obtain ⟨x6_3, x37_3, rfl, HA, HK3, HO_6, BK197, HB⟩ := hrel
       cases gk with
       | zero => exact absurd HA.out (by simp [node_Encode.l0])
       | succ k3 =>
        have H := HA.out
        clear HA
        simp only [node_Encode.l0] at H
        by_cases c25 : x37_3 < (l0_1.length : Int)
        ·rw [if_pos c25] at H
         have c25b0 : decide (x37_3 < (l0_1.length : Int)) = true := decide_eq_true c25
         clear c25
         by_cases c26 : 0 ≤ x37_3
         ·rw [if_pos c26] at H
          have c26b0 : decide (0 ≤ x37_3) = true := decide_eq_true c26
          clear c26
          by_cases c27 : x37_3 < (l0_1.length : Int)
          ·rw [if_pos c27] at H
           have c27b0 : decide (x37_3 < (l0_1.length : Int)) = true := decide_eq_true c27
           clear c27
           obtain ⟨t213, A28, H⟩ := zm H
           (try dsimp only at H)
           by_cases c29 : a0_0 = true
           ·subst c29
            replace H := (if_pos (rfl : true = true)).symm.trans H
            by_cases c30 : x37_3 < (l0_2.length : Int)
            ·rw [if_pos c30] at H
             have c30b0 : decide (x37_3 < (l0_2.length : Int)) = true := decide_eq_true c30
             clear c30
             obtain ⟨t217, A31, H⟩ := zm H
             (try dsimp only at H)
             have H' := Aside0.mk H
             clear H
             have p212 : 0 ≤ (x37_3 : Int) := of_decide_eq_true za_
             have q212 : x37_3 < (l0_1.length : Int) := of_decide_eq_true za_
             obtain ⟨ad212, A212_0, c212_0, e212, hx212_0, hl212_0, hi212_0⟩ := at_L1 HR0_1.out x37_3 p212 q212
             cases e212
             replace hx212_0 := zx_ HB.out hx212_0
             have HR212_0 := Aside0.mk hi212_0
             have HC212_0 := Aside0.mk hl212_0
             clear hi212_0 hl212_0
             replace p212 := eq_true p212
             replace q212 := eq_true q212
             have hcv32 := Kd.C_string (P := Try.prog) (A := A212_0) (c := c212_0) Try.underlying27 Try.underlying5 Try.underlying9 (Kd.C_below HR212_0.out HB.out)
             have hcw33 := fun n_ : Nat => Kd.C_string (P := Try.prog) (A := A212_0) (c := c212_0) Try.underlying27 Try.underlying5 Try.underlying9 (Kd.C_drewN (Kd.C_below HR212_0.out HB.out) n_)
             obtain ⟨Ao34, co34, eo34⟩ := Kd.R_slice HO_6.out
             subst eo34
             go_wp2_with (first | ((with_reducible refine gate_callee (f := 41) rfl ?_); refine goesL_ (some 45) rfl rfl Try.func41 (by kernel_rfl) rfl #[.slice Ao34 x6_3.length co34, .string (strOfNums (rd_L1 l0_1 x37_3))] rfl zl_ ?_; (with_reducible refine (codec_Text.calls k3 _ _ x6_3 (strOfNums (rd_L1 l0_1 x37_3)) t213 _ ?side1 ?side2 A28.out).mono ?_); (case side1 => repeat (first | exact (Kd.R_reads' HO_6.out).2.2 | (with_reducible refine Kd.C_alloc ?_ _) | (with_reducible refine Kd.C_drewN ?_ _) | (with_reducible refine Kd.C_drew ?_))); (case side2 => exact (Kd.R_reads' HO_6.out).2.1); rintro e w35 ⟨v214, rfl, ho0, hb⟩; refine ⟨_, rfl, ?_⟩; have HO215 := Aside0.mk (Kd.R_lower (Kd.R_new' ho0 (Kd.R_lt (zR_ HO_6.out))) (below_size (zh1_ HB.out GE197.out))); replace HO_6 := Aside0.mk (Kd.R_elder' (zR_ HO_6.out) (Kd.R_base ho0) hb); replace BK197 := Aside0.mk (blk_below (zb_ BK197.out) hb); replace HB := Aside0.mk (below_step (zh1_ HB.out GE197.out) hb); (try clear hb); (try clear ho0); obtain ⟨hcz36_0, hcz36_1, hcz36_2, hcz36_3⟩ := zc4 BK197.out; obtain ⟨hfz36_0, hfz36_1, hfz36_2, hfz36_3⟩ := zz4 BK197.out; have p216 : 0 ≤ (x37_3 : Int) := of_decide_eq_true za_; have q216 : x37_3 < (l0_2.length : Int) := of_decide_eq_true za_; obtain ⟨ad216, A216_0, c216_0, e216, hx216_0, hl216_0, hi216_0⟩ := at_L1 HR0_2.out x37_3 p216 q216; cases e216; replace hx216_0 := zx_ HB.out hx216_0; have HR216_0 := Aside0.mk hi216_0; have HC216_0 := Aside0.mk hl216_0; clear hi216_0 hl216_0; replace p216 := eq_true p216; replace q216 := eq_true q216; have hcv37 := Kd.C_string (P := Try.prog) (A := A216_0) (c := c216_0) Try.underlying27 Try.underlying5 Try.underlying9 (Kd.C_below HR216_0.out HB.out); have hcw38 := fun n_ : Nat => Kd.C_string (P := Try.prog) (A := A216_0) (c := c216_0) Try.underlying27 Try.underlying5 Try.underlying9 (Kd.C_drewN (Kd.C_below HR216_0.out HB.out) n_); obtain ⟨Ao39, co39, eo39⟩ := Kd.R_slice HO215.out; subst eo39) | ((with_reducible refine gate_callee (f := 41) rfl ?_); refine goesL_ (some 55) rfl rfl Try.func41 (by kernel_rfl) rfl #[.slice Ao39 t213.length co39, .string (strOfNums (rd_L1 l0_2 x37_3))] rfl zl_ ?_; (with_reducible refine (codec_Text.calls k3 _ _ t213 (strOfNums (rd_L1 l0_2 x37_3)) t217 _ ?side1 ?side2 A31.out).mono ?_); (case side1 => repeat (first | exact (Kd.R_reads' HO215.out).2.2 | (with_reducible refine Kd.C_alloc ?_ _) | (with_reducible refine Kd.C_drewN ?_ _) | (with_reducible refine Kd.C_drew ?_))); (case side2 => exact (Kd.R_reads' HO215.out).2.1); rintro e w40 ⟨v218, rfl, ho0, hb⟩; refine ⟨_, rfl, ?_⟩; have HO219 := Aside0.mk (Kd.R_lower (Kd.R_new' (Kd.R_new' ho0 (Kd.R_lt (zR_ HO_6.out))) (Kd.R_lt (zR_ HO215.out))) (below_size (zh1_ HB.out GE197.out))); replace HO_6 := Aside0.mk (Kd.R_elder' (zR_ HO_6.out) (Kd.R_base ho0) hb); replace HO215 := Aside0.mk (Kd.R_elder' (zR_ HO215.out) (Kd.R_base ho0) hb); replace BK197 := Aside0.mk (blk_below (zb_ BK197.out) hb); replace HB := Aside0.mk (below_step (zh1_ HB.out GE197.out) hb); (try clear hb); (try clear ho0)))
             go_roundg k3
             case measure => have := HJ3.out; have := HJ10.out; have := HK3.out; omega
             case rel => exact ⟨(t217), (wrap64 (x37_3 + 1)), (by first | rfl | (simp; done) | (simp [*]; done) | (simp only [i64_w]; done)), H', ⟨by have := HJ3.out; have := HJ10.out; have := HK3.out; omega⟩, ⟨by (with_reducible repeat (first | apply Kd.R_alloc | apply Kd.R_drewN | apply Kd.R_drew)); exact Kd.R_mono HO219.out (fun _ hk => trivial)⟩, ⟨by (with_reducible repeat (first | refine blk_drewN ?_ _ | refine blk_drew ?_ | refine blk_alloc ?_ _)); exact BK197.out⟩, ⟨by exact zh1_ HB.out GE197.out⟩⟩
            ·rw [if_neg c30] at H
             cases H
           ·replace c29 := Bool.eq_false_iff.mpr c29
            subst c29
            replace H := (if_neg (show ¬ (false = true) by decide)).symm.trans H
            obtain ⟨ji41, hji41⟩ : ∃ j_ : Int, (wrap64 (x37_3 + 1)) = j_ := ⟨_, rfl⟩
            replace H : (if 0 ≤ (ji41) then (if (ji41) < (l0_3.length : Int) then ((codec_Num.f k3 t213 (IntKind.u64.wrap (rd l0_3 (ji41)))).bind fun t221 => (node_Encode.l0 k3 t221 l0_1 (l0_1.length : Int) ji41 false l0_1 l0_2 l0_3)) else (none)) else (none)) = some (r1, r2) := by first | (rw [hji41] at H; exact H) | (simp only [hji41] at H ⊢; exact H)
            (try rw [hji41] at A28)
            have hji41w : (IntKind.i64.wrap (x37_3 + 1)) = ji41 := (i64_w _).trans hji41
            by_cases c42 : 0 ≤ (ji41)
            ·rw [if_pos c42] at H
             have c42b0 : decide (0 ≤ (ji41)) = true := decide_eq_true c42
             clear c42
             by_cases c43 : (ji41) < (l0_3.length : Int)
             ·rw [if_pos c43] at H
              have c43b0 : decide ((ji41) < (l0_3.length : Int)) = true := decide_eq_true c43
              clear c43
              obtain ⟨t221, A44, H⟩ := zm H
              (try dsimp only at H)
              have H' := Aside0.mk H
              clear H
              have p212 : 0 ≤ (x37_3 : Int) := of_decide_eq_true za_
              have q212 : x37_3 < (l0_1.length : Int) := of_decide_eq_true za_
              obtain ⟨ad212, A212_0, c212_0, e212, hx212_0, hl212_0, hi212_0⟩ := at_L1 HR0_1.out x37_3 p212 q212
              cases e212
              replace hx212_0 := zx_ HB.out hx212_0
              have HR212_0 := Aside0.mk hi212_0
              have HC212_0 := Aside0.mk hl212_0
              clear hi212_0 hl212_0
              replace p212 := eq_true p212
              replace q212 := eq_true q212
              have hcv45 := Kd.C_string (P := Try.prog) (A := A212_0) (c := c212_0) Try.underlying27 Try.underlying5 Try.underlying9 (Kd.C_below HR212_0.out HB.out)
              have hcw46 := fun n_ : Nat => Kd.C_string (P := Try.prog) (A := A212_0) (c := c212_0) Try.underlying27 Try.underlying5 Try.underlying9 (Kd.C_drewN (Kd.C_below HR212_0.out HB.out) n_)
              obtain ⟨Ao47, co47, eo47⟩ := Kd.R_slice HO_6.out
              subst eo47
              go_wp2_with (first | ((with_reducible refine gate_callee (f := 41) rfl ?_); refine goesL_ (some 45) rfl rfl Try.func41 (by kernel_rfl) rfl #[.slice Ao47 x6_3.length co47, .string (strOfNums (rd_L1 l0_1 x37_3))] rfl zl_ ?_; (with_reducible refine (codec_Text.calls k3 _ _ x6_3 (strOfNums (rd_L1 l0_1 x37_3)) t213 _ ?side1 ?side2 A28.out).mono ?_); (case side1 => repeat (first | exact (Kd.R_reads' HO_6.out).2.2 | (with_reducible refine Kd.C_alloc ?_ _) | (with_reducible refine Kd.C_drewN ?_ _) | (with_reducible refine Kd.C_drew ?_))); (case side2 => exact (Kd.R_reads' HO_6.out).2.1); rintro e w48 ⟨v214, rfl, ho0, hb⟩; refine ⟨_, rfl, ?_⟩; have HO215 := Aside0.mk (Kd.R_lower (Kd.R_new' ho0 (Kd.R_lt (zR_ HO_6.out))) (below_size (zh1_ HB.out GE197.out))); replace HO_6 := Aside0.mk (Kd.R_elder' (zR_ HO_6.out) (Kd.R_base ho0) hb); replace BK197 := Aside0.mk (blk_below (zb_ BK197.out) hb); replace HB := Aside0.mk (below_step (zh1_ HB.out GE197.out) hb); (try clear hb); (try clear ho0); obtain ⟨hcz49_0, hcz49_1, hcz49_2, hcz49_3⟩ := zc4 BK197.out; obtain ⟨hfz49_0, hfz49_1, hfz49_2, hfz49_3⟩ := zz4 BK197.out; have p220 : 0 ≤ ((ji41) : Int) := of_decide_eq_true za_; have q220 : (ji41) < (l0_3.length : Int) := of_decide_eq_true za_; obtain ⟨ad220, e220, hx220_0⟩ := Kd.at_int HR0_3.out (ji41) p220 q220; cases e220; replace hx220_0 := zx_ HB.out hx220_0; replace p220 := eq_true p220; replace q220 := eq_true q220; obtain ⟨Ao50, co50, eo50⟩ := Kd.R_slice HO215.out; subst eo50) | ((with_reducible refine gate_callee (f := 40) rfl ?_); refine goesL_ (some 64) rfl rfl Try.func40 (by kernel_rfl) rfl #[.slice Ao50 t213.length co50, .int .u64 (IntKind.u64.wrap (rd l0_3 (ji41)))] rfl (by (try simp only [List.map_toArray, List.map_cons, List.map_nil]); first | done | (simp only [hji41]; rfl) | rfl | (simp only [List.length_drop, List.length_take]; rfl)) ?_; (with_reducible refine (codec_Num.calls k3 _ _ t213 (IntKind.u64.wrap (rd l0_3 (ji41))) t221 _ ?side1 ?side2 A44.out).mono ?_); (case side1 => repeat (first | exact (Kd.R_reads' HO215.out).2.2 | (with_reducible refine Kd.C_alloc ?_ _) | (with_reducible refine Kd.C_drewN ?_ _) | (with_reducible refine Kd.C_drew ?_))); (case side2 => exact (Kd.R_reads' HO215.out).2.1); rintro e w51 ⟨v222, rfl, ho0, hb⟩; refine ⟨_, rfl, ?_⟩; have HO223 := Aside0.mk (Kd.R_lower (Kd.R_new' (Kd.R_new' ho0 (Kd.R_lt (zR_ HO_6.out))) (Kd.R_lt (zR_ HO215.out))) (below_size (zh1_ HB.out GE197.out))); replace HO_6 := Aside0.mk (Kd.R_elder' (zR_ HO_6.out) (Kd.R_base ho0) hb); replace HO215 := Aside0.mk (Kd.R_elder' (zR_ HO215.out) (Kd.R_base ho0) hb); replace BK197 := Aside0.mk (blk_below (zb_ BK197.out) hb); replace HB := Aside0.mk (below_step (zh1_ HB.out GE197.out) hb); (try clear hb); (try clear ho0)))
              go_roundg k3
              case measure => have := HJ3.out; have := HJ10.out; have := HK3.out; omega
              case rel => exact ⟨(t221), (ji41), (by first | rfl | (simp; done) | (simp only [← hji41] <;> (first | rfl | simp)) | (simp [*]; done)), H', ⟨by have := HJ3.out; have := HJ10.out; have := HK3.out; omega⟩, ⟨by (with_reducible repeat (first | apply Kd.R_alloc | apply Kd.R_drewN | apply Kd.R_drew)); exact Kd.R_mono HO223.out (fun _ hk => trivial)⟩, ⟨by (with_reducible repeat (first | refine blk_drewN ?_ _ | refine blk_drew ?_ | refine blk_alloc ?_ _)); exact BK197.out⟩, ⟨by exact zh1_ HB.out GE197.out⟩⟩
             ·rw [if_neg c43] at H
              cases H
            ·rw [if_neg c42] at H
             cases H
          ·rw [if_neg c27] at H
           cases H
         ·rw [if_neg c26] at H
          cases H
        ·rw [if_neg c25] at H
         have c25b0 : decide (x37_3 < (l0_1.length : Int)) = false := decide_eq_false c25
         clear c25
         by_cases c52 : 4092 ≤ 281474976710656
         ·rw [if_pos c52] at H
          have c52b0 := eq_true c52
          have c52b1 : decide (4092 ≤ 281474976710656) = true := decide_eq_true c52
          clear c52
          obtain ⟨tS, AS, H⟩ := zm H
          simp only [Option.some.injEq, Prod.mk.injEq] at H
          obtain ⟨rfl, rfl⟩ := H
          obtain ⟨Az, cz, ez⟩ := Kd.R_slice HO_6.out
          subst ez
          clear HK3
          obtain ⟨Z, hZ⟩ : ∃ Z, Z = List.replicate (4092 : Int).toNat (0 : Int) := ⟨_, rfl⟩
          have HZ := Aside0.mk hZ
          clear hZ
          unfold node_Encode.pad at AS
          rw [← HZ.out] at AS
          go_wp2_with (first | ((with_reducible refine gate_dst (N := 66) rfl ?_); refine Kd.R_make (Kd.int .u8) _ 5 rfl (N := 66) rfl 27 _ _ rfl 4092 rfl rfl Try.underlying27 (.int .u8 0) 1 info5 rfl (by decide) (by decide) (0 : Int) (ok := fun _ => True) (okp := fun _ => False) rfl (fun _ h => h.elim) trivial (by omega) (by decide) HB.out HB.out.size ?_; intro vm wm hom hbm hgm hnm; rw [← HZ.out] at hom; have HM := Aside0.mk hom; have HO2 := Aside0.mk (Kd.R_grown (row := none) HO_6.out hgm (by simp)); have HB2 := Aside0.mk hbm; have HG2 := Aside0.mk hgm; obtain ⟨Am, cm, em⟩ := Kd.R_slice hom; subst em; clear hom hbm hgm hnm) | ((with_reducible refine gate_builtin (b := .copy) (xs := #[.tmp 67, .tmp 68]) rfl ?_); refine Kd.R_copy (0 : Int) (w0 := w) w.heap.size rfl (.tmp 67) (.tmp 68) 27 27 5 rfl Try.underlying27 (by kernel_rfl) _ _ _ _ _ _ _ rfl rfl HM.out (Kd.R_reads' HO2.out).2.2 HB2.out HB2.out.size ?_; intro wc hoc hbc hgc; have HM3 := Aside0.mk hoc; have HB3 := Aside0.mk hbc; clear hoc hbc hgc) | (go_at_call 42; (refine (node_Encode.seal _ _ _ Z _ _ (Kd.R_reads' HM3.out).2.2 (Kd.R_reads' HM3.out).2.1 AS.out).mono ?_); rintro e wS ⟨vS, rfl, hoS, hbS⟩; have HS := Aside0.mk (Kd.R_lower hoS HB3.out.size); have HB4 := Aside0.mk (below_step HB3.out hbS); clear hoS hbS))
          go_ret2
          exact ⟨_, rfl, Kd.R_mono HS.out (fun _ _ => trivial), HB4.out⟩
         ·rw [if_neg c52] at H
          cases H
 ·rw [if_neg c3] at H
  obtain ⟨c3b0, c3b1⟩ := zq0 c3
  simp only [Option.some.injEq, Prod.mk.injEq] at H
  obtain ⟨rfl, rfl⟩ := H
  go_enter Try.func22, Try.ntmps22
  go_wp2_with (first | ((with_reducible refine gate_dst (N := 1) rfl ?_); refine box_event ?hg (N := 1) ?hd (cs := #[.bool a0_0, .slice A0_1 l0_1.length c0_1, .slice A0_2 l0_2.length c0_2, .slice A0_3 l0_3.length c0_3]) (t := 26) ?hr ?_; (case hd => rfl); (case hg => rfl); (case hr => first | (go_simp; done) | (go_simp; rfl)); intro gb197 hg w53 hbox hb; have BK197 := Aside0.mk (hbox); have GW197 := Aside0.mk ((by rw [hg]; exact (below_size (zh0_ HB.out)) : w.heap.size ≤ gb197)); have GE197 := Aside0.mk ((by rw [hg]; exact (below_size (zh0_ HB.out)) : w.heap.size ≤ gb197)); replace HB := Aside0.mk (below_step (zh0_ HB.out) hb); clear hb hbox hg; obtain ⟨hcz54_0, hcz54_1, hcz54_2, hcz54_3⟩ := zc4 BK197.out; obtain ⟨hfz54_0, hfz54_1, hfz54_2, hfz54_3⟩ := zz4 BK197.out) | ((with_reducible refine gate_callee (f := 19) rfl ?_); refine goesL_ (some 11) rfl rfl Try.func19 (by kernel_rfl) rfl #[.agg #[.bool a0_0, .slice A0_1 l0_1.length c0_1, .slice A0_2 l0_2.length c0_2, .slice A0_3 l0_3.length c0_3]] rfl zl_ ?_; (with_reducible refine (node_Check.calls k a0_0 _ _ l0_1 _ _ l0_2 _ _ l0_3 t198 _ ?side1 ?side2 ?side3 ?side4 ?side5 ?side6 A2.out).mono ?_); (case side1 => exact zc_ (Kd.C_below HR0_1.out HB.out)); (case side2 => exact HC0_1.out); (case side3 => exact zc_ (Kd.C_below HR0_2.out HB.out)); (case side4 => exact HC0_2.out); (case side5 => exact zc_ (Kd.C_below HR0_3.out HB.out)); (case side6 => exact HC0_3.out); rintro e w55 ⟨rfl, hb⟩; refine ⟨_, rfl, ?_⟩; replace BK197 := Aside0.mk (blk_below (zb_ BK197.out) hb); replace HB := Aside0.mk (below_step (zh1_ HB.out GE197.out) hb); (try clear hb)))
  go_ret2
  exact ⟨_, by first | rfl | (simp [errW_none, errW_some] <;> rfl) | (simp [*, errW_none, errW_some] <;> rfl), by first | exact Kd.R_nil _ _ _ _ _ | exact Kd.N_nil _ _ _ _ _ | exact Kd.V_nil _ _ _ _ _ | exact Kd.Q_nil _ _ _ _ _ | exact Kd.S_nil _ _ _ _ _, by exact zh1_ HB.out GE197.out⟩
end Go.Proofs.Ytcbgichkeecgiaa.Print
namespace Go.Proofs.Ytcbgichkeecgiaa.Print
open Go.RowKit Go.Proofs.YtcbgichkeecgiaaW.PrintWords Go.Proofs.YtcbgichkeecgiaaW.PrintLast Go.Proofs.YtcbgichkeecgiaaW.PrintMore
attribute [local go_sem] max2_mx min2_mn max_two min_two max_three min_three max_four min_four
set_option linter.unusedVariables false
set_option linter.unusedSimpArgs false
def node_Size.f (k : Nat) (a0_0 : Bool) (l0_1 : List (List Int)) (l0_2 : List (List Int)) (l0_3 : List Int) : Option (Int) := (node_made.f k a0_0 l0_1 l0_2 l0_3).bind fun t225 => (if t225 = true then ((node_size.f k a0_0 l0_1 l0_2 l0_3).bind fun t226 => (some t226)) else (some 0))
set_option maxHeartbeats 8000000 in
set_option maxRecDepth 100000 in
theorem node_Size.calls (k : Nat) (a0_0 : Bool) (A0_1 : Option Addr) (c0_1 : Nat) (l0_1 : List (List Int)) (A0_2 : Option Addr) (c0_2 : Nat) (l0_2 : List (List Int)) (A0_3 : Option Addr) (c0_3 : Nat) (l0_3 : List Int) (r : Int) (w : World) (hr0_1 : Kd.C (Kd.slice 5 (Kd.int .u8)) w A0_1 l0_1.length l0_1) (hc0_1 : l0_1.length ≤ c0_1) (hr0_2 : Kd.C (Kd.slice 5 (Kd.int .u8)) w A0_2 l0_2.length l0_2) (hc0_2 : l0_2.length ≤ c0_2) (hr0_3 : Kd.C (Kd.int .i64) w A0_3 l0_3.length l0_3) (hc0_3 : l0_3.length ≤ c0_3) (h : node_Size.f k a0_0 l0_1 l0_2 l0_3 = some r) :
  Calls Try.prog 23 #[.agg #[.bool a0_0, .slice A0_1 l0_1.length c0_1, .slice A0_2 l0_2.length c0_2, .slice A0_3 l0_3.length c0_3]] w fun e w' => e = .returned (.int .i64 r) ∧ Below w.heap.size w w' := by
 have hu26 := Try.underlying26
 have HR0_1 := Aside0.mk hr0_1
 have HC0_1 := Aside0.mk hc0_1
 clear hr0_1 hc0_1
 have HR0_2 := Aside0.mk hr0_2
 have HC0_2 := Aside0.mk hc0_2
 clear hr0_2 hc0_2
 have HR0_3 := Aside0.mk hr0_3
 have HC0_3 := Aside0.mk hc0_3
 clear hr0_3 hc0_3
 have HB := Aside0.mk (Below.refl w.heap.size w)
 have H : ((node_made.f k a0_0 l0_1 l0_2 l0_3).bind fun t225 => (if t225 = true then ((node_size.f k a0_0 l0_1 l0_2 l0_3).bind fun t226 => (some t226)) else (some 0))) = some r := h
 clear h
 obtain ⟨t225, A2, H⟩ := zm H
 (try dsimp only at H)
 by_cases c3 : t225 = true
 ·subst c3
  replace H := (if_pos (rfl : true = true)).symm.trans H
  obtain ⟨t226, A4, H⟩ := zm H
  (try dsimp only at H)
  obtain rfl := Option.some.inj H
  go_enter Try.func23, Try.ntmps23
  go_wp2_with (first | ((with_reducible refine gate_dst (N := 1) rfl ?_); refine box_event ?hg (N := 1) ?hd (cs := #[.bool a0_0, .slice A0_1 l0_1.length c0_1, .slice A0_2 l0_2.length c0_2, .slice A0_3 l0_3.length c0_3]) (t := 26) ?hr ?_; (case hd => rfl); (case hg => rfl); (case hr => first | (go_simp; done) | (go_simp; rfl)); intro gb224 hg w5 hbox hb; have BK224 := Aside0.mk (hbox); have GW224 := Aside0.mk ((by rw [hg]; exact (below_size (zh0_ HB.out)) : w.heap.size ≤ gb224)); have GE224 := Aside0.mk ((by rw [hg]; exact (below_size (zh0_ HB.out)) : w.heap.size ≤ gb224)); replace HB := Aside0.mk (below_step (zh0_ HB.out) hb); clear hb hbox hg; obtain ⟨hcz6_0, hcz6_1, hcz6_2, hcz6_3⟩ := zc4 BK224.out; obtain ⟨hfz6_0, hfz6_1, hfz6_2, hfz6_3⟩ := zz4 BK224.out) | ((with_reducible refine gate_callee (f := 39) rfl ?_); refine goesL_ (some 4) rfl rfl Try.func39 (by kernel_rfl) rfl #[.agg #[.bool a0_0, .slice A0_1 l0_1.length c0_1, .slice A0_2 l0_2.length c0_2, .slice A0_3 l0_3.length c0_3]] rfl zl_ ?_; (with_reducible refine (node_made.calls k a0_0 _ _ l0_1 _ _ l0_2 _ _ l0_3 true _ ?side1 ?side2 ?side3 ?side4 ?side5 ?side6 A2.out).mono ?_); (case side1 => exact zc_ (Kd.C_below HR0_1.out HB.out)); (case side2 => exact HC0_1.out); (case side3 => exact zc_ (Kd.C_below HR0_2.out HB.out)); (case side4 => exact HC0_2.out); (case side5 => exact zc_ (Kd.C_below HR0_3.out HB.out)); (case side6 => exact HC0_3.out); rintro e w7 ⟨rfl, hb⟩; refine ⟨_, rfl, ?_⟩; replace BK224 := Aside0.mk (blk_below (zb_ BK224.out) hb); replace HB := Aside0.mk (below_step (zh1_ HB.out GE224.out) hb); (try clear hb); obtain ⟨hcz8_0, hcz8_1, hcz8_2, hcz8_3⟩ := zc4 BK224.out; obtain ⟨hfz8_0, hfz8_1, hfz8_2, hfz8_3⟩ := zz4 BK224.out) | ((with_reducible refine gate_callee (f := 29) rfl ?_); refine goesL_ (some 7) rfl rfl Try.func29 (by kernel_rfl) rfl #[.agg #[.bool a0_0, .slice A0_1 l0_1.length c0_1, .slice A0_2 l0_2.length c0_2, .slice A0_3 l0_3.length c0_3]] rfl zl_ ?_; (with_reducible refine (node_size.calls k a0_0 _ _ l0_1 _ _ l0_2 _ _ l0_3 t226 _ ?side1 ?side2 ?side3 ?side4 ?side5 ?side6 A4.out).mono ?_); (case side1 => exact zc_ (Kd.C_below HR0_1.out HB.out)); (case side2 => exact HC0_1.out); (case side3 => exact zc_ (Kd.C_below HR0_2.out HB.out)); (case side4 => exact HC0_2.out); (case side5 => exact zc_ (Kd.C_below HR0_3.out HB.out)); (case side6 => exact HC0_3.out); rintro e w9 ⟨rfl, hb⟩; refine ⟨_, rfl, ?_⟩; replace BK224 := Aside0.mk (blk_below (zb_ BK224.out) hb); replace HB := Aside0.mk (below_step (zh1_ HB.out GE224.out) hb); (try clear hb)))
  go_ret
  exact ⟨by first | rfl | (simp [errW_none, errW_some] <;> rfl) | (simp [*, errW_none, errW_some] <;> rfl), by exact zh1_ HB.out GE224.out⟩
 ·replace c3 := Bool.eq_false_iff.mpr c3
  subst c3
  replace H := (if_neg (show ¬ (false = true) by decide)).symm.trans H
  obtain rfl := Option.some.inj H
  go_enter Try.func23, Try.ntmps23
  go_wp2_with (first | ((with_reducible refine gate_dst (N := 1) rfl ?_); refine box_event ?hg (N := 1) ?hd (cs := #[.bool a0_0, .slice A0_1 l0_1.length c0_1, .slice A0_2 l0_2.length c0_2, .slice A0_3 l0_3.length c0_3]) (t := 26) ?hr ?_; (case hd => rfl); (case hg => rfl); (case hr => first | (go_simp; done) | (go_simp; rfl)); intro gb224 hg w10 hbox hb; have BK224 := Aside0.mk (hbox); have GW224 := Aside0.mk ((by rw [hg]; exact (below_size (zh0_ HB.out)) : w.heap.size ≤ gb224)); have GE224 := Aside0.mk ((by rw [hg]; exact (below_size (zh0_ HB.out)) : w.heap.size ≤ gb224)); replace HB := Aside0.mk (below_step (zh0_ HB.out) hb); clear hb hbox hg; obtain ⟨hcz11_0, hcz11_1, hcz11_2, hcz11_3⟩ := zc4 BK224.out; obtain ⟨hfz11_0, hfz11_1, hfz11_2, hfz11_3⟩ := zz4 BK224.out) | ((with_reducible refine gate_callee (f := 39) rfl ?_); refine goesL_ (some 4) rfl rfl Try.func39 (by kernel_rfl) rfl #[.agg #[.bool a0_0, .slice A0_1 l0_1.length c0_1, .slice A0_2 l0_2.length c0_2, .slice A0_3 l0_3.length c0_3]] rfl zl_ ?_; (with_reducible refine (node_made.calls k a0_0 _ _ l0_1 _ _ l0_2 _ _ l0_3 false _ ?side1 ?side2 ?side3 ?side4 ?side5 ?side6 A2.out).mono ?_); (case side1 => exact zc_ (Kd.C_below HR0_1.out HB.out)); (case side2 => exact HC0_1.out); (case side3 => exact zc_ (Kd.C_below HR0_2.out HB.out)); (case side4 => exact HC0_2.out); (case side5 => exact zc_ (Kd.C_below HR0_3.out HB.out)); (case side6 => exact HC0_3.out); rintro e w12 ⟨rfl, hb⟩; refine ⟨_, rfl, ?_⟩; replace BK224 := Aside0.mk (blk_below (zb_ BK224.out) hb); replace HB := Aside0.mk (below_step (zh1_ HB.out GE224.out) hb); (try clear hb)))
  go_ret
  exact ⟨by first | rfl | (simp [errW_none, errW_some] <;> rfl) | (simp [*, errW_none, errW_some] <;> rfl), by exact zh1_ HB.out GE224.out⟩
theorem ladinglaw06_lives.v1 : node_Find.f 20 true [[97], [98]] [[49], [50]] [] [98] = some (1, true, 0) := by kernel_rfl
theorem ladinglaw06_lives.v2 : node_Split.f 20 true [[97], [98]] [[49], [50]] [] = some (true, [[97]], [[49]], [], [98], true, [[98]], [[50]], [], 0) := by kernel_rfl
theorem ladinglaw06_lives.v3 : node_Put.f 20 false [[97]] [] [1, 2] [] [] = some (false, [], [], [], 15) := by kernel_rfl
theorem ladinglaw06_lives.v4 : node_Size.f 20 true [[97], [98]] [[49], [50]] [] = some 14 := by kernel_rfl
theorem ladinglaw06_lives.v5 : node_Encode.f 20 true [[97], [98]] [[49], [50]] [] = ((crc_Seal.f (node_Encode.pad [1, 2, 1, 97, 1, 49, 1, 98, 1, 50])).bind fun t => some (t, 0)) := by kernel_rfl
theorem ladinglaw06_lives.seal (l : List Int) (hl : l.length = 4092) : ∃ b, crc_Seal.f l = some b ∧ b.length = 4096 := by
 have hw : wrap64 ((l.length : Int) + 4) = 4096 := by unfold wrap64; omega
 obtain ⟨t, ht⟩ : ∃ t, crc_Update.f 0 l = some t := ⟨_, rfl⟩
 unfold crc_Seal.f crc_Of.f
 rw [ht, hw]
 simp only [Option.bind_some]
 rw [if_pos (by omega), if_pos (by decide), if_pos (by simp only [List.length_nil]; omega), if_pos (by simp only [List.nil_append, List.length_cons, List.length_nil]; omega)]
 exact ⟨_, rfl, by simp only [List.nil_append, List.length_append, List.length_cons, List.length_nil]; omega⟩
theorem ladinglaw06_lives.enc : ∃ b, node_Encode.f 20 true [[97], [98]] [[49], [50]] [] = some (b, 0) ∧ b.length = 4096 := by
 obtain ⟨b, hb, hl⟩ := ladinglaw06_lives.seal (node_Encode.pad [1, 2, 1, 97, 1, 49, 1, 98, 1, 50]) ((node_Encode.pad_len _ _).trans (List.length_replicate.trans (by decide)))
 exact ⟨b, by rw [ladinglaw06_lives.v5, hb]; rfl, hl⟩
theorem ladinglaw06_lives.row1 (W : World) (G g0 : Nat) (x0 : Int) (fr0 fr : Nat × Nat) (h : W.heap[G]? = some (.cells #[.slice (some ⟨g0, 0, none⟩) 1 1] 27 fr)) (h0 : W.heap[g0]? = some (.cells #[.int .u8 x0] 5 fr0)) : Kd.C (Kd.slice 5 (Kd.int .u8)) W (some ⟨G, 0, none⟩) [[x0]].length [[x0]] := by
 refine ⟨rfl, by simp, fun _ => ⟨_, rfl, fun j p hj => ?_⟩⟩
 match j, hj with
 | 0, hj =>
  obtain rfl : [x0] = p := by simpa using hj
  refine ⟨[.slice (some ⟨g0, 0, none⟩) 1 1], rfl, ⟨_, _, rfl, Nat.le_refl _, ladinglaw06_two.byte_reads W g0 x0 fr0 h0⟩, fun i u hu => ?_⟩
  match i, hu with
  | 0, hu =>
   rw [show (⟨G, 0, none⟩ : Addr).add (0 * (Kd.slice 5 (Kd.int IntKind.u8)).sz + 0) = ⟨G, 0, none⟩ by unfold Addr.add; rfl, cell_of_row W G 0 _ _ _ h]
   exact hu
theorem ladinglaw06_lives.ints2 (W : World) (G : Nat) (x0 x1 : Int) (fr : Nat × Nat) (h : W.heap[G]? = some (.cells #[.int .i64 x0, .int .i64 x1] 3 fr)) : Kd.C (Kd.int .i64) W (some ⟨G, 0, none⟩) [x0, x1].length [x0, x1] := by
 refine ⟨rfl, by simp, fun _ => ⟨_, rfl, fun j p hj => ?_⟩⟩
 match j, hj with
 | 0, hj =>
  obtain rfl : x0 = p := by simpa using hj
  refine ⟨[.int .i64 x0], rfl, rfl, fun i u hu => ?_⟩
  match i, hu with
  | 0, hu =>
   rw [show (⟨G, 0, none⟩ : Addr).add (0 * (Kd.int IntKind.i64).sz + 0) = ⟨G, 0, none⟩ by unfold Addr.add; rfl, cell_of_row W G 0 _ _ _ h]
   exact hu
 | 1, hj =>
  obtain rfl : x1 = p := by simpa using hj
  refine ⟨[.int .i64 x1], rfl, rfl, fun i u hu => ?_⟩
  match i, hu with
  | 0, hu =>
   rw [show (⟨G, 0, none⟩ : Addr).add (1 * (Kd.int IntKind.i64).sz + 0) = ⟨G, 1, none⟩ by unfold Addr.add; rfl, cell_of_row W G 1 _ _ _ h]
   exact hu
theorem ladinglaw06_lives.farF {α : Type} {d : Kd α} {W : World} {ok : Nat → Prop} {A : Option Addr} {n : Nat} {xs : List α} {g : Nat} (h : Kd.F d W ok A n xs) (hok : ∀ k, ok k → k ≠ g) (x0 x1 x2 x3 : Value) :
  Kd.F d ((((W.setCell ⟨g, 0, none⟩ x0).setCell ⟨g, 1, none⟩ x1).setCell ⟨g, 2, none⟩ x2).setCell ⟨g, 3, none⟩ x3) ok A n xs :=
 Kd.F_far (Kd.F_far (Kd.F_far (Kd.F_far h hok x0) hok x1) hok x2) hok x3
def ladinglaw06_lives.f : Option Bool := some true
set_option maxHeartbeats 8000000 in
set_option maxRecDepth 100000 in
theorem ladinglaw06_lives.calls (r : Bool) (w : World) (h : ladinglaw06_lives.f = some r) :
  Calls Try.prog 9 #[] w fun e w' => e = .returned (.bool r) ∧ Below w.heap.size w w' := by
 obtain rfl := Option.some.inj h
 clear h
 have kc : ∀ (W : World) (b : Nat) (C : Array Value) (n c : Nat), W.heap.size = b → (convert 27 27 (.slice (some ⟨b, 0, none⟩) n c)).run Try.prog (W.alloc (.cells C 5)) = .ok (.slice (some ⟨b, 0, none⟩) n c) (W.alloc (.cells C 5 (C.size, C.size + 1))) := by
  rintro W _ C n c rfl
  exact Lib.run_convert_bytes_const (P := Try.prog) W 27 5 C n c Try.underlying27 Try.underlying5
 have KC := Aside0.mk kc
 have hu26 := Try.underlying26
 obtain ⟨eb, heb, hel⟩ := ladinglaw06_lives.enc
 have HEB := Aside0.mk heb
 have HEL := Aside0.mk hel
 clear heb hel kc
 go_enter Try.func9, Try.ntmps9
 go_wp2_with fail
 refine (ladinglaw06_two.calls true [[97], [98]] [[49], [50]] [] _ rfl).mono ?_
 rintro e w1 ⟨_, _, _, rfl, ⟨A1, c1, rfl, l1, F1⟩, ⟨A2, c2, rfl, l2, F2⟩, ⟨A3, c3, rfl, l3, F3⟩, hb⟩
 have HB1 := Aside0.mk (hb)
 have G1 := Aside0.mk (Kd.F_now F1)
 have G2 := Aside0.mk (Kd.F_now F2)
 have G3 := Aside0.mk (Kd.F_now F3)
 have M1 := Aside0.mk l1
 have M2 := Aside0.mk l2
 have M3 := Aside0.mk l3
 clear F1 F2 F3 l1 l2 l3 hb
 have kc := KC.out
 go_wp2_with fail
 clear kc
 have hb2 := below_alloc (Below.refl _ w1) (.cells #[.int .u8 98] 5 (1, 2))
 have hK := ladinglaw06_two.byte_reads _ w1.heap.size 98 (1, 2) (ladinglaw06_two.new_at (o := .cells #[.int .u8 98] 5 (1, 2)) (rfl : w1.heap.size = w1.heap.size))
 refine (node_Find.calls 20 true A1 c1 [[97], [98]] A2 c2 [[49], [50]] A3 c3 [] (some ⟨w1.heap.size, 0, none⟩) 1 [98] 1 true 0 _ (Kd.C_below G1.out hb2) M1.out (Kd.C_below G2.out hb2) M2.out (Kd.C_below G3.out hb2) M3.out hK (Nat.le_refl _) ladinglaw06_lives.v1).mono ?_
 rintro e w2 ⟨rfl, hb3⟩
 have HB2 := Aside0.mk (below_step (below_step HB1.out hb2) hb3)
 clear hb2 hb3 hK G1 G2 G3 M1 M2 M3 HB1
 go_wp2_with fail
 refine (ladinglaw06_two.calls true [[97], [98]] [[49], [50]] [] _ rfl).mono ?_
 rintro e w3 ⟨_, _, _, rfl, ⟨A1, c1, rfl, l1, F1⟩, ⟨A2, c2, rfl, l2, F2⟩, ⟨A3, c3, rfl, l3, F3⟩, hb⟩
 have HB3 := Aside0.mk (below_step HB2.out hb)
 have G1 := Aside0.mk (Kd.F_now F1)
 have G2 := Aside0.mk (Kd.F_now F2)
 have G3 := Aside0.mk (Kd.F_now F3)
 have M1 := Aside0.mk l1
 have M2 := Aside0.mk l2
 have M3 := Aside0.mk l3
 clear F1 F2 F3 l1 l2 l3 hb HB2
 go_wp2_with fail
 refine (node_Split.calls 20 true A1 c1 [[97], [98]] A2 c2 [[49], [50]] A3 c3 [] true [[97]] [[49]] [] [98] true [[98]] [[50]] [] 0 _ G1.out M1.out G2.out M2.out G3.out M3.out ladinglaw06_lives.v2).mono ?_
 rintro e w4 ⟨_, _, _, _, _, _, _, rfl, ⟨B1, d1, rfl, -, -⟩, ⟨B2, d2, rfl, -, -⟩, ⟨B3, d3, rfl, -, -⟩, ⟨BK, dK, rfl, lK, FK_⟩, ⟨B6, d6, rfl, -, -⟩, ⟨B7, d7, rfl, -, -⟩, ⟨B8, d8, rfl, -, -⟩, hb⟩
 have HB4 := Aside0.mk (below_step HB3.out hb)
 have GK := Aside0.mk (Kd.F_bound FK_)
 clear FK_ lK hb HB3 G1 G2 G3 M1 M2 M3
 go_wp2_with (first | ((with_reducible refine gate_dst (N := 4) rfl ?_); refine box_event ?hg (N := 4) ?hd (cs := #[.bool false, .slice none 0 0, .slice none 0 0, .slice none 0 0]) (t := 26) ?hr ?_; (case hd => rfl); (case hg => rfl); (case hr => first | (go_simp; done) | (go_simp; rfl)); intro g4 hg4 w5 hbox hb; have GE4 : Aside0 (w.heap.size ≤ g4) := ⟨by rw [hg4]; exact HB4.out.size⟩; have BK4 := Aside0.mk hbox; have HB5 := Aside0.mk (below_step HB4.out hb); have NK4 : Aside0 (∀ k, (w3.heap.size ≤ k ∧ k < w4.heap.size) → k ≠ g4) := ⟨fun k hk hh => by rw [hh, hg4] at hk; exact Nat.lt_irrefl _ hk.2⟩; have GK5 := Aside0.mk (Kd.F_below GK.out hb); have SZ5 : Aside0 (w4.heap.size ≤ w5.heap.size) := ⟨hb.size⟩; clear hbox hb hg4 HB4 GK) | ((with_reducible refine gate_dst (N := 6) rfl ?_); refine box_event ?hg (N := 6) ?hd (cs := #[.bool false, .slice none 0 0, .slice none 0 0, .slice none 0 0]) (t := 26) ?hr ?_; (case hd => rfl); (case hg => rfl); (case hr => first | (go_simp; done) | (go_simp; rfl)); intro g6 hg6 w6 hbox hb; have GE6 : Aside0 (w.heap.size ≤ g6 ∧ g4 ≠ g6) := ⟨by rw [hg6]; exact HB5.out.size, by rw [hg6]; exact Nat.ne_of_lt (blk_lt BK4.out)⟩; have NK6 : Aside0 (∀ k, (w3.heap.size ≤ k ∧ k < w4.heap.size) → k ≠ g6) := ⟨fun k hk hh => by rw [hh, hg6] at hk; exact Nat.lt_irrefl _ (Nat.lt_of_lt_of_le hk.2 SZ5.out)⟩; have BK6 := Aside0.mk hbox; have BK4b := Aside0.mk (blk_below BK4.out hb); have HB6 := Aside0.mk (below_step HB5.out hb); have GK6 := Aside0.mk (Kd.F_below GK5.out hb); obtain ⟨p0, p1, p2, p3⟩ := cells4 BK4b.out; obtain ⟨q0, q1, q2, q3⟩ := cells4 BK6.out; have pf0 := blk_frozen BK4b.out 0; have qf0 := blk_frozen BK6.out 0; have pf1 := blk_frozen BK4b.out 1; have qf1 := blk_frozen BK6.out 1; have pf2 := blk_frozen BK4b.out 2; have qf2 := blk_frozen BK6.out 2; have pf3 := blk_frozen BK4b.out 3; have qf3 := blk_frozen BK6.out 3; have hne1 : ¬ g4 = g6 := GE6.out.2; have hne2 : ¬ g6 = g4 := Ne.symm GE6.out.2; clear hbox hb hg6 HB5 GK5 BK4 SZ5))
 have HB7 := Aside0.mk (pageW (pageW HB6.out GE4.out (.bool true) (.slice B1 1 d1) (.slice B2 1 d2) (.slice B3 0 d3)) GE6.out.1 (.bool true) (.slice B6 1 d6) (.slice B7 1 d7) (.slice B8 0 d8))
 have BK7 := Aside0.mk (pageB (pageF BK6.out (Ne.symm GE6.out.2) (.bool true) (.slice B1 1 d1) (.slice B2 1 d2) (.slice B3 0 d3)) (.bool true) (.slice B6 1 d6) (.slice B7 1 d7) (.slice B8 0 d8))
 have GK7 := Aside0.mk (ladinglaw06_lives.farF (ladinglaw06_lives.farF GK6.out NK4.out (.bool true) (.slice B1 1 d1) (.slice B2 1 d2) (.slice B3 0 d3)) NK6.out (.bool true) (.slice B6 1 d6) (.slice B7 1 d7) (.slice B8 0 d8))
 clear p0 p1 p2 p3 q0 q1 q2 q3 pf0 pf1 pf2 pf3 qf0 qf1 qf2 qf3 hne1 hne2 BK4b BK6 HB6 GK6 NK4 NK6 GE4 GE6
 obtain ⟨w7, hw7⟩ : ∃ w7, w7 = ((((((((w6.setCell ⟨g4, 0, none⟩ (.bool true)).setCell ⟨g4, 1, none⟩ (.slice B1 1 d1)).setCell ⟨g4, 2, none⟩ (.slice B2 1 d2)).setCell ⟨g4, 3, none⟩ (.slice B3 0 d3)).setCell ⟨g6, 0, none⟩ (.bool true)).setCell ⟨g6, 1, none⟩ (.slice B6 1 d6)).setCell ⟨g6, 2, none⟩ (.slice B7 1 d7)).setCell ⟨g6, 3, none⟩ (.slice B8 0 d8)) := ⟨_, rfl⟩
 rw [← hw7] at HB7 BK7 GK7 ⊢
 clear hw7
 refine (ladinglaw06_two.calls true [[97], [98]] [[49], [50]] [] _ rfl).mono ?_
 rintro e w8 ⟨_, _, _, rfl, ⟨A1, c1, rfl, l1, F1⟩, ⟨A2, c2, rfl, l2, F2⟩, ⟨A3, c3, rfl, l3, F3⟩, hb⟩
 have HB8 := Aside0.mk (below_step HB7.out hb)
 have BK8 := Aside0.mk (blk_below BK7.out hb)
 have GK8 := Aside0.mk (Kd.F_below GK7.out hb)
 have G1 := Aside0.mk (Kd.F_now F1)
 have G2 := Aside0.mk (Kd.F_now F2)
 have G3 := Aside0.mk (Kd.F_now F3)
 have M1 := Aside0.mk l1
 have M2 := Aside0.mk l2
 have M3 := Aside0.mk l3
 clear F1 F2 F3 l1 l2 l3 hb HB7 BK7 GK7
 go_wp2_with fail
 refine (node_Encode.calls 20 true A1 c1 [[97], [98]] A2 c2 [[49], [50]] A3 c3 [] eb 0 _ G1.out M1.out G2.out M2.out G3.out M3.out HEB.out).mono ?_
 rintro e w9 ⟨_, rfl, hev, hb⟩
 obtain ⟨EA, ec, rfl⟩ := Kd.R_slice hev
 have HB9 := Aside0.mk (below_step HB8.out hb)
 have BK9 := Aside0.mk (blk_below BK8.out hb)
 have GK9 := Aside0.mk (Kd.F_below GK8.out hb)
 clear hev hb HB8 BK8 GK8 G1 G2 G3 M1 M2 M3
 have kc := KC.out
 go_wp2_with fail
 clear kc
 have hb2 := below_alloc (below_alloc (below_alloc (Below.refl _ w9) (.cells #[.int .u8 97] 5 (1, 2))) (.cells #[.slice (some ⟨w9.heap.size, 0, none⟩) 1 1] 27)) (.cells #[.int .i64 1, .int .i64 2] 3)
 have n0 := ladinglaw06_two.old_at (o' := (.cells #[.int .i64 1, .int .i64 2] 3)) (ladinglaw06_two.old_at (o' := (.cells #[.slice (some ⟨w9.heap.size, 0, none⟩) 1 1] 27)) (ladinglaw06_two.new_at (o := (.cells #[.int .u8 97] 5 (1, 2))) (rfl : w9.heap.size = w9.heap.size)))
 have n1 := ladinglaw06_two.old_at (o' := (.cells #[.int .i64 1, .int .i64 2] 3)) (ladinglaw06_two.new_at (o := (.cells #[.slice (some ⟨w9.heap.size, 0, none⟩) 1 1] 27)) (ladinglaw06_two.size_at (o := (.cells #[.int .u8 97] 5 (1, 2))) (rfl : w9.heap.size = w9.heap.size)))
 have n2 := ladinglaw06_two.new_at (o := (.cells #[.int .i64 1, .int .i64 2] 3)) (ladinglaw06_two.size_at (o := (.cells #[.slice (some ⟨w9.heap.size, 0, none⟩) 1 1] 27)) (ladinglaw06_two.size_at (o := (.cells #[.int .u8 97] 5 (1, 2))) (rfl : w9.heap.size = w9.heap.size)))
 refine (node_Put.calls 20 false (some ⟨w9.heap.size + 1, 0, none⟩) 1 [[97]] none 0 [] (some ⟨w9.heap.size + 1 + 1, 0, none⟩) 2 [1, 2] none 0 [] none 0 [] false [] [] [] 15 _ (ladinglaw06_lives.row1 _ _ _ _ _ _ n1 n0) (Nat.le_refl _) (Kd.C_nil _ _) (Nat.le_refl _) (ladinglaw06_lives.ints2 _ _ _ _ _ n2) (Nat.le_refl _) (Kd.C_nil _ _) (Nat.le_refl _) (Kd.C_nil _ _) (Nat.le_refl _) ladinglaw06_lives.v3).mono ?_
 rintro e w10 ⟨_, _, _, rfl, ⟨Y1, y1, rfl, -, -⟩, ⟨Y2, y2, rfl, -, -⟩, ⟨Y3, y3, rfl, -, -⟩, hb3⟩
 have hb4 := below_step hb2 hb3
 have HB10 := Aside0.mk (below_step HB9.out hb4)
 have BK10 := Aside0.mk (blk_below BK9.out hb4)
 have GK10 := Aside0.mk (Kd.F_below GK9.out hb4)
 clear hb2 hb3 hb4 n0 n1 n2 HB9 BK9 GK9
 go_wp2_with (first | ((with_reducible refine gate_dst (N := 10) rfl ?_); refine box_event ?hg (N := 10) ?hd (cs := #[.bool false, .slice none 0 0, .slice none 0 0, .slice none 0 0]) (t := 26) ?hr ?_; (case hd => rfl); (case hg => rfl); (case hr => first | (go_simp; done) | (go_simp; rfl)); intro gx hgx w11 hbox hb; have GEX : Aside0 (w.heap.size ≤ gx ∧ g6 ≠ gx) := ⟨by rw [hgx]; exact HB10.out.size, by rw [hgx]; exact Nat.ne_of_lt (blk_lt BK10.out)⟩; have NKX : Aside0 (∀ k, ((w3.heap.size ≤ k ∧ k < w4.heap.size) ∧ k < w10.heap.size) → k ≠ gx) := ⟨fun k hk hh => by rw [hh, hgx] at hk; exact Nat.lt_irrefl _ hk.2⟩; have BX := Aside0.mk hbox; have BK11 := Aside0.mk (blk_below BK10.out hb); have HB11 := Aside0.mk (below_step HB10.out hb); have GK11 := Aside0.mk (Kd.F_below (Kd.F_bound GK10.out) hb); obtain ⟨p0, p1, p2, p3⟩ := cells4 BX.out; have pf0 := blk_frozen BX.out 0; have pf1 := blk_frozen BX.out 1; have pf2 := blk_frozen BX.out 2; have pf3 := blk_frozen BX.out 3; clear hbox hb hgx HB10 GK10 BK10))
 have HB12 := Aside0.mk (pageW HB11.out GEX.out.1 (.bool false) (.slice Y1 0 y1) (.slice Y2 0 y2) (.slice Y3 0 y3))
 have BK12 := Aside0.mk (pageF BK11.out GEX.out.2 (.bool false) (.slice Y1 0 y1) (.slice Y2 0 y2) (.slice Y3 0 y3))
 have GK12 := Aside0.mk (ladinglaw06_lives.farF GK11.out NKX.out (.bool false) (.slice Y1 0 y1) (.slice Y2 0 y2) (.slice Y3 0 y3))
 clear p0 p1 p2 p3 pf0 pf1 pf2 pf3 BX BK11 HB11 GK11 NKX GEX
 obtain ⟨w12, hw12⟩ : ∃ w12, w12 = ((((w11.setCell ⟨gx, 0, none⟩ (.bool false)).setCell ⟨gx, 1, none⟩ (.slice Y1 0 y1)).setCell ⟨gx, 2, none⟩ (.slice Y2 0 y2)).setCell ⟨gx, 3, none⟩ (.slice Y3 0 y3)) := ⟨_, rfl⟩
 rw [← hw12] at HB12 BK12 GK12 ⊢
 clear hw12
 refine (ladinglaw06_two.calls true [[97], [98]] [[49], [50]] [] _ rfl).mono ?_
 rintro e w13 ⟨_, _, _, rfl, ⟨A1, c1, rfl, l1, F1⟩, ⟨A2, c2, rfl, l2, F2⟩, ⟨A3, c3, rfl, l3, F3⟩, hb⟩
 have HB13 := Aside0.mk (below_step HB12.out hb)
 have BK13 := Aside0.mk (blk_below BK12.out hb)
 have GK13 := Aside0.mk (Kd.F_below GK12.out hb)
 have G1 := Aside0.mk (Kd.F_now F1)
 have G2 := Aside0.mk (Kd.F_now F2)
 have G3 := Aside0.mk (Kd.F_now F3)
 have M1 := Aside0.mk l1
 have M2 := Aside0.mk l2
 have M3 := Aside0.mk l3
 clear F1 F2 F3 l1 l2 l3 hb HB12 BK12 GK12
 go_wp2_with fail
 refine (node_Size.calls 20 true A1 c1 [[97], [98]] A2 c2 [[49], [50]] A3 c3 [] 14 _ G1.out M1.out G2.out M2.out G3.out M3.out ladinglaw06_lives.v4).mono ?_
 rintro e w14 ⟨rfl, hb⟩
 have HB14 := Aside0.mk (below_step HB13.out hb)
 have BK14 := Aside0.mk (blk_below BK13.out hb)
 have GK14 := Aside0.mk (Kd.F_below GK13.out hb)
 clear hb HB13 BK13 GK13 G1 G2 G3 M1 M2 M3
 obtain ⟨q0, q1, q2, q3⟩ := cells4 BK14.out
 have hcv0 := Kd.C_string (P := Try.prog) (A := BK) (c := dK) Try.underlying27 Try.underlying5 Try.underlying9 (Kd.F_now GK14.out)
 have hcv : (convert 27 9 (.slice BK 1 dK)).run Try.prog w14 = .ok (.string { data := #[98] }) w14 := hcv0
 clear hcv0
 have hel := HEL.out
 go_wp2_with fail
 go_ret
 exact ⟨rfl, HB14.out⟩
end Go.Proofs.Ytcbgichkeecgiaa.Print
namespace Go.Proofs.Ytcbgichkeecgiaa.Print
open Go.RowKit Go.Proofs.YtcbgichkeecgiaaW.PrintWords Go.Proofs.YtcbgichkeecgiaaW.PrintLast Go.Proofs.YtcbgichkeecgiaaW.PrintMore
attribute [local go_sem] max2_mx min2_mn max_two min_two max_three min_three max_four min_four
set_option linter.unusedVariables false
set_option linter.unusedSimpArgs false
mutual
def ladingref06_Same.j0 : Nat → Bool → Bool → List (List Int) → List (List Int) → List Int → Bool → List (List Int) → List (List Int) → List Int → Option (Bool)
 | 0, _, _, _, _, _, _, _, _, _ => none
 | k + 1, x39, x228000, x228001, x228002, x228003, x229000, x229001, x229002, x229003 => if x39 = true then (some false) else (ladingref06_Same.l0 k (x228001.length : Int) 0 x228000 x228001 x228002 x228003 x229000 x229001 x229002 x229003)
def ladingref06_Same.l0 : Nat → Int → Int → Bool → List (List Int) → List (List Int) → List Int → Bool → List (List Int) → List (List Int) → List Int → Option (Bool)
 | 0, _, _, _, _, _, _, _, _, _, _ => none
 | k + 1, x42, x43, x228000, x228001, x228002, x228003, x229000, x229001, x229002, x229003 => if x43 < x42 then (if 0 ≤ x43 then (if x43 < (x228001.length : Int) then (if x43 < (x229001.length : Int) then (if (strOfNums (rd_L1 x228001 x43)).toList = (strOfNums (rd_L1 x229001 x43)).toList then (ladingref06_Same.l0 k x42 (wrap64 (x43 + 1)) x228000 x228001 x228002 x228003 x229000 x229001 x229002 x229003) else (some false)) else (none)) else (none)) else (none)) else (ladingref06_Same.l1 k (x228002.length : Int) 0 x228000 x228001 x228002 x228003 x229000 x229001 x229002 x229003)
def ladingref06_Same.l1 : Nat → Int → Int → Bool → List (List Int) → List (List Int) → List Int → Bool → List (List Int) → List (List Int) → List Int → Option (Bool)
 | 0, _, _, _, _, _, _, _, _, _, _ => none
 | k + 1, x62, x63, x228000, x228001, x228002, x228003, x229000, x229001, x229002, x229003 => if x63 < x62 then (if 0 ≤ x63 then (if x63 < (x228002.length : Int) then (if x63 < (x229002.length : Int) then (if (strOfNums (rd_L1 x228002 x63)).toList = (strOfNums (rd_L1 x229002 x63)).toList then (ladingref06_Same.l1 k x62 (wrap64 (x63 + 1)) x228000 x228001 x228002 x228003 x229000 x229001 x229002 x229003) else (some false)) else (none)) else (none)) else (none)) else (ladingref06_Same.l2 k (x228003.length : Int) 0 x228000 x228001 x228002 x228003 x229000 x229001 x229002 x229003)
def ladingref06_Same.l2 : Nat → Int → Int → Bool → List (List Int) → List (List Int) → List Int → Bool → List (List Int) → List (List Int) → List Int → Option (Bool)
 | 0, _, _, _, _, _, _, _, _, _, _ => none
 | k + 1, x82, x83, x228000, x228001, x228002, x228003, x229000, x229001, x229002, x229003 => if x83 < x82 then (if 0 ≤ x83 then (if x83 < (x228003.length : Int) then (if x83 < (x229003.length : Int) then (if (rd x228003 x83) = (rd x229003 x83) then (ladingref06_Same.l2 k x82 (wrap64 (x83 + 1)) x228000 x228001 x228002 x228003 x229000 x229001 x229002 x229003) else (some false)) else (none)) else (none)) else (none)) else (some true)
end
def ladingref06_Same.f (k : Nat) (a0_0 : Bool) (l0_1 : List (List Int)) (l0_2 : List (List Int)) (l0_3 : List Int) (a1_0 : Bool) (l1_1 : List (List Int)) (l1_2 : List (List Int)) (l1_3 : List Int) : Option (Bool) := if (a0_0 != a1_0) = true then (ladingref06_Same.j0 k true a0_0 l0_1 l0_2 l0_3 a1_0 l1_1 l1_2 l1_3) else (if (l0_1.length : Int) = (l1_1.length : Int) then (if (l0_2.length : Int) = (l1_2.length : Int) then (ladingref06_Same.j0 k ((l0_3.length : Int) != (l1_3.length : Int)) a0_0 l0_1 l0_2 l0_3 a1_0 l1_1 l1_2 l1_3) else (ladingref06_Same.j0 k true a0_0 l0_1 l0_2 l0_3 a1_0 l1_1 l1_2 l1_3)) else (ladingref06_Same.j0 k true a0_0 l0_1 l0_2 l0_3 a1_0 l1_1 l1_2 l1_3))
theorem ladingref06_Same.mono_l : ∀ k, (∀ y0 y1 y2 y3 y4 y5 y6 y7 y8, LeO (ladingref06_Same.j0 k y0 y1 y2 y3 y4 y5 y6 y7 y8) (ladingref06_Same.j0 (k + 1) y0 y1 y2 y3 y4 y5 y6 y7 y8)) ∧ (∀ y0 y1 y2 y3 y4 y5 y6 y7 y8 y9, LeO (ladingref06_Same.l0 k y0 y1 y2 y3 y4 y5 y6 y7 y8 y9) (ladingref06_Same.l0 (k + 1) y0 y1 y2 y3 y4 y5 y6 y7 y8 y9)) ∧ (∀ y0 y1 y2 y3 y4 y5 y6 y7 y8 y9, LeO (ladingref06_Same.l1 k y0 y1 y2 y3 y4 y5 y6 y7 y8 y9) (ladingref06_Same.l1 (k + 1) y0 y1 y2 y3 y4 y5 y6 y7 y8 y9)) ∧ (∀ y0 y1 y2 y3 y4 y5 y6 y7 y8 y9, LeO (ladingref06_Same.l2 k y0 y1 y2 y3 y4 y5 y6 y7 y8 y9) (ladingref06_Same.l2 (k + 1) y0 y1 y2 y3 y4 y5 y6 y7 y8 y9))
 | 0 => ⟨fun _ _ _ _ _ _ _ _ _ r h => by simp [ladingref06_Same.j0] at h, fun _ _ _ _ _ _ _ _ _ _ r h => by simp [ladingref06_Same.l0] at h, fun _ _ _ _ _ _ _ _ _ _ r h => by simp [ladingref06_Same.l1] at h, fun _ _ _ _ _ _ _ _ _ _ r h => by simp [ladingref06_Same.l2] at h⟩
 | k + 1 => by
  obtain ⟨ih0, ih1, ih2, ih3⟩ := ladingref06_Same.mono_l k
  refine ⟨?_, ?_, ?_, ?_⟩
  ·intro y0 y1 y2 y3 y4 y5 y6 y7 y8
   unfold ladingref06_Same.j0
   repeat' first
   | (with_reducible exact ih0 _ _ _ _ _ _ _ _ _)
   | (with_reducible exact ih1 _ _ _ _ _ _ _ _ _ _)
   | (with_reducible exact ih2 _ _ _ _ _ _ _ _ _ _)
   | (with_reducible exact ih3 _ _ _ _ _ _ _ _ _ _)
   | (with_reducible exact LeO.refl _)
   | (with_reducible exact LeO.none _)
   | (with_reducible refine LeO.ite ?_ ?_)
   | (with_reducible refine LeO.bind ?_ (fun _ => ?_))
   | exact ih0 _ _ _ _ _ _ _ _ _
   | exact ih1 _ _ _ _ _ _ _ _ _ _
   | exact ih2 _ _ _ _ _ _ _ _ _ _
   | exact ih3 _ _ _ _ _ _ _ _ _ _
   | exact LeO.none _
   | refine LeO.ite ?_ ?_
   | refine LeO.bind ?_ (fun _ => ?_)
  ·intro y0 y1 y2 y3 y4 y5 y6 y7 y8 y9
   unfold ladingref06_Same.l0
   repeat' first
   | (with_reducible exact ih0 _ _ _ _ _ _ _ _ _)
   | (with_reducible exact ih1 _ _ _ _ _ _ _ _ _ _)
   | (with_reducible exact ih2 _ _ _ _ _ _ _ _ _ _)
   | (with_reducible exact ih3 _ _ _ _ _ _ _ _ _ _)
   | (with_reducible exact LeO.refl _)
   | (with_reducible exact LeO.none _)
   | (with_reducible refine LeO.ite ?_ ?_)
   | (with_reducible refine LeO.bind ?_ (fun _ => ?_))
   | exact ih0 _ _ _ _ _ _ _ _ _
   | exact ih1 _ _ _ _ _ _ _ _ _ _
   | exact ih2 _ _ _ _ _ _ _ _ _ _
   | exact ih3 _ _ _ _ _ _ _ _ _ _
   | exact LeO.none _
   | refine LeO.ite ?_ ?_
   | refine LeO.bind ?_ (fun _ => ?_)
  ·intro y0 y1 y2 y3 y4 y5 y6 y7 y8 y9
   unfold ladingref06_Same.l1
   repeat' first
   | (with_reducible exact ih0 _ _ _ _ _ _ _ _ _)
   | (with_reducible exact ih1 _ _ _ _ _ _ _ _ _ _)
   | (with_reducible exact ih2 _ _ _ _ _ _ _ _ _ _)
   | (with_reducible exact ih3 _ _ _ _ _ _ _ _ _ _)
   | (with_reducible exact LeO.refl _)
   | (with_reducible exact LeO.none _)
   | (with_reducible refine LeO.ite ?_ ?_)
   | (with_reducible refine LeO.bind ?_ (fun _ => ?_))
   | exact ih0 _ _ _ _ _ _ _ _ _
   | exact ih1 _ _ _ _ _ _ _ _ _ _
   | exact ih2 _ _ _ _ _ _ _ _ _ _
   | exact ih3 _ _ _ _ _ _ _ _ _ _
   | exact LeO.none _
   | refine LeO.ite ?_ ?_
   | refine LeO.bind ?_ (fun _ => ?_)
  ·intro y0 y1 y2 y3 y4 y5 y6 y7 y8 y9
   unfold ladingref06_Same.l2
   repeat' first
   | (with_reducible exact ih0 _ _ _ _ _ _ _ _ _)
   | (with_reducible exact ih1 _ _ _ _ _ _ _ _ _ _)
   | (with_reducible exact ih2 _ _ _ _ _ _ _ _ _ _)
   | (with_reducible exact ih3 _ _ _ _ _ _ _ _ _ _)
   | (with_reducible exact LeO.refl _)
   | (with_reducible exact LeO.none _)
   | (with_reducible refine LeO.ite ?_ ?_)
   | (with_reducible refine LeO.bind ?_ (fun _ => ?_))
   | exact ih0 _ _ _ _ _ _ _ _ _
   | exact ih1 _ _ _ _ _ _ _ _ _ _
   | exact ih2 _ _ _ _ _ _ _ _ _ _
   | exact ih3 _ _ _ _ _ _ _ _ _ _
   | exact LeO.none _
   | refine LeO.ite ?_ ?_
   | refine LeO.bind ?_ (fun _ => ?_)
theorem ladingref06_Same.mono : ∀ a0 a1 a2 a3 a4 a5 a6 a7 k, LeO (ladingref06_Same.f k a0 a1 a2 a3 a4 a5 a6 a7) (ladingref06_Same.f (k + 1) a0 a1 a2 a3 a4 a5 a6 a7) := by
 intro a0 a1 a2 a3 a4 a5 a6 a7 k
 obtain ⟨ih0, ih1, ih2, ih3⟩ := ladingref06_Same.mono_l k
 unfold ladingref06_Same.f
 repeat' first
   | (with_reducible exact ih0 _ _ _ _ _ _ _ _ _)
   | (with_reducible exact ih1 _ _ _ _ _ _ _ _ _ _)
   | (with_reducible exact ih2 _ _ _ _ _ _ _ _ _ _)
   | (with_reducible exact ih3 _ _ _ _ _ _ _ _ _ _)
   | (with_reducible exact LeO.refl _)
   | (with_reducible exact LeO.none _)
   | (with_reducible refine LeO.ite ?_ ?_)
   | (with_reducible refine LeO.bind ?_ (fun _ => ?_))
   | exact ih0 _ _ _ _ _ _ _ _ _
   | exact ih1 _ _ _ _ _ _ _ _ _ _
   | exact ih2 _ _ _ _ _ _ _ _ _ _
   | exact ih3 _ _ _ _ _ _ _ _ _ _
   | exact LeO.none _
   | refine LeO.ite ?_ ?_
   | refine LeO.bind ?_ (fun _ => ?_)
set_option maxHeartbeats 8000000 in
set_option maxRecDepth 100000 in
theorem ladingref06_Same.calls (k : Nat) (a0_0 : Bool) (A0_1 : Option Addr) (c0_1 : Nat) (l0_1 : List (List Int)) (A0_2 : Option Addr) (c0_2 : Nat) (l0_2 : List (List Int)) (A0_3 : Option Addr) (c0_3 : Nat) (l0_3 : List Int) (a1_0 : Bool) (A1_1 : Option Addr) (c1_1 : Nat) (l1_1 : List (List Int)) (A1_2 : Option Addr) (c1_2 : Nat) (l1_2 : List (List Int)) (A1_3 : Option Addr) (c1_3 : Nat) (l1_3 : List Int) (r : Bool) (w : World) (hr0_1 : Kd.C (Kd.slice 5 (Kd.int .u8)) w A0_1 l0_1.length l0_1) (hc0_1 : l0_1.length ≤ c0_1) (hr0_2 : Kd.C (Kd.slice 5 (Kd.int .u8)) w A0_2 l0_2.length l0_2) (hc0_2 : l0_2.length ≤ c0_2) (hr0_3 : Kd.C (Kd.int .i64) w A0_3 l0_3.length l0_3) (hc0_3 : l0_3.length ≤ c0_3) (hr1_1 : Kd.C (Kd.slice 5 (Kd.int .u8)) w A1_1 l1_1.length l1_1) (hc1_1 : l1_1.length ≤ c1_1) (hr1_2 : Kd.C (Kd.slice 5 (Kd.int .u8)) w A1_2 l1_2.length l1_2) (hc1_2 : l1_2.length ≤ c1_2) (hr1_3 : Kd.C (Kd.int .i64) w A1_3 l1_3.length l1_3) (hc1_3 : l1_3.length ≤ c1_3) (h : ladingref06_Same.f k a0_0 l0_1 l0_2 l0_3 a1_0 l1_1 l1_2 l1_3 = some r) :
  Calls Try.prog 11 #[.agg #[.bool a0_0, .slice A0_1 l0_1.length c0_1, .slice A0_2 l0_2.length c0_2, .slice A0_3 l0_3.length c0_3], .agg #[.bool a1_0, .slice A1_1 l1_1.length c1_1, .slice A1_2 l1_2.length c1_2, .slice A1_3 l1_3.length c1_3]] w fun e w' => e = .returned (.bool r) ∧ Below w.heap.size w w' := by
 have hu26 := Try.underlying26
 have HR0_1 := Aside0.mk hr0_1
 have HC0_1 := Aside0.mk hc0_1
 clear hr0_1 hc0_1
 have HR0_2 := Aside0.mk hr0_2
 have HC0_2 := Aside0.mk hc0_2
 clear hr0_2 hc0_2
 have HR0_3 := Aside0.mk hr0_3
 have HC0_3 := Aside0.mk hc0_3
 clear hr0_3 hc0_3
 have HR1_1 := Aside0.mk hr1_1
 have HC1_1 := Aside0.mk hc1_1
 clear hr1_1 hc1_1
 have HR1_2 := Aside0.mk hr1_2
 have HC1_2 := Aside0.mk hc1_2
 clear hr1_2 hc1_2
 have HR1_3 := Aside0.mk hr1_3
 have HC1_3 := Aside0.mk hc1_3
 clear hr1_3 hc1_3
 have HB := Aside0.mk (Below.refl w.heap.size w)
 have H : (if (a0_0 != a1_0) = true then (ladingref06_Same.j0 k true a0_0 l0_1 l0_2 l0_3 a1_0 l1_1 l1_2 l1_3) else (if (l0_1.length : Int) = (l1_1.length : Int) then (if (l0_2.length : Int) = (l1_2.length : Int) then (ladingref06_Same.j0 k ((l0_3.length : Int) != (l1_3.length : Int)) a0_0 l0_1 l0_2 l0_3 a1_0 l1_1 l1_2 l1_3) else (ladingref06_Same.j0 k true a0_0 l0_1 l0_2 l0_3 a1_0 l1_1 l1_2 l1_3)) else (ladingref06_Same.j0 k true a0_0 l0_1 l0_2 l0_3 a1_0 l1_1 l1_2 l1_3))) = some r := h
 clear h
 have HC3 := Aside0.mk H
 clear H
 go_enter Try.func11, Try.ntmps11
 go_upto_region 1 with (first | ((with_reducible refine gate_dst (N := 2) rfl ?_); (try (refine gate_guard (by rfl) ?_; dsimp only)); refine box_event ?hg (N := 2) ?hd (cs := #[.bool a0_0, .slice A0_1 l0_1.length c0_1, .slice A0_2 l0_2.length c0_2, .slice A0_3 l0_3.length c0_3]) (t := 26) ?hr ?_; (case hd => rfl); (case hg => rfl); (case hr => first | (go_simp; done) | (go_simp; rfl)); intro gb227 hg w4 hbox hb; have BK227 := Aside0.mk (hbox); have GW227 := Aside0.mk ((by rw [hg]; exact (below_size (zh0_ HB.out)) : w.heap.size ≤ gb227)); have GE227 := Aside0.mk ((by rw [hg]; exact (below_size (zh0_ HB.out)) : w.heap.size ≤ gb227)); replace HB := Aside0.mk (below_step (zh0_ HB.out) hb); clear hb hbox hg) | ((with_reducible refine gate_dst (N := 3) rfl ?_); (try (refine gate_guard (by rfl) ?_; dsimp only)); refine box_event ?hg (N := 3) ?hd (cs := #[.bool a1_0, .slice A1_1 l1_1.length c1_1, .slice A1_2 l1_2.length c1_2, .slice A1_3 l1_3.length c1_3]) (t := 26) ?hr ?_; (case hd => rfl); (case hg => rfl); (case hr => first | (go_simp; done) | (go_simp; rfl)); intro gb228 hg w5 hbox hb; have BK228 := Aside0.mk (hbox); have GW228 := Aside0.mk ((by rw [hg]; exact (below_size (zh1_ HB.out GE227.out)) : w.heap.size ≤ gb228)); have GE228 := Aside0.mk ((by rw [hg]; exact (below_size (zh1_ HB.out GE227.out)) : w.heap.size ≤ gb228)); replace HB := Aside0.mk (below_step (zh1_ HB.out GE227.out) hb); have NB227_228 := Aside0.mk ((by rw [hg]; exact Nat.ne_of_lt (blk_lt (zb_ BK227.out)) : gb227 ≠ gb228)); have NB228_227 := Aside0.mk ((by rw [hg]; exact Nat.ne_of_gt (blk_lt (zb_ BK227.out)) : gb228 ≠ gb227)); replace BK227 := Aside0.mk (blk_below (zb_ BK227.out) hb); clear hb hbox hg))
 repeat (go_quiet (first | ((with_reducible refine gate_dst (N := 2) rfl ?_); (try (refine gate_guard (by rfl) ?_; dsimp only)); refine box_event ?hg (N := 2) ?hd (cs := #[.bool a0_0, .slice A0_1 l0_1.length c0_1, .slice A0_2 l0_2.length c0_2, .slice A0_3 l0_3.length c0_3]) (t := 26) ?hr ?_; (case hd => rfl); (case hg => rfl); (case hr => first | (go_simp; done) | (go_simp; rfl)); intro gb227 hg w4 hbox hb; have BK227 := Aside0.mk (hbox); have GW227 := Aside0.mk ((by rw [hg]; exact (below_size (zh0_ HB.out)) : w.heap.size ≤ gb227)); have GE227 := Aside0.mk ((by rw [hg]; exact (below_size (zh0_ HB.out)) : w.heap.size ≤ gb227)); replace HB := Aside0.mk (below_step (zh0_ HB.out) hb); clear hb hbox hg) | ((with_reducible refine gate_dst (N := 3) rfl ?_); (try (refine gate_guard (by rfl) ?_; dsimp only)); refine box_event ?hg (N := 3) ?hd (cs := #[.bool a1_0, .slice A1_1 l1_1.length c1_1, .slice A1_2 l1_2.length c1_2, .slice A1_3 l1_3.length c1_3]) (t := 26) ?hr ?_; (case hd => rfl); (case hg => rfl); (case hr => first | (go_simp; done) | (go_simp; rfl)); intro gb228 hg w5 hbox hb; have BK228 := Aside0.mk (hbox); have GW228 := Aside0.mk ((by rw [hg]; exact (below_size (zh1_ HB.out GE227.out)) : w.heap.size ≤ gb228)); have GE228 := Aside0.mk ((by rw [hg]; exact (below_size (zh1_ HB.out GE227.out)) : w.heap.size ≤ gb228)); replace HB := Aside0.mk (below_step (zh1_ HB.out GE227.out) hb); have NB227_228 := Aside0.mk ((by rw [hg]; exact Nat.ne_of_lt (blk_lt (zb_ BK227.out)) : gb227 ≠ gb228)); have NB228_227 := Aside0.mk ((by rw [hg]; exact Nat.ne_of_gt (blk_lt (zb_ BK227.out)) : gb228 ≠ gb227)); replace BK227 := Aside0.mk (blk_below (zb_ BK227.out) hb); clear hb hbox hg)); go_upto_region 1 with (first | ((with_reducible refine gate_dst (N := 2) rfl ?_); (try (refine gate_guard (by rfl) ?_; dsimp only)); refine box_event ?hg (N := 2) ?hd (cs := #[.bool a0_0, .slice A0_1 l0_1.length c0_1, .slice A0_2 l0_2.length c0_2, .slice A0_3 l0_3.length c0_3]) (t := 26) ?hr ?_; (case hd => rfl); (case hg => rfl); (case hr => first | (go_simp; done) | (go_simp; rfl)); intro gb227 hg w4 hbox hb; have BK227 := Aside0.mk (hbox); have GW227 := Aside0.mk ((by rw [hg]; exact (below_size (zh0_ HB.out)) : w.heap.size ≤ gb227)); have GE227 := Aside0.mk ((by rw [hg]; exact (below_size (zh0_ HB.out)) : w.heap.size ≤ gb227)); replace HB := Aside0.mk (below_step (zh0_ HB.out) hb); clear hb hbox hg) | ((with_reducible refine gate_dst (N := 3) rfl ?_); (try (refine gate_guard (by rfl) ?_; dsimp only)); refine box_event ?hg (N := 3) ?hd (cs := #[.bool a1_0, .slice A1_1 l1_1.length c1_1, .slice A1_2 l1_2.length c1_2, .slice A1_3 l1_3.length c1_3]) (t := 26) ?hr ?_; (case hd => rfl); (case hg => rfl); (case hr => first | (go_simp; done) | (go_simp; rfl)); intro gb228 hg w5 hbox hb; have BK228 := Aside0.mk (hbox); have GW228 := Aside0.mk ((by rw [hg]; exact (below_size (zh1_ HB.out GE227.out)) : w.heap.size ≤ gb228)); have GE228 := Aside0.mk ((by rw [hg]; exact (below_size (zh1_ HB.out GE227.out)) : w.heap.size ≤ gb228)); replace HB := Aside0.mk (below_step (zh1_ HB.out GE227.out) hb); have NB227_228 := Aside0.mk ((by rw [hg]; exact Nat.ne_of_lt (blk_lt (zb_ BK227.out)) : gb227 ≠ gb228)); have NB228_227 := Aside0.mk ((by rw [hg]; exact Nat.ne_of_gt (blk_lt (zb_ BK227.out)) : gb228 ≠ gb227)); replace BK227 := Aside0.mk (blk_below (zb_ BK227.out) hb); clear hb hbox hg)))
 (try simp only [Act.put, zt0, zt1, zt2])
 go_cut [39] (fun v39 wc => ∃ (kq : Nat) (x39_2 : Bool), v39 = .bool x39_2 ∧ Aside0 (ladingref06_Same.j0 kq x39_2 a0_0 l0_1 l0_2 l0_3 a1_0 l1_1 l1_2 l1_3 = some r) ∧ Aside0 (kq ≤ k) ∧ Aside0 (wc.heap[gb227]? = some (.cells #[.bool a0_0, (.slice A0_1 l0_1.length c0_1), (.slice A0_2 l0_2.length c0_2), (.slice A0_3 l0_3.length c0_3)] 26 (0, 0))) ∧ Aside0 (wc.heap[gb228]? = some (.cells #[.bool a1_0, (.slice A1_1 l1_1.length c1_1), (.slice A1_2 l1_2.length c1_2), (.slice A1_3 l1_3.length c1_3)] 26 (0, 0))) ∧ Aside0 (Below w.heap.size w wc))
 case first =>
  have H := HC3.out
  clear HC3
  by_cases c6 : (a0_0 != a1_0) = true
  ·rw [if_pos c6] at H
   have c6b0 : (a0_0 != a1_0) = true := c6
   (try (have c6b1 : decide (a0_0 = a1_0) = false := by simpa using c6))
   (try (have c6b2 : (a0_0 == a1_0) = false := by simpa using c6))
   (try (have c6b3 : ¬ (a0_0 = a1_0) := by simpa using c6))
   clear c6
   (first | rw [c6b0] | (simp only [i64_w, i32_w]; rw [c6b0]) | skip)
   have H' := Aside0.mk H
   clear H
   have hnb7 := NB227_228.out
   have hnc7 := NB228_227.out
   obtain ⟨hcz8_0, hcz8_1, hcz8_2, hcz8_3⟩ := zc4 BK227.out
   obtain ⟨hfz8_0, hfz8_1, hfz8_2, hfz8_3⟩ := zz4 BK227.out
   obtain ⟨hcz9_0, hcz9_1, hcz9_2, hcz9_3⟩ := zc4 BK228.out
   obtain ⟨hfz9_0, hfz9_1, hfz9_2, hfz9_3⟩ := zz4 BK228.out
   go_wp2
   repeat (go_quiet (fail); try go_wp2)
   go_meet
   case rel => exact ⟨_, (true), (by first | rfl | (simp; done) | (simp [*]; done) | (simp only [i64_w]; done)), H', ⟨by first | omega | exact Nat.le_refl _⟩, ⟨by (with_reducible repeat (first | refine blk_drewN ?_ _ | refine blk_drew ?_ | refine blk_alloc ?_ _)); exact BK227.out⟩, ⟨by (with_reducible repeat (first | refine blk_drewN ?_ _ | refine blk_drew ?_ | refine blk_alloc ?_ _)); exact BK228.out⟩, ⟨by exact zh2_ HB.out GE227.out GE228.out⟩⟩
  ·rw [if_neg c6] at H
   have c6b0 : (a0_0 != a1_0) = false := by simpa using c6
   (try (have c6b1 : decide (a0_0 = a1_0) = true := by simpa using c6))
   (try (have c6b2 : (a0_0 == a1_0) = true := by simpa using c6))
   clear c6
   (first | rw [c6b0] | (simp only [i64_w, i32_w]; rw [c6b0]) | skip)
   by_cases c10 : (l0_1.length : Int) = (l1_1.length : Int)
   ·rw [if_pos c10] at H
    obtain ⟨c10b0, c10b1⟩ := zq1 c10
    have c10b2 : (l0_1.length == l1_1.length) = true := by first | simpa using c10 | (simp at c10 ⊢; omega)
    clear c10
    by_cases c11 : (l0_2.length : Int) = (l1_2.length : Int)
    ·rw [if_pos c11] at H
     obtain ⟨c11b0, c11b1⟩ := zq1 c11
     have c11b2 : (l0_2.length == l1_2.length) = true := by first | simpa using c11 | (simp at c11 ⊢; omega)
     clear c11
     have H' := Aside0.mk H
     clear H
     have hnb12 := NB227_228.out
     have hnc12 := NB228_227.out
     obtain ⟨hcz13_0, hcz13_1, hcz13_2, hcz13_3⟩ := zc4 BK227.out
     obtain ⟨hfz13_0, hfz13_1, hfz13_2, hfz13_3⟩ := zz4 BK227.out
     obtain ⟨hcz14_0, hcz14_1, hcz14_2, hcz14_3⟩ := zc4 BK228.out
     obtain ⟨hfz14_0, hfz14_1, hfz14_2, hfz14_3⟩ := zz4 BK228.out
     go_wp2
     repeat (go_quiet (fail); try go_wp2)
     go_meet
     case rel => exact ⟨_, (((l0_3.length : Int) != (l1_3.length : Int))), (by first | rfl | (simp; done) | (simp [*]; done) | (simp only [i64_w]; done)), H', ⟨by first | omega | exact Nat.le_refl _⟩, ⟨by (with_reducible repeat (first | refine blk_drewN ?_ _ | refine blk_drew ?_ | refine blk_alloc ?_ _)); exact BK227.out⟩, ⟨by (with_reducible repeat (first | refine blk_drewN ?_ _ | refine blk_drew ?_ | refine blk_alloc ?_ _)); exact BK228.out⟩, ⟨by exact zh2_ HB.out GE227.out GE228.out⟩⟩
    ·rw [if_neg c11] at H
     obtain ⟨c11b0, c11b1⟩ := zq0 c11
     have c11b2 : (l0_2.length == l1_2.length) = false := by first | simpa using c11 | (simp at c11 ⊢; omega)
     have H' := Aside0.mk H
     clear H
     have hnb15 := NB227_228.out
     have hnc15 := NB228_227.out
     obtain ⟨hcz16_0, hcz16_1, hcz16_2, hcz16_3⟩ := zc4 BK227.out
     obtain ⟨hfz16_0, hfz16_1, hfz16_2, hfz16_3⟩ := zz4 BK227.out
     obtain ⟨hcz17_0, hcz17_1, hcz17_2, hcz17_3⟩ := zc4 BK228.out
     obtain ⟨hfz17_0, hfz17_1, hfz17_2, hfz17_3⟩ := zz4 BK228.out
     go_wp2
     repeat (go_quiet (fail); try go_wp2)
     go_meet
     case rel => exact ⟨_, (true), (by first | rfl | (simp; done) | (simp [*]; done) | (simp only [i64_w]; done)), H', ⟨by first | omega | exact Nat.le_refl _⟩, ⟨by (with_reducible repeat (first | refine blk_drewN ?_ _ | refine blk_drew ?_ | refine blk_alloc ?_ _)); exact BK227.out⟩, ⟨by (with_reducible repeat (first | refine blk_drewN ?_ _ | refine blk_drew ?_ | refine blk_alloc ?_ _)); exact BK228.out⟩, ⟨by exact zh2_ HB.out GE227.out GE228.out⟩⟩
   ·rw [if_neg c10] at H
    obtain ⟨c10b0, c10b1⟩ := zq0 c10
    have c10b2 : (l0_1.length == l1_1.length) = false := by first | simpa using c10 | (simp at c10 ⊢; omega)
    have H' := Aside0.mk H
    clear H
    have hnb18 := NB227_228.out
    have hnc18 := NB228_227.out
    obtain ⟨hcz19_0, hcz19_1, hcz19_2, hcz19_3⟩ := zc4 BK227.out
    obtain ⟨hfz19_0, hfz19_1, hfz19_2, hfz19_3⟩ := zz4 BK227.out
    obtain ⟨hcz20_0, hcz20_1, hcz20_2, hcz20_3⟩ := zc4 BK228.out
    obtain ⟨hfz20_0, hfz20_1, hfz20_2, hfz20_3⟩ := zz4 BK228.out
    go_wp2
    repeat (go_quiet (fail); try go_wp2)
    go_meet
    case rel => exact ⟨_, (true), (by first | rfl | (simp; done) | (simp [*]; done) | (simp only [i64_w]; done)), H', ⟨by first | omega | exact Nat.le_refl _⟩, ⟨by (with_reducible repeat (first | refine blk_drewN ?_ _ | refine blk_drew ?_ | refine blk_alloc ?_ _)); exact BK227.out⟩, ⟨by (with_reducible repeat (first | refine blk_drewN ?_ _ | refine blk_drew ?_ | refine blk_alloc ?_ _)); exact BK228.out⟩, ⟨by exact zh2_ HB.out GE227.out GE228.out⟩⟩
 case rest =>
  clear HC3
  try clear c1
  try clear p2
  try clear c6
  try clear c6b0
  try clear c6b1
  try clear c6b2
  try clear c7
  try clear c10
  try clear c10b0
  try clear c10b1
  try clear c10b2
  try clear c11
  try clear c11b0
  try clear c11b1
  try clear c11b2
  try clear c12
  try clear c15
  try clear c18
  try clear hcz13_0
  try clear hcz13_1
  try clear hcz13_2
  try clear hcz13_3
  try clear hcz14_0
  try clear hcz14_1
  try clear hcz14_2
  try clear hcz14_3
  try clear hcz16_0
  try clear hcz16_1
  try clear hcz16_2
  try clear hcz16_3
  try clear hcz17_0
  try clear hcz17_1
  try clear hcz17_2
  try clear hcz17_3
  try clear hcz19_0
  try clear hcz19_1
  try clear hcz19_2
  try clear hcz19_3
  try clear hcz20_0
  try clear hcz20_1
  try clear hcz20_2
  try clear hcz20_3
  try clear hcz8_0
  try clear hcz8_1
  try clear hcz8_2
  try clear hcz8_3
  try clear hcz9_0
  try clear hcz9_1
  try clear hcz9_2
  try clear hcz9_3
  try clear hfz13_0
  try clear hfz13_1
  try clear hfz13_2
  try clear hfz13_3
  try clear hfz14_0
  try clear hfz14_1
  try clear hfz14_2
  try clear hfz14_3
  try clear hfz16_0
  try clear hfz16_1
  try clear hfz16_2
  try clear hfz16_3
  try clear hfz17_0
  try clear hfz17_1
  try clear hfz17_2
  try clear hfz17_3
  try clear hfz19_0
  try clear hfz19_1
  try clear hfz19_2
  try clear hfz19_3
  try clear hfz20_0
  try clear hfz20_1
  try clear hfz20_2
  try clear hfz20_3
  try clear hfz8_0
  try clear hfz8_1
  try clear hfz8_2
  try clear hfz8_3
  try clear hfz9_0
  try clear hfz9_1
  try clear hfz9_2
  try clear hfz9_3
  (try clear BK227)
  (try clear BK228)
  obtain ⟨kq, x39_2, rfl, HA, HJ2, BK227, BK228, HB⟩ := hcut
  cases kq with
  | zero => exact absurd HA.out (by simp [ladingref06_Same.j0])
  | succ kj2 =>
   have H := HA.out
   clear HA
   simp only [ladingref06_Same.j0] at H
   by_cases c21 : x39_2 = true
   ·subst c21
    replace H := (if_pos (rfl : true = true)).symm.trans H
    obtain rfl := Option.some.inj H
    go_wp2
    repeat (go_quiet (fail); try go_wp2)
    go_ret
    exact ⟨by first | rfl | (simp [errW_none, errW_some] <;> rfl) | (simp [*, errW_none, errW_some] <;> rfl), by exact zh2_ HB.out GE227.out GE228.out⟩
   ·replace c21 := Bool.eq_false_iff.mpr c21
    subst c21
    replace H := (if_neg (show ¬ (false = true) by decide)).symm.trans H
    have H' := Aside0.mk H
    clear H
    have hnb22 := NB227_228.out
    have hnc22 := NB228_227.out
    obtain ⟨hcz23_0, hcz23_1, hcz23_2, hcz23_3⟩ := zc4 BK227.out
    obtain ⟨hfz23_0, hfz23_1, hfz23_2, hfz23_3⟩ := zz4 BK227.out
    go_wp2
    repeat (go_quiet (fail); try go_wp2)
    go_loopg [43] kj2 (fun kq v43 w' => ∃ (x43_2 : Int), v43 = .int .i64 x43_2 ∧ Aside0 (ladingref06_Same.l0 kq (l0_1.length : Int) x43_2 a0_0 l0_1 l0_2 l0_3 a1_0 l1_1 l1_2 l1_3 = some r) ∧ Aside0 (kq ≤ kj2) ∧ Aside0 (w'.heap[gb227]? = some (.cells #[.bool a0_0, (.slice A0_1 l0_1.length c0_1), (.slice A0_2 l0_2.length c0_2), (.slice A0_3 l0_3.length c0_3)] 26 (0, 0))) ∧ Aside0 (w'.heap[gb228]? = some (.cells #[.bool a1_0, (.slice A1_1 l1_1.length c1_1), (.slice A1_2 l1_2.length c1_2), (.slice A1_3 l1_3.length c1_3)] 26 (0, 0))) ∧ Aside0 (Below w.heap.size w w'))
    case atStart => exact ⟨(0), (by first | rfl | (simp; done) | (simp [*]; done) | (simp only [i64_w]; done)), H', ⟨Nat.le_refl _⟩, ⟨by (with_reducible repeat (first | refine blk_drewN ?_ _ | refine blk_drew ?_ | refine blk_alloc ?_ _)); exact BK227.out⟩, ⟨by (with_reducible repeat (first | refine blk_drewN ?_ _ | refine blk_drew ?_ | refine blk_alloc ?_ _)); exact BK228.out⟩, ⟨by exact zh2_ HB.out GE227.out GE228.out⟩⟩
    case round =>
     clear H'
     try clear c1
     try clear c2
     try clear p2
     try clear c6
     try clear c6b0
     try clear c6b1
     try clear c6b2
     try clear c7
     try clear c10
     try clear c10b0
     try clear c10b1
     try clear c10b2
     try clear c11
     try clear c11b0
     try clear c11b1
     try clear c11b2
     try clear c12
     try clear c15
     try clear c18
     try clear c21
     try clear c22
     try clear hcz13_0
     try clear hcz13_1
     try clear hcz13_2
     try clear hcz13_3
     try clear hcz14_0
     try clear hcz14_1
     try clear hcz14_2
     try clear hcz14_3
     try clear hcz16_0
     try clear hcz16_1
     try clear hcz16_2
     try clear hcz16_3
     try clear hcz17_0
     try clear hcz17_1
     try clear hcz17_2
     try clear hcz17_3
     try clear hcz19_0
     try clear hcz19_1
     try clear hcz19_2
     try clear hcz19_3
     try clear hcz20_0
     try clear hcz20_1
     try clear hcz20_2
     try clear hcz20_3
     try clear hcz23_0
     try clear hcz23_1
     try clear hcz23_2
     try clear hcz23_3
     try clear hcz8_0
     try clear hcz8_1
     try clear hcz8_2
     try clear hcz8_3
     try clear hcz9_0
     try clear hcz9_1
     try clear hcz9_2
     try clear hcz9_3
     try clear hfz13_0
     try clear hfz13_1
     try clear hfz13_2
     try clear hfz13_3
     try clear hfz14_0
     try clear hfz14_1
     try clear hfz14_2
     try clear hfz14_3
     try clear hfz16_0
     try clear hfz16_1
     try clear hfz16_2
     try clear hfz16_3
     try clear hfz17_0
     try clear hfz17_1
     try clear hfz17_2
     try clear hfz17_3
     try clear hfz19_0
     try clear hfz19_1
     try clear hfz19_2
     try clear hfz19_3
     try clear hfz20_0
     try clear hfz20_1
     try clear hfz20_2
     try clear hfz20_3
     try clear hfz23_0
     try clear hfz23_1
     try clear hfz23_2
     try clear hfz23_3
     try clear hfz8_0
     try clear hfz8_1
     try clear hfz8_2
     try clear hfz8_3
     try clear hfz9_0
     try clear hfz9_1
     try clear hfz9_2
     try clear hfz9_3
     try clear p2
     (try clear BK227)
     (try clear BK228)
     obtain ⟨x43_2, rfl, HA, HK2, BK227, BK228, HB⟩ := hrel
     cases gk with
     | zero => exact absurd HA.out (by simp [ladingref06_Same.l0])
     | succ k2 =>
      have H := HA.out
      clear HA
      simp only [ladingref06_Same.l0] at H
      by_cases c24 : x43_2 < (l0_1.length : Int)
      ·rw [if_pos c24] at H
       have c24b0 : decide (x43_2 < (l0_1.length : Int)) = true := decide_eq_true c24
       clear c24
       by_cases c25 : 0 ≤ x43_2
       ·rw [if_pos c25] at H
        have c25b0 : decide (0 ≤ x43_2) = true := decide_eq_true c25
        clear c25
        by_cases c26 : x43_2 < (l0_1.length : Int)
        ·rw [if_pos c26] at H
         have c26b0 : decide (x43_2 < (l0_1.length : Int)) = true := decide_eq_true c26
         clear c26
         by_cases c27 : x43_2 < (l1_1.length : Int)
         ·rw [if_pos c27] at H
          have c27b0 : decide (x43_2 < (l1_1.length : Int)) = true := decide_eq_true c27
          clear c27
          by_cases c28 : (strOfNums (rd_L1 l0_1 x43_2)).toList = (strOfNums (rd_L1 l1_1 x43_2)).toList
          ·rw [if_pos c28] at H
           obtain ⟨c28b0, c28b1⟩ := zq1 c28
           clear c28
           have H' := Aside0.mk H
           clear H
           have hnb29 := NB227_228.out
           have hnc29 := NB228_227.out
           obtain ⟨hcz30_0, hcz30_1, hcz30_2, hcz30_3⟩ := zc4 BK227.out
           obtain ⟨hfz30_0, hfz30_1, hfz30_2, hfz30_3⟩ := zz4 BK227.out
           have p229 : 0 ≤ (x43_2 : Int) := of_decide_eq_true za_
           have q229 : x43_2 < (l0_1.length : Int) := of_decide_eq_true za_
           obtain ⟨ad229, A229_0, c229_0, e229, hx229_0, hl229_0, hi229_0⟩ := at_L1 HR0_1.out x43_2 p229 q229
           cases e229
           replace hx229_0 := zx_ HB.out hx229_0
           have HR229_0 := Aside0.mk hi229_0
           have HC229_0 := Aside0.mk hl229_0
           clear hi229_0 hl229_0
           replace p229 := eq_true p229
           replace q229 := eq_true q229
           have hcv31 := Kd.C_string (P := Try.prog) (A := A229_0) (c := c229_0) Try.underlying27 Try.underlying5 Try.underlying9 (Kd.C_below HR229_0.out HB.out)
           have hcw32 := fun n_ : Nat => Kd.C_string (P := Try.prog) (A := A229_0) (c := c229_0) Try.underlying27 Try.underlying5 Try.underlying9 (Kd.C_drewN (Kd.C_below HR229_0.out HB.out) n_)
           obtain ⟨hcz33_0, hcz33_1, hcz33_2, hcz33_3⟩ := zc4 BK228.out
           obtain ⟨hfz33_0, hfz33_1, hfz33_2, hfz33_3⟩ := zz4 BK228.out
           have p230 : 0 ≤ (x43_2 : Int) := of_decide_eq_true za_
           have q230 : x43_2 < (l1_1.length : Int) := of_decide_eq_true za_
           obtain ⟨ad230, A230_0, c230_0, e230, hx230_0, hl230_0, hi230_0⟩ := at_L1 HR1_1.out x43_2 p230 q230
           cases e230
           replace hx230_0 := zx_ HB.out hx230_0
           have HR230_0 := Aside0.mk hi230_0
           have HC230_0 := Aside0.mk hl230_0
           clear hi230_0 hl230_0
           replace p230 := eq_true p230
           replace q230 := eq_true q230
           have hcv34 := Kd.C_string (P := Try.prog) (A := A230_0) (c := c230_0) Try.underlying27 Try.underlying5 Try.underlying9 (Kd.C_below HR230_0.out HB.out)
           have hcw35 := fun n_ : Nat => Kd.C_string (P := Try.prog) (A := A230_0) (c := c230_0) Try.underlying27 Try.underlying5 Try.underlying9 (Kd.C_drewN (Kd.C_below HR230_0.out HB.out) n_)
           go_wp2
           repeat (go_quiet (fail); try go_wp2)
           go_roundg k2
           case measure => have := HJ2.out; have := HK2.out; omega
           case rel => exact ⟨(wrap64 (x43_2 + 1)), (by first | rfl | (simp; done) | (simp [*]; done) | (simp only [i64_w]; done)), H', ⟨by have := HJ2.out; have := HK2.out; omega⟩, ⟨by (with_reducible repeat (first | refine blk_drewN ?_ _ | refine blk_drew ?_ | refine blk_alloc ?_ _)); exact BK227.out⟩, ⟨by (with_reducible repeat (first | refine blk_drewN ?_ _ | refine blk_drew ?_ | refine blk_alloc ?_ _)); exact BK228.out⟩, ⟨by exact zh2_ HB.out GE227.out GE228.out⟩⟩
          ·rw [if_neg c28] at H
           obtain ⟨c28b0, c28b1⟩ := zq0 c28
           obtain rfl := Option.some.inj H
           have hnb36 := NB227_228.out
           have hnc36 := NB228_227.out
           obtain ⟨hcz37_0, hcz37_1, hcz37_2, hcz37_3⟩ := zc4 BK227.out
           obtain ⟨hfz37_0, hfz37_1, hfz37_2, hfz37_3⟩ := zz4 BK227.out
           have p229 : 0 ≤ (x43_2 : Int) := of_decide_eq_true za_
           have q229 : x43_2 < (l0_1.length : Int) := of_decide_eq_true za_
           obtain ⟨ad229, A229_0, c229_0, e229, hx229_0, hl229_0, hi229_0⟩ := at_L1 HR0_1.out x43_2 p229 q229
           cases e229
           replace hx229_0 := zx_ HB.out hx229_0
           have HR229_0 := Aside0.mk hi229_0
           have HC229_0 := Aside0.mk hl229_0
           clear hi229_0 hl229_0
           replace p229 := eq_true p229
           replace q229 := eq_true q229
           have hcv38 := Kd.C_string (P := Try.prog) (A := A229_0) (c := c229_0) Try.underlying27 Try.underlying5 Try.underlying9 (Kd.C_below HR229_0.out HB.out)
           have hcw39 := fun n_ : Nat => Kd.C_string (P := Try.prog) (A := A229_0) (c := c229_0) Try.underlying27 Try.underlying5 Try.underlying9 (Kd.C_drewN (Kd.C_below HR229_0.out HB.out) n_)
           obtain ⟨hcz40_0, hcz40_1, hcz40_2, hcz40_3⟩ := zc4 BK228.out
           obtain ⟨hfz40_0, hfz40_1, hfz40_2, hfz40_3⟩ := zz4 BK228.out
           have p230 : 0 ≤ (x43_2 : Int) := of_decide_eq_true za_
           have q230 : x43_2 < (l1_1.length : Int) := of_decide_eq_true za_
           obtain ⟨ad230, A230_0, c230_0, e230, hx230_0, hl230_0, hi230_0⟩ := at_L1 HR1_1.out x43_2 p230 q230
           cases e230
           replace hx230_0 := zx_ HB.out hx230_0
           have HR230_0 := Aside0.mk hi230_0
           have HC230_0 := Aside0.mk hl230_0
           clear hi230_0 hl230_0
           replace p230 := eq_true p230
           replace q230 := eq_true q230
           have hcv41 := Kd.C_string (P := Try.prog) (A := A230_0) (c := c230_0) Try.underlying27 Try.underlying5 Try.underlying9 (Kd.C_below HR230_0.out HB.out)
           have hcw42 := fun n_ : Nat => Kd.C_string (P := Try.prog) (A := A230_0) (c := c230_0) Try.underlying27 Try.underlying5 Try.underlying9 (Kd.C_drewN (Kd.C_below HR230_0.out HB.out) n_)
           go_wp2
           repeat (go_quiet (fail); try go_wp2)
           go_ret
           exact ⟨by first | rfl | (simp [errW_none, errW_some] <;> rfl) | (simp [*, errW_none, errW_some] <;> rfl), by exact zh2_ HB.out GE227.out GE228.out⟩
         ·rw [if_neg c27] at H
          cases H
        ·rw [if_neg c26] at H
         cases H
       ·rw [if_neg c25] at H
        cases H
      ·rw [if_neg c24] at H
       have c24b0 : decide (x43_2 < (l0_1.length : Int)) = false := decide_eq_false c24
       clear c24
       have H' := Aside0.mk H
       clear H
       have hnb43 := NB227_228.out
       have hnc43 := NB228_227.out
       obtain ⟨hcz44_0, hcz44_1, hcz44_2, hcz44_3⟩ := zc4 BK227.out
       obtain ⟨hfz44_0, hfz44_1, hfz44_2, hfz44_3⟩ := zz4 BK227.out
       go_wp2
       repeat (go_quiet (fail); try go_wp2)
       go_loopg [63] k2 (fun kq v63 w' => ∃ (x63_3 : Int), v63 = .int .i64 x63_3 ∧ Aside0 (ladingref06_Same.l1 kq (l0_2.length : Int) x63_3 a0_0 l0_1 l0_2 l0_3 a1_0 l1_1 l1_2 l1_3 = some r) ∧ Aside0 (kq ≤ k2) ∧ Aside0 (w'.heap[gb227]? = some (.cells #[.bool a0_0, (.slice A0_1 l0_1.length c0_1), (.slice A0_2 l0_2.length c0_2), (.slice A0_3 l0_3.length c0_3)] 26 (0, 0))) ∧ Aside0 (w'.heap[gb228]? = some (.cells #[.bool a1_0, (.slice A1_1 l1_1.length c1_1), (.slice A1_2 l1_2.length c1_2), (.slice A1_3 l1_3.length c1_3)] 26 (0, 0))) ∧ Aside0 (Below w.heap.size w w'))
       case atStart => exact ⟨(0), (by first | rfl | (simp; done) | (simp [*]; done) | (simp only [i64_w]; done)), H', ⟨Nat.le_refl _⟩, ⟨by (with_reducible repeat (first | refine blk_drewN ?_ _ | refine blk_drew ?_ | refine blk_alloc ?_ _)); exact BK227.out⟩, ⟨by (with_reducible repeat (first | refine blk_drewN ?_ _ | refine blk_drew ?_ | refine blk_alloc ?_ _)); exact BK228.out⟩, ⟨by exact zh2_ HB.out GE227.out GE228.out⟩⟩
       case round =>
        clear H'
        try clear c1
        try clear c2
        try clear p2
        try clear q2
        try clear hx2
        try clear c3
        try clear hcv3
        try clear hcw3
        try clear c4
        try clear hcv4
        try clear hcw4
        try clear c6
        try clear c6b0
        try clear c6b1
        try clear c6b2
        try clear p6
        try clear c7
        try clear c10
        try clear c10b0
        try clear c10b1
        try clear c10b2
        try clear c11
        try clear c11b0
        try clear c11b1
        try clear c11b2
        try clear c12
        try clear c15
        try clear c18
        try clear c21
        try clear c22
        try clear p22
        try clear q22
        try clear hx22
        try clear c23
        try clear p23
        try clear q23
        try clear hx23
        try clear c24
        try clear c24b0
        try clear c25
        try clear c25b0
        try clear c26
        try clear c26b0
        try clear c27
        try clear c27b0
        try clear c28
        try clear c28b0
        try clear c28b1
        try clear c29
        try clear hcv31
        try clear hcw32
        try clear hcv34
        try clear hcw35
        try clear c36
        try clear hcv38
        try clear hcw39
        try clear hcv41
        try clear hcw42
        try clear c43
        try clear hcz13_0
        try clear hcz13_1
        try clear hcz13_2
        try clear hcz13_3
        try clear hcz14_0
        try clear hcz14_1
        try clear hcz14_2
        try clear hcz14_3
        try clear hcz16_0
        try clear hcz16_1
        try clear hcz16_2
        try clear hcz16_3
        try clear hcz17_0
        try clear hcz17_1
        try clear hcz17_2
        try clear hcz17_3
        try clear hcz19_0
        try clear hcz19_1
        try clear hcz19_2
        try clear hcz19_3
        try clear hcz20_0
        try clear hcz20_1
        try clear hcz20_2
        try clear hcz20_3
        try clear hcz23_0
        try clear hcz23_1
        try clear hcz23_2
        try clear hcz23_3
        try clear hcz30_0
        try clear hcz30_1
        try clear hcz30_2
        try clear hcz30_3
        try clear hcz33_0
        try clear hcz33_1
        try clear hcz33_2
        try clear hcz33_3
        try clear hcz37_0
        try clear hcz37_1
        try clear hcz37_2
        try clear hcz37_3
        try clear hcz40_0
        try clear hcz40_1
        try clear hcz40_2
        try clear hcz40_3
        try clear hcz44_0
        try clear hcz44_1
        try clear hcz44_2
        try clear hcz44_3
        try clear hcz8_0
        try clear hcz8_1
        try clear hcz8_2
        try clear hcz8_3
        try clear hcz9_0
        try clear hcz9_1
        try clear hcz9_2
        try clear hcz9_3
        try clear hfz13_0
        try clear hfz13_1
        try clear hfz13_2
        try clear hfz13_3
        try clear hfz14_0
        try clear hfz14_1
        try clear hfz14_2
        try clear hfz14_3
        try clear hfz16_0
        try clear hfz16_1
        try clear hfz16_2
        try clear hfz16_3
        try clear hfz17_0
        try clear hfz17_1
        try clear hfz17_2
        try clear hfz17_3
        try clear hfz19_0
        try clear hfz19_1
        try clear hfz19_2
        try clear hfz19_3
        try clear hfz20_0
        try clear hfz20_1
        try clear hfz20_2
        try clear hfz20_3
        try clear hfz23_0
        try clear hfz23_1
        try clear hfz23_2
        try clear hfz23_3
        try clear hfz30_0
        try clear hfz30_1
        try clear hfz30_2
        try clear hfz30_3
        try clear hfz33_0
        try clear hfz33_1
        try clear hfz33_2
        try clear hfz33_3
        try clear hfz37_0
        try clear hfz37_1
        try clear hfz37_2
        try clear hfz37_3
        try clear hfz40_0
        try clear hfz40_1
        try clear hfz40_2
        try clear hfz40_3
        try clear hfz44_0
        try clear hfz44_1
        try clear hfz44_2
        try clear hfz44_3
        try clear hfz8_0
        try clear hfz8_1
        try clear hfz8_2
        try clear hfz8_3
        try clear hfz9_0
        try clear hfz9_1
        try clear hfz9_2
        try clear hfz9_3
        try clear hx229_0
        try clear hx230_0
        try clear p2
        try clear p229
        try clear p230
        try clear q229
        try clear q230
        (try clear BK227)
        (try clear BK228)
        obtain ⟨x63_3, rfl, HA, HK3, BK227, BK228, HB⟩ := hrel
        cases gk with
        | zero => exact absurd HA.out (by simp [ladingref06_Same.l1])
        | succ k3 =>
         have H := HA.out
         clear HA
         simp only [ladingref06_Same.l1] at H
         by_cases c45 : x63_3 < (l0_2.length : Int)
         ·rw [if_pos c45] at H
          have c45b0 : decide (x63_3 < (l0_2.length : Int)) = true := decide_eq_true c45
          clear c45
          by_cases c46 : 0 ≤ x63_3
          ·rw [if_pos c46] at H
           have c46b0 : decide (0 ≤ x63_3) = true := decide_eq_true c46
           clear c46
           by_cases c47 : x63_3 < (l0_2.length : Int)
           ·rw [if_pos c47] at H
            have c47b0 : decide (x63_3 < (l0_2.length : Int)) = true := decide_eq_true c47
            clear c47
            by_cases c48 : x63_3 < (l1_2.length : Int)
            ·rw [if_pos c48] at H
             have c48b0 : decide (x63_3 < (l1_2.length : Int)) = true := decide_eq_true c48
             clear c48
             by_cases c49 : (strOfNums (rd_L1 l0_2 x63_3)).toList = (strOfNums (rd_L1 l1_2 x63_3)).toList
             ·rw [if_pos c49] at H
              obtain ⟨c49b0, c49b1⟩ := zq1 c49
              clear c49
              have H' := Aside0.mk H
              clear H
              have hnb50 := NB227_228.out
              have hnc50 := NB228_227.out
              obtain ⟨hcz51_0, hcz51_1, hcz51_2, hcz51_3⟩ := zc4 BK227.out
              obtain ⟨hfz51_0, hfz51_1, hfz51_2, hfz51_3⟩ := zz4 BK227.out
              have p231 : 0 ≤ (x63_3 : Int) := of_decide_eq_true za_
              have q231 : x63_3 < (l0_2.length : Int) := of_decide_eq_true za_
              obtain ⟨ad231, A231_0, c231_0, e231, hx231_0, hl231_0, hi231_0⟩ := at_L1 HR0_2.out x63_3 p231 q231
              cases e231
              replace hx231_0 := zx_ HB.out hx231_0
              have HR231_0 := Aside0.mk hi231_0
              have HC231_0 := Aside0.mk hl231_0
              clear hi231_0 hl231_0
              replace p231 := eq_true p231
              replace q231 := eq_true q231
              have hcv52 := Kd.C_string (P := Try.prog) (A := A231_0) (c := c231_0) Try.underlying27 Try.underlying5 Try.underlying9 (Kd.C_below HR231_0.out HB.out)
              have hcw53 := fun n_ : Nat => Kd.C_string (P := Try.prog) (A := A231_0) (c := c231_0) Try.underlying27 Try.underlying5 Try.underlying9 (Kd.C_drewN (Kd.C_below HR231_0.out HB.out) n_)
              obtain ⟨hcz54_0, hcz54_1, hcz54_2, hcz54_3⟩ := zc4 BK228.out
              obtain ⟨hfz54_0, hfz54_1, hfz54_2, hfz54_3⟩ := zz4 BK228.out
              have p232 : 0 ≤ (x63_3 : Int) := of_decide_eq_true za_
              have q232 : x63_3 < (l1_2.length : Int) := of_decide_eq_true za_
              obtain ⟨ad232, A232_0, c232_0, e232, hx232_0, hl232_0, hi232_0⟩ := at_L1 HR1_2.out x63_3 p232 q232
              cases e232
              replace hx232_0 := zx_ HB.out hx232_0
              have HR232_0 := Aside0.mk hi232_0
              have HC232_0 := Aside0.mk hl232_0
              clear hi232_0 hl232_0
              replace p232 := eq_true p232
              replace q232 := eq_true q232
              have hcv55 := Kd.C_string (P := Try.prog) (A := A232_0) (c := c232_0) Try.underlying27 Try.underlying5 Try.underlying9 (Kd.C_below HR232_0.out HB.out)
              have hcw56 := fun n_ : Nat => Kd.C_string (P := Try.prog) (A := A232_0) (c := c232_0) Try.underlying27 Try.underlying5 Try.underlying9 (Kd.C_drewN (Kd.C_below HR232_0.out HB.out) n_)
              go_wp2
              repeat (go_quiet (fail); try go_wp2)
              go_roundg k3
              case measure => have := HJ2.out; have := HK2.out; have := HK3.out; omega
              case rel => exact ⟨(wrap64 (x63_3 + 1)), (by first | rfl | (simp; done) | (simp [*]; done) | (simp only [i64_w]; done)), H', ⟨by have := HJ2.out; have := HK2.out; have := HK3.out; omega⟩, ⟨by (with_reducible repeat (first | refine blk_drewN ?_ _ | refine blk_drew ?_ | refine blk_alloc ?_ _)); exact BK227.out⟩, ⟨by (with_reducible repeat (first | refine blk_drewN ?_ _ | refine blk_drew ?_ | refine blk_alloc ?_ _)); exact BK228.out⟩, ⟨by exact zh2_ HB.out GE227.out GE228.out⟩⟩
             ·rw [if_neg c49] at H
              obtain ⟨c49b0, c49b1⟩ := zq0 c49
              obtain rfl := Option.some.inj H
              have hnb57 := NB227_228.out
              have hnc57 := NB228_227.out
              obtain ⟨hcz58_0, hcz58_1, hcz58_2, hcz58_3⟩ := zc4 BK227.out
              obtain ⟨hfz58_0, hfz58_1, hfz58_2, hfz58_3⟩ := zz4 BK227.out
              have p231 : 0 ≤ (x63_3 : Int) := of_decide_eq_true za_
              have q231 : x63_3 < (l0_2.length : Int) := of_decide_eq_true za_
              obtain ⟨ad231, A231_0, c231_0, e231, hx231_0, hl231_0, hi231_0⟩ := at_L1 HR0_2.out x63_3 p231 q231
              cases e231
              replace hx231_0 := zx_ HB.out hx231_0
              have HR231_0 := Aside0.mk hi231_0
              have HC231_0 := Aside0.mk hl231_0
              clear hi231_0 hl231_0
              replace p231 := eq_true p231
              replace q231 := eq_true q231
              have hcv59 := Kd.C_string (P := Try.prog) (A := A231_0) (c := c231_0) Try.underlying27 Try.underlying5 Try.underlying9 (Kd.C_below HR231_0.out HB.out)
              have hcw60 := fun n_ : Nat => Kd.C_string (P := Try.prog) (A := A231_0) (c := c231_0) Try.underlying27 Try.underlying5 Try.underlying9 (Kd.C_drewN (Kd.C_below HR231_0.out HB.out) n_)
              obtain ⟨hcz61_0, hcz61_1, hcz61_2, hcz61_3⟩ := zc4 BK228.out
              obtain ⟨hfz61_0, hfz61_1, hfz61_2, hfz61_3⟩ := zz4 BK228.out
              have p232 : 0 ≤ (x63_3 : Int) := of_decide_eq_true za_
              have q232 : x63_3 < (l1_2.length : Int) := of_decide_eq_true za_
              obtain ⟨ad232, A232_0, c232_0, e232, hx232_0, hl232_0, hi232_0⟩ := at_L1 HR1_2.out x63_3 p232 q232
              cases e232
              replace hx232_0 := zx_ HB.out hx232_0
              have HR232_0 := Aside0.mk hi232_0
              have HC232_0 := Aside0.mk hl232_0
              clear hi232_0 hl232_0
              replace p232 := eq_true p232
              replace q232 := eq_true q232
              have hcv62 := Kd.C_string (P := Try.prog) (A := A232_0) (c := c232_0) Try.underlying27 Try.underlying5 Try.underlying9 (Kd.C_below HR232_0.out HB.out)
              have hcw63 := fun n_ : Nat => Kd.C_string (P := Try.prog) (A := A232_0) (c := c232_0) Try.underlying27 Try.underlying5 Try.underlying9 (Kd.C_drewN (Kd.C_below HR232_0.out HB.out) n_)
              go_wp2
              repeat (go_quiet (fail); try go_wp2)
              go_ret
              exact ⟨by first | rfl | (simp [errW_none, errW_some] <;> rfl) | (simp [*, errW_none, errW_some] <;> rfl), by exact zh2_ HB.out GE227.out GE228.out⟩
            ·rw [if_neg c48] at H
             cases H
           ·rw [if_neg c47] at H
            cases H
          ·rw [if_neg c46] at H
           cases H
         ·rw [if_neg c45] at H
          have c45b0 : decide (x63_3 < (l0_2.length : Int)) = false := decide_eq_false c45
          clear c45
          have H' := Aside0.mk H
          clear H
          have hnb64 := NB227_228.out
          have hnc64 := NB228_227.out
          obtain ⟨hcz65_0, hcz65_1, hcz65_2, hcz65_3⟩ := zc4 BK227.out
          obtain ⟨hfz65_0, hfz65_1, hfz65_2, hfz65_3⟩ := zz4 BK227.out
          go_wp2
          repeat (go_quiet (fail); try go_wp2)
          go_loopg [83] k3 (fun kq v83 w' => ∃ (x83_4 : Int), v83 = .int .i64 x83_4 ∧ Aside0 (ladingref06_Same.l2 kq (l0_3.length : Int) x83_4 a0_0 l0_1 l0_2 l0_3 a1_0 l1_1 l1_2 l1_3 = some r) ∧ Aside0 (kq ≤ k3) ∧ Aside0 (w'.heap[gb227]? = some (.cells #[.bool a0_0, (.slice A0_1 l0_1.length c0_1), (.slice A0_2 l0_2.length c0_2), (.slice A0_3 l0_3.length c0_3)] 26 (0, 0))) ∧ Aside0 (w'.heap[gb228]? = some (.cells #[.bool a1_0, (.slice A1_1 l1_1.length c1_1), (.slice A1_2 l1_2.length c1_2), (.slice A1_3 l1_3.length c1_3)] 26 (0, 0))) ∧ Aside0 (Below w.heap.size w w'))
          case atStart => exact ⟨(0), (by first | rfl | (simp; done) | (simp [*]; done) | (simp only [i64_w]; done)), H', ⟨Nat.le_refl _⟩, ⟨by (with_reducible repeat (first | refine blk_drewN ?_ _ | refine blk_drew ?_ | refine blk_alloc ?_ _)); exact BK227.out⟩, ⟨by (with_reducible repeat (first | refine blk_drewN ?_ _ | refine blk_drew ?_ | refine blk_alloc ?_ _)); exact BK228.out⟩, ⟨by exact zh2_ HB.out GE227.out GE228.out⟩⟩
          case round =>
           clear H'
           try clear c1
           try clear c2
           try clear p2
           try clear q2
           try clear hx2
           try clear c3
           try clear hcv3
           try clear hcw3
           try clear c4
           try clear hcv4
           try clear hcw4
           try clear c5
           try clear hcv5
           try clear hcw5
           try clear c6
           try clear c6b0
           try clear c6b1
           try clear c6b2
           try clear p6
           try clear hcv6
           try clear hcw6
           try clear c7
           try clear c10
           try clear c10b0
           try clear c10b1
           try clear c10b2
           try clear c11
           try clear c11b0
           try clear c11b1
           try clear c11b2
           try clear c12
           try clear c15
           try clear c18
           try clear c21
           try clear c22
           try clear p22
           try clear q22
           try clear hx22
           try clear c23
           try clear p23
           try clear q23
           try clear hx23
           try clear c24
           try clear c24b0
           try clear c25
           try clear c25b0
           try clear c26
           try clear c26b0
           try clear c27
           try clear c27b0
           try clear c28
           try clear c28b0
           try clear c28b1
           try clear c29
           try clear hcv31
           try clear hcw32
           try clear hcv34
           try clear hcw35
           try clear c36
           try clear hcv38
           try clear hcw39
           try clear hcv41
           try clear hcw42
           try clear c43
           try clear c45
           try clear c45b0
           try clear c46
           try clear c46b0
           try clear c47
           try clear c47b0
           try clear c48
           try clear c48b0
           try clear c49
           try clear c49b0
           try clear c49b1
           try clear c50
           try clear hcv52
           try clear hcw53
           try clear hcv55
           try clear hcw56
           try clear c57
           try clear hcv59
           try clear hcw60
           try clear hcv62
           try clear hcw63
           try clear c64
           try clear p64
           try clear hcz13_0
           try clear hcz13_1
           try clear hcz13_2
           try clear hcz13_3
           try clear hcz14_0
           try clear hcz14_1
           try clear hcz14_2
           try clear hcz14_3
           try clear hcz16_0
           try clear hcz16_1
           try clear hcz16_2
           try clear hcz16_3
           try clear hcz17_0
           try clear hcz17_1
           try clear hcz17_2
           try clear hcz17_3
           try clear hcz19_0
           try clear hcz19_1
           try clear hcz19_2
           try clear hcz19_3
           try clear hcz20_0
           try clear hcz20_1
           try clear hcz20_2
           try clear hcz20_3
           try clear hcz23_0
           try clear hcz23_1
           try clear hcz23_2
           try clear hcz23_3
           try clear hcz30_0
           try clear hcz30_1
           try clear hcz30_2
           try clear hcz30_3
           try clear hcz33_0
           try clear hcz33_1
           try clear hcz33_2
           try clear hcz33_3
           try clear hcz37_0
           try clear hcz37_1
           try clear hcz37_2
           try clear hcz37_3
           try clear hcz40_0
           try clear hcz40_1
           try clear hcz40_2
           try clear hcz40_3
           try clear hcz44_0
           try clear hcz44_1
           try clear hcz44_2
           try clear hcz44_3
           try clear hcz51_0
           try clear hcz51_1
           try clear hcz51_2
           try clear hcz51_3
           try clear hcz54_0
           try clear hcz54_1
           try clear hcz54_2
           try clear hcz54_3
           try clear hcz58_0
           try clear hcz58_1
           try clear hcz58_2
           try clear hcz58_3
           try clear hcz61_0
           try clear hcz61_1
           try clear hcz61_2
           try clear hcz61_3
           try clear hcz65_0
           try clear hcz65_1
           try clear hcz65_2
           try clear hcz65_3
           try clear hcz8_0
           try clear hcz8_1
           try clear hcz8_2
           try clear hcz8_3
           try clear hcz9_0
           try clear hcz9_1
           try clear hcz9_2
           try clear hcz9_3
           try clear hfz13_0
           try clear hfz13_1
           try clear hfz13_2
           try clear hfz13_3
           try clear hfz14_0
           try clear hfz14_1
           try clear hfz14_2
           try clear hfz14_3
           try clear hfz16_0
           try clear hfz16_1
           try clear hfz16_2
           try clear hfz16_3
           try clear hfz17_0
           try clear hfz17_1
           try clear hfz17_2
           try clear hfz17_3
           try clear hfz19_0
           try clear hfz19_1
           try clear hfz19_2
           try clear hfz19_3
           try clear hfz20_0
           try clear hfz20_1
           try clear hfz20_2
           try clear hfz20_3
           try clear hfz23_0
           try clear hfz23_1
           try clear hfz23_2
           try clear hfz23_3
           try clear hfz30_0
           try clear hfz30_1
           try clear hfz30_2
           try clear hfz30_3
           try clear hfz33_0
           try clear hfz33_1
           try clear hfz33_2
           try clear hfz33_3
           try clear hfz37_0
           try clear hfz37_1
           try clear hfz37_2
           try clear hfz37_3
           try clear hfz40_0
           try clear hfz40_1
           try clear hfz40_2
           try clear hfz40_3
           try clear hfz44_0
           try clear hfz44_1
           try clear hfz44_2
           try clear hfz44_3
           try clear hfz51_0
           try clear hfz51_1
           try clear hfz51_2
           try clear hfz51_3
           try clear hfz54_0
           try clear hfz54_1
           try clear hfz54_2
           try clear hfz54_3
           try clear hfz58_0
           try clear hfz58_1
           try clear hfz58_2
           try clear hfz58_3
           try clear hfz61_0
           try clear hfz61_1
           try clear hfz61_2
           try clear hfz61_3
           try clear hfz65_0
           try clear hfz65_1
           try clear hfz65_2
           try clear hfz65_3
           try clear hfz8_0
           try clear hfz8_1
           try clear hfz8_2
           try clear hfz8_3
           try clear hfz9_0
           try clear hfz9_1
           try clear hfz9_2
           try clear hfz9_3
           try clear hx229_0
           try clear hx230_0
           try clear hx231_0
           try clear hx232_0
           try clear p2
           try clear p22
           try clear p229
           try clear p23
           try clear p230
           try clear p231
           try clear p232
           try clear p6
           try clear q2
           try clear q22
           try clear q229
           try clear q23
           try clear q230
           try clear q231
           try clear q232
           (try clear BK227)
           (try clear BK228)
           obtain ⟨x83_4, rfl, HA, HK4, BK227, BK228, HB⟩ := hrel
           cases gk with
           | zero => exact absurd HA.out (by simp [ladingref06_Same.l2])
           | succ k4 =>
            have H := HA.out
            clear HA
            simp only [ladingref06_Same.l2] at H
            by_cases c66 : x83_4 < (l0_3.length : Int)
            ·rw [if_pos c66] at H
             have c66b0 : decide (x83_4 < (l0_3.length : Int)) = true := decide_eq_true c66
             clear c66
             by_cases c67 : 0 ≤ x83_4
             ·rw [if_pos c67] at H
              have c67b0 : decide (0 ≤ x83_4) = true := decide_eq_true c67
              clear c67
              by_cases c68 : x83_4 < (l0_3.length : Int)
              ·rw [if_pos c68] at H
               have c68b0 : decide (x83_4 < (l0_3.length : Int)) = true := decide_eq_true c68
               clear c68
               by_cases c69 : x83_4 < (l1_3.length : Int)
               ·rw [if_pos c69] at H
                have c69b0 : decide (x83_4 < (l1_3.length : Int)) = true := decide_eq_true c69
                clear c69
                by_cases c70 : (rd l0_3 x83_4) = (rd l1_3 x83_4)
                ·rw [if_pos c70] at H
                 obtain ⟨c70b0, c70b1⟩ := zq1 c70
                 clear c70
                 have H' := Aside0.mk H
                 clear H
                 have hnb71 := NB227_228.out
                 have hnc71 := NB228_227.out
                 obtain ⟨hcz72_0, hcz72_1, hcz72_2, hcz72_3⟩ := zc4 BK227.out
                 obtain ⟨hfz72_0, hfz72_1, hfz72_2, hfz72_3⟩ := zz4 BK227.out
                 have p233 : 0 ≤ (x83_4 : Int) := of_decide_eq_true za_
                 have q233 : x83_4 < (l0_3.length : Int) := of_decide_eq_true za_
                 obtain ⟨ad233, e233, hx233_0⟩ := Kd.at_int HR0_3.out x83_4 p233 q233
                 cases e233
                 replace hx233_0 := zx_ HB.out hx233_0
                 replace p233 := eq_true p233
                 replace q233 := eq_true q233
                 obtain ⟨hcz73_0, hcz73_1, hcz73_2, hcz73_3⟩ := zc4 BK228.out
                 obtain ⟨hfz73_0, hfz73_1, hfz73_2, hfz73_3⟩ := zz4 BK228.out
                 have p234 : 0 ≤ (x83_4 : Int) := of_decide_eq_true za_
                 have q234 : x83_4 < (l1_3.length : Int) := of_decide_eq_true za_
                 obtain ⟨ad234, e234, hx234_0⟩ := Kd.at_int HR1_3.out x83_4 p234 q234
                 cases e234
                 replace hx234_0 := zx_ HB.out hx234_0
                 replace p234 := eq_true p234
                 replace q234 := eq_true q234
                 go_wp2
                 repeat (go_quiet (fail); try go_wp2)
                 go_roundg k4
                 case measure => have := HJ2.out; have := HK2.out; have := HK3.out; have := HK4.out; omega
                 case rel => exact ⟨(wrap64 (x83_4 + 1)), (by first | rfl | (simp; done) | (simp [*]; done) | (simp only [i64_w]; done)), H', ⟨by have := HJ2.out; have := HK2.out; have := HK3.out; have := HK4.out; omega⟩, ⟨by (with_reducible repeat (first | refine blk_drewN ?_ _ | refine blk_drew ?_ | refine blk_alloc ?_ _)); exact BK227.out⟩, ⟨by (with_reducible repeat (first | refine blk_drewN ?_ _ | refine blk_drew ?_ | refine blk_alloc ?_ _)); exact BK228.out⟩, ⟨by exact zh2_ HB.out GE227.out GE228.out⟩⟩
                ·rw [if_neg c70] at H
                 obtain ⟨c70b0, c70b1⟩ := zq0 c70
                 obtain rfl := Option.some.inj H
                 have hnb74 := NB227_228.out
                 have hnc74 := NB228_227.out
                 obtain ⟨hcz75_0, hcz75_1, hcz75_2, hcz75_3⟩ := zc4 BK227.out
                 obtain ⟨hfz75_0, hfz75_1, hfz75_2, hfz75_3⟩ := zz4 BK227.out
                 have p233 : 0 ≤ (x83_4 : Int) := of_decide_eq_true za_
                 have q233 : x83_4 < (l0_3.length : Int) := of_decide_eq_true za_
                 obtain ⟨ad233, e233, hx233_0⟩ := Kd.at_int HR0_3.out x83_4 p233 q233
                 cases e233
                 replace hx233_0 := zx_ HB.out hx233_0
                 replace p233 := eq_true p233
                 replace q233 := eq_true q233
                 obtain ⟨hcz76_0, hcz76_1, hcz76_2, hcz76_3⟩ := zc4 BK228.out
                 obtain ⟨hfz76_0, hfz76_1, hfz76_2, hfz76_3⟩ := zz4 BK228.out
                 have p234 : 0 ≤ (x83_4 : Int) := of_decide_eq_true za_
                 have q234 : x83_4 < (l1_3.length : Int) := of_decide_eq_true za_
                 obtain ⟨ad234, e234, hx234_0⟩ := Kd.at_int HR1_3.out x83_4 p234 q234
                 cases e234
                 replace hx234_0 := zx_ HB.out hx234_0
                 replace p234 := eq_true p234
                 replace q234 := eq_true q234
                 go_wp2
                 repeat (go_quiet (fail); try go_wp2)
                 go_ret
                 exact ⟨by first | rfl | (simp [errW_none, errW_some] <;> rfl) | (simp [*, errW_none, errW_some] <;> rfl), by exact zh2_ HB.out GE227.out GE228.out⟩
               ·rw [if_neg c69] at H
                cases H
              ·rw [if_neg c68] at H
               cases H
             ·rw [if_neg c67] at H
              cases H
            ·rw [if_neg c66] at H
             have c66b0 : decide (x83_4 < (l0_3.length : Int)) = false := decide_eq_false c66
             clear c66
             obtain rfl := Option.some.inj H
             go_wp2
             repeat (go_quiet (fail); try go_wp2)
             go_ret
             exact ⟨by first | rfl | (simp [errW_none, errW_some] <;> rfl) | (simp [*, errW_none, errW_some] <;> rfl), by exact zh2_ HB.out GE227.out GE228.out⟩
end Go.Proofs.Ytcbgichkeecgiaa.Print
namespace Go.Proofs.Ytcbgichkeecgiaa.Print
open Go.RowKit Go.Proofs.YtcbgichkeecgiaaW.PrintWords Go.Proofs.YtcbgichkeecgiaaW.PrintLast Go.Proofs.YtcbgichkeecgiaaW.PrintMore
attribute [local go_sem] max2_mx min2_mn max_two min_two max_three min_three max_four min_four
set_option linter.unusedVariables false
set_option linter.unusedSimpArgs false
def ladingref06_bytes.f (l0 : List Int) : Option (List Int) := (some (([] : List Int) : List Int)).bind fun y235 => (if y235.length + l0.length < 140737488355328 then (some (y235 ++ l0)) else (none))
set_option maxHeartbeats 8000000 in
set_option maxRecDepth 100000 in
theorem ladingref06_bytes.calls (A0 : Option Addr) (c0 : Nat) (l0 : List Int) (r : List Int) (w : World) (hr0 : Kd.C (Kd.int .u8) w A0 l0.length l0) (hc0 : l0.length ≤ c0) (h : ladingref06_bytes.f l0 = some r) :
  Calls Try.prog 33 #[.slice A0 l0.length c0] w fun e w' => ∃ v0_ : Value, e = .returned (v0_) ∧ Kd.R (Kd.int .u8) 5 w' w.heap.size (fun _ => True) v0_ r ∧ Below w.heap.size w w' := by
 have HR0 := Aside0.mk hr0
 have HC0 := Aside0.mk hc0
 clear hr0 hc0
 have HB := Aside0.mk (Below.refl w.heap.size w)
 have H : ((some (([] : List Int) : List Int)).bind fun y235 => (if y235.length + l0.length < 140737488355328 then (some (y235 ++ l0)) else (none))) = some r := h
 clear h
 obtain ⟨y235, hy235⟩ : ∃ y_ : List Int, y_ = (([] : List Int)) := ⟨_, rfl⟩
 replace H : (if y235.length + l0.length < 140737488355328 then (some (y235 ++ l0)) else (none)) = some r := by first | (rw [hy235]; with_reducible exact H) | (have H2_ := (Option.bind_some _ _).symm.trans H; rw [hy235]; with_reducible exact H2_) | (have H2_ := (Option.bind_some _ _).symm.trans H; with_reducible exact H2_) | with_reducible exact H | (rw [hy235]; exact H) | exact H
 have Ny235 := Aside0.mk hy235
 clear hy235
 by_cases c2 : y235.length + l0.length < 140737488355328
 ·rw [if_pos c2] at H
  have LMc2 := Aside0.mk c2
  clear c2
  obtain ⟨y238, hy238⟩ : ∃ y_ : List Int, y_ = (y235 ++ l0) := ⟨_, rfl⟩
  replace H : (some y238) = some r := by first | (rw [hy238]; with_reducible exact H) | (have H2_ := (Option.bind_some _ _).symm.trans H; rw [hy238]; with_reducible exact H2_) | (have H2_ := (Option.bind_some _ _).symm.trans H; with_reducible exact H2_) | with_reducible exact H | (rw [hy238]; exact H) | exact H
  have Ny238 := Aside0.mk hy238
  clear hy238
  obtain rfl := Option.some.inj H
  go_enter Try.func33, Try.ntmps33
  go_wp2_with (first | ((with_reducible refine gate_dst (N := 3) rfl ?_); refine Kd.R_lit (Kd.int .u8) _ 5 ?hg (N := 3) ?hd (xs := ([] : List Int)) (inner := []) (ok := fun _ => True) (okp := fun _ => True) ?hr ?hp (fun _ hk => hk) trivial (Below.refl _ _) (Nat.le_refl _) (by simp) ?_; (case hd => rfl); (case hg => rfl); (case hr => first | (go_simp; done) | (go_simp; rfl)); (case hp => exact (Reps.none _ _)); intro v236 w3 ho4 hb hg_ hnew_; clear hg_ hnew_; (first | rw [← Ny235.out] at ho4 | (simp only [Int.reduceToNat] at ho4; rw [← Ny235.out] at ho4)); have HO237 := Aside0.mk (Kd.R_lower ho4 (below_size (zh0_ HB.out))); replace HB := Aside0.mk (below_step (zh0_ HB.out) hb); clear hb ho4) | ((with_reducible refine gate_builtin (b := .append) (xs := #[.tmp 3, .tmp 4]) rfl ?_); at_builtin; refine Kd.R_append_rows (Kd.int .u8) (w0 := w) w.heap.size rfl (.tmp 3) (.tmp 4) 27 5 (.int .u8 0) 1 rfl Try.underlying27 info5 rfl (by decide) (by omega) v236 y235 l0 _ _ _ (fun _ => True) (fun _ => False) rfl rfl ?aO ?aR (fun _ _ h => h) (fun _ h => h.elim) ?aF ?aB ?aS ?aL ?_; (case aR => repeat (first | exact (Kd.C_below HR0.out HB.out) | (with_reducible refine Kd.C_alloc ?_ _) | (with_reducible refine Kd.C_drewN ?_ _) | (with_reducible refine Kd.C_drew ?_))); (case aB => exact (zh0_ HB.out)); (case aF => exact (fun _ _ => trivial)); (case aO => exact (zR_ HO237.out)); (case aS => exact (below_size (zh0_ HB.out))); (case aL => have := LMc2.out; omega); intro v239 w5 ho hb hg hat; rw [← Ny238.out] at ho; replace HB := Aside0.mk (hb); have HO240 := Aside0.mk (ho); clear HO237 ho hb hg hat))
  go_ret
  exact ⟨_, by first | rfl | (simp [errW_none, errW_some] <;> rfl) | (simp [*, errW_none, errW_some] <;> rfl), by (with_reducible repeat (first | apply Kd.R_alloc | apply Kd.R_drewN | apply Kd.R_drew)); exact HO240.out, by exact zh0_ HB.out⟩
 ·rw [if_neg c2] at H
  cases H
def ladingref06_lists.l0 : Nat → List (List Int) → List (List Int) → Int → Int → Option ((List (List Int)))
 | 0, _, _, _, _ => none
 | k + 1, x3, x6, x7, x8 => if x8 < x7 then (if 0 ≤ x8 then (if x8 < (x6.length : Int) then ((ladingref06_bytes.f (rd_L1 x6 x8)).bind fun t242 => (if x3.length < 5864062014805 then (ladingref06_lists.l0 k (x3 ++ [t242]) x6 x7 (wrap64 (x8 + 1))) else (none))) else (none)) else (none)) else (some x3)
def ladingref06_lists.f (k : Nat) (l0 : List (List Int)) : Option ((List (List Int))) := ladingref06_lists.l0 k ([] : List (List Int)) l0 (l0.length : Int) 0
theorem ladingref06_lists.mono_l : ∀ k, (∀ y0 y1 y2 y3, LeO (ladingref06_lists.l0 k y0 y1 y2 y3) (ladingref06_lists.l0 (k + 1) y0 y1 y2 y3))
 | 0 => fun _ _ _ _ r h => by simp [ladingref06_lists.l0] at h
 | k + 1 => by
  have ih0 := ladingref06_lists.mono_l k
  ·intro y0 y1 y2 y3
   unfold ladingref06_lists.l0
   repeat' first
   | (with_reducible exact ih0 _ _ _ _)
   | (with_reducible exact LeO.refl _)
   | (with_reducible exact LeO.none _)
   | (with_reducible refine LeO.ite ?_ ?_)
   | (with_reducible refine LeO.bind ?_ (fun _ => ?_))
   | exact ih0 _ _ _ _
   | exact LeO.none _
   | refine LeO.ite ?_ ?_
   | refine LeO.bind ?_ (fun _ => ?_)
theorem ladingref06_lists.mono : ∀ a0 k, LeO (ladingref06_lists.f k a0) (ladingref06_lists.f (k + 1) a0) := by
 intro a0 k
 have ih0 := ladingref06_lists.mono_l k
 unfold ladingref06_lists.f
 repeat' first
   | (with_reducible exact ih0 _ _ _ _)
   | (with_reducible exact LeO.refl _)
   | (with_reducible exact LeO.none _)
   | (with_reducible refine LeO.ite ?_ ?_)
   | (with_reducible refine LeO.bind ?_ (fun _ => ?_))
   | exact ih0 _ _ _ _
   | exact LeO.none _
   | refine LeO.ite ?_ ?_
   | refine LeO.bind ?_ (fun _ => ?_)
set_option maxHeartbeats 8000000 in
set_option maxRecDepth 100000 in
theorem ladingref06_lists.calls (k : Nat) (A0 : Option Addr) (c0 : Nat) (l0 : List (List Int)) (r : List (List Int)) (w : World) (hr0 : Kd.C (Kd.slice 5 (Kd.int .u8)) w A0 l0.length l0) (hc0 : l0.length ≤ c0) (h : ladingref06_lists.f k l0 = some r) :
  Calls Try.prog 30 #[.slice A0 l0.length c0] w fun e w' => ∃ v0_ : Value, e = .returned (v0_) ∧ Kd.S (Kd.slice 5 (Kd.int .u8)) 27 w' w.heap.size (fun _ => True) v0_ r ∧ Below w.heap.size w w' := by
 have HR0 := Aside0.mk hr0
 have HC0 := Aside0.mk hc0
 clear hr0 hc0
 have HB := Aside0.mk (Below.refl w.heap.size w)
 have H : (ladingref06_lists.l0 k ([] : List (List Int)) l0 (l0.length : Int) 0) = some r := h
 clear h
 have H' := Aside0.mk H
 clear H
 go_enter Try.func30, Try.ntmps30
 go_wp2
 go_loopg [3, 8] k (fun kq v3 v8 w' => ∃ (x3_1 : List (List Int)) (x8_1 : Int), v8 = .int .i64 x8_1 ∧ Aside0 (ladingref06_lists.l0 kq x3_1 l0 (l0.length : Int) x8_1 = some r) ∧ Aside0 (kq ≤ k) ∧ Aside0 (Kd.S (Kd.slice 5 (Kd.int .u8)) 27 w' w.heap.size (fun _ => True) v3 x3_1) ∧ Aside0 (Below w.heap.size w w'))
 case atStart => exact ⟨(([] : List (List Int))), (0), (by first | rfl | (simp; done) | (simp [*]; done) | (simp only [i64_w]; done)), H', ⟨Nat.le_refl _⟩, ⟨by first | exact Kd.S_nil _ _ _ _ _ | exact Kd.N_nil _ _ _ _ _ | exact Kd.V_nil _ _ _ _ _ | exact Kd.Q_nil _ _ _ _ _ | exact Kd.R_nil _ _ _ _ _⟩, ⟨by exact zh0_ HB.out⟩⟩
 case round =>
  clear H'
  obtain ⟨x3_1, x8_1, rfl, HA, HK1, HO_3, HB⟩ := hrel
  cases gk with
  | zero => exact absurd HA.out (by simp [ladingref06_lists.l0])
  | succ k1 =>
   have H := HA.out
   clear HA
   simp only [ladingref06_lists.l0] at H
   by_cases c2 : x8_1 < (l0.length : Int)
   ·rw [if_pos c2] at H
    have c2b0 : decide (x8_1 < (l0.length : Int)) = true := decide_eq_true c2
    clear c2
    by_cases c3 : 0 ≤ x8_1
    ·rw [if_pos c3] at H
     have c3b0 : decide (0 ≤ x8_1) = true := decide_eq_true c3
     clear c3
     by_cases c4 : x8_1 < (l0.length : Int)
     ·rw [if_pos c4] at H
      have c4b0 : decide (x8_1 < (l0.length : Int)) = true := decide_eq_true c4
      clear c4
      obtain ⟨t242, A5, H⟩ := zm H
      (try dsimp only at H)
      by_cases c6 : x3_1.length < 5864062014805
      ·rw [if_pos c6] at H
       have LMc6 := Aside0.mk c6
       clear c6
       obtain ⟨y245, hy245⟩ : ∃ y_ : List (List Int), y_ = (x3_1 ++ [t242]) := ⟨_, rfl⟩
       replace H : (ladingref06_lists.l0 k1 y245 l0 (l0.length : Int) (wrap64 (x8_1 + 1))) = some r := by first | (rw [hy245]; with_reducible exact H) | (have H2_ := (Option.bind_some _ _).symm.trans H; rw [hy245]; with_reducible exact H2_) | (have H2_ := (Option.bind_some _ _).symm.trans H; with_reducible exact H2_) | with_reducible exact H | (rw [hy245]; exact H) | exact H
       have Ny245 := Aside0.mk hy245
       clear hy245
       have H' := Aside0.mk H
       clear H
       have p241 : 0 ≤ (x8_1 : Int) := of_decide_eq_true za_
       have q241 : x8_1 < (l0.length : Int) := of_decide_eq_true za_
       obtain ⟨ad241, A241_0, c241_0, e241, hx241_0, hl241_0, hi241_0⟩ := at_L1 HR0.out x8_1 p241 q241
       cases e241
       replace hx241_0 := zx_ HB.out hx241_0
       have HR241_0 := Aside0.mk hi241_0
       have HC241_0 := Aside0.mk hl241_0
       clear hi241_0 hl241_0
       replace p241 := eq_true p241
       replace q241 := eq_true q241
       go_wp2_with (first | ((with_reducible refine gate_callee (f := 33) rfl ?_); refine goesL_ (some 14) rfl rfl Try.func33 (by kernel_rfl) rfl #[.slice A241_0 (rd_L1 l0 x8_1).length c241_0] rfl zl_ ?_; (with_reducible refine (ladingref06_bytes.calls _ _ (rd_L1 l0 x8_1) t242 _ ?side1 ?side2 A5.out).mono ?_); (case side1 => exact zc_ (Kd.C_below HR241_0.out HB.out)); (case side2 => exact HC241_0.out); rintro e w7 ⟨v243, rfl, ho0, hb⟩; refine ⟨_, rfl, ?_⟩; replace HO_3 := Aside0.mk (Kd.S_elder' (by (with_reducible repeat (first | apply Kd.S_alloc | apply Kd.S_drewN | apply Kd.S_drew)); exact HO_3.out) (Kd.R_base ho0) hb); have HO244 := Aside0.mk (Kd.R_lower ho0 (below_size (zh0_ HB.out))); replace HB := Aside0.mk (below_step (zh0_ HB.out) hb); (try clear hb); (try clear hk); (try clear ho0); obtain ⟨Ao9, co9, eo9⟩ := Kd.R_slice HO244.out; subst eo9) | ((with_reducible refine gate_builtin (b := .append) (xs := #[.tmp 12, .tmp 15]) rfl ?_); at_builtin; refine Kd.S_append (Kd.slice 5 (Kd.int .u8)) (w0 := w) w.heap.size rfl (.tmp 12) (.tmp 15) 22 27 (.slice none 0 0) 24 rfl Try.underlying22 info27 rfl (by decide) (by omega) u3 x3_1 t242 [.slice Ao9 t242.length co9] (fun _ => True) (fun k_ => some k_ = (.slice Ao9 t242.length co9 : Value).ownBlock) rfl rfl ?aP (fun k_ hk_ => ((Kd.R_mono (ok' := fun k_ => ((fun _ => True)) k_ ∧ some k_ ≠ (u3 : Value).ownBlock) (Kd.R_apart' (HO244.out) (Kd.S_typed HO_3.out) (by decide)) (fun k_ hk => ⟨trivial, hk.2⟩))).1 k_ hk_.symm) ?aF ?aO ?aB ?aS ?aL ?_; (case aP => exact Kd.M_row (Kd.R_mono (Kd.R_tight rfl (Kd.R_mono (ok' := fun k_ => ((fun _ => True)) k_ ∧ some k_ ≠ (u3 : Value).ownBlock) (Kd.R_apart' (HO244.out) (Kd.S_typed HO_3.out) (by decide)) (fun k_ hk => ⟨trivial, hk.2⟩))) (fun _ h_ => h_))); (case aB => exact (zh0_ HB.out)); (case aF => exact (fun _ _ => trivial)); (case aO => exact (by (with_reducible repeat (first | apply Kd.S_alloc | apply Kd.S_drewN | apply Kd.S_drew)); exact Kd.S_mono HO_3.out (fun k_ hk => ⟨trivial, fun e_ => hk.2 e_⟩))); (case aS => exact (below_size (zh0_ HB.out))); (case aL => have := LMc6.out; omega); intro v246 w8 ho hb hg hat; rw [← Ny245.out] at ho; replace HB := Aside0.mk (hb); have HO247 := Aside0.mk (ho); clear HO_3 HO244 ho hb hg hat))
       go_roundg k1
       case measure => have := HK1.out; omega
       case rel => exact ⟨(y245), (wrap64 (x8_1 + 1)), (by first | rfl | (simp; done) | (simp [*]; done) | (simp only [i64_w]; done)), H', ⟨by have := HK1.out; omega⟩, ⟨by (with_reducible repeat (first | apply Kd.S_alloc | apply Kd.S_drewN | apply Kd.S_drew)); exact HO247.out⟩, ⟨by exact zh0_ HB.out⟩⟩
      ·rw [if_neg c6] at H
       cases H
     ·rw [if_neg c4] at H
      cases H
    ·rw [if_neg c3] at H
     cases H
   ·rw [if_neg c2] at H
    have c2b0 : decide (x8_1 < (l0.length : Int)) = false := decide_eq_false c2
    clear c2
    obtain rfl := Option.some.inj H
    go_wp2
    go_ret
    exact ⟨_, by first | rfl | (simp [errW_none, errW_some] <;> rfl) | (simp [*, errW_none, errW_some] <;> rfl), by (with_reducible repeat (first | apply Kd.S_alloc | apply Kd.S_drewN | apply Kd.S_drew)); exact HO_3.out, by exact zh0_ HB.out⟩
end Go.Proofs.Ytcbgichkeecgiaa.Print
