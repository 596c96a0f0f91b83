-- What the claim uses alone (wip/slim.py). Lean checks it.
import Derived.Test.YtcbgichkeecgiaaZAb
import Derived.Test.YtcbgichkeecgiaaZPrint0
namespace Go.Proofs.Ytcbgichkeecgiaa.Print
open Go.RowKit Go.Proofs.YtcbgichkeecgiaaW.PrintWords Go.Proofs.YtcbgichkeecgiaaW.PrintLast Go.Proofs.YtcbgichkeecgiaaW.PrintMore
attribute [local go_sem] max2_mx min2_mn max_two min_two max_three min_three max_four min_four
set_option linter.unusedVariables false
set_option linter.unusedSimpArgs false
def crc_shifted.l0 : Nat → Int → Int → Int → Option (Int)
 | 0, _, _, _ => none
 | k + 1, x0, x5, x6 => if x6 < x5 then (crc_shifted.l0 k (Go.bits .xor .u32 (x0 / 2) (Go.bits .and .u32 3988292384 ((-(Go.bits .and .u32 x0 1)) % 4294967296))) x5 (wrap64 (x6 + 1))) else (some x0)
def crc_shifted.f (k : Nat) (a0 : Int) (a1 : Int) : Option (Int) := crc_shifted.l0 k a0 a1 0
set_option maxHeartbeats 8000000 in
set_option maxRecDepth 100000 in
theorem crc_shifted.calls (k : Nat) (a0 : Int) (a1 : Int) (r : Int) (w : World) (h : crc_shifted.f k a0 a1 = some r) :
  Calls Try.prog 71 #[.int .u32 a0, .int .i64 a1] w fun e w' => e = .returned (.int .u32 r) ∧ Drawn0 w w' := by
 have H : (crc_shifted.l0 k a0 a1 0) = some r := h
 clear h
 have H' := Aside0.mk H
 clear H
 go_enter Try.func71, Try.ntmps71
 go_wp2
 go_loopg [0, 6] k (fun kq v0 v6 w' => ∃ (x0_1 : Int) (x6_1 : Int), v0 = .int .u32 x0_1 ∧ v6 = .int .i64 x6_1 ∧ Aside0 (crc_shifted.l0 kq x0_1 a1 x6_1 = some r) ∧ Aside0 (kq ≤ k) ∧ Drawn0 w w')
 case atStart => exact ⟨(a0), (0), (by first | rfl | (simp; done) | (simp [*]; done) | (simp only [i64_w]; done)), (by first | rfl | (simp; done) | (simp [*]; done) | (simp only [i64_w]; done)), H', ⟨Nat.le_refl _⟩, by repeat (first | exact Drawn0.refl _ | apply Drawn0.step)⟩
 case round =>
  clear H'
  try clear p2
  obtain ⟨x0_1, x6_1, rfl, rfl, HA, HK1, ⟨m1, rfl⟩⟩ := hrel
  cases gk with
  | zero => exact absurd HA.out (by simp [crc_shifted.l0])
  | succ k1 =>
   have H := HA.out
   clear HA
   simp only [crc_shifted.l0] at H
   by_cases c3 : x6_1 < a1
   ·rw [if_pos c3] at H
    have c3b0 : decide (x6_1 < a1) = true := decide_eq_true c3
    clear c3
    have H' := Aside0.mk H
    clear H
    go_wp2
    go_roundg k1
    case measure => have := HK1.out; omega
    case rel => exact ⟨(Go.bits .xor .u32 (x0_1 / 2) (Go.bits .and .u32 3988292384 ((-(Go.bits .and .u32 x0_1 1)) % 4294967296))), (wrap64 (x6_1 + 1)), (by first | rfl | (simp; done) | (simp [*]; done) | (simp only [i64_w]; done)), (by first | rfl | (simp; done) | (simp [*]; done) | (simp only [i64_w]; done)), H', ⟨by have := HK1.out; omega⟩, by repeat (first | exact Drawn0.refl _ | apply Drawn0.step)⟩
   ·rw [if_neg c3] at H
    have c3b0 : decide (x6_1 < a1) = false := decide_eq_false c3
    clear c3
    obtain rfl := Option.some.inj H
    go_wp2
    go_ret
    exact ⟨by first | rfl | (simp; done) | (simp [*]; done), by repeat (first | exact Drawn0.refl _ | apply Drawn0.step)⟩
theorem crcTab_shifted : ∀ k : Nat, k < 16 → crc_shifted.f 5 (k : Int) 4 = some (crcTab.getD k 0) := by decide +kernel
def TabRel (w : World) (v2 v3 : Value) (kq : Nat) (wr : World) : Prop := ∃ k : Nat, k ≤ 16 ∧ k + kq = 17 ∧ v3 = .int .i64 k ∧ wr.heap[w.heap.size]? = some (.cells (arrUpto .u32 0 crcTab) 84 (0, 0)) ∧ wr.heap[w.heap.size + 1]? = some (.cells (arrUpto .u32 k crcTab) 84 (0, 0)) ∧ Below w.heap.size w wr
set_option maxHeartbeats 1000000 in
set_option maxRecDepth 100000 in
theorem crc_table.row (w : World) :
  Calls Try.prog 70 #[] w fun e w' => e = .returned (.agg ((crcTab.map (Value.int .u32)).toArray)) ∧ Below w.heap.size w w' := by
 go_enter Try.func70, Try.ntmps70
 go_wp2
 go_loopg [2, 3] 17 (fun kq v2 v3 wr => TabRel w v2 v3 kq wr)
 case atStart =>
  refine ⟨0, by omega, rfl, rfl, ?_, ?_, ?_⟩
  ·exact heap_alloc2_old w _ _
  ·exact heap_alloc2_new w _ _
  ·exact below_alloc (below_alloc (Below.refl _ _) _) _
 case round =>
  obtain ⟨k, hk16, hk, rfl, h0, h1, hb⟩ := hrel
  have Hb := Aside0.mk hb
  have H0 := Aside0.mk h0
  have H1 := Aside0.mk h1
  clear hb h0 h1
  by_cases hlt : k < 16
  ·obtain ⟨gk, rfl⟩ : ∃ m, gk = m + 1 := ⟨gk - 1, by omega⟩
   have HS := Aside0.mk (crcTab_shifted k hlt)
   go_wp2_with fail
   refine (crc_shifted.calls 5 k 4 (crcTab.getD k 0) _ HS.out).mono ?_
   rintro e w' ⟨rfl, ⟨n, rfl⟩⟩
   have hc : wr.cell? ⟨w.heap.size + 1, k, none⟩ = some (.int .u32 0) := by
    rw [cell_of_row _ _ _ _ _ _ H1.out]
    exact arrUpto_get _ (by simpa [crcTab] using hlt)
   have hf : wr.frozen? ⟨w.heap.size + 1, k, none⟩ = false := frozen_of_row _ _ _ _ _ H1.out
   go_wp2_with fail
   go_roundg gk
   case measure => exact Nat.lt_succ_self _
   case rel =>
    refine ⟨k + 1, by omega, by omega, by go_num, ?_, ?_, ?_⟩
    ·refine (heap_setCell_other _ _ _ _ ?_).trans H0.out; exact Nat.ne_of_lt (Nat.lt_succ_self _)
    ·have := heap_setCell_same _ _ k _ _ (.int .u32 (crcTab.getD k 0)) H1.out
     rw [arrUpto_set _ (by simpa [crcTab] using hlt)] at this
     exact this
    ·exact below_set (pw_below_drewN Hb.out _) (Nat.le_succ _)
  ·obtain rfl : k = 16 := by omega
   have e16 : arrUpto .u32 16 crcTab = (crcTab.map (Value.int .u32)).toArray := arrUpto_full _ crcTab
   have H1' := Aside0.mk (e16 ▸ H1.out)
   clear e16 H1 hlt
   go_wp2_with (first | (with_reducible refine wpList_load_row rfl 84 (.tmp 1) rfl (w.heap.size + 1) rfl 84 _ (0, 0) _ H1'.out Try.underlying84 rfl (by kernel_rfl) ?_) | (refine wpList_store_row rfl 84 (.tmp 0) (.tmp 12) rfl w.heap.size _ rfl rfl 84 _ H0.out (by kernel_rfl) (by kernel_rfl) (by kernel_rfl) ?_))
   refine bodyPost_ret (results_cell_row rfl _ _ w.heap.size 84 _ (0, 0) _ rfl (setRow_heap _ _ _ _ _ _ H0.out) Try.underlying84 rfl (by kernel_rfl)) rfl ⟨rfl, ?_⟩
   exact below_setRow Hb.out (Nat.le_refl _) _
def crc_Update.f (a0 : Int) (l1 : List Int) : Option Int := some (Go.bits .xor .u32 4294967295 (l1.foldl crcStep (Go.bits .xor .u32 4294967295 a0)))
def UpdRel (B : Nat) (w : World) (c0 : Int) (l1 : List Int) (kq : Nat) (v6 v14 : Value) (wr : World) : Prop := ∃ k : Nat, k ≤ l1.length ∧ k + kq = l1.length + 1 ∧ v6 = .int .u32 ((l1.take k).foldl crcStep c0) ∧ v14 = .int .i64 k ∧ wr.heap[B]? = some (.cells ((crcTab.map (Value.int .u32)).toArray) 84 (0, 0)) ∧ Below w.heap.size w wr
theorem tab_cell {w : World} {B : Nat} (h : w.heap[B]? = some (.cells ((crcTab.map (Value.int .u32)).toArray) 84 (0, 0))) (c : Int) : w.cell? ⟨B, (Go.bits .and .u32 c 15).toNat, none⟩ = some (.int .u32 (crcEnt c)) := by
 unfold crcEnt
 rw [cell_of_row _ _ _ _ _ _ h]
 have := and15 c
 have h1 : (Go.bits .and .u32 c 15).toNat < crcTab.length := by simp [crcTab]; omega
 rw [List.getElem?_toArray, List.getElem?_map, List.getElem?_eq_getElem h1, List.getD_eq_getElem?_getD, List.getElem?_eq_getElem h1]
 rfl
set_option maxHeartbeats 1000000 in
set_option maxRecDepth 100000 in
theorem crc_Update.calls (a0 : Int) (A1 : Option Addr) (c1 : Nat) (l1 : List Int) (r : Int) (w : World) (hr1 : Kd.C (Kd.int .u8) w A1 l1.length l1) (hc1 : l1.length ≤ c1) (h : crc_Update.f a0 l1 = some r) :
  Calls Try.prog 68 #[.int .u32 a0, .slice A1 l1.length c1] w fun e w' => e = .returned (.int .u32 r) ∧ Below w.heap.size w w' := by
 obtain rfl := Option.some.inj h
 clear h
 have HR1 := Aside0.mk hr1
 have HC1 := Aside0.mk hc1
 clear hr1 hc1
 go_enter Try.func68, Try.ntmps68
 go_wp2_with fail
 refine (crc_table.row _).mono ?_
 rintro e w1 ⟨rfl, hb1⟩
 have Hb1 := Aside0.mk hb1
 clear hb1
 have hn := Aside0.mk (blk_new w1 (.cells ((List.replicate 16 (Value.int .u32 0)).toArray) 84 (0, 0)))
 go_wp2_with (refine wpList_store_row rfl 84 (.tmp 5) (.tmp 9) rfl w1.heap.size _ rfl rfl 84 _ hn.out (by kernel_rfl) (by kernel_rfl) (by kernel_rfl) ?_)
 go_loopg [6, 14] (l1.length + 1) (fun kq v6 v14 wr => UpdRel w1.heap.size w (Go.bits .xor .u32 4294967295 a0) l1 kq v6 v14 wr)
 case atStart =>
  refine ⟨0, by omega, by omega, rfl, rfl, setRow_heap _ _ _ _ _ _ hn.out, ?_⟩
  exact below_setRow (below_alloc Hb1.out _) Hb1.out.size _
 case round =>
  obtain ⟨k, hkl, hk, rfl, rfl, h0, hb⟩ := hrel
  have Hb := Aside0.mk hb
  have H0 := Aside0.mk h0
  have HK := Aside0.mk hk
  clear hb h0 hk hn
  have HT := fun c => tab_cell H0.out c
  generalize hc : (l1.take k).foldl crcStep (Go.bits .xor .u32 4294967295 a0) = c
  have HC := Aside0.mk hc
  clear hc
  by_cases hlt : k < l1.length
  ·obtain ⟨gk, rfl⟩ : ∃ m, gk = m + 1 := ⟨gk - 1, by have := HK.out; omega⟩
   obtain ⟨ad, e, hx⟩ := Kd.at_int HR1.out (k : Int) (by omega) (by omega)
   cases e
   have hx' := pw_cell_below (Hb.out) hx
   rw [Int.toNat_natCast] at hx'
   have HB1 := Aside0.mk (and15 (Go.bits .xor .u32 c ((rd l1 k) % 4294967296)))
   have p1 := eq_true HB1.out.1
   have q1 := eq_true HB1.out.2
   have t1 := HT (Go.bits .xor .u32 c ((rd l1 k) % 4294967296))
   have HB2 := Aside0.mk (and15 (crcNib (Go.bits .xor .u32 c ((rd l1 k) % 4294967296))))
   have p2 := eq_true HB2.out.1
   have q2 := eq_true HB2.out.2
   have t2 := HT (crcNib (Go.bits .xor .u32 c ((rd l1 k) % 4294967296)))
   clear HT hx
   unfold crcNib at p2 q2 t2
   have hm : l1.length ≤ 9223372036854775807 := HR1.out.2.1
   go_wp2_with fail
   go_roundg gk
   case measure => exact Nat.lt_succ_self _
   case rel =>
    refine ⟨k + 1, by omega, by have := HK.out; omega, ?_, by go_num, H0.out, Hb.out⟩
    rw [List.take_succ_eq_append_getElem hlt, List.foldl_append, HC.out]
    have : rd l1 (k : Int) = l1[k] := by simp [rd, List.getD_eq_getElem?_getD, List.getElem?_eq_getElem hlt]
    rw [this]; rfl
  ·obtain rfl : k = l1.length := by omega
   rw [List.take_length] at HC
   go_wp2_with fail
   go_ret
   refine ⟨?_, Hb.out⟩
   rw [HC.out]; rfl
def crc_Of.f (l0 : List Int) : Option (Int) := (crc_Update.f 0 l0).bind fun t183 => (some t183)
set_option maxHeartbeats 8000000 in
set_option maxRecDepth 100000 in
theorem crc_Of.calls (A0 : Option Addr) (c0 : Nat) (l0 : List Int) (r : Int) (w : World) (hr0 : Kd.C (Kd.int .u8) w A0 l0.length l0) (hc0 : l0.length ≤ c0) (h : crc_Of.f l0 = some r) :
  Calls Try.prog 60 #[.slice A0 l0.length c0] w fun e w' => e = .returned (.int .u32 r) ∧ Below w.heap.size w w' := by
 have HR0 := Aside0.mk hr0
 have HC0 := Aside0.mk hc0
 clear hr0 hc0
 have HB := Aside0.mk (Below.refl w.heap.size w)
 have H : ((crc_Update.f 0 l0).bind fun t183 => (some t183)) = some r := h
 clear h
 replace H := Option.bind_eq_some_iff.mp H
 obtain ⟨t183, A20, H⟩ := H
 replace H : (some t183) = some r := H
 have A2 := Aside0.mk A20
 clear A20
 obtain rfl := Option.some.inj H
 go_enter Try.func60, Try.ntmps60
 go_wp2_with (first | ((with_reducible refine gate_callee (f := 68) rfl ?_); refine goesL_ (some 4) rfl rfl Try.func68 (by kernel_rfl) rfl #[.int .u32 0, .slice A0 l0.length c0] rfl zl_ ?_; (with_reducible refine (crc_Update.calls 0 _ _ l0 t183 _ ?side1 ?side2 A2.out).mono ?_); (case side1 => repeat (first | exact HR0.out | (with_reducible refine Kd.C_alloc ?_ _) | (with_reducible refine Kd.C_drewN ?_ _) | (with_reducible refine Kd.C_drew ?_))); (case side2 => exact HC0.out); rintro e w3 ⟨rfl, hb⟩; refine ⟨_, rfl, ?_⟩; have n0_ := Aside0.mk (below_step (zh0_ HB.out) hb); clear HB; have HB := n0_; clear n0_; (try clear hb); (try clear hb2); (try clear hk); (try clear hi)))
 go_ret
 exact ⟨by first | rfl | (simp [errW_none, errW_some] <;> rfl) | (simp [*, errW_none, errW_some] <;> rfl), by exact zh0_ HB.out⟩
def crc_Seal.f (l0 : List Int) : Option (List Int) := (crc_Of.f l0).bind fun t184 => (if 0 ≤ (wrap64 ((l0.length : Int) + 4)) then (if (wrap64 ((l0.length : Int) + 4) : Int).toNat ≤ 281474976710656 then ((some (([] : List Int) : List Int)).bind fun y185 => (if y185.length + l0.length < 140737488355328 then ((some (y185 ++ l0 : List Int)).bind fun y188 => ((some (([(t184) % 256, (t184 / 256) % 256, (t184 / 65536) % 256, (t184 / 16777216) % 256] : List Int) : List Int)).bind fun y191 => (if y188.length + y191.length < 140737488355328 then (some (y188 ++ y191)) else (none)))) else (none))) else (none)) else (none))
set_option maxHeartbeats 8000000 in
set_option maxRecDepth 100000 in
theorem crc_Seal.calls (A0 : Option Addr) (c0 : Nat) (l0 : List Int) (r : List Int) (w : World) (hr0 : Kd.C (Kd.int .u8) w A0 l0.length l0) (hc0 : l0.length ≤ c0) (h : crc_Seal.f l0 = some r) :
  Calls Try.prog 42 #[.slice A0 l0.length c0] w fun e w' => ∃ v0_ : Value, e = .returned (v0_) ∧ Kd.R (Kd.int .u8) 5 w' w.heap.size (fun _ => True) v0_ r ∧ Below w.heap.size w w' := by
 have HR0 := Aside0.mk hr0
 have HC0 := Aside0.mk hc0
 clear hr0 hc0
 have HB := Aside0.mk (Below.refl w.heap.size w)
 have H : ((crc_Of.f l0).bind fun t184 => (if 0 ≤ (wrap64 ((l0.length : Int) + 4)) then (if (wrap64 ((l0.length : Int) + 4) : Int).toNat ≤ 281474976710656 then ((some (([] : List Int) : List Int)).bind fun y185 => (if y185.length + l0.length < 140737488355328 then ((some (y185 ++ l0 : List Int)).bind fun y188 => ((some (([(t184) % 256, (t184 / 256) % 256, (t184 / 65536) % 256, (t184 / 16777216) % 256] : List Int) : List Int)).bind fun y191 => (if y188.length + y191.length < 140737488355328 then (some (y188 ++ y191)) else (none)))) else (none))) else (none)) else (none))) = some r := h
 clear h
 replace H := Option.bind_eq_some_iff.mp H
 obtain ⟨t184, A20, H⟩ := H
 replace H : (if 0 ≤ (wrap64 ((l0.length : Int) + 4)) then (if (wrap64 ((l0.length : Int) + 4) : Int).toNat ≤ 281474976710656 then ((some (([] : List Int) : List Int)).bind fun y185 => (if y185.length + l0.length < 140737488355328 then ((some (y185 ++ l0 : List Int)).bind fun y188 => ((some (([(t184) % 256, (t184 / 256) % 256, (t184 / 65536) % 256, (t184 / 16777216) % 256] : List Int) : List Int)).bind fun y191 => (if y188.length + y191.length < 140737488355328 then (some (y188 ++ y191)) else (none)))) else (none))) else (none)) else (none)) = some r := H
 have A2 := Aside0.mk A20
 clear A20
 obtain ⟨ji3, hji3⟩ : ∃ j_ : Int, (wrap64 ((l0.length : Int) + 4)) = j_ := ⟨_, rfl⟩
 replace H : (if 0 ≤ (ji3) then (if (ji3 : Int).toNat ≤ 281474976710656 then ((some (([] : List Int) : List Int)).bind fun y185 => (if y185.length + l0.length < 140737488355328 then ((some (y185 ++ l0 : List Int)).bind fun y188 => ((some (([(t184) % 256, (t184 / 256) % 256, (t184 / 65536) % 256, (t184 / 16777216) % 256] : List Int) : List Int)).bind fun y191 => (if y188.length + y191.length < 140737488355328 then (some (y188 ++ y191)) else (none)))) else (none))) else (none)) else (none)) = some r := by first | (rw [hji3] at H; exact H) | (simp only [hji3] at H ⊢; exact H)
 (try rw [hji3] at A2)
 have hji3w : (IntKind.i64.wrap ((l0.length : Int) + 4)) = ji3 := (i64_w _).trans hji3
 by_cases c4 : 0 ≤ (ji3)
 ·rw [if_pos c4] at H
  have c4b0 := eq_true c4
  have c4b1 : decide (0 ≤ (ji3)) = true := decide_eq_true c4
  clear c4
  by_cases c5 : (ji3 : Int).toNat ≤ 281474976710656
  ·rw [if_pos c5] at H
   have c5b0 := eq_true c5
   have c5b1 : decide ((ji3 : Int).toNat ≤ 281474976710656) = true := decide_eq_true c5
   clear c5
   obtain ⟨y185, hy185⟩ : ∃ y_ : List Int, y_ = (([] : List Int)) := ⟨_, rfl⟩
   replace H : (if y185.length + l0.length < 140737488355328 then ((some (y185 ++ l0 : List Int)).bind fun y188 => ((some (([(t184) % 256, (t184 / 256) % 256, (t184 / 65536) % 256, (t184 / 16777216) % 256] : List Int) : List Int)).bind fun y191 => (if y188.length + y191.length < 140737488355328 then (some (y188 ++ y191)) else (none)))) else (none)) = some r := by first | (rw [hy185]; with_reducible exact H) | (have H2_ := (Option.bind_some _ _).symm.trans H; rw [hy185]; with_reducible exact H2_) | (have H2_ := (Option.bind_some _ _).symm.trans H; with_reducible exact H2_) | with_reducible exact H | (rw [hy185]; exact H) | exact H
   have Ny185 := Aside0.mk hy185
   clear hy185
   by_cases c6 : y185.length + l0.length < 140737488355328
   ·rw [if_pos c6] at H
    have LMc6 := Aside0.mk c6
    clear c6
    obtain ⟨y188, hy188⟩ : ∃ y_ : List Int, y_ = (y185 ++ l0) := ⟨_, rfl⟩
    replace H : ((some (([(t184) % 256, (t184 / 256) % 256, (t184 / 65536) % 256, (t184 / 16777216) % 256] : List Int) : List Int)).bind fun y191 => (if y188.length + y191.length < 140737488355328 then (some (y188 ++ y191)) else (none))) = some r := by first | (rw [hy188]; with_reducible exact H) | (have H2_ := (Option.bind_some _ _).symm.trans H; rw [hy188]; with_reducible exact H2_) | (have H2_ := (Option.bind_some _ _).symm.trans H; with_reducible exact H2_) | with_reducible exact H | (rw [hy188]; exact H) | exact H
    have Ny188 := Aside0.mk hy188
    clear hy188
    obtain ⟨y191, hy191⟩ : ∃ y_ : List Int, y_ = (([(t184) % 256, (t184 / 256) % 256, (t184 / 65536) % 256, (t184 / 16777216) % 256] : List Int)) := ⟨_, rfl⟩
    replace H : (if y188.length + y191.length < 140737488355328 then (some (y188 ++ y191)) else (none)) = some r := by first | (rw [hy191]; with_reducible exact H) | (have H2_ := (Option.bind_some _ _).symm.trans H; rw [hy191]; with_reducible exact H2_) | (have H2_ := (Option.bind_some _ _).symm.trans H; with_reducible exact H2_) | with_reducible exact H | (rw [hy191]; exact H) | exact H
    have Ny191 := Aside0.mk hy191
    clear hy191
    by_cases c7 : y188.length + y191.length < 140737488355328
    ·rw [if_pos c7] at H
     have LMc7 := Aside0.mk c7
     clear c7
     obtain ⟨y194, hy194⟩ : ∃ y_ : List Int, y_ = (y188 ++ y191) := ⟨_, rfl⟩
     replace H : (some y194) = some r := by first | (rw [hy194]; with_reducible exact H) | (have H2_ := (Option.bind_some _ _).symm.trans H; rw [hy194]; with_reducible exact H2_) | (have H2_ := (Option.bind_some _ _).symm.trans H; with_reducible exact H2_) | with_reducible exact H | (rw [hy194]; exact H) | exact H
     have Ny194 := Aside0.mk hy194
     clear hy194
     obtain rfl := Option.some.inj H
     go_enter Try.func42, Try.ntmps42
     go_wp2_with (first | ((with_reducible refine gate_callee (f := 60) rfl ?_); refine goesL_ (some 5) rfl rfl Try.func60 (by kernel_rfl) rfl #[.slice A0 l0.length c0] rfl zl_ ?_; (with_reducible refine (crc_Of.calls _ _ l0 t184 _ ?side1 ?side2 A2.out).mono ?_); (case side1 => repeat (first | exact HR0.out | (with_reducible refine Kd.C_alloc ?_ _) | (with_reducible refine Kd.C_drewN ?_ _) | (with_reducible refine Kd.C_drew ?_))); (case side2 => exact HC0.out); rintro e w8 ⟨rfl, hb⟩; refine ⟨_, rfl, ?_⟩; have n0_ := Aside0.mk (below_step (zh0_ HB.out) hb); clear HB; have HB := n0_; clear n0_; (try clear hb); (try clear hb2); (try clear hk); (try clear hi)) | ((with_reducible refine gate_dst (N := 9) rfl ?_); refine R_makecap (Kd.int .u8) _ 5 rfl (N := 9) rfl 27 _ _ rfl ji3 rfl rfl Try.underlying27 (.int .u8 0) 1 info5 rfl (by decide) (by omega) (ok := fun _ => True) trivial (of_decide_eq_true za_) (Nat.le_trans (Nat.mul_le_mul_right _ (of_decide_eq_true za_ : (ji3 : Int).toNat ≤ 281474976710656)) (by omega)) (Below.refl _ _) (Nat.le_refl _) ?_; intro v186 w9 ho10 hb hg_ hnew_; clear hg_ hnew_; (first | rw [← Ny185.out] at ho10 | (simp only [Int.reduceToNat] at ho10; rw [← Ny185.out] at ho10)); have n0_ := Aside0.mk (Kd.R_lower ho10 (below_size (zh0_ HB.out))); have n1_ := Aside0.mk (below_step (zh0_ HB.out) hb); clear HB; have HO187 := n0_; have HB := n1_; clear n0_ n1_; clear hb ho10) | ((with_reducible refine gate_builtin (b := .append) (xs := #[.tmp 9, .tmp 10]) rfl ?_); at_builtin; refine Kd.R_append_rows (Kd.int .u8) (w0 := w) w.heap.size rfl (.tmp 9) (.tmp 10) 27 5 (.int .u8 0) 1 rfl Try.underlying27 info5 rfl (by decide) (by omega) v186 y185 l0 _ _ _ (fun _ => True) (fun _ => False) rfl rfl ?aO ?aR (fun _ _ h => h) (fun _ h => h.elim) ?aF ?aB ?aS ?aL ?_; (case aR => repeat (first | exact (Kd.C_below HR0.out HB.out) | (with_reducible refine Kd.C_alloc ?_ _) | (with_reducible refine Kd.C_drewN ?_ _) | (with_reducible refine Kd.C_drew ?_))); (case aB => exact (zh0_ HB.out)); (case aF => exact (fun _ _ => trivial)); (case aO => exact (zR_ HO187.out)); (case aS => exact (below_size (zh0_ HB.out))); (case aL => have := LMc6.out; omega); intro v189 w11 ho hb hg hat; rw [← Ny188.out] at ho; have n0_ := Aside0.mk (hb); have n1_ := Aside0.mk (ho); clear HB; clear HO187; have HB := n0_; have HO190 := n1_; clear n0_ n1_; clear ho hb hg hat) | ((with_reducible refine gate_dst (N := 23) rfl ?_); refine Kd.R_lit (Kd.int .u8) _ 5 ?hg (N := 23) ?hd (xs := ([(t184) % 256, (t184 / 256) % 256, (t184 / 65536) % 256, (t184 / 16777216) % 256] : List Int)) (inner := [.int .u8 ((t184) % 256), .int .u8 ((t184 / 256) % 256), .int .u8 ((t184 / 65536) % 256), .int .u8 ((t184 / 16777216) % 256)]) (ok := fun _ => True) (okp := fun _ => True) ?hr ?hp (fun _ hk => hk) trivial (Below.refl _ _) (Nat.le_refl _) (by simp) ?_; (case hd => rfl); (case hg => rfl); (case hr => first | (go_simp; done) | (go_simp; rfl)); (case hp => exact (Reps.one (show Kd.M (Kd.int .u8) _ _ _ ((t184) % 256) [.int .u8 ((t184) % 256)] from rfl) (Reps.one (show Kd.M (Kd.int .u8) _ _ _ ((t184 / 256) % 256) [.int .u8 ((t184 / 256) % 256)] from rfl) (Reps.one (show Kd.M (Kd.int .u8) _ _ _ ((t184 / 65536) % 256) [.int .u8 ((t184 / 65536) % 256)] from rfl) (Reps.one (show Kd.M (Kd.int .u8) _ _ _ ((t184 / 16777216) % 256) [.int .u8 ((t184 / 16777216) % 256)] from rfl) (Reps.none _ _)))))); intro v192 w12 ho13 hb hg_ hnew_; clear hg_ hnew_; (first | rw [← Ny191.out] at ho13 | (simp only [Int.reduceToNat] at ho13; rw [← Ny191.out] at ho13)); have n0_ := Aside0.mk (Kd.R_elder' (zR_ HO190.out) (Kd.R_base ho13) hb); have n1_ := Aside0.mk (Kd.R_lower (Kd.R_new' ho13 (Kd.R_lt (zR_ HO190.out))) (below_size (zh0_ HB.out))); have n2_ := Aside0.mk (below_step (zh0_ HB.out) hb); clear HO190; clear HB; have HO190 := n0_; have HO193 := n1_; have HB := n2_; clear n0_ n1_ n2_; clear hb ho13; obtain ⟨Ao15, co15, eo15⟩ := Kd.R_slice HO193.out; subst eo15) | ((with_reducible refine gate_builtin (b := .append) (xs := #[.tmp 11, .tmp 23]) rfl ?_); at_builtin; refine Kd.R_append_rows (Kd.int .u8) (w0 := w) w.heap.size rfl (.tmp 11) (.tmp 23) 27 5 (.int .u8 0) 1 rfl Try.underlying27 info5 rfl (by decide) (by omega) v189 y188 y191 _ _ _ (fun k_ => some k_ ≠ (.slice Ao15 y191.length co15 : Value).ownBlock) (fun _ => False) rfl rfl ?aO ?aR (fun _ _ h => h) (fun _ h => h.elim) ?aF ?aB ?aS ?aL ?_; (case aR => repeat (first | exact (Kd.R_reads' HO193.out).2.2 | (with_reducible refine Kd.C_alloc ?_ _) | (with_reducible refine Kd.C_drewN ?_ _) | (with_reducible refine Kd.C_drew ?_))); (case aB => exact (zh0_ HB.out)); (case aF => exact (fun k_ hk => Kd.fresh' (Kd.R_lt (zR_ HO193.out)) k_ hk)); (case aO => exact (by (with_reducible repeat (first | apply Kd.R_alloc | apply Kd.R_drewN | apply Kd.R_drew)); exact Kd.R_mono HO190.out (fun _ hk => hk.2))); (case aS => exact (below_size (zh0_ HB.out))); (case aL => have := LMc7.out; omega); intro v195 w14 ho hb hg hat; rw [← Ny194.out] at ho; have n0_ := Aside0.mk (Kd.R_after (ok := (fun _ => True)) (zR_ HO193.out) hg hat); have n1_ := Aside0.mk (hb); have n2_ := Aside0.mk (ho); clear HO193; clear HB; clear HO190; have HO193 := n0_; have HB := n1_; have HO196 := n2_; clear n0_ n1_ n2_; clear ho hb hg hat))
     go_ret
     exact ⟨_, by first | rfl | (simp [errW_none, errW_some] <;> rfl) | (simp only [← hji3]; first | rfl | (simp [errW_none, errW_some] <;> rfl)) | (simp [*, errW_none, errW_some] <;> rfl), by (with_reducible repeat (first | apply Kd.R_alloc | apply Kd.R_drewN | apply Kd.R_drew)); exact Kd.R_mono HO196.out (fun _ hk => trivial), by exact zh0_ HB.out⟩
    ·rw [if_neg c7] at H
     exact absurd H (by simp)
   ·rw [if_neg c6] at H
    exact absurd H (by simp)
  ·rw [if_neg c5] at H
   exact absurd H (by simp)
 ·rw [if_neg c4] at H
  exact absurd H (by simp)
end Go.Proofs.Ytcbgichkeecgiaa.Print
