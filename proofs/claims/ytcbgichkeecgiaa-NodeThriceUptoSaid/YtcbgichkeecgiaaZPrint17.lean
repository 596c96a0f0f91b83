-- What the claim uses alone (wip/slim.py). Lean checks it.
import Derived.Test.YtcbgichkeecgiaaZAb
import Derived.Test.YtcbgichkeecgiaaZPrint16
import Derived.Test.YtcbgichkeecgiaaZPrint0
import Derived.Test.YtcbgichkeecgiaaZPrint6
import Derived.Test.YtcbgichkeecgiaaZPrint15
namespace Go.Proofs.Ytcbgichkeecgiaa.Print
open Go.RowKit Go.Proofs.YtcbgichkeecgiaaW.PrintWords Go.Proofs.YtcbgichkeecgiaaW.PrintLast Go.Proofs.YtcbgichkeecgiaaW.PrintMore
attribute [local go_sem] max2_mx min2_mn max_two min_two max_three min_three max_four min_four
set_option linter.unusedVariables false
set_option linter.unusedSimpArgs false
def node_Encode.pad (l : List Int) : List Int := l.take (min l.length (List.replicate (4092 : Int).toNat (0 : Int)).length) ++ (List.replicate (4092 : Int).toNat 0).drop (min l.length (List.replicate (4092 : Int).toNat (0 : Int)).length)
theorem node_Encode.pad_len (l Z : List Int) : (l.take (min l.length Z.length) ++ Z.drop (min l.length Z.length)).length = Z.length := by rw [List.length_append, List.length_take, List.length_drop]; omega
theorem node_Encode.seal (A : Option Addr) (c : Nat) (l Z r : List Int) (w : World) (hC : Kd.C (Kd.int .u8) w A (l.take (min l.length Z.length) ++ Z.drop (min l.length Z.length)).length (l.take (min l.length Z.length) ++ Z.drop (min l.length Z.length))) (hc : Z.length ≤ c) (h : crc_Seal.f (l.take (min l.length Z.length) ++ Z.drop (min l.length Z.length)) = some r) :
  Calls Try.prog 42 #[.slice A Z.length c] w fun e w' => ∃ v0_ : Value, e = .returned (v0_) ∧ Kd.R (Kd.int .u8) 5 w' w.heap.size (fun _ => True) v0_ r ∧ Below w.heap.size w w' := by
 have hl := node_Encode.pad_len l Z
 generalize l.take (min l.length Z.length) ++ Z.drop (min l.length Z.length) = L at hC h hl
 rw [← hl] at hc ⊢
 exact crc_Seal.calls A c L r w hC hc h
mutual
def node_Encode.j0 : Nat → Int → Bool → List (List Int) → List (List Int) → List Int → Option (List Int × Int)
 | 0, _, _, _, _, _ => none
 | k + 1, x5, x198000, x198001, x198002, x198003 => (codec_Num.f k (([x5] : List Int)) (IntKind.u64.wrap ((x198001.length : Int)))).bind fun t202 => (if x198000 = true then (node_Encode.j1 k t202 x198000 x198001 x198002 x198003) else (if 0 < (x198003.length : Int) then ((codec_Num.f k t202 (IntKind.u64.wrap (rd x198003 0))).bind fun t206 => (node_Encode.j1 k t206 x198000 x198001 x198002 x198003)) else (none)))
def node_Encode.j1 : Nat → List Int → Bool → List (List Int) → List (List Int) → List Int → Option (List Int × Int)
 | 0, _, _, _, _, _ => none
 | k + 1, x6, x198000, x198001, x198002, x198003 => node_Encode.l0 k x6 x198001 (x198001.length : Int) 0 x198000 x198001 x198002 x198003
def node_Encode.l0 : Nat → List Int → List (List Int) → Int → Int → Bool → List (List Int) → List (List Int) → List Int → Option (List Int × Int)
 | 0, _, _, _, _, _, _, _, _ => none
 | k + 1, x6, x35, x36, x37, x198000, x198001, x198002, x198003 => if x37 < x36 then (if 0 ≤ x37 then (if x37 < (x35.length : Int) then ((codec_Text.f k x6 (strOfNums (rd_L1 x35 x37))).bind fun t213 => (if x198000 = true then (if x37 < (x198002.length : Int) then ((codec_Text.f k t213 (strOfNums (rd_L1 x198002 x37))).bind fun t217 => (node_Encode.l0 k t217 x35 x36 (wrap64 (x37 + 1)) x198000 x198001 x198002 x198003)) else (none)) else (if 0 ≤ (wrap64 (x37 + 1)) then (if (wrap64 (x37 + 1)) < (x198003.length : Int) then ((codec_Num.f k t213 (IntKind.u64.wrap (rd x198003 (wrap64 (x37 + 1))))).bind fun t221 => (node_Encode.l0 k t221 x35 x36 (wrap64 (x37 + 1)) x198000 x198001 x198002 x198003)) else (none)) else (none)))) else (none)) else (none)) else (if 4092 ≤ 281474976710656 then ((crc_Seal.f (node_Encode.pad x6)).bind fun t_ => (some (t_, 0))) else (none))
end
def node_Encode.f (k : Nat) (a0_0 : Bool) (l0_1 : List (List Int)) (l0_2 : List (List Int)) (l0_3 : List Int) : Option (List Int × Int) := (node_Check.f k a0_0 l0_1 l0_2 l0_3).bind fun t198 => (if t198 = 0 then (if a0_0 = true then (node_Encode.j0 k 1 a0_0 l0_1 l0_2 l0_3) else (node_Encode.j0 k 2 a0_0 l0_1 l0_2 l0_3)) else (some (([] : List Int), t198)))
set_option maxHeartbeats 8000000 in
set_option maxRecDepth 100000 in
theorem node_Encode.calls (k : Nat) (a0_0 : Bool) (A0_1 : Option Addr) (c0_1 : Nat) (l0_1 : List (List Int)) (A0_2 : Option Addr) (c0_2 : Nat) (l0_2 : List (List Int)) (A0_3 : Option Addr) (c0_3 : Nat) (l0_3 : List Int) (r1 : List Int) (r2 : Int) (w : World) (hr0_1 : Kd.C (Kd.slice 5 (Kd.int .u8)) w A0_1 l0_1.length l0_1) (hc0_1 : l0_1.length ≤ c0_1) (hr0_2 : Kd.C (Kd.slice 5 (Kd.int .u8)) w A0_2 l0_2.length l0_2) (hc0_2 : l0_2.length ≤ c0_2) (hr0_3 : Kd.C (Kd.int .i64) w A0_3 l0_3.length l0_3) (hc0_3 : l0_3.length ≤ c0_3) (h : node_Encode.f k a0_0 l0_1 l0_2 l0_3 = some (r1, r2)) :
  Calls Try.prog 22 #[.agg #[.bool a0_0, .slice A0_1 l0_1.length c0_1, .slice A0_2 l0_2.length c0_2, .slice A0_3 l0_3.length c0_3]] w fun e w' => ∃ v0_ : Value, e = .returned (.tuple #[v0_, .int .i64 r2]) ∧ Kd.R (Kd.int .u8) 5 w' w.heap.size (fun _ => True) v0_ r1 ∧ Below w.heap.size w w' := by
 have hu26 := Try.underlying26
 have HR0_1 := Aside0.mk hr0_1
 have HC0_1 := Aside0.mk hc0_1
 clear hr0_1 hc0_1
 have HR0_2 := Aside0.mk hr0_2
 have HC0_2 := Aside0.mk hc0_2
 clear hr0_2 hc0_2
 have HR0_3 := Aside0.mk hr0_3
 have HC0_3 := Aside0.mk hc0_3
 clear hr0_3 hc0_3
 have HB := Aside0.mk (Below.refl w.heap.size w)
 have H : ((node_Check.f k a0_0 l0_1 l0_2 l0_3).bind fun t198 => (if t198 = 0 then (if a0_0 = true then (node_Encode.j0 k 1 a0_0 l0_1 l0_2 l0_3) else (node_Encode.j0 k 2 a0_0 l0_1 l0_2 l0_3)) else (some (([] : List Int), t198)))) = some (r1, r2) := h
 clear h
 replace H := Option.bind_eq_some_iff.mp H
 obtain ⟨t198, A20, H⟩ := H
 replace H : (if t198 = 0 then (if a0_0 = true then (node_Encode.j0 k 1 a0_0 l0_1 l0_2 l0_3) else (node_Encode.j0 k 2 a0_0 l0_1 l0_2 l0_3)) else (some (([] : List Int), t198))) = some (r1, r2) := H
 have A2 := Aside0.mk A20
 clear A20
 by_cases c3 : t198 = 0
 ·rw [if_pos c3] at H
  have c3b0 : (t198 == 0) = true := beq_iff_eq.mpr c3
  have c3b1 : (t198 != 0) = false := bne_eq_false_iff_eq.mpr c3
  clear c3
  have HC4 := Aside0.mk H
  clear H
  go_enter Try.func22, Try.ntmps22
  go_upto_if 16 with (first | ((with_reducible refine gate_dst (N := 1) rfl ?_); refine box_event ?hg (N := 1) ?hd (cs := #[.bool a0_0, .slice A0_1 l0_1.length c0_1, .slice A0_2 l0_2.length c0_2, .slice A0_3 l0_3.length c0_3]) (t := 26) ?hr ?_; (case hd => rfl); (case hg => rfl); (case hr => first | (go_simp; done) | (go_simp; rfl)); intro gb197 hg w5 hbox hb; have n0_ := Aside0.mk (below_step (zh0_ HB.out) hb); have n1_ := Aside0.mk (hbox); have n2_ := Aside0.mk ((by rw [hg]; exact (below_size (zh0_ HB.out)) : w.heap.size ≤ gb197)); have n3_ := Aside0.mk ((by rw [hg]; exact (below_size (zh0_ HB.out)) : w.heap.size ≤ gb197)); clear HB; have HB := n0_; have BK197 := n1_; have GW197 := n2_; have GE197 := n3_; clear n0_ n1_ n2_ n3_; clear hb hbox hg; obtain ⟨hcz6_0, hcz6_1, hcz6_2, hcz6_3⟩ := zc4 BK197.out; obtain ⟨hfz6_0, hfz6_1, hfz6_2, hfz6_3⟩ := zz4 BK197.out) | ((with_reducible refine gate_callee (f := 19) rfl ?_); refine goesL_ (some 11) rfl rfl Try.func19 (by kernel_rfl) rfl #[.agg #[.bool a0_0, .slice A0_1 l0_1.length c0_1, .slice A0_2 l0_2.length c0_2, .slice A0_3 l0_3.length c0_3]] rfl zl_ ?_; (with_reducible refine (node_Check.calls k a0_0 _ _ l0_1 _ _ l0_2 _ _ l0_3 t198 _ ?side1 ?side2 ?side3 ?side4 ?side5 ?side6 A2.out).mono ?_); (case side1 => exact zc_ (Kd.C_below HR0_1.out HB.out)); (case side2 => exact HC0_1.out); (case side3 => exact zc_ (Kd.C_below HR0_2.out HB.out)); (case side4 => exact HC0_2.out); (case side5 => exact zc_ (Kd.C_below HR0_3.out HB.out)); (case side6 => exact HC0_3.out); rintro e w7 ⟨rfl, hb⟩; refine ⟨_, rfl, ?_⟩; have n0_ := Aside0.mk (blk_below (zb_ BK197.out) hb); have n1_ := Aside0.mk (below_step (zh1_ HB.out GE197.out) hb); clear BK197; clear HB; have BK197 := n0_; have HB := n1_; clear n0_ n1_; (try clear hb); (try clear hb2); (try clear hk); (try clear hi); obtain ⟨hcz8_0, hcz8_1, hcz8_2, hcz8_3⟩ := zc4 BK197.out; obtain ⟨hfz8_0, hfz8_1, hfz8_2, hfz8_3⟩ := zz4 BK197.out))
  (try simp only [Act.put, zt0, zt1, zt2])
  go_cut [5] (fun v5 wc => ∃ (kq : Nat) (x5_3 : Int), v5 = .int .u8 x5_3 ∧ Aside0 (node_Encode.j0 kq x5_3 a0_0 l0_1 l0_2 l0_3 = some (r1, r2)) ∧ Aside0 (kq ≤ k) ∧ Aside0 (wc.heap[gb197]? = some (.cells #[.bool a0_0, (.slice A0_1 l0_1.length c0_1), (.slice A0_2 l0_2.length c0_2), (.slice A0_3 l0_3.length c0_3)] 26 (0, 0))) ∧ Aside0 (Below w.heap.size w wc))
  case first =>
   have H := HC4.out
   clear HC4
   by_cases c9 : a0_0 = true
   ·subst c9
    have H1 : (node_Encode.j0 k 1 true l0_1 l0_2 l0_3) = some (r1, r2) := by rw [if_pos rfl] at H; exact H
    clear H
    have H := H1
    clear H1
    have H' := Aside0.mk H
    clear H
    go_wp2
    go_meet
    case rel => exact ⟨_, (1), (by first | rfl | (simp; done) | (simp [*]; done) | (simp only [i64_w]; done)), H', ⟨by first | omega | exact Nat.le_refl _⟩, ⟨by (with_reducible repeat (first | refine blk_drewN ?_ _ | refine blk_drew ?_ | refine blk_alloc ?_ _)); exact BK197.out⟩, ⟨by exact zh1_ HB.out GE197.out⟩⟩
   ·replace c9 := Bool.eq_false_iff.mpr c9
    subst c9
    have H1 : (node_Encode.j0 k 2 false l0_1 l0_2 l0_3) = some (r1, r2) := by rw [if_neg (show ¬ (false = true) by decide)] at H; exact H
    clear H
    have H := H1
    clear H1
    have H' := Aside0.mk H
    clear H
    go_wp2
    go_meet
    case rel => exact ⟨_, (2), (by first | rfl | (simp; done) | (simp [*]; done) | (simp only [i64_w]; done)), H', ⟨by first | omega | exact Nat.le_refl _⟩, ⟨by (with_reducible repeat (first | refine blk_drewN ?_ _ | refine blk_drew ?_ | refine blk_alloc ?_ _)); exact BK197.out⟩, ⟨by exact zh1_ HB.out GE197.out⟩⟩
  case rest =>
   clear HC4
   try clear c1
   try clear c2
   try clear p2
   try clear c3
   try clear c3b0
   try clear c3b1
   try clear c9
   try clear hcz6_0
   try clear hcz6_1
   try clear hcz6_2
   try clear hcz6_3
   try clear hcz8_0
   try clear hcz8_1
   try clear hcz8_2
   try clear hcz8_3
   try clear hfz6_0
   try clear hfz6_1
   try clear hfz6_2
   try clear hfz6_3
   try clear hfz8_0
   try clear hfz8_1
   try clear hfz8_2
   try clear hfz8_3
   (try clear BK197)
   obtain ⟨kq, x5_3, rfl, HA, HJ3, BK197, HB⟩ := hcut
   cases kq with
   | zero => exact absurd HA.out (by simp [node_Encode.j0])
   | succ kj3 =>
    have H := HA.out
    clear HA
    simp only [node_Encode.j0] at H
    obtain ⟨y199, hy199⟩ : ∃ y_ : List Int, y_ = (([x5_3] : List Int)) := ⟨_, rfl⟩
    replace H : ((codec_Num.f kj3 y199 (IntKind.u64.wrap ((l0_1.length : Int)))).bind fun t202 => (if a0_0 = true then (node_Encode.j1 kj3 t202 a0_0 l0_1 l0_2 l0_3) else (if 0 < (l0_3.length : Int) then ((codec_Num.f kj3 t202 (IntKind.u64.wrap (rd l0_3 0))).bind fun t206 => (node_Encode.j1 kj3 t206 a0_0 l0_1 l0_2 l0_3)) else (none)))) = some (r1, r2) := by first | (rw [hy199]; with_reducible exact H) | (have H2_ := (Option.bind_some _ _).symm.trans H; rw [hy199]; with_reducible exact H2_) | (have H2_ := (Option.bind_some _ _).symm.trans H; with_reducible exact H2_) | with_reducible exact H | (rw [hy199]; exact H) | exact H
    have Ny199 := Aside0.mk hy199
    clear hy199
    replace H := Option.bind_eq_some_iff.mp H
    obtain ⟨t202, A100, H⟩ := H
    replace H : (if a0_0 = true then (node_Encode.j1 kj3 t202 a0_0 l0_1 l0_2 l0_3) else (if 0 < (l0_3.length : Int) then ((codec_Num.f kj3 t202 (IntKind.u64.wrap (rd l0_3 0))).bind fun t206 => (node_Encode.j1 kj3 t206 a0_0 l0_1 l0_2 l0_3)) else (none))) = some (r1, r2) := H
    have A10 := Aside0.mk A100
    clear A100
    have HC11 := Aside0.mk H
    clear H
    go_upto_if 26 with (first | ((with_reducible refine gate_dst (N := 18) rfl ?_); refine Kd.R_lit (Kd.int .u8) _ 5 ?hg (N := 18) ?hd (xs := ([x5_3] : List Int)) (inner := [.int .u8 x5_3]) (ok := fun _ => True) (okp := fun _ => True) ?hr ?hp (fun _ hk => hk) trivial (Below.refl _ _) (Nat.le_refl _) (by simp) ?_; (case hd => rfl); (case hg => rfl); (case hr => first | (go_simp; done) | (go_simp; rfl)); (case hp => exact (Reps.one (show Kd.M (Kd.int .u8) _ _ _ x5_3 [.int .u8 x5_3] from rfl) (Reps.none _ _))); intro v200 w12 ho13 hb hg_ hnew_; clear hg_ hnew_; (first | rw [← Ny199.out] at ho13 | (simp only [Int.reduceToNat] at ho13; rw [← Ny199.out] at ho13)); have n0_ := Aside0.mk (Kd.R_lower ho13 (below_size (zh1_ HB.out GE197.out))); have n1_ := Aside0.mk (blk_below (zb_ BK197.out) hb); have n2_ := Aside0.mk (below_step (zh1_ HB.out GE197.out) hb); clear BK197; clear HB; have HO201 := n0_; have BK197 := n1_; have HB := n2_; clear n0_ n1_ n2_; clear hb ho13; obtain ⟨hcz14_0, hcz14_1, hcz14_2, hcz14_3⟩ := zc4 BK197.out; obtain ⟨hfz14_0, hfz14_1, hfz14_2, hfz14_3⟩ := zz4 BK197.out; obtain ⟨Ao15, co15, eo15⟩ := Kd.R_slice HO201.out; subst eo15) | ((with_reducible refine gate_callee (f := 40) rfl ?_); refine goesL_ (some 23) rfl rfl Try.func40 (by kernel_rfl) rfl #[.slice Ao15 y199.length co15, .int .u64 (IntKind.u64.wrap ((l0_1.length : Int)))] rfl zl_ ?_; (with_reducible refine (codec_Num.calls kj3 _ _ y199 (IntKind.u64.wrap ((l0_1.length : Int))) t202 _ ?side1 ?side2 A10.out).mono ?_); (case side1 => repeat (first | exact (Kd.R_reads' HO201.out).2.2 | (with_reducible refine Kd.C_alloc ?_ _) | (with_reducible refine Kd.C_drewN ?_ _) | (with_reducible refine Kd.C_drew ?_))); (case side2 => exact (Kd.R_reads' HO201.out).2.1); rintro e w16 ⟨v203, rfl, ho0, hb⟩; refine ⟨_, rfl, ?_⟩; have n0_ := Aside0.mk (Kd.R_elder' (zR_ HO201.out) (Kd.R_base ho0) hb); have n1_ := Aside0.mk (Kd.R_lower (Kd.R_new' ho0 (Kd.R_lt (zR_ HO201.out))) (below_size (zh1_ HB.out GE197.out))); have n2_ := Aside0.mk (blk_below (zb_ BK197.out) hb); have n3_ := Aside0.mk (below_step (zh1_ HB.out GE197.out) hb); clear HO201; clear BK197; clear HB; have HO201 := n0_; have HO204 := n1_; have BK197 := n2_; have HB := n3_; clear n0_ n1_ n2_ n3_; (try clear hb); (try clear hb2); (try clear hk); (try clear hi); (try clear ho0); obtain ⟨hcz17_0, hcz17_1, hcz17_2, hcz17_3⟩ := zc4 BK197.out; obtain ⟨hfz17_0, hfz17_1, hfz17_2, hfz17_3⟩ := zz4 BK197.out))
    (try simp only [Act.put, zt0, zt1, zt2])
    go_cut [6] (fun v6 wc => ∃ (kq : Nat) (x6_10 : List Int), Aside0 (node_Encode.j1 kq x6_10 a0_0 l0_1 l0_2 l0_3 = some (r1, r2)) ∧ Aside0 (kq ≤ kj3) ∧ Aside0 (Kd.R (Kd.int .u8) 5 wc w.heap.size (fun _ => True) v6 x6_10) ∧ Aside0 (wc.heap[gb197]? = some (.cells #[.bool a0_0, (.slice A0_1 l0_1.length c0_1), (.slice A0_2 l0_2.length c0_2), (.slice A0_3 l0_3.length c0_3)] 26 (0, 0))) ∧ Aside0 (Below w.heap.size w wc))
    case first =>
     have H := HC11.out
     clear HC11
     by_cases c18 : a0_0 = true
     ·subst c18
      have H1 : (node_Encode.j1 kj3 t202 true l0_1 l0_2 l0_3) = some (r1, r2) := by rw [if_pos rfl] at H; exact H
      clear H
      have H := H1
      clear H1
      have H' := Aside0.mk H
      clear H
      go_wp2
      go_meet
      case rel => exact ⟨_, (t202), H', ⟨by have := HJ3.out; first | omega | exact Nat.le_refl _⟩, ⟨by (with_reducible repeat (first | apply Kd.R_alloc | apply Kd.R_drewN | apply Kd.R_drew)); exact Kd.R_mono HO204.out (fun _ hk => trivial)⟩, ⟨by (with_reducible repeat (first | refine blk_drewN ?_ _ | refine blk_drew ?_ | refine blk_alloc ?_ _)); exact BK197.out⟩, ⟨by exact zh1_ HB.out GE197.out⟩⟩
     ·replace c18 := Bool.eq_false_iff.mpr c18
      subst c18
      have H1 : (if 0 < (l0_3.length : Int) then ((codec_Num.f kj3 t202 (IntKind.u64.wrap (rd l0_3 0))).bind fun t206 => (node_Encode.j1 kj3 t206 false l0_1 l0_2 l0_3)) else (none)) = some (r1, r2) := by rw [if_neg (show ¬ (false = true) by decide)] at H; exact H
      clear H
      have H := H1
      clear H1
      by_cases c19 : 0 < (l0_3.length : Int)
      ·rw [if_pos c19] at H
       have c19b0 : decide (0 < (l0_3.length : Int)) = true := decide_eq_true c19
       have c19b1 : decide (0 < l0_3.length) = true := decide_eq_true (by omega)
       clear c19
       (first | rw [c19b0] | (simp only [i64_w, i32_w]; rw [c19b0]) | skip)
       replace H := Option.bind_eq_some_iff.mp H
       obtain ⟨t206, A200, H⟩ := H
       replace H : (node_Encode.j1 kj3 t206 false l0_1 l0_2 l0_3) = some (r1, r2) := H
       have A20 := Aside0.mk A200
       clear A200
       have H' := Aside0.mk H
       clear H
       obtain ⟨hcz21_0, hcz21_1, hcz21_2, hcz21_3⟩ := zc4 BK197.out
       obtain ⟨hfz21_0, hfz21_1, hfz21_2, hfz21_3⟩ := zz4 BK197.out
       have p205 : 0 ≤ (0 : Int) := (by omega)
       have q205 : 0 < (l0_3.length : Int) := of_decide_eq_true za_
       obtain ⟨ad205, e205, hx205_0⟩ := Kd.at_int HR0_3.out 0 p205 q205
       cases e205
       have qi205 : (0 < l0_3.length) = True := eq_true (by omega)
       (try rw [show ((0 : Int)).toNat = 0 from rfl] at hx205_0)
       (try rw [Addr.add_zero'] at hx205_0)
       replace hx205_0 := zx_ HB.out hx205_0
       replace p205 := eq_true p205
       replace q205 := eq_true q205
       obtain ⟨Ao22, co22, eo22⟩ := Kd.R_slice HO204.out
       subst eo22
       go_wp2_with (first | ((with_reducible refine gate_callee (f := 40) rfl ?_); refine goesL_ (some 33) rfl rfl Try.func40 (by kernel_rfl) rfl #[.slice Ao22 t202.length co22, .int .u64 (IntKind.u64.wrap (rd l0_3 0))] rfl zl_ ?_; (with_reducible refine (codec_Num.calls kj3 _ _ t202 (IntKind.u64.wrap (rd l0_3 0)) t206 _ ?side1 ?side2 A20.out).mono ?_); (case side1 => repeat (first | exact (Kd.R_reads' HO204.out).2.2 | (with_reducible refine Kd.C_alloc ?_ _) | (with_reducible refine Kd.C_drewN ?_ _) | (with_reducible refine Kd.C_drew ?_))); (case side2 => exact (Kd.R_reads' HO204.out).2.1); rintro e w23 ⟨v207, rfl, ho0, hb⟩; refine ⟨_, rfl, ?_⟩; have n0_ := Aside0.mk (Kd.R_elder' (zR_ HO201.out) (Kd.R_base ho0) hb); have n1_ := Aside0.mk (Kd.R_elder' (zR_ HO204.out) (Kd.R_base ho0) hb); have n2_ := Aside0.mk (Kd.R_lower (Kd.R_new' (Kd.R_new' ho0 (Kd.R_lt (zR_ HO201.out))) (Kd.R_lt (zR_ HO204.out))) (below_size (zh1_ HB.out GE197.out))); have n3_ := Aside0.mk (blk_below (zb_ BK197.out) hb); have n4_ := Aside0.mk (below_step (zh1_ HB.out GE197.out) hb); clear HO201; clear HO204; clear BK197; clear HB; have HO201 := n0_; have HO204 := n1_; have HO208 := n2_; have BK197 := n3_; have HB := n4_; clear n0_ n1_ n2_ n3_ n4_; (try clear hb); (try clear hb2); (try clear hk); (try clear hi); (try clear ho0)))
       go_meet
       case rel => exact ⟨_, (t206), H', ⟨by have := HJ3.out; first | omega | exact Nat.le_refl _⟩, ⟨by (with_reducible repeat (first | apply Kd.R_alloc | apply Kd.R_drewN | apply Kd.R_drew)); exact Kd.R_mono HO208.out (fun _ hk => trivial)⟩, ⟨by (with_reducible repeat (first | refine blk_drewN ?_ _ | refine blk_drew ?_ | refine blk_alloc ?_ _)); exact BK197.out⟩, ⟨by exact zh1_ HB.out GE197.out⟩⟩
      ·rw [if_neg c19] at H
       exact absurd H (by simp)
    case rest =>
     clear HC11
     try clear c1
     try clear c2
     try clear p2
     try clear q2
     try clear hx2
     try clear qi2
     try clear c3
     try clear c3b0
     try clear c3b1
     try clear c4
     try clear c9
     try clear c18
     try clear c19
     try clear c19b0
     try clear c19b1
     try clear p20
     try clear q20
     try clear hx20
     try clear qi20
     try clear c22
     try clear hcz14_0
     try clear hcz14_1
     try clear hcz14_2
     try clear hcz14_3
     try clear hcz17_0
     try clear hcz17_1
     try clear hcz17_2
     try clear hcz17_3
     try clear hcz21_0
     try clear hcz21_1
     try clear hcz21_2
     try clear hcz21_3
     try clear hcz6_0
     try clear hcz6_1
     try clear hcz6_2
     try clear hcz6_3
     try clear hcz8_0
     try clear hcz8_1
     try clear hcz8_2
     try clear hcz8_3
     try clear hfz14_0
     try clear hfz14_1
     try clear hfz14_2
     try clear hfz14_3
     try clear hfz17_0
     try clear hfz17_1
     try clear hfz17_2
     try clear hfz17_3
     try clear hfz21_0
     try clear hfz21_1
     try clear hfz21_2
     try clear hfz21_3
     try clear hfz6_0
     try clear hfz6_1
     try clear hfz6_2
     try clear hfz6_3
     try clear hfz8_0
     try clear hfz8_1
     try clear hfz8_2
     try clear hfz8_3
     try clear hx205_0
     try clear p2
     try clear p205
     try clear q205
     (try clear BK197)
     obtain ⟨kq, x6_10, HA, HJ10, HO_6, BK197, HB⟩ := hcut
     cases kq with
     | zero => exact absurd HA.out (by simp [node_Encode.j1])
     | succ kj10 =>
      have H := HA.out
      clear HA
      simp only [node_Encode.j1] at H
      have H' := Aside0.mk H
      clear H
      obtain ⟨hcz24_0, hcz24_1, hcz24_2, hcz24_3⟩ := zc4 BK197.out
      obtain ⟨hfz24_0, hfz24_1, hfz24_2, hfz24_3⟩ := zz4 BK197.out
      go_wp2
      go_loopg [6, 37] kj10 (fun kq v6 v37 w' => ∃ (x6_3 : List Int) (x37_3 : Int), v37 = .int .i64 x37_3 ∧ Aside0 (node_Encode.l0 kq x6_3 l0_1 (l0_1.length : Int) x37_3 a0_0 l0_1 l0_2 l0_3 = some (r1, r2)) ∧ Aside0 (kq ≤ kj10) ∧ Aside0 (Kd.R (Kd.int .u8) 5 w' w.heap.size (fun _ => True) v6 x6_3) ∧ Aside0 (w'.heap[gb197]? = some (.cells #[.bool a0_0, (.slice A0_1 l0_1.length c0_1), (.slice A0_2 l0_2.length c0_2), (.slice A0_3 l0_3.length c0_3)] 26 (0, 0))) ∧ Aside0 (Below w.heap.size w w'))
      case atStart => exact ⟨(x6_10), (0), (by first | rfl | (simp; done) | (simp [*]; done) | (simp only [i64_w]; done)), H', ⟨Nat.le_refl _⟩, ⟨by (with_reducible repeat (first | apply Kd.R_alloc | apply Kd.R_drewN | apply Kd.R_drew)); exact HO_6.out⟩, ⟨by (with_reducible repeat (first | refine blk_drewN ?_ _ | refine blk_drew ?_ | refine blk_alloc ?_ _)); exact BK197.out⟩, ⟨by exact zh1_ HB.out GE197.out⟩⟩
      case round =>
       clear H'
       try clear c1
       try clear c2
       try clear p2
       try clear q2
       try clear hx2
       try clear qi2
       try clear c3
       try clear c3b0
       try clear c3b1
       try clear c4
       try clear c9
       try clear c18
       try clear c19
       try clear c19b0
       try clear c19b1
       try clear p20
       try clear q20
       try clear hx20
       try clear qi20
       try clear c22
       try clear hcz14_0
       try clear hcz14_1
       try clear hcz14_2
       try clear hcz14_3
       try clear hcz17_0
       try clear hcz17_1
       try clear hcz17_2
       try clear hcz17_3
       try clear hcz21_0
       try clear hcz21_1
       try clear hcz21_2
       try clear hcz21_3
       try clear hcz24_0
       try clear hcz24_1
       try clear hcz24_2
       try clear hcz24_3
       try clear hcz6_0
       try clear hcz6_1
       try clear hcz6_2
       try clear hcz6_3
       try clear hcz8_0
       try clear hcz8_1
       try clear hcz8_2
       try clear hcz8_3
       try clear hfz14_0
       try clear hfz14_1
       try clear hfz14_2
       try clear hfz14_3
       try clear hfz17_0
       try clear hfz17_1
       try clear hfz17_2
       try clear hfz17_3
       try clear hfz21_0
       try clear hfz21_1
       try clear hfz21_2
       try clear hfz21_3
       try clear hfz24_0
       try clear hfz24_1
       try clear hfz24_2
       try clear hfz24_3
       try clear hfz6_0
       try clear hfz6_1
       try clear hfz6_2
       try clear hfz6_3
       try clear hfz8_0
       try clear hfz8_1
       try clear hfz8_2
       try clear hfz8_3
       try clear hx205_0
       try clear p2
       try clear p20
       try clear p205
       try clear q2
       try clear q20
       try clear q205
       (try clear BK197)
       obtain ⟨x6_3, x37_3, rfl, HA, HK3, HO_6, BK197, HB⟩ := hrel
       cases gk with
       | zero => exact absurd HA.out (by simp [node_Encode.l0])
       | succ k3 =>
        have H := HA.out
        clear HA
        simp only [node_Encode.l0] at H
        by_cases c25 : x37_3 < (l0_1.length : Int)
        ·rw [if_pos c25] at H
         have c25b0 : decide (x37_3 < (l0_1.length : Int)) = true := decide_eq_true c25
         clear c25
         by_cases c26 : 0 ≤ x37_3
         ·rw [if_pos c26] at H
          have c26b0 : decide (0 ≤ x37_3) = true := decide_eq_true c26
          clear c26
          by_cases c27 : x37_3 < (l0_1.length : Int)
          ·rw [if_pos c27] at H
           have c27b0 : decide (x37_3 < (l0_1.length : Int)) = true := decide_eq_true c27
           clear c27
           replace H := Option.bind_eq_some_iff.mp H
           obtain ⟨t213, A280, H⟩ := H
           replace H : (if a0_0 = true then (if x37_3 < (l0_2.length : Int) then ((codec_Text.f k3 t213 (strOfNums (rd_L1 l0_2 x37_3))).bind fun t217 => (node_Encode.l0 k3 t217 l0_1 (l0_1.length : Int) (wrap64 (x37_3 + 1)) a0_0 l0_1 l0_2 l0_3)) else (none)) else (if 0 ≤ (wrap64 (x37_3 + 1)) then (if (wrap64 (x37_3 + 1)) < (l0_3.length : Int) then ((codec_Num.f k3 t213 (IntKind.u64.wrap (rd l0_3 (wrap64 (x37_3 + 1))))).bind fun t221 => (node_Encode.l0 k3 t221 l0_1 (l0_1.length : Int) (wrap64 (x37_3 + 1)) a0_0 l0_1 l0_2 l0_3)) else (none)) else (none))) = some (r1, r2) := H
           have A28 := Aside0.mk A280
           clear A280
           by_cases c29 : a0_0 = true
           ·subst c29
            have H1 : (if x37_3 < (l0_2.length : Int) then ((codec_Text.f k3 t213 (strOfNums (rd_L1 l0_2 x37_3))).bind fun t217 => (node_Encode.l0 k3 t217 l0_1 (l0_1.length : Int) (wrap64 (x37_3 + 1)) true l0_1 l0_2 l0_3)) else (none)) = some (r1, r2) := by rw [if_pos rfl] at H; exact H
            clear H
            have H := H1
            clear H1
            by_cases c30 : x37_3 < (l0_2.length : Int)
            ·rw [if_pos c30] at H
             have c30b0 : decide (x37_3 < (l0_2.length : Int)) = true := decide_eq_true c30
             clear c30
             replace H := Option.bind_eq_some_iff.mp H
             obtain ⟨t217, A310, H⟩ := H
             replace H : (node_Encode.l0 k3 t217 l0_1 (l0_1.length : Int) (wrap64 (x37_3 + 1)) true l0_1 l0_2 l0_3) = some (r1, r2) := H
             have A31 := Aside0.mk A310
             clear A310
             have H' := Aside0.mk H
             clear H
             have p212 : 0 ≤ (x37_3 : Int) := of_decide_eq_true za_
             have q212 : x37_3 < (l0_1.length : Int) := of_decide_eq_true za_
             obtain ⟨ad212, A212_0, c212_0, e212, hx212_0, hl212_0, hi212_0⟩ := at_L1 HR0_1.out x37_3 p212 q212
             cases e212
             replace hx212_0 := zx_ HB.out hx212_0
             have HR212_0 := Aside0.mk hi212_0
             have HC212_0 := Aside0.mk hl212_0
             clear hi212_0 hl212_0
             replace p212 := eq_true p212
             replace q212 := eq_true q212
             have hcv32 := Kd.C_string (P := Try.prog) (A := A212_0) (c := c212_0) Try.underlying27 Try.underlying5 Try.underlying9 (Kd.C_below HR212_0.out HB.out)
             have hcw33 := fun n_ : Nat => Kd.C_string (P := Try.prog) (A := A212_0) (c := c212_0) Try.underlying27 Try.underlying5 Try.underlying9 (Kd.C_drewN (Kd.C_below HR212_0.out HB.out) n_)
             obtain ⟨Ao34, co34, eo34⟩ := Kd.R_slice HO_6.out
             subst eo34
             go_wp2_with (first | ((with_reducible refine gate_callee (f := 41) rfl ?_); refine goesL_ (some 45) rfl rfl Try.func41 (by kernel_rfl) rfl #[.slice Ao34 x6_3.length co34, .string (strOfNums (rd_L1 l0_1 x37_3))] rfl zl_ ?_; (with_reducible refine (codec_Text.calls k3 _ _ x6_3 (strOfNums (rd_L1 l0_1 x37_3)) t213 _ ?side1 ?side2 A28.out).mono ?_); (case side1 => repeat (first | exact (Kd.R_reads' HO_6.out).2.2 | (with_reducible refine Kd.C_alloc ?_ _) | (with_reducible refine Kd.C_drewN ?_ _) | (with_reducible refine Kd.C_drew ?_))); (case side2 => exact (Kd.R_reads' HO_6.out).2.1); rintro e w35 ⟨v214, rfl, ho0, hb⟩; refine ⟨_, rfl, ?_⟩; have n0_ := Aside0.mk (Kd.R_elder' (zR_ HO_6.out) (Kd.R_base ho0) hb); have n1_ := Aside0.mk (Kd.R_lower (Kd.R_new' ho0 (Kd.R_lt (zR_ HO_6.out))) (below_size (zh1_ HB.out GE197.out))); have n2_ := Aside0.mk (blk_below (zb_ BK197.out) hb); have n3_ := Aside0.mk (below_step (zh1_ HB.out GE197.out) hb); clear HO_6; clear BK197; clear HB; have HO_6 := n0_; have HO215 := n1_; have BK197 := n2_; have HB := n3_; clear n0_ n1_ n2_ n3_; (try clear hb); (try clear hb2); (try clear hk); (try clear hi); (try clear ho0); obtain ⟨hcz36_0, hcz36_1, hcz36_2, hcz36_3⟩ := zc4 BK197.out; obtain ⟨hfz36_0, hfz36_1, hfz36_2, hfz36_3⟩ := zz4 BK197.out; have p216 : 0 ≤ (x37_3 : Int) := of_decide_eq_true za_; have q216 : x37_3 < (l0_2.length : Int) := of_decide_eq_true za_; obtain ⟨ad216, A216_0, c216_0, e216, hx216_0, hl216_0, hi216_0⟩ := at_L1 HR0_2.out x37_3 p216 q216; cases e216; replace hx216_0 := zx_ HB.out hx216_0; have HR216_0 := Aside0.mk hi216_0; have HC216_0 := Aside0.mk hl216_0; clear hi216_0 hl216_0; replace p216 := eq_true p216; replace q216 := eq_true q216; have hcv37 := Kd.C_string (P := Try.prog) (A := A216_0) (c := c216_0) Try.underlying27 Try.underlying5 Try.underlying9 (Kd.C_below HR216_0.out HB.out); have hcw38 := fun n_ : Nat => Kd.C_string (P := Try.prog) (A := A216_0) (c := c216_0) Try.underlying27 Try.underlying5 Try.underlying9 (Kd.C_drewN (Kd.C_below HR216_0.out HB.out) n_); obtain ⟨Ao39, co39, eo39⟩ := Kd.R_slice HO215.out; subst eo39) | ((with_reducible refine gate_callee (f := 41) rfl ?_); refine goesL_ (some 55) rfl rfl Try.func41 (by kernel_rfl) rfl #[.slice Ao39 t213.length co39, .string (strOfNums (rd_L1 l0_2 x37_3))] rfl zl_ ?_; (with_reducible refine (codec_Text.calls k3 _ _ t213 (strOfNums (rd_L1 l0_2 x37_3)) t217 _ ?side1 ?side2 A31.out).mono ?_); (case side1 => repeat (first | exact (Kd.R_reads' HO215.out).2.2 | (with_reducible refine Kd.C_alloc ?_ _) | (with_reducible refine Kd.C_drewN ?_ _) | (with_reducible refine Kd.C_drew ?_))); (case side2 => exact (Kd.R_reads' HO215.out).2.1); rintro e w40 ⟨v218, rfl, ho0, hb⟩; refine ⟨_, rfl, ?_⟩; have n0_ := Aside0.mk (Kd.R_elder' (zR_ HO_6.out) (Kd.R_base ho0) hb); have n1_ := Aside0.mk (Kd.R_elder' (zR_ HO215.out) (Kd.R_base ho0) hb); have n2_ := Aside0.mk (Kd.R_lower (Kd.R_new' (Kd.R_new' ho0 (Kd.R_lt (zR_ HO_6.out))) (Kd.R_lt (zR_ HO215.out))) (below_size (zh1_ HB.out GE197.out))); have n3_ := Aside0.mk (blk_below (zb_ BK197.out) hb); have n4_ := Aside0.mk (below_step (zh1_ HB.out GE197.out) hb); clear HO_6; clear HO215; clear BK197; clear HB; have HO_6 := n0_; have HO215 := n1_; have HO219 := n2_; have BK197 := n3_; have HB := n4_; clear n0_ n1_ n2_ n3_ n4_; (try clear hb); (try clear hb2); (try clear hk); (try clear hi); (try clear ho0)))
             go_roundg k3
             case measure => have := HJ3.out; have := HJ10.out; have := HK3.out; omega
             case rel => exact ⟨(t217), (wrap64 (x37_3 + 1)), (by first | rfl | (simp; done) | (simp [*]; done) | (simp only [i64_w]; done)), H', ⟨by have := HJ3.out; have := HJ10.out; have := HK3.out; omega⟩, ⟨by (with_reducible repeat (first | apply Kd.R_alloc | apply Kd.R_drewN | apply Kd.R_drew)); exact Kd.R_mono HO219.out (fun _ hk => trivial)⟩, ⟨by (with_reducible repeat (first | refine blk_drewN ?_ _ | refine blk_drew ?_ | refine blk_alloc ?_ _)); exact BK197.out⟩, ⟨by exact zh1_ HB.out GE197.out⟩⟩
            ·rw [if_neg c30] at H
             exact absurd H (by simp)
           ·replace c29 := Bool.eq_false_iff.mpr c29
            subst c29
            have H1 : (if 0 ≤ (wrap64 (x37_3 + 1)) then (if (wrap64 (x37_3 + 1)) < (l0_3.length : Int) then ((codec_Num.f k3 t213 (IntKind.u64.wrap (rd l0_3 (wrap64 (x37_3 + 1))))).bind fun t221 => (node_Encode.l0 k3 t221 l0_1 (l0_1.length : Int) (wrap64 (x37_3 + 1)) false l0_1 l0_2 l0_3)) else (none)) else (none)) = some (r1, r2) := by rw [if_neg (show ¬ (false = true) by decide)] at H; exact H
            clear H
            have H := H1
            clear H1
            obtain ⟨ji41, hji41⟩ : ∃ j_ : Int, (wrap64 (x37_3 + 1)) = j_ := ⟨_, rfl⟩
            replace H : (if 0 ≤ (ji41) then (if (ji41) < (l0_3.length : Int) then ((codec_Num.f k3 t213 (IntKind.u64.wrap (rd l0_3 (ji41)))).bind fun t221 => (node_Encode.l0 k3 t221 l0_1 (l0_1.length : Int) ji41 false l0_1 l0_2 l0_3)) else (none)) else (none)) = some (r1, r2) := by first | (rw [hji41] at H; exact H) | (simp only [hji41] at H ⊢; exact H)
            (try rw [hji41] at A28)
            have hji41w : (IntKind.i64.wrap (x37_3 + 1)) = ji41 := (i64_w _).trans hji41
            by_cases c42 : 0 ≤ (ji41)
            ·rw [if_pos c42] at H
             have c42b0 : decide (0 ≤ (ji41)) = true := decide_eq_true c42
             clear c42
             by_cases c43 : (ji41) < (l0_3.length : Int)
             ·rw [if_pos c43] at H
              have c43b0 : decide ((ji41) < (l0_3.length : Int)) = true := decide_eq_true c43
              clear c43
              replace H := Option.bind_eq_some_iff.mp H
              obtain ⟨t221, A440, H⟩ := H
              replace H : (node_Encode.l0 k3 t221 l0_1 (l0_1.length : Int) ji41 false l0_1 l0_2 l0_3) = some (r1, r2) := H
              have A44 := Aside0.mk A440
              clear A440
              have H' := Aside0.mk H
              clear H
              have p212 : 0 ≤ (x37_3 : Int) := of_decide_eq_true za_
              have q212 : x37_3 < (l0_1.length : Int) := of_decide_eq_true za_
              obtain ⟨ad212, A212_0, c212_0, e212, hx212_0, hl212_0, hi212_0⟩ := at_L1 HR0_1.out x37_3 p212 q212
              cases e212
              replace hx212_0 := zx_ HB.out hx212_0
              have HR212_0 := Aside0.mk hi212_0
              have HC212_0 := Aside0.mk hl212_0
              clear hi212_0 hl212_0
              replace p212 := eq_true p212
              replace q212 := eq_true q212
              have hcv45 := Kd.C_string (P := Try.prog) (A := A212_0) (c := c212_0) Try.underlying27 Try.underlying5 Try.underlying9 (Kd.C_below HR212_0.out HB.out)
              have hcw46 := fun n_ : Nat => Kd.C_string (P := Try.prog) (A := A212_0) (c := c212_0) Try.underlying27 Try.underlying5 Try.underlying9 (Kd.C_drewN (Kd.C_below HR212_0.out HB.out) n_)
              obtain ⟨Ao47, co47, eo47⟩ := Kd.R_slice HO_6.out
              subst eo47
              go_wp2_with (first | ((with_reducible refine gate_callee (f := 41) rfl ?_); refine goesL_ (some 45) rfl rfl Try.func41 (by kernel_rfl) rfl #[.slice Ao47 x6_3.length co47, .string (strOfNums (rd_L1 l0_1 x37_3))] rfl zl_ ?_; (with_reducible refine (codec_Text.calls k3 _ _ x6_3 (strOfNums (rd_L1 l0_1 x37_3)) t213 _ ?side1 ?side2 A28.out).mono ?_); (case side1 => repeat (first | exact (Kd.R_reads' HO_6.out).2.2 | (with_reducible refine Kd.C_alloc ?_ _) | (with_reducible refine Kd.C_drewN ?_ _) | (with_reducible refine Kd.C_drew ?_))); (case side2 => exact (Kd.R_reads' HO_6.out).2.1); rintro e w48 ⟨v214, rfl, ho0, hb⟩; refine ⟨_, rfl, ?_⟩; have n0_ := Aside0.mk (Kd.R_elder' (zR_ HO_6.out) (Kd.R_base ho0) hb); have n1_ := Aside0.mk (Kd.R_lower (Kd.R_new' ho0 (Kd.R_lt (zR_ HO_6.out))) (below_size (zh1_ HB.out GE197.out))); have n2_ := Aside0.mk (blk_below (zb_ BK197.out) hb); have n3_ := Aside0.mk (below_step (zh1_ HB.out GE197.out) hb); clear HO_6; clear BK197; clear HB; have HO_6 := n0_; have HO215 := n1_; have BK197 := n2_; have HB := n3_; clear n0_ n1_ n2_ n3_; (try clear hb); (try clear hb2); (try clear hk); (try clear hi); (try clear ho0); obtain ⟨hcz49_0, hcz49_1, hcz49_2, hcz49_3⟩ := zc4 BK197.out; obtain ⟨hfz49_0, hfz49_1, hfz49_2, hfz49_3⟩ := zz4 BK197.out; have p220 : 0 ≤ ((ji41) : Int) := of_decide_eq_true za_; have q220 : (ji41) < (l0_3.length : Int) := of_decide_eq_true za_; obtain ⟨ad220, e220, hx220_0⟩ := Kd.at_int HR0_3.out (ji41) p220 q220; cases e220; replace hx220_0 := zx_ HB.out hx220_0; replace p220 := eq_true p220; replace q220 := eq_true q220; obtain ⟨Ao50, co50, eo50⟩ := Kd.R_slice HO215.out; subst eo50) | ((with_reducible refine gate_callee (f := 40) rfl ?_); refine goesL_ (some 64) rfl rfl Try.func40 (by kernel_rfl) rfl #[.slice Ao50 t213.length co50, .int .u64 (IntKind.u64.wrap (rd l0_3 (ji41)))] rfl (by (try simp only [List.map_toArray, List.map_cons, List.map_nil]); first | done | (simp only [hji41]; rfl) | rfl | (simp only [List.length_drop, List.length_take]; rfl)) ?_; (with_reducible refine (codec_Num.calls k3 _ _ t213 (IntKind.u64.wrap (rd l0_3 (ji41))) t221 _ ?side1 ?side2 A44.out).mono ?_); (case side1 => repeat (first | exact (Kd.R_reads' HO215.out).2.2 | (with_reducible refine Kd.C_alloc ?_ _) | (with_reducible refine Kd.C_drewN ?_ _) | (with_reducible refine Kd.C_drew ?_))); (case side2 => exact (Kd.R_reads' HO215.out).2.1); rintro e w51 ⟨v222, rfl, ho0, hb⟩; refine ⟨_, rfl, ?_⟩; have n0_ := Aside0.mk (Kd.R_elder' (zR_ HO_6.out) (Kd.R_base ho0) hb); have n1_ := Aside0.mk (Kd.R_elder' (zR_ HO215.out) (Kd.R_base ho0) hb); have n2_ := Aside0.mk (Kd.R_lower (Kd.R_new' (Kd.R_new' ho0 (Kd.R_lt (zR_ HO_6.out))) (Kd.R_lt (zR_ HO215.out))) (below_size (zh1_ HB.out GE197.out))); have n3_ := Aside0.mk (blk_below (zb_ BK197.out) hb); have n4_ := Aside0.mk (below_step (zh1_ HB.out GE197.out) hb); clear HO_6; clear HO215; clear BK197; clear HB; have HO_6 := n0_; have HO215 := n1_; have HO223 := n2_; have BK197 := n3_; have HB := n4_; clear n0_ n1_ n2_ n3_ n4_; (try clear hb); (try clear hb2); (try clear hk); (try clear hi); (try clear ho0)))
              go_roundg k3
              case measure => have := HJ3.out; have := HJ10.out; have := HK3.out; omega
              case rel => exact ⟨(t221), (ji41), (by first | rfl | (simp; done) | (simp only [← hji41] <;> (first | rfl | simp)) | (simp [*]; done)), H', ⟨by have := HJ3.out; have := HJ10.out; have := HK3.out; omega⟩, ⟨by (with_reducible repeat (first | apply Kd.R_alloc | apply Kd.R_drewN | apply Kd.R_drew)); exact Kd.R_mono HO223.out (fun _ hk => trivial)⟩, ⟨by (with_reducible repeat (first | refine blk_drewN ?_ _ | refine blk_drew ?_ | refine blk_alloc ?_ _)); exact BK197.out⟩, ⟨by exact zh1_ HB.out GE197.out⟩⟩
             ·rw [if_neg c43] at H
              exact absurd H (by simp)
            ·rw [if_neg c42] at H
             exact absurd H (by simp)
          ·rw [if_neg c27] at H
           exact absurd H (by simp)
         ·rw [if_neg c26] at H
          exact absurd H (by simp)
        ·rw [if_neg c25] at H
         have c25b0 : decide (x37_3 < (l0_1.length : Int)) = false := decide_eq_false c25
         clear c25
         by_cases c52 : 4092 ≤ 281474976710656
         ·rw [if_pos c52] at H
          have c52b0 := eq_true c52
          have c52b1 : decide (4092 ≤ 281474976710656) = true := decide_eq_true c52
          clear c52
          replace H := Option.bind_eq_some_iff.mp H
          obtain ⟨tS, AS0, H⟩ := H
          have AS := Aside0.mk AS0
          clear AS0
          simp only [Option.some.injEq, Prod.mk.injEq] at H
          obtain ⟨rfl, rfl⟩ := H
          obtain ⟨Az, cz, ez⟩ := Kd.R_slice HO_6.out
          subst ez
          clear HK3
          obtain ⟨Z, hZ⟩ : ∃ Z, Z = List.replicate (4092 : Int).toNat (0 : Int) := ⟨_, rfl⟩
          have HZ := Aside0.mk hZ
          clear hZ
          unfold node_Encode.pad at AS
          rw [← HZ.out] at AS
          go_wp2_with (first | ((with_reducible refine gate_dst (N := 66) rfl ?_); refine Kd.R_make (Kd.int .u8) _ 5 rfl (N := 66) rfl 27 _ _ rfl 4092 rfl rfl Try.underlying27 (.int .u8 0) 1 info5 rfl (by decide) (by decide) (0 : Int) (ok := fun _ => True) (okp := fun _ => False) rfl (fun _ h => h.elim) trivial (by omega) (by decide) HB.out HB.out.size ?_; intro vm wm hom hbm hgm hnm; rw [← HZ.out] at hom; have HM := Aside0.mk hom; have HO2 := Aside0.mk (Kd.R_grown (row := none) HO_6.out hgm (by simp)); have HB2 := Aside0.mk hbm; have HG2 := Aside0.mk hgm; obtain ⟨Am, cm, em⟩ := Kd.R_slice hom; subst em; clear hom hbm hgm hnm) | ((with_reducible refine gate_builtin (b := .copy) (xs := #[.tmp 67, .tmp 68]) rfl ?_); refine Kd.R_copy (0 : Int) (w0 := w) w.heap.size rfl (.tmp 67) (.tmp 68) 27 27 5 rfl Try.underlying27 (by kernel_rfl) _ _ _ _ _ _ _ rfl rfl HM.out (Kd.R_reads' HO2.out).2.2 HB2.out HB2.out.size ?_; intro wc hoc hbc hgc; have HM3 := Aside0.mk hoc; have HB3 := Aside0.mk hbc; clear hoc hbc hgc) | (go_at_call 42; (refine (node_Encode.seal _ _ _ Z _ _ (Kd.R_reads' HM3.out).2.2 (Kd.R_reads' HM3.out).2.1 AS.out).mono ?_); rintro e wS ⟨vS, rfl, hoS, hbS⟩; have HS := Aside0.mk (Kd.R_lower hoS HB3.out.size); have HB4 := Aside0.mk (below_step HB3.out hbS); clear hoS hbS))
          go_ret2
          exact ⟨_, rfl, Kd.R_mono HS.out (fun _ _ => trivial), HB4.out⟩
         ·rw [if_neg c52] at H
          exact absurd H (by simp)
 ·rw [if_neg c3] at H
  have c3b0 : (t198 == 0) = false := beq_eq_false_iff_ne.mpr c3
  have c3b1 : (t198 != 0) = true := bne_iff_ne.mpr c3
  simp only [Option.some.injEq, Prod.mk.injEq] at H
  obtain ⟨rfl, rfl⟩ := H
  go_enter Try.func22, Try.ntmps22
  go_wp2_with (first | ((with_reducible refine gate_dst (N := 1) rfl ?_); refine box_event ?hg (N := 1) ?hd (cs := #[.bool a0_0, .slice A0_1 l0_1.length c0_1, .slice A0_2 l0_2.length c0_2, .slice A0_3 l0_3.length c0_3]) (t := 26) ?hr ?_; (case hd => rfl); (case hg => rfl); (case hr => first | (go_simp; done) | (go_simp; rfl)); intro gb197 hg w53 hbox hb; have n0_ := Aside0.mk (below_step (zh0_ HB.out) hb); have n1_ := Aside0.mk (hbox); have n2_ := Aside0.mk ((by rw [hg]; exact (below_size (zh0_ HB.out)) : w.heap.size ≤ gb197)); have n3_ := Aside0.mk ((by rw [hg]; exact (below_size (zh0_ HB.out)) : w.heap.size ≤ gb197)); clear HB; have HB := n0_; have BK197 := n1_; have GW197 := n2_; have GE197 := n3_; clear n0_ n1_ n2_ n3_; clear hb hbox hg; obtain ⟨hcz54_0, hcz54_1, hcz54_2, hcz54_3⟩ := zc4 BK197.out; obtain ⟨hfz54_0, hfz54_1, hfz54_2, hfz54_3⟩ := zz4 BK197.out) | ((with_reducible refine gate_callee (f := 19) rfl ?_); refine goesL_ (some 11) rfl rfl Try.func19 (by kernel_rfl) rfl #[.agg #[.bool a0_0, .slice A0_1 l0_1.length c0_1, .slice A0_2 l0_2.length c0_2, .slice A0_3 l0_3.length c0_3]] rfl zl_ ?_; (with_reducible refine (node_Check.calls k a0_0 _ _ l0_1 _ _ l0_2 _ _ l0_3 t198 _ ?side1 ?side2 ?side3 ?side4 ?side5 ?side6 A2.out).mono ?_); (case side1 => exact zc_ (Kd.C_below HR0_1.out HB.out)); (case side2 => exact HC0_1.out); (case side3 => exact zc_ (Kd.C_below HR0_2.out HB.out)); (case side4 => exact HC0_2.out); (case side5 => exact zc_ (Kd.C_below HR0_3.out HB.out)); (case side6 => exact HC0_3.out); rintro e w55 ⟨rfl, hb⟩; refine ⟨_, rfl, ?_⟩; have n0_ := Aside0.mk (blk_below (zb_ BK197.out) hb); have n1_ := Aside0.mk (below_step (zh1_ HB.out GE197.out) hb); clear BK197; clear HB; have BK197 := n0_; have HB := n1_; clear n0_ n1_; (try clear hb); (try clear hb2); (try clear hk); (try clear hi)))
  go_ret2
  exact ⟨_, by first | rfl | (simp [errW_none, errW_some] <;> rfl) | (simp [*, errW_none, errW_some] <;> rfl), by first | exact Kd.R_nil _ _ _ _ _ | exact Kd.N_nil _ _ _ _ _ | exact Kd.V_nil _ _ _ _ _ | exact Kd.Q_nil _ _ _ _ _ | exact Kd.S_nil _ _ _ _ _, by exact zh1_ HB.out GE197.out⟩
end Go.Proofs.Ytcbgichkeecgiaa.Print
