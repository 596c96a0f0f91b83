-- What the claim uses alone (wip/slim.py). Lean checks it.
import Derived.Test.YtcbgichkeecgiaaDoorZAb
import Derived.Test.YtcbgichkeecgiaaDoorZAln
namespace Go.Proofs.YtcbgichkeecgiaaDoor.Print
open Go.RowKit Go.Proofs.YtcbgichkeecgiaaDoorW.PrintWords Go.Proofs.YtcbgichkeecgiaaDoorW.PrintLast Go.Proofs.YtcbgichkeecgiaaDoorW.PrintMore
attribute [local go_sem] max2_mx min2_mn max_two min_two max_three min_three max_four min_four
set_option linter.unusedVariables false
set_option linter.unusedSimpArgs false
def node_Encode.pad (l : List Int) : List Int := l.take (min l.length (List.replicate (4092 : Int).toNat (0 : Int)).length) ++ (List.replicate (4092 : Int).toNat 0).drop (min l.length (List.replicate (4092 : Int).toNat (0 : Int)).length)
theorem node_Encode.pad_len (l Z : List Int) : (l.take (min l.length Z.length) ++ Z.drop (min l.length Z.length)).length = Z.length := by rw [List.length_append, List.length_take, List.length_drop]; omega
theorem node_Encode.seal (A : Option Addr) (c : Nat) (l Z r : List Int) (w : World) (hC : Kd.C (Kd.int .u8) w A (l.take (min l.length Z.length) ++ Z.drop (min l.length Z.length)).length (l.take (min l.length Z.length) ++ Z.drop (min l.length Z.length))) (hc : Z.length ≤ c) (h : crc_Seal.f (l.take (min l.length Z.length) ++ Z.drop (min l.length Z.length)) = some r) :
  Calls Tryd.prog 19 #[.slice A Z.length c] w fun e w' => ∃ v0_ : Value, e = .returned (v0_) ∧ Kd.R (Kd.int .u8) 5 w' w.heap.size (fun _ => True) v0_ r ∧ Below w.heap.size w w' := by
 have hl := node_Encode.pad_len l Z
 generalize l.take (min l.length Z.length) ++ Z.drop (min l.length Z.length) = L at hC h hl
 rw [← hl] at hc ⊢
 exact crc_Seal.calls A c L r w hC hc h
mutual
def node_Encode.j0 : Nat → Int → Bool → List (List Int) → List (List Int) → List Int → Option (List Int × Int)
 | 0, _, _, _, _, _ => none
 | k + 1, x5, x188000, x188001, x188002, x188003 => (codec_Num.f k (([x5] : List Int)) (IntKind.u64.wrap ((x188001.length : Int)))).bind fun t192 => (if x188000 = true then (node_Encode.j1 k t192 x188000 x188001 x188002 x188003) else (if 0 < (x188003.length : Int) then ((codec_Num.f k t192 (IntKind.u64.wrap (rd x188003 0))).bind fun t196 => (node_Encode.j1 k t196 x188000 x188001 x188002 x188003)) else (none)))
def node_Encode.j1 : Nat → List Int → Bool → List (List Int) → List (List Int) → List Int → Option (List Int × Int)
 | 0, _, _, _, _, _ => none
 | k + 1, x6, x188000, x188001, x188002, x188003 => node_Encode.l0 k x6 x188001 (x188001.length : Int) 0 x188000 x188001 x188002 x188003
def node_Encode.l0 : Nat → List Int → List (List Int) → Int → Int → Bool → List (List Int) → List (List Int) → List Int → Option (List Int × Int)
 | 0, _, _, _, _, _, _, _, _ => none
 | k + 1, x6, x35, x36, x37, x188000, x188001, x188002, x188003 => if x37 < x36 then (if 0 ≤ x37 then (if x37 < (x35.length : Int) then ((codec_Text.f k x6 (strOfNums (rd_L1 x35 x37))).bind fun t203 => (if x188000 = true then (if x37 < (x188002.length : Int) then ((codec_Text.f k t203 (strOfNums (rd_L1 x188002 x37))).bind fun t207 => (node_Encode.l0 k t207 x35 x36 (wrap64 (x37 + 1)) x188000 x188001 x188002 x188003)) else (none)) else (if 0 ≤ (wrap64 (x37 + 1)) then (if (wrap64 (x37 + 1)) < (x188003.length : Int) then ((codec_Num.f k t203 (IntKind.u64.wrap (rd x188003 (wrap64 (x37 + 1))))).bind fun t211 => (node_Encode.l0 k t211 x35 x36 (wrap64 (x37 + 1)) x188000 x188001 x188002 x188003)) else (none)) else (none)))) else (none)) else (none)) else (if 4092 ≤ 281474976710656 then ((crc_Seal.f (node_Encode.pad x6)).bind fun t_ => (some (t_, 0))) else (none))
end
def node_Encode.f (k : Nat) (a0_0 : Bool) (l0_1 : List (List Int)) (l0_2 : List (List Int)) (l0_3 : List Int) : Option (List Int × Int) := (node_Check.f k a0_0 l0_1 l0_2 l0_3).bind fun t188 => (if t188 = 0 then (if a0_0 = true then (node_Encode.j0 k 1 a0_0 l0_1 l0_2 l0_3) else (node_Encode.j0 k 2 a0_0 l0_1 l0_2 l0_3)) else (some (([] : List Int), t188)))
set_option maxHeartbeats 8000000 in
set_option maxRecDepth 100000 in
theorem node_Encode.calls (k : Nat) (a0_0 : Bool) (A0_1 : Option Addr) (c0_1 : Nat) (l0_1 : List (List Int)) (A0_2 : Option Addr) (c0_2 : Nat) (l0_2 : List (List Int)) (A0_3 : Option Addr) (c0_3 : Nat) (l0_3 : List Int) (r1 : List Int) (r2 : Int) (w : World) (hr0_1 : Kd.C (Kd.slice 5 (Kd.int .u8)) w A0_1 l0_1.length l0_1) (hc0_1 : l0_1.length ≤ c0_1) (hr0_2 : Kd.C (Kd.slice 5 (Kd.int .u8)) w A0_2 l0_2.length l0_2) (hc0_2 : l0_2.length ≤ c0_2) (hr0_3 : Kd.C (Kd.int .i64) w A0_3 l0_3.length l0_3) (hc0_3 : l0_3.length ≤ c0_3) (h : node_Encode.f k a0_0 l0_1 l0_2 l0_3 = some (r1, r2)) :
  Calls Tryd.prog 6 #[.agg #[.bool a0_0, .slice A0_1 l0_1.length c0_1, .slice A0_2 l0_2.length c0_2, .slice A0_3 l0_3.length c0_3]] w fun e w' => ∃ v0_ : Value, e = .returned (.tuple #[v0_, .int .i64 r2]) ∧ Kd.R (Kd.int .u8) 5 w' w.heap.size (fun _ => True) v0_ r1 ∧ Below w.heap.size w w' := by
 have hu25 := Tryd.underlying25
 have HR0_1 := Aside0.mk hr0_1
 have HC0_1 := Aside0.mk hc0_1
 clear hr0_1 hc0_1
 have HR0_2 := Aside0.mk hr0_2
 have HC0_2 := Aside0.mk hc0_2
 clear hr0_2 hc0_2
 have HR0_3 := Aside0.mk hr0_3
 have HC0_3 := Aside0.mk hc0_3
 clear hr0_3 hc0_3
 have HB := Aside0.mk (Below.refl w.heap.size w)
 have H : ((node_Check.f k a0_0 l0_1 l0_2 l0_3).bind fun t188 => (if t188 = 0 then (if a0_0 = true then (node_Encode.j0 k 1 a0_0 l0_1 l0_2 l0_3) else (node_Encode.j0 k 2 a0_0 l0_1 l0_2 l0_3)) else (some (([] : List Int), t188)))) = some (r1, r2) := h
 clear h
 obtain ⟨t188, A2, H⟩ := zm H
 (try dsimp only at H)
 by_cases c3 : t188 = 0
 ·rw [if_pos c3] at H
  obtain ⟨c3b0, c3b1⟩ := zq1 c3
  clear c3
  have HC4 := Aside0.mk H
  clear H
  go_enter Tryd.func6, Tryd.ntmps6
  go_upto_if 16 with (first | ((with_reducible refine gate_dst (N := 1) rfl ?_); refine box_event ?hg (N := 1) ?hd (cs := #[.bool a0_0, .slice A0_1 l0_1.length c0_1, .slice A0_2 l0_2.length c0_2, .slice A0_3 l0_3.length c0_3]) (t := 25) ?hr ?_; (case hd => rfl); (case hg => rfl); (case hr => first | (go_simp; done) | (go_simp; rfl)); intro gb187 hg w5 hbox hb; have BK187 := Aside0.mk (hbox); have GW187 := Aside0.mk ((by rw [hg]; exact (below_size (zh0_ HB.out)) : w.heap.size ≤ gb187)); have GE187 := Aside0.mk ((by rw [hg]; exact (below_size (zh0_ HB.out)) : w.heap.size ≤ gb187)); replace HB := Aside0.mk (below_step (zh0_ HB.out) hb); clear hb hbox hg; obtain ⟨hcz6_0, hcz6_1, hcz6_2, hcz6_3⟩ := zc4 BK187.out; obtain ⟨hfz6_0, hfz6_1, hfz6_2, hfz6_3⟩ := zz4 BK187.out) | ((with_reducible refine gate_callee (f := 11) rfl ?_); refine goesL_ (some 11) rfl rfl Tryd.func11 (by kernel_rfl) rfl #[.agg #[.bool a0_0, .slice A0_1 l0_1.length c0_1, .slice A0_2 l0_2.length c0_2, .slice A0_3 l0_3.length c0_3]] rfl zl_ ?_; (with_reducible refine (node_Check.calls k a0_0 _ _ l0_1 _ _ l0_2 _ _ l0_3 t188 _ ?side1 ?side2 ?side3 ?side4 ?side5 ?side6 A2.out).mono ?_); (case side1 => exact zc_ (Kd.C_below HR0_1.out HB.out)); (case side2 => exact HC0_1.out); (case side3 => exact zc_ (Kd.C_below HR0_2.out HB.out)); (case side4 => exact HC0_2.out); (case side5 => exact zc_ (Kd.C_below HR0_3.out HB.out)); (case side6 => exact HC0_3.out); rintro e w7 ⟨rfl, hb⟩; refine ⟨_, rfl, ?_⟩; replace BK187 := Aside0.mk (blk_below (zb_ BK187.out) hb); replace HB := Aside0.mk (below_step (zh1_ HB.out GE187.out) hb); (try clear hb); obtain ⟨hcz8_0, hcz8_1, hcz8_2, hcz8_3⟩ := zc4 BK187.out; obtain ⟨hfz8_0, hfz8_1, hfz8_2, hfz8_3⟩ := zz4 BK187.out))
  (try simp only [Act.put, zt0, zt1, zt2])
  go_cut [5] (fun v5 wc => ∃ (kq : Nat) (x5_3 : Int), v5 = .int .u8 x5_3 ∧ Aside0 (node_Encode.j0 kq x5_3 a0_0 l0_1 l0_2 l0_3 = some (r1, r2)) ∧ Aside0 (kq ≤ k) ∧ Aside0 (wc.heap[gb187]? = some (.cells #[.bool a0_0, (.slice A0_1 l0_1.length c0_1), (.slice A0_2 l0_2.length c0_2), (.slice A0_3 l0_3.length c0_3)] 25 (0, 0))) ∧ Aside0 (Below w.heap.size w wc))
  case first =>
   have H := HC4.out
   clear HC4
   by_cases c9 : a0_0 = true
   ·subst c9
    replace H := (if_pos (rfl : true = true)).symm.trans H
    have H' := Aside0.mk H
    clear H
    go_wp2
    go_meet
    case rel => exact ⟨_, (1), (by first | rfl | (simp; done) | (simp [*]; done) | (simp only [i64_w]; done)), H', ⟨by first | omega | exact Nat.le_refl _⟩, ⟨by (with_reducible repeat (first | refine blk_drewN ?_ _ | refine blk_drew ?_ | refine blk_alloc ?_ _)); exact BK187.out⟩, ⟨by exact zh1_ HB.out GE187.out⟩⟩
   ·replace c9 := Bool.eq_false_iff.mpr c9
    subst c9
    replace H := (if_neg (show ¬ (false = true) by decide)).symm.trans H
    have H' := Aside0.mk H
    clear H
    go_wp2
    go_meet
    case rel => exact ⟨_, (2), (by first | rfl | (simp; done) | (simp [*]; done) | (simp only [i64_w]; done)), H', ⟨by first | omega | exact Nat.le_refl _⟩, ⟨by (with_reducible repeat (first | refine blk_drewN ?_ _ | refine blk_drew ?_ | refine blk_alloc ?_ _)); exact BK187.out⟩, ⟨by exact zh1_ HB.out GE187.out⟩⟩
  case rest =>
   clear HC4
   try clear c1
   try clear p2
   try clear c3
   try clear c3b0
   try clear c3b1
   try clear c6
   try clear c9
   try clear hcz6_0
   try clear hcz6_1
   try clear hcz6_2
   try clear hcz6_3
   try clear hcz8_0
   try clear hcz8_1
   try clear hcz8_2
   try clear hcz8_3
   try clear hfz6_0
   try clear hfz6_1
   try clear hfz6_2
   try clear hfz6_3
   try clear hfz8_0
   try clear hfz8_1
   try clear hfz8_2
   try clear hfz8_3
   (try clear BK187)
   obtain ⟨kq, x5_3, rfl, HA, HJ3, BK187, HB⟩ := hcut
   cases kq with
   | zero => exact absurd HA.out (by simp [node_Encode.j0])
   | succ kj3 =>
    have H := HA.out
    clear HA
    simp only [node_Encode.j0] at H
    obtain ⟨y189, hy189⟩ : ∃ y_ : List Int, y_ = (([x5_3] : List Int)) := ⟨_, rfl⟩
    replace H : ((codec_Num.f kj3 y189 (IntKind.u64.wrap ((l0_1.length : Int)))).bind fun t192 => (if a0_0 = true then (node_Encode.j1 kj3 t192 a0_0 l0_1 l0_2 l0_3) else (if 0 < (l0_3.length : Int) then ((codec_Num.f kj3 t192 (IntKind.u64.wrap (rd l0_3 0))).bind fun t196 => (node_Encode.j1 kj3 t196 a0_0 l0_1 l0_2 l0_3)) else (none)))) = some (r1, r2) := by first | (rw [hy189]; with_reducible exact H) | (have H2_ := (Option.bind_some _ _).symm.trans H; rw [hy189]; with_reducible exact H2_) | (have H2_ := (Option.bind_some _ _).symm.trans H; with_reducible exact H2_) | with_reducible exact H | (rw [hy189]; exact H) | exact H
    have Ny189 := Aside0.mk hy189
    clear hy189
    obtain ⟨t192, A10, H⟩ := zm H
    (try dsimp only at H)
    have HC11 := Aside0.mk H
    clear H
    go_upto_if 26 with (first | ((with_reducible refine gate_dst (N := 18) rfl ?_); refine Kd.R_lit (Kd.int .u8) _ 5 ?hg (N := 18) ?hd (xs := ([x5_3] : List Int)) (inner := [.int .u8 x5_3]) (ok := fun _ => True) (okp := fun _ => True) ?hr ?hp (fun _ hk => hk) trivial (Below.refl _ _) (Nat.le_refl _) (by simp) ?_; (case hd => rfl); (case hg => rfl); (case hr => first | (go_simp; done) | (go_simp; rfl)); (case hp => exact (Reps.one (show Kd.M (Kd.int .u8) _ _ _ x5_3 [.int .u8 x5_3] from rfl) (Reps.none _ _))); intro v190 w12 ho13 hb hg_ hnew_; clear hg_ hnew_; (first | rw [← Ny189.out] at ho13 | (simp only [Int.reduceToNat] at ho13; rw [← Ny189.out] at ho13)); have HO191 := Aside0.mk (Kd.R_lower ho13 (below_size (zh1_ HB.out GE187.out))); replace BK187 := Aside0.mk (blk_below (zb_ BK187.out) hb); replace HB := Aside0.mk (below_step (zh1_ HB.out GE187.out) hb); clear hb ho13; obtain ⟨hcz14_0, hcz14_1, hcz14_2, hcz14_3⟩ := zc4 BK187.out; obtain ⟨hfz14_0, hfz14_1, hfz14_2, hfz14_3⟩ := zz4 BK187.out; obtain ⟨Ao15, co15, eo15⟩ := Kd.R_slice HO191.out; subst eo15) | ((with_reducible refine gate_callee (f := 17) rfl ?_); refine goesL_ (some 23) rfl rfl Tryd.func17 (by kernel_rfl) rfl #[.slice Ao15 y189.length co15, .int .u64 (IntKind.u64.wrap ((l0_1.length : Int)))] rfl zl_ ?_; (with_reducible refine (codec_Num.calls kj3 _ _ y189 (IntKind.u64.wrap ((l0_1.length : Int))) t192 _ ?side1 ?side2 A10.out).mono ?_); (case side1 => repeat (first | exact (Kd.R_reads' HO191.out).2.2 | (with_reducible refine Kd.C_alloc ?_ _) | (with_reducible refine Kd.C_drewN ?_ _) | (with_reducible refine Kd.C_drew ?_))); (case side2 => exact (Kd.R_reads' HO191.out).2.1); rintro e w16 ⟨v193, rfl, ho0, hb⟩; refine ⟨_, rfl, ?_⟩; have HO194 := Aside0.mk (Kd.R_lower (Kd.R_new' ho0 (Kd.R_lt (zR_ HO191.out))) (below_size (zh1_ HB.out GE187.out))); replace HO191 := Aside0.mk (Kd.R_elder' (zR_ HO191.out) (Kd.R_base ho0) hb); replace BK187 := Aside0.mk (blk_below (zb_ BK187.out) hb); replace HB := Aside0.mk (below_step (zh1_ HB.out GE187.out) hb); (try clear hb); (try clear hk); (try clear ho0); obtain ⟨hcz17_0, hcz17_1, hcz17_2, hcz17_3⟩ := zc4 BK187.out; obtain ⟨hfz17_0, hfz17_1, hfz17_2, hfz17_3⟩ := zz4 BK187.out))
    (try simp only [Act.put, zt0, zt1, zt2])
    go_cut [6] (fun v6 wc => ∃ (kq : Nat) (x6_10 : List Int), Aside0 (node_Encode.j1 kq x6_10 a0_0 l0_1 l0_2 l0_3 = some (r1, r2)) ∧ Aside0 (kq ≤ kj3) ∧ Aside0 (Kd.R (Kd.int .u8) 5 wc w.heap.size (fun _ => True) v6 x6_10) ∧ Aside0 (wc.heap[gb187]? = some (.cells #[.bool a0_0, (.slice A0_1 l0_1.length c0_1), (.slice A0_2 l0_2.length c0_2), (.slice A0_3 l0_3.length c0_3)] 25 (0, 0))) ∧ Aside0 (Below w.heap.size w wc))
    case first =>
     have H := HC11.out
     clear HC11
     by_cases c18 : a0_0 = true
     ·subst c18
      replace H := (if_pos (rfl : true = true)).symm.trans H
      have H' := Aside0.mk H
      clear H
      go_wp2
      go_meet
      case rel => exact ⟨_, (t192), H', ⟨by have := HJ3.out; first | omega | exact Nat.le_refl _⟩, ⟨by (with_reducible repeat (first | apply Kd.R_alloc | apply Kd.R_drewN | apply Kd.R_drew)); exact Kd.R_mono HO194.out (fun _ hk => trivial)⟩, ⟨by (with_reducible repeat (first | refine blk_drewN ?_ _ | refine blk_drew ?_ | refine blk_alloc ?_ _)); exact BK187.out⟩, ⟨by exact zh1_ HB.out GE187.out⟩⟩
     ·replace c18 := Bool.eq_false_iff.mpr c18
      subst c18
      replace H := (if_neg (show ¬ (false = true) by decide)).symm.trans H
      by_cases c19 : 0 < (l0_3.length : Int)
      ·rw [if_pos c19] at H
       have c19b0 : decide (0 < (l0_3.length : Int)) = true := decide_eq_true c19
       have c19b1 : decide (0 < l0_3.length) = true := decide_eq_true (by omega)
       clear c19
       (first | rw [c19b0] | (simp only [i64_w, i32_w]; rw [c19b0]) | skip)
       obtain ⟨t196, A20, H⟩ := zm H
       (try dsimp only at H)
       have H' := Aside0.mk H
       clear H
       obtain ⟨hcz21_0, hcz21_1, hcz21_2, hcz21_3⟩ := zc4 BK187.out
       obtain ⟨hfz21_0, hfz21_1, hfz21_2, hfz21_3⟩ := zz4 BK187.out
       have p195 : 0 ≤ (0 : Int) := (by omega)
       have q195 : 0 < (l0_3.length : Int) := of_decide_eq_true za_
       obtain ⟨ad195, e195, hx195_0⟩ := Kd.at_int HR0_3.out 0 p195 q195
       cases e195
       have qi195 : (0 < l0_3.length) = True := eq_true (by omega)
       (try rw [show ((0 : Int)).toNat = 0 from rfl] at hx195_0)
       (try rw [Addr.add_zero'] at hx195_0)
       replace hx195_0 := zx_ HB.out hx195_0
       replace p195 := eq_true p195
       replace q195 := eq_true q195
       obtain ⟨Ao22, co22, eo22⟩ := Kd.R_slice HO194.out
       subst eo22
       go_wp2_with (first | ((with_reducible refine gate_callee (f := 17) rfl ?_); refine goesL_ (some 33) rfl rfl Tryd.func17 (by kernel_rfl) rfl #[.slice Ao22 t192.length co22, .int .u64 (IntKind.u64.wrap (rd l0_3 0))] rfl zl_ ?_; (with_reducible refine (codec_Num.calls kj3 _ _ t192 (IntKind.u64.wrap (rd l0_3 0)) t196 _ ?side1 ?side2 A20.out).mono ?_); (case side1 => repeat (first | exact (Kd.R_reads' HO194.out).2.2 | (with_reducible refine Kd.C_alloc ?_ _) | (with_reducible refine Kd.C_drewN ?_ _) | (with_reducible refine Kd.C_drew ?_))); (case side2 => exact (Kd.R_reads' HO194.out).2.1); rintro e w23 ⟨v197, rfl, ho0, hb⟩; refine ⟨_, rfl, ?_⟩; have HO198 := Aside0.mk (Kd.R_lower (Kd.R_new' (Kd.R_new' ho0 (Kd.R_lt (zR_ HO191.out))) (Kd.R_lt (zR_ HO194.out))) (below_size (zh1_ HB.out GE187.out))); replace HO191 := Aside0.mk (Kd.R_elder' (zR_ HO191.out) (Kd.R_base ho0) hb); replace HO194 := Aside0.mk (Kd.R_elder' (zR_ HO194.out) (Kd.R_base ho0) hb); replace BK187 := Aside0.mk (blk_below (zb_ BK187.out) hb); replace HB := Aside0.mk (below_step (zh1_ HB.out GE187.out) hb); (try clear hb); (try clear ho0)))
       go_meet
       case rel => exact ⟨_, (t196), H', ⟨by have := HJ3.out; first | omega | exact Nat.le_refl _⟩, ⟨by (with_reducible repeat (first | apply Kd.R_alloc | apply Kd.R_drewN | apply Kd.R_drew)); exact Kd.R_mono HO198.out (fun _ hk => trivial)⟩, ⟨by (with_reducible repeat (first | refine blk_drewN ?_ _ | refine blk_drew ?_ | refine blk_alloc ?_ _)); exact BK187.out⟩, ⟨by exact zh1_ HB.out GE187.out⟩⟩
      ·rw [if_neg c19] at H
       cases H
    case rest =>
     clear HC11
     try clear c1
     try clear p1
     try clear q1
     try clear hx1
     try clear qi1
     try clear p2
     try clear c3
     try clear c3b0
     try clear c3b1
     try clear c6
     try clear c9
     try clear c11
     try clear c17
     try clear c18
     try clear c19
     try clear c19b0
     try clear c19b1
     try clear p19
     try clear q19
     try clear hx19
     try clear qi19
     try clear hcz14_0
     try clear hcz14_1
     try clear hcz14_2
     try clear hcz14_3
     try clear hcz17_0
     try clear hcz17_1
     try clear hcz17_2
     try clear hcz17_3
     try clear hcz21_0
     try clear hcz21_1
     try clear hcz21_2
     try clear hcz21_3
     try clear hcz6_0
     try clear hcz6_1
     try clear hcz6_2
     try clear hcz6_3
     try clear hcz8_0
     try clear hcz8_1
     try clear hcz8_2
     try clear hcz8_3
     try clear hfz14_0
     try clear hfz14_1
     try clear hfz14_2
     try clear hfz14_3
     try clear hfz17_0
     try clear hfz17_1
     try clear hfz17_2
     try clear hfz17_3
     try clear hfz21_0
     try clear hfz21_1
     try clear hfz21_2
     try clear hfz21_3
     try clear hfz6_0
     try clear hfz6_1
     try clear hfz6_2
     try clear hfz6_3
     try clear hfz8_0
     try clear hfz8_1
     try clear hfz8_2
     try clear hfz8_3
     try clear hx195_0
     try clear p195
     try clear p2
     try clear q195
     (try clear BK187)
     obtain ⟨kq, x6_10, HA, HJ10, HO_6, BK187, HB⟩ := hcut
     cases kq with
     | zero => exact absurd HA.out (by simp [node_Encode.j1])
     | succ kj10 =>
      have H := HA.out
      clear HA
      simp only [node_Encode.j1] at H
      have H' := Aside0.mk H
      clear H
      obtain ⟨hcz24_0, hcz24_1, hcz24_2, hcz24_3⟩ := zc4 BK187.out
      obtain ⟨hfz24_0, hfz24_1, hfz24_2, hfz24_3⟩ := zz4 BK187.out
      go_wp2
      go_loopg [6, 37] kj10 (fun kq v6 v37 w' => ∃ (x6_3 : List Int) (x37_3 : Int), v37 = .int .i64 x37_3 ∧ Aside0 (node_Encode.l0 kq x6_3 l0_1 (l0_1.length : Int) x37_3 a0_0 l0_1 l0_2 l0_3 = some (r1, r2)) ∧ Aside0 (kq ≤ kj10) ∧ Aside0 (Kd.R (Kd.int .u8) 5 w' w.heap.size (fun _ => True) v6 x6_3) ∧ Aside0 (w'.heap[gb187]? = some (.cells #[.bool a0_0, (.slice A0_1 l0_1.length c0_1), (.slice A0_2 l0_2.length c0_2), (.slice A0_3 l0_3.length c0_3)] 25 (0, 0))) ∧ Aside0 (Below w.heap.size w w'))
      case atStart => exact ⟨(x6_10), (0), (by first | rfl | (simp; done) | (simp [*]; done) | (simp only [i64_w]; done)), H', ⟨Nat.le_refl _⟩, ⟨by (with_reducible repeat (first | apply Kd.R_alloc | apply Kd.R_drewN | apply Kd.R_drew)); exact HO_6.out⟩, ⟨by (with_reducible repeat (first | refine blk_drewN ?_ _ | refine blk_drew ?_ | refine blk_alloc ?_ _)); exact BK187.out⟩, ⟨by exact zh1_ HB.out GE187.out⟩⟩
      case round =>
       clear H'
       try clear c1
       try clear p1
       try clear q1
       try clear hx1
       try clear qi1
       try clear p2
       try clear c3
       try clear c3b0
       try clear c3b1
       try clear c6
       try clear c9
       try clear c11
       try clear c17
       try clear c18
       try clear c19
       try clear c19b0
       try clear c19b1
       try clear p19
       try clear q19
       try clear hx19
       try clear qi19
       try clear hcz14_0
       try clear hcz14_1
       try clear hcz14_2
       try clear hcz14_3
       try clear hcz17_0
       try clear hcz17_1
       try clear hcz17_2
       try clear hcz17_3
       try clear hcz21_0
       try clear hcz21_1
       try clear hcz21_2
       try clear hcz21_3
       try clear hcz24_0
       try clear hcz24_1
       try clear hcz24_2
       try clear hcz24_3
       try clear hcz6_0
       try clear hcz6_1
       try clear hcz6_2
       try clear hcz6_3
       try clear hcz8_0
       try clear hcz8_1
       try clear hcz8_2
       try clear hcz8_3
       try clear hfz14_0
       try clear hfz14_1
       try clear hfz14_2
       try clear hfz14_3
       try clear hfz17_0
       try clear hfz17_1
       try clear hfz17_2
       try clear hfz17_3
       try clear hfz21_0
       try clear hfz21_1
       try clear hfz21_2
       try clear hfz21_3
       try clear hfz24_0
       try clear hfz24_1
       try clear hfz24_2
       try clear hfz24_3
       try clear hfz6_0
       try clear hfz6_1
       try clear hfz6_2
       try clear hfz6_3
       try clear hfz8_0
       try clear hfz8_1
       try clear hfz8_2
       try clear hfz8_3
       try clear hx195_0
       try clear p1
       try clear p19
       try clear p195
       try clear p2
       try clear q1
       try clear q19
       try clear q195
       (try clear BK187)
       obtain ⟨x6_3, x37_3, rfl, HA, HK3, HO_6, BK187, HB⟩ := hrel
       cases gk with
       | zero => exact absurd HA.out (by simp [node_Encode.l0])
       | succ k3 =>
        have H := HA.out
        clear HA
        simp only [node_Encode.l0] at H
        by_cases c25 : x37_3 < (l0_1.length : Int)
        ·rw [if_pos c25] at H
         have c25b0 : decide (x37_3 < (l0_1.length : Int)) = true := decide_eq_true c25
         clear c25
         by_cases c26 : 0 ≤ x37_3
         ·rw [if_pos c26] at H
          have c26b0 : decide (0 ≤ x37_3) = true := decide_eq_true c26
          clear c26
          by_cases c27 : x37_3 < (l0_1.length : Int)
          ·rw [if_pos c27] at H
           have c27b0 : decide (x37_3 < (l0_1.length : Int)) = true := decide_eq_true c27
           clear c27
           obtain ⟨t203, A28, H⟩ := zm H
           (try dsimp only at H)
           by_cases c29 : a0_0 = true
           ·subst c29
            replace H := (if_pos (rfl : true = true)).symm.trans H
            by_cases c30 : x37_3 < (l0_2.length : Int)
            ·rw [if_pos c30] at H
             have c30b0 : decide (x37_3 < (l0_2.length : Int)) = true := decide_eq_true c30
             clear c30
             obtain ⟨t207, A31, H⟩ := zm H
             (try dsimp only at H)
             have H' := Aside0.mk H
             clear H
             have p202 : 0 ≤ (x37_3 : Int) := of_decide_eq_true za_
             have q202 : x37_3 < (l0_1.length : Int) := of_decide_eq_true za_
             obtain ⟨ad202, A202_0, c202_0, e202, hx202_0, hl202_0, hi202_0⟩ := at_L1 HR0_1.out x37_3 p202 q202
             cases e202
             replace hx202_0 := zx_ HB.out hx202_0
             have HR202_0 := Aside0.mk hi202_0
             have HC202_0 := Aside0.mk hl202_0
             clear hi202_0 hl202_0
             replace p202 := eq_true p202
             replace q202 := eq_true q202
             have hcv32 := Kd.C_string (P := Tryd.prog) (A := A202_0) (c := c202_0) Tryd.underlying26 Tryd.underlying5 Tryd.underlying9 (Kd.C_below HR202_0.out HB.out)
             have hcw33 := fun n_ : Nat => Kd.C_string (P := Tryd.prog) (A := A202_0) (c := c202_0) Tryd.underlying26 Tryd.underlying5 Tryd.underlying9 (Kd.C_drewN (Kd.C_below HR202_0.out HB.out) n_)
             obtain ⟨Ao34, co34, eo34⟩ := Kd.R_slice HO_6.out
             subst eo34
             go_wp2_with (first | ((with_reducible refine gate_callee (f := 18) rfl ?_); refine goesL_ (some 45) rfl rfl Tryd.func18 (by kernel_rfl) rfl #[.slice Ao34 x6_3.length co34, .string (strOfNums (rd_L1 l0_1 x37_3))] rfl zl_ ?_; (with_reducible refine (codec_Text.calls k3 _ _ x6_3 (strOfNums (rd_L1 l0_1 x37_3)) t203 _ ?side1 ?side2 A28.out).mono ?_); (case side1 => repeat (first | exact (Kd.R_reads' HO_6.out).2.2 | (with_reducible refine Kd.C_alloc ?_ _) | (with_reducible refine Kd.C_drewN ?_ _) | (with_reducible refine Kd.C_drew ?_))); (case side2 => exact (Kd.R_reads' HO_6.out).2.1); rintro e w35 ⟨v204, rfl, ho0, hb⟩; refine ⟨_, rfl, ?_⟩; have HO205 := Aside0.mk (Kd.R_lower (Kd.R_new' ho0 (Kd.R_lt (zR_ HO_6.out))) (below_size (zh1_ HB.out GE187.out))); replace HO_6 := Aside0.mk (Kd.R_elder' (zR_ HO_6.out) (Kd.R_base ho0) hb); replace BK187 := Aside0.mk (blk_below (zb_ BK187.out) hb); replace HB := Aside0.mk (below_step (zh1_ HB.out GE187.out) hb); (try clear hb); (try clear ho0); obtain ⟨hcz36_0, hcz36_1, hcz36_2, hcz36_3⟩ := zc4 BK187.out; obtain ⟨hfz36_0, hfz36_1, hfz36_2, hfz36_3⟩ := zz4 BK187.out; have p206 : 0 ≤ (x37_3 : Int) := of_decide_eq_true za_; have q206 : x37_3 < (l0_2.length : Int) := of_decide_eq_true za_; obtain ⟨ad206, A206_0, c206_0, e206, hx206_0, hl206_0, hi206_0⟩ := at_L1 HR0_2.out x37_3 p206 q206; cases e206; replace hx206_0 := zx_ HB.out hx206_0; have HR206_0 := Aside0.mk hi206_0; have HC206_0 := Aside0.mk hl206_0; clear hi206_0 hl206_0; replace p206 := eq_true p206; replace q206 := eq_true q206; have hcv37 := Kd.C_string (P := Tryd.prog) (A := A206_0) (c := c206_0) Tryd.underlying26 Tryd.underlying5 Tryd.underlying9 (Kd.C_below HR206_0.out HB.out); have hcw38 := fun n_ : Nat => Kd.C_string (P := Tryd.prog) (A := A206_0) (c := c206_0) Tryd.underlying26 Tryd.underlying5 Tryd.underlying9 (Kd.C_drewN (Kd.C_below HR206_0.out HB.out) n_); obtain ⟨Ao39, co39, eo39⟩ := Kd.R_slice HO205.out; subst eo39) | ((with_reducible refine gate_callee (f := 18) rfl ?_); refine goesL_ (some 55) rfl rfl Tryd.func18 (by kernel_rfl) rfl #[.slice Ao39 t203.length co39, .string (strOfNums (rd_L1 l0_2 x37_3))] rfl zl_ ?_; (with_reducible refine (codec_Text.calls k3 _ _ t203 (strOfNums (rd_L1 l0_2 x37_3)) t207 _ ?side1 ?side2 A31.out).mono ?_); (case side1 => repeat (first | exact (Kd.R_reads' HO205.out).2.2 | (with_reducible refine Kd.C_alloc ?_ _) | (with_reducible refine Kd.C_drewN ?_ _) | (with_reducible refine Kd.C_drew ?_))); (case side2 => exact (Kd.R_reads' HO205.out).2.1); rintro e w40 ⟨v208, rfl, ho0, hb⟩; refine ⟨_, rfl, ?_⟩; have HO209 := Aside0.mk (Kd.R_lower (Kd.R_new' (Kd.R_new' ho0 (Kd.R_lt (zR_ HO_6.out))) (Kd.R_lt (zR_ HO205.out))) (below_size (zh1_ HB.out GE187.out))); replace HO_6 := Aside0.mk (Kd.R_elder' (zR_ HO_6.out) (Kd.R_base ho0) hb); replace HO205 := Aside0.mk (Kd.R_elder' (zR_ HO205.out) (Kd.R_base ho0) hb); replace BK187 := Aside0.mk (blk_below (zb_ BK187.out) hb); replace HB := Aside0.mk (below_step (zh1_ HB.out GE187.out) hb); (try clear hb); (try clear ho0)))
             go_roundg k3
             case measure => have := HJ3.out; have := HJ10.out; have := HK3.out; omega
             case rel => exact ⟨(t207), (wrap64 (x37_3 + 1)), (by first | rfl | (simp; done) | (simp [*]; done) | (simp only [i64_w]; done)), H', ⟨by have := HJ3.out; have := HJ10.out; have := HK3.out; omega⟩, ⟨by (with_reducible repeat (first | apply Kd.R_alloc | apply Kd.R_drewN | apply Kd.R_drew)); exact Kd.R_mono HO209.out (fun _ hk => trivial)⟩, ⟨by (with_reducible repeat (first | refine blk_drewN ?_ _ | refine blk_drew ?_ | refine blk_alloc ?_ _)); exact BK187.out⟩, ⟨by exact zh1_ HB.out GE187.out⟩⟩
            ·rw [if_neg c30] at H
             cases H
           ·replace c29 := Bool.eq_false_iff.mpr c29
            subst c29
            replace H := (if_neg (show ¬ (false = true) by decide)).symm.trans H
            obtain ⟨ji41, hji41⟩ : ∃ j_ : Int, (wrap64 (x37_3 + 1)) = j_ := ⟨_, rfl⟩
            replace H : (if 0 ≤ (ji41) then (if (ji41) < (l0_3.length : Int) then ((codec_Num.f k3 t203 (IntKind.u64.wrap (rd l0_3 (ji41)))).bind fun t211 => (node_Encode.l0 k3 t211 l0_1 (l0_1.length : Int) ji41 false l0_1 l0_2 l0_3)) else (none)) else (none)) = some (r1, r2) := by first | (rw [hji41] at H; exact H) | (simp only [hji41] at H ⊢; exact H)
            (try rw [hji41] at A28)
            have hji41w : (IntKind.i64.wrap (x37_3 + 1)) = ji41 := (i64_w _).trans hji41
            by_cases c42 : 0 ≤ (ji41)
            ·rw [if_pos c42] at H
             have c42b0 : decide (0 ≤ (ji41)) = true := decide_eq_true c42
             clear c42
             by_cases c43 : (ji41) < (l0_3.length : Int)
             ·rw [if_pos c43] at H
              have c43b0 : decide ((ji41) < (l0_3.length : Int)) = true := decide_eq_true c43
              clear c43
              obtain ⟨t211, A44, H⟩ := zm H
              (try dsimp only at H)
              have H' := Aside0.mk H
              clear H
              have p202 : 0 ≤ (x37_3 : Int) := of_decide_eq_true za_
              have q202 : x37_3 < (l0_1.length : Int) := of_decide_eq_true za_
              obtain ⟨ad202, A202_0, c202_0, e202, hx202_0, hl202_0, hi202_0⟩ := at_L1 HR0_1.out x37_3 p202 q202
              cases e202
              replace hx202_0 := zx_ HB.out hx202_0
              have HR202_0 := Aside0.mk hi202_0
              have HC202_0 := Aside0.mk hl202_0
              clear hi202_0 hl202_0
              replace p202 := eq_true p202
              replace q202 := eq_true q202
              have hcv45 := Kd.C_string (P := Tryd.prog) (A := A202_0) (c := c202_0) Tryd.underlying26 Tryd.underlying5 Tryd.underlying9 (Kd.C_below HR202_0.out HB.out)
              have hcw46 := fun n_ : Nat => Kd.C_string (P := Tryd.prog) (A := A202_0) (c := c202_0) Tryd.underlying26 Tryd.underlying5 Tryd.underlying9 (Kd.C_drewN (Kd.C_below HR202_0.out HB.out) n_)
              obtain ⟨Ao47, co47, eo47⟩ := Kd.R_slice HO_6.out
              subst eo47
              go_wp2_with (first | ((with_reducible refine gate_callee (f := 18) rfl ?_); refine goesL_ (some 45) rfl rfl Tryd.func18 (by kernel_rfl) rfl #[.slice Ao47 x6_3.length co47, .string (strOfNums (rd_L1 l0_1 x37_3))] rfl zl_ ?_; (with_reducible refine (codec_Text.calls k3 _ _ x6_3 (strOfNums (rd_L1 l0_1 x37_3)) t203 _ ?side1 ?side2 A28.out).mono ?_); (case side1 => repeat (first | exact (Kd.R_reads' HO_6.out).2.2 | (with_reducible refine Kd.C_alloc ?_ _) | (with_reducible refine Kd.C_drewN ?_ _) | (with_reducible refine Kd.C_drew ?_))); (case side2 => exact (Kd.R_reads' HO_6.out).2.1); rintro e w48 ⟨v204, rfl, ho0, hb⟩; refine ⟨_, rfl, ?_⟩; have HO205 := Aside0.mk (Kd.R_lower (Kd.R_new' ho0 (Kd.R_lt (zR_ HO_6.out))) (below_size (zh1_ HB.out GE187.out))); replace HO_6 := Aside0.mk (Kd.R_elder' (zR_ HO_6.out) (Kd.R_base ho0) hb); replace BK187 := Aside0.mk (blk_below (zb_ BK187.out) hb); replace HB := Aside0.mk (below_step (zh1_ HB.out GE187.out) hb); (try clear hb); (try clear ho0); obtain ⟨hcz49_0, hcz49_1, hcz49_2, hcz49_3⟩ := zc4 BK187.out; obtain ⟨hfz49_0, hfz49_1, hfz49_2, hfz49_3⟩ := zz4 BK187.out; have p210 : 0 ≤ ((ji41) : Int) := of_decide_eq_true za_; have q210 : (ji41) < (l0_3.length : Int) := of_decide_eq_true za_; obtain ⟨ad210, e210, hx210_0⟩ := Kd.at_int HR0_3.out (ji41) p210 q210; cases e210; replace hx210_0 := zx_ HB.out hx210_0; replace p210 := eq_true p210; replace q210 := eq_true q210; obtain ⟨Ao50, co50, eo50⟩ := Kd.R_slice HO205.out; subst eo50) | ((with_reducible refine gate_callee (f := 17) rfl ?_); refine goesL_ (some 64) rfl rfl Tryd.func17 (by kernel_rfl) rfl #[.slice Ao50 t203.length co50, .int .u64 (IntKind.u64.wrap (rd l0_3 (ji41)))] rfl (by (try simp only [List.map_toArray, List.map_cons, List.map_nil]); first | done | (simp only [hji41]; rfl) | rfl | (simp only [List.length_drop, List.length_take]; rfl)) ?_; (with_reducible refine (codec_Num.calls k3 _ _ t203 (IntKind.u64.wrap (rd l0_3 (ji41))) t211 _ ?side1 ?side2 A44.out).mono ?_); (case side1 => repeat (first | exact (Kd.R_reads' HO205.out).2.2 | (with_reducible refine Kd.C_alloc ?_ _) | (with_reducible refine Kd.C_drewN ?_ _) | (with_reducible refine Kd.C_drew ?_))); (case side2 => exact (Kd.R_reads' HO205.out).2.1); rintro e w51 ⟨v212, rfl, ho0, hb⟩; refine ⟨_, rfl, ?_⟩; have HO213 := Aside0.mk (Kd.R_lower (Kd.R_new' (Kd.R_new' ho0 (Kd.R_lt (zR_ HO_6.out))) (Kd.R_lt (zR_ HO205.out))) (below_size (zh1_ HB.out GE187.out))); replace HO_6 := Aside0.mk (Kd.R_elder' (zR_ HO_6.out) (Kd.R_base ho0) hb); replace HO205 := Aside0.mk (Kd.R_elder' (zR_ HO205.out) (Kd.R_base ho0) hb); replace BK187 := Aside0.mk (blk_below (zb_ BK187.out) hb); replace HB := Aside0.mk (below_step (zh1_ HB.out GE187.out) hb); (try clear hb); (try clear ho0)))
              go_roundg k3
              case measure => have := HJ3.out; have := HJ10.out; have := HK3.out; omega
              case rel => exact ⟨(t211), (ji41), (by first | rfl | (simp; done) | (simp only [← hji41] <;> (first | rfl | simp)) | (simp [*]; done)), H', ⟨by have := HJ3.out; have := HJ10.out; have := HK3.out; omega⟩, ⟨by (with_reducible repeat (first | apply Kd.R_alloc | apply Kd.R_drewN | apply Kd.R_drew)); exact Kd.R_mono HO213.out (fun _ hk => trivial)⟩, ⟨by (with_reducible repeat (first | refine blk_drewN ?_ _ | refine blk_drew ?_ | refine blk_alloc ?_ _)); exact BK187.out⟩, ⟨by exact zh1_ HB.out GE187.out⟩⟩
             ·rw [if_neg c43] at H
              cases H
            ·rw [if_neg c42] at H
             cases H
          ·rw [if_neg c27] at H
           cases H
         ·rw [if_neg c26] at H
          cases H
        ·rw [if_neg c25] at H
         have c25b0 : decide (x37_3 < (l0_1.length : Int)) = false := decide_eq_false c25
         clear c25
         by_cases c52 : 4092 ≤ 281474976710656
         ·rw [if_pos c52] at H
          have c52b0 := eq_true c52
          have c52b1 : decide (4092 ≤ 281474976710656) = true := decide_eq_true c52
          clear c52
          obtain ⟨tS, AS, H⟩ := zm H
          simp only [Option.some.injEq, Prod.mk.injEq] at H
          obtain ⟨rfl, rfl⟩ := H
          obtain ⟨Az, cz, ez⟩ := Kd.R_slice HO_6.out
          subst ez
          clear HK3
          obtain ⟨Z, hZ⟩ : ∃ Z, Z = List.replicate (4092 : Int).toNat (0 : Int) := ⟨_, rfl⟩
          have HZ := Aside0.mk hZ
          clear hZ
          unfold node_Encode.pad at AS
          rw [← HZ.out] at AS
          go_wp2_with (first | ((with_reducible refine gate_dst (N := 66) rfl ?_); refine Kd.R_make (Kd.int .u8) _ 5 rfl (N := 66) rfl 26 _ _ rfl 4092 rfl rfl Tryd.underlying26 (.int .u8 0) 1 info5 rfl (by decide) (by decide) (0 : Int) (ok := fun _ => True) (okp := fun _ => False) rfl (fun _ h => h.elim) trivial (by omega) (by decide) HB.out HB.out.size ?_; intro vm wm hom hbm hgm hnm; rw [← HZ.out] at hom; have HM := Aside0.mk hom; have HO2 := Aside0.mk (Kd.R_grown (row := none) HO_6.out hgm (by simp)); have HB2 := Aside0.mk hbm; have HG2 := Aside0.mk hgm; obtain ⟨Am, cm, em⟩ := Kd.R_slice hom; subst em; clear hom hbm hgm hnm) | ((with_reducible refine gate_builtin (b := .copy) (xs := #[.tmp 67, .tmp 68]) rfl ?_); refine Kd.R_copy (0 : Int) (w0 := w) w.heap.size rfl (.tmp 67) (.tmp 68) 26 26 5 rfl Tryd.underlying26 (by kernel_rfl) _ _ _ _ _ _ _ rfl rfl HM.out (Kd.R_reads' HO2.out).2.2 HB2.out HB2.out.size ?_; intro wc hoc hbc hgc; have HM3 := Aside0.mk hoc; have HB3 := Aside0.mk hbc; clear hoc hbc hgc) | (go_at_call 19; (refine (node_Encode.seal _ _ _ Z _ _ (Kd.R_reads' HM3.out).2.2 (Kd.R_reads' HM3.out).2.1 AS.out).mono ?_); rintro e wS ⟨vS, rfl, hoS, hbS⟩; have HS := Aside0.mk (Kd.R_lower hoS HB3.out.size); have HB4 := Aside0.mk (below_step HB3.out hbS); clear hoS hbS))
          go_ret2
          exact ⟨_, rfl, Kd.R_mono HS.out (fun _ _ => trivial), HB4.out⟩
         ·rw [if_neg c52] at H
          cases H
 ·rw [if_neg c3] at H
  obtain ⟨c3b0, c3b1⟩ := zq0 c3
  simp only [Option.some.injEq, Prod.mk.injEq] at H
  obtain ⟨rfl, rfl⟩ := H
  go_enter Tryd.func6, Tryd.ntmps6
  go_wp2_with (first | ((with_reducible refine gate_dst (N := 1) rfl ?_); refine box_event ?hg (N := 1) ?hd (cs := #[.bool a0_0, .slice A0_1 l0_1.length c0_1, .slice A0_2 l0_2.length c0_2, .slice A0_3 l0_3.length c0_3]) (t := 25) ?hr ?_; (case hd => rfl); (case hg => rfl); (case hr => first | (go_simp; done) | (go_simp; rfl)); intro gb187 hg w53 hbox hb; have BK187 := Aside0.mk (hbox); have GW187 := Aside0.mk ((by rw [hg]; exact (below_size (zh0_ HB.out)) : w.heap.size ≤ gb187)); have GE187 := Aside0.mk ((by rw [hg]; exact (below_size (zh0_ HB.out)) : w.heap.size ≤ gb187)); replace HB := Aside0.mk (below_step (zh0_ HB.out) hb); clear hb hbox hg; obtain ⟨hcz54_0, hcz54_1, hcz54_2, hcz54_3⟩ := zc4 BK187.out; obtain ⟨hfz54_0, hfz54_1, hfz54_2, hfz54_3⟩ := zz4 BK187.out) | ((with_reducible refine gate_callee (f := 11) rfl ?_); refine goesL_ (some 11) rfl rfl Tryd.func11 (by kernel_rfl) rfl #[.agg #[.bool a0_0, .slice A0_1 l0_1.length c0_1, .slice A0_2 l0_2.length c0_2, .slice A0_3 l0_3.length c0_3]] rfl zl_ ?_; (with_reducible refine (node_Check.calls k a0_0 _ _ l0_1 _ _ l0_2 _ _ l0_3 t188 _ ?side1 ?side2 ?side3 ?side4 ?side5 ?side6 A2.out).mono ?_); (case side1 => exact zc_ (Kd.C_below HR0_1.out HB.out)); (case side2 => exact HC0_1.out); (case side3 => exact zc_ (Kd.C_below HR0_2.out HB.out)); (case side4 => exact HC0_2.out); (case side5 => exact zc_ (Kd.C_below HR0_3.out HB.out)); (case side6 => exact HC0_3.out); rintro e w55 ⟨rfl, hb⟩; refine ⟨_, rfl, ?_⟩; replace BK187 := Aside0.mk (blk_below (zb_ BK187.out) hb); replace HB := Aside0.mk (below_step (zh1_ HB.out GE187.out) hb); (try clear hb)))
  go_ret2
  exact ⟨_, by first | rfl | (simp [errW_none, errW_some] <;> rfl) | (simp [*, errW_none, errW_some] <;> rfl), by first | exact Kd.R_nil _ _ _ _ _ | exact Kd.N_nil _ _ _ _ _ | exact Kd.V_nil _ _ _ _ _ | exact Kd.Q_nil _ _ _ _ _ | exact Kd.S_nil _ _ _ _ _, by exact zh1_ HB.out GE187.out⟩
end Go.Proofs.YtcbgichkeecgiaaDoor.Print
namespace Go.Proofs.YtcbgichkeecgiaaDoor.Print
open Go.RowKit Go.Proofs.YtcbgichkeecgiaaDoorW.PrintWords Go.Proofs.YtcbgichkeecgiaaDoorW.PrintLast Go.Proofs.YtcbgichkeecgiaaDoorW.PrintMore
attribute [local go_sem] max2_mx min2_mn max_two min_two max_three min_three max_four min_four
set_option linter.unusedVariables false
set_option linter.unusedSimpArgs false
end Go.Proofs.YtcbgichkeecgiaaDoor.Print
namespace Go.Proofs.YtcbgichkeecgiaaDoor.Print
open Go.RowKit Go.Proofs.YtcbgichkeecgiaaDoorW.PrintWords Go.Proofs.YtcbgichkeecgiaaDoorW.PrintLast Go.Proofs.YtcbgichkeecgiaaDoorW.PrintMore
attribute [local go_sem] max2_mx min2_mn max_two min_two max_three min_three max_four min_four
set_option linter.unusedVariables false
set_option linter.unusedSimpArgs false
end Go.Proofs.YtcbgichkeecgiaaDoor.Print
namespace Go.Proofs.YtcbgichkeecgiaaDoor.Print
open Go.RowKit Go.Proofs.YtcbgichkeecgiaaDoorW.PrintWords Go.Proofs.YtcbgichkeecgiaaDoorW.PrintLast Go.Proofs.YtcbgichkeecgiaaDoorW.PrintMore
attribute [local go_sem] max2_mx min2_mn max_two min_two max_three min_three max_four min_four
set_option linter.unusedVariables false
set_option linter.unusedSimpArgs false
end Go.Proofs.YtcbgichkeecgiaaDoor.Print
namespace Go.Proofs.YtcbgichkeecgiaaDoor.Print
open Go.RowKit Go.Proofs.YtcbgichkeecgiaaDoorW.PrintWords Go.Proofs.YtcbgichkeecgiaaDoorW.PrintLast Go.Proofs.YtcbgichkeecgiaaDoorW.PrintMore
attribute [local go_sem] max2_mx min2_mn max_two min_two max_three min_three max_four min_four
set_option linter.unusedVariables false
set_option linter.unusedSimpArgs false
end Go.Proofs.YtcbgichkeecgiaaDoor.Print
namespace Go.Proofs.YtcbgichkeecgiaaDoor.Print
open Go.RowKit Go.Proofs.YtcbgichkeecgiaaDoorW.PrintWords Go.Proofs.YtcbgichkeecgiaaDoorW.PrintLast Go.Proofs.YtcbgichkeecgiaaDoorW.PrintMore
attribute [local go_sem] max2_mx min2_mn max_two min_two max_three min_three max_four min_four
set_option linter.unusedVariables false
set_option linter.unusedSimpArgs false
end Go.Proofs.YtcbgichkeecgiaaDoor.Print
namespace Go.Proofs.YtcbgichkeecgiaaDoor.Print
open Go.RowKit Go.Proofs.YtcbgichkeecgiaaDoorW.PrintWords Go.Proofs.YtcbgichkeecgiaaDoorW.PrintLast Go.Proofs.YtcbgichkeecgiaaDoorW.PrintMore
attribute [local go_sem] max2_mx min2_mn max_two min_two max_three min_three max_four min_four
set_option linter.unusedVariables false
set_option linter.unusedSimpArgs false
end Go.Proofs.YtcbgichkeecgiaaDoor.Print
