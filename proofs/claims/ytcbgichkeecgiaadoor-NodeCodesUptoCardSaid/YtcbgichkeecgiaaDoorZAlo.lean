-- What the claim uses alone (wip/slim.py). Lean checks it.
import Derived.Test.YtcbgichkeecgiaaDoorZAb
import Derived.Test.YtcbgichkeecgiaaDoorZAln
namespace Go.Proofs.YtcbgichkeecgiaaDoor.Print
open Go.RowKit Go.Proofs.YtcbgichkeecgiaaDoorW.PrintWords Go.Proofs.YtcbgichkeecgiaaDoorW.PrintLast Go.Proofs.YtcbgichkeecgiaaDoorW.PrintMore
attribute [local go_sem] max2_mx min2_mn max_two min_two max_three min_three max_four min_four
set_option linter.unusedVariables false
set_option linter.unusedSimpArgs false
def node_Encode.pad (l : List Int) : List Int := l.take (min l.length (List.replicate (4092 : Int).toNat (0 : Int)).length) ++ (List.replicate (4092 : Int).toNat 0).drop (min l.length (List.replicate (4092 : Int).toNat (0 : Int)).length)
theorem node_Encode.pad_len (l Z : List Int) : (l.take (min l.length Z.length) ++ Z.drop (min l.length Z.length)).length = Z.length := by rw [List.length_append, List.length_take, List.length_drop]; omega
theorem node_Encode.seal (A : Option Addr) (c : Nat) (l Z r : List Int) (w : World) (hC : Kd.C (Kd.int .u8) w A (l.take (min l.length Z.length) ++ Z.drop (min l.length Z.length)).length (l.take (min l.length Z.length) ++ Z.drop (min l.length Z.length))) (hc : Z.length ≤ c) (h : crc_Seal.f (l.take (min l.length Z.length) ++ Z.drop (min l.length Z.length)) = some r) :
  Calls Tryd.prog 19 #[.slice A Z.length c] w fun e w' => ∃ v0_ : Value, e = .returned (v0_) ∧ Kd.R (Kd.int .u8) 5 w' w.heap.size (fun _ => True) v0_ r ∧ Below w.heap.size w w' := by
 have hl := node_Encode.pad_len l Z
 generalize l.take (min l.length Z.length) ++ Z.drop (min l.length Z.length) = L at hC h hl
 rw [← hl] at hc ⊢
 exact crc_Seal.calls A c L r w hC hc h
mutual
def node_Encode.j0 : Nat → Int → Bool → List (List Int) → List (List Int) → List Int → Option (List Int × Int)
 | 0, _, _, _, _, _ => none
 | k + 1, x5, x188000, x188001, x188002, x188003 => (codec_Num.f k (([x5] : List Int)) (IntKind.u64.wrap ((x188001.length : Int)))).bind fun t192 => (if x188000 = true then (node_Encode.j1 k t192 x188000 x188001 x188002 x188003) else (if 0 < (x188003.length : Int) then ((codec_Num.f k t192 (IntKind.u64.wrap (rd x188003 0))).bind fun t196 => (node_Encode.j1 k t196 x188000 x188001 x188002 x188003)) else (none)))
def node_Encode.j1 : Nat → List Int → Bool → List (List Int) → List (List Int) → List Int → Option (List Int × Int)
 | 0, _, _, _, _, _ => none
 | k + 1, x6, x188000, x188001, x188002, x188003 => node_Encode.l0 k x6 x188001 (x188001.length : Int) 0 x188000 x188001 x188002 x188003
def node_Encode.l0 : Nat → List Int → List (List Int) → Int → Int → Bool → List (List Int) → List (List Int) → List Int → Option (List Int × Int)
 | 0, _, _, _, _, _, _, _, _ => none
 | k + 1, x6, x35, x36, x37, x188000, x188001, x188002, x188003 => if x37 < x36 then (if 0 ≤ x37 then (if x37 < (x35.length : Int) then ((codec_Text.f k x6 (strOfNums (rd_L1 x35 x37))).bind fun t203 => (if x188000 = true then (if x37 < (x188002.length : Int) then ((codec_Text.f k t203 (strOfNums (rd_L1 x188002 x37))).bind fun t207 => (node_Encode.l0 k t207 x35 x36 (wrap64 (x37 + 1)) x188000 x188001 x188002 x188003)) else (none)) else (if 0 ≤ (wrap64 (x37 + 1)) then (if (wrap64 (x37 + 1)) < (x188003.length : Int) then ((codec_Num.f k t203 (IntKind.u64.wrap (rd x188003 (wrap64 (x37 + 1))))).bind fun t211 => (node_Encode.l0 k t211 x35 x36 (wrap64 (x37 + 1)) x188000 x188001 x188002 x188003)) else (none)) else (none)))) else (none)) else (none)) else (if 4092 ≤ 281474976710656 then ((crc_Seal.f (node_Encode.pad x6)).bind fun t_ => (some (t_, 0))) else (none))
end
def node_Encode.f (k : Nat) (a0_0 : Bool) (l0_1 : List (List Int)) (l0_2 : List (List Int)) (l0_3 : List Int) : Option (List Int × Int) := (node_Check.f k a0_0 l0_1 l0_2 l0_3).bind fun t188 => (if t188 = 0 then (if a0_0 = true then (node_Encode.j0 k 1 a0_0 l0_1 l0_2 l0_3) else (node_Encode.j0 k 2 a0_0 l0_1 l0_2 l0_3)) else (some (([] : List Int), t188)))
set_option maxHeartbeats 8000000 in
set_option maxRecDepth 100000 in
theorem node_Encode.calls (k : Nat) (a0_0 : Bool) (A0_1 : Option Addr) (c0_1 : Nat) (l0_1 : List (List Int)) (A0_2 : Option Addr) (c0_2 : Nat) (l0_2 : List (List Int)) (A0_3 : Option Addr) (c0_3 : Nat) (l0_3 : List Int) (r1 : List Int) (r2 : Int) (w : World) (hr0_1 : Kd.C (Kd.slice 5 (Kd.int .u8)) w A0_1 l0_1.length l0_1) (hc0_1 : l0_1.length ≤ c0_1) (hr0_2 : Kd.C (Kd.slice 5 (Kd.int .u8)) w A0_2 l0_2.length l0_2) (hc0_2 : l0_2.length ≤ c0_2) (hr0_3 : Kd.C (Kd.int .i64) w A0_3 l0_3.length l0_3) (hc0_3 : l0_3.length ≤ c0_3) (h : node_Encode.f k a0_0 l0_1 l0_2 l0_3 = some (r1, r2)) :
  Calls Tryd.prog 6 #[.agg #[.bool a0_0, .slice A0_1 l0_1.length c0_1, .slice A0_2 l0_2.length c0_2, .slice A0_3 l0_3.length c0_3]] w fun e w' => ∃ v0_ : Value, e = .returned (.tuple #[v0_, .int .i64 r2]) ∧ Kd.R (Kd.int .u8) 5 w' w.heap.size (fun _ => True) v0_ r1 ∧ Below w.heap.size w w' := by
 have hu25 := Tryd.underlying25
 have HR0_1 := Aside0.mk hr0_1
 have HC0_1 := Aside0.mk hc0_1
 clear hr0_1 hc0_1
 have HR0_2 := Aside0.mk hr0_2
 have HC0_2 := Aside0.mk hc0_2
 clear hr0_2 hc0_2
 have HR0_3 := Aside0.mk hr0_3
 have HC0_3 := Aside0.mk hc0_3
 clear hr0_3 hc0_3
 have HB := Aside0.mk (Below.refl w.heap.size w)
 have H : ((node_Check.f k a0_0 l0_1 l0_2 l0_3).bind fun t188 => (if t188 = 0 then (if a0_0 = true then (node_Encode.j0 k 1 a0_0 l0_1 l0_2 l0_3) else (node_Encode.j0 k 2 a0_0 l0_1 l0_2 l0_3)) else (some (([] : List Int), t188)))) = some (r1, r2) := h
 clear h
 obtain ⟨t188, A2, H⟩ := zm H
 (try dsimp only at H)
 by_cases c3 : t188 = 0
 ·rw [if_pos c3] at H
  obtain ⟨c3b0, c3b1⟩ := zq1 c3
  clear c3
  have HC4 := Aside0.mk H
  clear H
  go_enter Tryd.func6, Tryd.ntmps6
  go_upto_if 16 with (first | ((with_reducible refine gate_dst (N := 1) rfl ?_); refine box_event ?hg (N := 1) ?hd (cs := #[.bool a0_0, .slice A0_1 l0_1.length c0_1, .slice A0_2 l0_2.length c0_2, .slice A0_3 l0_3.length c0_3]) (t := 25) ?hr ?_; (case hd => rfl); (case hg => rfl); (case hr => first | (go_simp; done) | (go_simp; rfl)); intro gb187 hg w5 hbox hb; have BK187 := Aside0.mk (hbox); have GW187 := Aside0.mk ((by rw [hg]; exact (below_size (zh0_ HB.out)) : w.heap.size ≤ gb187)); have GE187 := Aside0.mk ((by rw [hg]; exact (below_size (zh0_ HB.out)) : w.heap.size ≤ gb187)); replace HB := Aside0.mk (below_step (zh0_ HB.out) hb); clear hb hbox hg; obtain ⟨hcz6_0, hcz6_1, hcz6_2, hcz6_3⟩ := zc4 BK187.out; obtain ⟨hfz6_0, hfz6_1, hfz6_2, hfz6_3⟩ := zz4 BK187.out) | ((with_reducible refine gate_callee (f := 11) rfl ?_); refine goesL_ (some 11) rfl rfl Tryd.func11 (by kernel_rfl) rfl #[.agg #[.bool a0_0, .slice A0_1 l0_1.length c0_1, .slice A0_2 l0_2.length c0_2, .slice A0_3 l0_3.length c0_3]] rfl zl_ ?_; (with_reducible refine (node_Check.calls k a0_0 _ _ l0_1 _ _ l0_2 _ _ l0_3 t188 _ ?side1 ?side2 ?side3 ?side4 ?side5 ?side6 A2.out).mono ?_); (case side1 => exact zc_ (Kd.C_below HR0_1.out HB.out)); (case side2 => exact HC0_1.out); (case side3 => exact zc_ (Kd.C_below HR0_2.out HB.out)); (case side4 => exact HC0_2.out); (case side5 => exact zc_ (Kd.C_below HR0_3.out HB.out)); (case side6 => exact HC0_3.out); rintro e w7 ⟨rfl, hb⟩; refine ⟨_, rfl, ?_⟩; replace BK187 := Aside0.mk (blk_below (zb_ BK187.out) hb); replace HB := Aside0.mk (below_step (zh1_ HB.out GE187.out) hb); (try clear hb); obtain ⟨hcz8_0, hcz8_1, hcz8_2, hcz8_3⟩ := zc4 BK187.out; obtain ⟨hfz8_0, hfz8_1, hfz8_2, hfz8_3⟩ := zz4 BK187.out))
  (try simp only [Act.put, zt0, zt1, zt2])
  go_cut [5] (fun v5 wc => ∃ (kq : Nat) (x5_3 : Int), v5 = .int .u8 x5_3 ∧ Aside0 (node_Encode.j0 kq x5_3 a0_0 l0_1 l0_2 l0_3 = some (r1, r2)) ∧ Aside0 (kq ≤ k) ∧ Aside0 (wc.heap[gb187]? = some (.cells #[.bool a0_0, (.slice A0_1 l0_1.length c0_1), (.slice A0_2 l0_2.length c0_2), (.slice A0_3 l0_3.length c0_3)] 25 (0, 0))) ∧ Aside0 (Below w.heap.size w wc))
  case first =>
   have H := HC4.out
   clear HC4
   by_cases c9 : a0_0 = true
   ·subst c9
    replace H := (if_pos (rfl : true = true)).symm.trans H
    have H' := Aside0.mk H
    clear H
    go_wp2
    go_meet
    case rel => exact ⟨_, (1), (by first | rfl | (simp; done) | (simp [*]; done) | (simp only [i64_w]; done)), H', ⟨by first | omega | exact Nat.le_refl _⟩, ⟨by (with_reducible repeat (first | refine blk_drewN ?_ _ | refine blk_drew ?_ | refine blk_alloc ?_ _)); exact BK187.out⟩, ⟨by exact zh1_ HB.out GE187.out⟩⟩
   ·replace c9 := Bool.eq_false_iff.mpr c9
    subst c9
    replace H := (if_neg (show ¬ (false = true) by decide)).symm.trans H
    have H' := Aside0.mk H
    clear H
    go_wp2
    go_meet
    case rel => exact ⟨_, (2), (by first | rfl | (simp; done) | (simp [*]; done) | (simp only [i64_w]; done)), H', ⟨by first | omega | exact Nat.le_refl _⟩, ⟨by (with_reducible repeat (first | refine blk_drewN ?_ _ | refine blk_drew ?_ | refine blk_alloc ?_ _)); exact BK187.out⟩, ⟨by exact zh1_ HB.out GE187.out⟩⟩
  case rest =>
   clear HC4
   try clear c1
   try clear p2
   try clear c3
   try clear c3b0
   try clear c3b1
   try clear c6
   try clear c9
   try clear hcz6_0
   try clear hcz6_1
   try clear hcz6_2
   try clear hcz6_3
   try clear hcz8_0
   try clear hcz8_1
   try clear hcz8_2
   try clear hcz8_3
   try clear hfz6_0
   try clear hfz6_1
   try clear hfz6_2
   try clear hfz6_3
   try clear hfz8_0
   try clear hfz8_1
   try clear hfz8_2
   try clear hfz8_3
   (try clear BK187)
   obtain ⟨kq, x5_3, rfl, HA, HJ3, BK187, HB⟩ := hcut
   cases kq with
   | zero => exact absurd HA.out (by simp [node_Encode.j0])
   | succ kj3 =>
    have H := HA.out
    clear HA
    simp only [node_Encode.j0] at H
    obtain ⟨y189, hy189⟩ : ∃ y_ : List Int, y_ = (([x5_3] : List Int)) := ⟨_, rfl⟩
    replace H : ((codec_Num.f kj3 y189 (IntKind.u64.wrap ((l0_1.length : Int)))).bind fun t192 => (if a0_0 = true then (node_Encode.j1 kj3 t192 a0_0 l0_1 l0_2 l0_3) else (if 0 < (l0_3.length : Int) then ((codec_Num.f kj3 t192 (IntKind.u64.wrap (rd l0_3 0))).bind fun t196 => (node_Encode.j1 kj3 t196 a0_0 l0_1 l0_2 l0_3)) else (none)))) = some (r1, r2) := by first | (rw [hy189]; with_reducible exact H) | (have H2_ := (Option.bind_some _ _).symm.trans H; rw [hy189]; with_reducible exact H2_) | (have H2_ := (Option.bind_some _ _).symm.trans H; with_reducible exact H2_) | with_reducible exact H | (rw [hy189]; exact H) | exact H
    have Ny189 := Aside0.mk hy189
    clear hy189
    obtain ⟨t192, A10, H⟩ := zm H
    (try dsimp only at H)
    have HC11 := Aside0.mk H
    clear H
    go_upto_if 26 with (first | ((with_reducible refine gate_dst (N := 18) rfl ?_); refine Kd.R_lit (Kd.int .u8) _ 5 ?hg (N := 18) ?hd (xs := ([x5_3] : List Int)) (inner := [.int .u8 x5_3]) (ok := fun _ => True) (okp := fun _ => True) ?hr ?hp (fun _ hk => hk) trivial (Below.refl _ _) (Nat.le_refl _) (by simp) ?_; (case hd => rfl); (case hg => rfl); (case hr => first | (go_simp; done) | (go_simp; rfl)); (case hp => exact (Reps.one (show Kd.M (Kd.int .u8) _ _ _ x5_3 [.int .u8 x5_3] from rfl) (Reps.none _ _))); intro v190 w12 ho13 hb hg_ hnew_; clear hg_ hnew_; (first | rw [← Ny189.out] at ho13 | (simp only [Int.reduceToNat] at ho13; rw [← Ny189.out] at ho13)); have HO191 := Aside0.mk (Kd.R_lower ho13 (below_size (zh1_ HB.out GE187.out))); replace BK187 := Aside0.mk (blk_below (zb_ BK187.out) hb); replace HB := Aside0.mk (below_step (zh1_ HB.out GE187.out) hb); clear hb ho13; obtain ⟨hcz14_0, hcz14_1, hcz14_2, hcz14_3⟩ := zc4 BK187.out; obtain ⟨hfz14_0, hfz14_1, hfz14_2, hfz14_3⟩ := zz4 BK187.out; obtain ⟨Ao15, co15, eo15⟩ := Kd.R_slice HO191.out; subst eo15) | ((with_reducible refine gate_callee (f := 17) rfl ?_); refine goesL_ (some 23) rfl rfl Tryd.func17 (by kernel_rfl) rfl #[.slice Ao15 y189.length co15, .int .u64 (IntKind.u64.wrap ((l0_1.length : Int)))] rfl zl_ ?_; (with_reducible refine (codec_Num.calls kj3 _ _ y189 (IntKind.u64.wrap ((l0_1.length : Int))) t192 _ ?side1 ?side2 A10.out).mono ?_); (case side1 => repeat (first | exact (Kd.R_reads' HO191.out).2.2 | (with_reducible refine Kd.C_alloc ?_ _) | (with_reducible refine Kd.C_drewN ?_ _) | (with_reducible refine Kd.C_drew ?_))); (case side2 => exact (Kd.R_reads' HO191.out).2.1); rintro e w16 ⟨v193, rfl, ho0, hb⟩; refine ⟨_, rfl, ?_⟩; have HO194 := Aside0.mk (Kd.R_lower (Kd.R_new' ho0 (Kd.R_lt (zR_ HO191.out))) (below_size (zh1_ HB.out GE187.out))); replace HO191 := Aside0.mk (Kd.R_elder' (zR_ HO191.out) (Kd.R_base ho0) hb); replace BK187 := Aside0.mk (blk_below (zb_ BK187.out) hb); replace HB := Aside0.mk (below_step (zh1_ HB.out GE187.out) hb); (try clear hb); (try clear hk); (try clear ho0); obtain ⟨hcz17_0, hcz17_1, hcz17_2, hcz17_3⟩ := zc4 BK187.out; obtain ⟨hfz17_0, hfz17_1, hfz17_2, hfz17_3⟩ := zz4 BK187.out))
    (try simp only [Act.put, zt0, zt1, zt2])
    go_cut [6] (fun v6 wc => ∃ (kq : Nat) (x6_10 : List Int), Aside0 (node_Encode.j1 kq x6_10 a0_0 l0_1 l0_2 l0_3 = some (r1, r2)) ∧ Aside0 (kq ≤ kj3) ∧ Aside0 (Kd.R (Kd.int .u8) 5 wc w.heap.size (fun _ => True) v6 x6_10) ∧ Aside0 (wc.heap[gb187]? = some (.cells #[.bool a0_0, (.slice A0_1 l0_1.length c0_1), (.slice A0_2 l0_2.length c0_2), (.slice A0_3 l0_3.length c0_3)] 25 (0, 0))) ∧ Aside0 (Below w.heap.size w wc))
    case first =>
     have H := HC11.out
     clear HC11
     by_cases c18 : a0_0 = true
     ·subst c18
      replace H := (if_pos (rfl : true = true)).symm.trans H
      have H' := Aside0.mk H
      clear H
      go_wp2
      go_meet
      case rel => exact ⟨_, (t192), H', ⟨by have := HJ3.out; first | omega | exact Nat.le_refl _⟩, ⟨by (with_reducible repeat (first | apply Kd.R_alloc | apply Kd.R_drewN | apply Kd.R_drew)); exact Kd.R_mono HO194.out (fun _ hk => trivial)⟩, ⟨by (with_reducible repeat (first | refine blk_drewN ?_ _ | refine blk_drew ?_ | refine blk_alloc ?_ _)); exact BK187.out⟩, ⟨by exact zh1_ HB.out GE187.out⟩⟩
     ·replace c18 := Bool.eq_false_iff.mpr c18
      subst c18
      replace H := (if_neg (show ¬ (false = true) by decide)).symm.trans H
      by_cases c19 : 0 < (l0_3.length : Int)
      ·rw [if_pos c19] at H
       have c19b0 : decide (0 < (l0_3.length : Int)) = true := decide_eq_true c19
       have c19b1 : decide (0 < l0_3.length) = true := decide_eq_true (by omega)
       clear c19
       (first | rw [c19b0] | (simp only [i64_w, i32_w]; rw [c19b0]) | skip)
       obtain ⟨t196, A20, H⟩ := zm H
       (try dsimp only at H)
       have H' := Aside0.mk H
       clear H
       obtain ⟨hcz21_0, hcz21_1, hcz21_2, hcz21_3⟩ := zc4 BK187.out
       obtain ⟨hfz21_0, hfz21_1, hfz21_2, hfz21_3⟩ := zz4 BK187.out
       have p195 : 0 ≤ (0 : Int) := (by omega)
       have q195 : 0 < (l0_3.length : Int) := of_decide_eq_true za_
       obtain ⟨ad195, e195, hx195_0⟩ := Kd.at_int HR0_3.out 0 p195 q195
       cases e195
       have qi195 : (0 < l0_3.length) = True := eq_true (by omega)
       (try rw [show ((0 : Int)).toNat = 0 from rfl] at hx195_0)
       (try rw [Addr.add_zero'] at hx195_0)
       replace hx195_0 := zx_ HB.out hx195_0
       replace p195 := eq_true p195
       replace q195 := eq_true q195
       obtain ⟨Ao22, co22, eo22⟩ := Kd.R_slice HO194.out
       subst eo22
       go_wp2_with (first | ((with_reducible refine gate_callee (f := 17) rfl ?_); refine goesL_ (some 33) rfl rfl Tryd.func17 (by kernel_rfl) rfl #[.slice Ao22 t192.length co22, .int .u64 (IntKind.u64.wrap (rd l0_3 0))] rfl zl_ ?_; (with_reducible refine (codec_Num.calls kj3 _ _ t192 (IntKind.u64.wrap (rd l0_3 0)) t196 _ ?side1 ?side2 A20.out).mono ?_); (case side1 => repeat (first | exact (Kd.R_reads' HO194.out).2.2 | (with_reducible refine Kd.C_alloc ?_ _) | (with_reducible refine Kd.C_drewN ?_ _) | (with_reducible refine Kd.C_drew ?_))); (case side2 => exact (Kd.R_reads' HO194.out).2.1); rintro e w23 ⟨v197, rfl, ho0, hb⟩; refine ⟨_, rfl, ?_⟩; have HO198 := Aside0.mk (Kd.R_lower (Kd.R_new' (Kd.R_new' ho0 (Kd.R_lt (zR_ HO191.out))) (Kd.R_lt (zR_ HO194.out))) (below_size (zh1_ HB.out GE187.out))); replace HO191 := Aside0.mk (Kd.R_elder' (zR_ HO191.out) (Kd.R_base ho0) hb); replace HO194 := Aside0.mk (Kd.R_elder' (zR_ HO194.out) (Kd.R_base ho0) hb); replace BK187 := Aside0.mk (blk_below (zb_ BK187.out) hb); replace HB := Aside0.mk (below_step (zh1_ HB.out GE187.out) hb); (try clear hb); (try clear ho0)))
       go_meet
       case rel => exact ⟨_, (t196), H', ⟨by have := HJ3.out; first | omega | exact Nat.le_refl _⟩, ⟨by (with_reducible repeat (first | apply Kd.R_alloc | apply Kd.R_drewN | apply Kd.R_drew)); exact Kd.R_mono HO198.out (fun _ hk => trivial)⟩, ⟨by (with_reducible repeat (first | refine blk_drewN ?_ _ | refine blk_drew ?_ | refine blk_alloc ?_ _)); exact BK187.out⟩, ⟨by exact zh1_ HB.out GE187.out⟩⟩
      ·rw [if_neg c19] at H
       cases H
    case rest =>
     clear HC11
     try clear c1
     try clear p1
     try clear q1
     try clear hx1
     try clear qi1
     try clear p2
     try clear c3
     try clear c3b0
     try clear c3b1
     try clear c6
     try clear c9
     try clear c11
     try clear c17
     try clear c18
     try clear c19
     try clear c19b0
     try clear c19b1
     try clear p19
     try clear q19
     try clear hx19
     try clear qi19
     try clear hcz14_0
     try clear hcz14_1
     try clear hcz14_2
     try clear hcz14_3
     try clear hcz17_0
     try clear hcz17_1
     try clear hcz17_2
     try clear hcz17_3
     try clear hcz21_0
     try clear hcz21_1
     try clear hcz21_2
     try clear hcz21_3
     try clear hcz6_0
     try clear hcz6_1
     try clear hcz6_2
     try clear hcz6_3
     try clear hcz8_0
     try clear hcz8_1
     try clear hcz8_2
     try clear hcz8_3
     try clear hfz14_0
     try clear hfz14_1
     try clear hfz14_2
     try clear hfz14_3
     try clear hfz17_0
     try clear hfz17_1
     try clear hfz17_2
     try clear hfz17_3
     try clear hfz21_0
     try clear hfz21_1
     try clear hfz21_2
     try clear hfz21_3
     try clear hfz6_0
     try clear hfz6_1
     try clear hfz6_2
     try clear hfz6_3
     try clear hfz8_0
     try clear hfz8_1
     try clear hfz8_2
     try clear hfz8_3
     try clear hx195_0
     try clear p195
     try clear p2
     try clear q195
     (try clear BK187)
     obtain ⟨kq, x6_10, HA, HJ10, HO_6, BK187, HB⟩ := hcut
     cases kq with
     | zero => exact absurd HA.out (by simp [node_Encode.j1])
     | succ kj10 =>
      have H := HA.out
      clear HA
      simp only [node_Encode.j1] at H
      have H' := Aside0.mk H
      clear H
      obtain ⟨hcz24_0, hcz24_1, hcz24_2, hcz24_3⟩ := zc4 BK187.out
      obtain ⟨hfz24_0, hfz24_1, hfz24_2, hfz24_3⟩ := zz4 BK187.out
      go_wp2
      go_loopg [6, 37] kj10 (fun kq v6 v37 w' => ∃ (x6_3 : List Int) (x37_3 : Int), v37 = .int .i64 x37_3 ∧ Aside0 (node_Encode.l0 kq x6_3 l0_1 (l0_1.length : Int) x37_3 a0_0 l0_1 l0_2 l0_3 = some (r1, r2)) ∧ Aside0 (kq ≤ kj10) ∧ Aside0 (Kd.R (Kd.int .u8) 5 w' w.heap.size (fun _ => True) v6 x6_3) ∧ Aside0 (w'.heap[gb187]? = some (.cells #[.bool a0_0, (.slice A0_1 l0_1.length c0_1), (.slice A0_2 l0_2.length c0_2), (.slice A0_3 l0_3.length c0_3)] 25 (0, 0))) ∧ Aside0 (Below w.heap.size w w'))
      case atStart => exact ⟨(x6_10), (0), (by first | rfl | (simp; done) | (simp [*]; done) | (simp only [i64_w]; done)), H', ⟨Nat.le_refl _⟩, ⟨by (with_reducible repeat (first | apply Kd.R_alloc | apply Kd.R_drewN | apply Kd.R_drew)); exact HO_6.out⟩, ⟨by (with_reducible repeat (first | refine blk_drewN ?_ _ | refine blk_drew ?_ | refine blk_alloc ?_ _)); exact BK187.out⟩, ⟨by exact zh1_ HB.out GE187.out⟩⟩
      case round =>
       clear H'
       try clear c1
       try clear p1
       try clear q1
       try clear hx1
       try clear qi1
       try clear p2
       try clear c3
       try clear c3b0
       try clear c3b1
       try clear c6
       try clear c9
       try clear c11
       try clear c17
       try clear c18
       try clear c19
       try clear c19b0
       try clear c19b1
       try clear p19
       try clear q19
       try clear hx19
       try clear qi19
       try clear hcz14_0
       try clear hcz14_1
       try clear hcz14_2
       try clear hcz14_3
       try clear hcz17_0
       try clear hcz17_1
       try clear hcz17_2
       try clear hcz17_3
       try clear hcz21_0
       try clear hcz21_1
       try clear hcz21_2
       try clear hcz21_3
       try clear hcz24_0
       try clear hcz24_1
       try clear hcz24_2
       try clear hcz24_3
       try clear hcz6_0
       try clear hcz6_1
       try clear hcz6_2
       try clear hcz6_3
       try clear hcz8_0
       try clear hcz8_1
       try clear hcz8_2
       try clear hcz8_3
       try clear hfz14_0
       try clear hfz14_1
       try clear hfz14_2
       try clear hfz14_3
       try clear hfz17_0
       try clear hfz17_1
       try clear hfz17_2
       try clear hfz17_3
       try clear hfz21_0
       try clear hfz21_1
       try clear hfz21_2
       try clear hfz21_3
       try clear hfz24_0
       try clear hfz24_1
       try clear hfz24_2
       try clear hfz24_3
       try clear hfz6_0
       try clear hfz6_1
       try clear hfz6_2
       try clear hfz6_3
       try clear hfz8_0
       try clear hfz8_1
       try clear hfz8_2
       try clear hfz8_3
       try clear hx195_0
       try clear p1
       try clear p19
       try clear p195
       try clear p2
       try clear q1
       try clear q19
       try clear q195
       (try clear BK187)
       obtain ⟨x6_3, x37_3, rfl, HA, HK3, HO_6, BK187, HB⟩ := hrel
       cases gk with
       | zero => exact absurd HA.out (by simp [node_Encode.l0])
       | succ k3 =>
        have H := HA.out
        clear HA
        simp only [node_Encode.l0] at H
        by_cases c25 : x37_3 < (l0_1.length : Int)
        ·rw [if_pos c25] at H
         have c25b0 : decide (x37_3 < (l0_1.length : Int)) = true := decide_eq_true c25
         clear c25
         by_cases c26 : 0 ≤ x37_3
         ·rw [if_pos c26] at H
          have c26b0 : decide (0 ≤ x37_3) = true := decide_eq_true c26
          clear c26
          by_cases c27 : x37_3 < (l0_1.length : Int)
          ·rw [if_pos c27] at H
           have c27b0 : decide (x37_3 < (l0_1.length : Int)) = true := decide_eq_true c27
           clear c27
           obtain ⟨t203, A28, H⟩ := zm H
           (try dsimp only at H)
           by_cases c29 : a0_0 = true
           ·subst c29
            replace H := (if_pos (rfl : true = true)).symm.trans H
            by_cases c30 : x37_3 < (l0_2.length : Int)
            ·rw [if_pos c30] at H
             have c30b0 : decide (x37_3 < (l0_2.length : Int)) = true := decide_eq_true c30
             clear c30
             obtain ⟨t207, A31, H⟩ := zm H
             (try dsimp only at H)
             have H' := Aside0.mk H
             clear H
             have p202 : 0 ≤ (x37_3 : Int) := of_decide_eq_true za_
             have q202 : x37_3 < (l0_1.length : Int) := of_decide_eq_true za_
             obtain ⟨ad202, A202_0, c202_0, e202, hx202_0, hl202_0, hi202_0⟩ := at_L1 HR0_1.out x37_3 p202 q202
             cases e202
             replace hx202_0 := zx_ HB.out hx202_0
             have HR202_0 := Aside0.mk hi202_0
             have HC202_0 := Aside0.mk hl202_0
             clear hi202_0 hl202_0
             replace p202 := eq_true p202
             replace q202 := eq_true q202
             have hcv32 := Kd.C_string (P := Tryd.prog) (A := A202_0) (c := c202_0) Tryd.underlying26 Tryd.underlying5 Tryd.underlying9 (Kd.C_below HR202_0.out HB.out)
             have hcw33 := fun n_ : Nat => Kd.C_string (P := Tryd.prog) (A := A202_0) (c := c202_0) Tryd.underlying26 Tryd.underlying5 Tryd.underlying9 (Kd.C_drewN (Kd.C_below HR202_0.out HB.out) n_)
             obtain ⟨Ao34, co34, eo34⟩ := Kd.R_slice HO_6.out
             subst eo34
             go_wp2_with (first | ((with_reducible refine gate_callee (f := 18) rfl ?_); refine goesL_ (some 45) rfl rfl Tryd.func18 (by kernel_rfl) rfl #[.slice Ao34 x6_3.length co34, .string (strOfNums (rd_L1 l0_1 x37_3))] rfl zl_ ?_; (with_reducible refine (codec_Text.calls k3 _ _ x6_3 (strOfNums (rd_L1 l0_1 x37_3)) t203 _ ?side1 ?side2 A28.out).mono ?_); (case side1 => repeat (first | exact (Kd.R_reads' HO_6.out).2.2 | (with_reducible refine Kd.C_alloc ?_ _) | (with_reducible refine Kd.C_drewN ?_ _) | (with_reducible refine Kd.C_drew ?_))); (case side2 => exact (Kd.R_reads' HO_6.out).2.1); rintro e w35 ⟨v204, rfl, ho0, hb⟩; refine ⟨_, rfl, ?_⟩; have HO205 := Aside0.mk (Kd.R_lower (Kd.R_new' ho0 (Kd.R_lt (zR_ HO_6.out))) (below_size (zh1_ HB.out GE187.out))); replace HO_6 := Aside0.mk (Kd.R_elder' (zR_ HO_6.out) (Kd.R_base ho0) hb); replace BK187 := Aside0.mk (blk_below (zb_ BK187.out) hb); replace HB := Aside0.mk (below_step (zh1_ HB.out GE187.out) hb); (try clear hb); (try clear ho0); obtain ⟨hcz36_0, hcz36_1, hcz36_2, hcz36_3⟩ := zc4 BK187.out; obtain ⟨hfz36_0, hfz36_1, hfz36_2, hfz36_3⟩ := zz4 BK187.out; have p206 : 0 ≤ (x37_3 : Int) := of_decide_eq_true za_; have q206 : x37_3 < (l0_2.length : Int) := of_decide_eq_true za_; obtain ⟨ad206, A206_0, c206_0, e206, hx206_0, hl206_0, hi206_0⟩ := at_L1 HR0_2.out x37_3 p206 q206; cases e206; replace hx206_0 := zx_ HB.out hx206_0; have HR206_0 := Aside0.mk hi206_0; have HC206_0 := Aside0.mk hl206_0; clear hi206_0 hl206_0; replace p206 := eq_true p206; replace q206 := eq_true q206; have hcv37 := Kd.C_string (P := Tryd.prog) (A := A206_0) (c := c206_0) Tryd.underlying26 Tryd.underlying5 Tryd.underlying9 (Kd.C_below HR206_0.out HB.out); have hcw38 := fun n_ : Nat => Kd.C_string (P := Tryd.prog) (A := A206_0) (c := c206_0) Tryd.underlying26 Tryd.underlying5 Tryd.underlying9 (Kd.C_drewN (Kd.C_below HR206_0.out HB.out) n_); obtain ⟨Ao39, co39, eo39⟩ := Kd.R_slice HO205.out; subst eo39) | ((with_reducible refine gate_callee (f := 18) rfl ?_); refine goesL_ (some 55) rfl rfl Tryd.func18 (by kernel_rfl) rfl #[.slice Ao39 t203.length co39, .string (strOfNums (rd_L1 l0_2 x37_3))] rfl zl_ ?_; (with_reducible refine (codec_Text.calls k3 _ _ t203 (strOfNums (rd_L1 l0_2 x37_3)) t207 _ ?side1 ?side2 A31.out).mono ?_); (case side1 => repeat (first | exact (Kd.R_reads' HO205.out).2.2 | (with_reducible refine Kd.C_alloc ?_ _) | (with_reducible refine Kd.C_drewN ?_ _) | (with_reducible refine Kd.C_drew ?_))); (case side2 => exact (Kd.R_reads' HO205.out).2.1); rintro e w40 ⟨v208, rfl, ho0, hb⟩; refine ⟨_, rfl, ?_⟩; have HO209 := Aside0.mk (Kd.R_lower (Kd.R_new' (Kd.R_new' ho0 (Kd.R_lt (zR_ HO_6.out))) (Kd.R_lt (zR_ HO205.out))) (below_size (zh1_ HB.out GE187.out))); replace HO_6 := Aside0.mk (Kd.R_elder' (zR_ HO_6.out) (Kd.R_base ho0) hb); replace HO205 := Aside0.mk (Kd.R_elder' (zR_ HO205.out) (Kd.R_base ho0) hb); replace BK187 := Aside0.mk (blk_below (zb_ BK187.out) hb); replace HB := Aside0.mk (below_step (zh1_ HB.out GE187.out) hb); (try clear hb); (try clear ho0)))
             go_roundg k3
             case measure => have := HJ3.out; have := HJ10.out; have := HK3.out; omega
             case rel => exact ⟨(t207), (wrap64 (x37_3 + 1)), (by first | rfl | (simp; done) | (simp [*]; done) | (simp only [i64_w]; done)), H', ⟨by have := HJ3.out; have := HJ10.out; have := HK3.out; omega⟩, ⟨by (with_reducible repeat (first | apply Kd.R_alloc | apply Kd.R_drewN | apply Kd.R_drew)); exact Kd.R_mono HO209.out (fun _ hk => trivial)⟩, ⟨by (with_reducible repeat (first | refine blk_drewN ?_ _ | refine blk_drew ?_ | refine blk_alloc ?_ _)); exact BK187.out⟩, ⟨by exact zh1_ HB.out GE187.out⟩⟩
            ·rw [if_neg c30] at H
             cases H
           ·replace c29 := Bool.eq_false_iff.mpr c29
            subst c29
            replace H := (if_neg (show ¬ (false = true) by decide)).symm.trans H
            obtain ⟨ji41, hji41⟩ : ∃ j_ : Int, (wrap64 (x37_3 + 1)) = j_ := ⟨_, rfl⟩
            replace H : (if 0 ≤ (ji41) then (if (ji41) < (l0_3.length : Int) then ((codec_Num.f k3 t203 (IntKind.u64.wrap (rd l0_3 (ji41)))).bind fun t211 => (node_Encode.l0 k3 t211 l0_1 (l0_1.length : Int) ji41 false l0_1 l0_2 l0_3)) else (none)) else (none)) = some (r1, r2) := by first | (rw [hji41] at H; exact H) | (simp only [hji41] at H ⊢; exact H)
            (try rw [hji41] at A28)
            have hji41w : (IntKind.i64.wrap (x37_3 + 1)) = ji41 := (i64_w _).trans hji41
            by_cases c42 : 0 ≤ (ji41)
            ·rw [if_pos c42] at H
             have c42b0 : decide (0 ≤ (ji41)) = true := decide_eq_true c42
             clear c42
             by_cases c43 : (ji41) < (l0_3.length : Int)
             ·rw [if_pos c43] at H
              have c43b0 : decide ((ji41) < (l0_3.length : Int)) = true := decide_eq_true c43
              clear c43
              obtain ⟨t211, A44, H⟩ := zm H
              (try dsimp only at H)
              have H' := Aside0.mk H
              clear H
              have p202 : 0 ≤ (x37_3 : Int) := of_decide_eq_true za_
              have q202 : x37_3 < (l0_1.length : Int) := of_decide_eq_true za_
              obtain ⟨ad202, A202_0, c202_0, e202, hx202_0, hl202_0, hi202_0⟩ := at_L1 HR0_1.out x37_3 p202 q202
              cases e202
              replace hx202_0 := zx_ HB.out hx202_0
              have HR202_0 := Aside0.mk hi202_0
              have HC202_0 := Aside0.mk hl202_0
              clear hi202_0 hl202_0
              replace p202 := eq_true p202
              replace q202 := eq_true q202
              have hcv45 := Kd.C_string (P := Tryd.prog) (A := A202_0) (c := c202_0) Tryd.underlying26 Tryd.underlying5 Tryd.underlying9 (Kd.C_below HR202_0.out HB.out)
              have hcw46 := fun n_ : Nat => Kd.C_string (P := Tryd.prog) (A := A202_0) (c := c202_0) Tryd.underlying26 Tryd.underlying5 Tryd.underlying9 (Kd.C_drewN (Kd.C_below HR202_0.out HB.out) n_)
              obtain ⟨Ao47, co47, eo47⟩ := Kd.R_slice HO_6.out
              subst eo47
              go_wp2_with (first | ((with_reducible refine gate_callee (f := 18) rfl ?_); refine goesL_ (some 45) rfl rfl Tryd.func18 (by kernel_rfl) rfl #[.slice Ao47 x6_3.length co47, .string (strOfNums (rd_L1 l0_1 x37_3))] rfl zl_ ?_; (with_reducible refine (codec_Text.calls k3 _ _ x6_3 (strOfNums (rd_L1 l0_1 x37_3)) t203 _ ?side1 ?side2 A28.out).mono ?_); (case side1 => repeat (first | exact (Kd.R_reads' HO_6.out).2.2 | (with_reducible refine Kd.C_alloc ?_ _) | (with_reducible refine Kd.C_drewN ?_ _) | (with_reducible refine Kd.C_drew ?_))); (case side2 => exact (Kd.R_reads' HO_6.out).2.1); rintro e w48 ⟨v204, rfl, ho0, hb⟩; refine ⟨_, rfl, ?_⟩; have HO205 := Aside0.mk (Kd.R_lower (Kd.R_new' ho0 (Kd.R_lt (zR_ HO_6.out))) (below_size (zh1_ HB.out GE187.out))); replace HO_6 := Aside0.mk (Kd.R_elder' (zR_ HO_6.out) (Kd.R_base ho0) hb); replace BK187 := Aside0.mk (blk_below (zb_ BK187.out) hb); replace HB := Aside0.mk (below_step (zh1_ HB.out GE187.out) hb); (try clear hb); (try clear ho0); obtain ⟨hcz49_0, hcz49_1, hcz49_2, hcz49_3⟩ := zc4 BK187.out; obtain ⟨hfz49_0, hfz49_1, hfz49_2, hfz49_3⟩ := zz4 BK187.out; have p210 : 0 ≤ ((ji41) : Int) := of_decide_eq_true za_; have q210 : (ji41) < (l0_3.length : Int) := of_decide_eq_true za_; obtain ⟨ad210, e210, hx210_0⟩ := Kd.at_int HR0_3.out (ji41) p210 q210; cases e210; replace hx210_0 := zx_ HB.out hx210_0; replace p210 := eq_true p210; replace q210 := eq_true q210; obtain ⟨Ao50, co50, eo50⟩ := Kd.R_slice HO205.out; subst eo50) | ((with_reducible refine gate_callee (f := 17) rfl ?_); refine goesL_ (some 64) rfl rfl Tryd.func17 (by kernel_rfl) rfl #[.slice Ao50 t203.length co50, .int .u64 (IntKind.u64.wrap (rd l0_3 (ji41)))] rfl (by (try simp only [List.map_toArray, List.map_cons, List.map_nil]); first | done | (simp only [hji41]; rfl) | rfl | (simp only [List.length_drop, List.length_take]; rfl)) ?_; (with_reducible refine (codec_Num.calls k3 _ _ t203 (IntKind.u64.wrap (rd l0_3 (ji41))) t211 _ ?side1 ?side2 A44.out).mono ?_); (case side1 => repeat (first | exact (Kd.R_reads' HO205.out).2.2 | (with_reducible refine Kd.C_alloc ?_ _) | (with_reducible refine Kd.C_drewN ?_ _) | (with_reducible refine Kd.C_drew ?_))); (case side2 => exact (Kd.R_reads' HO205.out).2.1); rintro e w51 ⟨v212, rfl, ho0, hb⟩; refine ⟨_, rfl, ?_⟩; have HO213 := Aside0.mk (Kd.R_lower (Kd.R_new' (Kd.R_new' ho0 (Kd.R_lt (zR_ HO_6.out))) (Kd.R_lt (zR_ HO205.out))) (below_size (zh1_ HB.out GE187.out))); replace HO_6 := Aside0.mk (Kd.R_elder' (zR_ HO_6.out) (Kd.R_base ho0) hb); replace HO205 := Aside0.mk (Kd.R_elder' (zR_ HO205.out) (Kd.R_base ho0) hb); replace BK187 := Aside0.mk (blk_below (zb_ BK187.out) hb); replace HB := Aside0.mk (below_step (zh1_ HB.out GE187.out) hb); (try clear hb); (try clear ho0)))
              go_roundg k3
              case measure => have := HJ3.out; have := HJ10.out; have := HK3.out; omega
              case rel => exact ⟨(t211), (ji41), (by first | rfl | (simp; done) | (simp only [← hji41] <;> (first | rfl | simp)) | (simp [*]; done)), H', ⟨by have := HJ3.out; have := HJ10.out; have := HK3.out; omega⟩, ⟨by (with_reducible repeat (first | apply Kd.R_alloc | apply Kd.R_drewN | apply Kd.R_drew)); exact Kd.R_mono HO213.out (fun _ hk => trivial)⟩, ⟨by (with_reducible repeat (first | refine blk_drewN ?_ _ | refine blk_drew ?_ | refine blk_alloc ?_ _)); exact BK187.out⟩, ⟨by exact zh1_ HB.out GE187.out⟩⟩
             ·rw [if_neg c43] at H
              cases H
            ·rw [if_neg c42] at H
             cases H
          ·rw [if_neg c27] at H
           cases H
         ·rw [if_neg c26] at H
          cases H
        ·rw [if_neg c25] at H
         have c25b0 : decide (x37_3 < (l0_1.length : Int)) = false := decide_eq_false c25
         clear c25
         by_cases c52 : 4092 ≤ 281474976710656
         ·rw [if_pos c52] at H
          have c52b0 := eq_true c52
          have c52b1 : decide (4092 ≤ 281474976710656) = true := decide_eq_true c52
          clear c52
          obtain ⟨tS, AS, H⟩ := zm H
          simp only [Option.some.injEq, Prod.mk.injEq] at H
          obtain ⟨rfl, rfl⟩ := H
          obtain ⟨Az, cz, ez⟩ := Kd.R_slice HO_6.out
          subst ez
          clear HK3
          obtain ⟨Z, hZ⟩ : ∃ Z, Z = List.replicate (4092 : Int).toNat (0 : Int) := ⟨_, rfl⟩
          have HZ := Aside0.mk hZ
          clear hZ
          unfold node_Encode.pad at AS
          rw [← HZ.out] at AS
          go_wp2_with (first | ((with_reducible refine gate_dst (N := 66) rfl ?_); refine Kd.R_make (Kd.int .u8) _ 5 rfl (N := 66) rfl 26 _ _ rfl 4092 rfl rfl Tryd.underlying26 (.int .u8 0) 1 info5 rfl (by decide) (by decide) (0 : Int) (ok := fun _ => True) (okp := fun _ => False) rfl (fun _ h => h.elim) trivial (by omega) (by decide) HB.out HB.out.size ?_; intro vm wm hom hbm hgm hnm; rw [← HZ.out] at hom; have HM := Aside0.mk hom; have HO2 := Aside0.mk (Kd.R_grown (row := none) HO_6.out hgm (by simp)); have HB2 := Aside0.mk hbm; have HG2 := Aside0.mk hgm; obtain ⟨Am, cm, em⟩ := Kd.R_slice hom; subst em; clear hom hbm hgm hnm) | ((with_reducible refine gate_builtin (b := .copy) (xs := #[.tmp 67, .tmp 68]) rfl ?_); refine Kd.R_copy (0 : Int) (w0 := w) w.heap.size rfl (.tmp 67) (.tmp 68) 26 26 5 rfl Tryd.underlying26 (by kernel_rfl) _ _ _ _ _ _ _ rfl rfl HM.out (Kd.R_reads' HO2.out).2.2 HB2.out HB2.out.size ?_; intro wc hoc hbc hgc; have HM3 := Aside0.mk hoc; have HB3 := Aside0.mk hbc; clear hoc hbc hgc) | (go_at_call 19; (refine (node_Encode.seal _ _ _ Z _ _ (Kd.R_reads' HM3.out).2.2 (Kd.R_reads' HM3.out).2.1 AS.out).mono ?_); rintro e wS ⟨vS, rfl, hoS, hbS⟩; have HS := Aside0.mk (Kd.R_lower hoS HB3.out.size); have HB4 := Aside0.mk (below_step HB3.out hbS); clear hoS hbS))
          go_ret2
          exact ⟨_, rfl, Kd.R_mono HS.out (fun _ _ => trivial), HB4.out⟩
         ·rw [if_neg c52] at H
          cases H
 ·rw [if_neg c3] at H
  obtain ⟨c3b0, c3b1⟩ := zq0 c3
  simp only [Option.some.injEq, Prod.mk.injEq] at H
  obtain ⟨rfl, rfl⟩ := H
  go_enter Tryd.func6, Tryd.ntmps6
  go_wp2_with (first | ((with_reducible refine gate_dst (N := 1) rfl ?_); refine box_event ?hg (N := 1) ?hd (cs := #[.bool a0_0, .slice A0_1 l0_1.length c0_1, .slice A0_2 l0_2.length c0_2, .slice A0_3 l0_3.length c0_3]) (t := 25) ?hr ?_; (case hd => rfl); (case hg => rfl); (case hr => first | (go_simp; done) | (go_simp; rfl)); intro gb187 hg w53 hbox hb; have BK187 := Aside0.mk (hbox); have GW187 := Aside0.mk ((by rw [hg]; exact (below_size (zh0_ HB.out)) : w.heap.size ≤ gb187)); have GE187 := Aside0.mk ((by rw [hg]; exact (below_size (zh0_ HB.out)) : w.heap.size ≤ gb187)); replace HB := Aside0.mk (below_step (zh0_ HB.out) hb); clear hb hbox hg; obtain ⟨hcz54_0, hcz54_1, hcz54_2, hcz54_3⟩ := zc4 BK187.out; obtain ⟨hfz54_0, hfz54_1, hfz54_2, hfz54_3⟩ := zz4 BK187.out) | ((with_reducible refine gate_callee (f := 11) rfl ?_); refine goesL_ (some 11) rfl rfl Tryd.func11 (by kernel_rfl) rfl #[.agg #[.bool a0_0, .slice A0_1 l0_1.length c0_1, .slice A0_2 l0_2.length c0_2, .slice A0_3 l0_3.length c0_3]] rfl zl_ ?_; (with_reducible refine (node_Check.calls k a0_0 _ _ l0_1 _ _ l0_2 _ _ l0_3 t188 _ ?side1 ?side2 ?side3 ?side4 ?side5 ?side6 A2.out).mono ?_); (case side1 => exact zc_ (Kd.C_below HR0_1.out HB.out)); (case side2 => exact HC0_1.out); (case side3 => exact zc_ (Kd.C_below HR0_2.out HB.out)); (case side4 => exact HC0_2.out); (case side5 => exact zc_ (Kd.C_below HR0_3.out HB.out)); (case side6 => exact HC0_3.out); rintro e w55 ⟨rfl, hb⟩; refine ⟨_, rfl, ?_⟩; replace BK187 := Aside0.mk (blk_below (zb_ BK187.out) hb); replace HB := Aside0.mk (below_step (zh1_ HB.out GE187.out) hb); (try clear hb)))
  go_ret2
  exact ⟨_, by first | rfl | (simp [errW_none, errW_some] <;> rfl) | (simp [*, errW_none, errW_some] <;> rfl), by first | exact Kd.R_nil _ _ _ _ _ | exact Kd.N_nil _ _ _ _ _ | exact Kd.V_nil _ _ _ _ _ | exact Kd.Q_nil _ _ _ _ _ | exact Kd.S_nil _ _ _ _ _, by exact zh1_ HB.out GE187.out⟩
end Go.Proofs.YtcbgichkeecgiaaDoor.Print
namespace Go.Proofs.YtcbgichkeecgiaaDoor.Print
open Go.RowKit Go.Proofs.YtcbgichkeecgiaaDoorW.PrintWords Go.Proofs.YtcbgichkeecgiaaDoorW.PrintLast Go.Proofs.YtcbgichkeecgiaaDoorW.PrintMore
attribute [local go_sem] max2_mx min2_mn max_two min_two max_three min_three max_four min_four
set_option linter.unusedVariables false
set_option linter.unusedSimpArgs false
def ladingref03_Num.l0 : Nat → Int → List Int → Option (List Int)
 | 0, _, _ => none
 | k + 1, x1, x5 => if x1 > 127 then (if x5.length < 140737488355328 then (ladingref03_Num.l0 k (IntKind.u64.wrap (Int.tdiv x1 128)) (x5 ++ [(IntKind.u64.wrap ((Int.tmod x1 128) + 128)) % 256])) else (none)) else (if x5.length < 140737488355328 then (some (x5 ++ [(x1) % 256])) else (none))
def ladingref03_Num.f (k : Nat) (l0 : List Int) (a1 : Int) : Option (List Int) := (some (([] : List Int) : List Int)).bind fun y214 => (if y214.length + l0.length < 140737488355328 then (ladingref03_Num.l0 k a1 (y214 ++ l0)) else (none))
set_option maxHeartbeats 8000000 in
set_option maxRecDepth 100000 in
theorem ladingref03_Num.calls (k : Nat) (A0 : Option Addr) (c0 : Nat) (l0 : List Int) (a1 : Int) (r : List Int) (w : World) (hr0 : Kd.C (Kd.int .u8) w A0 l0.length l0) (hc0 : l0.length ≤ c0) (h : ladingref03_Num.f k l0 a1 = some r) :
  Calls Tryd.prog 38 #[.slice A0 l0.length c0, .int .u64 a1] w fun e w' => ∃ v0_ : Value, e = .returned (v0_) ∧ Kd.R (Kd.int .u8) 5 w' w.heap.size (fun _ => True) v0_ r ∧ Below w.heap.size w w' := by
 have HR0 := Aside0.mk hr0
 have HC0 := Aside0.mk hc0
 clear hr0 hc0
 have HB := Aside0.mk (Below.refl w.heap.size w)
 have H : ((some (([] : List Int) : List Int)).bind fun y214 => (if y214.length + l0.length < 140737488355328 then (ladingref03_Num.l0 k a1 (y214 ++ l0)) else (none))) = some r := h
 clear h
 obtain ⟨y214, hy214⟩ : ∃ y_ : List Int, y_ = (([] : List Int)) := ⟨_, rfl⟩
 replace H : (if y214.length + l0.length < 140737488355328 then (ladingref03_Num.l0 k a1 (y214 ++ l0)) else (none)) = some r := by first | (rw [hy214]; with_reducible exact H) | (have H2_ := (Option.bind_some _ _).symm.trans H; rw [hy214]; with_reducible exact H2_) | (have H2_ := (Option.bind_some _ _).symm.trans H; with_reducible exact H2_) | with_reducible exact H | (rw [hy214]; exact H) | exact H
 have Ny214 := Aside0.mk hy214
 clear hy214
 by_cases c3 : y214.length + l0.length < 140737488355328
 ·rw [if_pos c3] at H
  have LMc3 := Aside0.mk c3
  clear c3
  obtain ⟨y217, hy217⟩ : ∃ y_ : List Int, y_ = (y214 ++ l0) := ⟨_, rfl⟩
  replace H : (ladingref03_Num.l0 k a1 y217) = some r := by first | (rw [hy217]; with_reducible exact H) | (have H2_ := (Option.bind_some _ _).symm.trans H; rw [hy217]; with_reducible exact H2_) | (have H2_ := (Option.bind_some _ _).symm.trans H; with_reducible exact H2_) | with_reducible exact H | (rw [hy217]; exact H) | exact H
  have Ny217 := Aside0.mk hy217
  clear hy217
  have H' := Aside0.mk H
  clear H
  go_enter Tryd.func38, Tryd.ntmps38
  go_wp2_with (first | ((with_reducible refine gate_dst (N := 6) rfl ?_); refine Kd.R_lit (Kd.int .u8) _ 5 ?hg (N := 6) ?hd (xs := ([] : List Int)) (inner := []) (ok := fun _ => True) (okp := fun _ => True) ?hr ?hp (fun _ hk => hk) trivial (Below.refl _ _) (Nat.le_refl _) (by simp) ?_; (case hd => rfl); (case hg => rfl); (case hr => first | (go_simp; done) | (go_simp; rfl)); (case hp => exact (Reps.none _ _)); intro v215 w4 ho5 hb hg_ hnew_; clear hg_ hnew_; (first | rw [← Ny214.out] at ho5 | (simp only [Int.reduceToNat] at ho5; rw [← Ny214.out] at ho5)); have HO216 := Aside0.mk (Kd.R_lower ho5 (below_size (zh0_ HB.out))); replace HB := Aside0.mk (below_step (zh0_ HB.out) hb); clear hb ho5) | ((with_reducible refine gate_builtin (b := .append) (xs := #[.tmp 6, .tmp 7]) rfl ?_); at_builtin; refine Kd.R_append_rows (Kd.int .u8) (w0 := w) w.heap.size rfl (.tmp 6) (.tmp 7) 26 5 (.int .u8 0) 1 rfl Tryd.underlying26 info5 rfl (by decide) (by omega) v215 y214 l0 _ _ _ (fun _ => True) (fun _ => False) rfl rfl ?aO ?aR (fun _ _ h => h) (fun _ h => h.elim) ?aF ?aB ?aS ?aL ?_; (case aR => repeat (first | exact (Kd.C_below HR0.out HB.out) | (with_reducible refine Kd.C_alloc ?_ _) | (with_reducible refine Kd.C_drewN ?_ _) | (with_reducible refine Kd.C_drew ?_))); (case aB => exact (zh0_ HB.out)); (case aF => exact (fun _ _ => trivial)); (case aO => exact (zR_ HO216.out)); (case aS => exact (below_size (zh0_ HB.out))); (case aL => have := LMc3.out; omega); intro v218 w6 ho hb hg hat; rw [← Ny217.out] at ho; replace HB := Aside0.mk (hb); have HO219 := Aside0.mk (ho); clear HO216 ho hb hg hat))
  go_loopg [1, 5] k (fun kq v1 v5 w' => ∃ (x1_1 : Int) (x5_1 : List Int), v1 = .int .u64 x1_1 ∧ Aside0 (ladingref03_Num.l0 kq x1_1 x5_1 = some r) ∧ Aside0 (kq ≤ k) ∧ Aside0 (Kd.R (Kd.int .u8) 5 w' w.heap.size (fun _ => True) v5 x5_1) ∧ Aside0 (Below w.heap.size w w'))
  case atStart => exact ⟨(a1), (y217), (by first | rfl | (simp; done) | (simp [*]; done) | (simp only [i64_w]; done)), H', ⟨Nat.le_refl _⟩, ⟨by (with_reducible repeat (first | apply Kd.R_alloc | apply Kd.R_drewN | apply Kd.R_drew)); exact HO219.out⟩, ⟨by exact zh0_ HB.out⟩⟩
  case round =>
   clear H'
   try clear p2
   try clear c3
   obtain ⟨x1_1, x5_1, rfl, HA, HK1, HO_5, HB⟩ := hrel
   cases gk with
   | zero => exact absurd HA.out (by simp [ladingref03_Num.l0])
   | succ k1 =>
    have H := HA.out
    clear HA
    simp only [ladingref03_Num.l0] at H
    by_cases c7 : x1_1 > 127
    ·rw [if_pos c7] at H
     have c7b0 : decide (127 < x1_1) = true := decide_eq_true c7
     clear c7
     by_cases c8 : x5_1.length < 140737488355328
     ·rw [if_pos c8] at H
      have LMc8 := Aside0.mk c8
      clear c8
      obtain ⟨y220, hy220⟩ : ∃ y_ : List Int, y_ = (x5_1 ++ [(IntKind.u64.wrap ((Int.tmod x1_1 128) + 128)) % 256]) := ⟨_, rfl⟩
      replace H : (ladingref03_Num.l0 k1 (IntKind.u64.wrap (Int.tdiv x1_1 128)) y220) = some r := by first | (rw [hy220]; with_reducible exact H) | (have H2_ := (Option.bind_some _ _).symm.trans H; rw [hy220]; with_reducible exact H2_) | (have H2_ := (Option.bind_some _ _).symm.trans H; with_reducible exact H2_) | with_reducible exact H | (rw [hy220]; exact H) | exact H
      have Ny220 := Aside0.mk hy220
      clear hy220
      have H' := Aside0.mk H
      clear H
      go_wp2_with (first | ((with_reducible refine gate_builtin (b := .append) (xs := #[.tmp 11, .tmp 16]) rfl ?_); at_builtin; refine Kd.R_append (Kd.int .u8) (w0 := w) w.heap.size rfl (.tmp 11) (.tmp 16) 26 5 (.int .u8 0) 1 rfl Tryd.underlying26 info5 rfl (by decide) (by omega) u5 x5_1 ((IntKind.u64.wrap ((Int.tmod x1_1 128) + 128)) % 256) [.int .u8 ((IntKind.u64.wrap ((Int.tmod x1_1 128) + 128)) % 256)] (fun _ => True) (fun _ => False) rfl rfl ?aP (fun _ hk => hk.elim) ?aF ?aO ?aB ?aS ?aL ?_; (case aP => exact rfl); (case aB => exact (zh0_ HB.out)); (case aF => exact (fun _ _ => trivial)); (case aO => exact (zR_ HO_5.out)); (case aS => exact (below_size (zh0_ HB.out))); (case aL => have := LMc8.out; omega); intro v221 w9 ho hb hg hat; rw [← Ny220.out] at ho; replace HB := Aside0.mk (hb); have HO222 := Aside0.mk (ho); clear HO_5 ho hb hg hat))
      go_roundg k1
      case measure => have := HK1.out; omega
      case rel => exact ⟨(IntKind.u64.wrap (Int.tdiv x1_1 128)), (y220), (by first | rfl | (simp; done) | (simp [*]; done) | (simp only [i64_w]; done)), H', ⟨by have := HK1.out; omega⟩, ⟨by (with_reducible repeat (first | apply Kd.R_alloc | apply Kd.R_drewN | apply Kd.R_drew)); exact HO222.out⟩, ⟨by exact zh0_ HB.out⟩⟩
     ·rw [if_neg c8] at H
      cases H
    ·rw [if_neg c7] at H
     have c7b0 : decide (127 < x1_1) = false := decide_eq_false c7
     clear c7
     by_cases c10 : x5_1.length < 140737488355328
     ·rw [if_pos c10] at H
      have LMc10 := Aside0.mk c10
      clear c10
      obtain ⟨y223, hy223⟩ : ∃ y_ : List Int, y_ = (x5_1 ++ [(x1_1) % 256]) := ⟨_, rfl⟩
      replace H : (some y223) = some r := by first | (rw [hy223]; with_reducible exact H) | (have H2_ := (Option.bind_some _ _).symm.trans H; rw [hy223]; with_reducible exact H2_) | (have H2_ := (Option.bind_some _ _).symm.trans H; with_reducible exact H2_) | with_reducible exact H | (rw [hy223]; exact H) | exact H
      have Ny223 := Aside0.mk hy223
      clear hy223
      obtain rfl := Option.some.inj H
      go_wp2_with (first | ((with_reducible refine gate_builtin (b := .append) (xs := #[.tmp 20, .tmp 23]) rfl ?_); at_builtin; refine Kd.R_append (Kd.int .u8) (w0 := w) w.heap.size rfl (.tmp 20) (.tmp 23) 26 5 (.int .u8 0) 1 rfl Tryd.underlying26 info5 rfl (by decide) (by omega) u5 x5_1 ((x1_1) % 256) [.int .u8 ((x1_1) % 256)] (fun _ => True) (fun _ => False) rfl rfl ?aP (fun _ hk => hk.elim) ?aF ?aO ?aB ?aS ?aL ?_; (case aP => exact rfl); (case aB => exact (zh0_ HB.out)); (case aF => exact (fun _ _ => trivial)); (case aO => exact (zR_ HO_5.out)); (case aS => exact (below_size (zh0_ HB.out))); (case aL => have := LMc10.out; omega); intro v224 w11 ho hb hg hat; rw [← Ny223.out] at ho; replace HB := Aside0.mk (hb); have HO225 := Aside0.mk (ho); clear HO_5 ho hb hg hat))
      go_ret
      exact ⟨_, by first | rfl | (simp [errW_none, errW_some] <;> rfl) | (simp [*, errW_none, errW_some] <;> rfl), by (with_reducible repeat (first | apply Kd.R_alloc | apply Kd.R_drewN | apply Kd.R_drew)); exact HO225.out, by exact zh0_ HB.out⟩
     ·rw [if_neg c10] at H
      cases H
 ·rw [if_neg c3] at H
  cases H
def ladingref03_Text.f (k : Nat) (l0 : List Int) (a1 : ByteArray) : Option (List Int) := (ladingref03_Num.f k l0 (IntKind.u64.wrap ((a1.size : Int)))).bind fun t226 => (if t226.length + a1.size < 140737488355328 then (some (t226 ++ bytesOf a1)) else (none))
set_option maxHeartbeats 8000000 in
set_option maxRecDepth 100000 in
theorem ladingref03_Text.calls (k : Nat) (A0 : Option Addr) (c0 : Nat) (l0 : List Int) (a1 : ByteArray) (r : List Int) (w : World) (hr0 : Kd.C (Kd.int .u8) w A0 l0.length l0) (hc0 : l0.length ≤ c0) (h : ladingref03_Text.f k l0 a1 = some r) :
  Calls Tryd.prog 39 #[.slice A0 l0.length c0, .string a1] w fun e w' => ∃ v0_ : Value, e = .returned (v0_) ∧ Kd.R (Kd.int .u8) 5 w' w.heap.size (fun _ => True) v0_ r ∧ Below w.heap.size w w' := by
 have HR0 := Aside0.mk hr0
 have HC0 := Aside0.mk hc0
 clear hr0 hc0
 have HB := Aside0.mk (Below.refl w.heap.size w)
 have H : ((ladingref03_Num.f k l0 (IntKind.u64.wrap ((a1.size : Int)))).bind fun t226 => (if t226.length + a1.size < 140737488355328 then (some (t226 ++ bytesOf a1)) else (none))) = some r := h
 clear h
 obtain ⟨t226, A3, H⟩ := zm H
 (try dsimp only at H)
 by_cases c4 : t226.length + a1.size < 140737488355328
 ·rw [if_pos c4] at H
  have LMc4 := Aside0.mk c4
  clear c4
  obtain ⟨y229, hy229⟩ : ∃ y_ : List Int, y_ = (t226 ++ bytesOf a1) := ⟨_, rfl⟩
  replace H : (some y229) = some r := by first | (rw [hy229]; with_reducible exact H) | (have H2_ := (Option.bind_some _ _).symm.trans H; rw [hy229]; with_reducible exact H2_) | (have H2_ := (Option.bind_some _ _).symm.trans H; with_reducible exact H2_) | with_reducible exact H | (rw [hy229]; exact H) | exact H
  have Ny229 := Aside0.mk hy229
  clear hy229
  obtain rfl := Option.some.inj H
  go_enter Tryd.func39, Tryd.ntmps39
  go_wp2_with (first | ((with_reducible refine gate_callee (f := 38) rfl ?_); refine goesL_ (some 9) rfl rfl Tryd.func38 (by kernel_rfl) rfl #[.slice A0 l0.length c0, .int .u64 (IntKind.u64.wrap ((a1.size : Int)))] rfl zl_ ?_; (with_reducible refine (ladingref03_Num.calls k _ _ l0 (IntKind.u64.wrap ((a1.size : Int))) t226 _ ?side1 ?side2 A3.out).mono ?_); (case side1 => repeat (first | exact HR0.out | (with_reducible refine Kd.C_alloc ?_ _) | (with_reducible refine Kd.C_drewN ?_ _) | (with_reducible refine Kd.C_drew ?_))); (case side2 => exact HC0.out); rintro e w5 ⟨v227, rfl, ho0, hb⟩; refine ⟨_, rfl, ?_⟩; have HO228 := Aside0.mk (Kd.R_lower ho0 (below_size (zh0_ HB.out))); replace HB := Aside0.mk (below_step (zh0_ HB.out) hb); (try clear hb); (try clear ho0)) | (at_builtin; refine print_append_str (w0 := w) w.heap.size rfl (.tmp 9) _ 26 9 5 rfl Tryd.underlying26 Tryd.underlying9 info5 v227 t226 a1 rfl rfl ?aO ?aB ?aS ?aL ?_; (case aB => exact (zh0_ HB.out)); (case aO => exact (Kd.own_of_R (zR_ HO228.out))); (case aS => exact (below_size (zh0_ HB.out))); (case aL => have := LMc4.out; omega); intro v230 w6 ho0 hb hg; have ho := Kd.R_of_own (h1 := fun _ => rfl) (ok := fun _ => True) ho0 (fun _ _ => trivial); clear ho0; have hat := True.intro; rw [← Ny229.out] at ho; change Kd.R (Kd.int .u8) 5 w6 w.heap.size (fun _ => True) v230 y229 at ho; replace HB := Aside0.mk (hb); have HO231 := Aside0.mk (ho); clear HO228 ho hb hg hat))
  go_ret
  exact ⟨_, by first | rfl | (simp [errW_none, errW_some] <;> rfl) | (simp [*, errW_none, errW_some] <;> rfl), by (with_reducible repeat (first | apply Kd.R_alloc | apply Kd.R_drewN | apply Kd.R_drew)); exact HO231.out, by exact zh0_ HB.out⟩
 ·rw [if_neg c4] at H
  cases H
end Go.Proofs.YtcbgichkeecgiaaDoor.Print
namespace Go.Proofs.YtcbgichkeecgiaaDoor.Print
open Go.RowKit Go.Proofs.YtcbgichkeecgiaaDoorW.PrintWords Go.Proofs.YtcbgichkeecgiaaDoorW.PrintLast Go.Proofs.YtcbgichkeecgiaaDoorW.PrintMore
attribute [local go_sem] max2_mx min2_mn max_two min_two max_three min_three max_four min_four
set_option linter.unusedVariables false
set_option linter.unusedSimpArgs false
mutual
def ladingref06_text.l0 : Nat → List Int → List (List Int) → Int → Int → Bool → List (List Int) → List (List Int) → List Int → Option (List Int)
 | 0, _, _, _, _, _, _, _, _ => none
 | k + 1, x3, x18, x19, x20, x233000, x233001, x233002, x233003 => if x20 < x19 then (if 0 ≤ x20 then (if x20 < (x18.length : Int) then ((ladingref03_Text.f k x3 (strOfNums (rd_L1 x18 x20))).bind fun t240 => (if x20 < (x233002.length : Int) then ((ladingref03_Text.f k t240 (strOfNums (rd_L1 x233002 x20))).bind fun t244 => (ladingref06_text.l0 k t244 x18 x19 (wrap64 (x20 + 1)) x233000 x233001 x233002 x233003)) else (none))) else (none)) else (none)) else (some x3)
def ladingref06_text.l1 : Nat → List Int → List (List Int) → Int → Int → Bool → List (List Int) → List (List Int) → List Int → Option (List Int)
 | 0, _, _, _, _, _, _, _, _ => none
 | k + 1, x6, x52, x53, x54, x233000, x233001, x233002, x233003 => if x54 < x53 then (if 0 ≤ x54 then (if x54 < (x52.length : Int) then ((ladingref03_Text.f k x6 (strOfNums (rd_L1 x52 x54))).bind fun t258 => (if 0 ≤ (wrap64 (x54 + 1)) then (if (wrap64 (x54 + 1)) < (x233003.length : Int) then ((ladingref03_Num.f k t258 (IntKind.u64.wrap (rd x233003 (wrap64 (x54 + 1))))).bind fun t262 => (ladingref06_text.l1 k t262 x52 x53 (wrap64 (x54 + 1)) x233000 x233001 x233002 x233003)) else (none)) else (none))) else (none)) else (none)) else (some x6)
end
def ladingref06_text.f (k : Nat) (a0_0 : Bool) (l0_1 : List (List Int)) (l0_2 : List (List Int)) (l0_3 : List Int) : Option (List Int) := if a0_0 = true then ((ladingref03_Num.f k (([1] : List Int)) (IntKind.u64.wrap ((l0_1.length : Int)))).bind fun t236 => (ladingref06_text.l0 k t236 l0_1 (l0_1.length : Int) 0 a0_0 l0_1 l0_2 l0_3)) else ((ladingref03_Num.f k (([2] : List Int)) (IntKind.u64.wrap ((l0_1.length : Int)))).bind fun t250 => (if 0 < (l0_3.length : Int) then ((ladingref03_Num.f k t250 (IntKind.u64.wrap (rd l0_3 0))).bind fun t254 => (ladingref06_text.l1 k t254 l0_1 (l0_1.length : Int) 0 a0_0 l0_1 l0_2 l0_3)) else (none)))
def ladingref06_text.T6 : Bool × List (List Nat × List Nat) := (true, [([], []), ([], []), ([1], [1]), ([0, 2], [0, 2]), ([], []), ([4], [4]), ([], []), ([5, 6], [5, 6]), ([7], [7]), ([8], [8]), ([3, 9, 3], [3, 9]), ([10, 10, 0, 1, 2, 3, 4, 5, 6, 7, 8, 9, 10], [0, 10])])
def ladingref06_text.B6 : List Nat := [0, 0, 2, 7, 0, 16, 0, 112, 240, 496, 1023, 2047]
theorem ladingref06_text.tab6 : rtab .any (opsOf Tryd.f20 6) = ladingref06_text.T6 := by kernel_rfl
theorem ladingref06_text.bits6 : waitsOk ladingref06_text.T6.2 ladingref06_text.B6 = true := by kernel_rfl
def ladingref06_text.T14 : Bool × List (List Nat × List Nat) := (true, [([], []), ([], []), ([1], [1]), ([0, 2], [0, 2]), ([], []), ([4], [4]), ([], []), ([6], [6]), ([5, 7], [5, 7]), ([8], [8]), ([9], [9]), ([3, 10, 3], [3, 10]), ([11, 11, 0, 1, 2, 3, 4, 5, 6, 7, 8, 9, 10, 11], [0, 11])])
def ladingref06_text.B14 : List Nat := [0, 0, 2, 7, 0, 16, 0, 64, 240, 496, 1008, 2047, 4095]
theorem ladingref06_text.tab14 : rtab .any (opsOf Tryd.f20 14) = ladingref06_text.T14 := by kernel_rfl
theorem ladingref06_text.bits14 : waitsOk ladingref06_text.T14.2 ladingref06_text.B14 = true := by kernel_rfl
set_option maxHeartbeats 8000000 in
set_option maxRecDepth 100000 in
theorem ladingref06_text.calls (k : Nat) (a0_0 : Bool) (A0_1 : Option Addr) (c0_1 : Nat) (l0_1 : List (List Int)) (A0_2 : Option Addr) (c0_2 : Nat) (l0_2 : List (List Int)) (A0_3 : Option Addr) (c0_3 : Nat) (l0_3 : List Int) (r : List Int) (w : World) (hr0_1 : Kd.C (Kd.slice 5 (Kd.int .u8)) w A0_1 l0_1.length l0_1) (hc0_1 : l0_1.length ≤ c0_1) (hr0_2 : Kd.C (Kd.slice 5 (Kd.int .u8)) w A0_2 l0_2.length l0_2) (hc0_2 : l0_2.length ≤ c0_2) (hr0_3 : Kd.C (Kd.int .i64) w A0_3 l0_3.length l0_3) (hc0_3 : l0_3.length ≤ c0_3) (h : ladingref06_text.f k a0_0 l0_1 l0_2 l0_3 = some r) :
  Calls Tryd.prog 20 #[.agg #[.bool a0_0, .slice A0_1 l0_1.length c0_1, .slice A0_2 l0_2.length c0_2, .slice A0_3 l0_3.length c0_3]] w fun e w' => ∃ v0_ : Value, e = .returned (v0_) ∧ Kd.R (Kd.int .u8) 5 w' w.heap.size (fun _ => True) v0_ r ∧ Below w.heap.size w w' := by
 have hu25 := Tryd.underlying25
 have HR0_1 := Aside0.mk hr0_1
 have HC0_1 := Aside0.mk hc0_1
 clear hr0_1 hc0_1
 have HR0_2 := Aside0.mk hr0_2
 have HC0_2 := Aside0.mk hc0_2
 clear hr0_2 hc0_2
 have HR0_3 := Aside0.mk hr0_3
 have HC0_3 := Aside0.mk hc0_3
 clear hr0_3 hc0_3
 have HB := Aside0.mk (Below.refl w.heap.size w)
 have H : (if a0_0 = true then ((ladingref03_Num.f k (([1] : List Int)) (IntKind.u64.wrap ((l0_1.length : Int)))).bind fun t236 => (ladingref06_text.l0 k t236 l0_1 (l0_1.length : Int) 0 a0_0 l0_1 l0_2 l0_3)) else ((ladingref03_Num.f k (([2] : List Int)) (IntKind.u64.wrap ((l0_1.length : Int)))).bind fun t250 => (if 0 < (l0_3.length : Int) then ((ladingref03_Num.f k t250 (IntKind.u64.wrap (rd l0_3 0))).bind fun t254 => (ladingref06_text.l1 k t254 l0_1 (l0_1.length : Int) 0 a0_0 l0_1 l0_2 l0_3)) else (none)))) = some r := h
 clear h
 by_cases c2 : a0_0 = true
 ·subst c2
  replace H := (if_pos (rfl : true = true)).symm.trans H
  obtain ⟨y233, hy233⟩ : ∃ y_ : List Int, y_ = (([1] : List Int)) := ⟨_, rfl⟩
  replace H : ((ladingref03_Num.f k y233 (IntKind.u64.wrap ((l0_1.length : Int)))).bind fun t236 => (ladingref06_text.l0 k t236 l0_1 (l0_1.length : Int) 0 true l0_1 l0_2 l0_3)) = some r := by first | (rw [hy233]; with_reducible exact H) | (have H2_ := (Option.bind_some _ _).symm.trans H; rw [hy233]; with_reducible exact H2_) | (have H2_ := (Option.bind_some _ _).symm.trans H; with_reducible exact H2_) | with_reducible exact H | (rw [hy233]; exact H) | exact H
  have Ny233 := Aside0.mk hy233
  clear hy233
  obtain ⟨t236, A3, H⟩ := zm H
  (try dsimp only at H)
  have H' := Aside0.mk H
  clear H
  go_enter Tryd.func20, Tryd.ntmps20
  go_wp2_with (first | ((with_reducible refine gate_dst (N := 1) rfl ?_); refine box_event ?hg (N := 1) ?hd (cs := #[.bool true, .slice A0_1 l0_1.length c0_1, .slice A0_2 l0_2.length c0_2, .slice A0_3 l0_3.length c0_3]) (t := 25) ?hr ?_; (case hd => rfl); (case hg => rfl); (case hr => first | (go_simp; done) | (go_simp; rfl)); intro gb232 hg w4 hbox hb; have BK232 := Aside0.mk (hbox); have GW232 := Aside0.mk ((by rw [hg]; exact (below_size (zh0_ HB.out)) : w.heap.size ≤ gb232)); have GE232 := Aside0.mk ((by rw [hg]; exact (below_size (zh0_ HB.out)) : w.heap.size ≤ gb232)); replace HB := Aside0.mk (below_step (zh0_ HB.out) hb); clear hb hbox hg; obtain ⟨hcz5_0, hcz5_1, hcz5_2, hcz5_3⟩ := zc4 BK232.out; obtain ⟨hfz5_0, hfz5_1, hfz5_2, hfz5_3⟩ := zz4 BK232.out) | ((with_reducible refine gate_dst (N := 11) rfl ?_); refine Kd.R_lit (Kd.int .u8) _ 5 ?hg (N := 11) ?hd (xs := ([1] : List Int)) (inner := [.int .u8 1]) (ok := fun _ => True) (okp := fun _ => True) ?hr ?hp (fun _ hk => hk) trivial (Below.refl _ _) (Nat.le_refl _) (by simp) ?_; (case hd => rfl); (case hg => rfl); (case hr => first | (go_simp; done) | (go_simp; rfl)); (case hp => exact (Reps.one (show Kd.M (Kd.int .u8) _ _ _ 1 [.int .u8 1] from rfl) (Reps.none _ _))); intro v234 w6 ho7 hb hg_ hnew_; clear hg_ hnew_; (first | rw [← Ny233.out] at ho7 | (simp only [Int.reduceToNat] at ho7; rw [← Ny233.out] at ho7)); have HO235 := Aside0.mk (Kd.R_lower ho7 (below_size (zh1_ HB.out GE232.out))); replace BK232 := Aside0.mk (blk_below (zb_ BK232.out) hb); replace HB := Aside0.mk (below_step (zh1_ HB.out GE232.out) hb); clear hb ho7; obtain ⟨hcz8_0, hcz8_1, hcz8_2, hcz8_3⟩ := zc4 BK232.out; obtain ⟨hfz8_0, hfz8_1, hfz8_2, hfz8_3⟩ := zz4 BK232.out; obtain ⟨Ao9, co9, eo9⟩ := Kd.R_slice HO235.out; subst eo9) | ((with_reducible refine gate_callee (f := 38) rfl ?_); refine goesL_ (some 16) rfl rfl Tryd.func38 (by kernel_rfl) rfl #[.slice Ao9 y233.length co9, .int .u64 (IntKind.u64.wrap ((l0_1.length : Int)))] rfl zl_ ?_; (with_reducible refine (ladingref03_Num.calls k _ _ y233 (IntKind.u64.wrap ((l0_1.length : Int))) t236 _ ?side1 ?side2 A3.out).mono ?_); (case side1 => repeat (first | exact (Kd.R_reads' HO235.out).2.2 | (with_reducible refine Kd.C_alloc ?_ _) | (with_reducible refine Kd.C_drewN ?_ _) | (with_reducible refine Kd.C_drew ?_))); (case side2 => exact (Kd.R_reads' HO235.out).2.1); rintro e w10 ⟨v237, rfl, ho0, hb⟩; refine ⟨_, rfl, ?_⟩; have HO238 := Aside0.mk (Kd.R_lower (Kd.R_new' ho0 (Kd.R_lt (zR_ HO235.out))) (below_size (zh1_ HB.out GE232.out))); replace HO235 := Aside0.mk (Kd.R_elder' (zR_ HO235.out) (Kd.R_base ho0) hb); replace BK232 := Aside0.mk (blk_below (zb_ BK232.out) hb); replace HB := Aside0.mk (below_step (zh1_ HB.out GE232.out) hb); (try clear hb); (try clear hk); (try clear ho0); obtain ⟨hcz11_0, hcz11_1, hcz11_2, hcz11_3⟩ := zc4 BK232.out; obtain ⟨hfz11_0, hfz11_1, hfz11_2, hfz11_3⟩ := zz4 BK232.out))
  go_loopg [3, 20] k (fun kq v3 v20 w' => ∃ (x3_1 : List Int) (x20_1 : Int), v20 = .int .i64 x20_1 ∧ Aside0 (ladingref06_text.l0 kq x3_1 l0_1 (l0_1.length : Int) x20_1 true l0_1 l0_2 l0_3 = some r) ∧ Aside0 (kq ≤ k) ∧ Aside0 (Kd.R (Kd.int .u8) 5 w' w.heap.size (fun _ => True) v3 x3_1) ∧ Aside0 (w'.heap[gb232]? = some (.cells #[.bool true, (.slice A0_1 l0_1.length c0_1), (.slice A0_2 l0_2.length c0_2), (.slice A0_3 l0_3.length c0_3)] 25 (0, 0))) ∧ Aside0 (Below w.heap.size w w'))
  case atStart => exact ⟨(t236), (0), (by first | rfl | (simp; done) | (simp [*]; done) | (simp only [i64_w]; done)), H', ⟨Nat.le_refl _⟩, ⟨by (with_reducible repeat (first | apply Kd.R_alloc | apply Kd.R_drewN | apply Kd.R_drew)); exact Kd.R_mono HO238.out (fun _ hk => trivial)⟩, ⟨by (with_reducible repeat (first | refine blk_drewN ?_ _ | refine blk_drew ?_ | refine blk_alloc ?_ _)); exact BK232.out⟩, ⟨by exact zh1_ HB.out GE232.out⟩⟩
  case round =>
   clear H'
   try clear c2
   try clear p2
   try clear c3
   try clear hcz11_0
   try clear hcz11_1
   try clear hcz11_2
   try clear hcz11_3
   try clear hcz5_0
   try clear hcz5_1
   try clear hcz5_2
   try clear hcz5_3
   try clear hcz8_0
   try clear hcz8_1
   try clear hcz8_2
   try clear hcz8_3
   try clear hfz11_0
   try clear hfz11_1
   try clear hfz11_2
   try clear hfz11_3
   try clear hfz5_0
   try clear hfz5_1
   try clear hfz5_2
   try clear hfz5_3
   try clear hfz8_0
   try clear hfz8_1
   try clear hfz8_2
   try clear hfz8_3
   (try clear BK232)
   obtain ⟨x3_1, x20_1, rfl, HA, HK1, HO_3, BK232, HB⟩ := hrel
   cases gk with
   | zero => exact absurd HA.out (by simp [ladingref06_text.l0])
   | succ k1 =>
    have H := HA.out
    clear HA
    simp only [ladingref06_text.l0] at H
    by_cases c12 : x20_1 < (l0_1.length : Int)
    ·rw [if_pos c12] at H
     have c12b0 : decide (x20_1 < (l0_1.length : Int)) = true := decide_eq_true c12
     clear c12
     by_cases c13 : 0 ≤ x20_1
     ·rw [if_pos c13] at H
      have c13b0 : decide (0 ≤ x20_1) = true := decide_eq_true c13
      clear c13
      by_cases c14 : x20_1 < (l0_1.length : Int)
      ·rw [if_pos c14] at H
       have c14b0 : decide (x20_1 < (l0_1.length : Int)) = true := decide_eq_true c14
       clear c14
       obtain ⟨t240, A15, H⟩ := zm H
       (try dsimp only at H)
       by_cases c16 : x20_1 < (l0_2.length : Int)
       ·rw [if_pos c16] at H
        have c16b0 : decide (x20_1 < (l0_2.length : Int)) = true := decide_eq_true c16
        clear c16
        obtain ⟨t244, A17, H⟩ := zm H
        (try dsimp only at H)
        have H' := Aside0.mk H
        clear H
        have p239 : 0 ≤ (x20_1 : Int) := of_decide_eq_true za_
        have q239 : x20_1 < (l0_1.length : Int) := of_decide_eq_true za_
        obtain ⟨ad239, A239_0, c239_0, e239, hx239_0, hl239_0, hi239_0⟩ := at_L1 HR0_1.out x20_1 p239 q239
        cases e239
        replace hx239_0 := zx_ HB.out hx239_0
        have HR239_0 := Aside0.mk hi239_0
        have HC239_0 := Aside0.mk hl239_0
        clear hi239_0 hl239_0
        replace p239 := eq_true p239
        replace q239 := eq_true q239
        try go_wp2
        have n0_ := Aside0.mk (Kd.R_drew HO_3.out)
        have n1_ := Aside0.mk (blk_drew BK232.out)
        have n2_ := Aside0.mk (below_drew1 HB.out)
        clear HO_3 BK232 HB
        have HO_3 := n0_
        have BK232 := n1_
        have HB := n2_
        clear n0_ n1_ n2_
        have p243 : 0 ≤ (x20_1 : Int) := of_decide_eq_true za_
        have q243 : x20_1 < (l0_2.length : Int) := of_decide_eq_true za_
        obtain ⟨ad243, A243_0, c243_0, e243, hx243_0, hl243_0, hi243_0⟩ := at_L1 HR0_2.out x20_1 p243 q243
        have hw243_0 := hx243_0
        cases e243
        replace hx243_0 := zx_ HB.out hx243_0
        have HR243_0 := Aside0.mk hi243_0
        have HC243_0 := Aside0.mk hl243_0
        clear hi243_0 hl243_0
        replace p243 := eq_true p243
        replace q243 := eq_true q243
        obtain ⟨Ao19, co19, eo19⟩ := Kd.R_slice HO_3.out
        (first | subst eo19 | (injection eo19 with f1_ f2_ f3_; have f4_ := f1_.symm; have f5_ := f3_.symm; clear f1_ f2_ f3_; subst f4_; subst f5_))
        refine start_ (n := 12) (S := fun w' => w'.cell? ⟨gb232, 0, none⟩ = some (.bool true) ∧ w'.cell? ⟨gb232, 1, none⟩ = some (.slice (some ad239) l0_1.length c0_1) ∧ w'.cell? ⟨gb232, 2, none⟩ = some (.slice (some ad243) l0_2.length c0_2) ∧ w'.cell? ⟨gb232, 3, none⟩ = some (.slice A0_3 l0_3.length c0_3) ∧ (convert 26 9 (.slice A239_0 (rd_L1 l0_1 x20_1).length c239_0)).run Tryd.prog w' = .ok (.string (strOfNums (rd_L1 l0_1 x20_1))) w' ∧ w'.cell? (ad243.add (x20_1).toNat) = some (.slice A243_0 (rd_L1 l0_2 x20_1).length c243_0) ∧ (convert 26 9 (.slice A243_0 (rd_L1 l0_2 x20_1).length c243_0)).run Tryd.prog w' = .ok (.string (strOfNums (rd_L1 l0_2 x20_1))) w') (ds := []) (zB 0 12) (by kernel_rfl) rfl rfl ⟨(blk_cell BK232.out 0).trans rfl, (blk_cell BK232.out 1).trans rfl, (blk_cell BK232.out 2).trans rfl, (blk_cell BK232.out 3).trans rfl, (Kd.C_string (P := Tryd.prog) (A := A239_0) (c := c239_0) Tryd.underlying26 Tryd.underlying5 Tryd.underlying9 (Kd.C_below HR239_0.out HB.out)), ((HB.out.cell (World.block_lt_of_cell? w _ hw243_0)).trans hw243_0), (Kd.C_string (P := Tryd.prog) (A := A243_0) (c := c243_0) Tryd.underlying26 Tryd.underlying5 Tryd.underlying9 (Kd.C_below HR243_0.out HB.out))⟩ (fun hHeld => ?_); refine with_tabW ladingref06_text.tab6 ladingref06_text.bits6 (fun HT_ HW_ => ?_)
        generalize wr.drew = w18 at HO_3 BK232 HB HR243_0 hx243_0 hHeld ⊢
        refine zpu 0 (some 25) (zB 1 11) (any_of HT_.out (by kernel_rfl)) ?_
        refine zpu 1 (some 26) (zB 2 10) (any_of HT_.out (by kernel_rfl)) ?_
        refine zpu 4 (some 29) #[true, true, false, false, true, false, false, false, false, false, false, false] (any_of HT_.out (by kernel_rfl)) ?_
        refine zpu 6 (some 31) #[true, true, false, false, true, false, true, false, false, false, false, false] (any_of HT_.out (by kernel_rfl)) ?_
        refine zta 2 (some 27) #[true, true, true, false, true, false, true, false, false, false, false, false] (take_ofW HT_.out HW_.out (by kernel_rfl)) hHeld ?_
        refine zta 5 (some 30) #[true, true, true, false, true, true, true, false, false, false, false, false] (take_ofW HT_.out HW_.out (by kernel_rfl)) hHeld ?_
        refine zpu 7 (some 32) #[true, true, true, false, true, true, true, true, false, false, false, false] (any_of HT_.out (by kernel_rfl)) ?_
        refine zta 8 (some 33) #[true, true, true, false, true, true, true, true, true, false, false, false] (take_ofW HT_.out HW_.out (by kernel_rfl)) hHeld ?_
        refine zta 9 (some 34) #[true, true, true, false, true, true, true, true, true, true, false, false] (take_ofW HT_.out HW_.out (by kernel_rfl)) hHeld ?_
        refine one_ (i := 3) (N := some 28) (zB 10 2) rfl rfl (one_of HT_.out (by kernel_rfl)) (by decide) (fun K hK => ?_)
        refine goes_ Tryd.func39 (by kernel_rfl) rfl #[.slice Ao19 x3_1.length co19, .string (strOfNums (rd_L1 l0_1 x20_1))] (by rfl) rfl rfl zl_ ?_
        with_reducible refine (ladingref03_Text.calls k1 _ _ x3_1 (strOfNums (rd_L1 l0_1 x20_1)) t240 _ ?side1 ?side2 A15.out).mono ?_
        (case side1 => repeat (first | exact (Kd.R_reads' HO_3.out).2.2 | (with_reducible refine Kd.C_alloc ?_ _) | (with_reducible refine Kd.C_drewN ?_ _) | (with_reducible refine Kd.C_drew ?_)))
        (case side2 => exact (Kd.R_reads' HO_3.out).2.1)
        rintro e w20 ⟨v241, rfl, ho0, hb⟩
        refine ⟨_, rfl, ?_⟩
        have n0_ := Aside0.mk (Kd.R_elder' (zR_ HO_3.out) (Kd.R_base ho0) hb)
        have n1_ := Aside0.mk (Kd.R_lower (Kd.R_new' ho0 (Kd.R_lt (zR_ HO_3.out))) (below_size (zh1_ HB.out GE232.out)))
        have n2_ := Aside0.mk (blk_below (zb_ BK232.out) hb)
        have n3_ := Aside0.mk (below_step (zh1_ HB.out GE232.out) hb)
        clear HO_3 BK232 HB
        have HO_3 := n0_
        have HO242 := n1_
        have BK232 := n2_
        have HB := n3_
        clear n0_ n1_ n2_ n3_
        (try clear hb)
        (try clear hb2)
        (try clear hk)
        (try clear hi)
        (try clear ho0)
        obtain ⟨Ao21, co21, eo21⟩ := Kd.R_slice HO242.out
        (first | subst eo21 | (injection eo21 with f1_ f2_ f3_; have f4_ := f1_.symm; have f5_ := f3_.symm; clear f1_ f2_ f3_; subst f4_; subst f5_))
        refine hK.out _ _ ⟨(blk_cell BK232.out 0).trans rfl, (blk_cell BK232.out 1).trans rfl, (blk_cell BK232.out 2).trans rfl, (blk_cell BK232.out 3).trans rfl, (Kd.C_string (P := Tryd.prog) (A := A239_0) (c := c239_0) Tryd.underlying26 Tryd.underlying5 Tryd.underlying9 (Kd.C_below HR239_0.out HB.out)), ((HB.out.cell (World.block_lt_of_cell? w _ hw243_0)).trans hw243_0), (Kd.C_string (P := Tryd.prog) (A := A243_0) (c := c243_0) Tryd.underlying26 Tryd.underlying5 Tryd.underlying9 (Kd.C_below HR243_0.out HB.out))⟩ (fun hHeld => ?_)
        clear hK K
        refine zno 28 ?_
        refine one_ (i := 10) (N := some 35) (zB 11 1) rfl rfl (one_of HT_.out (by kernel_rfl)) (by decide) (fun K hK => ?_)
        refine goes_ Tryd.func39 (by kernel_rfl) rfl #[.slice Ao21 t240.length co21, .string (strOfNums (rd_L1 l0_2 x20_1))] (by rfl) rfl rfl zl_ ?_
        with_reducible refine (ladingref03_Text.calls k1 _ _ t240 (strOfNums (rd_L1 l0_2 x20_1)) t244 _ ?side1 ?side2 A17.out).mono ?_
        (case side1 => repeat (first | exact (Kd.R_reads' HO242.out).2.2 | (with_reducible refine Kd.C_alloc ?_ _) | (with_reducible refine Kd.C_drewN ?_ _) | (with_reducible refine Kd.C_drew ?_)))
        (case side2 => exact (Kd.R_reads' HO242.out).2.1)
        rintro e w22 ⟨v245, rfl, ho0, hb⟩
        refine ⟨_, rfl, ?_⟩
        have n0_ := Aside0.mk (Kd.R_elder' (zR_ HO_3.out) (Kd.R_base ho0) hb)
        have n1_ := Aside0.mk (Kd.R_elder' (zR_ HO242.out) (Kd.R_base ho0) hb)
        have n2_ := Aside0.mk (Kd.R_lower (Kd.R_new' (Kd.R_new' ho0 (Kd.R_lt (zR_ HO_3.out))) (Kd.R_lt (zR_ HO242.out))) (below_size (zh1_ HB.out GE232.out)))
        have n3_ := Aside0.mk (blk_below (zb_ BK232.out) hb)
        have n4_ := Aside0.mk (below_step (zh1_ HB.out GE232.out) hb)
        clear HO_3 HO242 BK232 HB
        have HO_3 := n0_
        have HO242 := n1_
        have HO246 := n2_
        have BK232 := n3_
        have HB := n4_
        clear n0_ n1_ n2_ n3_ n4_
        (try clear hb)
        (try clear hb2)
        (try clear hk)
        (try clear hi)
        (try clear ho0)
        refine hK.out _ _ ⟨(blk_cell BK232.out 0).trans rfl, (blk_cell BK232.out 1).trans rfl, (blk_cell BK232.out 2).trans rfl, (blk_cell BK232.out 3).trans rfl, (Kd.C_string (P := Tryd.prog) (A := A239_0) (c := c239_0) Tryd.underlying26 Tryd.underlying5 Tryd.underlying9 (Kd.C_below HR239_0.out HB.out)), ((HB.out.cell (World.block_lt_of_cell? w _ hw243_0)).trans hw243_0), (Kd.C_string (P := Tryd.prog) (A := A243_0) (c := c243_0) Tryd.underlying26 Tryd.underlying5 Tryd.underlying9 (Kd.C_below HR243_0.out HB.out))⟩ (fun hHeld => ?_)
        clear hK K
        refine zno 35 ?_
        refine zpu 11 (some 3) (zB 12 0) (any_of HT_.out (by kernel_rfl)) ?_
        refine done_ (done_of HT_.out (by kernel_rfl)) ?_
        try go_wp2
        go_roundg k1
        case measure => have := HK1.out; omega
        case rel => exact ⟨(t244), (wrap64 (x20_1 + 1)), (by first | rfl | (simp; done) | (simp [*]; done) | (simp only [i64_w]; done)), H', ⟨by have := HK1.out; omega⟩, ⟨by (with_reducible repeat (first | apply Kd.R_alloc | apply Kd.R_drewN | apply Kd.R_drew)); exact Kd.R_mono HO246.out (fun _ hk => trivial)⟩, ⟨by (with_reducible repeat (first | refine blk_drewN ?_ _ | refine blk_drew ?_ | refine blk_alloc ?_ _)); exact BK232.out⟩, ⟨by exact zh1_ HB.out GE232.out⟩⟩
       ·rw [if_neg c16] at H
        cases H
      ·rw [if_neg c14] at H
       cases H
     ·rw [if_neg c13] at H
      cases H
    ·rw [if_neg c12] at H
     have c12b0 : decide (x20_1 < (l0_1.length : Int)) = false := decide_eq_false c12
     clear c12
     obtain rfl := Option.some.inj H
     go_wp2
     go_ret
     exact ⟨_, by first | rfl | (simp [errW_none, errW_some] <;> rfl) | (simp [*, errW_none, errW_some] <;> rfl), by (with_reducible repeat (first | apply Kd.R_alloc | apply Kd.R_drewN | apply Kd.R_drew)); exact HO_3.out, by exact zh1_ HB.out GE232.out⟩
 ·replace c2 := Bool.eq_false_iff.mpr c2
  subst c2
  replace H := (if_neg (show ¬ (false = true) by decide)).symm.trans H
  obtain ⟨y247, hy247⟩ : ∃ y_ : List Int, y_ = (([2] : List Int)) := ⟨_, rfl⟩
  replace H : ((ladingref03_Num.f k y247 (IntKind.u64.wrap ((l0_1.length : Int)))).bind fun t250 => (if 0 < (l0_3.length : Int) then ((ladingref03_Num.f k t250 (IntKind.u64.wrap (rd l0_3 0))).bind fun t254 => (ladingref06_text.l1 k t254 l0_1 (l0_1.length : Int) 0 false l0_1 l0_2 l0_3)) else (none))) = some r := by first | (rw [hy247]; with_reducible exact H) | (have H2_ := (Option.bind_some _ _).symm.trans H; rw [hy247]; with_reducible exact H2_) | (have H2_ := (Option.bind_some _ _).symm.trans H; with_reducible exact H2_) | with_reducible exact H | (rw [hy247]; exact H) | exact H
  have Ny247 := Aside0.mk hy247
  clear hy247
  obtain ⟨t250, A23, H⟩ := zm H
  (try dsimp only at H)
  by_cases c24 : 0 < (l0_3.length : Int)
  ·rw [if_pos c24] at H
   have c24b0 : decide (0 < (l0_3.length : Int)) = true := decide_eq_true c24
   have c24b1 : decide (0 < l0_3.length) = true := decide_eq_true (by omega)
   clear c24
   obtain ⟨t254, A25, H⟩ := zm H
   (try dsimp only at H)
   have H' := Aside0.mk H
   clear H
   go_enter Tryd.func20, Tryd.ntmps20
   go_wp2_with (first | ((with_reducible refine gate_dst (N := 1) rfl ?_); refine box_event ?hg (N := 1) ?hd (cs := #[.bool false, .slice A0_1 l0_1.length c0_1, .slice A0_2 l0_2.length c0_2, .slice A0_3 l0_3.length c0_3]) (t := 25) ?hr ?_; (case hd => rfl); (case hg => rfl); (case hr => first | (go_simp; done) | (go_simp; rfl)); intro gb232 hg w26 hbox hb; have BK232 := Aside0.mk (hbox); have GW232 := Aside0.mk ((by rw [hg]; exact (below_size (zh0_ HB.out)) : w.heap.size ≤ gb232)); have GE232 := Aside0.mk ((by rw [hg]; exact (below_size (zh0_ HB.out)) : w.heap.size ≤ gb232)); replace HB := Aside0.mk (below_step (zh0_ HB.out) hb); clear hb hbox hg; obtain ⟨hcz27_0, hcz27_1, hcz27_2, hcz27_3⟩ := zc4 BK232.out; obtain ⟨hfz27_0, hfz27_1, hfz27_2, hfz27_3⟩ := zz4 BK232.out) | ((with_reducible refine gate_dst (N := 38) rfl ?_); refine Kd.R_lit (Kd.int .u8) _ 5 ?hg (N := 38) ?hd (xs := ([2] : List Int)) (inner := [.int .u8 2]) (ok := fun _ => True) (okp := fun _ => True) ?hr ?hp (fun _ hk => hk) trivial (Below.refl _ _) (Nat.le_refl _) (by simp) ?_; (case hd => rfl); (case hg => rfl); (case hr => first | (go_simp; done) | (go_simp; rfl)); (case hp => exact (Reps.one (show Kd.M (Kd.int .u8) _ _ _ 2 [.int .u8 2] from rfl) (Reps.none _ _))); intro v248 w28 ho29 hb hg_ hnew_; clear hg_ hnew_; (first | rw [← Ny247.out] at ho29 | (simp only [Int.reduceToNat] at ho29; rw [← Ny247.out] at ho29)); have HO249 := Aside0.mk (Kd.R_lower ho29 (below_size (zh1_ HB.out GE232.out))); replace BK232 := Aside0.mk (blk_below (zb_ BK232.out) hb); replace HB := Aside0.mk (below_step (zh1_ HB.out GE232.out) hb); clear hb ho29; obtain ⟨hcz30_0, hcz30_1, hcz30_2, hcz30_3⟩ := zc4 BK232.out; obtain ⟨hfz30_0, hfz30_1, hfz30_2, hfz30_3⟩ := zz4 BK232.out; obtain ⟨Ao31, co31, eo31⟩ := Kd.R_slice HO249.out; subst eo31) | ((with_reducible refine gate_callee (f := 38) rfl ?_); refine goesL_ (some 43) rfl rfl Tryd.func38 (by kernel_rfl) rfl #[.slice Ao31 y247.length co31, .int .u64 (IntKind.u64.wrap ((l0_1.length : Int)))] rfl zl_ ?_; (with_reducible refine (ladingref03_Num.calls k _ _ y247 (IntKind.u64.wrap ((l0_1.length : Int))) t250 _ ?side1 ?side2 A23.out).mono ?_); (case side1 => repeat (first | exact (Kd.R_reads' HO249.out).2.2 | (with_reducible refine Kd.C_alloc ?_ _) | (with_reducible refine Kd.C_drewN ?_ _) | (with_reducible refine Kd.C_drew ?_))); (case side2 => exact (Kd.R_reads' HO249.out).2.1); rintro e w32 ⟨v251, rfl, ho0, hb⟩; refine ⟨_, rfl, ?_⟩; have HO252 := Aside0.mk (Kd.R_lower (Kd.R_new' ho0 (Kd.R_lt (zR_ HO249.out))) (below_size (zh1_ HB.out GE232.out))); replace HO249 := Aside0.mk (Kd.R_elder' (zR_ HO249.out) (Kd.R_base ho0) hb); replace BK232 := Aside0.mk (blk_below (zb_ BK232.out) hb); replace HB := Aside0.mk (below_step (zh1_ HB.out GE232.out) hb); (try clear hb); (try clear hk); (try clear ho0); obtain ⟨hcz33_0, hcz33_1, hcz33_2, hcz33_3⟩ := zc4 BK232.out; obtain ⟨hfz33_0, hfz33_1, hfz33_2, hfz33_3⟩ := zz4 BK232.out; have p253 : 0 ≤ (0 : Int) := (by omega); have q253 : 0 < (l0_3.length : Int) := of_decide_eq_true za_; obtain ⟨ad253, e253, hx253_0⟩ := Kd.at_int HR0_3.out 0 p253 q253; cases e253; have qi253 : (0 < l0_3.length) = True := eq_true (by omega); (try rw [show ((0 : Int)).toNat = 0 from rfl] at hx253_0); (try rw [Addr.add_zero'] at hx253_0); replace hx253_0 := zx_ HB.out hx253_0; replace p253 := eq_true p253; replace q253 := eq_true q253; obtain ⟨Ao34, co34, eo34⟩ := Kd.R_slice HO252.out; subst eo34) | ((with_reducible refine gate_callee (f := 38) rfl ?_); refine goesL_ (some 50) rfl rfl Tryd.func38 (by kernel_rfl) rfl #[.slice Ao34 t250.length co34, .int .u64 (IntKind.u64.wrap (rd l0_3 0))] rfl zl_ ?_; (with_reducible refine (ladingref03_Num.calls k _ _ t250 (IntKind.u64.wrap (rd l0_3 0)) t254 _ ?side1 ?side2 A25.out).mono ?_); (case side1 => repeat (first | exact (Kd.R_reads' HO252.out).2.2 | (with_reducible refine Kd.C_alloc ?_ _) | (with_reducible refine Kd.C_drewN ?_ _) | (with_reducible refine Kd.C_drew ?_))); (case side2 => exact (Kd.R_reads' HO252.out).2.1); rintro e w35 ⟨v255, rfl, ho0, hb⟩; refine ⟨_, rfl, ?_⟩; have HO256 := Aside0.mk (Kd.R_lower (Kd.R_new' (Kd.R_new' ho0 (Kd.R_lt (zR_ HO249.out))) (Kd.R_lt (zR_ HO252.out))) (below_size (zh1_ HB.out GE232.out))); replace HO249 := Aside0.mk (Kd.R_elder' (zR_ HO249.out) (Kd.R_base ho0) hb); replace HO252 := Aside0.mk (Kd.R_elder' (zR_ HO252.out) (Kd.R_base ho0) hb); replace BK232 := Aside0.mk (blk_below (zb_ BK232.out) hb); replace HB := Aside0.mk (below_step (zh1_ HB.out GE232.out) hb); (try clear hb); (try clear hk); (try clear ho0); obtain ⟨hcz36_0, hcz36_1, hcz36_2, hcz36_3⟩ := zc4 BK232.out; obtain ⟨hfz36_0, hfz36_1, hfz36_2, hfz36_3⟩ := zz4 BK232.out))
   go_loopg [6, 54] k (fun kq v6 v54 w' => ∃ (x6_1 : List Int) (x54_1 : Int), v54 = .int .i64 x54_1 ∧ Aside0 (ladingref06_text.l1 kq x6_1 l0_1 (l0_1.length : Int) x54_1 false l0_1 l0_2 l0_3 = some r) ∧ Aside0 (kq ≤ k) ∧ Aside0 (Kd.R (Kd.int .u8) 5 w' w.heap.size (fun _ => True) v6 x6_1) ∧ Aside0 (w'.heap[gb232]? = some (.cells #[.bool false, (.slice A0_1 l0_1.length c0_1), (.slice A0_2 l0_2.length c0_2), (.slice (some ad253) l0_3.length c0_3)] 25 (0, 0))) ∧ Aside0 (Below w.heap.size w w'))
   case atStart => exact ⟨(t254), (0), (by first | rfl | (simp; done) | (simp [*]; done) | (simp only [i64_w]; done)), H', ⟨Nat.le_refl _⟩, ⟨by (with_reducible repeat (first | apply Kd.R_alloc | apply Kd.R_drewN | apply Kd.R_drew)); exact Kd.R_mono HO256.out (fun _ hk => trivial)⟩, ⟨by (with_reducible repeat (first | refine blk_drewN ?_ _ | refine blk_drew ?_ | refine blk_alloc ?_ _)); exact BK232.out⟩, ⟨by exact zh1_ HB.out GE232.out⟩⟩
   case round =>
    clear H'
    try clear c1
    try clear c2
    try clear p2
    try clear q2
    try clear hx2
    try clear qi2
    try clear c3
    try clear p6
    try clear c12
    try clear c12b0
    try clear c13
    try clear c13b0
    try clear c14
    try clear c14b0
    try clear c16
    try clear c16b0
    try clear c20
    try clear c23
    try clear p23
    try clear q23
    try clear hx23
    try clear c24
    try clear c24b0
    try clear c24b1
    try clear p24
    try clear q24
    try clear hx24
    try clear p25
    try clear q25
    try clear hx25
    try clear qi25
    try clear hcz11_0
    try clear hcz11_1
    try clear hcz11_2
    try clear hcz11_3
    try clear hcz27_0
    try clear hcz27_1
    try clear hcz27_2
    try clear hcz27_3
    try clear hcz30_0
    try clear hcz30_1
    try clear hcz30_2
    try clear hcz30_3
    try clear hcz33_0
    try clear hcz33_1
    try clear hcz33_2
    try clear hcz33_3
    try clear hcz36_0
    try clear hcz36_1
    try clear hcz36_2
    try clear hcz36_3
    try clear hcz5_0
    try clear hcz5_1
    try clear hcz5_2
    try clear hcz5_3
    try clear hcz8_0
    try clear hcz8_1
    try clear hcz8_2
    try clear hcz8_3
    try clear hfz11_0
    try clear hfz11_1
    try clear hfz11_2
    try clear hfz11_3
    try clear hfz27_0
    try clear hfz27_1
    try clear hfz27_2
    try clear hfz27_3
    try clear hfz30_0
    try clear hfz30_1
    try clear hfz30_2
    try clear hfz30_3
    try clear hfz33_0
    try clear hfz33_1
    try clear hfz33_2
    try clear hfz33_3
    try clear hfz36_0
    try clear hfz36_1
    try clear hfz36_2
    try clear hfz36_3
    try clear hfz5_0
    try clear hfz5_1
    try clear hfz5_2
    try clear hfz5_3
    try clear hfz8_0
    try clear hfz8_1
    try clear hfz8_2
    try clear hfz8_3
    try clear hx239_0
    try clear hx243_0
    try clear hx253_0
    try clear p2
    try clear p239
    try clear p243
    try clear p253
    try clear q239
    try clear q243
    try clear q253
    (try clear BK232)
    obtain ⟨x6_1, x54_1, rfl, HA, HK1, HO_6, BK232, HB⟩ := hrel
    cases gk with
    | zero => exact absurd HA.out (by simp [ladingref06_text.l1])
    | succ k1 =>
     have H := HA.out
     clear HA
     simp only [ladingref06_text.l1] at H
     by_cases c37 : x54_1 < (l0_1.length : Int)
     ·rw [if_pos c37] at H
      have c37b0 : decide (x54_1 < (l0_1.length : Int)) = true := decide_eq_true c37
      clear c37
      by_cases c38 : 0 ≤ x54_1
      ·rw [if_pos c38] at H
       have c38b0 : decide (0 ≤ x54_1) = true := decide_eq_true c38
       clear c38
       by_cases c39 : x54_1 < (l0_1.length : Int)
       ·rw [if_pos c39] at H
        have c39b0 : decide (x54_1 < (l0_1.length : Int)) = true := decide_eq_true c39
        clear c39
        obtain ⟨t258, A40, H⟩ := zm H
        (try dsimp only at H)
        obtain ⟨ji41, hji41⟩ : ∃ j_ : Int, (wrap64 (x54_1 + 1)) = j_ := ⟨_, rfl⟩
        replace H : (if 0 ≤ (ji41) then (if (ji41) < (l0_3.length : Int) then ((ladingref03_Num.f k1 t258 (IntKind.u64.wrap (rd l0_3 (ji41)))).bind fun t262 => (ladingref06_text.l1 k1 t262 l0_1 (l0_1.length : Int) ji41 false l0_1 l0_2 l0_3)) else (none)) else (none)) = some r := by first | (rw [hji41] at H; exact H) | (simp only [hji41] at H ⊢; exact H)
        (try rw [hji41] at A40)
        have hji41w : (IntKind.i64.wrap (x54_1 + 1)) = ji41 := (i64_w _).trans hji41
        by_cases c42 : 0 ≤ (ji41)
        ·rw [if_pos c42] at H
         have c42b0 : decide (0 ≤ (ji41)) = true := decide_eq_true c42
         clear c42
         by_cases c43 : (ji41) < (l0_3.length : Int)
         ·rw [if_pos c43] at H
          have c43b0 : decide ((ji41) < (l0_3.length : Int)) = true := decide_eq_true c43
          clear c43
          obtain ⟨t262, A44, H⟩ := zm H
          (try dsimp only at H)
          have H' := Aside0.mk H
          clear H
          have p257 : 0 ≤ (x54_1 : Int) := of_decide_eq_true za_
          have q257 : x54_1 < (l0_1.length : Int) := of_decide_eq_true za_
          obtain ⟨ad257, A257_0, c257_0, e257, hx257_0, hl257_0, hi257_0⟩ := at_L1 HR0_1.out x54_1 p257 q257
          cases e257
          replace hx257_0 := zx_ HB.out hx257_0
          have HR257_0 := Aside0.mk hi257_0
          have HC257_0 := Aside0.mk hl257_0
          clear hi257_0 hl257_0
          replace p257 := eq_true p257
          replace q257 := eq_true q257
          try go_wp2
          have n0_ := Aside0.mk (Kd.R_drew HO_6.out)
          have n1_ := Aside0.mk (blk_drew BK232.out)
          have n2_ := Aside0.mk (below_drew1 HB.out)
          clear HO_6 BK232 HB
          have HO_6 := n0_
          have BK232 := n1_
          have HB := n2_
          clear n0_ n1_ n2_
          have p261 : 0 ≤ ((ji41) : Int) := of_decide_eq_true za_
          have q261 : (ji41) < (l0_3.length : Int) := of_decide_eq_true za_
          obtain ⟨ad261, e261, hx261_0⟩ := Kd.at_int HR0_3.out (ji41) p261 q261
          have hw261_0 := hx261_0
          obtain rfl : ad253 = ad261 := (by injection e261)
          replace hx261_0 := zx_ HB.out hx261_0
          replace p261 := eq_true p261
          replace q261 := eq_true q261
          obtain ⟨Ao46, co46, eo46⟩ := Kd.R_slice HO_6.out
          (first | subst eo46 | (injection eo46 with f1_ f2_ f3_; have f4_ := f1_.symm; have f5_ := f3_.symm; clear f1_ f2_ f3_; subst f4_; subst f5_))
          refine start_ (n := 13) (S := fun w' => w'.cell? ⟨gb232, 0, none⟩ = some (.bool false) ∧ w'.cell? ⟨gb232, 1, none⟩ = some (.slice (some ad257) l0_1.length c0_1) ∧ w'.cell? ⟨gb232, 2, none⟩ = some (.slice A0_2 l0_2.length c0_2) ∧ w'.cell? ⟨gb232, 3, none⟩ = some (.slice (some ad253) l0_3.length c0_3) ∧ (convert 26 9 (.slice A257_0 (rd_L1 l0_1 x54_1).length c257_0)).run Tryd.prog w' = .ok (.string (strOfNums (rd_L1 l0_1 x54_1))) w' ∧ w'.cell? (ad253.add ((ji41)).toNat) = some (.int .i64 (rd l0_3 (ji41)))) (ds := []) (zB 0 13) (by kernel_rfl) rfl rfl ⟨(blk_cell BK232.out 0).trans rfl, (blk_cell BK232.out 1).trans rfl, (blk_cell BK232.out 2).trans rfl, (blk_cell BK232.out 3).trans rfl, (Kd.C_string (P := Tryd.prog) (A := A257_0) (c := c257_0) Tryd.underlying26 Tryd.underlying5 Tryd.underlying9 (Kd.C_below HR257_0.out HB.out)), ((HB.out.cell (World.block_lt_of_cell? w _ hw261_0)).trans hw261_0)⟩ (fun hHeld => ?_); refine with_tabW ladingref06_text.tab14 ladingref06_text.bits14 (fun HT_ HW_ => ?_)
          generalize wr.drew = w45 at HO_6 BK232 HB hx261_0 hHeld ⊢
          refine zpu 0 (some 59) (zB 1 12) (any_of HT_.out (by kernel_rfl)) ?_
          refine zpu 1 (some 60) (zB 2 11) (any_of HT_.out (by kernel_rfl)) ?_
          refine zpu 4 (some 63) #[true, true, false, false, true, false, false, false, false, false, false, false, false] (any_of HT_.out (by kernel_rfl)) ?_
          refine zpu 6 (some 65) #[true, true, false, false, true, false, true, false, false, false, false, false, false] (any_of HT_.out (by kernel_rfl)) ?_
          refine zpu 7 (some 66) #[true, true, false, false, true, false, true, true, false, false, false, false, false] (any_of HT_.out (by kernel_rfl)) ?_
          refine zta 2 (some 61) #[true, true, true, false, true, false, true, true, false, false, false, false, false] (take_ofW HT_.out HW_.out (by kernel_rfl)) hHeld ?_
          refine zta 5 (some 64) #[true, true, true, false, true, true, true, true, false, false, false, false, false] (take_ofW HT_.out HW_.out (by kernel_rfl)) hHeld ?_
          refine zpu 8 (some 67) #[true, true, true, false, true, true, true, true, true, false, false, false, false] (any_of HT_.out (by kernel_rfl)) ?_
          refine zta 9 (some 68) #[true, true, true, false, true, true, true, true, true, true, false, false, false] (take_ofW HT_.out HW_.out (by kernel_rfl)) hHeld ?_
          refine zpu 10 (some 69) #[true, true, true, false, true, true, true, true, true, true, true, false, false] (any_of HT_.out (by kernel_rfl)) ?_
          refine one_ (i := 3) (N := some 62) (zB 11 2) rfl rfl (one_of HT_.out (by kernel_rfl)) (by decide) (fun K hK => ?_)
          refine goes_ Tryd.func39 (by kernel_rfl) rfl #[.slice Ao46 x6_1.length co46, .string (strOfNums (rd_L1 l0_1 x54_1))] (by rfl) rfl rfl zl_ ?_
          with_reducible refine (ladingref03_Text.calls k1 _ _ x6_1 (strOfNums (rd_L1 l0_1 x54_1)) t258 _ ?side1 ?side2 A40.out).mono ?_
          (case side1 => repeat (first | exact (Kd.R_reads' HO_6.out).2.2 | (with_reducible refine Kd.C_alloc ?_ _) | (with_reducible refine Kd.C_drewN ?_ _) | (with_reducible refine Kd.C_drew ?_)))
          (case side2 => exact (Kd.R_reads' HO_6.out).2.1)
          rintro e w47 ⟨v259, rfl, ho0, hb⟩
          refine ⟨_, rfl, ?_⟩
          have n0_ := Aside0.mk (Kd.R_elder' (zR_ HO_6.out) (Kd.R_base ho0) hb)
          have n1_ := Aside0.mk (Kd.R_lower (Kd.R_new' ho0 (Kd.R_lt (zR_ HO_6.out))) (below_size (zh1_ HB.out GE232.out)))
          have n2_ := Aside0.mk (blk_below (zb_ BK232.out) hb)
          have n3_ := Aside0.mk (below_step (zh1_ HB.out GE232.out) hb)
          clear HO_6 BK232 HB
          have HO_6 := n0_
          have HO260 := n1_
          have BK232 := n2_
          have HB := n3_
          clear n0_ n1_ n2_ n3_
          (try clear hb)
          (try clear hb2)
          (try clear hk)
          (try clear hi)
          (try clear ho0)
          obtain ⟨Ao48, co48, eo48⟩ := Kd.R_slice HO260.out
          (first | subst eo48 | (injection eo48 with f1_ f2_ f3_; have f4_ := f1_.symm; have f5_ := f3_.symm; clear f1_ f2_ f3_; subst f4_; subst f5_))
          refine hK.out _ _ ⟨(blk_cell BK232.out 0).trans rfl, (blk_cell BK232.out 1).trans rfl, (blk_cell BK232.out 2).trans rfl, (blk_cell BK232.out 3).trans rfl, (Kd.C_string (P := Tryd.prog) (A := A257_0) (c := c257_0) Tryd.underlying26 Tryd.underlying5 Tryd.underlying9 (Kd.C_below HR257_0.out HB.out)), ((HB.out.cell (World.block_lt_of_cell? w _ hw261_0)).trans hw261_0)⟩ (fun hHeld => ?_)
          clear hK K
          refine zno 62 ?_
          refine one_ (i := 11) (N := some 70) (zB 12 1) rfl rfl (one_of HT_.out (by kernel_rfl)) (by decide) (fun K hK => ?_)
          refine goes_ Tryd.func38 (by kernel_rfl) rfl #[.slice Ao48 t258.length co48, .int .u64 (IntKind.u64.wrap (rd l0_3 (ji41)))] (by rfl) rfl rfl (by (try simp only [List.map_toArray, List.map_cons, List.map_nil]); first | done | (simp only [hji41]; rfl) | rfl | (simp only [List.length_drop, List.length_take]; rfl)) ?_
          with_reducible refine (ladingref03_Num.calls k1 _ _ t258 (IntKind.u64.wrap (rd l0_3 (ji41))) t262 _ ?side1 ?side2 A44.out).mono ?_
          (case side1 => repeat (first | exact (Kd.R_reads' HO260.out).2.2 | (with_reducible refine Kd.C_alloc ?_ _) | (with_reducible refine Kd.C_drewN ?_ _) | (with_reducible refine Kd.C_drew ?_)))
          (case side2 => exact (Kd.R_reads' HO260.out).2.1)
          rintro e w49 ⟨v263, rfl, ho0, hb⟩
          refine ⟨_, rfl, ?_⟩
          have n0_ := Aside0.mk (Kd.R_elder' (zR_ HO_6.out) (Kd.R_base ho0) hb)
          have n1_ := Aside0.mk (Kd.R_elder' (zR_ HO260.out) (Kd.R_base ho0) hb)
          have n2_ := Aside0.mk (Kd.R_lower (Kd.R_new' (Kd.R_new' ho0 (Kd.R_lt (zR_ HO_6.out))) (Kd.R_lt (zR_ HO260.out))) (below_size (zh1_ HB.out GE232.out)))
          have n3_ := Aside0.mk (blk_below (zb_ BK232.out) hb)
          have n4_ := Aside0.mk (below_step (zh1_ HB.out GE232.out) hb)
          clear HO_6 HO260 BK232 HB
          have HO_6 := n0_
          have HO260 := n1_
          have HO264 := n2_
          have BK232 := n3_
          have HB := n4_
          clear n0_ n1_ n2_ n3_ n4_
          (try clear hb)
          (try clear hb2)
          (try clear hk)
          (try clear hi)
          (try clear ho0)
          refine hK.out _ _ ⟨(blk_cell BK232.out 0).trans rfl, (blk_cell BK232.out 1).trans rfl, (blk_cell BK232.out 2).trans rfl, (blk_cell BK232.out 3).trans rfl, (Kd.C_string (P := Tryd.prog) (A := A257_0) (c := c257_0) Tryd.underlying26 Tryd.underlying5 Tryd.underlying9 (Kd.C_below HR257_0.out HB.out)), ((HB.out.cell (World.block_lt_of_cell? w _ hw261_0)).trans hw261_0)⟩ (fun hHeld => ?_)
          clear hK K
          refine zno 70 ?_
          refine zpu 12 (some 6) (zB 13 0) (any_of HT_.out (by kernel_rfl)) ?_
          refine done_ (done_of HT_.out (by kernel_rfl)) ?_
          try go_wp2
          go_roundg k1
          case measure => have := HK1.out; omega
          case rel => exact ⟨(t262), (ji41), (by first | rfl | (simp; done) | (simp only [← hji41] <;> (first | rfl | simp)) | (simp [*]; done)), H', ⟨by have := HK1.out; omega⟩, ⟨by (with_reducible repeat (first | apply Kd.R_alloc | apply Kd.R_drewN | apply Kd.R_drew)); exact Kd.R_mono HO264.out (fun _ hk => trivial)⟩, ⟨by (with_reducible repeat (first | refine blk_drewN ?_ _ | refine blk_drew ?_ | refine blk_alloc ?_ _)); exact BK232.out⟩, ⟨by exact zh1_ HB.out GE232.out⟩⟩
         ·rw [if_neg c43] at H
          cases H
        ·rw [if_neg c42] at H
         cases H
       ·rw [if_neg c39] at H
        cases H
      ·rw [if_neg c38] at H
       cases H
     ·rw [if_neg c37] at H
      have c37b0 : decide (x54_1 < (l0_1.length : Int)) = false := decide_eq_false c37
      clear c37
      obtain rfl := Option.some.inj H
      go_wp2
      go_ret
      exact ⟨_, by first | rfl | (simp [errW_none, errW_some] <;> rfl) | (simp [*, errW_none, errW_some] <;> rfl), by (with_reducible repeat (first | apply Kd.R_alloc | apply Kd.R_drewN | apply Kd.R_drew)); exact HO_6.out, by exact zh1_ HB.out GE232.out⟩
  ·rw [if_neg c24] at H
   cases H
end Go.Proofs.YtcbgichkeecgiaaDoor.Print
namespace Go.Proofs.YtcbgichkeecgiaaDoor.Print
open Go.RowKit Go.Proofs.YtcbgichkeecgiaaDoorW.PrintWords Go.Proofs.YtcbgichkeecgiaaDoorW.PrintLast Go.Proofs.YtcbgichkeecgiaaDoorW.PrintMore
attribute [local go_sem] max2_mx min2_mn max_two min_two max_three min_three max_four min_four
set_option linter.unusedVariables false
set_option linter.unusedSimpArgs false
def ladingref06_rises.l0 : Nat → List (List Int) → List (List Int) → Int → Int → Option (Bool)
 | 0, _, _, _, _ => none
 | k + 1, x0, x5, x6, x7 => if x7 < x6 then (if 0 ≤ x7 then (if x7 < (x5.length : Int) then (if ((rd_L1 x5 x7).length : Int) > 256 then (some false) else (if x7 > 0 then (if 0 ≤ (wrap64 (x7 - 1)) then (if (wrap64 (x7 - 1)) < (x0.length : Int) then (if ((Op.bytesLess ((strOfNums (rd_L1 x0 (wrap64 (x7 - 1)))).toList) ((strOfNums (rd_L1 x5 x7)).toList)) = true) then (ladingref06_rises.l0 k x0 x5 x6 (wrap64 (x7 + 1))) else (some false)) else (none)) else (none)) else (ladingref06_rises.l0 k x0 x5 x6 (wrap64 (x7 + 1))))) else (none)) else (none)) else (some true)
def ladingref06_rises.f (k : Nat) (l0 : List (List Int)) : Option (Bool) := ladingref06_rises.l0 k l0 l0 (l0.length : Int) 0
set_option maxHeartbeats 8000000 in
set_option maxRecDepth 100000 in
theorem ladingref06_rises.calls (k : Nat) (A0 : Option Addr) (c0 : Nat) (l0 : List (List Int)) (r : Bool) (w : World) (hr0 : Kd.C (Kd.slice 5 (Kd.int .u8)) w A0 l0.length l0) (hc0 : l0.length ≤ c0) (h : ladingref06_rises.f k l0 = some r) :
  Calls Tryd.prog 65 #[.slice A0 l0.length c0] w fun e w' => e = .returned (.bool r) ∧ Drawn0 w w' := by
 have HR0 := Aside0.mk hr0
 have HC0 := Aside0.mk hc0
 clear hr0 hc0
 have H : (ladingref06_rises.l0 k l0 l0 (l0.length : Int) 0) = some r := h
 clear h
 have H' := Aside0.mk H
 clear H
 go_enter Tryd.func65, Tryd.ntmps65
 go_wp2
 repeat (go_quiet (fail); try go_wp2)
 go_loopg [7] k (fun kq v7 w' => ∃ (x7_1 : Int), v7 = .int .i64 x7_1 ∧ Aside0 (ladingref06_rises.l0 kq l0 l0 (l0.length : Int) x7_1 = some r) ∧ Aside0 (kq ≤ k) ∧ Drawn0 w w')
 case atStart => exact ⟨(0), (by first | rfl | (simp; done) | (simp [*]; done) | (simp only [i64_w]; done)), H', ⟨Nat.le_refl _⟩, by repeat (first | exact Drawn0.refl _ | apply Drawn0.step)⟩
 case round =>
  clear H'
  obtain ⟨x7_1, rfl, HA, HK1, ⟨m1, rfl⟩⟩ := hrel
  cases gk with
  | zero => exact absurd HA.out (by simp [ladingref06_rises.l0])
  | succ k1 =>
   have H := HA.out
   clear HA
   simp only [ladingref06_rises.l0] at H
   by_cases c2 : x7_1 < (l0.length : Int)
   ·rw [if_pos c2] at H
    have c2b0 : decide (x7_1 < (l0.length : Int)) = true := decide_eq_true c2
    clear c2
    by_cases c3 : 0 ≤ x7_1
    ·rw [if_pos c3] at H
     have c3b0 : decide (0 ≤ x7_1) = true := decide_eq_true c3
     clear c3
     by_cases c4 : x7_1 < (l0.length : Int)
     ·rw [if_pos c4] at H
      have c4b0 : decide (x7_1 < (l0.length : Int)) = true := decide_eq_true c4
      clear c4
      by_cases c5 : ((rd_L1 l0 x7_1).length : Int) > 256
      ·rw [if_pos c5] at H
       have c5b0 : decide (256 < ((rd_L1 l0 x7_1).length : Int)) = true := decide_eq_true c5
       have c5b1 : decide (256 < (rd_L1 l0 x7_1).length) = true := decide_eq_true (by omega)
       clear c5
       obtain rfl := Option.some.inj H
       have p265 : 0 ≤ (x7_1 : Int) := of_decide_eq_true za_
       have q265 : x7_1 < (l0.length : Int) := of_decide_eq_true za_
       obtain ⟨ad265, A265_0, c265_0, e265, hx265_0, hl265_0, hi265_0⟩ := at_L1 HR0.out x7_1 p265 q265
       cases e265
       have HR265_0 := Aside0.mk hi265_0
       have HC265_0 := Aside0.mk hl265_0
       clear hi265_0 hl265_0
       replace p265 := eq_true p265
       replace q265 := eq_true q265
       go_wp2
       repeat (go_quiet (fail); try go_wp2)
       go_ret
       exact ⟨by first | rfl | (simp; done) | (simp [*]; done), by repeat (first | exact Drawn0.refl _ | apply Drawn0.step)⟩
      ·rw [if_neg c5] at H
       have c5b0 : decide (256 < ((rd_L1 l0 x7_1).length : Int)) = false := decide_eq_false c5
       have c5b1 : decide (256 < (rd_L1 l0 x7_1).length) = false := decide_eq_false (by omega)
       clear c5
       by_cases c6 : x7_1 > 0
       ·rw [if_pos c6] at H
        have c6b0 : decide (0 < x7_1) = true := decide_eq_true c6
        clear c6
        obtain ⟨ji7, hji7⟩ : ∃ j_ : Int, (wrap64 (x7_1 - 1)) = j_ := ⟨_, rfl⟩
        replace H : (if 0 ≤ (ji7) then (if (ji7) < (l0.length : Int) then (if ((Op.bytesLess ((strOfNums (rd_L1 l0 (ji7))).toList) ((strOfNums (rd_L1 l0 x7_1)).toList)) = true) then (ladingref06_rises.l0 k1 l0 l0 (l0.length : Int) (wrap64 (x7_1 + 1))) else (some false)) else (none)) else (none)) = some r := by first | (rw [hji7] at H; exact H) | (simp only [hji7] at H ⊢; exact H)
        have hji7w : (IntKind.i64.wrap (x7_1 - 1)) = ji7 := (i64_w _).trans hji7
        by_cases c8 : 0 ≤ (ji7)
        ·rw [if_pos c8] at H
         have c8b0 : decide (0 ≤ (ji7)) = true := decide_eq_true c8
         clear c8
         by_cases c9 : (ji7) < (l0.length : Int)
         ·rw [if_pos c9] at H
          have c9b0 : decide ((ji7) < (l0.length : Int)) = true := decide_eq_true c9
          clear c9
          by_cases c10 : ((Op.bytesLess ((strOfNums (rd_L1 l0 (ji7))).toList) ((strOfNums (rd_L1 l0 x7_1)).toList)) = true)
          ·rw [if_pos c10] at H
           have c10b0 : (Op.bytesLess ((strOfNums (rd_L1 l0 (ji7))).toList) ((strOfNums (rd_L1 l0 x7_1)).toList)) = true := c10
           clear c10
           have H' := Aside0.mk H
           clear H
           have p265 : 0 ≤ (x7_1 : Int) := of_decide_eq_true za_
           have q265 : x7_1 < (l0.length : Int) := of_decide_eq_true za_
           obtain ⟨ad265, A265_0, c265_0, e265, hx265_0, hl265_0, hi265_0⟩ := at_L1 HR0.out x7_1 p265 q265
           cases e265
           have HR265_0 := Aside0.mk hi265_0
           have HC265_0 := Aside0.mk hl265_0
           clear hi265_0 hl265_0
           replace p265 := eq_true p265
           replace q265 := eq_true q265
           have p266 : 0 ≤ ((ji7) : Int) := of_decide_eq_true za_
           have q266 : (ji7) < (l0.length : Int) := of_decide_eq_true za_
           obtain ⟨ad266, A266_0, c266_0, e266, hx266_0, hl266_0, hi266_0⟩ := at_L1 HR0.out (ji7) p266 q266
           obtain rfl : ad265 = ad266 := (by injection e266)
           have HR266_0 := Aside0.mk hi266_0
           have HC266_0 := Aside0.mk hl266_0
           clear hi266_0 hl266_0
           replace p266 := eq_true p266
           replace q266 := eq_true q266
           have hcv11 := Kd.C_string (P := Tryd.prog) (A := A266_0) (c := c266_0) Tryd.underlying26 Tryd.underlying5 Tryd.underlying9 HR266_0.out
           have hcw12 := fun n_ : Nat => Kd.C_string (P := Tryd.prog) (A := A266_0) (c := c266_0) Tryd.underlying26 Tryd.underlying5 Tryd.underlying9 (Kd.C_drewN HR266_0.out n_)
           have hcv13 := Kd.C_string (P := Tryd.prog) (A := A265_0) (c := c265_0) Tryd.underlying26 Tryd.underlying5 Tryd.underlying9 HR265_0.out
           have hcw14 := fun n_ : Nat => Kd.C_string (P := Tryd.prog) (A := A265_0) (c := c265_0) Tryd.underlying26 Tryd.underlying5 Tryd.underlying9 (Kd.C_drewN HR265_0.out n_)
           go_wp2
           repeat (go_quiet (fail); try go_wp2)
           go_roundg k1
           case measure => have := HK1.out; omega
           case rel => exact ⟨(wrap64 (x7_1 + 1)), (by first | rfl | (simp; done) | (simp [*]; done) | (simp only [i64_w]; done)), H', ⟨by have := HK1.out; omega⟩, by repeat (first | exact Drawn0.refl _ | apply Drawn0.step)⟩
          ·rw [if_neg c10] at H
           have c10b0 : (Op.bytesLess ((strOfNums (rd_L1 l0 (ji7))).toList) ((strOfNums (rd_L1 l0 x7_1)).toList)) = false := by simpa using c10
           clear c10
           obtain rfl := Option.some.inj H
           have p265 : 0 ≤ (x7_1 : Int) := of_decide_eq_true za_
           have q265 : x7_1 < (l0.length : Int) := of_decide_eq_true za_
           obtain ⟨ad265, A265_0, c265_0, e265, hx265_0, hl265_0, hi265_0⟩ := at_L1 HR0.out x7_1 p265 q265
           cases e265
           have HR265_0 := Aside0.mk hi265_0
           have HC265_0 := Aside0.mk hl265_0
           clear hi265_0 hl265_0
           replace p265 := eq_true p265
           replace q265 := eq_true q265
           have p266 : 0 ≤ ((ji7) : Int) := of_decide_eq_true za_
           have q266 : (ji7) < (l0.length : Int) := of_decide_eq_true za_
           obtain ⟨ad266, A266_0, c266_0, e266, hx266_0, hl266_0, hi266_0⟩ := at_L1 HR0.out (ji7) p266 q266
           obtain rfl : ad265 = ad266 := (by injection e266)
           have HR266_0 := Aside0.mk hi266_0
           have HC266_0 := Aside0.mk hl266_0
           clear hi266_0 hl266_0
           replace p266 := eq_true p266
           replace q266 := eq_true q266
           have hcv15 := Kd.C_string (P := Tryd.prog) (A := A266_0) (c := c266_0) Tryd.underlying26 Tryd.underlying5 Tryd.underlying9 HR266_0.out
           have hcw16 := fun n_ : Nat => Kd.C_string (P := Tryd.prog) (A := A266_0) (c := c266_0) Tryd.underlying26 Tryd.underlying5 Tryd.underlying9 (Kd.C_drewN HR266_0.out n_)
           have hcv17 := Kd.C_string (P := Tryd.prog) (A := A265_0) (c := c265_0) Tryd.underlying26 Tryd.underlying5 Tryd.underlying9 HR265_0.out
           have hcw18 := fun n_ : Nat => Kd.C_string (P := Tryd.prog) (A := A265_0) (c := c265_0) Tryd.underlying26 Tryd.underlying5 Tryd.underlying9 (Kd.C_drewN HR265_0.out n_)
           go_wp2
           repeat (go_quiet (fail); try go_wp2)
           go_ret
           exact ⟨by first | rfl | (simp; done) | (simp only [← hji7] <;> (first | rfl | simp)) | (simp [*]; done), by repeat (first | exact Drawn0.refl _ | apply Drawn0.step)⟩
         ·rw [if_neg c9] at H
          cases H
        ·rw [if_neg c8] at H
         cases H
       ·rw [if_neg c6] at H
        have c6b0 : decide (0 < x7_1) = false := decide_eq_false c6
        clear c6
        have H' := Aside0.mk H
        clear H
        have p265 : 0 ≤ (x7_1 : Int) := of_decide_eq_true za_
        have q265 : x7_1 < (l0.length : Int) := of_decide_eq_true za_
        obtain ⟨ad265, A265_0, c265_0, e265, hx265_0, hl265_0, hi265_0⟩ := at_L1 HR0.out x7_1 p265 q265
        cases e265
        have HR265_0 := Aside0.mk hi265_0
        have HC265_0 := Aside0.mk hl265_0
        clear hi265_0 hl265_0
        replace p265 := eq_true p265
        replace q265 := eq_true q265
        go_wp2
        repeat (go_quiet (fail); try go_wp2)
        go_roundg k1
        case measure => have := HK1.out; omega
        case rel => exact ⟨(wrap64 (x7_1 + 1)), (by first | rfl | (simp; done) | (simp [*]; done) | (simp only [i64_w]; done)), H', ⟨by have := HK1.out; omega⟩, by repeat (first | exact Drawn0.refl _ | apply Drawn0.step)⟩
     ·rw [if_neg c4] at H
      cases H
    ·rw [if_neg c3] at H
     cases H
   ·rw [if_neg c2] at H
    have c2b0 : decide (x7_1 < (l0.length : Int)) = false := decide_eq_false c2
    clear c2
    obtain rfl := Option.some.inj H
    go_wp2
    repeat (go_quiet (fail); try go_wp2)
    go_ret
    exact ⟨by first | rfl | (simp; done) | (simp [*]; done), by repeat (first | exact Drawn0.refl _ | apply Drawn0.step)⟩
end Go.Proofs.YtcbgichkeecgiaaDoor.Print
namespace Go.Proofs.YtcbgichkeecgiaaDoor.Print
open Go.RowKit Go.Proofs.YtcbgichkeecgiaaDoorW.PrintWords Go.Proofs.YtcbgichkeecgiaaDoorW.PrintLast Go.Proofs.YtcbgichkeecgiaaDoorW.PrintMore
attribute [local go_sem] max2_mx min2_mn max_two min_two max_three min_three max_four min_four
set_option linter.unusedVariables false
set_option linter.unusedSimpArgs false
mutual
def ladingref06_made.l0 : Nat → List (List Int) → Int → Int → Bool → List (List Int) → List (List Int) → List Int → Option (Bool)
 | 0, _, _, _, _, _, _, _ => none
 | k + 1, x12, x13, x14, x268000, x268001, x268002, x268003 => if x14 < x13 then (if 0 ≤ x14 then (if x14 < (x12.length : Int) then (if ((rd_L1 x12 x14).length : Int) > 512 then (some false) else (ladingref06_made.l0 k x12 x13 (wrap64 (x14 + 1)) x268000 x268001 x268002 x268003)) else (none)) else (none)) else (ladingref06_made.l1 k x268003 (x268003.length : Int) 0 x268000 x268001 x268002 x268003)
def ladingref06_made.l1 : Nat → List Int → Int → Int → Bool → List (List Int) → List (List Int) → List Int → Option (Bool)
 | 0, _, _, _, _, _, _, _ => none
 | k + 1, x23, x24, x25, x268000, x268001, x268002, x268003 => if x25 < x24 then (if 0 ≤ x25 then (if x25 < (x23.length : Int) then (if (rd x23 x25) < 1 then (some false) else (if (rd x23 x25) > 1023 then (some false) else (ladingref06_made.l1 k x23 x24 (wrap64 (x25 + 1)) x268000 x268001 x268002 x268003))) else (none)) else (none)) else (if x268000 = true then (if (x268002.length : Int) = (x268001.length : Int) then (some ((x268003.length : Int) == 0)) else (some false)) else (if (x268001.length : Int) > 0 then (if (x268003.length : Int) = (wrap64 ((x268001.length : Int) + 1)) then (some ((x268002.length : Int) == 0)) else (some false)) else (some false)))
end
def ladingref06_made.f (k : Nat) (a0_0 : Bool) (l0_1 : List (List Int)) (l0_2 : List (List Int)) (l0_3 : List Int) : Option (Bool) := (ladingref06_rises.f k l0_1).bind fun t268 => (if t268 = true then (ladingref06_made.l0 k l0_2 (l0_2.length : Int) 0 a0_0 l0_1 l0_2 l0_3) else (some false))
set_option maxHeartbeats 8000000 in
set_option maxRecDepth 100000 in
theorem ladingref06_made.calls (k : Nat) (a0_0 : Bool) (A0_1 : Option Addr) (c0_1 : Nat) (l0_1 : List (List Int)) (A0_2 : Option Addr) (c0_2 : Nat) (l0_2 : List (List Int)) (A0_3 : Option Addr) (c0_3 : Nat) (l0_3 : List Int) (r : Bool) (w : World) (hr0_1 : Kd.C (Kd.slice 5 (Kd.int .u8)) w A0_1 l0_1.length l0_1) (hc0_1 : l0_1.length ≤ c0_1) (hr0_2 : Kd.C (Kd.slice 5 (Kd.int .u8)) w A0_2 l0_2.length l0_2) (hc0_2 : l0_2.length ≤ c0_2) (hr0_3 : Kd.C (Kd.int .i64) w A0_3 l0_3.length l0_3) (hc0_3 : l0_3.length ≤ c0_3) (h : ladingref06_made.f k a0_0 l0_1 l0_2 l0_3 = some r) :
  Calls Tryd.prog 33 #[.agg #[.bool a0_0, .slice A0_1 l0_1.length c0_1, .slice A0_2 l0_2.length c0_2, .slice A0_3 l0_3.length c0_3]] w fun e w' => e = .returned (.bool r) ∧ Below w.heap.size w w' := by
 have hu25 := Tryd.underlying25
 have HR0_1 := Aside0.mk hr0_1
 have HC0_1 := Aside0.mk hc0_1
 clear hr0_1 hc0_1
 have HR0_2 := Aside0.mk hr0_2
 have HC0_2 := Aside0.mk hc0_2
 clear hr0_2 hc0_2
 have HR0_3 := Aside0.mk hr0_3
 have HC0_3 := Aside0.mk hc0_3
 clear hr0_3 hc0_3
 have HB := Aside0.mk (Below.refl w.heap.size w)
 have H : ((ladingref06_rises.f k l0_1).bind fun t268 => (if t268 = true then (ladingref06_made.l0 k l0_2 (l0_2.length : Int) 0 a0_0 l0_1 l0_2 l0_3) else (some false))) = some r := h
 clear h
 obtain ⟨t268, A2, H⟩ := zm H
 (try dsimp only at H)
 by_cases c3 : t268 = true
 ·subst c3
  replace H := (if_pos (rfl : true = true)).symm.trans H
  have H' := Aside0.mk H
  clear H
  go_enter Tryd.func33, Tryd.ntmps33
  go_wp2_with (first | ((with_reducible refine gate_dst (N := 1) rfl ?_); (try (refine gate_guard (by rfl) ?_; dsimp only)); refine box_event ?hg (N := 1) ?hd (cs := #[.bool a0_0, .slice A0_1 l0_1.length c0_1, .slice A0_2 l0_2.length c0_2, .slice A0_3 l0_3.length c0_3]) (t := 25) ?hr ?_; (case hd => rfl); (case hg => rfl); (case hr => first | (go_simp; done) | (go_simp; rfl)); intro gb267 hg w4 hbox hb; have BK267 := Aside0.mk (hbox); have GW267 := Aside0.mk ((by rw [hg]; exact (below_size (zh0_ HB.out)) : w.heap.size ≤ gb267)); have GE267 := Aside0.mk ((by rw [hg]; exact (below_size (zh0_ HB.out)) : w.heap.size ≤ gb267)); replace HB := Aside0.mk (below_step (zh0_ HB.out) hb); clear hb hbox hg; obtain ⟨hcz5_0, hcz5_1, hcz5_2, hcz5_3⟩ := zc4 BK267.out; obtain ⟨hfz5_0, hfz5_1, hfz5_2, hfz5_3⟩ := zz4 BK267.out) | ((with_reducible refine gate_callee (f := 65) rfl ?_); refine goesL_ (some 9) rfl rfl Tryd.func65 (by kernel_rfl) rfl #[.slice A0_1 l0_1.length c0_1] rfl zl_ ?_; (with_reducible refine (ladingref06_rises.calls k _ _ l0_1 true _ ?side1 ?side2 A2.out).mono ?_); (case side1 => exact zc_ (Kd.C_below HR0_1.out HB.out)); (case side2 => exact HC0_1.out); rintro e w' ⟨rfl, ⟨nd, rfl⟩⟩; refine ⟨_, rfl, ?_⟩))
  go_loopg [14] k (fun kq v14 w' => ∃ (x14_1 : Int), v14 = .int .i64 x14_1 ∧ Aside0 (ladingref06_made.l0 kq l0_2 (l0_2.length : Int) x14_1 a0_0 l0_1 l0_2 l0_3 = some r) ∧ Aside0 (kq ≤ k) ∧ Aside0 (w'.heap[gb267]? = some (.cells #[.bool a0_0, (.slice A0_1 l0_1.length c0_1), (.slice A0_2 l0_2.length c0_2), (.slice A0_3 l0_3.length c0_3)] 25 (0, 0))) ∧ Aside0 (Below w.heap.size w w'))
  case atStart => exact ⟨(0), (by first | rfl | (simp; done) | (simp [*]; done) | (simp only [i64_w]; done)), H', ⟨Nat.le_refl _⟩, ⟨by (with_reducible repeat (first | refine blk_drewN ?_ _ | refine blk_drew ?_ | refine blk_alloc ?_ _)); exact BK267.out⟩, ⟨by exact zh1_ HB.out GE267.out⟩⟩
  case round =>
   clear H'
   try clear p2
   try clear c3
   try clear hcz5_0
   try clear hcz5_1
   try clear hcz5_2
   try clear hcz5_3
   try clear hfz5_0
   try clear hfz5_1
   try clear hfz5_2
   try clear hfz5_3
   (try clear BK267)
   obtain ⟨x14_1, rfl, HA, HK1, BK267, HB⟩ := hrel
   cases gk with
   | zero => exact absurd HA.out (by simp [ladingref06_made.l0])
   | succ k1 =>
    have H := HA.out
    clear HA
    simp only [ladingref06_made.l0] at H
    by_cases c6 : x14_1 < (l0_2.length : Int)
    ·rw [if_pos c6] at H
     have c6b0 : decide (x14_1 < (l0_2.length : Int)) = true := decide_eq_true c6
     clear c6
     by_cases c7 : 0 ≤ x14_1
     ·rw [if_pos c7] at H
      have c7b0 : decide (0 ≤ x14_1) = true := decide_eq_true c7
      clear c7
      by_cases c8 : x14_1 < (l0_2.length : Int)
      ·rw [if_pos c8] at H
       have c8b0 : decide (x14_1 < (l0_2.length : Int)) = true := decide_eq_true c8
       clear c8
       by_cases c9 : ((rd_L1 l0_2 x14_1).length : Int) > 512
       ·rw [if_pos c9] at H
        have c9b0 : decide (512 < ((rd_L1 l0_2 x14_1).length : Int)) = true := decide_eq_true c9
        have c9b1 : decide (512 < (rd_L1 l0_2 x14_1).length) = true := decide_eq_true (by omega)
        clear c9
        obtain rfl := Option.some.inj H
        have p269 : 0 ≤ (x14_1 : Int) := of_decide_eq_true za_
        have q269 : x14_1 < (l0_2.length : Int) := of_decide_eq_true za_
        obtain ⟨ad269, A269_0, c269_0, e269, hx269_0, hl269_0, hi269_0⟩ := at_L1 HR0_2.out x14_1 p269 q269
        cases e269
        replace hx269_0 := zx_ HB.out hx269_0
        have HR269_0 := Aside0.mk hi269_0
        have HC269_0 := Aside0.mk hl269_0
        clear hi269_0 hl269_0
        replace p269 := eq_true p269
        replace q269 := eq_true q269
        go_wp2
        go_ret
        exact ⟨by first | rfl | (simp [errW_none, errW_some] <;> rfl) | (simp [*, errW_none, errW_some] <;> rfl), by exact zh1_ HB.out GE267.out⟩
       ·rw [if_neg c9] at H
        have c9b0 : decide (512 < ((rd_L1 l0_2 x14_1).length : Int)) = false := decide_eq_false c9
        have c9b1 : decide (512 < (rd_L1 l0_2 x14_1).length) = false := decide_eq_false (by omega)
        clear c9
        have H' := Aside0.mk H
        clear H
        have p269 : 0 ≤ (x14_1 : Int) := of_decide_eq_true za_
        have q269 : x14_1 < (l0_2.length : Int) := of_decide_eq_true za_
        obtain ⟨ad269, A269_0, c269_0, e269, hx269_0, hl269_0, hi269_0⟩ := at_L1 HR0_2.out x14_1 p269 q269
        cases e269
        replace hx269_0 := zx_ HB.out hx269_0
        have HR269_0 := Aside0.mk hi269_0
        have HC269_0 := Aside0.mk hl269_0
        clear hi269_0 hl269_0
        replace p269 := eq_true p269
        replace q269 := eq_true q269
        go_wp2
        go_roundg k1
        case measure => have := HK1.out; omega
        case rel => exact ⟨(wrap64 (x14_1 + 1)), (by first | rfl | (simp; done) | (simp [*]; done) | (simp only [i64_w]; done)), H', ⟨by have := HK1.out; omega⟩, ⟨by (with_reducible repeat (first | refine blk_drewN ?_ _ | refine blk_drew ?_ | refine blk_alloc ?_ _)); exact BK267.out⟩, ⟨by exact zh1_ HB.out GE267.out⟩⟩
      ·rw [if_neg c8] at H
       cases H
     ·rw [if_neg c7] at H
      cases H
    ·rw [if_neg c6] at H
     have c6b0 : decide (x14_1 < (l0_2.length : Int)) = false := decide_eq_false c6
     clear c6
     have H' := Aside0.mk H
     clear H
     obtain ⟨hcz10_0, hcz10_1, hcz10_2, hcz10_3⟩ := zc4 BK267.out
     obtain ⟨hfz10_0, hfz10_1, hfz10_2, hfz10_3⟩ := zz4 BK267.out
     go_wp2
     go_loopg [25] k1 (fun kq v25 w' => ∃ (x25_2 : Int), v25 = .int .i64 x25_2 ∧ Aside0 (ladingref06_made.l1 kq l0_3 (l0_3.length : Int) x25_2 a0_0 l0_1 l0_2 l0_3 = some r) ∧ Aside0 (kq ≤ k1) ∧ Aside0 (w'.heap[gb267]? = some (.cells #[.bool a0_0, (.slice A0_1 l0_1.length c0_1), (.slice A0_2 l0_2.length c0_2), (.slice A0_3 l0_3.length c0_3)] 25 (0, 0))) ∧ Aside0 (Below w.heap.size w w'))
     case atStart => exact ⟨(0), (by first | rfl | (simp; done) | (simp [*]; done) | (simp only [i64_w]; done)), H', ⟨Nat.le_refl _⟩, ⟨by (with_reducible repeat (first | refine blk_drewN ?_ _ | refine blk_drew ?_ | refine blk_alloc ?_ _)); exact BK267.out⟩, ⟨by exact zh1_ HB.out GE267.out⟩⟩
     case round =>
      clear H'
      try clear c2
      try clear p2
      try clear q2
      try clear hx2
      try clear c3
      try clear c6
      try clear c6b0
      try clear p6
      try clear c7
      try clear c7b0
      try clear c8
      try clear c8b0
      try clear c9
      try clear c9b0
      try clear c9b1
      try clear hcz10_0
      try clear hcz10_1
      try clear hcz10_2
      try clear hcz10_3
      try clear hcz5_0
      try clear hcz5_1
      try clear hcz5_2
      try clear hcz5_3
      try clear hfz10_0
      try clear hfz10_1
      try clear hfz10_2
      try clear hfz10_3
      try clear hfz5_0
      try clear hfz5_1
      try clear hfz5_2
      try clear hfz5_3
      try clear hx269_0
      try clear p2
      try clear p269
      try clear q269
      (try clear BK267)
      obtain ⟨x25_2, rfl, HA, HK2, BK267, HB⟩ := hrel
      cases gk with
      | zero => exact absurd HA.out (by simp [ladingref06_made.l1])
      | succ k2 =>
       have H := HA.out
       clear HA
       simp only [ladingref06_made.l1] at H
       by_cases c11 : x25_2 < (l0_3.length : Int)
       ·rw [if_pos c11] at H
        have c11b0 : decide (x25_2 < (l0_3.length : Int)) = true := decide_eq_true c11
        clear c11
        by_cases c12 : 0 ≤ x25_2
        ·rw [if_pos c12] at H
         have c12b0 : decide (0 ≤ x25_2) = true := decide_eq_true c12
         clear c12
         by_cases c13 : x25_2 < (l0_3.length : Int)
         ·rw [if_pos c13] at H
          have c13b0 : decide (x25_2 < (l0_3.length : Int)) = true := decide_eq_true c13
          clear c13
          by_cases c14 : (rd l0_3 x25_2) < 1
          ·rw [if_pos c14] at H
           have c14b0 : decide ((rd l0_3 x25_2) < 1) = true := decide_eq_true c14
           clear c14
           obtain rfl := Option.some.inj H
           have p270 : 0 ≤ (x25_2 : Int) := of_decide_eq_true za_
           have q270 : x25_2 < (l0_3.length : Int) := of_decide_eq_true za_
           obtain ⟨ad270, e270, hx270_0⟩ := Kd.at_int HR0_3.out x25_2 p270 q270
           cases e270
           replace hx270_0 := zx_ HB.out hx270_0
           replace p270 := eq_true p270
           replace q270 := eq_true q270
           go_wp2
           go_ret
           exact ⟨by first | rfl | (simp [errW_none, errW_some] <;> rfl) | (simp [*, errW_none, errW_some] <;> rfl), by exact zh1_ HB.out GE267.out⟩
          ·rw [if_neg c14] at H
           have c14b0 : decide ((rd l0_3 x25_2) < 1) = false := decide_eq_false c14
           clear c14
           by_cases c15 : (rd l0_3 x25_2) > 1023
           ·rw [if_pos c15] at H
            have c15b0 : decide (1023 < (rd l0_3 x25_2)) = true := decide_eq_true c15
            clear c15
            obtain rfl := Option.some.inj H
            have p270 : 0 ≤ (x25_2 : Int) := of_decide_eq_true za_
            have q270 : x25_2 < (l0_3.length : Int) := of_decide_eq_true za_
            obtain ⟨ad270, e270, hx270_0⟩ := Kd.at_int HR0_3.out x25_2 p270 q270
            cases e270
            replace hx270_0 := zx_ HB.out hx270_0
            replace p270 := eq_true p270
            replace q270 := eq_true q270
            go_wp2
            go_ret
            exact ⟨by first | rfl | (simp [errW_none, errW_some] <;> rfl) | (simp [*, errW_none, errW_some] <;> rfl), by exact zh1_ HB.out GE267.out⟩
           ·rw [if_neg c15] at H
            have c15b0 : decide (1023 < (rd l0_3 x25_2)) = false := decide_eq_false c15
            clear c15
            have H' := Aside0.mk H
            clear H
            have p270 : 0 ≤ (x25_2 : Int) := of_decide_eq_true za_
            have q270 : x25_2 < (l0_3.length : Int) := of_decide_eq_true za_
            obtain ⟨ad270, e270, hx270_0⟩ := Kd.at_int HR0_3.out x25_2 p270 q270
            cases e270
            replace hx270_0 := zx_ HB.out hx270_0
            replace p270 := eq_true p270
            replace q270 := eq_true q270
            go_wp2
            go_roundg k2
            case measure => have := HK1.out; have := HK2.out; omega
            case rel => exact ⟨(wrap64 (x25_2 + 1)), (by first | rfl | (simp; done) | (simp [*]; done) | (simp only [i64_w]; done)), H', ⟨by have := HK1.out; have := HK2.out; omega⟩, ⟨by (with_reducible repeat (first | refine blk_drewN ?_ _ | refine blk_drew ?_ | refine blk_alloc ?_ _)); exact BK267.out⟩, ⟨by exact zh1_ HB.out GE267.out⟩⟩
         ·rw [if_neg c13] at H
          cases H
        ·rw [if_neg c12] at H
         cases H
       ·rw [if_neg c11] at H
        have c11b0 : decide (x25_2 < (l0_3.length : Int)) = false := decide_eq_false c11
        clear c11
        by_cases c16 : a0_0 = true
        ·subst c16
         replace H := (if_pos (rfl : true = true)).symm.trans H
         by_cases c17 : (l0_2.length : Int) = (l0_1.length : Int)
         ·rw [if_pos c17] at H
          obtain ⟨c17b0, c17b1⟩ := zq1 c17
          have c17b2 : (l0_2.length == l0_1.length) = true := by first | simpa using c17 | (simp at c17 ⊢; omega)
          clear c17
          obtain rfl := Option.some.inj H
          obtain ⟨hcz18_0, hcz18_1, hcz18_2, hcz18_3⟩ := zc4 BK267.out
          obtain ⟨hfz18_0, hfz18_1, hfz18_2, hfz18_3⟩ := zz4 BK267.out
          go_wp2
          go_ret
          exact ⟨by first | rfl | (simp [errW_none, errW_some] <;> rfl) | (simp [*, errW_none, errW_some] <;> rfl), by exact zh1_ HB.out GE267.out⟩
         ·rw [if_neg c17] at H
          obtain ⟨c17b0, c17b1⟩ := zq0 c17
          have c17b2 : (l0_2.length == l0_1.length) = false := by first | simpa using c17 | (simp at c17 ⊢; omega)
          obtain rfl := Option.some.inj H
          obtain ⟨hcz19_0, hcz19_1, hcz19_2, hcz19_3⟩ := zc4 BK267.out
          obtain ⟨hfz19_0, hfz19_1, hfz19_2, hfz19_3⟩ := zz4 BK267.out
          go_wp2
          go_ret
          exact ⟨by first | rfl | (simp [errW_none, errW_some] <;> rfl) | (simp [*, errW_none, errW_some] <;> rfl), by exact zh1_ HB.out GE267.out⟩
        ·replace c16 := Bool.eq_false_iff.mpr c16
         subst c16
         replace H := (if_neg (show ¬ (false = true) by decide)).symm.trans H
         by_cases c20 : (l0_1.length : Int) > 0
         ·rw [if_pos c20] at H
          have c20b0 : decide (0 < (l0_1.length : Int)) = true := decide_eq_true c20
          have c20b1 : decide (0 < l0_1.length) = true := decide_eq_true (by omega)
          clear c20
          by_cases c21 : (l0_3.length : Int) = (wrap64 ((l0_1.length : Int) + 1))
          ·rw [if_pos c21] at H
           obtain ⟨c21b0, c21b1⟩ := zq1 c21
           clear c21
           obtain rfl := Option.some.inj H
           obtain ⟨hcz22_0, hcz22_1, hcz22_2, hcz22_3⟩ := zc4 BK267.out
           obtain ⟨hfz22_0, hfz22_1, hfz22_2, hfz22_3⟩ := zz4 BK267.out
           go_wp2
           go_ret
           exact ⟨by first | rfl | (simp [errW_none, errW_some] <;> rfl) | (simp [*, errW_none, errW_some] <;> rfl), by exact zh1_ HB.out GE267.out⟩
          ·rw [if_neg c21] at H
           obtain ⟨c21b0, c21b1⟩ := zq0 c21
           obtain rfl := Option.some.inj H
           obtain ⟨hcz23_0, hcz23_1, hcz23_2, hcz23_3⟩ := zc4 BK267.out
           obtain ⟨hfz23_0, hfz23_1, hfz23_2, hfz23_3⟩ := zz4 BK267.out
           go_wp2
           go_ret
           exact ⟨by first | rfl | (simp [errW_none, errW_some] <;> rfl) | (simp [*, errW_none, errW_some] <;> rfl), by exact zh1_ HB.out GE267.out⟩
         ·rw [if_neg c20] at H
          have c20b0 : decide (0 < (l0_1.length : Int)) = false := decide_eq_false c20
          have c20b1 : decide (0 < l0_1.length) = false := decide_eq_false (by omega)
          clear c20
          obtain rfl := Option.some.inj H
          obtain ⟨hcz24_0, hcz24_1, hcz24_2, hcz24_3⟩ := zc4 BK267.out
          obtain ⟨hfz24_0, hfz24_1, hfz24_2, hfz24_3⟩ := zz4 BK267.out
          go_wp2
          go_ret
          exact ⟨by first | rfl | (simp [errW_none, errW_some] <;> rfl) | (simp [*, errW_none, errW_some] <;> rfl), by exact zh1_ HB.out GE267.out⟩
 ·replace c3 := Bool.eq_false_iff.mpr c3
  subst c3
  replace H := (if_neg (show ¬ (false = true) by decide)).symm.trans H
  obtain rfl := Option.some.inj H
  go_enter Tryd.func33, Tryd.ntmps33
  go_wp2_with (first | ((with_reducible refine gate_dst (N := 1) rfl ?_); (try (refine gate_guard (by rfl) ?_; dsimp only)); refine box_event ?hg (N := 1) ?hd (cs := #[.bool a0_0, .slice A0_1 l0_1.length c0_1, .slice A0_2 l0_2.length c0_2, .slice A0_3 l0_3.length c0_3]) (t := 25) ?hr ?_; (case hd => rfl); (case hg => rfl); (case hr => first | (go_simp; done) | (go_simp; rfl)); intro gb267 hg w25 hbox hb; have BK267 := Aside0.mk (hbox); have GW267 := Aside0.mk ((by rw [hg]; exact (below_size (zh0_ HB.out)) : w.heap.size ≤ gb267)); have GE267 := Aside0.mk ((by rw [hg]; exact (below_size (zh0_ HB.out)) : w.heap.size ≤ gb267)); replace HB := Aside0.mk (below_step (zh0_ HB.out) hb); clear hb hbox hg; obtain ⟨hcz26_0, hcz26_1, hcz26_2, hcz26_3⟩ := zc4 BK267.out; obtain ⟨hfz26_0, hfz26_1, hfz26_2, hfz26_3⟩ := zz4 BK267.out) | ((with_reducible refine gate_callee (f := 65) rfl ?_); refine goesL_ (some 9) rfl rfl Tryd.func65 (by kernel_rfl) rfl #[.slice A0_1 l0_1.length c0_1] rfl zl_ ?_; (with_reducible refine (ladingref06_rises.calls k _ _ l0_1 false _ ?side1 ?side2 A2.out).mono ?_); (case side1 => exact zc_ (Kd.C_below HR0_1.out HB.out)); (case side2 => exact HC0_1.out); rintro e w' ⟨rfl, ⟨nd, rfl⟩⟩; refine ⟨_, rfl, ?_⟩))
  go_ret
  exact ⟨by first | rfl | (simp [errW_none, errW_some] <;> rfl) | (simp [*, errW_none, errW_some] <;> rfl), by exact zh1_ HB.out GE267.out⟩
end Go.Proofs.YtcbgichkeecgiaaDoor.Print
namespace Go.Proofs.YtcbgichkeecgiaaDoor.Print
open Go.RowKit Go.Proofs.YtcbgichkeecgiaaDoorW.PrintWords Go.Proofs.YtcbgichkeecgiaaDoorW.PrintLast Go.Proofs.YtcbgichkeecgiaaDoorW.PrintMore
attribute [local go_sem] max2_mx min2_mn max_two min_two max_three min_three max_four min_four
set_option linter.unusedVariables false
set_option linter.unusedSimpArgs false
def ladingref06_Size.f (k : Nat) (a0_0 : Bool) (l0_1 : List (List Int)) (l0_2 : List (List Int)) (l0_3 : List Int) : Option (Int) := (ladingref06_made.f k a0_0 l0_1 l0_2 l0_3).bind fun t272 => (if t272 = true then ((ladingref06_text.f k a0_0 l0_1 l0_2 l0_3).bind fun t273 => (some (wrap64 ((t273.length : Int) + 4)))) else (some 0))
set_option maxHeartbeats 8000000 in
set_option maxRecDepth 100000 in
theorem ladingref06_Size.calls (k : Nat) (a0_0 : Bool) (A0_1 : Option Addr) (c0_1 : Nat) (l0_1 : List (List Int)) (A0_2 : Option Addr) (c0_2 : Nat) (l0_2 : List (List Int)) (A0_3 : Option Addr) (c0_3 : Nat) (l0_3 : List Int) (r : Int) (w : World) (hr0_1 : Kd.C (Kd.slice 5 (Kd.int .u8)) w A0_1 l0_1.length l0_1) (hc0_1 : l0_1.length ≤ c0_1) (hr0_2 : Kd.C (Kd.slice 5 (Kd.int .u8)) w A0_2 l0_2.length l0_2) (hc0_2 : l0_2.length ≤ c0_2) (hr0_3 : Kd.C (Kd.int .i64) w A0_3 l0_3.length l0_3) (hc0_3 : l0_3.length ≤ c0_3) (h : ladingref06_Size.f k a0_0 l0_1 l0_2 l0_3 = some r) :
  Calls Tryd.prog 14 #[.agg #[.bool a0_0, .slice A0_1 l0_1.length c0_1, .slice A0_2 l0_2.length c0_2, .slice A0_3 l0_3.length c0_3]] w fun e w' => e = .returned (.int .i64 r) ∧ Below w.heap.size w w' := by
 have hu25 := Tryd.underlying25
 have HR0_1 := Aside0.mk hr0_1
 have HC0_1 := Aside0.mk hc0_1
 clear hr0_1 hc0_1
 have HR0_2 := Aside0.mk hr0_2
 have HC0_2 := Aside0.mk hc0_2
 clear hr0_2 hc0_2
 have HR0_3 := Aside0.mk hr0_3
 have HC0_3 := Aside0.mk hc0_3
 clear hr0_3 hc0_3
 have HB := Aside0.mk (Below.refl w.heap.size w)
 have H : ((ladingref06_made.f k a0_0 l0_1 l0_2 l0_3).bind fun t272 => (if t272 = true then ((ladingref06_text.f k a0_0 l0_1 l0_2 l0_3).bind fun t273 => (some (wrap64 ((t273.length : Int) + 4)))) else (some 0))) = some r := h
 clear h
 obtain ⟨t272, A2, H⟩ := zm H
 (try dsimp only at H)
 by_cases c3 : t272 = true
 ·subst c3
  replace H := (if_pos (rfl : true = true)).symm.trans H
  obtain ⟨t273, A4, H⟩ := zm H
  (try dsimp only at H)
  obtain rfl := Option.some.inj H
  go_enter Tryd.func14, Tryd.ntmps14
  go_wp2_with (first | ((with_reducible refine gate_dst (N := 1) rfl ?_); refine box_event ?hg (N := 1) ?hd (cs := #[.bool a0_0, .slice A0_1 l0_1.length c0_1, .slice A0_2 l0_2.length c0_2, .slice A0_3 l0_3.length c0_3]) (t := 25) ?hr ?_; (case hd => rfl); (case hg => rfl); (case hr => first | (go_simp; done) | (go_simp; rfl)); intro gb271 hg w5 hbox hb; have BK271 := Aside0.mk (hbox); have GW271 := Aside0.mk ((by rw [hg]; exact (below_size (zh0_ HB.out)) : w.heap.size ≤ gb271)); have GE271 := Aside0.mk ((by rw [hg]; exact (below_size (zh0_ HB.out)) : w.heap.size ≤ gb271)); replace HB := Aside0.mk (below_step (zh0_ HB.out) hb); clear hb hbox hg; obtain ⟨hcz6_0, hcz6_1, hcz6_2, hcz6_3⟩ := zc4 BK271.out; obtain ⟨hfz6_0, hfz6_1, hfz6_2, hfz6_3⟩ := zz4 BK271.out) | ((with_reducible refine gate_callee (f := 33) rfl ?_); refine goesL_ (some 4) rfl rfl Tryd.func33 (by kernel_rfl) rfl #[.agg #[.bool a0_0, .slice A0_1 l0_1.length c0_1, .slice A0_2 l0_2.length c0_2, .slice A0_3 l0_3.length c0_3]] rfl zl_ ?_; (with_reducible refine (ladingref06_made.calls k a0_0 _ _ l0_1 _ _ l0_2 _ _ l0_3 true _ ?side1 ?side2 ?side3 ?side4 ?side5 ?side6 A2.out).mono ?_); (case side1 => exact zc_ (Kd.C_below HR0_1.out HB.out)); (case side2 => exact HC0_1.out); (case side3 => exact zc_ (Kd.C_below HR0_2.out HB.out)); (case side4 => exact HC0_2.out); (case side5 => exact zc_ (Kd.C_below HR0_3.out HB.out)); (case side6 => exact HC0_3.out); rintro e w7 ⟨rfl, hb⟩; refine ⟨_, rfl, ?_⟩; replace BK271 := Aside0.mk (blk_below (zb_ BK271.out) hb); replace HB := Aside0.mk (below_step (zh1_ HB.out GE271.out) hb); (try clear hb); obtain ⟨hcz8_0, hcz8_1, hcz8_2, hcz8_3⟩ := zc4 BK271.out; obtain ⟨hfz8_0, hfz8_1, hfz8_2, hfz8_3⟩ := zz4 BK271.out) | ((with_reducible refine gate_callee (f := 20) rfl ?_); refine goesL_ (some 7) rfl rfl Tryd.func20 (by kernel_rfl) rfl #[.agg #[.bool a0_0, .slice A0_1 l0_1.length c0_1, .slice A0_2 l0_2.length c0_2, .slice A0_3 l0_3.length c0_3]] rfl zl_ ?_; (with_reducible refine (ladingref06_text.calls k a0_0 _ _ l0_1 _ _ l0_2 _ _ l0_3 t273 _ ?side1 ?side2 ?side3 ?side4 ?side5 ?side6 A4.out).mono ?_); (case side1 => exact zc_ (Kd.C_below HR0_1.out HB.out)); (case side2 => exact HC0_1.out); (case side3 => exact zc_ (Kd.C_below HR0_2.out HB.out)); (case side4 => exact HC0_2.out); (case side5 => exact zc_ (Kd.C_below HR0_3.out HB.out)); (case side6 => exact HC0_3.out); rintro e w9 ⟨v274, rfl, ho0, hb⟩; refine ⟨_, rfl, ?_⟩; have HO275 := Aside0.mk (Kd.R_lower ho0 (below_size (zh1_ HB.out GE271.out))); replace BK271 := Aside0.mk (blk_below (zb_ BK271.out) hb); replace HB := Aside0.mk (below_step (zh1_ HB.out GE271.out) hb); (try clear hb); (try clear ho0); obtain ⟨Ao10, co10, eo10⟩ := Kd.R_slice HO275.out; subst eo10))
  go_ret
  exact ⟨by first | rfl | (simp [errW_none, errW_some] <;> rfl) | (simp [*, errW_none, errW_some] <;> rfl), by exact zh1_ HB.out GE271.out⟩
 ·replace c3 := Bool.eq_false_iff.mpr c3
  subst c3
  replace H := (if_neg (show ¬ (false = true) by decide)).symm.trans H
  obtain rfl := Option.some.inj H
  go_enter Tryd.func14, Tryd.ntmps14
  go_wp2_with (first | ((with_reducible refine gate_dst (N := 1) rfl ?_); refine box_event ?hg (N := 1) ?hd (cs := #[.bool a0_0, .slice A0_1 l0_1.length c0_1, .slice A0_2 l0_2.length c0_2, .slice A0_3 l0_3.length c0_3]) (t := 25) ?hr ?_; (case hd => rfl); (case hg => rfl); (case hr => first | (go_simp; done) | (go_simp; rfl)); intro gb271 hg w11 hbox hb; have BK271 := Aside0.mk (hbox); have GW271 := Aside0.mk ((by rw [hg]; exact (below_size (zh0_ HB.out)) : w.heap.size ≤ gb271)); have GE271 := Aside0.mk ((by rw [hg]; exact (below_size (zh0_ HB.out)) : w.heap.size ≤ gb271)); replace HB := Aside0.mk (below_step (zh0_ HB.out) hb); clear hb hbox hg; obtain ⟨hcz12_0, hcz12_1, hcz12_2, hcz12_3⟩ := zc4 BK271.out; obtain ⟨hfz12_0, hfz12_1, hfz12_2, hfz12_3⟩ := zz4 BK271.out) | ((with_reducible refine gate_callee (f := 33) rfl ?_); refine goesL_ (some 4) rfl rfl Tryd.func33 (by kernel_rfl) rfl #[.agg #[.bool a0_0, .slice A0_1 l0_1.length c0_1, .slice A0_2 l0_2.length c0_2, .slice A0_3 l0_3.length c0_3]] rfl zl_ ?_; (with_reducible refine (ladingref06_made.calls k a0_0 _ _ l0_1 _ _ l0_2 _ _ l0_3 false _ ?side1 ?side2 ?side3 ?side4 ?side5 ?side6 A2.out).mono ?_); (case side1 => exact zc_ (Kd.C_below HR0_1.out HB.out)); (case side2 => exact HC0_1.out); (case side3 => exact zc_ (Kd.C_below HR0_2.out HB.out)); (case side4 => exact HC0_2.out); (case side5 => exact zc_ (Kd.C_below HR0_3.out HB.out)); (case side6 => exact HC0_3.out); rintro e w13 ⟨rfl, hb⟩; refine ⟨_, rfl, ?_⟩; replace BK271 := Aside0.mk (blk_below (zb_ BK271.out) hb); replace HB := Aside0.mk (below_step (zh1_ HB.out GE271.out) hb); (try clear hb)))
  go_ret
  exact ⟨by first | rfl | (simp [errW_none, errW_some] <;> rfl) | (simp [*, errW_none, errW_some] <;> rfl), by exact zh1_ HB.out GE271.out⟩
def ladingref06_Check.f (k : Nat) (a0_0 : Bool) (l0_1 : List (List Int)) (l0_2 : List (List Int)) (l0_3 : List Int) : Option (Int) := (ladingref06_made.f k a0_0 l0_1 l0_2 l0_3).bind fun t277 => (if t277 = true then ((ladingref06_Size.f k a0_0 l0_1 l0_2 l0_3).bind fun t278 => (if t278 > 4096 then (some 7) else (some 0))) else (some 2))
set_option maxHeartbeats 8000000 in
set_option maxRecDepth 100000 in
theorem ladingref06_Check.calls (k : Nat) (a0_0 : Bool) (A0_1 : Option Addr) (c0_1 : Nat) (l0_1 : List (List Int)) (A0_2 : Option Addr) (c0_2 : Nat) (l0_2 : List (List Int)) (A0_3 : Option Addr) (c0_3 : Nat) (l0_3 : List Int) (r : Int) (w : World) (hr0_1 : Kd.C (Kd.slice 5 (Kd.int .u8)) w A0_1 l0_1.length l0_1) (hc0_1 : l0_1.length ≤ c0_1) (hr0_2 : Kd.C (Kd.slice 5 (Kd.int .u8)) w A0_2 l0_2.length l0_2) (hc0_2 : l0_2.length ≤ c0_2) (hr0_3 : Kd.C (Kd.int .i64) w A0_3 l0_3.length l0_3) (hc0_3 : l0_3.length ≤ c0_3) (h : ladingref06_Check.f k a0_0 l0_1 l0_2 l0_3 = some r) :
  Calls Tryd.prog 12 #[.agg #[.bool a0_0, .slice A0_1 l0_1.length c0_1, .slice A0_2 l0_2.length c0_2, .slice A0_3 l0_3.length c0_3]] w fun e w' => e = .returned (.int .i64 r) ∧ Below w.heap.size w w' := by
 have hu25 := Tryd.underlying25
 have HR0_1 := Aside0.mk hr0_1
 have HC0_1 := Aside0.mk hc0_1
 clear hr0_1 hc0_1
 have HR0_2 := Aside0.mk hr0_2
 have HC0_2 := Aside0.mk hc0_2
 clear hr0_2 hc0_2
 have HR0_3 := Aside0.mk hr0_3
 have HC0_3 := Aside0.mk hc0_3
 clear hr0_3 hc0_3
 have HB := Aside0.mk (Below.refl w.heap.size w)
 have H : ((ladingref06_made.f k a0_0 l0_1 l0_2 l0_3).bind fun t277 => (if t277 = true then ((ladingref06_Size.f k a0_0 l0_1 l0_2 l0_3).bind fun t278 => (if t278 > 4096 then (some 7) else (some 0))) else (some 2))) = some r := h
 clear h
 obtain ⟨t277, A2, H⟩ := zm H
 (try dsimp only at H)
 by_cases c3 : t277 = true
 ·subst c3
  replace H := (if_pos (rfl : true = true)).symm.trans H
  obtain ⟨t278, A4, H⟩ := zm H
  (try dsimp only at H)
  by_cases c5 : t278 > 4096
  ·rw [if_pos c5] at H
   have c5b0 : decide (4096 < t278) = true := decide_eq_true c5
   clear c5
   obtain rfl := Option.some.inj H
   go_enter Tryd.func12, Tryd.ntmps12
   go_wp2_with (first | ((with_reducible refine gate_dst (N := 1) rfl ?_); refine box_event ?hg (N := 1) ?hd (cs := #[.bool a0_0, .slice A0_1 l0_1.length c0_1, .slice A0_2 l0_2.length c0_2, .slice A0_3 l0_3.length c0_3]) (t := 25) ?hr ?_; (case hd => rfl); (case hg => rfl); (case hr => first | (go_simp; done) | (go_simp; rfl)); intro gb276 hg w6 hbox hb; have BK276 := Aside0.mk (hbox); have GW276 := Aside0.mk ((by rw [hg]; exact (below_size (zh0_ HB.out)) : w.heap.size ≤ gb276)); have GE276 := Aside0.mk ((by rw [hg]; exact (below_size (zh0_ HB.out)) : w.heap.size ≤ gb276)); replace HB := Aside0.mk (below_step (zh0_ HB.out) hb); clear hb hbox hg; obtain ⟨hcz7_0, hcz7_1, hcz7_2, hcz7_3⟩ := zc4 BK276.out; obtain ⟨hfz7_0, hfz7_1, hfz7_2, hfz7_3⟩ := zz4 BK276.out) | ((with_reducible refine gate_callee (f := 33) rfl ?_); refine goesL_ (some 5) rfl rfl Tryd.func33 (by kernel_rfl) rfl #[.agg #[.bool a0_0, .slice A0_1 l0_1.length c0_1, .slice A0_2 l0_2.length c0_2, .slice A0_3 l0_3.length c0_3]] rfl zl_ ?_; (with_reducible refine (ladingref06_made.calls k a0_0 _ _ l0_1 _ _ l0_2 _ _ l0_3 true _ ?side1 ?side2 ?side3 ?side4 ?side5 ?side6 A2.out).mono ?_); (case side1 => exact zc_ (Kd.C_below HR0_1.out HB.out)); (case side2 => exact HC0_1.out); (case side3 => exact zc_ (Kd.C_below HR0_2.out HB.out)); (case side4 => exact HC0_2.out); (case side5 => exact zc_ (Kd.C_below HR0_3.out HB.out)); (case side6 => exact HC0_3.out); rintro e w8 ⟨rfl, hb⟩; refine ⟨_, rfl, ?_⟩; replace BK276 := Aside0.mk (blk_below (zb_ BK276.out) hb); replace HB := Aside0.mk (below_step (zh1_ HB.out GE276.out) hb); (try clear hb); obtain ⟨hcz9_0, hcz9_1, hcz9_2, hcz9_3⟩ := zc4 BK276.out; obtain ⟨hfz9_0, hfz9_1, hfz9_2, hfz9_3⟩ := zz4 BK276.out) | ((with_reducible refine gate_callee (f := 14) rfl ?_); refine goesL_ (some 9) rfl rfl Tryd.func14 (by kernel_rfl) rfl #[.agg #[.bool a0_0, .slice A0_1 l0_1.length c0_1, .slice A0_2 l0_2.length c0_2, .slice A0_3 l0_3.length c0_3]] rfl zl_ ?_; (with_reducible refine (ladingref06_Size.calls k a0_0 _ _ l0_1 _ _ l0_2 _ _ l0_3 t278 _ ?side1 ?side2 ?side3 ?side4 ?side5 ?side6 A4.out).mono ?_); (case side1 => exact zc_ (Kd.C_below HR0_1.out HB.out)); (case side2 => exact HC0_1.out); (case side3 => exact zc_ (Kd.C_below HR0_2.out HB.out)); (case side4 => exact HC0_2.out); (case side5 => exact zc_ (Kd.C_below HR0_3.out HB.out)); (case side6 => exact HC0_3.out); rintro e w10 ⟨rfl, hb⟩; refine ⟨_, rfl, ?_⟩; replace BK276 := Aside0.mk (blk_below (zb_ BK276.out) hb); replace HB := Aside0.mk (below_step (zh1_ HB.out GE276.out) hb); (try clear hb)))
   go_ret
   exact ⟨by first | rfl | (simp [errW_none, errW_some] <;> rfl) | (simp [*, errW_none, errW_some] <;> rfl), by exact zh1_ HB.out GE276.out⟩
  ·rw [if_neg c5] at H
   have c5b0 : decide (4096 < t278) = false := decide_eq_false c5
   clear c5
   obtain rfl := Option.some.inj H
   go_enter Tryd.func12, Tryd.ntmps12
   go_wp2_with (first | ((with_reducible refine gate_dst (N := 1) rfl ?_); refine box_event ?hg (N := 1) ?hd (cs := #[.bool a0_0, .slice A0_1 l0_1.length c0_1, .slice A0_2 l0_2.length c0_2, .slice A0_3 l0_3.length c0_3]) (t := 25) ?hr ?_; (case hd => rfl); (case hg => rfl); (case hr => first | (go_simp; done) | (go_simp; rfl)); intro gb276 hg w11 hbox hb; have BK276 := Aside0.mk (hbox); have GW276 := Aside0.mk ((by rw [hg]; exact (below_size (zh0_ HB.out)) : w.heap.size ≤ gb276)); have GE276 := Aside0.mk ((by rw [hg]; exact (below_size (zh0_ HB.out)) : w.heap.size ≤ gb276)); replace HB := Aside0.mk (below_step (zh0_ HB.out) hb); clear hb hbox hg; obtain ⟨hcz12_0, hcz12_1, hcz12_2, hcz12_3⟩ := zc4 BK276.out; obtain ⟨hfz12_0, hfz12_1, hfz12_2, hfz12_3⟩ := zz4 BK276.out) | ((with_reducible refine gate_callee (f := 33) rfl ?_); refine goesL_ (some 5) rfl rfl Tryd.func33 (by kernel_rfl) rfl #[.agg #[.bool a0_0, .slice A0_1 l0_1.length c0_1, .slice A0_2 l0_2.length c0_2, .slice A0_3 l0_3.length c0_3]] rfl zl_ ?_; (with_reducible refine (ladingref06_made.calls k a0_0 _ _ l0_1 _ _ l0_2 _ _ l0_3 true _ ?side1 ?side2 ?side3 ?side4 ?side5 ?side6 A2.out).mono ?_); (case side1 => exact zc_ (Kd.C_below HR0_1.out HB.out)); (case side2 => exact HC0_1.out); (case side3 => exact zc_ (Kd.C_below HR0_2.out HB.out)); (case side4 => exact HC0_2.out); (case side5 => exact zc_ (Kd.C_below HR0_3.out HB.out)); (case side6 => exact HC0_3.out); rintro e w13 ⟨rfl, hb⟩; refine ⟨_, rfl, ?_⟩; replace BK276 := Aside0.mk (blk_below (zb_ BK276.out) hb); replace HB := Aside0.mk (below_step (zh1_ HB.out GE276.out) hb); (try clear hb); obtain ⟨hcz14_0, hcz14_1, hcz14_2, hcz14_3⟩ := zc4 BK276.out; obtain ⟨hfz14_0, hfz14_1, hfz14_2, hfz14_3⟩ := zz4 BK276.out) | ((with_reducible refine gate_callee (f := 14) rfl ?_); refine goesL_ (some 9) rfl rfl Tryd.func14 (by kernel_rfl) rfl #[.agg #[.bool a0_0, .slice A0_1 l0_1.length c0_1, .slice A0_2 l0_2.length c0_2, .slice A0_3 l0_3.length c0_3]] rfl zl_ ?_; (with_reducible refine (ladingref06_Size.calls k a0_0 _ _ l0_1 _ _ l0_2 _ _ l0_3 t278 _ ?side1 ?side2 ?side3 ?side4 ?side5 ?side6 A4.out).mono ?_); (case side1 => exact zc_ (Kd.C_below HR0_1.out HB.out)); (case side2 => exact HC0_1.out); (case side3 => exact zc_ (Kd.C_below HR0_2.out HB.out)); (case side4 => exact HC0_2.out); (case side5 => exact zc_ (Kd.C_below HR0_3.out HB.out)); (case side6 => exact HC0_3.out); rintro e w15 ⟨rfl, hb⟩; refine ⟨_, rfl, ?_⟩; replace BK276 := Aside0.mk (blk_below (zb_ BK276.out) hb); replace HB := Aside0.mk (below_step (zh1_ HB.out GE276.out) hb); (try clear hb)))
   go_ret
   exact ⟨by first | rfl | (simp [errW_none, errW_some] <;> rfl) | (simp [*, errW_none, errW_some] <;> rfl), by exact zh1_ HB.out GE276.out⟩
 ·replace c3 := Bool.eq_false_iff.mpr c3
  subst c3
  replace H := (if_neg (show ¬ (false = true) by decide)).symm.trans H
  obtain rfl := Option.some.inj H
  go_enter Tryd.func12, Tryd.ntmps12
  go_wp2_with (first | ((with_reducible refine gate_dst (N := 1) rfl ?_); refine box_event ?hg (N := 1) ?hd (cs := #[.bool a0_0, .slice A0_1 l0_1.length c0_1, .slice A0_2 l0_2.length c0_2, .slice A0_3 l0_3.length c0_3]) (t := 25) ?hr ?_; (case hd => rfl); (case hg => rfl); (case hr => first | (go_simp; done) | (go_simp; rfl)); intro gb276 hg w16 hbox hb; have BK276 := Aside0.mk (hbox); have GW276 := Aside0.mk ((by rw [hg]; exact (below_size (zh0_ HB.out)) : w.heap.size ≤ gb276)); have GE276 := Aside0.mk ((by rw [hg]; exact (below_size (zh0_ HB.out)) : w.heap.size ≤ gb276)); replace HB := Aside0.mk (below_step (zh0_ HB.out) hb); clear hb hbox hg; obtain ⟨hcz17_0, hcz17_1, hcz17_2, hcz17_3⟩ := zc4 BK276.out; obtain ⟨hfz17_0, hfz17_1, hfz17_2, hfz17_3⟩ := zz4 BK276.out) | ((with_reducible refine gate_callee (f := 33) rfl ?_); refine goesL_ (some 5) rfl rfl Tryd.func33 (by kernel_rfl) rfl #[.agg #[.bool a0_0, .slice A0_1 l0_1.length c0_1, .slice A0_2 l0_2.length c0_2, .slice A0_3 l0_3.length c0_3]] rfl zl_ ?_; (with_reducible refine (ladingref06_made.calls k a0_0 _ _ l0_1 _ _ l0_2 _ _ l0_3 false _ ?side1 ?side2 ?side3 ?side4 ?side5 ?side6 A2.out).mono ?_); (case side1 => exact zc_ (Kd.C_below HR0_1.out HB.out)); (case side2 => exact HC0_1.out); (case side3 => exact zc_ (Kd.C_below HR0_2.out HB.out)); (case side4 => exact HC0_2.out); (case side5 => exact zc_ (Kd.C_below HR0_3.out HB.out)); (case side6 => exact HC0_3.out); rintro e w18 ⟨rfl, hb⟩; refine ⟨_, rfl, ?_⟩; replace BK276 := Aside0.mk (blk_below (zb_ BK276.out) hb); replace HB := Aside0.mk (below_step (zh1_ HB.out GE276.out) hb); (try clear hb)))
  go_ret
  exact ⟨by first | rfl | (simp [errW_none, errW_some] <;> rfl) | (simp [*, errW_none, errW_some] <;> rfl), by exact zh1_ HB.out GE276.out⟩
def ladingref02_bits.l0 : Nat → Int → Int → Option (Int)
 | 0, _, _ => none
 | k + 1, x0, x3 => if x3 < 8 then (if (Int.tmod x0 2) = 1 then (ladingref02_bits.l0 k (Go.bits .xor .u32 (x0 / 2) 3988292384) (wrap64 (x3 + 1))) else (ladingref02_bits.l0 k (x0 / 2) (wrap64 (x3 + 1)))) else (some x0)
def ladingref02_bits.f (k : Nat) (a0 : Int) : Option (Int) := ladingref02_bits.l0 k a0 0
set_option maxHeartbeats 8000000 in
set_option maxRecDepth 100000 in
theorem ladingref02_bits.calls (k : Nat) (a0 : Int) (r : Int) (w : World) (h : ladingref02_bits.f k a0 = some r) :
  Calls Tryd.prog 84 #[.int .u32 a0] w fun e w' => e = .returned (.int .u32 r) ∧ Drawn0 w w' := by
 have H : (ladingref02_bits.l0 k a0 0) = some r := h
 clear h
 have H' := Aside0.mk H
 clear H
 go_enter Tryd.func84, Tryd.ntmps84
 go_wp2
 go_loopg [0, 3] k (fun kq v0 v3 w' => ∃ (x0_1 : Int) (x3_1 : Int), v0 = .int .u32 x0_1 ∧ v3 = .int .i64 x3_1 ∧ Aside0 (ladingref02_bits.l0 kq x0_1 x3_1 = some r) ∧ Aside0 (kq ≤ k) ∧ Drawn0 w w')
 case atStart => exact ⟨(a0), (0), (by first | rfl | (simp; done) | (simp [*]; done) | (simp only [i64_w]; done)), (by first | rfl | (simp; done) | (simp [*]; done) | (simp only [i64_w]; done)), H', ⟨Nat.le_refl _⟩, by repeat (first | exact Drawn0.refl _ | apply Drawn0.step)⟩
 case round =>
  clear H'
  obtain ⟨x0_1, x3_1, rfl, rfl, HA, HK1, ⟨m1, rfl⟩⟩ := hrel
  cases gk with
  | zero => exact absurd HA.out (by simp [ladingref02_bits.l0])
  | succ k1 =>
   have H := HA.out
   clear HA
   simp only [ladingref02_bits.l0] at H
   by_cases c2 : x3_1 < 8
   ·rw [if_pos c2] at H
    have c2b0 : decide (x3_1 < 8) = true := decide_eq_true c2
    clear c2
    by_cases c3 : (Int.tmod x0_1 2) = 1
    ·rw [if_pos c3] at H
     obtain ⟨c3b0, c3b1⟩ := zq1 c3
     clear c3
     have H' := Aside0.mk H
     clear H
     go_wp2
     go_roundg k1
     case measure => have := HK1.out; omega
     case rel => exact ⟨(Go.bits .xor .u32 (x0_1 / 2) 3988292384), (wrap64 (x3_1 + 1)), (by first | rfl | (simp; done) | (simp [*]; done) | (simp only [i64_w]; done)), (by first | rfl | (simp; done) | (simp [*]; done) | (simp only [i64_w]; done)), H', ⟨by have := HK1.out; omega⟩, by repeat (first | exact Drawn0.refl _ | apply Drawn0.step)⟩
    ·rw [if_neg c3] at H
     obtain ⟨c3b0, c3b1⟩ := zq0 c3
     have H' := Aside0.mk H
     clear H
     go_wp2
     go_roundg k1
     case measure => have := HK1.out; omega
     case rel => exact ⟨(x0_1 / 2), (wrap64 (x3_1 + 1)), (by first | rfl | (simp; done) | (simp [*]; done) | (simp only [i64_w]; done)), (by first | rfl | (simp; done) | (simp [*]; done) | (simp only [i64_w]; done)), H', ⟨by have := HK1.out; omega⟩, by repeat (first | exact Drawn0.refl _ | apply Drawn0.step)⟩
   ·rw [if_neg c2] at H
    have c2b0 : decide (x3_1 < 8) = false := decide_eq_false c2
    clear c2
    obtain rfl := Option.some.inj H
    go_wp2
    go_ret
    exact ⟨by first | rfl | (simp; done) | (simp [*]; done), by repeat (first | exact Drawn0.refl _ | apply Drawn0.step)⟩
end Go.Proofs.YtcbgichkeecgiaaDoor.Print
namespace Go.Proofs.YtcbgichkeecgiaaDoor.Print
open Go.RowKit Go.Proofs.YtcbgichkeecgiaaDoorW.PrintWords Go.Proofs.YtcbgichkeecgiaaDoorW.PrintLast Go.Proofs.YtcbgichkeecgiaaDoorW.PrintMore
attribute [local go_sem] max2_mx min2_mn max_two min_two max_three min_three max_four min_four
set_option linter.unusedVariables false
set_option linter.unusedSimpArgs false
def ladingref02_Update.l0 : Nat → Int → List Int → Int → Int → Option (Int)
 | 0, _, _, _, _ => none
 | k + 1, x5, x10, x11, x12 => if x12 < x11 then (if 0 ≤ x12 then (if x12 < (x10.length : Int) then ((ladingref02_bits.f k (Go.bits .xor .u32 x5 ((rd x10 x12) % 4294967296))).bind fun t280 => (ladingref02_Update.l0 k t280 x10 x11 (wrap64 (x12 + 1)))) else (none)) else (none)) else (some (Go.bits .xor .u32 4294967295 x5))
def ladingref02_Update.f (k : Nat) (a0 : Int) (l1 : List Int) : Option (Int) := ladingref02_Update.l0 k (Go.bits .xor .u32 4294967295 a0) l1 (l1.length : Int) 0
set_option maxHeartbeats 8000000 in
set_option maxRecDepth 100000 in
theorem ladingref02_Update.calls (k : Nat) (a0 : Int) (A1 : Option Addr) (c1 : Nat) (l1 : List Int) (r : Int) (w : World) (hr1 : Kd.C (Kd.int .u8) w A1 l1.length l1) (hc1 : l1.length ≤ c1) (h : ladingref02_Update.f k a0 l1 = some r) :
  Calls Tryd.prog 67 #[.int .u32 a0, .slice A1 l1.length c1] w fun e w' => e = .returned (.int .u32 r) ∧ Drawn0 w w' := by
 have HR1 := Aside0.mk hr1
 have HC1 := Aside0.mk hc1
 clear hr1 hc1
 have H : (ladingref02_Update.l0 k (Go.bits .xor .u32 4294967295 a0) l1 (l1.length : Int) 0) = some r := h
 clear h
 have H' := Aside0.mk H
 clear H
 go_enter Tryd.func67, Tryd.ntmps67
 go_wp2
 go_loopg [5, 12] k (fun kq v5 v12 w' => ∃ (x5_1 : Int) (x12_1 : Int), v5 = .int .u32 x5_1 ∧ v12 = .int .i64 x12_1 ∧ Aside0 (ladingref02_Update.l0 kq x5_1 l1 (l1.length : Int) x12_1 = some r) ∧ Aside0 (kq ≤ k) ∧ Drawn0 w w')
 case atStart => exact ⟨(Go.bits .xor .u32 4294967295 a0), (0), (by first | rfl | (simp; done) | (simp [*]; done) | (simp only [i64_w]; done)), (by first | rfl | (simp; done) | (simp [*]; done) | (simp only [i64_w]; done)), H', ⟨Nat.le_refl _⟩, by repeat (first | exact Drawn0.refl _ | apply Drawn0.step)⟩
 case round =>
  clear H'
  try clear c1
  try clear p2
  obtain ⟨x5_1, x12_1, rfl, rfl, HA, HK1, ⟨m1, rfl⟩⟩ := hrel
  cases gk with
  | zero => exact absurd HA.out (by simp [ladingref02_Update.l0])
  | succ k1 =>
   have H := HA.out
   clear HA
   simp only [ladingref02_Update.l0] at H
   by_cases c3 : x12_1 < (l1.length : Int)
   ·rw [if_pos c3] at H
    have c3b0 : decide (x12_1 < (l1.length : Int)) = true := decide_eq_true c3
    clear c3
    by_cases c4 : 0 ≤ x12_1
    ·rw [if_pos c4] at H
     have c4b0 : decide (0 ≤ x12_1) = true := decide_eq_true c4
     clear c4
     by_cases c5 : x12_1 < (l1.length : Int)
     ·rw [if_pos c5] at H
      have c5b0 : decide (x12_1 < (l1.length : Int)) = true := decide_eq_true c5
      clear c5
      obtain ⟨t280, A6, H⟩ := zm H
      (try dsimp only at H)
      have H' := Aside0.mk H
      clear H
      have p279 : 0 ≤ (x12_1 : Int) := of_decide_eq_true za_
      have q279 : x12_1 < (l1.length : Int) := of_decide_eq_true za_
      obtain ⟨ad279, e279, hx279_0⟩ := Kd.at_int HR1.out x12_1 p279 q279
      cases e279
      replace p279 := eq_true p279
      replace q279 := eq_true q279
      go_wp2_with (first | ((with_reducible refine gate_callee (f := 84) rfl ?_); refine goesL_ (some 20) rfl rfl Tryd.func84 (by kernel_rfl) rfl #[.int .u32 (Go.bits .xor .u32 x5_1 ((rd l1 x12_1) % 4294967296))] rfl zl_ ?_; (with_reducible refine (ladingref02_bits.calls k1 (Go.bits .xor .u32 x5_1 ((rd l1 x12_1) % 4294967296)) t280 _ A6.out).mono ?_); rintro e w' ⟨rfl, ⟨nd, rfl⟩⟩; refine ⟨_, rfl, ?_⟩))
      go_roundg k1
      case measure => have := HK1.out; omega
      case rel => exact ⟨(t280), (wrap64 (x12_1 + 1)), (by first | rfl | (simp; done) | (simp [*]; done) | (simp only [i64_w]; done)), (by first | rfl | (simp; done) | (simp [*]; done) | (simp only [i64_w]; done)), H', ⟨by have := HK1.out; omega⟩, by repeat (first | exact Drawn0.refl _ | apply Drawn0.step)⟩
     ·rw [if_neg c5] at H
      cases H
    ·rw [if_neg c4] at H
     cases H
   ·rw [if_neg c3] at H
    have c3b0 : decide (x12_1 < (l1.length : Int)) = false := decide_eq_false c3
    clear c3
    obtain rfl := Option.some.inj H
    go_wp2
    go_ret
    exact ⟨by first | rfl | (simp; done) | (simp [*]; done), by repeat (first | exact Drawn0.refl _ | apply Drawn0.step)⟩
def ladingref02_Of.f (k : Nat) (l0 : List Int) : Option (Int) := (ladingref02_Update.f k 0 l0).bind fun t281 => (some t281)
set_option maxHeartbeats 8000000 in
set_option maxRecDepth 100000 in
theorem ladingref02_Of.calls (k : Nat) (A0 : Option Addr) (c0 : Nat) (l0 : List Int) (r : Int) (w : World) (hr0 : Kd.C (Kd.int .u8) w A0 l0.length l0) (hc0 : l0.length ≤ c0) (h : ladingref02_Of.f k l0 = some r) :
  Calls Tryd.prog 40 #[.slice A0 l0.length c0] w fun e w' => e = .returned (.int .u32 r) ∧ Drawn0 w w' := by
 have HR0 := Aside0.mk hr0
 have HC0 := Aside0.mk hc0
 clear hr0 hc0
 have H : ((ladingref02_Update.f k 0 l0).bind fun t281 => (some t281)) = some r := h
 clear h
 obtain ⟨t281, A2, H⟩ := zm H
 (try dsimp only at H)
 obtain rfl := Option.some.inj H
 go_enter Tryd.func40, Tryd.ntmps40
 go_wp2_with (first | ((with_reducible refine gate_callee (f := 67) rfl ?_); refine goesL_ (some 4) rfl rfl Tryd.func67 (by kernel_rfl) rfl #[.int .u32 0, .slice A0 l0.length c0] rfl zl_ ?_; (with_reducible refine (ladingref02_Update.calls k 0 _ _ l0 t281 _ ?side1 ?side2 A2.out).mono ?_); (case side1 => repeat (first | exact HR0.out | (with_reducible refine Kd.C_alloc ?_ _) | (with_reducible refine Kd.C_drewN ?_ _) | (with_reducible refine Kd.C_drew ?_))); (case side2 => exact HC0.out); rintro e w' ⟨rfl, ⟨nd, rfl⟩⟩; refine ⟨_, rfl, ?_⟩))
 go_ret
 exact ⟨by first | rfl | (simp; done) | (simp [*]; done), by repeat (first | exact Drawn0.refl _ | apply Drawn0.step)⟩
def ladingref02_Seal.f (k : Nat) (l0 : List Int) : Option (List Int) := (ladingref02_Of.f k l0).bind fun t282 => ((some (([] : List Int) : List Int)).bind fun y283 => (if y283.length + l0.length < 140737488355328 then ((some (y283 ++ l0 : List Int)).bind fun y286 => ((some (([(t282) % 256, (t282 / 256) % 256, (t282 / 65536) % 256, (t282 / 16777216) % 256] : List Int) : List Int)).bind fun y289 => (if y286.length + y289.length < 140737488355328 then (some (y286 ++ y289)) else (none)))) else (none)))
set_option maxHeartbeats 8000000 in
set_option maxRecDepth 100000 in
theorem ladingref02_Seal.calls (k : Nat) (A0 : Option Addr) (c0 : Nat) (l0 : List Int) (r : List Int) (w : World) (hr0 : Kd.C (Kd.int .u8) w A0 l0.length l0) (hc0 : l0.length ≤ c0) (h : ladingref02_Seal.f k l0 = some r) :
  Calls Tryd.prog 21 #[.slice A0 l0.length c0] w fun e w' => ∃ v0_ : Value, e = .returned (v0_) ∧ Kd.R (Kd.int .u8) 5 w' w.heap.size (fun _ => True) v0_ r ∧ Below w.heap.size w w' := by
 have HR0 := Aside0.mk hr0
 have HC0 := Aside0.mk hc0
 clear hr0 hc0
 have HB := Aside0.mk (Below.refl w.heap.size w)
 have H : ((ladingref02_Of.f k l0).bind fun t282 => ((some (([] : List Int) : List Int)).bind fun y283 => (if y283.length + l0.length < 140737488355328 then ((some (y283 ++ l0 : List Int)).bind fun y286 => ((some (([(t282) % 256, (t282 / 256) % 256, (t282 / 65536) % 256, (t282 / 16777216) % 256] : List Int) : List Int)).bind fun y289 => (if y286.length + y289.length < 140737488355328 then (some (y286 ++ y289)) else (none)))) else (none)))) = some r := h
 clear h
 obtain ⟨t282, A2, H⟩ := zm H
 (try dsimp only at H)
 obtain ⟨y283, hy283⟩ : ∃ y_ : List Int, y_ = (([] : List Int)) := ⟨_, rfl⟩
 replace H : (if y283.length + l0.length < 140737488355328 then ((some (y283 ++ l0 : List Int)).bind fun y286 => ((some (([(t282) % 256, (t282 / 256) % 256, (t282 / 65536) % 256, (t282 / 16777216) % 256] : List Int) : List Int)).bind fun y289 => (if y286.length + y289.length < 140737488355328 then (some (y286 ++ y289)) else (none)))) else (none)) = some r := by first | (rw [hy283]; with_reducible exact H) | (have H2_ := (Option.bind_some _ _).symm.trans H; rw [hy283]; with_reducible exact H2_) | (have H2_ := (Option.bind_some _ _).symm.trans H; with_reducible exact H2_) | with_reducible exact H | (rw [hy283]; exact H) | exact H
 have Ny283 := Aside0.mk hy283
 clear hy283
 by_cases c3 : y283.length + l0.length < 140737488355328
 ·rw [if_pos c3] at H
  have LMc3 := Aside0.mk c3
  clear c3
  obtain ⟨y286, hy286⟩ : ∃ y_ : List Int, y_ = (y283 ++ l0) := ⟨_, rfl⟩
  replace H : ((some (([(t282) % 256, (t282 / 256) % 256, (t282 / 65536) % 256, (t282 / 16777216) % 256] : List Int) : List Int)).bind fun y289 => (if y286.length + y289.length < 140737488355328 then (some (y286 ++ y289)) else (none))) = some r := by first | (rw [hy286]; with_reducible exact H) | (have H2_ := (Option.bind_some _ _).symm.trans H; rw [hy286]; with_reducible exact H2_) | (have H2_ := (Option.bind_some _ _).symm.trans H; with_reducible exact H2_) | with_reducible exact H | (rw [hy286]; exact H) | exact H
  have Ny286 := Aside0.mk hy286
  clear hy286
  obtain ⟨y289, hy289⟩ : ∃ y_ : List Int, y_ = (([(t282) % 256, (t282 / 256) % 256, (t282 / 65536) % 256, (t282 / 16777216) % 256] : List Int)) := ⟨_, rfl⟩
  replace H : (if y286.length + y289.length < 140737488355328 then (some (y286 ++ y289)) else (none)) = some r := by first | (rw [hy289]; with_reducible exact H) | (have H2_ := (Option.bind_some _ _).symm.trans H; rw [hy289]; with_reducible exact H2_) | (have H2_ := (Option.bind_some _ _).symm.trans H; with_reducible exact H2_) | with_reducible exact H | (rw [hy289]; exact H) | exact H
  have Ny289 := Aside0.mk hy289
  clear hy289
  by_cases c4 : y286.length + y289.length < 140737488355328
  ·rw [if_pos c4] at H
   have LMc4 := Aside0.mk c4
   clear c4
   obtain ⟨y292, hy292⟩ : ∃ y_ : List Int, y_ = (y286 ++ y289) := ⟨_, rfl⟩
   replace H : (some y292) = some r := by first | (rw [hy292]; with_reducible exact H) | (have H2_ := (Option.bind_some _ _).symm.trans H; rw [hy292]; with_reducible exact H2_) | (have H2_ := (Option.bind_some _ _).symm.trans H; with_reducible exact H2_) | with_reducible exact H | (rw [hy292]; exact H) | exact H
   have Ny292 := Aside0.mk hy292
   clear hy292
   obtain rfl := Option.some.inj H
   go_enter Tryd.func21, Tryd.ntmps21
   go_wp2_with (first | ((with_reducible refine gate_callee (f := 40) rfl ?_); refine goesL_ (some 6) rfl rfl Tryd.func40 (by kernel_rfl) rfl #[.slice A0 l0.length c0] rfl zl_ ?_; (with_reducible refine (ladingref02_Of.calls k _ _ l0 t282 _ ?side1 ?side2 A2.out).mono ?_); (case side1 => repeat (first | exact HR0.out | (with_reducible refine Kd.C_alloc ?_ _) | (with_reducible refine Kd.C_drewN ?_ _) | (with_reducible refine Kd.C_drew ?_))); (case side2 => exact HC0.out); rintro e w' ⟨rfl, ⟨nd, rfl⟩⟩; refine ⟨_, rfl, ?_⟩) | ((with_reducible refine gate_dst (N := 7) rfl ?_); refine Kd.R_lit (Kd.int .u8) _ 5 ?hg (N := 7) ?hd (xs := ([] : List Int)) (inner := []) (ok := fun _ => True) (okp := fun _ => True) ?hr ?hp (fun _ hk => hk) trivial (Below.refl _ _) (Nat.le_refl _) (by simp) ?_; (case hd => rfl); (case hg => rfl); (case hr => first | (go_simp; done) | (go_simp; rfl)); (case hp => exact (Reps.none _ _)); intro v284 w5 ho6 hb hg_ hnew_; clear hg_ hnew_; (first | rw [← Ny283.out] at ho6 | (simp only [Int.reduceToNat] at ho6; rw [← Ny283.out] at ho6)); have HO285 := Aside0.mk (Kd.R_lower ho6 (below_size (zh0_ HB.out))); replace HB := Aside0.mk (below_step (zh0_ HB.out) hb); clear hb ho6) | ((with_reducible refine gate_builtin (b := .append) (xs := #[.tmp 7, .tmp 8]) rfl ?_); at_builtin; refine Kd.R_append_rows (Kd.int .u8) (w0 := w) w.heap.size rfl (.tmp 7) (.tmp 8) 26 5 (.int .u8 0) 1 rfl Tryd.underlying26 info5 rfl (by decide) (by omega) v284 y283 l0 _ _ _ (fun _ => True) (fun _ => False) rfl rfl ?aO ?aR (fun _ _ h => h) (fun _ h => h.elim) ?aF ?aB ?aS ?aL ?_; (case aR => repeat (first | exact (Kd.C_below HR0.out HB.out) | (with_reducible refine Kd.C_alloc ?_ _) | (with_reducible refine Kd.C_drewN ?_ _) | (with_reducible refine Kd.C_drew ?_))); (case aB => exact (zh0_ HB.out)); (case aF => exact (fun _ _ => trivial)); (case aO => exact (zR_ HO285.out)); (case aS => exact (below_size (zh0_ HB.out))); (case aL => have := LMc3.out; omega); intro v287 w7 ho hb hg hat; rw [← Ny286.out] at ho; replace HB := Aside0.mk (hb); have HO288 := Aside0.mk (ho); clear HO285 ho hb hg hat) | ((with_reducible refine gate_dst (N := 22) rfl ?_); refine Kd.R_lit (Kd.int .u8) _ 5 ?hg (N := 22) ?hd (xs := ([(t282) % 256, (t282 / 256) % 256, (t282 / 65536) % 256, (t282 / 16777216) % 256] : List Int)) (inner := [.int .u8 ((t282) % 256), .int .u8 ((t282 / 256) % 256), .int .u8 ((t282 / 65536) % 256), .int .u8 ((t282 / 16777216) % 256)]) (ok := fun _ => True) (okp := fun _ => True) ?hr ?hp (fun _ hk => hk) trivial (Below.refl _ _) (Nat.le_refl _) (by simp) ?_; (case hd => rfl); (case hg => rfl); (case hr => first | (go_simp; done) | (go_simp; rfl)); (case hp => exact (Reps.one (show Kd.M (Kd.int .u8) _ _ _ ((t282) % 256) [.int .u8 ((t282) % 256)] from rfl) (Reps.one (show Kd.M (Kd.int .u8) _ _ _ ((t282 / 256) % 256) [.int .u8 ((t282 / 256) % 256)] from rfl) (Reps.one (show Kd.M (Kd.int .u8) _ _ _ ((t282 / 65536) % 256) [.int .u8 ((t282 / 65536) % 256)] from rfl) (Reps.one (show Kd.M (Kd.int .u8) _ _ _ ((t282 / 16777216) % 256) [.int .u8 ((t282 / 16777216) % 256)] from rfl) (Reps.none _ _)))))); intro v290 w8 ho9 hb hg_ hnew_; clear hg_ hnew_; (first | rw [← Ny289.out] at ho9 | (simp only [Int.reduceToNat] at ho9; rw [← Ny289.out] at ho9)); have HO291 := Aside0.mk (Kd.R_lower (Kd.R_new' ho9 (Kd.R_lt (zR_ HO288.out))) (below_size (zh0_ HB.out))); replace HO288 := Aside0.mk (Kd.R_elder' (zR_ HO288.out) (Kd.R_base ho9) hb); replace HB := Aside0.mk (below_step (zh0_ HB.out) hb); clear hb ho9; obtain ⟨Ao11, co11, eo11⟩ := Kd.R_slice HO291.out; subst eo11) | ((with_reducible refine gate_builtin (b := .append) (xs := #[.tmp 10, .tmp 22]) rfl ?_); at_builtin; refine Kd.R_append_rows (Kd.int .u8) (w0 := w) w.heap.size rfl (.tmp 10) (.tmp 22) 26 5 (.int .u8 0) 1 rfl Tryd.underlying26 info5 rfl (by decide) (by omega) v287 y286 y289 _ _ _ (fun k_ => some k_ ≠ (.slice Ao11 y289.length co11 : Value).ownBlock) (fun _ => False) rfl rfl ?aO ?aR (fun _ _ h => h) (fun _ h => h.elim) ?aF ?aB ?aS ?aL ?_; (case aR => repeat (first | exact (Kd.R_reads' HO291.out).2.2 | (with_reducible refine Kd.C_alloc ?_ _) | (with_reducible refine Kd.C_drewN ?_ _) | (with_reducible refine Kd.C_drew ?_))); (case aB => exact (zh0_ HB.out)); (case aF => exact (fun k_ hk => Kd.fresh' (Kd.R_lt (zR_ HO291.out)) k_ hk)); (case aO => exact (by (with_reducible repeat (first | apply Kd.R_alloc | apply Kd.R_drewN | apply Kd.R_drew)); exact Kd.R_mono HO288.out (fun _ hk => hk.2))); (case aS => exact (below_size (zh0_ HB.out))); (case aL => have := LMc4.out; omega); intro v293 w10 ho hb hg hat; rw [← Ny292.out] at ho; replace HO291 := Aside0.mk (Kd.R_after (ok := (fun _ => True)) (zR_ HO291.out) hg hat); replace HB := Aside0.mk (hb); have HO294 := Aside0.mk (ho); clear HO288 ho hb hg hat))
   go_ret
   exact ⟨_, by first | rfl | (simp [errW_none, errW_some] <;> rfl) | (simp [*, errW_none, errW_some] <;> rfl), by (with_reducible repeat (first | apply Kd.R_alloc | apply Kd.R_drewN | apply Kd.R_drew)); exact Kd.R_mono HO294.out (fun _ hk => trivial), by exact zh0_ HB.out⟩
  ·rw [if_neg c4] at H
   cases H
 ·rw [if_neg c3] at H
  cases H
def ladingref06_Encode.f (k : Nat) (a0_0 : Bool) (l0_1 : List (List Int)) (l0_2 : List (List Int)) (l0_3 : List Int) : Option (List Int × Int) := (ladingref06_Check.f k a0_0 l0_1 l0_2 l0_3).bind fun t296 => (if t296 = 0 then ((ladingref06_text.f k a0_0 l0_1 l0_2 l0_3).bind fun t297 => (if 0 ≤ (wrap64 (4092 - (t297.length : Int))) then (if t297.length + (wrap64 (4092 - (t297.length : Int)) : Int).toNat < 140737488355328 then ((ladingref02_Seal.f k (t297 ++ List.replicate (wrap64 (4092 - (t297.length : Int)) : Int).toNat 0)).bind fun t303 => (some (t303, 0))) else (none)) else (none))) else (some (([] : List Int), t296)))
set_option maxHeartbeats 8000000 in
set_option maxRecDepth 100000 in
theorem ladingref06_Encode.calls (k : Nat) (a0_0 : Bool) (A0_1 : Option Addr) (c0_1 : Nat) (l0_1 : List (List Int)) (A0_2 : Option Addr) (c0_2 : Nat) (l0_2 : List (List Int)) (A0_3 : Option Addr) (c0_3 : Nat) (l0_3 : List Int) (r1 : List Int) (r2 : Int) (w : World) (hr0_1 : Kd.C (Kd.slice 5 (Kd.int .u8)) w A0_1 l0_1.length l0_1) (hc0_1 : l0_1.length ≤ c0_1) (hr0_2 : Kd.C (Kd.slice 5 (Kd.int .u8)) w A0_2 l0_2.length l0_2) (hc0_2 : l0_2.length ≤ c0_2) (hr0_3 : Kd.C (Kd.int .i64) w A0_3 l0_3.length l0_3) (hc0_3 : l0_3.length ≤ c0_3) (h : ladingref06_Encode.f k a0_0 l0_1 l0_2 l0_3 = some (r1, r2)) :
  Calls Tryd.prog 7 #[.agg #[.bool a0_0, .slice A0_1 l0_1.length c0_1, .slice A0_2 l0_2.length c0_2, .slice A0_3 l0_3.length c0_3]] w fun e w' => ∃ v0_ : Value, e = .returned (.tuple #[v0_, .int .i64 r2]) ∧ Kd.R (Kd.int .u8) 5 w' w.heap.size (fun _ => True) v0_ r1 ∧ Below w.heap.size w w' := by
 have hu25 := Tryd.underlying25
 have HR0_1 := Aside0.mk hr0_1
 have HC0_1 := Aside0.mk hc0_1
 clear hr0_1 hc0_1
 have HR0_2 := Aside0.mk hr0_2
 have HC0_2 := Aside0.mk hc0_2
 clear hr0_2 hc0_2
 have HR0_3 := Aside0.mk hr0_3
 have HC0_3 := Aside0.mk hc0_3
 clear hr0_3 hc0_3
 have HB := Aside0.mk (Below.refl w.heap.size w)
 have H : ((ladingref06_Check.f k a0_0 l0_1 l0_2 l0_3).bind fun t296 => (if t296 = 0 then ((ladingref06_text.f k a0_0 l0_1 l0_2 l0_3).bind fun t297 => (if 0 ≤ (wrap64 (4092 - (t297.length : Int))) then (if t297.length + (wrap64 (4092 - (t297.length : Int)) : Int).toNat < 140737488355328 then ((ladingref02_Seal.f k (t297 ++ List.replicate (wrap64 (4092 - (t297.length : Int)) : Int).toNat 0)).bind fun t303 => (some (t303, 0))) else (none)) else (none))) else (some (([] : List Int), t296)))) = some (r1, r2) := h
 clear h
 obtain ⟨t296, A2, H⟩ := zm H
 (try dsimp only at H)
 by_cases c3 : t296 = 0
 ·rw [if_pos c3] at H
  obtain ⟨c3b0, c3b1⟩ := zq1 c3
  clear c3
  obtain ⟨t297, A4, H⟩ := zm H
  (try dsimp only at H)
  obtain ⟨ji5, hji5⟩ : ∃ j_ : Int, (wrap64 (4092 - (t297.length : Int))) = j_ := ⟨_, rfl⟩
  replace H : (if 0 ≤ (ji5) then (if t297.length + (ji5 : Int).toNat < 140737488355328 then ((ladingref02_Seal.f k (t297 ++ List.replicate (ji5 : Int).toNat 0)).bind fun t303 => (some (t303, 0))) else (none)) else (none)) = some (r1, r2) := by first | (rw [hji5] at H; exact H) | (simp only [hji5] at H ⊢; exact H)
  (try rw [hji5] at A2)
  (try rw [hji5] at A4)
  have hji5w : (IntKind.i64.wrap (4092 - (t297.length : Int))) = ji5 := (i64_w _).trans hji5
  by_cases c6 : 0 ≤ (ji5)
  ·rw [if_pos c6] at H
   have c6b0 := eq_true c6
   have c6b1 : decide (0 ≤ (ji5)) = true := decide_eq_true c6
   clear c6
   by_cases c7 : t297.length + (ji5 : Int).toNat < 140737488355328
   ·rw [if_pos c7] at H
    have LMc7 := Aside0.mk c7
    clear c7
    obtain ⟨y300, hy300⟩ : ∃ y_ : List Int, y_ = (t297 ++ List.replicate (ji5 : Int).toNat 0) := ⟨_, rfl⟩
    replace H : ((ladingref02_Seal.f k y300).bind fun t303 => (some (t303, 0))) = some (r1, r2) := by first | (rw [hy300]; with_reducible exact H) | (have H2_ := (Option.bind_some _ _).symm.trans H; rw [hy300]; with_reducible exact H2_) | (have H2_ := (Option.bind_some _ _).symm.trans H; with_reducible exact H2_) | with_reducible exact H | (rw [hy300]; exact H) | exact H
    have Ny300 := Aside0.mk hy300
    clear hy300
    obtain ⟨t303, A8, H⟩ := zm H
    (try dsimp only at H)
    simp only [Option.some.injEq, Prod.mk.injEq] at H
    obtain ⟨rfl, rfl⟩ := H
    go_enter Tryd.func7, Tryd.ntmps7
    go_wp2_with (first | ((with_reducible refine gate_dst (N := 1) rfl ?_); refine box_event ?hg (N := 1) ?hd (cs := #[.bool a0_0, .slice A0_1 l0_1.length c0_1, .slice A0_2 l0_2.length c0_2, .slice A0_3 l0_3.length c0_3]) (t := 25) ?hr ?_; (case hd => rfl); (case hg => rfl); (case hr => first | (go_simp; done) | (go_simp; rfl)); intro gb295 hg w9 hbox hb; have BK295 := Aside0.mk (hbox); have GW295 := Aside0.mk ((by rw [hg]; exact (below_size (zh0_ HB.out)) : w.heap.size ≤ gb295)); have GE295 := Aside0.mk ((by rw [hg]; exact (below_size (zh0_ HB.out)) : w.heap.size ≤ gb295)); replace HB := Aside0.mk (below_step (zh0_ HB.out) hb); clear hb hbox hg; obtain ⟨hcz10_0, hcz10_1, hcz10_2, hcz10_3⟩ := zc4 BK295.out; obtain ⟨hfz10_0, hfz10_1, hfz10_2, hfz10_3⟩ := zz4 BK295.out) | ((with_reducible refine gate_callee (f := 12) rfl ?_); refine goesL_ (some 7) rfl rfl Tryd.func12 (by kernel_rfl) rfl #[.agg #[.bool a0_0, .slice A0_1 l0_1.length c0_1, .slice A0_2 l0_2.length c0_2, .slice A0_3 l0_3.length c0_3]] rfl zl_ ?_; (with_reducible refine (ladingref06_Check.calls k a0_0 _ _ l0_1 _ _ l0_2 _ _ l0_3 t296 _ ?side1 ?side2 ?side3 ?side4 ?side5 ?side6 A2.out).mono ?_); (case side1 => exact zc_ (Kd.C_below HR0_1.out HB.out)); (case side2 => exact HC0_1.out); (case side3 => exact zc_ (Kd.C_below HR0_2.out HB.out)); (case side4 => exact HC0_2.out); (case side5 => exact zc_ (Kd.C_below HR0_3.out HB.out)); (case side6 => exact HC0_3.out); rintro e w11 ⟨rfl, hb⟩; refine ⟨_, rfl, ?_⟩; replace BK295 := Aside0.mk (blk_below (zb_ BK295.out) hb); replace HB := Aside0.mk (below_step (zh1_ HB.out GE295.out) hb); (try clear hb); obtain ⟨hcz12_0, hcz12_1, hcz12_2, hcz12_3⟩ := zc4 BK295.out; obtain ⟨hfz12_0, hfz12_1, hfz12_2, hfz12_3⟩ := zz4 BK295.out) | ((with_reducible refine gate_callee (f := 20) rfl ?_); refine goesL_ (some 12) rfl rfl Tryd.func20 (by kernel_rfl) rfl #[.agg #[.bool a0_0, .slice A0_1 l0_1.length c0_1, .slice A0_2 l0_2.length c0_2, .slice A0_3 l0_3.length c0_3]] rfl zl_ ?_; (with_reducible refine (ladingref06_text.calls k a0_0 _ _ l0_1 _ _ l0_2 _ _ l0_3 t297 _ ?side1 ?side2 ?side3 ?side4 ?side5 ?side6 A4.out).mono ?_); (case side1 => exact zc_ (Kd.C_below HR0_1.out HB.out)); (case side2 => exact HC0_1.out); (case side3 => exact zc_ (Kd.C_below HR0_2.out HB.out)); (case side4 => exact HC0_2.out); (case side5 => exact zc_ (Kd.C_below HR0_3.out HB.out)); (case side6 => exact HC0_3.out); rintro e w13 ⟨v298, rfl, ho0, hb⟩; refine ⟨_, rfl, ?_⟩; have HO299 := Aside0.mk (Kd.R_lower ho0 (below_size (zh1_ HB.out GE295.out))); replace BK295 := Aside0.mk (blk_below (zb_ BK295.out) hb); replace HB := Aside0.mk (below_step (zh1_ HB.out GE295.out) hb); (try clear hb); (try clear ho0); obtain ⟨Ao14, co14, eo14⟩ := Kd.R_slice HO299.out; subst eo14) | (at_builtin; refine Kd.R_append_zeros (Kd.int .u8) (w0 := w) w.heap.size rfl (.tmp 13) (.tmp 16) 26 3 5 (.int .u8 0) 1 rfl Tryd.underlying26 Tryd.underlying3 info5 rfl (by decide) (by omega) (.slice Ao14 t297.length co14) t297 0 (ji5 : Int) (fun _ => True) rfl rfl rfl ?aF ?aO (of_decide_eq_true za_) ?aB ?aS ?aL ?_; (case aB => exact (zh1_ HB.out GE295.out)); (case aF => exact (fun _ _ => trivial)); (case aO => exact (zR_ HO299.out)); (case aS => exact (below_size (zh1_ HB.out GE295.out))); (case aL => have := LMc7.out; omega); intro v301 w15 ho hb hg hat; rw [← Ny300.out] at ho; replace BK295 := Aside0.mk (blk_grown (zb_ BK295.out) hg (Kd.R_ne HO299.out BK295.out (by decide))); replace HB := Aside0.mk (hb); have HO302 := Aside0.mk (ho); clear HO299 ho hb hg hat; obtain ⟨Ao16, co16, eo16⟩ := Kd.R_slice HO302.out; subst eo16) | ((with_reducible refine gate_callee (f := 21) rfl ?_); refine goesL_ (some 18) rfl rfl Tryd.func21 (by kernel_rfl) rfl #[.slice Ao16 y300.length co16] rfl zl_ ?_; (with_reducible refine (ladingref02_Seal.calls k _ _ y300 t303 _ ?side1 ?side2 A8.out).mono ?_); (case side1 => repeat (first | exact (Kd.R_reads' HO302.out).2.2 | (with_reducible refine Kd.C_alloc ?_ _) | (with_reducible refine Kd.C_drewN ?_ _) | (with_reducible refine Kd.C_drew ?_))); (case side2 => exact (Kd.R_reads' HO302.out).2.1); rintro e w17 ⟨v304, rfl, ho0, hb⟩; refine ⟨_, rfl, ?_⟩; have HO305 := Aside0.mk (Kd.R_lower (Kd.R_new' ho0 (Kd.R_lt (zR_ HO302.out))) (below_size (zh1_ HB.out GE295.out))); replace HO302 := Aside0.mk (Kd.R_elder' (zR_ HO302.out) (Kd.R_base ho0) hb); replace BK295 := Aside0.mk (blk_below (zb_ BK295.out) hb); replace HB := Aside0.mk (below_step (zh1_ HB.out GE295.out) hb); (try clear hb); (try clear ho0)))
    go_ret2
    exact ⟨_, by first | rfl | (simp [errW_none, errW_some] <;> rfl) | (simp only [← hji5]; first | rfl | (simp [errW_none, errW_some] <;> rfl)) | (simp [*, errW_none, errW_some] <;> rfl), by (with_reducible repeat (first | apply Kd.R_alloc | apply Kd.R_drewN | apply Kd.R_drew)); exact Kd.R_mono HO305.out (fun _ hk => trivial), by exact zh1_ HB.out GE295.out⟩
   ·rw [if_neg c7] at H
    cases H
  ·rw [if_neg c6] at H
   cases H
 ·rw [if_neg c3] at H
  obtain ⟨c3b0, c3b1⟩ := zq0 c3
  simp only [Option.some.injEq, Prod.mk.injEq] at H
  obtain ⟨rfl, rfl⟩ := H
  go_enter Tryd.func7, Tryd.ntmps7
  go_wp2_with (first | ((with_reducible refine gate_dst (N := 1) rfl ?_); refine box_event ?hg (N := 1) ?hd (cs := #[.bool a0_0, .slice A0_1 l0_1.length c0_1, .slice A0_2 l0_2.length c0_2, .slice A0_3 l0_3.length c0_3]) (t := 25) ?hr ?_; (case hd => rfl); (case hg => rfl); (case hr => first | (go_simp; done) | (go_simp; rfl)); intro gb295 hg w18 hbox hb; have BK295 := Aside0.mk (hbox); have GW295 := Aside0.mk ((by rw [hg]; exact (below_size (zh0_ HB.out)) : w.heap.size ≤ gb295)); have GE295 := Aside0.mk ((by rw [hg]; exact (below_size (zh0_ HB.out)) : w.heap.size ≤ gb295)); replace HB := Aside0.mk (below_step (zh0_ HB.out) hb); clear hb hbox hg; obtain ⟨hcz19_0, hcz19_1, hcz19_2, hcz19_3⟩ := zc4 BK295.out; obtain ⟨hfz19_0, hfz19_1, hfz19_2, hfz19_3⟩ := zz4 BK295.out) | ((with_reducible refine gate_callee (f := 12) rfl ?_); refine goesL_ (some 7) rfl rfl Tryd.func12 (by kernel_rfl) rfl #[.agg #[.bool a0_0, .slice A0_1 l0_1.length c0_1, .slice A0_2 l0_2.length c0_2, .slice A0_3 l0_3.length c0_3]] rfl zl_ ?_; (with_reducible refine (ladingref06_Check.calls k a0_0 _ _ l0_1 _ _ l0_2 _ _ l0_3 t296 _ ?side1 ?side2 ?side3 ?side4 ?side5 ?side6 A2.out).mono ?_); (case side1 => exact zc_ (Kd.C_below HR0_1.out HB.out)); (case side2 => exact HC0_1.out); (case side3 => exact zc_ (Kd.C_below HR0_2.out HB.out)); (case side4 => exact HC0_2.out); (case side5 => exact zc_ (Kd.C_below HR0_3.out HB.out)); (case side6 => exact HC0_3.out); rintro e w20 ⟨rfl, hb⟩; refine ⟨_, rfl, ?_⟩; replace BK295 := Aside0.mk (blk_below (zb_ BK295.out) hb); replace HB := Aside0.mk (below_step (zh1_ HB.out GE295.out) hb); (try clear hb)))
  go_ret2
  exact ⟨_, by first | rfl | (simp [errW_none, errW_some] <;> rfl) | (simp [*, errW_none, errW_some] <;> rfl), by first | exact Kd.R_nil _ _ _ _ _ | exact Kd.N_nil _ _ _ _ _ | exact Kd.V_nil _ _ _ _ _ | exact Kd.Q_nil _ _ _ _ _ | exact Kd.S_nil _ _ _ _ _, by exact zh1_ HB.out GE295.out⟩
end Go.Proofs.YtcbgichkeecgiaaDoor.Print
