-- What the claim uses alone (wip/slim.py). Lean checks it.
import Derived.Test.YtcbgichkeecgiaaZAb
import Derived.Test.YtcbgichkeecgiaaZPrint0
import Derived.Test.YtcbgichkeecgiaaZPrint2
import Derived.Test.YtcbgichkeecgiaaZPrint5
import Derived.Test.YtcbgichkeecgiaaZPrint9
import Derived.Test.YtcbgichkeecgiaaZPrint11
import Derived.Test.YtcbgichkeecgiaaZPrint12
import Derived.Test.YtcbgichkeecgiaaZPrint14
import Derived.Test.YtcbgichkeecgiaaZPrint15
import Derived.Test.YtcbgichkeecgiaaZPrint16
import Derived.Test.YtcbgichkeecgiaaZPrint17
namespace Go.Proofs.Ytcbgichkeecgiaa.Print
open Go.RowKit Go.Proofs.YtcbgichkeecgiaaW.PrintWords Go.Proofs.YtcbgichkeecgiaaW.PrintLast Go.Proofs.YtcbgichkeecgiaaW.PrintMore
attribute [local go_sem] max2_mx min2_mn max_two min_two max_three min_three max_four min_four
set_option linter.unusedVariables false
set_option linter.unusedSimpArgs false
def node_Size.f (k : Nat) (a0_0 : Bool) (l0_1 : List (List Int)) (l0_2 : List (List Int)) (l0_3 : List Int) : Option (Int) := (node_made.f k a0_0 l0_1 l0_2 l0_3).bind fun t225 => (if t225 = true then ((node_size.f k a0_0 l0_1 l0_2 l0_3).bind fun t226 => (some t226)) else (some 0))
set_option maxHeartbeats 8000000 in
set_option maxRecDepth 100000 in
theorem node_Size.calls (k : Nat) (a0_0 : Bool) (A0_1 : Option Addr) (c0_1 : Nat) (l0_1 : List (List Int)) (A0_2 : Option Addr) (c0_2 : Nat) (l0_2 : List (List Int)) (A0_3 : Option Addr) (c0_3 : Nat) (l0_3 : List Int) (r : Int) (w : World) (hr0_1 : Kd.C (Kd.slice 5 (Kd.int .u8)) w A0_1 l0_1.length l0_1) (hc0_1 : l0_1.length ≤ c0_1) (hr0_2 : Kd.C (Kd.slice 5 (Kd.int .u8)) w A0_2 l0_2.length l0_2) (hc0_2 : l0_2.length ≤ c0_2) (hr0_3 : Kd.C (Kd.int .i64) w A0_3 l0_3.length l0_3) (hc0_3 : l0_3.length ≤ c0_3) (h : node_Size.f k a0_0 l0_1 l0_2 l0_3 = some r) :
  Calls Try.prog 23 #[.agg #[.bool a0_0, .slice A0_1 l0_1.length c0_1, .slice A0_2 l0_2.length c0_2, .slice A0_3 l0_3.length c0_3]] w fun e w' => e = .returned (.int .i64 r) ∧ Below w.heap.size w w' := by
 have hu26 := Try.underlying26
 have HR0_1 := Aside0.mk hr0_1
 have HC0_1 := Aside0.mk hc0_1
 clear hr0_1 hc0_1
 have HR0_2 := Aside0.mk hr0_2
 have HC0_2 := Aside0.mk hc0_2
 clear hr0_2 hc0_2
 have HR0_3 := Aside0.mk hr0_3
 have HC0_3 := Aside0.mk hc0_3
 clear hr0_3 hc0_3
 have HB := Aside0.mk (Below.refl w.heap.size w)
 have H : ((node_made.f k a0_0 l0_1 l0_2 l0_3).bind fun t225 => (if t225 = true then ((node_size.f k a0_0 l0_1 l0_2 l0_3).bind fun t226 => (some t226)) else (some 0))) = some r := h
 clear h
 replace H := Option.bind_eq_some_iff.mp H
 obtain ⟨t225, A20, H⟩ := H
 replace H : (if t225 = true then ((node_size.f k a0_0 l0_1 l0_2 l0_3).bind fun t226 => (some t226)) else (some 0)) = some r := H
 have A2 := Aside0.mk A20
 clear A20
 by_cases c3 : t225 = true
 ·subst c3
  have H1 : ((node_size.f k a0_0 l0_1 l0_2 l0_3).bind fun t226 => (some t226)) = some r := by rw [if_pos rfl] at H; exact H
  clear H
  have H := H1
  clear H1
  replace H := Option.bind_eq_some_iff.mp H
  obtain ⟨t226, A40, H⟩ := H
  replace H : (some t226) = some r := H
  have A4 := Aside0.mk A40
  clear A40
  obtain rfl := Option.some.inj H
  go_enter Try.func23, Try.ntmps23
  go_wp2_with (first | ((with_reducible refine gate_dst (N := 1) rfl ?_); refine box_event ?hg (N := 1) ?hd (cs := #[.bool a0_0, .slice A0_1 l0_1.length c0_1, .slice A0_2 l0_2.length c0_2, .slice A0_3 l0_3.length c0_3]) (t := 26) ?hr ?_; (case hd => rfl); (case hg => rfl); (case hr => first | (go_simp; done) | (go_simp; rfl)); intro gb224 hg w5 hbox hb; have n0_ := Aside0.mk (below_step (zh0_ HB.out) hb); have n1_ := Aside0.mk (hbox); have n2_ := Aside0.mk ((by rw [hg]; exact (below_size (zh0_ HB.out)) : w.heap.size ≤ gb224)); have n3_ := Aside0.mk ((by rw [hg]; exact (below_size (zh0_ HB.out)) : w.heap.size ≤ gb224)); clear HB; have HB := n0_; have BK224 := n1_; have GW224 := n2_; have GE224 := n3_; clear n0_ n1_ n2_ n3_; clear hb hbox hg; obtain ⟨hcz6_0, hcz6_1, hcz6_2, hcz6_3⟩ := zc4 BK224.out; obtain ⟨hfz6_0, hfz6_1, hfz6_2, hfz6_3⟩ := zz4 BK224.out) | ((with_reducible refine gate_callee (f := 39) rfl ?_); refine goesL_ (some 4) rfl rfl Try.func39 (by kernel_rfl) rfl #[.agg #[.bool a0_0, .slice A0_1 l0_1.length c0_1, .slice A0_2 l0_2.length c0_2, .slice A0_3 l0_3.length c0_3]] rfl zl_ ?_; (with_reducible refine (node_made.calls k a0_0 _ _ l0_1 _ _ l0_2 _ _ l0_3 true _ ?side1 ?side2 ?side3 ?side4 ?side5 ?side6 A2.out).mono ?_); (case side1 => exact zc_ (Kd.C_below HR0_1.out HB.out)); (case side2 => exact HC0_1.out); (case side3 => exact zc_ (Kd.C_below HR0_2.out HB.out)); (case side4 => exact HC0_2.out); (case side5 => exact zc_ (Kd.C_below HR0_3.out HB.out)); (case side6 => exact HC0_3.out); rintro e w7 ⟨rfl, hb⟩; refine ⟨_, rfl, ?_⟩; have n0_ := Aside0.mk (blk_below (zb_ BK224.out) hb); have n1_ := Aside0.mk (below_step (zh1_ HB.out GE224.out) hb); clear BK224; clear HB; have BK224 := n0_; have HB := n1_; clear n0_ n1_; (try clear hb); (try clear hb2); (try clear hk); (try clear hi); obtain ⟨hcz8_0, hcz8_1, hcz8_2, hcz8_3⟩ := zc4 BK224.out; obtain ⟨hfz8_0, hfz8_1, hfz8_2, hfz8_3⟩ := zz4 BK224.out) | ((with_reducible refine gate_callee (f := 29) rfl ?_); refine goesL_ (some 7) rfl rfl Try.func29 (by kernel_rfl) rfl #[.agg #[.bool a0_0, .slice A0_1 l0_1.length c0_1, .slice A0_2 l0_2.length c0_2, .slice A0_3 l0_3.length c0_3]] rfl zl_ ?_; (with_reducible refine (node_size.calls k a0_0 _ _ l0_1 _ _ l0_2 _ _ l0_3 t226 _ ?side1 ?side2 ?side3 ?side4 ?side5 ?side6 A4.out).mono ?_); (case side1 => exact zc_ (Kd.C_below HR0_1.out HB.out)); (case side2 => exact HC0_1.out); (case side3 => exact zc_ (Kd.C_below HR0_2.out HB.out)); (case side4 => exact HC0_2.out); (case side5 => exact zc_ (Kd.C_below HR0_3.out HB.out)); (case side6 => exact HC0_3.out); rintro e w9 ⟨rfl, hb⟩; refine ⟨_, rfl, ?_⟩; have n0_ := Aside0.mk (blk_below (zb_ BK224.out) hb); have n1_ := Aside0.mk (below_step (zh1_ HB.out GE224.out) hb); clear BK224; clear HB; have BK224 := n0_; have HB := n1_; clear n0_ n1_; (try clear hb); (try clear hb2); (try clear hk); (try clear hi)))
  go_ret
  exact ⟨by first | rfl | (simp [errW_none, errW_some] <;> rfl) | (simp [*, errW_none, errW_some] <;> rfl), by exact zh1_ HB.out GE224.out⟩
 ·replace c3 := Bool.eq_false_iff.mpr c3
  subst c3
  have H1 : (some 0) = some r := by rw [if_neg (show ¬ (false = true) by decide)] at H; exact H
  clear H
  have H := H1
  clear H1
  obtain rfl := Option.some.inj H
  go_enter Try.func23, Try.ntmps23
  go_wp2_with (first | ((with_reducible refine gate_dst (N := 1) rfl ?_); refine box_event ?hg (N := 1) ?hd (cs := #[.bool a0_0, .slice A0_1 l0_1.length c0_1, .slice A0_2 l0_2.length c0_2, .slice A0_3 l0_3.length c0_3]) (t := 26) ?hr ?_; (case hd => rfl); (case hg => rfl); (case hr => first | (go_simp; done) | (go_simp; rfl)); intro gb224 hg w10 hbox hb; have n0_ := Aside0.mk (below_step (zh0_ HB.out) hb); have n1_ := Aside0.mk (hbox); have n2_ := Aside0.mk ((by rw [hg]; exact (below_size (zh0_ HB.out)) : w.heap.size ≤ gb224)); have n3_ := Aside0.mk ((by rw [hg]; exact (below_size (zh0_ HB.out)) : w.heap.size ≤ gb224)); clear HB; have HB := n0_; have BK224 := n1_; have GW224 := n2_; have GE224 := n3_; clear n0_ n1_ n2_ n3_; clear hb hbox hg; obtain ⟨hcz11_0, hcz11_1, hcz11_2, hcz11_3⟩ := zc4 BK224.out; obtain ⟨hfz11_0, hfz11_1, hfz11_2, hfz11_3⟩ := zz4 BK224.out) | ((with_reducible refine gate_callee (f := 39) rfl ?_); refine goesL_ (some 4) rfl rfl Try.func39 (by kernel_rfl) rfl #[.agg #[.bool a0_0, .slice A0_1 l0_1.length c0_1, .slice A0_2 l0_2.length c0_2, .slice A0_3 l0_3.length c0_3]] rfl zl_ ?_; (with_reducible refine (node_made.calls k a0_0 _ _ l0_1 _ _ l0_2 _ _ l0_3 false _ ?side1 ?side2 ?side3 ?side4 ?side5 ?side6 A2.out).mono ?_); (case side1 => exact zc_ (Kd.C_below HR0_1.out HB.out)); (case side2 => exact HC0_1.out); (case side3 => exact zc_ (Kd.C_below HR0_2.out HB.out)); (case side4 => exact HC0_2.out); (case side5 => exact zc_ (Kd.C_below HR0_3.out HB.out)); (case side6 => exact HC0_3.out); rintro e w12 ⟨rfl, hb⟩; refine ⟨_, rfl, ?_⟩; have n0_ := Aside0.mk (blk_below (zb_ BK224.out) hb); have n1_ := Aside0.mk (below_step (zh1_ HB.out GE224.out) hb); clear BK224; clear HB; have BK224 := n0_; have HB := n1_; clear n0_ n1_; (try clear hb); (try clear hb2); (try clear hk); (try clear hi)))
  go_ret
  exact ⟨by first | rfl | (simp [errW_none, errW_some] <;> rfl) | (simp [*, errW_none, errW_some] <;> rfl), by exact zh1_ HB.out GE224.out⟩
theorem ladinglaw06_lives.v1 : node_Find.f 20 true [[97], [98]] [[49], [50]] [] [98] = some (1, true, 0) := by kernel_rfl
theorem ladinglaw06_lives.v2 : node_Split.f 20 true [[97], [98]] [[49], [50]] [] = some (true, [[97]], [[49]], [], [98], true, [[98]], [[50]], [], 0) := by kernel_rfl
theorem ladinglaw06_lives.v3 : node_Put.f 20 false [[97]] [] [1, 2] [] [] = some (false, [], [], [], 15) := by kernel_rfl
theorem ladinglaw06_lives.v4 : node_Size.f 20 true [[97], [98]] [[49], [50]] [] = some 14 := by kernel_rfl
theorem ladinglaw06_lives.v5 : node_Encode.f 20 true [[97], [98]] [[49], [50]] [] = ((crc_Seal.f (node_Encode.pad [1, 2, 1, 97, 1, 49, 1, 98, 1, 50])).bind fun t => some (t, 0)) := by kernel_rfl
theorem ladinglaw06_lives.seal (l : List Int) (hl : l.length = 4092) : ∃ b, crc_Seal.f l = some b ∧ b.length = 4096 := by
 have hw : wrap64 ((l.length : Int) + 4) = 4096 := by unfold wrap64; omega
 obtain ⟨t, ht⟩ : ∃ t, crc_Update.f 0 l = some t := ⟨_, rfl⟩
 unfold crc_Seal.f crc_Of.f
 rw [ht, hw]
 simp only [Option.bind_some]
 rw [if_pos (by omega), if_pos (by decide), if_pos (by simp only [List.length_nil]; omega), if_pos (by simp only [List.nil_append, List.length_cons, List.length_nil]; omega)]
 exact ⟨_, rfl, by simp only [List.nil_append, List.length_append, List.length_cons, List.length_nil]; omega⟩
theorem ladinglaw06_lives.enc : ∃ b, node_Encode.f 20 true [[97], [98]] [[49], [50]] [] = some (b, 0) ∧ b.length = 4096 := by
 obtain ⟨b, hb, hl⟩ := ladinglaw06_lives.seal (node_Encode.pad [1, 2, 1, 97, 1, 49, 1, 98, 1, 50]) ((node_Encode.pad_len _ _).trans (List.length_replicate.trans (by decide)))
 exact ⟨b, by rw [ladinglaw06_lives.v5, hb]; rfl, hl⟩
theorem ladinglaw06_lives.row1 (W : World) (G g0 : Nat) (x0 : Int) (fr0 fr : Nat × Nat) (h : W.heap[G]? = some (.cells #[.slice (some ⟨g0, 0, none⟩) 1 1] 27 fr)) (h0 : W.heap[g0]? = some (.cells #[.int .u8 x0] 5 fr0)) : Kd.C (Kd.slice 5 (Kd.int .u8)) W (some ⟨G, 0, none⟩) [[x0]].length [[x0]] := by
 refine ⟨rfl, by simp, fun _ => ⟨_, rfl, fun j p hj => ?_⟩⟩
 match j, hj with
 | 0, hj =>
  obtain rfl : [x0] = p := by simpa using hj
  refine ⟨[.slice (some ⟨g0, 0, none⟩) 1 1], rfl, ⟨_, _, rfl, Nat.le_refl _, ladinglaw06_two.byte_reads W g0 x0 fr0 h0⟩, fun i u hu => ?_⟩
  match i, hu with
  | 0, hu =>
   rw [show (⟨G, 0, none⟩ : Addr).add (0 * (Kd.slice 5 (Kd.int IntKind.u8)).sz + 0) = ⟨G, 0, none⟩ by unfold Addr.add; rfl, cell_of_row W G 0 _ _ _ h]
   exact hu
theorem ladinglaw06_lives.ints2 (W : World) (G : Nat) (x0 x1 : Int) (fr : Nat × Nat) (h : W.heap[G]? = some (.cells #[.int .i64 x0, .int .i64 x1] 3 fr)) : Kd.C (Kd.int .i64) W (some ⟨G, 0, none⟩) [x0, x1].length [x0, x1] := by
 refine ⟨rfl, by simp, fun _ => ⟨_, rfl, fun j p hj => ?_⟩⟩
 match j, hj with
 | 0, hj =>
  obtain rfl : x0 = p := by simpa using hj
  refine ⟨[.int .i64 x0], rfl, rfl, fun i u hu => ?_⟩
  match i, hu with
  | 0, hu =>
   rw [show (⟨G, 0, none⟩ : Addr).add (0 * (Kd.int IntKind.i64).sz + 0) = ⟨G, 0, none⟩ by unfold Addr.add; rfl, cell_of_row W G 0 _ _ _ h]
   exact hu
 | 1, hj =>
  obtain rfl : x1 = p := by simpa using hj
  refine ⟨[.int .i64 x1], rfl, rfl, fun i u hu => ?_⟩
  match i, hu with
  | 0, hu =>
   rw [show (⟨G, 0, none⟩ : Addr).add (1 * (Kd.int IntKind.i64).sz + 0) = ⟨G, 1, none⟩ by unfold Addr.add; rfl, cell_of_row W G 1 _ _ _ h]
   exact hu
theorem ladinglaw06_lives.farF {α : Type} {d : Kd α} {W : World} {ok : Nat → Prop} {A : Option Addr} {n : Nat} {xs : List α} {g : Nat} (h : Kd.F d W ok A n xs) (hok : ∀ k, ok k → k ≠ g) (x0 x1 x2 x3 : Value) :
  Kd.F d ((((W.setCell ⟨g, 0, none⟩ x0).setCell ⟨g, 1, none⟩ x1).setCell ⟨g, 2, none⟩ x2).setCell ⟨g, 3, none⟩ x3) ok A n xs :=
 Kd.F_far (Kd.F_far (Kd.F_far (Kd.F_far h hok x0) hok x1) hok x2) hok x3
def ladinglaw06_lives.f : Option Bool := some true
set_option maxHeartbeats 8000000 in
set_option maxRecDepth 100000 in
theorem ladinglaw06_lives.calls (r : Bool) (w : World) (h : ladinglaw06_lives.f = some r) :
  Calls Try.prog 9 #[] w fun e w' => e = .returned (.bool r) ∧ Below w.heap.size w w' := by
 obtain rfl := Option.some.inj h
 clear h
 have kc : ∀ (W : World) (b : Nat) (C : Array Value) (n c : Nat), W.heap.size = b → (convert 27 27 (.slice (some ⟨b, 0, none⟩) n c)).run Try.prog (W.alloc (.cells C 5)) = .ok (.slice (some ⟨b, 0, none⟩) n c) (W.alloc (.cells C 5 (C.size, C.size + 1))) := by
  rintro W _ C n c rfl
  exact Lib.run_convert_bytes_const (P := Try.prog) W 27 5 C n c Try.underlying27 Try.underlying5
 have KC := Aside0.mk kc
 have hu26 := Try.underlying26
 obtain ⟨eb, heb, hel⟩ := ladinglaw06_lives.enc
 have HEB := Aside0.mk heb
 have HEL := Aside0.mk hel
 clear heb hel kc
 go_enter Try.func9, Try.ntmps9
 go_wp2_with fail
 refine (ladinglaw06_two.calls true [[97], [98]] [[49], [50]] [] _ rfl).mono ?_
 rintro e w1 ⟨_, _, _, rfl, ⟨A1, c1, rfl, l1, F1⟩, ⟨A2, c2, rfl, l2, F2⟩, ⟨A3, c3, rfl, l3, F3⟩, hb⟩
 have HB1 := Aside0.mk (hb)
 have G1 := Aside0.mk (Kd.F_now F1)
 have G2 := Aside0.mk (Kd.F_now F2)
 have G3 := Aside0.mk (Kd.F_now F3)
 have M1 := Aside0.mk l1
 have M2 := Aside0.mk l2
 have M3 := Aside0.mk l3
 clear F1 F2 F3 l1 l2 l3 hb
 have kc := KC.out
 go_wp2_with fail
 clear kc
 have hb2 := below_alloc (Below.refl _ w1) (.cells #[.int .u8 98] 5 (1, 2))
 have hK := ladinglaw06_two.byte_reads _ w1.heap.size 98 (1, 2) (ladinglaw06_two.new_at (o := .cells #[.int .u8 98] 5 (1, 2)) (rfl : w1.heap.size = w1.heap.size))
 refine (node_Find.calls 20 true A1 c1 [[97], [98]] A2 c2 [[49], [50]] A3 c3 [] (some ⟨w1.heap.size, 0, none⟩) 1 [98] 1 true 0 _ (Kd.C_below G1.out hb2) M1.out (Kd.C_below G2.out hb2) M2.out (Kd.C_below G3.out hb2) M3.out hK (Nat.le_refl _) ladinglaw06_lives.v1).mono ?_
 rintro e w2 ⟨rfl, hb3⟩
 have HB2 := Aside0.mk (below_step (below_step HB1.out hb2) hb3)
 clear hb2 hb3 hK G1 G2 G3 M1 M2 M3 HB1
 go_wp2_with fail
 refine (ladinglaw06_two.calls true [[97], [98]] [[49], [50]] [] _ rfl).mono ?_
 rintro e w3 ⟨_, _, _, rfl, ⟨A1, c1, rfl, l1, F1⟩, ⟨A2, c2, rfl, l2, F2⟩, ⟨A3, c3, rfl, l3, F3⟩, hb⟩
 have HB3 := Aside0.mk (below_step HB2.out hb)
 have G1 := Aside0.mk (Kd.F_now F1)
 have G2 := Aside0.mk (Kd.F_now F2)
 have G3 := Aside0.mk (Kd.F_now F3)
 have M1 := Aside0.mk l1
 have M2 := Aside0.mk l2
 have M3 := Aside0.mk l3
 clear F1 F2 F3 l1 l2 l3 hb
 clear HB2
 go_wp2_with fail
 refine (node_Split.calls 20 true A1 c1 [[97], [98]] A2 c2 [[49], [50]] A3 c3 [] true [[97]] [[49]] [] [98] true [[98]] [[50]] [] 0 _ G1.out M1.out G2.out M2.out G3.out M3.out ladinglaw06_lives.v2).mono ?_
 rintro e w4 ⟨_, _, _, _, _, _, _, rfl, ⟨B1, d1, rfl, -, -⟩, ⟨B2, d2, rfl, -, -⟩, ⟨B3, d3, rfl, -, -⟩, ⟨BK, dK, rfl, lK, FK_⟩, ⟨B6, d6, rfl, -, -⟩, ⟨B7, d7, rfl, -, -⟩, ⟨B8, d8, rfl, -, -⟩, hb⟩
 have HB4 := Aside0.mk (below_step HB3.out hb)
 have GK := Aside0.mk (Kd.F_bound FK_)
 clear FK_ lK hb HB3 G1 G2 G3 M1 M2 M3
 go_wp2_with (first | ((with_reducible refine gate_dst (N := 4) rfl ?_); refine box_event ?hg (N := 4) ?hd (cs := #[.bool false, .slice none 0 0, .slice none 0 0, .slice none 0 0]) (t := 26) ?hr ?_; (case hd => rfl); (case hg => rfl); (case hr => first | (go_simp; done) | (go_simp; rfl)); intro g4 hg4 w5 hbox hb; have GE4 : Aside0 (w.heap.size ≤ g4) := ⟨by rw [hg4]; exact HB4.out.size⟩; have BK4 := Aside0.mk hbox; have HB5 := Aside0.mk (below_step HB4.out hb); have NK4 : Aside0 (∀ k, (w3.heap.size ≤ k ∧ k < w4.heap.size) → k ≠ g4) := ⟨fun k hk hh => by rw [hh, hg4] at hk; exact Nat.lt_irrefl _ hk.2⟩; have GK5 := Aside0.mk (Kd.F_below GK.out hb); have SZ5 : Aside0 (w4.heap.size ≤ w5.heap.size) := ⟨hb.size⟩; clear hbox hb hg4 HB4 GK) | ((with_reducible refine gate_dst (N := 6) rfl ?_); refine box_event ?hg (N := 6) ?hd (cs := #[.bool false, .slice none 0 0, .slice none 0 0, .slice none 0 0]) (t := 26) ?hr ?_; (case hd => rfl); (case hg => rfl); (case hr => first | (go_simp; done) | (go_simp; rfl)); intro g6 hg6 w6 hbox hb; have GE6 : Aside0 (w.heap.size ≤ g6 ∧ g4 ≠ g6) := ⟨by rw [hg6]; exact HB5.out.size, by rw [hg6]; exact Nat.ne_of_lt (blk_lt BK4.out)⟩; have NK6 : Aside0 (∀ k, (w3.heap.size ≤ k ∧ k < w4.heap.size) → k ≠ g6) := ⟨fun k hk hh => by rw [hh, hg6] at hk; exact Nat.lt_irrefl _ (Nat.lt_of_lt_of_le hk.2 SZ5.out)⟩; have BK6 := Aside0.mk hbox; have BK4b := Aside0.mk (blk_below BK4.out hb); have HB6 := Aside0.mk (below_step HB5.out hb); have GK6 := Aside0.mk (Kd.F_below GK5.out hb); obtain ⟨p0, p1, p2, p3⟩ := cells4 BK4b.out; obtain ⟨q0, q1, q2, q3⟩ := cells4 BK6.out; have pf0 := blk_frozen BK4b.out 0; have qf0 := blk_frozen BK6.out 0; have pf1 := blk_frozen BK4b.out 1; have qf1 := blk_frozen BK6.out 1; have pf2 := blk_frozen BK4b.out 2; have qf2 := blk_frozen BK6.out 2; have pf3 := blk_frozen BK4b.out 3; have qf3 := blk_frozen BK6.out 3; have hne1 : ¬ g4 = g6 := GE6.out.2; have hne2 : ¬ g6 = g4 := Ne.symm GE6.out.2; clear hbox hb hg6 HB5 GK5 BK4 SZ5))
 have HB7 := Aside0.mk (pageW (pageW HB6.out GE4.out (.bool true) (.slice B1 1 d1) (.slice B2 1 d2) (.slice B3 0 d3)) GE6.out.1 (.bool true) (.slice B6 1 d6) (.slice B7 1 d7) (.slice B8 0 d8))
 have BK7 := Aside0.mk (pageB (pageF BK6.out (Ne.symm GE6.out.2) (.bool true) (.slice B1 1 d1) (.slice B2 1 d2) (.slice B3 0 d3)) (.bool true) (.slice B6 1 d6) (.slice B7 1 d7) (.slice B8 0 d8))
 have GK7 := Aside0.mk (ladinglaw06_lives.farF (ladinglaw06_lives.farF GK6.out NK4.out (.bool true) (.slice B1 1 d1) (.slice B2 1 d2) (.slice B3 0 d3)) NK6.out (.bool true) (.slice B6 1 d6) (.slice B7 1 d7) (.slice B8 0 d8))
 clear p0 p1 p2 p3 q0 q1 q2 q3 pf0 pf1 pf2 pf3 qf0 qf1 qf2 qf3 hne1 hne2 BK4b BK6 HB6 GK6 NK4 NK6 GE4 GE6
 obtain ⟨w7, hw7⟩ : ∃ w7, w7 = ((((((((w6.setCell ⟨g4, 0, none⟩ (.bool true)).setCell ⟨g4, 1, none⟩ (.slice B1 1 d1)).setCell ⟨g4, 2, none⟩ (.slice B2 1 d2)).setCell ⟨g4, 3, none⟩ (.slice B3 0 d3)).setCell ⟨g6, 0, none⟩ (.bool true)).setCell ⟨g6, 1, none⟩ (.slice B6 1 d6)).setCell ⟨g6, 2, none⟩ (.slice B7 1 d7)).setCell ⟨g6, 3, none⟩ (.slice B8 0 d8)) := ⟨_, rfl⟩
 rw [← hw7] at HB7 BK7 GK7 ⊢
 clear hw7
 refine (ladinglaw06_two.calls true [[97], [98]] [[49], [50]] [] _ rfl).mono ?_
 rintro e w8 ⟨_, _, _, rfl, ⟨A1, c1, rfl, l1, F1⟩, ⟨A2, c2, rfl, l2, F2⟩, ⟨A3, c3, rfl, l3, F3⟩, hb⟩
 have HB8 := Aside0.mk (below_step HB7.out hb)
 have BK8 := Aside0.mk (blk_below BK7.out hb)
 have GK8 := Aside0.mk (Kd.F_below GK7.out hb)
 have G1 := Aside0.mk (Kd.F_now F1)
 have G2 := Aside0.mk (Kd.F_now F2)
 have G3 := Aside0.mk (Kd.F_now F3)
 have M1 := Aside0.mk l1
 have M2 := Aside0.mk l2
 have M3 := Aside0.mk l3
 clear F1 F2 F3 l1 l2 l3 hb HB7 BK7 GK7
 go_wp2_with fail
 refine (node_Encode.calls 20 true A1 c1 [[97], [98]] A2 c2 [[49], [50]] A3 c3 [] eb 0 _ G1.out M1.out G2.out M2.out G3.out M3.out HEB.out).mono ?_
 rintro e w9 ⟨_, rfl, hev, hb⟩
 obtain ⟨EA, ec, rfl⟩ := Kd.R_slice hev
 have HB9 := Aside0.mk (below_step HB8.out hb)
 have BK9 := Aside0.mk (blk_below BK8.out hb)
 have GK9 := Aside0.mk (Kd.F_below GK8.out hb)
 clear hev hb HB8 BK8 GK8 G1 G2 G3 M1 M2 M3
 have kc := KC.out
 go_wp2_with fail
 clear kc
 have hb2 := below_alloc (below_alloc (below_alloc (Below.refl _ w9) (.cells #[.int .u8 97] 5 (1, 2))) (.cells #[.slice (some ⟨w9.heap.size, 0, none⟩) 1 1] 27)) (.cells #[.int .i64 1, .int .i64 2] 3)
 have n0 := ladinglaw06_two.old_at (o' := (.cells #[.int .i64 1, .int .i64 2] 3)) (ladinglaw06_two.old_at (o' := (.cells #[.slice (some ⟨w9.heap.size, 0, none⟩) 1 1] 27)) (ladinglaw06_two.new_at (o := (.cells #[.int .u8 97] 5 (1, 2))) (rfl : w9.heap.size = w9.heap.size)))
 have n1 := ladinglaw06_two.old_at (o' := (.cells #[.int .i64 1, .int .i64 2] 3)) (ladinglaw06_two.new_at (o := (.cells #[.slice (some ⟨w9.heap.size, 0, none⟩) 1 1] 27)) (ladinglaw06_two.size_at (o := (.cells #[.int .u8 97] 5 (1, 2))) (rfl : w9.heap.size = w9.heap.size)))
 have n2 := ladinglaw06_two.new_at (o := (.cells #[.int .i64 1, .int .i64 2] 3)) (ladinglaw06_two.size_at (o := (.cells #[.slice (some ⟨w9.heap.size, 0, none⟩) 1 1] 27)) (ladinglaw06_two.size_at (o := (.cells #[.int .u8 97] 5 (1, 2))) (rfl : w9.heap.size = w9.heap.size)))
 refine (node_Put.calls 20 false (some ⟨w9.heap.size + 1, 0, none⟩) 1 [[97]] none 0 [] (some ⟨w9.heap.size + 1 + 1, 0, none⟩) 2 [1, 2] none 0 [] none 0 [] false [] [] [] 15 _ (ladinglaw06_lives.row1 _ _ _ _ _ _ n1 n0) (Nat.le_refl _) (Kd.C_nil _ _) (Nat.le_refl _) (ladinglaw06_lives.ints2 _ _ _ _ _ n2) (Nat.le_refl _) (Kd.C_nil _ _) (Nat.le_refl _) (Kd.C_nil _ _) (Nat.le_refl _) ladinglaw06_lives.v3).mono ?_
 rintro e w10 ⟨_, _, _, rfl, ⟨Y1, y1, rfl, -, -⟩, ⟨Y2, y2, rfl, -, -⟩, ⟨Y3, y3, rfl, -, -⟩, hb3⟩
 have hb4 := below_step hb2 hb3
 have HB10 := Aside0.mk (below_step HB9.out hb4)
 have BK10 := Aside0.mk (blk_below BK9.out hb4)
 have GK10 := Aside0.mk (Kd.F_below GK9.out hb4)
 clear hb2 hb3 hb4 n0 n1 n2 HB9 BK9 GK9
 go_wp2_with (first | ((with_reducible refine gate_dst (N := 10) rfl ?_); refine box_event ?hg (N := 10) ?hd (cs := #[.bool false, .slice none 0 0, .slice none 0 0, .slice none 0 0]) (t := 26) ?hr ?_; (case hd => rfl); (case hg => rfl); (case hr => first | (go_simp; done) | (go_simp; rfl)); intro gx hgx w11 hbox hb; have GEX : Aside0 (w.heap.size ≤ gx ∧ g6 ≠ gx) := ⟨by rw [hgx]; exact HB10.out.size, by rw [hgx]; exact Nat.ne_of_lt (blk_lt BK10.out)⟩; have NKX : Aside0 (∀ k, ((w3.heap.size ≤ k ∧ k < w4.heap.size) ∧ k < w10.heap.size) → k ≠ gx) := ⟨fun k hk hh => by rw [hh, hgx] at hk; exact Nat.lt_irrefl _ hk.2⟩; have BX := Aside0.mk hbox; have BK11 := Aside0.mk (blk_below BK10.out hb); have HB11 := Aside0.mk (below_step HB10.out hb); have GK11 := Aside0.mk (Kd.F_below (Kd.F_bound GK10.out) hb); obtain ⟨p0, p1, p2, p3⟩ := cells4 BX.out; have pf0 := blk_frozen BX.out 0; have pf1 := blk_frozen BX.out 1; have pf2 := blk_frozen BX.out 2; have pf3 := blk_frozen BX.out 3; clear hbox hb hgx HB10 GK10 BK10))
 have HB12 := Aside0.mk (pageW HB11.out GEX.out.1 (.bool false) (.slice Y1 0 y1) (.slice Y2 0 y2) (.slice Y3 0 y3))
 have BK12 := Aside0.mk (pageF BK11.out GEX.out.2 (.bool false) (.slice Y1 0 y1) (.slice Y2 0 y2) (.slice Y3 0 y3))
 have GK12 := Aside0.mk (ladinglaw06_lives.farF GK11.out NKX.out (.bool false) (.slice Y1 0 y1) (.slice Y2 0 y2) (.slice Y3 0 y3))
 clear p0 p1 p2 p3 pf0 pf1 pf2 pf3 BX BK11 HB11 GK11 NKX GEX
 obtain ⟨w12, hw12⟩ : ∃ w12, w12 = ((((w11.setCell ⟨gx, 0, none⟩ (.bool false)).setCell ⟨gx, 1, none⟩ (.slice Y1 0 y1)).setCell ⟨gx, 2, none⟩ (.slice Y2 0 y2)).setCell ⟨gx, 3, none⟩ (.slice Y3 0 y3)) := ⟨_, rfl⟩
 rw [← hw12] at HB12 BK12 GK12 ⊢
 clear hw12
 refine (ladinglaw06_two.calls true [[97], [98]] [[49], [50]] [] _ rfl).mono ?_
 rintro e w13 ⟨_, _, _, rfl, ⟨A1, c1, rfl, l1, F1⟩, ⟨A2, c2, rfl, l2, F2⟩, ⟨A3, c3, rfl, l3, F3⟩, hb⟩
 have HB13 := Aside0.mk (below_step HB12.out hb)
 have BK13 := Aside0.mk (blk_below BK12.out hb)
 have GK13 := Aside0.mk (Kd.F_below GK12.out hb)
 have G1 := Aside0.mk (Kd.F_now F1)
 have G2 := Aside0.mk (Kd.F_now F2)
 have G3 := Aside0.mk (Kd.F_now F3)
 have M1 := Aside0.mk l1
 have M2 := Aside0.mk l2
 have M3 := Aside0.mk l3
 clear F1 F2 F3 l1 l2 l3 hb HB12 BK12 GK12
 go_wp2_with fail
 refine (node_Size.calls 20 true A1 c1 [[97], [98]] A2 c2 [[49], [50]] A3 c3 [] 14 _ G1.out M1.out G2.out M2.out G3.out M3.out ladinglaw06_lives.v4).mono ?_
 rintro e w14 ⟨rfl, hb⟩
 have HB14 := Aside0.mk (below_step HB13.out hb)
 have BK14 := Aside0.mk (blk_below BK13.out hb)
 have GK14 := Aside0.mk (Kd.F_below GK13.out hb)
 clear hb HB13 BK13 GK13 G1 G2 G3 M1 M2 M3
 obtain ⟨q0, q1, q2, q3⟩ := cells4 BK14.out
 have hcv0 := Kd.C_string (P := Try.prog) (A := BK) (c := dK) Try.underlying27 Try.underlying5 Try.underlying9 (Kd.F_now GK14.out)
 have hcv : (convert 27 9 (.slice BK 1 dK)).run Try.prog w14 = .ok (.string { data := #[98] }) w14 := hcv0
 clear hcv0
 have hel := HEL.out
 go_wp2_with fail
 go_ret
 exact ⟨rfl, HB14.out⟩
end Go.Proofs.Ytcbgichkeecgiaa.Print
