-- What the claim uses alone (wip/slim.py). Lean checks it.
import Derived.Test.YtcbgichkeecgiaaZAb
import Derived.Test.YtcbgichkeecgiaaZPrint0
import Derived.Test.YtcbgichkeecgiaaZPrint6
import Derived.Test.YtcbgichkeecgiaaZPrint7
import Derived.Test.YtcbgichkeecgiaaZPrint9
import Derived.Test.YtcbgichkeecgiaaZPrint13
namespace Go.Proofs.Ytcbgichkeecgiaa.Print
open Go.RowKit Go.Proofs.YtcbgichkeecgiaaW.PrintWords Go.Proofs.YtcbgichkeecgiaaW.PrintLast Go.Proofs.YtcbgichkeecgiaaW.PrintMore
attribute [local go_sem] max2_mx min2_mn max_two min_two max_three min_three max_four min_four
set_option linter.unusedVariables false
set_option linter.unusedSimpArgs false
theorem V_take {α : Type} {d : Kd α} {e base : Nat} {ok : Nat → Prop} {g n c : Nat} {xs : List α} {W : World} (h : d.R e W base ok (.slice (some ⟨g, 0, none⟩) n c) xs) (i cc : Nat) (hi : i ≤ n) (hc : i ≤ cc) : Kd.V d e W base (fun k_ => (base ≤ k_)) (.slice (some ⟨g, 0, none⟩) i cc) (xs.take i) := by
 have hn := (Kd.R_reads' h).1
 have hl : (xs.take i).length = i := by rw [List.length_take]; omega
 refine ⟨some ⟨g, 0, none⟩, cc, by rw [hl], by rw [hl]; exact hc, ?_⟩
 have hF := Kd.R_F (Kd.R_mono (Kd.R_bound h) (fun k hk => hk.2.1) : d.R e W base (fun k => base ≤ k) _ _)
 intro W' hW
 obtain ⟨h1, h2, h3⟩ := hF W' hW
 refine ⟨rfl, by rw [hl]; omega, fun hp => ?_⟩
 obtain ⟨ad, ha, hel⟩ := h3 (by rw [hl] at hp; omega)
 refine ⟨ad, ha, fun j p hj => hel j p ?_⟩
 rw [List.getElem?_take] at hj
 split at hj
 ·exact hj
 ·cases hj
theorem V_drop {α : Type} {d : Kd α} {e base : Nat} {ok : Nat → Prop} {g n c : Nat} {xs : List α} {W : World} (h : d.R e W base ok (.slice (some ⟨g, 0, none⟩) n c) xs) (i : Nat) (hi : i ≤ n) (A : Option Addr) (hA : (if c = i then some (⟨g, 0, none⟩ : Addr) else some ⟨g, i * d.sz, none⟩) = A) :
  Kd.V d e W base (fun k_ => (base ≤ k_)) (.slice A (n - i) (c - i)) (xs.drop i) := by
 have hn := (Kd.R_reads' h).1
 have hnc : n ≤ c := by have := (Kd.R_reads' h).2.1; omega
 have hl : (xs.drop i).length = n - i := by rw [List.length_drop]; omega
 refine ⟨A, c - i, by rw [hl], by rw [hl]; omega, ?_⟩
 have hF := Kd.R_F (Kd.R_mono (Kd.R_bound h) (fun k hk => hk.2.1) : d.R e W base (fun k => base ≤ k) _ _)
 intro W' hW
 obtain ⟨h1, h2, h3⟩ := hF W' hW
 refine ⟨rfl, by rw [hl]; omega, fun hp => ?_⟩
 rw [hl] at hp
 have hci : ¬ c = i := by omega
 rw [if_neg hci] at hA
 obtain ⟨ad, ha, hel⟩ := h3 (by omega)
 cases ha
 refine ⟨⟨g, i * d.sz, none⟩, hA.symm, fun j p hj => ?_⟩
 rw [List.getElem?_drop] at hj
 obtain ⟨cs, hs, hk, hc⟩ := hel (i + j) p hj
 refine ⟨cs, hs, hk, fun q u hu => ?_⟩
 have := hc q u hu
 rw [Addr.add_lit]
 rwa [Addr.add_lit, Nat.zero_add, Nat.add_mul, Nat.add_assoc] at this
structure SplP (w W : World) (gc ga gb : Nat) (b : Bool) (Ak : Option Addr) (ck : Nat) (ks : List (List Int)) (Av : Option Addr) (cv : Nat) (vs : List (List Int)) (Ad : Option Addr) (cd : Nat) (ds : List Int) : Prop where
 BC : W.heap[gc]? = some (.cells #[.bool b, .slice Ak ks.length ck, .slice Av vs.length cv, .slice Ad ds.length cd] 26 (0, 0))
 BA : W.heap[ga]? = some (.cells #[.bool false, .slice none 0 0, .slice none 0 0, .slice none 0 0] 26 (0, 0))
 BB : W.heap[gb]? = some (.cells #[.bool false, .slice none 0 0, .slice none 0 0, .slice none 0 0] 26 (0, 0))
 HB : Below w.heap.size w W
 K : Kd.R (Kd.slice 5 (Kd.int .u8)) 27 W w.heap.size (fun _ => True) (.slice Ak ks.length ck) ks
 V : Kd.R (Kd.slice 5 (Kd.int .u8)) 27 W w.heap.size (fun _ => True) (.slice Av vs.length cv) vs
 D : Kd.R (Kd.int .i64) 3 W w.heap.size (fun _ => True) (.slice Ad ds.length cd) ds
 GC : w.heap.size ≤ gc
 GA : w.heap.size ≤ ga
 GB : w.heap.size ≤ gb
 ne1 : ga ≠ gc
 ne2 : gb ≠ gc
 ne3 : ga ≠ gb
section
variable {w W W2 : World} {gc ga gb : Nat} {b : Bool} {Ak : Option Addr} {ck : Nat} {ks : List (List Int)} {Av : Option Addr} {cv : Nat} {vs : List (List Int)} {Ad : Option Addr} {cd : Nat} {ds : List Int}
theorem SplP.below (O : SplP w W gc ga gb b Ak ck ks Av cv vs Ad cd ds) (hb : Below W.heap.size W W2) : SplP w W2 gc ga gb b Ak ck ks Av cv vs Ad cd ds :=
 ⟨blk_below O.BC hb, blk_below O.BA hb, blk_below O.BB hb, below_step O.HB hb, Kd.R_below O.K hb, Kd.R_below O.V hb, Kd.R_below O.D hb, O.GC, O.GA, O.GB, O.ne1, O.ne2, O.ne3⟩
theorem SplP.drew (O : SplP w W gc ga gb b Ak ck ks Av cv vs Ad cd ds) : SplP w W.drew gc ga gb b Ak ck ks Av cv vs Ad cd ds := O.below (below_drew (Below.refl _ _))
theorem SplP.far (O : SplP w W gc ga gb b Ak ck ks Av cv vs Ad cd ds) {g : Nat} {v0 v1 v2 v3 : Value} (hg : W.heap[g]? = some (.cells #[v0, v1, v2, v3] 26 (0, 0))) (h0 : w.heap.size ≤ g) (h1 : gc ≠ g) (h2 : ga ≠ g) (h3 : gb ≠ g) (x0 x1 x2 x3 : Value) :
  SplP w ((((W.setCell ⟨g, 0, none⟩ x0).setCell ⟨g, 1, none⟩ x1).setCell ⟨g, 2, none⟩ x2).setCell ⟨g, 3, none⟩ x3) gc ga gb b Ak ck ks Av cv vs Ad cd ds :=
 ⟨pageF O.BC h1 _ _ _ _, pageF O.BA h2 _ _ _ _, pageF O.BB h3 _ _ _ _, pageW O.HB h0 _ _ _ _, pageR O.K hg (by decide) _ _ _ _, pageR O.V hg (by decide) _ _ _ _, pageR O.D hg (by decide) _ _ _ _, O.GC, O.GA, O.GB, O.ne1, O.ne2, O.ne3⟩
theorem cells4 {g : Nat} {v0 v1 v2 v3 : Value} (h : W.heap[g]? = some (.cells #[v0, v1, v2, v3] 26 (0, 0))) : W.cell? ⟨g, 0, none⟩ = some v0 ∧ W.cell? ⟨g, 1, none⟩ = some v1 ∧ W.cell? ⟨g, 2, none⟩ = some v2 ∧ W.cell? ⟨g, 3, none⟩ = some v3 :=
 ⟨(blk_cell h 0).trans rfl, (blk_cell h 1).trans rfl, (blk_cell h 2).trans rfl, (blk_cell h 3).trans rfl⟩
theorem SplP.end_ (O : SplP w W gc ga gb b Ak ck ks Av cv vs Ad cd ds) (x0 x1 x2 x3 y0 y1 y2 y3 : Value) :
  ∃ W2, W2 = ((((((((W.setCell ⟨ga, 0, none⟩ x0).setCell ⟨ga, 1, none⟩ x1).setCell ⟨ga, 2, none⟩ x2).setCell ⟨ga, 3, none⟩ x3).setCell ⟨gb, 0, none⟩ y0).setCell ⟨gb, 1, none⟩ y1).setCell ⟨gb, 2, none⟩ y2).setCell ⟨gb, 3, none⟩ y3) ∧
   W2.heap[ga]? = some (.cells #[x0, x1, x2, x3] 26 (0, 0)) ∧ W2.heap[gb]? = some (.cells #[y0, y1, y2, y3] 26 (0, 0)) ∧ Below w.heap.size w W2 ∧
   Kd.R (Kd.slice 5 (Kd.int .u8)) 27 W2 w.heap.size (fun _ => True) (.slice Ak ks.length ck) ks ∧ Kd.R (Kd.slice 5 (Kd.int .u8)) 27 W2 w.heap.size (fun _ => True) (.slice Av vs.length cv) vs ∧ Kd.R (Kd.int .i64) 3 W2 w.heap.size (fun _ => True) (.slice Ad ds.length cd) ds := by
 have hb := pageF O.BB (Ne.symm O.ne3) x0 x1 x2 x3
 exact ⟨_, rfl, pageF (pageB O.BA x0 x1 x2 x3) O.ne3 _ _ _ _, pageB hb y0 y1 y2 y3, pageW (pageW O.HB O.GA _ _ _ _) O.GB _ _ _ _, pageR (pageR O.K O.BA (by decide) _ _ _ _) hb (by decide) _ _ _ _, pageR (pageR O.V O.BA (by decide) _ _ _ _) hb (by decide) _ _ _ _, pageR (pageR O.D O.BA (by decide) _ _ _ _) hb (by decide) _ _ _ _⟩
end
def node_Split.f (k : Nat) (a0_0 : Bool) (l0_1 l0_2 : List (List Int)) (l0_3 : List Int) : Option (Bool × (List (List Int)) × (List (List Int)) × List Int × List Int × Bool × (List (List Int)) × (List (List Int)) × List Int × Int) :=
 (node_Check.f k a0_0 l0_1 l0_2 l0_3).bind fun t => if t = 0 then (if l0_1.length < 2 ∨ (l0_1.length < 3 ∧ a0_0 = false) then some (false, [], [], [], [], false, [], [], [], 2) else
  ((node_own.f k a0_0 l0_1 l0_2 l0_3).bind fun o => if a0_0 = true then ((node_half.f k a0_0 l0_1 l0_2 l0_3).bind fun i => if 0 < i ∧ i < (o.2.1.length : Int) ∧ i ≤ (o.2.2.1.length : Int) ∧ o.2.1.length < 9223372036854775807 ∧ o.2.2.1.length < 9223372036854775807 then ((bytes_Clone.f (rd_L1 o.2.1 i)).bind fun b => some (true, o.2.1.take i.toNat, o.2.2.1.take i.toNat, [], b, true, o.2.1.drop i.toNat, o.2.2.1.drop i.toNat, [], 0)) else none)
   else (if l0_1.length / 2 < o.2.1.length ∧ l0_1.length / 2 + 1 ≤ o.2.2.2.length ∧ o.2.1.length < 9223372036854775807 ∧ o.2.2.2.length < 9223372036854775807 ∧ l0_1.length < 9223372036854775807 then some (false, o.2.1.take (l0_1.length / 2), [], o.2.2.2.take (l0_1.length / 2 + 1), rd_L1 o.2.1 (l0_1.length / 2 : Nat), false, o.2.1.drop (l0_1.length / 2 + 1), [], o.2.2.2.drop (l0_1.length / 2 + 1), 0) else none)))
  else some (false, [], [], [], [], false, [], [], [], t)
set_option maxHeartbeats 8000000 in
set_option maxRecDepth 100000 in
theorem node_Split.calls (k : Nat) (a0_0 : Bool) (A0_1 : Option Addr) (c0_1 : Nat) (l0_1 : List (List Int)) (A0_2 : Option Addr) (c0_2 : Nat) (l0_2 : List (List Int)) (A0_3 : Option Addr) (c0_3 : Nat) (l0_3 : List Int) (r1 : Bool) (r2 : List (List Int)) (r3 : List (List Int)) (r4 : List Int) (r5 : List Int) (r6 : Bool) (r7 : List (List Int)) (r8 : List (List Int)) (r9 : List Int) (r10 : Int) (w : World) (hr0_1 : Kd.C (Kd.slice 5 (Kd.int .u8)) w A0_1 l0_1.length l0_1) (hc0_1 : l0_1.length ≤ c0_1) (hr0_2 : Kd.C (Kd.slice 5 (Kd.int .u8)) w A0_2 l0_2.length l0_2) (hc0_2 : l0_2.length ≤ c0_2) (hr0_3 : Kd.C (Kd.int .i64) w A0_3 l0_3.length l0_3) (hc0_3 : l0_3.length ≤ c0_3) (h : node_Split.f k a0_0 l0_1 l0_2 l0_3 = some (r1, r2, r3, r4, r5, r6, r7, r8, r9, r10)) :
  Calls Try.prog 18 #[.agg #[.bool a0_0, .slice A0_1 l0_1.length c0_1, .slice A0_2 l0_2.length c0_2, .slice A0_3 l0_3.length c0_3]] w fun e w' => ∃ v1_ v2_ v3_ v4_ v6_ v7_ v8_ : Value, e = .returned (.tuple #[.agg #[.bool r1, v1_, v2_, v3_], v4_, .agg #[.bool r6, v6_, v7_, v8_], .int .i64 r10]) ∧ Kd.V (Kd.slice 5 (Kd.int .u8)) 27 w' w.heap.size (fun k_ => (w.heap.size ≤ k_)) v1_ r2 ∧ Kd.V (Kd.slice 5 (Kd.int .u8)) 27 w' w.heap.size (fun k_ => (w.heap.size ≤ k_)) v2_ r3 ∧ Kd.V (Kd.int .i64) 3 w' w.heap.size (fun k_ => (w.heap.size ≤ k_)) v3_ r4 ∧ Kd.V (Kd.int .u8) 5 w' w.heap.size (fun k_ => (w.heap.size ≤ k_)) v4_ r5 ∧ Kd.V (Kd.slice 5 (Kd.int .u8)) 27 w' w.heap.size (fun k_ => (w.heap.size ≤ k_)) v6_ r7 ∧ Kd.V (Kd.slice 5 (Kd.int .u8)) 27 w' w.heap.size (fun k_ => (w.heap.size ≤ k_)) v7_ r8 ∧ Kd.V (Kd.int .i64) 3 w' w.heap.size (fun k_ => (w.heap.size ≤ k_)) v8_ r9 ∧ Below w.heap.size w w' := by
 have hu26 := Try.underlying26
 have R1 := Aside0.mk hr0_1
 have L1 := Aside0.mk hc0_1
 have R2 := Aside0.mk hr0_2
 have L2 := Aside0.mk hc0_2
 have R3 := Aside0.mk hr0_3
 have L3 := Aside0.mk hc0_3
 clear hr0_1 hc0_1 hr0_2 hc0_2 hr0_3 hc0_3
 unfold node_Split.f at h
 replace h := Option.bind_eq_some_iff.mp h
 obtain ⟨t, ht, h⟩ := h
 have HT := Aside0.mk ht
 have HH := Aside0.mk h
 clear ht h
 go_enter Try.func18, Try.ntmps18
 go_wp2_with (first | ((with_reducible refine gate_dst (N := 1) rfl ?_); refine box_event ?hg (N := 1) ?hd (cs := #[.bool a0_0, .slice A0_1 l0_1.length c0_1, .slice A0_2 l0_2.length c0_2, .slice A0_3 l0_3.length c0_3]) (t := 26) ?hr ?_; (case hd => rfl); (case hg => rfl); (case hr => first | (go_simp; done) | (go_simp; rfl)); intro gp hgp w1 hbox hb; have BP := Aside0.mk hbox; have HB := Aside0.mk hb; clear hbox hb hgp) | ((with_reducible refine gate_dst (N := 2) rfl ?_); refine box_event ?hg (N := 2) ?hd (cs := #[.bool false, .slice none 0 0, .slice none 0 0, .slice none 0 0]) (t := 26) ?hr ?_; (case hd => rfl); (case hg => rfl); (case hr => first | (go_simp; done) | (go_simp; rfl)); intro ga hga w2 hbox hb; have GA : Aside0 (w.heap.size ≤ ga) := ⟨by rw [hga]; exact HB.out.size⟩; have BA := Aside0.mk hbox; have BP2 := Aside0.mk (blk_below BP.out hb); have HB2 := Aside0.mk (below_step HB.out hb); clear hbox hb hga BP HB) | ((with_reducible refine gate_dst (N := 4) rfl ?_); refine box_event ?hg (N := 4) ?hd (cs := #[.bool false, .slice none 0 0, .slice none 0 0, .slice none 0 0]) (t := 26) ?hr ?_; (case hd => rfl); (case hg => rfl); (case hr => first | (go_simp; done) | (go_simp; rfl)); intro gb hgb w3 hbox hb; have GB : Aside0 (w.heap.size ≤ gb ∧ ga ≠ gb) := ⟨by rw [hgb]; exact HB2.out.size, by rw [hgb]; exact Nat.ne_of_lt (blk_lt BA.out)⟩; have BB := Aside0.mk hbox; have BA2 := Aside0.mk (blk_below BA.out hb); have BP3 := Aside0.mk (blk_below BP2.out hb); have HB3 := Aside0.mk (below_step HB2.out hb); obtain ⟨hc0, hc1, hc2, hc3⟩ := cells4 BP3.out; clear hbox hb hgb BP2 HB2 BA))
 refine (node_Check.calls k a0_0 A0_1 c0_1 l0_1 A0_2 c0_2 l0_2 A0_3 c0_3 l0_3 t _ (Kd.C_below R1.out HB3.out) L1.out (Kd.C_below R2.out HB3.out) L2.out (Kd.C_below R3.out HB3.out) L3.out HT.out).mono ?_
 rintro e w4 ⟨rfl, hb4⟩
 have BP4 := Aside0.mk (blk_below BP3.out hb4)
 have BA4 := Aside0.mk (blk_below BA2.out hb4)
 have BB4 := Aside0.mk (blk_below BB.out hb4)
 have HB4 := Aside0.mk (below_step HB3.out hb4)
 clear hc0 hc1 hc2 hc3 hb4 BP3 BA2 BB HB3 HT
 obtain ⟨hc0, hc1, hc2, hc3⟩ := cells4 BP4.out
 have H := HH.out
 clear HH
 by_cases hz : t = 0
 case neg =>
  rw [if_neg hz] at H
  have z1 : (t == 0) = false := beq_eq_false_iff_ne.mpr hz
  have z2 : (t != 0) = true := bne_iff_ne.mpr hz
  clear hz
  simp only [Option.some.injEq, Prod.mk.injEq] at H
  obtain ⟨rfl, rfl, rfl, rfl, rfl, rfl, rfl, rfl, rfl, rfl⟩ := H
  obtain ⟨ha0, ha1, ha2, ha3⟩ := cells4 BA4.out
  obtain ⟨hb0, hb1, hb2, hb3⟩ := cells4 BB4.out
  have hf0 := blk_frozen BA4.out 0
  have hf1 := blk_frozen BA4.out 1
  have hf2 := blk_frozen BA4.out 2
  have hf3 := blk_frozen BA4.out 3
  have hg0 := blk_frozen BB4.out 0
  have hg1 := blk_frozen BB4.out 1
  have hg2 := blk_frozen BB4.out 2
  have hg3 := blk_frozen BB4.out 3
  have hne1 : ¬ ga = gb := GB.out.2
  have hne2 : ¬ gb = ga := Ne.symm GB.out.2
  go_wp2
  have hbb := pageF BB4.out (Ne.symm GB.out.2) (.bool false) (.slice none 0 0) (.slice none 0 0) (.slice none 0 0)
  refine bodyPost_ret (results_list (rs := [.cell 2 26, .tmp 3, .cell 4 26, .tmp 5]) rfl (by simp) (Vals.cell ga 26 #[.bool false, .slice none 0 0, .slice none 0 0, .slice none 0 0] (0, 0) _ rfl (pageF (pageB BA4.out _ _ _ _) GB.out.2 _ _ _ _) Try.underlying26 rfl (by kernel_rfl) (Vals.tmp (Vals.cell gb 26 #[.bool false, .slice none 0 0, .slice none 0 0, .slice none 0 0] (0, 0) _ rfl (pageB hbb _ _ _ _) Try.underlying26 rfl (by kernel_rfl) (Vals.tmp Vals.nil))))) rfl ⟨_, _, _, _, _, _, _, rfl, Kd.V_nil _ _ _ _ _, Kd.V_nil _ _ _ _ _, Kd.V_nil _ _ _ _ _, Kd.V_nil _ _ _ _ _, Kd.V_nil _ _ _ _ _, Kd.V_nil _ _ _ _ _, Kd.V_nil _ _ _ _ _, pageW (pageW HB4.out GA.out _ _ _ _) GB.out.1 _ _ _ _⟩
 case pos =>
 rw [if_pos hz] at H
 have z1 : (t == 0) = true := beq_iff_eq.mpr hz
 have z2 : (t != 0) = false := bne_eq_false_iff_eq.mpr hz
 clear hz
 by_cases h2 : l0_1.length < 2
 case pos =>
  rw [if_pos (Or.inl h2)] at H
  have y2 : decide ((l0_1.length : Int) < 2) = true := decide_eq_true (by omega)
  have y2n : decide (l0_1.length < 2) = true := decide_eq_true h2
  clear h2
  simp only [Option.some.injEq, Prod.mk.injEq] at H
  obtain ⟨rfl, rfl, rfl, rfl, rfl, rfl, rfl, rfl, rfl, rfl⟩ := H
  obtain ⟨ha0, ha1, ha2, ha3⟩ := cells4 BA4.out
  obtain ⟨hb0, hb1, hb2, hb3⟩ := cells4 BB4.out
  have hf0 := blk_frozen BA4.out 0
  have hf1 := blk_frozen BA4.out 1
  have hf2 := blk_frozen BA4.out 2
  have hf3 := blk_frozen BA4.out 3
  have hg0 := blk_frozen BB4.out 0
  have hg1 := blk_frozen BB4.out 1
  have hg2 := blk_frozen BB4.out 2
  have hg3 := blk_frozen BB4.out 3
  have hne1 : ¬ ga = gb := GB.out.2
  have hne2 : ¬ gb = ga := Ne.symm GB.out.2
  go_wp2
  have hbb := pageF BB4.out (Ne.symm GB.out.2) (.bool false) (.slice none 0 0) (.slice none 0 0) (.slice none 0 0)
  refine bodyPost_ret (results_list (rs := [.cell 2 26, .tmp 3, .cell 4 26, .tmp 5]) rfl (by simp) (Vals.cell ga 26 #[.bool false, .slice none 0 0, .slice none 0 0, .slice none 0 0] (0, 0) _ rfl (pageF (pageB BA4.out _ _ _ _) GB.out.2 _ _ _ _) Try.underlying26 rfl (by kernel_rfl) (Vals.tmp (Vals.cell gb 26 #[.bool false, .slice none 0 0, .slice none 0 0, .slice none 0 0] (0, 0) _ rfl (pageB hbb _ _ _ _) Try.underlying26 rfl (by kernel_rfl) (Vals.tmp Vals.nil))))) rfl ⟨_, _, _, _, _, _, _, rfl, Kd.V_nil _ _ _ _ _, Kd.V_nil _ _ _ _ _, Kd.V_nil _ _ _ _ _, Kd.V_nil _ _ _ _ _, Kd.V_nil _ _ _ _ _, Kd.V_nil _ _ _ _ _, Kd.V_nil _ _ _ _ _, pageW (pageW HB4.out GA.out _ _ _ _) GB.out.1 _ _ _ _⟩
 case neg =>
 have y2 : decide ((l0_1.length : Int) < 2) = false := decide_eq_false (by omega)
 have y2n : decide (l0_1.length < 2) = false := decide_eq_false h2
 cases a0_0 with
 | false =>
  by_cases h3 : l0_1.length < 3
  case pos =>
   rw [if_pos (Or.inr ⟨h3, rfl⟩)] at H
   have y3 : decide ((l0_1.length : Int) < 3) = true := decide_eq_true (by omega)
   have y3n : decide (l0_1.length < 3) = true := decide_eq_true h3
   clear h2 h3
   simp only [Option.some.injEq, Prod.mk.injEq] at H
   obtain ⟨rfl, rfl, rfl, rfl, rfl, rfl, rfl, rfl, rfl, rfl⟩ := H
   obtain ⟨ha0, ha1, ha2, ha3⟩ := cells4 BA4.out
   obtain ⟨hb0, hb1, hb2, hb3⟩ := cells4 BB4.out
   have hf0 := blk_frozen BA4.out 0
   have hf1 := blk_frozen BA4.out 1
   have hf2 := blk_frozen BA4.out 2
   have hf3 := blk_frozen BA4.out 3
   have hg0 := blk_frozen BB4.out 0
   have hg1 := blk_frozen BB4.out 1
   have hg2 := blk_frozen BB4.out 2
   have hg3 := blk_frozen BB4.out 3
   have hne1 : ¬ ga = gb := GB.out.2
   have hne2 : ¬ gb = ga := Ne.symm GB.out.2
   go_wp2
   have hbb := pageF BB4.out (Ne.symm GB.out.2) (.bool false) (.slice none 0 0) (.slice none 0 0) (.slice none 0 0)
   refine bodyPost_ret (results_list (rs := [.cell 2 26, .tmp 3, .cell 4 26, .tmp 5]) rfl (by simp) (Vals.cell ga 26 #[.bool false, .slice none 0 0, .slice none 0 0, .slice none 0 0] (0, 0) _ rfl (pageF (pageB BA4.out _ _ _ _) GB.out.2 _ _ _ _) Try.underlying26 rfl (by kernel_rfl) (Vals.tmp (Vals.cell gb 26 #[.bool false, .slice none 0 0, .slice none 0 0, .slice none 0 0] (0, 0) _ rfl (pageB hbb _ _ _ _) Try.underlying26 rfl (by kernel_rfl) (Vals.tmp Vals.nil))))) rfl ⟨_, _, _, _, _, _, _, rfl, Kd.V_nil _ _ _ _ _, Kd.V_nil _ _ _ _ _, Kd.V_nil _ _ _ _ _, Kd.V_nil _ _ _ _ _, Kd.V_nil _ _ _ _ _, Kd.V_nil _ _ _ _ _, Kd.V_nil _ _ _ _ _, pageW (pageW HB4.out GA.out _ _ _ _) GB.out.1 _ _ _ _⟩
  case neg =>
  have y3 : decide ((l0_1.length : Int) < 3) = false := decide_eq_false (by omega)
  have y3n : decide (l0_1.length < 3) = false := decide_eq_false h3
  rw [if_neg (fun h => h.elim h2 (fun h => h3 h.1))] at H
  clear h2 h3
  replace H := Option.bind_eq_some_iff.mp H
  obtain ⟨⟨o1, o2, o3, o4⟩, ho, H⟩ := H
  have HO := Aside0.mk ho
  have HH := Aside0.mk H
  clear ho H
  go_wp2_with fail
  refine (node_own.calls k false A0_1 c0_1 l0_1 A0_2 c0_2 l0_2 A0_3 c0_3 l0_3 o1 o2 o3 o4 _ (Kd.C_below R1.out HB4.out) L1.out (Kd.C_below R2.out HB4.out) L2.out (Kd.C_below R3.out HB4.out) L3.out HO.out).mono ?_
  rintro e w5 ⟨v1, v2, v3, rfl, hS1, hS2, hR3, hb5⟩
  obtain ⟨Ak, ck, rfl⟩ := Kd.R_slice (Kd.S_R hS1)
  obtain ⟨Av, cv, rfl⟩ := Kd.R_slice (Kd.S_R hS2)
  obtain ⟨Ad, cd, rfl⟩ := Kd.R_slice hR3
  have S1 := Aside0.mk (Kd.R_mono (Kd.R_lower (Kd.S_R hS1) HB4.out.size) (ok' := fun _ => True) (fun _ _ => trivial))
  have S2 := Aside0.mk (Kd.R_mono (Kd.R_lower (Kd.S_R hS2) HB4.out.size) (ok' := fun _ => True) (fun _ _ => trivial))
  have S3 := Aside0.mk (Kd.R_lower hR3 HB4.out.size)
  have BP5 := Aside0.mk (blk_below BP4.out hb5)
  have BA5 := Aside0.mk (blk_below BA4.out hb5)
  have BB5 := Aside0.mk (blk_below BB4.out hb5)
  have HB5 := Aside0.mk (below_step HB4.out hb5)
  clear hc0 hc1 hc2 hc3 hb5 BP4 BA4 BB4 HB4 hS1 hS2 hR3 HO
  have H := HH.out
  clear HH
  first | rw [if_neg not_false] at H | rw [if_neg (by simp)] at H
  obtain ⟨n, hn_⟩ : ∃ n, n = l0_1.length / 2 := ⟨_, rfl⟩
  rw [← hn_] at H
  by_cases hc : n < o2.length ∧ n + 1 ≤ o4.length ∧ o2.length < 9223372036854775807 ∧ o4.length < 9223372036854775807 ∧ l0_1.length < 9223372036854775807
  case neg => rw [if_neg hc] at H; cases H
  case pos =>
  rw [if_pos hc] at H
  have HN := Aside0.mk hc
  have HNE := Aside0.mk hn_
  simp only [Option.some.injEq, Prod.mk.injEq] at H
  obtain ⟨rfl, rfl, rfl, rfl, rfl, rfl, rfl, rfl, rfl, rfl⟩ := H
  have hq : (((l0_1.length : Int) / 2 : Int)) = (n : Int) := by rw [hn_]; rfl
  have hqn : l0_1.length / 2 = n := hn_.symm
  clear hc hn_
  go_wp2_with (first | ((with_reducible refine gate_dst (N := 8) rfl ?_); refine box_event ?hg (N := 8) ?hd (cs := #[.bool false, .slice none 0 0, .slice none 0 0, .slice none 0 0]) (t := 26) ?hr ?_; (case hd => rfl); (case hg => rfl); (case hr => first | (go_simp; done) | (go_simp; rfl)); intro gc hgc w6 hbox hb; have GC : Aside0 (w.heap.size ≤ gc ∧ ga ≠ gc ∧ gb ≠ gc ∧ gp ≠ gc) := ⟨by rw [hgc]; exact HB5.out.size, by rw [hgc]; exact Nat.ne_of_lt (blk_lt BA5.out), by rw [hgc]; exact Nat.ne_of_lt (blk_lt BB5.out), by rw [hgc]; exact Nat.ne_of_lt (blk_lt BP5.out)⟩; have BC := Aside0.mk hbox; have BP6 := Aside0.mk (blk_below BP5.out hb); have BA6 := Aside0.mk (blk_below BA5.out hb); have BB6 := Aside0.mk (blk_below BB5.out hb); have HB6 := Aside0.mk (below_step HB5.out hb); have T1 := Aside0.mk (Kd.R_below S1.out hb); have T2 := Aside0.mk (Kd.R_below S2.out hb); have T3 := Aside0.mk (Kd.R_below S3.out hb); obtain ⟨hd0, hd1, hd2, hd3⟩ := cells4 BC.out; have hf0 := blk_frozen BC.out 0; have hf1 := blk_frozen BC.out 1; have hf2 := blk_frozen BC.out 2; have hf3 := blk_frozen BC.out 3; obtain ⟨hc0, hc1, hc2, hc3⟩ := cells4 BP6.out; have hne1 : ¬ gc = gp := Ne.symm GC.out.2.2.2; have hne2 : ¬ gp = gc := GC.out.2.2.2; clear hbox hb hgc BP5 BA5 BB5 HB5 S1 S2 S3))
  have O : Aside0 (SplP w ((((w6.setCell ⟨gc, 0, none⟩ (.bool o1)).setCell ⟨gc, 1, none⟩ (.slice Ak o2.length ck)).setCell ⟨gc, 2, none⟩ (.slice Av o3.length cv)).setCell ⟨gc, 3, none⟩ (.slice Ad o4.length cd)) gc ga gb o1 Ak ck o2 Av cv o3 Ad cd o4) :=
   ⟨pageB BC.out _ _ _ _, pageF BA6.out GC.out.2.1 _ _ _ _, pageF BB6.out GC.out.2.2.1 _ _ _ _, pageW HB6.out GC.out.1 _ _ _ _, pageR T1.out BC.out (by decide) _ _ _ _, pageR T2.out BC.out (by decide) _ _ _ _, pageR T3.out BC.out (by decide) _ _ _ _, GC.out.1, GA.out, GB.out.1, GC.out.2.1, GC.out.2.2.1, GB.out.2⟩
  clear T1 T2 T3 BC BA6 BB6 HB6 BP6 hd0 hd1 hd2 hd3 hf0 hf1 hf2 hf3 hc0 hc1 hc2 hc3 hne1 hne2 GC GA GB
  generalize World.setCell _ _ _ = w7 at O ⊢
  obtain ⟨gk, c_, e_, _, _, curk, hk⟩ := Kd.R_form O.out.K (by have := HN.out; omega)
  injection e_ with e1_ _ e2_
  subst e1_
  subst e2_
  obtain ⟨gd, c_, e_, _, _, curd, hd⟩ := Kd.R_form O.out.D (by have := HN.out; omega)
  injection e_ with e1_ _ e2_
  subst e1_
  subst e2_
  clear hk hd
  have hwn : wrap64 (n : Int) = (n : Int) := w64_in (Int.natCast_nonneg _) (by have := HN.out; have := HNE.out; omega)
  rw [hwn]
  clear hwn hq hqn
  have HCK := Aside0.mk (Kd.R_reads' O.out.K).2.1
  have HCD := Aside0.mk (Kd.R_reads' O.out.D).2.1
  have f1 : n ≤ ck := by have := HN.out; have := HCK.out; omega
  have f2 : n + 1 ≤ cd := by have := HN.out; have := HCD.out; omega
  have f3 : (n : Int) ≤ (ck : Int) := by omega
  have f4 : (n : Int) + 1 ≤ (cd : Int) := by omega
  have f5 : n ≤ o2.length := by have := HN.out; omega
  have f6 : n + 1 ≤ o4.length := HN.out.2.1
  have f7 : (n : Int) < (o2.length : Int) := by have := HN.out; omega
  have f8 : n < o2.length := HN.out.1
  have f9 : n + 1 ≤ o2.length := f8
  have f10 : (n : Int) + 1 ≤ (o2.length : Int) := by omega
  have f11 : (n : Int) + 1 ≤ (o4.length : Int) := by omega
  have f12 : n + 1 ≤ ck := by have := HCK.out; omega
  have g1 : IntKind.i64.wrap ((n : Int) + 1) = (n : Int) + 1 := wi64_in (by omega) (by have := HN.out; omega)
  have g2 : ((n : Int) + 1).toNat = n + 1 := by omega
  have g3 : (0 : Int) ≤ (n : Int) + 1 := by omega
  obtain ⟨AK, hAK⟩ : ∃ A, (if ck = n + 1 then some (⟨gk, 0, none⟩ : Addr) else some ⟨gk, n + 1, none⟩) = A := ⟨_, rfl⟩
  obtain ⟨AD, hAD⟩ : ∃ A, (if cd = n + 1 then some (⟨gd, 0, none⟩ : Addr) else some ⟨gd, n + 1, none⟩) = A := ⟨_, rfl⟩
  have O2 := Aside0.mk O.out.drew
  clear O
  have O := O2
  clear O2
  refine start_ (n := 15) (S := fun w' => w'.cell? ⟨gc, 0, none⟩ = some (.bool o1) ∧ w'.cell? ⟨gc, 1, none⟩ = some (.slice (some ⟨gk, 0, none⟩) o2.length ck) ∧ w'.cell? ⟨gc, 2, none⟩ = some (.slice Av o3.length cv) ∧ w'.cell? ⟨gc, 3, none⟩ = some (.slice (some ⟨gd, 0, none⟩) o4.length cd)) (ds := [14]) (zB 0 15) (by kernel_rfl) rfl rfl ⟨(cells4 O.out.BC).1, (cells4 O.out.BC).2.1, (cells4 O.out.BC).2.2.1, (cells4 O.out.BC).2.2.2⟩ (fun hHeld => ?_)
  generalize World.drew _ = wa at O hHeld ⊢
  refine pure_ (i := 0) (N := some 73) (v := ?_) (a' := ?_) (zB 1 14) rfl rfl (by kernel_rfl) (fun _ _ _ h => h) (Or.inl ⟨by rfl, ?_⟩) ?_ ?_
  rotate_left
  ·intro w'
   go_simp
   with_reducible rfl
  rotate_left
  ·simp only [Act.put, zt0, zt1, zt2, i64_w, i32_w]
   rfl
  refine pure_ (i := 2) (N := some 75) (v := ?_) (a' := ?_) #[true, false, true, false, false, false, false, false, false, false, false, false, false, false, false] rfl rfl (by kernel_rfl) (fun _ _ _ h => h) (Or.inl ⟨by rfl, ?_⟩) ?_ ?_
  rotate_left
  ·intro w'
   go_simp
   with_reducible rfl
  rotate_left
  ·simp only [Act.put, zt0, zt1, zt2, i64_w, i32_w]
   rfl
  refine pure_ (i := 3) (N := some 76) (v := ?_) (a' := ?_) #[true, false, true, true, false, false, false, false, false, false, false, false, false, false, false] rfl rfl (by kernel_rfl) (fun _ _ _ h => h) (Or.inl ⟨by rfl, ?_⟩) ?_ ?_
  rotate_left
  ·intro w'
   go_simp
   with_reducible rfl
  rotate_left
  ·simp only [Act.put, zt0, zt1, zt2, i64_w, i32_w]
   rfl
  refine pure_ (i := 5) (N := some 78) (v := ?_) (a' := ?_) #[true, false, true, true, false, true, false, false, false, false, false, false, false, false, false] rfl rfl (by kernel_rfl) (fun _ _ _ h => h) (Or.inl ⟨by rfl, ?_⟩) ?_ ?_
  rotate_left
  ·intro w'
   go_simp
   with_reducible rfl
  rotate_left
  ·simp only [Act.put, zt0, zt1, zt2, i64_w, i32_w]
   rfl
  refine pure_ (i := 7) (N := some 80) (v := ?_) (a' := ?_) #[true, false, true, true, false, true, false, true, false, false, false, false, false, false, false] rfl rfl (by kernel_rfl) (fun _ _ _ h => h) (Or.inl ⟨by rfl, ?_⟩) ?_ ?_
  rotate_left
  ·intro w'
   go_simp
   with_reducible rfl
  rotate_left
  ·simp only [Act.put, zt0, zt1, zt2, i64_w, i32_w]
   rfl
  refine pure_ (i := 8) (N := some 81) (v := ?_) (a' := ?_) #[true, false, true, true, false, true, false, true, true, false, false, false, false, false, false] rfl rfl (by kernel_rfl) (fun _ _ _ h => h) (Or.inl ⟨by rfl, ?_⟩) ?_ ?_
  rotate_left
  ·intro w'
   go_simp
   with_reducible rfl
  rotate_left
  ·simp only [Act.put, zt0, zt1, zt2, i64_w, i32_w]
   rfl
  refine pure_ (i := 9) (N := some 82) (v := ?_) (a' := ?_) #[true, false, true, true, false, true, false, true, true, true, false, false, false, false, false] rfl rfl (by kernel_rfl) (fun _ _ _ h => h) (Or.inl ⟨by rfl, ?_⟩) ?_ ?_
  rotate_left
  ·intro w'
   go_simp
   with_reducible rfl
  rotate_left
  ·simp only [Act.put, zt0, zt1, zt2, i64_w, i32_w]
   rfl
  refine pure_ (i := 10) (N := some 83) (v := ?_) (a' := ?_) #[true, false, true, true, false, true, false, true, true, true, true, false, false, false, false] rfl rfl (by kernel_rfl) (fun _ _ _ h => h) (Or.inl ⟨by rfl, ?_⟩) ?_ ?_
  rotate_left
  ·intro w'
   go_simp
   with_reducible rfl
  rotate_left
  ·simp only [Act.put, zt0, zt1, zt2, i64_w, i32_w]
   rfl
  refine take_ (i := 1) (N := some 74) (v := ?_) (a' := ?_) #[true, true, true, true, false, true, false, true, true, true, true, false, false, false, false] rfl rfl (by kernel_rfl) (fun _ _ _ h => h) (Or.inl ⟨by rfl, ?_⟩) hHeld ?_ ?_
  rotate_left
  ·rintro w' ⟨s0, s1, s2, s3⟩
   go_simp
   with_reducible rfl
  rotate_left
  ·simp only [Act.put, zt0, zt1, zt2, i64_w, i32_w]
   rfl
  refine pure_ (i := 4) (N := some 77) (v := ?_) (a' := ?_) #[true, true, true, true, true, true, false, true, true, true, true, false, false, false, false] rfl rfl (by kernel_rfl) (fun _ _ _ h => h) (Or.inl ⟨by rfl, ?_⟩) ?_ ?_
  rotate_left
  ·intro w'
   go_simp
   with_reducible rfl
  rotate_left
  ·simp only [Act.put, zt0, zt1, zt2, i64_w, i32_w]
   rfl
  refine take_ (i := 6) (N := some 79) (v := ?_) (a' := ?_) (zB 11 4) rfl rfl (by kernel_rfl) (fun _ _ _ h => h) (Or.inl ⟨by rfl, ?_⟩) hHeld ?_ ?_
  rotate_left
  ·rintro w' ⟨s0, s1, s2, s3⟩
   go_simp
   with_reducible rfl
  rotate_left
  ·simp only [Act.put, zt0, zt1, zt2, i64_w, i32_w]
   rfl
  refine pure_ (i := 11) (N := some 84) (v := ?_) (a' := ?_) (zB 12 3) rfl rfl (by kernel_rfl) (fun _ _ _ h => h) (Or.inl ⟨by rfl, ?_⟩) ?_ ?_
  rotate_left
  ·intro w'
   go_simp
   with_reducible rfl
  rotate_left
  ·simp only [Act.put, zt0, zt1, zt2, i64_w, i32_w]
   rfl
  refine pure_ (i := 12) (N := some 85) (v := ?_) (a' := ?_) (zB 13 2) rfl rfl (by kernel_rfl) (fun _ _ _ h => h) (Or.inl ⟨by rfl, ?_⟩) ?_ ?_
  rotate_left
  ·intro w'
   go_simp
   with_reducible rfl
  rotate_left
  ·simp only [Act.put, zt0, zt1, zt2, i64_w, i32_w]
   rfl
  refine one_ (i := 13) (N := some 12) (zB 14 1) rfl rfl (by kernel_rfl) (by decide) (fun K hK => ?_)
  refine value_ (w1 := ?_) (v := ?_) (by rfl) rfl ?_ ?_
  rotate_left 2
  ·go_simp
   constructor
   ·rfl
   ·rfl
  have hb := below_alloc (Below.refl _ wa) (.cells #[.bool false, .slice none 0 0, .slice none 0 0, .slice none 0 0] 26)
  have BX := Aside0.mk (MapKept.heap_alloc wa (.cells #[.bool false, .slice none 0 0, .slice none 0 0, .slice none 0 0] 26 (0, 0))).1
  have GX : Aside0 (w.heap.size ≤ wa.heap.size ∧ gc ≠ wa.heap.size ∧ ga ≠ wa.heap.size ∧ gb ≠ wa.heap.size) := ⟨O.out.HB.size, Nat.ne_of_lt (blk_lt O.out.BC), Nat.ne_of_lt (blk_lt O.out.BA), Nat.ne_of_lt (blk_lt O.out.BB)⟩
  have O2 := Aside0.mk (O.out.below hb)
  clear O hb
  have O := O2
  clear O2
  refine hK.out _ _ ⟨(cells4 O.out.BC).1, (cells4 O.out.BC).2.1, (cells4 O.out.BC).2.2.1, (cells4 O.out.BC).2.2.2⟩ (fun hHeld => ?_)
  clear hK K
  refine norm_ (a' := ?_) ?_ ?_
  rotate_left
  ·show Act.put _ (some 12) _ = _
   simp only [Act.put, zt0, zt1, zt2, i64_w, i32_w]
   rfl
  generalize hgx : wa.heap.size = gx at BX GX ⊢
  clear hgx
  generalize wa.alloc _ = wb at O BX hHeld ⊢
  obtain ⟨hx0, hx1, hx2, hx3⟩ := cells4 BX.out
  have hy0 := blk_frozen BX.out 0
  have hy1 := blk_frozen BX.out 1
  have hy2 := blk_frozen BX.out 2
  have hy3 := blk_frozen BX.out 3
  refine last_ (i := 14) (N := none) (zB 15 0) rfl rfl (by kernel_rfl) (by decide) (fun K hK => ?_)
  refine skip_ (w1 := ?_) (by rfl) rfl ?_ ?_
  rotate_left
  ·go_simp
   rfl
  refine hK.out _ _ ?_
  clear hK K
  refine done_ (by kernel_rfl) ?_
  have O2 := Aside0.mk (O.out.far BX.out GX.out.1 GX.out.2.1 GX.out.2.2.1 GX.out.2.2.2 (.bool false) (.slice (some ⟨gk, 0, none⟩) n n) (.slice none 0 0) (.slice (some ⟨gd, 0, none⟩) (n + 1) (n + 1)))
  have BX2 := Aside0.mk (pageB BX.out (.bool false) (.slice (some ⟨gk, 0, none⟩) n n) (.slice none 0 0) (.slice (some ⟨gd, 0, none⟩) (n + 1) (n + 1)))
  clear O BX hx0 hx1 hx2 hx3 hy0 hy1 hy2 hy3 hHeld
  have O := O2
  have BX := BX2
  clear O2 BX2
  generalize World.setCell _ _ _ = wc at O BX ⊢
  go_wp2_with fail
  obtain ⟨ce_, hcl, hMe, hcc, hfr⟩ := Kd.R_elem O.out.K [] (n : Int) (Int.natCast_nonneg _) (by have := HN.out; omega)
  obtain ⟨ve, rfl, hRe⟩ := hMe
  obtain ⟨Ae, ce, rfl⟩ := Kd.R_slice hRe
  have hx_ := hcc 0 _ rfl
  simp only [show (Kd.slice 5 (Kd.int .u8)).sz = 1 from rfl, Nat.mul_one, Nat.add_zero, Int.toNat_natCast] at hx_ hRe
  obtain ⟨curk, hck_⟩ := Kd.R_typed O.out.K gk rfl
  have he_ := (blk_cell hck_ n).symm.trans hx_
  have hxn : o2.getD n [] = rd_L1 o2 (n : Int) := by unfold rd_L1; rw [Int.toNat_natCast]
  rw [hxn] at he_ hRe
  clear hxn hx_ hcl hcc hfr
  obtain ⟨x, hxe⟩ : ∃ x, x = rd_L1 o2 (n : Int) := ⟨_, rfl⟩
  rw [← hxe] at he_ hRe
  (try rw [← hxe] at HCB)
  (try rw [← hxe])
  have HXE := Aside0.mk hxe
  clear hxe
  have BE := Aside0.mk hck_
  have HE := Aside0.mk he_
  have RE := Aside0.mk (Kd.R_mono hRe (ok' := fun _ => True) (fun _ _ => trivial))
  have NE : Aside0 (gk ≠ ga) := ⟨fun e_ => Kd.R_ne O.out.K O.out.BA (by decide) (by rw [← e_]; rfl)⟩
  clear hck_ he_ hRe
  have O2 := Aside0.mk O.out.drew
  have BX2 := Aside0.mk (blk_drew BX.out)
  have BE2 := Aside0.mk (blk_drew BE.out)
  have RE2 := Aside0.mk (Kd.R_drew RE.out)
  clear O BX BE RE
  have O := O2
  have BX := BX2
  have BE := BE2
  have RE := RE2
  clear O2 BX2 BE2 RE2
  refine start_ (n := 21) (S := fun w' => w'.cell? ⟨gc, 0, none⟩ = some (.bool o1) ∧ w'.cell? ⟨gc, 1, none⟩ = some (.slice (some ⟨gk, 0, none⟩) o2.length ck) ∧ w'.cell? ⟨gc, 2, none⟩ = some (.slice Av o3.length cv) ∧ w'.cell? ⟨gc, 3, none⟩ = some (.slice (some ⟨gd, 0, none⟩) o4.length cd) ∧ w'.cell? ⟨gx, 0, none⟩ = some (.bool false) ∧ w'.cell? ⟨gx, 1, none⟩ = some (.slice (some ⟨gk, 0, none⟩) n n) ∧ w'.cell? ⟨gx, 2, none⟩ = some (.slice none 0 0) ∧ w'.cell? ⟨gx, 3, none⟩ = some (.slice (some ⟨gd, 0, none⟩) (n + 1) (n + 1)) ∧ w'.cell? ⟨gk, n, none⟩ = some (.slice Ae x.length ce)) (ds := [19]) (zB 0 21) (by kernel_rfl) rfl rfl ⟨(cells4 O.out.BC).1, (cells4 O.out.BC).2.1, (cells4 O.out.BC).2.2.1, (cells4 O.out.BC).2.2.2, (cells4 BX.out).1, (cells4 BX.out).2.1, (cells4 BX.out).2.2.1, (cells4 BX.out).2.2.2, (blk_cell BE.out n).trans HE.out⟩ (fun hHeld => ?_)
  generalize World.drew _ = wd at O BX BE RE hHeld ⊢
  obtain ⟨ha0, ha1, ha2, ha3⟩ := cells4 O.out.BA
  obtain ⟨hb0, hb1, hb2, hb3⟩ := cells4 O.out.BB
  have hfa0 := blk_frozen O.out.BA 0
  have hfa1 := blk_frozen O.out.BA 1
  have hfa2 := blk_frozen O.out.BA 2
  have hfa3 := blk_frozen O.out.BA 3
  have hfb0 := blk_frozen O.out.BB 0
  have hfb1 := blk_frozen O.out.BB 1
  have hfb2 := blk_frozen O.out.BB 2
  have hfb3 := blk_frozen O.out.BB 3
  have hne3 : ¬ ga = gb := O.out.ne3
  have hne4 : ¬ gb = ga := Ne.symm O.out.ne3
  refine pure_ (i := 1) (N := some 87) (v := ?_) (a' := ?_) #[false, true, false, false, false, false, false, false, false, false, false, false, false, false, false, false, false, false, false, false, false] rfl rfl (by kernel_rfl) (fun _ _ _ h => h) (Or.inl ⟨by rfl, ?_⟩) ?_ ?_
  rotate_left
  ·intro w'
   go_simp
   with_reducible rfl
  rotate_left
  ·simp only [Act.put, zt0, zt1, zt2, i64_w, i32_w]
   rfl
  refine pure_ (i := 3) (N := some 89) (v := ?_) (a' := ?_) #[false, true, false, true, false, false, false, false, false, false, false, false, false, false, false, false, false, false, false, false, false] rfl rfl (by kernel_rfl) (fun _ _ _ h => h) (Or.inl ⟨by rfl, ?_⟩) ?_ ?_
  rotate_left
  ·intro w'
   go_simp
   with_reducible rfl
  rotate_left
  ·simp only [Act.put, zt0, zt1, zt2, i64_w, i32_w]
   rfl
  refine pure_ (i := 6) (N := some 92) (v := ?_) (a' := ?_) #[false, true, false, true, false, false, true, false, false, false, false, false, false, false, false, false, false, false, false, false, false] rfl rfl (by kernel_rfl) (fun _ _ _ h => h) (Or.inl ⟨by rfl, ?_⟩) ?_ ?_
  rotate_left
  ·intro w'
   go_simp
   with_reducible rfl
  rotate_left
  ·simp only [Act.put, zt0, zt1, zt2, i64_w, i32_w]
   rfl
  refine pure_ (i := 8) (N := some 94) (v := ?_) (a' := ?_) #[false, true, false, true, false, false, true, false, true, false, false, false, false, false, false, false, false, false, false, false, false] rfl rfl (by kernel_rfl) (fun _ _ _ h => h) (Or.inl ⟨by rfl, ?_⟩) ?_ ?_
  rotate_left
  ·intro w'
   go_simp
   with_reducible rfl
  rotate_left
  ·simp only [Act.put, zt0, zt1, zt2, i64_w, i32_w]
   rfl
  refine pure_ (i := 9) (N := some 95) (v := ?_) (a' := ?_) #[false, true, false, true, false, false, true, false, true, true, false, false, false, false, false, false, false, false, false, false, false] rfl rfl (by kernel_rfl) (fun _ _ _ h => h) (Or.inl ⟨by rfl, ?_⟩) ?_ ?_
  rotate_left
  ·intro w'
   go_simp
   with_reducible rfl
  rotate_left
  ·simp only [Act.put, zt0, zt1, zt2, i64_w, i32_w]
   rfl
  refine pure_ (i := 11) (N := some 97) (v := ?_) (a' := ?_) #[false, true, false, true, false, false, true, false, true, true, false, true, false, false, false, false, false, false, false, false, false] rfl rfl (by kernel_rfl) (fun _ _ _ h => h) (Or.inl ⟨by rfl, ?_⟩) ?_ ?_
  rotate_left
  ·intro w'
   go_simp
   with_reducible rfl
  rotate_left
  ·simp only [Act.put, zt0, zt1, zt2, i64_w, i32_w]
   rfl
  refine pure_ (i := 13) (N := some 99) (v := ?_) (a' := ?_) #[false, true, false, true, false, false, true, false, true, true, false, true, false, true, false, false, false, false, false, false, false] rfl rfl (by kernel_rfl) (fun _ _ _ h => h) (Or.inl ⟨by rfl, ?_⟩) ?_ ?_
  rotate_left
  ·intro w'
   go_simp
   with_reducible rfl
  rotate_left
  ·simp only [Act.put, zt0, zt1, zt2, i64_w, i32_w]
   rfl
  refine pure_ (i := 14) (N := some 100) (v := ?_) (a' := ?_) #[false, true, false, true, false, false, true, false, true, true, false, true, false, true, true, false, false, false, false, false, false] rfl rfl (by kernel_rfl) (fun _ _ _ h => h) (Or.inl ⟨by rfl, ?_⟩) ?_ ?_
  rotate_left
  ·intro w'
   go_simp
   with_reducible rfl
  rotate_left
  ·simp only [Act.put, zt0, zt1, zt2, i64_w, i32_w]
   rfl
  refine take_ (i := 0) (N := some 86) (v := ?_) (a' := ?_) #[true, true, false, true, false, false, true, false, true, true, false, true, false, true, true, false, false, false, false, false, false] rfl rfl (by kernel_rfl) (fun _ _ _ h => h) (Or.inl ⟨by rfl, ?_⟩) hHeld ?_ ?_
  rotate_left
  ·rintro w' ⟨s0, s1, s2, s3, s4, s5, s6, s7, s8⟩
   go_simp
   with_reducible rfl
  rotate_left
  ·simp only [Act.put, zt0, zt1, zt2, i64_w, i32_w]
   rfl
  refine take_ (i := 2) (N := some 88) (v := ?_) (a' := ?_) #[true, true, true, true, false, false, true, false, true, true, false, true, false, true, true, false, false, false, false, false, false] rfl rfl (by kernel_rfl) (fun _ _ _ h => h) (Or.inl ⟨by rfl, ?_⟩) hHeld ?_ ?_
  rotate_left
  ·rintro w' ⟨s0, s1, s2, s3, s4, s5, s6, s7, s8⟩
   go_simp
   with_reducible rfl
  rotate_left
  ·simp only [Act.put, zt0, zt1, zt2, i64_w, i32_w]
   rfl
  refine pure_ (i := 4) (N := some 90) (v := ?_) (a' := ?_) #[true, true, true, true, true, false, true, false, true, true, false, true, false, true, true, false, false, false, false, false, false] rfl rfl (by kernel_rfl) (fun _ _ _ h => h) (Or.inl ⟨by rfl, ?_⟩) ?_ ?_
  rotate_left
  ·intro w'
   go_simp
   with_reducible rfl
  rotate_left
  ·simp only [Act.put, zt0, zt1, zt2, i64_w, i32_w]
   rfl
  refine take_ (i := 5) (N := some 91) (v := ?_) (a' := ?_) #[true, true, true, true, true, true, true, false, true, true, false, true, false, true, true, false, false, false, false, false, false] rfl rfl (by kernel_rfl) (fun _ _ _ h => h) (Or.inl ⟨by rfl, ?_⟩) hHeld ?_ ?_
  rotate_left
  ·rintro w' ⟨s0, s1, s2, s3, s4, s5, s6, s7, s8⟩
   go_simp
   with_reducible rfl
  rotate_left
  ·simp only [Act.put, zt0, zt1, zt2, i64_w, i32_w]
   rfl
  refine take_ (i := 7) (N := some 93) (v := ?_) (a' := ?_) #[true, true, true, true, true, true, true, true, true, true, false, true, false, true, true, false, false, false, false, false, false] rfl rfl (by kernel_rfl) (fun _ _ _ h => h) (Or.inl ⟨by rfl, ?_⟩) hHeld ?_ ?_
  rotate_left
  ·rintro w' ⟨s0, s1, s2, s3, s4, s5, s6, s7, s8⟩
   go_simp
   with_reducible rfl
  rotate_left
  ·simp only [Act.put, zt0, zt1, zt2, i64_w, i32_w]
   rfl
  refine pure_ (i := 10) (N := some 96) (v := ?_) (a' := ?_) #[true, true, true, true, true, true, true, true, true, true, true, true, false, true, true, false, false, false, false, false, false] rfl rfl (by kernel_rfl) (fun _ _ _ h => h) (Or.inl ⟨by rfl, ?_⟩) ?_ ?_
  rotate_left
  ·intro w'
   go_simp
   with_reducible rfl
  rotate_left
  ·simp only [Act.put, zt0, zt1, zt2, i64_w, i32_w]
   rfl
  refine take_ (i := 12) (N := some 98) (v := ?_) (a' := ?_) (zB 15 6) rfl rfl (by kernel_rfl) (fun _ _ _ h => h) (Or.inl ⟨by rfl, ?_⟩) hHeld ?_ ?_
  rotate_left
  ·rintro w' ⟨s0, s1, s2, s3, s4, s5, s6, s7, s8⟩
   go_simp
   with_reducible rfl
  rotate_left
  ·simp only [Act.put, zt0, zt1, zt2, i64_w, i32_w]
   rfl
  refine pure_ (i := 15) (N := some 101) (v := ?_) (a' := ?_) (zB 16 5) rfl rfl (by kernel_rfl) (fun _ _ _ h => h) (Or.inl ⟨by rfl, ?_⟩) ?_ ?_
  rotate_left
  ·intro w'
   go_simp
   with_reducible rfl
  rotate_left
  ·simp only [Act.put, zt0, zt1, zt2, i64_w, i32_w]
   rfl
  refine pure_ (i := 16) (N := some 102) (v := ?_) (a' := ?_) (zB 17 4) rfl rfl (by kernel_rfl) (fun _ _ _ h => h) (Or.inl ⟨by rfl, ?_⟩) ?_ ?_
  rotate_left
  ·intro w'
   go_simp
   with_reducible rfl
  rotate_left
  ·simp only [Act.put, zt0, zt1, zt2, i64_w, i32_w]
   rfl
  refine one_ (i := 17) (N := none) (zB 18 3) rfl rfl (by kernel_rfl) (by decide) (fun K hK => ?_)
  refine skip_ (w1 := ?_) (by rfl) rfl ?_ ?_
  rotate_left
  ·go_simp
   rfl
  refine hK.out _ _ ⟨(cells4 (pageF O.out.BC (Ne.symm O.out.ne1) (.bool false) (.slice (some ⟨gk, 0, none⟩) n n) (.slice none 0 0) (.slice (some ⟨gd, 0, none⟩) (n + 1) (n + 1)))).1, (cells4 (pageF O.out.BC (Ne.symm O.out.ne1) (.bool false) (.slice (some ⟨gk, 0, none⟩) n n) (.slice none 0 0) (.slice (some ⟨gd, 0, none⟩) (n + 1) (n + 1)))).2.1, (cells4 (pageF O.out.BC (Ne.symm O.out.ne1) (.bool false) (.slice (some ⟨gk, 0, none⟩) n n) (.slice none 0 0) (.slice (some ⟨gd, 0, none⟩) (n + 1) (n + 1)))).2.2.1, (cells4 (pageF O.out.BC (Ne.symm O.out.ne1) (.bool false) (.slice (some ⟨gk, 0, none⟩) n n) (.slice none 0 0) (.slice (some ⟨gd, 0, none⟩) (n + 1) (n + 1)))).2.2.2, (cells4 (pageF BX.out (Ne.symm GX.out.2.2.1) (.bool false) (.slice (some ⟨gk, 0, none⟩) n n) (.slice none 0 0) (.slice (some ⟨gd, 0, none⟩) (n + 1) (n + 1)))).1, (cells4 (pageF BX.out (Ne.symm GX.out.2.2.1) (.bool false) (.slice (some ⟨gk, 0, none⟩) n n) (.slice none 0 0) (.slice (some ⟨gd, 0, none⟩) (n + 1) (n + 1)))).2.1, (cells4 (pageF BX.out (Ne.symm GX.out.2.2.1) (.bool false) (.slice (some ⟨gk, 0, none⟩) n n) (.slice none 0 0) (.slice (some ⟨gd, 0, none⟩) (n + 1) (n + 1)))).2.2.1, (cells4 (pageF BX.out (Ne.symm GX.out.2.2.1) (.bool false) (.slice (some ⟨gk, 0, none⟩) n n) (.slice none 0 0) (.slice (some ⟨gd, 0, none⟩) (n + 1) (n + 1)))).2.2.2, (blk_cell (pageF BE.out NE.out (.bool false) (.slice (some ⟨gk, 0, none⟩) n n) (.slice none 0 0) (.slice (some ⟨gd, 0, none⟩) (n + 1) (n + 1))) n).trans HE.out⟩ (fun hHeld => ?_)
  clear hK K
  refine pure_ (i := 18) (N := some 3) (v := ?_) (a' := ?_) (zB 19 2) rfl rfl (by kernel_rfl) (fun _ _ _ h => h) (Or.inl ⟨by rfl, ?_⟩) ?_ ?_
  rotate_left
  ·intro w'
   go_simp
   with_reducible rfl
  rotate_left
  ·simp only [Act.put, zt0, zt1, zt2, i64_w, i32_w]
   rfl
  refine last_ (i := 19) (N := none) (zB 20 1) rfl rfl (by kernel_rfl) (by decide) (fun K hK => ?_)
  refine skip_ (w1 := ?_) (by rfl) rfl ?_ ?_
  rotate_left
  ·go_simp
   rfl
  refine hK.out _ _ ?_
  clear hK K
  refine pure_ (i := 20) (N := some 5) (v := ?_) (a' := ?_) (zB 21 0) rfl rfl (by kernel_rfl) (fun _ _ _ h => h) (Or.inl ⟨by rfl, ?_⟩) ?_ ?_
  rotate_left
  ·intro w'
   go_simp
   with_reducible rfl
  rotate_left
  ·simp only [Act.put, zt0, zt1, zt2, i64_w, i32_w]
   rfl
  refine done_ (by kernel_rfl) ?_
  go_wp2
  obtain ⟨W2, hW2, e1, e2, e3, e4, e5, e6⟩ := O.out.end_ (.bool false) (.slice (some ⟨gk, 0, none⟩) n n) (.slice none 0 0) (.slice (some ⟨gd, 0, none⟩) (n + 1) (n + 1)) (.bool false) (.slice AK (o2.length - (n + 1)) (ck - (n + 1))) (.slice none 0 0) (.slice AD (o4.length - (n + 1)) (cd - (n + 1)))
  have hRB := pageR (pageR RE.out O.out.BA (by decide) (.bool false) (.slice (some ⟨gk, 0, none⟩) n n) (.slice none 0 0) (.slice (some ⟨gd, 0, none⟩) (n + 1) (n + 1))) (pageF O.out.BB (Ne.symm O.out.ne3) (.bool false) (.slice (some ⟨gk, 0, none⟩) n n) (.slice none 0 0) (.slice (some ⟨gd, 0, none⟩) (n + 1) (n + 1))) (by decide) (.bool false) (.slice AK (o2.length - (n + 1)) (ck - (n + 1))) (.slice none 0 0) (.slice AD (o4.length - (n + 1)) (cd - (n + 1)))
  rw [← hW2] at hRB
  rw [← hW2]
  refine bodyPost_ret (results_list (rs := [.cell 2 26, .tmp 3, .cell 4 26, .tmp 5]) rfl (by simp) (Vals.cell ga 26 #[.bool false, .slice (some ⟨gk, 0, none⟩) n n, .slice none 0 0, .slice (some ⟨gd, 0, none⟩) (n + 1) (n + 1)] (0, 0) _ rfl e1 Try.underlying26 rfl (by kernel_rfl) (Vals.tmp (Vals.cell gb 26 #[.bool false, .slice AK (o2.length - (n + 1)) (ck - (n + 1)), .slice none 0 0, .slice AD (o4.length - (n + 1)) (cd - (n + 1))] (0, 0) _ rfl e2 Try.underlying26 rfl (by kernel_rfl) (Vals.tmp Vals.nil))))) rfl ⟨_, _, _, _, _, _, _, rfl, V_take e4 n n f5 (Nat.le_refl _), Kd.V_nil _ _ _ _ _, V_take e6 (n + 1) (n + 1) f6 (Nat.le_refl _), ?_, V_drop e4 (n + 1) f9 AK (by rw [← hAK]; simp [Kd.slice]), Kd.V_nil _ _ _ _ _, V_drop e6 (n + 1) f6 AD (by rw [← hAD]; simp [Kd.int, Kd.scalar]), e3⟩
  rw [← HXE.out]
  exact R_V hRB
 | true =>
  rw [if_neg (fun h => h.elim h2 (fun h => Bool.noConfusion h.2))] at H
  by_cases h3 : l0_1.length < 3
  case' pos =>
   have y3 : decide ((l0_1.length : Int) < 3) = true := decide_eq_true (by omega)
   have y3n : decide (l0_1.length < 3) = true := decide_eq_true h3
  case' neg =>
   have y3 : decide ((l0_1.length : Int) < 3) = false := decide_eq_false (by omega)
   have y3n : decide (l0_1.length < 3) = false := decide_eq_false h3
  all_goals
   clear h2 h3
   replace H := Option.bind_eq_some_iff.mp H
   obtain ⟨⟨o1, o2, o3, o4⟩, ho, H⟩ := H
   have HO := Aside0.mk ho
   have HH := Aside0.mk H
   clear ho H
   go_wp2_with fail
   refine (node_own.calls k true A0_1 c0_1 l0_1 A0_2 c0_2 l0_2 A0_3 c0_3 l0_3 o1 o2 o3 o4 _ (Kd.C_below R1.out HB4.out) L1.out (Kd.C_below R2.out HB4.out) L2.out (Kd.C_below R3.out HB4.out) L3.out HO.out).mono ?_
   rintro e w5 ⟨v1, v2, v3, rfl, hS1, hS2, hR3, hb5⟩
   obtain ⟨Ak, ck, rfl⟩ := Kd.R_slice (Kd.S_R hS1)
   obtain ⟨Av, cv, rfl⟩ := Kd.R_slice (Kd.S_R hS2)
   obtain ⟨Ad, cd, rfl⟩ := Kd.R_slice hR3
   have S1 := Aside0.mk (Kd.R_mono (Kd.R_lower (Kd.S_R hS1) HB4.out.size) (ok' := fun _ => True) (fun _ _ => trivial))
   have S2 := Aside0.mk (Kd.R_mono (Kd.R_lower (Kd.S_R hS2) HB4.out.size) (ok' := fun _ => True) (fun _ _ => trivial))
   have S3 := Aside0.mk (Kd.R_lower hR3 HB4.out.size)
   have BP5 := Aside0.mk (blk_below BP4.out hb5)
   have BA5 := Aside0.mk (blk_below BA4.out hb5)
   have BB5 := Aside0.mk (blk_below BB4.out hb5)
   have HB5 := Aside0.mk (below_step HB4.out hb5)
   clear hc0 hc1 hc2 hc3 hb5 BP4 BA4 BB4 HB4 hS1 hS2 hR3 HO
   have H := HH.out
   clear HH
   first | rw [if_pos trivial] at H | rw [if_pos rfl] at H
   replace H := Option.bind_eq_some_iff.mp H
   obtain ⟨i, hi_, H⟩ := H
   have HI := Aside0.mk hi_
   have HH := Aside0.mk H
   clear hi_ H
   go_wp2_with (first | ((with_reducible refine gate_dst (N := 8) rfl ?_); refine box_event ?hg (N := 8) ?hd (cs := #[.bool false, .slice none 0 0, .slice none 0 0, .slice none 0 0]) (t := 26) ?hr ?_; (case hd => rfl); (case hg => rfl); (case hr => first | (go_simp; done) | (go_simp; rfl)); intro gc hgc w6 hbox hb; have GC : Aside0 (w.heap.size ≤ gc ∧ ga ≠ gc ∧ gb ≠ gc ∧ gp ≠ gc) := ⟨by rw [hgc]; exact HB5.out.size, by rw [hgc]; exact Nat.ne_of_lt (blk_lt BA5.out), by rw [hgc]; exact Nat.ne_of_lt (blk_lt BB5.out), by rw [hgc]; exact Nat.ne_of_lt (blk_lt BP5.out)⟩; have BC := Aside0.mk hbox; have BP6 := Aside0.mk (blk_below BP5.out hb); have BA6 := Aside0.mk (blk_below BA5.out hb); have BB6 := Aside0.mk (blk_below BB5.out hb); have HB6 := Aside0.mk (below_step HB5.out hb); have T1 := Aside0.mk (Kd.R_below S1.out hb); have T2 := Aside0.mk (Kd.R_below S2.out hb); have T3 := Aside0.mk (Kd.R_below S3.out hb); obtain ⟨hd0, hd1, hd2, hd3⟩ := cells4 BC.out; have hf0 := blk_frozen BC.out 0; have hf1 := blk_frozen BC.out 1; have hf2 := blk_frozen BC.out 2; have hf3 := blk_frozen BC.out 3; obtain ⟨hc0, hc1, hc2, hc3⟩ := cells4 BP6.out; have hne1 : ¬ gc = gp := Ne.symm GC.out.2.2.2; have hne2 : ¬ gp = gc := GC.out.2.2.2; clear hbox hb hgc BP5 BA5 BB5 HB5 S1 S2 S3))
   have O : Aside0 (SplP w ((((w6.setCell ⟨gc, 0, none⟩ (.bool o1)).setCell ⟨gc, 1, none⟩ (.slice Ak o2.length ck)).setCell ⟨gc, 2, none⟩ (.slice Av o3.length cv)).setCell ⟨gc, 3, none⟩ (.slice Ad o4.length cd)) gc ga gb o1 Ak ck o2 Av cv o3 Ad cd o4) :=
    ⟨pageB BC.out _ _ _ _, pageF BA6.out GC.out.2.1 _ _ _ _, pageF BB6.out GC.out.2.2.1 _ _ _ _, pageW HB6.out GC.out.1 _ _ _ _, pageR T1.out BC.out (by decide) _ _ _ _, pageR T2.out BC.out (by decide) _ _ _ _, pageR T3.out BC.out (by decide) _ _ _ _, GC.out.1, GA.out, GB.out.1, GC.out.2.1, GC.out.2.2.1, GB.out.2⟩
   clear T1 T2 T3 BC BA6 BB6 HB6 BP6 hd0 hd1 hd2 hd3 hf0 hf1 hf2 hf3 hc0 hc1 hc2 hc3 hne1 hne2 GC GA GB
   refine (node_half.calls k true A0_1 c0_1 l0_1 A0_2 c0_2 l0_2 A0_3 c0_3 l0_3 i _ (Kd.C_below R1.out O.out.HB) L1.out (Kd.C_below R2.out O.out.HB) L2.out (Kd.C_below R3.out O.out.HB) L3.out HI.out).mono ?_
   rintro e w7 ⟨rfl, hb7⟩
   have O2 := Aside0.mk (O.out.below hb7)
   clear hb7 O HI
   have O := O2
   clear O2
   have H := HH.out
   clear HH
   by_cases hc : 0 < i ∧ i < (o2.length : Int) ∧ i ≤ (o3.length : Int) ∧ o2.length < 9223372036854775807 ∧ o3.length < 9223372036854775807
   case neg => rw [if_neg hc] at H; cases H
   case pos =>
   rw [if_pos hc] at H
   obtain ⟨n, rfl⟩ := Int.eq_ofNat_of_zero_le (Int.le_of_lt hc.1)
   replace H := Option.bind_eq_some_iff.mp H
   obtain ⟨bb, hbb, H⟩ := H
   have HCB := Aside0.mk hbb
   simp only [Option.some.injEq, Prod.mk.injEq, Int.toNat_natCast] at H
   obtain ⟨rfl, rfl, rfl, rfl, rfl, rfl, rfl, rfl, rfl, rfl⟩ := H
   have HN : Aside0 (0 < n ∧ n < o2.length ∧ n ≤ o3.length) := ⟨by omega⟩
   clear hc hbb
   obtain ⟨gk, c_, e_, _, _, curk, hk⟩ := Kd.R_form O.out.K (by have := HN.out; omega)
   injection e_ with e1_ _ e2_
   subst e1_
   subst e2_
   obtain ⟨gv, c_, e_, _, _, curv, hv⟩ := Kd.R_form O.out.V (by have := HN.out; omega)
   injection e_ with e1_ _ e2_
   subst e1_
   subst e2_
   clear hk hv
   have HCK := Aside0.mk (Kd.R_reads' O.out.K).2.1
   have HCV := Aside0.mk (Kd.R_reads' O.out.V).2.1
   have f1 : n ≤ ck := by have := HN.out; have := HCK.out; omega
   have f2 : n ≤ cv := by have := HN.out; have := HCV.out; omega
   have f3 : (n : Int) ≤ (ck : Int) := by omega
   have f4 : (n : Int) ≤ (cv : Int) := by omega
   have f5 : n ≤ o2.length := by have := HN.out; omega
   have f6 : n ≤ o3.length := by have := HN.out; omega
   have f7 : (n : Int) < (o2.length : Int) := by have := HN.out; omega
   have f8 : n < o2.length := HN.out.2.1
   obtain ⟨AK, hAK⟩ : ∃ A, (if ck = n then some (⟨gk, 0, none⟩ : Addr) else some ⟨gk, n, none⟩) = A := ⟨_, rfl⟩
   obtain ⟨AV, hAV⟩ : ∃ A, (if cv = n then some (⟨gv, 0, none⟩ : Addr) else some ⟨gv, n, none⟩) = A := ⟨_, rfl⟩
   go_wp2_with fail
   have O2 := Aside0.mk O.out.drew
   clear O
   have O := O2
   clear O2
   refine start_ (n := 13) (S := fun w' => w'.cell? ⟨gc, 0, none⟩ = some (.bool o1) ∧ w'.cell? ⟨gc, 1, none⟩ = some (.slice (some ⟨gk, 0, none⟩) o2.length ck) ∧ w'.cell? ⟨gc, 2, none⟩ = some (.slice (some ⟨gv, 0, none⟩) o3.length cv) ∧ w'.cell? ⟨gc, 3, none⟩ = some (.slice Ad o4.length cd)) (ds := [12]) (zB 0 13) (by kernel_rfl) rfl rfl ⟨(cells4 O.out.BC).1, (cells4 O.out.BC).2.1, (cells4 O.out.BC).2.2.1, (cells4 O.out.BC).2.2.2⟩ (fun hHeld => ?_)
   generalize World.drew _ = wa at O hHeld ⊢
   refine pure_ (i := 0) (N := some 44) (v := ?_) (a' := ?_) (zB 1 12) rfl rfl (by kernel_rfl) (fun _ _ _ h => h) (Or.inl ⟨by rfl, ?_⟩) ?_ ?_
   rotate_left
   ·intro w'
    go_simp
    with_reducible rfl
   rotate_left
   ·simp only [Act.put, zt0, zt1, zt2, i64_w, i32_w]
    rfl
   refine pure_ (i := 2) (N := some 46) (v := ?_) (a' := ?_) #[true, false, true, false, false, false, false, false, false, false, false, false, false] rfl rfl (by kernel_rfl) (fun _ _ _ h => h) (Or.inl ⟨by rfl, ?_⟩) ?_ ?_
   rotate_left
   ·intro w'
    go_simp
    with_reducible rfl
   rotate_left
   ·simp only [Act.put, zt0, zt1, zt2, i64_w, i32_w]
    rfl
   refine pure_ (i := 3) (N := some 47) (v := ?_) (a' := ?_) #[true, false, true, true, false, false, false, false, false, false, false, false, false] rfl rfl (by kernel_rfl) (fun _ _ _ h => h) (Or.inl ⟨by rfl, ?_⟩) ?_ ?_
   rotate_left
   ·intro w'
    go_simp
    with_reducible rfl
   rotate_left
   ·simp only [Act.put, zt0, zt1, zt2, i64_w, i32_w]
    rfl
   refine pure_ (i := 5) (N := some 49) (v := ?_) (a' := ?_) #[true, false, true, true, false, true, false, false, false, false, false, false, false] rfl rfl (by kernel_rfl) (fun _ _ _ h => h) (Or.inl ⟨by rfl, ?_⟩) ?_ ?_
   rotate_left
   ·intro w'
    go_simp
    with_reducible rfl
   rotate_left
   ·simp only [Act.put, zt0, zt1, zt2, i64_w, i32_w]
    rfl
   refine pure_ (i := 7) (N := some 51) (v := ?_) (a' := ?_) #[true, false, true, true, false, true, false, true, false, false, false, false, false] rfl rfl (by kernel_rfl) (fun _ _ _ h => h) (Or.inl ⟨by rfl, ?_⟩) ?_ ?_
   rotate_left
   ·intro w'
    go_simp
    with_reducible rfl
   rotate_left
   ·simp only [Act.put, zt0, zt1, zt2, i64_w, i32_w]
    rfl
   refine pure_ (i := 8) (N := some 52) (v := ?_) (a' := ?_) #[true, false, true, true, false, true, false, true, true, false, false, false, false] rfl rfl (by kernel_rfl) (fun _ _ _ h => h) (Or.inl ⟨by rfl, ?_⟩) ?_ ?_
   rotate_left
   ·intro w'
    go_simp
    with_reducible rfl
   rotate_left
   ·simp only [Act.put, zt0, zt1, zt2, i64_w, i32_w]
    rfl
   refine take_ (i := 1) (N := some 45) (v := ?_) (a' := ?_) #[true, true, true, true, false, true, false, true, true, false, false, false, false] rfl rfl (by kernel_rfl) (fun _ _ _ h => h) (Or.inl ⟨by rfl, ?_⟩) hHeld ?_ ?_
   rotate_left
   ·rintro w' ⟨s0, s1, s2, s3⟩
    go_simp
    with_reducible rfl
   rotate_left
   ·simp only [Act.put, zt0, zt1, zt2, i64_w, i32_w]
    rfl
   refine pure_ (i := 4) (N := some 48) (v := ?_) (a' := ?_) #[true, true, true, true, true, true, false, true, true, false, false, false, false] rfl rfl (by kernel_rfl) (fun _ _ _ h => h) (Or.inl ⟨by rfl, ?_⟩) ?_ ?_
   rotate_left
   ·intro w'
    go_simp
    with_reducible rfl
   rotate_left
   ·simp only [Act.put, zt0, zt1, zt2, i64_w, i32_w]
    rfl
   refine take_ (i := 6) (N := some 50) (v := ?_) (a' := ?_) (zB 9 4) rfl rfl (by kernel_rfl) (fun _ _ _ h => h) (Or.inl ⟨by rfl, ?_⟩) hHeld ?_ ?_
   rotate_left
   ·rintro w' ⟨s0, s1, s2, s3⟩
    go_simp
    with_reducible rfl
   rotate_left
   ·simp only [Act.put, zt0, zt1, zt2, i64_w, i32_w]
    rfl
   refine pure_ (i := 9) (N := some 53) (v := ?_) (a' := ?_) (zB 10 3) rfl rfl (by kernel_rfl) (fun _ _ _ h => h) (Or.inl ⟨by rfl, ?_⟩) ?_ ?_
   rotate_left
   ·intro w'
    go_simp
    with_reducible rfl
   rotate_left
   ·simp only [Act.put, zt0, zt1, zt2, i64_w, i32_w]
    rfl
   refine pure_ (i := 10) (N := some 54) (v := ?_) (a' := ?_) (zB 11 2) rfl rfl (by kernel_rfl) (fun _ _ _ h => h) (Or.inl ⟨by rfl, ?_⟩) ?_ ?_
   rotate_left
   ·intro w'
    go_simp
    with_reducible rfl
   rotate_left
   ·simp only [Act.put, zt0, zt1, zt2, i64_w, i32_w]
    rfl
   refine one_ (i := 11) (N := some 10) (zB 12 1) rfl rfl (by kernel_rfl) (by decide) (fun K hK => ?_)
   refine value_ (w1 := ?_) (v := ?_) (by rfl) rfl ?_ ?_
   rotate_left 2
   ·go_simp
    constructor
    ·rfl
    ·rfl
   have hb := below_alloc (Below.refl _ wa) (.cells #[.bool false, .slice none 0 0, .slice none 0 0, .slice none 0 0] 26)
   have BX := Aside0.mk (MapKept.heap_alloc wa (.cells #[.bool false, .slice none 0 0, .slice none 0 0, .slice none 0 0] 26 (0, 0))).1
   have GX : Aside0 (w.heap.size ≤ wa.heap.size ∧ gc ≠ wa.heap.size ∧ ga ≠ wa.heap.size ∧ gb ≠ wa.heap.size) := ⟨O.out.HB.size, Nat.ne_of_lt (blk_lt O.out.BC), Nat.ne_of_lt (blk_lt O.out.BA), Nat.ne_of_lt (blk_lt O.out.BB)⟩
   have O2 := Aside0.mk (O.out.below hb)
   clear O hb
   have O := O2
   clear O2
   refine hK.out _ _ ⟨(cells4 O.out.BC).1, (cells4 O.out.BC).2.1, (cells4 O.out.BC).2.2.1, (cells4 O.out.BC).2.2.2⟩ (fun hHeld => ?_)
   clear hK K
   refine norm_ (a' := ?_) ?_ ?_
   rotate_left
   ·show Act.put _ (some 10) _ = _
    simp only [Act.put, zt0, zt1, zt2, i64_w, i32_w]
    rfl
   generalize hgx : wa.heap.size = gx at BX GX ⊢
   clear hgx
   generalize wa.alloc _ = wb at O BX hHeld ⊢
   obtain ⟨hx0, hx1, hx2, hx3⟩ := cells4 BX.out
   have hy0 := blk_frozen BX.out 0
   have hy1 := blk_frozen BX.out 1
   have hy2 := blk_frozen BX.out 2
   have hy3 := blk_frozen BX.out 3
   refine last_ (i := 12) (N := none) (zB 13 0) rfl rfl (by kernel_rfl) (by decide) (fun K hK => ?_)
   refine skip_ (w1 := ?_) (by rfl) rfl ?_ ?_
   rotate_left
   ·go_simp
    rfl
   refine hK.out _ _ ?_
   clear hK K
   refine done_ (by kernel_rfl) ?_
   have O2 := Aside0.mk (O.out.far BX.out GX.out.1 GX.out.2.1 GX.out.2.2.1 GX.out.2.2.2 (.bool true) (.slice (some ⟨gk, 0, none⟩) n n) (.slice (some ⟨gv, 0, none⟩) n n) (.slice none 0 0))
   have BX2 := Aside0.mk (pageB BX.out (.bool true) (.slice (some ⟨gk, 0, none⟩) n n) (.slice (some ⟨gv, 0, none⟩) n n) (.slice none 0 0))
   clear O BX hx0 hx1 hx2 hx3 hy0 hy1 hy2 hy3 hHeld
   have O := O2
   have BX := BX2
   clear O2 BX2
   generalize World.setCell _ _ _ = wc at O BX ⊢
   go_wp2_with fail
   obtain ⟨ce_, hcl, hMe, hcc, hfr⟩ := Kd.R_elem O.out.K [] (n : Int) (Int.natCast_nonneg _) (by have := HN.out; omega)
   obtain ⟨ve, rfl, hRe⟩ := hMe
   obtain ⟨Ae, ce, rfl⟩ := Kd.R_slice hRe
   have hx_ := hcc 0 _ rfl
   simp only [show (Kd.slice 5 (Kd.int .u8)).sz = 1 from rfl, Nat.mul_one, Nat.add_zero, Int.toNat_natCast] at hx_ hRe
   obtain ⟨curk, hck_⟩ := Kd.R_typed O.out.K gk rfl
   have he_ := (blk_cell hck_ n).symm.trans hx_
   have hxn : o2.getD n [] = rd_L1 o2 (n : Int) := by unfold rd_L1; rw [Int.toNat_natCast]
   rw [hxn] at he_ hRe
   clear hxn hx_ hcl hcc hfr
   obtain ⟨x, hxe⟩ : ∃ x, x = rd_L1 o2 (n : Int) := ⟨_, rfl⟩
   rw [← hxe] at he_ hRe
   (try rw [← hxe] at HCB)
   (try rw [← hxe])
   have HXE := Aside0.mk hxe
   clear hxe
   have BE := Aside0.mk hck_
   have HE := Aside0.mk he_
   have RE := Aside0.mk (Kd.R_mono hRe (ok' := fun _ => True) (fun _ _ => trivial))
   have NE : Aside0 (gk ≠ ga) := ⟨fun e_ => Kd.R_ne O.out.K O.out.BA (by decide) (by rw [← e_]; rfl)⟩
   clear hck_ he_ hRe
   have O2 := Aside0.mk O.out.drew
   have BX2 := Aside0.mk (blk_drew BX.out)
   have BE2 := Aside0.mk (blk_drew BE.out)
   have RE2 := Aside0.mk (Kd.R_drew RE.out)
   clear O BX BE RE
   have O := O2
   have BX := BX2
   have BE := BE2
   have RE := RE2
   clear O2 BX2 BE2 RE2
   refine start_ (n := 20) (S := fun w' => w'.cell? ⟨gc, 0, none⟩ = some (.bool o1) ∧ w'.cell? ⟨gc, 1, none⟩ = some (.slice (some ⟨gk, 0, none⟩) o2.length ck) ∧ w'.cell? ⟨gc, 2, none⟩ = some (.slice (some ⟨gv, 0, none⟩) o3.length cv) ∧ w'.cell? ⟨gc, 3, none⟩ = some (.slice Ad o4.length cd) ∧ w'.cell? ⟨gx, 0, none⟩ = some (.bool true) ∧ w'.cell? ⟨gx, 1, none⟩ = some (.slice (some ⟨gk, 0, none⟩) n n) ∧ w'.cell? ⟨gx, 2, none⟩ = some (.slice (some ⟨gv, 0, none⟩) n n) ∧ w'.cell? ⟨gx, 3, none⟩ = some (.slice none 0 0) ∧ w'.cell? ⟨gk, n, none⟩ = some (.slice Ae x.length ce)) (ds := [18]) (zB 0 20) (by kernel_rfl) rfl rfl ⟨(cells4 O.out.BC).1, (cells4 O.out.BC).2.1, (cells4 O.out.BC).2.2.1, (cells4 O.out.BC).2.2.2, (cells4 BX.out).1, (cells4 BX.out).2.1, (cells4 BX.out).2.2.1, (cells4 BX.out).2.2.2, (blk_cell BE.out n).trans HE.out⟩ (fun hHeld => ?_)
   generalize World.drew _ = wd at O BX BE RE hHeld ⊢
   refine pure_ (i := 1) (N := some 56) (v := ?_) (a' := ?_) #[false, true, false, false, false, false, false, false, false, false, false, false, false, false, false, false, false, false, false, false] rfl rfl (by kernel_rfl) (fun _ _ _ h => h) (Or.inl ⟨by rfl, ?_⟩) ?_ ?_
   rotate_left
   ·intro w'
    go_simp
    with_reducible rfl
   rotate_left
   ·simp only [Act.put, zt0, zt1, zt2, i64_w, i32_w]
    rfl
   refine pure_ (i := 3) (N := some 58) (v := ?_) (a' := ?_) #[false, true, false, true, false, false, false, false, false, false, false, false, false, false, false, false, false, false, false, false] rfl rfl (by kernel_rfl) (fun _ _ _ h => h) (Or.inl ⟨by rfl, ?_⟩) ?_ ?_
   rotate_left
   ·intro w'
    go_simp
    with_reducible rfl
   rotate_left
   ·simp only [Act.put, zt0, zt1, zt2, i64_w, i32_w]
    rfl
   refine pure_ (i := 7) (N := some 62) (v := ?_) (a' := ?_) #[false, true, false, true, false, false, false, true, false, false, false, false, false, false, false, false, false, false, false, false] rfl rfl (by kernel_rfl) (fun _ _ _ h => h) (Or.inl ⟨by rfl, ?_⟩) ?_ ?_
   rotate_left
   ·intro w'
    go_simp
    with_reducible rfl
   rotate_left
   ·simp only [Act.put, zt0, zt1, zt2, i64_w, i32_w]
    rfl
   refine pure_ (i := 9) (N := some 64) (v := ?_) (a' := ?_) #[false, true, false, true, false, false, false, true, false, true, false, false, false, false, false, false, false, false, false, false] rfl rfl (by kernel_rfl) (fun _ _ _ h => h) (Or.inl ⟨by rfl, ?_⟩) ?_ ?_
   rotate_left
   ·intro w'
    go_simp
    with_reducible rfl
   rotate_left
   ·simp only [Act.put, zt0, zt1, zt2, i64_w, i32_w]
    rfl
   refine pure_ (i := 11) (N := some 66) (v := ?_) (a' := ?_) #[false, true, false, true, false, false, false, true, false, true, false, true, false, false, false, false, false, false, false, false] rfl rfl (by kernel_rfl) (fun _ _ _ h => h) (Or.inl ⟨by rfl, ?_⟩) ?_ ?_
   rotate_left
   ·intro w'
    go_simp
    with_reducible rfl
   rotate_left
   ·simp only [Act.put, zt0, zt1, zt2, i64_w, i32_w]
    rfl
   refine pure_ (i := 13) (N := some 68) (v := ?_) (a' := ?_) #[false, true, false, true, false, false, false, true, false, true, false, true, false, true, false, false, false, false, false, false] rfl rfl (by kernel_rfl) (fun _ _ _ h => h) (Or.inl ⟨by rfl, ?_⟩) ?_ ?_
   rotate_left
   ·intro w'
    go_simp
    with_reducible rfl
   rotate_left
   ·simp only [Act.put, zt0, zt1, zt2, i64_w, i32_w]
    rfl
   refine take_ (i := 0) (N := some 55) (v := ?_) (a' := ?_) #[true, true, false, true, false, false, false, true, false, true, false, true, false, true, false, false, false, false, false, false] rfl rfl (by kernel_rfl) (fun _ _ _ h => h) (Or.inl ⟨by rfl, ?_⟩) hHeld ?_ ?_
   rotate_left
   ·rintro w' ⟨s0, s1, s2, s3, s4, s5, s6, s7, s8⟩
    go_simp
    with_reducible rfl
   rotate_left
   ·simp only [Act.put, zt0, zt1, zt2, i64_w, i32_w]
    rfl
   refine take_ (i := 2) (N := some 57) (v := ?_) (a' := ?_) #[true, true, true, true, false, false, false, true, false, true, false, true, false, true, false, false, false, false, false, false] rfl rfl (by kernel_rfl) (fun _ _ _ h => h) (Or.inl ⟨by rfl, ?_⟩) hHeld ?_ ?_
   rotate_left
   ·rintro w' ⟨s0, s1, s2, s3, s4, s5, s6, s7, s8⟩
    go_simp
    with_reducible rfl
   rotate_left
   ·simp only [Act.put, zt0, zt1, zt2, i64_w, i32_w]
    rfl
   refine pure_ (i := 4) (N := some 59) (v := ?_) (a' := ?_) #[true, true, true, true, true, false, false, true, false, true, false, true, false, true, false, false, false, false, false, false] rfl rfl (by kernel_rfl) (fun _ _ _ h => h) (Or.inl ⟨by rfl, ?_⟩) ?_ ?_
   rotate_left
   ·intro w'
    go_simp
    with_reducible rfl
   rotate_left
   ·simp only [Act.put, zt0, zt1, zt2, i64_w, i32_w]
    rfl
   refine take_ (i := 5) (N := some 60) (v := ?_) (a' := ?_) #[true, true, true, true, true, true, false, true, false, true, false, true, false, true, false, false, false, false, false, false] rfl rfl (by kernel_rfl) (fun _ _ _ h => h) (Or.inl ⟨by rfl, ?_⟩) hHeld ?_ ?_
   rotate_left
   ·rintro w' ⟨s0, s1, s2, s3, s4, s5, s6, s7, s8⟩
    go_simp
    with_reducible rfl
   rotate_left
   ·simp only [Act.put, zt0, zt1, zt2, i64_w, i32_w]
    rfl
   refine take_ (i := 8) (N := some 63) (v := ?_) (a' := ?_) #[true, true, true, true, true, true, false, true, true, true, false, true, false, true, false, false, false, false, false, false] rfl rfl (by kernel_rfl) (fun _ _ _ h => h) (Or.inl ⟨by rfl, ?_⟩) hHeld ?_ ?_
   rotate_left
   ·rintro w' ⟨s0, s1, s2, s3, s4, s5, s6, s7, s8⟩
    go_simp
    with_reducible rfl
   rotate_left
   ·simp only [Act.put, zt0, zt1, zt2, i64_w, i32_w]
    rfl
   refine pure_ (i := 10) (N := some 65) (v := ?_) (a' := ?_) #[true, true, true, true, true, true, false, true, true, true, true, true, false, true, false, false, false, false, false, false] rfl rfl (by kernel_rfl) (fun _ _ _ h => h) (Or.inl ⟨by rfl, ?_⟩) ?_ ?_
   rotate_left
   ·intro w'
    go_simp
    with_reducible rfl
   rotate_left
   ·simp only [Act.put, zt0, zt1, zt2, i64_w, i32_w]
    rfl
   refine take_ (i := 12) (N := some 67) (v := ?_) (a' := ?_) #[true, true, true, true, true, true, false, true, true, true, true, true, true, true, false, false, false, false, false, false] rfl rfl (by kernel_rfl) (fun _ _ _ h => h) (Or.inl ⟨by rfl, ?_⟩) hHeld ?_ ?_
   rotate_left
   ·rintro w' ⟨s0, s1, s2, s3, s4, s5, s6, s7, s8⟩
    go_simp
    with_reducible rfl
   rotate_left
   ·simp only [Act.put, zt0, zt1, zt2, i64_w, i32_w]
    rfl
   refine pure_ (i := 14) (N := some 69) (v := ?_) (a' := ?_) #[true, true, true, true, true, true, false, true, true, true, true, true, true, true, true, false, false, false, false, false] rfl rfl (by kernel_rfl) (fun _ _ _ h => h) (Or.inl ⟨by rfl, ?_⟩) ?_ ?_
   rotate_left
   ·intro w'
    go_simp
    with_reducible rfl
   rotate_left
   ·simp only [Act.put, zt0, zt1, zt2, i64_w, i32_w]
    rfl
   refine pure_ (i := 15) (N := some 70) (v := ?_) (a' := ?_) #[true, true, true, true, true, true, false, true, true, true, true, true, true, true, true, true, false, false, false, false] rfl rfl (by kernel_rfl) (fun _ _ _ h => h) (Or.inl ⟨by rfl, ?_⟩) ?_ ?_
   rotate_left
   ·intro w'
    go_simp
    with_reducible rfl
   rotate_left
   ·simp only [Act.put, zt0, zt1, zt2, i64_w, i32_w]
    rfl
   refine one_ (i := 6) (N := some 61) (zB 16 4) rfl rfl (by kernel_rfl) (by decide) (fun K hK => ?_)
   refine goes_ Try.func27 (by kernel_rfl) rfl #[.slice Ae x.length ce] (by rfl) rfl rfl zl_ ?_
   refine (bytes_Clone.calls _ _ x bb _ (Kd.R_reads' RE.out).2.2 (Kd.R_reads' RE.out).2.1 HCB.out).mono ?_
   rintro e we ⟨vb, rfl, hRb, hb⟩
   obtain ⟨Ab, cb, rfl⟩ := Kd.R_slice hRb
   refine ⟨_, rfl, ?_⟩
   have RB := Aside0.mk (Kd.R_lower hRb O.out.HB.size)
   have O2 := Aside0.mk (O.out.below hb)
   have BX2 := Aside0.mk (blk_below BX.out hb)
   have BE2 := Aside0.mk (blk_below BE.out hb)
   clear O BX BE RE hRb hb
   have O := O2
   have BX := BX2
   have BE := BE2
   clear O2 BX2 BE2
   obtain ⟨ha0, ha1, ha2, ha3⟩ := cells4 O.out.BA
   obtain ⟨hb0, hb1, hb2, hb3⟩ := cells4 O.out.BB
   have hfa0 := blk_frozen O.out.BA 0
   have hfa1 := blk_frozen O.out.BA 1
   have hfa2 := blk_frozen O.out.BA 2
   have hfa3 := blk_frozen O.out.BA 3
   have hfb0 := blk_frozen O.out.BB 0
   have hfb1 := blk_frozen O.out.BB 1
   have hfb2 := blk_frozen O.out.BB 2
   have hfb3 := blk_frozen O.out.BB 3
   have hne3 : ¬ ga = gb := O.out.ne3
   have hne4 : ¬ gb = ga := Ne.symm O.out.ne3
   refine hK.out _ _ ⟨(cells4 O.out.BC).1, (cells4 O.out.BC).2.1, (cells4 O.out.BC).2.2.1, (cells4 O.out.BC).2.2.2, (cells4 BX.out).1, (cells4 BX.out).2.1, (cells4 BX.out).2.2.1, (cells4 BX.out).2.2.2, (blk_cell BE.out n).trans HE.out⟩ (fun hHeld => ?_)
   clear hK K
   refine norm_ (a' := ?_) ?_ ?_
   rotate_left
   ·show Act.put _ (some 61) _ = _
    simp only [Act.put, zt0, zt1, zt2, i64_w, i32_w]
    rfl
   refine one_ (i := 16) (N := none) (zB 17 3) rfl rfl (by kernel_rfl) (by decide) (fun K hK => ?_)
   refine skip_ (w1 := ?_) (by rfl) rfl ?_ ?_
   rotate_left
   ·go_simp
    rfl
   refine hK.out _ _ ⟨(cells4 (pageF O.out.BC (Ne.symm O.out.ne1) (.bool true) (.slice (some ⟨gk, 0, none⟩) n n) (.slice (some ⟨gv, 0, none⟩) n n) (.slice none 0 0))).1, (cells4 (pageF O.out.BC (Ne.symm O.out.ne1) (.bool true) (.slice (some ⟨gk, 0, none⟩) n n) (.slice (some ⟨gv, 0, none⟩) n n) (.slice none 0 0))).2.1, (cells4 (pageF O.out.BC (Ne.symm O.out.ne1) (.bool true) (.slice (some ⟨gk, 0, none⟩) n n) (.slice (some ⟨gv, 0, none⟩) n n) (.slice none 0 0))).2.2.1, (cells4 (pageF O.out.BC (Ne.symm O.out.ne1) (.bool true) (.slice (some ⟨gk, 0, none⟩) n n) (.slice (some ⟨gv, 0, none⟩) n n) (.slice none 0 0))).2.2.2, (cells4 (pageF BX.out (Ne.symm GX.out.2.2.1) (.bool true) (.slice (some ⟨gk, 0, none⟩) n n) (.slice (some ⟨gv, 0, none⟩) n n) (.slice none 0 0))).1, (cells4 (pageF BX.out (Ne.symm GX.out.2.2.1) (.bool true) (.slice (some ⟨gk, 0, none⟩) n n) (.slice (some ⟨gv, 0, none⟩) n n) (.slice none 0 0))).2.1, (cells4 (pageF BX.out (Ne.symm GX.out.2.2.1) (.bool true) (.slice (some ⟨gk, 0, none⟩) n n) (.slice (some ⟨gv, 0, none⟩) n n) (.slice none 0 0))).2.2.1, (cells4 (pageF BX.out (Ne.symm GX.out.2.2.1) (.bool true) (.slice (some ⟨gk, 0, none⟩) n n) (.slice (some ⟨gv, 0, none⟩) n n) (.slice none 0 0))).2.2.2, (blk_cell (pageF BE.out NE.out (.bool true) (.slice (some ⟨gk, 0, none⟩) n n) (.slice (some ⟨gv, 0, none⟩) n n) (.slice none 0 0)) n).trans HE.out⟩ (fun hHeld => ?_)
   clear hK K
   refine pure_ (i := 17) (N := some 3) (v := ?_) (a' := ?_) (zB 18 2) rfl rfl (by kernel_rfl) (fun _ _ _ h => h) (Or.inl ⟨by rfl, ?_⟩) ?_ ?_
   rotate_left
   ·intro w'
    go_simp
    with_reducible rfl
   rotate_left
   ·simp only [Act.put, zt0, zt1, zt2, i64_w, i32_w]
    rfl
   refine last_ (i := 18) (N := none) (zB 19 1) rfl rfl (by kernel_rfl) (by decide) (fun K hK => ?_)
   refine skip_ (w1 := ?_) (by rfl) rfl ?_ ?_
   rotate_left
   ·go_simp
    rfl
   refine hK.out _ _ ?_
   clear hK K
   refine pure_ (i := 19) (N := some 5) (v := ?_) (a' := ?_) (zB 20 0) rfl rfl (by kernel_rfl) (fun _ _ _ h => h) (Or.inl ⟨by rfl, ?_⟩) ?_ ?_
   rotate_left
   ·intro w'
    go_simp
    with_reducible rfl
   rotate_left
   ·simp only [Act.put, zt0, zt1, zt2, i64_w, i32_w]
    rfl
   refine done_ (by kernel_rfl) ?_
   go_wp2
   obtain ⟨W2, hW2, e1, e2, e3, e4, e5, e6⟩ := O.out.end_ (.bool true) (.slice (some ⟨gk, 0, none⟩) n n) (.slice (some ⟨gv, 0, none⟩) n n) (.slice none 0 0) (.bool true) (.slice AK (o2.length - n) (ck - n)) (.slice AV (o3.length - n) (cv - n)) (.slice none 0 0)
   have hRB := pageR (pageR RB.out O.out.BA (by decide) (.bool true) (.slice (some ⟨gk, 0, none⟩) n n) (.slice (some ⟨gv, 0, none⟩) n n) (.slice none 0 0)) (pageF O.out.BB (Ne.symm O.out.ne3) (.bool true) (.slice (some ⟨gk, 0, none⟩) n n) (.slice (some ⟨gv, 0, none⟩) n n) (.slice none 0 0)) (by decide) (.bool true) (.slice AK (o2.length - n) (ck - n)) (.slice AV (o3.length - n) (cv - n)) (.slice none 0 0)
   rw [← hW2] at hRB
   rw [← hW2]
   refine bodyPost_ret (results_list (rs := [.cell 2 26, .tmp 3, .cell 4 26, .tmp 5]) rfl (by simp) (Vals.cell ga 26 #[.bool true, .slice (some ⟨gk, 0, none⟩) n n, .slice (some ⟨gv, 0, none⟩) n n, .slice none 0 0] (0, 0) _ rfl e1 Try.underlying26 rfl (by kernel_rfl) (Vals.tmp (Vals.cell gb 26 #[.bool true, .slice AK (o2.length - n) (ck - n), .slice AV (o3.length - n) (cv - n), .slice none 0 0] (0, 0) _ rfl e2 Try.underlying26 rfl (by kernel_rfl) (Vals.tmp Vals.nil))))) rfl ⟨_, _, _, _, _, _, _, rfl, V_take e4 n n f5 (Nat.le_refl _), V_take e5 n n f6 (Nat.le_refl _), Kd.V_nil _ _ _ _ _, R_V hRB, V_drop e4 n f5 AK (by rw [← hAK]; simp [Kd.slice]), V_drop e5 n f6 AV (by rw [← hAV]; simp [Kd.slice]), Kd.V_nil _ _ _ _ _, e3⟩
end Go.Proofs.Ytcbgichkeecgiaa.Print
