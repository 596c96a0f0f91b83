-- What the claim uses alone (wip/slim.py). Lean checks it.
import Derived.Test.YtcbgichkeecgiaaZAb
import Derived.Test.YtcbgichkeecgiaaZAln
import Derived.Test.YtcbgichkeecgiaaZAlo
import Derived.Test.YtcbgichkeecgiaaZAlq
import Derived.Test.YtcbgichkeecgiaaZAlr
import Derived.Test.YtcbgichkeecgiaaZAls
namespace Go.Proofs.Ytcbgichkeecgiaa.Print
open Go.RowKit Go.Proofs.YtcbgichkeecgiaaW.PrintWords Go.Proofs.YtcbgichkeecgiaaW.PrintLast Go.Proofs.YtcbgichkeecgiaaW.PrintMore
attribute [local go_sem] max2_mx min2_mn max_two min_two max_three min_three max_four min_four
set_option linter.unusedVariables false
set_option linter.unusedSimpArgs false
structure OutV (w W : World) (gb gr : Nat) (b : Bool) (Ak : Option Addr) (ck : Nat) (ks : List (List Int)) (Av : Option Addr) (cv : Nat) (vs : List (List Int)) (Ad : Option Addr) (cd : Nat) (ds : List Int) : Prop where
 BB : W.heap[gb]? = some (.cells #[.bool b, .slice Ak ks.length ck, .slice Av vs.length cv, .slice Ad ds.length cd] 26 (0, 0))
 BR : W.heap[gr]? = some (.cells #[.bool false, .slice none 0 0, .slice none 0 0, .slice none 0 0] 26 (0, 0))
 HB : Below w.heap.size w W
 K : Kd.V (Kd.slice 5 (Kd.int .u8)) 27 W w.heap.size (fun k => w.heap.size ≤ k ∧ k ≠ gb ∧ k ≠ gr) (.slice Ak ks.length ck) ks
 V : Kd.V (Kd.slice 5 (Kd.int .u8)) 27 W w.heap.size (fun k => w.heap.size ≤ k ∧ k ≠ gb ∧ k ≠ gr) (.slice Av vs.length cv) vs
 D : Kd.V (Kd.int .i64) 3 W w.heap.size (fun k => w.heap.size ≤ k ∧ k ≠ gb ∧ k ≠ gr) (.slice Ad ds.length cd) ds
 GB : w.heap.size ≤ gb
 GR : w.heap.size ≤ gr
 ne : gb ≠ gr
section
variable {w W W2 : World} {gb gr : Nat} {b : Bool} {Ak : Option Addr} {ck : Nat} {ks ks' : List (List Int)} {Av : Option Addr} {cv : Nat} {vs vs' : List (List Int)} {Ad : Option Addr} {cd : Nat} {ds : List Int} {A' : Option Addr} {c' : Nat}
theorem OutV.below (O : OutV w W gb gr b Ak ck ks Av cv vs Ad cd ds) (hb : Below W.heap.size W W2) : OutV w W2 gb gr b Ak ck ks Av cv vs Ad cd ds :=
 ⟨blk_below O.BB hb, blk_below O.BR hb, below_step O.HB hb, Kd.V_below O.K hb, Kd.V_below O.V hb, Kd.V_below O.D hb, O.GB, O.GR, O.ne⟩
theorem OutV.setK (O : OutV w W gb gr b Ak ck ks Av cv vs Ad cd ds) (hI : Kd.V (Kd.slice 5 (Kd.int .u8)) 27 W w.heap.size (fun k => w.heap.size ≤ k ∧ k ≠ gb ∧ k ≠ gr) (.slice A' ks'.length c') ks') :
  OutV w (W.setCell ⟨gb, 1, none⟩ (.slice A' ks'.length c')) gb gr b A' c' ks' Av cv vs Ad cd ds :=
 ⟨blk_put O.BB 1 _ rfl, blk_far O.BR (Ne.symm O.ne) _, below_set O.HB O.GB, Kd.V_far hI (fun _ hk => hk.2.1) _, Kd.V_far O.V (fun _ hk => hk.2.1) _, Kd.V_far O.D (fun _ hk => hk.2.1) _, O.GB, O.GR, O.ne⟩
theorem OutV.setV (O : OutV w W gb gr b Ak ck ks Av cv vs Ad cd ds) (hI : Kd.V (Kd.slice 5 (Kd.int .u8)) 27 W w.heap.size (fun k => w.heap.size ≤ k ∧ k ≠ gb ∧ k ≠ gr) (.slice A' vs'.length c') vs') :
  OutV w (W.setCell ⟨gb, 2, none⟩ (.slice A' vs'.length c')) gb gr b Ak ck ks A' c' vs' Ad cd ds :=
 ⟨blk_put O.BB 2 _ rfl, blk_far O.BR (Ne.symm O.ne) _, below_set O.HB O.GB, Kd.V_far O.K (fun _ hk => hk.2.1) _, Kd.V_far hI (fun _ hk => hk.2.1) _, Kd.V_far O.D (fun _ hk => hk.2.1) _, O.GB, O.GR, O.ne⟩
theorem OutV.rd (O : OutV w W gb gr b Ak ck ks Av cv vs Ad cd ds) : (W.cell? ⟨gb, 0, none⟩ = some (.bool b) ∧ W.cell? ⟨gb, 1, none⟩ = some (.slice Ak ks.length ck) ∧ W.cell? ⟨gb, 2, none⟩ = some (.slice Av vs.length cv) ∧ W.cell? ⟨gb, 3, none⟩ = some (.slice Ad ds.length cd)) ∧ (∀ i, W.frozen? ⟨gb, i, none⟩ = false) ∧
  (W.cell? ⟨gr, 0, none⟩ = some (.bool false) ∧ W.cell? ⟨gr, 1, none⟩ = some (.slice none 0 0) ∧ W.cell? ⟨gr, 2, none⟩ = some (.slice none 0 0) ∧ W.cell? ⟨gr, 3, none⟩ = some (.slice none 0 0)) ∧ (∀ i, W.frozen? ⟨gr, i, none⟩ = false) :=
 ⟨⟨(blk_cell O.BB 0).trans rfl, (blk_cell O.BB 1).trans rfl, (blk_cell O.BB 2).trans rfl, (blk_cell O.BB 3).trans rfl⟩, fun i => blk_frozen O.BB i, ⟨(blk_cell O.BR 0).trans rfl, (blk_cell O.BR 1).trans rfl, (blk_cell O.BR 2).trans rfl, (blk_cell O.BR 3).trans rfl⟩, fun i => blk_frozen O.BR i⟩
theorem V_far4 {α : Type} {d : Kd α} {e base g : Nat} {ok : Nat → Prop} {v : Value} {xs : List α} {W : World} (h : Kd.V d e W base ok v xs) (hok : ∀ k, ok k → k ≠ g) (x0 x1 x2 x3 : Value) :
  Kd.V d e ((((W.setCell ⟨g, 0, none⟩ x0).setCell ⟨g, 1, none⟩ x1).setCell ⟨g, 2, none⟩ x2).setCell ⟨g, 3, none⟩ x3) base ok v xs :=
 Kd.V_far (Kd.V_far (Kd.V_far (Kd.V_far h hok x0) hok x1) hok x2) hok x3
theorem OutV.end_ (O : OutV w W gb gr b Ak ck ks Av cv vs Ad cd ds) (x0 x1 x2 x3 : Value) :
  Kd.V (Kd.slice 5 (Kd.int .u8)) 27 ((((W.setCell ⟨gr, 0, none⟩ x0).setCell ⟨gr, 1, none⟩ x1).setCell ⟨gr, 2, none⟩ x2).setCell ⟨gr, 3, none⟩ x3) w.heap.size (fun k_ => (w.heap.size ≤ k_)) (.slice Ak ks.length ck) ks ∧
  Kd.V (Kd.slice 5 (Kd.int .u8)) 27 ((((W.setCell ⟨gr, 0, none⟩ x0).setCell ⟨gr, 1, none⟩ x1).setCell ⟨gr, 2, none⟩ x2).setCell ⟨gr, 3, none⟩ x3) w.heap.size (fun k_ => (w.heap.size ≤ k_)) (.slice Av vs.length cv) vs ∧
  Kd.V (Kd.int .i64) 3 ((((W.setCell ⟨gr, 0, none⟩ x0).setCell ⟨gr, 1, none⟩ x1).setCell ⟨gr, 2, none⟩ x2).setCell ⟨gr, 3, none⟩ x3) w.heap.size (fun k_ => (w.heap.size ≤ k_)) (.slice Ad ds.length cd) ds ∧
  Below w.heap.size w ((((W.setCell ⟨gr, 0, none⟩ x0).setCell ⟨gr, 1, none⟩ x1).setCell ⟨gr, 2, none⟩ x2).setCell ⟨gr, 3, none⟩ x3) :=
 ⟨Kd.V_mono (V_far4 O.K (fun _ hk => hk.2.2) _ _ _ _) (fun _ hk => hk.1), Kd.V_mono (V_far4 O.V (fun _ hk => hk.2.2) _ _ _ _) (fun _ hk => hk.1), Kd.V_mono (V_far4 O.D (fun _ hk => hk.2.2) _ _ _ _) (fun _ hk => hk.1), pageW O.HB O.GR _ _ _ _⟩
end
def ladingref06_Put.f (k : Nat) (a0_0 : Bool) (l0_1 : List (List Int)) (l0_2 : List (List Int)) (l0_3 : List Int) (l1 : List Int) (l2 : List Int) : Option (Bool × (List (List Int)) × (List (List Int)) × List Int × Int) := (ladingref06_Check.f k a0_0 l0_1 l0_2 l0_3).bind fun t395 => (if t395 = 0 then (if a0_0 = true then (if (l1.length : Int) > 256 then (some (false, ([] : List (List Int)), ([] : List (List Int)), ([] : List Int), 4)) else (if (l2.length : Int) > 512 then (some (false, ([] : List (List Int)), ([] : List (List Int)), ([] : List Int), 4)) else ((ladingref06_Copy.f k a0_0 l0_1 l0_2 l0_3).bind fun bt396 => ((ladingref06_below.f k bt396.1 bt396.2.1 bt396.2.2.1 bt396.2.2.2 l1).bind fun bt407 => (if bt407.2 = true then ((ladingref06_bytes.f l2).bind fun t409 => (if 0 ≤ bt407.1 then (if bt407.1 < (bt396.2.2.1.length : Int) then ((some (bt396.2.2.1.set (bt407.1 : Int).toNat t409 : List (List Int))).bind fun y412 => ((ladingref06_Size.f k bt396.1 bt396.2.1 y412 bt396.2.2.2).bind fun t413 => (if t413 > 4096 then (some (false, ([] : List (List Int)), ([] : List (List Int)), ([] : List Int), 7)) else (some (bt396.1, bt396.2.1, y412, bt396.2.2.2, 0))))) else (none)) else (none))) else ((ladingref06_with.f bt396.2.1 bt407.1 l1).bind fun t414 => ((ladingref06_with.f bt396.2.2.1 bt407.1 l2).bind fun t417 => ((ladingref06_Size.f k bt396.1 t414 t417 bt396.2.2.2).bind fun t420 => (if t420 > 4096 then (some (false, ([] : List (List Int)), ([] : List (List Int)), ([] : List Int), 7)) else (some (bt396.1, t414, t417, bt396.2.2.2, 0))))))))))) else (some (false, ([] : List (List Int)), ([] : List (List Int)), ([] : List Int), 15))) else (some (false, ([] : List (List Int)), ([] : List (List Int)), ([] : List Int), t395)))
theorem ladingref06_Put.mono : ∀ a0 a1 a2 a3 a4 a5 k, LeO (ladingref06_Put.f k a0 a1 a2 a3 a4 a5) (ladingref06_Put.f (k + 1) a0 a1 a2 a3 a4 a5) := by
 intro a0 a1 a2 a3 a4 a5 k
 unfold ladingref06_Put.f
 repeat' first
   | (with_reducible exact ladingref06_Check.mono _ _ _ _ _)
   | (with_reducible exact ladingref06_Copy.mono _ _ _ _ _)
   | (with_reducible exact ladingref06_Size.mono _ _ _ _ _)
   | (with_reducible exact ladingref06_below.mono _ _ _ _ _ _)
   | (with_reducible exact LeO.refl _)
   | (with_reducible exact LeO.none _)
   | (with_reducible refine LeO.ite ?_ ?_)
   | (with_reducible refine LeO.bind ?_ (fun _ => ?_))
   | exact ladingref06_Check.mono _ _ _ _ _
   | exact ladingref06_Copy.mono _ _ _ _ _
   | exact ladingref06_Size.mono _ _ _ _ _
   | exact ladingref06_below.mono _ _ _ _ _ _
   | exact LeO.none _
   | refine LeO.ite ?_ ?_
   | refine LeO.bind ?_ (fun _ => ?_)
set_option maxHeartbeats 8000000 in
set_option maxRecDepth 100000 in
theorem ladingref06_Put.calls (k : Nat) (a0_0 : Bool) (A0_1 : Option Addr) (c0_1 : Nat) (l0_1 : List (List Int)) (A0_2 : Option Addr) (c0_2 : Nat) (l0_2 : List (List Int)) (A0_3 : Option Addr) (c0_3 : Nat) (l0_3 : List Int) (A1 : Option Addr) (c1 : Nat) (l1 : List Int) (A2 : Option Addr) (c2 : Nat) (l2 : List Int) (r1 : Bool) (r2 : List (List Int)) (r3 : List (List Int)) (r4 : List Int) (r5 : Int) (w : World) (hr0_1 : Kd.C (Kd.slice 5 (Kd.int .u8)) w A0_1 l0_1.length l0_1) (hc0_1 : l0_1.length ≤ c0_1) (hr0_2 : Kd.C (Kd.slice 5 (Kd.int .u8)) w A0_2 l0_2.length l0_2) (hc0_2 : l0_2.length ≤ c0_2) (hr0_3 : Kd.C (Kd.int .i64) w A0_3 l0_3.length l0_3) (hc0_3 : l0_3.length ≤ c0_3) (hr1 : Kd.C (Kd.int .u8) w A1 l1.length l1) (hc1 : l1.length ≤ c1) (hr2 : Kd.C (Kd.int .u8) w A2 l2.length l2) (hc2 : l2.length ≤ c2) (h : ladingref06_Put.f k a0_0 l0_1 l0_2 l0_3 l1 l2 = some (r1, r2, r3, r4, r5)) :
  Calls Try.prog 15 #[.agg #[.bool a0_0, .slice A0_1 l0_1.length c0_1, .slice A0_2 l0_2.length c0_2, .slice A0_3 l0_3.length c0_3], .slice A1 l1.length c1, .slice A2 l2.length c2] w fun e w' => ∃ v1_ v2_ v3_ : Value, e = .returned (.tuple #[.agg #[.bool r1, v1_, v2_, v3_], .int .i64 r5]) ∧ Kd.V (Kd.slice 5 (Kd.int .u8)) 27 w' w.heap.size (fun k_ => (w.heap.size ≤ k_)) v1_ r2 ∧ Kd.V (Kd.slice 5 (Kd.int .u8)) 27 w' w.heap.size (fun k_ => (w.heap.size ≤ k_)) v2_ r3 ∧ Kd.V (Kd.int .i64) 3 w' w.heap.size (fun k_ => (w.heap.size ≤ k_)) v3_ r4 ∧ Below w.heap.size w w' := by
 have hu26 := Try.underlying26
 have R1 := Aside0.mk hr0_1
 have L1 := Aside0.mk hc0_1
 have R2 := Aside0.mk hr0_2
 have L2 := Aside0.mk hc0_2
 have R3 := Aside0.mk hr0_3
 have L3 := Aside0.mk hc0_3
 have RK := Aside0.mk hr1
 have LK := Aside0.mk hc1
 have RW := Aside0.mk hr2
 have LW := Aside0.mk hc2
 clear hr0_1 hc0_1 hr0_2 hc0_2 hr0_3 hc0_3 hr1 hc1 hr2 hc2
 unfold ladingref06_Put.f at h
 replace h := Option.bind_eq_some_iff.mp h
 obtain ⟨t, ht, h⟩ := h
 have HT := Aside0.mk ht
 have HH := Aside0.mk h
 clear ht h
 go_enter Try.func15, Try.ntmps15
 go_wp2_with (first | ((with_reducible refine gate_dst (N := 3) rfl ?_); refine box_event ?hg (N := 3) ?hd (cs := #[.bool a0_0, .slice A0_1 l0_1.length c0_1, .slice A0_2 l0_2.length c0_2, .slice A0_3 l0_3.length c0_3]) (t := 26) ?hr ?_; (case hd => rfl); (case hg => rfl); (case hr => first | (go_simp; done) | (go_simp; rfl)); intro gp hgp w1 hbox hb; have BP := Aside0.mk hbox; have HB := Aside0.mk hb; clear hbox hb hgp) | ((with_reducible refine gate_dst (N := 6) rfl ?_); refine box_event ?hg (N := 6) ?hd (cs := #[.bool false, .slice none 0 0, .slice none 0 0, .slice none 0 0]) (t := 26) ?hr ?_; (case hd => rfl); (case hg => rfl); (case hr => first | (go_simp; done) | (go_simp; rfl)); intro gr hgr w2 hbox hb; have GR : Aside0 (w.heap.size ≤ gr) := ⟨by rw [hgr]; exact HB.out.size⟩; have BR := Aside0.mk hbox; have BP2 := Aside0.mk (blk_below BP.out hb); have HB2 := Aside0.mk (below_step HB.out hb); have hc0 := (blk_cell BP2.out 0).trans rfl; have hc1 := (blk_cell BP2.out 1).trans rfl; have hc2 := (blk_cell BP2.out 2).trans rfl; have hc3 := (blk_cell BP2.out 3).trans rfl; clear hbox hb hgr BP HB))
 refine (ladingref06_Check.calls k a0_0 A0_1 c0_1 l0_1 A0_2 c0_2 l0_2 A0_3 c0_3 l0_3 t _ (Kd.C_below R1.out HB2.out) L1.out (Kd.C_below R2.out HB2.out) L2.out (Kd.C_below R3.out HB2.out) L3.out HT.out).mono ?_
 rintro e w3 ⟨rfl, hb3⟩
 have BP3 := Aside0.mk (blk_below BP2.out hb3)
 have BR3 := Aside0.mk (blk_below BR.out hb3)
 have HB3 := Aside0.mk (below_step HB2.out hb3)
 clear hc0 hc1 hc2 hc3 hb3 BP2 BR HB2
 have H := HH.out
 clear HH
 by_cases hz : t = 0
 case neg =>
  rw [if_neg hz] at H
  have z1 : (t == 0) = false := beq_eq_false_iff_ne.mpr hz
  have z2 : (t != 0) = true := bne_iff_ne.mpr hz
  clear hz HT
  simp only [Option.some.injEq, Prod.mk.injEq] at H
  obtain ⟨rfl, rfl, rfl, rfl, rfl⟩ := H
  have hc0 := (blk_cell BR3.out 0).trans rfl
  have hc1 := (blk_cell BR3.out 1).trans rfl
  have hc2 := (blk_cell BR3.out 2).trans rfl
  have hc3 := (blk_cell BR3.out 3).trans rfl
  have hf0 := blk_frozen BR3.out 0
  have hf1 := blk_frozen BR3.out 1
  have hf2 := blk_frozen BR3.out 2
  have hf3 := blk_frozen BR3.out 3
  go_wp2
  refine bodyPost_ret (results_ct rfl _ _ gr 26 #[.bool false, .slice none 0 0, .slice none 0 0, .slice none 0 0] (0, 0) _ rfl (pageB BR3.out _ _ _ _) Try.underlying26 rfl (by kernel_rfl)) rfl ⟨_, _, _, rfl, Kd.V_nil _ _ _ _ _, Kd.V_nil _ _ _ _ _, Kd.V_nil _ _ _ _ _, pageW HB3.out GR.out _ _ _ _⟩
 case pos =>
 rw [if_pos hz] at H
 have z1 : (t == 0) = true := beq_iff_eq.mpr hz
 have z2 : (t != 0) = false := bne_eq_false_iff_eq.mpr hz
 clear hz HT
 have he0 := (blk_cell BP3.out 0).trans rfl
 have he1 := (blk_cell BP3.out 1).trans rfl
 have he2 := (blk_cell BP3.out 2).trans rfl
 have he3 := (blk_cell BP3.out 3).trans rfl
 cases a0_0 with
 | false =>
  rw [if_neg (show ¬ false = true by decide)] at H
  simp only [Option.some.injEq, Prod.mk.injEq] at H
  obtain ⟨rfl, rfl, rfl, rfl, rfl⟩ := H
  have hc0 := (blk_cell BR3.out 0).trans rfl
  have hc1 := (blk_cell BR3.out 1).trans rfl
  have hc2 := (blk_cell BR3.out 2).trans rfl
  have hc3 := (blk_cell BR3.out 3).trans rfl
  have hf0 := blk_frozen BR3.out 0
  have hf1 := blk_frozen BR3.out 1
  have hf2 := blk_frozen BR3.out 2
  have hf3 := blk_frozen BR3.out 3
  go_wp2
  refine bodyPost_ret (results_ct rfl _ _ gr 26 #[.bool false, .slice none 0 0, .slice none 0 0, .slice none 0 0] (0, 0) _ rfl (pageB BR3.out _ _ _ _) Try.underlying26 rfl (by kernel_rfl)) rfl ⟨_, _, _, rfl, Kd.V_nil _ _ _ _ _, Kd.V_nil _ _ _ _ _, Kd.V_nil _ _ _ _ _, pageW HB3.out GR.out _ _ _ _⟩
 | true =>
 rw [if_pos rfl] at H
 by_cases hk : (l1.length : Int) > 256
 case pos =>
  rw [if_pos hk] at H
  have y1 : decide (256 < (l1.length : Int)) = true := decide_eq_true hk
  have y1n : decide (256 < l1.length) = true := decide_eq_true (by omega)
  clear hk
  simp only [Option.some.injEq, Prod.mk.injEq] at H
  obtain ⟨rfl, rfl, rfl, rfl, rfl⟩ := H
  have hc0 := (blk_cell BR3.out 0).trans rfl
  have hc1 := (blk_cell BR3.out 1).trans rfl
  have hc2 := (blk_cell BR3.out 2).trans rfl
  have hc3 := (blk_cell BR3.out 3).trans rfl
  have hf0 := blk_frozen BR3.out 0
  have hf1 := blk_frozen BR3.out 1
  have hf2 := blk_frozen BR3.out 2
  have hf3 := blk_frozen BR3.out 3
  go_wp2
  refine bodyPost_ret (results_ct rfl _ _ gr 26 #[.bool false, .slice none 0 0, .slice none 0 0, .slice none 0 0] (0, 0) _ rfl (pageB BR3.out _ _ _ _) Try.underlying26 rfl (by kernel_rfl)) rfl ⟨_, _, _, rfl, Kd.V_nil _ _ _ _ _, Kd.V_nil _ _ _ _ _, Kd.V_nil _ _ _ _ _, pageW HB3.out GR.out _ _ _ _⟩
 case neg =>
 rw [if_neg hk] at H
 have y1 : decide (256 < (l1.length : Int)) = false := decide_eq_false hk
 have y1n : decide (256 < l1.length) = false := decide_eq_false (by omega)
 clear hk
 by_cases hv : (l2.length : Int) > 512
 case pos =>
  rw [if_pos hv] at H
  have y2 : decide (512 < (l2.length : Int)) = true := decide_eq_true hv
  have y2n : decide (512 < l2.length) = true := decide_eq_true (by omega)
  clear hv
  simp only [Option.some.injEq, Prod.mk.injEq] at H
  obtain ⟨rfl, rfl, rfl, rfl, rfl⟩ := H
  have hc0 := (blk_cell BR3.out 0).trans rfl
  have hc1 := (blk_cell BR3.out 1).trans rfl
  have hc2 := (blk_cell BR3.out 2).trans rfl
  have hc3 := (blk_cell BR3.out 3).trans rfl
  have hf0 := blk_frozen BR3.out 0
  have hf1 := blk_frozen BR3.out 1
  have hf2 := blk_frozen BR3.out 2
  have hf3 := blk_frozen BR3.out 3
  go_wp2
  refine bodyPost_ret (results_ct rfl _ _ gr 26 #[.bool false, .slice none 0 0, .slice none 0 0, .slice none 0 0] (0, 0) _ rfl (pageB BR3.out _ _ _ _) Try.underlying26 rfl (by kernel_rfl)) rfl ⟨_, _, _, rfl, Kd.V_nil _ _ _ _ _, Kd.V_nil _ _ _ _ _, Kd.V_nil _ _ _ _ _, pageW HB3.out GR.out _ _ _ _⟩
 case neg =>
 rw [if_neg hv] at H
 have y2 : decide (512 < (l2.length : Int)) = false := decide_eq_false hv
 have y2n : decide (512 < l2.length) = false := decide_eq_false (by omega)
 clear hv
 replace H := Option.bind_eq_some_iff.mp H
 obtain ⟨o, ho, H⟩ := H
 obtain ⟨o1, o2, o3, o4⟩ := o
 replace H := Option.bind_eq_some_iff.mp H
 obtain ⟨p, hp, H⟩ := H
 obtain ⟨pn, pb⟩ := p
 have HO := Aside0.mk ho
 have HPL := Aside0.mk hp
 have HH := Aside0.mk H
 clear ho hp H
 have SZ := Aside0.mk (blk_lt BR3.out)
 go_wp2_with fail
 refine (ladingref06_Copy.calls k true A0_1 c0_1 l0_1 A0_2 c0_2 l0_2 A0_3 c0_3 l0_3 o1 o2 o3 o4 _ (Kd.C_below R1.out HB3.out) L1.out (Kd.C_below R2.out HB3.out) L2.out (Kd.C_below R3.out HB3.out) L3.out HO.out).mono ?_
 rintro e w4 ⟨v1, v2, v3, rfl, hS1, hS2, hR3, hb4⟩
 obtain ⟨Ak, ck, rfl⟩ := Kd.R_slice (Kd.S_R hS1)
 obtain ⟨Av, cv, rfl⟩ := Kd.R_slice (Kd.S_R hS2)
 obtain ⟨Ad, cd, rfl⟩ := Kd.R_slice hR3
 have U1 := Aside0.mk (Kd.V_bound (R_V (Kd.S_R hS1)))
 have U2 := Aside0.mk (Kd.V_bound (R_V (Kd.S_R hS2)))
 have U3 := Aside0.mk (Kd.V_bound (R_V hR3))
 have S1 := Aside0.mk (Kd.R_lower (Kd.S_R hS1) HB3.out.size)
 have S2 := Aside0.mk (Kd.R_lower (Kd.S_R hS2) HB3.out.size)
 have S3 := Aside0.mk (Kd.R_lower hR3 HB3.out.size)
 have Z3 : Aside0 (w.heap.size ≤ w3.heap.size) := ⟨HB3.out.size⟩
 have BR4 := Aside0.mk (blk_below BR3.out hb4)
 have HB4 := Aside0.mk (below_step HB3.out hb4)
 clear he0 he1 he2 he3 hb4 BP3 BR3 HB3 hS1 hS2 hR3
 go_wp2_with (first | ((with_reducible refine gate_dst (N := 9) rfl ?_); refine box_event ?hg (N := 9) ?hd (cs := #[.bool false, .slice none 0 0, .slice none 0 0, .slice none 0 0]) (t := 26) ?hr ?_; (case hd => rfl); (case hg => rfl); (case hr => first | (go_simp; done) | (go_simp; rfl)); intro gb hgb w5 hbox hb; have GB : Aside0 (w.heap.size ≤ gb ∧ gb ≠ gr) := ⟨by rw [hgb]; exact HB4.out.size, by rw [hgb]; exact Nat.ne_of_gt (blk_lt BR4.out)⟩; have BB := Aside0.mk hbox; have BR5 := Aside0.mk (blk_below BR4.out hb); have HB5 := Aside0.mk (below_step HB4.out hb); have T1 := Aside0.mk (Kd.R_below S1.out hb); have T2 := Aside0.mk (Kd.R_below S2.out hb); have T3 := Aside0.mk (Kd.R_below S3.out hb); have hok : Aside0 (∀ k, (w3.heap.size ≤ k ∧ k < w4.heap.size) → w.heap.size ≤ k ∧ k ≠ gb ∧ k ≠ gr) := ⟨fun k hk => ⟨Nat.le_trans Z3.out hk.1, by rw [hgb]; exact Nat.ne_of_lt hk.2, Nat.ne_of_gt (Nat.lt_of_lt_of_le SZ.out hk.1)⟩⟩; have Q1 := Aside0.mk (Kd.V_mono (Kd.V_below U1.out hb) hok.out); have Q2 := Aside0.mk (Kd.V_mono (Kd.V_below U2.out hb) hok.out); have Q3 := Aside0.mk (Kd.V_mono (Kd.V_below U3.out hb) hok.out); have hd0 := (blk_cell BB.out 0).trans rfl; have hf0 := blk_frozen BB.out 0; have hd1 := (blk_cell BB.out 1).trans rfl; have hf1 := blk_frozen BB.out 1; have hd2 := (blk_cell BB.out 2).trans rfl; have hf2 := blk_frozen BB.out 2; have hd3 := (blk_cell BB.out 3).trans rfl; have hf3 := blk_frozen BB.out 3; clear hbox hb hgb BR4 HB4 S1 S2 S3 U1 U2 U3 Z3 SZ hok))
 have O : Aside0 (OutP w ((((w5.setCell ⟨gb, 0, none⟩ (.bool o1)).setCell ⟨gb, 1, none⟩ (.slice Ak o2.length ck)).setCell ⟨gb, 2, none⟩ (.slice Av o3.length cv)).setCell ⟨gb, 3, none⟩ (.slice Ad o4.length cd)) gb gr o1 Ak ck o2 Av cv o3 Ad cd o4) :=
  ⟨pageB BB.out _ _ _ _, pageF BR5.out (Ne.symm GB.out.2) _ _ _ _, pageW HB5.out GB.out.1 _ _ _ _, pageR T1.out BB.out (by decide) _ _ _ _, pageR T2.out BB.out (by decide) _ _ _ _, pageR T3.out BB.out (by decide) _ _ _ _, GB.out.1, GR.out, GB.out.2⟩
 have OV : Aside0 (OutV w ((((w5.setCell ⟨gb, 0, none⟩ (.bool o1)).setCell ⟨gb, 1, none⟩ (.slice Ak o2.length ck)).setCell ⟨gb, 2, none⟩ (.slice Av o3.length cv)).setCell ⟨gb, 3, none⟩ (.slice Ad o4.length cd)) gb gr o1 Ak ck o2 Av cv o3 Ad cd o4) :=
  ⟨O.out.BB, O.out.BR, O.out.HB, V_far4 Q1.out (fun _ hk => hk.2.1) _ _ _ _, V_far4 Q2.out (fun _ hk => hk.2.1) _ _ _ _, V_far4 Q3.out (fun _ hk => hk.2.1) _ _ _ _, GB.out.1, GR.out, GB.out.2⟩
 clear T1 T2 T3 Q1 Q2 Q3 BB BR5 HB5 hd0 hd1 hd2 hd3 hf0 hf1 hf2 hf3 GB GR
 refine (ladingref06_below.calls k o1 Ak ck o2 Av cv o3 Ad cd o4 A1 c1 l1 pn pb _ (Kd.R_reads' O.out.K).2.2 (Kd.R_reads' O.out.K).2.1 (Kd.R_reads' O.out.V).2.2 (Kd.R_reads' O.out.V).2.1 (Kd.R_reads' O.out.D).2.2 (Kd.R_reads' O.out.D).2.1 (Kd.C_below RK.out O.out.HB) LK.out HPL.out).mono ?_
 rintro e w7 ⟨rfl, hb7⟩
 have O2 := Aside0.mk (O.out.below hb7)
 have OV2 := Aside0.mk (OV.out.below hb7)
 clear hb7 O OV HPL HO
 have H := HH.out
 clear HH
 obtain ⟨⟨hd0, hd1, hd2, hd3⟩, hf, -, -⟩ := O2.out.rd
 cases pb with
 | true =>
  clear OV2 hd0 hd1 hd2 hd3 hf
  have O := O2
  clear O2
  rw [if_pos rfl] at H
  replace H := Option.bind_eq_some_iff.mp H
  obtain ⟨bb, hbb, H⟩ := H
  by_cases hc : 0 ≤ pn
  case neg => rw [if_neg hc] at H; cases H
  case pos =>
  rw [if_pos hc] at H
  obtain ⟨n, rfl⟩ := Int.eq_ofNat_of_zero_le hc
  by_cases hc2 : (n : Int) < (o3.length : Int)
  case neg => rw [if_neg hc2] at H; cases H
  case pos =>
  rw [if_pos hc2, Option.bind_some, Int.toNat_natCast] at H
  have HCB := Aside0.mk hbb
  have HH := Aside0.mk H
  have HN : Aside0 (n < o3.length) := ⟨by omega⟩
  clear hc hc2 hbb H
  obtain ⟨gv, cv', ev⟩ : ∃ gv cv', Value.slice Av o3.length cv = .slice (some ⟨gv, 0, none⟩) o3.length cv' := by
   obtain ⟨g, cap, he, _⟩ := Kd.R_form O.out.V (by have := HN.out; omega)
   exact ⟨g, cap, he⟩
  injection ev with ev1 _ ev2
  subst ev1
  subst ev2
  have pm : ((n : Int) < (o3.length : Int)) = True := eq_true (by have := HN.out; omega)
  have pmn : (n < o3.length) = True := eq_true HN.out
  go_wp2_with fail
  have O2 := Aside0.mk O.out.drew
  clear O
  have O := O2
  clear O2
  refine start_ (n := 7) (S := fun w' => w'.cell? ⟨gb, 0, none⟩ = some (.bool o1) ∧ w'.cell? ⟨gb, 1, none⟩ = some (.slice Ak o2.length ck) ∧ w'.cell? ⟨gb, 2, none⟩ = some (.slice (some ⟨gv, 0, none⟩) o3.length cv) ∧ w'.cell? ⟨gb, 3, none⟩ = some (.slice Ad o4.length cd)) (ds := [6]) #[false, false, false, false, false, false, false] (by kernel_rfl) rfl rfl O.out.rd.1 (fun hHeld => ?_)
  generalize World.drew _ = wa at O hHeld ⊢
  refine zpu 0 (some 43) #[true, false, false, false, false, false, false] (by kernel_rfl) ?_
  refine zpu 2 (some 45) #[true, false, true, false, false, false, false] (by kernel_rfl) ?_
  refine zpu 3 (some 46) #[true, false, true, true, false, false, false] (by kernel_rfl) ?_
  refine zta 1 (some 44) #[true, true, true, true, false, false, false] (by kernel_rfl) hHeld ?_
  refine one_ (i := 4) (N := some 47) #[true, true, true, true, true, false, false] rfl rfl (by kernel_rfl) (by decide) (fun K hK => ?_)
  refine goes_ Try.func33 (by kernel_rfl) rfl #[.slice A2 l2.length c2] (by rfl) rfl rfl zl_ ?_
  refine (ladingref06_bytes.calls _ _ l2 bb _ (Kd.C_below RW.out O.out.HB) LW.out HCB.out).mono ?_
  rintro e wb ⟨vb, rfl, hRb, hb⟩
  obtain ⟨Ab, cb, rfl⟩ := Kd.R_slice hRb
  refine ⟨_, rfl, ?_⟩
  have RB := Aside0.mk hRb
  have OL := O
  have O2 := Aside0.mk (O.out.below hb)
  clear O
  have O := O2
  clear O2 hRb hb
  obtain ⟨ce, hcl, hMe, hcc, hfr⟩ := Kd.R_elem O.out.V [] (n : Int) (Int.natCast_nonneg _) (by have := HN.out; omega)
  obtain ⟨ve, rfl, hRe⟩ := hMe
  have hP := Kd.R_seg O.out.V (n : Int) (Int.natCast_nonneg _) (by have := HN.out; omega) (seg := [.slice Ab bb.length cb]) (j := 0) hcl hcc (show 1 ≤ 1 from Nat.le_refl _) (x' := bb) (okp := fun k => wa.heap.size ≤ k) ⟨_, rfl, Kd.R_mono (Kd.R_lower (Kd.R_bound RB.out) OL.out.HB.size) (fun k hk => hk.2.1)⟩ (fun k hk => ⟨fun he => Nat.lt_irrefl _ (Nat.lt_of_lt_of_le (Kd.R_lt OL.out.K k he.symm) hk), fun he => Nat.lt_irrefl _ (Nat.lt_of_lt_of_le (Kd.R_lt OL.out.V k (by rw [he]; rfl)) hk)⟩)
  have hx := hcc 0 _ rfl
  have hf := hfr 0
  (try simp only [show (Kd.slice 5 (Kd.int .u8)).sz = 1 from rfl, Nat.mul_one, Nat.add_zero, Int.toNat_natCast] at hx hf hP)
  have O3 := Aside0.mk (O.out.putV hP.1 (List.length_set ..) hP.2)
  clear hcl hcc hfr hRe hP OL RB
  refine hK.out _ _ O.out.rd.1 (fun hHeld => ?_)
  clear hK K
  refine zno 47 ?_
  refine zpu 5 (some 48) #[true, true, true, true, true, true, false] (by kernel_rfl) ?_
  refine last_ (i := 6) (N := none) #[true, true, true, true, true, true, true] rfl rfl (by kernel_rfl) (by decide) (fun K hK => ?_)
  refine skip_ (w1 := ?_) (by rfl) rfl ?_ ?_
  rotate_left
  ·go_simp
   rfl
  refine hK.out _ _ ?_
  clear hK K
  refine done_ (by kernel_rfl) ?_
  clear hx hf hHeld O
  have O := O3
  clear O3
  simp only [World.setCells] at O
  generalize World.setCell _ _ _ = wz at O ⊢
  obtain ⟨vv, hvv⟩ : ∃ vv, vv = o3.set n bb := ⟨_, rfl⟩
  rw [← hvv] at O HH
  (try rw [← hvv])
  clear hvv
  obtain ⟨⟨hd0, hd1, hd2, hd3⟩, -, -, -⟩ := O.out.rd
  replace H := HH.out
  clear HH
  replace H := Option.bind_eq_some_iff.mp H
  obtain ⟨sz, hsz, H⟩ := H
  have HSZ := Aside0.mk hsz
  have HH := Aside0.mk H
  clear hsz H
  go_wp2_with fail
  refine (ladingref06_Size.calls k o1 Ak ck (o2) (some ⟨gv, 0, none⟩) cv (vv) Ad cd o4 sz _ (Kd.R_reads' O.out.K).2.2 (Kd.R_reads' O.out.K).2.1 (Kd.R_reads' O.out.V).2.2 (Kd.R_reads' O.out.V).2.1 (Kd.R_reads' O.out.D).2.2 (Kd.R_reads' O.out.D).2.1 HSZ.out).mono ?_
  rintro e we ⟨rfl, hb⟩
  have O2 := Aside0.mk (O.out.below hb)
  clear O hb hd0 hd1 hd2 hd3
  have O := O2
  clear O2
  have H := HH.out
  clear HH
  obtain ⟨⟨hd0, hd1, hd2, hd3⟩, hf, ⟨hr0, hr1, hr2, hr3⟩, hs⟩ := O.out.rd
  have hs0 := hs 0
  have hs1 := hs 1
  have hs2 := hs 2
  have hs3 := hs 3
  have hne1 : ¬ gb = gr := O.out.ne
  have hne2 : ¬ gr = gb := Ne.symm O.out.ne
  clear hf hs
  by_cases hbig : sz > 4096
  ·rw [if_pos hbig] at H
   have zb : decide (4096 < sz) = true := decide_eq_true hbig
   clear hbig
   simp only [Option.some.injEq, Prod.mk.injEq] at H
   obtain ⟨rfl, rfl, rfl, rfl, rfl⟩ := H
   go_wp2
   refine bodyPost_ret (results_ct rfl _ _ gr 26 #[.bool false, .slice none 0 0, .slice none 0 0, .slice none 0 0] (0, 0) _ rfl (pageB O.out.BR _ _ _ _) Try.underlying26 rfl (by kernel_rfl)) rfl ⟨_, _, _, rfl, Kd.V_nil _ _ _ _ _, Kd.V_nil _ _ _ _ _, Kd.V_nil _ _ _ _ _, pageW O.out.HB O.out.GR _ _ _ _⟩
  ·rw [if_neg hbig] at H
   have zb : decide (4096 < sz) = false := decide_eq_false hbig
   clear hbig
   simp only [Option.some.injEq, Prod.mk.injEq] at H
   obtain ⟨rfl, rfl, rfl, rfl, rfl⟩ := H
   go_wp2
   obtain ⟨e1, e2, e3, e4⟩ := O.out.end_ (.bool o1) (.slice Ak (o2).length ck) (.slice (some ⟨gv, 0, none⟩) (vv).length cv) (.slice Ad o4.length cd)
   exact bodyPost_ret (results_ct rfl _ _ gr 26 #[.bool o1, .slice Ak (o2).length ck, .slice (some ⟨gv, 0, none⟩) (vv).length cv, .slice Ad o4.length cd] (0, 0) _ rfl (pageB O.out.BR _ _ _ _) Try.underlying26 rfl (by kernel_rfl)) rfl ⟨_, _, _, rfl, e1, e2, e3, e4⟩
 | false =>
  clear O2
  have O := OV2
  clear OV2
  rw [if_neg (by simp)] at H
  replace H := Option.bind_eq_some_iff.mp H
  obtain ⟨kk, hkk, H⟩ := H
  replace H := Option.bind_eq_some_iff.mp H
  obtain ⟨vv, hvv, H⟩ := H
  have HKK := Aside0.mk hkk
  have HVV := Aside0.mk hvv
  have HH := Aside0.mk H
  clear hkk hvv H hf
  go_wp2_with fail
  clear hd0 hd1 hd2 hd3
  refine (ladingref06_with.calls (fun k => w.heap.size ≤ k ∧ k ≠ gb ∧ k ≠ gr) Ak ck o2 pn A1 c1 l1 kk _ O.out.K (Kd.C_below RK.out O.out.HB) LK.out HKK.out).mono ?_
  rintro e w8 ⟨v0, rfl, hN, hb⟩
  have hV := Kd.V_mono (ok' := fun k => w.heap.size ≤ k ∧ k ≠ gb ∧ k ≠ gr) (Kd.N_V (base' := w.heap.size) hN) (fun k hk => hk.elim id fun h => ⟨Nat.le_trans O.out.HB.size h, Nat.ne_of_gt (Nat.lt_of_lt_of_le (blk_lt O.out.BB) h), Nat.ne_of_gt (Nat.lt_of_lt_of_le (blk_lt O.out.BR) h)⟩)
  obtain ⟨A5, c5, rfl⟩ := Kd.V_slice hV
  have O2 := Aside0.mk (O.out.below hb)
  have O3 := Aside0.mk (O2.out.setK hV)
  obtain ⟨⟨hd0, hd1, hd2, hd3⟩, hf, -, -⟩ := O2.out.rd
  have hf1 := hf 1
  clear hf hb hN hV O O2
  go_wp2_with fail
  clear hd0 hd1 hd2 hd3 hf1
  have O := O3
  clear O3
  generalize World.setCell _ _ _ = wx at O ⊢
  refine (ladingref06_with.calls (fun k => w.heap.size ≤ k ∧ k ≠ gb ∧ k ≠ gr) Av cv o3 pn A2 c2 l2 vv _ O.out.V (Kd.C_below RW.out O.out.HB) LW.out HVV.out).mono ?_
  rintro e w9 ⟨v0, rfl, hN, hb⟩
  have hV := Kd.V_mono (ok' := fun k => w.heap.size ≤ k ∧ k ≠ gb ∧ k ≠ gr) (Kd.N_V (base' := w.heap.size) hN) (fun k hk => hk.elim id fun h => ⟨Nat.le_trans O.out.HB.size h, Nat.ne_of_gt (Nat.lt_of_lt_of_le (blk_lt O.out.BB) h), Nat.ne_of_gt (Nat.lt_of_lt_of_le (blk_lt O.out.BR) h)⟩)
  obtain ⟨A6, c6, rfl⟩ := Kd.V_slice hV
  have O2 := Aside0.mk (O.out.below hb)
  have O3 := Aside0.mk (O2.out.setV hV)
  obtain ⟨⟨hd0, hd1, hd2, hd3⟩, hf, -, -⟩ := O2.out.rd
  have hf1 := hf 2
  clear hf hb hN hV O O2
  replace H := HH.out
  clear HH
  replace H := Option.bind_eq_some_iff.mp H
  obtain ⟨sz, hsz, H⟩ := H
  have HSZ := Aside0.mk hsz
  have HH := Aside0.mk H
  clear hsz H
  go_wp2_with fail
  clear hd0 hd1 hd2 hd3 hf1
  have O := O3
  clear O3
  generalize World.setCell _ _ _ = wz at O ⊢
  refine (ladingref06_Size.calls k o1 A5 c5 (kk) A6 c6 (vv) Ad cd o4 sz _ (Kd.V_reads' O.out.K).2.2 (Kd.V_reads' O.out.K).2.1 (Kd.V_reads' O.out.V).2.2 (Kd.V_reads' O.out.V).2.1 (Kd.V_reads' O.out.D).2.2 (Kd.V_reads' O.out.D).2.1 HSZ.out).mono ?_
  rintro e we ⟨rfl, hb⟩
  have O2 := Aside0.mk (O.out.below hb)
  clear O hb
  have O := O2
  clear O2
  have H := HH.out
  clear HH
  obtain ⟨⟨hd0, hd1, hd2, hd3⟩, hf, ⟨hr0, hr1, hr2, hr3⟩, hs⟩ := O.out.rd
  have hs0 := hs 0
  have hs1 := hs 1
  have hs2 := hs 2
  have hs3 := hs 3
  have hne1 : ¬ gb = gr := O.out.ne
  have hne2 : ¬ gr = gb := Ne.symm O.out.ne
  clear hf hs
  by_cases hbig : sz > 4096
  ·rw [if_pos hbig] at H
   have zb : decide (4096 < sz) = true := decide_eq_true hbig
   clear hbig
   simp only [Option.some.injEq, Prod.mk.injEq] at H
   obtain ⟨rfl, rfl, rfl, rfl, rfl⟩ := H
   go_wp2
   refine bodyPost_ret (results_ct rfl _ _ gr 26 #[.bool false, .slice none 0 0, .slice none 0 0, .slice none 0 0] (0, 0) _ rfl (pageB O.out.BR _ _ _ _) Try.underlying26 rfl (by kernel_rfl)) rfl ⟨_, _, _, rfl, Kd.V_nil _ _ _ _ _, Kd.V_nil _ _ _ _ _, Kd.V_nil _ _ _ _ _, pageW O.out.HB O.out.GR _ _ _ _⟩
  ·rw [if_neg hbig] at H
   have zb : decide (4096 < sz) = false := decide_eq_false hbig
   clear hbig
   simp only [Option.some.injEq, Prod.mk.injEq] at H
   obtain ⟨rfl, rfl, rfl, rfl, rfl⟩ := H
   go_wp2
   obtain ⟨e1, e2, e3, e4⟩ := O.out.end_ (.bool o1) (.slice A5 (kk).length c5) (.slice A6 (vv).length c6) (.slice Ad o4.length cd)
   exact bodyPost_ret (results_ct rfl _ _ gr 26 #[.bool o1, .slice A5 (kk).length c5, .slice A6 (vv).length c6, .slice Ad o4.length cd] (0, 0) _ rfl (pageB O.out.BR _ _ _ _) Try.underlying26 rfl (by kernel_rfl)) rfl ⟨_, _, _, rfl, e1, e2, e3, e4⟩
end Go.Proofs.Ytcbgichkeecgiaa.Print
