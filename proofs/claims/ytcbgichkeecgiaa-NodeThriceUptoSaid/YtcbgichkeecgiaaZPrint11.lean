-- What the claim uses alone (wip/slim.py). Lean checks it.
import Derived.Test.YtcbgichkeecgiaaZAb
import Derived.Test.YtcbgichkeecgiaaZPrint0
import Derived.Test.YtcbgichkeecgiaaZPrint2
import Derived.Test.YtcbgichkeecgiaaZPrint6
import Derived.Test.YtcbgichkeecgiaaZPrint7
import Derived.Test.YtcbgichkeecgiaaZPrint9
import Derived.Test.YtcbgichkeecgiaaZPrint10
namespace Go.Proofs.Ytcbgichkeecgiaa.Print
open Go.RowKit Go.Proofs.YtcbgichkeecgiaaW.PrintWords Go.Proofs.YtcbgichkeecgiaaW.PrintLast Go.Proofs.YtcbgichkeecgiaaW.PrintMore
attribute [local go_sem] max2_mx min2_mn max_two min_two max_three min_three max_four min_four
set_option linter.unusedVariables false
set_option linter.unusedSimpArgs false
def node_Put.rows (ks vs : List (List Int)) (key val : List Int) (p : Int × Bool) : Option (List (List Int) × List (List Int)) :=
 if p.2 = true then (if 0 ≤ p.1 ∧ p.1 < (vs.length : Int) then (bytes_Clone.f val).bind fun b => some (ks, vs.set p.1.toNat b) else none)
 else (if 0 ≤ p.1 ∧ p.1 ≤ (ks.length : Int) ∧ p.1 ≤ (vs.length : Int) ∧ (ks.length + 1) * 24 ≤ 140737488355328 ∧ (vs.length + 1) * 24 ≤ 140737488355328 then (bytes_Clone.f key).bind fun a => (bytes_Clone.f val).bind fun b => some (ks.take p.1.toNat ++ [a] ++ ks.drop p.1.toNat, vs.take p.1.toNat ++ [b] ++ vs.drop p.1.toNat) else none)
def node_Put.f (k : Nat) (a0_0 : Bool) (l0_1 l0_2 : List (List Int)) (l0_3 : List Int) (l1 l2 : List Int) : Option (Bool × (List (List Int)) × (List (List Int)) × List Int × Int) :=
 (node_leaf.f k a0_0 l0_1 l0_2 l0_3).bind fun t => if t = 0 then (if 256 < (l1.length : Int) then some (false, [], [], [], 4) else if 512 < (l2.length : Int) then some (false, [], [], [], 4) else ((node_own.f k a0_0 l0_1 l0_2 l0_3).bind fun o => (node_place.f a0_0 l0_1 l0_2 l0_3 l1).bind fun p =>
  (node_Put.rows o.2.1 o.2.2.1 l1 l2 p).bind fun q => (node_size.f k o.1 q.1 q.2 o.2.2.2).bind fun s => if s > 4096 then some (false, [], [], [], 7) else some (o.1, q.1, q.2, o.2.2.2, 0))) else some (false, [], [], [], t)
set_option maxHeartbeats 8000000 in
set_option maxRecDepth 100000 in
theorem node_Put.calls (k : Nat) (a0_0 : Bool) (A0_1 : Option Addr) (c0_1 : Nat) (l0_1 : List (List Int)) (A0_2 : Option Addr) (c0_2 : Nat) (l0_2 : List (List Int)) (A0_3 : Option Addr) (c0_3 : Nat) (l0_3 : List Int) (A1 : Option Addr) (c1 : Nat) (l1 : List Int) (A2 : Option Addr) (c2 : Nat) (l2 : List Int) (r1 : Bool) (r2 : List (List Int)) (r3 : List (List Int)) (r4 : List Int) (r5 : Int) (w : World) (hr0_1 : Kd.C (Kd.slice 5 (Kd.int .u8)) w A0_1 l0_1.length l0_1) (hc0_1 : l0_1.length ≤ c0_1) (hr0_2 : Kd.C (Kd.slice 5 (Kd.int .u8)) w A0_2 l0_2.length l0_2) (hc0_2 : l0_2.length ≤ c0_2) (hr0_3 : Kd.C (Kd.int .i64) w A0_3 l0_3.length l0_3) (hc0_3 : l0_3.length ≤ c0_3) (hr1 : Kd.C (Kd.int .u8) w A1 l1.length l1) (hc1 : l1.length ≤ c1) (hr2 : Kd.C (Kd.int .u8) w A2 l2.length l2) (hc2 : l2.length ≤ c2) (h : node_Put.f k a0_0 l0_1 l0_2 l0_3 l1 l2 = some (r1, r2, r3, r4, r5)) :
  Calls Try.prog 10 #[.agg #[.bool a0_0, .slice A0_1 l0_1.length c0_1, .slice A0_2 l0_2.length c0_2, .slice A0_3 l0_3.length c0_3], .slice A1 l1.length c1, .slice A2 l2.length c2] w fun e w' => ∃ v1_ v2_ v3_ : Value, e = .returned (.tuple #[.agg #[.bool r1, v1_, v2_, v3_], .int .i64 r5]) ∧ Kd.V (Kd.slice 5 (Kd.int .u8)) 27 w' w.heap.size (fun k_ => (w.heap.size ≤ k_)) v1_ r2 ∧ Kd.V (Kd.slice 5 (Kd.int .u8)) 27 w' w.heap.size (fun k_ => (w.heap.size ≤ k_)) v2_ r3 ∧ Kd.V (Kd.int .i64) 3 w' w.heap.size (fun k_ => (w.heap.size ≤ k_)) v3_ r4 ∧ Below w.heap.size w w' := by
 have hu26 := Try.underlying26
 have R1 := Aside0.mk hr0_1
 have L1 := Aside0.mk hc0_1
 have R2 := Aside0.mk hr0_2
 have L2 := Aside0.mk hc0_2
 have R3 := Aside0.mk hr0_3
 have L3 := Aside0.mk hc0_3
 have RK := Aside0.mk hr1
 have LK := Aside0.mk hc1
 have RW := Aside0.mk hr2
 have LW := Aside0.mk hc2
 clear hr0_1 hc0_1 hr0_2 hc0_2 hr0_3 hc0_3 hr1 hc1 hr2 hc2
 unfold node_Put.f at h
 replace h := Option.bind_eq_some_iff.mp h
 obtain ⟨t, ht, h⟩ := h
 have HT := Aside0.mk ht
 have HH := Aside0.mk h
 clear ht h
 go_enter Try.func10, Try.ntmps10
 go_wp2_with (first | ((with_reducible refine gate_dst (N := 3) rfl ?_); refine box_event ?hg (N := 3) ?hd (cs := #[.bool a0_0, .slice A0_1 l0_1.length c0_1, .slice A0_2 l0_2.length c0_2, .slice A0_3 l0_3.length c0_3]) (t := 26) ?hr ?_; (case hd => rfl); (case hg => rfl); (case hr => first | (go_simp; done) | (go_simp; rfl)); intro gp hgp w1 hbox hb; have BP := Aside0.mk hbox; have HB := Aside0.mk hb; clear hbox hb hgp) | ((with_reducible refine gate_dst (N := 6) rfl ?_); refine box_event ?hg (N := 6) ?hd (cs := #[.bool false, .slice none 0 0, .slice none 0 0, .slice none 0 0]) (t := 26) ?hr ?_; (case hd => rfl); (case hg => rfl); (case hr => first | (go_simp; done) | (go_simp; rfl)); intro gr hgr w2 hbox hb; have GR : Aside0 (w.heap.size ≤ gr) := ⟨by rw [hgr]; exact HB.out.size⟩; have BR := Aside0.mk hbox; have BP2 := Aside0.mk (blk_below BP.out hb); have HB2 := Aside0.mk (below_step HB.out hb); have hc0 := (blk_cell BP2.out 0).trans rfl; have hc1 := (blk_cell BP2.out 1).trans rfl; have hc2 := (blk_cell BP2.out 2).trans rfl; have hc3 := (blk_cell BP2.out 3).trans rfl; clear hbox hb hgr BP HB))
 refine (node_leaf.calls k a0_0 A0_1 c0_1 l0_1 A0_2 c0_2 l0_2 A0_3 c0_3 l0_3 t _ (Kd.C_below R1.out HB2.out) L1.out (Kd.C_below R2.out HB2.out) L2.out (Kd.C_below R3.out HB2.out) L3.out HT.out).mono ?_
 rintro e w3 ⟨rfl, hb3⟩
 have BP3 := Aside0.mk (blk_below BP2.out hb3)
 have BR3 := Aside0.mk (blk_below BR.out hb3)
 have HB3 := Aside0.mk (below_step HB2.out hb3)
 clear hc0 hc1 hc2 hc3 hb3 BP2 BR HB2
 have H := HH.out
 clear HH
 by_cases hz : t = 0
 case neg =>
  rw [if_neg hz] at H
  have z1 : (t == 0) = false := beq_eq_false_iff_ne.mpr hz
  have z2 : (t != 0) = true := bne_iff_ne.mpr hz
  clear hz HT
  simp only [Option.some.injEq, Prod.mk.injEq] at H
  obtain ⟨rfl, rfl, rfl, rfl, rfl⟩ := H
  have hc0 := (blk_cell BR3.out 0).trans rfl
  have hc1 := (blk_cell BR3.out 1).trans rfl
  have hc2 := (blk_cell BR3.out 2).trans rfl
  have hc3 := (blk_cell BR3.out 3).trans rfl
  have hf0 := blk_frozen BR3.out 0
  have hf1 := blk_frozen BR3.out 1
  have hf2 := blk_frozen BR3.out 2
  have hf3 := blk_frozen BR3.out 3
  go_wp2
  refine bodyPost_ret (results_ct rfl _ _ gr 26 #[.bool false, .slice none 0 0, .slice none 0 0, .slice none 0 0] (0, 0) _ rfl (pageB BR3.out _ _ _ _) Try.underlying26 rfl (by kernel_rfl)) rfl ⟨_, _, _, rfl, Kd.V_nil _ _ _ _ _, Kd.V_nil _ _ _ _ _, Kd.V_nil _ _ _ _ _, pageW HB3.out GR.out _ _ _ _⟩
 case pos =>
 rw [if_pos hz] at H
 have z1 : (t == 0) = true := beq_iff_eq.mpr hz
 have z2 : (t != 0) = false := bne_eq_false_iff_eq.mpr hz
 clear hz HT
 by_cases hk : 256 < (l1.length : Int)
 case pos =>
  rw [if_pos hk] at H
  have y1 : decide (256 < (l1.length : Int)) = true := decide_eq_true hk
  have y1n : decide (256 < l1.length) = true := decide_eq_true (by omega)
  clear hk
  simp only [Option.some.injEq, Prod.mk.injEq] at H
  obtain ⟨rfl, rfl, rfl, rfl, rfl⟩ := H
  have hc0 := (blk_cell BR3.out 0).trans rfl
  have hc1 := (blk_cell BR3.out 1).trans rfl
  have hc2 := (blk_cell BR3.out 2).trans rfl
  have hc3 := (blk_cell BR3.out 3).trans rfl
  have hf0 := blk_frozen BR3.out 0
  have hf1 := blk_frozen BR3.out 1
  have hf2 := blk_frozen BR3.out 2
  have hf3 := blk_frozen BR3.out 3
  go_wp2
  refine bodyPost_ret (results_ct rfl _ _ gr 26 #[.bool false, .slice none 0 0, .slice none 0 0, .slice none 0 0] (0, 0) _ rfl (pageB BR3.out _ _ _ _) Try.underlying26 rfl (by kernel_rfl)) rfl ⟨_, _, _, rfl, Kd.V_nil _ _ _ _ _, Kd.V_nil _ _ _ _ _, Kd.V_nil _ _ _ _ _, pageW HB3.out GR.out _ _ _ _⟩
 case neg =>
 rw [if_neg hk] at H
 have y1 : decide (256 < (l1.length : Int)) = false := decide_eq_false hk
 have y1n : decide (256 < l1.length) = false := decide_eq_false (by omega)
 clear hk
 by_cases hv : 512 < (l2.length : Int)
 case pos =>
  rw [if_pos hv] at H
  have y2 : decide (512 < (l2.length : Int)) = true := decide_eq_true hv
  have y2n : decide (512 < l2.length) = true := decide_eq_true (by omega)
  clear hv
  simp only [Option.some.injEq, Prod.mk.injEq] at H
  obtain ⟨rfl, rfl, rfl, rfl, rfl⟩ := H
  have hc0 := (blk_cell BR3.out 0).trans rfl
  have hc1 := (blk_cell BR3.out 1).trans rfl
  have hc2 := (blk_cell BR3.out 2).trans rfl
  have hc3 := (blk_cell BR3.out 3).trans rfl
  have hf0 := blk_frozen BR3.out 0
  have hf1 := blk_frozen BR3.out 1
  have hf2 := blk_frozen BR3.out 2
  have hf3 := blk_frozen BR3.out 3
  go_wp2
  refine bodyPost_ret (results_ct rfl _ _ gr 26 #[.bool false, .slice none 0 0, .slice none 0 0, .slice none 0 0] (0, 0) _ rfl (pageB BR3.out _ _ _ _) Try.underlying26 rfl (by kernel_rfl)) rfl ⟨_, _, _, rfl, Kd.V_nil _ _ _ _ _, Kd.V_nil _ _ _ _ _, Kd.V_nil _ _ _ _ _, pageW HB3.out GR.out _ _ _ _⟩
 case neg =>
 rw [if_neg hv] at H
 have y2 : decide (512 < (l2.length : Int)) = false := decide_eq_false hv
 have y2n : decide (512 < l2.length) = false := decide_eq_false (by omega)
 clear hv
 replace H := Option.bind_eq_some_iff.mp H
 obtain ⟨o, ho, H⟩ := H
 replace H := Option.bind_eq_some_iff.mp H
 obtain ⟨p, hp, H⟩ := H
 obtain ⟨o1, o2, o3, o4⟩ := o
 obtain ⟨pn, pb⟩ := p
 replace H := Option.bind_eq_some_iff.mp H
 obtain ⟨⟨q1, q2⟩, hq, H⟩ := H
 have HO := Aside0.mk ho
 have HPL := Aside0.mk hp
 have HQ := Aside0.mk hq
 have HH := Aside0.mk H
 clear ho hp hq H
 have hc0 := (blk_cell BP3.out 0).trans rfl
 have hc1 := (blk_cell BP3.out 1).trans rfl
 have hc2 := (blk_cell BP3.out 2).trans rfl
 have hc3 := (blk_cell BP3.out 3).trans rfl
 go_wp2_with fail
 refine (node_own.calls k a0_0 A0_1 c0_1 l0_1 A0_2 c0_2 l0_2 A0_3 c0_3 l0_3 o1 o2 o3 o4 _ (Kd.C_below R1.out HB3.out) L1.out (Kd.C_below R2.out HB3.out) L2.out (Kd.C_below R3.out HB3.out) L3.out HO.out).mono ?_
 rintro e w4 ⟨v1, v2, v3, rfl, hS1, hS2, hR3, hb4⟩
 obtain ⟨Ak, ck, rfl⟩ := Kd.R_slice (Kd.S_R hS1)
 obtain ⟨Av, cv, rfl⟩ := Kd.R_slice (Kd.S_R hS2)
 obtain ⟨Ad, cd, rfl⟩ := Kd.R_slice hR3
 have S1 := Aside0.mk (Kd.R_lower (Kd.S_R hS1) HB3.out.size)
 have S2 := Aside0.mk (Kd.R_lower (Kd.S_R hS2) HB3.out.size)
 have S3 := Aside0.mk (Kd.R_lower hR3 HB3.out.size)
 have BP4 := Aside0.mk (blk_below BP3.out hb4)
 have BR4 := Aside0.mk (blk_below BR3.out hb4)
 have HB4 := Aside0.mk (below_step HB3.out hb4)
 clear hc0 hc1 hc2 hc3 hb4 BP3 BR3 HB3 hS1 hS2 hR3
 go_wp2_with (first | ((with_reducible refine gate_dst (N := 9) rfl ?_); refine box_event ?hg (N := 9) ?hd (cs := #[.bool false, .slice none 0 0, .slice none 0 0, .slice none 0 0]) (t := 26) ?hr ?_; (case hd => rfl); (case hg => rfl); (case hr => first | (go_simp; done) | (go_simp; rfl)); intro gb hgb w5 hbox hb; have GB : Aside0 (w.heap.size ≤ gb ∧ gb ≠ gr ∧ gb ≠ gp) := ⟨by rw [hgb]; exact HB4.out.size, by rw [hgb]; exact Nat.ne_of_gt (blk_lt BR4.out), by rw [hgb]; exact Nat.ne_of_gt (blk_lt BP4.out)⟩; have BB := Aside0.mk hbox; have BP5 := Aside0.mk (blk_below BP4.out hb); have BR5 := Aside0.mk (blk_below BR4.out hb); have HB5 := Aside0.mk (below_step HB4.out hb); have T1 := Aside0.mk (Kd.R_below S1.out hb); have T2 := Aside0.mk (Kd.R_below S2.out hb); have T3 := Aside0.mk (Kd.R_below S3.out hb); have hd0 := (blk_cell BB.out 0).trans rfl; have hd1 := (blk_cell BB.out 1).trans rfl; have hd2 := (blk_cell BB.out 2).trans rfl; have hd3 := (blk_cell BB.out 3).trans rfl; have hf0 := blk_frozen BB.out 0; have hf1 := blk_frozen BB.out 1; have hf2 := blk_frozen BB.out 2; have hf3 := blk_frozen BB.out 3; have hq0 := (blk_cell BP5.out 0).trans rfl; have hq1 := (blk_cell BP5.out 1).trans rfl; have hq2 := (blk_cell BP5.out 2).trans rfl; have hq3 := (blk_cell BP5.out 3).trans rfl; have hne1 : ¬ gb = gp := GB.out.2.2; have hne2 : ¬ gp = gb := Ne.symm GB.out.2.2; clear hbox hb hgb BP4 BR4 HB4 S1 S2 S3))
 have O : Aside0 (OutP w (((((w5.setCell ⟨gb, 0, none⟩ (.bool o1)).setCell ⟨gb, 1, none⟩ (.slice Ak o2.length ck)).setCell ⟨gb, 2, none⟩ (.slice Av o3.length cv)).setCell ⟨gb, 3, none⟩ (.slice Ad o4.length cd))) gb gr o1 Ak ck o2 Av cv o3 Ad cd o4) :=
  ⟨pageB BB.out _ _ _ _, pageF BR5.out (Ne.symm GB.out.2.1) _ _ _ _, pageW HB5.out GB.out.1 _ _ _ _, pageR T1.out BB.out (by decide) _ _ _ _, pageR T2.out BB.out (by decide) _ _ _ _, pageR T3.out BB.out (by decide) _ _ _ _, GB.out.1, GR.out, GB.out.2.1⟩
 clear T1 T2 T3 BB BR5 HB5 BP5 hd0 hd1 hd2 hd3 hf0 hf1 hf2 hf3 hq0 hq1 hq2 hq3 hne1 hne2 GB GR
 refine (node_place.calls a0_0 A0_1 c0_1 l0_1 A0_2 c0_2 l0_2 A0_3 c0_3 l0_3 A1 c1 l1 pn pb _ (Kd.C_below R1.out O.out.HB) L1.out (Kd.C_below R2.out O.out.HB) L2.out (Kd.C_below R3.out O.out.HB) L3.out (Kd.C_below RK.out O.out.HB) LK.out HPL.out).mono ?_
 rintro e w7 ⟨rfl, hb7⟩
 have O2 := Aside0.mk (O.out.below hb7)
 clear hb7 O HPL HO
 have O := O2
 clear O2
 have H := HQ.out
 clear HQ
 unfold node_Put.rows at H
 cases pb with
 | true =>
  rw [if_pos rfl] at H
  by_cases hc : 0 ≤ pn ∧ pn < (o3.length : Int)
  case neg => rw [if_neg hc] at H; cases H
  case pos =>
  rw [if_pos hc] at H
  obtain ⟨n, rfl⟩ := Int.eq_ofNat_of_zero_le hc.1
  replace H := Option.bind_eq_some_iff.mp H
  obtain ⟨bb, hbb, H⟩ := H
  have HCB := Aside0.mk hbb
  simp only [Option.some.injEq, Prod.mk.injEq, Int.toNat_natCast] at H
  obtain ⟨rfl, rfl⟩ := H
  have HN : Aside0 (n < o3.length) := ⟨by omega⟩
  clear hc hbb
  obtain ⟨gv, cv', ev⟩ : ∃ gv cv', Value.slice Av o3.length cv = .slice (some ⟨gv, 0, none⟩) o3.length cv' := by
   obtain ⟨g, cap, he, _⟩ := Kd.R_form O.out.V (by have := HN.out; omega)
   exact ⟨g, cap, he⟩
  injection ev with ev1 _ ev2
  subst ev1
  subst ev2
  have pm : ((n : Int) < (o3.length : Int)) = True := eq_true (by have := HN.out; omega)
  have pmn : (n < o3.length) = True := eq_true HN.out
  go_wp2_with fail
  have O2 := Aside0.mk O.out.drew
  clear O
  have O := O2
  clear O2
  refine start_ (n := 7) (S := fun w' => w'.cell? ⟨gb, 0, none⟩ = some (.bool o1) ∧ w'.cell? ⟨gb, 1, none⟩ = some (.slice Ak o2.length ck) ∧ w'.cell? ⟨gb, 2, none⟩ = some (.slice (some ⟨gv, 0, none⟩) o3.length cv) ∧ w'.cell? ⟨gb, 3, none⟩ = some (.slice Ad o4.length cd)) (ds := [6]) #[false, false, false, false, false, false, false] (by kernel_rfl) rfl rfl O.out.rd.1 (fun hHeld => ?_)
  generalize World.drew _ = wa at O hHeld ⊢
  refine pure_ (i := 0) (N := some 36) (v := ?_) (a' := ?_) #[true, false, false, false, false, false, false] rfl rfl (by kernel_rfl) (fun _ _ _ h => h) (Or.inl ⟨by rfl, ?_⟩) ?_ ?_
  rotate_left
  ·intro w'
   go_simp
   with_reducible rfl
  rotate_left
  ·simp only [Act.put, zt0, zt1, zt2, i64_w, i32_w]
   rfl
  refine pure_ (i := 2) (N := some 38) (v := ?_) (a' := ?_) #[true, false, true, false, false, false, false] rfl rfl (by kernel_rfl) (fun _ _ _ h => h) (Or.inl ⟨by rfl, ?_⟩) ?_ ?_
  rotate_left
  ·intro w'
   go_simp
   with_reducible rfl
  rotate_left
  ·simp only [Act.put, zt0, zt1, zt2, i64_w, i32_w]
   rfl
  refine pure_ (i := 3) (N := some 39) (v := ?_) (a' := ?_) #[true, false, true, true, false, false, false] rfl rfl (by kernel_rfl) (fun _ _ _ h => h) (Or.inl ⟨by rfl, ?_⟩) ?_ ?_
  rotate_left
  ·intro w'
   go_simp
   with_reducible rfl
  rotate_left
  ·simp only [Act.put, zt0, zt1, zt2, i64_w, i32_w]
   rfl
  refine take_ (i := 1) (N := some 37) (v := ?_) (a' := ?_) #[true, true, true, true, false, false, false] rfl rfl (by kernel_rfl) (fun _ _ _ h => h) (Or.inl ⟨by rfl, ?_⟩) hHeld ?_ ?_
  rotate_left
  ·rintro w' ⟨s0, s1, s2, s3⟩
   go_simp
   with_reducible rfl
  rotate_left
  ·simp only [Act.put, zt0, zt1, zt2, i64_w, i32_w]
   rfl
  refine one_ (i := 4) (N := some 40) #[true, true, true, true, true, false, false] rfl rfl (by kernel_rfl) (by decide) (fun K hK => ?_)
  refine goes_ Try.func27 (by kernel_rfl) rfl #[.slice A2 l2.length c2] (by rfl) rfl rfl zl_ ?_
  refine (bytes_Clone.calls _ _ l2 bb _ (Kd.C_below RW.out O.out.HB) LW.out HCB.out).mono ?_
  rintro e wb ⟨vb, rfl, hRb, hb⟩
  obtain ⟨Ab, cb, rfl⟩ := Kd.R_slice hRb
  refine ⟨_, rfl, ?_⟩
  have RB := Aside0.mk hRb
  have OL := O
  have O2 := Aside0.mk (O.out.below hb)
  clear O
  have O := O2
  clear O2 hRb hb
  obtain ⟨ce, hcl, hMe, hcc, hfr⟩ := Kd.R_elem O.out.V [] (n : Int) (Int.natCast_nonneg _) (by have := HN.out; omega)
  obtain ⟨ve, rfl, hRe⟩ := hMe
  have hP := Kd.R_seg O.out.V (n : Int) (Int.natCast_nonneg _) (by have := HN.out; omega) (seg := [.slice Ab bb.length cb]) (j := 0) hcl hcc (show 1 ≤ 1 from Nat.le_refl _) (x' := bb) (okp := fun k => wa.heap.size ≤ k) ⟨_, rfl, Kd.R_mono (Kd.R_lower (Kd.R_bound RB.out) OL.out.HB.size) (fun k hk => hk.2.1)⟩ (fun k hk => ⟨fun he => Nat.lt_irrefl _ (Nat.lt_of_lt_of_le (Kd.R_lt OL.out.K k he.symm) hk), fun he => Nat.lt_irrefl _ (Nat.lt_of_lt_of_le (Kd.R_lt OL.out.V k (by rw [he]; rfl)) hk)⟩)
  have hx := hcc 0 _ rfl
  have hf := hfr 0
  (try simp only [show (Kd.slice 5 (Kd.int .u8)).sz = 1 from rfl, Nat.mul_one, Nat.add_zero, Int.toNat_natCast] at hx hf hP)
  have O3 := Aside0.mk (O.out.putV hP.1 (List.length_set ..) hP.2)
  clear hcl hcc hfr hRe hP OL RB
  refine hK.out _ _ O.out.rd.1 (fun hHeld => ?_)
  clear hK K
  refine norm_ (a' := ?_) ?_ ?_
  rotate_left
  ·show Act.put _ (some 40) _ = _
   simp only [Act.put, zt0, zt1, zt2, i64_w, i32_w]
   rfl
  refine pure_ (i := 5) (N := some 41) (v := ?_) (a' := ?_) #[true, true, true, true, true, true, false] rfl rfl (by kernel_rfl) (fun _ _ _ h => h) (Or.inl ⟨by rfl, ?_⟩) ?_ ?_
  rotate_left
  ·intro w'
   go_simp
   with_reducible rfl
  rotate_left
  ·simp only [Act.put, zt0, zt1, zt2, i64_w, i32_w]
   rfl
  refine last_ (i := 6) (N := none) #[true, true, true, true, true, true, true] rfl rfl (by kernel_rfl) (by decide) (fun K hK => ?_)
  refine skip_ (w1 := ?_) (by rfl) rfl ?_ ?_
  rotate_left
  ·go_simp
   rfl
  refine hK.out _ _ ?_
  clear hK K
  refine done_ (by kernel_rfl) ?_
  clear hx hf hHeld O
  have O := O3
  clear O3
  simp only [World.setCells] at O
  generalize World.setCell _ _ _ = wz at O ⊢
  obtain ⟨vv, hvv⟩ : ∃ vv, vv = o3.set n bb := ⟨_, rfl⟩
  rw [← hvv] at O HH
  (try rw [← hvv])
  clear hvv
  obtain ⟨⟨hd0, hd1, hd2, hd3⟩, -, -, -⟩ := O.out.rd
  replace H := HH.out
  clear HH
  replace H := Option.bind_eq_some_iff.mp H
  obtain ⟨sz, hsz, H⟩ := H
  have HSZ := Aside0.mk hsz
  have HH := Aside0.mk H
  clear hsz H
  go_wp2_with fail
  refine (node_size.calls k o1 Ak ck (o2) (some ⟨gv, 0, none⟩) cv (vv) Ad cd o4 sz _ (Kd.R_reads' O.out.K).2.2 (Kd.R_reads' O.out.K).2.1 (Kd.R_reads' O.out.V).2.2 (Kd.R_reads' O.out.V).2.1 (Kd.R_reads' O.out.D).2.2 (Kd.R_reads' O.out.D).2.1 HSZ.out).mono ?_
  rintro e we ⟨rfl, hb⟩
  have O2 := Aside0.mk (O.out.below hb)
  clear O hb hd0 hd1 hd2 hd3
  have O := O2
  clear O2
  have H := HH.out
  clear HH
  obtain ⟨⟨hd0, hd1, hd2, hd3⟩, hf, ⟨hr0, hr1, hr2, hr3⟩, hs⟩ := O.out.rd
  have hs0 := hs 0
  have hs1 := hs 1
  have hs2 := hs 2
  have hs3 := hs 3
  have hne1 : ¬ gb = gr := O.out.ne
  have hne2 : ¬ gr = gb := Ne.symm O.out.ne
  clear hf hs
  by_cases hbig : sz > 4096
  ·rw [if_pos hbig] at H
   have zb : decide (4096 < sz) = true := decide_eq_true hbig
   clear hbig
   simp only [Option.some.injEq, Prod.mk.injEq] at H
   obtain ⟨rfl, rfl, rfl, rfl, rfl⟩ := H
   go_wp2
   refine bodyPost_ret (results_ct rfl _ _ gr 26 #[.bool false, .slice none 0 0, .slice none 0 0, .slice none 0 0] (0, 0) _ rfl (pageB O.out.BR _ _ _ _) Try.underlying26 rfl (by kernel_rfl)) rfl ⟨_, _, _, rfl, Kd.V_nil _ _ _ _ _, Kd.V_nil _ _ _ _ _, Kd.V_nil _ _ _ _ _, pageW O.out.HB O.out.GR _ _ _ _⟩
  ·rw [if_neg hbig] at H
   have zb : decide (4096 < sz) = false := decide_eq_false hbig
   clear hbig
   simp only [Option.some.injEq, Prod.mk.injEq] at H
   obtain ⟨rfl, rfl, rfl, rfl, rfl⟩ := H
   go_wp2
   obtain ⟨e1, e2, e3, e4⟩ := O.out.end_ (.bool o1) (.slice Ak (o2).length ck) (.slice (some ⟨gv, 0, none⟩) (vv).length cv) (.slice Ad o4.length cd)
   exact bodyPost_ret (results_ct rfl _ _ gr 26 #[.bool o1, .slice Ak (o2).length ck, .slice (some ⟨gv, 0, none⟩) (vv).length cv, .slice Ad o4.length cd] (0, 0) _ rfl (pageB O.out.BR _ _ _ _) Try.underlying26 rfl (by kernel_rfl)) rfl ⟨_, _, _, rfl, e1, e2, e3, e4⟩
 | false =>
  rw [if_neg (by simp)] at H
  by_cases hc : 0 ≤ pn ∧ pn ≤ (o2.length : Int) ∧ pn ≤ (o3.length : Int) ∧ (o2.length + 1) * 24 ≤ 140737488355328 ∧ (o3.length + 1) * 24 ≤ 140737488355328
  case neg => rw [if_neg hc] at H; cases H
  case pos =>
  rw [if_pos hc] at H
  obtain ⟨n, rfl⟩ := Int.eq_ofNat_of_zero_le hc.1
  replace H := Option.bind_eq_some_iff.mp H
  obtain ⟨aa, haa, H⟩ := H
  replace H := Option.bind_eq_some_iff.mp H
  obtain ⟨bb, hbb, H⟩ := H
  have HCA := Aside0.mk haa
  have HCB := Aside0.mk hbb
  simp only [Option.some.injEq, Prod.mk.injEq, Int.toNat_natCast] at H
  obtain ⟨rfl, rfl⟩ := H
  have HN : Aside0 (n ≤ o2.length ∧ n ≤ o3.length ∧ (o2.length + 1) * 24 ≤ 140737488355328 ∧ (o3.length + 1) * 24 ≤ 140737488355328) := ⟨by omega, by omega, hc.2.2.2.1, hc.2.2.2.2⟩
  clear hc haa hbb
  go_wp2_with fail
  have O2 := Aside0.mk O.out.drew
  clear O
  have O := O2
  clear O2
  refine start_ (n := 9) (S := fun w' => w'.cell? ⟨gb, 0, none⟩ = some (.bool o1) ∧ w'.cell? ⟨gb, 1, none⟩ = some (.slice Ak o2.length ck) ∧ w'.cell? ⟨gb, 2, none⟩ = some (.slice Av o3.length cv) ∧ w'.cell? ⟨gb, 3, none⟩ = some (.slice Ad o4.length cd)) (ds := [8]) (zB 0 9) (by kernel_rfl) rfl rfl O.out.rd.1 (fun hHeld => ?_)
  generalize World.drew _ = wa at O hHeld ⊢
  refine pure_ (i := 0) (N := some 42) (v := ?_) (a' := ?_) (zB 1 8) rfl rfl (by kernel_rfl) (fun _ _ _ h => h) (Or.inl ⟨by rfl, ?_⟩) ?_ ?_
  rotate_left
  ·intro w'
   go_simp
   with_reducible rfl
  rotate_left
  ·simp only [Act.put, zt0, zt1, zt2, i64_w, i32_w]
   rfl
  refine pure_ (i := 2) (N := some 44) (v := ?_) (a' := ?_) #[true, false, true, false, false, false, false, false, false] rfl rfl (by kernel_rfl) (fun _ _ _ h => h) (Or.inl ⟨by rfl, ?_⟩) ?_ ?_
  rotate_left
  ·intro w'
   go_simp
   with_reducible rfl
  rotate_left
  ·simp only [Act.put, zt0, zt1, zt2, i64_w, i32_w]
   rfl
  refine pure_ (i := 3) (N := some 45) (v := ?_) (a' := ?_) #[true, false, true, true, false, false, false, false, false] rfl rfl (by kernel_rfl) (fun _ _ _ h => h) (Or.inl ⟨by rfl, ?_⟩) ?_ ?_
  rotate_left
  ·intro w'
   go_simp
   with_reducible rfl
  rotate_left
  ·simp only [Act.put, zt0, zt1, zt2, i64_w, i32_w]
   rfl
  refine take_ (i := 1) (N := some 43) (v := ?_) (a' := ?_) (zB 4 5) rfl rfl (by kernel_rfl) (fun _ _ _ h => h) (Or.inl ⟨by rfl, ?_⟩) hHeld ?_ ?_
  rotate_left
  ·rintro w' ⟨s0, s1, s2, s3⟩
   go_simp
   with_reducible rfl
  rotate_left
  ·simp only [Act.put, zt0, zt1, zt2, i64_w, i32_w]
   rfl
  refine one_ (i := 4) (N := some 46) (zB 5 4) rfl rfl (by kernel_rfl) (by decide) (fun K hK => ?_)
  refine goes_ Try.func27 (by kernel_rfl) rfl #[.slice A1 l1.length c1] (by rfl) rfl rfl zl_ ?_
  refine (bytes_Clone.calls _ _ l1 aa _ (Kd.C_below RK.out O.out.HB) LK.out HCA.out).mono ?_
  rintro e wb ⟨vb, rfl, hRb, hb⟩
  obtain ⟨Ab, cb, rfl⟩ := Kd.R_slice hRb
  refine ⟨_, rfl, ?_⟩
  have RB := Aside0.mk hRb
  have OL := O
  have O2 := Aside0.mk (O.out.below hb)
  clear O
  have O := O2
  clear O2 hRb hb
  refine hK.out _ _ O.out.rd.1 (fun hHeld => ?_)
  clear hK K
  refine norm_ (a' := ?_) ?_ ?_
  rotate_left
  ·show Act.put _ (some 46) _ = _
   simp only [Act.put, zt0, zt1, zt2, i64_w, i32_w]
   rfl
  refine one_ (i := 5) (N := some 47) (zB 6 3) rfl rfl (by kernel_rfl) (by decide) (fun K hK => ?_)
  refine value_ (w1 := ?_) (v := ?_) (by rfl) rfl ?_ ?_
  rotate_left 2
  ·go_simp
   constructor
   ·rfl
   ·rfl
  have hb := below_alloc (Below.refl _ wb) (.cells #[.slice Ab aa.length cb] 27)
  have BV := Aside0.mk (MapKept.heap_alloc wb (.cells #[.slice Ab aa.length cb] 27 (0, 0))).1
  have O2 := Aside0.mk (O.out.below hb)
  have RB2 := Aside0.mk (Kd.R_below RB.out hb)
  have GV : Aside0 (∀ g, (Value.slice Ak o2.length ck).ownBlock = some g → wb.heap.size ≠ g) := ⟨fun g hg => Nat.ne_of_gt (Kd.R_lt O.out.K g hg)⟩
  clear O RB hb
  have O := O2
  have RB := RB2
  clear O2 RB2
  refine hK.out _ _ O.out.rd.1 (fun hHeld => ?_)
  clear hK K
  refine norm_ (a' := ?_) ?_ ?_
  rotate_left
  ·show Act.put _ (some 47) _ = _
   simp only [Act.put, zt0, zt1, zt2, i64_w, i32_w]
   rfl
  generalize hgv : wb.heap.size = gv at BV GV ⊢
  clear hgv
  generalize wb.alloc _ = wc at O RB BV hHeld ⊢
  refine one_ (i := 6) (N := some 48) (zB 7 2) rfl rfl (by kernel_rfl) (by decide) (fun K hK => ?_)
  refine goes_ Try.func28 (by kernel_rfl) rfl #[.slice Ak o2.length ck, .int .i64 (n : Int), .slice (some ⟨gv, 0, none⟩) 1 1] (by rfl) rfl rfl zl_ ?_
  refine (slices_Insert_byte_byte.ins (fun k => some k ≠ (Value.slice Av o3.length cv).ownBlock) (fun k => wa.heap.size ≤ k) (.slice Ak o2.length ck) o2 n HN.out.1 ⟨gv, 0, none⟩ 1 aa [.slice Ab aa.length cb] w.heap.size _ O.out.HB.size O.out.K rfl (fun j u hj => ?hys) ⟨_, rfl, ?hM⟩ (fun k hk => ⟨?ha, ?hb⟩) GV.out HN.out.2.2.1).mono ?_
  case hys =>
   match j, hj with
   | 0, hj =>
    rw [show (⟨gv, 0, none⟩ : Addr).add 0 = ⟨gv, 0, none⟩ by unfold Addr.add; rfl, cell_of_row _ _ _ _ _ _ BV.out]
    exact hj
  case hM => exact Kd.R_mono (Kd.R_lower (Kd.R_bound RB.out) OL.out.HB.size) (fun k hk => hk.2.1)
  case ha => exact fun he => Nat.lt_irrefl _ (Nat.lt_of_lt_of_le (Kd.R_lt OL.out.V k he.symm) hk)
  case hb => exact fun he => Nat.lt_irrefl _ (Nat.lt_of_lt_of_le (Kd.R_lt OL.out.K k he.symm) hk)
  rintro e wd ⟨vi, rfl, hI, hg, hat⟩
  obtain ⟨kk, hnl⟩ : ∃ nl, nl = o2.take n ++ [aa] ++ o2.drop n := ⟨_, rfl⟩
  rw [← hnl] at hI HH
  clear hnl
  obtain ⟨Ai1, ci1, rfl⟩ := Kd.R_slice hI
  refine ⟨_, rfl, ?_⟩
  have O3 := Aside0.mk (O.out.setK hI hg hat)
  obtain ⟨b1, b2⟩ := O.out.grK hg
  have q0 := (blk_cell b1 0).trans rfl
  have q1 := (blk_cell b1 1).trans rfl
  have q2 := (blk_cell b1 2).trans rfl
  have q3 := (blk_cell b1 3).trans rfl
  have qf := blk_frozen b1 1
  clear hI hg hat b1 b2 O RB BV GV OL
  refine hK.out _ _ ⟨q0, q1, q2, q3⟩ (fun hHeld => ?_)
  clear hK K
  refine norm_ (a' := ?_) ?_ ?_
  rotate_left
  ·show Act.put _ (some 48) _ = _
   simp only [Act.put, zt0, zt1, zt2, i64_w, i32_w]
   rfl
  refine pure_ (i := 7) (N := some 49) (v := ?_) (a' := ?_) (zB 8 1) rfl rfl (by kernel_rfl) (fun _ _ _ h => h) (Or.inl ⟨by rfl, ?_⟩) ?_ ?_
  rotate_left
  ·intro w'
   go_simp
   with_reducible rfl
  rotate_left
  ·simp only [Act.put, zt0, zt1, zt2, i64_w, i32_w]
   rfl
  refine last_ (i := 8) (N := none) (zB 9 0) rfl rfl (by kernel_rfl) (by decide) (fun K hK => ?_)
  refine skip_ (w1 := ?_) (by rfl) rfl ?_ ?_
  rotate_left
  ·go_simp
   rfl
  refine hK.out _ _ ?_
  clear hK K
  refine done_ (by kernel_rfl) ?_
  clear q0 q1 q2 q3 qf hHeld
  have O := O3
  clear O3
  generalize World.setCell _ _ _ = wy at O ⊢
  go_wp2_with fail
  have O2 := Aside0.mk O.out.drew
  clear O
  have O := O2
  clear O2
  refine start_ (n := 9) (S := fun w' => w'.cell? ⟨gb, 0, none⟩ = some (.bool o1) ∧ w'.cell? ⟨gb, 1, none⟩ = some (.slice Ai1 kk.length ci1) ∧ w'.cell? ⟨gb, 2, none⟩ = some (.slice Av o3.length cv) ∧ w'.cell? ⟨gb, 3, none⟩ = some (.slice Ad o4.length cd)) (ds := [8]) (zB 0 9) (by kernel_rfl) rfl rfl O.out.rd.1 (fun hHeld => ?_)
  generalize World.drew _ = wa at O hHeld ⊢
  refine pure_ (i := 0) (N := some 50) (v := ?_) (a' := ?_) (zB 1 8) rfl rfl (by kernel_rfl) (fun _ _ _ h => h) (Or.inl ⟨by rfl, ?_⟩) ?_ ?_
  rotate_left
  ·intro w'
   go_simp
   with_reducible rfl
  rotate_left
  ·simp only [Act.put, zt0, zt1, zt2, i64_w, i32_w]
   rfl
  refine pure_ (i := 2) (N := some 52) (v := ?_) (a' := ?_) #[true, false, true, false, false, false, false, false, false] rfl rfl (by kernel_rfl) (fun _ _ _ h => h) (Or.inl ⟨by rfl, ?_⟩) ?_ ?_
  rotate_left
  ·intro w'
   go_simp
   with_reducible rfl
  rotate_left
  ·simp only [Act.put, zt0, zt1, zt2, i64_w, i32_w]
   rfl
  refine pure_ (i := 3) (N := some 53) (v := ?_) (a' := ?_) #[true, false, true, true, false, false, false, false, false] rfl rfl (by kernel_rfl) (fun _ _ _ h => h) (Or.inl ⟨by rfl, ?_⟩) ?_ ?_
  rotate_left
  ·intro w'
   go_simp
   with_reducible rfl
  rotate_left
  ·simp only [Act.put, zt0, zt1, zt2, i64_w, i32_w]
   rfl
  refine take_ (i := 1) (N := some 51) (v := ?_) (a' := ?_) (zB 4 5) rfl rfl (by kernel_rfl) (fun _ _ _ h => h) (Or.inl ⟨by rfl, ?_⟩) hHeld ?_ ?_
  rotate_left
  ·rintro w' ⟨s0, s1, s2, s3⟩
   go_simp
   with_reducible rfl
  rotate_left
  ·simp only [Act.put, zt0, zt1, zt2, i64_w, i32_w]
   rfl
  refine one_ (i := 4) (N := some 54) (zB 5 4) rfl rfl (by kernel_rfl) (by decide) (fun K hK => ?_)
  refine goes_ Try.func27 (by kernel_rfl) rfl #[.slice A2 l2.length c2] (by rfl) rfl rfl zl_ ?_
  refine (bytes_Clone.calls _ _ l2 bb _ (Kd.C_below RW.out O.out.HB) LW.out HCB.out).mono ?_
  rintro e wb ⟨vb, rfl, hRb, hb⟩
  obtain ⟨Ab, cb, rfl⟩ := Kd.R_slice hRb
  refine ⟨_, rfl, ?_⟩
  have RB := Aside0.mk hRb
  have OL := O
  have O2 := Aside0.mk (O.out.below hb)
  clear O
  have O := O2
  clear O2 hRb hb
  refine hK.out _ _ O.out.rd.1 (fun hHeld => ?_)
  clear hK K
  refine norm_ (a' := ?_) ?_ ?_
  rotate_left
  ·show Act.put _ (some 54) _ = _
   simp only [Act.put, zt0, zt1, zt2, i64_w, i32_w]
   rfl
  refine one_ (i := 5) (N := some 55) (zB 6 3) rfl rfl (by kernel_rfl) (by decide) (fun K hK => ?_)
  refine value_ (w1 := ?_) (v := ?_) (by rfl) rfl ?_ ?_
  rotate_left 2
  ·go_simp
   constructor
   ·rfl
   ·rfl
  have hb := below_alloc (Below.refl _ wb) (.cells #[.slice Ab bb.length cb] 27)
  have BV := Aside0.mk (MapKept.heap_alloc wb (.cells #[.slice Ab bb.length cb] 27 (0, 0))).1
  have O2 := Aside0.mk (O.out.below hb)
  have RB2 := Aside0.mk (Kd.R_below RB.out hb)
  have GV : Aside0 (∀ g, (Value.slice Av o3.length cv).ownBlock = some g → wb.heap.size ≠ g) := ⟨fun g hg => Nat.ne_of_gt (Kd.R_lt O.out.V g hg)⟩
  clear O RB hb
  have O := O2
  have RB := RB2
  clear O2 RB2
  refine hK.out _ _ O.out.rd.1 (fun hHeld => ?_)
  clear hK K
  refine norm_ (a' := ?_) ?_ ?_
  rotate_left
  ·show Act.put _ (some 55) _ = _
   simp only [Act.put, zt0, zt1, zt2, i64_w, i32_w]
   rfl
  generalize hgv : wb.heap.size = gv at BV GV ⊢
  clear hgv
  generalize wb.alloc _ = wc at O RB BV hHeld ⊢
  refine one_ (i := 6) (N := some 56) (zB 7 2) rfl rfl (by kernel_rfl) (by decide) (fun K hK => ?_)
  refine goes_ Try.func28 (by kernel_rfl) rfl #[.slice Av o3.length cv, .int .i64 (n : Int), .slice (some ⟨gv, 0, none⟩) 1 1] (by rfl) rfl rfl zl_ ?_
  refine (slices_Insert_byte_byte.ins (fun k => some k ≠ (Value.slice Ai1 kk.length ci1).ownBlock) (fun k => wa.heap.size ≤ k) (.slice Av o3.length cv) o3 n HN.out.2.1 ⟨gv, 0, none⟩ 1 bb [.slice Ab bb.length cb] w.heap.size _ O.out.HB.size O.out.V rfl (fun j u hj => ?hys) ⟨_, rfl, ?hM⟩ (fun k hk => ⟨?ha, ?hb⟩) GV.out HN.out.2.2.2).mono ?_
  case hys =>
   match j, hj with
   | 0, hj =>
    rw [show (⟨gv, 0, none⟩ : Addr).add 0 = ⟨gv, 0, none⟩ by unfold Addr.add; rfl, cell_of_row _ _ _ _ _ _ BV.out]
    exact hj
  case hM => exact Kd.R_mono (Kd.R_lower (Kd.R_bound RB.out) OL.out.HB.size) (fun k hk => hk.2.1)
  case ha => exact fun he => Nat.lt_irrefl _ (Nat.lt_of_lt_of_le (Kd.R_lt OL.out.K k he.symm) hk)
  case hb => exact fun he => Nat.lt_irrefl _ (Nat.lt_of_lt_of_le (Kd.R_lt OL.out.V k he.symm) hk)
  rintro e wd ⟨vi, rfl, hI, hg, hat⟩
  obtain ⟨ww, hnl⟩ : ∃ nl, nl = o3.take n ++ [bb] ++ o3.drop n := ⟨_, rfl⟩
  rw [← hnl] at hI HH
  clear hnl
  obtain ⟨Ai2, ci2, rfl⟩ := Kd.R_slice hI
  refine ⟨_, rfl, ?_⟩
  have O3 := Aside0.mk (O.out.setV hI hg hat)
  obtain ⟨b1, b2⟩ := O.out.grV hg
  have q0 := (blk_cell b1 0).trans rfl
  have q1 := (blk_cell b1 1).trans rfl
  have q2 := (blk_cell b1 2).trans rfl
  have q3 := (blk_cell b1 3).trans rfl
  have qf := blk_frozen b1 2
  clear hI hg hat b1 b2 O RB BV GV OL
  refine hK.out _ _ ⟨q0, q1, q2, q3⟩ (fun hHeld => ?_)
  clear hK K
  refine norm_ (a' := ?_) ?_ ?_
  rotate_left
  ·show Act.put _ (some 56) _ = _
   simp only [Act.put, zt0, zt1, zt2, i64_w, i32_w]
   rfl
  refine pure_ (i := 7) (N := some 57) (v := ?_) (a' := ?_) (zB 8 1) rfl rfl (by kernel_rfl) (fun _ _ _ h => h) (Or.inl ⟨by rfl, ?_⟩) ?_ ?_
  rotate_left
  ·intro w'
   go_simp
   with_reducible rfl
  rotate_left
  ·simp only [Act.put, zt0, zt1, zt2, i64_w, i32_w]
   rfl
  refine last_ (i := 8) (N := none) (zB 9 0) rfl rfl (by kernel_rfl) (by decide) (fun K hK => ?_)
  refine skip_ (w1 := ?_) (by rfl) rfl ?_ ?_
  rotate_left
  ·go_simp
   rfl
  refine hK.out _ _ ?_
  clear hK K
  refine done_ (by kernel_rfl) ?_
  clear q0 q1 q2 q3 qf hHeld
  have O := O3
  clear O3
  generalize World.setCell _ _ _ = wz at O ⊢
  obtain ⟨⟨hd0, hd1, hd2, hd3⟩, -, -, -⟩ := O.out.rd
  replace H := HH.out
  clear HH
  replace H := Option.bind_eq_some_iff.mp H
  obtain ⟨sz, hsz, H⟩ := H
  have HSZ := Aside0.mk hsz
  have HH := Aside0.mk H
  clear hsz H
  go_wp2_with fail
  refine (node_size.calls k o1 Ai1 ci1 (kk) Ai2 ci2 (ww) Ad cd o4 sz _ (Kd.R_reads' O.out.K).2.2 (Kd.R_reads' O.out.K).2.1 (Kd.R_reads' O.out.V).2.2 (Kd.R_reads' O.out.V).2.1 (Kd.R_reads' O.out.D).2.2 (Kd.R_reads' O.out.D).2.1 HSZ.out).mono ?_
  rintro e we ⟨rfl, hb⟩
  have O2 := Aside0.mk (O.out.below hb)
  clear O hb hd0 hd1 hd2 hd3
  have O := O2
  clear O2
  have H := HH.out
  clear HH
  obtain ⟨⟨hd0, hd1, hd2, hd3⟩, hf, ⟨hr0, hr1, hr2, hr3⟩, hs⟩ := O.out.rd
  have hs0 := hs 0
  have hs1 := hs 1
  have hs2 := hs 2
  have hs3 := hs 3
  have hne1 : ¬ gb = gr := O.out.ne
  have hne2 : ¬ gr = gb := Ne.symm O.out.ne
  clear hf hs
  by_cases hbig : sz > 4096
  ·rw [if_pos hbig] at H
   have zb : decide (4096 < sz) = true := decide_eq_true hbig
   clear hbig
   simp only [Option.some.injEq, Prod.mk.injEq] at H
   obtain ⟨rfl, rfl, rfl, rfl, rfl⟩ := H
   go_wp2
   refine bodyPost_ret (results_ct rfl _ _ gr 26 #[.bool false, .slice none 0 0, .slice none 0 0, .slice none 0 0] (0, 0) _ rfl (pageB O.out.BR _ _ _ _) Try.underlying26 rfl (by kernel_rfl)) rfl ⟨_, _, _, rfl, Kd.V_nil _ _ _ _ _, Kd.V_nil _ _ _ _ _, Kd.V_nil _ _ _ _ _, pageW O.out.HB O.out.GR _ _ _ _⟩
  ·rw [if_neg hbig] at H
   have zb : decide (4096 < sz) = false := decide_eq_false hbig
   clear hbig
   simp only [Option.some.injEq, Prod.mk.injEq] at H
   obtain ⟨rfl, rfl, rfl, rfl, rfl⟩ := H
   go_wp2
   obtain ⟨e1, e2, e3, e4⟩ := O.out.end_ (.bool o1) (.slice Ai1 (kk).length ci1) (.slice Ai2 (ww).length ci2) (.slice Ad o4.length cd)
   exact bodyPost_ret (results_ct rfl _ _ gr 26 #[.bool o1, .slice Ai1 (kk).length ci1, .slice Ai2 (ww).length ci2, .slice Ad o4.length cd] (0, 0) _ rfl (pageB O.out.BR _ _ _ _) Try.underlying26 rfl (by kernel_rfl)) rfl ⟨_, _, _, rfl, e1, e2, e3, e4⟩
end Go.Proofs.Ytcbgichkeecgiaa.Print
