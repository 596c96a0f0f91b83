-- What the claim uses alone (wip/slim.py). Lean checks it.
import Derived.Test.YtaddmogfeijjcaaZAb
import Derived.Test.YtaddmogfeijjcaaZPrint0
import Derived.Test.YtaddmogfeijjcaaZPrint6
import Derived.Test.YtaddmogfeijjcaaZPrint7
import Derived.Test.YtaddmogfeijjcaaZPrint9
import Derived.Test.YtaddmogfeijjcaaZPrint12
namespace Go.Proofs.Ytaddmogfeijjcaa.Print
open Go.RowKit Go.Proofs.YtaddmogfeijjcaaW.PrintWords Go.Proofs.YtaddmogfeijjcaaW.PrintLast Go.Proofs.YtaddmogfeijjcaaW.PrintMore
attribute [local go_sem] max2_mx min2_mn max_two min_two max_three min_three max_four min_four
set_option linter.unusedVariables false
set_option linter.unusedSimpArgs false
def payV (ps : List S31) (qs : List S55) (n : Int) : Int × Int × Int × Int × Int := if opW ps qs n = 0 then ((payOf ps n).f0, (payOf ps n).f1, (payOf ps n).f2, (payOf ps n).f3, 0) else (0, 0, 0, 0, opW ps qs n)
def ledger_Pay.f (l0_0 : List S31) (l0_1 : List S55) (a1 : Int) : Option (Int × Int × Int × Int × Int) := if l0_0.length * 32 ≤ 140737488355328 ∧ l0_1.length * 24 ≤ 140737488355328 then some (payV l0_0 l0_1 a1) else none
set_option maxHeartbeats 8000000 in
set_option maxRecDepth 100000 in
theorem ledger_Pay.calls (A0_0 : Option Addr) (c0_0 : Nat) (l0_0 : List (S31)) (A0_1 : Option Addr) (c0_1 : Nat) (l0_1 : List (S55)) (a1 : Int) (r1 r2 r3 r4 r5 : Int) (w : World) (hr0_0 : Kd.C k31 w A0_0 l0_0.length l0_0) (hc0_0 : l0_0.length ≤ c0_0) (hr0_1 : Kd.C k55 w A0_1 l0_1.length l0_1) (hc0_1 : l0_1.length ≤ c0_1) (h : ledger_Pay.f l0_0 l0_1 a1 = some (r1, r2, r3, r4, r5)) :
  Calls Try.prog 10 #[.agg #[.slice A0_0 l0_0.length c0_0, .slice A0_1 l0_1.length c0_1], .int .i64 a1] w fun e w' => e = .returned (.tuple #[.agg #[.int .i64 r1, .int .i64 r2, .int .i64 r3, .int .i64 r4], .int .i64 r5]) ∧ Below w.heap.size w w' := by
 unfold ledger_Pay.f at h
 split at h
 case isFalse => cases h
 case isTrue hbig =>
 have HBIG := Aside0.mk hbig
 have HRES := Aside0.mk (Option.some.inj h)
 clear h hbig
 have hu25 := Try.underlying25
 have hu31 := Try.underlying31
 have hu55 := Try.underlying55
 have HR0 := Aside0.mk hr0_0
 have HC0 := Aside0.mk hc0_0
 have HR1 := Aside0.mk hr0_1
 have HC1 := Aside0.mk hc0_1
 clear hr0_0 hc0_0 hr0_1 hc0_1
 have hu58 := Try.underlying58
 go_enter Try.func10, Try.ntmps10
 go_wp2_with (first | ((with_reducible refine gate_dst (N := 2) rfl ?_); refine box_event ?hg (N := 2) ?hd (cs := #[.slice A0_0 l0_0.length c0_0, .slice A0_1 l0_1.length c0_1]) (t := 25) ?hr ?_; (case hd => rfl); (case hg => rfl); (case hr => first | (go_simp; done) | (go_simp; rfl)); intro gb hgb w1 hbox hb; have BB := Aside0.mk hbox; have HB := Aside0.mk hb; clear hbox hb hgb) | ((with_reducible refine gate_dst (N := 4) rfl ?_); refine box_event ?hg (N := 4) ?hd (cs := #[.int .i64 0, .int .i64 0, .int .i64 0, .int .i64 0]) (t := 31) ?hr ?_; (case hd => rfl); (case hg => rfl); (case hr => first | (go_simp; done) | (go_simp; rfl)); intro gr hgr w2 hbox hb; have BR := Aside0.mk hbox; have BB2 := Aside0.mk (blk_below BB.out hb); have HB2 := Aside0.mk (below_step HB.out hb); have GR : Aside0 (w.heap.size ≤ gr) := ⟨by rw [hgr]; exact HB.out.size⟩; have hb0 := (blk_cell BB2.out 0).trans rfl; have hb1 := (blk_cell BB2.out 1).trans rfl; clear hbox hb hgr BB HB))
 refine (ledger_open.row A0_0 c0_0 l0_0 A0_1 c0_1 l0_1 a1 _ (Kd.C_below HR0.out HB2.out) HC0.out (Kd.C_below HR1.out HB2.out) HC1.out HBIG.out.1 HBIG.out.2).mono ?_
 rintro e w3 ⟨g, vp, vq, rfl, hk3⟩
 obtain ⟨y0, hy0⟩ : ∃ y0, y0 = opW l0_0 l0_1 a1 := ⟨_, rfl⟩
 rw [← hy0] at hk3
 have HY0 := Aside0.mk hy0
 have K := Aside0.mk (hk3.lower HB2.out)
 have BR2 := Aside0.mk (blk_below BR.out hk3.hb)
 clear hb0 hb1 hk3 hy0 BR BB2 HB2
 have BR := BR2
 clear BR2
 have h2 := (blk_cell K.out.blk 2).trans rfl
 by_cases hz : y0 = 0
 ·subst hz
  go_wp2_with fail
  clear h2
  refine (ledger_book_pay.row w g _ _ l0_0 l0_1 0 a1 _ K.out (by have := HBIG.out.1; omega)).mono ?_
  rintro e w6 ⟨rfl, hb6⟩
  have nK := Aside0.mk (K.out.below hb6)
  have nR := Aside0.mk (blk_below BR.out hb6)
  clear K BR hb6
  have K := nK
  have BR := nR
  clear nK nR
  obtain ⟨p, hp⟩ : ∃ p, p = payOf l0_0 a1 := ⟨_, rfl⟩
  rw [← hp]
  have HP := Aside0.mk hp
  clear hp
  unfold pcells
  have hr0 := (blk_cell BR.out 0).trans rfl
  have hr1 := (blk_cell BR.out 1).trans rfl
  have hr2 := (blk_cell BR.out 2).trans rfl
  have hr3 := (blk_cell BR.out 3).trans rfl
  have hf0 := blk_frozen BR.out 0
  have hf1 := blk_frozen BR.out 1
  have hf2 := blk_frozen BR.out 2
  have hf3 := blk_frozen BR.out 3
  have h_ := HRES.out
  unfold payV at h_
  rw [if_pos HY0.out.symm, ← HP.out] at h_
  cases h_
  go_wp2_with fail
  refine bodyPost_ret (results_ct rfl _ _ gr 31 #[.int .i64 p.f0, .int .i64 p.f1, .int .i64 p.f2, .int .i64 p.f3] (0, 0) _ rfl (set4B BR.out _ _ _ _) Try.underlying31 rfl (by kernel_rfl)) rfl ⟨rfl, set4W K.out.hb GR.out _ _ _ _⟩
 ·have e1 : (y0 == 0) = false := beq_eq_false_iff_ne.mpr hz
  have e2 : (y0 != 0) = true := bne_iff_ne.mpr hz
  have h_ := HRES.out
  unfold payV at h_
  rw [if_neg (by rw [← HY0.out]; exact hz), ← HY0.out] at h_
  cases h_
  clear HRES
  clear hz
  go_upto_region 3 with (fail)
  clear h2
  refine start_ (n := 7) (S := fun w' => w'.heap[gr]? = some (.cells #[.int .i64 0, .int .i64 0, .int .i64 0, .int .i64 0] 31 (0, 0)) ∧ Below w.heap.size w w' ∧ w'.heap[g]? = some (.cells #[vp, vq, .int .i64 r5] 58 (0, 0)) ∧ w'.cell? ⟨g, 2, none⟩ = some (.int .i64 r5)) (ds := []) #[false, false, false, false, false, false, false] (by kernel_rfl) rfl rfl ⟨(blk_drew BR.out), (below_drew1 K.out.hb), (blk_drew K.out.blk), ((blk_cell K.out.blk 2).trans rfl)⟩ (fun hHeld => ?_)
  generalize w3.drew = wD_ at hHeld ⊢
  refine pure_ (i := 0) (N := some 15) (v := ?_) (a' := ?_) #[true, false, false, false, false, false, false] rfl rfl (by kernel_rfl) (fun _ _ _ h => h) (Or.inl ⟨by rfl, ?_⟩) ?_ ?_
  rotate_left
  ·intro w'
   go_simp
   with_reducible rfl
  rotate_left
  ·simp only [Act.put, zt0, zt1, zt2, i64_w, i32_w]
   rfl
  refine pure_ (i := 1) (N := some 16) (v := ?_) (a' := ?_) #[true, true, false, false, false, false, false] rfl rfl (by kernel_rfl) (fun _ _ _ h => h) (Or.inl ⟨by rfl, ?_⟩) ?_ ?_
  rotate_left
  ·intro w'
   go_simp
   with_reducible rfl
  rotate_left
  ·simp only [Act.put, zt0, zt1, zt2, i64_w, i32_w]
   rfl
  refine pure_ (i := 2) (N := some 17) (v := ?_) (a' := ?_) #[true, true, true, false, false, false, false] rfl rfl (by kernel_rfl) (fun _ _ _ h => h) (Or.inl ⟨by rfl, ?_⟩) ?_ ?_
  rotate_left
  ·intro w'
   go_simp
   with_reducible rfl
  rotate_left
  ·simp only [Act.put, zt0, zt1, zt2, i64_w, i32_w]
   rfl
  refine pure_ (i := 3) (N := some 18) (v := ?_) (a' := ?_) #[true, true, true, true, false, false, false] rfl rfl (by kernel_rfl) (fun _ _ _ h => h) (Or.inl ⟨by rfl, ?_⟩) ?_ ?_
  rotate_left
  ·intro w'
   go_simp
   with_reducible rfl
  rotate_left
  ·simp only [Act.put, zt0, zt1, zt2, i64_w, i32_w]
   rfl
  refine take_ (i := 4) (N := some 19) (v := ?_) (a' := ?_) #[true, true, true, true, true, false, false] rfl rfl (by kernel_rfl) (fun _ _ _ h => h) (Or.inl ⟨by rfl, ?_⟩) hHeld ?_ ?_
  rotate_left
  ·rintro w' ⟨s0, s1, s2, s3⟩
   go_simp
   with_reducible rfl
  rotate_left
  ·simp only [Act.put, zt0, zt1, zt2, i64_w, i32_w]
   rfl
  refine one_ (i := 5) (N := none) #[true, true, true, true, true, true, false] rfl rfl (by kernel_rfl) (by decide) (fun K hK => ?_)
  obtain ⟨BR_, HB1, BG_, SW_⟩ := hHeld
  have hr0 := (blk_cell BR_ 0).trans rfl
  have hr1 := (blk_cell BR_ 1).trans rfl
  have hr2 := (blk_cell BR_ 2).trans rfl
  have hr3 := (blk_cell BR_ 3).trans rfl
  have hf0 := blk_frozen BR_ 0
  have hf1 := blk_frozen BR_ 1
  have hf2 := blk_frozen BR_ 2
  have hf3 := blk_frozen BR_ 3
  refine skip_ (w1 := ?_) (by rfl) rfl ?_ ?_
  rotate_left
  ·go_simp
   rfl
  refine hK.out _ _ ⟨(set4B BR_ _ _ _ _), (set4W HB1 GR.out _ _ _ _), (set4F BG_ (blk_ne BG_ BR_ (by decide)) _ _ _ _), ((blk_cell (set4F BG_ (blk_ne BG_ BR_ (by decide)) _ _ _ _) 2).trans rfl)⟩ (fun hHeld => ?_)
  clear hK K
  refine pure_ (i := 6) (N := some 5) (v := ?_) (a' := ?_) #[true, true, true, true, true, true, true] rfl rfl (by kernel_rfl) (fun _ _ _ h => h) (Or.inl ⟨by rfl, ?_⟩) ?_ ?_
  rotate_left
  ·intro w'
   go_simp
   with_reducible rfl
  rotate_left
  ·simp only [Act.put, zt0, zt1, zt2, i64_w, i32_w]
   rfl
  refine done_ (by kernel_rfl) ?_
  obtain ⟨BR_, HB1, BG_, SW_⟩ := hHeld
  go_wp2_with fail
  refine bodyPost_ret (results_ct rfl _ _ gr 31 #[.int .i64 0, .int .i64 0, .int .i64 0, .int .i64 0] (0, 0) _ rfl BR_ Try.underlying31 rfl (by kernel_rfl)) rfl ⟨rfl, HB1⟩
end Go.Proofs.Ytaddmogfeijjcaa.Print
