-- What the claim uses alone (wip/slim.py). Lean checks it.
import Derived.Test.YtaddmogfeijjcaaZAb
import Derived.Test.YtaddmogfeijjcaaZPrint0
import Derived.Test.YtaddmogfeijjcaaZPrint13
import Derived.Test.YtaddmogfeijjcaaZPrint38
namespace Go.Proofs.Ytaddmogfeijjcaa.Print
open Go.RowKit Go.Proofs.YtaddmogfeijjcaaW.PrintWords Go.Proofs.YtaddmogfeijjcaaW.PrintLast Go.Proofs.YtaddmogfeijjcaaW.PrintMore
attribute [local go_sem] max2_mx min2_mn max_two min_two max_three min_three max_four min_four
set_option linter.unusedVariables false
set_option linter.unusedSimpArgs false
def endL {α : Type} (why : Int) (l : List α) : List α := if why = 0 then l else []
theorem endL_yes {α : Type} {why : Int} (h : why = 0) (l : List α) : endL why l = l := if_pos h
theorem endL_no {α : Type} {why : Int} (h : ¬ why = 0) (l : List α) : endL why l = [] := if_neg h
set_option maxHeartbeats 4000000 in
set_option maxRecDepth 100000 in
theorem ledger_book_end.row (w0 : World) (g : Nat) (vp vq : Value) (ps : List S31) (qs : List S55) (why : Int) (w : World) (hk : Bk w0 w g vp vq ps qs why) :
  Calls Try.prog 31 #[.pointer (some ⟨g, 0, none⟩)] w fun e w' => ∃ v1_ v2_ : Value, e = .returned (.tuple #[.agg #[v1_, v2_], .int .i64 why]) ∧ Kd.R k31 31 w' w0.heap.size (fun _ => True) v1_ (endL why ps) ∧ Kd.R k55 55 w' w0.heap.size (fun _ => True) v2_ (endL why qs) ∧ Below w0.heap.size w0 w' ∧ Below w.heap.size w w' := by
 have hu25 := Try.underlying25
 have hu58 := Try.underlying58
 obtain ⟨Ap, cp, rfl⟩ := Kd.R_slice hk.rp
 obtain ⟨Aq, cq, rfl⟩ := Kd.R_slice hk.rq
 have HK := Aside0.mk hk
 clear hk
 by_cases hw : why = 0
 ·subst hw
  go_enter Try.func31, Try.ntmps31
  go_wp2_with (first | ((with_reducible refine gate_dst (N := 2) rfl ?_); refine box_event ?hg (N := 2) ?hd (cs := #[.slice none 0 0, .slice none 0 0]) (t := 25) ?hr ?_; (case hd => rfl); (case hg => rfl); (case hr => first | (go_simp; done) | (go_simp; rfl)); intro gr hgr w1 hbox hb; have K1 := Aside0.mk (HK.out.below hb); have BR := Aside0.mk hbox; have HB := Aside0.mk hb; have GR : Aside0 (w.heap.size ≤ gr ∧ w0.heap.size ≤ gr) := ⟨by rw [hgr]; exact Nat.le_refl _, by rw [hgr]; exact HK.out.hb.size⟩; have h2 := (blk_cell K1.out.blk 2).trans rfl; have h0 := (blk_cell K1.out.blk 0).trans rfl; have h1 := (blk_cell K1.out.blk 1).trans rfl; have hr0 := (blk_cell BR.out 0).trans rfl; have hr1 := (blk_cell BR.out 1).trans rfl; have hf0 := blk_frozen BR.out 0; have hf1 := blk_frozen BR.out 1; clear hbox hb hgr HK))
  refine bodyPost_ret (results_ct rfl _ _ gr 25 #[.slice Ap ps.length cp, .slice Aq qs.length cq] (0, 0) _ rfl (set2B BR.out _ _) Try.underlying25 rfl (by kernel_rfl)) rfl ⟨_, _, rfl, by first | exact set2R K1.out.rp BR.out (by decide) _ _ | (rw [endL_yes rfl]; exact set2R K1.out.rp BR.out (by decide) _ _), by first | exact set2R K1.out.rq BR.out (by decide) _ _ | (rw [endL_yes rfl]; exact set2R K1.out.rq BR.out (by decide) _ _), set2W K1.out.hb GR.out.2 _ _, set2W HB.out GR.out.1 _ _⟩
 ·have e1 : (why == 0) = false := beq_eq_false_iff_ne.mpr hw
  have e2 : (why != 0) = true := bne_iff_ne.mpr hw
  have HP1 : Aside0 (endL why ps = []) := ⟨endL_no hw _⟩
  have HQ1 : Aside0 (endL why qs = []) := ⟨endL_no hw _⟩
  clear hw
  go_enter Try.func31, Try.ntmps31
  go_upto_region 2 with (first | ((with_reducible refine gate_dst (N := 2) rfl ?_); refine box_event ?hg (N := 2) ?hd (cs := #[.slice none 0 0, .slice none 0 0]) (t := 25) ?hr ?_; (case hd => rfl); (case hg => rfl); (case hr => first | (go_simp; done) | (go_simp; rfl)); intro gr hgr w1 hbox hb; have K1 := Aside0.mk (HK.out.below hb); have BR := Aside0.mk hbox; have HB := Aside0.mk hb; have GR : Aside0 (w.heap.size ≤ gr ∧ w0.heap.size ≤ gr) := ⟨by rw [hgr]; exact Nat.le_refl _, by rw [hgr]; exact HK.out.hb.size⟩; have h2 := (blk_cell K1.out.blk 2).trans rfl; have h0 := (blk_cell K1.out.blk 0).trans rfl; have h1 := (blk_cell K1.out.blk 1).trans rfl; have hr0 := (blk_cell BR.out 0).trans rfl; have hr1 := (blk_cell BR.out 1).trans rfl; have hf0 := blk_frozen BR.out 0; have hf1 := blk_frozen BR.out 1; clear hbox hb hgr HK))
  clear hr0 hr1 hf0 hf1 h0 h1 h2
  refine start_ (n := 7) (S := fun w' => w'.heap[gr]? = some (.cells #[.slice none 0 0, .slice none 0 0] 25 (0, 0)) ∧ Bk w0 w' g (.slice Ap ps.length cp) (.slice Aq qs.length cq) ps qs why ∧ Below w.heap.size w w' ∧ w'.cell? ⟨g, 2, none⟩ = some (.int .i64 why)) (ds := []) #[false, false, false, false, false, false, false] (by kernel_rfl) rfl rfl ⟨(blk_drew BR.out), (K1.out.drewN 1), (below_drew1 HB.out), ((blk_cell K1.out.blk 2).trans rfl)⟩ (fun hHeld => ?_)
  generalize w1.drew = wD_ at hHeld ⊢
  refine pure_ (i := 0) (N := some 9) (v := ?_) (a' := ?_) #[true, false, false, false, false, false, false] rfl rfl (by kernel_rfl) (fun _ _ _ h => h) (Or.inl ⟨by rfl, ?_⟩) ?_ ?_
  rotate_left
  ·intro w'
   go_simp
   with_reducible rfl
  rotate_left
  ·simp only [Act.put, zt0, zt1, zt2, i64_w, i32_w]
   rfl
  refine pure_ (i := 1) (N := some 10) (v := ?_) (a' := ?_) #[true, true, false, false, false, false, false] rfl rfl (by kernel_rfl) (fun _ _ _ h => h) (Or.inl ⟨by rfl, ?_⟩) ?_ ?_
  rotate_left
  ·intro w'
   go_simp
   with_reducible rfl
  rotate_left
  ·simp only [Act.put, zt0, zt1, zt2, i64_w, i32_w]
   rfl
  refine pure_ (i := 2) (N := some 11) (v := ?_) (a' := ?_) #[true, true, true, false, false, false, false] rfl rfl (by kernel_rfl) (fun _ _ _ h => h) (Or.inl ⟨by rfl, ?_⟩) ?_ ?_
  rotate_left
  ·intro w'
   go_simp
   with_reducible rfl
  rotate_left
  ·simp only [Act.put, zt0, zt1, zt2, i64_w, i32_w]
   rfl
  refine pure_ (i := 3) (N := some 12) (v := ?_) (a' := ?_) #[true, true, true, true, false, false, false] rfl rfl (by kernel_rfl) (fun _ _ _ h => h) (Or.inl ⟨by rfl, ?_⟩) ?_ ?_
  rotate_left
  ·intro w'
   go_simp
   with_reducible rfl
  rotate_left
  ·simp only [Act.put, zt0, zt1, zt2, i64_w, i32_w]
   rfl
  refine take_ (i := 4) (N := some 13) (v := ?_) (a' := ?_) #[true, true, true, true, true, false, false] rfl rfl (by kernel_rfl) (fun _ _ _ h => h) (Or.inl ⟨by rfl, ?_⟩) hHeld ?_ ?_
  rotate_left
  ·rintro w' ⟨s0, s1, s2, s3⟩
   go_simp
   with_reducible rfl
  rotate_left
  ·simp only [Act.put, zt0, zt1, zt2, i64_w, i32_w]
   rfl
  refine one_ (i := 5) (N := none) #[true, true, true, true, true, true, false] rfl rfl (by kernel_rfl) (by decide) (fun K hK => ?_)
  obtain ⟨BR_, KK, HB1, SW_⟩ := hHeld
  have hr0 := (blk_cell BR_ 0).trans rfl
  have hr1 := (blk_cell BR_ 1).trans rfl
  have hf0 := blk_frozen BR_ 0
  have hf1 := blk_frozen BR_ 1
  refine skip_ (w1 := ?_) (by rfl) rfl ?_ ?_
  rotate_left
  ·go_simp
   rfl
  have KK2 := (KK.far_type GR.out.2 BR_ (by decide) (by decide) (by decide) 0 (.slice none 0 0)).far_type GR.out.2 (blk_set BR_ 0 (.slice none 0 0)) (by decide) (by decide) (by decide) 1 (.slice none 0 0)
  refine hK.out _ _ ⟨(set2B BR_ _ _), KK2, (set2W HB1 GR.out.1 _ _), ((blk_cell KK2.blk 2).trans rfl)⟩ (fun hHeld => ?_)
  clear hK K
  refine pure_ (i := 6) (N := some 3) (v := ?_) (a' := ?_) #[true, true, true, true, true, true, true] rfl rfl (by kernel_rfl) (fun _ _ _ h => h) (Or.inl ⟨by rfl, ?_⟩) ?_ ?_
  rotate_left
  ·intro w'
   go_simp
   with_reducible rfl
  rotate_left
  ·simp only [Act.put, zt0, zt1, zt2, i64_w, i32_w]
   rfl
  refine done_ (by kernel_rfl) ?_
  obtain ⟨BR_, KK, HB1, SW_⟩ := hHeld
  go_wp2_with fail
  refine bodyPost_ret (results_ct rfl _ _ gr 25 #[.slice none 0 0, .slice none 0 0] (0, 0) _ rfl BR_ Try.underlying25 rfl (by kernel_rfl)) rfl ⟨_, _, rfl, by rw [HP1.out]; exact Kd.R_nil _ _ _ _ _, by rw [HQ1.out]; exact Kd.R_nil _ _ _ _ _, KK.hb, HB1⟩
end Go.Proofs.Ytaddmogfeijjcaa.Print
