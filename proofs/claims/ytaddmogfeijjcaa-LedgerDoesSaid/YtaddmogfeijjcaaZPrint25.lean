-- What the claim uses alone (wip/slim.py). Lean checks it.
import Derived.Test.YtaddmogfeijjcaaZPrint0
import Derived.Test.YtaddmogfeijjcaaZPrint5
import Derived.Test.YtaddmogfeijjcaaZPrint6
import Derived.Test.YtaddmogfeijjcaaZPrint9
import Derived.Test.YtaddmogfeijjcaaZPrint12
import Derived.Test.YtaddmogfeijjcaaZPrint13
import Derived.Test.YtaddmogfeijjcaaZPrint17
import Derived.Test.YtaddmogfeijjcaaZPrint18
import Derived.Test.YtaddmogfeijjcaaZPrint38
namespace Go.Proofs.Ytaddmogfeijjcaa.Print
open Go.RowKit Go.Proofs.YtaddmogfeijjcaaW.PrintWords Go.Proofs.YtaddmogfeijjcaaW.PrintLast Go.Proofs.YtaddmogfeijjcaaW.PrintMore
attribute [local go_sem] max2_mx min2_mn max_two min_two max_three min_three max_four min_four
set_option linter.unusedVariables false
set_option linter.unusedSimpArgs false
theorem amount_is (a : Int) : ledger_amount.f a = some (decide (1 ≤ a) && decide (a ≤ 1152921504606846976)) := by
 unfold ledger_amount.f
 by_cases h : 1 ≤ a
 ·rw [if_pos (show a ≥ 1 from h), decide_eq_true h, Bool.true_and]
 ·rw [if_neg (show ¬ a ≥ 1 from h), decide_eq_false h, Bool.false_and]
theorem good_len {ps : List S31} {qs : List S55} (h : goodL ps qs = true) : ps.length ≤ 4000000000000 := by
 unfold goodL at h
 simp only [Bool.and_eq_true, decide_eq_true_eq] at h
 omega
theorem good_of_why {ps : List S31} {qs : List S55} {n y : Int} (hy : y = opW ps qs n) (h : y = 0) : goodL ps qs = true := by
 unfold opW at hy
 split at hy
 ·assumption
 ·rw [h] at hy; cases hy
theorem unl_zero {y c : Int} {b : Bool} (hc : c ≠ 0) (h : unl y b c = 0) : y = 0 := by
 unfold unl at h
 split at h
 ·exact absurd h hc
 ·exact h
theorem postE_zero {qs : List S55} {y : Int} (h : postE qs y = 0) : y = 0 := unl_zero (by decide) h
def authW (ps : List S31) (qs : List S55) (n a : Int) : Int := unl (unl (opW ps qs n) (!(decide (1 ≤ a) && decide (a ≤ 1152921504606846976))) 2) (decide (0 < (payOf ps n).f1)) 9
def doneV (ps : List S31) (qs : List S55) (y : Int) (x : S55) : List S31 × List S55 × Int := (endL (postWs ps qs y x) (postPs ps qs y x), endL (postWs ps qs y x) (postQs qs y x), postWs ps qs y x)
def ledger_Authorise.f (l0_0 : List S31) (l0_1 : List S55) (a1 a2 : Int) : Option (List S31 × List S55 × Int) := if l0_0.length * 32 ≤ 140737488355328 ∧ l0_1.length * 24 ≤ 140737488355328 then some (doneV l0_0 l0_1 (authW l0_0 l0_1 a1 a2) ⟨a1, 1, 2, a2⟩) else none
set_option maxHeartbeats 8000000 in
set_option maxRecDepth 100000 in
theorem ledger_Authorise.calls (A0_0 : Option Addr) (c0_0 : Nat) (l0_0 : List (S31)) (A0_1 : Option Addr) (c0_1 : Nat) (l0_1 : List (S55)) (a1 a2 : Int) (r1 : List S31) (r2 : List S55) (r3 : Int) (w : World) (hr0_0 : Kd.C k31 w A0_0 l0_0.length l0_0) (hc0_0 : l0_0.length ≤ c0_0) (hr0_1 : Kd.C k55 w A0_1 l0_1.length l0_1) (hc0_1 : l0_1.length ≤ c0_1) (h : ledger_Authorise.f l0_0 l0_1 a1 a2 = some (r1, r2, r3)) :
  Calls Try.prog 12 #[.agg #[.slice A0_0 l0_0.length c0_0, .slice A0_1 l0_1.length c0_1], .int .i64 a1, .int .i64 a2] w fun e w' => ∃ v1_ v2_ : Value, e = .returned (.tuple #[.agg #[v1_, v2_], .int .i64 r3]) ∧ Kd.R k31 31 w' w.heap.size (fun _ => True) v1_ r1 ∧ Kd.R k55 55 w' w.heap.size (fun _ => True) v2_ r2 ∧ Below w.heap.size w w' := by
 unfold ledger_Authorise.f at h
 split at h
 case isFalse => cases h
 case isTrue hbig =>
 have HBIG := Aside0.mk hbig
 have HRES := Aside0.mk (Option.some.inj h)
 clear h hbig
 have hu25 := Try.underlying25
 have hu31 := Try.underlying31
 have hu55 := Try.underlying55
 have HR0 := Aside0.mk hr0_0
 have HC0 := Aside0.mk hc0_0
 have HR1 := Aside0.mk hr0_1
 have HC1 := Aside0.mk hc0_1
 clear hr0_0 hc0_0 hr0_1 hc0_1
 obtain ⟨am, ham⟩ : ∃ am, am = (decide (1 ≤ a2) && decide (a2 ≤ 1152921504606846976)) := ⟨_, rfl⟩
 have AM : Aside0 (ledger_amount.f a2 = some am) := ⟨by rw [ham]; exact amount_is a2⟩
 have HAM := Aside0.mk ham
 clear ham
 go_enter Try.func12, Try.ntmps12
 go_wp2_with (first | ((with_reducible refine gate_dst (N := 3) rfl ?_); refine box_event ?hg (N := 3) ?hd (cs := #[.slice A0_0 l0_0.length c0_0, .slice A0_1 l0_1.length c0_1]) (t := 25) ?hr ?_; (case hd => rfl); (case hg => rfl); (case hr => first | (go_simp; done) | (go_simp; rfl)); intro gb hgb w1 hbox hb; have BB := Aside0.mk hbox; have HB := Aside0.mk hb; clear hbox hb hgb) | ((with_reducible refine gate_dst (N := 6) rfl ?_); refine box_event ?hg (N := 6) ?hd (cs := #[.slice none 0 0, .slice none 0 0]) (t := 25) ?hr ?_; (case hd => rfl); (case hg => rfl); (case hr => first | (go_simp; done) | (go_simp; rfl)); intro gr hgr w2 hbox hb; have BR := Aside0.mk hbox; have BB2 := Aside0.mk (blk_below BB.out hb); have HB2 := Aside0.mk (below_step HB.out hb); have GR : Aside0 (w.heap.size ≤ gr) := ⟨by rw [hgr]; exact HB.out.size⟩; have hb0 := (blk_cell BB2.out 0).trans rfl; have hb1 := (blk_cell BB2.out 1).trans rfl; clear hbox hb hgr BB HB))
 refine (ledger_open.row A0_0 c0_0 l0_0 A0_1 c0_1 l0_1 a1 _ (Kd.C_below HR0.out HB2.out) HC0.out (Kd.C_below HR1.out HB2.out) HC1.out HBIG.out.1 HBIG.out.2).mono ?_
 rintro e w3 ⟨g, vp, vq, rfl, hk3⟩
 obtain ⟨y0, hy0⟩ : ∃ y0, y0 = opW l0_0 l0_1 a1 := ⟨_, rfl⟩
 rw [← hy0] at hk3
 have HY0 := Aside0.mk hy0
 have K := Aside0.mk (hk3.lower HB2.out)
 have BR2 := Aside0.mk (blk_below BR.out hk3.hb)
 clear hb0 hb1 hk3 hy0 BR BB2 HB2
 have BR := BR2
 clear BR2
 go_wp2_with fail
 refine (ledger_amount.calls _ _ _ AM.out).mono ?_
 rintro e w5 ⟨rfl, ⟨nd_, rfl⟩⟩
 have nK := Aside0.mk (K.out.drewN nd_)
 have nR := Aside0.mk (blk_drewN BR.out nd_)
 clear K BR
 have K := nK
 have BR := nR
 clear nK nR
 go_wp2_with fail
 refine (ledger_book_unless.row w g _ _ l0_0 l0_1 y0 (!am) 2 _ K.out).mono ?_
 rintro e w4 ⟨rfl, hk4, hs4⟩
 obtain ⟨y1, hy1⟩ : ∃ y1, y1 = unl y0 (!am) 2 := ⟨_, rfl⟩
 rw [← hy1] at hk4
 have HY1 := Aside0.mk hy1
 have nR := Aside0.mk (blk_kept BR.out hs4 (blk_ne BR.out K.out.blk (by decide)))
 clear K BR hs4 hy1
 have K := Aside0.mk hk4
 have BR := nR
 clear hk4 nR
 go_wp2_with fail
 refine (ledger_book_pay.row w g _ _ l0_0 l0_1 y1 a1 _ K.out (by have := HBIG.out.1; omega)).mono ?_
 rintro e w6 ⟨rfl, hb6⟩
 have nK := Aside0.mk (K.out.below hb6)
 have nR := Aside0.mk (blk_below BR.out hb6)
 clear K BR hb6
 have K := nK
 have BR := nR
 clear nK nR
 obtain ⟨p, hp⟩ : ∃ p, p = payOf l0_0 a1 := ⟨_, rfl⟩
 rw [← hp]
 have HP := Aside0.mk hp
 clear hp
 unfold pcells
 have hfld : ∀ w_ : World, (Instr.field 31 (.agg #[.int .i64 p.f0, .int .i64 p.f1, .int .i64 p.f2, .int .i64 p.f3]) 1).run Try.prog w_ = .ok (.int .i64 p.f1) w_ := fun _ => by kernel_rfl
 go_wp2_with fail
 refine (ledger_book_unless.row w g _ _ l0_0 l0_1 y1 (decide (0 < p.f1)) 9 _ K.out).mono ?_
 rintro e w4 ⟨rfl, hk4, hs4⟩
 obtain ⟨y2, hy2⟩ : ∃ y2, y2 = unl y1 (decide (0 < p.f1)) 9 := ⟨_, rfl⟩
 rw [← hy2] at hk4
 have HY2 := Aside0.mk hy2
 have nR := Aside0.mk (blk_kept BR.out hs4 (blk_ne BR.out K.out.blk (by decide)))
 clear K BR hs4 hy2
 have K := Aside0.mk hk4
 have BR := nR
 clear hk4 nR
 go_wp2_with fail
 refine (ledger_book_post.row w g _ _ l0_0 l0_1 y2 ⟨a1, 1, 2, a2⟩ _ K.out (fun h_ => good_len (by exact good_of_why HY0.out (unl_zero (by decide) ((HY1.out.symm).trans (unl_zero (by decide) ((HY2.out.symm).trans (postE_zero h_)))))))).mono ?_
 rintro e w7 ⟨rfl, hs7, vp1, vq1, hk7⟩
 obtain ⟨y3, hy3⟩ : ∃ y3, y3 = postWs l0_0 l0_1 y2 ⟨a1, 1, 2, a2⟩ := ⟨_, rfl⟩
 rw [← hy3] at hk7
 have HY3 := Aside0.mk hy3
 have nR := Aside0.mk (blk_kept BR.out hs7 (K.out.other BR.out (by decide) (by decide) (by decide)))
 clear K BR hs7 hy3
 have K := Aside0.mk hk7
 have BR := nR
 clear hk7 nR
 go_wp2_with fail
 refine (ledger_book_end.row w g _ _ _ _ y3 _ K.out).mono ?_
 rintro e w8 ⟨v1, v2, rfl, hr1, hr2, hb8, hb9⟩
 obtain ⟨AE, cE, rfl⟩ := Kd.R_slice hr1
 obtain ⟨AF, cF, rfl⟩ := Kd.R_slice hr2
 have R1 := Aside0.mk hr1
 have R2 := Aside0.mk hr2
 have HBE := Aside0.mk hb8
 have nR := Aside0.mk (blk_below BR.out hb9)
 clear K BR hr1 hr2 hb8 hb9
 have BR := nR
 clear nR
 have hr0 := (blk_cell BR.out 0).trans rfl
 have hr1 := (blk_cell BR.out 1).trans rfl
 have hf0 := blk_frozen BR.out 0
 have hf1 := blk_frozen BR.out 1
 have HY : Aside0 (y2 = authW l0_0 l0_1 a1 a2) := ⟨by rw [HY2.out, HY1.out, HY0.out, HP.out, HAM.out]; rfl⟩
 have HRES3 : Aside0 (y3 = r3) := ⟨by have h_ := HRES.out; unfold doneV at h_; rw [← HY.out, ← HY3.out] at h_; exact congrArg (fun z => z.2.2) h_⟩
 have HRES1 : Aside0 (endL y3 (postPs l0_0 l0_1 y2 ⟨a1, 1, 2, a2⟩) = r1) := ⟨by have h_ := HRES.out; unfold doneV at h_; rw [← HY.out, ← HY3.out] at h_; exact congrArg (fun z => z.1) h_⟩
 have HRES2 : Aside0 (endL y3 (postQs l0_1 y2 ⟨a1, 1, 2, a2⟩) = r2) := ⟨by have h_ := HRES.out; unfold doneV at h_; rw [← HY.out, ← HY3.out] at h_; exact congrArg (fun z => z.2.1) h_⟩
 clear HRES
 go_wp2_with fail
 refine bodyPost_ret (results_ct rfl _ _ gr 25 #[.slice AE _ cE, .slice AF _ cF] (0, 0) _ rfl (set2B BR.out _ _) Try.underlying25 rfl (by kernel_rfl)) rfl ⟨_, _, by rw [← HRES3.out]; rfl, by rw [← HRES1.out]; exact set2R R1.out BR.out (by decide) _ _, by rw [← HRES2.out]; exact set2R R2.out BR.out (by decide) _ _, set2W HBE.out GR.out _ _⟩
end Go.Proofs.Ytaddmogfeijjcaa.Print
