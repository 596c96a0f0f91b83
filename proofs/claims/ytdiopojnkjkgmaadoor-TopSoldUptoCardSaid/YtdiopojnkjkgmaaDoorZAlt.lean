-- What the claim uses alone (wip/slim.py). Lean checks it.
import Derived.Test.YtdiopojnkjkgmaaDoorZAb
import Derived.Test.YtdiopojnkjkgmaaDoorZAln
import Derived.Test.YtdiopojnkjkgmaaDoorZAlr
import Derived.Test.YtdiopojnkjkgmaaDoorZAlq
import Derived.Test.YtdiopojnkjkgmaaDoorZAls
namespace Go.Proofs.YtdiopojnkjkgmaaDoor.Print
open Go.RowKit Go.Proofs.YtdiopojnkjkgmaaDoorW.PrintWords Go.Proofs.YtdiopojnkjkgmaaDoorW.PrintLast Go.Proofs.YtdiopojnkjkgmaaDoorW.PrintMore
attribute [local go_sem] max2_mx min2_mn max_two min_two max_three min_three max_four min_four
set_option linter.unusedVariables false
set_option linter.unusedSimpArgs false
def endL {α : Type} (why : Int) (l : List α) : List α := if why = 0 then l else []
theorem endL_yes {α : Type} {why : Int} (h : why = 0) (l : List α) : endL why l = l := if_pos h
theorem endL_no {α : Type} {why : Int} (h : ¬ why = 0) (l : List α) : endL why l = [] := if_neg h
set_option maxHeartbeats 4000000 in
set_option maxRecDepth 100000 in
theorem ledger_book_end.row (w0 : World) (g : Nat) (vp vq : Value) (ps : List S47) (qs : List S69) (why : Int) (w : World) (hk : Bk w0 w g vp vq ps qs why) :
  Calls Tryd.prog 29 #[.pointer (some ⟨g, 0, none⟩)] w fun e w' => ∃ v1_ v2_ : Value, e = .returned (.tuple #[.agg #[v1_, v2_], .int .i64 why]) ∧ Kd.R k47 47 w' w0.heap.size (fun _ => True) v1_ (endL why ps) ∧ Kd.R k69 69 w' w0.heap.size (fun _ => True) v2_ (endL why qs) ∧ Below w0.heap.size w0 w' ∧ Below w.heap.size w w' := by
 have hu25 := Tryd.underlying35
 have hu58 := Tryd.underlying76
 obtain ⟨Ap, cp, rfl⟩ := Kd.R_slice hk.rp
 obtain ⟨Aq, cq, rfl⟩ := Kd.R_slice hk.rq
 have HK := Aside0.mk hk
 clear hk
 by_cases hw : why = 0
 ·subst hw
  go_enter Tryd.func29, Tryd.ntmps29
  go_wp2_with (first | ((with_reducible refine gate_dst (N := 2) rfl ?_); refine box_event ?hg (N := 2) ?hd (cs := #[.slice none 0 0, .slice none 0 0]) (t := 35) ?hr ?_; (case hd => rfl); (case hg => rfl); (case hr => first | (go_simp; done) | (go_simp; rfl)); intro gr hgr w1 hbox hb; have K1 := Aside0.mk (HK.out.below hb); have BR := Aside0.mk hbox; have HB := Aside0.mk hb; have GR : Aside0 (w.heap.size ≤ gr ∧ w0.heap.size ≤ gr) := ⟨by rw [hgr]; exact Nat.le_refl _, by rw [hgr]; exact HK.out.hb.size⟩; have h2 := (blk_cell K1.out.blk 2).trans rfl; have h0 := (blk_cell K1.out.blk 0).trans rfl; have h1 := (blk_cell K1.out.blk 1).trans rfl; have hr0 := (blk_cell BR.out 0).trans rfl; have hr1 := (blk_cell BR.out 1).trans rfl; have hf0 := blk_frozen BR.out 0; have hf1 := blk_frozen BR.out 1; clear hbox hb hgr HK))
  refine bodyPost_ret (results_ct rfl _ _ gr 35 #[.slice Ap ps.length cp, .slice Aq qs.length cq] (0, 0) _ rfl (set2B BR.out _ _) Tryd.underlying35 rfl (by kernel_rfl)) rfl ⟨_, _, rfl, by first | exact set2R K1.out.rp BR.out (by decide) _ _ | (rw [endL_yes rfl]; exact set2R K1.out.rp BR.out (by decide) _ _), by first | exact set2R K1.out.rq BR.out (by decide) _ _ | (rw [endL_yes rfl]; exact set2R K1.out.rq BR.out (by decide) _ _), set2W K1.out.hb GR.out.2 _ _, set2W HB.out GR.out.1 _ _⟩
 ·have e1 : (why == 0) = false := beq_eq_false_iff_ne.mpr hw
  have e2 : (why != 0) = true := bne_iff_ne.mpr hw
  have HP1 : Aside0 (endL why ps = []) := ⟨endL_no hw _⟩
  have HQ1 : Aside0 (endL why qs = []) := ⟨endL_no hw _⟩
  clear hw
  go_enter Tryd.func29, Tryd.ntmps29
  go_upto_region 2 with (first | ((with_reducible refine gate_dst (N := 2) rfl ?_); refine box_event ?hg (N := 2) ?hd (cs := #[.slice none 0 0, .slice none 0 0]) (t := 35) ?hr ?_; (case hd => rfl); (case hg => rfl); (case hr => first | (go_simp; done) | (go_simp; rfl)); intro gr hgr w1 hbox hb; have K1 := Aside0.mk (HK.out.below hb); have BR := Aside0.mk hbox; have HB := Aside0.mk hb; have GR : Aside0 (w.heap.size ≤ gr ∧ w0.heap.size ≤ gr) := ⟨by rw [hgr]; exact Nat.le_refl _, by rw [hgr]; exact HK.out.hb.size⟩; have h2 := (blk_cell K1.out.blk 2).trans rfl; have h0 := (blk_cell K1.out.blk 0).trans rfl; have h1 := (blk_cell K1.out.blk 1).trans rfl; have hr0 := (blk_cell BR.out 0).trans rfl; have hr1 := (blk_cell BR.out 1).trans rfl; have hf0 := blk_frozen BR.out 0; have hf1 := blk_frozen BR.out 1; clear hbox hb hgr HK))
  clear hr0 hr1 hf0 hf1 h0 h1 h2
  refine start_ (n := 7) (S := fun w' => w'.heap[gr]? = some (.cells #[.slice none 0 0, .slice none 0 0] 35 (0, 0)) ∧ Bk w0 w' g (.slice Ap ps.length cp) (.slice Aq qs.length cq) ps qs why ∧ Below w.heap.size w w' ∧ w'.cell? ⟨g, 2, none⟩ = some (.int .i64 why)) (ds := []) #[false, false, false, false, false, false, false] (by kernel_rfl) rfl rfl ⟨(blk_drew BR.out), (K1.out.drewN 1), (below_drew1 HB.out), ((blk_cell K1.out.blk 2).trans rfl)⟩ (fun hHeld => ?_)
  generalize w1.drew = wD_ at hHeld ⊢
  refine zpu 0 (some 9) #[true, false, false, false, false, false, false] (by kernel_rfl) ?_
  refine zpu 1 (some 10) #[true, true, false, false, false, false, false] (by kernel_rfl) ?_
  refine zpu 2 (some 11) #[true, true, true, false, false, false, false] (by kernel_rfl) ?_
  refine zpu 3 (some 12) #[true, true, true, true, false, false, false] (by kernel_rfl) ?_
  refine zta 4 (some 13) #[true, true, true, true, true, false, false] (by kernel_rfl) hHeld ?_
  refine one_ (i := 5) (N := none) #[true, true, true, true, true, true, false] rfl rfl (by kernel_rfl) (by decide) (fun K hK => ?_)
  obtain ⟨BR_, KK, HB1, SW_⟩ := hHeld
  have hr0 := (blk_cell BR_ 0).trans rfl
  have hr1 := (blk_cell BR_ 1).trans rfl
  have hf0 := blk_frozen BR_ 0
  have hf1 := blk_frozen BR_ 1
  refine skip_ (w1 := ?_) (by rfl) rfl ?_ ?_
  rotate_left
  ·go_simp
   rfl
  have KK2 := (KK.far_type GR.out.2 BR_ (by decide) (by decide) (by decide) 0 (.slice none 0 0)).far_type GR.out.2 (blk_set BR_ 0 (.slice none 0 0)) (by decide) (by decide) (by decide) 1 (.slice none 0 0)
  refine hK.out _ _ ⟨(set2B BR_ _ _), KK2, (set2W HB1 GR.out.1 _ _), ((blk_cell KK2.blk 2).trans rfl)⟩ (fun hHeld => ?_)
  clear hK K
  refine zpu 6 (some 3) #[true, true, true, true, true, true, true] (by kernel_rfl) ?_
  refine done_ (by kernel_rfl) ?_
  obtain ⟨BR_, KK, HB1, SW_⟩ := hHeld
  go_wp2_with fail
  refine bodyPost_ret (results_ct rfl _ _ gr 35 #[.slice none 0 0, .slice none 0 0] (0, 0) _ rfl BR_ Tryd.underlying35 rfl (by kernel_rfl)) rfl ⟨_, _, rfl, by rw [HP1.out]; exact Kd.R_nil _ _ _ _ _, by rw [HQ1.out]; exact Kd.R_nil _ _ _ _ _, KK.hb, HB1⟩
end Go.Proofs.YtdiopojnkjkgmaaDoor.Print
namespace Go.Proofs.YtdiopojnkjkgmaaDoor.Print
open Go.RowKit Go.Proofs.YtdiopojnkjkgmaaDoorW.PrintWords Go.Proofs.YtdiopojnkjkgmaaDoorW.PrintLast Go.Proofs.YtdiopojnkjkgmaaDoorW.PrintMore
attribute [local go_sem] max2_mx min2_mn max_two min_two max_three min_three max_four min_four
set_option linter.unusedVariables false
set_option linter.unusedSimpArgs false
theorem amount_is (a : Int) : ledger_amount.f a = some (decide (1 ≤ a) && decide (a ≤ 1152921504606846976)) := by
 unfold ledger_amount.f
 by_cases h : 1 ≤ a
 ·rw [if_pos (show a ≥ 1 from h), decide_eq_true h, Bool.true_and]
 ·rw [if_neg (show ¬ a ≥ 1 from h), decide_eq_false h, Bool.false_and]
theorem good_len {ps : List S47} {qs : List S69} (h : goodL ps qs = true) : ps.length ≤ 4000000000000 := by
 unfold goodL at h
 simp only [Bool.and_eq_true, decide_eq_true_eq] at h
 omega
theorem good_of_why {ps : List S47} {qs : List S69} {n y : Int} (hy : y = opW ps qs n) (h : y = 0) : goodL ps qs = true := by
 unfold opW at hy
 split at hy
 ·assumption
 ·rw [h] at hy; cases hy
theorem unl_zero {y c : Int} {b : Bool} (hc : c ≠ 0) (h : unl y b c = 0) : y = 0 := by
 unfold unl at h
 split at h
 ·exact absurd h hc
 ·exact h
theorem postE_zero {qs : List S69} {y : Int} (h : postE qs y = 0) : y = 0 := unl_zero (by decide) h
def authW (ps : List S47) (qs : List S69) (n a : Int) : Int := unl (unl (opW ps qs n) (!(decide (1 ≤ a) && decide (a ≤ 1152921504606846976))) 2) (decide (0 < (payOf ps n).f1)) 9
def doneV (ps : List S47) (qs : List S69) (y : Int) (x : S69) : List S47 × List S69 × Int := (endL (postWs ps qs y x) (postPs ps qs y x), endL (postWs ps qs y x) (postQs qs y x), postWs ps qs y x)
def ledger_Authorise.f (l0_0 : List S47) (l0_1 : List S69) (a1 a2 : Int) : Option (List S47 × List S69 × Int) := if l0_0.length * 32 ≤ 140737488355328 ∧ l0_1.length * 24 ≤ 140737488355328 then some (doneV l0_0 l0_1 (authW l0_0 l0_1 a1 a2) ⟨a1, 1, 2, a2⟩) else none
set_option maxHeartbeats 8000000 in
set_option maxRecDepth 100000 in
theorem ledger_Authorise.calls (A0_0 : Option Addr) (c0_0 : Nat) (l0_0 : List (S47)) (A0_1 : Option Addr) (c0_1 : Nat) (l0_1 : List (S69)) (a1 a2 : Int) (r1 : List S47) (r2 : List S69) (r3 : Int) (w : World) (hr0_0 : Kd.C k47 w A0_0 l0_0.length l0_0) (hc0_0 : l0_0.length ≤ c0_0) (hr0_1 : Kd.C k69 w A0_1 l0_1.length l0_1) (hc0_1 : l0_1.length ≤ c0_1) (h : ledger_Authorise.f l0_0 l0_1 a1 a2 = some (r1, r2, r3)) :
  Calls Tryd.prog 9 #[.agg #[.slice A0_0 l0_0.length c0_0, .slice A0_1 l0_1.length c0_1], .int .i64 a1, .int .i64 a2] w fun e w' => ∃ v1_ v2_ : Value, e = .returned (.tuple #[.agg #[v1_, v2_], .int .i64 r3]) ∧ Kd.R k47 47 w' w.heap.size (fun _ => True) v1_ r1 ∧ Kd.R k69 69 w' w.heap.size (fun _ => True) v2_ r2 ∧ Below w.heap.size w w' := by
 unfold ledger_Authorise.f at h
 split at h
 case isFalse => cases h
 case isTrue hbig =>
 have HBIG := Aside0.mk hbig
 have HRES := Aside0.mk (Option.some.inj h)
 clear h hbig
 have hu25 := Tryd.underlying35
 have hu31 := Tryd.underlying47
 have hu55 := Tryd.underlying69
 have HR0 := Aside0.mk hr0_0
 have HC0 := Aside0.mk hc0_0
 have HR1 := Aside0.mk hr0_1
 have HC1 := Aside0.mk hc0_1
 clear hr0_0 hc0_0 hr0_1 hc0_1
 obtain ⟨am, ham⟩ : ∃ am, am = (decide (1 ≤ a2) && decide (a2 ≤ 1152921504606846976)) := ⟨_, rfl⟩
 have AM : Aside0 (ledger_amount.f a2 = some am) := ⟨by rw [ham]; exact amount_is a2⟩
 have HAM := Aside0.mk ham
 clear ham
 go_enter Tryd.func9, Tryd.ntmps9
 go_wp2_with (first | ((with_reducible refine gate_dst (N := 3) rfl ?_); refine box_event ?hg (N := 3) ?hd (cs := #[.slice A0_0 l0_0.length c0_0, .slice A0_1 l0_1.length c0_1]) (t := 35) ?hr ?_; (case hd => rfl); (case hg => rfl); (case hr => first | (go_simp; done) | (go_simp; rfl)); intro gb hgb w1 hbox hb; have BB := Aside0.mk hbox; have HB := Aside0.mk hb; clear hbox hb hgb) | ((with_reducible refine gate_dst (N := 6) rfl ?_); refine box_event ?hg (N := 6) ?hd (cs := #[.slice none 0 0, .slice none 0 0]) (t := 35) ?hr ?_; (case hd => rfl); (case hg => rfl); (case hr => first | (go_simp; done) | (go_simp; rfl)); intro gr hgr w2 hbox hb; have BR := Aside0.mk hbox; have BB2 := Aside0.mk (blk_below BB.out hb); have HB2 := Aside0.mk (below_step HB.out hb); have GR : Aside0 (w.heap.size ≤ gr) := ⟨by rw [hgr]; exact HB.out.size⟩; have hb0 := (blk_cell BB2.out 0).trans rfl; have hb1 := (blk_cell BB2.out 1).trans rfl; clear hbox hb hgr BB HB))
 refine (ledger_open.row A0_0 c0_0 l0_0 A0_1 c0_1 l0_1 a1 _ (Kd.C_below HR0.out HB2.out) HC0.out (Kd.C_below HR1.out HB2.out) HC1.out HBIG.out.1 HBIG.out.2).mono ?_
 rintro e w3 ⟨g, vp, vq, rfl, hk3⟩
 obtain ⟨y0, hy0⟩ : ∃ y0, y0 = opW l0_0 l0_1 a1 := ⟨_, rfl⟩
 rw [← hy0] at hk3
 have HY0 := Aside0.mk hy0
 have K := Aside0.mk (hk3.lower HB2.out)
 have BR2 := Aside0.mk (blk_below BR.out hk3.hb)
 clear hb0 hb1 hk3 hy0 BR BB2 HB2
 have BR := BR2
 clear BR2
 go_wp2_with fail
 refine (ledger_amount.calls _ _ _ AM.out).mono ?_
 rintro e w5 ⟨rfl, ⟨nd_, rfl⟩⟩
 have nK := Aside0.mk (K.out.drewN nd_)
 have nR := Aside0.mk (blk_drewN BR.out nd_)
 clear K BR
 have K := nK
 have BR := nR
 clear nK nR
 go_wp2_with fail
 refine (ledger_book_unless.row w g _ _ l0_0 l0_1 y0 (!am) 2 _ K.out).mono ?_
 rintro e w4 ⟨rfl, hk4, hs4⟩
 obtain ⟨y1, hy1⟩ : ∃ y1, y1 = unl y0 (!am) 2 := ⟨_, rfl⟩
 rw [← hy1] at hk4
 have HY1 := Aside0.mk hy1
 have nR := Aside0.mk (blk_kept BR.out hs4 (blk_ne BR.out K.out.blk (by decide)))
 clear K BR hs4 hy1
 have K := Aside0.mk hk4
 have BR := nR
 clear hk4 nR
 go_wp2_with fail
 refine (ledger_book_pay.row w g _ _ l0_0 l0_1 y1 a1 _ K.out (by have := HBIG.out.1; omega)).mono ?_
 rintro e w6 ⟨rfl, hb6⟩
 have nK := Aside0.mk (K.out.below hb6)
 have nR := Aside0.mk (blk_below BR.out hb6)
 clear K BR hb6
 have K := nK
 have BR := nR
 clear nK nR
 obtain ⟨p, hp⟩ : ∃ p, p = payOf l0_0 a1 := ⟨_, rfl⟩
 rw [← hp]
 have HP := Aside0.mk hp
 clear hp
 unfold pcells
 have hfld : ∀ w_ : World, (Instr.field 47 (.agg #[.int .i64 p.f0, .int .i64 p.f1, .int .i64 p.f2, .int .i64 p.f3]) 1).run Tryd.prog w_ = .ok (.int .i64 p.f1) w_ := fun _ => by kernel_rfl
 go_wp2_with fail
 refine (ledger_book_unless.row w g _ _ l0_0 l0_1 y1 (decide (0 < p.f1)) 9 _ K.out).mono ?_
 rintro e w4 ⟨rfl, hk4, hs4⟩
 obtain ⟨y2, hy2⟩ : ∃ y2, y2 = unl y1 (decide (0 < p.f1)) 9 := ⟨_, rfl⟩
 rw [← hy2] at hk4
 have HY2 := Aside0.mk hy2
 have nR := Aside0.mk (blk_kept BR.out hs4 (blk_ne BR.out K.out.blk (by decide)))
 clear K BR hs4 hy2
 have K := Aside0.mk hk4
 have BR := nR
 clear hk4 nR
 go_wp2_with fail
 refine (ledger_book_post.row w g _ _ l0_0 l0_1 y2 ⟨a1, 1, 2, a2⟩ _ K.out (fun h_ => good_len (by exact good_of_why HY0.out (unl_zero (by decide) ((HY1.out.symm).trans (unl_zero (by decide) ((HY2.out.symm).trans (postE_zero h_)))))))).mono ?_
 rintro e w7 ⟨rfl, hs7, vp1, vq1, hk7⟩
 obtain ⟨y3, hy3⟩ : ∃ y3, y3 = postWs l0_0 l0_1 y2 ⟨a1, 1, 2, a2⟩ := ⟨_, rfl⟩
 rw [← hy3] at hk7
 have HY3 := Aside0.mk hy3
 have nR := Aside0.mk (blk_kept BR.out hs7 (K.out.other BR.out (by decide) (by decide) (by decide)))
 clear K BR hs7 hy3
 have K := Aside0.mk hk7
 have BR := nR
 clear hk7 nR
 go_wp2_with fail
 refine (ledger_book_end.row w g _ _ _ _ y3 _ K.out).mono ?_
 rintro e w8 ⟨v1, v2, rfl, hr1, hr2, hb8, hb9⟩
 obtain ⟨AE, cE, rfl⟩ := Kd.R_slice hr1
 obtain ⟨AF, cF, rfl⟩ := Kd.R_slice hr2
 have R1 := Aside0.mk hr1
 have R2 := Aside0.mk hr2
 have HBE := Aside0.mk hb8
 have nR := Aside0.mk (blk_below BR.out hb9)
 clear K BR hr1 hr2 hb8 hb9
 have BR := nR
 clear nR
 have hr0 := (blk_cell BR.out 0).trans rfl
 have hr1 := (blk_cell BR.out 1).trans rfl
 have hf0 := blk_frozen BR.out 0
 have hf1 := blk_frozen BR.out 1
 have HY : Aside0 (y2 = authW l0_0 l0_1 a1 a2) := ⟨by rw [HY2.out, HY1.out, HY0.out, HP.out, HAM.out]; rfl⟩
 have HRES3 : Aside0 (y3 = r3) := ⟨by have h_ := HRES.out; unfold doneV at h_; rw [← HY.out, ← HY3.out] at h_; exact congrArg (fun z => z.2.2) h_⟩
 have HRES1 : Aside0 (endL y3 (postPs l0_0 l0_1 y2 ⟨a1, 1, 2, a2⟩) = r1) := ⟨by have h_ := HRES.out; unfold doneV at h_; rw [← HY.out, ← HY3.out] at h_; exact congrArg (fun z => z.1) h_⟩
 have HRES2 : Aside0 (endL y3 (postQs l0_1 y2 ⟨a1, 1, 2, a2⟩) = r2) := ⟨by have h_ := HRES.out; unfold doneV at h_; rw [← HY.out, ← HY3.out] at h_; exact congrArg (fun z => z.2.1) h_⟩
 clear HRES
 go_wp2_with fail
 refine bodyPost_ret (results_ct rfl _ _ gr 35 #[.slice AE _ cE, .slice AF _ cF] (0, 0) _ rfl (set2B BR.out _ _) Tryd.underlying35 rfl (by kernel_rfl)) rfl ⟨_, _, by rw [← HRES3.out]; rfl, by rw [← HRES1.out]; exact set2R R1.out BR.out (by decide) _ _, by rw [← HRES2.out]; exact set2R R2.out BR.out (by decide) _ _, set2W HBE.out GR.out _ _⟩
end Go.Proofs.YtdiopojnkjkgmaaDoor.Print
namespace Go.Proofs.YtdiopojnkjkgmaaDoor.Print
open Go.RowKit Go.Proofs.YtdiopojnkjkgmaaDoorW.PrintWords Go.Proofs.YtdiopojnkjkgmaaDoorW.PrintLast Go.Proofs.YtdiopojnkjkgmaaDoorW.PrintMore
attribute [local go_sem] max2_mx min2_mn max_two min_two max_three min_three max_four min_four
set_option linter.unusedVariables false
set_option linter.unusedSimpArgs false
def setW (ps : List S47) (qs : List S69) (n : Int) : Int := unl (opW ps qs n) ((payOf ps n).f1 == 0) 9
def setV (ps : List S47) (qs : List S69) (y : Int) (x : S69) : List S47 × List S69 × Int × Int := (endL (postWs ps qs y x) (postPs ps qs y x), endL (postWs ps qs y x) (postQs qs y x), (if postWs ps qs y x = 0 then x.f3 else 0), postWs ps qs y x)
def ledger_settle.f (l0_0 : List S47) (l0_1 : List S69) (a1 a2 : Int) : Option (List S47 × List S69 × Int × Int) := if l0_0.length * 32 ≤ 140737488355328 ∧ l0_1.length * 24 ≤ 140737488355328 then some (setV l0_0 l0_1 (setW l0_0 l0_1 a1) ⟨a1, 2, a2, (payOf l0_0 a1).f1⟩) else none
set_option maxHeartbeats 8000000 in
set_option maxRecDepth 100000 in
theorem ledger_settle.calls (A0_0 : Option Addr) (c0_0 : Nat) (l0_0 : List (S47)) (A0_1 : Option Addr) (c0_1 : Nat) (l0_1 : List (S69)) (a1 a2 : Int) (r1 : List S47) (r2 : List S69) (r3 r4 : Int) (w : World) (hr0_0 : Kd.C k47 w A0_0 l0_0.length l0_0) (hc0_0 : l0_0.length ≤ c0_0) (hr0_1 : Kd.C k69 w A0_1 l0_1.length l0_1) (hc0_1 : l0_1.length ≤ c0_1) (h : ledger_settle.f l0_0 l0_1 a1 a2 = some (r1, r2, r3, r4)) :
  Calls Tryd.prog 30 #[.agg #[.slice A0_0 l0_0.length c0_0, .slice A0_1 l0_1.length c0_1], .int .i64 a1, .int .u8 a2] w fun e w' => ∃ v1_ v2_ : Value, e = .returned (.tuple #[.agg #[v1_, v2_], .int .i64 r3, .int .i64 r4]) ∧ Kd.R k47 47 w' w.heap.size (fun _ => True) v1_ r1 ∧ Kd.R k69 69 w' w.heap.size (fun _ => True) v2_ r2 ∧ Below w.heap.size w w' := by
 unfold ledger_settle.f at h
 split at h
 case isFalse => cases h
 case isTrue hbig =>
 have HBIG := Aside0.mk hbig
 have HRES := Aside0.mk (Option.some.inj h)
 clear h hbig
 have hu25 := Tryd.underlying35
 have hu31 := Tryd.underlying47
 have hu55 := Tryd.underlying69
 have HR0 := Aside0.mk hr0_0
 have HC0 := Aside0.mk hc0_0
 have HR1 := Aside0.mk hr0_1
 have HC1 := Aside0.mk hc0_1
 clear hr0_0 hc0_0 hr0_1 hc0_1
 go_enter Tryd.func30, Tryd.ntmps30
 go_wp2_with (first | ((with_reducible refine gate_dst (N := 3) rfl ?_); refine box_event ?hg (N := 3) ?hd (cs := #[.slice A0_0 l0_0.length c0_0, .slice A0_1 l0_1.length c0_1]) (t := 35) ?hr ?_; (case hd => rfl); (case hg => rfl); (case hr => first | (go_simp; done) | (go_simp; rfl)); intro gb hgb w1 hbox hb; have BB := Aside0.mk hbox; have HB := Aside0.mk hb; clear hbox hb hgb) | ((with_reducible refine gate_dst (N := 6) rfl ?_); refine box_event ?hg (N := 6) ?hd (cs := #[.slice none 0 0, .slice none 0 0]) (t := 35) ?hr ?_; (case hd => rfl); (case hg => rfl); (case hr => first | (go_simp; done) | (go_simp; rfl)); intro gr hgr w2 hbox hb; have BR := Aside0.mk hbox; have BB2 := Aside0.mk (blk_below BB.out hb); have HB2 := Aside0.mk (below_step HB.out hb); have GR : Aside0 (w.heap.size ≤ gr) := ⟨by rw [hgr]; exact HB.out.size⟩; have hb0 := (blk_cell BB2.out 0).trans rfl; have hb1 := (blk_cell BB2.out 1).trans rfl; clear hbox hb hgr BB HB))
 refine (ledger_open.row A0_0 c0_0 l0_0 A0_1 c0_1 l0_1 a1 _ (Kd.C_below HR0.out HB2.out) HC0.out (Kd.C_below HR1.out HB2.out) HC1.out HBIG.out.1 HBIG.out.2).mono ?_
 rintro e w3 ⟨g, vp, vq, rfl, hk3⟩
 obtain ⟨y0, hy0⟩ : ∃ y0, y0 = opW l0_0 l0_1 a1 := ⟨_, rfl⟩
 rw [← hy0] at hk3
 have HY0 := Aside0.mk hy0
 have K := Aside0.mk (hk3.lower HB2.out)
 have BR2 := Aside0.mk (blk_below BR.out hk3.hb)
 clear hb0 hb1 hk3 hy0 BR BB2 HB2
 have BR := BR2
 clear BR2
 go_wp2_with fail
 refine (ledger_book_pay.row w g _ _ l0_0 l0_1 y0 a1 _ K.out (by have := HBIG.out.1; omega)).mono ?_
 rintro e w6 ⟨rfl, hb6⟩
 have nK := Aside0.mk (K.out.below hb6)
 have nR := Aside0.mk (blk_below BR.out hb6)
 clear K BR hb6
 have K := nK
 have BR := nR
 clear nK nR
 obtain ⟨p, hp⟩ : ∃ p, p = payOf l0_0 a1 := ⟨_, rfl⟩
 rw [← hp]
 have HP := Aside0.mk hp
 clear hp
 unfold pcells
 have hfld : ∀ w_ : World, (Instr.field 47 (.agg #[.int .i64 p.f0, .int .i64 p.f1, .int .i64 p.f2, .int .i64 p.f3]) 1).run Tryd.prog w_ = .ok (.int .i64 p.f1) w_ := fun _ => by kernel_rfl
 go_wp2_with fail
 refine (ledger_book_unless.row w g _ _ l0_0 l0_1 y0 (p.f1 == 0) 9 _ K.out).mono ?_
 rintro e w4 ⟨rfl, hk4, hs4⟩
 obtain ⟨y1, hy1⟩ : ∃ y1, y1 = unl y0 (p.f1 == 0) 9 := ⟨_, rfl⟩
 rw [← hy1] at hk4
 have HY1 := Aside0.mk hy1
 have nR := Aside0.mk (blk_kept BR.out hs4 (blk_ne BR.out K.out.blk (by decide)))
 clear K BR hs4 hy1
 have K := Aside0.mk hk4
 have BR := nR
 clear hk4 nR
 go_wp2_with fail
 refine (ledger_book_post.row w g _ _ l0_0 l0_1 y1 ⟨a1, 2, a2, p.f1⟩ _ K.out (fun h_ => good_len (by exact good_of_why HY0.out (unl_zero (by decide) ((HY1.out.symm).trans (postE_zero h_)))))).mono ?_
 rintro e w7 ⟨rfl, hs7, vp1, vq1, hk7⟩
 obtain ⟨y3, hy3⟩ : ∃ y3, y3 = postWs l0_0 l0_1 y1 ⟨a1, 2, a2, p.f1⟩ := ⟨_, rfl⟩
 rw [← hy3] at hk7
 have HY3 := Aside0.mk hy3
 have nR := Aside0.mk (blk_kept BR.out hs7 (K.out.other BR.out (by decide) (by decide) (by decide)))
 clear K BR hs7 hy3
 have K := Aside0.mk hk7
 have BR := nR
 clear hk7 nR
 go_wp2_with fail
 refine (ledger_book_end.row w g _ _ _ _ y3 _ K.out).mono ?_
 rintro e w8 ⟨v1, v2, rfl, hr1, hr2, hb8, hb9⟩
 obtain ⟨AE, cE, rfl⟩ := Kd.R_slice hr1
 obtain ⟨AF, cF, rfl⟩ := Kd.R_slice hr2
 have R1 := Aside0.mk hr1
 have R2 := Aside0.mk hr2
 have HBE := Aside0.mk hb8
 have nR := Aside0.mk (blk_below BR.out hb9)
 clear K BR hr1 hr2 hb8 hb9
 have BR := nR
 clear nR
 go_upto_region 6 with (first | ((with_reducible refine gate_dst (N := 11) rfl ?_); refine box_event ?hg (N := 11) ?hd (cs := #[.slice none 0 0, .slice none 0 0]) (t := 35) ?hr ?_; (case hd => rfl); (case hg => rfl); (case hr => first | (go_simp; done) | (go_simp; rfl)); intro go hgo w9 hbox hb; have BO := Aside0.mk hbox; have nR := Aside0.mk (blk_below BR.out hb); have GO : Aside0 (w.heap.size ≤ go ∧ gr ≠ go) := ⟨by rw [hgo]; exact ⟨HBE.out.size, Nat.ne_of_lt (blk_lt BR.out)⟩⟩; have n1 := Aside0.mk (Kd.R_below R1.out hb); have n2 := Aside0.mk (Kd.R_below R2.out hb); have n3 := Aside0.mk (below_step HBE.out hb); have hq0 := (blk_cell BO.out 0).trans rfl; have hq1 := (blk_cell BO.out 1).trans rfl; have hf0 := blk_frozen BO.out 0; have hf1 := blk_frozen BO.out 1; clear hbox hb hgo BR R1 R2 HBE; have BR := nR; have R1 := n1; have R2 := n2; have HBE := n3; clear nR n1 n2 n3))
 clear hq0 hq1 hf0 hf1
 have hr0 := (blk_cell (set2F BR.out GO.out.2 (.slice AE (endL y3 (postPs l0_0 l0_1 y1 ⟨a1, 2, a2, p.f1⟩)).length cE) (.slice AF (endL y3 (postQs l0_1 y1 ⟨a1, 2, a2, p.f1⟩)).length cF)) 0).trans rfl
 have hr1 := (blk_cell (set2F BR.out GO.out.2 (.slice AE (endL y3 (postPs l0_0 l0_1 y1 ⟨a1, 2, a2, p.f1⟩)).length cE) (.slice AF (endL y3 (postQs l0_1 y1 ⟨a1, 2, a2, p.f1⟩)).length cF)) 1).trans rfl
 have hf0 := blk_frozen (set2F BR.out GO.out.2 (.slice AE (endL y3 (postPs l0_0 l0_1 y1 ⟨a1, 2, a2, p.f1⟩)).length cE) (.slice AF (endL y3 (postQs l0_1 y1 ⟨a1, 2, a2, p.f1⟩)).length cF)) 0
 have hf1 := blk_frozen (set2F BR.out GO.out.2 (.slice AE (endL y3 (postPs l0_0 l0_1 y1 ⟨a1, 2, a2, p.f1⟩)).length cE) (.slice AF (endL y3 (postQs l0_1 y1 ⟨a1, 2, a2, p.f1⟩)).length cF)) 1
 have ho0 := (blk_cell (set2B BO.out (.slice AE (endL y3 (postPs l0_0 l0_1 y1 ⟨a1, 2, a2, p.f1⟩)).length cE) (.slice AF (endL y3 (postQs l0_1 y1 ⟨a1, 2, a2, p.f1⟩)).length cF)) 0).trans rfl
 have ho1 := (blk_cell (set2B BO.out (.slice AE (endL y3 (postPs l0_0 l0_1 y1 ⟨a1, 2, a2, p.f1⟩)).length cE) (.slice AF (endL y3 (postQs l0_1 y1 ⟨a1, 2, a2, p.f1⟩)).length cF)) 1).trans rfl
 have nR := Aside0.mk (set2F BR.out GO.out.2 (.slice AE (endL y3 (postPs l0_0 l0_1 y1 ⟨a1, 2, a2, p.f1⟩)).length cE) (.slice AF (endL y3 (postQs l0_1 y1 ⟨a1, 2, a2, p.f1⟩)).length cF))
 have n1 := Aside0.mk (set2R R1.out BO.out (by decide) (.slice AE (endL y3 (postPs l0_0 l0_1 y1 ⟨a1, 2, a2, p.f1⟩)).length cE) (.slice AF (endL y3 (postQs l0_1 y1 ⟨a1, 2, a2, p.f1⟩)).length cF))
 have n2 := Aside0.mk (set2R R2.out BO.out (by decide) (.slice AE (endL y3 (postPs l0_0 l0_1 y1 ⟨a1, 2, a2, p.f1⟩)).length cE) (.slice AF (endL y3 (postQs l0_1 y1 ⟨a1, 2, a2, p.f1⟩)).length cF))
 have n3 := Aside0.mk (set2W HBE.out GO.out.1 (.slice AE (endL y3 (postPs l0_0 l0_1 y1 ⟨a1, 2, a2, p.f1⟩)).length cE) (.slice AF (endL y3 (postQs l0_1 y1 ⟨a1, 2, a2, p.f1⟩)).length cF))
 clear BR R1 R2 HBE BO
 have BR := nR
 have R1 := n1
 have R2 := n2
 have HBE := n3
 clear nR n1 n2 n3
 generalize ((w9.setCell ⟨go, 0, none⟩ (.slice AE (endL y3 (postPs l0_0 l0_1 y1 ⟨a1, 2, a2, p.f1⟩)).length cE)).setCell ⟨go, 1, none⟩ (.slice AF (endL y3 (postQs l0_1 y1 ⟨a1, 2, a2, p.f1⟩)).length cF)) = wE at BR R1 R2 HBE hr0 hr1 hf0 hf1 ho0 ho1 ⊢
 have HY : Aside0 (y1 = setW l0_0 l0_1 a1) := ⟨by rw [HY1.out, HY0.out, HP.out]; rfl⟩
 have h_ := HRES.out
 unfold setV at h_
 rw [← HP.out, ← HY.out, ← HY3.out] at h_
 have HRES4 : Aside0 (y3 = r4) := ⟨congrArg (fun z => z.2.2.2) h_⟩
 have HRES3 : Aside0 ((if y3 = 0 then p.f1 else 0) = r3) := ⟨congrArg (fun z => z.2.2.1) h_⟩
 have HRES1 : Aside0 (endL y3 (postPs l0_0 l0_1 y1 ⟨a1, 2, a2, p.f1⟩) = r1) := ⟨congrArg (fun z => z.1) h_⟩
 have HRES2 : Aside0 (endL y3 (postQs l0_1 y1 ⟨a1, 2, a2, p.f1⟩) = r2) := ⟨congrArg (fun z => z.2.1) h_⟩
 clear h_ HRES
 by_cases hz : y3 = 0
 ·have HR3 : Aside0 (p.f1 = r3) := ⟨by rw [← HRES3.out, if_pos hz]⟩
  have e1 : (y3 == 0) = true := beq_iff_eq.mpr hz
  have e2 : (y3 != 0) = false := bne_eq_false_iff_eq.mpr hz
  have HZ : Aside0 ((0 : Int) = r4) := ⟨by rw [← HRES4.out, hz]⟩
  clear hz
  go_wp2_with fail
  refine bodyPost_ret (results_ctt rfl _ _ gr 35 #[.slice AE _ cE, .slice AF _ cF] (0, 0) _ rfl (set2B BR.out _ _) Tryd.underlying35 rfl (by kernel_rfl)) rfl ⟨_, _, by rw [← HR3.out, ← HZ.out]; rfl, by rw [← HRES1.out]; exact set2R R1.out BR.out (by decide) _ _, by rw [← HRES2.out]; exact set2R R2.out BR.out (by decide) _ _, set2W HBE.out GR.out _ _⟩
 ·have HR3 : Aside0 ((0 : Int) = r3) := ⟨by rw [← HRES3.out, if_neg hz]⟩
  have e1 : (y3 == 0) = false := beq_eq_false_iff_ne.mpr hz
  have e2 : (y3 != 0) = true := bne_iff_ne.mpr hz
  clear hz
  go_wp2_with fail
  refine bodyPost_ret (results_ctt rfl _ _ gr 35 #[.slice AE _ cE, .slice AF _ cF] (0, 0) _ rfl (set2B BR.out _ _) Tryd.underlying35 rfl (by kernel_rfl)) rfl ⟨_, _, by rw [← HR3.out, ← HRES4.out]; rfl, by rw [← HRES1.out]; exact set2R R1.out BR.out (by decide) _ _, by rw [← HRES2.out]; exact set2R R2.out BR.out (by decide) _ _, set2W HBE.out GR.out _ _⟩
end Go.Proofs.YtdiopojnkjkgmaaDoor.Print
namespace Go.Proofs.YtdiopojnkjkgmaaDoor.Print
open Go.RowKit Go.Proofs.YtdiopojnkjkgmaaDoorW.PrintWords Go.Proofs.YtdiopojnkjkgmaaDoorW.PrintLast Go.Proofs.YtdiopojnkjkgmaaDoorW.PrintMore
attribute [local go_sem] max2_mx min2_mn max_two min_two max_three min_three max_four min_four
set_option linter.unusedVariables false
set_option linter.unusedSimpArgs false
def ledger_Capture.f (l0_0 : List (S47)) (l0_1 : List (S69)) (a1 : Int) : Option ((List (S47)) × (List (S69)) × Int × Int) := (ledger_settle.f l0_0 l0_1 a1 3).bind fun bt188 => (some (bt188.1, bt188.2.1, bt188.2.2.1, bt188.2.2.2))
set_option maxHeartbeats 8000000 in
set_option maxRecDepth 100000 in
theorem ledger_Capture.calls (A0_0 : Option Addr) (c0_0 : Nat) (l0_0 : List (S47)) (A0_1 : Option Addr) (c0_1 : Nat) (l0_1 : List (S69)) (a1 : Int) (r1 : List (S47)) (r2 : List (S69)) (r3 : Int) (r4 : Int) (w : World) (hr0_0 : Kd.C k47 w A0_0 l0_0.length l0_0) (hc0_0 : l0_0.length ≤ c0_0) (hr0_1 : Kd.C k69 w A0_1 l0_1.length l0_1) (hc0_1 : l0_1.length ≤ c0_1) (h : ledger_Capture.f l0_0 l0_1 a1 = some (r1, r2, r3, r4)) :
  Calls Tryd.prog 10 #[.agg #[.slice A0_0 l0_0.length c0_0, .slice A0_1 l0_1.length c0_1], .int .i64 a1] w fun e w' => ∃ v0_ v1_ : Value, e = .returned (.tuple #[.agg #[v0_, v1_], .int .i64 r3, .int .i64 r4]) ∧ Kd.R k47 47 w' w.heap.size (fun _ => True) v0_ r1 ∧ Kd.R k69 69 w' w.heap.size (fun _ => True) v1_ r2 ∧ Below w.heap.size w w' := by
 have hu35 := Tryd.underlying35
 have HR0_0 := Aside0.mk hr0_0
 have HC0_0 := Aside0.mk hc0_0
 clear hr0_0 hc0_0
 have HR0_1 := Aside0.mk hr0_1
 have HC0_1 := Aside0.mk hc0_1
 clear hr0_1 hc0_1
 have HB := Aside0.mk (Below.refl w.heap.size w)
 have H : ((ledger_settle.f l0_0 l0_1 a1 3).bind fun bt188 => (some (bt188.1, bt188.2.1, bt188.2.2.1, bt188.2.2.2))) = some (r1, r2, r3, r4) := h
 clear h
 obtain ⟨⟨t188, t191, t194, t195⟩, A3, H⟩ := zm H
 (try dsimp only at H)
 simp only [Option.some.injEq, Prod.mk.injEq] at H
 obtain ⟨rfl, rfl, rfl, rfl⟩ := H
 go_enter Tryd.func10, Tryd.ntmps10
 go_wp2_with (first | ((with_reducible refine gate_dst (N := 2) rfl ?_); refine box_event ?hg (N := 2) ?hd (cs := #[.slice A0_0 l0_0.length c0_0, .slice A0_1 l0_1.length c0_1]) (t := 35) ?hr ?_; (case hd => rfl); (case hg => rfl); (case hr => first | (go_simp; done) | (go_simp; rfl)); intro gb186 hg w4 hbox hb; have BK186 := Aside0.mk (hbox); have GW186 := Aside0.mk ((by rw [hg]; exact (below_size (zh0_ HB.out)) : w.heap.size ≤ gb186)); have GE186 := Aside0.mk ((by rw [hg]; exact (below_size (zh0_ HB.out)) : w.heap.size ≤ gb186)); replace HB := Aside0.mk (below_step (zh0_ HB.out) hb); clear hb hbox hg) | ((with_reducible refine gate_dst (N := 4) rfl ?_); refine box_event ?hg (N := 4) ?hd (cs := #[.slice none 0 0, .slice none 0 0]) (t := 35) ?hr ?_; (case hd => rfl); (case hg => rfl); (case hr => first | (go_simp; done) | (go_simp; rfl)); intro gb187 hg w5 hbox hb; have BK187 := Aside0.mk (hbox); have GW187 := Aside0.mk ((by rw [hg]; exact (below_size (zh1_ HB.out GE186.out)) : w.heap.size ≤ gb187)); have GE187 := Aside0.mk ((by rw [hg]; exact (below_size (zh1_ HB.out GE186.out)) : w.heap.size ≤ gb187)); replace HB := Aside0.mk (below_step (zh1_ HB.out GE186.out) hb); have NB186_187 := Aside0.mk ((by rw [hg]; exact Nat.ne_of_lt (blk_lt (zb_ BK186.out)) : gb186 ≠ gb187)); have NB187_186 := Aside0.mk ((by rw [hg]; exact Nat.ne_of_gt (blk_lt (zb_ BK186.out)) : gb187 ≠ gb186)); replace BK186 := Aside0.mk (blk_below (zb_ BK186.out) hb); clear hb hbox hg; have hnb6 := NB186_187.out; have hnc6 := NB187_186.out; have hcz7_0 : w5.cell? ⟨gb186, 0, none⟩ = some (.slice A0_0 l0_0.length c0_0) := (blk_cell BK186.out 0).trans rfl; have hcz7_1 : w5.cell? ⟨gb186, 1, none⟩ = some (.slice A0_1 l0_1.length c0_1) := (blk_cell BK186.out 1).trans rfl; have hfz7_0 := blk_frozen BK186.out 0; have hfz7_1 := blk_frozen BK186.out 1) | ((with_reducible refine gate_callee (f := 30) rfl ?_); refine goesL_ (some 9) rfl rfl Tryd.func30 (by kernel_rfl) rfl #[.agg #[.slice A0_0 l0_0.length c0_0, .slice A0_1 l0_1.length c0_1], .int .i64 a1, .int .u8 3] rfl zl_ ?_; (with_reducible refine (ledger_settle.calls _ _ l0_0 _ _ l0_1 a1 3 t188 t191 t194 t195 _ ?side1 ?side2 ?side3 ?side4 A3.out).mono ?_); (case side1 => exact zc_ (Kd.C_below HR0_0.out HB.out)); (case side2 => exact HC0_0.out); (case side3 => exact zc_ (Kd.C_below HR0_1.out HB.out)); (case side4 => exact HC0_1.out); rintro e w8 ⟨v189, v192, rfl, ho0, ho1, hb⟩; refine ⟨_, rfl, ?_⟩; have HO190 := Aside0.mk (Kd.R_lower ho0 (below_size (zh2_ HB.out GE186.out GE187.out))); have HO193 := Aside0.mk (Kd.R_lower ho1 (below_size (zh2_ HB.out GE186.out GE187.out))); replace BK186 := Aside0.mk (blk_below (zb_ BK186.out) hb); replace BK187 := Aside0.mk (blk_below (zb_ BK187.out) hb); replace HB := Aside0.mk (below_step (zh2_ HB.out GE186.out GE187.out) hb); (try clear hb); (try clear ho0); (try clear ho1); obtain ⟨Ao9, co9, eo9⟩ := Kd.R_slice HO190.out; subst eo9; have hcz10_0 : w8.cell? ⟨gb187, 0, none⟩ = some (.slice none 0 0) := (blk_cell BK187.out 0).trans rfl; have hcz10_1 : w8.cell? ⟨gb187, 1, none⟩ = some (.slice none 0 0) := (blk_cell BK187.out 1).trans rfl; have hfz10_0 := blk_frozen BK187.out 0; have hfz10_1 := blk_frozen BK187.out 1; obtain ⟨Ao11, co11, eo11⟩ := Kd.R_slice HO193.out; subst eo11))
 refine bodyPost_ret (results_ctt rfl _ _ gb187 35 #[.slice Ao9 t188.length co9, .slice Ao11 t191.length co11] (0, 0) _ rfl (zp2_ BK187.out) Tryd.underlying35 rfl (by kernel_rfl)) rfl ?_
 exact ⟨_, _, by first | rfl | (simp [errW_none, errW_some] <;> rfl) | (simp [*, errW_none, errW_some] <;> rfl), by (with_reducible repeat (first | apply Kd.R_alloc | apply Kd.R_drewN | apply Kd.R_drew)); exact Kd.R_mono (Kd.R_far (p := ⟨gb187, 1, none⟩) (Kd.R_far (p := ⟨gb187, 0, none⟩) (Kd.R_types HO190.out BK187.out (by decide)) (fun _ hk => hk.2) (.slice Ao9 t188.length co9)) (fun _ hk => hk.2) (.slice Ao11 t191.length co11)) (fun _ hk => trivial), by (with_reducible repeat (first | apply Kd.R_alloc | apply Kd.R_drewN | apply Kd.R_drew)); exact Kd.R_mono (Kd.R_far (p := ⟨gb187, 1, none⟩) (Kd.R_far (p := ⟨gb187, 0, none⟩) (Kd.R_types HO193.out BK187.out (by decide)) (fun _ hk => hk.2) (.slice Ao9 t188.length co9)) (fun _ hk => hk.2) (.slice Ao11 t191.length co11)) (fun _ hk => trivial), by exact zh2_ HB.out GE186.out GE187.out⟩
end Go.Proofs.YtdiopojnkjkgmaaDoor.Print
namespace Go.Proofs.YtdiopojnkjkgmaaDoor.Print
open Go.RowKit Go.Proofs.YtdiopojnkjkgmaaDoorW.PrintWords Go.Proofs.YtdiopojnkjkgmaaDoorW.PrintLast Go.Proofs.YtdiopojnkjkgmaaDoorW.PrintMore
attribute [local go_sem] max2_mx min2_mn max_two min_two max_three min_three max_four min_four
set_option linter.unusedVariables false
set_option linter.unusedSimpArgs false
def refW (ps : List S47) (qs : List S69) (n a : Int) : Int := unl (unl (opW ps qs n) (!(decide (1 ≤ a) && decide (a ≤ 1152921504606846976))) 2) (decide (wrap64 ((payOf ps n).f2 - (payOf ps n).f3) < a)) 13
def ledger_Refund.f (l0_0 : List S47) (l0_1 : List S69) (a1 a2 : Int) : Option (List S47 × List S69 × Int) := if l0_0.length * 32 ≤ 140737488355328 ∧ l0_1.length * 24 ≤ 140737488355328 then some (doneV l0_0 l0_1 (refW l0_0 l0_1 a1 a2) ⟨a1, 3, 1, a2⟩) else none
set_option maxHeartbeats 8000000 in
set_option maxRecDepth 100000 in
theorem ledger_Refund.calls (A0_0 : Option Addr) (c0_0 : Nat) (l0_0 : List (S47)) (A0_1 : Option Addr) (c0_1 : Nat) (l0_1 : List (S69)) (a1 a2 : Int) (r1 : List S47) (r2 : List S69) (r3 : Int) (w : World) (hr0_0 : Kd.C k47 w A0_0 l0_0.length l0_0) (hc0_0 : l0_0.length ≤ c0_0) (hr0_1 : Kd.C k69 w A0_1 l0_1.length l0_1) (hc0_1 : l0_1.length ≤ c0_1) (h : ledger_Refund.f l0_0 l0_1 a1 a2 = some (r1, r2, r3)) :
  Calls Tryd.prog 14 #[.agg #[.slice A0_0 l0_0.length c0_0, .slice A0_1 l0_1.length c0_1], .int .i64 a1, .int .i64 a2] w fun e w' => ∃ v1_ v2_ : Value, e = .returned (.tuple #[.agg #[v1_, v2_], .int .i64 r3]) ∧ Kd.R k47 47 w' w.heap.size (fun _ => True) v1_ r1 ∧ Kd.R k69 69 w' w.heap.size (fun _ => True) v2_ r2 ∧ Below w.heap.size w w' := by
 unfold ledger_Refund.f at h
 split at h
 case isFalse => cases h
 case isTrue hbig =>
 have HBIG := Aside0.mk hbig
 have HRES := Aside0.mk (Option.some.inj h)
 clear h hbig
 have hu25 := Tryd.underlying35
 have hu31 := Tryd.underlying47
 have hu55 := Tryd.underlying69
 have HR0 := Aside0.mk hr0_0
 have HC0 := Aside0.mk hc0_0
 have HR1 := Aside0.mk hr0_1
 have HC1 := Aside0.mk hc0_1
 clear hr0_0 hc0_0 hr0_1 hc0_1
 obtain ⟨am, ham⟩ : ∃ am, am = (decide (1 ≤ a2) && decide (a2 ≤ 1152921504606846976)) := ⟨_, rfl⟩
 have AM : Aside0 (ledger_amount.f a2 = some am) := ⟨by rw [ham]; exact amount_is a2⟩
 have HAM := Aside0.mk ham
 clear ham
 go_enter Tryd.func14, Tryd.ntmps14
 go_wp2_with (first | ((with_reducible refine gate_dst (N := 3) rfl ?_); refine box_event ?hg (N := 3) ?hd (cs := #[.slice A0_0 l0_0.length c0_0, .slice A0_1 l0_1.length c0_1]) (t := 35) ?hr ?_; (case hd => rfl); (case hg => rfl); (case hr => first | (go_simp; done) | (go_simp; rfl)); intro gb hgb w1 hbox hb; have BB := Aside0.mk hbox; have HB := Aside0.mk hb; clear hbox hb hgb) | ((with_reducible refine gate_dst (N := 6) rfl ?_); refine box_event ?hg (N := 6) ?hd (cs := #[.slice none 0 0, .slice none 0 0]) (t := 35) ?hr ?_; (case hd => rfl); (case hg => rfl); (case hr => first | (go_simp; done) | (go_simp; rfl)); intro gr hgr w2 hbox hb; have BR := Aside0.mk hbox; have BB2 := Aside0.mk (blk_below BB.out hb); have HB2 := Aside0.mk (below_step HB.out hb); have GR : Aside0 (w.heap.size ≤ gr) := ⟨by rw [hgr]; exact HB.out.size⟩; have hb0 := (blk_cell BB2.out 0).trans rfl; have hb1 := (blk_cell BB2.out 1).trans rfl; clear hbox hb hgr BB HB))
 refine (ledger_open.row A0_0 c0_0 l0_0 A0_1 c0_1 l0_1 a1 _ (Kd.C_below HR0.out HB2.out) HC0.out (Kd.C_below HR1.out HB2.out) HC1.out HBIG.out.1 HBIG.out.2).mono ?_
 rintro e w3 ⟨g, vp, vq, rfl, hk3⟩
 obtain ⟨y0, hy0⟩ : ∃ y0, y0 = opW l0_0 l0_1 a1 := ⟨_, rfl⟩
 rw [← hy0] at hk3
 have HY0 := Aside0.mk hy0
 have K := Aside0.mk (hk3.lower HB2.out)
 have BR2 := Aside0.mk (blk_below BR.out hk3.hb)
 clear hb0 hb1 hk3 hy0 BR BB2 HB2
 have BR := BR2
 clear BR2
 go_wp2_with fail
 refine (ledger_book_pay.row w g _ _ l0_0 l0_1 y0 a1 _ K.out (by have := HBIG.out.1; omega)).mono ?_
 rintro e w6 ⟨rfl, hb6⟩
 have nK := Aside0.mk (K.out.below hb6)
 have nR := Aside0.mk (blk_below BR.out hb6)
 clear K BR hb6
 have K := nK
 have BR := nR
 clear nK nR
 obtain ⟨p, hp⟩ : ∃ p, p = payOf l0_0 a1 := ⟨_, rfl⟩
 rw [← hp]
 have HP := Aside0.mk hp
 clear hp
 unfold pcells
 go_wp2_with (first | ((with_reducible refine gate_dst (N := 9) rfl ?_); refine box_event ?hg (N := 9) ?hd (cs := #[.int .i64 0, .int .i64 0, .int .i64 0, .int .i64 0]) (t := 47) ?hr ?_; (case hd => rfl); (case hg => rfl); (case hr => first | (go_simp; done) | (go_simp; rfl)); intro gp hgp w7 hbox hb; have nK := Aside0.mk (K.out.below hb); have nR := Aside0.mk (blk_below BR.out hb); have BP := Aside0.mk hbox; have GP : Aside0 (w.heap.size ≤ gp ∧ gr ≠ gp ∧ g ≠ gp ∧ (∀ k, vp.ownBlock = some k → k ≠ gp) ∧ (∀ k, vq.ownBlock = some k → k ≠ gp)) := ⟨by rw [hgp]; exact ⟨K.out.hb.size, Nat.ne_of_lt (blk_lt BR.out), Nat.ne_of_lt (blk_lt K.out.blk), fun k hk he => by have h1 := own_lt (Kd.R_own K.out.rp).choose_spec k hk; omega, fun k hk he => by have h1 := own_lt (Kd.R_own K.out.rq).choose_spec k hk; omega⟩⟩; have hz0 := (blk_cell hbox 0).trans rfl; have hz1 := (blk_cell hbox 1).trans rfl; have hz2 := (blk_cell hbox 2).trans rfl; have hz3 := (blk_cell hbox 3).trans rfl; have hf0 := blk_frozen hbox 0; have hf1 := blk_frozen hbox 1; have hf2 := blk_frozen hbox 2; have hf3 := blk_frozen hbox 3; clear hbox hb hgp K BR; have K := nK; have BR := nR; clear nK nR))
 clear hz0 hz1 hz2 hz3 hf0 hf1 hf2 hf3
 refine (ledger_amount.calls _ _ _ AM.out).mono ?_
 rintro e w5 ⟨rfl, ⟨nd_, rfl⟩⟩
 have nK := Aside0.mk (((((K.out.far GP.out.1 GP.out.2.2.1 GP.out.2.2.2.1 GP.out.2.2.2.2 0 (.int .i64 p.f0)).far GP.out.1 GP.out.2.2.1 GP.out.2.2.2.1 GP.out.2.2.2.2 1 (.int .i64 p.f1)).far GP.out.1 GP.out.2.2.1 GP.out.2.2.2.1 GP.out.2.2.2.2 2 (.int .i64 p.f2)).far GP.out.1 GP.out.2.2.1 GP.out.2.2.2.1 GP.out.2.2.2.2 3 (.int .i64 p.f3)).drewN nd_)
 have nR := Aside0.mk (blk_drewN (set4F BR.out GP.out.2.1 (.int .i64 p.f0) (.int .i64 p.f1) (.int .i64 p.f2) (.int .i64 p.f3)) nd_)
 have nP := Aside0.mk (blk_drewN (set4B BP.out (.int .i64 p.f0) (.int .i64 p.f1) (.int .i64 p.f2) (.int .i64 p.f3)) nd_)
 clear K BR BP
 have K := nK
 have BR := nR
 have BP := nP
 clear nK nR nP
 go_wp2_with fail
 refine (ledger_book_unless.row w g _ _ l0_0 l0_1 y0 (!am) 2 _ K.out).mono ?_
 rintro e w4 ⟨rfl, hk4, hs4⟩
 obtain ⟨y1, hy1⟩ : ∃ y1, y1 = unl y0 (!am) 2 := ⟨_, rfl⟩
 rw [← hy1] at hk4
 have HY1 := Aside0.mk hy1
 have nR := Aside0.mk (blk_kept BR.out hs4 (blk_ne BR.out K.out.blk (by decide)))
 have nP := Aside0.mk (blk_kept BP.out hs4 (blk_ne BP.out K.out.blk (by decide))); clear BP; have BP := nP; clear nP
 clear K BR hs4 hy1
 have K := Aside0.mk hk4
 have BR := nR
 clear hk4 nR
 have hp2 := (blk_cell BP.out 2).trans rfl
 have hp3 := (blk_cell BP.out 3).trans rfl
 go_wp2_with fail
 clear hp2 hp3
 refine (ledger_book_unless.row w g _ _ l0_0 l0_1 y1 (decide (wrap64 (p.f2 - p.f3) < a2)) 13 _ K.out).mono ?_
 rintro e w4 ⟨rfl, hk4, hs4⟩
 obtain ⟨y2, hy2⟩ : ∃ y2, y2 = unl y1 (decide (wrap64 (p.f2 - p.f3) < a2)) 13 := ⟨_, rfl⟩
 rw [← hy2] at hk4
 have HY2 := Aside0.mk hy2
 have nR := Aside0.mk (blk_kept BR.out hs4 (blk_ne BR.out K.out.blk (by decide)))
 have nP := Aside0.mk (blk_kept BP.out hs4 (blk_ne BP.out K.out.blk (by decide))); clear BP; have BP := nP; clear nP
 clear K BR hs4 hy2
 have K := Aside0.mk hk4
 have BR := nR
 clear hk4 nR
 go_wp2_with fail
 refine (ledger_book_post.row w g _ _ l0_0 l0_1 y2 ⟨a1, 3, 1, a2⟩ _ K.out (fun h_ => good_len (by exact good_of_why HY0.out (unl_zero (by decide) ((HY1.out.symm).trans (unl_zero (by decide) ((HY2.out.symm).trans (postE_zero h_)))))))).mono ?_
 rintro e w7 ⟨rfl, hs7, vp1, vq1, hk7⟩
 obtain ⟨y3, hy3⟩ : ∃ y3, y3 = postWs l0_0 l0_1 y2 ⟨a1, 3, 1, a2⟩ := ⟨_, rfl⟩
 rw [← hy3] at hk7
 have HY3 := Aside0.mk hy3
 have nR := Aside0.mk (blk_kept BR.out hs7 (K.out.other BR.out (by decide) (by decide) (by decide)))
 clear K BR hs7 hy3
 have K := Aside0.mk hk7
 have BR := nR
 clear hk7 nR
 go_wp2_with fail
 refine (ledger_book_end.row w g _ _ _ _ y3 _ K.out).mono ?_
 rintro e w8 ⟨v1, v2, rfl, hr1, hr2, hb8, hb9⟩
 obtain ⟨AE, cE, rfl⟩ := Kd.R_slice hr1
 obtain ⟨AF, cF, rfl⟩ := Kd.R_slice hr2
 have R1 := Aside0.mk hr1
 have R2 := Aside0.mk hr2
 have HBE := Aside0.mk hb8
 have nR := Aside0.mk (blk_below BR.out hb9)
 clear K BR hr1 hr2 hb8 hb9
 have BR := nR
 clear nR
 have hr0 := (blk_cell BR.out 0).trans rfl
 have hr1 := (blk_cell BR.out 1).trans rfl
 have hf0 := blk_frozen BR.out 0
 have hf1 := blk_frozen BR.out 1
 have HY : Aside0 (y2 = refW l0_0 l0_1 a1 a2) := ⟨by rw [HY2.out, HY1.out, HY0.out, HP.out, HAM.out]; rfl⟩
 have HRES3 : Aside0 (y3 = r3) := ⟨by have h_ := HRES.out; unfold doneV at h_; rw [← HY.out, ← HY3.out] at h_; exact congrArg (fun z => z.2.2) h_⟩
 have HRES1 : Aside0 (endL y3 (postPs l0_0 l0_1 y2 ⟨a1, 3, 1, a2⟩) = r1) := ⟨by have h_ := HRES.out; unfold doneV at h_; rw [← HY.out, ← HY3.out] at h_; exact congrArg (fun z => z.1) h_⟩
 have HRES2 : Aside0 (endL y3 (postQs l0_1 y2 ⟨a1, 3, 1, a2⟩) = r2) := ⟨by have h_ := HRES.out; unfold doneV at h_; rw [← HY.out, ← HY3.out] at h_; exact congrArg (fun z => z.2.1) h_⟩
 clear HRES
 go_wp2_with fail
 refine bodyPost_ret (results_ct rfl _ _ gr 35 #[.slice AE _ cE, .slice AF _ cF] (0, 0) _ rfl (set2B BR.out _ _) Tryd.underlying35 rfl (by kernel_rfl)) rfl ⟨_, _, by rw [← HRES3.out]; rfl, by rw [← HRES1.out]; exact set2R R1.out BR.out (by decide) _ _, by rw [← HRES2.out]; exact set2R R2.out BR.out (by decide) _ _, set2W HBE.out GR.out _ _⟩
end Go.Proofs.YtdiopojnkjkgmaaDoor.Print
namespace Go.Proofs.YtdiopojnkjkgmaaDoor.Print
open Go.RowKit Go.Proofs.YtdiopojnkjkgmaaDoorW.PrintWords Go.Proofs.YtdiopojnkjkgmaaDoorW.PrintLast Go.Proofs.YtdiopojnkjkgmaaDoorW.PrintMore
attribute [local go_sem] max2_mx min2_mn max_two min_two max_three min_three max_four min_four
set_option linter.unusedVariables false
set_option linter.unusedSimpArgs false
def payV (ps : List S47) (qs : List S69) (n : Int) : Int × Int × Int × Int × Int := if opW ps qs n = 0 then ((payOf ps n).f0, (payOf ps n).f1, (payOf ps n).f2, (payOf ps n).f3, 0) else (0, 0, 0, 0, opW ps qs n)
def ledger_Pay.f (l0_0 : List S47) (l0_1 : List S69) (a1 : Int) : Option (Int × Int × Int × Int × Int) := if l0_0.length * 32 ≤ 140737488355328 ∧ l0_1.length * 24 ≤ 140737488355328 then some (payV l0_0 l0_1 a1) else none
set_option maxHeartbeats 8000000 in
set_option maxRecDepth 100000 in
theorem ledger_Pay.calls (A0_0 : Option Addr) (c0_0 : Nat) (l0_0 : List (S47)) (A0_1 : Option Addr) (c0_1 : Nat) (l0_1 : List (S69)) (a1 : Int) (r1 r2 r3 r4 r5 : Int) (w : World) (hr0_0 : Kd.C k47 w A0_0 l0_0.length l0_0) (hc0_0 : l0_0.length ≤ c0_0) (hr0_1 : Kd.C k69 w A0_1 l0_1.length l0_1) (hc0_1 : l0_1.length ≤ c0_1) (h : ledger_Pay.f l0_0 l0_1 a1 = some (r1, r2, r3, r4, r5)) :
  Calls Tryd.prog 15 #[.agg #[.slice A0_0 l0_0.length c0_0, .slice A0_1 l0_1.length c0_1], .int .i64 a1] w fun e w' => e = .returned (.tuple #[.agg #[.int .i64 r1, .int .i64 r2, .int .i64 r3, .int .i64 r4], .int .i64 r5]) ∧ Below w.heap.size w w' := by
 unfold ledger_Pay.f at h
 split at h
 case isFalse => cases h
 case isTrue hbig =>
 have HBIG := Aside0.mk hbig
 have HRES := Aside0.mk (Option.some.inj h)
 clear h hbig
 have hu25 := Tryd.underlying35
 have hu31 := Tryd.underlying47
 have hu55 := Tryd.underlying69
 have HR0 := Aside0.mk hr0_0
 have HC0 := Aside0.mk hc0_0
 have HR1 := Aside0.mk hr0_1
 have HC1 := Aside0.mk hc0_1
 clear hr0_0 hc0_0 hr0_1 hc0_1
 have hu58 := Tryd.underlying76
 go_enter Tryd.func15, Tryd.ntmps15
 go_wp2_with (first | ((with_reducible refine gate_dst (N := 2) rfl ?_); refine box_event ?hg (N := 2) ?hd (cs := #[.slice A0_0 l0_0.length c0_0, .slice A0_1 l0_1.length c0_1]) (t := 35) ?hr ?_; (case hd => rfl); (case hg => rfl); (case hr => first | (go_simp; done) | (go_simp; rfl)); intro gb hgb w1 hbox hb; have BB := Aside0.mk hbox; have HB := Aside0.mk hb; clear hbox hb hgb) | ((with_reducible refine gate_dst (N := 4) rfl ?_); refine box_event ?hg (N := 4) ?hd (cs := #[.int .i64 0, .int .i64 0, .int .i64 0, .int .i64 0]) (t := 47) ?hr ?_; (case hd => rfl); (case hg => rfl); (case hr => first | (go_simp; done) | (go_simp; rfl)); intro gr hgr w2 hbox hb; have BR := Aside0.mk hbox; have BB2 := Aside0.mk (blk_below BB.out hb); have HB2 := Aside0.mk (below_step HB.out hb); have GR : Aside0 (w.heap.size ≤ gr) := ⟨by rw [hgr]; exact HB.out.size⟩; have hb0 := (blk_cell BB2.out 0).trans rfl; have hb1 := (blk_cell BB2.out 1).trans rfl; clear hbox hb hgr BB HB))
 refine (ledger_open.row A0_0 c0_0 l0_0 A0_1 c0_1 l0_1 a1 _ (Kd.C_below HR0.out HB2.out) HC0.out (Kd.C_below HR1.out HB2.out) HC1.out HBIG.out.1 HBIG.out.2).mono ?_
 rintro e w3 ⟨g, vp, vq, rfl, hk3⟩
 obtain ⟨y0, hy0⟩ : ∃ y0, y0 = opW l0_0 l0_1 a1 := ⟨_, rfl⟩
 rw [← hy0] at hk3
 have HY0 := Aside0.mk hy0
 have K := Aside0.mk (hk3.lower HB2.out)
 have BR2 := Aside0.mk (blk_below BR.out hk3.hb)
 clear hb0 hb1 hk3 hy0 BR BB2 HB2
 have BR := BR2
 clear BR2
 have h2 := (blk_cell K.out.blk 2).trans rfl
 by_cases hz : y0 = 0
 ·subst hz
  go_wp2_with fail
  clear h2
  refine (ledger_book_pay.row w g _ _ l0_0 l0_1 0 a1 _ K.out (by have := HBIG.out.1; omega)).mono ?_
  rintro e w6 ⟨rfl, hb6⟩
  have nK := Aside0.mk (K.out.below hb6)
  have nR := Aside0.mk (blk_below BR.out hb6)
  clear K BR hb6
  have K := nK
  have BR := nR
  clear nK nR
  obtain ⟨p, hp⟩ : ∃ p, p = payOf l0_0 a1 := ⟨_, rfl⟩
  rw [← hp]
  have HP := Aside0.mk hp
  clear hp
  unfold pcells
  have hr0 := (blk_cell BR.out 0).trans rfl
  have hr1 := (blk_cell BR.out 1).trans rfl
  have hr2 := (blk_cell BR.out 2).trans rfl
  have hr3 := (blk_cell BR.out 3).trans rfl
  have hf0 := blk_frozen BR.out 0
  have hf1 := blk_frozen BR.out 1
  have hf2 := blk_frozen BR.out 2
  have hf3 := blk_frozen BR.out 3
  have h_ := HRES.out
  unfold payV at h_
  rw [if_pos HY0.out.symm, ← HP.out] at h_
  cases h_
  go_wp2_with fail
  refine bodyPost_ret (results_ct rfl _ _ gr 47 #[.int .i64 p.f0, .int .i64 p.f1, .int .i64 p.f2, .int .i64 p.f3] (0, 0) _ rfl (set4B BR.out _ _ _ _) Tryd.underlying47 rfl (by kernel_rfl)) rfl ⟨rfl, set4W K.out.hb GR.out _ _ _ _⟩
 ·have e1 : (y0 == 0) = false := beq_eq_false_iff_ne.mpr hz
  have e2 : (y0 != 0) = true := bne_iff_ne.mpr hz
  have h_ := HRES.out
  unfold payV at h_
  rw [if_neg (by rw [← HY0.out]; exact hz), ← HY0.out] at h_
  cases h_
  clear HRES hz
  go_upto_region 3 with (fail)
  clear h2
  refine start_ (n := 7) (S := fun w' => w'.heap[gr]? = some (.cells #[.int .i64 0, .int .i64 0, .int .i64 0, .int .i64 0] 47 (0, 0)) ∧ Below w.heap.size w w' ∧ w'.heap[g]? = some (.cells #[vp, vq, .int .i64 r5] 76 (0, 0)) ∧ w'.cell? ⟨g, 2, none⟩ = some (.int .i64 r5)) (ds := []) #[false, false, false, false, false, false, false] (by kernel_rfl) rfl rfl ⟨(blk_drew BR.out), (below_drew1 K.out.hb), (blk_drew K.out.blk), ((blk_cell K.out.blk 2).trans rfl)⟩ (fun hHeld => ?_)
  generalize w3.drew = wD_ at hHeld ⊢
  refine zpu 0 (some 15) #[true, false, false, false, false, false, false] (by kernel_rfl) ?_
  refine zpu 1 (some 16) #[true, true, false, false, false, false, false] (by kernel_rfl) ?_
  refine zpu 2 (some 17) #[true, true, true, false, false, false, false] (by kernel_rfl) ?_
  refine zpu 3 (some 18) #[true, true, true, true, false, false, false] (by kernel_rfl) ?_
  refine zta 4 (some 19) #[true, true, true, true, true, false, false] (by kernel_rfl) hHeld ?_
  refine one_ (i := 5) (N := none) #[true, true, true, true, true, true, false] rfl rfl (by kernel_rfl) (by decide) (fun K hK => ?_)
  obtain ⟨BR_, HB1, BG_, SW_⟩ := hHeld
  have hr0 := (blk_cell BR_ 0).trans rfl
  have hr1 := (blk_cell BR_ 1).trans rfl
  have hr2 := (blk_cell BR_ 2).trans rfl
  have hr3 := (blk_cell BR_ 3).trans rfl
  have hf0 := blk_frozen BR_ 0
  have hf1 := blk_frozen BR_ 1
  have hf2 := blk_frozen BR_ 2
  have hf3 := blk_frozen BR_ 3
  refine skip_ (w1 := ?_) (by rfl) rfl ?_ ?_
  rotate_left
  ·go_simp
   rfl
  refine hK.out _ _ ⟨(set4B BR_ _ _ _ _), (set4W HB1 GR.out _ _ _ _), (set4F BG_ (blk_ne BG_ BR_ (by decide)) _ _ _ _), ((blk_cell (set4F BG_ (blk_ne BG_ BR_ (by decide)) _ _ _ _) 2).trans rfl)⟩ (fun hHeld => ?_)
  clear hK K
  refine zpu 6 (some 5) #[true, true, true, true, true, true, true] (by kernel_rfl) ?_
  refine done_ (by kernel_rfl) ?_
  obtain ⟨BR_, HB1, BG_, SW_⟩ := hHeld
  go_wp2_with fail
  refine bodyPost_ret (results_ct rfl _ _ gr 47 #[.int .i64 0, .int .i64 0, .int .i64 0, .int .i64 0] (0, 0) _ rfl BR_ Tryd.underlying47 rfl (by kernel_rfl)) rfl ⟨rfl, HB1⟩
end Go.Proofs.YtdiopojnkjkgmaaDoor.Print
namespace Go.Proofs.YtdiopojnkjkgmaaDoor.Print
open Go.RowKit Go.Proofs.YtdiopojnkjkgmaaDoorW.PrintWords Go.Proofs.YtdiopojnkjkgmaaDoorW.PrintLast Go.Proofs.YtdiopojnkjkgmaaDoorW.PrintMore
attribute [local go_sem] max2_mx min2_mn max_two min_two max_three min_three max_four min_four
set_option linter.unusedVariables false
set_option linter.unusedSimpArgs false
def bits_Mul64.f (a0 : Int) (a1 : Int) : Option (Int × Int) := some (IntKind.u64.wrap ((IntKind.u64.wrap ((IntKind.u64.wrap ((a0 / 4294967296) * (a1 / 4294967296))) + ((IntKind.u64.wrap ((IntKind.u64.wrap ((a0 / 4294967296) * (Go.bits .and .u64 a1 4294967295))) + ((IntKind.u64.wrap ((Go.bits .and .u64 a0 4294967295) * (Go.bits .and .u64 a1 4294967295))) / 4294967296))) / 4294967296))) + ((IntKind.u64.wrap ((Go.bits .and .u64 (IntKind.u64.wrap ((IntKind.u64.wrap ((a0 / 4294967296) * (Go.bits .and .u64 a1 4294967295))) + ((IntKind.u64.wrap ((Go.bits .and .u64 a0 4294967295) * (Go.bits .and .u64 a1 4294967295))) / 4294967296))) 4294967295) + (IntKind.u64.wrap ((Go.bits .and .u64 a0 4294967295) * (a1 / 4294967296))))) / 4294967296)), IntKind.u64.wrap (a0 * a1))
set_option maxHeartbeats 8000000 in
set_option maxRecDepth 100000 in
theorem bits_Mul64.calls (a0 : Int) (a1 : Int) (r1 : Int) (r2 : Int) (w : World) (h : bits_Mul64.f a0 a1 = some (r1, r2)) :
  Calls Tryd.prog 53 #[.int .u64 a0, .int .u64 a1] w fun e w' => e = .returned (.tuple #[.int .u64 r1, .int .u64 r2]) ∧ Drawn0 w w' := by
 have H : (some (IntKind.u64.wrap ((IntKind.u64.wrap ((IntKind.u64.wrap ((a0 / 4294967296) * (a1 / 4294967296))) + ((IntKind.u64.wrap ((IntKind.u64.wrap ((a0 / 4294967296) * (Go.bits .and .u64 a1 4294967295))) + ((IntKind.u64.wrap ((Go.bits .and .u64 a0 4294967295) * (Go.bits .and .u64 a1 4294967295))) / 4294967296))) / 4294967296))) + ((IntKind.u64.wrap ((Go.bits .and .u64 (IntKind.u64.wrap ((IntKind.u64.wrap ((a0 / 4294967296) * (Go.bits .and .u64 a1 4294967295))) + ((IntKind.u64.wrap ((Go.bits .and .u64 a0 4294967295) * (Go.bits .and .u64 a1 4294967295))) / 4294967296))) 4294967295) + (IntKind.u64.wrap ((Go.bits .and .u64 a0 4294967295) * (a1 / 4294967296))))) / 4294967296)), IntKind.u64.wrap (a0 * a1))) = some (r1, r2) := h
 clear h
 simp only [Option.some.injEq, Prod.mk.injEq] at H
 obtain ⟨rfl, rfl⟩ := H
 go_enter Tryd.func53, Tryd.ntmps53
 go_wp2
 go_ret2
 exact ⟨by first | rfl | (simp; done) | (simp [*]; done), by repeat (first | exact Drawn0.refl _ | apply Drawn0.step)⟩
end Go.Proofs.YtdiopojnkjkgmaaDoor.Print
namespace Go.Proofs.YtdiopojnkjkgmaaDoor.Print
open Go.RowKit Go.Proofs.YtdiopojnkjkgmaaDoorW.PrintWords Go.Proofs.YtdiopojnkjkgmaaDoorW.PrintLast Go.Proofs.YtdiopojnkjkgmaaDoorW.PrintMore
attribute [local go_sem] max2_mx min2_mn max_two min_two max_three min_three max_four min_four
set_option linter.unusedVariables false
set_option linter.unusedSimpArgs false
theorem money_Mul.and32 (x : Int) (h0 : 0 ≤ x) (h1 : x < 18446744073709551616) : Go.bits .and .u64 x 4294967295 = x % 4294967296 :=
 bits_mask .u64 64 (by decide) (fun x h0 h1 => by rw [IntKind.wrap_u64]; omega) 32 (by decide) x h0 h1
theorem money_Mul.w64 {x : Int} (h0 : 0 ≤ x) (h1 : x < 18446744073709551616) : IntKind.u64.wrap x = x := by rw [IntKind.wrap_u64]; omega
theorem money_Mul.mul_is (x y : Nat) (hx : x < 18446744073709551616) (hy : y < 18446744073709551616) : bits_Mul64.f x y = some (((x * y / 18446744073709551616 : Nat) : Int), ((x * y % 18446744073709551616 : Nat) : Int)) := by
 obtain ⟨h1, h2, h3, h4⟩ := Go.Lib.mul64_hi x y hx hy
 have ha := Go.Lib.half_mul_le (a := x / 4294967296) (b := y / 4294967296) (by omega) (by omega)
 have hb := Go.Lib.half_mul_le (a := x / 4294967296) (b := y % 4294967296) (by omega) (by omega)
 have hc := Go.Lib.half_mul_le (a := x % 4294967296) (b := y / 4294967296) (by omega) (by omega)
 have hd := Go.Lib.half_mul_le (a := x % 4294967296) (b := y % 4294967296) (by omega) (by omega)
 unfold bits_Mul64.f
 rw [money_Mul.and32 (x : Int) (by omega) (by omega), money_Mul.and32 (y : Int) (by omega) (by omega)]
 have e1 : ((x : Int) % 4294967296) * ((y : Int) % 4294967296) = ((x % 4294967296 * (y % 4294967296) : Nat) : Int) := by simp
 have e2 : ((x : Int) / 4294967296) * ((y : Int) % 4294967296) = ((x / 4294967296 * (y % 4294967296) : Nat) : Int) := by simp
 have e3 : ((x : Int) % 4294967296) * ((y : Int) / 4294967296) = ((x % 4294967296 * (y / 4294967296) : Nat) : Int) := by simp
 have e4 : ((x : Int) / 4294967296) * ((y : Int) / 4294967296) = ((x / 4294967296 * (y / 4294967296) : Nat) : Int) := by simp
 have e5 : (x : Int) * (y : Int) = ((x * y : Nat) : Int) := by simp
 rw [e1, e2, e3, e4, e5, ← h4]
 generalize x % 4294967296 * (y % 4294967296) = d at *
 generalize x / 4294967296 * (y % 4294967296) = b at *
 generalize x % 4294967296 * (y / 4294967296) = c at *
 generalize x / 4294967296 * (y / 4294967296) = a at *
 have g1 : IntKind.u64.wrap (d : Int) = (d : Int) := money_Mul.w64 (by omega) (by omega)
 have g2 : IntKind.u64.wrap (b : Int) = (b : Int) := money_Mul.w64 (by omega) (by omega)
 have g3 : IntKind.u64.wrap (c : Int) = (c : Int) := money_Mul.w64 (by omega) (by omega)
 have g4 : IntKind.u64.wrap (a : Int) = (a : Int) := money_Mul.w64 (by omega) (by omega)
 rw [g1, g2, g3, g4]
 have g5 : IntKind.u64.wrap ((b : Int) + (d : Int) / 4294967296) = ((b + d / 4294967296 : Nat) : Int) := (money_Mul.w64 (by omega) (by omega)).trans (by omega)
 rw [g5]
 generalize b + d / 4294967296 = t at *
 rw [money_Mul.and32 (t : Int) (by omega) (by omega)]
 have g6 : IntKind.u64.wrap ((t : Int) % 4294967296 + (c : Int)) = ((t % 4294967296 + c : Nat) : Int) := (money_Mul.w64 (by omega) (by omega)).trans (by omega)
 rw [g6]
 have g7 : IntKind.u64.wrap ((a : Int) + (t : Int) / 4294967296) = ((a + t / 4294967296 : Nat) : Int) := (money_Mul.w64 (by omega) (by omega)).trans (by omega)
 rw [g7]
 rw [show IntKind.u64.wrap _ = _ from (money_Mul.w64 (by omega) (by omega)).trans rfl]
 generalize x * y = p at *
 rw [IntKind.wrap_u64 (p : Int)]
 rfl
theorem money_Mul.size_is (a : Int) (h0 : -9223372036854775808 ≤ a) (h1 : a ≤ 9223372036854775807) : money_size.f a = some ((a.natAbs : Nat) : Int) := by
 unfold money_size.f
 split
 ·rw [IntKind.wrap_u64, IntKind.wrap_u64]; congr 1; omega
 ·rw [IntKind.wrap_u64]; congr 1; omega
theorem money_Mul.abs_mul (a b : Int) : a.natAbs * b.natAbs = (a * b).natAbs := (Int.natAbs_mul a b).symm
theorem money_Mul.neg_of {a b : Int} (h : (decide (a < 0) != decide (b < 0)) = true) : a * b ≤ 0 := by
 by_cases ha : a < 0
 ·by_cases hb : b < 0
  ·simp [ha, hb] at h
  ·exact Int.mul_nonpos_of_nonpos_of_nonneg (by omega) (by omega)
 ·by_cases hb : b < 0
  ·exact Int.mul_nonpos_of_nonneg_of_nonpos (by omega) (by omega)
  ·simp [ha, hb] at h
theorem money_Mul.pos_of {a b : Int} (h : (decide (a < 0) != decide (b < 0)) = false) : 0 ≤ a * b := by
 by_cases ha : a < 0
 ·by_cases hb : b < 0
  ·exact Int.mul_nonneg_of_nonpos_of_nonpos (by omega) (by omega)
  ·simp [ha, hb] at h
 ·by_cases hb : b < 0
  ·simp [ha, hb] at h
  ·exact Int.mul_nonneg (by omega) (by omega)
def money_Mul.f (a b : Int) : Option (Int × Int) := if (-9223372036854775808 ≤ a ∧ a ≤ 9223372036854775807) ∧ (-9223372036854775808 ≤ b ∧ b ≤ 9223372036854775807) then (if -9223372036854775808 ≤ a * b ∧ a * b ≤ 9223372036854775807 then some (a * b, 0) else some (0, 5)) else none
set_option maxHeartbeats 4000000 in
set_option maxRecDepth 100000 in
theorem money_Mul.pure (a0 : Int) (a1 : Int) (r1 : Int) (r2 : Int) (w : World) (h : money_Mul.f a0 a1 = some (r1, r2)) :
  Calls Tryd.prog 37 #[.int .i64 a0, .int .i64 a1] w fun e w' => e = .returned (.tuple #[.int .i64 r1, .int .i64 r2]) ∧ Drawn0 w w' := by
 unfold money_Mul.f at h
 split at h
 case isFalse => cases h
 case isTrue hc =>
 obtain ⟨⟨ha0, ha1⟩, hb0, hb1⟩ := hc
 have S1 := Aside0.mk (money_Mul.size_is a0 ha0 ha1)
 have S2 := Aside0.mk (money_Mul.size_is a1 hb0 hb1)
 have S3 := Aside0.mk (money_Mul.mul_is a0.natAbs a1.natAbs (by omega) (by omega))
 obtain ⟨d, hd⟩ : ∃ d, d = (decide (a0 < 0) != decide (a1 < 0)) := ⟨_, rfl⟩
 have hd' : (d = true → a0 * a1 ≤ 0) ∧ (d = false → 0 ≤ a0 * a1) := ⟨fun h => money_Mul.neg_of (hd ▸ h), fun h => money_Mul.pos_of (hd ▸ h)⟩
 have HD := Aside0.mk hd'
 have hm : (a0.natAbs * a1.natAbs) = (a0 * a1).natAbs := money_Mul.abs_mul a0 a1
 rw [hm] at S3
 obtain ⟨hi, hhi⟩ : ∃ hi, hi = (((a0 * a1).natAbs / 18446744073709551616 : Nat) : Int) := ⟨_, rfl⟩
 obtain ⟨lo, hlo⟩ : ∃ lo, lo = (((a0 * a1).natAbs % 18446744073709551616 : Nat) : Int) := ⟨_, rfl⟩
 rw [← hhi, ← hlo] at S3
 generalize a0 * a1 = m at *
 have hH : m.natAbs = hi * 18446744073709551616 + lo ∧ 0 ≤ hi ∧ 0 ≤ lo ∧ lo < 18446744073709551616 := by omega
 have HM := Aside0.mk hH
 have HF := Aside0.mk h
 clear h hd' hm hhi hlo hH ha0 ha1 hb0 hb1
 rcases Bool.eq_false_or_eq_true (decide (a0 < 0)) with t1 | t1 <;> rcases Bool.eq_false_or_eq_true (decide (a1 < 0)) with t2 | t2
 ·rw [t1, t2] at hd
  subst hd
  have hsg := HD.out.2 rfl
  by_cases z1 : hi = 0
  ·by_cases z2 : 9223372036854775808 < lo
   ·have f1 : (hi == 0) = true := beq_iff_eq.mpr z1
    have f2 : (hi != 0) = false := bne_eq_false_iff_eq.mpr z1
    have f3 : decide (9223372036854775808 < lo) = true := decide_eq_true z2
    have hr : r1 = 0 ∧ r2 = 5 := by
     have := HF.out; have hM := HM.out
     rw [if_neg (by omega)] at this
     simp only [Option.some.injEq, Prod.mk.injEq] at this
     exact ⟨this.1.symm, this.2.symm⟩
    obtain ⟨rfl, rfl⟩ := hr
    clear HF HD hsg HM z1 z2
    go_enter Tryd.func37, Tryd.ntmps37
    go_wp2_with fail
    refine (money_size.calls _ _ _ S1.out).mono ?_
    rintro e w1 ⟨rfl, ⟨n1, rfl⟩⟩
    go_wp2_with fail
    refine (money_size.calls _ _ _ S2.out).mono ?_
    rintro e w1 ⟨rfl, ⟨n2, rfl⟩⟩
    go_wp2_with fail
    refine (bits_Mul64.calls _ _ _ _ _ S3.out).mono ?_
    rintro e w1 ⟨rfl, ⟨n3, rfl⟩⟩
    go_wp2_with fail
    go_ret2
    exact ⟨by first | rfl | (rw [← HV.out]; rfl), by repeat (first | exact Drawn0.refl _ | apply Drawn0.step)⟩
   ·by_cases z3 : lo = 9223372036854775808
    ·have f1 : (hi == 0) = true := beq_iff_eq.mpr z1
     have f2 : (hi != 0) = false := bne_eq_false_iff_eq.mpr z1
     have f3 : decide (9223372036854775808 < lo) = false := decide_eq_false z2
     have f4 : (lo == 9223372036854775808) = true := beq_iff_eq.mpr z3
     have hr : r1 = 0 ∧ r2 = 5 := by
      have := HF.out; have hM := HM.out
      rw [if_neg (by omega)] at this
      simp only [Option.some.injEq, Prod.mk.injEq] at this
      exact ⟨this.1.symm, this.2.symm⟩
     obtain ⟨rfl, rfl⟩ := hr
     clear HF HD hsg HM z1 z2 z3
     go_enter Tryd.func37, Tryd.ntmps37
     go_wp2_with fail
     refine (money_size.calls _ _ _ S1.out).mono ?_
     rintro e w1 ⟨rfl, ⟨n1, rfl⟩⟩
     go_wp2_with fail
     refine (money_size.calls _ _ _ S2.out).mono ?_
     rintro e w1 ⟨rfl, ⟨n2, rfl⟩⟩
     go_wp2_with fail
     refine (bits_Mul64.calls _ _ _ _ _ S3.out).mono ?_
     rintro e w1 ⟨rfl, ⟨n3, rfl⟩⟩
     go_wp2_with fail
     go_ret2
     exact ⟨by first | rfl | (rw [← HV.out]; rfl), by repeat (first | exact Drawn0.refl _ | apply Drawn0.step)⟩
    ·have f1 : (hi == 0) = true := beq_iff_eq.mpr z1
     have f2 : (hi != 0) = false := bne_eq_false_iff_eq.mpr z1
     have f3 : decide (9223372036854775808 < lo) = false := decide_eq_false z2
     have f4 : (lo == 9223372036854775808) = false := beq_eq_false_iff_ne.mpr z3
     have hr : wrap64 lo = r1 ∧ r2 = 0 := by
      have := HF.out; have hM := HM.out
      rw [if_pos (by omega)] at this
      simp only [Option.some.injEq, Prod.mk.injEq] at this
      refine ⟨?_, this.2.symm⟩
      rw [← this.1]
      unfold wrap64
      (try rw [IntKind.wrap_u64])
      omega
     obtain ⟨hv, rfl⟩ := hr
     have HV := Aside0.mk hv
     clear hv HF HD hsg HM z1 z2 z3
     go_enter Tryd.func37, Tryd.ntmps37
     go_wp2_with fail
     refine (money_size.calls _ _ _ S1.out).mono ?_
     rintro e w1 ⟨rfl, ⟨n1, rfl⟩⟩
     go_wp2_with fail
     refine (money_size.calls _ _ _ S2.out).mono ?_
     rintro e w1 ⟨rfl, ⟨n2, rfl⟩⟩
     go_wp2_with fail
     refine (bits_Mul64.calls _ _ _ _ _ S3.out).mono ?_
     rintro e w1 ⟨rfl, ⟨n3, rfl⟩⟩
     go_wp2_with fail
     go_ret2
     exact ⟨by first | rfl | (rw [← HV.out]; rfl), by repeat (first | exact Drawn0.refl _ | apply Drawn0.step)⟩
  ·have f1 : (hi == 0) = false := beq_eq_false_iff_ne.mpr z1
   have f2 : (hi != 0) = true := bne_iff_ne.mpr z1
   have hr : r1 = 0 ∧ r2 = 5 := by
    have := HF.out; have hM := HM.out
    rw [if_neg (by omega)] at this
    simp only [Option.some.injEq, Prod.mk.injEq] at this
    exact ⟨this.1.symm, this.2.symm⟩
   obtain ⟨rfl, rfl⟩ := hr
   clear HF HD hsg HM z1
   go_enter Tryd.func37, Tryd.ntmps37
   go_wp2_with fail
   refine (money_size.calls _ _ _ S1.out).mono ?_
   rintro e w1 ⟨rfl, ⟨n1, rfl⟩⟩
   go_wp2_with fail
   refine (money_size.calls _ _ _ S2.out).mono ?_
   rintro e w1 ⟨rfl, ⟨n2, rfl⟩⟩
   go_wp2_with fail
   refine (bits_Mul64.calls _ _ _ _ _ S3.out).mono ?_
   rintro e w1 ⟨rfl, ⟨n3, rfl⟩⟩
   go_wp2_with fail
   go_ret2
   exact ⟨by first | rfl | (rw [← HV.out]; rfl), by repeat (first | exact Drawn0.refl _ | apply Drawn0.step)⟩
 ·rw [t1, t2] at hd
  subst hd
  have hsg := HD.out.1 rfl
  by_cases z1 : hi = 0
  ·by_cases z2 : 9223372036854775808 < lo
   ·have f1 : (hi == 0) = true := beq_iff_eq.mpr z1
    have f2 : (hi != 0) = false := bne_eq_false_iff_eq.mpr z1
    have f3 : decide (9223372036854775808 < lo) = true := decide_eq_true z2
    have hr : r1 = 0 ∧ r2 = 5 := by
     have := HF.out; have hM := HM.out
     rw [if_neg (by omega)] at this
     simp only [Option.some.injEq, Prod.mk.injEq] at this
     exact ⟨this.1.symm, this.2.symm⟩
    obtain ⟨rfl, rfl⟩ := hr
    clear HF HD hsg HM z1 z2
    go_enter Tryd.func37, Tryd.ntmps37
    go_wp2_with fail
    refine (money_size.calls _ _ _ S1.out).mono ?_
    rintro e w1 ⟨rfl, ⟨n1, rfl⟩⟩
    go_wp2_with fail
    refine (money_size.calls _ _ _ S2.out).mono ?_
    rintro e w1 ⟨rfl, ⟨n2, rfl⟩⟩
    go_wp2_with fail
    refine (bits_Mul64.calls _ _ _ _ _ S3.out).mono ?_
    rintro e w1 ⟨rfl, ⟨n3, rfl⟩⟩
    go_wp2_with fail
    go_ret2
    exact ⟨by first | rfl | (rw [← HV.out]; rfl), by repeat (first | exact Drawn0.refl _ | apply Drawn0.step)⟩
   ·by_cases z3 : lo = 9223372036854775808
    ·have f1 : (hi == 0) = true := beq_iff_eq.mpr z1
     have f2 : (hi != 0) = false := bne_eq_false_iff_eq.mpr z1
     have f3 : decide (9223372036854775808 < lo) = false := decide_eq_false z2
     have f4 : (lo == 9223372036854775808) = true := beq_iff_eq.mpr z3
     have hr : wrap64 (IntKind.u64.wrap (-lo)) = r1 ∧ r2 = 0 := by
      have := HF.out; have hM := HM.out
      rw [if_pos (by omega)] at this
      simp only [Option.some.injEq, Prod.mk.injEq] at this
      refine ⟨?_, this.2.symm⟩
      rw [← this.1]
      unfold wrap64
      (try rw [IntKind.wrap_u64])
      omega
     obtain ⟨hv, rfl⟩ := hr
     have HV := Aside0.mk hv
     clear hv HF HD hsg HM z1 z2 z3
     go_enter Tryd.func37, Tryd.ntmps37
     go_wp2_with fail
     refine (money_size.calls _ _ _ S1.out).mono ?_
     rintro e w1 ⟨rfl, ⟨n1, rfl⟩⟩
     go_wp2_with fail
     refine (money_size.calls _ _ _ S2.out).mono ?_
     rintro e w1 ⟨rfl, ⟨n2, rfl⟩⟩
     go_wp2_with fail
     refine (bits_Mul64.calls _ _ _ _ _ S3.out).mono ?_
     rintro e w1 ⟨rfl, ⟨n3, rfl⟩⟩
     go_wp2_with fail
     go_ret2
     exact ⟨by first | rfl | (rw [← HV.out]; rfl), by repeat (first | exact Drawn0.refl _ | apply Drawn0.step)⟩
    ·have f1 : (hi == 0) = true := beq_iff_eq.mpr z1
     have f2 : (hi != 0) = false := bne_eq_false_iff_eq.mpr z1
     have f3 : decide (9223372036854775808 < lo) = false := decide_eq_false z2
     have f4 : (lo == 9223372036854775808) = false := beq_eq_false_iff_ne.mpr z3
     have hr : wrap64 (IntKind.u64.wrap (-lo)) = r1 ∧ r2 = 0 := by
      have := HF.out; have hM := HM.out
      rw [if_pos (by omega)] at this
      simp only [Option.some.injEq, Prod.mk.injEq] at this
      refine ⟨?_, this.2.symm⟩
      rw [← this.1]
      unfold wrap64
      (try rw [IntKind.wrap_u64])
      omega
     obtain ⟨hv, rfl⟩ := hr
     have HV := Aside0.mk hv
     clear hv HF HD hsg HM z1 z2 z3
     go_enter Tryd.func37, Tryd.ntmps37
     go_wp2_with fail
     refine (money_size.calls _ _ _ S1.out).mono ?_
     rintro e w1 ⟨rfl, ⟨n1, rfl⟩⟩
     go_wp2_with fail
     refine (money_size.calls _ _ _ S2.out).mono ?_
     rintro e w1 ⟨rfl, ⟨n2, rfl⟩⟩
     go_wp2_with fail
     refine (bits_Mul64.calls _ _ _ _ _ S3.out).mono ?_
     rintro e w1 ⟨rfl, ⟨n3, rfl⟩⟩
     go_wp2_with fail
     go_ret2
     exact ⟨by first | rfl | (rw [← HV.out]; rfl), by repeat (first | exact Drawn0.refl _ | apply Drawn0.step)⟩
  ·have f1 : (hi == 0) = false := beq_eq_false_iff_ne.mpr z1
   have f2 : (hi != 0) = true := bne_iff_ne.mpr z1
   have hr : r1 = 0 ∧ r2 = 5 := by
    have := HF.out; have hM := HM.out
    rw [if_neg (by omega)] at this
    simp only [Option.some.injEq, Prod.mk.injEq] at this
    exact ⟨this.1.symm, this.2.symm⟩
   obtain ⟨rfl, rfl⟩ := hr
   clear HF HD hsg HM z1
   go_enter Tryd.func37, Tryd.ntmps37
   go_wp2_with fail
   refine (money_size.calls _ _ _ S1.out).mono ?_
   rintro e w1 ⟨rfl, ⟨n1, rfl⟩⟩
   go_wp2_with fail
   refine (money_size.calls _ _ _ S2.out).mono ?_
   rintro e w1 ⟨rfl, ⟨n2, rfl⟩⟩
   go_wp2_with fail
   refine (bits_Mul64.calls _ _ _ _ _ S3.out).mono ?_
   rintro e w1 ⟨rfl, ⟨n3, rfl⟩⟩
   go_wp2_with fail
   go_ret2
   exact ⟨by first | rfl | (rw [← HV.out]; rfl), by repeat (first | exact Drawn0.refl _ | apply Drawn0.step)⟩
 ·rw [t1, t2] at hd
  subst hd
  have hsg := HD.out.1 rfl
  by_cases z1 : hi = 0
  ·by_cases z2 : 9223372036854775808 < lo
   ·have f1 : (hi == 0) = true := beq_iff_eq.mpr z1
    have f2 : (hi != 0) = false := bne_eq_false_iff_eq.mpr z1
    have f3 : decide (9223372036854775808 < lo) = true := decide_eq_true z2
    have hr : r1 = 0 ∧ r2 = 5 := by
     have := HF.out; have hM := HM.out
     rw [if_neg (by omega)] at this
     simp only [Option.some.injEq, Prod.mk.injEq] at this
     exact ⟨this.1.symm, this.2.symm⟩
    obtain ⟨rfl, rfl⟩ := hr
    clear HF HD hsg HM z1 z2
    go_enter Tryd.func37, Tryd.ntmps37
    go_wp2_with fail
    refine (money_size.calls _ _ _ S1.out).mono ?_
    rintro e w1 ⟨rfl, ⟨n1, rfl⟩⟩
    go_wp2_with fail
    refine (money_size.calls _ _ _ S2.out).mono ?_
    rintro e w1 ⟨rfl, ⟨n2, rfl⟩⟩
    go_wp2_with fail
    refine (bits_Mul64.calls _ _ _ _ _ S3.out).mono ?_
    rintro e w1 ⟨rfl, ⟨n3, rfl⟩⟩
    go_wp2_with fail
    go_ret2
    exact ⟨by first | rfl | (rw [← HV.out]; rfl), by repeat (first | exact Drawn0.refl _ | apply Drawn0.step)⟩
   ·by_cases z3 : lo = 9223372036854775808
    ·have f1 : (hi == 0) = true := beq_iff_eq.mpr z1
     have f2 : (hi != 0) = false := bne_eq_false_iff_eq.mpr z1
     have f3 : decide (9223372036854775808 < lo) = false := decide_eq_false z2
     have f4 : (lo == 9223372036854775808) = true := beq_iff_eq.mpr z3
     have hr : wrap64 (IntKind.u64.wrap (-lo)) = r1 ∧ r2 = 0 := by
      have := HF.out; have hM := HM.out
      rw [if_pos (by omega)] at this
      simp only [Option.some.injEq, Prod.mk.injEq] at this
      refine ⟨?_, this.2.symm⟩
      rw [← this.1]
      unfold wrap64
      (try rw [IntKind.wrap_u64])
      omega
     obtain ⟨hv, rfl⟩ := hr
     have HV := Aside0.mk hv
     clear hv HF HD hsg HM z1 z2 z3
     go_enter Tryd.func37, Tryd.ntmps37
     go_wp2_with fail
     refine (money_size.calls _ _ _ S1.out).mono ?_
     rintro e w1 ⟨rfl, ⟨n1, rfl⟩⟩
     go_wp2_with fail
     refine (money_size.calls _ _ _ S2.out).mono ?_
     rintro e w1 ⟨rfl, ⟨n2, rfl⟩⟩
     go_wp2_with fail
     refine (bits_Mul64.calls _ _ _ _ _ S3.out).mono ?_
     rintro e w1 ⟨rfl, ⟨n3, rfl⟩⟩
     go_wp2_with fail
     go_ret2
     exact ⟨by first | rfl | (rw [← HV.out]; rfl), by repeat (first | exact Drawn0.refl _ | apply Drawn0.step)⟩
    ·have f1 : (hi == 0) = true := beq_iff_eq.mpr z1
     have f2 : (hi != 0) = false := bne_eq_false_iff_eq.mpr z1
     have f3 : decide (9223372036854775808 < lo) = false := decide_eq_false z2
     have f4 : (lo == 9223372036854775808) = false := beq_eq_false_iff_ne.mpr z3
     have hr : wrap64 (IntKind.u64.wrap (-lo)) = r1 ∧ r2 = 0 := by
      have := HF.out; have hM := HM.out
      rw [if_pos (by omega)] at this
      simp only [Option.some.injEq, Prod.mk.injEq] at this
      refine ⟨?_, this.2.symm⟩
      rw [← this.1]
      unfold wrap64
      (try rw [IntKind.wrap_u64])
      omega
     obtain ⟨hv, rfl⟩ := hr
     have HV := Aside0.mk hv
     clear hv HF HD hsg HM z1 z2 z3
     go_enter Tryd.func37, Tryd.ntmps37
     go_wp2_with fail
     refine (money_size.calls _ _ _ S1.out).mono ?_
     rintro e w1 ⟨rfl, ⟨n1, rfl⟩⟩
     go_wp2_with fail
     refine (money_size.calls _ _ _ S2.out).mono ?_
     rintro e w1 ⟨rfl, ⟨n2, rfl⟩⟩
     go_wp2_with fail
     refine (bits_Mul64.calls _ _ _ _ _ S3.out).mono ?_
     rintro e w1 ⟨rfl, ⟨n3, rfl⟩⟩
     go_wp2_with fail
     go_ret2
     exact ⟨by first | rfl | (rw [← HV.out]; rfl), by repeat (first | exact Drawn0.refl _ | apply Drawn0.step)⟩
  ·have f1 : (hi == 0) = false := beq_eq_false_iff_ne.mpr z1
   have f2 : (hi != 0) = true := bne_iff_ne.mpr z1
   have hr : r1 = 0 ∧ r2 = 5 := by
    have := HF.out; have hM := HM.out
    rw [if_neg (by omega)] at this
    simp only [Option.some.injEq, Prod.mk.injEq] at this
    exact ⟨this.1.symm, this.2.symm⟩
   obtain ⟨rfl, rfl⟩ := hr
   clear HF HD hsg HM z1
   go_enter Tryd.func37, Tryd.ntmps37
   go_wp2_with fail
   refine (money_size.calls _ _ _ S1.out).mono ?_
   rintro e w1 ⟨rfl, ⟨n1, rfl⟩⟩
   go_wp2_with fail
   refine (money_size.calls _ _ _ S2.out).mono ?_
   rintro e w1 ⟨rfl, ⟨n2, rfl⟩⟩
   go_wp2_with fail
   refine (bits_Mul64.calls _ _ _ _ _ S3.out).mono ?_
   rintro e w1 ⟨rfl, ⟨n3, rfl⟩⟩
   go_wp2_with fail
   go_ret2
   exact ⟨by first | rfl | (rw [← HV.out]; rfl), by repeat (first | exact Drawn0.refl _ | apply Drawn0.step)⟩
 ·rw [t1, t2] at hd
  subst hd
  have hsg := HD.out.2 rfl
  by_cases z1 : hi = 0
  ·by_cases z2 : 9223372036854775808 < lo
   ·have f1 : (hi == 0) = true := beq_iff_eq.mpr z1
    have f2 : (hi != 0) = false := bne_eq_false_iff_eq.mpr z1
    have f3 : decide (9223372036854775808 < lo) = true := decide_eq_true z2
    have hr : r1 = 0 ∧ r2 = 5 := by
     have := HF.out; have hM := HM.out
     rw [if_neg (by omega)] at this
     simp only [Option.some.injEq, Prod.mk.injEq] at this
     exact ⟨this.1.symm, this.2.symm⟩
    obtain ⟨rfl, rfl⟩ := hr
    clear HF HD hsg HM z1 z2
    go_enter Tryd.func37, Tryd.ntmps37
    go_wp2_with fail
    refine (money_size.calls _ _ _ S1.out).mono ?_
    rintro e w1 ⟨rfl, ⟨n1, rfl⟩⟩
    go_wp2_with fail
    refine (money_size.calls _ _ _ S2.out).mono ?_
    rintro e w1 ⟨rfl, ⟨n2, rfl⟩⟩
    go_wp2_with fail
    refine (bits_Mul64.calls _ _ _ _ _ S3.out).mono ?_
    rintro e w1 ⟨rfl, ⟨n3, rfl⟩⟩
    go_wp2_with fail
    go_ret2
    exact ⟨by first | rfl | (rw [← HV.out]; rfl), by repeat (first | exact Drawn0.refl _ | apply Drawn0.step)⟩
   ·by_cases z3 : lo = 9223372036854775808
    ·have f1 : (hi == 0) = true := beq_iff_eq.mpr z1
     have f2 : (hi != 0) = false := bne_eq_false_iff_eq.mpr z1
     have f3 : decide (9223372036854775808 < lo) = false := decide_eq_false z2
     have f4 : (lo == 9223372036854775808) = true := beq_iff_eq.mpr z3
     have hr : r1 = 0 ∧ r2 = 5 := by
      have := HF.out; have hM := HM.out
      rw [if_neg (by omega)] at this
      simp only [Option.some.injEq, Prod.mk.injEq] at this
      exact ⟨this.1.symm, this.2.symm⟩
     obtain ⟨rfl, rfl⟩ := hr
     clear HF HD hsg HM z1 z2 z3
     go_enter Tryd.func37, Tryd.ntmps37
     go_wp2_with fail
     refine (money_size.calls _ _ _ S1.out).mono ?_
     rintro e w1 ⟨rfl, ⟨n1, rfl⟩⟩
     go_wp2_with fail
     refine (money_size.calls _ _ _ S2.out).mono ?_
     rintro e w1 ⟨rfl, ⟨n2, rfl⟩⟩
     go_wp2_with fail
     refine (bits_Mul64.calls _ _ _ _ _ S3.out).mono ?_
     rintro e w1 ⟨rfl, ⟨n3, rfl⟩⟩
     go_wp2_with fail
     go_ret2
     exact ⟨by first | rfl | (rw [← HV.out]; rfl), by repeat (first | exact Drawn0.refl _ | apply Drawn0.step)⟩
    ·have f1 : (hi == 0) = true := beq_iff_eq.mpr z1
     have f2 : (hi != 0) = false := bne_eq_false_iff_eq.mpr z1
     have f3 : decide (9223372036854775808 < lo) = false := decide_eq_false z2
     have f4 : (lo == 9223372036854775808) = false := beq_eq_false_iff_ne.mpr z3
     have hr : wrap64 lo = r1 ∧ r2 = 0 := by
      have := HF.out; have hM := HM.out
      rw [if_pos (by omega)] at this
      simp only [Option.some.injEq, Prod.mk.injEq] at this
      refine ⟨?_, this.2.symm⟩
      rw [← this.1]
      unfold wrap64
      (try rw [IntKind.wrap_u64])
      omega
     obtain ⟨hv, rfl⟩ := hr
     have HV := Aside0.mk hv
     clear hv HF HD hsg HM z1 z2 z3
     go_enter Tryd.func37, Tryd.ntmps37
     go_wp2_with fail
     refine (money_size.calls _ _ _ S1.out).mono ?_
     rintro e w1 ⟨rfl, ⟨n1, rfl⟩⟩
     go_wp2_with fail
     refine (money_size.calls _ _ _ S2.out).mono ?_
     rintro e w1 ⟨rfl, ⟨n2, rfl⟩⟩
     go_wp2_with fail
     refine (bits_Mul64.calls _ _ _ _ _ S3.out).mono ?_
     rintro e w1 ⟨rfl, ⟨n3, rfl⟩⟩
     go_wp2_with fail
     go_ret2
     exact ⟨by first | rfl | (rw [← HV.out]; rfl), by repeat (first | exact Drawn0.refl _ | apply Drawn0.step)⟩
  ·have f1 : (hi == 0) = false := beq_eq_false_iff_ne.mpr z1
   have f2 : (hi != 0) = true := bne_iff_ne.mpr z1
   have hr : r1 = 0 ∧ r2 = 5 := by
    have := HF.out; have hM := HM.out
    rw [if_neg (by omega)] at this
    simp only [Option.some.injEq, Prod.mk.injEq] at this
    exact ⟨this.1.symm, this.2.symm⟩
   obtain ⟨rfl, rfl⟩ := hr
   clear HF HD hsg HM z1
   go_enter Tryd.func37, Tryd.ntmps37
   go_wp2_with fail
   refine (money_size.calls _ _ _ S1.out).mono ?_
   rintro e w1 ⟨rfl, ⟨n1, rfl⟩⟩
   go_wp2_with fail
   refine (money_size.calls _ _ _ S2.out).mono ?_
   rintro e w1 ⟨rfl, ⟨n2, rfl⟩⟩
   go_wp2_with fail
   refine (bits_Mul64.calls _ _ _ _ _ S3.out).mono ?_
   rintro e w1 ⟨rfl, ⟨n3, rfl⟩⟩
   go_wp2_with fail
   go_ret2
   exact ⟨by first | rfl | (rw [← HV.out]; rfl), by repeat (first | exact Drawn0.refl _ | apply Drawn0.step)⟩
theorem money_Mul.calls (a0 : Int) (a1 : Int) (r1 : Int) (r2 : Int) (w : World) (h : money_Mul.f a0 a1 = some (r1, r2)) :
  Calls Tryd.prog 37 #[.int .i64 a0, .int .i64 a1] w fun e w' => e = .returned (.tuple #[.int .i64 r1, .int .i64 r2]) ∧ Below w.heap.size w w' := by
 refine (money_Mul.pure a0 a1 r1 r2 w h).mono ?_
 rintro e w' ⟨rfl, ⟨nd, rfl⟩⟩
 exact ⟨rfl, pw_below_drewN (Below.refl _ _) nd⟩
end Go.Proofs.YtdiopojnkjkgmaaDoor.Print
namespace Go.Proofs.YtdiopojnkjkgmaaDoor.Print
open Go.RowKit Go.Proofs.YtdiopojnkjkgmaaDoorW.PrintWords Go.Proofs.YtdiopojnkjkgmaaDoorW.PrintLast Go.Proofs.YtdiopojnkjkgmaaDoorW.PrintMore
attribute [local go_sem] max2_mx min2_mn max_two min_two max_three min_three max_four min_four
set_option linter.unusedVariables false
set_option linter.unusedSimpArgs false
def money_Add.f (a0 : Int) (a1 : Int) : Option (Int × Int) := if ((decide (a0 < 0)) == (decide (a1 < 0))) = true then (if ((decide ((wrap64 (a0 + a1)) < 0)) != (decide (a0 < 0))) = true then (some (0, 5)) else (some (wrap64 (a0 + a1), 0))) else (some (wrap64 (a0 + a1), 0))
set_option maxHeartbeats 8000000 in
set_option maxRecDepth 100000 in
theorem money_Add.calls (a0 : Int) (a1 : Int) (r1 : Int) (r2 : Int) (w : World) (h : money_Add.f a0 a1 = some (r1, r2)) :
  Calls Tryd.prog 38 #[.int .i64 a0, .int .i64 a1] w fun e w' => e = .returned (.tuple #[.int .i64 r1, .int .i64 r2]) ∧ Drawn0 w w' := by
 have H : (if ((decide (a0 < 0)) == (decide (a1 < 0))) = true then (if ((decide ((wrap64 (a0 + a1)) < 0)) != (decide (a0 < 0))) = true then (some (0, 5)) else (some (wrap64 (a0 + a1), 0))) else (some (wrap64 (a0 + a1), 0))) = some (r1, r2) := h
 clear h
 by_cases c3 : ((decide (a0 < 0)) == (decide (a1 < 0))) = true
 ·rw [if_pos c3] at H
  have c3b0 : ((decide (a0 < 0)) == (decide (a1 < 0))) = true := c3
  (try (have c3b1 : decide ((decide (a0 < 0)) = (decide (a1 < 0))) = true := by simpa using c3))
  (try (have c3b2 : ((decide (a0 < 0)) == (decide (a1 < 0))) = true := by simpa using c3))
  clear c3
  by_cases c4 : ((decide ((wrap64 (a0 + a1)) < 0)) != (decide (a0 < 0))) = true
  ·rw [if_pos c4] at H
   have c4b0 : ((decide ((wrap64 (a0 + a1)) < 0)) != (decide (a0 < 0))) = true := c4
   (try (have c4b1 : decide ((decide ((wrap64 (a0 + a1)) < 0)) = (decide (a0 < 0))) = false := by simpa using c4))
   (try (have c4b2 : ((decide ((wrap64 (a0 + a1)) < 0)) == (decide (a0 < 0))) = false := by simpa using c4))
   (try (have c4b3 : ¬ ((decide ((wrap64 (a0 + a1)) < 0)) = (decide (a0 < 0))) := by simpa using c4))
   clear c4
   simp only [Option.some.injEq, Prod.mk.injEq] at H
   obtain ⟨rfl, rfl⟩ := H
   go_enter Tryd.func38, Tryd.ntmps38
   go_wp2
   go_ret2
   exact ⟨by first | rfl | (simp; done) | (simp [*]; done), by repeat (first | exact Drawn0.refl _ | apply Drawn0.step)⟩
  ·rw [if_neg c4] at H
   have c4b0 : ((decide ((wrap64 (a0 + a1)) < 0)) != (decide (a0 < 0))) = false := by simpa using c4
   (try (have c4b1 : decide ((decide ((wrap64 (a0 + a1)) < 0)) = (decide (a0 < 0))) = true := by simpa using c4))
   (try (have c4b2 : ((decide ((wrap64 (a0 + a1)) < 0)) == (decide (a0 < 0))) = true := by simpa using c4))
   clear c4
   simp only [Option.some.injEq, Prod.mk.injEq] at H
   obtain ⟨rfl, rfl⟩ := H
   go_enter Tryd.func38, Tryd.ntmps38
   go_wp2
   go_ret2
   exact ⟨by first | rfl | (simp; done) | (simp [*]; done), by repeat (first | exact Drawn0.refl _ | apply Drawn0.step)⟩
 ·rw [if_neg c3] at H
  have c3b0 : ((decide (a0 < 0)) == (decide (a1 < 0))) = false := by simpa using c3
  (try (have c3b1 : decide ((decide (a0 < 0)) = (decide (a1 < 0))) = false := by simpa using c3))
  (try (have c3b2 : ((decide (a0 < 0)) == (decide (a1 < 0))) = false := by simpa using c3))
  (try (have c3b3 : ¬ ((decide (a0 < 0)) = (decide (a1 < 0))) := by simpa using c3))
  clear c3
  simp only [Option.some.injEq, Prod.mk.injEq] at H
  obtain ⟨rfl, rfl⟩ := H
  go_enter Tryd.func38, Tryd.ntmps38
  go_wp2
  go_ret2
  exact ⟨by first | rfl | (simp; done) | (simp [*]; done), by repeat (first | exact Drawn0.refl _ | apply Drawn0.step)⟩
end Go.Proofs.YtdiopojnkjkgmaaDoor.Print
namespace Go.Proofs.YtdiopojnkjkgmaaDoor.Print
open Go.RowKit Go.Proofs.YtdiopojnkjkgmaaDoorW.PrintWords Go.Proofs.YtdiopojnkjkgmaaDoorW.PrintLast Go.Proofs.YtdiopojnkjkgmaaDoorW.PrintMore
attribute [local go_sem] max2_mx min2_mn max_two min_two max_three min_three max_four min_four
set_option linter.unusedVariables false
set_option linter.unusedSimpArgs false
def ledger_Balance.l0 : Nat → Int → Int → Int → List (S69) → Int → Int → Option (Int × Int)
 | 0, _, _, _, _, _, _ => none
 | k + 1, x1, x7, x8, x23, x24, x25 => if x25 < x24 then (if 0 ≤ x25 then (if x25 < (x23.length : Int) then (if x1 = ((rd_T69 x23 x25).f2) then (ledger_Balance.l0 k x1 (wrap64 (x7 + (((rd_T69 x23 x25).f3) / 2147483648))) (wrap64 (x8 + (Go.bits .and .i64 ((rd_T69 x23 x25).f3) 2147483647))) x23 x24 (wrap64 (x25 + 1))) else (if x1 = ((rd_T69 x23 x25).f1) then (ledger_Balance.l0 k x1 (wrap64 (x7 + ((wrap64 (-((rd_T69 x23 x25).f3))) / 2147483648))) (wrap64 (x8 + (Go.bits .and .i64 (wrap64 (-((rd_T69 x23 x25).f3))) 2147483647))) x23 x24 (wrap64 (x25 + 1))) else (ledger_Balance.l0 k x1 (wrap64 (x7 + (0 / 2147483648))) (wrap64 (x8 + (Go.bits .and .i64 0 2147483647))) x23 x24 (wrap64 (x25 + 1))))) else (none)) else (none)) else ((money_Mul.f (wrap64 (x7 + (x8 / 2147483648))) 2147483648).bind fun bt201 => (if bt201.2 = 0 then ((money_Add.f bt201.1 (Go.bits .and .i64 x8 2147483647)).bind fun bt203 => (some (bt203.1, bt203.2))) else (some (0, 5))))
def ledger_Balance.f (k : Nat) (l0_0 : List (S47)) (l0_1 : List (S69)) (a1 : Int) : Option (Int × Int) := (ledger_Check.f l0_0 l0_1).bind fun t197 => (if t197 = 0 then ((ledger_account.f a1).bind fun t198 => (if t198 = true then (ledger_Balance.l0 k a1 0 0 l0_1 (l0_1.length : Int) 0) else (some (0, 2)))) else (some (0, t197)))
set_option maxHeartbeats 8000000 in
set_option maxRecDepth 100000 in
theorem ledger_Balance.calls (k : Nat) (A0_0 : Option Addr) (c0_0 : Nat) (l0_0 : List (S47)) (A0_1 : Option Addr) (c0_1 : Nat) (l0_1 : List (S69)) (a1 : Int) (r1 : Int) (r2 : Int) (w : World) (hr0_0 : Kd.C k47 w A0_0 l0_0.length l0_0) (hc0_0 : l0_0.length ≤ c0_0) (hr0_1 : Kd.C k69 w A0_1 l0_1.length l0_1) (hc0_1 : l0_1.length ≤ c0_1) (h : ledger_Balance.f k l0_0 l0_1 a1 = some (r1, r2)) :
  Calls Tryd.prog 16 #[.agg #[.slice A0_0 l0_0.length c0_0, .slice A0_1 l0_1.length c0_1], .int .u8 a1] w fun e w' => e = .returned (.tuple #[.int .i64 r1, .int .i64 r2]) ∧ Below w.heap.size w w' := by
 have hu35 := Tryd.underlying35
 have hu69 := Tryd.underlying69
 have HR0_0 := Aside0.mk hr0_0
 have HC0_0 := Aside0.mk hc0_0
 clear hr0_0 hc0_0
 have HR0_1 := Aside0.mk hr0_1
 have HC0_1 := Aside0.mk hc0_1
 clear hr0_1 hc0_1
 have HB := Aside0.mk (Below.refl w.heap.size w)
 have H : ((ledger_Check.f l0_0 l0_1).bind fun t197 => (if t197 = 0 then ((ledger_account.f a1).bind fun t198 => (if t198 = true then (ledger_Balance.l0 k a1 0 0 l0_1 (l0_1.length : Int) 0) else (some (0, 2)))) else (some (0, t197)))) = some (r1, r2) := h
 clear h
 obtain ⟨t197, A3, H⟩ := zm H
 (try dsimp only at H)
 by_cases c4 : t197 = 0
 ·rw [if_pos c4] at H
  obtain ⟨c4b0, c4b1⟩ := zq1 c4
  clear c4
  obtain ⟨t198, A5, H⟩ := zm H
  (try dsimp only at H)
  by_cases c6 : t198 = true
  ·subst c6
   replace H := (if_pos (rfl : true = true)).symm.trans H
   have H' := Aside0.mk H
   clear H
   go_enter Tryd.func16, Tryd.ntmps16
   go_wp2_with (first | ((with_reducible refine gate_dst (N := 2) rfl ?_); refine box_event ?hg (N := 2) ?hd (cs := #[.slice A0_0 l0_0.length c0_0, .slice A0_1 l0_1.length c0_1]) (t := 35) ?hr ?_; (case hd => rfl); (case hg => rfl); (case hr => first | (go_simp; done) | (go_simp; rfl)); intro gb196 hg w7 hbox hb; have BK196 := Aside0.mk (hbox); have GW196 := Aside0.mk ((by rw [hg]; exact (below_size (zh0_ HB.out)) : w.heap.size ≤ gb196)); have GE196 := Aside0.mk ((by rw [hg]; exact (below_size (zh0_ HB.out)) : w.heap.size ≤ gb196)); replace HB := Aside0.mk (below_step (zh0_ HB.out) hb); clear hb hbox hg; have hcz8_0 : w7.cell? ⟨gb196, 0, none⟩ = some (.slice A0_0 l0_0.length c0_0) := (blk_cell BK196.out 0).trans rfl; have hcz8_1 : w7.cell? ⟨gb196, 1, none⟩ = some (.slice A0_1 l0_1.length c0_1) := (blk_cell BK196.out 1).trans rfl; have hfz8_0 := blk_frozen BK196.out 0; have hfz8_1 := blk_frozen BK196.out 1) | ((with_reducible refine gate_callee (f := 35) rfl ?_); refine goesL_ (some 15) rfl rfl Tryd.func35 (by kernel_rfl) rfl #[.agg #[.slice A0_0 l0_0.length c0_0, .slice A0_1 l0_1.length c0_1]] rfl zl_ ?_; (with_reducible refine (ledger_Check.calls _ _ l0_0 _ _ l0_1 t197 _ ?side1 ?side2 ?side3 ?side4 A3.out).mono ?_); (case side1 => exact zc_ (Kd.C_below HR0_0.out HB.out)); (case side2 => exact HC0_0.out); (case side3 => exact zc_ (Kd.C_below HR0_1.out HB.out)); (case side4 => exact HC0_1.out); rintro e w9 ⟨rfl, hb⟩; refine ⟨_, rfl, ?_⟩; replace BK196 := Aside0.mk (blk_below (g := gb196) (o := .cells #[.slice A0_0 l0_0.length c0_0, .slice A0_1 l0_1.length c0_1] 35 (0, 0)) (zb_ BK196.out) hb); replace HB := Aside0.mk (below_step (zh1_ HB.out GE196.out) hb); (try clear hb)) | ((with_reducible refine gate_callee (f := 36) rfl ?_); refine goesL_ (some 20) rfl rfl Tryd.func36 (by kernel_rfl) rfl #[.int .u8 a1] rfl zl_ ?_; (with_reducible refine (ledger_account.calls a1 true _ A5.out).mono ?_); rintro e w' ⟨rfl, ⟨nd, rfl⟩⟩; refine ⟨_, rfl, ?_⟩; have hcz10_0 : w9.cell? ⟨gb196, 0, none⟩ = some (.slice A0_0 l0_0.length c0_0) := (blk_cell BK196.out 0).trans rfl; have hcz10_1 : w9.cell? ⟨gb196, 1, none⟩ = some (.slice A0_1 l0_1.length c0_1) := (blk_cell BK196.out 1).trans rfl; have hfz10_0 := blk_frozen BK196.out 0; have hfz10_1 := blk_frozen BK196.out 1))
   go_loopg [7, 8, 25] k (fun kq v7 v8 v25 w' => ∃ (x7_1 : Int) (x8_1 : Int) (x25_1 : Int), v7 = .int .i64 x7_1 ∧ v8 = .int .i64 x8_1 ∧ v25 = .int .i64 x25_1 ∧ Aside0 (ledger_Balance.l0 kq a1 x7_1 x8_1 l0_1 (l0_1.length : Int) x25_1 = some (r1, r2)) ∧ Aside0 (kq ≤ k) ∧ Aside0 (w'.heap[gb196]? = some (.cells #[(.slice A0_0 l0_0.length c0_0), (.slice A0_1 l0_1.length c0_1)] 35 (0, 0))) ∧ Aside0 (Below w.heap.size w w'))
   case atStart => exact ⟨(0), (0), (0), (by first | rfl | (simp; done) | (simp [*]; done) | (simp only [i64_w]; done)), (by first | rfl | (simp; done) | (simp [*]; done) | (simp only [i64_w]; done)), (by first | rfl | (simp; done) | (simp [*]; done) | (simp only [i64_w]; done)), H', ⟨Nat.le_refl _⟩, ⟨by (with_reducible repeat (first | refine blk_drewN ?_ _ | refine blk_drew ?_ | refine blk_alloc ?_ _)); exact BK196.out⟩, ⟨by exact zh1_ HB.out GE196.out⟩⟩
   case round =>
    clear H'
    try clear c1
    try clear p2
    try clear c3
    try clear c4
    try clear c4b0
    try clear c4b1
    try clear c6
    try clear hcz10_0
    try clear hcz10_1
    try clear hcz8_0
    try clear hcz8_1
    try clear hfz10_0
    try clear hfz10_1
    try clear hfz8_0
    try clear hfz8_1
    (try clear BK196)
    obtain ⟨x7_1, x8_1, x25_1, rfl, rfl, rfl, HA, HK1, BK196, HB⟩ := hrel
    cases gk with
    | zero => exact absurd HA.out (by simp [ledger_Balance.l0])
    | succ k1 =>
     have H := HA.out
     clear HA
     simp only [ledger_Balance.l0] at H
     by_cases c11 : x25_1 < (l0_1.length : Int)
     ·rw [if_pos c11] at H
      have c11b0 : decide (x25_1 < (l0_1.length : Int)) = true := decide_eq_true c11
      clear c11
      by_cases c12 : 0 ≤ x25_1
      ·rw [if_pos c12] at H
       have c12b0 : decide (0 ≤ x25_1) = true := decide_eq_true c12
       clear c12
       by_cases c13 : x25_1 < (l0_1.length : Int)
       ·rw [if_pos c13] at H
        have c13b0 : decide (x25_1 < (l0_1.length : Int)) = true := decide_eq_true c13
        clear c13
        by_cases c14 : a1 = ((rd_T69 l0_1 x25_1).f2)
        ·rw [if_pos c14] at H
         obtain ⟨c14b0, c14b1⟩ := zq1 c14
         clear c14
         have H' := Aside0.mk H
         clear H
         have p199 : 0 ≤ (x25_1 : Int) := of_decide_eq_true za_
         have q199 : x25_1 < (l0_1.length : Int) := of_decide_eq_true za_
         obtain ⟨ad199, e199, hx199_0, hx199_1, hx199_2, hx199_3⟩ := at_T69 HR0_1.out x25_1 p199 q199
         cases e199
         replace hx199_0 := zx_ HB.out hx199_0
         replace hx199_1 := zx_ HB.out hx199_1
         replace hx199_2 := zx_ HB.out hx199_2
         replace hx199_3 := zx_ HB.out hx199_3
         replace p199 := eq_true p199
         replace q199 := eq_true q199
         go_wp2_with (first | ((with_reducible refine gate_dst (N := 10) rfl ?_); refine box_event ?hg (N := 10) ?hd (cs := #[.int .i64 0, .int .u8 0, .int .u8 0, .int .i64 0]) (t := 69) ?hr ?_; (case hd => rfl); (case hg => rfl); (case hr => first | (go_simp; done) | (go_simp; rfl)); intro gb200 hg w15 hbox hb; have BK200 := Aside0.mk (hbox); have GW200 := Aside0.mk ((by rw [hg]; exact (below_size (zh1_ HB.out GE196.out)) : w.heap.size ≤ gb200)); have GE200 := Aside0.mk ((by rw [hg]; exact (below_size (zh1_ HB.out GE196.out)) : w.heap.size ≤ gb200)); replace HB := Aside0.mk (below_step (zh1_ HB.out GE196.out) hb); have NB196_200 := Aside0.mk ((by rw [hg]; exact Nat.ne_of_lt (blk_lt (g := gb196) (o := .cells #[.slice A0_0 l0_0.length c0_0, .slice (some ad199) l0_1.length c0_1] 35 (0, 0)) (zb_ BK196.out)) : gb196 ≠ gb200)); have NB200_196 := Aside0.mk ((by rw [hg]; exact Nat.ne_of_gt (blk_lt (g := gb196) (o := .cells #[.slice A0_0 l0_0.length c0_0, .slice (some ad199) l0_1.length c0_1] 35 (0, 0)) (zb_ BK196.out)) : gb200 ≠ gb196)); replace BK196 := Aside0.mk (blk_below (g := gb196) (o := .cells #[.slice A0_0 l0_0.length c0_0, .slice (some ad199) l0_1.length c0_1] 35 (0, 0)) (zb_ BK196.out) hb); clear hb hbox hg; have hnb16 := NB200_196.out; have hnc16 := NB196_200.out; obtain ⟨hcz17_0, hcz17_1, hcz17_2, hcz17_3⟩ := zc4 BK200.out; obtain ⟨hfz17_0, hfz17_1, hfz17_2, hfz17_3⟩ := zz4 BK200.out))
         go_roundg k1
         case measure => have := HK1.out; omega
         case rel => exact ⟨(wrap64 (x7_1 + (((rd_T69 l0_1 x25_1).f3) / 2147483648))), (wrap64 (x8_1 + (Go.bits .and .i64 ((rd_T69 l0_1 x25_1).f3) 2147483647))), (wrap64 (x25_1 + 1)), (by first | rfl | (simp; done) | (simp [*]; done) | (simp only [i64_w]; done)), (by first | rfl | (simp; done) | (simp [*]; done) | (simp only [i64_w]; done)), (by first | rfl | (simp; done) | (simp [*]; done) | (simp only [i64_w]; done)), H', ⟨by have := HK1.out; omega⟩, ⟨by (with_reducible repeat (first | refine blk_drewN ?_ _ | refine blk_drew ?_ | refine blk_alloc ?_ _)); refine blk_far ?_ NB196_200.out _; (with_reducible repeat (first | refine blk_drewN ?_ _ | refine blk_drew ?_ | refine blk_alloc ?_ _)); refine blk_far ?_ NB196_200.out _; (with_reducible repeat (first | refine blk_drewN ?_ _ | refine blk_drew ?_ | refine blk_alloc ?_ _)); refine blk_far ?_ NB196_200.out _; (with_reducible repeat (first | refine blk_drewN ?_ _ | refine blk_drew ?_ | refine blk_alloc ?_ _)); refine blk_far ?_ NB196_200.out _; (with_reducible repeat (first | refine blk_drewN ?_ _ | refine blk_drew ?_ | refine blk_alloc ?_ _)); exact BK196.out⟩, ⟨by exact zh2_ HB.out GE196.out GE200.out⟩⟩
        ·rw [if_neg c14] at H
         obtain ⟨c14b0, c14b1⟩ := zq0 c14
         by_cases c18 : a1 = ((rd_T69 l0_1 x25_1).f1)
         ·rw [if_pos c18] at H
          obtain ⟨c18b0, c18b1⟩ := zq1 c18
          clear c18
          have H' := Aside0.mk H
          clear H
          have p199 : 0 ≤ (x25_1 : Int) := of_decide_eq_true za_
          have q199 : x25_1 < (l0_1.length : Int) := of_decide_eq_true za_
          obtain ⟨ad199, e199, hx199_0, hx199_1, hx199_2, hx199_3⟩ := at_T69 HR0_1.out x25_1 p199 q199
          cases e199
          replace hx199_0 := zx_ HB.out hx199_0
          replace hx199_1 := zx_ HB.out hx199_1
          replace hx199_2 := zx_ HB.out hx199_2
          replace hx199_3 := zx_ HB.out hx199_3
          replace p199 := eq_true p199
          replace q199 := eq_true q199
          go_wp2_with (first | ((with_reducible refine gate_dst (N := 10) rfl ?_); refine box_event ?hg (N := 10) ?hd (cs := #[.int .i64 0, .int .u8 0, .int .u8 0, .int .i64 0]) (t := 69) ?hr ?_; (case hd => rfl); (case hg => rfl); (case hr => first | (go_simp; done) | (go_simp; rfl)); intro gb200 hg w19 hbox hb; have BK200 := Aside0.mk (hbox); have GW200 := Aside0.mk ((by rw [hg]; exact (below_size (zh1_ HB.out GE196.out)) : w.heap.size ≤ gb200)); have GE200 := Aside0.mk ((by rw [hg]; exact (below_size (zh1_ HB.out GE196.out)) : w.heap.size ≤ gb200)); replace HB := Aside0.mk (below_step (zh1_ HB.out GE196.out) hb); have NB196_200 := Aside0.mk ((by rw [hg]; exact Nat.ne_of_lt (blk_lt (g := gb196) (o := .cells #[.slice A0_0 l0_0.length c0_0, .slice (some ad199) l0_1.length c0_1] 35 (0, 0)) (zb_ BK196.out)) : gb196 ≠ gb200)); have NB200_196 := Aside0.mk ((by rw [hg]; exact Nat.ne_of_gt (blk_lt (g := gb196) (o := .cells #[.slice A0_0 l0_0.length c0_0, .slice (some ad199) l0_1.length c0_1] 35 (0, 0)) (zb_ BK196.out)) : gb200 ≠ gb196)); replace BK196 := Aside0.mk (blk_below (g := gb196) (o := .cells #[.slice A0_0 l0_0.length c0_0, .slice (some ad199) l0_1.length c0_1] 35 (0, 0)) (zb_ BK196.out) hb); clear hb hbox hg; have hnb20 := NB200_196.out; have hnc20 := NB196_200.out; obtain ⟨hcz21_0, hcz21_1, hcz21_2, hcz21_3⟩ := zc4 BK200.out; obtain ⟨hfz21_0, hfz21_1, hfz21_2, hfz21_3⟩ := zz4 BK200.out))
          go_roundg k1
          case measure => have := HK1.out; omega
          case rel => exact ⟨(wrap64 (x7_1 + ((wrap64 (-((rd_T69 l0_1 x25_1).f3))) / 2147483648))), (wrap64 (x8_1 + (Go.bits .and .i64 (wrap64 (-((rd_T69 l0_1 x25_1).f3))) 2147483647))), (wrap64 (x25_1 + 1)), (by first | rfl | (simp; done) | (simp [*]; done) | (simp only [i64_w]; done)), (by first | rfl | (simp; done) | (simp [*]; done) | (simp only [i64_w]; done)), (by first | rfl | (simp; done) | (simp [*]; done) | (simp only [i64_w]; done)), H', ⟨by have := HK1.out; omega⟩, ⟨by (with_reducible repeat (first | refine blk_drewN ?_ _ | refine blk_drew ?_ | refine blk_alloc ?_ _)); refine blk_far ?_ NB196_200.out _; (with_reducible repeat (first | refine blk_drewN ?_ _ | refine blk_drew ?_ | refine blk_alloc ?_ _)); refine blk_far ?_ NB196_200.out _; (with_reducible repeat (first | refine blk_drewN ?_ _ | refine blk_drew ?_ | refine blk_alloc ?_ _)); refine blk_far ?_ NB196_200.out _; (with_reducible repeat (first | refine blk_drewN ?_ _ | refine blk_drew ?_ | refine blk_alloc ?_ _)); refine blk_far ?_ NB196_200.out _; (with_reducible repeat (first | refine blk_drewN ?_ _ | refine blk_drew ?_ | refine blk_alloc ?_ _)); exact BK196.out⟩, ⟨by exact zh2_ HB.out GE196.out GE200.out⟩⟩
         ·rw [if_neg c18] at H
          obtain ⟨c18b0, c18b1⟩ := zq0 c18
          have H' := Aside0.mk H
          clear H
          have p199 : 0 ≤ (x25_1 : Int) := of_decide_eq_true za_
          have q199 : x25_1 < (l0_1.length : Int) := of_decide_eq_true za_
          obtain ⟨ad199, e199, hx199_0, hx199_1, hx199_2, hx199_3⟩ := at_T69 HR0_1.out x25_1 p199 q199
          cases e199
          replace hx199_0 := zx_ HB.out hx199_0
          replace hx199_1 := zx_ HB.out hx199_1
          replace hx199_2 := zx_ HB.out hx199_2
          replace hx199_3 := zx_ HB.out hx199_3
          replace p199 := eq_true p199
          replace q199 := eq_true q199
          go_wp2_with (first | ((with_reducible refine gate_dst (N := 10) rfl ?_); refine box_event ?hg (N := 10) ?hd (cs := #[.int .i64 0, .int .u8 0, .int .u8 0, .int .i64 0]) (t := 69) ?hr ?_; (case hd => rfl); (case hg => rfl); (case hr => first | (go_simp; done) | (go_simp; rfl)); intro gb200 hg w22 hbox hb; have BK200 := Aside0.mk (hbox); have GW200 := Aside0.mk ((by rw [hg]; exact (below_size (zh1_ HB.out GE196.out)) : w.heap.size ≤ gb200)); have GE200 := Aside0.mk ((by rw [hg]; exact (below_size (zh1_ HB.out GE196.out)) : w.heap.size ≤ gb200)); replace HB := Aside0.mk (below_step (zh1_ HB.out GE196.out) hb); have NB196_200 := Aside0.mk ((by rw [hg]; exact Nat.ne_of_lt (blk_lt (g := gb196) (o := .cells #[.slice A0_0 l0_0.length c0_0, .slice (some ad199) l0_1.length c0_1] 35 (0, 0)) (zb_ BK196.out)) : gb196 ≠ gb200)); have NB200_196 := Aside0.mk ((by rw [hg]; exact Nat.ne_of_gt (blk_lt (g := gb196) (o := .cells #[.slice A0_0 l0_0.length c0_0, .slice (some ad199) l0_1.length c0_1] 35 (0, 0)) (zb_ BK196.out)) : gb200 ≠ gb196)); replace BK196 := Aside0.mk (blk_below (g := gb196) (o := .cells #[.slice A0_0 l0_0.length c0_0, .slice (some ad199) l0_1.length c0_1] 35 (0, 0)) (zb_ BK196.out) hb); clear hb hbox hg; have hnb23 := NB200_196.out; have hnc23 := NB196_200.out; obtain ⟨hcz24_0, hcz24_1, hcz24_2, hcz24_3⟩ := zc4 BK200.out; obtain ⟨hfz24_0, hfz24_1, hfz24_2, hfz24_3⟩ := zz4 BK200.out))
          go_roundg k1
          case measure => have := HK1.out; omega
          case rel => exact ⟨(wrap64 (x7_1 + (0 / 2147483648))), (wrap64 (x8_1 + (Go.bits .and .i64 0 2147483647))), (wrap64 (x25_1 + 1)), (by first | rfl | (simp; done) | (simp [*]; done) | (simp only [i64_w]; done)), (by first | rfl | (simp; done) | (simp [*]; done) | (simp only [i64_w]; done)), (by first | rfl | (simp; done) | (simp [*]; done) | (simp only [i64_w]; done)), H', ⟨by have := HK1.out; omega⟩, ⟨by (with_reducible repeat (first | refine blk_drewN ?_ _ | refine blk_drew ?_ | refine blk_alloc ?_ _)); refine blk_far ?_ NB196_200.out _; (with_reducible repeat (first | refine blk_drewN ?_ _ | refine blk_drew ?_ | refine blk_alloc ?_ _)); refine blk_far ?_ NB196_200.out _; (with_reducible repeat (first | refine blk_drewN ?_ _ | refine blk_drew ?_ | refine blk_alloc ?_ _)); refine blk_far ?_ NB196_200.out _; (with_reducible repeat (first | refine blk_drewN ?_ _ | refine blk_drew ?_ | refine blk_alloc ?_ _)); refine blk_far ?_ NB196_200.out _; (with_reducible repeat (first | refine blk_drewN ?_ _ | refine blk_drew ?_ | refine blk_alloc ?_ _)); exact BK196.out⟩, ⟨by exact zh2_ HB.out GE196.out GE200.out⟩⟩
       ·rw [if_neg c13] at H
        cases H
      ·rw [if_neg c12] at H
       cases H
     ·rw [if_neg c11] at H
      have c11b0 : decide (x25_1 < (l0_1.length : Int)) = false := decide_eq_false c11
      clear c11
      obtain ⟨⟨t201, t202⟩, A25, H⟩ := zm H
      (try dsimp only at H)
      by_cases c26 : t202 = 0
      ·rw [if_pos c26] at H
       obtain ⟨c26b0, c26b1⟩ := zq1 c26
       clear c26
       obtain ⟨⟨t203, t204⟩, A27, H⟩ := zm H
       (try dsimp only at H)
       simp only [Option.some.injEq, Prod.mk.injEq] at H
       obtain ⟨rfl, rfl⟩ := H
       go_wp2_with (first | ((with_reducible refine gate_callee (f := 37) rfl ?_); refine goesL_ (some 60) rfl rfl Tryd.func37 (by kernel_rfl) rfl #[.int .i64 (wrap64 (x7_1 + (x8_1 / 2147483648))), .int .i64 2147483648] rfl zl_ ?_; (with_reducible refine (money_Mul.calls (wrap64 (x7_1 + (x8_1 / 2147483648))) 2147483648 t201 t202 _ A25.out).mono ?_); rintro e w28 ⟨rfl, hb⟩; refine ⟨_, rfl, ?_⟩; replace BK196 := Aside0.mk (blk_below (g := gb196) (o := .cells #[.slice A0_0 l0_0.length c0_0, .slice A0_1 l0_1.length c0_1] 35 (0, 0)) (zb_ BK196.out) hb); replace HB := Aside0.mk (below_step (zh1_ HB.out GE196.out) hb); (try clear hb)) | ((with_reducible refine gate_callee (f := 38) rfl ?_); refine goesL_ (some 67) rfl rfl Tryd.func38 (by kernel_rfl) rfl #[.int .i64 t201, .int .i64 (Go.bits .and .i64 x8_1 2147483647)] rfl zl_ ?_; (with_reducible refine (money_Add.calls t201 (Go.bits .and .i64 x8_1 2147483647) t203 t204 _ A27.out).mono ?_); rintro e w' ⟨rfl, ⟨nd, rfl⟩⟩; refine ⟨_, rfl, ?_⟩))
       go_ret2
       exact ⟨by first | rfl | (simp [errW_none, errW_some] <;> rfl) | (simp [*, errW_none, errW_some] <;> rfl), by exact zh1_ HB.out GE196.out⟩
      ·rw [if_neg c26] at H
       obtain ⟨c26b0, c26b1⟩ := zq0 c26
       simp only [Option.some.injEq, Prod.mk.injEq] at H
       obtain ⟨rfl, rfl⟩ := H
       go_wp2_with (first | ((with_reducible refine gate_callee (f := 37) rfl ?_); refine goesL_ (some 60) rfl rfl Tryd.func37 (by kernel_rfl) rfl #[.int .i64 (wrap64 (x7_1 + (x8_1 / 2147483648))), .int .i64 2147483648] rfl zl_ ?_; (with_reducible refine (money_Mul.calls (wrap64 (x7_1 + (x8_1 / 2147483648))) 2147483648 t201 t202 _ A25.out).mono ?_); rintro e w29 ⟨rfl, hb⟩; refine ⟨_, rfl, ?_⟩; replace BK196 := Aside0.mk (blk_below (g := gb196) (o := .cells #[.slice A0_0 l0_0.length c0_0, .slice A0_1 l0_1.length c0_1] 35 (0, 0)) (zb_ BK196.out) hb); replace HB := Aside0.mk (below_step (zh1_ HB.out GE196.out) hb); (try clear hb)))
       go_ret2
       exact ⟨by first | rfl | (simp [errW_none, errW_some] <;> rfl) | (simp [*, errW_none, errW_some] <;> rfl), by exact zh1_ HB.out GE196.out⟩
  ·replace c6 := Bool.eq_false_iff.mpr c6
   subst c6
   replace H := (if_neg (show ¬ (false = true) by decide)).symm.trans H
   simp only [Option.some.injEq, Prod.mk.injEq] at H
   obtain ⟨rfl, rfl⟩ := H
   go_enter Tryd.func16, Tryd.ntmps16
   go_wp2_with (first | ((with_reducible refine gate_dst (N := 2) rfl ?_); refine box_event ?hg (N := 2) ?hd (cs := #[.slice A0_0 l0_0.length c0_0, .slice A0_1 l0_1.length c0_1]) (t := 35) ?hr ?_; (case hd => rfl); (case hg => rfl); (case hr => first | (go_simp; done) | (go_simp; rfl)); intro gb196 hg w30 hbox hb; have BK196 := Aside0.mk (hbox); have GW196 := Aside0.mk ((by rw [hg]; exact (below_size (zh0_ HB.out)) : w.heap.size ≤ gb196)); have GE196 := Aside0.mk ((by rw [hg]; exact (below_size (zh0_ HB.out)) : w.heap.size ≤ gb196)); replace HB := Aside0.mk (below_step (zh0_ HB.out) hb); clear hb hbox hg; have hcz31_0 : w30.cell? ⟨gb196, 0, none⟩ = some (.slice A0_0 l0_0.length c0_0) := (blk_cell BK196.out 0).trans rfl; have hcz31_1 : w30.cell? ⟨gb196, 1, none⟩ = some (.slice A0_1 l0_1.length c0_1) := (blk_cell BK196.out 1).trans rfl; have hfz31_0 := blk_frozen BK196.out 0; have hfz31_1 := blk_frozen BK196.out 1) | ((with_reducible refine gate_callee (f := 35) rfl ?_); refine goesL_ (some 15) rfl rfl Tryd.func35 (by kernel_rfl) rfl #[.agg #[.slice A0_0 l0_0.length c0_0, .slice A0_1 l0_1.length c0_1]] rfl zl_ ?_; (with_reducible refine (ledger_Check.calls _ _ l0_0 _ _ l0_1 t197 _ ?side1 ?side2 ?side3 ?side4 A3.out).mono ?_); (case side1 => exact zc_ (Kd.C_below HR0_0.out HB.out)); (case side2 => exact HC0_0.out); (case side3 => exact zc_ (Kd.C_below HR0_1.out HB.out)); (case side4 => exact HC0_1.out); rintro e w32 ⟨rfl, hb⟩; refine ⟨_, rfl, ?_⟩; replace BK196 := Aside0.mk (blk_below (g := gb196) (o := .cells #[.slice A0_0 l0_0.length c0_0, .slice A0_1 l0_1.length c0_1] 35 (0, 0)) (zb_ BK196.out) hb); replace HB := Aside0.mk (below_step (zh1_ HB.out GE196.out) hb); (try clear hb)) | ((with_reducible refine gate_callee (f := 36) rfl ?_); refine goesL_ (some 20) rfl rfl Tryd.func36 (by kernel_rfl) rfl #[.int .u8 a1] rfl zl_ ?_; (with_reducible refine (ledger_account.calls a1 false _ A5.out).mono ?_); rintro e w' ⟨rfl, ⟨nd, rfl⟩⟩; refine ⟨_, rfl, ?_⟩))
   go_ret2
   exact ⟨by first | rfl | (simp [errW_none, errW_some] <;> rfl) | (simp [*, errW_none, errW_some] <;> rfl), by exact zh1_ HB.out GE196.out⟩
 ·rw [if_neg c4] at H
  obtain ⟨c4b0, c4b1⟩ := zq0 c4
  simp only [Option.some.injEq, Prod.mk.injEq] at H
  obtain ⟨rfl, rfl⟩ := H
  go_enter Tryd.func16, Tryd.ntmps16
  go_wp2_with (first | ((with_reducible refine gate_dst (N := 2) rfl ?_); refine box_event ?hg (N := 2) ?hd (cs := #[.slice A0_0 l0_0.length c0_0, .slice A0_1 l0_1.length c0_1]) (t := 35) ?hr ?_; (case hd => rfl); (case hg => rfl); (case hr => first | (go_simp; done) | (go_simp; rfl)); intro gb196 hg w33 hbox hb; have BK196 := Aside0.mk (hbox); have GW196 := Aside0.mk ((by rw [hg]; exact (below_size (zh0_ HB.out)) : w.heap.size ≤ gb196)); have GE196 := Aside0.mk ((by rw [hg]; exact (below_size (zh0_ HB.out)) : w.heap.size ≤ gb196)); replace HB := Aside0.mk (below_step (zh0_ HB.out) hb); clear hb hbox hg; have hcz34_0 : w33.cell? ⟨gb196, 0, none⟩ = some (.slice A0_0 l0_0.length c0_0) := (blk_cell BK196.out 0).trans rfl; have hcz34_1 : w33.cell? ⟨gb196, 1, none⟩ = some (.slice A0_1 l0_1.length c0_1) := (blk_cell BK196.out 1).trans rfl; have hfz34_0 := blk_frozen BK196.out 0; have hfz34_1 := blk_frozen BK196.out 1) | ((with_reducible refine gate_callee (f := 35) rfl ?_); refine goesL_ (some 15) rfl rfl Tryd.func35 (by kernel_rfl) rfl #[.agg #[.slice A0_0 l0_0.length c0_0, .slice A0_1 l0_1.length c0_1]] rfl zl_ ?_; (with_reducible refine (ledger_Check.calls _ _ l0_0 _ _ l0_1 t197 _ ?side1 ?side2 ?side3 ?side4 A3.out).mono ?_); (case side1 => exact zc_ (Kd.C_below HR0_0.out HB.out)); (case side2 => exact HC0_0.out); (case side3 => exact zc_ (Kd.C_below HR0_1.out HB.out)); (case side4 => exact HC0_1.out); rintro e w35 ⟨rfl, hb⟩; refine ⟨_, rfl, ?_⟩; replace BK196 := Aside0.mk (blk_below (g := gb196) (o := .cells #[.slice A0_0 l0_0.length c0_0, .slice A0_1 l0_1.length c0_1] 35 (0, 0)) (zb_ BK196.out) hb); replace HB := Aside0.mk (below_step (zh1_ HB.out GE196.out) hb); (try clear hb)))
  go_ret2
  exact ⟨by first | rfl | (simp [errW_none, errW_some] <;> rfl) | (simp [*, errW_none, errW_some] <;> rfl), by exact zh1_ HB.out GE196.out⟩
end Go.Proofs.YtdiopojnkjkgmaaDoor.Print
