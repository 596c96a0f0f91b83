-- What the claim uses alone (wip/slim.py). Lean checks it.
import Derived.Test.YtaddmogfeijjcaaZPrint0
import Derived.Test.YtaddmogfeijjcaaZPrint6
import Derived.Test.YtaddmogfeijjcaaZPrint9
import Derived.Test.YtaddmogfeijjcaaZPrint12
import Derived.Test.YtaddmogfeijjcaaZPrint13
import Derived.Test.YtaddmogfeijjcaaZPrint17
import Derived.Test.YtaddmogfeijjcaaZPrint18
import Derived.Test.YtaddmogfeijjcaaZPrint25
import Derived.Test.YtaddmogfeijjcaaZPrint38
namespace Go.Proofs.Ytaddmogfeijjcaa.Print
open Go.RowKit Go.Proofs.YtaddmogfeijjcaaW.PrintWords Go.Proofs.YtaddmogfeijjcaaW.PrintLast Go.Proofs.YtaddmogfeijjcaaW.PrintMore
attribute [local go_sem] max2_mx min2_mn max_two min_two max_three min_three max_four min_four
set_option linter.unusedVariables false
set_option linter.unusedSimpArgs false
def setW (ps : List S31) (qs : List S55) (n : Int) : Int := unl (opW ps qs n) ((payOf ps n).f1 == 0) 9
def setV (ps : List S31) (qs : List S55) (y : Int) (x : S55) : List S31 × List S55 × Int × Int := (endL (postWs ps qs y x) (postPs ps qs y x), endL (postWs ps qs y x) (postQs qs y x), (if postWs ps qs y x = 0 then x.f3 else 0), postWs ps qs y x)
def ledger_settle.f (l0_0 : List S31) (l0_1 : List S55) (a1 a2 : Int) : Option (List S31 × List S55 × Int × Int) := if l0_0.length * 32 ≤ 140737488355328 ∧ l0_1.length * 24 ≤ 140737488355328 then some (setV l0_0 l0_1 (setW l0_0 l0_1 a1) ⟨a1, 2, a2, (payOf l0_0 a1).f1⟩) else none
set_option maxHeartbeats 8000000 in
set_option maxRecDepth 100000 in
theorem ledger_settle.calls (A0_0 : Option Addr) (c0_0 : Nat) (l0_0 : List (S31)) (A0_1 : Option Addr) (c0_1 : Nat) (l0_1 : List (S55)) (a1 a2 : Int) (r1 : List S31) (r2 : List S55) (r3 r4 : Int) (w : World) (hr0_0 : Kd.C k31 w A0_0 l0_0.length l0_0) (hc0_0 : l0_0.length ≤ c0_0) (hr0_1 : Kd.C k55 w A0_1 l0_1.length l0_1) (hc0_1 : l0_1.length ≤ c0_1) (h : ledger_settle.f l0_0 l0_1 a1 a2 = some (r1, r2, r3, r4)) :
  Calls Try.prog 38 #[.agg #[.slice A0_0 l0_0.length c0_0, .slice A0_1 l0_1.length c0_1], .int .i64 a1, .int .u8 a2] w fun e w' => ∃ v1_ v2_ : Value, e = .returned (.tuple #[.agg #[v1_, v2_], .int .i64 r3, .int .i64 r4]) ∧ Kd.R k31 31 w' w.heap.size (fun _ => True) v1_ r1 ∧ Kd.R k55 55 w' w.heap.size (fun _ => True) v2_ r2 ∧ Below w.heap.size w w' := by
 unfold ledger_settle.f at h
 split at h
 case isFalse => cases h
 case isTrue hbig =>
 have HBIG := Aside0.mk hbig
 have HRES := Aside0.mk (Option.some.inj h)
 clear h hbig
 have hu25 := Try.underlying25
 have hu31 := Try.underlying31
 have hu55 := Try.underlying55
 have HR0 := Aside0.mk hr0_0
 have HC0 := Aside0.mk hc0_0
 have HR1 := Aside0.mk hr0_1
 have HC1 := Aside0.mk hc0_1
 clear hr0_0 hc0_0 hr0_1 hc0_1
 go_enter Try.func38, Try.ntmps38
 go_wp2_with (first | ((with_reducible refine gate_dst (N := 3) rfl ?_); refine box_event ?hg (N := 3) ?hd (cs := #[.slice A0_0 l0_0.length c0_0, .slice A0_1 l0_1.length c0_1]) (t := 25) ?hr ?_; (case hd => rfl); (case hg => rfl); (case hr => first | (go_simp; done) | (go_simp; rfl)); intro gb hgb w1 hbox hb; have BB := Aside0.mk hbox; have HB := Aside0.mk hb; clear hbox hb hgb) | ((with_reducible refine gate_dst (N := 6) rfl ?_); refine box_event ?hg (N := 6) ?hd (cs := #[.slice none 0 0, .slice none 0 0]) (t := 25) ?hr ?_; (case hd => rfl); (case hg => rfl); (case hr => first | (go_simp; done) | (go_simp; rfl)); intro gr hgr w2 hbox hb; have BR := Aside0.mk hbox; have BB2 := Aside0.mk (blk_below BB.out hb); have HB2 := Aside0.mk (below_step HB.out hb); have GR : Aside0 (w.heap.size ≤ gr) := ⟨by rw [hgr]; exact HB.out.size⟩; have hb0 := (blk_cell BB2.out 0).trans rfl; have hb1 := (blk_cell BB2.out 1).trans rfl; clear hbox hb hgr BB HB))
 refine (ledger_open.row A0_0 c0_0 l0_0 A0_1 c0_1 l0_1 a1 _ (Kd.C_below HR0.out HB2.out) HC0.out (Kd.C_below HR1.out HB2.out) HC1.out HBIG.out.1 HBIG.out.2).mono ?_
 rintro e w3 ⟨g, vp, vq, rfl, hk3⟩
 obtain ⟨y0, hy0⟩ : ∃ y0, y0 = opW l0_0 l0_1 a1 := ⟨_, rfl⟩
 rw [← hy0] at hk3
 have HY0 := Aside0.mk hy0
 have K := Aside0.mk (hk3.lower HB2.out)
 have BR2 := Aside0.mk (blk_below BR.out hk3.hb)
 clear hb0 hb1 hk3 hy0 BR BB2 HB2
 have BR := BR2
 clear BR2
 go_wp2_with fail
 refine (ledger_book_pay.row w g _ _ l0_0 l0_1 y0 a1 _ K.out (by have := HBIG.out.1; omega)).mono ?_
 rintro e w6 ⟨rfl, hb6⟩
 have nK := Aside0.mk (K.out.below hb6)
 have nR := Aside0.mk (blk_below BR.out hb6)
 clear K BR hb6
 have K := nK
 have BR := nR
 clear nK nR
 obtain ⟨p, hp⟩ : ∃ p, p = payOf l0_0 a1 := ⟨_, rfl⟩
 rw [← hp]
 have HP := Aside0.mk hp
 clear hp
 unfold pcells
 have hfld : ∀ w_ : World, (Instr.field 31 (.agg #[.int .i64 p.f0, .int .i64 p.f1, .int .i64 p.f2, .int .i64 p.f3]) 1).run Try.prog w_ = .ok (.int .i64 p.f1) w_ := fun _ => by kernel_rfl
 go_wp2_with fail
 refine (ledger_book_unless.row w g _ _ l0_0 l0_1 y0 (p.f1 == 0) 9 _ K.out).mono ?_
 rintro e w4 ⟨rfl, hk4, hs4⟩
 obtain ⟨y1, hy1⟩ : ∃ y1, y1 = unl y0 (p.f1 == 0) 9 := ⟨_, rfl⟩
 rw [← hy1] at hk4
 have HY1 := Aside0.mk hy1
 have nR := Aside0.mk (blk_kept BR.out hs4 (blk_ne BR.out K.out.blk (by decide)))
 clear K BR hs4 hy1
 have K := Aside0.mk hk4
 have BR := nR
 clear hk4 nR
 go_wp2_with fail
 refine (ledger_book_post.row w g _ _ l0_0 l0_1 y1 ⟨a1, 2, a2, p.f1⟩ _ K.out (fun h_ => good_len (by exact good_of_why HY0.out (unl_zero (by decide) ((HY1.out.symm).trans (postE_zero h_)))))).mono ?_
 rintro e w7 ⟨rfl, hs7, vp1, vq1, hk7⟩
 obtain ⟨y3, hy3⟩ : ∃ y3, y3 = postWs l0_0 l0_1 y1 ⟨a1, 2, a2, p.f1⟩ := ⟨_, rfl⟩
 rw [← hy3] at hk7
 have HY3 := Aside0.mk hy3
 have nR := Aside0.mk (blk_kept BR.out hs7 (K.out.other BR.out (by decide) (by decide) (by decide)))
 clear K BR hs7 hy3
 have K := Aside0.mk hk7
 have BR := nR
 clear hk7 nR
 go_wp2_with fail
 refine (ledger_book_end.row w g _ _ _ _ y3 _ K.out).mono ?_
 rintro e w8 ⟨v1, v2, rfl, hr1, hr2, hb8, hb9⟩
 obtain ⟨AE, cE, rfl⟩ := Kd.R_slice hr1
 obtain ⟨AF, cF, rfl⟩ := Kd.R_slice hr2
 have R1 := Aside0.mk hr1
 have R2 := Aside0.mk hr2
 have HBE := Aside0.mk hb8
 have nR := Aside0.mk (blk_below BR.out hb9)
 clear K BR hr1 hr2 hb8 hb9
 have BR := nR
 clear nR
 go_upto_region 6 with (first | ((with_reducible refine gate_dst (N := 11) rfl ?_); refine box_event ?hg (N := 11) ?hd (cs := #[.slice none 0 0, .slice none 0 0]) (t := 25) ?hr ?_; (case hd => rfl); (case hg => rfl); (case hr => first | (go_simp; done) | (go_simp; rfl)); intro go hgo w9 hbox hb; have BO := Aside0.mk hbox; have nR := Aside0.mk (blk_below BR.out hb); have GO : Aside0 (w.heap.size ≤ go ∧ gr ≠ go) := ⟨by rw [hgo]; exact ⟨HBE.out.size, Nat.ne_of_lt (blk_lt BR.out)⟩⟩; have n1 := Aside0.mk (Kd.R_below R1.out hb); have n2 := Aside0.mk (Kd.R_below R2.out hb); have n3 := Aside0.mk (below_step HBE.out hb); have hq0 := (blk_cell BO.out 0).trans rfl; have hq1 := (blk_cell BO.out 1).trans rfl; have hf0 := blk_frozen BO.out 0; have hf1 := blk_frozen BO.out 1; clear hbox hb hgo BR R1 R2 HBE; have BR := nR; have R1 := n1; have R2 := n2; have HBE := n3; clear nR n1 n2 n3))
 clear hq0 hq1 hf0 hf1
 have hr0 := (blk_cell (set2F BR.out GO.out.2 (.slice AE (endL y3 (postPs l0_0 l0_1 y1 ⟨a1, 2, a2, p.f1⟩)).length cE) (.slice AF (endL y3 (postQs l0_1 y1 ⟨a1, 2, a2, p.f1⟩)).length cF)) 0).trans rfl
 have hr1 := (blk_cell (set2F BR.out GO.out.2 (.slice AE (endL y3 (postPs l0_0 l0_1 y1 ⟨a1, 2, a2, p.f1⟩)).length cE) (.slice AF (endL y3 (postQs l0_1 y1 ⟨a1, 2, a2, p.f1⟩)).length cF)) 1).trans rfl
 have hf0 := blk_frozen (set2F BR.out GO.out.2 (.slice AE (endL y3 (postPs l0_0 l0_1 y1 ⟨a1, 2, a2, p.f1⟩)).length cE) (.slice AF (endL y3 (postQs l0_1 y1 ⟨a1, 2, a2, p.f1⟩)).length cF)) 0
 have hf1 := blk_frozen (set2F BR.out GO.out.2 (.slice AE (endL y3 (postPs l0_0 l0_1 y1 ⟨a1, 2, a2, p.f1⟩)).length cE) (.slice AF (endL y3 (postQs l0_1 y1 ⟨a1, 2, a2, p.f1⟩)).length cF)) 1
 have ho0 := (blk_cell (set2B BO.out (.slice AE (endL y3 (postPs l0_0 l0_1 y1 ⟨a1, 2, a2, p.f1⟩)).length cE) (.slice AF (endL y3 (postQs l0_1 y1 ⟨a1, 2, a2, p.f1⟩)).length cF)) 0).trans rfl
 have ho1 := (blk_cell (set2B BO.out (.slice AE (endL y3 (postPs l0_0 l0_1 y1 ⟨a1, 2, a2, p.f1⟩)).length cE) (.slice AF (endL y3 (postQs l0_1 y1 ⟨a1, 2, a2, p.f1⟩)).length cF)) 1).trans rfl
 have nR := Aside0.mk (set2F BR.out GO.out.2 (.slice AE (endL y3 (postPs l0_0 l0_1 y1 ⟨a1, 2, a2, p.f1⟩)).length cE) (.slice AF (endL y3 (postQs l0_1 y1 ⟨a1, 2, a2, p.f1⟩)).length cF))
 have n1 := Aside0.mk (set2R R1.out BO.out (by decide) (.slice AE (endL y3 (postPs l0_0 l0_1 y1 ⟨a1, 2, a2, p.f1⟩)).length cE) (.slice AF (endL y3 (postQs l0_1 y1 ⟨a1, 2, a2, p.f1⟩)).length cF))
 have n2 := Aside0.mk (set2R R2.out BO.out (by decide) (.slice AE (endL y3 (postPs l0_0 l0_1 y1 ⟨a1, 2, a2, p.f1⟩)).length cE) (.slice AF (endL y3 (postQs l0_1 y1 ⟨a1, 2, a2, p.f1⟩)).length cF))
 have n3 := Aside0.mk (set2W HBE.out GO.out.1 (.slice AE (endL y3 (postPs l0_0 l0_1 y1 ⟨a1, 2, a2, p.f1⟩)).length cE) (.slice AF (endL y3 (postQs l0_1 y1 ⟨a1, 2, a2, p.f1⟩)).length cF))
 clear BR R1 R2 HBE BO
 have BR := nR
 have R1 := n1
 have R2 := n2
 have HBE := n3
 clear nR n1 n2 n3
 generalize ((w9.setCell ⟨go, 0, none⟩ (.slice AE (endL y3 (postPs l0_0 l0_1 y1 ⟨a1, 2, a2, p.f1⟩)).length cE)).setCell ⟨go, 1, none⟩ (.slice AF (endL y3 (postQs l0_1 y1 ⟨a1, 2, a2, p.f1⟩)).length cF)) = wE at BR R1 R2 HBE hr0 hr1 hf0 hf1 ho0 ho1 ⊢
 have HY : Aside0 (y1 = setW l0_0 l0_1 a1) := ⟨by rw [HY1.out, HY0.out, HP.out]; rfl⟩
 have h_ := HRES.out
 unfold setV at h_
 rw [← HP.out, ← HY.out, ← HY3.out] at h_
 have HRES4 : Aside0 (y3 = r4) := ⟨congrArg (fun z => z.2.2.2) h_⟩
 have HRES3 : Aside0 ((if y3 = 0 then p.f1 else 0) = r3) := ⟨congrArg (fun z => z.2.2.1) h_⟩
 have HRES1 : Aside0 (endL y3 (postPs l0_0 l0_1 y1 ⟨a1, 2, a2, p.f1⟩) = r1) := ⟨congrArg (fun z => z.1) h_⟩
 have HRES2 : Aside0 (endL y3 (postQs l0_1 y1 ⟨a1, 2, a2, p.f1⟩) = r2) := ⟨congrArg (fun z => z.2.1) h_⟩
 clear h_ HRES
 by_cases hz : y3 = 0
 ·have HR3 : Aside0 (p.f1 = r3) := ⟨by rw [← HRES3.out, if_pos hz]⟩
  have e1 : (y3 == 0) = true := beq_iff_eq.mpr hz
  have e2 : (y3 != 0) = false := bne_eq_false_iff_eq.mpr hz
  have HZ : Aside0 ((0 : Int) = r4) := ⟨by rw [← HRES4.out, hz]⟩
  clear hz
  go_wp2_with fail
  refine bodyPost_ret (results_ctt rfl _ _ gr 25 #[.slice AE _ cE, .slice AF _ cF] (0, 0) _ rfl (set2B BR.out _ _) Try.underlying25 rfl (by kernel_rfl)) rfl ⟨_, _, by rw [← HR3.out, ← HZ.out]; rfl, by rw [← HRES1.out]; exact set2R R1.out BR.out (by decide) _ _, by rw [← HRES2.out]; exact set2R R2.out BR.out (by decide) _ _, set2W HBE.out GR.out _ _⟩
 ·have HR3 : Aside0 ((0 : Int) = r3) := ⟨by rw [← HRES3.out, if_neg hz]⟩
  have e1 : (y3 == 0) = false := beq_eq_false_iff_ne.mpr hz
  have e2 : (y3 != 0) = true := bne_iff_ne.mpr hz
  clear hz
  go_wp2_with fail
  refine bodyPost_ret (results_ctt rfl _ _ gr 25 #[.slice AE _ cE, .slice AF _ cF] (0, 0) _ rfl (set2B BR.out _ _) Try.underlying25 rfl (by kernel_rfl)) rfl ⟨_, _, by rw [← HR3.out, ← HRES4.out]; rfl, by rw [← HRES1.out]; exact set2R R1.out BR.out (by decide) _ _, by rw [← HRES2.out]; exact set2R R2.out BR.out (by decide) _ _, set2W HBE.out GR.out _ _⟩
end Go.Proofs.Ytaddmogfeijjcaa.Print
