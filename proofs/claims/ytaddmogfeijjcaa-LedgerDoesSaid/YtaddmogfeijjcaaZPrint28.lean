-- What the claim uses alone (wip/slim.py). Lean checks it.
import Derived.Test.YtaddmogfeijjcaaZPrint0
import Derived.Test.YtaddmogfeijjcaaZPrint1
import Derived.Test.YtaddmogfeijjcaaZPrint7
import Derived.Test.YtaddmogfeijjcaaZPrint19
import Derived.Test.YtaddmogfeijjcaaZPrint20
import Derived.Test.YtaddmogfeijjcaaZPrint24
import Derived.Test.YtaddmogfeijjcaaZPrint25
import Derived.Test.YtaddmogfeijjcaaZPrint27
import Derived.Test.YtaddmogfeijjcaaZPrint38
namespace Go.Proofs.Ytaddmogfeijjcaa.Print
open Go.RowKit Go.Proofs.YtaddmogfeijjcaaW.PrintWords Go.Proofs.YtaddmogfeijjcaaW.PrintLast Go.Proofs.YtaddmogfeijjcaaW.PrintMore
attribute [local go_sem] max2_mx min2_mn max_two min_two max_three min_three max_four min_four
set_option linter.unusedVariables false
set_option linter.unusedSimpArgs false
attribute [local go_sem high] eqA31
theorem ladinglaw14_lives.v1 : ledger_Authorise.f [] [] 1 500 = some ([⟨1, 500, 0, 0⟩], [⟨1, 1, 2, 500⟩], 0) := by kernel_rfl
theorem ladinglaw14_lives.v2 : ledger_Capture.f [⟨1, 500, 0, 0⟩] [⟨1, 1, 2, 500⟩] 1 = some ([⟨1, 0, 500, 0⟩], [⟨1, 1, 2, 500⟩, ⟨1, 2, 3, 500⟩], 500, 0) := by kernel_rfl
theorem ladinglaw14_lives.v3 : ledger_Refund.f [⟨1, 0, 500, 0⟩] [⟨1, 1, 2, 500⟩, ⟨1, 2, 3, 500⟩] 1 200 = some ([⟨1, 0, 500, 200⟩], [⟨1, 1, 2, 500⟩, ⟨1, 2, 3, 500⟩, ⟨1, 3, 1, 200⟩], 0) := by kernel_rfl
theorem ladinglaw14_lives.v4 : ledger_Refund.f [⟨1, 0, 500, 200⟩] [⟨1, 1, 2, 500⟩, ⟨1, 2, 3, 500⟩, ⟨1, 3, 1, 200⟩] 1 400 = some ([], [], 13) := by kernel_rfl
theorem ladinglaw14_lives.v5 : ledger_Balance.f 20 [⟨1, 0, 500, 200⟩] [⟨1, 1, 2, 500⟩, ⟨1, 2, 3, 500⟩, ⟨1, 3, 1, 200⟩] 1 = some (-300, 0) := by kernel_rfl
theorem ladinglaw14_lives.v6 : ledger_Pay.f [⟨1, 0, 500, 200⟩] [⟨1, 1, 2, 500⟩, ⟨1, 2, 3, 500⟩, ⟨1, 3, 1, 200⟩] 1 = some (1, 0, 500, 200, 0) := by kernel_rfl
def ladinglaw14_lives.f : Option Bool := some true
set_option maxHeartbeats 8000000 in
set_option maxRecDepth 100000 in
theorem ladinglaw14_lives.calls (r : Bool) (w : World) (h : ladinglaw14_lives.f = some r) :
  Calls Try.prog 8 #[] w fun e w' => e = .returned (.bool r) ∧ Below w.heap.size w w' := by
 obtain rfl := Option.some.inj h
 clear h
 have hu25 := Try.underlying25
 have hu31 := Try.underlying31
 go_enter Try.func8, Try.ntmps8
 go_wp2_with fail
 refine (ledger_Authorise.calls none 0 [] none 0 [] 1 500 [⟨1, 500, 0, 0⟩] [⟨1, 1, 2, 500⟩] 0 w (Kd.C_nil _ _) (Nat.le_refl _) (Kd.C_nil _ _) (Nat.le_refl _) ladinglaw14_lives.v1).mono ?_
 rintro e w1 ⟨v1, v2, rfl, hr1, hr2, hb⟩
 obtain ⟨A1, c1, hv1⟩ := Kd.R_slice hr1
 obtain ⟨B1, d1, hv2⟩ := Kd.R_slice hr2
 replace hv1 : v1 = .slice A1 1 c1 := hv1
 replace hv2 : v2 = .slice B1 1 d1 := hv2
 subst hv1
 subst hv2
 have R1 := Aside0.mk hr1
 have R2 := Aside0.mk hr2
 have HB := Aside0.mk hb
 clear hr1 hr2 hb
 go_upto_region 2 with (first | ((with_reducible refine gate_dst (N := 1) rfl ?_); refine box_event ?hg (N := 1) ?hd (cs := #[.slice none 0 0, .slice none 0 0]) (t := 25) ?hr ?_; (case hd => rfl); (case hg => rfl); (case hr => first | (go_simp; done) | (go_simp; rfl)); intro g hg w2 hbox hb; have BO := Aside0.mk hbox; have GG : Aside0 (w.heap.size ≤ g) := ⟨by rw [hg]; exact HB.out.size⟩; have n1 := Aside0.mk (Kd.R_below R1.out hb); have n2 := Aside0.mk (Kd.R_below R2.out hb); have n3 := Aside0.mk (below_step HB.out hb); have hq0 := (blk_cell BO.out 0).trans rfl; have hq1 := (blk_cell BO.out 1).trans rfl; have hf0 := blk_frozen BO.out 0; have hf1 := blk_frozen BO.out 1; clear hbox hb hg R1 R2 HB; have R1 := n1; have R2 := n2; have HB := n3; clear n1 n2 n3))
 clear hq0 hq1 hf0 hf1
 have n0 := Aside0.mk (set2B BO.out (.slice A1 1 c1) (.slice B1 1 d1))
 have n1 := Aside0.mk (set2R R1.out BO.out (by decide) (.slice A1 1 c1) (.slice B1 1 d1))
 have n2 := Aside0.mk (set2R R2.out BO.out (by decide) (.slice A1 1 c1) (.slice B1 1 d1))
 have n3 := Aside0.mk (set2W HB.out GG.out (.slice A1 1 c1) (.slice B1 1 d1))
 clear BO R1 R2 HB
 have BO := n0
 have R1 := n1
 have R2 := n2
 have HB := n3
 clear n0 n1 n2 n3
 generalize ((w2.setCell ⟨g, 0, none⟩ (.slice A1 1 c1)).setCell ⟨g, 1, none⟩ (.slice B1 1 d1)) = w3 at BO R1 R2 HB ⊢
 have hq0 := (blk_cell BO.out 0).trans rfl
 have hq1 := (blk_cell BO.out 1).trans rfl
 have hf0 := blk_frozen BO.out 0
 have hf1 := blk_frozen BO.out 1
 go_wp2_with fail
 refine (ledger_Capture.calls A1 c1 [⟨1, 500, 0, 0⟩] B1 d1 [⟨1, 1, 2, 500⟩] 1 [⟨1, 0, 500, 0⟩] [⟨1, 1, 2, 500⟩, ⟨1, 2, 3, 500⟩] 500 0 _ (Kd.R_reads' R1.out).2.2 (Kd.R_reads' R1.out).2.1 (Kd.R_reads' R2.out).2.2 (Kd.R_reads' R2.out).2.1 ladinglaw14_lives.v2).mono ?_
 rintro e w4 ⟨v1, v2, rfl, hr1, hr2, hb⟩
 obtain ⟨A2, c2, hv1⟩ := Kd.R_slice hr1
 obtain ⟨B2, d2, hv2⟩ := Kd.R_slice hr2
 replace hv1 : v1 = .slice A2 1 c2 := hv1
 replace hv2 : v2 = .slice B2 2 d2 := hv2
 subst hv1
 subst hv2
 have n0 := Aside0.mk (blk_below BO.out hb)
 have n3 := Aside0.mk (below_step HB.out hb)
 have n1 := Aside0.mk (Kd.R_lower hr1 HB.out.size)
 have n2 := Aside0.mk (Kd.R_lower hr2 HB.out.size)
 clear hr1 hr2 hb BO R1 R2 HB hq0 hq1 hf0 hf1
 have BO := n0
 have R1 := n1
 have R2 := n2
 have HB := n3
 clear n0 n1 n2 n3
 have hq0 := (blk_cell BO.out 0).trans rfl
 have hq1 := (blk_cell BO.out 1).trans rfl
 have hf0 := blk_frozen BO.out 0
 have hf1 := blk_frozen BO.out 1
 go_upto_region 3 with (fail)
 clear hq0 hq1 hf0 hf1
 have n0 := Aside0.mk (set2B BO.out (.slice A2 1 c2) (.slice B2 2 d2))
 have n1 := Aside0.mk (set2R R1.out BO.out (by decide) (.slice A2 1 c2) (.slice B2 2 d2))
 have n2 := Aside0.mk (set2R R2.out BO.out (by decide) (.slice A2 1 c2) (.slice B2 2 d2))
 have n3 := Aside0.mk (set2W HB.out GG.out (.slice A2 1 c2) (.slice B2 2 d2))
 clear BO R1 R2 HB
 have BO := n0
 have R1 := n1
 have R2 := n2
 have HB := n3
 clear n0 n1 n2 n3
 generalize ((w4.setCell ⟨g, 0, none⟩ (.slice A2 1 c2)).setCell ⟨g, 1, none⟩ (.slice B2 2 d2)) = w5 at BO R1 R2 HB ⊢
 have hq0 := (blk_cell BO.out 0).trans rfl
 have hq1 := (blk_cell BO.out 1).trans rfl
 have hf0 := blk_frozen BO.out 0
 have hf1 := blk_frozen BO.out 1
 go_wp2_with fail
 refine (ledger_Refund.calls A2 c2 [⟨1, 0, 500, 0⟩] B2 d2 [⟨1, 1, 2, 500⟩, ⟨1, 2, 3, 500⟩] 1 200 [⟨1, 0, 500, 200⟩] [⟨1, 1, 2, 500⟩, ⟨1, 2, 3, 500⟩, ⟨1, 3, 1, 200⟩] 0 _ (Kd.R_reads' R1.out).2.2 (Kd.R_reads' R1.out).2.1 (Kd.R_reads' R2.out).2.2 (Kd.R_reads' R2.out).2.1 ladinglaw14_lives.v3).mono ?_
 rintro e w6 ⟨v1, v2, rfl, hr1, hr2, hb⟩
 obtain ⟨A3, c3, hv1⟩ := Kd.R_slice hr1
 obtain ⟨B3, d3, hv2⟩ := Kd.R_slice hr2
 replace hv1 : v1 = .slice A3 1 c3 := hv1
 replace hv2 : v2 = .slice B3 3 d3 := hv2
 subst hv1
 subst hv2
 have n0 := Aside0.mk (blk_below BO.out hb)
 have n3 := Aside0.mk (below_step HB.out hb)
 have n1 := Aside0.mk (Kd.R_lower hr1 HB.out.size)
 have n2 := Aside0.mk (Kd.R_lower hr2 HB.out.size)
 clear hr1 hr2 hb BO R1 R2 HB hq0 hq1 hf0 hf1
 have BO := n0
 have R1 := n1
 have R2 := n2
 have HB := n3
 clear n0 n1 n2 n3
 have hq0 := (blk_cell BO.out 0).trans rfl
 have hq1 := (blk_cell BO.out 1).trans rfl
 have hf0 := blk_frozen BO.out 0
 have hf1 := blk_frozen BO.out 1
 go_upto_region 4 with (fail)
 clear hq0 hq1 hf0 hf1
 have n0 := Aside0.mk (set2B BO.out (.slice A3 1 c3) (.slice B3 3 d3))
 have n1 := Aside0.mk (set2R R1.out BO.out (by decide) (.slice A3 1 c3) (.slice B3 3 d3))
 have n2 := Aside0.mk (set2R R2.out BO.out (by decide) (.slice A3 1 c3) (.slice B3 3 d3))
 have n3 := Aside0.mk (set2W HB.out GG.out (.slice A3 1 c3) (.slice B3 3 d3))
 clear BO R1 R2 HB
 have BO := n0
 have R1 := n1
 have R2 := n2
 have HB := n3
 clear n0 n1 n2 n3
 generalize ((w6.setCell ⟨g, 0, none⟩ (.slice A3 1 c3)).setCell ⟨g, 1, none⟩ (.slice B3 3 d3)) = w7 at BO R1 R2 HB ⊢
 have hq0 := (blk_cell BO.out 0).trans rfl
 have hq1 := (blk_cell BO.out 1).trans rfl
 have hf0 := blk_frozen BO.out 0
 have hf1 := blk_frozen BO.out 1
 go_wp2_with fail
 refine (ledger_Refund.calls A3 c3 [⟨1, 0, 500, 200⟩] B3 d3 [⟨1, 1, 2, 500⟩, ⟨1, 2, 3, 500⟩, ⟨1, 3, 1, 200⟩] 1 400 [] [] 13 _ (Kd.R_reads' R1.out).2.2 (Kd.R_reads' R1.out).2.1 (Kd.R_reads' R2.out).2.2 (Kd.R_reads' R2.out).2.1 ladinglaw14_lives.v4).mono ?_
 rintro e w8 ⟨v1, v2, rfl, hr1, hr2, hb⟩
 obtain ⟨A4, c4, hv1⟩ := Kd.R_slice hr1
 obtain ⟨B4, d4, hv2⟩ := Kd.R_slice hr2
 replace hv1 : v1 = .slice A4 0 c4 := hv1
 replace hv2 : v2 = .slice B4 0 d4 := hv2
 subst hv1
 subst hv2
 clear hr1 hr2
 have n0 := Aside0.mk (blk_below BO.out hb)
 have n1 := Aside0.mk (Kd.R_below R1.out hb)
 have n2 := Aside0.mk (Kd.R_below R2.out hb)
 have n3 := Aside0.mk (below_step HB.out hb)
 clear BO R1 R2 HB hq0 hq1 hf0 hf1
 have BO := n0
 have R1 := n1
 have R2 := n2
 have HB := n3
 clear n0 n1 n2 n3
 clear hb
 go_upto_region 5 with (first | ((with_reducible refine gate_dst (N := 6) rfl ?_); refine box_event ?hg (N := 6) ?hd (cs := #[.slice none 0 0, .slice none 0 0]) (t := 25) ?hr ?_; (case hd => rfl); (case hg => rfl); (case hr => first | (go_simp; done) | (go_simp; rfl)); intro g6 hg6 w9 hbox hb; have B6 := Aside0.mk hbox; have GE : Aside0 (w.heap.size ≤ g6 ∧ g ≠ g6) := ⟨by rw [hg6]; exact ⟨HB.out.size, Nat.ne_of_lt (blk_lt BO.out)⟩⟩; have n0 := Aside0.mk (blk_below BO.out hb); have n1 := Aside0.mk (Kd.R_below R1.out hb); have n2 := Aside0.mk (Kd.R_below R2.out hb); have n3 := Aside0.mk (below_step HB.out hb); have hq0 := (blk_cell B6.out 0).trans rfl; have hq1 := (blk_cell B6.out 1).trans rfl; have hf0 := blk_frozen B6.out 0; have hf1 := blk_frozen B6.out 1; clear hbox hb hg6 BO R1 R2 HB; have BO := n0; have R1 := n1; have R2 := n2; have HB := n3; clear n0 n1 n2 n3))
 clear hq0 hq1 hf0 hf1
 have n0 := Aside0.mk (set2F BO.out GE.out.2 (.slice A4 0 c4) (.slice B4 0 d4))
 have n1 := Aside0.mk (set2R R1.out B6.out (by decide) (.slice A4 0 c4) (.slice B4 0 d4))
 have n2 := Aside0.mk (set2R R2.out B6.out (by decide) (.slice A4 0 c4) (.slice B4 0 d4))
 have n3 := Aside0.mk (set2W HB.out GE.out.1 (.slice A4 0 c4) (.slice B4 0 d4))
 clear BO R1 R2 HB B6 GE
 have BO := n0
 have R1 := n1
 have R2 := n2
 have HB := n3
 clear n0 n1 n2 n3
 generalize ((w9.setCell ⟨g6, 0, none⟩ (.slice A4 0 c4)).setCell ⟨g6, 1, none⟩ (.slice B4 0 d4)) = wA at BO R1 R2 HB ⊢
 have hq0 := (blk_cell BO.out 0).trans rfl
 have hq1 := (blk_cell BO.out 1).trans rfl
 have hf0 := True.intro
 have hf1 := True.intro
 go_wp2_with fail
 refine (ledger_Balance.calls 20 A3 c3 [⟨1, 0, 500, 200⟩] B3 d3 [⟨1, 1, 2, 500⟩, ⟨1, 2, 3, 500⟩, ⟨1, 3, 1, 200⟩] 1 (-300) 0 _ (Kd.R_reads' R1.out).2.2 (Kd.R_reads' R1.out).2.1 (Kd.R_reads' R2.out).2.2 (Kd.R_reads' R2.out).2.1 ladinglaw14_lives.v5).mono ?_
 rintro e wB ⟨rfl, hb⟩
 have n0 := Aside0.mk (blk_below BO.out hb)
 have n1 := Aside0.mk (Kd.R_below R1.out hb)
 have n2 := Aside0.mk (Kd.R_below R2.out hb)
 have n3 := Aside0.mk (below_step HB.out hb)
 clear BO R1 R2 HB hq0 hq1 hf0 hf1
 have BO := n0
 have R1 := n1
 have R2 := n2
 have HB := n3
 clear n0 n1 n2 n3
 clear hb
 have hq0 := (blk_cell BO.out 0).trans rfl
 have hq1 := (blk_cell BO.out 1).trans rfl
 have hf0 := True.intro
 have hf1 := True.intro
 go_wp2_with fail
 refine (ledger_Pay.calls A3 c3 [⟨1, 0, 500, 200⟩] B3 d3 [⟨1, 1, 2, 500⟩, ⟨1, 2, 3, 500⟩, ⟨1, 3, 1, 200⟩] 1 1 0 500 200 0 _ (Kd.R_reads' R1.out).2.2 (Kd.R_reads' R1.out).2.1 (Kd.R_reads' R2.out).2.2 (Kd.R_reads' R2.out).2.1 ladinglaw14_lives.v6).mono ?_
 rintro e wC ⟨rfl, hb⟩
 have n0 := Aside0.mk (blk_below BO.out hb)
 have n1 := Aside0.mk (Kd.R_below R1.out hb)
 have n2 := Aside0.mk (Kd.R_below R2.out hb)
 have n3 := Aside0.mk (below_step HB.out hb)
 clear BO R1 R2 HB hq0 hq1 hf0 hf1
 have BO := n0
 have R1 := n1
 have R2 := n2
 have HB := n3
 clear n0 n1 n2 n3
 clear hb
 go_upto_region 7 with (first | ((with_reducible refine gate_dst (N := 10) rfl ?_); refine box_event ?hg (N := 10) ?hd (cs := #[.int .i64 0, .int .i64 0, .int .i64 0, .int .i64 0]) (t := 31) ?hr ?_; (case hd => rfl); (case hg => rfl); (case hr => first | (go_simp; done) | (go_simp; rfl)); intro gA hgA wD hbox hb; have BA := Aside0.mk hbox; have GE : Aside0 (w.heap.size ≤ gA ∧ g ≠ gA) := ⟨by rw [hgA]; exact ⟨HB.out.size, Nat.ne_of_lt (blk_lt BO.out)⟩⟩; have n0 := Aside0.mk (blk_below BO.out hb); have n3 := Aside0.mk (below_step HB.out hb); have hz0 := (blk_cell hbox 0).trans rfl; have hz1 := (blk_cell hbox 1).trans rfl; have hz2 := (blk_cell hbox 2).trans rfl; have hz3 := (blk_cell hbox 3).trans rfl; have hf0 := blk_frozen hbox 0; have hf1 := blk_frozen hbox 1; have hf2 := blk_frozen hbox 2; have hf3 := blk_frozen hbox 3; clear hbox hb hgA BO R1 R2 HB; have BO := n0; have HB := n3; clear n0 n3))
 clear hz0 hz1 hz2 hz3 hf0 hf1 hf2 hf3
 have n0 := Aside0.mk (set4F BO.out GE.out.2 (.int .i64 1) (.int .i64 0) (.int .i64 500) (.int .i64 200))
 have n1 := Aside0.mk (set4B BA.out (.int .i64 1) (.int .i64 0) (.int .i64 500) (.int .i64 200))
 have n3 := Aside0.mk (set4W HB.out GE.out.1 (.int .i64 1) (.int .i64 0) (.int .i64 500) (.int .i64 200))
 clear BO BA HB GE
 have BO := n0
 have BA := n1
 have HB := n3
 clear n0 n1 n3
 generalize ((((wD.setCell ⟨gA, 0, none⟩ (.int .i64 1)).setCell ⟨gA, 1, none⟩ (.int .i64 0)).setCell ⟨gA, 2, none⟩ (.int .i64 500)).setCell ⟨gA, 3, none⟩ (.int .i64 200)) = wE at BO BA HB ⊢
 have hz0 := (blk_cell BA.out 0).trans rfl
 have hz1 := (blk_cell BA.out 1).trans rfl
 have hz2 := (blk_cell BA.out 2).trans rfl
 have hz3 := (blk_cell BA.out 3).trans rfl
 have hq1 := (blk_cell BO.out 1).trans rfl
 go_wp2_with fail
 go_ret
 exact ⟨rfl, HB.out⟩
end Go.Proofs.Ytaddmogfeijjcaa.Print
