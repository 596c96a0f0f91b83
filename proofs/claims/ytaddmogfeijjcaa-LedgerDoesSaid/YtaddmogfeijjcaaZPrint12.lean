-- What the claim uses alone (wip/slim.py). Lean checks it.
import Derived.Test.YtaddmogfeijjcaaZPrint0
import Derived.Test.YtaddmogfeijjcaaZPrint6
import Derived.Test.YtaddmogfeijjcaaZPrint7
import Derived.Test.YtaddmogfeijjcaaZPrint11
import Derived.Test.YtaddmogfeijjcaaZPrint13
namespace Go.Proofs.Ytaddmogfeijjcaa.Print
open Go.RowKit Go.Proofs.YtaddmogfeijjcaaW.PrintWords Go.Proofs.YtaddmogfeijjcaaW.PrintLast Go.Proofs.YtaddmogfeijjcaaW.PrintMore
attribute [local go_sem] max2_mx min2_mn max_two min_two max_three min_three max_four min_four
set_option linter.unusedVariables false
set_option linter.unusedSimpArgs false
def plcI (ps : List S31) (n : Int) : Nat := bsN (ledger_place.P ps n) 64 0 ps.length
def plcB (ps : List S31) (n : Int) : Bool := decide (plcI ps n < ps.length) && decide ((rd_T31 ps (plcI ps n : Int)).f0 = n)
def payOf (ps : List S31) (n : Int) : S31 := if plcB ps n = true then pAt ps (plcI ps n) else zeroP n
theorem plc_is (ps : List S31) (n : Int) (h : ps.length ≤ 4611686018427387904) : ledger_place.f ps n = some ((plcI ps n : Int), plcB ps n) := if_pos h
theorem plc_lt {ps : List S31} {n : Int} (h : plcB ps n = true) : plcI ps n < ps.length := by
 unfold plcB at h
 simp only [Bool.and_eq_true, decide_eq_true_eq] at h
 exact h.1
theorem plc_le (ps : List S31) (n : Int) : plcI ps n ≤ ps.length := bsN_le _ 64 0 ps.length (Nat.zero_le _)
set_option maxHeartbeats 4000000 in
set_option maxRecDepth 100000 in
theorem ledger_book_pay.row (w0 : World) (g : Nat) (vp vq : Value) (ps : List S31) (qs : List S55) (why : Int) (n : Int) (w : World) (hk : Bk w0 w g vp vq ps qs why) (hl : ps.length ≤ 4611686018427387904) :
  Calls Try.prog 27 #[.pointer (some ⟨g, 0, none⟩), .int .i64 n] w fun e w' => e = .returned (.agg (pcells (payOf ps n))) ∧ Below w.heap.size w w' := by
 have hu31 := Try.underlying31
 obtain ⟨Ap, cp, rfl⟩ := Kd.R_slice hk.rp
 have HK := Aside0.mk hk
 have HP := Aside0.mk (plc_is ps n hl)
 have HLL := Aside0.mk hl
 clear hk hl
 obtain ⟨i, hi⟩ : ∃ i, i = plcI ps n := ⟨_, rfl⟩
 obtain ⟨b, hb_⟩ : ∃ b, b = plcB ps n := ⟨_, rfl⟩
 rw [← hi, ← hb_] at HP
 have HI := Aside0.mk hi
 have HBB := Aside0.mk hb_
 clear hi hb_
 go_enter Try.func27, Try.ntmps27
 go_wp2_with (first | ((with_reducible refine gate_dst (N := 4) rfl ?_); refine box_event ?hg (N := 4) ?hd (cs := #[.int .i64 0, .int .i64 0, .int .i64 0, .int .i64 0]) (t := 31) ?hr ?_; (case hd => rfl); (case hg => rfl); (case hr => first | (go_simp; done) | (go_simp; rfl)); intro g4 hg4 w1 hbox hb; have K1 := Aside0.mk (HK.out.below hb); have BP := Aside0.mk hbox; have HB := Aside0.mk hb; have G4 : Aside0 (w.heap.size ≤ g4) := ⟨by rw [hg4]; exact Nat.le_refl _⟩; have hg0 := (blk_cell K1.out.blk 0).trans rfl; clear hbox hb hg4 HK))
 refine (ledger_place.calls Ap cp ps n _ _ _ (Kd.R_reads' K1.out.rp).2.2 (Kd.R_reads' K1.out.rp).2.1 HP.out).mono ?_
 rintro e w2 ⟨rfl, hb2⟩
 have K2 := Aside0.mk (K1.out.below hb2)
 have BP2 := Aside0.mk (blk_below BP.out hb2)
 have HB2 := Aside0.mk (below_step HB.out hb2)
 clear hg0 hb2 K1 BP HB HP
 have hg0 := (blk_cell K2.out.blk 0).trans rfl
 have hz0 := (blk_cell BP2.out 0).trans rfl
 have hz1 := (blk_cell BP2.out 1).trans rfl
 have hz2 := (blk_cell BP2.out 2).trans rfl
 have hz3 := (blk_cell BP2.out 3).trans rfl
 have hf0 := blk_frozen BP2.out 0
 have hf1 := blk_frozen BP2.out 1
 have hf2 := blk_frozen BP2.out 2
 have hf3 := blk_frozen BP2.out 3
 cases b with
 | false =>
  have HV : Aside0 (payOf ps n = zeroP n) := ⟨if_neg (by rw [← HBB.out]; simp)⟩
  go_wp2_with fail
  refine bodyPost_ret (results_cell_row rfl _ _ g4 31 #[.int .i64 n, .int .i64 0, .int .i64 0, .int .i64 0] (0, 0) _ rfl (set4B BP2.out _ _ _ _) Try.underlying31 rfl (by kernel_rfl)) rfl ⟨by rw [HV.out]; rfl, set4W HB2.out G4.out _ _ _ _⟩
 | true =>
  have HV : Aside0 (payOf ps n = pAt ps i) := ⟨by unfold payOf; rw [← HBB.out, if_pos rfl, ← HI.out]⟩
  have hlt : i < ps.length := by rw [HI.out]; exact plc_lt HBB.out.symm
  obtain ⟨ad, he, hx0, hx1, hx2, hx3⟩ := at_T31 (Kd.R_reads' K2.out.rp).2.2 (i : Int) (Int.natCast_nonneg _) (Int.ofNat_lt.mpr hlt)
  subst he
  rw [Int.toNat_natCast, rd_pAt] at hx0 hx1 hx2 hx3
  obtain ⟨p, hp⟩ : ∃ p, p = pAt ps i := ⟨_, rfl⟩
  rw [← hp] at hx0 hx1 hx2 hx3 HV
  have pm : ((i : Int) < (ps.length : Int)) = True := eq_true (Int.ofNat_lt.mpr hlt)
  clear hlt hp
  go_wp2_with fail
  refine bodyPost_ret (results_cell_row rfl _ _ g4 31 #[.int .i64 p.f0, .int .i64 p.f1, .int .i64 p.f2, .int .i64 p.f3] (0, 0) _ rfl (set4B BP2.out _ _ _ _) Try.underlying31 rfl (by kernel_rfl)) rfl ⟨by rw [HV.out]; rfl, set4W HB2.out G4.out _ _ _ _⟩
end Go.Proofs.Ytaddmogfeijjcaa.Print
