-- What the claim uses alone (wip/slim.py). Lean checks it.
import Derived.Test.YtaddmogfeijjcaaZAb
import Derived.Test.YtaddmogfeijjcaaZPrint0
import Derived.Test.YtaddmogfeijjcaaZPrint1
import Derived.Test.YtaddmogfeijjcaaZPrint6
import Derived.Test.YtaddmogfeijjcaaZPrint7
import Derived.Test.YtaddmogfeijjcaaZPrint11
import Derived.Test.YtaddmogfeijjcaaZPrint12
import Derived.Test.YtaddmogfeijjcaaZPrint13
import Derived.Test.YtaddmogfeijjcaaZPrint14
import Derived.Test.YtaddmogfeijjcaaZPrint16
import Derived.Test.YtaddmogfeijjcaaZPrint38
namespace Go.Proofs.Ytaddmogfeijjcaa.Print
open Go.RowKit Go.Proofs.YtaddmogfeijjcaaW.PrintWords Go.Proofs.YtaddmogfeijjcaaW.PrintLast Go.Proofs.YtaddmogfeijjcaaW.PrintMore
attribute [local go_sem] max2_mx min2_mn max_two min_two max_three min_three max_four min_four
set_option linter.unusedVariables false
set_option linter.unusedSimpArgs false
attribute [local go_sem high] eqA31
def postP (ps : List S31) (x : S55) : List S31 := (if plcB ps x.f0 = true then ps.eraseIdx (plcI ps x.f0) else ps)
def postL (ps : List S31) (x : S55) : List S31 := if eqP (addP (payOf ps x.f0) x) (zeroP x.f0) = true then postP ps x else (postP ps x).take (plcI ps x.f0) ++ [addP (payOf ps x.f0) x] ++ (postP ps x).drop (plcI ps x.f0)
def postE (qs : List S55) (why : Int) : Int := unl why (decide (16384 ≤ (qs.length : Int))) 3
def postW (ps : List S31) (x : S55) : Int := unl 0 (!(fits (addP (payOf ps x.f0) x))) 5
theorem postE_lt {qs : List S55} {why : Int} (h : postE qs why = 0) : qs.length < 16384 := by
 by_cases hm : 16384 ≤ (qs.length : Int)
 ·exfalso
  unfold postE unl at h
  rw [decide_eq_true hm] at h
  split at h
  ·cases h
  ·rename_i h1
   exact h1 ⟨h, rfl⟩
 ·omega
theorem postP_le (ps : List S31) (x : S55) : plcI ps x.f0 ≤ (postP ps x).length := by
 unfold postP
 split
 ·rename_i h
  have := plc_lt h
  rw [List.length_eraseIdx]
  split <;> omega
 ·exact plc_le ps x.f0
theorem postP_len (ps : List S31) (x : S55) : (postP ps x).length ≤ ps.length := by
 unfold postP
 split
 ·rw [List.length_eraseIdx]
  split <;> omega
 ·exact Nat.le_refl _
def postPs (ps : List S31) (qs : List S55) (why : Int) (x : S55) : List S31 := if postE qs why = 0 then postL ps x else ps
def postQs (qs : List S55) (why : Int) (x : S55) : List S55 := if postE qs why = 0 then qs ++ [x] else qs
def postWs (ps : List S31) (qs : List S55) (why : Int) (x : S55) : Int := if postE qs why = 0 then postW ps x else postE qs why
structure PoS (w0 wS W : World) (g gx gp : Nat) (vp0 vq0 vp vq : Value) (ps : List S31) (qs : List S55) (why : Int) (x : S55) (p : S31) : Prop where
 K : Bk w0 W g vp vq ps qs why
 BX : W.heap[gx]? = some (.cells #[.int .i64 x.f0, .int .u8 x.f1, .int .u8 x.f2, .int .i64 x.f3] 55 (0, 0))
 BP : W.heap[gp]? = some (.cells #[.int .i64 p.f0, .int .i64 p.f1, .int .i64 p.f2, .int .i64 p.f3] 31 (0, 0))
 OP : ∀ k, vp.ownBlock = some k → k ≠ gp
 OQ : ∀ k, vq.ownBlock = some k → k ≠ gx
 KE : Kept wS W (BkS g vp0 vq0)
 NP : ∀ k, vp.ownBlock = some k → some k = vp0.ownBlock ∨ wS.heap.size ≤ k
 NQ : ∀ k, vq.ownBlock = some k → some k = vq0.ownBlock ∨ wS.heap.size ≤ k
 hx : wS.heap.size ≤ gx
 hp : wS.heap.size ≤ gp
section
variable {w0 wS W W1 : World} {g gx gp : Nat} {vp0 vq0 vp vq : Value} {ps : List S31} {qs : List S55} {why : Int} {x : S55} {p : S31}
theorem PoS.below (h : PoS w0 wS W g gx gp vp0 vq0 vp vq ps qs why x p) (hb : Below W.heap.size W W1) : PoS w0 wS W1 g gx gp vp0 vq0 vp vq ps qs why x p := ⟨h.K.below hb, blk_below h.BX hb, blk_below h.BP hb, h.OP, h.OQ, h.KE.below hb, h.NP, h.NQ, h.hx, h.hp⟩
theorem PoS.drewN (h : PoS w0 wS W g gx gp vp0 vq0 vp vq ps qs why x p) (n : Nat) : PoS w0 wS (W.drewN n) g gx gp vp0 vq0 vp vq ps qs why x p := h.below (pw_below_drewN (Below.refl _ _) n)
theorem PoS.keep (h : PoS w0 wS W g gx gp vp0 vq0 vp vq ps qs why x p) (hk : KeepBut W W1 gp none) (hb : Below w0.heap.size w0 W1) {p1 : S31} (hp : W1.heap[gp]? = some (.cells #[.int .i64 p1.f0, .int .i64 p1.f1, .int .i64 p1.f2, .int .i64 p1.f3] 31 (0, 0))) : PoS w0 wS W1 g gx gp vp0 vq0 vp vq ps qs why x p1 :=
 ⟨⟨hk.blk h.K.blk (blk_ne h.K.blk h.BP (by decide)) (by simp), h.K.hg, Kd.R_mono (Kd.R_keep (Kd.R_tight rfl h.K.rp) hk (fun k hk => h.OP k hk.symm)) (fun _ _ => trivial), Kd.R_mono (Kd.R_keep (Kd.R_tight rfl h.K.rq) hk (fun k hk he => (Kd.R_ne h.K.rq h.BP (by decide)) (he ▸ hk))) (fun _ _ => trivial), hb⟩, hk.blk h.BX (blk_ne h.BX h.BP (by decide)) (by simp), hp, h.OP, h.OQ, h.KE.of_keep hk (.inr h.hp), h.NP, h.NQ, h.hx, h.hp⟩
theorem PoS.unless (h : PoS w0 wS W g gx gp vp0 vq0 vp vq ps qs why x p) {why1 : Int} (hk : Bk w0 W1 g vp vq ps qs why1) (hs : Kept W W1 (fun k => k = g)) : PoS w0 wS W1 g gx gp vp0 vq0 vp vq ps qs why1 x p :=
 ⟨hk, blk_kept h.BX hs (blk_ne h.BX h.K.blk (by decide)), blk_kept h.BP hs (blk_ne h.BP h.K.blk (by decide)), h.OP, h.OQ, h.KE.then_ hs (fun k hk => .inl (.inl hk)), h.NP, h.NQ, h.hx, h.hp⟩
theorem PoS.pays (h : PoS w0 wS W g gx gp vp0 vq0 vp vq ps qs why x p) {v1 : Value} {ps1 : List S31} (hr : Kd.R k31 31 W1 w0.heap.size (fun k => some k = vp.ownBlock ∨ W.heap.size ≤ k) v1 ps1) (hb : Below w0.heap.size w0 W1) (hs : Kept W W1 (fun k => some k = vp.ownBlock)) : W1.heap[g]? = some (.cells #[vp, vq, .int .i64 why] 58 (0, 0)) ∧ PoS w0 wS (W1.setCell ⟨g, 0, none⟩ v1) g gx gp vp0 vq0 v1 vq ps1 qs why x p := by
 have hg1 : W1.heap[g]? = some _ := blk_kept h.K.blk hs (fun he => Kd.R_ne h.K.rp h.K.blk (by decide) he)
 have hx1 : W1.heap[gx]? = some _ := blk_kept h.BX hs (fun he => Kd.R_ne h.K.rp h.BX (by decide) he)
 have hp1 : W1.heap[gp]? = some _ := blk_kept h.BP hs (fun he => h.OP gp he.symm rfl)
 have hq1 : Kd.R k55 55 W1 w0.heap.size (fun _ => True) vq qs := Kd.R_mono (Kd.R_kept (Kd.R_tight rfl h.K.rq) hs (fun k hk he => (rows_ne h.K.rp h.K.rq (by decide)) k he.symm hk)) (fun _ _ => trivial)
 have hks : Kept wS W1 (BkS g vp0 vq0) := h.KE.then_ hs (fun k hk => (h.NP k hk.symm).imp (fun h1 => .inr (.inl h1)) id)
 refine ⟨hg1, ⟨blk_put hg1 0 _ rfl, h.K.hg, Kd.R_mono (Kd.R_set hr hg1 (by decide) 0 _) (fun _ _ => trivial), Kd.R_set hq1 hg1 (by decide) 0 _, below_set hb h.K.hg⟩, blk_far hx1 (blk_ne h.BX h.K.blk (by decide)) _, blk_far hp1 (blk_ne h.BP h.K.blk (by decide)) _, fun k hk => ?_, h.OQ, hks.setCell (p := ⟨g, 0, none⟩) (.inl (.inl rfl)) _, fun k hk => ?_, h.NQ, h.hx, h.hp⟩
 ·rcases hr.1 k hk with h1 | h1
  ·exact h.OP k h1.symm
  ·have := blk_lt h.BP; omega
 ·rcases hr.1 k hk with h1 | h1
  ·exact h.NP k h1.symm
  ·exact .inr (Nat.le_trans h.KE.1 h1)
end
def ledger_book_post.T5 : Bool × List (List Nat × List Nat) := (true, [([], []), ([0], [0]), ([1], [1]), ([2], [2]), ([3], [3]), ([], []), ([5], [5]), ([4, 6], [4, 6]), ([7], [7]), ([8], [8]), ([8], [8]), ([9, 7, 0, 1, 2, 3, 4, 5, 6, 7, 8, 9], [9]), ([10, 11, 0, 1, 2, 3, 4, 5, 6, 7, 8, 9, 10, 11], [10])])
def ledger_book_post.B5 : List Nat := [0, 1, 3, 7, 15, 0, 32, 127, 255, 511, 511, 1023, 4095]
theorem ledger_book_post.tab5 : rtab .any (opsOf Try.f30 5) = ledger_book_post.T5 := by kernel_rfl
theorem ledger_book_post.bits5 : waitsOk ledger_book_post.T5.2 ledger_book_post.B5 = true := by kernel_rfl
def ledger_book_post.T9 : Bool × List (List Nat × List Nat) := (true, [([], []), ([], []), ([1], [1]), ([2], [2]), ([3], [3]), ([4], [4]), ([], []), ([], []), ([7], [7]), ([5, 6, 8], [5, 6, 8]), ([0, 0, 1, 2, 3, 4, 5, 6, 7, 8, 9], [0]), ([10, 0, 1, 2, 3, 4, 5, 6, 7, 8, 9], [10]), ([11, 0, 1, 2, 3, 4, 5, 6, 7, 8, 9], [11]), ([12, 9, 9, 0, 1, 2, 3, 4, 5, 6, 7, 8, 9], [9, 12])])
def ledger_book_post.B9 : List Nat := [0, 0, 2, 6, 14, 30, 0, 0, 128, 510, 1023, 2047, 4095, 8191]
theorem ledger_book_post.tab9 : rtab .any (opsOf Try.f30 9) = ledger_book_post.T9 := by kernel_rfl
theorem ledger_book_post.bits9 : waitsOk ledger_book_post.T9.2 ledger_book_post.B9 = true := by kernel_rfl
def ledger_book_post.T10 : Bool × List (List Nat × List Nat) := (true, [([], []), ([], []), ([1], [1]), ([2], [2]), ([3], [3]), ([4], [4]), ([], []), ([6], [6]), ([5, 7], [5, 7]), ([0, 0, 1, 2, 3, 4, 5, 6, 7, 8], [0]), ([9, 0, 1, 2, 3, 4, 5, 6, 7, 8], [9]), ([10, 0, 1, 2, 3, 4, 5, 6, 7, 8], [10]), ([11, 8, 8, 0, 1, 2, 3, 4, 5, 6, 7, 8], [8, 11])])
def ledger_book_post.B10 : List Nat := [0, 0, 2, 6, 14, 30, 0, 64, 254, 511, 1023, 2047, 4095]
theorem ledger_book_post.tab10 : rtab .any (opsOf Try.f30 10) = ledger_book_post.T10 := by kernel_rfl
theorem ledger_book_post.bits10 : waitsOk ledger_book_post.T10.2 ledger_book_post.B10 = true := by kernel_rfl
set_option maxHeartbeats 16000000 in
set_option maxRecDepth 100000 in
theorem ledger_book_post.row (w0 : World) (g : Nat) (vp vq : Value) (ps : List S31) (qs : List S55) (why : Int) (x : S55) (w : World) (hk : Bk w0 w g vp vq ps qs why) (hl : postE qs why = 0 → ps.length ≤ 4000000000000) :
  Calls Try.prog 30 #[.pointer (some ⟨g, 0, none⟩), .agg #[.int .i64 x.f0, .int .u8 x.f1, .int .u8 x.f2, .int .i64 x.f3]] w fun e w' => e = .returned (.tuple #[]) ∧ Kept w w' (BkS g vp vq) ∧ ∃ vp1 vq1 : Value, Bk w0 w' g vp1 vq1 (postPs ps qs why x) (postQs qs why x) (postWs ps qs why x) := by
 have hu25 := Try.underlying25
 have hu31 := Try.underlying31
 have hu55 := Try.underlying55
 have hu58 := Try.underlying58
 obtain ⟨Ap, cp, rfl⟩ := Kd.R_slice hk.rp
 obtain ⟨Aq, cq, rfl⟩ := Kd.R_slice hk.rq
 have HK := Aside0.mk hk
 have HLH := Aside0.mk hl
 clear hk hl
 obtain ⟨many, hmany⟩ : ∃ many, decide (16384 ≤ (qs.length : Int)) = many := ⟨_, rfl⟩
 have hmany2 : decide (16384 ≤ qs.length) = many := by rw [← hmany]; by_cases h : 16384 ≤ qs.length <;> simp [h] <;> omega
 obtain ⟨why1, hw1⟩ : ∃ why1, why1 = postE qs why := ⟨_, rfl⟩
 have HW1 : Aside0 (unl why many 3 = why1) := ⟨by rw [hw1, ← hmany]; rfl⟩
 have HWE := Aside0.mk hw1
 have HMA := Aside0.mk hmany
 clear hw1
 go_enter Try.func30, Try.ntmps30
 go_wp2_with (first | ((with_reducible refine gate_dst (N := 3) rfl ?_); refine box_event ?hg (N := 3) ?hd (cs := #[.int .i64 x.f0, .int .u8 x.f1, .int .u8 x.f2, .int .i64 x.f3]) (t := 55) ?hr ?_; (case hd => rfl); (case hg => rfl); (case hr => first | (go_simp; done) | (go_simp; rfl)); intro gx hgx w1 hbox hb; have K1 := Aside0.mk (HK.out.below hb); have BX := Aside0.mk hbox; have HB := Aside0.mk hb; have GX : Aside0 (w.heap.size ≤ gx) := ⟨by rw [hgx]; exact Nat.le_refl _⟩; have OQ : Aside0 (∀ k, (Value.slice Aq qs.length cq).ownBlock = some k → k ≠ gx) := ⟨fun k hk he => by have := own_lt (Kd.R_own HK.out.rq).choose_spec k hk; omega⟩; have hg1 := (blk_cell K1.out.blk 1).trans rfl; clear hbox hb hgx))
 refine (ledger_book_unless.row w0 g _ _ ps qs why many 3 _ K1.out).mono ?_
 rintro e w2 ⟨rfl, hk2, hs2⟩
 rw [HW1.out] at hk2
 have K2 := Aside0.mk hk2
 have BX2 := Aside0.mk (blk_kept BX.out hs2 (blk_ne BX.out K1.out.blk (by decide)))
 have KE2 : Aside0 (Kept w w2 (BkS g (.slice Ap ps.length cp) (.slice Aq qs.length cq))) := ⟨(Kept.of_below HB.out _).then_ hs2 (fun k hk => .inl (.inl hk))⟩
 clear hg1 hmany hmany2 hk2 hs2 K1 BX HB HW1
 have h2 := (blk_cell K2.out.blk 2).trans rfl
 by_cases hz : why1 = 0
 ·subst hz
  have HLL := Aside0.mk (HLH.out HWE.out.symm)
  have P1 : Aside0 (postPs ps qs why x = postL ps x) := ⟨if_pos HWE.out.symm⟩
  have P2 : Aside0 (postQs qs why x = qs ++ [x]) := ⟨if_pos HWE.out.symm⟩
  have P3 : Aside0 (postWs ps qs why x = postW ps x) := ⟨if_pos HWE.out.symm⟩
  have HQS : Aside0 (qs.length < 16384) := ⟨postE_lt HWE.out.symm⟩
  clear HWE HMA
  have hx0 : w2.cell? ⟨gx, 0, none⟩ = some (.int .i64 x.f0) := (blk_cell BX2.out 0).trans rfl
  go_wp2_with fail
  refine (ledger_book_pay.row w0 g _ _ ps qs 0 x.f0 _ K2.out (by have := HLL.out; omega)).mono ?_
  rintro e w3 ⟨rfl, hb3⟩
  obtain ⟨p, hp⟩ : ∃ p, p = payOf ps x.f0 := ⟨_, rfl⟩
  rw [← hp]
  have HP := Aside0.mk hp
  clear hp h2 hx0
  unfold pcells
  go_upto_region 4 with (first | ((with_reducible refine gate_dst (N := 4) rfl ?_); refine box_event ?hg (N := 4) ?hd (cs := #[.int .i64 0, .int .i64 0, .int .i64 0, .int .i64 0]) (t := 31) ?hr ?_; (case hd => rfl); (case hg => rfl); (case hr => first | (go_simp; done) | (go_simp; rfl)); intro gp hgp w4 hbox hb; have hb4 := below_step hb3 hb; have K4 := Aside0.mk (K2.out.below hb4); have BX4 := Aside0.mk (blk_below BX2.out hb4); have KE4 := Aside0.mk (KE2.out.below hb4); have BP := Aside0.mk hbox; have GP : Aside0 (w.heap.size ≤ gp ∧ gx ≠ gp ∧ g ≠ gp ∧ ∀ k, (Value.slice Ap ps.length cp).ownBlock = some k → k ≠ gp) := ⟨by rw [hgp]; exact Nat.le_trans KE2.out.1 hb3.size, by rw [hgp]; exact Nat.ne_of_lt (Nat.lt_of_lt_of_le (blk_lt BX2.out) hb3.size), by rw [hgp]; exact Nat.ne_of_lt (Nat.lt_of_lt_of_le (blk_lt K2.out.blk) hb3.size), fun k hk he => by have h1 := own_lt (Kd.R_own K2.out.rp).choose_spec k hk; have := hb3.size; omega⟩; have hz0 := (blk_cell hbox 0).trans rfl; have hz1 := (blk_cell hbox 1).trans rfl; have hz2 := (blk_cell hbox 2).trans rfl; have hz3 := (blk_cell hbox 3).trans rfl; have hf0 := blk_frozen hbox 0; have hf1 := blk_frozen hbox 1; have hf2 := blk_frozen hbox 2; have hf3 := blk_frozen hbox 3; clear hbox hb hgp hb4 K2 BX2 KE2))
  clear hb3
  have KF : Aside0 (Bk w0 ((((w4.setCell ⟨gp, 0, none⟩ (.int .i64 p.f0)).setCell ⟨gp, 1, none⟩ (.int .i64 p.f1)).setCell ⟨gp, 2, none⟩ (.int .i64 p.f2)).setCell ⟨gp, 3, none⟩ (.int .i64 p.f3)) g (.slice Ap ps.length cp) (.slice Aq qs.length cq) ps qs 0) := ⟨⟨set4F K4.out.blk GP.out.2.2.1 _ _ _ _, K4.out.hg, set4P K4.out.rp rfl GP.out.2.2.2 _ _ _ _, set4R K4.out.rq BP.out (by decide) _ _ _ _, set4W K4.out.hb (Nat.le_trans HK.out.hb.size GP.out.1) _ _ _ _⟩⟩
  have PO : Aside0 (PoS w0 w ((((w4.setCell ⟨gp, 0, none⟩ (.int .i64 p.f0)).setCell ⟨gp, 1, none⟩ (.int .i64 p.f1)).setCell ⟨gp, 2, none⟩ (.int .i64 p.f2)).setCell ⟨gp, 3, none⟩ (.int .i64 p.f3)) g gx gp (.slice Ap ps.length cp) (.slice Aq qs.length cq) (.slice Ap ps.length cp) (.slice Aq qs.length cq) ps qs 0 x p) := ⟨⟨KF.out, set4F BX4.out GP.out.2.1 _ _ _ _, set4B BP.out _ _ _ _, GP.out.2.2.2, OQ.out, (((KE4.out.setCell (p := ⟨gp, 0, none⟩) (.inr GP.out.1) _).setCell (p := ⟨gp, 1, none⟩) (.inr GP.out.1) _).setCell (p := ⟨gp, 2, none⟩) (.inr GP.out.1) _).setCell (p := ⟨gp, 3, none⟩) (.inr GP.out.1) _, fun k hk => .inl hk.symm, fun k hk => .inl hk.symm, GX.out, GP.out.1⟩⟩
  clear hz0 hz1 hz2 hz3 hf0 hf1 hf2 hf3 K4 BX4 KE4 BP KF
  obtain ⟨w5, hw5⟩ : ∃ w5, w5 = ((((w4.setCell ⟨gp, 0, none⟩ (.int .i64 p.f0)).setCell ⟨gp, 1, none⟩ (.int .i64 p.f1)).setCell ⟨gp, 2, none⟩ (.int .i64 p.f2)).setCell ⟨gp, 3, none⟩ (.int .i64 p.f3)) := ⟨_, rfl⟩
  rw [← hw5] at PO ⊢
  clear hw5
  have hx0 : w5.cell? ⟨gx, 0, none⟩ = some (.int .i64 x.f0) := (blk_cell PO.out.BX 0).trans rfl
  have hx1 : w5.cell? ⟨gx, 1, none⟩ = some (.int .u8 x.f1) := (blk_cell PO.out.BX 1).trans rfl
  have hx2 : w5.cell? ⟨gx, 2, none⟩ = some (.int .u8 x.f2) := (blk_cell PO.out.BX 2).trans rfl
  have hx3 : w5.cell? ⟨gx, 3, none⟩ = some (.int .i64 x.f3) := (blk_cell PO.out.BX 3).trans rfl
  go_wp2_with fail
  refine (ledger_add.row w0.heap.size gp p x _ PO.out.BP (Nat.le_trans HK.out.hb.size GP.out.1)).mono ?_
  rintro e w6 ⟨rfl, hp6, hk6, hb6⟩
  clear hx0 hx1 hx2 hx3
  obtain ⟨p1, hp1⟩ : ∃ p1, p1 = addP p x := ⟨_, rfl⟩
  rw [← hp1] at hp6 ⊢
  have PO1 := Aside0.mk (PO.out.keep (p1 := p1) hk6 (below_then_ PO.out.K.hb hb6) hp6)
  have HP1 : Aside0 (p1 = addP (payOf ps x.f0) x) := ⟨by rw [hp1, HP.out]⟩
  clear hp1 hp6 hk6 hb6 PO HP
  obtain ⟨ft, hft⟩ : ∃ ft, ft = fits p1 := ⟨_, rfl⟩
  rw [← hft]
  have HFT := Aside0.mk hft
  clear hft
  go_wp2_with fail
  refine (ledger_book_unless.row w0 g _ _ ps qs 0 (!ft) 5 _ PO1.out.K).mono ?_
  rintro e w7 ⟨rfl, hk7, hs7⟩
  obtain ⟨c, hc⟩ : ∃ c, c = unl 0 (!ft) 5 := ⟨_, rfl⟩
  rw [← hc] at hk7
  have PO := Aside0.mk (PO1.out.unless hk7 hs7)
  have HC : Aside0 (postW ps x = c) := ⟨by rw [hc, HFT.out, HP1.out]; rfl⟩
  clear hc hk7 hs7 PO1 HFT
  obtain ⟨i, hi⟩ : ∃ i, i = plcI ps x.f0 := ⟨_, rfl⟩
  obtain ⟨b, hb_⟩ : ∃ b, b = plcB ps x.f0 := ⟨_, rfl⟩
  have HI := Aside0.mk hi
  have HBB := Aside0.mk hb_
  clear hi hb_
  have HPL : Aside0 (ledger_place.f ps x.f0 = some ((i : Int), b)) := ⟨by rw [HI.out, HBB.out]; exact plc_is ps x.f0 (by have := HLL.out; omega)⟩
  go_upto_region 5 with (fail)
  go_cut [5, 6] (fun v5 v6 wc => v5 = .int .i64 i ∧ v6 = .bool b ∧ Aside0 (PoS w0 w wc g gx gp (.slice Ap ps.length cp) (.slice Aq qs.length cq) (.slice Ap ps.length cp) (.slice Aq qs.length cq) ps qs c x p1))
  case first =>
   refine start_ (n := 13) (S := fun w' => PoS w0 w w' g gx gp (.slice Ap ps.length cp) (.slice Aq qs.length cq) (.slice Ap ps.length cp) (.slice Aq qs.length cq) ps qs c x p1 ∧ w'.cell? ⟨g, 0, none⟩ = some (.slice Ap ps.length cp) ∧ w'.cell? ⟨gx, 0, none⟩ = some (.int .i64 x.f0)) (ds := []) (zB 0 13) (by kernel_rfl) rfl rfl ⟨(PO.out.drewN 1), ((blk_cell (PO.out.drewN 1).K.blk 0).trans rfl), ((blk_cell (PO.out.drewN 1).BX 0).trans rfl)⟩ (fun hHeld => ?_)
   refine with_tabW ledger_book_post.tab5 ledger_book_post.bits5 (fun HT_ HW_ => ?_)
   refine pure_ (i := 0) (N := some 31) (v := ?_) (a' := ?_) (zB 1 12) rfl rfl (any_of HT_.out (by kernel_rfl)) (fun _ _ _ h => h) (Or.inl ⟨by rfl, ?_⟩) ?_ ?_
   rotate_left
   ·intro w'
    go_simp
    with_reducible rfl
   rotate_left
   ·simp only [Act.put, zt0, zt1, zt2, i64_w, i32_w]
    rfl
   refine pure_ (i := 1) (N := some 32) (v := ?_) (a' := ?_) (zB 2 11) rfl rfl (any_of HT_.out (by kernel_rfl)) (fun _ _ _ h => h) (Or.inl ⟨by rfl, ?_⟩) ?_ ?_
   rotate_left
   ·intro w'
    go_simp
    with_reducible rfl
   rotate_left
   ·simp only [Act.put, zt0, zt1, zt2, i64_w, i32_w]
    rfl
   refine pure_ (i := 2) (N := some 33) (v := ?_) (a' := ?_) (zB 3 10) rfl rfl (any_of HT_.out (by kernel_rfl)) (fun _ _ _ h => h) (Or.inl ⟨by rfl, ?_⟩) ?_ ?_
   rotate_left
   ·intro w'
    go_simp
    with_reducible rfl
   rotate_left
   ·simp only [Act.put, zt0, zt1, zt2, i64_w, i32_w]
    rfl
   refine pure_ (i := 3) (N := some 34) (v := ?_) (a' := ?_) (zB 4 9) rfl rfl (any_of HT_.out (by kernel_rfl)) (fun _ _ _ h => h) (Or.inl ⟨by rfl, ?_⟩) ?_ ?_
   rotate_left
   ·intro w'
    go_simp
    with_reducible rfl
   rotate_left
   ·simp only [Act.put, zt0, zt1, zt2, i64_w, i32_w]
    rfl
   refine pure_ (i := 5) (N := some 36) (v := ?_) (a' := ?_) #[true, true, true, true, false, true, false, false, false, false, false, false, false] rfl rfl (any_of HT_.out (by kernel_rfl)) (fun _ _ _ h => h) (Or.inl ⟨by rfl, ?_⟩) ?_ ?_
   rotate_left
   ·intro w'
    go_simp
    with_reducible rfl
   rotate_left
   ·simp only [Act.put, zt0, zt1, zt2, i64_w, i32_w]
    rfl
   refine take_ (i := 4) (N := some 35) (v := ?_) (a' := ?_) (zB 6 7) rfl rfl (take_ofW HT_.out HW_.out (by kernel_rfl)) (fun _ _ _ h => h) (Or.inl ⟨by rfl, ?_⟩) hHeld ?_ ?_
   rotate_left
   ·rintro w' ⟨s0, s1, s2⟩
    go_simp
    with_reducible rfl
   rotate_left
   ·simp only [Act.put, zt0, zt1, zt2, i64_w, i32_w]
    rfl
   refine take_ (i := 6) (N := some 37) (v := ?_) (a' := ?_) (zB 7 6) rfl rfl (take_ofW HT_.out HW_.out (by kernel_rfl)) (fun _ _ _ h => h) (Or.inl ⟨by rfl, ?_⟩) hHeld ?_ ?_
   rotate_left
   ·rintro w' ⟨s0, s1, s2⟩
    go_simp
    with_reducible rfl
   rotate_left
   ·simp only [Act.put, zt0, zt1, zt2, i64_w, i32_w]
    rfl
   refine one_ (i := 7) (N := some 38) (zB 8 5) rfl rfl (one_of HT_.out (by kernel_rfl)) (by decide) (fun K hK => ?_)
   obtain ⟨SH, SZ_⟩ := hHeld
   clear SZ_
   refine goes_ Try.func49 (by kernel_rfl) rfl #[.slice Ap ps.length cp, .int .i64 x.f0] (by rfl) rfl rfl zl_ ?_
   with_reducible refine (ledger_place.calls Ap cp ps x.f0 _ _ _ (Kd.R_reads' SH.K.rp).2.2 (Kd.R_reads' SH.K.rp).2.1 HPL.out).mono ?_
   rintro e w8 ⟨rfl, hb8⟩
   have SH2 := SH.below hb8
   refine ⟨_, rfl, ?_⟩
   refine hK.out _ _ ⟨SH2, ((blk_cell SH2.K.blk 0).trans rfl), ((blk_cell SH2.BX 0).trans rfl)⟩ (fun hHeld => ?_)
   clear hK K
   refine norm_ (a' := ?_) ?_ ?_
   rotate_left
   ·show Act.put _ (some 38) _ = _
    simp only [Act.put, zt0, zt1, zt2, i64_w, i32_w]
    rfl
   refine pure_ (i := 8) (N := some 30) (v := ?_) (a' := ?_) (zB 9 4) rfl rfl (any_of HT_.out (by kernel_rfl)) (fun _ _ _ h => h) (Or.inl ⟨by rfl, ?_⟩) ?_ ?_
   rotate_left
   ·intro w'
    go_simp
    with_reducible rfl
   rotate_left
   ·simp only [Act.put, zt0, zt1, zt2, i64_w, i32_w]
    rfl
   refine pure_ (i := 9) (N := some 39) (v := ?_) (a' := ?_) (zB 10 3) rfl rfl (any_of HT_.out (by kernel_rfl)) (fun _ _ _ h => h) (Or.inl ⟨by rfl, ?_⟩) ?_ ?_
   rotate_left
   ·intro w'
    go_simp
    with_reducible rfl
   rotate_left
   ·simp only [Act.put, zt0, zt1, zt2, i64_w, i32_w]
    rfl
   refine pure_ (i := 10) (N := some 40) (v := ?_) (a' := ?_) (zB 11 2) rfl rfl (any_of HT_.out (by kernel_rfl)) (fun _ _ _ h => h) (Or.inl ⟨by rfl, ?_⟩) ?_ ?_
   rotate_left
   ·intro w'
    go_simp
    with_reducible rfl
   rotate_left
   ·simp only [Act.put, zt0, zt1, zt2, i64_w, i32_w]
    rfl
   refine pure_ (i := 11) (N := some 5) (v := ?_) (a' := ?_) (zB 12 1) rfl rfl (any_of HT_.out (by kernel_rfl)) (fun _ _ _ h => h) (Or.inl ⟨by rfl, ?_⟩) ?_ ?_
   rotate_left
   ·intro w'
    go_simp
    with_reducible rfl
   rotate_left
   ·simp only [Act.put, zt0, zt1, zt2, i64_w, i32_w]
    rfl
   refine pure_ (i := 12) (N := some 6) (v := ?_) (a' := ?_) (zB 13 0) rfl rfl (any_of HT_.out (by kernel_rfl)) (fun _ _ _ h => h) (Or.inl ⟨by rfl, ?_⟩) ?_ ?_
   rotate_left
   ·intro w'
    go_simp
    with_reducible rfl
   rotate_left
   ·simp only [Act.put, zt0, zt1, zt2, i64_w, i32_w]
    rfl
   refine done_ (done_of HT_.out (by kernel_rfl)) ?_
   obtain ⟨SH, SZ_⟩ := hHeld
   clear SZ_
   go_wp2_with fail
   go_meet
   case rel => exact ⟨rfl, rfl, ⟨SH⟩⟩
  case rest =>
   clear PO HPL
   obtain ⟨rfl, rfl, PO⟩ := hcut
   go_upto_if 41 with (fail)
   go_cut [] (fun wc => ∃ (A1 : Option Addr) (c1 : Nat), Aside0 (PoS w0 w wc g gx gp (.slice Ap ps.length cp) (.slice Aq qs.length cq) (.slice A1 (postP ps x).length c1) (.slice Aq qs.length cq) (postP ps x) qs c x p1))
   case first =>
    cases b with
    | false =>
     have HPP : Aside0 (postP ps x = ps) := ⟨if_neg (by rw [← HBB.out]; simp)⟩
     go_wp2_with fail
     go_meet
     case rel => exact ⟨Ap, cp, by rw [HPP.out]; exact PO⟩
    | true =>
     have HPP : Aside0 (postP ps x = ps.eraseIdx i) := ⟨by unfold postP; rw [← HBB.out, if_pos rfl, HI.out]⟩
     have hlt : i < ps.length := by rw [HI.out]; exact plc_lt HBB.out.symm
     have hg0 := (blk_cell PO.out.K.blk 0).trans rfl
     have hw1 : wrap64 ((i : Int) + 1) = (i : Int) + 1 := by have := HLL.out; unfold wrap64; omega
     have HDL : Aside0 (api_Pay_50.f ps (i : Int) ((i : Int) + 1) = some (ps.eraseIdx i)) := ⟨by unfold api_Pay_50.f; rw [if_pos ⟨by omega, by omega, rfl⟩, Int.toNat_natCast]⟩
     clear hlt
     go_wp2_with fail
     try rw [hw1]
     refine (api_Pay_50.calls (fun k => some k = (Value.slice Ap ps.length cp).ownBlock) _ ps (i : Int) ((i : Int) + 1) _ w0 _ PO.out.K.hb (Kd.R_tight rfl PO.out.K.rp) HDL.out).mono ?_
     rintro e w9 ⟨v9, rfl, hr9, hb9, hs9⟩
     rw [← HPP.out] at hr9
     obtain ⟨A1, c1, rfl⟩ := Kd.R_slice hr9
     have NG := PO.out.pays hr9 hb9 hs9
     have NB := Aside0.mk NG.1
     have PO1 := Aside0.mk NG.2
     have hc0 := (blk_cell NB.out 0).trans rfl
     have hcf := blk_frozen NB.out 0
     clear hg0 hw1 hr9 hb9 hs9 NG
     go_wp2_with fail
     go_meet
     case rel => exact ⟨A1, c1, PO1⟩
   case rest =>
    clear PO
    obtain ⟨A1, c1, PO⟩ := hcut
    have HIL : Aside0 (i ≤ (postP ps x).length) := ⟨by rw [HI.out]; exact postP_le ps x⟩
    have HPLE : Aside0 ((postP ps x).length ≤ 4000000000000) := ⟨Nat.le_trans (postP_len ps x) HLL.out⟩
    obtain ⟨l1, hl1⟩ : ∃ l1, l1 = postP ps x := ⟨_, rfl⟩
    rw [← hl1] at PO HIL HPLE
    have HL1 := Aside0.mk hl1
    clear hl1
    have hx0 : wc.cell? ⟨gx, 0, none⟩ = some (.int .i64 x.f0) := (blk_cell PO.out.BX 0).trans rfl
    have hp0 : wc.cell? ⟨gp, 0, none⟩ = some (.int .i64 p1.f0) := (blk_cell PO.out.BP 0).trans rfl
    have hp1 : wc.cell? ⟨gp, 1, none⟩ = some (.int .i64 p1.f1) := (blk_cell PO.out.BP 1).trans rfl
    have hp2 : wc.cell? ⟨gp, 2, none⟩ = some (.int .i64 p1.f2) := (blk_cell PO.out.BP 2).trans rfl
    have hp3 : wc.cell? ⟨gp, 3, none⟩ = some (.int .i64 p1.f3) := (blk_cell PO.out.BP 3).trans rfl
    go_upto_if 59 with (fail)
    obtain ⟨nz, hnz⟩ : ∃ nz, nz = (!p1.f0 == x.f0 || (!p1.f1 == 0 || (!p1.f2 == 0 || !p1.f3 == 0))) := ⟨_, rfl⟩
    rw [← hnz]
    have HNZ : Aside0 (eqP p1 (zeroP x.f0) = !nz) := ⟨by rw [hnz]; unfold eqP zeroP; cases (p1.f0 == x.f0) <;> cases (p1.f1 == 0) <;> cases (p1.f2 == 0) <;> cases (p1.f3 == 0) <;> rfl⟩
    clear hnz
    go_cut [] (fun wc => ∃ (A2 : Option Addr) (c2 : Nat), Aside0 (PoS w0 w wc g gx gp (.slice Ap ps.length cp) (.slice Aq qs.length cq) (.slice A2 (postL ps x).length c2) (.slice Aq qs.length cq) (postL ps x) qs c x p1))
    case first =>
     cases nz with
     | false =>
      have HPP : Aside0 (postL ps x = l1) := ⟨by unfold postL; rw [← HP1.out, HNZ.out, HL1.out]; rfl⟩
      go_wp2_with fail
      go_meet
      case rel => exact ⟨A1, c1, by rw [HPP.out]; exact PO⟩
     | true =>
      have HPP : Aside0 (postL ps x = l1.take i ++ [p1] ++ l1.drop i) := ⟨by unfold postL; rw [← HP1.out, HNZ.out, HL1.out, HI.out]; rfl⟩
      have HIN : Aside0 (api_Pay_51.f l1 (i : Int) [p1] = some (l1.take i ++ [p1] ++ l1.drop i)) := ⟨by unfold api_Pay_51.f; rw [if_pos ⟨by omega, by have := HIL.out; omega, rfl, by have := HPLE.out; omega⟩, Int.toNat_natCast]⟩
      clear hx0 hp0 hp1 hp2 hp3
      go_upto_region 9 with (fail)
      refine start_ (n := 14) (S := fun w' => PoS w0 w w' g gx gp (.slice Ap ps.length cp) (.slice Aq qs.length cq) (.slice A1 l1.length c1) (.slice Aq qs.length cq) l1 qs c x p1 ∧ w'.cell? ⟨g, 0, none⟩ = some (.slice A1 l1.length c1) ∧ w'.cell? ⟨gp, 0, none⟩ = some (.int .i64 p1.f0) ∧ w'.cell? ⟨gp, 1, none⟩ = some (.int .i64 p1.f1) ∧ w'.cell? ⟨gp, 2, none⟩ = some (.int .i64 p1.f2) ∧ w'.cell? ⟨gp, 3, none⟩ = some (.int .i64 p1.f3)) (ds := [9, 13]) (zB 0 14) (by kernel_rfl) rfl rfl ⟨(PO.out.drewN 1), ((blk_cell (PO.out.drewN 1).K.blk 0).trans rfl), ((blk_cell (PO.out.drewN 1).BP 0).trans rfl), ((blk_cell (PO.out.drewN 1).BP 1).trans rfl), ((blk_cell (PO.out.drewN 1).BP 2).trans rfl), ((blk_cell (PO.out.drewN 1).BP 3).trans rfl)⟩ (fun hHeld => ?_)
      refine with_tabW ledger_book_post.tab9 ledger_book_post.bits9 (fun HT_ HW_ => ?_)
      refine pure_ (i := 0) (N := some 60) (v := ?_) (a' := ?_) (zB 1 13) rfl rfl (any_of HT_.out (by kernel_rfl)) (fun _ _ _ h => h) (Or.inl ⟨by rfl, ?_⟩) ?_ ?_
      rotate_left
      ·intro w'
       go_simp
       with_reducible rfl
      rotate_left
      ·simp only [Act.put, zt0, zt1, zt2, i64_w, i32_w]
       rfl
      refine pure_ (i := 1) (N := some 61) (v := ?_) (a' := ?_) (zB 2 12) rfl rfl (any_of HT_.out (by kernel_rfl)) (fun _ _ _ h => h) (Or.inl ⟨by rfl, ?_⟩) ?_ ?_
      rotate_left
      ·intro w'
       go_simp
       with_reducible rfl
      rotate_left
      ·simp only [Act.put, zt0, zt1, zt2, i64_w, i32_w]
       rfl
      refine pure_ (i := 2) (N := some 62) (v := ?_) (a' := ?_) (zB 3 11) rfl rfl (any_of HT_.out (by kernel_rfl)) (fun _ _ _ h => h) (Or.inl ⟨by rfl, ?_⟩) ?_ ?_
      rotate_left
      ·intro w'
       go_simp
       with_reducible rfl
      rotate_left
      ·simp only [Act.put, zt0, zt1, zt2, i64_w, i32_w]
       rfl
      refine pure_ (i := 3) (N := some 63) (v := ?_) (a' := ?_) (zB 4 10) rfl rfl (any_of HT_.out (by kernel_rfl)) (fun _ _ _ h => h) (Or.inl ⟨by rfl, ?_⟩) ?_ ?_
      rotate_left
      ·intro w'
       go_simp
       with_reducible rfl
      rotate_left
      ·simp only [Act.put, zt0, zt1, zt2, i64_w, i32_w]
       rfl
      refine pure_ (i := 4) (N := some 64) (v := ?_) (a' := ?_) (zB 5 9) rfl rfl (any_of HT_.out (by kernel_rfl)) (fun _ _ _ h => h) (Or.inl ⟨by rfl, ?_⟩) ?_ ?_
      rotate_left
      ·intro w'
       go_simp
       with_reducible rfl
      rotate_left
      ·simp only [Act.put, zt0, zt1, zt2, i64_w, i32_w]
       rfl
      refine pure_ (i := 6) (N := some 66) (v := ?_) (a' := ?_) #[true, true, true, true, true, false, true, false, false, false, false, false, false, false] rfl rfl (any_of HT_.out (by kernel_rfl)) (fun _ _ _ h => h) (Or.inl ⟨by rfl, ?_⟩) ?_ ?_
      rotate_left
      ·intro w'
       go_simp
       with_reducible rfl
      rotate_left
      ·simp only [Act.put, zt0, zt1, zt2, i64_w, i32_w]
       rfl
      refine take_ (i := 5) (N := some 65) (v := ?_) (a' := ?_) (zB 7 7) rfl rfl (take_ofW HT_.out HW_.out (by kernel_rfl)) (fun _ _ _ h => h) (Or.inl ⟨by rfl, ?_⟩) hHeld ?_ ?_
      rotate_left
      ·rintro w' ⟨s0, s1, s2, s3, s4, s5⟩
       go_simp
       with_reducible rfl
      rotate_left
      ·simp only [Act.put, zt0, zt1, zt2, i64_w, i32_w]
       rfl
      refine take_ (i := 7) (N := some 67) (v := ?_) (a' := ?_) (zB 8 6) rfl rfl (take_ofW HT_.out HW_.out (by kernel_rfl)) (fun _ _ _ h => h) (Or.inl ⟨by rfl, ?_⟩) hHeld ?_ ?_
      rotate_left
      ·rintro w' ⟨s0, s1, s2, s3, s4, s5⟩
       go_simp
       with_reducible rfl
      rotate_left
      ·simp only [Act.put, zt0, zt1, zt2, i64_w, i32_w]
       rfl
      refine one_ (i := 8) (N := some 68) (zB 9 5) rfl rfl (one_of HT_.out (by kernel_rfl)) (by decide) (fun K hK => ?_)
      obtain ⟨SH, SZ_⟩ := hHeld
      clear SZ_
      refine Kd.R_lit_step k31 _ 31 ?hg (N := 68) ?hd (xs := [p1]) (inner := [.int .i64 p1.f0, .int .i64 p1.f1, .int .i64 p1.f2, .int .i64 p1.f3]) (ok := fun _ => True) (okp := fun _ => True) ?hr ?hp (fun _ hk => hk) trivial (Below.refl _ _) (Nat.le_refl _) (by simp) ?_; (case hd => rfl); (case hg => rfl); (case hr => first | (go_simp; done) | (go_simp; rfl)); (case hp => exact Reps.snoc (Reps.none _ _) (k31_mkM _ _ _ p1) rfl)
      intro vL w7 ho hb hg_ hnew_
      obtain ⟨AL, cL, rfl⟩ := Kd.R_slice ho
      have HLIT : Aside0 (Kd.R k31 31 w7 w0.heap.size (fun k => ¬ some k = (Value.slice A1 l1.length c1).ownBlock) (.slice AL [p1].length cL) [p1]) := ⟨Kd.R_lower (Kd.R_mono (Kd.R_bound ho) (fun k hk he => by have h1 := own_lt (Kd.R_own SH.K.rp).choose_spec k he.symm; have := hk.2.1; omega)) SH.K.hb.size⟩
      have SH2 := SH.below hb
      clear hg_ hnew_ ho hb
      refine hK.out _ _ ⟨SH2, ((blk_cell SH2.K.blk 0).trans rfl), ((blk_cell SH2.BP 0).trans rfl), ((blk_cell SH2.BP 1).trans rfl), ((blk_cell SH2.BP 2).trans rfl), ((blk_cell SH2.BP 3).trans rfl)⟩ (fun hHeld => ?_)
      clear hK K
      refine norm_ (a' := ?_) ?_ ?_
      rotate_left
      ·show Act.put _ (some 68) _ = _
       simp only [Act.put, zt0, zt1, zt2, i64_w, i32_w]
       rfl
      refine last_ (i := 9) (N := some 69) (zB 10 4) rfl rfl (one_of HT_.out (by kernel_rfl)) (by decide) (fun K hK => ?_)
      obtain ⟨SH, SZ_⟩ := hHeld
      clear SZ_
      refine goes_ Try.func51 (by kernel_rfl) rfl #[.slice A1 l1.length c1, .int .i64 i, .slice AL [p1].length cL] (by rfl) rfl rfl zl_ ?_
      with_reducible refine (api_Pay_51.calls (fun k => some k = (Value.slice A1 l1.length c1).ownBlock) _ l1 (i : Int) AL cL [p1] _ w0 _ SH.K.hb (Kd.R_tight rfl SH.K.rp) (Kd.C_kept_own HLIT.out (fun k hk => hk)) (Kd.R_reads' HLIT.out).2.1 HIN.out).mono ?_
      rintro e w9 ⟨v9, rfl, hr9, hb9, hs9⟩
      rw [← HPP.out] at hr9
      obtain ⟨A2, c2, rfl⟩ := Kd.R_slice hr9
      have NG := SH.pays hr9 hb9 hs9
      have NB := Aside0.mk NG.1
      have PO1 := Aside0.mk NG.2
      clear hr9 hb9 hs9 NG
      refine ⟨_, rfl, ?_⟩
      refine hK.out _ _ ?_
      clear hK K
      refine norm_ (a' := ?_) ?_ ?_
      rotate_left
      ·show Act.put _ (some 69) _ = _
       simp only [Act.put, zt0, zt1, zt2, i64_w, i32_w]
       rfl
      refine pure_ (i := 10) (N := some 70) (v := ?_) (a' := ?_) (zB 11 3) rfl rfl (any_of HT_.out (by kernel_rfl)) (fun _ _ _ h => h) (Or.inl ⟨by rfl, ?_⟩) ?_ ?_
      rotate_left
      ·intro w'
       go_simp
       with_reducible rfl
      rotate_left
      ·simp only [Act.put, zt0, zt1, zt2, i64_w, i32_w]
       rfl
      refine pure_ (i := 11) (N := some 71) (v := ?_) (a' := ?_) (zB 12 2) rfl rfl (any_of HT_.out (by kernel_rfl)) (fun _ _ _ h => h) (Or.inl ⟨by rfl, ?_⟩) ?_ ?_
      rotate_left
      ·intro w'
       go_simp
       with_reducible rfl
      rotate_left
      ·simp only [Act.put, zt0, zt1, zt2, i64_w, i32_w]
       rfl
      refine pure_ (i := 12) (N := some 72) (v := ?_) (a' := ?_) (zB 13 1) rfl rfl (any_of HT_.out (by kernel_rfl)) (fun _ _ _ h => h) (Or.inl ⟨by rfl, ?_⟩) ?_ ?_
      rotate_left
      ·intro w'
       go_simp
       with_reducible rfl
      rotate_left
      ·simp only [Act.put, zt0, zt1, zt2, i64_w, i32_w]
       rfl
      refine last_ (i := 13) (N := none) (zB 14 0) rfl rfl (one_of HT_.out (by kernel_rfl)) (by decide) (fun K hK => ?_)
      have hc0 := (blk_cell NB.out 0).trans rfl
      have hcf := blk_frozen NB.out 0
      refine skip_ (w1 := ?_) (by rfl) rfl ?_ ?_
      rotate_left
      ·go_simp
       rfl
      refine hK.out _ _ ?_
      clear hK K
      refine done_ (done_of HT_.out (by kernel_rfl)) ?_
      go_wp2_with fail
      go_meet
      case rel => exact ⟨A2, c2, PO1⟩
    case rest =>
     clear PO
     obtain ⟨A2, c2, PO⟩ := hcut
     clear HNZ HIL HPLE HL1 HI HBB HP1 hx0 hp0 hp1 hp2 hp3
     go_upto_region 10 with (fail)
     refine start_ (n := 13) (S := fun w' => PoS w0 w w' g gx gp (.slice Ap ps.length cp) (.slice Aq qs.length cq) (.slice A2 (postL ps x).length c2) (.slice Aq qs.length cq) (postL ps x) qs c x p1 ∧ w'.cell? ⟨g, 1, none⟩ = some (.slice Aq qs.length cq) ∧ w'.cell? ⟨gx, 0, none⟩ = some (.int .i64 x.f0) ∧ w'.cell? ⟨gx, 1, none⟩ = some (.int .u8 x.f1) ∧ w'.cell? ⟨gx, 2, none⟩ = some (.int .u8 x.f2) ∧ w'.cell? ⟨gx, 3, none⟩ = some (.int .i64 x.f3)) (ds := [8, 12]) (zB 0 13) (by kernel_rfl) rfl rfl ⟨(PO.out.drewN 1), ((blk_cell (PO.out.drewN 1).K.blk 1).trans rfl), ((blk_cell (PO.out.drewN 1).BX 0).trans rfl), ((blk_cell (PO.out.drewN 1).BX 1).trans rfl), ((blk_cell (PO.out.drewN 1).BX 2).trans rfl), ((blk_cell (PO.out.drewN 1).BX 3).trans rfl)⟩ (fun hHeld => ?_)
     refine with_tabW ledger_book_post.tab10 ledger_book_post.bits10 (fun HT_ HW_ => ?_)
     refine pure_ (i := 0) (N := some 73) (v := ?_) (a' := ?_) (zB 1 12) rfl rfl (any_of HT_.out (by kernel_rfl)) (fun _ _ _ h => h) (Or.inl ⟨by rfl, ?_⟩) ?_ ?_
     rotate_left
     ·intro w'
      go_simp
      with_reducible rfl
     rotate_left
     ·simp only [Act.put, zt0, zt1, zt2, i64_w, i32_w]
      rfl
     refine pure_ (i := 1) (N := some 74) (v := ?_) (a' := ?_) (zB 2 11) rfl rfl (any_of HT_.out (by kernel_rfl)) (fun _ _ _ h => h) (Or.inl ⟨by rfl, ?_⟩) ?_ ?_
     rotate_left
     ·intro w'
      go_simp
      with_reducible rfl
     rotate_left
     ·simp only [Act.put, zt0, zt1, zt2, i64_w, i32_w]
      rfl
     refine pure_ (i := 2) (N := some 75) (v := ?_) (a' := ?_) (zB 3 10) rfl rfl (any_of HT_.out (by kernel_rfl)) (fun _ _ _ h => h) (Or.inl ⟨by rfl, ?_⟩) ?_ ?_
     rotate_left
     ·intro w'
      go_simp
      with_reducible rfl
     rotate_left
     ·simp only [Act.put, zt0, zt1, zt2, i64_w, i32_w]
      rfl
     refine pure_ (i := 3) (N := some 76) (v := ?_) (a' := ?_) (zB 4 9) rfl rfl (any_of HT_.out (by kernel_rfl)) (fun _ _ _ h => h) (Or.inl ⟨by rfl, ?_⟩) ?_ ?_
     rotate_left
     ·intro w'
      go_simp
      with_reducible rfl
     rotate_left
     ·simp only [Act.put, zt0, zt1, zt2, i64_w, i32_w]
      rfl
     refine pure_ (i := 4) (N := some 77) (v := ?_) (a' := ?_) (zB 5 8) rfl rfl (any_of HT_.out (by kernel_rfl)) (fun _ _ _ h => h) (Or.inl ⟨by rfl, ?_⟩) ?_ ?_
     rotate_left
     ·intro w'
      go_simp
      with_reducible rfl
     rotate_left
     ·simp only [Act.put, zt0, zt1, zt2, i64_w, i32_w]
      rfl
     refine take_ (i := 5) (N := some 78) (v := ?_) (a' := ?_) (zB 6 7) rfl rfl (take_ofW HT_.out HW_.out (by kernel_rfl)) (fun _ _ _ h => h) (Or.inl ⟨by rfl, ?_⟩) hHeld ?_ ?_
     rotate_left
     ·rintro w' ⟨s0, s1, s2, s3, s4, s5⟩
      go_simp
      with_reducible rfl
     rotate_left
     ·simp only [Act.put, zt0, zt1, zt2, i64_w, i32_w]
      rfl
     refine take_ (i := 6) (N := some 79) (v := ?_) (a' := ?_) (zB 7 6) rfl rfl (take_ofW HT_.out HW_.out (by kernel_rfl)) (fun _ _ _ h => h) (Or.inl ⟨by rfl, ?_⟩) hHeld ?_ ?_
     rotate_left
     ·rintro w' ⟨s0, s1, s2, s3, s4, s5⟩
      go_simp
      with_reducible rfl
     rotate_left
     ·simp only [Act.put, zt0, zt1, zt2, i64_w, i32_w]
      rfl
     refine one_ (i := 7) (N := some 80) (zB 8 5) rfl rfl (one_of HT_.out (by kernel_rfl)) (by decide) (fun K hK => ?_)
     obtain ⟨SH, SZ_⟩ := hHeld
     clear SZ_
     refine Kd.R_lit_step k55 _ 55 ?hg (N := 80) ?hd (xs := [x]) (inner := [.int .i64 x.f0, .int .u8 x.f1, .int .u8 x.f2, .int .i64 x.f3]) (ok := fun _ => True) (okp := fun _ => True) ?hr ?hp (fun _ hk => hk) trivial (Below.refl _ _) (Nat.le_refl _) (by simp) ?_; (case hd => rfl); (case hg => rfl); (case hr => first | (go_simp; done) | (go_simp; rfl)); (case hp => exact Reps.snoc (Reps.none _ _) (k55_mkM _ _ _ x) rfl)
     intro vL w7 ho hb hg_ hnew_
     obtain ⟨AL, cL, rfl⟩ := Kd.R_slice ho
     have HLIT := Aside0.mk ho
     have SH2 := SH.below hb
     clear hg_ hnew_ ho hb
     refine hK.out _ _ ⟨SH2, ((blk_cell SH2.K.blk 1).trans rfl), ((blk_cell SH2.BX 0).trans rfl), ((blk_cell SH2.BX 1).trans rfl), ((blk_cell SH2.BX 2).trans rfl), ((blk_cell SH2.BX 3).trans rfl)⟩ (fun hHeld => ?_)
     clear hK K
     refine norm_ (a' := ?_) ?_ ?_
     rotate_left
     ·show Act.put _ (some 80) _ = _
      simp only [Act.put, zt0, zt1, zt2, i64_w, i32_w]
      rfl
     refine last_ (i := 8) (N := some 81) (zB 9 4) rfl rfl (one_of HT_.out (by kernel_rfl)) (by decide) (fun K hK => ?_)
     obtain ⟨SH, SZ_⟩ := hHeld
     clear SZ_
     refine Kd.R_append_rows_step k55 (w0 := w0) w0.heap.size (by rfl) (.tmp 78) (.tmp 80) 23 55 (.agg #[.int .i64 0, .int .u8 0, .int .u8 0, .int .i64 0]) 24 rfl Try.underlying23 info55 rfl (by decide) (by omega) (.slice Aq qs.length cq) qs [x] _ _ _ (fun _ => True) (fun _ => False) rfl rfl SH.K.rq (Kd.R_reads' HLIT.out).2.2 (fun _ _ h => h) (fun _ h => h.elim) (fun _ _ => trivial) SH.K.hb SH.K.hb.size (by have := HQS.out; simp only [List.length_cons, List.length_nil]; omega) ?_
     intro vC w8 ho hb hg hat
     obtain ⟨AC, cC, hvC⟩ := Kd.R_slice ho
     rw [show (qs ++ [x]).length = qs.length + 1 by simp] at hvC
     subst hvC
     have NB : Aside0 (w8.heap[g]? = some (.cells #[.slice A2 (postL ps x).length c2, .slice Aq qs.length cq, .int .i64 c] 58 (0, 0))) := ⟨blk_grown SH.K.blk hg (Kd.R_ne SH.K.rq SH.K.blk (by decide))⟩
     have NR : Aside0 (Kd.R k31 31 w8 w0.heap.size (fun _ => True) (.slice A2 (postL ps x).length c2) (postL ps x)) := ⟨Kd.R_grown2 SH.K.rp rfl hg (rows_ne SH.K.rq SH.K.rp (by decide))⟩
     have NQ := Aside0.mk ho
     have NB2 := Aside0.mk hb
     have NE : Aside0 (Kept w w8 (BkS g (.slice Ap ps.length cp) (.slice Aq qs.length cq))) := ⟨Kept.of_grown hg SH.KE (fun k hk => (SH.NQ k hk).imp (fun h1 => .inr (.inr h1)) id)⟩
     have NG := Aside0.mk SH.K.hg
     clear ho hb hg hat
     refine hK.out _ _ ?_
     clear hK K
     refine norm_ (a' := ?_) ?_ ?_
     rotate_left
     ·show Act.put _ (some 81) _ = _
      simp only [Act.put, zt0, zt1, zt2, i64_w, i32_w]
      rfl
     refine pure_ (i := 9) (N := some 82) (v := ?_) (a' := ?_) (zB 10 3) rfl rfl (any_of HT_.out (by kernel_rfl)) (fun _ _ _ h => h) (Or.inl ⟨by rfl, ?_⟩) ?_ ?_
     rotate_left
     ·intro w'
      go_simp
      with_reducible rfl
     rotate_left
     ·simp only [Act.put, zt0, zt1, zt2, i64_w, i32_w]
      rfl
     refine pure_ (i := 10) (N := some 83) (v := ?_) (a' := ?_) (zB 11 2) rfl rfl (any_of HT_.out (by kernel_rfl)) (fun _ _ _ h => h) (Or.inl ⟨by rfl, ?_⟩) ?_ ?_
     rotate_left
     ·intro w'
      go_simp
      with_reducible rfl
     rotate_left
     ·simp only [Act.put, zt0, zt1, zt2, i64_w, i32_w]
      rfl
     refine pure_ (i := 11) (N := some 84) (v := ?_) (a' := ?_) (zB 12 1) rfl rfl (any_of HT_.out (by kernel_rfl)) (fun _ _ _ h => h) (Or.inl ⟨by rfl, ?_⟩) ?_ ?_
     rotate_left
     ·intro w'
      go_simp
      with_reducible rfl
     rotate_left
     ·simp only [Act.put, zt0, zt1, zt2, i64_w, i32_w]
      rfl
     refine last_ (i := 12) (N := none) (zB 13 0) rfl rfl (one_of HT_.out (by kernel_rfl)) (by decide) (fun K hK => ?_)
     have hc0 := (blk_cell NB.out 1).trans rfl
     have hcf := blk_frozen NB.out 1
     refine skip_ (w1 := ?_) (by rfl) rfl ?_ ?_
     rotate_left
     ·go_simp
      rfl
     refine hK.out _ _ ?_
     clear hK K
     refine done_ (done_of HT_.out (by kernel_rfl)) ?_
     go_wp2_with fail
     first | go_end0 | ((try simp only [Exit.inBlock, Exit.then]); refine bodyPost_ret (results_none rfl _ _ _) rfl ?_)
     exact ⟨rfl, NE.out.setCell (p := ⟨g, 1, none⟩) (.inl (.inl rfl)) _, _, _, by rw [P1.out, P2.out, P3.out, HC.out]; exact ⟨blk_put NB.out 1 _ rfl, NG.out, Kd.R_set NR.out NB.out (by decide) 1 _, Kd.R_set NQ.out NB.out (by decide) 1 _, below_set NB2.out NG.out⟩⟩
 ·have e1 : (why1 == 0) = false := beq_eq_false_iff_ne.mpr hz
  have e2 : (why1 != 0) = true := bne_iff_ne.mpr hz
  have P1 : Aside0 (postPs ps qs why x = ps) := ⟨if_neg (by rw [← HWE.out]; exact hz)⟩
  have P2 : Aside0 (postQs qs why x = qs) := ⟨if_neg (by rw [← HWE.out]; exact hz)⟩
  have P3 : Aside0 (postWs ps qs why x = why1) := ⟨(if_neg (by rw [← HWE.out]; exact hz)).trans HWE.out.symm⟩
  clear hz
  go_wp2_with fail
  first | go_end0 | ((try simp only [Exit.inBlock, Exit.then]); refine bodyPost_ret (results_none rfl _ _ _) rfl ?_)
  exact ⟨rfl, KE2.out, _, _, by rw [P1.out, P2.out, P3.out]; exact K2.out⟩
end Go.Proofs.Ytaddmogfeijjcaa.Print
