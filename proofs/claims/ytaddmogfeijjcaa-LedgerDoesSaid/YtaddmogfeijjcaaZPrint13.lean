-- What the claim uses alone (wip/slim.py). Lean checks it.
import Derived.Test.YtaddmogfeijjcaaZPrint0
namespace Go.Proofs.Ytaddmogfeijjcaa.Print
open Go.RowKit Go.Proofs.YtaddmogfeijjcaaW.PrintWords Go.Proofs.YtaddmogfeijjcaaW.PrintLast Go.Proofs.YtaddmogfeijjcaaW.PrintMore
attribute [local go_sem] max2_mx min2_mn max_two min_two max_three min_three max_four min_four
set_option linter.unusedVariables false
set_option linter.unusedSimpArgs false
structure Bk (w0 W : World) (g : Nat) (vp vq : Value) (ps : List S31) (qs : List S55) (why : Int) : Prop where
 blk : W.heap[g]? = some (.cells #[vp, vq, .int .i64 why] 58 (0, 0))
 hg : w0.heap.size ≤ g
 rp : Kd.R k31 31 W w0.heap.size (fun _ => True) vp ps
 rq : Kd.R k55 55 W w0.heap.size (fun _ => True) vq qs
 hb : Below w0.heap.size w0 W
section
variable {w0 w1 W W1 : World} {g : Nat} {vp vq : Value} {ps : List S31} {qs : List S55} {why : Int}
theorem Bk.below (h : Bk w0 W g vp vq ps qs why) (hb : Below W.heap.size W W1) : Bk w0 W1 g vp vq ps qs why := ⟨blk_below h.blk hb, h.hg, Kd.R_below h.rp hb, Kd.R_below h.rq hb, below_step h.hb hb⟩
theorem Bk.drewN (h : Bk w0 W g vp vq ps qs why) (n : Nat) : Bk w0 (W.drewN n) g vp vq ps qs why := h.below (pw_below_drewN (Below.refl _ _) n)
theorem Bk.lower (h : Bk w1 W g vp vq ps qs why) (hb : Below w0.heap.size w0 w1) : Bk w0 W g vp vq ps qs why := ⟨h.blk, Nat.le_trans hb.size h.hg, Kd.R_lower h.rp hb.size, Kd.R_lower h.rq hb.size, below_step hb h.hb⟩
theorem Bk.setWhy (h : Bk w0 W g vp vq ps qs why) (c : Int) : Bk w0 (W.setCell ⟨g, 2, none⟩ (.int .i64 c)) g vp vq ps qs c := ⟨blk_put h.blk 2 _ rfl, h.hg, Kd.R_set h.rp h.blk (by decide) 2 _, Kd.R_set h.rq h.blk (by decide) 2 _, below_set h.hb h.hg⟩
theorem Bk.far (h : Bk w0 W g vp vq ps qs why) {b : Nat} (hb : w0.heap.size ≤ b) (hne : g ≠ b) (hp : ∀ k, vp.ownBlock = some k → k ≠ b) (hq : ∀ k, vq.ownBlock = some k → k ≠ b) (i : Nat) (u : Value) : Bk w0 (W.setCell ⟨b, i, none⟩ u) g vp vq ps qs why :=
 ⟨blk_far h.blk hne u, h.hg, Kd.R_mono (Kd.R_far (p := ⟨b, i, none⟩) (Kd.R_tight rfl h.rp) (fun k hk => hp k hk.symm) u) (fun _ _ => trivial), Kd.R_mono (Kd.R_far (p := ⟨b, i, none⟩) (Kd.R_tight rfl h.rq) (fun k hk => hq k hk.symm) u) (fun _ _ => trivial), below_set h.hb hb⟩
theorem Bk.far_type (h : Bk w0 W g vp vq ps qs why) {b t : Nat} {cs : Array Value} (hb : w0.heap.size ≤ b) (hx : W.heap[b]? = some (.cells cs t (0, 0))) (h1 : 58 ≠ t) (h2 : 31 ≠ t) (h3 : 55 ≠ t) (i : Nat) (u : Value) : Bk w0 (W.setCell ⟨b, i, none⟩ u) g vp vq ps qs why :=
 ⟨blk_far h.blk (blk_ne h.blk hx h1) u, h.hg, Kd.R_set h.rp hx (by simpa [k31, Kd.iso, Kd.pair, Kd.int, Kd.scalar] using h2) i u, Kd.R_set h.rq hx (by simpa [k55, Kd.iso, Kd.pair, Kd.int, Kd.scalar] using h3) i u, below_set h.hb hb⟩
def BkS (g : Nat) (vp vq : Value) (k : Nat) : Prop := k = g ∨ some k = vp.ownBlock ∨ some k = vq.ownBlock
theorem Bk.other (h : Bk w0 W g vp vq ps qs why) {b t : Nat} {cs : Array Value} (hx : W.heap[b]? = some (.cells cs t (0, 0))) (h1 : 58 ≠ t) (h2 : 31 ≠ t) (h3 : 55 ≠ t) : ¬ BkS g vp vq b := by
 rintro (rfl | hp | hq)
 ·exact absurd rfl (blk_ne h.blk hx h1)
 ·exact Kd.R_ne h.rp hx h2 hp
 ·exact Kd.R_ne h.rq hx h3 hq
end
def unl (why : Int) (is : Bool) (c : Int) : Int := if why = 0 ∧ is = true then c else why
set_option maxHeartbeats 2000000 in
set_option maxRecDepth 100000 in
theorem ledger_book_unless.row (w0 : World) (g : Nat) (vp vq : Value) (ps : List S31) (qs : List S55) (why : Int) (is : Bool) (c : Int) (w : World) (hk : Bk w0 w g vp vq ps qs why) :
  Calls Try.prog 28 #[.pointer (some ⟨g, 0, none⟩), .bool is, .int .i64 c] w fun e w' => e = .returned (.tuple #[]) ∧ Bk w0 w' g vp vq ps qs (unl why is c) ∧ Kept w w' (fun k => k = g) := by
 have HK := Aside0.mk hk
 have h2 := (blk_cell hk.blk 2).trans rfl
 have hf := blk_frozen hk.blk 2
 clear hk
 by_cases hw : why = 0
 ·have e1 : (why == 0) = true := beq_iff_eq.mpr hw
  have e2 : (why != 0) = false := bne_eq_false_iff_eq.mpr hw
  have HW := Aside0.mk hw
  clear hw
  cases is with
  | true =>
   have HU : Aside0 (unl why true c = c) := ⟨if_pos ⟨HW.out, rfl⟩⟩
   go_enter Try.func28, Try.ntmps28
   go_wp2
   first | go_end0 | ((try simp only [Exit.inBlock, Exit.then]); refine bodyPost_ret (results_none rfl _ _ _) rfl ?_)
   exact ⟨rfl, by rw [HU.out]; exact HK.out.setWhy c, ⟨by simp, fun i hi hn => Below.heap_setCell _ _ _ i hn⟩⟩
  | false =>
   have HU : Aside0 (unl why false c = why) := ⟨if_neg (by simp)⟩
   go_enter Try.func28, Try.ntmps28
   go_wp2
   first | go_end0 | ((try simp only [Exit.inBlock, Exit.then]); refine bodyPost_ret (results_none rfl _ _ _) rfl ?_)
   exact ⟨rfl, by rw [HU.out]; exact HK.out, Kept.refl _ _⟩
 ·have e1 : (why == 0) = false := beq_eq_false_iff_ne.mpr hw
  have e2 : (why != 0) = true := bne_iff_ne.mpr hw
  have HU : Aside0 (unl why is c = why) := ⟨if_neg (fun h => hw h.1)⟩
  clear hw
  go_enter Try.func28, Try.ntmps28
  go_wp2
  first | go_end0 | ((try simp only [Exit.inBlock, Exit.then]); refine bodyPost_ret (results_none rfl _ _ _) rfl ?_)
  exact ⟨rfl, by rw [HU.out]; exact HK.out, Kept.refl _ _⟩
end Go.Proofs.Ytaddmogfeijjcaa.Print
