-- A claim's text with what it uses alone (wip/slim.py, over what the kit's print and this session's tools wrote). Not trusted: Lean checks it.
import Derived.Test.YtaddmogfeijjcaaZPrint0
import Derived.Test.YtaddmogfeijjcaaZPrint1
import Derived.Test.YtaddmogfeijjcaaZPrint6
import Derived.Test.YtaddmogfeijjcaaZPrint7
import Derived.Test.YtaddmogfeijjcaaZPrint34
import Derived.Test.YtaddmogfeijjcaaZPrint35
import Derived.Test.YtaddmogfeijjcaaZPrint36
namespace Go.Proofs.Ytaddmogfeijjcaa.Print
open Go.RowKit Go.Proofs.YtaddmogfeijjcaaW.PrintWords Go.Proofs.YtaddmogfeijjcaaW.PrintLast Go.Proofs.YtaddmogfeijjcaaW.PrintMore
attribute [local go_sem] max2_mx min2_mn max_two min_two max_three min_three max_four min_four
set_option linter.unusedVariables false
set_option linter.unusedSimpArgs false
attribute [local go_sem high] eqA31
def withA (p : S31) (n : Int) : List S31 → Bool → List S31
 | [], put => if put = true then [] else [p]
 | y :: ys, put => (if put = false ∧ n ≤ y.f0 then [p] else []) ++ ((if y.f0 = n then [] else [y]) ++ withA p n ys (put || decide (n ≤ y.f0)))
section
variable {α : Type} {d : Kd α} {e base g t : Nat} {ok : Nat → Prop} {W w : World} {v : Value} {xs : List α} {a b : Value}
theorem set2R (h : d.R e W base ok v xs) (hb : W.heap[g]? = some (.cells #[a, b] t (0, 0))) (ht : ∀ q, q ∈ e :: d.E → q ≠ t) (x0 x1 : Value) : d.R e ((W.setCell ⟨g, 0, none⟩ x0).setCell ⟨g, 1, none⟩ x1) base ok v xs := Kd.R_set (Kd.R_set h hb ht 0 x0) (blk_set hb 0 x0) ht 1 x1
theorem set4R (h : d.R e W base ok v xs) {c c' : Value} (hb : W.heap[g]? = some (.cells #[a, b, c, c'] t (0, 0))) (ht : ∀ q, q ∈ e :: d.E → q ≠ t) (x0 x1 x2 x3 : Value) : d.R e ((((W.setCell ⟨g, 0, none⟩ x0).setCell ⟨g, 1, none⟩ x1).setCell ⟨g, 2, none⟩ x2).setCell ⟨g, 3, none⟩ x3) base ok v xs :=
 Kd.R_set (Kd.R_set (Kd.R_set (Kd.R_set h hb ht 0 x0) (blk_set hb 0 x0) ht 1 x1) (blk_set (blk_set hb 0 x0) 1 x1) ht 2 x2) (blk_set (blk_set (blk_set hb 0 x0) 1 x1) 2 x2) ht 3 x3
theorem set4P (h : d.R e W base ok v xs) (hE : d.E = []) (hg : ∀ k, v.ownBlock = some k → k ≠ g) (x0 x1 x2 x3 : Value) : d.R e ((((W.setCell ⟨g, 0, none⟩ x0).setCell ⟨g, 1, none⟩ x1).setCell ⟨g, 2, none⟩ x2).setCell ⟨g, 3, none⟩ x3) base ok v xs :=
 Kd.R_mono (Kd.R_far (p := ⟨g, 3, none⟩) (Kd.R_far (p := ⟨g, 2, none⟩) (Kd.R_far (p := ⟨g, 1, none⟩) (Kd.R_far (p := ⟨g, 0, none⟩) (Kd.R_tight hE h) (fun k hk => hg k hk.symm) x0) (fun k hk => hg k hk.symm) x1) (fun k hk => hg k hk.symm) x2) (fun k hk => hg k hk.symm) x3) (fun k hk => h.1 k hk.symm)
theorem set2B (hb : W.heap[g]? = some (.cells #[a, b] t (0, 0))) (x0 x1 : Value) : ((W.setCell ⟨g, 0, none⟩ x0).setCell ⟨g, 1, none⟩ x1).heap[g]? = some (.cells #[x0, x1] t (0, 0)) := blk_put (cs := #[x0, b]) (blk_put hb 0 _ rfl) 1 _ rfl
theorem set2F {g' t' : Nat} {cs : Array Value} (h : W.heap[g']? = some (.cells cs t' (0, 0))) (hne : g' ≠ g) (x0 x1 : Value) : ((W.setCell ⟨g, 0, none⟩ x0).setCell ⟨g, 1, none⟩ x1).heap[g']? = some (.cells cs t' (0, 0)) := blk_far (blk_far h hne _) hne _
theorem set2W {B : Nat} (h : Below B w W) (hg : B ≤ g) (x0 x1 : Value) : Below B w ((W.setCell ⟨g, 0, none⟩ x0).setCell ⟨g, 1, none⟩ x1) := (h.setCell (p := ⟨g, 0, none⟩) hg x0).setCell (p := ⟨g, 1, none⟩) hg x1
end
theorem rows_ne {α β : Type} {d : Kd α} {d' : Kd β} {e e' base base' : Nat} {ok ok' : Nat → Prop} {W : World} {v v' : Value} {xs : List α} {ys : List β} (h : d.R e W base ok v xs) (h' : d'.R e' W base' ok' v' ys) (hne : e ≠ e') : ∀ k, v.ownBlock = some k → some k ≠ v'.ownBlock := by
 intro k hk he
 obtain ⟨c1, h1⟩ := Kd.R_typed h k hk
 obtain ⟨c2, h2⟩ := Kd.R_typed h' k he.symm
 rw [h1] at h2
 injection h2 with h2
 injection h2 with _ h2
 exact hne h2
structure ladingref14_with.St (w wr : World) (gb gx gr g6 g7 : Nat) (A0_0 : Option Addr) (c0_0 : Nat) (l0_0 : List S31) (A0_1 : Option Addr) (c0_1 : Nat) (l0_1 : List S55) (x : S55) (s : S31) (v vP : Value) (q : List S55) (acc : List S31) : Prop where
 BB : wr.heap[gb]? = some (.cells #[.slice A0_0 l0_0.length c0_0, .slice A0_1 l0_1.length c0_1] 25 (0, 0))
 BX : wr.heap[gx]? = some (.cells #[.int .i64 x.f0, .int .u8 x.f1, .int .u8 x.f2, .int .i64 x.f3] 55 (0, 0))
 BR : wr.heap[gr]? = some (.cells #[.slice none 0 0, .slice none 0 0] 25 (0, 0))
 BS : wr.heap[g7]? = some (.cells #[.int .i64 s.f0, .int .i64 s.f1, .int .i64 s.f2, .int .i64 s.f3] 31 (0, 0))
 BG : wr.heap[g6]? = some (.cells #[vP, v] 25 (0, 0))
 HP : Kd.R k31 31 wr w.heap.size (fun k => k ≠ g7) vP acc
 HQ : Kd.R k55 55 wr w.heap.size (fun k => k ≠ gx) v q
 HB : Below w.heap.size w wr
section
variable {w wr w1 : World} {gb gx gr g6 g7 : Nat} {A0_0 : Option Addr} {c0_0 : Nat} {l0_0 : List S31} {A0_1 : Option Addr} {c0_1 : Nat} {l0_1 : List S55} {x : S55} {s : S31} {v vP : Value} {q : List S55} {acc : List S31}
theorem ladingref14_with.St.below (h : ladingref14_with.St w wr gb gx gr g6 g7 A0_0 c0_0 l0_0 A0_1 c0_1 l0_1 x s v vP q acc) (hb : Below wr.heap.size wr w1) : ladingref14_with.St w w1 gb gx gr g6 g7 A0_0 c0_0 l0_0 A0_1 c0_1 l0_1 x s v vP q acc :=
 ⟨blk_below h.BB hb, blk_below h.BX hb, blk_below h.BR hb, blk_below h.BS hb, blk_below h.BG hb, Kd.R_below h.HP hb, Kd.R_below h.HQ hb, below_step h.HB hb⟩
theorem ladingref14_with.St.drewN (h : ladingref14_with.St w wr gb gx gr g6 g7 A0_0 c0_0 l0_0 A0_1 c0_1 l0_1 x s v vP q acc) (n : Nat) : ladingref14_with.St w (wr.drewN n) gb gx gr g6 g7 A0_0 c0_0 l0_0 A0_1 c0_1 l0_1 x s v vP q acc :=
 ⟨h.BB, h.BX, h.BR, h.BS, h.BG, Kd.R_below h.HP (pw_below_drewN (Below.refl _ _) n), Kd.R_below h.HQ (pw_below_drewN (Below.refl _ _) n), pw_below_drewN h.HB n⟩
theorem ladingref14_with.St.grown (h : ladingref14_with.St w wr gb gx gr g6 g7 A0_0 c0_0 l0_0 A0_1 c0_1 l0_1 x s v vP q acc) (hg : wr.grownBy w1 vP.ownBlock) (hb : Below w.heap.size w w1) {v1 : Value} {acc1 : List S31} (hp : Kd.R k31 31 w1 w.heap.size (fun k => k ≠ g7) v1 acc1) (hn : g6 ≠ gb ∧ g6 ≠ gr ∧ w.heap.size ≤ g6) :
  w1.heap[g6]? = some (.cells #[vP, v] 25 (0, 0)) ∧ ladingref14_with.St w (w1.setCell ⟨g6, 0, none⟩ v1) gb gx gr g6 g7 A0_0 c0_0 l0_0 A0_1 c0_1 l0_1 x s v v1 q acc1 := by
 have b6 := blk_grown h.BG hg (Kd.R_ne h.HP h.BG (by decide))
 have hs : w1.heap[g7]? = some _ := blk_grown h.BS hg (fun he => absurd rfl (h.HP.1 g7 he.symm))
 refine ⟨b6, ?_, ?_, ?_, ?_, blk_put b6 0 _ rfl, Kd.R_set hp b6 (by decide) 0 v1, ?_, hb.setCell (p := ⟨g6, 0, none⟩) hn.2.2 v1⟩
 ·exact blk_far (blk_grown h.BB hg (Kd.R_ne h.HP h.BB (by decide))) (Ne.symm hn.1) _
 ·exact blk_far (blk_grown h.BX hg (Kd.R_ne h.HP h.BX (by decide))) (blk_ne h.BX h.BG (by decide)) _
 ·exact blk_far (blk_grown h.BR hg (Kd.R_ne h.HP h.BR (by decide))) (Ne.symm hn.2.1) _
 ·exact blk_far hs (blk_ne h.BS h.BG (by decide)) _
 ·exact Kd.R_set (Kd.R_grown2 h.HQ rfl hg (rows_ne h.HP h.HQ (by decide))) b6 (by decide) 0 v1
end
def ladingref14_with.Rel (w : World) (gb gx gr g6 g7 : Nat) (A0_0 : Option Addr) (c0_0 : Nat) (l0_0 : List S31) (A0_1 : Option Addr) (c0_1 : Nat) (l0_1 : List S55) (x : S55) (s : S31) (v : Value) (q : List S55) (zb : Bool) (kq : Nat) (v9 v41 : Value) (wr : World) : Prop :=
 ∃ (i : Nat) (put : Bool) (vP : Value) (acc : List S31), i ≤ l0_0.length ∧ i + kq = l0_0.length + 1 ∧ v41 = .int .i64 i ∧ v9 = .bool put ∧ ladingref14_with.St w wr gb gx gr g6 g7 A0_0 c0_0 l0_0 A0_1 c0_1 l0_1 x s v vP q acc ∧ acc ++ withA s x.f0 (l0_0.drop i) put = withA s x.f0 l0_0 zb ∧ acc.length ≤ 2 * i
end Go.Proofs.Ytaddmogfeijjcaa.Print
