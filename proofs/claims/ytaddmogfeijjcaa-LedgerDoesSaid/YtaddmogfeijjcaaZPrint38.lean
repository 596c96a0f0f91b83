-- What the claim uses alone (wip/slim.py). Lean checks it.
import Derived.Test.YtaddmogfeijjcaaZAb
import Derived.Test.YtaddmogfeijjcaaZPrint0
import Derived.Test.YtaddmogfeijjcaaZPrint1
import Derived.Test.YtaddmogfeijjcaaZPrint6
import Derived.Test.YtaddmogfeijjcaaZPrint7
import Derived.Test.YtaddmogfeijjcaaZPrint34
import Derived.Test.YtaddmogfeijjcaaZPrint35
import Derived.Test.YtaddmogfeijjcaaZPrint36
namespace Go.Proofs.Ytaddmogfeijjcaa.Print
open Go.RowKit Go.Proofs.YtaddmogfeijjcaaW.PrintWords Go.Proofs.YtaddmogfeijjcaaW.PrintLast Go.Proofs.YtaddmogfeijjcaaW.PrintMore
attribute [local go_sem] max2_mx min2_mn max_two min_two max_three min_three max_four min_four
set_option linter.unusedVariables false
set_option linter.unusedSimpArgs false
attribute [local go_sem high] eqA31
def withA (p : S31) (n : Int) : List S31 → Bool → List S31
 | [], put => if put = true then [] else [p]
 | y :: ys, put => (if put = false ∧ n ≤ y.f0 then [p] else []) ++ ((if y.f0 = n then [] else [y]) ++ withA p n ys (put || decide (n ≤ y.f0)))
def noneP (p : S31) : Bool := p.f1 == 0 && (p.f2 == 0 && p.f3 == 0)
theorem withA_step (p : S31) (n : Int) (y : S31) (ys : List S31) (put : Bool) : withA p n (y :: ys) put = (if put = false ∧ n ≤ y.f0 then [p] else []) ++ ((if y.f0 = n then [] else [y]) ++ withA p n ys (put || decide (n ≤ y.f0))) := rfl
theorem drop_pAt (l : List S31) (i : Nat) (h : i < l.length) : l.drop i = pAt l i :: l.drop (i + 1) := by
 rw [List.drop_eq_getElem_cons h]
 unfold pAt
 rw [List.getD_eq_getElem?_getD, List.getElem?_eq_getElem h]
 rfl
section
variable {α : Type} {d : Kd α} {e base g t : Nat} {ok : Nat → Prop} {W w : World} {v : Value} {xs : List α} {a b : Value}
theorem set2R (h : d.R e W base ok v xs) (hb : W.heap[g]? = some (.cells #[a, b] t (0, 0))) (ht : ∀ q, q ∈ e :: d.E → q ≠ t) (x0 x1 : Value) : d.R e ((W.setCell ⟨g, 0, none⟩ x0).setCell ⟨g, 1, none⟩ x1) base ok v xs := Kd.R_set (Kd.R_set h hb ht 0 x0) (blk_set hb 0 x0) ht 1 x1
theorem set4R (h : d.R e W base ok v xs) {c c' : Value} (hb : W.heap[g]? = some (.cells #[a, b, c, c'] t (0, 0))) (ht : ∀ q, q ∈ e :: d.E → q ≠ t) (x0 x1 x2 x3 : Value) : d.R e ((((W.setCell ⟨g, 0, none⟩ x0).setCell ⟨g, 1, none⟩ x1).setCell ⟨g, 2, none⟩ x2).setCell ⟨g, 3, none⟩ x3) base ok v xs :=
 Kd.R_set (Kd.R_set (Kd.R_set (Kd.R_set h hb ht 0 x0) (blk_set hb 0 x0) ht 1 x1) (blk_set (blk_set hb 0 x0) 1 x1) ht 2 x2) (blk_set (blk_set (blk_set hb 0 x0) 1 x1) 2 x2) ht 3 x3
theorem set4P (h : d.R e W base ok v xs) (hE : d.E = []) (hg : ∀ k, v.ownBlock = some k → k ≠ g) (x0 x1 x2 x3 : Value) : d.R e ((((W.setCell ⟨g, 0, none⟩ x0).setCell ⟨g, 1, none⟩ x1).setCell ⟨g, 2, none⟩ x2).setCell ⟨g, 3, none⟩ x3) base ok v xs :=
 Kd.R_mono (Kd.R_far (p := ⟨g, 3, none⟩) (Kd.R_far (p := ⟨g, 2, none⟩) (Kd.R_far (p := ⟨g, 1, none⟩) (Kd.R_far (p := ⟨g, 0, none⟩) (Kd.R_tight hE h) (fun k hk => hg k hk.symm) x0) (fun k hk => hg k hk.symm) x1) (fun k hk => hg k hk.symm) x2) (fun k hk => hg k hk.symm) x3) (fun k hk => h.1 k hk.symm)
theorem set2B (hb : W.heap[g]? = some (.cells #[a, b] t (0, 0))) (x0 x1 : Value) : ((W.setCell ⟨g, 0, none⟩ x0).setCell ⟨g, 1, none⟩ x1).heap[g]? = some (.cells #[x0, x1] t (0, 0)) := blk_put (cs := #[x0, b]) (blk_put hb 0 _ rfl) 1 _ rfl
theorem set2F {g' t' : Nat} {cs : Array Value} (h : W.heap[g']? = some (.cells cs t' (0, 0))) (hne : g' ≠ g) (x0 x1 : Value) : ((W.setCell ⟨g, 0, none⟩ x0).setCell ⟨g, 1, none⟩ x1).heap[g']? = some (.cells cs t' (0, 0)) := blk_far (blk_far h hne _) hne _
theorem set2W {B : Nat} (h : Below B w W) (hg : B ≤ g) (x0 x1 : Value) : Below B w ((W.setCell ⟨g, 0, none⟩ x0).setCell ⟨g, 1, none⟩ x1) := (h.setCell (p := ⟨g, 0, none⟩) hg x0).setCell (p := ⟨g, 1, none⟩) hg x1
end
theorem num_big {k : Nat} (h : k < 9000000000000000000) : Value.int .i64 (wrap64 ((k : Int) + 1)) = .int .i64 ((k + 1 : Nat) : Int) := by
 congr 1
 unfold wrap64
 omega
theorem rows_ne {α β : Type} {d : Kd α} {d' : Kd β} {e e' base base' : Nat} {ok ok' : Nat → Prop} {W : World} {v v' : Value} {xs : List α} {ys : List β} (h : d.R e W base ok v xs) (h' : d'.R e' W base' ok' v' ys) (hne : e ≠ e') : ∀ k, v.ownBlock = some k → some k ≠ v'.ownBlock := by
 intro k hk he
 obtain ⟨c1, h1⟩ := Kd.R_typed h k hk
 obtain ⟨c2, h2⟩ := Kd.R_typed h' k he.symm
 rw [h1] at h2
 injection h2 with h2
 injection h2 with _ h2
 exact hne h2
structure ladingref14_with.St (w wr : World) (gb gx gr g6 g7 : Nat) (A0_0 : Option Addr) (c0_0 : Nat) (l0_0 : List S31) (A0_1 : Option Addr) (c0_1 : Nat) (l0_1 : List S55) (x : S55) (s : S31) (v vP : Value) (q : List S55) (acc : List S31) : Prop where
 BB : wr.heap[gb]? = some (.cells #[.slice A0_0 l0_0.length c0_0, .slice A0_1 l0_1.length c0_1] 25 (0, 0))
 BX : wr.heap[gx]? = some (.cells #[.int .i64 x.f0, .int .u8 x.f1, .int .u8 x.f2, .int .i64 x.f3] 55 (0, 0))
 BR : wr.heap[gr]? = some (.cells #[.slice none 0 0, .slice none 0 0] 25 (0, 0))
 BS : wr.heap[g7]? = some (.cells #[.int .i64 s.f0, .int .i64 s.f1, .int .i64 s.f2, .int .i64 s.f3] 31 (0, 0))
 BG : wr.heap[g6]? = some (.cells #[vP, v] 25 (0, 0))
 HP : Kd.R k31 31 wr w.heap.size (fun k => k ≠ g7) vP acc
 HQ : Kd.R k55 55 wr w.heap.size (fun k => k ≠ gx) v q
 HB : Below w.heap.size w wr
section
variable {w wr w1 : World} {gb gx gr g6 g7 : Nat} {A0_0 : Option Addr} {c0_0 : Nat} {l0_0 : List S31} {A0_1 : Option Addr} {c0_1 : Nat} {l0_1 : List S55} {x : S55} {s : S31} {v vP : Value} {q : List S55} {acc : List S31}
theorem ladingref14_with.St.below (h : ladingref14_with.St w wr gb gx gr g6 g7 A0_0 c0_0 l0_0 A0_1 c0_1 l0_1 x s v vP q acc) (hb : Below wr.heap.size wr w1) : ladingref14_with.St w w1 gb gx gr g6 g7 A0_0 c0_0 l0_0 A0_1 c0_1 l0_1 x s v vP q acc :=
 ⟨blk_below h.BB hb, blk_below h.BX hb, blk_below h.BR hb, blk_below h.BS hb, blk_below h.BG hb, Kd.R_below h.HP hb, Kd.R_below h.HQ hb, below_step h.HB hb⟩
theorem ladingref14_with.St.drewN (h : ladingref14_with.St w wr gb gx gr g6 g7 A0_0 c0_0 l0_0 A0_1 c0_1 l0_1 x s v vP q acc) (n : Nat) : ladingref14_with.St w (wr.drewN n) gb gx gr g6 g7 A0_0 c0_0 l0_0 A0_1 c0_1 l0_1 x s v vP q acc :=
 ⟨h.BB, h.BX, h.BR, h.BS, h.BG, Kd.R_below h.HP (pw_below_drewN (Below.refl _ _) n), Kd.R_below h.HQ (pw_below_drewN (Below.refl _ _) n), pw_below_drewN h.HB n⟩
theorem ladingref14_with.St.grown (h : ladingref14_with.St w wr gb gx gr g6 g7 A0_0 c0_0 l0_0 A0_1 c0_1 l0_1 x s v vP q acc) (hg : wr.grownBy w1 vP.ownBlock) (hb : Below w.heap.size w w1) {v1 : Value} {acc1 : List S31} (hp : Kd.R k31 31 w1 w.heap.size (fun k => k ≠ g7) v1 acc1) (hn : g6 ≠ gb ∧ g6 ≠ gr ∧ w.heap.size ≤ g6) :
  w1.heap[g6]? = some (.cells #[vP, v] 25 (0, 0)) ∧ ladingref14_with.St w (w1.setCell ⟨g6, 0, none⟩ v1) gb gx gr g6 g7 A0_0 c0_0 l0_0 A0_1 c0_1 l0_1 x s v v1 q acc1 := by
 have b6 := blk_grown h.BG hg (Kd.R_ne h.HP h.BG (by decide))
 have hs : w1.heap[g7]? = some _ := blk_grown h.BS hg (fun he => absurd rfl (h.HP.1 g7 he.symm))
 refine ⟨b6, ?_, ?_, ?_, ?_, blk_put b6 0 _ rfl, Kd.R_set hp b6 (by decide) 0 v1, ?_, hb.setCell (p := ⟨g6, 0, none⟩) hn.2.2 v1⟩
 ·exact blk_far (blk_grown h.BB hg (Kd.R_ne h.HP h.BB (by decide))) (Ne.symm hn.1) _
 ·exact blk_far (blk_grown h.BX hg (Kd.R_ne h.HP h.BX (by decide))) (blk_ne h.BX h.BG (by decide)) _
 ·exact blk_far (blk_grown h.BR hg (Kd.R_ne h.HP h.BR (by decide))) (Ne.symm hn.2.1) _
 ·exact blk_far hs (blk_ne h.BS h.BG (by decide)) _
 ·exact Kd.R_set (Kd.R_grown2 h.HQ rfl hg (rows_ne h.HP h.HQ (by decide))) b6 (by decide) 0 v1
end
def ladingref14_with.Rel (w : World) (gb gx gr g6 g7 : Nat) (A0_0 : Option Addr) (c0_0 : Nat) (l0_0 : List S31) (A0_1 : Option Addr) (c0_1 : Nat) (l0_1 : List S55) (x : S55) (s : S31) (v : Value) (q : List S55) (zb : Bool) (kq : Nat) (v9 v41 : Value) (wr : World) : Prop :=
 ∃ (i : Nat) (put : Bool) (vP : Value) (acc : List S31), i ≤ l0_0.length ∧ i + kq = l0_0.length + 1 ∧ v41 = .int .i64 i ∧ v9 = .bool put ∧ ladingref14_with.St w wr gb gx gr g6 g7 A0_0 c0_0 l0_0 A0_1 c0_1 l0_1 x s v vP q acc ∧ acc ++ withA s x.f0 (l0_0.drop i) put = withA s x.f0 l0_0 zb ∧ acc.length ≤ 2 * i
def ladingref14_with.T3 : Bool × List (List Nat × List Nat) := (true, [([], []), ([], []), ([1], [1]), ([0, 2], [0, 2]), ([], []), ([4], [4]), ([3, 5, 3], [3, 5]), ([6], [6]), ([], []), ([8, 7, 6, 0, 1, 2, 3, 4, 5, 6, 7, 8], [7, 8])])
def ladingref14_with.B3 : List Nat := [0, 0, 2, 7, 0, 16, 63, 127, 0, 511]
theorem ladingref14_with.tab3 : rtab .any (opsOf Try.f37 3) = ladingref14_with.T3 := by kernel_rfl
theorem ladingref14_with.bits3 : waitsOk ladingref14_with.T3.2 ladingref14_with.B3 = true := by kernel_rfl
def ladingref14_with.f (l0_0 : List S31) (l0_1 : List S55) (a1_0 a1_1 a1_2 a1_3 : Int) : Option (List S31 × List S55 × Int) := if l0_0.length ≤ 2000000000000 then some (if 16384 ≤ l0_1.length then ([], [], 3) else if fitsN (l0_1 ++ [⟨a1_0, a1_1, a1_2, a1_3⟩]) a1_0 = true then (withA (sumN (l0_1 ++ [⟨a1_0, a1_1, a1_2, a1_3⟩]) a1_0) a1_0 l0_0 (noneP (sumN (l0_1 ++ [⟨a1_0, a1_1, a1_2, a1_3⟩]) a1_0)), l0_1 ++ [⟨a1_0, a1_1, a1_2, a1_3⟩], 0) else ([], [], 5)) else none
set_option maxHeartbeats 16000000 in
set_option maxRecDepth 100000 in
theorem ladingref14_with.calls (A0_0 : Option Addr) (c0_0 : Nat) (l0_0 : List (S31)) (A0_1 : Option Addr) (c0_1 : Nat) (l0_1 : List (S55)) (a1_0 a1_1 a1_2 a1_3 : Int) (r1 : List S31) (r2 : List S55) (r3 : Int) (w : World) (hr0_0 : Kd.C k31 w A0_0 l0_0.length l0_0) (hc0_0 : l0_0.length ≤ c0_0) (hr0_1 : Kd.C k55 w A0_1 l0_1.length l0_1) (hc0_1 : l0_1.length ≤ c0_1) (h : ladingref14_with.f l0_0 l0_1 a1_0 a1_1 a1_2 a1_3 = some (r1, r2, r3)) :
  Calls Try.prog 37 #[.agg #[.slice A0_0 l0_0.length c0_0, .slice A0_1 l0_1.length c0_1], .agg #[.int .i64 a1_0, .int .u8 a1_1, .int .u8 a1_2, .int .i64 a1_3]] w fun e w' => ∃ v1_ v2_ : Value, e = .returned (.tuple #[.agg #[v1_, v2_], .int .i64 r3]) ∧ Kd.R k31 31 w' w.heap.size (fun _ => True) v1_ r1 ∧ Kd.R k55 55 w' w.heap.size (fun _ => True) v2_ r2 ∧ Below w.heap.size w w' := by
 unfold ladingref14_with.f at h
 split at h
 case isFalse => cases h
 case isTrue hbig =>
 have HBIG := Aside0.mk hbig
 have HR := Aside0.mk (Option.some.inj h)
 clear h hbig
 have hu25 := Try.underlying25
 have hu31 := Try.underlying31
 have hu55 := Try.underlying55
 have HR0 := Aside0.mk hr0_0
 have HC0 := Aside0.mk hc0_0
 have HR1 := Aside0.mk hr0_1
 have HC1 := Aside0.mk hc0_1
 clear hr0_0 hc0_0 hr0_1 hc0_1
 obtain ⟨x, hx⟩ : ∃ x : S55, x = ⟨a1_0, a1_1, a1_2, a1_3⟩ := ⟨_, rfl⟩
 obtain ⟨rfl, rfl, rfl, rfl⟩ : x.f0 = a1_0 ∧ x.f1 = a1_1 ∧ x.f2 = a1_2 ∧ x.f3 = a1_3 := by rw [hx]; exact ⟨rfl, rfl, rfl, rfl⟩
 clear hx
 by_cases hn : 16384 ≤ l0_1.length
 ·have d1 : decide (16384 ≤ (l0_1.length : Int)) = true := decide_eq_true (by omega)
  have d1n : decide (16384 ≤ l0_1.length) = true := decide_eq_true hn
  have HG : Aside0 (r1 = [] ∧ r2 = [] ∧ r3 = 3) := ⟨by have := HR.out; rw [if_pos hn] at this; simp only [Prod.mk.injEq] at this; exact ⟨this.1.symm, this.2.1.symm, this.2.2.symm⟩⟩
  clear hn HR
  go_enter Try.func37, Try.ntmps37
  go_wp2_with (first | ((with_reducible refine gate_dst (N := 2) rfl ?_); refine box_event ?hg (N := 2) ?hd (cs := #[.slice A0_0 l0_0.length c0_0, .slice A0_1 l0_1.length c0_1]) (t := 25) ?hr ?_; (case hd => rfl); (case hg => rfl); (case hr => first | (go_simp; done) | (go_simp; rfl)); intro gb hgb w1 hbox hb; have BB := Aside0.mk hbox; have HB := Aside0.mk hb; have GB : Aside0 (w.heap.size ≤ gb) := ⟨by rw [hgb]; exact Nat.le_refl _⟩; clear hbox hb hgb) | ((with_reducible refine gate_dst (N := 3) rfl ?_); refine box_event ?hg (N := 3) ?hd (cs := #[.int .i64 x.f0, .int .u8 x.f1, .int .u8 x.f2, .int .i64 x.f3]) (t := 55) ?hr ?_; (case hd => rfl); (case hg => rfl); (case hr => first | (go_simp; done) | (go_simp; rfl)); intro gx hgx w2 hbox hb; have BX := Aside0.mk hbox; have BB2 := Aside0.mk (blk_below BB.out hb); have HB2 := Aside0.mk (below_step HB.out hb); have GX : Aside0 (w.heap.size ≤ gx) := ⟨by rw [hgx]; exact HB.out.size⟩; clear hbox hb hgx BB HB) | ((with_reducible refine gate_dst (N := 4) rfl ?_); refine box_event ?hg (N := 4) ?hd (cs := #[.slice none 0 0, .slice none 0 0]) (t := 25) ?hr ?_; (case hd => rfl); (case hg => rfl); (case hr => first | (go_simp; done) | (go_simp; rfl)); intro gr hgr w3 hbox hb; have BR := Aside0.mk hbox; have BB := Aside0.mk (blk_below BB2.out hb); have BX2 := Aside0.mk (blk_below BX.out hb); have HB := Aside0.mk (below_step HB2.out hb); have GR : Aside0 (w.heap.size ≤ gr ∧ gb ≠ gr) := ⟨by rw [hgr]; exact HB2.out.size, by rw [hgr]; exact Nat.ne_of_lt (blk_lt BB2.out)⟩; have hb1 := (blk_cell BB.out 1).trans rfl; have hr0 := (blk_cell BR.out 0).trans rfl; have hr1 := (blk_cell BR.out 1).trans rfl; have hq0 := blk_frozen BR.out 0; have hq1 := blk_frozen BR.out 1; clear hbox hb hgr BB2 BX HB2))
  obtain ⟨rfl, rfl, rfl⟩ := HG.out
  refine bodyPost_ret (results_ct rfl _ _ gr 25 #[.slice none 0 0, .slice none 0 0] (0, 0) _ rfl (blk_put (cs := #[.slice none 0 0, .slice none 0 0]) (blk_put (cs := #[.slice none 0 0, .slice none 0 0]) BR.out 0 _ rfl) 1 _ rfl) Try.underlying25 rfl (by kernel_rfl)) rfl ⟨_, _, rfl, Kd.R_nil _ _ _ _ _, Kd.R_nil _ _ _ _ _, below_set (below_set HB.out GR.out.1) GR.out.1⟩
 have d1 : decide (16384 ≤ (l0_1.length : Int)) = false := decide_eq_false (by omega)
 have d1n : decide (16384 ≤ l0_1.length) = false := decide_eq_false hn
 have HL1 : Aside0 (l0_1.length < 16384) := ⟨by omega⟩
 have HR2 : Aside0 _ := ⟨by have := HR.out; rw [if_neg hn] at this; exact this⟩
 clear hn HR
 go_enter Try.func37, Try.ntmps37
 go_upto_region 3 with (first | ((with_reducible refine gate_dst (N := 2) rfl ?_); refine box_event ?hg (N := 2) ?hd (cs := #[.slice A0_0 l0_0.length c0_0, .slice A0_1 l0_1.length c0_1]) (t := 25) ?hr ?_; (case hd => rfl); (case hg => rfl); (case hr => first | (go_simp; done) | (go_simp; rfl)); intro gb hgb w1 hbox hb; have BB := Aside0.mk hbox; have HB := Aside0.mk hb; have GB : Aside0 (w.heap.size ≤ gb) := ⟨by rw [hgb]; exact Nat.le_refl _⟩; clear hbox hb hgb) | ((with_reducible refine gate_dst (N := 3) rfl ?_); refine box_event ?hg (N := 3) ?hd (cs := #[.int .i64 x.f0, .int .u8 x.f1, .int .u8 x.f2, .int .i64 x.f3]) (t := 55) ?hr ?_; (case hd => rfl); (case hg => rfl); (case hr => first | (go_simp; done) | (go_simp; rfl)); intro gx hgx w2 hbox hb; have BX := Aside0.mk hbox; have BB2 := Aside0.mk (blk_below BB.out hb); have HB2 := Aside0.mk (below_step HB.out hb); have GX : Aside0 (w.heap.size ≤ gx) := ⟨by rw [hgx]; exact HB.out.size⟩; clear hbox hb hgx BB HB) | ((with_reducible refine gate_dst (N := 4) rfl ?_); refine box_event ?hg (N := 4) ?hd (cs := #[.slice none 0 0, .slice none 0 0]) (t := 25) ?hr ?_; (case hd => rfl); (case hg => rfl); (case hr => first | (go_simp; done) | (go_simp; rfl)); intro gr hgr w3 hbox hb; have BR := Aside0.mk hbox; have BB := Aside0.mk (blk_below BB2.out hb); have BX2 := Aside0.mk (blk_below BX.out hb); have HB := Aside0.mk (below_step HB2.out hb); have GR : Aside0 (w.heap.size ≤ gr ∧ gb ≠ gr) := ⟨by rw [hgr]; exact HB2.out.size, by rw [hgr]; exact Nat.ne_of_lt (blk_lt BB2.out)⟩; have hb1 := (blk_cell BB.out 1).trans rfl; have hr0 := (blk_cell BR.out 0).trans rfl; have hr1 := (blk_cell BR.out 1).trans rfl; have hq0 := blk_frozen BR.out 0; have hq1 := blk_frozen BR.out 1; clear hbox hb hgr BB2 BX HB2))
 clear hb1 hr0 hr1 hq0 hq1
 have BX := BX2
 clear BX2 d1 d1n
 go_cut [6] (fun v6 wc => ∃ (g6 : Nat) (v : Value), v6 = .pointer (some ⟨g6, 0, none⟩) ∧ Aside0 (w.heap.size ≤ g6 ∧ gb ≠ g6 ∧ gr ≠ g6) ∧ Aside0 (wc.heap[g6]? = some (.cells #[.slice none 0 0, v] 25 (0, 0))) ∧ Aside0 (Kd.R k55 55 wc w.heap.size (fun k => k ≠ gx) v (l0_1 ++ [x])) ∧ Aside0 (wc.heap[gb]? = some (.cells #[.slice A0_0 l0_0.length c0_0, .slice A0_1 l0_1.length c0_1] 25 (0, 0))) ∧ Aside0 (wc.heap[gx]? = some (.cells #[.int .i64 x.f0, .int .u8 x.f1, .int .u8 x.f2, .int .i64 x.f3] 55 (0, 0))) ∧ Aside0 (wc.heap[gr]? = some (.cells #[.slice none 0 0, .slice none 0 0] 25 (0, 0))) ∧ Aside0 (Below w.heap.size w wc))
 case first =>
  have nB := Aside0.mk (blk_drew BB.out)
  have nX := Aside0.mk (blk_drew BX.out)
  have nR := Aside0.mk (blk_drew BR.out)
  have nH := Aside0.mk (below_drew1 HB.out)
  clear BB BX BR HB
  have BB := nB
  have BX := nX
  have BR := nR
  have HB := nH
  clear nB nX nR nH
  refine start_ (n := 10) (S := fun w' => w'.cell? ⟨gb, 1, none⟩ = some (.slice A0_1 l0_1.length c0_1) ∧ w'.cell? ⟨gx, 0, none⟩ = some (.int .i64 x.f0) ∧ w'.cell? ⟨gx, 1, none⟩ = some (.int .u8 x.f1) ∧ w'.cell? ⟨gx, 2, none⟩ = some (.int .u8 x.f2) ∧ w'.cell? ⟨gx, 3, none⟩ = some (.int .i64 x.f3)) (ds := [9]) (zB 0 10) (by kernel_rfl) rfl rfl ⟨((blk_cell BB.out 1).trans rfl), ((blk_cell BX.out 0).trans rfl), ((blk_cell BX.out 1).trans rfl), ((blk_cell BX.out 2).trans rfl), ((blk_cell BX.out 3).trans rfl)⟩ (fun hHeld => ?_)
  refine with_tabW ladingref14_with.tab3 ladingref14_with.bits3 (fun HT_ HW_ => ?_)
  refine pure_ (i := 1) (N := some 18) (v := ?_) (a' := ?_) #[false, true, false, false, false, false, false, false, false, false] rfl rfl (any_of HT_.out (by kernel_rfl)) (fun _ _ _ h => h) (Or.inl ⟨by rfl, ?_⟩) ?_ ?_
  rotate_left
  ·intro w'
   go_simp
   with_reducible rfl
  rotate_left
  ·simp only [Act.put, zt0, zt1, zt2, i64_w, i32_w]
   rfl
  refine take_ (i := 2) (N := some 19) (v := ?_) (a' := ?_) #[false, true, true, false, false, false, false, false, false, false] rfl rfl (take_ofW HT_.out HW_.out (by kernel_rfl)) (fun _ _ _ h => h) (Or.inl ⟨by rfl, ?_⟩) hHeld ?_ ?_
  rotate_left
  ·rintro w' ⟨s0, s1, s2, s3, s4⟩
   go_simp
   with_reducible rfl
  rotate_left
  ·simp only [Act.put, zt0, zt1, zt2, i64_w, i32_w]
   rfl
  refine take_ (i := 4) (N := some 21) (v := ?_) (a' := ?_) #[false, true, true, false, true, false, false, false, false, false] rfl rfl (take_ofW HT_.out HW_.out (by kernel_rfl)) (fun _ _ _ h => h) (Or.inl ⟨by rfl, ?_⟩) hHeld ?_ ?_
  rotate_left
  ·rintro w' ⟨s0, s1, s2, s3, s4⟩
   go_simp
   with_reducible rfl
  rotate_left
  ·simp only [Act.put, zt0, zt1, zt2, i64_w, i32_w]
   rfl
  refine join_ (σ := Value × Value × Value × Option Addr × Nat × Nat) 1 (zB 9 1) (fun s => [(17, s.1), (20, s.2.1), (22, s.2.2.1), (23, .slice s.2.2.2.1 (l0_1.length + 1) s.2.2.2.2.1), (24, .agg #[.slice none 0 0, (.slice s.2.2.2.1 (l0_1.length + 1) s.2.2.2.2.1)]), (6, .pointer (some ⟨s.2.2.2.2.2, 0, none⟩))]) (fun s w' => (w'.cell? ⟨gb, 1, none⟩ = some (.slice A0_1 l0_1.length c0_1) ∧ w'.cell? ⟨gx, 0, none⟩ = some (.int .i64 x.f0) ∧ w'.cell? ⟨gx, 1, none⟩ = some (.int .u8 x.f1) ∧ w'.cell? ⟨gx, 2, none⟩ = some (.int .u8 x.f2) ∧ w'.cell? ⟨gx, 3, none⟩ = some (.int .i64 x.f3)) ∧ (w'.heap[gb]? = some (.cells #[.slice A0_0 l0_0.length c0_0, .slice A0_1 l0_1.length c0_1] 25 (0, 0))) ∧ (w'.heap[gx]? = some (.cells #[.int .i64 x.f0, .int .u8 x.f1, .int .u8 x.f2, .int .i64 x.f3] 55 (0, 0))) ∧ (w'.heap[gr]? = some (.cells #[.slice none 0 0, .slice none 0 0] 25 (0, 0))) ∧ (Below w.heap.size w w') ∧ (Kd.R k55 55 w' w.heap.size (fun k => k ≠ gx) (.slice s.2.2.2.1 (l0_1.length + 1) s.2.2.2.2.1) (l0_1 ++ [x])) ∧ (w'.heap[s.2.2.2.2.2]? = some (.cells #[.slice none 0 0, .slice none 0 0] 25 (0, 0)) ∧ w.heap.size ≤ s.2.2.2.2.2 ∧ gb ≠ s.2.2.2.2.2 ∧ gr ≠ s.2.2.2.2.2)) ?_ ?_
  rotate_left
  ·intro hJ0_3_5_6_8
   refine join_ (σ := Value × Value × Value × Option Addr × Nat) 2 (zB 8 2) (fun s => [(17, s.1), (20, s.2.1), (22, s.2.2.1), (23, .slice s.2.2.2.1 (l0_1.length + 1) s.2.2.2.2), (24, .agg #[.slice none 0 0, (.slice s.2.2.2.1 (l0_1.length + 1) s.2.2.2.2)])]) (fun s w' => (w'.cell? ⟨gb, 1, none⟩ = some (.slice A0_1 l0_1.length c0_1) ∧ w'.cell? ⟨gx, 0, none⟩ = some (.int .i64 x.f0) ∧ w'.cell? ⟨gx, 1, none⟩ = some (.int .u8 x.f1) ∧ w'.cell? ⟨gx, 2, none⟩ = some (.int .u8 x.f2) ∧ w'.cell? ⟨gx, 3, none⟩ = some (.int .i64 x.f3)) ∧ (w'.heap[gb]? = some (.cells #[.slice A0_0 l0_0.length c0_0, .slice A0_1 l0_1.length c0_1] 25 (0, 0))) ∧ (w'.heap[gx]? = some (.cells #[.int .i64 x.f0, .int .u8 x.f1, .int .u8 x.f2, .int .i64 x.f3] 55 (0, 0))) ∧ (w'.heap[gr]? = some (.cells #[.slice none 0 0, .slice none 0 0] 25 (0, 0))) ∧ (Below w.heap.size w w') ∧ (Kd.R k55 55 w' w.heap.size (fun k => k ≠ gx) (.slice s.2.2.2.1 (l0_1.length + 1) s.2.2.2.2) (l0_1 ++ [x]))) ?_ ?_
   rotate_left
   ·intro hJ0_3_5_6
    refine join_ (σ := Value × Value × Value × Nat) 3 #[true, true, true, true, true, true, false, false, true, false] (fun s => [(17, s.1), (20, s.2.1), (22, s.2.2.1), (6, .pointer (some ⟨s.2.2.2, 0, none⟩))]) (fun s w' => (w'.cell? ⟨gb, 1, none⟩ = some (.slice A0_1 l0_1.length c0_1) ∧ w'.cell? ⟨gx, 0, none⟩ = some (.int .i64 x.f0) ∧ w'.cell? ⟨gx, 1, none⟩ = some (.int .u8 x.f1) ∧ w'.cell? ⟨gx, 2, none⟩ = some (.int .u8 x.f2) ∧ w'.cell? ⟨gx, 3, none⟩ = some (.int .i64 x.f3)) ∧ (w'.heap[gb]? = some (.cells #[.slice A0_0 l0_0.length c0_0, .slice A0_1 l0_1.length c0_1] 25 (0, 0))) ∧ (w'.heap[gx]? = some (.cells #[.int .i64 x.f0, .int .u8 x.f1, .int .u8 x.f2, .int .i64 x.f3] 55 (0, 0))) ∧ (w'.heap[gr]? = some (.cells #[.slice none 0 0, .slice none 0 0] 25 (0, 0))) ∧ (Below w.heap.size w w') ∧ (Kd.R k55 55 w' w.heap.size (fun k => k ≠ gx ∧ some k ≠ s.2.2.1.ownBlock) s.2.1 l0_1) ∧ (Kd.R k55 55 w' w.heap.size (fun _ => True) s.2.2.1 [x]) ∧ (w'.heap[s.2.2.2]? = some (.cells #[.slice none 0 0, .slice none 0 0] 25 (0, 0)) ∧ w.heap.size ≤ s.2.2.2 ∧ gb ≠ s.2.2.2 ∧ gr ≠ s.2.2.2)) ?_ ?_
    rotate_left
    ·intro hJ0_3_5_8
     refine join_ (σ := Value × Value × Value) 4 (zB 6 4) (fun s => [(17, s.1), (20, s.2.1), (22, s.2.2)]) (fun s w' => (w'.cell? ⟨gb, 1, none⟩ = some (.slice A0_1 l0_1.length c0_1) ∧ w'.cell? ⟨gx, 0, none⟩ = some (.int .i64 x.f0) ∧ w'.cell? ⟨gx, 1, none⟩ = some (.int .u8 x.f1) ∧ w'.cell? ⟨gx, 2, none⟩ = some (.int .u8 x.f2) ∧ w'.cell? ⟨gx, 3, none⟩ = some (.int .i64 x.f3)) ∧ (w'.heap[gb]? = some (.cells #[.slice A0_0 l0_0.length c0_0, .slice A0_1 l0_1.length c0_1] 25 (0, 0))) ∧ (w'.heap[gx]? = some (.cells #[.int .i64 x.f0, .int .u8 x.f1, .int .u8 x.f2, .int .i64 x.f3] 55 (0, 0))) ∧ (w'.heap[gr]? = some (.cells #[.slice none 0 0, .slice none 0 0] 25 (0, 0))) ∧ (Below w.heap.size w w') ∧ (Kd.R k55 55 w' w.heap.size (fun k => k ≠ gx ∧ some k ≠ s.2.2.ownBlock) s.2.1 l0_1) ∧ (Kd.R k55 55 w' w.heap.size (fun _ => True) s.2.2 [x])) ?_ ?_
     rotate_left
     ·intro hJ0_3_5
      refine join_ (σ := Value × Value × Nat) 4 #[true, true, true, true, true, false, false, false, true, false] (fun s => [(17, s.1), (20, s.2.1), (6, .pointer (some ⟨s.2.2, 0, none⟩))]) (fun s w' => (w'.cell? ⟨gb, 1, none⟩ = some (.slice A0_1 l0_1.length c0_1) ∧ w'.cell? ⟨gx, 0, none⟩ = some (.int .i64 x.f0) ∧ w'.cell? ⟨gx, 1, none⟩ = some (.int .u8 x.f1) ∧ w'.cell? ⟨gx, 2, none⟩ = some (.int .u8 x.f2) ∧ w'.cell? ⟨gx, 3, none⟩ = some (.int .i64 x.f3)) ∧ (w'.heap[gb]? = some (.cells #[.slice A0_0 l0_0.length c0_0, .slice A0_1 l0_1.length c0_1] 25 (0, 0))) ∧ (w'.heap[gx]? = some (.cells #[.int .i64 x.f0, .int .u8 x.f1, .int .u8 x.f2, .int .i64 x.f3] 55 (0, 0))) ∧ (w'.heap[gr]? = some (.cells #[.slice none 0 0, .slice none 0 0] 25 (0, 0))) ∧ (Below w.heap.size w w') ∧ (Kd.R k55 55 w' w.heap.size (fun k => k ≠ gx) s.2.1 l0_1) ∧ (w'.heap[s.2.2]? = some (.cells #[.slice none 0 0, .slice none 0 0] 25 (0, 0)) ∧ w.heap.size ≤ s.2.2 ∧ gb ≠ s.2.2 ∧ gr ≠ s.2.2)) ?_ ?_
      rotate_left
      ·intro hJ0_3_8
       refine join_ (σ := Value × Value × Nat) 4 #[true, true, true, false, true, true, false, false, true, false] (fun s => [(17, s.1), (22, s.2.1), (6, .pointer (some ⟨s.2.2, 0, none⟩))]) (fun s w' => (w'.cell? ⟨gb, 1, none⟩ = some (.slice A0_1 l0_1.length c0_1) ∧ w'.cell? ⟨gx, 0, none⟩ = some (.int .i64 x.f0) ∧ w'.cell? ⟨gx, 1, none⟩ = some (.int .u8 x.f1) ∧ w'.cell? ⟨gx, 2, none⟩ = some (.int .u8 x.f2) ∧ w'.cell? ⟨gx, 3, none⟩ = some (.int .i64 x.f3)) ∧ (w'.heap[gb]? = some (.cells #[.slice A0_0 l0_0.length c0_0, .slice A0_1 l0_1.length c0_1] 25 (0, 0))) ∧ (w'.heap[gx]? = some (.cells #[.int .i64 x.f0, .int .u8 x.f1, .int .u8 x.f2, .int .i64 x.f3] 55 (0, 0))) ∧ (w'.heap[gr]? = some (.cells #[.slice none 0 0, .slice none 0 0] 25 (0, 0))) ∧ (Below w.heap.size w w') ∧ (Kd.R k55 55 w' w.heap.size (fun k => k ≠ gx ∧ some k ≠ s.2.1.ownBlock) s.1 ([] : List S55)) ∧ (Kd.R k55 55 w' w.heap.size (fun _ => True) s.2.1 [x]) ∧ (w'.heap[s.2.2]? = some (.cells #[.slice none 0 0, .slice none 0 0] 25 (0, 0)) ∧ w.heap.size ≤ s.2.2 ∧ gb ≠ s.2.2 ∧ gr ≠ s.2.2)) ?_ ?_
       rotate_left
       ·intro hJ0_5_8
        refine join_ (σ := Value × Value) 5 (zB 5 5) (fun s => [(17, s.1), (20, s.2)]) (fun s w' => (w'.cell? ⟨gb, 1, none⟩ = some (.slice A0_1 l0_1.length c0_1) ∧ w'.cell? ⟨gx, 0, none⟩ = some (.int .i64 x.f0) ∧ w'.cell? ⟨gx, 1, none⟩ = some (.int .u8 x.f1) ∧ w'.cell? ⟨gx, 2, none⟩ = some (.int .u8 x.f2) ∧ w'.cell? ⟨gx, 3, none⟩ = some (.int .i64 x.f3)) ∧ (w'.heap[gb]? = some (.cells #[.slice A0_0 l0_0.length c0_0, .slice A0_1 l0_1.length c0_1] 25 (0, 0))) ∧ (w'.heap[gx]? = some (.cells #[.int .i64 x.f0, .int .u8 x.f1, .int .u8 x.f2, .int .i64 x.f3] 55 (0, 0))) ∧ (w'.heap[gr]? = some (.cells #[.slice none 0 0, .slice none 0 0] 25 (0, 0))) ∧ (Below w.heap.size w w') ∧ (Kd.R k55 55 w' w.heap.size (fun k => k ≠ gx) s.2 l0_1)) ?_ ?_
        rotate_left
        ·intro hJ0_3
         refine join_ (σ := Value × Value) 5 #[true, true, true, false, true, true, false, false, false, false] (fun s => [(17, s.1), (22, s.2)]) (fun s w' => (w'.cell? ⟨gb, 1, none⟩ = some (.slice A0_1 l0_1.length c0_1) ∧ w'.cell? ⟨gx, 0, none⟩ = some (.int .i64 x.f0) ∧ w'.cell? ⟨gx, 1, none⟩ = some (.int .u8 x.f1) ∧ w'.cell? ⟨gx, 2, none⟩ = some (.int .u8 x.f2) ∧ w'.cell? ⟨gx, 3, none⟩ = some (.int .i64 x.f3)) ∧ (w'.heap[gb]? = some (.cells #[.slice A0_0 l0_0.length c0_0, .slice A0_1 l0_1.length c0_1] 25 (0, 0))) ∧ (w'.heap[gx]? = some (.cells #[.int .i64 x.f0, .int .u8 x.f1, .int .u8 x.f2, .int .i64 x.f3] 55 (0, 0))) ∧ (w'.heap[gr]? = some (.cells #[.slice none 0 0, .slice none 0 0] 25 (0, 0))) ∧ (Below w.heap.size w w') ∧ (Kd.R k55 55 w' w.heap.size (fun k => k ≠ gx ∧ some k ≠ s.2.ownBlock) s.1 ([] : List S55)) ∧ (Kd.R k55 55 w' w.heap.size (fun _ => True) s.2 [x])) ?_ ?_
         rotate_left
         ·intro hJ0_5
          refine join_ (σ := Value × Nat) 5 #[true, true, true, false, true, false, false, false, true, false] (fun s => [(17, s.1), (6, .pointer (some ⟨s.2, 0, none⟩))]) (fun s w' => (w'.cell? ⟨gb, 1, none⟩ = some (.slice A0_1 l0_1.length c0_1) ∧ w'.cell? ⟨gx, 0, none⟩ = some (.int .i64 x.f0) ∧ w'.cell? ⟨gx, 1, none⟩ = some (.int .u8 x.f1) ∧ w'.cell? ⟨gx, 2, none⟩ = some (.int .u8 x.f2) ∧ w'.cell? ⟨gx, 3, none⟩ = some (.int .i64 x.f3)) ∧ (w'.heap[gb]? = some (.cells #[.slice A0_0 l0_0.length c0_0, .slice A0_1 l0_1.length c0_1] 25 (0, 0))) ∧ (w'.heap[gx]? = some (.cells #[.int .i64 x.f0, .int .u8 x.f1, .int .u8 x.f2, .int .i64 x.f3] 55 (0, 0))) ∧ (w'.heap[gr]? = some (.cells #[.slice none 0 0, .slice none 0 0] 25 (0, 0))) ∧ (Below w.heap.size w w') ∧ (Kd.R k55 55 w' w.heap.size (fun k => k ≠ gx) s.1 ([] : List S55)) ∧ (w'.heap[s.2]? = some (.cells #[.slice none 0 0, .slice none 0 0] 25 (0, 0)) ∧ w.heap.size ≤ s.2 ∧ gb ≠ s.2 ∧ gr ≠ s.2)) ?_ ?_
          rotate_left
          ·intro hJ0_8
           refine join_ (σ := Value × Nat) 5 #[false, true, true, false, true, true, false, false, true, false] (fun s => [(22, s.1), (6, .pointer (some ⟨s.2, 0, none⟩))]) (fun s w' => (w'.cell? ⟨gb, 1, none⟩ = some (.slice A0_1 l0_1.length c0_1) ∧ w'.cell? ⟨gx, 0, none⟩ = some (.int .i64 x.f0) ∧ w'.cell? ⟨gx, 1, none⟩ = some (.int .u8 x.f1) ∧ w'.cell? ⟨gx, 2, none⟩ = some (.int .u8 x.f2) ∧ w'.cell? ⟨gx, 3, none⟩ = some (.int .i64 x.f3)) ∧ (w'.heap[gb]? = some (.cells #[.slice A0_0 l0_0.length c0_0, .slice A0_1 l0_1.length c0_1] 25 (0, 0))) ∧ (w'.heap[gx]? = some (.cells #[.int .i64 x.f0, .int .u8 x.f1, .int .u8 x.f2, .int .i64 x.f3] 55 (0, 0))) ∧ (w'.heap[gr]? = some (.cells #[.slice none 0 0, .slice none 0 0] 25 (0, 0))) ∧ (Below w.heap.size w w') ∧ (Kd.R k55 55 w' w.heap.size (fun _ => True) s.1 [x]) ∧ (w'.heap[s.2]? = some (.cells #[.slice none 0 0, .slice none 0 0] 25 (0, 0)) ∧ w.heap.size ≤ s.2 ∧ gb ≠ s.2 ∧ gr ≠ s.2)) ?_ ?_
           rotate_left
           ·intro hJ5_8
            refine join_ (σ := Value) 6 #[true, true, true, false, true, false, false, false, false, false] (fun s => [(17, s)]) (fun s w' => (w'.cell? ⟨gb, 1, none⟩ = some (.slice A0_1 l0_1.length c0_1) ∧ w'.cell? ⟨gx, 0, none⟩ = some (.int .i64 x.f0) ∧ w'.cell? ⟨gx, 1, none⟩ = some (.int .u8 x.f1) ∧ w'.cell? ⟨gx, 2, none⟩ = some (.int .u8 x.f2) ∧ w'.cell? ⟨gx, 3, none⟩ = some (.int .i64 x.f3)) ∧ (w'.heap[gb]? = some (.cells #[.slice A0_0 l0_0.length c0_0, .slice A0_1 l0_1.length c0_1] 25 (0, 0))) ∧ (w'.heap[gx]? = some (.cells #[.int .i64 x.f0, .int .u8 x.f1, .int .u8 x.f2, .int .i64 x.f3] 55 (0, 0))) ∧ (w'.heap[gr]? = some (.cells #[.slice none 0 0, .slice none 0 0] 25 (0, 0))) ∧ (Below w.heap.size w w') ∧ (Kd.R k55 55 w' w.heap.size (fun k => k ≠ gx) s ([] : List S55))) ?_ ?_
            rotate_left
            ·intro hJ0
             refine join_ (σ := Value) 6 #[false, true, true, false, true, true, false, false, false, false] (fun s => [(22, s)]) (fun s w' => (w'.cell? ⟨gb, 1, none⟩ = some (.slice A0_1 l0_1.length c0_1) ∧ w'.cell? ⟨gx, 0, none⟩ = some (.int .i64 x.f0) ∧ w'.cell? ⟨gx, 1, none⟩ = some (.int .u8 x.f1) ∧ w'.cell? ⟨gx, 2, none⟩ = some (.int .u8 x.f2) ∧ w'.cell? ⟨gx, 3, none⟩ = some (.int .i64 x.f3)) ∧ (w'.heap[gb]? = some (.cells #[.slice A0_0 l0_0.length c0_0, .slice A0_1 l0_1.length c0_1] 25 (0, 0))) ∧ (w'.heap[gx]? = some (.cells #[.int .i64 x.f0, .int .u8 x.f1, .int .u8 x.f2, .int .i64 x.f3] 55 (0, 0))) ∧ (w'.heap[gr]? = some (.cells #[.slice none 0 0, .slice none 0 0] 25 (0, 0))) ∧ (Below w.heap.size w w') ∧ (Kd.R k55 55 w' w.heap.size (fun _ => True) s [x])) ?_ ?_
             rotate_left
             ·intro hJ5
              refine join_ (σ := Nat) 6 #[false, true, true, false, true, false, false, false, true, false] (fun s => [(6, .pointer (some ⟨s, 0, none⟩))]) (fun s w' => (w'.cell? ⟨gb, 1, none⟩ = some (.slice A0_1 l0_1.length c0_1) ∧ w'.cell? ⟨gx, 0, none⟩ = some (.int .i64 x.f0) ∧ w'.cell? ⟨gx, 1, none⟩ = some (.int .u8 x.f1) ∧ w'.cell? ⟨gx, 2, none⟩ = some (.int .u8 x.f2) ∧ w'.cell? ⟨gx, 3, none⟩ = some (.int .i64 x.f3)) ∧ (w'.heap[gb]? = some (.cells #[.slice A0_0 l0_0.length c0_0, .slice A0_1 l0_1.length c0_1] 25 (0, 0))) ∧ (w'.heap[gx]? = some (.cells #[.int .i64 x.f0, .int .u8 x.f1, .int .u8 x.f2, .int .i64 x.f3] 55 (0, 0))) ∧ (w'.heap[gr]? = some (.cells #[.slice none 0 0, .slice none 0 0] 25 (0, 0))) ∧ (Below w.heap.size w w') ∧ (w'.heap[s]? = some (.cells #[.slice none 0 0, .slice none 0 0] 25 (0, 0)) ∧ w.heap.size ≤ s ∧ gb ≠ s ∧ gr ≠ s)) ?_ ?_
              rotate_left
              ·intro hJ8
               refine three_ (i := 0) (j := 5) (k := 8) (Ni := some 17) (Nj := some 22) (Nk := some 6) #[true, true, true, false, true, false, false, false, false, false] #[false, true, true, false, true, true, false, false, false, false] #[false, true, true, false, true, false, false, false, true, false] rfl rfl rfl rfl rfl rfl (three_of HT_.out (by kernel_rfl)) (by decide) (by decide) (by decide) (fun K hK => ?_) (fun K hK => ?_) (fun K hK => ?_)
               ·skip
                refine Kd.R_lit_step k55 _ 55 ?hg (N := 17) ?hd (xs := ([] : List (S55))) (inner := []) (ok := fun _ => True) (okp := fun _ => True) ?hr ?hp (fun _ hk => hk) trivial (Below.refl _ _) (Nat.le_refl _) (by simp) ?_; (case hd => rfl); (case hg => rfl); (case hr => first | (go_simp; done) | (go_simp; rfl)); (case hp => exact (Reps.none _ _))
                intro vA_ w7 ho hb hg_ hnew_
                clear hg_ hnew_
                have n_BB : Aside0 (w7.heap[gb]? = some (.cells #[.slice A0_0 l0_0.length c0_0, .slice A0_1 l0_1.length c0_1] 25 (0, 0))) := ⟨blk_below BB.out hb⟩
                have n_BX : Aside0 (w7.heap[gx]? = some (.cells #[.int .i64 x.f0, .int .u8 x.f1, .int .u8 x.f2, .int .i64 x.f3] 55 (0, 0))) := ⟨blk_below BX.out hb⟩
                have n_BR : Aside0 (w7.heap[gr]? = some (.cells #[.slice none 0 0, .slice none 0 0] 25 (0, 0))) := ⟨blk_below BR.out hb⟩
                have n_HB : Aside0 (Below w.heap.size w w7) := ⟨below_step HB.out hb⟩
                have n_HA : Aside0 (Kd.R k55 55 w7 w.heap.size (fun k => k ≠ gx) vA_ ([] : List S55)) := ⟨Kd.R_lower (Kd.R_mono (Kd.R_bound ho) (fun k hk => fun he => by have := hk.2.1; have := blk_lt BX.out; omega)) HB.out.size⟩
                clear BB BX BR HB
                have BB := n_BB
                have BX := n_BX
                have BR := n_BR
                have HB := n_HB
                have HA := n_HA
                clear n_BB n_BX n_BR n_HB n_HA
                refine hK.out _ _ ⟨((blk_cell BB.out 1).trans rfl), ((blk_cell BX.out 0).trans rfl), ((blk_cell BX.out 1).trans rfl), ((blk_cell BX.out 2).trans rfl), ((blk_cell BX.out 3).trans rfl)⟩ (fun hHeld => ?_)
                clear hK K
                refine norm_ (a' := ?_) ?_ ?_
                rotate_left
                ·show Act.put _ (some 17) _ = _
                 simp only [Act.put, zt0, zt1, zt2, i64_w, i32_w]
                 rfl
                exact norm_ (by first | (simp only [putAll, Act.put, zt0, zt1, zt2]; done) | (simp only [putAll, Act.put, zt0, zt1, zt2]; rfl)) (hJ0 vA_ _ ⟨hHeld, BB.out, BX.out, BR.out, HB.out, HA.out⟩)
               ·skip
                refine Kd.R_lit_step k55 _ 55 ?hg (N := 22) ?hd (xs := [x]) (inner := [.int .i64 x.f0, .int .u8 x.f1, .int .u8 x.f2, .int .i64 x.f3]) (ok := fun _ => True) (okp := fun _ => True) ?hr ?hp (fun _ hk => hk) trivial (Below.refl _ _) (Nat.le_refl _) (by simp) ?_; (case hd => rfl); (case hg => rfl); (case hr => first | (go_simp; done) | (go_simp; rfl)); (case hp => exact Reps.snoc (Reps.none _ _) (k55_mkM _ _ _ x) rfl)
                intro vX_ w7 ho hb hg_ hnew_
                obtain ⟨bX_, hbX_, hleX_⟩ := hnew_
                clear hg_
                have n_BB : Aside0 (w7.heap[gb]? = some (.cells #[.slice A0_0 l0_0.length c0_0, .slice A0_1 l0_1.length c0_1] 25 (0, 0))) := ⟨blk_below BB.out hb⟩
                have n_BX : Aside0 (w7.heap[gx]? = some (.cells #[.int .i64 x.f0, .int .u8 x.f1, .int .u8 x.f2, .int .i64 x.f3] 55 (0, 0))) := ⟨blk_below BX.out hb⟩
                have n_BR : Aside0 (w7.heap[gr]? = some (.cells #[.slice none 0 0, .slice none 0 0] 25 (0, 0))) := ⟨blk_below BR.out hb⟩
                have n_HB : Aside0 (Below w.heap.size w w7) := ⟨below_step HB.out hb⟩
                have n_HL : Aside0 (Kd.R k55 55 w7 w.heap.size (fun _ => True) vX_ [x]) := ⟨Kd.R_lower ho HB.out.size⟩
                clear BB BX BR HB
                have BB := n_BB
                have BX := n_BX
                have BR := n_BR
                have HB := n_HB
                have HL := n_HL
                clear n_BB n_BX n_BR n_HB n_HL
                refine hK.out _ _ ⟨((blk_cell BB.out 1).trans rfl), ((blk_cell BX.out 0).trans rfl), ((blk_cell BX.out 1).trans rfl), ((blk_cell BX.out 2).trans rfl), ((blk_cell BX.out 3).trans rfl)⟩ (fun hHeld => ?_)
                clear hK K
                refine norm_ (a' := ?_) ?_ ?_
                rotate_left
                ·show Act.put _ (some 22) _ = _
                 simp only [Act.put, zt0, zt1, zt2, i64_w, i32_w]
                 rfl
                exact norm_ (by first | (simp only [putAll, Act.put, zt0, zt1, zt2]; done) | (simp only [putAll, Act.put, zt0, zt1, zt2]; rfl)) (hJ5 vX_ _ ⟨hHeld, BB.out, BX.out, BR.out, HB.out, HL.out⟩)
               ·skip
                refine box_step ?hg (N := 6) ?hd (cs := #[.slice none 0 0, .slice none 0 0]) (t := 25) ?hr ?_; (case hd => rfl); (case hg => rfl); (case hr => first | (go_simp; done) | (go_simp; rfl))
                intro gq hgq w7 hbox hb
                have n_BB : Aside0 (w7.heap[gb]? = some (.cells #[.slice A0_0 l0_0.length c0_0, .slice A0_1 l0_1.length c0_1] 25 (0, 0))) := ⟨blk_below BB.out hb⟩
                have n_BX : Aside0 (w7.heap[gx]? = some (.cells #[.int .i64 x.f0, .int .u8 x.f1, .int .u8 x.f2, .int .i64 x.f3] 55 (0, 0))) := ⟨blk_below BX.out hb⟩
                have n_BR : Aside0 (w7.heap[gr]? = some (.cells #[.slice none 0 0, .slice none 0 0] 25 (0, 0))) := ⟨blk_below BR.out hb⟩
                have n_HB : Aside0 (Below w.heap.size w w7) := ⟨below_step HB.out hb⟩
                have n_BG : Aside0 (w7.heap[gq]? = some (.cells #[.slice none 0 0, .slice none 0 0] 25 (0, 0)) ∧ w.heap.size ≤ gq ∧ gb ≠ gq ∧ gr ≠ gq) := ⟨⟨hbox, by rw [hgq]; exact HB.out.size, by rw [hgq]; exact Nat.ne_of_lt (blk_lt BB.out), by rw [hgq]; exact Nat.ne_of_lt (blk_lt BR.out)⟩⟩
                clear BB BX BR HB
                have BB := n_BB
                have BX := n_BX
                have BR := n_BR
                have HB := n_HB
                have BG := n_BG
                clear n_BB n_BX n_BR n_HB n_BG
                refine hK.out _ _ ⟨((blk_cell BB.out 1).trans rfl), ((blk_cell BX.out 0).trans rfl), ((blk_cell BX.out 1).trans rfl), ((blk_cell BX.out 2).trans rfl), ((blk_cell BX.out 3).trans rfl)⟩ (fun hHeld => ?_)
                clear hK K
                refine norm_ (a' := ?_) ?_ ?_
                rotate_left
                ·show Act.put _ (some 6) _ = _
                 simp only [Act.put, zt0, zt1, zt2, i64_w, i32_w]
                 rfl
                exact norm_ (by first | (simp only [putAll, Act.put, zt0, zt1, zt2]; done) | (simp only [putAll, Act.put, zt0, zt1, zt2]; rfl)) (hJ8 gq _ ⟨hHeld, BB.out, BX.out, BR.out, HB.out, BG.out⟩)
              ·skip
               rintro g6 w' ⟨hHeld, fBB, fBX, fBR, fHB, fBG⟩
               have BB := Aside0.mk fBB
               have BX := Aside0.mk fBX
               have BR := Aside0.mk fBR
               have HB := Aside0.mk fHB
               have BG := Aside0.mk fBG
               clear fBB fBX fBR fHB fBG
               refine norm_ (a' := ?_) ?_ ?_
               rotate_left
               ·simp only [putAll, Act.put, zt0, zt1, zt2]
                rfl
               refine two_ (i := 0) (j := 5) (Ni := some 17) (Nj := some 22) #[true, true, true, false, true, false, false, false, true, false] #[false, true, true, false, true, true, false, false, true, false] rfl rfl rfl rfl (two_of HT_.out (by kernel_rfl)) (by decide) (by decide) (fun K hK => ?_) (fun K hK => ?_)
               ·skip
                refine Kd.R_lit_step k55 _ 55 ?hg (N := 17) ?hd (xs := ([] : List (S55))) (inner := []) (ok := fun _ => True) (okp := fun _ => True) ?hr ?hp (fun _ hk => hk) trivial (Below.refl _ _) (Nat.le_refl _) (by simp) ?_; (case hd => rfl); (case hg => rfl); (case hr => first | (go_simp; done) | (go_simp; rfl)); (case hp => exact (Reps.none _ _))
                intro vA_ w7 ho hb hg_ hnew_
                clear hg_ hnew_
                have n_BB : Aside0 (w7.heap[gb]? = some (.cells #[.slice A0_0 l0_0.length c0_0, .slice A0_1 l0_1.length c0_1] 25 (0, 0))) := ⟨blk_below BB.out hb⟩
                have n_BX : Aside0 (w7.heap[gx]? = some (.cells #[.int .i64 x.f0, .int .u8 x.f1, .int .u8 x.f2, .int .i64 x.f3] 55 (0, 0))) := ⟨blk_below BX.out hb⟩
                have n_BR : Aside0 (w7.heap[gr]? = some (.cells #[.slice none 0 0, .slice none 0 0] 25 (0, 0))) := ⟨blk_below BR.out hb⟩
                have n_HB : Aside0 (Below w.heap.size w w7) := ⟨below_step HB.out hb⟩
                have n_HA : Aside0 (Kd.R k55 55 w7 w.heap.size (fun k => k ≠ gx) vA_ ([] : List S55)) := ⟨Kd.R_lower (Kd.R_mono (Kd.R_bound ho) (fun k hk => fun he => by have := hk.2.1; have := blk_lt BX.out; omega)) HB.out.size⟩
                have n_BG : Aside0 (w7.heap[g6]? = some (.cells #[.slice none 0 0, .slice none 0 0] 25 (0, 0)) ∧ w.heap.size ≤ g6 ∧ gb ≠ g6 ∧ gr ≠ g6) := ⟨⟨blk_below BG.out.1 hb, BG.out.2⟩⟩
                clear BB BX BR HB BG
                have BB := n_BB
                have BX := n_BX
                have BR := n_BR
                have HB := n_HB
                have HA := n_HA
                have BG := n_BG
                clear n_BB n_BX n_BR n_HB n_HA n_BG
                refine hK.out _ _ ⟨((blk_cell BB.out 1).trans rfl), ((blk_cell BX.out 0).trans rfl), ((blk_cell BX.out 1).trans rfl), ((blk_cell BX.out 2).trans rfl), ((blk_cell BX.out 3).trans rfl)⟩ (fun hHeld => ?_)
                clear hK K
                refine norm_ (a' := ?_) ?_ ?_
                rotate_left
                ·show Act.put _ (some 17) _ = _
                 simp only [Act.put, zt0, zt1, zt2, i64_w, i32_w]
                 rfl
                exact norm_ (by first | (simp only [putAll, Act.put, zt0, zt1, zt2]; done) | (simp only [putAll, Act.put, zt0, zt1, zt2]; rfl)) (hJ0_8 (vA_, g6) _ ⟨hHeld, BB.out, BX.out, BR.out, HB.out, HA.out, BG.out⟩)
               ·skip
                refine Kd.R_lit_step k55 _ 55 ?hg (N := 22) ?hd (xs := [x]) (inner := [.int .i64 x.f0, .int .u8 x.f1, .int .u8 x.f2, .int .i64 x.f3]) (ok := fun _ => True) (okp := fun _ => True) ?hr ?hp (fun _ hk => hk) trivial (Below.refl _ _) (Nat.le_refl _) (by simp) ?_; (case hd => rfl); (case hg => rfl); (case hr => first | (go_simp; done) | (go_simp; rfl)); (case hp => exact Reps.snoc (Reps.none _ _) (k55_mkM _ _ _ x) rfl)
                intro vX_ w7 ho hb hg_ hnew_
                obtain ⟨bX_, hbX_, hleX_⟩ := hnew_
                clear hg_
                have n_BB : Aside0 (w7.heap[gb]? = some (.cells #[.slice A0_0 l0_0.length c0_0, .slice A0_1 l0_1.length c0_1] 25 (0, 0))) := ⟨blk_below BB.out hb⟩
                have n_BX : Aside0 (w7.heap[gx]? = some (.cells #[.int .i64 x.f0, .int .u8 x.f1, .int .u8 x.f2, .int .i64 x.f3] 55 (0, 0))) := ⟨blk_below BX.out hb⟩
                have n_BR : Aside0 (w7.heap[gr]? = some (.cells #[.slice none 0 0, .slice none 0 0] 25 (0, 0))) := ⟨blk_below BR.out hb⟩
                have n_HB : Aside0 (Below w.heap.size w w7) := ⟨below_step HB.out hb⟩
                have n_HL : Aside0 (Kd.R k55 55 w7 w.heap.size (fun _ => True) vX_ [x]) := ⟨Kd.R_lower ho HB.out.size⟩
                have n_BG : Aside0 (w7.heap[g6]? = some (.cells #[.slice none 0 0, .slice none 0 0] 25 (0, 0)) ∧ w.heap.size ≤ g6 ∧ gb ≠ g6 ∧ gr ≠ g6) := ⟨⟨blk_below BG.out.1 hb, BG.out.2⟩⟩
                clear BB BX BR HB BG
                have BB := n_BB
                have BX := n_BX
                have BR := n_BR
                have HB := n_HB
                have HL := n_HL
                have BG := n_BG
                clear n_BB n_BX n_BR n_HB n_HL n_BG
                refine hK.out _ _ ⟨((blk_cell BB.out 1).trans rfl), ((blk_cell BX.out 0).trans rfl), ((blk_cell BX.out 1).trans rfl), ((blk_cell BX.out 2).trans rfl), ((blk_cell BX.out 3).trans rfl)⟩ (fun hHeld => ?_)
                clear hK K
                refine norm_ (a' := ?_) ?_ ?_
                rotate_left
                ·show Act.put _ (some 22) _ = _
                 simp only [Act.put, zt0, zt1, zt2, i64_w, i32_w]
                 rfl
                exact norm_ (by first | (simp only [putAll, Act.put, zt0, zt1, zt2]; done) | (simp only [putAll, Act.put, zt0, zt1, zt2]; rfl)) (hJ5_8 (vX_, g6) _ ⟨hHeld, BB.out, BX.out, BR.out, HB.out, HL.out, BG.out⟩)
             ·skip
              rintro sX w' ⟨hHeld, fBB, fBX, fBR, fHB, fHL⟩
              have BB := Aside0.mk fBB
              have BX := Aside0.mk fBX
              have BR := Aside0.mk fBR
              have HB := Aside0.mk fHB
              have HL := Aside0.mk fHL
              clear fBB fBX fBR fHB fHL
              refine norm_ (a' := ?_) ?_ ?_
              rotate_left
              ·simp only [putAll, Act.put, zt0, zt1, zt2]
               rfl
              refine two_ (i := 0) (j := 8) (Ni := some 17) (Nj := some 6) #[true, true, true, false, true, true, false, false, false, false] #[false, true, true, false, true, true, false, false, true, false] rfl rfl rfl rfl (two_of HT_.out (by kernel_rfl)) (by decide) (by decide) (fun K hK => ?_) (fun K hK => ?_)
              ·skip
               refine Kd.R_lit_step k55 _ 55 ?hg (N := 17) ?hd (xs := ([] : List (S55))) (inner := []) (ok := fun _ => True) (okp := fun _ => True) ?hr ?hp (fun _ hk => hk) trivial (Below.refl _ _) (Nat.le_refl _) (by simp) ?_; (case hd => rfl); (case hg => rfl); (case hr => first | (go_simp; done) | (go_simp; rfl)); (case hp => exact (Reps.none _ _))
               intro vA_ w7 ho hb hg_ hnew_
               clear hg_ hnew_
               have n_BB : Aside0 (w7.heap[gb]? = some (.cells #[.slice A0_0 l0_0.length c0_0, .slice A0_1 l0_1.length c0_1] 25 (0, 0))) := ⟨blk_below BB.out hb⟩
               have n_BX : Aside0 (w7.heap[gx]? = some (.cells #[.int .i64 x.f0, .int .u8 x.f1, .int .u8 x.f2, .int .i64 x.f3] 55 (0, 0))) := ⟨blk_below BX.out hb⟩
               have n_BR : Aside0 (w7.heap[gr]? = some (.cells #[.slice none 0 0, .slice none 0 0] 25 (0, 0))) := ⟨blk_below BR.out hb⟩
               have n_HB : Aside0 (Below w.heap.size w w7) := ⟨below_step HB.out hb⟩
               have n_HA : Aside0 (Kd.R k55 55 w7 w.heap.size (fun k => k ≠ gx ∧ some k ≠ sX.ownBlock) vA_ ([] : List S55)) := ⟨Kd.R_lower (Kd.R_mono (Kd.R_bound ho) (fun k hk => ⟨fun he => by have := hk.2.1; have := blk_lt BX.out; omega, fun he => by have := hk.2.1; have := own_lt (Kd.R_own HL.out).choose_spec k he.symm; omega⟩)) HB.out.size⟩
               have n_HL : Aside0 (Kd.R k55 55 w7 w.heap.size (fun _ => True) sX [x]) := ⟨Kd.R_below HL.out hb⟩
               clear BB BX BR HB HL
               have BB := n_BB
               have BX := n_BX
               have BR := n_BR
               have HB := n_HB
               have HA := n_HA
               have HL := n_HL
               clear n_BB n_BX n_BR n_HB n_HA n_HL
               refine hK.out _ _ ⟨((blk_cell BB.out 1).trans rfl), ((blk_cell BX.out 0).trans rfl), ((blk_cell BX.out 1).trans rfl), ((blk_cell BX.out 2).trans rfl), ((blk_cell BX.out 3).trans rfl)⟩ (fun hHeld => ?_)
               clear hK K
               refine norm_ (a' := ?_) ?_ ?_
               rotate_left
               ·show Act.put _ (some 17) _ = _
                simp only [Act.put, zt0, zt1, zt2, i64_w, i32_w]
                rfl
               exact norm_ (by first | (simp only [putAll, Act.put, zt0, zt1, zt2]; done) | (simp only [putAll, Act.put, zt0, zt1, zt2]; rfl)) (hJ0_5 (vA_, sX) _ ⟨hHeld, BB.out, BX.out, BR.out, HB.out, HA.out, HL.out⟩)
              ·skip
               refine box_step ?hg (N := 6) ?hd (cs := #[.slice none 0 0, .slice none 0 0]) (t := 25) ?hr ?_; (case hd => rfl); (case hg => rfl); (case hr => first | (go_simp; done) | (go_simp; rfl))
               intro gq hgq w7 hbox hb
               have n_BB : Aside0 (w7.heap[gb]? = some (.cells #[.slice A0_0 l0_0.length c0_0, .slice A0_1 l0_1.length c0_1] 25 (0, 0))) := ⟨blk_below BB.out hb⟩
               have n_BX : Aside0 (w7.heap[gx]? = some (.cells #[.int .i64 x.f0, .int .u8 x.f1, .int .u8 x.f2, .int .i64 x.f3] 55 (0, 0))) := ⟨blk_below BX.out hb⟩
               have n_BR : Aside0 (w7.heap[gr]? = some (.cells #[.slice none 0 0, .slice none 0 0] 25 (0, 0))) := ⟨blk_below BR.out hb⟩
               have n_HB : Aside0 (Below w.heap.size w w7) := ⟨below_step HB.out hb⟩
               have n_HL : Aside0 (Kd.R k55 55 w7 w.heap.size (fun _ => True) sX [x]) := ⟨Kd.R_below HL.out hb⟩
               have n_BG : Aside0 (w7.heap[gq]? = some (.cells #[.slice none 0 0, .slice none 0 0] 25 (0, 0)) ∧ w.heap.size ≤ gq ∧ gb ≠ gq ∧ gr ≠ gq) := ⟨⟨hbox, by rw [hgq]; exact HB.out.size, by rw [hgq]; exact Nat.ne_of_lt (blk_lt BB.out), by rw [hgq]; exact Nat.ne_of_lt (blk_lt BR.out)⟩⟩
               clear BB BX BR HB HL
               have BB := n_BB
               have BX := n_BX
               have BR := n_BR
               have HB := n_HB
               have HL := n_HL
               have BG := n_BG
               clear n_BB n_BX n_BR n_HB n_HL n_BG
               refine hK.out _ _ ⟨((blk_cell BB.out 1).trans rfl), ((blk_cell BX.out 0).trans rfl), ((blk_cell BX.out 1).trans rfl), ((blk_cell BX.out 2).trans rfl), ((blk_cell BX.out 3).trans rfl)⟩ (fun hHeld => ?_)
               clear hK K
               refine norm_ (a' := ?_) ?_ ?_
               rotate_left
               ·show Act.put _ (some 6) _ = _
                simp only [Act.put, zt0, zt1, zt2, i64_w, i32_w]
                rfl
               exact norm_ (by first | (simp only [putAll, Act.put, zt0, zt1, zt2]; done) | (simp only [putAll, Act.put, zt0, zt1, zt2]; rfl)) (hJ5_8 (sX, gq) _ ⟨hHeld, BB.out, BX.out, BR.out, HB.out, HL.out, BG.out⟩)
            ·skip
             rintro s17 w' ⟨hHeld, fBB, fBX, fBR, fHB, fHA⟩
             have BB := Aside0.mk fBB
             have BX := Aside0.mk fBX
             have BR := Aside0.mk fBR
             have HB := Aside0.mk fHB
             have HA := Aside0.mk fHA
             clear fBB fBX fBR fHB fHA
             refine norm_ (a' := ?_) ?_ ?_
             rotate_left
             ·simp only [putAll, Act.put, zt0, zt1, zt2]
              rfl
             refine three_ (i := 3) (j := 5) (k := 8) (Ni := some 20) (Nj := some 22) (Nk := some 6) (zB 5 5) #[true, true, true, false, true, true, false, false, false, false] #[true, true, true, false, true, false, false, false, true, false] rfl rfl rfl rfl rfl rfl (three_of HT_.out (by kernel_rfl)) (by decide) (by decide) (by decide) (fun K hK => ?_) (fun K hK => ?_) (fun K hK => ?_)
             ·skip
              refine Kd.R_append_rows_step k55 (w0 := w) w.heap.size (by rfl) (.tmp 17) (.tmp 19) 23 55 (.agg #[.int .i64 0, .int .u8 0, .int .u8 0, .int .i64 0]) 24 rfl Try.underlying23 info55 rfl (by decide) (by omega) s17 [] l0_1 _ _ _ (fun k => k ≠ gx) (fun _ => False) rfl rfl HA.out (Kd.C_below HR1.out HB.out) (fun _ _ h => h) (fun _ h => h.elim) (fun k hk => fun he => by have := blk_lt BX.out; omega) HB.out HB.out.size (by have := HL1.out; simp only [List.length_nil]; omega) ?_
              intro vB_ w7 ho hb hg hat
              clear hat
              have n_BB : Aside0 (w7.heap[gb]? = some (.cells #[.slice A0_0 l0_0.length c0_0, .slice A0_1 l0_1.length c0_1] 25 (0, 0))) := ⟨blk_grown BB.out hg (Kd.R_ne HA.out BB.out (by decide))⟩
              have n_BX : Aside0 (w7.heap[gx]? = some (.cells #[.int .i64 x.f0, .int .u8 x.f1, .int .u8 x.f2, .int .i64 x.f3] 55 (0, 0))) := ⟨blk_grown BX.out hg (fun he => absurd rfl (HA.out.1 gx he.symm))⟩
              have n_BR : Aside0 (w7.heap[gr]? = some (.cells #[.slice none 0 0, .slice none 0 0] 25 (0, 0))) := ⟨blk_grown BR.out hg (Kd.R_ne HA.out BR.out (by decide))⟩
              have n_HB : Aside0 (Below w.heap.size w w7) := ⟨hb⟩
              have n_HA : Aside0 (Kd.R k55 55 w7 w.heap.size (fun k => k ≠ gx) vB_ l0_1) := ⟨ho⟩
              clear BB BX BR HB HA
              have BB := n_BB
              have BX := n_BX
              have BR := n_BR
              have HB := n_HB
              have HA := n_HA
              clear n_BB n_BX n_BR n_HB n_HA
              refine hK.out _ _ ⟨((blk_cell BB.out 1).trans rfl), ((blk_cell BX.out 0).trans rfl), ((blk_cell BX.out 1).trans rfl), ((blk_cell BX.out 2).trans rfl), ((blk_cell BX.out 3).trans rfl)⟩ (fun hHeld => ?_)
              clear hK K
              refine norm_ (a' := ?_) ?_ ?_
              rotate_left
              ·show Act.put _ (some 20) _ = _
               simp only [Act.put, zt0, zt1, zt2, i64_w, i32_w]
               rfl
              exact norm_ (by first | (simp only [putAll, Act.put, zt0, zt1, zt2]; done) | (simp only [putAll, Act.put, zt0, zt1, zt2]; rfl)) (hJ0_3 (s17, vB_) _ ⟨hHeld, BB.out, BX.out, BR.out, HB.out, HA.out⟩)
             ·skip
              refine Kd.R_lit_step k55 _ 55 ?hg (N := 22) ?hd (xs := [x]) (inner := [.int .i64 x.f0, .int .u8 x.f1, .int .u8 x.f2, .int .i64 x.f3]) (ok := fun _ => True) (okp := fun _ => True) ?hr ?hp (fun _ hk => hk) trivial (Below.refl _ _) (Nat.le_refl _) (by simp) ?_; (case hd => rfl); (case hg => rfl); (case hr => first | (go_simp; done) | (go_simp; rfl)); (case hp => exact Reps.snoc (Reps.none _ _) (k55_mkM _ _ _ x) rfl)
              intro vX_ w7 ho hb hg_ hnew_
              obtain ⟨bX_, hbX_, hleX_⟩ := hnew_
              clear hg_
              have n_BB : Aside0 (w7.heap[gb]? = some (.cells #[.slice A0_0 l0_0.length c0_0, .slice A0_1 l0_1.length c0_1] 25 (0, 0))) := ⟨blk_below BB.out hb⟩
              have n_BX : Aside0 (w7.heap[gx]? = some (.cells #[.int .i64 x.f0, .int .u8 x.f1, .int .u8 x.f2, .int .i64 x.f3] 55 (0, 0))) := ⟨blk_below BX.out hb⟩
              have n_BR : Aside0 (w7.heap[gr]? = some (.cells #[.slice none 0 0, .slice none 0 0] 25 (0, 0))) := ⟨blk_below BR.out hb⟩
              have n_HB : Aside0 (Below w.heap.size w w7) := ⟨below_step HB.out hb⟩
              have n_HA : Aside0 (Kd.R k55 55 w7 w.heap.size (fun k => k ≠ gx ∧ some k ≠ vX_.ownBlock) s17 ([] : List S55)) := ⟨Kd.R_elder' HA.out (fun k hk => by rw [hbX_] at hk; injection hk with hk; omega) hb⟩
              have n_HL : Aside0 (Kd.R k55 55 w7 w.heap.size (fun _ => True) vX_ [x]) := ⟨Kd.R_lower ho HB.out.size⟩
              clear BB BX BR HB HA
              have BB := n_BB
              have BX := n_BX
              have BR := n_BR
              have HB := n_HB
              have HA := n_HA
              have HL := n_HL
              clear n_BB n_BX n_BR n_HB n_HA n_HL
              refine hK.out _ _ ⟨((blk_cell BB.out 1).trans rfl), ((blk_cell BX.out 0).trans rfl), ((blk_cell BX.out 1).trans rfl), ((blk_cell BX.out 2).trans rfl), ((blk_cell BX.out 3).trans rfl)⟩ (fun hHeld => ?_)
              clear hK K
              refine norm_ (a' := ?_) ?_ ?_
              rotate_left
              ·show Act.put _ (some 22) _ = _
               simp only [Act.put, zt0, zt1, zt2, i64_w, i32_w]
               rfl
              exact norm_ (by first | (simp only [putAll, Act.put, zt0, zt1, zt2]; done) | (simp only [putAll, Act.put, zt0, zt1, zt2]; rfl)) (hJ0_5 (s17, vX_) _ ⟨hHeld, BB.out, BX.out, BR.out, HB.out, HA.out, HL.out⟩)
             ·skip
              refine box_step ?hg (N := 6) ?hd (cs := #[.slice none 0 0, .slice none 0 0]) (t := 25) ?hr ?_; (case hd => rfl); (case hg => rfl); (case hr => first | (go_simp; done) | (go_simp; rfl))
              intro gq hgq w7 hbox hb
              have n_BB : Aside0 (w7.heap[gb]? = some (.cells #[.slice A0_0 l0_0.length c0_0, .slice A0_1 l0_1.length c0_1] 25 (0, 0))) := ⟨blk_below BB.out hb⟩
              have n_BX : Aside0 (w7.heap[gx]? = some (.cells #[.int .i64 x.f0, .int .u8 x.f1, .int .u8 x.f2, .int .i64 x.f3] 55 (0, 0))) := ⟨blk_below BX.out hb⟩
              have n_BR : Aside0 (w7.heap[gr]? = some (.cells #[.slice none 0 0, .slice none 0 0] 25 (0, 0))) := ⟨blk_below BR.out hb⟩
              have n_HB : Aside0 (Below w.heap.size w w7) := ⟨below_step HB.out hb⟩
              have n_HA : Aside0 (Kd.R k55 55 w7 w.heap.size (fun k => k ≠ gx) s17 ([] : List S55)) := ⟨Kd.R_below HA.out hb⟩
              have n_BG : Aside0 (w7.heap[gq]? = some (.cells #[.slice none 0 0, .slice none 0 0] 25 (0, 0)) ∧ w.heap.size ≤ gq ∧ gb ≠ gq ∧ gr ≠ gq) := ⟨⟨hbox, by rw [hgq]; exact HB.out.size, by rw [hgq]; exact Nat.ne_of_lt (blk_lt BB.out), by rw [hgq]; exact Nat.ne_of_lt (blk_lt BR.out)⟩⟩
              clear BB BX BR HB HA
              have BB := n_BB
              have BX := n_BX
              have BR := n_BR
              have HB := n_HB
              have HA := n_HA
              have BG := n_BG
              clear n_BB n_BX n_BR n_HB n_HA n_BG
              refine hK.out _ _ ⟨((blk_cell BB.out 1).trans rfl), ((blk_cell BX.out 0).trans rfl), ((blk_cell BX.out 1).trans rfl), ((blk_cell BX.out 2).trans rfl), ((blk_cell BX.out 3).trans rfl)⟩ (fun hHeld => ?_)
              clear hK K
              refine norm_ (a' := ?_) ?_ ?_
              rotate_left
              ·show Act.put _ (some 6) _ = _
               simp only [Act.put, zt0, zt1, zt2, i64_w, i32_w]
               rfl
              exact norm_ (by first | (simp only [putAll, Act.put, zt0, zt1, zt2]; done) | (simp only [putAll, Act.put, zt0, zt1, zt2]; rfl)) (hJ0_8 (s17, gq) _ ⟨hHeld, BB.out, BX.out, BR.out, HB.out, HA.out, BG.out⟩)
           ·skip
            rintro ⟨sX, g6⟩ w' ⟨hHeld, fBB, fBX, fBR, fHB, fHL, fBG⟩
            have BB := Aside0.mk fBB
            have BX := Aside0.mk fBX
            have BR := Aside0.mk fBR
            have HB := Aside0.mk fHB
            have HL := Aside0.mk fHL
            have BG := Aside0.mk fBG
            clear fBB fBX fBR fHB fHL fBG
            refine norm_ (a' := ?_) ?_ ?_
            rotate_left
            ·simp only [putAll, Act.put, zt0, zt1, zt2]
             rfl
            refine one_ (i := 0) (N := some 17) #[true, true, true, false, true, true, false, false, true, false] rfl rfl (one_of HT_.out (by kernel_rfl)) (by decide) (fun K hK => ?_)
            refine Kd.R_lit_step k55 _ 55 ?hg (N := 17) ?hd (xs := ([] : List (S55))) (inner := []) (ok := fun _ => True) (okp := fun _ => True) ?hr ?hp (fun _ hk => hk) trivial (Below.refl _ _) (Nat.le_refl _) (by simp) ?_; (case hd => rfl); (case hg => rfl); (case hr => first | (go_simp; done) | (go_simp; rfl)); (case hp => exact (Reps.none _ _))
            intro vA_ w7 ho hb hg_ hnew_
            clear hg_ hnew_
            have n_BB : Aside0 (w7.heap[gb]? = some (.cells #[.slice A0_0 l0_0.length c0_0, .slice A0_1 l0_1.length c0_1] 25 (0, 0))) := ⟨blk_below BB.out hb⟩
            have n_BX : Aside0 (w7.heap[gx]? = some (.cells #[.int .i64 x.f0, .int .u8 x.f1, .int .u8 x.f2, .int .i64 x.f3] 55 (0, 0))) := ⟨blk_below BX.out hb⟩
            have n_BR : Aside0 (w7.heap[gr]? = some (.cells #[.slice none 0 0, .slice none 0 0] 25 (0, 0))) := ⟨blk_below BR.out hb⟩
            have n_HB : Aside0 (Below w.heap.size w w7) := ⟨below_step HB.out hb⟩
            have n_HA : Aside0 (Kd.R k55 55 w7 w.heap.size (fun k => k ≠ gx ∧ some k ≠ sX.ownBlock) vA_ ([] : List S55)) := ⟨Kd.R_lower (Kd.R_mono (Kd.R_bound ho) (fun k hk => ⟨fun he => by have := hk.2.1; have := blk_lt BX.out; omega, fun he => by have := hk.2.1; have := own_lt (Kd.R_own HL.out).choose_spec k he.symm; omega⟩)) HB.out.size⟩
            have n_HL : Aside0 (Kd.R k55 55 w7 w.heap.size (fun _ => True) sX [x]) := ⟨Kd.R_below HL.out hb⟩
            have n_BG : Aside0 (w7.heap[g6]? = some (.cells #[.slice none 0 0, .slice none 0 0] 25 (0, 0)) ∧ w.heap.size ≤ g6 ∧ gb ≠ g6 ∧ gr ≠ g6) := ⟨⟨blk_below BG.out.1 hb, BG.out.2⟩⟩
            clear BB BX BR HB HL BG
            have BB := n_BB
            have BX := n_BX
            have BR := n_BR
            have HB := n_HB
            have HA := n_HA
            have HL := n_HL
            have BG := n_BG
            clear n_BB n_BX n_BR n_HB n_HA n_HL n_BG
            refine hK.out _ _ ⟨((blk_cell BB.out 1).trans rfl), ((blk_cell BX.out 0).trans rfl), ((blk_cell BX.out 1).trans rfl), ((blk_cell BX.out 2).trans rfl), ((blk_cell BX.out 3).trans rfl)⟩ (fun hHeld => ?_)
            clear hK K
            refine norm_ (a' := ?_) ?_ ?_
            rotate_left
            ·show Act.put _ (some 17) _ = _
             simp only [Act.put, zt0, zt1, zt2, i64_w, i32_w]
             rfl
            exact norm_ (by first | (simp only [putAll, Act.put, zt0, zt1, zt2]; done) | (simp only [putAll, Act.put, zt0, zt1, zt2]; rfl)) (hJ0_5_8 (vA_, sX, g6) _ ⟨hHeld, BB.out, BX.out, BR.out, HB.out, HA.out, HL.out, BG.out⟩)
          ·skip
           rintro ⟨s17, g6⟩ w' ⟨hHeld, fBB, fBX, fBR, fHB, fHA, fBG⟩
           have BB := Aside0.mk fBB
           have BX := Aside0.mk fBX
           have BR := Aside0.mk fBR
           have HB := Aside0.mk fHB
           have HA := Aside0.mk fHA
           have BG := Aside0.mk fBG
           clear fBB fBX fBR fHB fHA fBG
           refine norm_ (a' := ?_) ?_ ?_
           rotate_left
           ·simp only [putAll, Act.put, zt0, zt1, zt2]
            rfl
           refine two_ (i := 3) (j := 5) (Ni := some 20) (Nj := some 22) #[true, true, true, true, true, false, false, false, true, false] #[true, true, true, false, true, true, false, false, true, false] rfl rfl rfl rfl (two_of HT_.out (by kernel_rfl)) (by decide) (by decide) (fun K hK => ?_) (fun K hK => ?_)
           ·skip
            refine Kd.R_append_rows_step k55 (w0 := w) w.heap.size (by rfl) (.tmp 17) (.tmp 19) 23 55 (.agg #[.int .i64 0, .int .u8 0, .int .u8 0, .int .i64 0]) 24 rfl Try.underlying23 info55 rfl (by decide) (by omega) s17 [] l0_1 _ _ _ (fun k => k ≠ gx) (fun _ => False) rfl rfl HA.out (Kd.C_below HR1.out HB.out) (fun _ _ h => h) (fun _ h => h.elim) (fun k hk => fun he => by have := blk_lt BX.out; omega) HB.out HB.out.size (by have := HL1.out; simp only [List.length_nil]; omega) ?_
            intro vB_ w7 ho hb hg hat
            clear hat
            have n_BB : Aside0 (w7.heap[gb]? = some (.cells #[.slice A0_0 l0_0.length c0_0, .slice A0_1 l0_1.length c0_1] 25 (0, 0))) := ⟨blk_grown BB.out hg (Kd.R_ne HA.out BB.out (by decide))⟩
            have n_BX : Aside0 (w7.heap[gx]? = some (.cells #[.int .i64 x.f0, .int .u8 x.f1, .int .u8 x.f2, .int .i64 x.f3] 55 (0, 0))) := ⟨blk_grown BX.out hg (fun he => absurd rfl (HA.out.1 gx he.symm))⟩
            have n_BR : Aside0 (w7.heap[gr]? = some (.cells #[.slice none 0 0, .slice none 0 0] 25 (0, 0))) := ⟨blk_grown BR.out hg (Kd.R_ne HA.out BR.out (by decide))⟩
            have n_HB : Aside0 (Below w.heap.size w w7) := ⟨hb⟩
            have n_HA : Aside0 (Kd.R k55 55 w7 w.heap.size (fun k => k ≠ gx) vB_ l0_1) := ⟨ho⟩
            have n_BG : Aside0 (w7.heap[g6]? = some (.cells #[.slice none 0 0, .slice none 0 0] 25 (0, 0)) ∧ w.heap.size ≤ g6 ∧ gb ≠ g6 ∧ gr ≠ g6) := ⟨⟨blk_grown BG.out.1 hg (Kd.R_ne HA.out BG.out.1 (by decide)), BG.out.2⟩⟩
            clear BB BX BR HB HA BG
            have BB := n_BB
            have BX := n_BX
            have BR := n_BR
            have HB := n_HB
            have HA := n_HA
            have BG := n_BG
            clear n_BB n_BX n_BR n_HB n_HA n_BG
            refine hK.out _ _ ⟨((blk_cell BB.out 1).trans rfl), ((blk_cell BX.out 0).trans rfl), ((blk_cell BX.out 1).trans rfl), ((blk_cell BX.out 2).trans rfl), ((blk_cell BX.out 3).trans rfl)⟩ (fun hHeld => ?_)
            clear hK K
            refine norm_ (a' := ?_) ?_ ?_
            rotate_left
            ·show Act.put _ (some 20) _ = _
             simp only [Act.put, zt0, zt1, zt2, i64_w, i32_w]
             rfl
            exact norm_ (by first | (simp only [putAll, Act.put, zt0, zt1, zt2]; done) | (simp only [putAll, Act.put, zt0, zt1, zt2]; rfl)) (hJ0_3_8 (s17, vB_, g6) _ ⟨hHeld, BB.out, BX.out, BR.out, HB.out, HA.out, BG.out⟩)
           ·skip
            refine Kd.R_lit_step k55 _ 55 ?hg (N := 22) ?hd (xs := [x]) (inner := [.int .i64 x.f0, .int .u8 x.f1, .int .u8 x.f2, .int .i64 x.f3]) (ok := fun _ => True) (okp := fun _ => True) ?hr ?hp (fun _ hk => hk) trivial (Below.refl _ _) (Nat.le_refl _) (by simp) ?_; (case hd => rfl); (case hg => rfl); (case hr => first | (go_simp; done) | (go_simp; rfl)); (case hp => exact Reps.snoc (Reps.none _ _) (k55_mkM _ _ _ x) rfl)
            intro vX_ w7 ho hb hg_ hnew_
            obtain ⟨bX_, hbX_, hleX_⟩ := hnew_
            clear hg_
            have n_BB : Aside0 (w7.heap[gb]? = some (.cells #[.slice A0_0 l0_0.length c0_0, .slice A0_1 l0_1.length c0_1] 25 (0, 0))) := ⟨blk_below BB.out hb⟩
            have n_BX : Aside0 (w7.heap[gx]? = some (.cells #[.int .i64 x.f0, .int .u8 x.f1, .int .u8 x.f2, .int .i64 x.f3] 55 (0, 0))) := ⟨blk_below BX.out hb⟩
            have n_BR : Aside0 (w7.heap[gr]? = some (.cells #[.slice none 0 0, .slice none 0 0] 25 (0, 0))) := ⟨blk_below BR.out hb⟩
            have n_HB : Aside0 (Below w.heap.size w w7) := ⟨below_step HB.out hb⟩
            have n_HA : Aside0 (Kd.R k55 55 w7 w.heap.size (fun k => k ≠ gx ∧ some k ≠ vX_.ownBlock) s17 ([] : List S55)) := ⟨Kd.R_elder' HA.out (fun k hk => by rw [hbX_] at hk; injection hk with hk; omega) hb⟩
            have n_HL : Aside0 (Kd.R k55 55 w7 w.heap.size (fun _ => True) vX_ [x]) := ⟨Kd.R_lower ho HB.out.size⟩
            have n_BG : Aside0 (w7.heap[g6]? = some (.cells #[.slice none 0 0, .slice none 0 0] 25 (0, 0)) ∧ w.heap.size ≤ g6 ∧ gb ≠ g6 ∧ gr ≠ g6) := ⟨⟨blk_below BG.out.1 hb, BG.out.2⟩⟩
            clear BB BX BR HB HA BG
            have BB := n_BB
            have BX := n_BX
            have BR := n_BR
            have HB := n_HB
            have HA := n_HA
            have HL := n_HL
            have BG := n_BG
            clear n_BB n_BX n_BR n_HB n_HA n_HL n_BG
            refine hK.out _ _ ⟨((blk_cell BB.out 1).trans rfl), ((blk_cell BX.out 0).trans rfl), ((blk_cell BX.out 1).trans rfl), ((blk_cell BX.out 2).trans rfl), ((blk_cell BX.out 3).trans rfl)⟩ (fun hHeld => ?_)
            clear hK K
            refine norm_ (a' := ?_) ?_ ?_
            rotate_left
            ·show Act.put _ (some 22) _ = _
             simp only [Act.put, zt0, zt1, zt2, i64_w, i32_w]
             rfl
            exact norm_ (by first | (simp only [putAll, Act.put, zt0, zt1, zt2]; done) | (simp only [putAll, Act.put, zt0, zt1, zt2]; rfl)) (hJ0_5_8 (s17, vX_, g6) _ ⟨hHeld, BB.out, BX.out, BR.out, HB.out, HA.out, HL.out, BG.out⟩)
         ·skip
          rintro ⟨s17, sX⟩ w' ⟨hHeld, fBB, fBX, fBR, fHB, fHA, fHL⟩
          have BB := Aside0.mk fBB
          have BX := Aside0.mk fBX
          have BR := Aside0.mk fBR
          have HB := Aside0.mk fHB
          have HA := Aside0.mk fHA
          have HL := Aside0.mk fHL
          clear fBB fBX fBR fHB fHA fHL
          refine norm_ (a' := ?_) ?_ ?_
          rotate_left
          ·simp only [putAll, Act.put, zt0, zt1, zt2]
           rfl
          refine two_ (i := 3) (j := 8) (Ni := some 20) (Nj := some 6) (zB 6 4) #[true, true, true, false, true, true, false, false, true, false] rfl rfl rfl rfl (two_of HT_.out (by kernel_rfl)) (by decide) (by decide) (fun K hK => ?_) (fun K hK => ?_)
          ·skip
           refine Kd.R_append_rows_step k55 (w0 := w) w.heap.size (by rfl) (.tmp 17) (.tmp 19) 23 55 (.agg #[.int .i64 0, .int .u8 0, .int .u8 0, .int .i64 0]) 24 rfl Try.underlying23 info55 rfl (by decide) (by omega) s17 [] l0_1 _ _ _ (fun k => k ≠ gx ∧ some k ≠ sX.ownBlock) (fun _ => False) rfl rfl HA.out (Kd.C_below HR1.out HB.out) (fun _ _ h => h) (fun _ h => h.elim) (fun k hk => ⟨fun he => by have := blk_lt BX.out; omega, fun he => by have := own_lt (Kd.R_own HL.out).choose_spec k he.symm; omega⟩) HB.out HB.out.size (by have := HL1.out; simp only [List.length_nil]; omega) ?_
           intro vB_ w7 ho hb hg hat
           clear hat
           have n_BB : Aside0 (w7.heap[gb]? = some (.cells #[.slice A0_0 l0_0.length c0_0, .slice A0_1 l0_1.length c0_1] 25 (0, 0))) := ⟨blk_grown BB.out hg (Kd.R_ne HA.out BB.out (by decide))⟩
           have n_BX : Aside0 (w7.heap[gx]? = some (.cells #[.int .i64 x.f0, .int .u8 x.f1, .int .u8 x.f2, .int .i64 x.f3] 55 (0, 0))) := ⟨blk_grown BX.out hg (fun he => absurd rfl (HA.out.1 gx he.symm).1)⟩
           have n_BR : Aside0 (w7.heap[gr]? = some (.cells #[.slice none 0 0, .slice none 0 0] 25 (0, 0))) := ⟨blk_grown BR.out hg (Kd.R_ne HA.out BR.out (by decide))⟩
           have n_HB : Aside0 (Below w.heap.size w w7) := ⟨hb⟩
           have n_HA : Aside0 (Kd.R k55 55 w7 w.heap.size (fun k => k ≠ gx ∧ some k ≠ sX.ownBlock) vB_ l0_1) := ⟨ho⟩
           have n_HL : Aside0 (Kd.R k55 55 w7 w.heap.size (fun _ => True) sX [x]) := ⟨Kd.R_grown2 HL.out rfl hg (fun k hk => (HA.out.1 k hk).2)⟩
           clear BB BX BR HB HA HL
           have BB := n_BB
           have BX := n_BX
           have BR := n_BR
           have HB := n_HB
           have HA := n_HA
           have HL := n_HL
           clear n_BB n_BX n_BR n_HB n_HA n_HL
           refine hK.out _ _ ⟨((blk_cell BB.out 1).trans rfl), ((blk_cell BX.out 0).trans rfl), ((blk_cell BX.out 1).trans rfl), ((blk_cell BX.out 2).trans rfl), ((blk_cell BX.out 3).trans rfl)⟩ (fun hHeld => ?_)
           clear hK K
           refine norm_ (a' := ?_) ?_ ?_
           rotate_left
           ·show Act.put _ (some 20) _ = _
            simp only [Act.put, zt0, zt1, zt2, i64_w, i32_w]
            rfl
           exact norm_ (by first | (simp only [putAll, Act.put, zt0, zt1, zt2]; done) | (simp only [putAll, Act.put, zt0, zt1, zt2]; rfl)) (hJ0_3_5 (s17, vB_, sX) _ ⟨hHeld, BB.out, BX.out, BR.out, HB.out, HA.out, HL.out⟩)
          ·skip
           refine box_step ?hg (N := 6) ?hd (cs := #[.slice none 0 0, .slice none 0 0]) (t := 25) ?hr ?_; (case hd => rfl); (case hg => rfl); (case hr => first | (go_simp; done) | (go_simp; rfl))
           intro gq hgq w7 hbox hb
           have n_BB : Aside0 (w7.heap[gb]? = some (.cells #[.slice A0_0 l0_0.length c0_0, .slice A0_1 l0_1.length c0_1] 25 (0, 0))) := ⟨blk_below BB.out hb⟩
           have n_BX : Aside0 (w7.heap[gx]? = some (.cells #[.int .i64 x.f0, .int .u8 x.f1, .int .u8 x.f2, .int .i64 x.f3] 55 (0, 0))) := ⟨blk_below BX.out hb⟩
           have n_BR : Aside0 (w7.heap[gr]? = some (.cells #[.slice none 0 0, .slice none 0 0] 25 (0, 0))) := ⟨blk_below BR.out hb⟩
           have n_HB : Aside0 (Below w.heap.size w w7) := ⟨below_step HB.out hb⟩
           have n_HA : Aside0 (Kd.R k55 55 w7 w.heap.size (fun k => k ≠ gx ∧ some k ≠ sX.ownBlock) s17 ([] : List S55)) := ⟨Kd.R_below HA.out hb⟩
           have n_HL : Aside0 (Kd.R k55 55 w7 w.heap.size (fun _ => True) sX [x]) := ⟨Kd.R_below HL.out hb⟩
           have n_BG : Aside0 (w7.heap[gq]? = some (.cells #[.slice none 0 0, .slice none 0 0] 25 (0, 0)) ∧ w.heap.size ≤ gq ∧ gb ≠ gq ∧ gr ≠ gq) := ⟨⟨hbox, by rw [hgq]; exact HB.out.size, by rw [hgq]; exact Nat.ne_of_lt (blk_lt BB.out), by rw [hgq]; exact Nat.ne_of_lt (blk_lt BR.out)⟩⟩
           clear BB BX BR HB HA HL
           have BB := n_BB
           have BX := n_BX
           have BR := n_BR
           have HB := n_HB
           have HA := n_HA
           have HL := n_HL
           have BG := n_BG
           clear n_BB n_BX n_BR n_HB n_HA n_HL n_BG
           refine hK.out _ _ ⟨((blk_cell BB.out 1).trans rfl), ((blk_cell BX.out 0).trans rfl), ((blk_cell BX.out 1).trans rfl), ((blk_cell BX.out 2).trans rfl), ((blk_cell BX.out 3).trans rfl)⟩ (fun hHeld => ?_)
           clear hK K
           refine norm_ (a' := ?_) ?_ ?_
           rotate_left
           ·show Act.put _ (some 6) _ = _
            simp only [Act.put, zt0, zt1, zt2, i64_w, i32_w]
            rfl
           exact norm_ (by first | (simp only [putAll, Act.put, zt0, zt1, zt2]; done) | (simp only [putAll, Act.put, zt0, zt1, zt2]; rfl)) (hJ0_5_8 (s17, sX, gq) _ ⟨hHeld, BB.out, BX.out, BR.out, HB.out, HA.out, HL.out, BG.out⟩)
        ·skip
         rintro ⟨s17, s20⟩ w' ⟨hHeld, fBB, fBX, fBR, fHB, fHA⟩
         have BB := Aside0.mk fBB
         have BX := Aside0.mk fBX
         have BR := Aside0.mk fBR
         have HB := Aside0.mk fHB
         have HA := Aside0.mk fHA
         clear fBB fBX fBR fHB fHA
         refine norm_ (a' := ?_) ?_ ?_
         rotate_left
         ·simp only [putAll, Act.put, zt0, zt1, zt2]
          rfl
         refine two_ (i := 5) (j := 8) (Ni := some 22) (Nj := some 6) (zB 6 4) #[true, true, true, true, true, false, false, false, true, false] rfl rfl rfl rfl (two_of HT_.out (by kernel_rfl)) (by decide) (by decide) (fun K hK => ?_) (fun K hK => ?_)
         ·skip
          refine Kd.R_lit_step k55 _ 55 ?hg (N := 22) ?hd (xs := [x]) (inner := [.int .i64 x.f0, .int .u8 x.f1, .int .u8 x.f2, .int .i64 x.f3]) (ok := fun _ => True) (okp := fun _ => True) ?hr ?hp (fun _ hk => hk) trivial (Below.refl _ _) (Nat.le_refl _) (by simp) ?_; (case hd => rfl); (case hg => rfl); (case hr => first | (go_simp; done) | (go_simp; rfl)); (case hp => exact Reps.snoc (Reps.none _ _) (k55_mkM _ _ _ x) rfl)
          intro vX_ w7 ho hb hg_ hnew_
          obtain ⟨bX_, hbX_, hleX_⟩ := hnew_
          clear hg_
          have n_BB : Aside0 (w7.heap[gb]? = some (.cells #[.slice A0_0 l0_0.length c0_0, .slice A0_1 l0_1.length c0_1] 25 (0, 0))) := ⟨blk_below BB.out hb⟩
          have n_BX : Aside0 (w7.heap[gx]? = some (.cells #[.int .i64 x.f0, .int .u8 x.f1, .int .u8 x.f2, .int .i64 x.f3] 55 (0, 0))) := ⟨blk_below BX.out hb⟩
          have n_BR : Aside0 (w7.heap[gr]? = some (.cells #[.slice none 0 0, .slice none 0 0] 25 (0, 0))) := ⟨blk_below BR.out hb⟩
          have n_HB : Aside0 (Below w.heap.size w w7) := ⟨below_step HB.out hb⟩
          have n_HA : Aside0 (Kd.R k55 55 w7 w.heap.size (fun k => k ≠ gx ∧ some k ≠ vX_.ownBlock) s20 l0_1) := ⟨Kd.R_elder' HA.out (fun k hk => by rw [hbX_] at hk; injection hk with hk; omega) hb⟩
          have n_HL : Aside0 (Kd.R k55 55 w7 w.heap.size (fun _ => True) vX_ [x]) := ⟨Kd.R_lower ho HB.out.size⟩
          clear BB BX BR HB HA
          have BB := n_BB
          have BX := n_BX
          have BR := n_BR
          have HB := n_HB
          have HA := n_HA
          have HL := n_HL
          clear n_BB n_BX n_BR n_HB n_HA n_HL
          refine hK.out _ _ ⟨((blk_cell BB.out 1).trans rfl), ((blk_cell BX.out 0).trans rfl), ((blk_cell BX.out 1).trans rfl), ((blk_cell BX.out 2).trans rfl), ((blk_cell BX.out 3).trans rfl)⟩ (fun hHeld => ?_)
          clear hK K
          refine norm_ (a' := ?_) ?_ ?_
          rotate_left
          ·show Act.put _ (some 22) _ = _
           simp only [Act.put, zt0, zt1, zt2, i64_w, i32_w]
           rfl
          exact norm_ (by first | (simp only [putAll, Act.put, zt0, zt1, zt2]; done) | (simp only [putAll, Act.put, zt0, zt1, zt2]; rfl)) (hJ0_3_5 (s17, s20, vX_) _ ⟨hHeld, BB.out, BX.out, BR.out, HB.out, HA.out, HL.out⟩)
         ·skip
          refine box_step ?hg (N := 6) ?hd (cs := #[.slice none 0 0, .slice none 0 0]) (t := 25) ?hr ?_; (case hd => rfl); (case hg => rfl); (case hr => first | (go_simp; done) | (go_simp; rfl))
          intro gq hgq w7 hbox hb
          have n_BB : Aside0 (w7.heap[gb]? = some (.cells #[.slice A0_0 l0_0.length c0_0, .slice A0_1 l0_1.length c0_1] 25 (0, 0))) := ⟨blk_below BB.out hb⟩
          have n_BX : Aside0 (w7.heap[gx]? = some (.cells #[.int .i64 x.f0, .int .u8 x.f1, .int .u8 x.f2, .int .i64 x.f3] 55 (0, 0))) := ⟨blk_below BX.out hb⟩
          have n_BR : Aside0 (w7.heap[gr]? = some (.cells #[.slice none 0 0, .slice none 0 0] 25 (0, 0))) := ⟨blk_below BR.out hb⟩
          have n_HB : Aside0 (Below w.heap.size w w7) := ⟨below_step HB.out hb⟩
          have n_HA : Aside0 (Kd.R k55 55 w7 w.heap.size (fun k => k ≠ gx) s20 l0_1) := ⟨Kd.R_below HA.out hb⟩
          have n_BG : Aside0 (w7.heap[gq]? = some (.cells #[.slice none 0 0, .slice none 0 0] 25 (0, 0)) ∧ w.heap.size ≤ gq ∧ gb ≠ gq ∧ gr ≠ gq) := ⟨⟨hbox, by rw [hgq]; exact HB.out.size, by rw [hgq]; exact Nat.ne_of_lt (blk_lt BB.out), by rw [hgq]; exact Nat.ne_of_lt (blk_lt BR.out)⟩⟩
          clear BB BX BR HB HA
          have BB := n_BB
          have BX := n_BX
          have BR := n_BR
          have HB := n_HB
          have HA := n_HA
          have BG := n_BG
          clear n_BB n_BX n_BR n_HB n_HA n_BG
          refine hK.out _ _ ⟨((blk_cell BB.out 1).trans rfl), ((blk_cell BX.out 0).trans rfl), ((blk_cell BX.out 1).trans rfl), ((blk_cell BX.out 2).trans rfl), ((blk_cell BX.out 3).trans rfl)⟩ (fun hHeld => ?_)
          clear hK K
          refine norm_ (a' := ?_) ?_ ?_
          rotate_left
          ·show Act.put _ (some 6) _ = _
           simp only [Act.put, zt0, zt1, zt2, i64_w, i32_w]
           rfl
          exact norm_ (by first | (simp only [putAll, Act.put, zt0, zt1, zt2]; done) | (simp only [putAll, Act.put, zt0, zt1, zt2]; rfl)) (hJ0_3_8 (s17, s20, gq) _ ⟨hHeld, BB.out, BX.out, BR.out, HB.out, HA.out, BG.out⟩)
       ·skip
        rintro ⟨s17, sX, g6⟩ w' ⟨hHeld, fBB, fBX, fBR, fHB, fHA, fHL, fBG⟩
        have BB := Aside0.mk fBB
        have BX := Aside0.mk fBX
        have BR := Aside0.mk fBR
        have HB := Aside0.mk fHB
        have HA := Aside0.mk fHA
        have HL := Aside0.mk fHL
        have BG := Aside0.mk fBG
        clear fBB fBX fBR fHB fHA fHL fBG
        refine norm_ (a' := ?_) ?_ ?_
        rotate_left
        ·simp only [putAll, Act.put, zt0, zt1, zt2]
         rfl
        refine one_ (i := 3) (N := some 20) #[true, true, true, true, true, true, false, false, true, false] rfl rfl (one_of HT_.out (by kernel_rfl)) (by decide) (fun K hK => ?_)
        refine Kd.R_append_rows_step k55 (w0 := w) w.heap.size (by rfl) (.tmp 17) (.tmp 19) 23 55 (.agg #[.int .i64 0, .int .u8 0, .int .u8 0, .int .i64 0]) 24 rfl Try.underlying23 info55 rfl (by decide) (by omega) s17 [] l0_1 _ _ _ (fun k => k ≠ gx ∧ some k ≠ sX.ownBlock) (fun _ => False) rfl rfl HA.out (Kd.C_below HR1.out HB.out) (fun _ _ h => h) (fun _ h => h.elim) (fun k hk => ⟨fun he => by have := blk_lt BX.out; omega, fun he => by have := own_lt (Kd.R_own HL.out).choose_spec k he.symm; omega⟩) HB.out HB.out.size (by have := HL1.out; simp only [List.length_nil]; omega) ?_
        intro vB_ w7 ho hb hg hat
        clear hat
        have n_BB : Aside0 (w7.heap[gb]? = some (.cells #[.slice A0_0 l0_0.length c0_0, .slice A0_1 l0_1.length c0_1] 25 (0, 0))) := ⟨blk_grown BB.out hg (Kd.R_ne HA.out BB.out (by decide))⟩
        have n_BX : Aside0 (w7.heap[gx]? = some (.cells #[.int .i64 x.f0, .int .u8 x.f1, .int .u8 x.f2, .int .i64 x.f3] 55 (0, 0))) := ⟨blk_grown BX.out hg (fun he => absurd rfl (HA.out.1 gx he.symm).1)⟩
        have n_BR : Aside0 (w7.heap[gr]? = some (.cells #[.slice none 0 0, .slice none 0 0] 25 (0, 0))) := ⟨blk_grown BR.out hg (Kd.R_ne HA.out BR.out (by decide))⟩
        have n_HB : Aside0 (Below w.heap.size w w7) := ⟨hb⟩
        have n_HA : Aside0 (Kd.R k55 55 w7 w.heap.size (fun k => k ≠ gx ∧ some k ≠ sX.ownBlock) vB_ l0_1) := ⟨ho⟩
        have n_HL : Aside0 (Kd.R k55 55 w7 w.heap.size (fun _ => True) sX [x]) := ⟨Kd.R_grown2 HL.out rfl hg (fun k hk => (HA.out.1 k hk).2)⟩
        have n_BG : Aside0 (w7.heap[g6]? = some (.cells #[.slice none 0 0, .slice none 0 0] 25 (0, 0)) ∧ w.heap.size ≤ g6 ∧ gb ≠ g6 ∧ gr ≠ g6) := ⟨⟨blk_grown BG.out.1 hg (Kd.R_ne HA.out BG.out.1 (by decide)), BG.out.2⟩⟩
        clear BB BX BR HB HA HL BG
        have BB := n_BB
        have BX := n_BX
        have BR := n_BR
        have HB := n_HB
        have HA := n_HA
        have HL := n_HL
        have BG := n_BG
        clear n_BB n_BX n_BR n_HB n_HA n_HL n_BG
        refine hK.out _ _ ⟨((blk_cell BB.out 1).trans rfl), ((blk_cell BX.out 0).trans rfl), ((blk_cell BX.out 1).trans rfl), ((blk_cell BX.out 2).trans rfl), ((blk_cell BX.out 3).trans rfl)⟩ (fun hHeld => ?_)
        clear hK K
        refine norm_ (a' := ?_) ?_ ?_
        rotate_left
        ·show Act.put _ (some 20) _ = _
         simp only [Act.put, zt0, zt1, zt2, i64_w, i32_w]
         rfl
        exact norm_ (by first | (simp only [putAll, Act.put, zt0, zt1, zt2]; done) | (simp only [putAll, Act.put, zt0, zt1, zt2]; rfl)) (hJ0_3_5_8 (s17, vB_, sX, g6) _ ⟨hHeld, BB.out, BX.out, BR.out, HB.out, HA.out, HL.out, BG.out⟩)
      ·skip
       rintro ⟨s17, s20, g6⟩ w' ⟨hHeld, fBB, fBX, fBR, fHB, fHA, fBG⟩
       have BB := Aside0.mk fBB
       have BX := Aside0.mk fBX
       have BR := Aside0.mk fBR
       have HB := Aside0.mk fHB
       have HA := Aside0.mk fHA
       have BG := Aside0.mk fBG
       clear fBB fBX fBR fHB fHA fBG
       refine norm_ (a' := ?_) ?_ ?_
       rotate_left
       ·simp only [putAll, Act.put, zt0, zt1, zt2]
        rfl
       refine one_ (i := 5) (N := some 22) #[true, true, true, true, true, true, false, false, true, false] rfl rfl (one_of HT_.out (by kernel_rfl)) (by decide) (fun K hK => ?_)
       refine Kd.R_lit_step k55 _ 55 ?hg (N := 22) ?hd (xs := [x]) (inner := [.int .i64 x.f0, .int .u8 x.f1, .int .u8 x.f2, .int .i64 x.f3]) (ok := fun _ => True) (okp := fun _ => True) ?hr ?hp (fun _ hk => hk) trivial (Below.refl _ _) (Nat.le_refl _) (by simp) ?_; (case hd => rfl); (case hg => rfl); (case hr => first | (go_simp; done) | (go_simp; rfl)); (case hp => exact Reps.snoc (Reps.none _ _) (k55_mkM _ _ _ x) rfl)
       intro vX_ w7 ho hb hg_ hnew_
       obtain ⟨bX_, hbX_, hleX_⟩ := hnew_
       clear hg_
       have n_BB : Aside0 (w7.heap[gb]? = some (.cells #[.slice A0_0 l0_0.length c0_0, .slice A0_1 l0_1.length c0_1] 25 (0, 0))) := ⟨blk_below BB.out hb⟩
       have n_BX : Aside0 (w7.heap[gx]? = some (.cells #[.int .i64 x.f0, .int .u8 x.f1, .int .u8 x.f2, .int .i64 x.f3] 55 (0, 0))) := ⟨blk_below BX.out hb⟩
       have n_BR : Aside0 (w7.heap[gr]? = some (.cells #[.slice none 0 0, .slice none 0 0] 25 (0, 0))) := ⟨blk_below BR.out hb⟩
       have n_HB : Aside0 (Below w.heap.size w w7) := ⟨below_step HB.out hb⟩
       have n_HA : Aside0 (Kd.R k55 55 w7 w.heap.size (fun k => k ≠ gx ∧ some k ≠ vX_.ownBlock) s20 l0_1) := ⟨Kd.R_elder' HA.out (fun k hk => by rw [hbX_] at hk; injection hk with hk; omega) hb⟩
       have n_HL : Aside0 (Kd.R k55 55 w7 w.heap.size (fun _ => True) vX_ [x]) := ⟨Kd.R_lower ho HB.out.size⟩
       have n_BG : Aside0 (w7.heap[g6]? = some (.cells #[.slice none 0 0, .slice none 0 0] 25 (0, 0)) ∧ w.heap.size ≤ g6 ∧ gb ≠ g6 ∧ gr ≠ g6) := ⟨⟨blk_below BG.out.1 hb, BG.out.2⟩⟩
       clear BB BX BR HB HA BG
       have BB := n_BB
       have BX := n_BX
       have BR := n_BR
       have HB := n_HB
       have HA := n_HA
       have HL := n_HL
       have BG := n_BG
       clear n_BB n_BX n_BR n_HB n_HA n_HL n_BG
       refine hK.out _ _ ⟨((blk_cell BB.out 1).trans rfl), ((blk_cell BX.out 0).trans rfl), ((blk_cell BX.out 1).trans rfl), ((blk_cell BX.out 2).trans rfl), ((blk_cell BX.out 3).trans rfl)⟩ (fun hHeld => ?_)
       clear hK K
       refine norm_ (a' := ?_) ?_ ?_
       rotate_left
       ·show Act.put _ (some 22) _ = _
        simp only [Act.put, zt0, zt1, zt2, i64_w, i32_w]
        rfl
       exact norm_ (by first | (simp only [putAll, Act.put, zt0, zt1, zt2]; done) | (simp only [putAll, Act.put, zt0, zt1, zt2]; rfl)) (hJ0_3_5_8 (s17, s20, vX_, g6) _ ⟨hHeld, BB.out, BX.out, BR.out, HB.out, HA.out, HL.out, BG.out⟩)
     ·skip
      rintro ⟨s17, s20, sX⟩ w' ⟨hHeld, fBB, fBX, fBR, fHB, fHA, fHL⟩
      have BB := Aside0.mk fBB
      have BX := Aside0.mk fBX
      have BR := Aside0.mk fBR
      have HB := Aside0.mk fHB
      have HA := Aside0.mk fHA
      have HL := Aside0.mk fHL
      clear fBB fBX fBR fHB fHA fHL
      refine norm_ (a' := ?_) ?_ ?_
      rotate_left
      ·simp only [putAll, Act.put, zt0, zt1, zt2]
       rfl
      refine two_ (i := 6) (j := 8) (Ni := some 23) (Nj := some 6) (zB 7 3) #[true, true, true, true, true, true, false, false, true, false] rfl rfl rfl rfl (two_of HT_.out (by kernel_rfl)) (by decide) (by decide) (fun K hK => ?_) (fun K hK => ?_)
      ·skip
       obtain ⟨AX_, cX_, rfl⟩ := Kd.R_slice HL.out
       refine Kd.R_append_rows_step k55 (w0 := w) w.heap.size (by rfl) (.tmp 20) (.tmp 22) 23 55 (.agg #[.int .i64 0, .int .u8 0, .int .u8 0, .int .i64 0]) 24 rfl Try.underlying23 info55 rfl (by decide) (by omega) s20 l0_1 [x] _ _ _ (fun k => k ≠ gx) (fun _ => False) rfl rfl (Kd.R_mono HA.out (fun _ hk => hk.1)) (Kd.R_reads' HL.out).2.2 (fun _ _ h => h) (fun _ h => h.elim) (fun k hk => fun he => by have := blk_lt BX.out; omega) HB.out HB.out.size (by have := HL1.out; simp only [List.length_cons, List.length_nil]; omega) ?_
       intro vC_ w7 ho hb hg hat
       clear hat
       obtain ⟨AC_, cC_, hvC⟩ := Kd.R_slice ho
       rw [show (l0_1 ++ [x]).length = l0_1.length + 1 by simp] at hvC
       subst hvC
       have n_BB : Aside0 (w7.heap[gb]? = some (.cells #[.slice A0_0 l0_0.length c0_0, .slice A0_1 l0_1.length c0_1] 25 (0, 0))) := ⟨blk_grown BB.out hg (Kd.R_ne HA.out BB.out (by decide))⟩
       have n_BX : Aside0 (w7.heap[gx]? = some (.cells #[.int .i64 x.f0, .int .u8 x.f1, .int .u8 x.f2, .int .i64 x.f3] 55 (0, 0))) := ⟨blk_grown BX.out hg (fun he => absurd rfl (HA.out.1 gx he.symm).1)⟩
       have n_BR : Aside0 (w7.heap[gr]? = some (.cells #[.slice none 0 0, .slice none 0 0] 25 (0, 0))) := ⟨blk_grown BR.out hg (Kd.R_ne HA.out BR.out (by decide))⟩
       have n_HB : Aside0 (Below w.heap.size w w7) := ⟨hb⟩
       have n_HA : Aside0 (Kd.R k55 55 w7 w.heap.size (fun k => k ≠ gx) (.slice AC_ (l0_1.length + 1) cC_) (l0_1 ++ [x])) := ⟨ho⟩
       clear BB BX BR HB HA HL
       have BB := n_BB
       have BX := n_BX
       have BR := n_BR
       have HB := n_HB
       have HA := n_HA
       clear n_BB n_BX n_BR n_HB n_HA
       refine hK.out _ _ ⟨((blk_cell BB.out 1).trans rfl), ((blk_cell BX.out 0).trans rfl), ((blk_cell BX.out 1).trans rfl), ((blk_cell BX.out 2).trans rfl), ((blk_cell BX.out 3).trans rfl)⟩ (fun hHeld => ?_)
       clear hK K
       refine norm_ (a' := ?_) ?_ ?_
       rotate_left
       ·show Act.put _ (some 23) _ = _
        simp only [Act.put, zt0, zt1, zt2, i64_w, i32_w]
        rfl
       refine pure_ (i := 7) (N := some 24) (v := ?_) (a' := ?_) (zB 8 2) rfl rfl (any_of HT_.out (by kernel_rfl)) (fun _ _ _ h => h) (Or.inl ⟨by rfl, ?_⟩) ?_ ?_
       rotate_left
       ·intro w'
        go_simp
        with_reducible rfl
       rotate_left
       ·simp only [Act.put, zt0, zt1, zt2, i64_w, i32_w]
        rfl
       exact norm_ (by first | (simp only [putAll, Act.put, zt0, zt1, zt2]; done) | (simp only [putAll, Act.put, zt0, zt1, zt2]; rfl)) (hJ0_3_5_6 (s17, s20, (.slice AX_ [x].length cX_), AC_, cC_) _ ⟨hHeld, BB.out, BX.out, BR.out, HB.out, HA.out⟩)
      ·skip
       refine box_step ?hg (N := 6) ?hd (cs := #[.slice none 0 0, .slice none 0 0]) (t := 25) ?hr ?_; (case hd => rfl); (case hg => rfl); (case hr => first | (go_simp; done) | (go_simp; rfl))
       intro gq hgq w7 hbox hb
       have n_BB : Aside0 (w7.heap[gb]? = some (.cells #[.slice A0_0 l0_0.length c0_0, .slice A0_1 l0_1.length c0_1] 25 (0, 0))) := ⟨blk_below BB.out hb⟩
       have n_BX : Aside0 (w7.heap[gx]? = some (.cells #[.int .i64 x.f0, .int .u8 x.f1, .int .u8 x.f2, .int .i64 x.f3] 55 (0, 0))) := ⟨blk_below BX.out hb⟩
       have n_BR : Aside0 (w7.heap[gr]? = some (.cells #[.slice none 0 0, .slice none 0 0] 25 (0, 0))) := ⟨blk_below BR.out hb⟩
       have n_HB : Aside0 (Below w.heap.size w w7) := ⟨below_step HB.out hb⟩
       have n_HA : Aside0 (Kd.R k55 55 w7 w.heap.size (fun k => k ≠ gx ∧ some k ≠ sX.ownBlock) s20 l0_1) := ⟨Kd.R_below HA.out hb⟩
       have n_HL : Aside0 (Kd.R k55 55 w7 w.heap.size (fun _ => True) sX [x]) := ⟨Kd.R_below HL.out hb⟩
       have n_BG : Aside0 (w7.heap[gq]? = some (.cells #[.slice none 0 0, .slice none 0 0] 25 (0, 0)) ∧ w.heap.size ≤ gq ∧ gb ≠ gq ∧ gr ≠ gq) := ⟨⟨hbox, by rw [hgq]; exact HB.out.size, by rw [hgq]; exact Nat.ne_of_lt (blk_lt BB.out), by rw [hgq]; exact Nat.ne_of_lt (blk_lt BR.out)⟩⟩
       clear BB BX BR HB HA HL
       have BB := n_BB
       have BX := n_BX
       have BR := n_BR
       have HB := n_HB
       have HA := n_HA
       have HL := n_HL
       have BG := n_BG
       clear n_BB n_BX n_BR n_HB n_HA n_HL n_BG
       refine hK.out _ _ ⟨((blk_cell BB.out 1).trans rfl), ((blk_cell BX.out 0).trans rfl), ((blk_cell BX.out 1).trans rfl), ((blk_cell BX.out 2).trans rfl), ((blk_cell BX.out 3).trans rfl)⟩ (fun hHeld => ?_)
       clear hK K
       refine norm_ (a' := ?_) ?_ ?_
       rotate_left
       ·show Act.put _ (some 6) _ = _
        simp only [Act.put, zt0, zt1, zt2, i64_w, i32_w]
        rfl
       exact norm_ (by first | (simp only [putAll, Act.put, zt0, zt1, zt2]; done) | (simp only [putAll, Act.put, zt0, zt1, zt2]; rfl)) (hJ0_3_5_8 (s17, s20, sX, gq) _ ⟨hHeld, BB.out, BX.out, BR.out, HB.out, HA.out, HL.out, BG.out⟩)
    ·skip
     rintro ⟨s17, s20, sX, g6⟩ w' ⟨hHeld, fBB, fBX, fBR, fHB, fHA, fHL, fBG⟩
     have BB := Aside0.mk fBB
     have BX := Aside0.mk fBX
     have BR := Aside0.mk fBR
     have HB := Aside0.mk fHB
     have HA := Aside0.mk fHA
     have HL := Aside0.mk fHL
     have BG := Aside0.mk fBG
     clear fBB fBX fBR fHB fHA fHL fBG
     refine norm_ (a' := ?_) ?_ ?_
     rotate_left
     ·simp only [putAll, Act.put, zt0, zt1, zt2]
      rfl
     refine one_ (i := 6) (N := some 23) #[true, true, true, true, true, true, true, false, true, false] rfl rfl (one_of HT_.out (by kernel_rfl)) (by decide) (fun K hK => ?_)
     obtain ⟨AX_, cX_, rfl⟩ := Kd.R_slice HL.out
     refine Kd.R_append_rows_step k55 (w0 := w) w.heap.size (by rfl) (.tmp 20) (.tmp 22) 23 55 (.agg #[.int .i64 0, .int .u8 0, .int .u8 0, .int .i64 0]) 24 rfl Try.underlying23 info55 rfl (by decide) (by omega) s20 l0_1 [x] _ _ _ (fun k => k ≠ gx) (fun _ => False) rfl rfl (Kd.R_mono HA.out (fun _ hk => hk.1)) (Kd.R_reads' HL.out).2.2 (fun _ _ h => h) (fun _ h => h.elim) (fun k hk => fun he => by have := blk_lt BX.out; omega) HB.out HB.out.size (by have := HL1.out; simp only [List.length_cons, List.length_nil]; omega) ?_
     intro vC_ w7 ho hb hg hat
     clear hat
     obtain ⟨AC_, cC_, hvC⟩ := Kd.R_slice ho
     rw [show (l0_1 ++ [x]).length = l0_1.length + 1 by simp] at hvC
     subst hvC
     have n_BB : Aside0 (w7.heap[gb]? = some (.cells #[.slice A0_0 l0_0.length c0_0, .slice A0_1 l0_1.length c0_1] 25 (0, 0))) := ⟨blk_grown BB.out hg (Kd.R_ne HA.out BB.out (by decide))⟩
     have n_BX : Aside0 (w7.heap[gx]? = some (.cells #[.int .i64 x.f0, .int .u8 x.f1, .int .u8 x.f2, .int .i64 x.f3] 55 (0, 0))) := ⟨blk_grown BX.out hg (fun he => absurd rfl (HA.out.1 gx he.symm).1)⟩
     have n_BR : Aside0 (w7.heap[gr]? = some (.cells #[.slice none 0 0, .slice none 0 0] 25 (0, 0))) := ⟨blk_grown BR.out hg (Kd.R_ne HA.out BR.out (by decide))⟩
     have n_HB : Aside0 (Below w.heap.size w w7) := ⟨hb⟩
     have n_HA : Aside0 (Kd.R k55 55 w7 w.heap.size (fun k => k ≠ gx) (.slice AC_ (l0_1.length + 1) cC_) (l0_1 ++ [x])) := ⟨ho⟩
     have n_BG : Aside0 (w7.heap[g6]? = some (.cells #[.slice none 0 0, .slice none 0 0] 25 (0, 0)) ∧ w.heap.size ≤ g6 ∧ gb ≠ g6 ∧ gr ≠ g6) := ⟨⟨blk_grown BG.out.1 hg (Kd.R_ne HA.out BG.out.1 (by decide)), BG.out.2⟩⟩
     clear BB BX BR HB HA HL BG
     have BB := n_BB
     have BX := n_BX
     have BR := n_BR
     have HB := n_HB
     have HA := n_HA
     have BG := n_BG
     clear n_BB n_BX n_BR n_HB n_HA n_BG
     refine hK.out _ _ ⟨((blk_cell BB.out 1).trans rfl), ((blk_cell BX.out 0).trans rfl), ((blk_cell BX.out 1).trans rfl), ((blk_cell BX.out 2).trans rfl), ((blk_cell BX.out 3).trans rfl)⟩ (fun hHeld => ?_)
     clear hK K
     refine norm_ (a' := ?_) ?_ ?_
     rotate_left
     ·show Act.put _ (some 23) _ = _
      simp only [Act.put, zt0, zt1, zt2, i64_w, i32_w]
      rfl
     refine pure_ (i := 7) (N := some 24) (v := ?_) (a' := ?_) (zB 9 1) rfl rfl (any_of HT_.out (by kernel_rfl)) (fun _ _ _ h => h) (Or.inl ⟨by rfl, ?_⟩) ?_ ?_
     rotate_left
     ·intro w'
      go_simp
      with_reducible rfl
     rotate_left
     ·simp only [Act.put, zt0, zt1, zt2, i64_w, i32_w]
      rfl
     exact norm_ (by first | (simp only [putAll, Act.put, zt0, zt1, zt2]; done) | (simp only [putAll, Act.put, zt0, zt1, zt2]; rfl)) (hJ0_3_5_6_8 (s17, s20, (.slice AX_ [x].length cX_), AC_, cC_, g6) _ ⟨hHeld, BB.out, BX.out, BR.out, HB.out, HA.out, BG.out⟩)
   ·skip
    rintro ⟨s17, s20, sX, A23, c23⟩ w' ⟨hHeld, fBB, fBX, fBR, fHB, fHA⟩
    have BB := Aside0.mk fBB
    have BX := Aside0.mk fBX
    have BR := Aside0.mk fBR
    have HB := Aside0.mk fHB
    have HA := Aside0.mk fHA
    clear fBB fBX fBR fHB fHA
    refine norm_ (a' := ?_) ?_ ?_
    rotate_left
    ·simp only [putAll, Act.put, zt0, zt1, zt2]
     rfl
    refine one_ (i := 8) (N := some 6) (zB 9 1) rfl rfl (one_of HT_.out (by kernel_rfl)) (by decide) (fun K hK => ?_)
    refine box_step ?hg (N := 6) ?hd (cs := #[.slice none 0 0, .slice none 0 0]) (t := 25) ?hr ?_; (case hd => rfl); (case hg => rfl); (case hr => first | (go_simp; done) | (go_simp; rfl))
    intro gq hgq w7 hbox hb
    have n_BB : Aside0 (w7.heap[gb]? = some (.cells #[.slice A0_0 l0_0.length c0_0, .slice A0_1 l0_1.length c0_1] 25 (0, 0))) := ⟨blk_below BB.out hb⟩
    have n_BX : Aside0 (w7.heap[gx]? = some (.cells #[.int .i64 x.f0, .int .u8 x.f1, .int .u8 x.f2, .int .i64 x.f3] 55 (0, 0))) := ⟨blk_below BX.out hb⟩
    have n_BR : Aside0 (w7.heap[gr]? = some (.cells #[.slice none 0 0, .slice none 0 0] 25 (0, 0))) := ⟨blk_below BR.out hb⟩
    have n_HB : Aside0 (Below w.heap.size w w7) := ⟨below_step HB.out hb⟩
    have n_HA : Aside0 (Kd.R k55 55 w7 w.heap.size (fun k => k ≠ gx) (.slice A23 (l0_1.length + 1) c23) (l0_1 ++ [x])) := ⟨Kd.R_below HA.out hb⟩
    have n_BG : Aside0 (w7.heap[gq]? = some (.cells #[.slice none 0 0, .slice none 0 0] 25 (0, 0)) ∧ w.heap.size ≤ gq ∧ gb ≠ gq ∧ gr ≠ gq) := ⟨⟨hbox, by rw [hgq]; exact HB.out.size, by rw [hgq]; exact Nat.ne_of_lt (blk_lt BB.out), by rw [hgq]; exact Nat.ne_of_lt (blk_lt BR.out)⟩⟩
    clear BB BX BR HB HA
    have BB := n_BB
    have BX := n_BX
    have BR := n_BR
    have HB := n_HB
    have HA := n_HA
    have BG := n_BG
    clear n_BB n_BX n_BR n_HB n_HA n_BG
    refine hK.out _ _ ⟨((blk_cell BB.out 1).trans rfl), ((blk_cell BX.out 0).trans rfl), ((blk_cell BX.out 1).trans rfl), ((blk_cell BX.out 2).trans rfl), ((blk_cell BX.out 3).trans rfl)⟩ (fun hHeld => ?_)
    clear hK K
    refine norm_ (a' := ?_) ?_ ?_
    rotate_left
    ·show Act.put _ (some 6) _ = _
     simp only [Act.put, zt0, zt1, zt2, i64_w, i32_w]
     rfl
    exact norm_ (by first | (simp only [putAll, Act.put, zt0, zt1, zt2]; done) | (simp only [putAll, Act.put, zt0, zt1, zt2]; rfl)) (hJ0_3_5_6_8 (s17, s20, sX, A23, c23, gq) _ ⟨hHeld, BB.out, BX.out, BR.out, HB.out, HA.out, BG.out⟩)
  rintro ⟨s17, s20, sX, A23, c23, g6⟩ w' ⟨hHeld, fBB, fBX, fBR, fHB, fHA, fBG⟩
  have BB := Aside0.mk fBB
  have BX := Aside0.mk fBX
  have BR := Aside0.mk fBR
  have HB := Aside0.mk fHB
  have HA := Aside0.mk fHA
  have BG := Aside0.mk fBG
  clear fBB fBX fBR fHB fHA fBG
  refine norm_ (a' := ?_) ?_ ?_
  rotate_left
  ·simp only [putAll, Act.put, zt0, zt1, zt2]
   rfl
  refine last_ (i := 9) (N := none) (zB 10 0) rfl rfl (one_of HT_.out (by kernel_rfl)) (by decide) (fun K hK => ?_)
  have hq0 := (blk_cell BG.out.1 0).trans rfl
  have hq1 := (blk_cell BG.out.1 1).trans rfl
  have hf0 := blk_frozen BG.out.1 0
  have hf1 := blk_frozen BG.out.1 1
  refine skip_ (w1 := ?_) (by rfl) rfl ?_ ?_
  rotate_left
  ·go_simp
   rfl
  refine hK.out _ _ ?_
  clear hK K
  refine done_ (done_of HT_.out (by kernel_rfl)) ?_
  have N1 : Aside0 ((((w'.setCell ⟨g6, 0, none⟩ (.slice none 0 0)).setCell ⟨g6, 1, none⟩ (.slice A23 (l0_1.length + 1) c23))).heap[g6]? = some (.cells #[.slice none 0 0, (.slice A23 (l0_1.length + 1) c23)] 25 (0, 0))) := ⟨set2B BG.out.1 _ _⟩
  have N2 := Aside0.mk (set2R HA.out BG.out.1 (by decide) (.slice none 0 0) (.slice A23 (l0_1.length + 1) c23))
  have N3 := Aside0.mk (set2F BB.out BG.out.2.2.1 (.slice none 0 0) (.slice A23 (l0_1.length + 1) c23))
  have N4 := Aside0.mk (set2F BX.out (blk_ne BX.out BG.out.1 (by decide)) (.slice none 0 0) (.slice A23 (l0_1.length + 1) c23))
  have N5 := Aside0.mk (set2F BR.out BG.out.2.2.2 (.slice none 0 0) (.slice A23 (l0_1.length + 1) c23))
  have N6 := Aside0.mk (set2W HB.out BG.out.2.1 (.slice none 0 0) (.slice A23 (l0_1.length + 1) c23))
  go_wp2_with fail
  go_meet
  case rel => exact ⟨g6, (.slice A23 (l0_1.length + 1) c23), rfl, ⟨BG.out.2⟩, N1, N2, N3, N4, N5, N6⟩
 case rest =>
  clear BB BX BR HB
  obtain ⟨g6, v, rfl, G6, BG, HA, BB, BX, BR, HB⟩ := hcut
  obtain ⟨q, hq⟩ : ∃ q, q = l0_1 ++ [x] := ⟨_, rfl⟩
  rw [← hq] at HA
  have HQL : Aside0 (q.length = l0_1.length + 1) := ⟨by rw [hq]; simp⟩
  have HQE := Aside0.mk hq
  clear hq
  obtain ⟨Av, cv, rfl⟩ := Kd.R_slice HA.out
  have hg1 := (blk_cell BG.out 1).trans rfl
  have hx0 : wc.cell? ⟨gx, 0, none⟩ = some (.int .i64 x.f0) := (blk_cell BX.out 0).trans rfl
  obtain ⟨fb, hfb⟩ : ∃ fb, fb = fitsN q x.f0 := ⟨_, rfl⟩
  obtain ⟨s, hs⟩ : ∃ s : S31, s = if fb = true then sumN q x.f0 else ⟨0, 0, 0, 0⟩ := ⟨_, rfl⟩
  have HSV : Aside0 (ladingref14_sums.f 65600 q x.f0 = some (s.f0, s.f1, s.f2, s.f3, fb)) := ⟨by rw [sums_is q x.f0 65600 (by have := HQL.out; have := HL1.out; omega) (by have := HQL.out; have := HL1.out; omega)]; unfold sumsV; rw [← hfb, hs]; cases fb <;> rfl⟩
  have HS := Aside0.mk hs
  have HFB := Aside0.mk hfb
  clear hs hfb
  go_wp2_with fail
  refine (ladingref14_sums.calls 65600 Av cv q x.f0 s.f0 s.f1 s.f2 s.f3 fb _ (Kd.R_reads' HA.out).2.2 (Kd.R_reads' HA.out).2.1 HSV.out).mono ?_
  rintro e w7 ⟨rfl, hb7⟩
  clear hg1 hx0 HSV
  go_upto_region 5 with (first | ((with_reducible refine gate_dst (N := 7) rfl ?_); refine box_event ?hg (N := 7) ?hd (cs := #[.int .i64 0, .int .i64 0, .int .i64 0, .int .i64 0]) (t := 31) ?hr ?_; (case hd => rfl); (case hg => rfl); (case hr => first | (go_simp; done) | (go_simp; rfl)); intro g7 hg7 w8 hbox hb; have hb8 := below_step hb7 hb; have BS := Aside0.mk hbox; have BB2 := Aside0.mk (blk_below BB.out hb8); have BX2 := Aside0.mk (blk_below BX.out hb8); have BR2 := Aside0.mk (blk_below BR.out hb8); have BG2 := Aside0.mk (blk_below BG.out hb8); have HA2 := Aside0.mk (Kd.R_below HA.out hb8); have HB2 := Aside0.mk (below_step HB.out hb8); have G7 : Aside0 (w.heap.size ≤ g7) := ⟨by rw [hg7]; exact Nat.le_trans HB.out.size hb7.size⟩; have hz0 := (blk_cell hbox 0).trans rfl; have hz1 := (blk_cell hbox 1).trans rfl; have hz2 := (blk_cell hbox 2).trans rfl; have hz3 := (blk_cell hbox 3).trans rfl; have hf0 := blk_frozen hbox 0; have hf1 := blk_frozen hbox 1; have hf2 := blk_frozen hbox 2; have hf3 := blk_frozen hbox 3; clear hbox hb hg7 hb8 BB BX BR BG HA HB))
  clear hb7
  have ST : Aside0 (ladingref14_with.St w ((((w8.setCell ⟨g7, 0, none⟩ (.int .i64 s.f0)).setCell ⟨g7, 1, none⟩ (.int .i64 s.f1)).setCell ⟨g7, 2, none⟩ (.int .i64 s.f2)).setCell ⟨g7, 3, none⟩ (.int .i64 s.f3)) gb gx gr g6 g7 A0_0 c0_0 l0_0 A0_1 c0_1 l0_1 x s (.slice Av q.length cv) (.slice none 0 0) q []) := ⟨⟨set4F BB2.out (blk_ne BB2.out BS.out (by decide)) _ _ _ _, set4F BX2.out (blk_ne BX2.out BS.out (by decide)) _ _ _ _, set4F BR2.out (blk_ne BR2.out BS.out (by decide)) _ _ _ _, set4B BS.out _ _ _ _, set4F BG2.out (blk_ne BG2.out BS.out (by decide)) _ _ _ _, Kd.R_nil _ _ _ _ _, set4R HA2.out BS.out (by decide) _ _ _ _, set4W HB2.out G7.out _ _ _ _⟩⟩
  clear hz0 hz1 hz2 hz3 hf0 hf1 hf2 hf3 BB2 BX2 BR2 BG2 HA2 HB2 BS
  obtain ⟨w9, hw9⟩ : ∃ w9, w9 = ((((w8.setCell ⟨g7, 0, none⟩ (.int .i64 s.f0)).setCell ⟨g7, 1, none⟩ (.int .i64 s.f1)).setCell ⟨g7, 2, none⟩ (.int .i64 s.f2)).setCell ⟨g7, 3, none⟩ (.int .i64 s.f3)) := ⟨_, rfl⟩
  rw [← hw9] at ST ⊢
  clear hw9
  cases fb with
  | false =>
   have HG : Aside0 (r1 = [] ∧ r2 = [] ∧ r3 = 5) := ⟨by have := HR2.out; rw [← HQE.out, ← HFB.out, if_neg (by decide)] at this; simp only [Prod.mk.injEq] at this; exact ⟨this.1.symm, this.2.1.symm, this.2.2.symm⟩⟩
   obtain ⟨rfl, rfl, rfl⟩ := HG.out
   have hr0 := (blk_cell ST.out.BR 0).trans rfl
   have hr1 := (blk_cell ST.out.BR 1).trans rfl
   have hq0 := blk_frozen ST.out.BR 0
   have hq1 := blk_frozen ST.out.BR 1
   clear HR2 HG
   go_wp2_with fail
   refine bodyPost_ret (results_ct rfl _ _ gr 25 #[.slice none 0 0, .slice none 0 0] (0, 0) _ rfl (set2B ST.out.BR _ _) Try.underlying25 rfl (by kernel_rfl)) rfl ⟨_, _, rfl, Kd.R_nil _ _ _ _ _, Kd.R_nil _ _ _ _ _, set2W ST.out.HB GR.out.1 _ _⟩
  | true =>
   have HG : Aside0 (withA s x.f0 l0_0 (noneP s) = r1 ∧ q = r2 ∧ 0 = r3) := ⟨by have := HR2.out; rw [← HQE.out, ← HFB.out, if_pos rfl, ← show s = sumN q x.f0 from HS.out] at this; simp only [Prod.mk.injEq] at this; exact this⟩
   clear HR2 HFB HS
   have K1 : Aside0 (ladingref14_none.f s.f0 s.f1 s.f2 s.f3 = some (noneP s)) := ⟨ladingref14_Check.none_is _ _ _ _⟩
   have hs0 : w9.cell? ⟨g7, 0, none⟩ = some (.int .i64 s.f0) := (blk_cell ST.out.BS 0).trans rfl
   have hs1 : w9.cell? ⟨g7, 1, none⟩ = some (.int .i64 s.f1) := (blk_cell ST.out.BS 1).trans rfl
   have hs2 : w9.cell? ⟨g7, 2, none⟩ = some (.int .i64 s.f2) := (blk_cell ST.out.BS 2).trans rfl
   have hs3 : w9.cell? ⟨g7, 3, none⟩ = some (.int .i64 s.f3) := (blk_cell ST.out.BS 3).trans rfl
   go_wp2_with fail
   refine (ladingref14_none.calls _ _ _ _ _ _ K1.out).mono ?_
   rintro e w10 ⟨rfl, hb10⟩
   have ST2 := Aside0.mk (ST.out.below hb10)
   have hb0 := (blk_cell ST2.out.BB 0).trans rfl
   clear hs0 hs1 hs2 hs3 hb10 ST K1
   obtain ⟨zb, hzb⟩ : ∃ zb, zb = noneP s := ⟨_, rfl⟩
   rw [← hzb] at HG ⊢
   clear hzb
   go_wp2_with fail
   clear hb0
   go_loopg [9, 41] (l0_0.length + 1) (fun kq v9 v41 wr => ladingref14_with.Rel w gb gx gr g6 g7 A0_0 c0_0 l0_0 A0_1 c0_1 l0_1 x s (.slice Av q.length cv) q zb kq v9 v41 wr)
   case atStart => exact ⟨0, zb, _, [], Nat.zero_le _, Nat.zero_add _, rfl, rfl, ST2.out, rfl, Nat.le_refl _⟩
   case round =>
    clear ST2
    obtain ⟨i, put, vP, acc, hi, hiq, rfl, rfl, hst, hacc, hal⟩ := hrel
    have ST := Aside0.mk hst
    have HAC := Aside0.mk hacc
    have HAL := Aside0.mk hal
    have HKQ := Aside0.mk hiq
    have G6n : Aside0 (g6 ≠ gb ∧ g6 ≠ gr ∧ w.heap.size ≤ g6) := ⟨Ne.symm G6.out.2.1, Ne.symm G6.out.2.2, G6.out.1⟩
    clear hst hacc hal hiq
    by_cases hlt : i < l0_0.length
    ·obtain ⟨kq, rfl⟩ : ∃ q, gk = q + 1 := ⟨gk - 1, by have := HKQ.out; omega⟩
     have HLT := Aside0.mk hlt
     obtain ⟨ad, rfl, hx0, hx1, hx2, hx3⟩ := at_T31 HR0.out (i : Int) (Int.natCast_nonneg _) (Int.ofNat_lt.mpr hlt)
     replace hx0 := (ST.out.HB.cell (World.block_lt_of_cell? w _ hx0)).trans hx0
     replace hx1 := (ST.out.HB.cell (World.block_lt_of_cell? w _ hx1)).trans hx1
     replace hx2 := (ST.out.HB.cell (World.block_lt_of_cell? w _ hx2)).trans hx2
     replace hx3 := (ST.out.HB.cell (World.block_lt_of_cell? w _ hx3)).trans hx3
     rw [Int.toNat_natCast, rd_pAt] at hx0 hx1 hx2 hx3
     obtain ⟨y, hy⟩ : ∃ y, y = pAt l0_0 i := ⟨_, rfl⟩
     rw [← hy] at hx0 hx1 hx2 hx3
     have HY := Aside0.mk hy
     have pm : ((i : Int) < (l0_0.length : Int)) = True := eq_true (Int.ofNat_lt.mpr hlt)
     have t1 : decide ((i : Int) < (l0_0.length : Int)) = true := decide_eq_true (Int.ofNat_lt.mpr hlt)
     have t1n : decide (i < l0_0.length) = true := decide_eq_true hlt
     clear hy hlt
     go_upto_region 11 with (first | ((with_reducible refine gate_dst (N := 11) rfl ?_); refine box_event ?hg (N := 11) ?hd (cs := #[.int .i64 0, .int .i64 0, .int .i64 0, .int .i64 0]) (t := 31) ?hr ?_; (case hd => rfl); (case hg => rfl); (case hr => first | (go_simp; done) | (go_simp; rfl)); intro gy hgy w2 hbox hb; have GY : Aside0 (w.heap.size ≤ gy ∧ g7 ≠ gy ∧ ∀ k, vP.ownBlock = some k → k ≠ gy) := ⟨by rw [hgy]; exact ST.out.HB.size, by rw [hgy]; exact Nat.ne_of_lt (blk_lt ST.out.BS), fun k hk he => by have h1 := own_lt (Kd.R_own ST.out.HP).choose_spec k hk; omega⟩; have BY := Aside0.mk hbox; have ST2 := Aside0.mk (ST.out.below hb); have hz0 := (blk_cell hbox 0).trans rfl; have hz1 := (blk_cell hbox 1).trans rfl; have hz2 := (blk_cell hbox 2).trans rfl; have hz3 := (blk_cell hbox 3).trans rfl; have hf0 := blk_frozen hbox 0; have hf1 := blk_frozen hbox 1; have hf2 := blk_frozen hbox 2; have hf3 := blk_frozen hbox 3; clear hbox hb hgy ST))
     have BY2 : Aside0 (((((w2.setCell ⟨gy, 0, none⟩ (.int .i64 y.f0)).setCell ⟨gy, 1, none⟩ (.int .i64 y.f1)).setCell ⟨gy, 2, none⟩ (.int .i64 y.f2)).setCell ⟨gy, 3, none⟩ (.int .i64 y.f3)).heap[gy]? = some (.cells #[.int .i64 y.f0, .int .i64 y.f1, .int .i64 y.f2, .int .i64 y.f3] 31 (0, 0))) := ⟨set4B BY.out _ _ _ _⟩
     have ST3 : Aside0 (ladingref14_with.St w ((((w2.setCell ⟨gy, 0, none⟩ (.int .i64 y.f0)).setCell ⟨gy, 1, none⟩ (.int .i64 y.f1)).setCell ⟨gy, 2, none⟩ (.int .i64 y.f2)).setCell ⟨gy, 3, none⟩ (.int .i64 y.f3)) gb gx gr g6 g7 (some ad) c0_0 l0_0 A0_1 c0_1 l0_1 x s (.slice Av q.length cv) vP q acc) := ⟨⟨set4F ST2.out.BB (blk_ne ST2.out.BB BY.out (by decide)) _ _ _ _, set4F ST2.out.BX (blk_ne ST2.out.BX BY.out (by decide)) _ _ _ _, set4F ST2.out.BR (blk_ne ST2.out.BR BY.out (by decide)) _ _ _ _, set4F ST2.out.BS GY.out.2.1 _ _ _ _, set4F ST2.out.BG (blk_ne ST2.out.BG BY.out (by decide)) _ _ _ _, set4P ST2.out.HP rfl GY.out.2.2 _ _ _ _, set4R ST2.out.HQ BY.out (by decide) _ _ _ _, set4W ST2.out.HB GY.out.1 _ _ _ _⟩⟩
     clear hx0 hx1 hx2 hx3 hz0 hz1 hz2 hz3 hf0 hf1 hf2 hf3 pm t1 t1n BY ST2
     obtain ⟨w3, hw3⟩ : ∃ w3, w3 = ((((w2.setCell ⟨gy, 0, none⟩ (.int .i64 y.f0)).setCell ⟨gy, 1, none⟩ (.int .i64 y.f1)).setCell ⟨gy, 2, none⟩ (.int .i64 y.f2)).setCell ⟨gy, 3, none⟩ (.int .i64 y.f3)) := ⟨_, rfl⟩
     rw [← hw3] at BY2 ST3 ⊢
     clear hw3
     have hy0 : w3.cell? ⟨gy, 0, none⟩ = some (.int .i64 y.f0) := (blk_cell BY2.out 0).trans rfl
     have hx0 : w3.cell? ⟨gx, 0, none⟩ = some (.int .i64 x.f0) := (blk_cell ST3.out.BX 0).trans rfl
     obtain ⟨le, hle⟩ : ∃ le, decide (x.f0 ≤ y.f0) = le := ⟨_, rfl⟩
     go_cut [53] (fun v53 wc => v53 = .bool (!put && le) ∧ w3 = wc)
     case first =>
      cases put with
      | true =>
       go_wp2_with fail
       go_meet
       case rel => exact ⟨rfl, rfl⟩
      | false =>
       go_wp2_with fail
       go_meet
       case rel => exact ⟨by first | rfl | (rw [← hle]; rfl), rfl⟩
     case rest =>
      obtain ⟨rfl, rfl⟩ := hcut
      have ST := ST3
      have BY := BY2
      have OKY : Aside0 (∀ k, vP.ownBlock = some k → k ≠ gy) := ⟨GY.out.2.2⟩
      have HLE := Aside0.mk hle
      clear hy0 hx0 ST3 BY2 hle
      go_upto_if 53 with (fail)
      go_cut [9] (fun v9 wc => ∃ (put1 : Bool) (vP1 : Value) (acc1 : List S31), v9 = .bool put1 ∧ Aside0 (ladingref14_with.St w wc gb gx gr g6 g7 (some ad) c0_0 l0_0 A0_1 c0_1 l0_1 x s (.slice Av q.length cv) vP1 q acc1) ∧ Aside0 (wc.heap[gy]? = some (.cells #[.int .i64 y.f0, .int .i64 y.f1, .int .i64 y.f2, .int .i64 y.f3] 31 (0, 0))) ∧ Aside0 (acc1 ++ ((if y.f0 = x.f0 then [] else [y]) ++ withA s x.f0 (l0_0.drop (i + 1)) put1) = withA s x.f0 l0_0 zb) ∧ Aside0 (acc1.length ≤ 2 * i + 1) ∧ Aside0 (∀ k, vP1.ownBlock = some k → k ≠ gy))
      case first =>
       have HACC : Aside0 (acc ++ ((if put = false ∧ x.f0 ≤ y.f0 then [s] else []) ++ ((if y.f0 = x.f0 then [] else [y]) ++ withA s x.f0 (l0_0.drop (i + 1)) (put || decide (x.f0 ≤ y.f0)))) = withA s x.f0 l0_0 zb) := ⟨by rw [← HAC.out, drop_pAt l0_0 i HLT.out, ← HY.out, withA_step]⟩
       cases hc : (!put && le) with
       | true =>
        have hpl : put = false ∧ le = true := by cases put <;> cases le <;> simp_all
        obtain ⟨rfl, rfl⟩ := hpl
        have HA1 : Aside0 ((acc ++ [s]) ++ ((if y.f0 = x.f0 then [] else [y]) ++ withA s x.f0 (l0_0.drop (i + 1)) true) = withA s x.f0 l0_0 zb) := ⟨by have h2 := HACC.out; rw [if_pos ⟨rfl, of_decide_eq_true HLE.out⟩, HLE.out] at h2; rw [List.append_assoc]; exact h2⟩
        clear hc HACC
        have HPP : Aside0 (Kd.R k31 31 _ w.heap.size (fun k => k ≠ g7 ∧ k ≠ gy) vP acc) := ⟨Kd.R_mono (Kd.R_tight rfl ST.out.HP) (fun k hk => ⟨ST.out.HP.1 k hk.symm, OKY.out k hk.symm⟩)⟩
        have hg0 := (blk_cell ST.out.BG 0).trans rfl
        have hs0 : w3.cell? ⟨g7, 0, none⟩ = some (.int .i64 s.f0) := (blk_cell ST.out.BS 0).trans rfl
        have hs1 : w3.cell? ⟨g7, 1, none⟩ = some (.int .i64 s.f1) := (blk_cell ST.out.BS 1).trans rfl
        have hs2 : w3.cell? ⟨g7, 2, none⟩ = some (.int .i64 s.f2) := (blk_cell ST.out.BS 2).trans rfl
        have hs3 : w3.cell? ⟨g7, 3, none⟩ = some (.int .i64 s.f3) := (blk_cell ST.out.BS 3).trans rfl
        go_wp2_with (first | (at_builtin; (refine Kd.R_append k31 (w0 := w) w.heap.size rfl (.tmp 55) (.tmp 57) 22 31 (.agg #[.int .i64 0, .int .i64 0, .int .i64 0, .int .i64 0]) 32 rfl Try.underlying22 info31 rfl (by decide) (by decide) vP acc s [.int .i64 s.f0, .int .i64 s.f1, .int .i64 s.f2, .int .i64 s.f3] (fun k => k ≠ g7 ∧ k ≠ gy) (fun _ => False) rfl rfl (k31_mkM _ _ _ s) (fun _ h => h.elim) (fun k hk => ⟨fun he => by have := blk_lt ST.out.BS; omega, fun he => by have := blk_lt BY.out; omega⟩) HPP.out ST.out.HB ST.out.HB.size (by have := HAL.out; have := HLT.out; have := HBIG.out; omega) ?_); rintro v1 w1 ho hb hg hat; obtain ⟨A1_, c1_, hv1⟩ := Kd.R_slice ho; rw [show (acc ++ [s]).length = acc.length + 1 by simp] at hv1; subst hv1; have NG := ST.out.grown hg hb (Kd.R_mono ho (fun _ hk => hk.1)) G6n.out; have NB := Aside0.mk NG.1; have ST1 := Aside0.mk NG.2; have BY1 : Aside0 (w1.heap[gy]? = some (.cells #[.int .i64 y.f0, .int .i64 y.f1, .int .i64 y.f2, .int .i64 y.f3] 31 (0, 0))) := ⟨blk_grown BY.out hg (fun he => absurd rfl (HPP.out.1 gy he.symm).2)⟩; have OK1 : Aside0 (∀ k, (Value.slice A1_ (acc.length + 1) c1_).ownBlock = some k → k ≠ gy) := ⟨fun k hk => (ho.1 k hk).2⟩; have hc0 := (blk_cell NB.out 0).trans rfl; have hcf := blk_frozen NB.out 0; clear ho hb hg hat NG))
        go_meet
        case rel => exact ⟨true, _, acc ++ [s], rfl, ST1, ⟨blk_far BY1.out (blk_ne BY1.out NB.out (by decide)) _⟩, HA1, ⟨by have := HAL.out; simp only [List.length_append, List.length_cons, List.length_nil]; omega⟩, OK1⟩
       | false =>
        have HA1 : Aside0 (acc ++ ((if y.f0 = x.f0 then [] else [y]) ++ withA s x.f0 (l0_0.drop (i + 1)) put) = withA s x.f0 l0_0 zb) := ⟨by have h2 := HACC.out; cases put with
                    | true => rw [if_neg (by simp), List.nil_append] at h2; exact h2
                    | false => rw [HLE.out, show le = false by simpa using hc, if_neg (by rw [← decide_eq_true_eq (p := x.f0 ≤ y.f0), HLE.out, show le = false by simpa using hc]; simp), List.nil_append] at h2; exact h2⟩
        clear hc HACC
        go_wp2_with fail
        go_meet
        case rel => exact ⟨put, vP, acc, rfl, ST, BY, HA1, ⟨by have := HAL.out; omega⟩, OKY⟩
      case rest =>
       clear ST BY OKY HAC HAL
       obtain ⟨put1, vP1, acc1, rfl, ST, BY, HAC, HAL, OKY⟩ := hcut
       clear HLE GY
       skip
       have hy0 : wc.cell? ⟨gy, 0, none⟩ = some (.int .i64 y.f0) := (blk_cell BY.out 0).trans rfl
       have hx0 : wc.cell? ⟨gx, 0, none⟩ = some (.int .i64 x.f0) := (blk_cell ST.out.BX 0).trans rfl
       by_cases hne : y.f0 = x.f0
       ·have e1 : (y.f0 == x.f0) = true := beq_iff_eq.mpr hne
        have e2 : (y.f0 != x.f0) = false := bne_eq_false_iff_eq.mpr hne
        have HA1 : Aside0 (acc1 ++ withA s x.f0 (l0_0.drop (i + 1)) put1 = withA s x.f0 l0_0 zb) := ⟨by have h2 := HAC.out; rw [if_pos hne, List.nil_append] at h2; exact h2⟩
        clear hne
        go_wp2_with fail
        go_roundg kq
        case measure => exact Nat.lt_succ_self _
        case rel => exact ⟨i + 1, put1, vP1, acc1, HLT.out, by have := HKQ.out; omega, num_big (by have := HBIG.out; have := HLT.out; omega), rfl, ST.out, HA1.out, by have := HAL.out; omega⟩
       ·have e1 : (y.f0 == x.f0) = false := beq_eq_false_iff_ne.mpr hne
        have e2 : (y.f0 != x.f0) = true := bne_iff_ne.mpr hne
        have HA1 : Aside0 ((acc1 ++ [y]) ++ withA s x.f0 (l0_0.drop (i + 1)) put1 = withA s x.f0 l0_0 zb) := ⟨by have h2 := HAC.out; rw [if_neg hne] at h2; rw [List.append_assoc]; exact h2⟩
        clear hne
        have HPP : Aside0 (Kd.R k31 31 _ w.heap.size (fun k => k ≠ g7 ∧ k ≠ gy) vP1 acc1) := ⟨Kd.R_mono (Kd.R_tight rfl ST.out.HP) (fun k hk => ⟨ST.out.HP.1 k hk.symm, OKY.out k hk.symm⟩)⟩
        have hg0 := (blk_cell ST.out.BG 0).trans rfl
        have hy1 : wc.cell? ⟨gy, 1, none⟩ = some (.int .i64 y.f1) := (blk_cell BY.out 1).trans rfl
        have hy2 : wc.cell? ⟨gy, 2, none⟩ = some (.int .i64 y.f2) := (blk_cell BY.out 2).trans rfl
        have hy3 : wc.cell? ⟨gy, 3, none⟩ = some (.int .i64 y.f3) := (blk_cell BY.out 3).trans rfl
        go_wp2_with (first | (at_builtin; (refine Kd.R_append k31 (w0 := w) w.heap.size rfl (.tmp 66) (.tmp 68) 22 31 (.agg #[.int .i64 0, .int .i64 0, .int .i64 0, .int .i64 0]) 32 rfl Try.underlying22 info31 rfl (by decide) (by decide) vP1 acc1 y [.int .i64 y.f0, .int .i64 y.f1, .int .i64 y.f2, .int .i64 y.f3] (fun k => k ≠ g7 ∧ k ≠ gy) (fun _ => False) rfl rfl (k31_mkM _ _ _ y) (fun _ h => h.elim) (fun k hk => ⟨fun he => by have := blk_lt ST.out.BS; omega, fun he => by have := blk_lt BY.out; omega⟩) HPP.out ST.out.HB ST.out.HB.size (by have := HAL.out; have := HLT.out; have := HBIG.out; omega) ?_); rintro v1 w1 ho hb hg hat; obtain ⟨A1_, c1_, hv1⟩ := Kd.R_slice ho; rw [show (acc1 ++ [y]).length = acc1.length + 1 by simp] at hv1; subst hv1; have NG := ST.out.grown hg hb (Kd.R_mono ho (fun _ hk => hk.1)) G6n.out; have NB := Aside0.mk NG.1; have ST1 := Aside0.mk NG.2; have BY1 : Aside0 (w1.heap[gy]? = some (.cells #[.int .i64 y.f0, .int .i64 y.f1, .int .i64 y.f2, .int .i64 y.f3] 31 (0, 0))) := ⟨blk_grown BY.out hg (fun he => absurd rfl (HPP.out.1 gy he.symm).2)⟩; have OK1 : Aside0 (∀ k, (Value.slice A1_ (acc1.length + 1) c1_).ownBlock = some k → k ≠ gy) := ⟨fun k hk => (ho.1 k hk).2⟩; have hc0 := (blk_cell NB.out 0).trans rfl; have hcf := blk_frozen NB.out 0; clear ho hb hg hat NG))
        go_roundg kq
        case measure => exact Nat.lt_succ_self _
        case rel => exact ⟨i + 1, put1, _, (acc1 ++ [y]), HLT.out, by have := HKQ.out; omega, num_big (by have := HBIG.out; have := HLT.out; omega), rfl, ST1.out, HA1.out, by have := HAL.out; simp only [List.length_append, List.length_cons, List.length_nil]; omega⟩
    ·have t1 : decide ((i : Int) < (l0_0.length : Int)) = false := decide_eq_false (by omega)
     have t1n : decide (i < l0_0.length) = false := decide_eq_false hlt
     have HACC : Aside0 (acc ++ (if put = true then [] else [s]) = r1) := ⟨by rw [← HG.out.1, ← HAC.out, List.drop_of_length_le (by omega)]; rfl⟩
     have HILE : Aside0 (i ≤ l0_0.length) := ⟨hi⟩
     clear hlt hi HAC HKQ
     obtain ⟨-, rfl, rfl⟩ := HG.out
     clear HG
     obtain ⟨AP_, cP_, rfl⟩ := Kd.R_slice ST.out.HP
     have hg0 := (blk_cell ST.out.BG 0).trans rfl
     cases put with
     | true =>
      obtain rfl : acc = r1 := by rw [← HACC.out]; exact (List.append_nil _).symm
      clear HACC hg0
      have hg0 := (blk_cell ST.out.BG 0).trans rfl
      have hg1 := (blk_cell ST.out.BG 1).trans rfl
      have hr0 := (blk_cell ST.out.BR 0).trans rfl
      have hr1 := (blk_cell ST.out.BR 1).trans rfl
      have hq0 := blk_frozen ST.out.BR 0
      have hq1 := blk_frozen ST.out.BR 1
      go_wp2_with fail
      refine bodyPost_ret (results_ct rfl _ _ gr 25 #[.slice AP_ acc.length cP_, .slice Av q.length cv] (0, 0) _ rfl (set2B ST.out.BR _ _) Try.underlying25 rfl (by kernel_rfl)) rfl ⟨_, _, rfl, Kd.R_mono (set2R ST.out.HP ST.out.BR (by decide) _ _) (fun _ _ => trivial), Kd.R_mono (set2R ST.out.HQ ST.out.BR (by decide) _ _) (fun _ _ => trivial), set2W ST.out.HB GR.out.1 _ _⟩
     | false =>
      obtain rfl : acc ++ [s] = r1 := by rw [← HACC.out]; rfl
      clear HACC
      have hs0 : wr.cell? ⟨g7, 0, none⟩ = some (.int .i64 s.f0) := (blk_cell ST.out.BS 0).trans rfl
      have hs1 : wr.cell? ⟨g7, 1, none⟩ = some (.int .i64 s.f1) := (blk_cell ST.out.BS 1).trans rfl
      have hs2 : wr.cell? ⟨g7, 2, none⟩ = some (.int .i64 s.f2) := (blk_cell ST.out.BS 2).trans rfl
      have hs3 : wr.cell? ⟨g7, 3, none⟩ = some (.int .i64 s.f3) := (blk_cell ST.out.BS 3).trans rfl
      go_upto_region 19 with (first | (at_builtin; (refine Kd.R_append k31 (w0 := w) w.heap.size rfl (.tmp 75) (.tmp 77) 22 31 (.agg #[.int .i64 0, .int .i64 0, .int .i64 0, .int .i64 0]) 32 rfl Try.underlying22 info31 rfl (by decide) (by decide) (.slice AP_ acc.length cP_) acc s [.int .i64 s.f0, .int .i64 s.f1, .int .i64 s.f2, .int .i64 s.f3] (fun k => k ≠ g7) (fun _ => False) rfl rfl (k31_mkM _ _ _ s) (fun _ h => h.elim) (fun k hk => fun he => by have := blk_lt ST.out.BS; omega) ST.out.HP ST.out.HB ST.out.HB.size (by have := HAL.out; have := HILE.out; have := HBIG.out; omega) ?_); rintro v1 w1 ho hb hg hat; obtain ⟨A1_, c1_, hv1⟩ := Kd.R_slice ho; rw [show (acc ++ [s]).length = acc.length + 1 by simp] at hv1; subst hv1; have NG := ST.out.grown hg hb ho G6n.out; have NB := Aside0.mk NG.1; have ST1 := Aside0.mk NG.2; have hc0 := (blk_cell NB.out 0).trans rfl; have hcf := blk_frozen NB.out 0; clear ho hb hg hat NG hg0))
      clear hs0 hs1 hs2 hs3 hc0 hcf
      obtain ⟨w2, hw2⟩ : ∃ w2, w2 = (w1.setCell ⟨g6, 0, none⟩ (.slice A1_ (acc.length + 1) c1_)) := ⟨_, rfl⟩
      rw [← hw2] at ST1 ⊢
      clear hw2
      have hg0 := (blk_cell ST1.out.BG 0).trans rfl
      have hg1 := (blk_cell ST1.out.BG 1).trans rfl
      have hr0 := (blk_cell ST1.out.BR 0).trans rfl
      have hr1 := (blk_cell ST1.out.BR 1).trans rfl
      have hq0 := blk_frozen ST1.out.BR 0
      have hq1 := blk_frozen ST1.out.BR 1
      go_wp2_with fail
      refine bodyPost_ret (results_ct rfl _ _ gr 25 #[.slice A1_ (acc.length + 1) c1_, .slice Av q.length cv] (0, 0) _ rfl (set2B ST1.out.BR _ _) Try.underlying25 rfl (by kernel_rfl)) rfl ⟨_, _, rfl, Kd.R_mono (set2R ST1.out.HP ST1.out.BR (by decide) _ _) (fun _ _ => trivial), Kd.R_mono (set2R ST1.out.HQ ST1.out.BR (by decide) _ _) (fun _ _ => trivial), set2W ST1.out.HB GR.out.1 _ _⟩
end Go.Proofs.Ytaddmogfeijjcaa.Print
