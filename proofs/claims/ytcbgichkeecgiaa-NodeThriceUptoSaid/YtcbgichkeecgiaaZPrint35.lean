-- What the claim uses alone (wip/slim.py). Lean checks it.
import Derived.Test.YtcbgichkeecgiaaZAb
import Derived.Test.YtcbgichkeecgiaaZPrint0
import Derived.Test.YtcbgichkeecgiaaZPrint6
import Derived.Test.YtcbgichkeecgiaaZPrint7
import Derived.Test.YtcbgichkeecgiaaZPrint9
namespace Go.Proofs.Ytcbgichkeecgiaa.Print
open Go.RowKit Go.Proofs.YtcbgichkeecgiaaW.PrintWords Go.Proofs.YtcbgichkeecgiaaW.PrintLast Go.Proofs.YtcbgichkeecgiaaW.PrintMore
attribute [local go_sem] max2_mx min2_mn max_two min_two max_three min_three max_four min_four
set_option linter.unusedVariables false
set_option linter.unusedSimpArgs false
structure node_Merge.Mg (w W : World) (gp gq gr : Nat) (ca cb : Array Value) : Prop where
 BA : W.heap[gp]? = some (.cells ca 26 (0, 0))
 BB : W.heap[gq]? = some (.cells cb 26 (0, 0))
 BR : W.heap[gr]? = some (.cells #[.bool false, .slice none 0 0, .slice none 0 0, .slice none 0 0] 26 (0, 0))
 HB : Below w.heap.size w W
theorem node_Merge.Mg.below {w W W2 : World} {gp gq gr : Nat} {ca cb : Array Value} (O : node_Merge.Mg w W gp gq gr ca cb) (hb : Below W.heap.size W W2) : node_Merge.Mg w W2 gp gq gr ca cb := ⟨blk_below O.BA hb, blk_below O.BB hb, blk_below O.BR hb, below_step O.HB hb⟩
structure node_Merge.OwnR (W : World) (base lo hi : Nat) (vK : Value) (ks : List (List Int)) (vV : Value) (vs : List (List Int)) (vD : Value) (ds : List Int) : Prop where
 K : Kd.R (Kd.slice 5 (Kd.int .u8)) 27 W base (fun k => lo ≤ k ∧ k < hi ∧ some k ≠ vV.ownBlock) vK ks
 V : Kd.R (Kd.slice 5 (Kd.int .u8)) 27 W base (fun k => lo ≤ k ∧ k < hi ∧ some k ≠ vK.ownBlock) vV vs
 D : Kd.R (Kd.int .i64) 3 W base (fun k => lo ≤ k ∧ k < hi) vD ds
section
variable {W W2 : World} {base lo hi : Nat} {vK vV vD : Value} {ks vs : List (List Int)} {ds : List Int}
theorem node_Merge.OwnR.below (O : node_Merge.OwnR W base lo hi vK ks vV vs vD ds) (hb : Below W.heap.size W W2) : node_Merge.OwnR W2 base lo hi vK ks vV vs vD ds := ⟨Kd.R_below O.K hb, Kd.R_below O.V hb, Kd.R_below O.D hb⟩
theorem node_Merge.OwnR.set4 (O : node_Merge.OwnR W base lo hi vK ks vV vs vD ds) {g : Nat} {v0 v1 v2 v3 : Value} (hg : W.heap[g]? = some (.cells #[v0, v1, v2, v3] 26 (0, 0))) (x0 x1 x2 x3 : Value) :
  node_Merge.OwnR ((((W.setCell ⟨g, 0, none⟩ x0).setCell ⟨g, 1, none⟩ x1).setCell ⟨g, 2, none⟩ x2).setCell ⟨g, 3, none⟩ x3) base lo hi vK ks vV vs vD ds :=
 ⟨pageR O.K hg (by decide) _ _ _ _, pageR O.V hg (by decide) _ _ _ _, pageR O.D hg (by decide) _ _ _ _⟩
theorem node_Merge.own_rows (hbase : base ≤ W.heap.size) (h1 : Kd.S (Kd.slice 5 (Kd.int .u8)) 27 W2 W.heap.size (fun k_ => some k_ ≠ vV.ownBlock) vK ks) (h2 : Kd.S (Kd.slice 5 (Kd.int .u8)) 27 W2 W.heap.size (fun k_ => some k_ ≠ vK.ownBlock) vV vs) (h3 : Kd.R (Kd.int .i64) 3 W2 W.heap.size (fun _ => True) vD ds) :
  ∃ lo hi, node_Merge.OwnR W2 base lo hi vK ks vV vs vD ds ∧ W.heap.size ≤ lo ∧ hi ≤ W2.heap.size :=
 ⟨W.heap.size, W2.heap.size, ⟨Kd.R_lower (Kd.R_mono (Kd.R_bound (Kd.S_R h1)) (fun k hk => ⟨hk.2.1, hk.2.2.1, hk.1⟩)) hbase, Kd.R_lower (Kd.R_mono (Kd.R_bound (Kd.S_R h2)) (fun k hk => ⟨hk.2.1, hk.2.2.1, hk.1⟩)) hbase, Kd.R_lower (Kd.R_mono (Kd.R_bound h3) (fun k hk => ⟨hk.2.1, hk.2.2.1⟩)) hbase⟩, Nat.le_refl _, Nat.le_refl _⟩
end
theorem node_Merge.lit2 {P : Program} {o : Oper} {rest : List Oper} {ops : Array Oper} {a : Act} {Q : Exit → Act → World → Prop} {W : World} (hgd : o.guard = none) {N : Tmp} (_hd : o.dst = some N) {cs : Array Value}
  (hrun : (execOp a.eval o).run P W = .ok (.value (.slice (some ⟨W.heap.size, 0, none⟩) 2 2)) (W.alloc (.cells cs 26 (0, 0))))
  (h : ∀ g w1, w1.heap[g]? = some (.cells cs 26 (0, 0)) → Below W.heap.size W w1 → wpList P ops Q rest (a.put o.dst (.slice (some ⟨g, 0, none⟩) 2 2)) w1) : wpList P ops Q (o :: rest) a W :=
 Kd.event_run hgd hrun (h _ _ (blk_new W _) (below_alloc (Below.refl _ _) _))
def node_Merge.mok (base g4 gr : Nat) (x y z : Value) (k : Nat) : Prop := base ≤ k ∧ some k ≠ x.ownBlock ∧ some k ≠ y.ownBlock ∧ some k ≠ z.ownBlock ∧ k ≠ g4 ∧ k ≠ gr
structure node_Merge.Ms (w W : World) (gr g4 : Nat) (b : Bool) (vK : Value) (ks : List (List Int)) (vV : Value) (vs : List (List Int)) (vD : Value) (ds : List Int) (uK : Value) (ks2 : List (List Int)) (uV : Value) (vs2 : List (List Int)) (uD : Value) (ds2 : List Int) : Prop where
 BR : W.heap[gr]? = some (.cells #[.bool false, .slice none 0 0, .slice none 0 0, .slice none 0 0] 26 (0, 0))
 BG : W.heap[g4]? = some (.cells #[.bool b, vK, vV, vD] 26 (0, 0))
 HB : Below w.heap.size w W
 GR : w.heap.size ≤ gr
 GG : w.heap.size ≤ g4
 ne : g4 ≠ gr
 K : Kd.N (Kd.slice 5 (Kd.int .u8)) 27 W w.heap.size (node_Merge.mok w.heap.size g4 gr (.bool true) vV vD) vK ks
 V : Kd.N (Kd.slice 5 (Kd.int .u8)) 27 W w.heap.size (node_Merge.mok w.heap.size g4 gr vK (.bool true) vD) vV vs
 D : Kd.N (Kd.int .i64) 3 W w.heap.size (node_Merge.mok w.heap.size g4 gr vK vV (.bool true)) vD ds
 K2 : Kd.V (Kd.slice 5 (Kd.int .u8)) 27 W w.heap.size (node_Merge.mok w.heap.size g4 gr vK vV vD) uK ks2
 V2 : Kd.V (Kd.slice 5 (Kd.int .u8)) 27 W w.heap.size (node_Merge.mok w.heap.size g4 gr vK vV vD) uV vs2
 D2 : Kd.V (Kd.int .i64) 3 W w.heap.size (node_Merge.mok w.heap.size g4 gr vK vV vD) uD ds2
section
variable {w W W2 : World} {gr g4 : Nat} {b : Bool} {vK vV vD uK uV uD : Value} {ks vs ks2 vs2 : List (List Int)} {ds ds2 : List Int} {v1 : Value}
theorem node_Merge.Ms.below (S : node_Merge.Ms w W gr g4 b vK ks vV vs vD ds uK ks2 uV vs2 uD ds2) (hb : Below W.heap.size W W2) : node_Merge.Ms w W2 gr g4 b vK ks vV vs vD ds uK ks2 uV vs2 uD ds2 :=
 ⟨blk_below S.BR hb, blk_below S.BG hb, below_step S.HB hb, S.GR, S.GG, S.ne, Kd.N_below S.K hb, Kd.N_below S.V hb, Kd.N_below S.D hb, Kd.V_below S.K2 hb, Kd.V_below S.V2 hb, Kd.V_below S.D2 hb⟩
theorem node_Merge.Ms.rd (S : node_Merge.Ms w W gr g4 b vK ks vV vs vD ds uK ks2 uV vs2 uD ds2) : (W.cell? ⟨g4, 0, none⟩ = some (.bool b) ∧ W.cell? ⟨g4, 1, none⟩ = some vK ∧ W.cell? ⟨g4, 2, none⟩ = some vV ∧ W.cell? ⟨g4, 3, none⟩ = some vD) ∧ (∀ i, W.frozen? ⟨g4, i, none⟩ = false) ∧
  (W.cell? ⟨gr, 0, none⟩ = some (.bool false) ∧ W.cell? ⟨gr, 1, none⟩ = some (.slice none 0 0) ∧ W.cell? ⟨gr, 2, none⟩ = some (.slice none 0 0) ∧ W.cell? ⟨gr, 3, none⟩ = some (.slice none 0 0)) ∧ (∀ i, W.frozen? ⟨gr, i, none⟩ = false) :=
 ⟨⟨(blk_cell S.BG 0).trans rfl, (blk_cell S.BG 1).trans rfl, (blk_cell S.BG 2).trans rfl, (blk_cell S.BG 3).trans rfl⟩, fun i => blk_frozen S.BG i, ⟨(blk_cell S.BR 0).trans rfl, (blk_cell S.BR 1).trans rfl, (blk_cell S.BR 2).trans rfl, (blk_cell S.BR 3).trans rfl⟩, fun i => blk_frozen S.BR i⟩
theorem node_Merge.none_own (k : Nat) : some k ≠ (Value.bool true).ownBlock := by simp [Value.ownBlock]
theorem node_Merge.lt_ne {v : Value} {n : Nat} (h : ∀ k, v.ownBlock = some k → k < n) (k : Nat) (hk : n ≤ k) : some k ≠ v.ownBlock := fun he => by have := h k he.symm; omega
theorem node_Merge.Ms.fresh (S : node_Merge.Ms w W gr g4 b vK ks vV vs vD ds uK ks2 uV vs2 uD ds2) (k : Nat) (hk : W.heap.size ≤ k) : node_Merge.mok w.heap.size g4 gr vK vV vD k :=
 ⟨Nat.le_trans S.HB.size hk, node_Merge.lt_ne (Kd.N_lt S.K) k hk, node_Merge.lt_ne (Kd.N_lt S.V) k hk, node_Merge.lt_ne (Kd.N_lt S.D) k hk, by have := blk_lt S.BG; omega, by have := blk_lt S.BR; omega⟩
theorem node_Merge.Ms.growK (S : node_Merge.Ms w W gr g4 b vK ks vV vs vD ds uK ks2 uV vs2 uD ds2) {xs : List (List Int)} (hn : Kd.N (Kd.slice 5 (Kd.int .u8)) 27 W2 w.heap.size (node_Merge.mok w.heap.size g4 gr (.bool true) vV vD) v1 xs) (hb : Below w.heap.size w W2) (hg : W.grownBy W2 vK.ownBlock) (hat : v1.ownBlock = vK.ownBlock ∨ ∃ b, v1.ownBlock = some b ∧ W.heap.size ≤ b) :
  W2.heap[g4]? = some (.cells #[.bool b, vK, vV, vD] 26 (0, 0)) ∧ node_Merge.Ms w (W2.setCell ⟨g4, 1, none⟩ v1) gr g4 b v1 xs vV vs vD ds uK ks2 uV vs2 uD ds2 := by
 have a4 := Kd.N_away S.K (g := g4) (fun k hk => hk.2.2.2.2.1)
 have ar := Kd.N_away S.K (g := gr) (fun k hk => hk.2.2.2.2.2)
 have bg := blk_grown S.BG hg a4
 refine ⟨bg, blk_far (blk_grown S.BR hg ar) (Ne.symm S.ne) _, blk_put bg 1 _ rfl, below_set hb S.GG, S.GR, S.GG, S.ne, Kd.N_far hn (fun k hk => hk.2.2.2.2.1) _, Kd.N_far (Kd.N_mono (Kd.N_after (ok := node_Merge.mok w.heap.size g4 gr (.bool true) (.bool true) vD) (Kd.N_mono S.V ?_) hg hat) ?_) (fun k hk => hk.2.2.2.2.1) _,
  Kd.N_far (Kd.N_mono (Kd.N_after (ok := node_Merge.mok w.heap.size g4 gr (.bool true) vV (.bool true)) (Kd.N_mono S.D ?_) hg hat) ?_) (fun k hk => hk.2.2.2.2.1) _, Kd.V_far (Kd.V_mono (Kd.V_after (ok := node_Merge.mok w.heap.size g4 gr (.bool true) vV vD) (Kd.V_mono S.K2 ?_) hg hat) ?_) (fun k hk => hk.2.2.2.2.1) _,
  Kd.V_far (Kd.V_mono (Kd.V_after (ok := node_Merge.mok w.heap.size g4 gr (.bool true) vV vD) (Kd.V_mono S.V2 ?_) hg hat) ?_) (fun k hk => hk.2.2.2.2.1) _, Kd.V_far (Kd.V_mono (Kd.V_after (ok := node_Merge.mok w.heap.size g4 gr (.bool true) vV vD) (Kd.V_mono S.D2 ?_) hg hat) ?_) (fun k hk => hk.2.2.2.2.1) _⟩
 all_goals first | exact fun k hk => ⟨⟨hk.1, node_Merge.none_own k, hk.2.2.1, hk.2.2.2.1, hk.2.2.2.2.1, hk.2.2.2.2.2⟩, hk.2.1⟩ | exact fun k hk => ⟨hk.1.1, hk.2, hk.1.2.2.1, hk.1.2.2.2.1, hk.1.2.2.2.2.1, hk.1.2.2.2.2.2⟩
theorem node_Merge.Ms.growV (S : node_Merge.Ms w W gr g4 b vK ks vV vs vD ds uK ks2 uV vs2 uD ds2) {xs : List (List Int)} (hn : Kd.N (Kd.slice 5 (Kd.int .u8)) 27 W2 w.heap.size (node_Merge.mok w.heap.size g4 gr vK (.bool true) vD) v1 xs) (hb : Below w.heap.size w W2) (hg : W.grownBy W2 vV.ownBlock) (hat : v1.ownBlock = vV.ownBlock ∨ ∃ b, v1.ownBlock = some b ∧ W.heap.size ≤ b) :
  W2.heap[g4]? = some (.cells #[.bool b, vK, vV, vD] 26 (0, 0)) ∧ node_Merge.Ms w (W2.setCell ⟨g4, 2, none⟩ v1) gr g4 b vK ks v1 xs vD ds uK ks2 uV vs2 uD ds2 := by
 have a4 := Kd.N_away S.V (g := g4) (fun k hk => hk.2.2.2.2.1)
 have ar := Kd.N_away S.V (g := gr) (fun k hk => hk.2.2.2.2.2)
 have bg := blk_grown S.BG hg a4
 refine ⟨bg, blk_far (blk_grown S.BR hg ar) (Ne.symm S.ne) _, blk_put bg 2 _ rfl, below_set hb S.GG, S.GR, S.GG, S.ne, Kd.N_far (Kd.N_mono (Kd.N_after (ok := node_Merge.mok w.heap.size g4 gr (.bool true) (.bool true) vD) (Kd.N_mono S.K ?_) hg hat) ?_) (fun k hk => hk.2.2.2.2.1) _, Kd.N_far hn (fun k hk => hk.2.2.2.2.1) _,
  Kd.N_far (Kd.N_mono (Kd.N_after (ok := node_Merge.mok w.heap.size g4 gr vK (.bool true) (.bool true)) (Kd.N_mono S.D ?_) hg hat) ?_) (fun k hk => hk.2.2.2.2.1) _, Kd.V_far (Kd.V_mono (Kd.V_after (ok := node_Merge.mok w.heap.size g4 gr vK (.bool true) vD) (Kd.V_mono S.K2 ?_) hg hat) ?_) (fun k hk => hk.2.2.2.2.1) _,
  Kd.V_far (Kd.V_mono (Kd.V_after (ok := node_Merge.mok w.heap.size g4 gr vK (.bool true) vD) (Kd.V_mono S.V2 ?_) hg hat) ?_) (fun k hk => hk.2.2.2.2.1) _, Kd.V_far (Kd.V_mono (Kd.V_after (ok := node_Merge.mok w.heap.size g4 gr vK (.bool true) vD) (Kd.V_mono S.D2 ?_) hg hat) ?_) (fun k hk => hk.2.2.2.2.1) _⟩
 all_goals first | exact fun k hk => ⟨⟨hk.1, hk.2.1, node_Merge.none_own k, hk.2.2.2.1, hk.2.2.2.2.1, hk.2.2.2.2.2⟩, hk.2.2.1⟩ | exact fun k hk => ⟨hk.1.1, hk.1.2.1, hk.2, hk.1.2.2.2.1, hk.1.2.2.2.2.1, hk.1.2.2.2.2.2⟩
theorem node_Merge.Ms.growD (S : node_Merge.Ms w W gr g4 b vK ks vV vs vD ds uK ks2 uV vs2 uD ds2) {xs : List Int} (hn : Kd.N (Kd.int .i64) 3 W2 w.heap.size (node_Merge.mok w.heap.size g4 gr vK vV (.bool true)) v1 xs) (hb : Below w.heap.size w W2) (hg : W.grownBy W2 vD.ownBlock) (hat : v1.ownBlock = vD.ownBlock ∨ ∃ b, v1.ownBlock = some b ∧ W.heap.size ≤ b) :
  W2.heap[g4]? = some (.cells #[.bool b, vK, vV, vD] 26 (0, 0)) ∧ node_Merge.Ms w (W2.setCell ⟨g4, 3, none⟩ v1) gr g4 b vK ks vV vs v1 xs uK ks2 uV vs2 uD ds2 := by
 have a4 := Kd.N_away S.D (g := g4) (fun k hk => hk.2.2.2.2.1)
 have ar := Kd.N_away S.D (g := gr) (fun k hk => hk.2.2.2.2.2)
 have bg := blk_grown S.BG hg a4
 refine ⟨bg, blk_far (blk_grown S.BR hg ar) (Ne.symm S.ne) _, blk_put bg 3 _ rfl, below_set hb S.GG, S.GR, S.GG, S.ne, Kd.N_far (Kd.N_mono (Kd.N_after (ok := node_Merge.mok w.heap.size g4 gr (.bool true) vV (.bool true)) (Kd.N_mono S.K ?_) hg hat) ?_) (fun k hk => hk.2.2.2.2.1) _, Kd.N_far (Kd.N_mono (Kd.N_after (ok := node_Merge.mok w.heap.size g4 gr vK (.bool true) (.bool true)) (Kd.N_mono S.V ?_) hg hat) ?_) (fun k hk => hk.2.2.2.2.1) _,
  Kd.N_far hn (fun k hk => hk.2.2.2.2.1) _, Kd.V_far (Kd.V_mono (Kd.V_after (ok := node_Merge.mok w.heap.size g4 gr vK vV (.bool true)) (Kd.V_mono S.K2 ?_) hg hat) ?_) (fun k hk => hk.2.2.2.2.1) _,
  Kd.V_far (Kd.V_mono (Kd.V_after (ok := node_Merge.mok w.heap.size g4 gr vK vV (.bool true)) (Kd.V_mono S.V2 ?_) hg hat) ?_) (fun k hk => hk.2.2.2.2.1) _, Kd.V_far (Kd.V_mono (Kd.V_after (ok := node_Merge.mok w.heap.size g4 gr vK vV (.bool true)) (Kd.V_mono S.D2 ?_) hg hat) ?_) (fun k hk => hk.2.2.2.2.1) _⟩
 all_goals first | exact fun k hk => ⟨⟨hk.1, hk.2.1, hk.2.2.1, node_Merge.none_own k, hk.2.2.2.2.1, hk.2.2.2.2.2⟩, hk.2.2.2.1⟩ | exact fun k hk => ⟨hk.1.1, hk.1.2.1, hk.1.2.2.1, hk.2, hk.1.2.2.2.2.1, hk.1.2.2.2.2.2⟩
theorem node_Merge.Ms.end_ (S : node_Merge.Ms w W gr g4 b vK ks vV vs vD ds uK ks2 uV vs2 uD ds2) (x0 x1 x2 x3 : Value) :
  Kd.V (Kd.slice 5 (Kd.int .u8)) 27 ((((W.setCell ⟨gr, 0, none⟩ x0).setCell ⟨gr, 1, none⟩ x1).setCell ⟨gr, 2, none⟩ x2).setCell ⟨gr, 3, none⟩ x3) w.heap.size (fun k_ => (w.heap.size ≤ k_)) vK ks ∧
  Kd.V (Kd.slice 5 (Kd.int .u8)) 27 ((((W.setCell ⟨gr, 0, none⟩ x0).setCell ⟨gr, 1, none⟩ x1).setCell ⟨gr, 2, none⟩ x2).setCell ⟨gr, 3, none⟩ x3) w.heap.size (fun k_ => (w.heap.size ≤ k_)) vV vs ∧
  Kd.V (Kd.int .i64) 3 ((((W.setCell ⟨gr, 0, none⟩ x0).setCell ⟨gr, 1, none⟩ x1).setCell ⟨gr, 2, none⟩ x2).setCell ⟨gr, 3, none⟩ x3) w.heap.size (fun k_ => (w.heap.size ≤ k_)) vD ds ∧
  Below w.heap.size w ((((W.setCell ⟨gr, 0, none⟩ x0).setCell ⟨gr, 1, none⟩ x1).setCell ⟨gr, 2, none⟩ x2).setCell ⟨gr, 3, none⟩ x3) := by
 have far : ∀ {α : Type} {d : Kd α} {e : Nat} {ok : Nat → Prop} {v : Value} {xs : List α} (h : Kd.V d e W w.heap.size ok v xs) (hok : ∀ k, ok k → k ≠ gr), Kd.V d e ((((W.setCell ⟨gr, 0, none⟩ x0).setCell ⟨gr, 1, none⟩ x1).setCell ⟨gr, 2, none⟩ x2).setCell ⟨gr, 3, none⟩ x3) w.heap.size ok v xs :=
  fun h hok => Kd.V_far (Kd.V_far (Kd.V_far (Kd.V_far h hok x0) hok x1) hok x2) hok x3
 exact ⟨Kd.V_mono (far (Kd.N_V S.K) (fun _ hk => hk.2.2.2.2.2)) (fun _ hk => hk.1), Kd.V_mono (far (Kd.N_V S.V) (fun _ hk => hk.2.2.2.2.2)) (fun _ hk => hk.1), Kd.V_mono (far (Kd.N_V S.D) (fun _ hk => hk.2.2.2.2.2)) (fun _ hk => hk.1), pageW S.HB S.GR _ _ _ _⟩
theorem node_Merge.Ms.of (hR : W.heap[gr]? = some (.cells #[.bool false, .slice none 0 0, .slice none 0 0, .slice none 0 0] 26 (0, 0))) (hG : W.heap[g4]? = some (.cells #[.bool b, vK, vV, vD] 26 (0, 0))) (hB : Below w.heap.size w W) (GR : w.heap.size ≤ gr) (GG : w.heap.size ≤ g4) (ne : g4 ≠ gr)
  {la ha lb hb : Nat} (A : node_Merge.OwnR W w.heap.size la ha vK ks vV vs vD ds) (B : node_Merge.OwnR W w.heap.size lb hb uK ks2 uV vs2 uD ds2) (h1 : w.heap.size ≤ la) (h2 : ha ≤ lb) (h3 : w.heap.size ≤ lb) : node_Merge.Ms w W gr g4 b vK ks vV vs vD ds uK ks2 uV vs2 uD ds2 := by
 have tK : ∀ k, vK.ownBlock = some k → ∃ cells, W.heap[k]? = some (.cells cells 27 (0, 0)) := fun k hk => Kd.N_typed (Kd.R_N A.K) k hk
 have tV : ∀ k, vV.ownBlock = some k → ∃ cells, W.heap[k]? = some (.cells cells 27 (0, 0)) := fun k hk => Kd.N_typed (Kd.R_N A.V) k hk
 have tD : ∀ k, vD.ownBlock = some k → ∃ cells, W.heap[k]? = some (.cells cells 3 (0, 0)) := fun k hk => Kd.N_typed (Kd.R_N A.D) k hk
 have oK : ∀ k, vK.ownBlock = some k → k < ha := fun k hk => (A.K.1 k hk).2.1
 have oV : ∀ k, vV.ownBlock = some k → k < ha := fun k hk => (A.V.1 k hk).2.1
 have oD : ∀ k, vD.ownBlock = some k → k < ha := fun k hk => (A.D.1 k hk).2
 have ty : ∀ (g t t' : Nat) (c c' : Array Value), t ≠ t' → W.heap[g]? = some (.cells c t (0, 0)) → W.heap[g]? = some (.cells c' t' (0, 0)) → False := by
  intro g t t' c c' hne h h'
  rw [h] at h'
  injection h' with h'
  injection h' with _ h'
  exact hne h'
 have nb : ∀ {g : Nat} {cs : Array Value}, W.heap[g]? = some (.cells cs 26 (0, 0)) → ∀ {α : Type} {d : Kd α} {e : Nat} {ok : Nat → Prop} {v : Value} {xs : List α}, d.R e W w.heap.size ok v xs → (∀ q, q ∈ e :: d.E → q ≠ 26) → d.R e W w.heap.size (fun k => ok k ∧ k ≠ g) v xs := fun h _ _ _ _ _ _ hr hq => Kd.R_types hr h hq
 refine ⟨hR, hG, hB, GR, GG, ne, Kd.R_N (Kd.R_mono (Kd.R_bound (nb hR (nb hG A.K (by decide)) (by decide))) ?_), Kd.R_N (Kd.R_mono (Kd.R_bound (nb hR (nb hG A.V (by decide)) (by decide))) ?_), Kd.R_N (Kd.R_mono (Kd.R_bound (nb hR (nb hG A.D (by decide)) (by decide))) ?_), Kd.R_V (Kd.R_mono (nb hR (nb hG B.K (by decide)) (by decide)) ?_), Kd.R_V (Kd.R_mono (nb hR (nb hG B.V (by decide)) (by decide)) ?_), Kd.R_V (Kd.R_mono (nb hR (nb hG B.D (by decide)) (by decide)) ?_)⟩
 ·rintro k ⟨⟨⟨⟨k1, k2, k3⟩, k4⟩, k5⟩, k6, k7, q, hq, c, hc⟩
  exact ⟨k6, node_Merge.none_own k, k3, fun he => by obtain ⟨c', hc'⟩ := tD k he.symm; rw [hc] at hc'; injection hc' with hc'; injection hc' with _ h3; subst h3; revert hq; decide, k4, k5⟩
 ·rintro k ⟨⟨⟨⟨k1, k2, k3⟩, k4⟩, k5⟩, k6, k7, q, hq, c, hc⟩
  exact ⟨k6, k3, node_Merge.none_own k, fun he => by obtain ⟨c', hc'⟩ := tD k he.symm; rw [hc] at hc'; injection hc' with hc'; injection hc' with _ h3; subst h3; revert hq; decide, k4, k5⟩
 ·rintro k ⟨⟨⟨⟨k1, k2⟩, k4⟩, k5⟩, k6, k7, q, hq, c, hc⟩
  exact ⟨k6, fun he => by obtain ⟨c', hc'⟩ := tK k he.symm; rw [hc] at hc'; injection hc' with hc'; injection hc' with _ h3; subst h3; revert hq; decide, fun he => by obtain ⟨c', hc'⟩ := tV k he.symm; rw [hc] at hc'; injection hc' with hc'; injection hc' with _ h3; subst h3; revert hq; decide, node_Merge.none_own k, k4, k5⟩
 ·rintro k ⟨⟨⟨k1, k2, k3⟩, k4⟩, k5⟩
  exact ⟨by omega, fun he => by have := oK k he.symm; omega, fun he => by have := oV k he.symm; omega, fun he => by have := oD k he.symm; omega, k4, k5⟩
 ·rintro k ⟨⟨⟨k1, k2, k3⟩, k4⟩, k5⟩
  exact ⟨by omega, fun he => by have := oK k he.symm; omega, fun he => by have := oV k he.symm; omega, fun he => by have := oD k he.symm; omega, k4, k5⟩
 ·rintro k ⟨⟨⟨k1, k2⟩, k4⟩, k5⟩
  exact ⟨by omega, fun he => by have := oK k he.symm; omega, fun he => by have := oV k he.symm; omega, fun he => by have := oD k he.symm; omega, k4, k5⟩
end
def node_Merge.g (k : Nat) (b : Bool) (ks vs : List (List Int)) (ds : List Int) (ks2 vs2 : List (List Int)) (ds2 : List Int) : Option (Bool × (List (List Int)) × (List (List Int)) × List Int × Int) :=
 if ks.length + ks2.length < 5864062014805 ∧ vs.length + vs2.length < 5864062014805 ∧ ds.length + ds2.length < 17592186044416 then (node_Check.f k b (ks ++ ks2) (vs ++ vs2) (ds ++ ds2)).bind fun t => if t = 0 then some (b, ks ++ ks2, vs ++ vs2, ds ++ ds2, 0) else some (false, [], [], [], t) else none
def node_Merge.f (k : Nat) (a0_0 : Bool) (l0_1 l0_2 : List (List Int)) (l0_3 : List Int) (l1 : List Int) (a2_0 : Bool) (l2_1 l2_2 : List (List Int)) (l2_3 : List Int) : Option (Bool × (List (List Int)) × (List (List Int)) × List Int × Int) :=
 (node_Check.f k a0_0 l0_1 l0_2 l0_3).bind fun t => if t = 0 then ((node_Check.f k a2_0 l2_1 l2_2 l2_3).bind fun u => if u = 0 then (if (a0_0 != a2_0) = true then some (false, [], [], [], 15) else if (l1.length : Int) > 256 then some (false, [], [], [], 4) else
  (node_own.f k a0_0 l0_1 l0_2 l0_3).bind fun o => (node_own.f k a2_0 l2_1 l2_2 l2_3).bind fun p => if a0_0 = true then node_Merge.g k o.1 o.2.1 o.2.2.1 o.2.2.2 p.2.1 p.2.2.1 p.2.2.2 else (bytes_Clone.f l1).bind fun c => if o.2.1.length < 5864062014800 then node_Merge.g k o.1 (o.2.1 ++ [c]) o.2.2.1 o.2.2.2 p.2.1 p.2.2.1 p.2.2.2 else none)
  else some (false, [], [], [], u)) else some (false, [], [], [], t)
def node_Merge.T12 : Bool × List (List Nat × List Nat) := (true, [([], []), ([0], [0]), ([], []), ([2, 1], [2]), ([], []), ([], []), ([4, 1, 3, 0, 1, 4, 5], [1, 4]), ([5, 3, 6, 0, 1, 2, 3, 4, 5, 6], [3, 5])])
def node_Merge.B12 : List Nat := [0, 1, 0, 7, 0, 0, 63, 127]
theorem node_Merge.tab12 : rtab .any (opsOf Try.f20 12) = node_Merge.T12 := by kernel_rfl
theorem node_Merge.bits12 : waitsOk node_Merge.T12.2 node_Merge.B12 = true := by kernel_rfl
def node_Merge.T14 : Bool × List (List Nat × List Nat) := (true, [([], []), ([0], [0]), ([], []), ([2], [2]), ([3], [3]), ([1, 4, 3], [1, 4]), ([0, 1, 2, 3, 4, 5], []), ([6, 5, 5, 0, 1, 2, 3, 4, 5], [5, 6])])
def node_Merge.B14 : List Nat := [0, 1, 0, 4, 12, 31, 63, 127]
theorem node_Merge.tab14 : rtab .any (opsOf Try.f20 14) = node_Merge.T14 := by kernel_rfl
theorem node_Merge.bits14 : waitsOk node_Merge.T14.2 node_Merge.B14 = true := by kernel_rfl
set_option maxHeartbeats 8000000 in
set_option maxRecDepth 100000 in
theorem node_Merge.calls (k : Nat) (a0_0 : Bool) (A0_1 : Option Addr) (c0_1 : Nat) (l0_1 : List (List Int)) (A0_2 : Option Addr) (c0_2 : Nat) (l0_2 : List (List Int)) (A0_3 : Option Addr) (c0_3 : Nat) (l0_3 : List Int) (A1 : Option Addr) (c1 : Nat) (l1 : List Int) (a2_0 : Bool) (A2_1 : Option Addr) (c2_1 : Nat) (l2_1 : List (List Int)) (A2_2 : Option Addr) (c2_2 : Nat) (l2_2 : List (List Int)) (A2_3 : Option Addr) (c2_3 : Nat) (l2_3 : List Int) (r1 : Bool) (r2 : List (List Int)) (r3 : List (List Int)) (r4 : List Int) (r5 : Int) (w : World) (hr0_1 : Kd.C (Kd.slice 5 (Kd.int .u8)) w A0_1 l0_1.length l0_1) (hc0_1 : l0_1.length ≤ c0_1) (hr0_2 : Kd.C (Kd.slice 5 (Kd.int .u8)) w A0_2 l0_2.length l0_2) (hc0_2 : l0_2.length ≤ c0_2) (hr0_3 : Kd.C (Kd.int .i64) w A0_3 l0_3.length l0_3) (hc0_3 : l0_3.length ≤ c0_3) (hr1 : Kd.C (Kd.int .u8) w A1 l1.length l1) (hc1 : l1.length ≤ c1) (hr2_1 : Kd.C (Kd.slice 5 (Kd.int .u8)) w A2_1 l2_1.length l2_1) (hc2_1 : l2_1.length ≤ c2_1) (hr2_2 : Kd.C (Kd.slice 5 (Kd.int .u8)) w A2_2 l2_2.length l2_2) (hc2_2 : l2_2.length ≤ c2_2) (hr2_3 : Kd.C (Kd.int .i64) w A2_3 l2_3.length l2_3) (hc2_3 : l2_3.length ≤ c2_3) (h : node_Merge.f k a0_0 l0_1 l0_2 l0_3 l1 a2_0 l2_1 l2_2 l2_3 = some (r1, r2, r3, r4, r5)) :
  Calls Try.prog 20 #[.agg #[.bool a0_0, .slice A0_1 l0_1.length c0_1, .slice A0_2 l0_2.length c0_2, .slice A0_3 l0_3.length c0_3], .slice A1 l1.length c1, .agg #[.bool a2_0, .slice A2_1 l2_1.length c2_1, .slice A2_2 l2_2.length c2_2, .slice A2_3 l2_3.length c2_3]] w fun e w' => ∃ v1_ v2_ v3_ : Value, e = .returned (.tuple #[.agg #[.bool r1, v1_, v2_, v3_], .int .i64 r5]) ∧ Kd.V (Kd.slice 5 (Kd.int .u8)) 27 w' w.heap.size (fun k_ => (w.heap.size ≤ k_)) v1_ r2 ∧ Kd.V (Kd.slice 5 (Kd.int .u8)) 27 w' w.heap.size (fun k_ => (w.heap.size ≤ k_)) v2_ r3 ∧ Kd.V (Kd.int .i64) 3 w' w.heap.size (fun k_ => (w.heap.size ≤ k_)) v3_ r4 ∧ Below w.heap.size w w' := by
 have hu26 := Try.underlying26
 have RA1 := Aside0.mk hr0_1
 have RA2 := Aside0.mk hr0_2
 have RA3 := Aside0.mk hr0_3
 have RB1 := Aside0.mk hr2_1
 have RB2 := Aside0.mk hr2_2
 have RB3 := Aside0.mk hr2_3
 have LA1 := Aside0.mk hc0_1
 have LA2 := Aside0.mk hc0_2
 have LA3 := Aside0.mk hc0_3
 have LB1 := Aside0.mk hc2_1
 have LB2 := Aside0.mk hc2_2
 have LB3 := Aside0.mk hc2_3
 have RK := Aside0.mk hr1
 have LK := Aside0.mk hc1
 clear hr1 hc1 hr0_1 hc0_1 hr0_2 hc0_2 hr0_3 hc0_3 hr2_1 hc2_1 hr2_2 hc2_2 hr2_3 hc2_3
 unfold node_Merge.f at h
 have HH := Aside0.mk h
 clear h
 go_enter Try.func20, Try.ntmps20
 go_wp2_with (first | ((with_reducible refine gate_dst (N := 3) rfl ?_); refine box_event ?hg (N := 3) ?hd (cs := #[.bool a0_0, .slice A0_1 l0_1.length c0_1, .slice A0_2 l0_2.length c0_2, .slice A0_3 l0_3.length c0_3]) (t := 26) ?hr ?_; (case hd => rfl); (case hg => rfl); (case hr => first | (go_simp; done) | (go_simp; rfl)); intro gp hgp w1 hbox hb; have BP := Aside0.mk hbox; have HB := Aside0.mk hb; clear hbox hb hgp) | ((with_reducible refine gate_dst (N := 5) rfl ?_); refine box_event ?hg (N := 5) ?hd (cs := #[.bool a2_0, .slice A2_1 l2_1.length c2_1, .slice A2_2 l2_2.length c2_2, .slice A2_3 l2_3.length c2_3]) (t := 26) ?hr ?_; (case hd => rfl); (case hg => rfl); (case hr => first | (go_simp; done) | (go_simp; rfl)); intro gq hgq w2 hbox hb; have BP2 := Aside0.mk (blk_below BP.out hb); have BQ := Aside0.mk hbox; have HB2 := Aside0.mk (below_step HB.out hb); clear hbox hb hgq BP HB) | ((with_reducible refine gate_dst (N := 6) rfl ?_); refine box_event ?hg (N := 6) ?hd (cs := #[.bool false, .slice none 0 0, .slice none 0 0, .slice none 0 0]) (t := 26) ?hr ?_; (case hd => rfl); (case hg => rfl); (case hr => first | (go_simp; done) | (go_simp; rfl)); intro gr hgr w3 hbox hb; have GR : Aside0 (w.heap.size ≤ gr) := ⟨by rw [hgr]; exact HB2.out.size⟩; have M : Aside0 (node_Merge.Mg w w3 gp gq gr #[.bool a0_0, .slice A0_1 l0_1.length c0_1, .slice A0_2 l0_2.length c0_2, .slice A0_3 l0_3.length c0_3] #[.bool a2_0, .slice A2_1 l2_1.length c2_1, .slice A2_2 l2_2.length c2_2, .slice A2_3 l2_3.length c2_3]) := ⟨⟨blk_below BP2.out hb, blk_below BQ.out hb, hbox, below_step HB2.out hb⟩⟩; have hp0 := (blk_cell M.out.BA 0).trans rfl; have hp1 := (blk_cell M.out.BA 1).trans rfl; have hp2 := (blk_cell M.out.BA 2).trans rfl; have hp3 := (blk_cell M.out.BA 3).trans rfl; have hq0 := (blk_cell M.out.BB 0).trans rfl; have hq1 := (blk_cell M.out.BB 1).trans rfl; have hq2 := (blk_cell M.out.BB 2).trans rfl; have hq3 := (blk_cell M.out.BB 3).trans rfl; clear hbox hb hgr BP2 BQ HB2) | ((with_reducible refine gate_dst (N := 16) rfl ?_); refine node_Merge.lit2 ?hg (N := 16) ?hd (cs := #[.bool a0_0, .slice A0_1 l0_1.length c0_1, .slice A0_2 l0_2.length c0_2, .slice A0_3 l0_3.length c0_3, .bool a2_0, .slice A2_1 l2_1.length c2_1, .slice A2_2 l2_2.length c2_2, .slice A2_3 l2_3.length c2_3]) ?hr ?_; (case hd => rfl); (case hg => rfl); (case hr => first | (go_simp; done) | (go_simp; rfl)); intro gs w4 hbox hb; have BS := Aside0.mk hbox; have M2 := Aside0.mk (M.out.below hb); clear hp0 hp1 hp2 hp3 hq0 hq1 hq2 hq3 hbox hb M))
 go_loopg [18] 3 (fun kq v18 wr => ∃ i : Nat, i ≤ 2 ∧ i + kq = 3 ∧ v18 = .int .i64 i ∧ node_Merge.Mg w wr gp gq gr #[.bool a0_0, .slice A0_1 l0_1.length c0_1, .slice A0_2 l0_2.length c0_2, .slice A0_3 l0_3.length c0_3] #[.bool a2_0, .slice A2_1 l2_1.length c2_1, .slice A2_2 l2_2.length c2_2, .slice A2_3 l2_3.length c2_3] ∧ wr.heap[gs]? = some (.cells #[.bool a0_0, .slice A0_1 l0_1.length c0_1, .slice A0_2 l0_2.length c0_2, .slice A0_3 l0_3.length c0_3, .bool a2_0, .slice A2_1 l2_1.length c2_1, .slice A2_2 l2_2.length c2_2, .slice A2_3 l2_3.length c2_3] 26 (0, 0)) ∧ (0 < i → node_Check.f k a0_0 l0_1 l0_2 l0_3 = some 0) ∧ (1 < i → node_Check.f k a2_0 l2_1 l2_2 l2_3 = some 0))
 case atStart => exact ⟨0, by omega, by omega, rfl, M2.out, BS.out, fun h => by omega, fun h => by omega⟩
 case round =>
  clear M2 BS
  obtain ⟨i, hi2, hik, rfl, hM, hS, hA, hB⟩ := hrel
  have M := Aside0.mk hM
  have BS := Aside0.mk hS
  clear hM hS
  rcases (show i = 0 ∨ i = 1 ∨ i = 2 by omega) with rfl | rfl | rfl
  ·clear hA hB
   have H := HH.out
   unfold node_Merge.f at H
   replace H := Option.bind_eq_some_iff.mp H
   obtain ⟨t, ht, H⟩ := H
   have HT := Aside0.mk ht
   have HX := Aside0.mk H
   clear ht H
   have hs0 := (blk_cell BS.out 0).trans rfl
   have hs1 := (blk_cell BS.out 1).trans rfl
   have hs2 := (blk_cell BS.out 2).trans rfl
   have hs3 := (blk_cell BS.out 3).trans rfl
   go_upto_region 4 with (first | ((with_reducible refine gate_dst (N := 9) rfl ?_); refine box_event ?hg (N := 9) ?hd (cs := #[.bool false, .slice none 0 0, .slice none 0 0, .slice none 0 0]) (t := 26) ?hr ?_; (case hd => rfl); (case hg => rfl); (case hr => first | (go_simp; done) | (go_simp; rfl)); intro g9 hg9 w5 hbox hb; have N9 : Aside0 (gp ≠ g9 ∧ gq ≠ g9 ∧ gr ≠ g9 ∧ gs ≠ g9 ∧ w.heap.size ≤ g9) := ⟨by rw [hg9]; exact Nat.ne_of_lt (blk_lt M.out.BA), by rw [hg9]; exact Nat.ne_of_lt (blk_lt M.out.BB), by rw [hg9]; exact Nat.ne_of_lt (blk_lt M.out.BR), by rw [hg9]; exact Nat.ne_of_lt (blk_lt BS.out), by rw [hg9]; exact M.out.HB.size⟩; have B9 := Aside0.mk hbox; have M5 := Aside0.mk (M.out.below hb); have BS5 := Aside0.mk (blk_below BS.out hb); have hd0 := (blk_cell B9.out 0).trans rfl; have hf0 := blk_frozen B9.out 0; have hd1 := (blk_cell B9.out 1).trans rfl; have hf1 := blk_frozen B9.out 1; have hd2 := (blk_cell B9.out 2).trans rfl; have hf2 := blk_frozen B9.out 2; have hd3 := (blk_cell B9.out 3).trans rfl; have hf3 := blk_frozen B9.out 3; clear hs0 hs1 hs2 hs3 hbox hb hg9 M BS))
   have M6 : Aside0 (node_Merge.Mg w ((((w5.setCell ⟨g9, 0, none⟩ (.bool a0_0)).setCell ⟨g9, 1, none⟩ (.slice A0_1 l0_1.length c0_1)).setCell ⟨g9, 2, none⟩ (.slice A0_2 l0_2.length c0_2)).setCell ⟨g9, 3, none⟩ (.slice A0_3 l0_3.length c0_3)) gp gq gr #[.bool a0_0, .slice A0_1 l0_1.length c0_1, .slice A0_2 l0_2.length c0_2, .slice A0_3 l0_3.length c0_3] #[.bool a2_0, .slice A2_1 l2_1.length c2_1, .slice A2_2 l2_2.length c2_2, .slice A2_3 l2_3.length c2_3]) := ⟨⟨pageF M5.out.BA N9.out.1 _ _ _ _, pageF M5.out.BB N9.out.2.1 _ _ _ _, pageF M5.out.BR N9.out.2.2.1 _ _ _ _, pageW M5.out.HB N9.out.2.2.2.2 _ _ _ _⟩⟩
   have BS6 : Aside0 (((((w5.setCell ⟨g9, 0, none⟩ (.bool a0_0)).setCell ⟨g9, 1, none⟩ (.slice A0_1 l0_1.length c0_1)).setCell ⟨g9, 2, none⟩ (.slice A0_2 l0_2.length c0_2)).setCell ⟨g9, 3, none⟩ (.slice A0_3 l0_3.length c0_3)).heap[gs]? = some (.cells #[.bool a0_0, .slice A0_1 l0_1.length c0_1, .slice A0_2 l0_2.length c0_2, .slice A0_3 l0_3.length c0_3, .bool a2_0, .slice A2_1 l2_1.length c2_1, .slice A2_2 l2_2.length c2_2, .slice A2_3 l2_3.length c2_3] 26 (0, 0))) := ⟨pageF BS5.out N9.out.2.2.2.1 _ _ _ _⟩
   have B6 : Aside0 (((((w5.setCell ⟨g9, 0, none⟩ (.bool a0_0)).setCell ⟨g9, 1, none⟩ (.slice A0_1 l0_1.length c0_1)).setCell ⟨g9, 2, none⟩ (.slice A0_2 l0_2.length c0_2)).setCell ⟨g9, 3, none⟩ (.slice A0_3 l0_3.length c0_3)).heap[g9]? = some (.cells #[.bool a0_0, .slice A0_1 l0_1.length c0_1, .slice A0_2 l0_2.length c0_2, .slice A0_3 l0_3.length c0_3] 26 (0, 0))) := ⟨pageB B9.out _ _ _ _⟩
   clear hd0 hd1 hd2 hd3 hf0 hf1 hf2 hf3 B9 M5 BS5 N9
   obtain ⟨w6, hw6⟩ : ∃ w6, w6 = ((((w5.setCell ⟨g9, 0, none⟩ (.bool a0_0)).setCell ⟨g9, 1, none⟩ (.slice A0_1 l0_1.length c0_1)).setCell ⟨g9, 2, none⟩ (.slice A0_2 l0_2.length c0_2)).setCell ⟨g9, 3, none⟩ (.slice A0_3 l0_3.length c0_3)) := ⟨_, rfl⟩
   rw [← hw6] at M6 BS6 B6 ⊢
   clear hw6
   have hs0 := (blk_cell B6.out 0).trans rfl
   have hs1 := (blk_cell B6.out 1).trans rfl
   have hs2 := (blk_cell B6.out 2).trans rfl
   have hs3 := (blk_cell B6.out 3).trans rfl
   go_wp2_with fail
   refine (node_Check.calls k a0_0 A0_1 c0_1 l0_1 A0_2 c0_2 l0_2 A0_3 c0_3 l0_3 t _ (Kd.C_below RA1.out M6.out.HB) LA1.out (Kd.C_below RA2.out M6.out.HB) LA2.out (Kd.C_below RA3.out M6.out.HB) LA3.out HT.out).mono ?_
   rintro e w7 ⟨rfl, hb⟩
   have M7 := Aside0.mk (M6.out.below hb)
   have BS7 := Aside0.mk (blk_below BS6.out hb)
   clear hs0 hs1 hs2 hs3 hb M6 BS6 B6
   have H := HX.out
   clear HX
   by_cases hz : t = 0
   ·rw [if_pos hz] at H
    have z1 : (t == 0) = true := beq_iff_eq.mpr hz
    have z2 : (t != 0) = false := bne_eq_false_iff_eq.mpr hz
    rw [hz] at HT
    clear hz H
    go_wp2_with fail
    go_roundg 2
    case measure => exact (by omega)
    case rel => exact ⟨1, by omega, by omega, rfl, M7.out, BS7.out, fun _ => HT.out, fun h => by omega⟩
   ·rw [if_neg hz] at H
    have z1 : (t == 0) = false := beq_eq_false_iff_ne.mpr hz
    have z2 : (t != 0) = true := bne_iff_ne.mpr hz
    clear hz HT
    simp only [Option.some.injEq, Prod.mk.injEq] at H
    obtain ⟨rfl, rfl, rfl, rfl, rfl⟩ := H
    have hz0 := (blk_cell M7.out.BR 0).trans rfl
    have hz1 := (blk_cell M7.out.BR 1).trans rfl
    have hz2 := (blk_cell M7.out.BR 2).trans rfl
    have hz3 := (blk_cell M7.out.BR 3).trans rfl
    have hf0 := blk_frozen M7.out.BR 0
    have hf1 := blk_frozen M7.out.BR 1
    have hf2 := blk_frozen M7.out.BR 2
    have hf3 := blk_frozen M7.out.BR 3
    go_wp2
    refine bodyPost_ret (results_ct rfl _ _ gr 26 #[.bool false, .slice none 0 0, .slice none 0 0, .slice none 0 0] (0, 0) _ rfl (pageB M7.out.BR _ _ _ _) Try.underlying26 rfl (by kernel_rfl)) rfl ⟨_, _, _, rfl, Kd.V_nil _ _ _ _ _, Kd.V_nil _ _ _ _ _, Kd.V_nil _ _ _ _ _, pageW M7.out.HB GR.out _ _ _ _⟩
  ·have H1 := Aside0.mk (hA (by omega))
   clear hA hB
   have H := HH.out
   unfold node_Merge.f at H
   rw [H1.out, Option.bind_some, if_pos rfl] at H
   replace H := Option.bind_eq_some_iff.mp H
   obtain ⟨t, ht, H⟩ := H
   have HT := Aside0.mk ht
   have HX := Aside0.mk H
   clear ht H
   have hs0 := (blk_cell BS.out 4).trans rfl
   have hs1 := (blk_cell BS.out 5).trans rfl
   have hs2 := (blk_cell BS.out 6).trans rfl
   have hs3 := (blk_cell BS.out 7).trans rfl
   go_upto_region 4 with (first | ((with_reducible refine gate_dst (N := 9) rfl ?_); refine box_event ?hg (N := 9) ?hd (cs := #[.bool false, .slice none 0 0, .slice none 0 0, .slice none 0 0]) (t := 26) ?hr ?_; (case hd => rfl); (case hg => rfl); (case hr => first | (go_simp; done) | (go_simp; rfl)); intro g9 hg9 w5 hbox hb; have N9 : Aside0 (gp ≠ g9 ∧ gq ≠ g9 ∧ gr ≠ g9 ∧ gs ≠ g9 ∧ w.heap.size ≤ g9) := ⟨by rw [hg9]; exact Nat.ne_of_lt (blk_lt M.out.BA), by rw [hg9]; exact Nat.ne_of_lt (blk_lt M.out.BB), by rw [hg9]; exact Nat.ne_of_lt (blk_lt M.out.BR), by rw [hg9]; exact Nat.ne_of_lt (blk_lt BS.out), by rw [hg9]; exact M.out.HB.size⟩; have B9 := Aside0.mk hbox; have M5 := Aside0.mk (M.out.below hb); have BS5 := Aside0.mk (blk_below BS.out hb); have hd0 := (blk_cell B9.out 0).trans rfl; have hf0 := blk_frozen B9.out 0; have hd1 := (blk_cell B9.out 1).trans rfl; have hf1 := blk_frozen B9.out 1; have hd2 := (blk_cell B9.out 2).trans rfl; have hf2 := blk_frozen B9.out 2; have hd3 := (blk_cell B9.out 3).trans rfl; have hf3 := blk_frozen B9.out 3; clear hs0 hs1 hs2 hs3 hbox hb hg9 M BS))
   have M6 : Aside0 (node_Merge.Mg w ((((w5.setCell ⟨g9, 0, none⟩ (.bool a2_0)).setCell ⟨g9, 1, none⟩ (.slice A2_1 l2_1.length c2_1)).setCell ⟨g9, 2, none⟩ (.slice A2_2 l2_2.length c2_2)).setCell ⟨g9, 3, none⟩ (.slice A2_3 l2_3.length c2_3)) gp gq gr #[.bool a0_0, .slice A0_1 l0_1.length c0_1, .slice A0_2 l0_2.length c0_2, .slice A0_3 l0_3.length c0_3] #[.bool a2_0, .slice A2_1 l2_1.length c2_1, .slice A2_2 l2_2.length c2_2, .slice A2_3 l2_3.length c2_3]) := ⟨⟨pageF M5.out.BA N9.out.1 _ _ _ _, pageF M5.out.BB N9.out.2.1 _ _ _ _, pageF M5.out.BR N9.out.2.2.1 _ _ _ _, pageW M5.out.HB N9.out.2.2.2.2 _ _ _ _⟩⟩
   have BS6 : Aside0 (((((w5.setCell ⟨g9, 0, none⟩ (.bool a2_0)).setCell ⟨g9, 1, none⟩ (.slice A2_1 l2_1.length c2_1)).setCell ⟨g9, 2, none⟩ (.slice A2_2 l2_2.length c2_2)).setCell ⟨g9, 3, none⟩ (.slice A2_3 l2_3.length c2_3)).heap[gs]? = some (.cells #[.bool a0_0, .slice A0_1 l0_1.length c0_1, .slice A0_2 l0_2.length c0_2, .slice A0_3 l0_3.length c0_3, .bool a2_0, .slice A2_1 l2_1.length c2_1, .slice A2_2 l2_2.length c2_2, .slice A2_3 l2_3.length c2_3] 26 (0, 0))) := ⟨pageF BS5.out N9.out.2.2.2.1 _ _ _ _⟩
   have B6 : Aside0 (((((w5.setCell ⟨g9, 0, none⟩ (.bool a2_0)).setCell ⟨g9, 1, none⟩ (.slice A2_1 l2_1.length c2_1)).setCell ⟨g9, 2, none⟩ (.slice A2_2 l2_2.length c2_2)).setCell ⟨g9, 3, none⟩ (.slice A2_3 l2_3.length c2_3)).heap[g9]? = some (.cells #[.bool a2_0, .slice A2_1 l2_1.length c2_1, .slice A2_2 l2_2.length c2_2, .slice A2_3 l2_3.length c2_3] 26 (0, 0))) := ⟨pageB B9.out _ _ _ _⟩
   clear hd0 hd1 hd2 hd3 hf0 hf1 hf2 hf3 B9 M5 BS5 N9
   obtain ⟨w6, hw6⟩ : ∃ w6, w6 = ((((w5.setCell ⟨g9, 0, none⟩ (.bool a2_0)).setCell ⟨g9, 1, none⟩ (.slice A2_1 l2_1.length c2_1)).setCell ⟨g9, 2, none⟩ (.slice A2_2 l2_2.length c2_2)).setCell ⟨g9, 3, none⟩ (.slice A2_3 l2_3.length c2_3)) := ⟨_, rfl⟩
   rw [← hw6] at M6 BS6 B6 ⊢
   clear hw6
   have hs0 := (blk_cell B6.out 0).trans rfl
   have hs1 := (blk_cell B6.out 1).trans rfl
   have hs2 := (blk_cell B6.out 2).trans rfl
   have hs3 := (blk_cell B6.out 3).trans rfl
   go_wp2_with fail
   refine (node_Check.calls k a2_0 A2_1 c2_1 l2_1 A2_2 c2_2 l2_2 A2_3 c2_3 l2_3 t _ (Kd.C_below RB1.out M6.out.HB) LB1.out (Kd.C_below RB2.out M6.out.HB) LB2.out (Kd.C_below RB3.out M6.out.HB) LB3.out HT.out).mono ?_
   rintro e w7 ⟨rfl, hb⟩
   have M7 := Aside0.mk (M6.out.below hb)
   have BS7 := Aside0.mk (blk_below BS6.out hb)
   clear hs0 hs1 hs2 hs3 hb M6 BS6 B6
   have H := HX.out
   clear HX
   by_cases hz : t = 0
   ·rw [if_pos hz] at H
    have z1 : (t == 0) = true := beq_iff_eq.mpr hz
    have z2 : (t != 0) = false := bne_eq_false_iff_eq.mpr hz
    rw [hz] at HT
    clear hz H
    go_wp2_with fail
    go_roundg 1
    case measure => exact (by omega)
    case rel => exact ⟨2, by omega, by omega, rfl, M7.out, BS7.out, fun _ => H1.out, fun h => HT.out⟩
   ·rw [if_neg hz] at H
    have z1 : (t == 0) = false := beq_eq_false_iff_ne.mpr hz
    have z2 : (t != 0) = true := bne_iff_ne.mpr hz
    clear hz HT
    simp only [Option.some.injEq, Prod.mk.injEq] at H
    obtain ⟨rfl, rfl, rfl, rfl, rfl⟩ := H
    have hz0 := (blk_cell M7.out.BR 0).trans rfl
    have hz1 := (blk_cell M7.out.BR 1).trans rfl
    have hz2 := (blk_cell M7.out.BR 2).trans rfl
    have hz3 := (blk_cell M7.out.BR 3).trans rfl
    have hf0 := blk_frozen M7.out.BR 0
    have hf1 := blk_frozen M7.out.BR 1
    have hf2 := blk_frozen M7.out.BR 2
    have hf3 := blk_frozen M7.out.BR 3
    go_wp2
    refine bodyPost_ret (results_ct rfl _ _ gr 26 #[.bool false, .slice none 0 0, .slice none 0 0, .slice none 0 0] (0, 0) _ rfl (pageB M7.out.BR _ _ _ _) Try.underlying26 rfl (by kernel_rfl)) rfl ⟨_, _, _, rfl, Kd.V_nil _ _ _ _ _, Kd.V_nil _ _ _ _ _, Kd.V_nil _ _ _ _ _, pageW M7.out.HB GR.out _ _ _ _⟩
  ·have H1 := Aside0.mk (hA (by omega))
   have H2 := Aside0.mk (hB (by omega))
   clear hA hB BS
   have H := HH.out
   clear HH
   unfold node_Merge.f at H
   rw [H1.out, Option.bind_some, if_pos rfl, H2.out, Option.bind_some, if_pos rfl] at H
   clear H1 H2
   have hp0 := (blk_cell M.out.BA 0).trans rfl
   have hq0 := (blk_cell M.out.BB 0).trans rfl
   by_cases hl : (a0_0 != a2_0) = true
   ·have y1 : (a0_0 == a2_0) = false := by revert hl; cases a0_0 <;> cases a2_0 <;> decide
    rw [if_pos hl] at H
    clear hl
    simp only [Option.some.injEq, Prod.mk.injEq] at H
    obtain ⟨rfl, rfl, rfl, rfl, rfl⟩ := H
    have hz0 := (blk_cell M.out.BR 0).trans rfl
    have hz1 := (blk_cell M.out.BR 1).trans rfl
    have hz2 := (blk_cell M.out.BR 2).trans rfl
    have hz3 := (blk_cell M.out.BR 3).trans rfl
    have hf0 := blk_frozen M.out.BR 0
    have hf1 := blk_frozen M.out.BR 1
    have hf2 := blk_frozen M.out.BR 2
    have hf3 := blk_frozen M.out.BR 3
    go_wp2
    refine bodyPost_ret (results_ct rfl _ _ gr 26 #[.bool false, .slice none 0 0, .slice none 0 0, .slice none 0 0] (0, 0) _ rfl (pageB M.out.BR _ _ _ _) Try.underlying26 rfl (by kernel_rfl)) rfl ⟨_, _, _, rfl, Kd.V_nil _ _ _ _ _, Kd.V_nil _ _ _ _ _, Kd.V_nil _ _ _ _ _, pageW M.out.HB GR.out _ _ _ _⟩
   ·have y1 : (a0_0 == a2_0) = true := by revert hl; cases a0_0 <;> cases a2_0 <;> decide
    rw [if_neg hl] at H
    clear hl
    by_cases hk : (l1.length : Int) > 256
    ·rw [if_pos hk] at H
     have y2 : decide (256 < (l1.length : Int)) = true := decide_eq_true hk
     have y3 : decide (256 < l1.length) = true := decide_eq_true (by omega)
     clear hk
     simp only [Option.some.injEq, Prod.mk.injEq] at H
     obtain ⟨rfl, rfl, rfl, rfl, rfl⟩ := H
     have hz0 := (blk_cell M.out.BR 0).trans rfl
     have hz1 := (blk_cell M.out.BR 1).trans rfl
     have hz2 := (blk_cell M.out.BR 2).trans rfl
     have hz3 := (blk_cell M.out.BR 3).trans rfl
     have hf0 := blk_frozen M.out.BR 0
     have hf1 := blk_frozen M.out.BR 1
     have hf2 := blk_frozen M.out.BR 2
     have hf3 := blk_frozen M.out.BR 3
     go_wp2
     refine bodyPost_ret (results_ct rfl _ _ gr 26 #[.bool false, .slice none 0 0, .slice none 0 0, .slice none 0 0] (0, 0) _ rfl (pageB M.out.BR _ _ _ _) Try.underlying26 rfl (by kernel_rfl)) rfl ⟨_, _, _, rfl, Kd.V_nil _ _ _ _ _, Kd.V_nil _ _ _ _ _, Kd.V_nil _ _ _ _ _, pageW M.out.HB GR.out _ _ _ _⟩
    ·rw [if_neg hk] at H
     have y2 : decide (256 < (l1.length : Int)) = false := decide_eq_false hk
     have y3 : decide (256 < l1.length) = false := decide_eq_false (by omega)
     have HL := Aside0.mk hk
     clear hk
     replace H := Option.bind_eq_some_iff.mp H
     obtain ⟨⟨o1, o2, o3, o4⟩, hO, H⟩ := H
     replace H := Option.bind_eq_some_iff.mp H
     obtain ⟨⟨p1, p2, p3, p4⟩, hP, H⟩ := H
     have HO := Aside0.mk hO
     have HP := Aside0.mk hP
     have HH := Aside0.mk H
     clear hO hP H
     go_upto_region 12 with (fail)
     clear hp0 hq0
     have n_ := Aside0.mk (M.out.below (below_drew (Below.refl _ _)))
     clear M
     have M := n_
     clear n_
     refine start_ (n := 8) (S := fun w' => w'.cell? ⟨gp, 0, none⟩ = some (.bool a0_0) ∧ w'.cell? ⟨gp, 1, none⟩ = some (.slice A0_1 l0_1.length c0_1) ∧ w'.cell? ⟨gp, 2, none⟩ = some (.slice A0_2 l0_2.length c0_2) ∧ w'.cell? ⟨gp, 3, none⟩ = some (.slice A0_3 l0_3.length c0_3) ∧ w'.cell? ⟨gq, 0, none⟩ = some (.bool a2_0) ∧ w'.cell? ⟨gq, 1, none⟩ = some (.slice A2_1 l2_1.length c2_1) ∧ w'.cell? ⟨gq, 2, none⟩ = some (.slice A2_2 l2_2.length c2_2) ∧ w'.cell? ⟨gq, 3, none⟩ = some (.slice A2_3 l2_3.length c2_3)) (ds := [6, 7]) (zB 0 8) (by kernel_rfl) rfl rfl ⟨((blk_cell M.out.BA 0).trans rfl), ((blk_cell M.out.BA 1).trans rfl), ((blk_cell M.out.BA 2).trans rfl), ((blk_cell M.out.BA 3).trans rfl), ((blk_cell M.out.BB 0).trans rfl), ((blk_cell M.out.BB 1).trans rfl), ((blk_cell M.out.BB 2).trans rfl), ((blk_cell M.out.BB 3).trans rfl)⟩ (fun hHeld => ?_)
     refine with_tabW node_Merge.tab12 node_Merge.bits12 (fun HT_ HW_ => ?_)
     refine take_ (i := 0) (N := some 41) (v := ?_) (a' := ?_) (zB 1 7) rfl rfl (take_ofW HT_.out HW_.out (by kernel_rfl)) (fun _ _ _ h => h) (Or.inl ⟨by rfl, ?_⟩) hHeld ?_ ?_
     rotate_left
     ·rintro w' ⟨s0, s1, s2, s3, s4, s5, s6, s7⟩
      go_simp
      with_reducible rfl
     rotate_left
     ·simp only [Act.put, zt0, zt1, zt2, i64_w, i32_w]
      rfl
     refine take_ (i := 2) (N := some 43) (v := ?_) (a' := ?_) #[true, false, true, false, false, false, false, false] rfl rfl (take_ofW HT_.out HW_.out (by kernel_rfl)) (fun _ _ _ h => h) (Or.inl ⟨by rfl, ?_⟩) hHeld ?_ ?_
     rotate_left
     ·rintro w' ⟨s0, s1, s2, s3, s4, s5, s6, s7⟩
      go_simp
      with_reducible rfl
     rotate_left
     ·simp only [Act.put, zt0, zt1, zt2, i64_w, i32_w]
      rfl
     refine join_ (σ := Value × Value × Value × Nat × Nat × Value × Value × Value × Nat × Nat × Nat × Nat) 2 (zB 6 2) (fun s => [(42, .agg #[.bool o1, s.1, s.2.1, s.2.2.1]), (44, .agg #[.bool p1, s.2.2.2.2.2.1, s.2.2.2.2.2.2.1, s.2.2.2.2.2.2.2.1]), (11, .pointer (some ⟨s.2.2.2.2.2.2.2.2.2.2.1, 0, none⟩)), (12, .pointer (some ⟨s.2.2.2.2.2.2.2.2.2.2.2, 0, none⟩))]) (fun s w' => (w'.cell? ⟨gp, 0, none⟩ = some (.bool a0_0) ∧ w'.cell? ⟨gp, 1, none⟩ = some (.slice A0_1 l0_1.length c0_1) ∧ w'.cell? ⟨gp, 2, none⟩ = some (.slice A0_2 l0_2.length c0_2) ∧ w'.cell? ⟨gp, 3, none⟩ = some (.slice A0_3 l0_3.length c0_3) ∧ w'.cell? ⟨gq, 0, none⟩ = some (.bool a2_0) ∧ w'.cell? ⟨gq, 1, none⟩ = some (.slice A2_1 l2_1.length c2_1) ∧ w'.cell? ⟨gq, 2, none⟩ = some (.slice A2_2 l2_2.length c2_2) ∧ w'.cell? ⟨gq, 3, none⟩ = some (.slice A2_3 l2_3.length c2_3)) ∧ (node_Merge.Mg w w' gp gq gr #[.bool a0_0, .slice A0_1 l0_1.length c0_1, .slice A0_2 l0_2.length c0_2, .slice A0_3 l0_3.length c0_3] #[.bool a2_0, .slice A2_1 l2_1.length c2_1, .slice A2_2 l2_2.length c2_2, .slice A2_3 l2_3.length c2_3]) ∧ (node_Merge.OwnR w' w.heap.size s.2.2.2.1 s.2.2.2.2.1 s.1 o2 s.2.1 o3 s.2.2.1 o4 ∧ w.heap.size ≤ s.2.2.2.1 ∧ s.2.2.2.2.1 ≤ w'.heap.size) ∧ (node_Merge.OwnR w' w.heap.size s.2.2.2.2.2.2.2.2.1 s.2.2.2.2.2.2.2.2.2.1 s.2.2.2.2.2.1 p2 s.2.2.2.2.2.2.1 p3 s.2.2.2.2.2.2.2.1 p4 ∧ s.2.2.2.2.1 ≤ s.2.2.2.2.2.2.2.2.1 ∧ w.heap.size ≤ s.2.2.2.2.2.2.2.2.1) ∧ (w'.heap[s.2.2.2.2.2.2.2.2.2.2.1]? = some (.cells #[.bool false, .slice none 0 0, .slice none 0 0, .slice none 0 0] 26 (0, 0)) ∧ w.heap.size ≤ s.2.2.2.2.2.2.2.2.2.2.1 ∧ gr ≠ s.2.2.2.2.2.2.2.2.2.2.1 ∧ gp ≠ s.2.2.2.2.2.2.2.2.2.2.1) ∧ (w'.heap[s.2.2.2.2.2.2.2.2.2.2.2]? = some (.cells #[.bool false, .slice none 0 0, .slice none 0 0, .slice none 0 0] 26 (0, 0)) ∧ w.heap.size ≤ s.2.2.2.2.2.2.2.2.2.2.2 ∧ gr ≠ s.2.2.2.2.2.2.2.2.2.2.2 ∧ gp ≠ s.2.2.2.2.2.2.2.2.2.2.2) ∧ (s.2.2.2.2.2.2.2.2.2.2.1 ≠ s.2.2.2.2.2.2.2.2.2.2.2)) ?_ ?_
     rotate_left
     ·intro hJ1_3_4_5
      refine join_ (σ := Value × Value × Value × Nat × Nat × Value × Value × Value × Nat × Nat × Nat) 3 (zB 5 3) (fun s => [(42, .agg #[.bool o1, s.1, s.2.1, s.2.2.1]), (44, .agg #[.bool p1, s.2.2.2.2.2.1, s.2.2.2.2.2.2.1, s.2.2.2.2.2.2.2.1]), (11, .pointer (some ⟨s.2.2.2.2.2.2.2.2.2.2, 0, none⟩))]) (fun s w' => (w'.cell? ⟨gp, 0, none⟩ = some (.bool a0_0) ∧ w'.cell? ⟨gp, 1, none⟩ = some (.slice A0_1 l0_1.length c0_1) ∧ w'.cell? ⟨gp, 2, none⟩ = some (.slice A0_2 l0_2.length c0_2) ∧ w'.cell? ⟨gp, 3, none⟩ = some (.slice A0_3 l0_3.length c0_3) ∧ w'.cell? ⟨gq, 0, none⟩ = some (.bool a2_0) ∧ w'.cell? ⟨gq, 1, none⟩ = some (.slice A2_1 l2_1.length c2_1) ∧ w'.cell? ⟨gq, 2, none⟩ = some (.slice A2_2 l2_2.length c2_2) ∧ w'.cell? ⟨gq, 3, none⟩ = some (.slice A2_3 l2_3.length c2_3)) ∧ (node_Merge.Mg w w' gp gq gr #[.bool a0_0, .slice A0_1 l0_1.length c0_1, .slice A0_2 l0_2.length c0_2, .slice A0_3 l0_3.length c0_3] #[.bool a2_0, .slice A2_1 l2_1.length c2_1, .slice A2_2 l2_2.length c2_2, .slice A2_3 l2_3.length c2_3]) ∧ (node_Merge.OwnR w' w.heap.size s.2.2.2.1 s.2.2.2.2.1 s.1 o2 s.2.1 o3 s.2.2.1 o4 ∧ w.heap.size ≤ s.2.2.2.1 ∧ s.2.2.2.2.1 ≤ w'.heap.size) ∧ (node_Merge.OwnR w' w.heap.size s.2.2.2.2.2.2.2.2.1 s.2.2.2.2.2.2.2.2.2.1 s.2.2.2.2.2.1 p2 s.2.2.2.2.2.2.1 p3 s.2.2.2.2.2.2.2.1 p4 ∧ s.2.2.2.2.1 ≤ s.2.2.2.2.2.2.2.2.1 ∧ w.heap.size ≤ s.2.2.2.2.2.2.2.2.1) ∧ (w'.heap[s.2.2.2.2.2.2.2.2.2.2]? = some (.cells #[.bool false, .slice none 0 0, .slice none 0 0, .slice none 0 0] 26 (0, 0)) ∧ w.heap.size ≤ s.2.2.2.2.2.2.2.2.2.2 ∧ gr ≠ s.2.2.2.2.2.2.2.2.2.2 ∧ gp ≠ s.2.2.2.2.2.2.2.2.2.2)) ?_ ?_
      rotate_left
      ·intro hJ1_3_4
       refine join_ (σ := Value × Value × Value × Nat × Nat × Value × Value × Value × Nat × Nat × Nat) 3 #[true, true, true, true, false, true, false, false] (fun s => [(42, .agg #[.bool o1, s.1, s.2.1, s.2.2.1]), (44, .agg #[.bool p1, s.2.2.2.2.2.1, s.2.2.2.2.2.2.1, s.2.2.2.2.2.2.2.1]), (12, .pointer (some ⟨s.2.2.2.2.2.2.2.2.2.2, 0, none⟩))]) (fun s w' => (w'.cell? ⟨gp, 0, none⟩ = some (.bool a0_0) ∧ w'.cell? ⟨gp, 1, none⟩ = some (.slice A0_1 l0_1.length c0_1) ∧ w'.cell? ⟨gp, 2, none⟩ = some (.slice A0_2 l0_2.length c0_2) ∧ w'.cell? ⟨gp, 3, none⟩ = some (.slice A0_3 l0_3.length c0_3) ∧ w'.cell? ⟨gq, 0, none⟩ = some (.bool a2_0) ∧ w'.cell? ⟨gq, 1, none⟩ = some (.slice A2_1 l2_1.length c2_1) ∧ w'.cell? ⟨gq, 2, none⟩ = some (.slice A2_2 l2_2.length c2_2) ∧ w'.cell? ⟨gq, 3, none⟩ = some (.slice A2_3 l2_3.length c2_3)) ∧ (node_Merge.Mg w w' gp gq gr #[.bool a0_0, .slice A0_1 l0_1.length c0_1, .slice A0_2 l0_2.length c0_2, .slice A0_3 l0_3.length c0_3] #[.bool a2_0, .slice A2_1 l2_1.length c2_1, .slice A2_2 l2_2.length c2_2, .slice A2_3 l2_3.length c2_3]) ∧ (node_Merge.OwnR w' w.heap.size s.2.2.2.1 s.2.2.2.2.1 s.1 o2 s.2.1 o3 s.2.2.1 o4 ∧ w.heap.size ≤ s.2.2.2.1 ∧ s.2.2.2.2.1 ≤ w'.heap.size) ∧ (node_Merge.OwnR w' w.heap.size s.2.2.2.2.2.2.2.2.1 s.2.2.2.2.2.2.2.2.2.1 s.2.2.2.2.2.1 p2 s.2.2.2.2.2.2.1 p3 s.2.2.2.2.2.2.2.1 p4 ∧ s.2.2.2.2.1 ≤ s.2.2.2.2.2.2.2.2.1 ∧ w.heap.size ≤ s.2.2.2.2.2.2.2.2.1) ∧ (w'.heap[s.2.2.2.2.2.2.2.2.2.2]? = some (.cells #[.bool false, .slice none 0 0, .slice none 0 0, .slice none 0 0] 26 (0, 0)) ∧ w.heap.size ≤ s.2.2.2.2.2.2.2.2.2.2 ∧ gr ≠ s.2.2.2.2.2.2.2.2.2.2 ∧ gp ≠ s.2.2.2.2.2.2.2.2.2.2)) ?_ ?_
       rotate_left
       ·intro hJ1_3_5
        refine join_ (σ := Value × Value × Value × Nat × Nat × Nat × Nat) 3 #[true, true, true, false, true, true, false, false] (fun s => [(42, .agg #[.bool o1, s.1, s.2.1, s.2.2.1]), (11, .pointer (some ⟨s.2.2.2.2.2.1, 0, none⟩)), (12, .pointer (some ⟨s.2.2.2.2.2.2, 0, none⟩))]) (fun s w' => (w'.cell? ⟨gp, 0, none⟩ = some (.bool a0_0) ∧ w'.cell? ⟨gp, 1, none⟩ = some (.slice A0_1 l0_1.length c0_1) ∧ w'.cell? ⟨gp, 2, none⟩ = some (.slice A0_2 l0_2.length c0_2) ∧ w'.cell? ⟨gp, 3, none⟩ = some (.slice A0_3 l0_3.length c0_3) ∧ w'.cell? ⟨gq, 0, none⟩ = some (.bool a2_0) ∧ w'.cell? ⟨gq, 1, none⟩ = some (.slice A2_1 l2_1.length c2_1) ∧ w'.cell? ⟨gq, 2, none⟩ = some (.slice A2_2 l2_2.length c2_2) ∧ w'.cell? ⟨gq, 3, none⟩ = some (.slice A2_3 l2_3.length c2_3)) ∧ (node_Merge.Mg w w' gp gq gr #[.bool a0_0, .slice A0_1 l0_1.length c0_1, .slice A0_2 l0_2.length c0_2, .slice A0_3 l0_3.length c0_3] #[.bool a2_0, .slice A2_1 l2_1.length c2_1, .slice A2_2 l2_2.length c2_2, .slice A2_3 l2_3.length c2_3]) ∧ (node_Merge.OwnR w' w.heap.size s.2.2.2.1 s.2.2.2.2.1 s.1 o2 s.2.1 o3 s.2.2.1 o4 ∧ w.heap.size ≤ s.2.2.2.1 ∧ s.2.2.2.2.1 ≤ w'.heap.size) ∧ (w'.heap[s.2.2.2.2.2.1]? = some (.cells #[.bool false, .slice none 0 0, .slice none 0 0, .slice none 0 0] 26 (0, 0)) ∧ w.heap.size ≤ s.2.2.2.2.2.1 ∧ gr ≠ s.2.2.2.2.2.1 ∧ gp ≠ s.2.2.2.2.2.1) ∧ (w'.heap[s.2.2.2.2.2.2]? = some (.cells #[.bool false, .slice none 0 0, .slice none 0 0, .slice none 0 0] 26 (0, 0)) ∧ w.heap.size ≤ s.2.2.2.2.2.2 ∧ gr ≠ s.2.2.2.2.2.2 ∧ gp ≠ s.2.2.2.2.2.2) ∧ (s.2.2.2.2.2.1 ≠ s.2.2.2.2.2.2)) ?_ ?_
        rotate_left
        ·intro hJ1_4_5
         refine join_ (σ := Value × Value × Value × Nat × Nat × Value × Value × Value × Nat × Nat) 4 (zB 4 4) (fun s => [(42, .agg #[.bool o1, s.1, s.2.1, s.2.2.1]), (44, .agg #[.bool p1, s.2.2.2.2.2.1, s.2.2.2.2.2.2.1, s.2.2.2.2.2.2.2.1])]) (fun s w' => (w'.cell? ⟨gp, 0, none⟩ = some (.bool a0_0) ∧ w'.cell? ⟨gp, 1, none⟩ = some (.slice A0_1 l0_1.length c0_1) ∧ w'.cell? ⟨gp, 2, none⟩ = some (.slice A0_2 l0_2.length c0_2) ∧ w'.cell? ⟨gp, 3, none⟩ = some (.slice A0_3 l0_3.length c0_3) ∧ w'.cell? ⟨gq, 0, none⟩ = some (.bool a2_0) ∧ w'.cell? ⟨gq, 1, none⟩ = some (.slice A2_1 l2_1.length c2_1) ∧ w'.cell? ⟨gq, 2, none⟩ = some (.slice A2_2 l2_2.length c2_2) ∧ w'.cell? ⟨gq, 3, none⟩ = some (.slice A2_3 l2_3.length c2_3)) ∧ (node_Merge.Mg w w' gp gq gr #[.bool a0_0, .slice A0_1 l0_1.length c0_1, .slice A0_2 l0_2.length c0_2, .slice A0_3 l0_3.length c0_3] #[.bool a2_0, .slice A2_1 l2_1.length c2_1, .slice A2_2 l2_2.length c2_2, .slice A2_3 l2_3.length c2_3]) ∧ (node_Merge.OwnR w' w.heap.size s.2.2.2.1 s.2.2.2.2.1 s.1 o2 s.2.1 o3 s.2.2.1 o4 ∧ w.heap.size ≤ s.2.2.2.1 ∧ s.2.2.2.2.1 ≤ w'.heap.size) ∧ (node_Merge.OwnR w' w.heap.size s.2.2.2.2.2.2.2.2.1 s.2.2.2.2.2.2.2.2.2 s.2.2.2.2.2.1 p2 s.2.2.2.2.2.2.1 p3 s.2.2.2.2.2.2.2.1 p4 ∧ s.2.2.2.2.1 ≤ s.2.2.2.2.2.2.2.2.1 ∧ w.heap.size ≤ s.2.2.2.2.2.2.2.2.1)) ?_ ?_
         rotate_left
         ·intro hJ1_3
          refine join_ (σ := Value × Value × Value × Nat × Nat × Nat) 4 #[true, true, true, false, true, false, false, false] (fun s => [(42, .agg #[.bool o1, s.1, s.2.1, s.2.2.1]), (11, .pointer (some ⟨s.2.2.2.2.2, 0, none⟩))]) (fun s w' => (w'.cell? ⟨gp, 0, none⟩ = some (.bool a0_0) ∧ w'.cell? ⟨gp, 1, none⟩ = some (.slice A0_1 l0_1.length c0_1) ∧ w'.cell? ⟨gp, 2, none⟩ = some (.slice A0_2 l0_2.length c0_2) ∧ w'.cell? ⟨gp, 3, none⟩ = some (.slice A0_3 l0_3.length c0_3) ∧ w'.cell? ⟨gq, 0, none⟩ = some (.bool a2_0) ∧ w'.cell? ⟨gq, 1, none⟩ = some (.slice A2_1 l2_1.length c2_1) ∧ w'.cell? ⟨gq, 2, none⟩ = some (.slice A2_2 l2_2.length c2_2) ∧ w'.cell? ⟨gq, 3, none⟩ = some (.slice A2_3 l2_3.length c2_3)) ∧ (node_Merge.Mg w w' gp gq gr #[.bool a0_0, .slice A0_1 l0_1.length c0_1, .slice A0_2 l0_2.length c0_2, .slice A0_3 l0_3.length c0_3] #[.bool a2_0, .slice A2_1 l2_1.length c2_1, .slice A2_2 l2_2.length c2_2, .slice A2_3 l2_3.length c2_3]) ∧ (node_Merge.OwnR w' w.heap.size s.2.2.2.1 s.2.2.2.2.1 s.1 o2 s.2.1 o3 s.2.2.1 o4 ∧ w.heap.size ≤ s.2.2.2.1 ∧ s.2.2.2.2.1 ≤ w'.heap.size) ∧ (w'.heap[s.2.2.2.2.2]? = some (.cells #[.bool false, .slice none 0 0, .slice none 0 0, .slice none 0 0] 26 (0, 0)) ∧ w.heap.size ≤ s.2.2.2.2.2 ∧ gr ≠ s.2.2.2.2.2 ∧ gp ≠ s.2.2.2.2.2)) ?_ ?_
          rotate_left
          ·intro hJ1_4
           refine join_ (σ := Value × Value × Value × Nat × Nat × Nat) 4 #[true, true, true, false, false, true, false, false] (fun s => [(42, .agg #[.bool o1, s.1, s.2.1, s.2.2.1]), (12, .pointer (some ⟨s.2.2.2.2.2, 0, none⟩))]) (fun s w' => (w'.cell? ⟨gp, 0, none⟩ = some (.bool a0_0) ∧ w'.cell? ⟨gp, 1, none⟩ = some (.slice A0_1 l0_1.length c0_1) ∧ w'.cell? ⟨gp, 2, none⟩ = some (.slice A0_2 l0_2.length c0_2) ∧ w'.cell? ⟨gp, 3, none⟩ = some (.slice A0_3 l0_3.length c0_3) ∧ w'.cell? ⟨gq, 0, none⟩ = some (.bool a2_0) ∧ w'.cell? ⟨gq, 1, none⟩ = some (.slice A2_1 l2_1.length c2_1) ∧ w'.cell? ⟨gq, 2, none⟩ = some (.slice A2_2 l2_2.length c2_2) ∧ w'.cell? ⟨gq, 3, none⟩ = some (.slice A2_3 l2_3.length c2_3)) ∧ (node_Merge.Mg w w' gp gq gr #[.bool a0_0, .slice A0_1 l0_1.length c0_1, .slice A0_2 l0_2.length c0_2, .slice A0_3 l0_3.length c0_3] #[.bool a2_0, .slice A2_1 l2_1.length c2_1, .slice A2_2 l2_2.length c2_2, .slice A2_3 l2_3.length c2_3]) ∧ (node_Merge.OwnR w' w.heap.size s.2.2.2.1 s.2.2.2.2.1 s.1 o2 s.2.1 o3 s.2.2.1 o4 ∧ w.heap.size ≤ s.2.2.2.1 ∧ s.2.2.2.2.1 ≤ w'.heap.size) ∧ (w'.heap[s.2.2.2.2.2]? = some (.cells #[.bool false, .slice none 0 0, .slice none 0 0, .slice none 0 0] 26 (0, 0)) ∧ w.heap.size ≤ s.2.2.2.2.2 ∧ gr ≠ s.2.2.2.2.2 ∧ gp ≠ s.2.2.2.2.2)) ?_ ?_
           rotate_left
           ·intro hJ1_5
            refine join_ (σ := Nat × Nat) 4 #[true, false, true, false, true, true, false, false] (fun s => [(11, .pointer (some ⟨s.1, 0, none⟩)), (12, .pointer (some ⟨s.2, 0, none⟩))]) (fun s w' => (w'.cell? ⟨gp, 0, none⟩ = some (.bool a0_0) ∧ w'.cell? ⟨gp, 1, none⟩ = some (.slice A0_1 l0_1.length c0_1) ∧ w'.cell? ⟨gp, 2, none⟩ = some (.slice A0_2 l0_2.length c0_2) ∧ w'.cell? ⟨gp, 3, none⟩ = some (.slice A0_3 l0_3.length c0_3) ∧ w'.cell? ⟨gq, 0, none⟩ = some (.bool a2_0) ∧ w'.cell? ⟨gq, 1, none⟩ = some (.slice A2_1 l2_1.length c2_1) ∧ w'.cell? ⟨gq, 2, none⟩ = some (.slice A2_2 l2_2.length c2_2) ∧ w'.cell? ⟨gq, 3, none⟩ = some (.slice A2_3 l2_3.length c2_3)) ∧ (node_Merge.Mg w w' gp gq gr #[.bool a0_0, .slice A0_1 l0_1.length c0_1, .slice A0_2 l0_2.length c0_2, .slice A0_3 l0_3.length c0_3] #[.bool a2_0, .slice A2_1 l2_1.length c2_1, .slice A2_2 l2_2.length c2_2, .slice A2_3 l2_3.length c2_3]) ∧ (w'.heap[s.1]? = some (.cells #[.bool false, .slice none 0 0, .slice none 0 0, .slice none 0 0] 26 (0, 0)) ∧ w.heap.size ≤ s.1 ∧ gr ≠ s.1 ∧ gp ≠ s.1) ∧ (w'.heap[s.2]? = some (.cells #[.bool false, .slice none 0 0, .slice none 0 0, .slice none 0 0] 26 (0, 0)) ∧ w.heap.size ≤ s.2 ∧ gr ≠ s.2 ∧ gp ≠ s.2) ∧ (s.1 ≠ s.2)) ?_ ?_
            rotate_left
            ·intro hJ4_5
             refine join_ (σ := Value × Value × Value × Nat × Nat) 5 (zB 3 5) (fun s => [(42, .agg #[.bool o1, s.1, s.2.1, s.2.2.1])]) (fun s w' => (w'.cell? ⟨gp, 0, none⟩ = some (.bool a0_0) ∧ w'.cell? ⟨gp, 1, none⟩ = some (.slice A0_1 l0_1.length c0_1) ∧ w'.cell? ⟨gp, 2, none⟩ = some (.slice A0_2 l0_2.length c0_2) ∧ w'.cell? ⟨gp, 3, none⟩ = some (.slice A0_3 l0_3.length c0_3) ∧ w'.cell? ⟨gq, 0, none⟩ = some (.bool a2_0) ∧ w'.cell? ⟨gq, 1, none⟩ = some (.slice A2_1 l2_1.length c2_1) ∧ w'.cell? ⟨gq, 2, none⟩ = some (.slice A2_2 l2_2.length c2_2) ∧ w'.cell? ⟨gq, 3, none⟩ = some (.slice A2_3 l2_3.length c2_3)) ∧ (node_Merge.Mg w w' gp gq gr #[.bool a0_0, .slice A0_1 l0_1.length c0_1, .slice A0_2 l0_2.length c0_2, .slice A0_3 l0_3.length c0_3] #[.bool a2_0, .slice A2_1 l2_1.length c2_1, .slice A2_2 l2_2.length c2_2, .slice A2_3 l2_3.length c2_3]) ∧ (node_Merge.OwnR w' w.heap.size s.2.2.2.1 s.2.2.2.2 s.1 o2 s.2.1 o3 s.2.2.1 o4 ∧ w.heap.size ≤ s.2.2.2.1 ∧ s.2.2.2.2 ≤ w'.heap.size)) ?_ ?_
             rotate_left
             ·intro hJ1
              refine join_ (σ := Nat) 5 #[true, false, true, false, true, false, false, false] (fun s => [(11, .pointer (some ⟨s, 0, none⟩))]) (fun s w' => (w'.cell? ⟨gp, 0, none⟩ = some (.bool a0_0) ∧ w'.cell? ⟨gp, 1, none⟩ = some (.slice A0_1 l0_1.length c0_1) ∧ w'.cell? ⟨gp, 2, none⟩ = some (.slice A0_2 l0_2.length c0_2) ∧ w'.cell? ⟨gp, 3, none⟩ = some (.slice A0_3 l0_3.length c0_3) ∧ w'.cell? ⟨gq, 0, none⟩ = some (.bool a2_0) ∧ w'.cell? ⟨gq, 1, none⟩ = some (.slice A2_1 l2_1.length c2_1) ∧ w'.cell? ⟨gq, 2, none⟩ = some (.slice A2_2 l2_2.length c2_2) ∧ w'.cell? ⟨gq, 3, none⟩ = some (.slice A2_3 l2_3.length c2_3)) ∧ (node_Merge.Mg w w' gp gq gr #[.bool a0_0, .slice A0_1 l0_1.length c0_1, .slice A0_2 l0_2.length c0_2, .slice A0_3 l0_3.length c0_3] #[.bool a2_0, .slice A2_1 l2_1.length c2_1, .slice A2_2 l2_2.length c2_2, .slice A2_3 l2_3.length c2_3]) ∧ (w'.heap[s]? = some (.cells #[.bool false, .slice none 0 0, .slice none 0 0, .slice none 0 0] 26 (0, 0)) ∧ w.heap.size ≤ s ∧ gr ≠ s ∧ gp ≠ s)) ?_ ?_
              rotate_left
              ·intro hJ4
               refine join_ (σ := Nat) 5 #[true, false, true, false, false, true, false, false] (fun s => [(12, .pointer (some ⟨s, 0, none⟩))]) (fun s w' => (w'.cell? ⟨gp, 0, none⟩ = some (.bool a0_0) ∧ w'.cell? ⟨gp, 1, none⟩ = some (.slice A0_1 l0_1.length c0_1) ∧ w'.cell? ⟨gp, 2, none⟩ = some (.slice A0_2 l0_2.length c0_2) ∧ w'.cell? ⟨gp, 3, none⟩ = some (.slice A0_3 l0_3.length c0_3) ∧ w'.cell? ⟨gq, 0, none⟩ = some (.bool a2_0) ∧ w'.cell? ⟨gq, 1, none⟩ = some (.slice A2_1 l2_1.length c2_1) ∧ w'.cell? ⟨gq, 2, none⟩ = some (.slice A2_2 l2_2.length c2_2) ∧ w'.cell? ⟨gq, 3, none⟩ = some (.slice A2_3 l2_3.length c2_3)) ∧ (node_Merge.Mg w w' gp gq gr #[.bool a0_0, .slice A0_1 l0_1.length c0_1, .slice A0_2 l0_2.length c0_2, .slice A0_3 l0_3.length c0_3] #[.bool a2_0, .slice A2_1 l2_1.length c2_1, .slice A2_2 l2_2.length c2_2, .slice A2_3 l2_3.length c2_3]) ∧ (w'.heap[s]? = some (.cells #[.bool false, .slice none 0 0, .slice none 0 0, .slice none 0 0] 26 (0, 0)) ∧ w.heap.size ≤ s ∧ gr ≠ s ∧ gp ≠ s)) ?_ ?_
               rotate_left
               ·intro hJ5
                refine three_ (i := 1) (j := 4) (k := 5) (Ni := some 42) (Nj := some 11) (Nk := some 12) (zB 3 5) #[true, false, true, false, true, false, false, false] #[true, false, true, false, false, true, false, false] rfl rfl rfl rfl rfl rfl (three_of HT_.out (by kernel_rfl)) (by decide) (by decide) (by decide) (fun K hK => ?_) (fun K hK => ?_) (fun K hK => ?_)
                ·skip
                 refine goes_ Try.func25 (by kernel_rfl) rfl #[.agg #[.bool a0_0, .slice A0_1 l0_1.length c0_1, .slice A0_2 l0_2.length c0_2, .slice A0_3 l0_3.length c0_3]] (by rfl) rfl rfl zl_ ?_
                 refine (node_own.calls k a0_0 A0_1 c0_1 l0_1 A0_2 c0_2 l0_2 A0_3 c0_3 l0_3 o1 o2 o3 o4 _ (Kd.C_below RA1.out M.out.HB) LA1.out (Kd.C_below RA2.out M.out.HB) LA2.out (Kd.C_below RA3.out M.out.HB) LA3.out HO.out).mono ?_
                 rintro e w7 ⟨kA_, vA_, dA_, rfl, hS1, hS2, hR3, hb⟩
                 refine ⟨_, rfl, ?_⟩
                 obtain ⟨lA_, hA_, hQ_, hlo_, hhi_⟩ := node_Merge.own_rows M.out.HB.size hS1 hS2 hR3
                 clear hS1 hS2 hR3
                 have n_M : Aside0 (node_Merge.Mg w w7 gp gq gr #[.bool a0_0, .slice A0_1 l0_1.length c0_1, .slice A0_2 l0_2.length c0_2, .slice A0_3 l0_3.length c0_3] #[.bool a2_0, .slice A2_1 l2_1.length c2_1, .slice A2_2 l2_2.length c2_2, .slice A2_3 l2_3.length c2_3]) := ⟨M.out.below hb⟩
                 have n_QA : Aside0 (node_Merge.OwnR w7 w.heap.size lA_ hA_ kA_ o2 vA_ o3 dA_ o4 ∧ w.heap.size ≤ lA_ ∧ hA_ ≤ w7.heap.size) := ⟨⟨hQ_, Nat.le_trans M.out.HB.size hlo_, hhi_⟩⟩
                 clear M
                 have M := n_M
                 have QA := n_QA
                 clear n_M n_QA
                 refine hK.out _ _ ⟨((blk_cell M.out.BA 0).trans rfl), ((blk_cell M.out.BA 1).trans rfl), ((blk_cell M.out.BA 2).trans rfl), ((blk_cell M.out.BA 3).trans rfl), ((blk_cell M.out.BB 0).trans rfl), ((blk_cell M.out.BB 1).trans rfl), ((blk_cell M.out.BB 2).trans rfl), ((blk_cell M.out.BB 3).trans rfl)⟩ (fun hHeld => ?_)
                 clear hK K
                 refine norm_ (a' := ?_) ?_ ?_
                 rotate_left
                 ·show Act.put _ (some 42) _ = _
                  simp only [Act.put, zt0, zt1, zt2, i64_w, i32_w]
                  rfl
                 exact norm_ (by first | (simp only [putAll, Act.put, zt0, zt1, zt2]; done) | (simp only [putAll, Act.put, zt0, zt1, zt2]; rfl)) (hJ1 (kA_, vA_, dA_, lA_, hA_) _ ⟨hHeld, M.out, QA.out⟩)
                ·skip
                 refine box_step ?hg (N := 11) ?hd (cs := #[.bool false, .slice none 0 0, .slice none 0 0, .slice none 0 0]) (t := 26) ?hr ?_; (case hd => rfl); (case hg => rfl); (case hr => first | (go_simp; done) | (go_simp; rfl))
                 intro g4_ hgq w7 hbox hb
                 have n_M : Aside0 (node_Merge.Mg w w7 gp gq gr #[.bool a0_0, .slice A0_1 l0_1.length c0_1, .slice A0_2 l0_2.length c0_2, .slice A0_3 l0_3.length c0_3] #[.bool a2_0, .slice A2_1 l2_1.length c2_1, .slice A2_2 l2_2.length c2_2, .slice A2_3 l2_3.length c2_3]) := ⟨M.out.below hb⟩
                 have n_G4 : Aside0 (w7.heap[g4_]? = some (.cells #[.bool false, .slice none 0 0, .slice none 0 0, .slice none 0 0] 26 (0, 0)) ∧ w.heap.size ≤ g4_ ∧ gr ≠ g4_ ∧ gp ≠ g4_) := ⟨⟨hbox, by rw [hgq]; exact M.out.HB.size, by rw [hgq]; exact Nat.ne_of_lt (blk_lt M.out.BR), by rw [hgq]; exact Nat.ne_of_lt (blk_lt M.out.BA)⟩⟩
                 clear M
                 have M := n_M
                 have G4 := n_G4
                 clear n_M n_G4
                 refine hK.out _ _ ⟨((blk_cell M.out.BA 0).trans rfl), ((blk_cell M.out.BA 1).trans rfl), ((blk_cell M.out.BA 2).trans rfl), ((blk_cell M.out.BA 3).trans rfl), ((blk_cell M.out.BB 0).trans rfl), ((blk_cell M.out.BB 1).trans rfl), ((blk_cell M.out.BB 2).trans rfl), ((blk_cell M.out.BB 3).trans rfl)⟩ (fun hHeld => ?_)
                 clear hK K
                 refine norm_ (a' := ?_) ?_ ?_
                 rotate_left
                 ·show Act.put _ (some 11) _ = _
                  simp only [Act.put, zt0, zt1, zt2, i64_w, i32_w]
                  rfl
                 exact norm_ (by first | (simp only [putAll, Act.put, zt0, zt1, zt2]; done) | (simp only [putAll, Act.put, zt0, zt1, zt2]; rfl)) (hJ4 g4_ _ ⟨hHeld, M.out, G4.out⟩)
                ·skip
                 refine box_step ?hg (N := 12) ?hd (cs := #[.bool false, .slice none 0 0, .slice none 0 0, .slice none 0 0]) (t := 26) ?hr ?_; (case hd => rfl); (case hg => rfl); (case hr => first | (go_simp; done) | (go_simp; rfl))
                 intro g5_ hgq w7 hbox hb
                 have n_M : Aside0 (node_Merge.Mg w w7 gp gq gr #[.bool a0_0, .slice A0_1 l0_1.length c0_1, .slice A0_2 l0_2.length c0_2, .slice A0_3 l0_3.length c0_3] #[.bool a2_0, .slice A2_1 l2_1.length c2_1, .slice A2_2 l2_2.length c2_2, .slice A2_3 l2_3.length c2_3]) := ⟨M.out.below hb⟩
                 have n_G5 : Aside0 (w7.heap[g5_]? = some (.cells #[.bool false, .slice none 0 0, .slice none 0 0, .slice none 0 0] 26 (0, 0)) ∧ w.heap.size ≤ g5_ ∧ gr ≠ g5_ ∧ gp ≠ g5_) := ⟨⟨hbox, by rw [hgq]; exact M.out.HB.size, by rw [hgq]; exact Nat.ne_of_lt (blk_lt M.out.BR), by rw [hgq]; exact Nat.ne_of_lt (blk_lt M.out.BA)⟩⟩
                 clear M
                 have M := n_M
                 have G5 := n_G5
                 clear n_M n_G5
                 refine hK.out _ _ ⟨((blk_cell M.out.BA 0).trans rfl), ((blk_cell M.out.BA 1).trans rfl), ((blk_cell M.out.BA 2).trans rfl), ((blk_cell M.out.BA 3).trans rfl), ((blk_cell M.out.BB 0).trans rfl), ((blk_cell M.out.BB 1).trans rfl), ((blk_cell M.out.BB 2).trans rfl), ((blk_cell M.out.BB 3).trans rfl)⟩ (fun hHeld => ?_)
                 clear hK K
                 refine norm_ (a' := ?_) ?_ ?_
                 rotate_left
                 ·show Act.put _ (some 12) _ = _
                  simp only [Act.put, zt0, zt1, zt2, i64_w, i32_w]
                  rfl
                 exact norm_ (by first | (simp only [putAll, Act.put, zt0, zt1, zt2]; done) | (simp only [putAll, Act.put, zt0, zt1, zt2]; rfl)) (hJ5 g5_ _ ⟨hHeld, M.out, G5.out⟩)
               ·skip
                rintro g5 w' ⟨hHeld, fM, fG5⟩
                have M := Aside0.mk fM
                have G5 := Aside0.mk fG5
                clear fM fG5
                refine norm_ (a' := ?_) ?_ ?_
                rotate_left
                ·simp only [putAll, Act.put, zt0, zt1, zt2]
                 rfl
                refine two_ (i := 1) (j := 4) (Ni := some 42) (Nj := some 11) #[true, true, true, false, false, true, false, false] #[true, false, true, false, true, true, false, false] rfl rfl rfl rfl (two_of HT_.out (by kernel_rfl)) (by decide) (by decide) (fun K hK => ?_) (fun K hK => ?_)
                ·skip
                 refine goes_ Try.func25 (by kernel_rfl) rfl #[.agg #[.bool a0_0, .slice A0_1 l0_1.length c0_1, .slice A0_2 l0_2.length c0_2, .slice A0_3 l0_3.length c0_3]] (by rfl) rfl rfl zl_ ?_
                 refine (node_own.calls k a0_0 A0_1 c0_1 l0_1 A0_2 c0_2 l0_2 A0_3 c0_3 l0_3 o1 o2 o3 o4 _ (Kd.C_below RA1.out M.out.HB) LA1.out (Kd.C_below RA2.out M.out.HB) LA2.out (Kd.C_below RA3.out M.out.HB) LA3.out HO.out).mono ?_
                 rintro e w7 ⟨kA_, vA_, dA_, rfl, hS1, hS2, hR3, hb⟩
                 refine ⟨_, rfl, ?_⟩
                 obtain ⟨lA_, hA_, hQ_, hlo_, hhi_⟩ := node_Merge.own_rows M.out.HB.size hS1 hS2 hR3
                 clear hS1 hS2 hR3
                 have n_M : Aside0 (node_Merge.Mg w w7 gp gq gr #[.bool a0_0, .slice A0_1 l0_1.length c0_1, .slice A0_2 l0_2.length c0_2, .slice A0_3 l0_3.length c0_3] #[.bool a2_0, .slice A2_1 l2_1.length c2_1, .slice A2_2 l2_2.length c2_2, .slice A2_3 l2_3.length c2_3]) := ⟨M.out.below hb⟩
                 have n_QA : Aside0 (node_Merge.OwnR w7 w.heap.size lA_ hA_ kA_ o2 vA_ o3 dA_ o4 ∧ w.heap.size ≤ lA_ ∧ hA_ ≤ w7.heap.size) := ⟨⟨hQ_, Nat.le_trans M.out.HB.size hlo_, hhi_⟩⟩
                 have n_G5 : Aside0 (w7.heap[g5]? = some (.cells #[.bool false, .slice none 0 0, .slice none 0 0, .slice none 0 0] 26 (0, 0)) ∧ w.heap.size ≤ g5 ∧ gr ≠ g5 ∧ gp ≠ g5) := ⟨⟨blk_below G5.out.1 hb, G5.out.2⟩⟩
                 clear M G5
                 have M := n_M
                 have QA := n_QA
                 have G5 := n_G5
                 clear n_M n_QA n_G5
                 refine hK.out _ _ ⟨((blk_cell M.out.BA 0).trans rfl), ((blk_cell M.out.BA 1).trans rfl), ((blk_cell M.out.BA 2).trans rfl), ((blk_cell M.out.BA 3).trans rfl), ((blk_cell M.out.BB 0).trans rfl), ((blk_cell M.out.BB 1).trans rfl), ((blk_cell M.out.BB 2).trans rfl), ((blk_cell M.out.BB 3).trans rfl)⟩ (fun hHeld => ?_)
                 clear hK K
                 refine norm_ (a' := ?_) ?_ ?_
                 rotate_left
                 ·show Act.put _ (some 42) _ = _
                  simp only [Act.put, zt0, zt1, zt2, i64_w, i32_w]
                  rfl
                 exact norm_ (by first | (simp only [putAll, Act.put, zt0, zt1, zt2]; done) | (simp only [putAll, Act.put, zt0, zt1, zt2]; rfl)) (hJ1_5 (kA_, vA_, dA_, lA_, hA_, g5) _ ⟨hHeld, M.out, QA.out, G5.out⟩)
                ·skip
                 refine box_step ?hg (N := 11) ?hd (cs := #[.bool false, .slice none 0 0, .slice none 0 0, .slice none 0 0]) (t := 26) ?hr ?_; (case hd => rfl); (case hg => rfl); (case hr => first | (go_simp; done) | (go_simp; rfl))
                 intro g4_ hgq w7 hbox hb
                 have n_M : Aside0 (node_Merge.Mg w w7 gp gq gr #[.bool a0_0, .slice A0_1 l0_1.length c0_1, .slice A0_2 l0_2.length c0_2, .slice A0_3 l0_3.length c0_3] #[.bool a2_0, .slice A2_1 l2_1.length c2_1, .slice A2_2 l2_2.length c2_2, .slice A2_3 l2_3.length c2_3]) := ⟨M.out.below hb⟩
                 have n_G4 : Aside0 (w7.heap[g4_]? = some (.cells #[.bool false, .slice none 0 0, .slice none 0 0, .slice none 0 0] 26 (0, 0)) ∧ w.heap.size ≤ g4_ ∧ gr ≠ g4_ ∧ gp ≠ g4_) := ⟨⟨hbox, by rw [hgq]; exact M.out.HB.size, by rw [hgq]; exact Nat.ne_of_lt (blk_lt M.out.BR), by rw [hgq]; exact Nat.ne_of_lt (blk_lt M.out.BA)⟩⟩
                 have n_G5 : Aside0 (w7.heap[g5]? = some (.cells #[.bool false, .slice none 0 0, .slice none 0 0, .slice none 0 0] 26 (0, 0)) ∧ w.heap.size ≤ g5 ∧ gr ≠ g5 ∧ gp ≠ g5) := ⟨⟨blk_below G5.out.1 hb, G5.out.2⟩⟩
                 have n_N45 : Aside0 (g4_ ≠ g5) := ⟨by rw [hgq]; exact Nat.ne_of_gt (blk_lt G5.out.1)⟩
                 clear M G5
                 have M := n_M
                 have G4 := n_G4
                 have G5 := n_G5
                 have N45 := n_N45
                 clear n_M n_G4 n_G5 n_N45
                 refine hK.out _ _ ⟨((blk_cell M.out.BA 0).trans rfl), ((blk_cell M.out.BA 1).trans rfl), ((blk_cell M.out.BA 2).trans rfl), ((blk_cell M.out.BA 3).trans rfl), ((blk_cell M.out.BB 0).trans rfl), ((blk_cell M.out.BB 1).trans rfl), ((blk_cell M.out.BB 2).trans rfl), ((blk_cell M.out.BB 3).trans rfl)⟩ (fun hHeld => ?_)
                 clear hK K
                 refine norm_ (a' := ?_) ?_ ?_
                 rotate_left
                 ·show Act.put _ (some 11) _ = _
                  simp only [Act.put, zt0, zt1, zt2, i64_w, i32_w]
                  rfl
                 exact norm_ (by first | (simp only [putAll, Act.put, zt0, zt1, zt2]; done) | (simp only [putAll, Act.put, zt0, zt1, zt2]; rfl)) (hJ4_5 (g4_, g5) _ ⟨hHeld, M.out, G4.out, G5.out, N45.out⟩)
              ·skip
               rintro g4 w' ⟨hHeld, fM, fG4⟩
               have M := Aside0.mk fM
               have G4 := Aside0.mk fG4
               clear fM fG4
               refine norm_ (a' := ?_) ?_ ?_
               rotate_left
               ·simp only [putAll, Act.put, zt0, zt1, zt2]
                rfl
               refine two_ (i := 1) (j := 5) (Ni := some 42) (Nj := some 12) #[true, true, true, false, true, false, false, false] #[true, false, true, false, true, true, false, false] rfl rfl rfl rfl (two_of HT_.out (by kernel_rfl)) (by decide) (by decide) (fun K hK => ?_) (fun K hK => ?_)
               ·skip
                refine goes_ Try.func25 (by kernel_rfl) rfl #[.agg #[.bool a0_0, .slice A0_1 l0_1.length c0_1, .slice A0_2 l0_2.length c0_2, .slice A0_3 l0_3.length c0_3]] (by rfl) rfl rfl zl_ ?_
                refine (node_own.calls k a0_0 A0_1 c0_1 l0_1 A0_2 c0_2 l0_2 A0_3 c0_3 l0_3 o1 o2 o3 o4 _ (Kd.C_below RA1.out M.out.HB) LA1.out (Kd.C_below RA2.out M.out.HB) LA2.out (Kd.C_below RA3.out M.out.HB) LA3.out HO.out).mono ?_
                rintro e w7 ⟨kA_, vA_, dA_, rfl, hS1, hS2, hR3, hb⟩
                refine ⟨_, rfl, ?_⟩
                obtain ⟨lA_, hA_, hQ_, hlo_, hhi_⟩ := node_Merge.own_rows M.out.HB.size hS1 hS2 hR3
                clear hS1 hS2 hR3
                have n_M : Aside0 (node_Merge.Mg w w7 gp gq gr #[.bool a0_0, .slice A0_1 l0_1.length c0_1, .slice A0_2 l0_2.length c0_2, .slice A0_3 l0_3.length c0_3] #[.bool a2_0, .slice A2_1 l2_1.length c2_1, .slice A2_2 l2_2.length c2_2, .slice A2_3 l2_3.length c2_3]) := ⟨M.out.below hb⟩
                have n_QA : Aside0 (node_Merge.OwnR w7 w.heap.size lA_ hA_ kA_ o2 vA_ o3 dA_ o4 ∧ w.heap.size ≤ lA_ ∧ hA_ ≤ w7.heap.size) := ⟨⟨hQ_, Nat.le_trans M.out.HB.size hlo_, hhi_⟩⟩
                have n_G4 : Aside0 (w7.heap[g4]? = some (.cells #[.bool false, .slice none 0 0, .slice none 0 0, .slice none 0 0] 26 (0, 0)) ∧ w.heap.size ≤ g4 ∧ gr ≠ g4 ∧ gp ≠ g4) := ⟨⟨blk_below G4.out.1 hb, G4.out.2⟩⟩
                clear M G4
                have M := n_M
                have QA := n_QA
                have G4 := n_G4
                clear n_M n_QA n_G4
                refine hK.out _ _ ⟨((blk_cell M.out.BA 0).trans rfl), ((blk_cell M.out.BA 1).trans rfl), ((blk_cell M.out.BA 2).trans rfl), ((blk_cell M.out.BA 3).trans rfl), ((blk_cell M.out.BB 0).trans rfl), ((blk_cell M.out.BB 1).trans rfl), ((blk_cell M.out.BB 2).trans rfl), ((blk_cell M.out.BB 3).trans rfl)⟩ (fun hHeld => ?_)
                clear hK K
                refine norm_ (a' := ?_) ?_ ?_
                rotate_left
                ·show Act.put _ (some 42) _ = _
                 simp only [Act.put, zt0, zt1, zt2, i64_w, i32_w]
                 rfl
                exact norm_ (by first | (simp only [putAll, Act.put, zt0, zt1, zt2]; done) | (simp only [putAll, Act.put, zt0, zt1, zt2]; rfl)) (hJ1_4 (kA_, vA_, dA_, lA_, hA_, g4) _ ⟨hHeld, M.out, QA.out, G4.out⟩)
               ·skip
                refine box_step ?hg (N := 12) ?hd (cs := #[.bool false, .slice none 0 0, .slice none 0 0, .slice none 0 0]) (t := 26) ?hr ?_; (case hd => rfl); (case hg => rfl); (case hr => first | (go_simp; done) | (go_simp; rfl))
                intro g5_ hgq w7 hbox hb
                have n_M : Aside0 (node_Merge.Mg w w7 gp gq gr #[.bool a0_0, .slice A0_1 l0_1.length c0_1, .slice A0_2 l0_2.length c0_2, .slice A0_3 l0_3.length c0_3] #[.bool a2_0, .slice A2_1 l2_1.length c2_1, .slice A2_2 l2_2.length c2_2, .slice A2_3 l2_3.length c2_3]) := ⟨M.out.below hb⟩
                have n_G4 : Aside0 (w7.heap[g4]? = some (.cells #[.bool false, .slice none 0 0, .slice none 0 0, .slice none 0 0] 26 (0, 0)) ∧ w.heap.size ≤ g4 ∧ gr ≠ g4 ∧ gp ≠ g4) := ⟨⟨blk_below G4.out.1 hb, G4.out.2⟩⟩
                have n_G5 : Aside0 (w7.heap[g5_]? = some (.cells #[.bool false, .slice none 0 0, .slice none 0 0, .slice none 0 0] 26 (0, 0)) ∧ w.heap.size ≤ g5_ ∧ gr ≠ g5_ ∧ gp ≠ g5_) := ⟨⟨hbox, by rw [hgq]; exact M.out.HB.size, by rw [hgq]; exact Nat.ne_of_lt (blk_lt M.out.BR), by rw [hgq]; exact Nat.ne_of_lt (blk_lt M.out.BA)⟩⟩
                have n_N45 : Aside0 (g4 ≠ g5_) := ⟨by rw [hgq]; exact Nat.ne_of_lt (blk_lt G4.out.1)⟩
                clear M G4
                have M := n_M
                have G4 := n_G4
                have G5 := n_G5
                have N45 := n_N45
                clear n_M n_G4 n_G5 n_N45
                refine hK.out _ _ ⟨((blk_cell M.out.BA 0).trans rfl), ((blk_cell M.out.BA 1).trans rfl), ((blk_cell M.out.BA 2).trans rfl), ((blk_cell M.out.BA 3).trans rfl), ((blk_cell M.out.BB 0).trans rfl), ((blk_cell M.out.BB 1).trans rfl), ((blk_cell M.out.BB 2).trans rfl), ((blk_cell M.out.BB 3).trans rfl)⟩ (fun hHeld => ?_)
                clear hK K
                refine norm_ (a' := ?_) ?_ ?_
                rotate_left
                ·show Act.put _ (some 12) _ = _
                 simp only [Act.put, zt0, zt1, zt2, i64_w, i32_w]
                 rfl
                exact norm_ (by first | (simp only [putAll, Act.put, zt0, zt1, zt2]; done) | (simp only [putAll, Act.put, zt0, zt1, zt2]; rfl)) (hJ4_5 (g4, g5_) _ ⟨hHeld, M.out, G4.out, G5.out, N45.out⟩)
             ·skip
              rintro ⟨kA, vA, dA, lA, hA⟩ w' ⟨hHeld, fM, fQA⟩
              have M := Aside0.mk fM
              have QA := Aside0.mk fQA
              clear fM fQA
              refine norm_ (a' := ?_) ?_ ?_
              rotate_left
              ·simp only [putAll, Act.put, zt0, zt1, zt2]
               rfl
              refine three_ (i := 3) (j := 4) (k := 5) (Ni := some 44) (Nj := some 11) (Nk := some 12) (zB 4 4) #[true, true, true, false, true, false, false, false] #[true, true, true, false, false, true, false, false] rfl rfl rfl rfl rfl rfl (three_of HT_.out (by kernel_rfl)) (by decide) (by decide) (by decide) (fun K hK => ?_) (fun K hK => ?_) (fun K hK => ?_)
              ·skip
               refine goes_ Try.func25 (by kernel_rfl) rfl #[.agg #[.bool a2_0, .slice A2_1 l2_1.length c2_1, .slice A2_2 l2_2.length c2_2, .slice A2_3 l2_3.length c2_3]] (by rfl) rfl rfl zl_ ?_
               refine (node_own.calls k a2_0 A2_1 c2_1 l2_1 A2_2 c2_2 l2_2 A2_3 c2_3 l2_3 p1 p2 p3 p4 _ (Kd.C_below RB1.out M.out.HB) LB1.out (Kd.C_below RB2.out M.out.HB) LB2.out (Kd.C_below RB3.out M.out.HB) LB3.out HP.out).mono ?_
               rintro e w7 ⟨kB_, vB_, dB_, rfl, hS1, hS2, hR3, hb⟩
               refine ⟨_, rfl, ?_⟩
               obtain ⟨lB_, hB_, hQ_, hlo_, hhi_⟩ := node_Merge.own_rows M.out.HB.size hS1 hS2 hR3
               clear hS1 hS2 hR3
               have n_M : Aside0 (node_Merge.Mg w w7 gp gq gr #[.bool a0_0, .slice A0_1 l0_1.length c0_1, .slice A0_2 l0_2.length c0_2, .slice A0_3 l0_3.length c0_3] #[.bool a2_0, .slice A2_1 l2_1.length c2_1, .slice A2_2 l2_2.length c2_2, .slice A2_3 l2_3.length c2_3]) := ⟨M.out.below hb⟩
               have n_QA : Aside0 (node_Merge.OwnR w7 w.heap.size lA hA kA o2 vA o3 dA o4 ∧ w.heap.size ≤ lA ∧ hA ≤ w7.heap.size) := ⟨⟨QA.out.1.below hb, QA.out.2.1, Nat.le_trans QA.out.2.2 hb.size⟩⟩
               have n_QB : Aside0 (node_Merge.OwnR w7 w.heap.size lB_ hB_ kB_ p2 vB_ p3 dB_ p4 ∧ hA ≤ lB_ ∧ w.heap.size ≤ lB_) := ⟨⟨hQ_, Nat.le_trans QA.out.2.2 hlo_, Nat.le_trans M.out.HB.size hlo_⟩⟩
               clear M QA
               have M := n_M
               have QA := n_QA
               have QB := n_QB
               clear n_M n_QA n_QB
               refine hK.out _ _ ⟨((blk_cell M.out.BA 0).trans rfl), ((blk_cell M.out.BA 1).trans rfl), ((blk_cell M.out.BA 2).trans rfl), ((blk_cell M.out.BA 3).trans rfl), ((blk_cell M.out.BB 0).trans rfl), ((blk_cell M.out.BB 1).trans rfl), ((blk_cell M.out.BB 2).trans rfl), ((blk_cell M.out.BB 3).trans rfl)⟩ (fun hHeld => ?_)
               clear hK K
               refine norm_ (a' := ?_) ?_ ?_
               rotate_left
               ·show Act.put _ (some 44) _ = _
                simp only [Act.put, zt0, zt1, zt2, i64_w, i32_w]
                rfl
               exact norm_ (by first | (simp only [putAll, Act.put, zt0, zt1, zt2]; done) | (simp only [putAll, Act.put, zt0, zt1, zt2]; rfl)) (hJ1_3 (kA, vA, dA, lA, hA, kB_, vB_, dB_, lB_, hB_) _ ⟨hHeld, M.out, QA.out, QB.out⟩)
              ·skip
               refine box_step ?hg (N := 11) ?hd (cs := #[.bool false, .slice none 0 0, .slice none 0 0, .slice none 0 0]) (t := 26) ?hr ?_; (case hd => rfl); (case hg => rfl); (case hr => first | (go_simp; done) | (go_simp; rfl))
               intro g4_ hgq w7 hbox hb
               have n_M : Aside0 (node_Merge.Mg w w7 gp gq gr #[.bool a0_0, .slice A0_1 l0_1.length c0_1, .slice A0_2 l0_2.length c0_2, .slice A0_3 l0_3.length c0_3] #[.bool a2_0, .slice A2_1 l2_1.length c2_1, .slice A2_2 l2_2.length c2_2, .slice A2_3 l2_3.length c2_3]) := ⟨M.out.below hb⟩
               have n_QA : Aside0 (node_Merge.OwnR w7 w.heap.size lA hA kA o2 vA o3 dA o4 ∧ w.heap.size ≤ lA ∧ hA ≤ w7.heap.size) := ⟨⟨QA.out.1.below hb, QA.out.2.1, Nat.le_trans QA.out.2.2 hb.size⟩⟩
               have n_G4 : Aside0 (w7.heap[g4_]? = some (.cells #[.bool false, .slice none 0 0, .slice none 0 0, .slice none 0 0] 26 (0, 0)) ∧ w.heap.size ≤ g4_ ∧ gr ≠ g4_ ∧ gp ≠ g4_) := ⟨⟨hbox, by rw [hgq]; exact M.out.HB.size, by rw [hgq]; exact Nat.ne_of_lt (blk_lt M.out.BR), by rw [hgq]; exact Nat.ne_of_lt (blk_lt M.out.BA)⟩⟩
               clear M QA
               have M := n_M
               have QA := n_QA
               have G4 := n_G4
               clear n_M n_QA n_G4
               refine hK.out _ _ ⟨((blk_cell M.out.BA 0).trans rfl), ((blk_cell M.out.BA 1).trans rfl), ((blk_cell M.out.BA 2).trans rfl), ((blk_cell M.out.BA 3).trans rfl), ((blk_cell M.out.BB 0).trans rfl), ((blk_cell M.out.BB 1).trans rfl), ((blk_cell M.out.BB 2).trans rfl), ((blk_cell M.out.BB 3).trans rfl)⟩ (fun hHeld => ?_)
               clear hK K
               refine norm_ (a' := ?_) ?_ ?_
               rotate_left
               ·show Act.put _ (some 11) _ = _
                simp only [Act.put, zt0, zt1, zt2, i64_w, i32_w]
                rfl
               exact norm_ (by first | (simp only [putAll, Act.put, zt0, zt1, zt2]; done) | (simp only [putAll, Act.put, zt0, zt1, zt2]; rfl)) (hJ1_4 (kA, vA, dA, lA, hA, g4_) _ ⟨hHeld, M.out, QA.out, G4.out⟩)
              ·skip
               refine box_step ?hg (N := 12) ?hd (cs := #[.bool false, .slice none 0 0, .slice none 0 0, .slice none 0 0]) (t := 26) ?hr ?_; (case hd => rfl); (case hg => rfl); (case hr => first | (go_simp; done) | (go_simp; rfl))
               intro g5_ hgq w7 hbox hb
               have n_M : Aside0 (node_Merge.Mg w w7 gp gq gr #[.bool a0_0, .slice A0_1 l0_1.length c0_1, .slice A0_2 l0_2.length c0_2, .slice A0_3 l0_3.length c0_3] #[.bool a2_0, .slice A2_1 l2_1.length c2_1, .slice A2_2 l2_2.length c2_2, .slice A2_3 l2_3.length c2_3]) := ⟨M.out.below hb⟩
               have n_QA : Aside0 (node_Merge.OwnR w7 w.heap.size lA hA kA o2 vA o3 dA o4 ∧ w.heap.size ≤ lA ∧ hA ≤ w7.heap.size) := ⟨⟨QA.out.1.below hb, QA.out.2.1, Nat.le_trans QA.out.2.2 hb.size⟩⟩
               have n_G5 : Aside0 (w7.heap[g5_]? = some (.cells #[.bool false, .slice none 0 0, .slice none 0 0, .slice none 0 0] 26 (0, 0)) ∧ w.heap.size ≤ g5_ ∧ gr ≠ g5_ ∧ gp ≠ g5_) := ⟨⟨hbox, by rw [hgq]; exact M.out.HB.size, by rw [hgq]; exact Nat.ne_of_lt (blk_lt M.out.BR), by rw [hgq]; exact Nat.ne_of_lt (blk_lt M.out.BA)⟩⟩
               clear M QA
               have M := n_M
               have QA := n_QA
               have G5 := n_G5
               clear n_M n_QA n_G5
               refine hK.out _ _ ⟨((blk_cell M.out.BA 0).trans rfl), ((blk_cell M.out.BA 1).trans rfl), ((blk_cell M.out.BA 2).trans rfl), ((blk_cell M.out.BA 3).trans rfl), ((blk_cell M.out.BB 0).trans rfl), ((blk_cell M.out.BB 1).trans rfl), ((blk_cell M.out.BB 2).trans rfl), ((blk_cell M.out.BB 3).trans rfl)⟩ (fun hHeld => ?_)
               clear hK K
               refine norm_ (a' := ?_) ?_ ?_
               rotate_left
               ·show Act.put _ (some 12) _ = _
                simp only [Act.put, zt0, zt1, zt2, i64_w, i32_w]
                rfl
               exact norm_ (by first | (simp only [putAll, Act.put, zt0, zt1, zt2]; done) | (simp only [putAll, Act.put, zt0, zt1, zt2]; rfl)) (hJ1_5 (kA, vA, dA, lA, hA, g5_) _ ⟨hHeld, M.out, QA.out, G5.out⟩)
            ·skip
             rintro ⟨g4, g5⟩ w' ⟨hHeld, fM, fG4, fG5, fN45⟩
             have M := Aside0.mk fM
             have G4 := Aside0.mk fG4
             have G5 := Aside0.mk fG5
             have N45 := Aside0.mk fN45
             clear fM fG4 fG5 fN45
             refine norm_ (a' := ?_) ?_ ?_
             rotate_left
             ·simp only [putAll, Act.put, zt0, zt1, zt2]
              rfl
             refine one_ (i := 1) (N := some 42) #[true, true, true, false, true, true, false, false] rfl rfl (one_of HT_.out (by kernel_rfl)) (by decide) (fun K hK => ?_)
             refine goes_ Try.func25 (by kernel_rfl) rfl #[.agg #[.bool a0_0, .slice A0_1 l0_1.length c0_1, .slice A0_2 l0_2.length c0_2, .slice A0_3 l0_3.length c0_3]] (by rfl) rfl rfl zl_ ?_
             refine (node_own.calls k a0_0 A0_1 c0_1 l0_1 A0_2 c0_2 l0_2 A0_3 c0_3 l0_3 o1 o2 o3 o4 _ (Kd.C_below RA1.out M.out.HB) LA1.out (Kd.C_below RA2.out M.out.HB) LA2.out (Kd.C_below RA3.out M.out.HB) LA3.out HO.out).mono ?_
             rintro e w7 ⟨kA_, vA_, dA_, rfl, hS1, hS2, hR3, hb⟩
             refine ⟨_, rfl, ?_⟩
             obtain ⟨lA_, hA_, hQ_, hlo_, hhi_⟩ := node_Merge.own_rows M.out.HB.size hS1 hS2 hR3
             clear hS1 hS2 hR3
             have n_M : Aside0 (node_Merge.Mg w w7 gp gq gr #[.bool a0_0, .slice A0_1 l0_1.length c0_1, .slice A0_2 l0_2.length c0_2, .slice A0_3 l0_3.length c0_3] #[.bool a2_0, .slice A2_1 l2_1.length c2_1, .slice A2_2 l2_2.length c2_2, .slice A2_3 l2_3.length c2_3]) := ⟨M.out.below hb⟩
             have n_QA : Aside0 (node_Merge.OwnR w7 w.heap.size lA_ hA_ kA_ o2 vA_ o3 dA_ o4 ∧ w.heap.size ≤ lA_ ∧ hA_ ≤ w7.heap.size) := ⟨⟨hQ_, Nat.le_trans M.out.HB.size hlo_, hhi_⟩⟩
             have n_G4 : Aside0 (w7.heap[g4]? = some (.cells #[.bool false, .slice none 0 0, .slice none 0 0, .slice none 0 0] 26 (0, 0)) ∧ w.heap.size ≤ g4 ∧ gr ≠ g4 ∧ gp ≠ g4) := ⟨⟨blk_below G4.out.1 hb, G4.out.2⟩⟩
             have n_G5 : Aside0 (w7.heap[g5]? = some (.cells #[.bool false, .slice none 0 0, .slice none 0 0, .slice none 0 0] 26 (0, 0)) ∧ w.heap.size ≤ g5 ∧ gr ≠ g5 ∧ gp ≠ g5) := ⟨⟨blk_below G5.out.1 hb, G5.out.2⟩⟩
             have n_N45 : Aside0 (g4 ≠ g5) := ⟨N45.out⟩
             clear M G4 G5 N45
             have M := n_M
             have QA := n_QA
             have G4 := n_G4
             have G5 := n_G5
             have N45 := n_N45
             clear n_M n_QA n_G4 n_G5 n_N45
             refine hK.out _ _ ⟨((blk_cell M.out.BA 0).trans rfl), ((blk_cell M.out.BA 1).trans rfl), ((blk_cell M.out.BA 2).trans rfl), ((blk_cell M.out.BA 3).trans rfl), ((blk_cell M.out.BB 0).trans rfl), ((blk_cell M.out.BB 1).trans rfl), ((blk_cell M.out.BB 2).trans rfl), ((blk_cell M.out.BB 3).trans rfl)⟩ (fun hHeld => ?_)
             clear hK K
             refine norm_ (a' := ?_) ?_ ?_
             rotate_left
             ·show Act.put _ (some 42) _ = _
              simp only [Act.put, zt0, zt1, zt2, i64_w, i32_w]
              rfl
             exact norm_ (by first | (simp only [putAll, Act.put, zt0, zt1, zt2]; done) | (simp only [putAll, Act.put, zt0, zt1, zt2]; rfl)) (hJ1_4_5 (kA_, vA_, dA_, lA_, hA_, g4, g5) _ ⟨hHeld, M.out, QA.out, G4.out, G5.out, N45.out⟩)
           ·skip
            rintro ⟨kA, vA, dA, lA, hA, g5⟩ w' ⟨hHeld, fM, fQA, fG5⟩
            have M := Aside0.mk fM
            have QA := Aside0.mk fQA
            have G5 := Aside0.mk fG5
            clear fM fQA fG5
            refine norm_ (a' := ?_) ?_ ?_
            rotate_left
            ·simp only [putAll, Act.put, zt0, zt1, zt2]
             rfl
            refine two_ (i := 3) (j := 4) (Ni := some 44) (Nj := some 11) #[true, true, true, true, false, true, false, false] #[true, true, true, false, true, true, false, false] rfl rfl rfl rfl (two_of HT_.out (by kernel_rfl)) (by decide) (by decide) (fun K hK => ?_) (fun K hK => ?_)
            ·skip
             refine goes_ Try.func25 (by kernel_rfl) rfl #[.agg #[.bool a2_0, .slice A2_1 l2_1.length c2_1, .slice A2_2 l2_2.length c2_2, .slice A2_3 l2_3.length c2_3]] (by rfl) rfl rfl zl_ ?_
             refine (node_own.calls k a2_0 A2_1 c2_1 l2_1 A2_2 c2_2 l2_2 A2_3 c2_3 l2_3 p1 p2 p3 p4 _ (Kd.C_below RB1.out M.out.HB) LB1.out (Kd.C_below RB2.out M.out.HB) LB2.out (Kd.C_below RB3.out M.out.HB) LB3.out HP.out).mono ?_
             rintro e w7 ⟨kB_, vB_, dB_, rfl, hS1, hS2, hR3, hb⟩
             refine ⟨_, rfl, ?_⟩
             obtain ⟨lB_, hB_, hQ_, hlo_, hhi_⟩ := node_Merge.own_rows M.out.HB.size hS1 hS2 hR3
             clear hS1 hS2 hR3
             have n_M : Aside0 (node_Merge.Mg w w7 gp gq gr #[.bool a0_0, .slice A0_1 l0_1.length c0_1, .slice A0_2 l0_2.length c0_2, .slice A0_3 l0_3.length c0_3] #[.bool a2_0, .slice A2_1 l2_1.length c2_1, .slice A2_2 l2_2.length c2_2, .slice A2_3 l2_3.length c2_3]) := ⟨M.out.below hb⟩
             have n_QA : Aside0 (node_Merge.OwnR w7 w.heap.size lA hA kA o2 vA o3 dA o4 ∧ w.heap.size ≤ lA ∧ hA ≤ w7.heap.size) := ⟨⟨QA.out.1.below hb, QA.out.2.1, Nat.le_trans QA.out.2.2 hb.size⟩⟩
             have n_QB : Aside0 (node_Merge.OwnR w7 w.heap.size lB_ hB_ kB_ p2 vB_ p3 dB_ p4 ∧ hA ≤ lB_ ∧ w.heap.size ≤ lB_) := ⟨⟨hQ_, Nat.le_trans QA.out.2.2 hlo_, Nat.le_trans M.out.HB.size hlo_⟩⟩
             have n_G5 : Aside0 (w7.heap[g5]? = some (.cells #[.bool false, .slice none 0 0, .slice none 0 0, .slice none 0 0] 26 (0, 0)) ∧ w.heap.size ≤ g5 ∧ gr ≠ g5 ∧ gp ≠ g5) := ⟨⟨blk_below G5.out.1 hb, G5.out.2⟩⟩
             clear M QA G5
             have M := n_M
             have QA := n_QA
             have QB := n_QB
             have G5 := n_G5
             clear n_M n_QA n_QB n_G5
             refine hK.out _ _ ⟨((blk_cell M.out.BA 0).trans rfl), ((blk_cell M.out.BA 1).trans rfl), ((blk_cell M.out.BA 2).trans rfl), ((blk_cell M.out.BA 3).trans rfl), ((blk_cell M.out.BB 0).trans rfl), ((blk_cell M.out.BB 1).trans rfl), ((blk_cell M.out.BB 2).trans rfl), ((blk_cell M.out.BB 3).trans rfl)⟩ (fun hHeld => ?_)
             clear hK K
             refine norm_ (a' := ?_) ?_ ?_
             rotate_left
             ·show Act.put _ (some 44) _ = _
              simp only [Act.put, zt0, zt1, zt2, i64_w, i32_w]
              rfl
             exact norm_ (by first | (simp only [putAll, Act.put, zt0, zt1, zt2]; done) | (simp only [putAll, Act.put, zt0, zt1, zt2]; rfl)) (hJ1_3_5 (kA, vA, dA, lA, hA, kB_, vB_, dB_, lB_, hB_, g5) _ ⟨hHeld, M.out, QA.out, QB.out, G5.out⟩)
            ·skip
             refine box_step ?hg (N := 11) ?hd (cs := #[.bool false, .slice none 0 0, .slice none 0 0, .slice none 0 0]) (t := 26) ?hr ?_; (case hd => rfl); (case hg => rfl); (case hr => first | (go_simp; done) | (go_simp; rfl))
             intro g4_ hgq w7 hbox hb
             have n_M : Aside0 (node_Merge.Mg w w7 gp gq gr #[.bool a0_0, .slice A0_1 l0_1.length c0_1, .slice A0_2 l0_2.length c0_2, .slice A0_3 l0_3.length c0_3] #[.bool a2_0, .slice A2_1 l2_1.length c2_1, .slice A2_2 l2_2.length c2_2, .slice A2_3 l2_3.length c2_3]) := ⟨M.out.below hb⟩
             have n_QA : Aside0 (node_Merge.OwnR w7 w.heap.size lA hA kA o2 vA o3 dA o4 ∧ w.heap.size ≤ lA ∧ hA ≤ w7.heap.size) := ⟨⟨QA.out.1.below hb, QA.out.2.1, Nat.le_trans QA.out.2.2 hb.size⟩⟩
             have n_G4 : Aside0 (w7.heap[g4_]? = some (.cells #[.bool false, .slice none 0 0, .slice none 0 0, .slice none 0 0] 26 (0, 0)) ∧ w.heap.size ≤ g4_ ∧ gr ≠ g4_ ∧ gp ≠ g4_) := ⟨⟨hbox, by rw [hgq]; exact M.out.HB.size, by rw [hgq]; exact Nat.ne_of_lt (blk_lt M.out.BR), by rw [hgq]; exact Nat.ne_of_lt (blk_lt M.out.BA)⟩⟩
             have n_G5 : Aside0 (w7.heap[g5]? = some (.cells #[.bool false, .slice none 0 0, .slice none 0 0, .slice none 0 0] 26 (0, 0)) ∧ w.heap.size ≤ g5 ∧ gr ≠ g5 ∧ gp ≠ g5) := ⟨⟨blk_below G5.out.1 hb, G5.out.2⟩⟩
             have n_N45 : Aside0 (g4_ ≠ g5) := ⟨by rw [hgq]; exact Nat.ne_of_gt (blk_lt G5.out.1)⟩
             clear M QA G5
             have M := n_M
             have QA := n_QA
             have G4 := n_G4
             have G5 := n_G5
             have N45 := n_N45
             clear n_M n_QA n_G4 n_G5 n_N45
             refine hK.out _ _ ⟨((blk_cell M.out.BA 0).trans rfl), ((blk_cell M.out.BA 1).trans rfl), ((blk_cell M.out.BA 2).trans rfl), ((blk_cell M.out.BA 3).trans rfl), ((blk_cell M.out.BB 0).trans rfl), ((blk_cell M.out.BB 1).trans rfl), ((blk_cell M.out.BB 2).trans rfl), ((blk_cell M.out.BB 3).trans rfl)⟩ (fun hHeld => ?_)
             clear hK K
             refine norm_ (a' := ?_) ?_ ?_
             rotate_left
             ·show Act.put _ (some 11) _ = _
              simp only [Act.put, zt0, zt1, zt2, i64_w, i32_w]
              rfl
             exact norm_ (by first | (simp only [putAll, Act.put, zt0, zt1, zt2]; done) | (simp only [putAll, Act.put, zt0, zt1, zt2]; rfl)) (hJ1_4_5 (kA, vA, dA, lA, hA, g4_, g5) _ ⟨hHeld, M.out, QA.out, G4.out, G5.out, N45.out⟩)
          ·skip
           rintro ⟨kA, vA, dA, lA, hA, g4⟩ w' ⟨hHeld, fM, fQA, fG4⟩
           have M := Aside0.mk fM
           have QA := Aside0.mk fQA
           have G4 := Aside0.mk fG4
           clear fM fQA fG4
           refine norm_ (a' := ?_) ?_ ?_
           rotate_left
           ·simp only [putAll, Act.put, zt0, zt1, zt2]
            rfl
           refine two_ (i := 3) (j := 5) (Ni := some 44) (Nj := some 12) (zB 5 3) #[true, true, true, false, true, true, false, false] rfl rfl rfl rfl (two_of HT_.out (by kernel_rfl)) (by decide) (by decide) (fun K hK => ?_) (fun K hK => ?_)
           ·skip
            refine goes_ Try.func25 (by kernel_rfl) rfl #[.agg #[.bool a2_0, .slice A2_1 l2_1.length c2_1, .slice A2_2 l2_2.length c2_2, .slice A2_3 l2_3.length c2_3]] (by rfl) rfl rfl zl_ ?_
            refine (node_own.calls k a2_0 A2_1 c2_1 l2_1 A2_2 c2_2 l2_2 A2_3 c2_3 l2_3 p1 p2 p3 p4 _ (Kd.C_below RB1.out M.out.HB) LB1.out (Kd.C_below RB2.out M.out.HB) LB2.out (Kd.C_below RB3.out M.out.HB) LB3.out HP.out).mono ?_
            rintro e w7 ⟨kB_, vB_, dB_, rfl, hS1, hS2, hR3, hb⟩
            refine ⟨_, rfl, ?_⟩
            obtain ⟨lB_, hB_, hQ_, hlo_, hhi_⟩ := node_Merge.own_rows M.out.HB.size hS1 hS2 hR3
            clear hS1 hS2 hR3
            have n_M : Aside0 (node_Merge.Mg w w7 gp gq gr #[.bool a0_0, .slice A0_1 l0_1.length c0_1, .slice A0_2 l0_2.length c0_2, .slice A0_3 l0_3.length c0_3] #[.bool a2_0, .slice A2_1 l2_1.length c2_1, .slice A2_2 l2_2.length c2_2, .slice A2_3 l2_3.length c2_3]) := ⟨M.out.below hb⟩
            have n_QA : Aside0 (node_Merge.OwnR w7 w.heap.size lA hA kA o2 vA o3 dA o4 ∧ w.heap.size ≤ lA ∧ hA ≤ w7.heap.size) := ⟨⟨QA.out.1.below hb, QA.out.2.1, Nat.le_trans QA.out.2.2 hb.size⟩⟩
            have n_QB : Aside0 (node_Merge.OwnR w7 w.heap.size lB_ hB_ kB_ p2 vB_ p3 dB_ p4 ∧ hA ≤ lB_ ∧ w.heap.size ≤ lB_) := ⟨⟨hQ_, Nat.le_trans QA.out.2.2 hlo_, Nat.le_trans M.out.HB.size hlo_⟩⟩
            have n_G4 : Aside0 (w7.heap[g4]? = some (.cells #[.bool false, .slice none 0 0, .slice none 0 0, .slice none 0 0] 26 (0, 0)) ∧ w.heap.size ≤ g4 ∧ gr ≠ g4 ∧ gp ≠ g4) := ⟨⟨blk_below G4.out.1 hb, G4.out.2⟩⟩
            clear M QA G4
            have M := n_M
            have QA := n_QA
            have QB := n_QB
            have G4 := n_G4
            clear n_M n_QA n_QB n_G4
            refine hK.out _ _ ⟨((blk_cell M.out.BA 0).trans rfl), ((blk_cell M.out.BA 1).trans rfl), ((blk_cell M.out.BA 2).trans rfl), ((blk_cell M.out.BA 3).trans rfl), ((blk_cell M.out.BB 0).trans rfl), ((blk_cell M.out.BB 1).trans rfl), ((blk_cell M.out.BB 2).trans rfl), ((blk_cell M.out.BB 3).trans rfl)⟩ (fun hHeld => ?_)
            clear hK K
            refine norm_ (a' := ?_) ?_ ?_
            rotate_left
            ·show Act.put _ (some 44) _ = _
             simp only [Act.put, zt0, zt1, zt2, i64_w, i32_w]
             rfl
            exact norm_ (by first | (simp only [putAll, Act.put, zt0, zt1, zt2]; done) | (simp only [putAll, Act.put, zt0, zt1, zt2]; rfl)) (hJ1_3_4 (kA, vA, dA, lA, hA, kB_, vB_, dB_, lB_, hB_, g4) _ ⟨hHeld, M.out, QA.out, QB.out, G4.out⟩)
           ·skip
            refine box_step ?hg (N := 12) ?hd (cs := #[.bool false, .slice none 0 0, .slice none 0 0, .slice none 0 0]) (t := 26) ?hr ?_; (case hd => rfl); (case hg => rfl); (case hr => first | (go_simp; done) | (go_simp; rfl))
            intro g5_ hgq w7 hbox hb
            have n_M : Aside0 (node_Merge.Mg w w7 gp gq gr #[.bool a0_0, .slice A0_1 l0_1.length c0_1, .slice A0_2 l0_2.length c0_2, .slice A0_3 l0_3.length c0_3] #[.bool a2_0, .slice A2_1 l2_1.length c2_1, .slice A2_2 l2_2.length c2_2, .slice A2_3 l2_3.length c2_3]) := ⟨M.out.below hb⟩
            have n_QA : Aside0 (node_Merge.OwnR w7 w.heap.size lA hA kA o2 vA o3 dA o4 ∧ w.heap.size ≤ lA ∧ hA ≤ w7.heap.size) := ⟨⟨QA.out.1.below hb, QA.out.2.1, Nat.le_trans QA.out.2.2 hb.size⟩⟩
            have n_G4 : Aside0 (w7.heap[g4]? = some (.cells #[.bool false, .slice none 0 0, .slice none 0 0, .slice none 0 0] 26 (0, 0)) ∧ w.heap.size ≤ g4 ∧ gr ≠ g4 ∧ gp ≠ g4) := ⟨⟨blk_below G4.out.1 hb, G4.out.2⟩⟩
            have n_G5 : Aside0 (w7.heap[g5_]? = some (.cells #[.bool false, .slice none 0 0, .slice none 0 0, .slice none 0 0] 26 (0, 0)) ∧ w.heap.size ≤ g5_ ∧ gr ≠ g5_ ∧ gp ≠ g5_) := ⟨⟨hbox, by rw [hgq]; exact M.out.HB.size, by rw [hgq]; exact Nat.ne_of_lt (blk_lt M.out.BR), by rw [hgq]; exact Nat.ne_of_lt (blk_lt M.out.BA)⟩⟩
            have n_N45 : Aside0 (g4 ≠ g5_) := ⟨by rw [hgq]; exact Nat.ne_of_lt (blk_lt G4.out.1)⟩
            clear M QA G4
            have M := n_M
            have QA := n_QA
            have G4 := n_G4
            have G5 := n_G5
            have N45 := n_N45
            clear n_M n_QA n_G4 n_G5 n_N45
            refine hK.out _ _ ⟨((blk_cell M.out.BA 0).trans rfl), ((blk_cell M.out.BA 1).trans rfl), ((blk_cell M.out.BA 2).trans rfl), ((blk_cell M.out.BA 3).trans rfl), ((blk_cell M.out.BB 0).trans rfl), ((blk_cell M.out.BB 1).trans rfl), ((blk_cell M.out.BB 2).trans rfl), ((blk_cell M.out.BB 3).trans rfl)⟩ (fun hHeld => ?_)
            clear hK K
            refine norm_ (a' := ?_) ?_ ?_
            rotate_left
            ·show Act.put _ (some 12) _ = _
             simp only [Act.put, zt0, zt1, zt2, i64_w, i32_w]
             rfl
            exact norm_ (by first | (simp only [putAll, Act.put, zt0, zt1, zt2]; done) | (simp only [putAll, Act.put, zt0, zt1, zt2]; rfl)) (hJ1_4_5 (kA, vA, dA, lA, hA, g4, g5_) _ ⟨hHeld, M.out, QA.out, G4.out, G5.out, N45.out⟩)
         ·skip
          rintro ⟨kA, vA, dA, lA, hA, kB, vB, dB, lB, hB⟩ w' ⟨hHeld, fM, fQA, fQB⟩
          have M := Aside0.mk fM
          have QA := Aside0.mk fQA
          have QB := Aside0.mk fQB
          clear fM fQA fQB
          refine norm_ (a' := ?_) ?_ ?_
          rotate_left
          ·simp only [putAll, Act.put, zt0, zt1, zt2]
           rfl
          refine two_ (i := 4) (j := 5) (Ni := some 11) (Nj := some 12) (zB 5 3) #[true, true, true, true, false, true, false, false] rfl rfl rfl rfl (two_of HT_.out (by kernel_rfl)) (by decide) (by decide) (fun K hK => ?_) (fun K hK => ?_)
          ·skip
           refine box_step ?hg (N := 11) ?hd (cs := #[.bool false, .slice none 0 0, .slice none 0 0, .slice none 0 0]) (t := 26) ?hr ?_; (case hd => rfl); (case hg => rfl); (case hr => first | (go_simp; done) | (go_simp; rfl))
           intro g4_ hgq w7 hbox hb
           have n_M : Aside0 (node_Merge.Mg w w7 gp gq gr #[.bool a0_0, .slice A0_1 l0_1.length c0_1, .slice A0_2 l0_2.length c0_2, .slice A0_3 l0_3.length c0_3] #[.bool a2_0, .slice A2_1 l2_1.length c2_1, .slice A2_2 l2_2.length c2_2, .slice A2_3 l2_3.length c2_3]) := ⟨M.out.below hb⟩
           have n_QA : Aside0 (node_Merge.OwnR w7 w.heap.size lA hA kA o2 vA o3 dA o4 ∧ w.heap.size ≤ lA ∧ hA ≤ w7.heap.size) := ⟨⟨QA.out.1.below hb, QA.out.2.1, Nat.le_trans QA.out.2.2 hb.size⟩⟩
           have n_QB : Aside0 (node_Merge.OwnR w7 w.heap.size lB hB kB p2 vB p3 dB p4 ∧ hA ≤ lB ∧ w.heap.size ≤ lB) := ⟨⟨QB.out.1.below hb, QB.out.2.1, QB.out.2.2⟩⟩
           have n_G4 : Aside0 (w7.heap[g4_]? = some (.cells #[.bool false, .slice none 0 0, .slice none 0 0, .slice none 0 0] 26 (0, 0)) ∧ w.heap.size ≤ g4_ ∧ gr ≠ g4_ ∧ gp ≠ g4_) := ⟨⟨hbox, by rw [hgq]; exact M.out.HB.size, by rw [hgq]; exact Nat.ne_of_lt (blk_lt M.out.BR), by rw [hgq]; exact Nat.ne_of_lt (blk_lt M.out.BA)⟩⟩
           clear M QA QB
           have M := n_M
           have QA := n_QA
           have QB := n_QB
           have G4 := n_G4
           clear n_M n_QA n_QB n_G4
           refine hK.out _ _ ⟨((blk_cell M.out.BA 0).trans rfl), ((blk_cell M.out.BA 1).trans rfl), ((blk_cell M.out.BA 2).trans rfl), ((blk_cell M.out.BA 3).trans rfl), ((blk_cell M.out.BB 0).trans rfl), ((blk_cell M.out.BB 1).trans rfl), ((blk_cell M.out.BB 2).trans rfl), ((blk_cell M.out.BB 3).trans rfl)⟩ (fun hHeld => ?_)
           clear hK K
           refine norm_ (a' := ?_) ?_ ?_
           rotate_left
           ·show Act.put _ (some 11) _ = _
            simp only [Act.put, zt0, zt1, zt2, i64_w, i32_w]
            rfl
           exact norm_ (by first | (simp only [putAll, Act.put, zt0, zt1, zt2]; done) | (simp only [putAll, Act.put, zt0, zt1, zt2]; rfl)) (hJ1_3_4 (kA, vA, dA, lA, hA, kB, vB, dB, lB, hB, g4_) _ ⟨hHeld, M.out, QA.out, QB.out, G4.out⟩)
          ·skip
           refine box_step ?hg (N := 12) ?hd (cs := #[.bool false, .slice none 0 0, .slice none 0 0, .slice none 0 0]) (t := 26) ?hr ?_; (case hd => rfl); (case hg => rfl); (case hr => first | (go_simp; done) | (go_simp; rfl))
           intro g5_ hgq w7 hbox hb
           have n_M : Aside0 (node_Merge.Mg w w7 gp gq gr #[.bool a0_0, .slice A0_1 l0_1.length c0_1, .slice A0_2 l0_2.length c0_2, .slice A0_3 l0_3.length c0_3] #[.bool a2_0, .slice A2_1 l2_1.length c2_1, .slice A2_2 l2_2.length c2_2, .slice A2_3 l2_3.length c2_3]) := ⟨M.out.below hb⟩
           have n_QA : Aside0 (node_Merge.OwnR w7 w.heap.size lA hA kA o2 vA o3 dA o4 ∧ w.heap.size ≤ lA ∧ hA ≤ w7.heap.size) := ⟨⟨QA.out.1.below hb, QA.out.2.1, Nat.le_trans QA.out.2.2 hb.size⟩⟩
           have n_QB : Aside0 (node_Merge.OwnR w7 w.heap.size lB hB kB p2 vB p3 dB p4 ∧ hA ≤ lB ∧ w.heap.size ≤ lB) := ⟨⟨QB.out.1.below hb, QB.out.2.1, QB.out.2.2⟩⟩
           have n_G5 : Aside0 (w7.heap[g5_]? = some (.cells #[.bool false, .slice none 0 0, .slice none 0 0, .slice none 0 0] 26 (0, 0)) ∧ w.heap.size ≤ g5_ ∧ gr ≠ g5_ ∧ gp ≠ g5_) := ⟨⟨hbox, by rw [hgq]; exact M.out.HB.size, by rw [hgq]; exact Nat.ne_of_lt (blk_lt M.out.BR), by rw [hgq]; exact Nat.ne_of_lt (blk_lt M.out.BA)⟩⟩
           clear M QA QB
           have M := n_M
           have QA := n_QA
           have QB := n_QB
           have G5 := n_G5
           clear n_M n_QA n_QB n_G5
           refine hK.out _ _ ⟨((blk_cell M.out.BA 0).trans rfl), ((blk_cell M.out.BA 1).trans rfl), ((blk_cell M.out.BA 2).trans rfl), ((blk_cell M.out.BA 3).trans rfl), ((blk_cell M.out.BB 0).trans rfl), ((blk_cell M.out.BB 1).trans rfl), ((blk_cell M.out.BB 2).trans rfl), ((blk_cell M.out.BB 3).trans rfl)⟩ (fun hHeld => ?_)
           clear hK K
           refine norm_ (a' := ?_) ?_ ?_
           rotate_left
           ·show Act.put _ (some 12) _ = _
            simp only [Act.put, zt0, zt1, zt2, i64_w, i32_w]
            rfl
           exact norm_ (by first | (simp only [putAll, Act.put, zt0, zt1, zt2]; done) | (simp only [putAll, Act.put, zt0, zt1, zt2]; rfl)) (hJ1_3_5 (kA, vA, dA, lA, hA, kB, vB, dB, lB, hB, g5_) _ ⟨hHeld, M.out, QA.out, QB.out, G5.out⟩)
        ·skip
         rintro ⟨kA, vA, dA, lA, hA, g4, g5⟩ w' ⟨hHeld, fM, fQA, fG4, fG5, fN45⟩
         have M := Aside0.mk fM
         have QA := Aside0.mk fQA
         have G4 := Aside0.mk fG4
         have G5 := Aside0.mk fG5
         have N45 := Aside0.mk fN45
         clear fM fQA fG4 fG5 fN45
         refine norm_ (a' := ?_) ?_ ?_
         rotate_left
         ·simp only [putAll, Act.put, zt0, zt1, zt2]
          rfl
         refine one_ (i := 3) (N := some 44) (zB 6 2) rfl rfl (one_of HT_.out (by kernel_rfl)) (by decide) (fun K hK => ?_)
         refine goes_ Try.func25 (by kernel_rfl) rfl #[.agg #[.bool a2_0, .slice A2_1 l2_1.length c2_1, .slice A2_2 l2_2.length c2_2, .slice A2_3 l2_3.length c2_3]] (by rfl) rfl rfl zl_ ?_
         refine (node_own.calls k a2_0 A2_1 c2_1 l2_1 A2_2 c2_2 l2_2 A2_3 c2_3 l2_3 p1 p2 p3 p4 _ (Kd.C_below RB1.out M.out.HB) LB1.out (Kd.C_below RB2.out M.out.HB) LB2.out (Kd.C_below RB3.out M.out.HB) LB3.out HP.out).mono ?_
         rintro e w7 ⟨kB_, vB_, dB_, rfl, hS1, hS2, hR3, hb⟩
         refine ⟨_, rfl, ?_⟩
         obtain ⟨lB_, hB_, hQ_, hlo_, hhi_⟩ := node_Merge.own_rows M.out.HB.size hS1 hS2 hR3
         clear hS1 hS2 hR3
         have n_M : Aside0 (node_Merge.Mg w w7 gp gq gr #[.bool a0_0, .slice A0_1 l0_1.length c0_1, .slice A0_2 l0_2.length c0_2, .slice A0_3 l0_3.length c0_3] #[.bool a2_0, .slice A2_1 l2_1.length c2_1, .slice A2_2 l2_2.length c2_2, .slice A2_3 l2_3.length c2_3]) := ⟨M.out.below hb⟩
         have n_QA : Aside0 (node_Merge.OwnR w7 w.heap.size lA hA kA o2 vA o3 dA o4 ∧ w.heap.size ≤ lA ∧ hA ≤ w7.heap.size) := ⟨⟨QA.out.1.below hb, QA.out.2.1, Nat.le_trans QA.out.2.2 hb.size⟩⟩
         have n_QB : Aside0 (node_Merge.OwnR w7 w.heap.size lB_ hB_ kB_ p2 vB_ p3 dB_ p4 ∧ hA ≤ lB_ ∧ w.heap.size ≤ lB_) := ⟨⟨hQ_, Nat.le_trans QA.out.2.2 hlo_, Nat.le_trans M.out.HB.size hlo_⟩⟩
         have n_G4 : Aside0 (w7.heap[g4]? = some (.cells #[.bool false, .slice none 0 0, .slice none 0 0, .slice none 0 0] 26 (0, 0)) ∧ w.heap.size ≤ g4 ∧ gr ≠ g4 ∧ gp ≠ g4) := ⟨⟨blk_below G4.out.1 hb, G4.out.2⟩⟩
         have n_G5 : Aside0 (w7.heap[g5]? = some (.cells #[.bool false, .slice none 0 0, .slice none 0 0, .slice none 0 0] 26 (0, 0)) ∧ w.heap.size ≤ g5 ∧ gr ≠ g5 ∧ gp ≠ g5) := ⟨⟨blk_below G5.out.1 hb, G5.out.2⟩⟩
         have n_N45 : Aside0 (g4 ≠ g5) := ⟨N45.out⟩
         clear M QA G4 G5 N45
         have M := n_M
         have QA := n_QA
         have QB := n_QB
         have G4 := n_G4
         have G5 := n_G5
         have N45 := n_N45
         clear n_M n_QA n_QB n_G4 n_G5 n_N45
         refine hK.out _ _ ⟨((blk_cell M.out.BA 0).trans rfl), ((blk_cell M.out.BA 1).trans rfl), ((blk_cell M.out.BA 2).trans rfl), ((blk_cell M.out.BA 3).trans rfl), ((blk_cell M.out.BB 0).trans rfl), ((blk_cell M.out.BB 1).trans rfl), ((blk_cell M.out.BB 2).trans rfl), ((blk_cell M.out.BB 3).trans rfl)⟩ (fun hHeld => ?_)
         clear hK K
         refine norm_ (a' := ?_) ?_ ?_
         rotate_left
         ·show Act.put _ (some 44) _ = _
          simp only [Act.put, zt0, zt1, zt2, i64_w, i32_w]
          rfl
         exact norm_ (by first | (simp only [putAll, Act.put, zt0, zt1, zt2]; done) | (simp only [putAll, Act.put, zt0, zt1, zt2]; rfl)) (hJ1_3_4_5 (kA, vA, dA, lA, hA, kB_, vB_, dB_, lB_, hB_, g4, g5) _ ⟨hHeld, M.out, QA.out, QB.out, G4.out, G5.out, N45.out⟩)
       ·skip
        rintro ⟨kA, vA, dA, lA, hA, kB, vB, dB, lB, hB, g5⟩ w' ⟨hHeld, fM, fQA, fQB, fG5⟩
        have M := Aside0.mk fM
        have QA := Aside0.mk fQA
        have QB := Aside0.mk fQB
        have G5 := Aside0.mk fG5
        clear fM fQA fQB fG5
        refine norm_ (a' := ?_) ?_ ?_
        rotate_left
        ·simp only [putAll, Act.put, zt0, zt1, zt2]
         rfl
        refine one_ (i := 4) (N := some 11) (zB 6 2) rfl rfl (one_of HT_.out (by kernel_rfl)) (by decide) (fun K hK => ?_)
        refine box_step ?hg (N := 11) ?hd (cs := #[.bool false, .slice none 0 0, .slice none 0 0, .slice none 0 0]) (t := 26) ?hr ?_; (case hd => rfl); (case hg => rfl); (case hr => first | (go_simp; done) | (go_simp; rfl))
        intro g4_ hgq w7 hbox hb
        have n_M : Aside0 (node_Merge.Mg w w7 gp gq gr #[.bool a0_0, .slice A0_1 l0_1.length c0_1, .slice A0_2 l0_2.length c0_2, .slice A0_3 l0_3.length c0_3] #[.bool a2_0, .slice A2_1 l2_1.length c2_1, .slice A2_2 l2_2.length c2_2, .slice A2_3 l2_3.length c2_3]) := ⟨M.out.below hb⟩
        have n_QA : Aside0 (node_Merge.OwnR w7 w.heap.size lA hA kA o2 vA o3 dA o4 ∧ w.heap.size ≤ lA ∧ hA ≤ w7.heap.size) := ⟨⟨QA.out.1.below hb, QA.out.2.1, Nat.le_trans QA.out.2.2 hb.size⟩⟩
        have n_QB : Aside0 (node_Merge.OwnR w7 w.heap.size lB hB kB p2 vB p3 dB p4 ∧ hA ≤ lB ∧ w.heap.size ≤ lB) := ⟨⟨QB.out.1.below hb, QB.out.2.1, QB.out.2.2⟩⟩
        have n_G4 : Aside0 (w7.heap[g4_]? = some (.cells #[.bool false, .slice none 0 0, .slice none 0 0, .slice none 0 0] 26 (0, 0)) ∧ w.heap.size ≤ g4_ ∧ gr ≠ g4_ ∧ gp ≠ g4_) := ⟨⟨hbox, by rw [hgq]; exact M.out.HB.size, by rw [hgq]; exact Nat.ne_of_lt (blk_lt M.out.BR), by rw [hgq]; exact Nat.ne_of_lt (blk_lt M.out.BA)⟩⟩
        have n_G5 : Aside0 (w7.heap[g5]? = some (.cells #[.bool false, .slice none 0 0, .slice none 0 0, .slice none 0 0] 26 (0, 0)) ∧ w.heap.size ≤ g5 ∧ gr ≠ g5 ∧ gp ≠ g5) := ⟨⟨blk_below G5.out.1 hb, G5.out.2⟩⟩
        have n_N45 : Aside0 (g4_ ≠ g5) := ⟨by rw [hgq]; exact Nat.ne_of_gt (blk_lt G5.out.1)⟩
        clear M QA QB G5
        have M := n_M
        have QA := n_QA
        have QB := n_QB
        have G4 := n_G4
        have G5 := n_G5
        have N45 := n_N45
        clear n_M n_QA n_QB n_G4 n_G5 n_N45
        refine hK.out _ _ ⟨((blk_cell M.out.BA 0).trans rfl), ((blk_cell M.out.BA 1).trans rfl), ((blk_cell M.out.BA 2).trans rfl), ((blk_cell M.out.BA 3).trans rfl), ((blk_cell M.out.BB 0).trans rfl), ((blk_cell M.out.BB 1).trans rfl), ((blk_cell M.out.BB 2).trans rfl), ((blk_cell M.out.BB 3).trans rfl)⟩ (fun hHeld => ?_)
        clear hK K
        refine norm_ (a' := ?_) ?_ ?_
        rotate_left
        ·show Act.put _ (some 11) _ = _
         simp only [Act.put, zt0, zt1, zt2, i64_w, i32_w]
         rfl
        exact norm_ (by first | (simp only [putAll, Act.put, zt0, zt1, zt2]; done) | (simp only [putAll, Act.put, zt0, zt1, zt2]; rfl)) (hJ1_3_4_5 (kA, vA, dA, lA, hA, kB, vB, dB, lB, hB, g4_, g5) _ ⟨hHeld, M.out, QA.out, QB.out, G4.out, G5.out, N45.out⟩)
      ·skip
       rintro ⟨kA, vA, dA, lA, hA, kB, vB, dB, lB, hB, g4⟩ w' ⟨hHeld, fM, fQA, fQB, fG4⟩
       have M := Aside0.mk fM
       have QA := Aside0.mk fQA
       have QB := Aside0.mk fQB
       have G4 := Aside0.mk fG4
       clear fM fQA fQB fG4
       refine norm_ (a' := ?_) ?_ ?_
       rotate_left
       ·simp only [putAll, Act.put, zt0, zt1, zt2]
        rfl
       refine one_ (i := 5) (N := some 12) (zB 6 2) rfl rfl (one_of HT_.out (by kernel_rfl)) (by decide) (fun K hK => ?_)
       refine box_step ?hg (N := 12) ?hd (cs := #[.bool false, .slice none 0 0, .slice none 0 0, .slice none 0 0]) (t := 26) ?hr ?_; (case hd => rfl); (case hg => rfl); (case hr => first | (go_simp; done) | (go_simp; rfl))
       intro g5_ hgq w7 hbox hb
       have n_M : Aside0 (node_Merge.Mg w w7 gp gq gr #[.bool a0_0, .slice A0_1 l0_1.length c0_1, .slice A0_2 l0_2.length c0_2, .slice A0_3 l0_3.length c0_3] #[.bool a2_0, .slice A2_1 l2_1.length c2_1, .slice A2_2 l2_2.length c2_2, .slice A2_3 l2_3.length c2_3]) := ⟨M.out.below hb⟩
       have n_QA : Aside0 (node_Merge.OwnR w7 w.heap.size lA hA kA o2 vA o3 dA o4 ∧ w.heap.size ≤ lA ∧ hA ≤ w7.heap.size) := ⟨⟨QA.out.1.below hb, QA.out.2.1, Nat.le_trans QA.out.2.2 hb.size⟩⟩
       have n_QB : Aside0 (node_Merge.OwnR w7 w.heap.size lB hB kB p2 vB p3 dB p4 ∧ hA ≤ lB ∧ w.heap.size ≤ lB) := ⟨⟨QB.out.1.below hb, QB.out.2.1, QB.out.2.2⟩⟩
       have n_G4 : Aside0 (w7.heap[g4]? = some (.cells #[.bool false, .slice none 0 0, .slice none 0 0, .slice none 0 0] 26 (0, 0)) ∧ w.heap.size ≤ g4 ∧ gr ≠ g4 ∧ gp ≠ g4) := ⟨⟨blk_below G4.out.1 hb, G4.out.2⟩⟩
       have n_G5 : Aside0 (w7.heap[g5_]? = some (.cells #[.bool false, .slice none 0 0, .slice none 0 0, .slice none 0 0] 26 (0, 0)) ∧ w.heap.size ≤ g5_ ∧ gr ≠ g5_ ∧ gp ≠ g5_) := ⟨⟨hbox, by rw [hgq]; exact M.out.HB.size, by rw [hgq]; exact Nat.ne_of_lt (blk_lt M.out.BR), by rw [hgq]; exact Nat.ne_of_lt (blk_lt M.out.BA)⟩⟩
       have n_N45 : Aside0 (g4 ≠ g5_) := ⟨by rw [hgq]; exact Nat.ne_of_lt (blk_lt G4.out.1)⟩
       clear M QA QB G4
       have M := n_M
       have QA := n_QA
       have QB := n_QB
       have G4 := n_G4
       have G5 := n_G5
       have N45 := n_N45
       clear n_M n_QA n_QB n_G4 n_G5 n_N45
       refine hK.out _ _ ⟨((blk_cell M.out.BA 0).trans rfl), ((blk_cell M.out.BA 1).trans rfl), ((blk_cell M.out.BA 2).trans rfl), ((blk_cell M.out.BA 3).trans rfl), ((blk_cell M.out.BB 0).trans rfl), ((blk_cell M.out.BB 1).trans rfl), ((blk_cell M.out.BB 2).trans rfl), ((blk_cell M.out.BB 3).trans rfl)⟩ (fun hHeld => ?_)
       clear hK K
       refine norm_ (a' := ?_) ?_ ?_
       rotate_left
       ·show Act.put _ (some 12) _ = _
        simp only [Act.put, zt0, zt1, zt2, i64_w, i32_w]
        rfl
       exact norm_ (by first | (simp only [putAll, Act.put, zt0, zt1, zt2]; done) | (simp only [putAll, Act.put, zt0, zt1, zt2]; rfl)) (hJ1_3_4_5 (kA, vA, dA, lA, hA, kB, vB, dB, lB, hB, g4, g5_) _ ⟨hHeld, M.out, QA.out, QB.out, G4.out, G5.out, N45.out⟩)
     rintro ⟨kA, vA, dA, lA, hA, kB, vB, dB, lB, hB, g4, g5⟩ w' ⟨hHeld, fM, fQA, fQB, fG4, fG5, fN45⟩
     have M := Aside0.mk fM
     have QA := Aside0.mk fQA
     have QB := Aside0.mk fQB
     have G4 := Aside0.mk fG4
     have G5 := Aside0.mk fG5
     have N45 := Aside0.mk fN45
     clear fM fQA fQB fG4 fG5 fN45
     refine norm_ (a' := ?_) ?_ ?_
     rotate_left
     ·simp only [putAll, Act.put, zt0, zt1, zt2]
      rfl
     refine last_ (i := 6) (N := none) (zB 7 1) rfl rfl (one_of HT_.out (by kernel_rfl)) (by decide) (fun K hK => ?_)
     dsimp only at QA QB G4 G5 N45
     obtain ⟨kA_, kAc_, rfl⟩ := Kd.R_slice QA.out.1.K
     obtain ⟨vA_, vAc_, rfl⟩ := Kd.R_slice QA.out.1.V
     obtain ⟨dA_, dAc_, rfl⟩ := Kd.R_slice QA.out.1.D
     obtain ⟨kB_, kBc_, rfl⟩ := Kd.R_slice QB.out.1.K
     obtain ⟨vB_, vBc_, rfl⟩ := Kd.R_slice QB.out.1.V
     obtain ⟨dB_, dBc_, rfl⟩ := Kd.R_slice QB.out.1.D
     have hh0 := (blk_cell G4.out.1 0).trans rfl
     have hh1 := (blk_cell G4.out.1 1).trans rfl
     have hh2 := (blk_cell G4.out.1 2).trans rfl
     have hh3 := (blk_cell G4.out.1 3).trans rfl
     have hf0 := blk_frozen G4.out.1 0
     have hf1 := blk_frozen G4.out.1 1
     have hf2 := blk_frozen G4.out.1 2
     have hf3 := blk_frozen G4.out.1 3
     refine skip_ (w1 := ?_) (by rfl) rfl ?_ ?_
     rotate_left
     ·go_simp
      rfl
     clear hh0 hh1 hh2 hh3 hf0 hf1 hf2 hf3
     refine hK.out _ _ ?_
     clear hK K
     refine last_ (i := 7) (N := none) (zB 8 0) rfl rfl (one_of HT_.out (by kernel_rfl)) (by decide) (fun K hK => ?_)
     have G5s : Aside0 (_) := ⟨pageF G5.out.1 (Ne.symm N45.out) (.bool o1) (.slice kA_ o2.length kAc_) (.slice vA_ o3.length vAc_) (.slice dA_ o4.length dAc_)⟩
     have hh0 := (blk_cell G5s.out 0).trans rfl
     have hh1 := (blk_cell G5s.out 1).trans rfl
     have hh2 := (blk_cell G5s.out 2).trans rfl
     have hh3 := (blk_cell G5s.out 3).trans rfl
     have hf0 := blk_frozen G5s.out 0
     have hf1 := blk_frozen G5s.out 1
     have hf2 := blk_frozen G5s.out 2
     have hf3 := blk_frozen G5s.out 3
     refine skip_ (w1 := ?_) (by rfl) rfl ?_ ?_
     rotate_left
     ·go_simp
      rfl
     clear hh0 hh1 hh2 hh3 hf0 hf1 hf2 hf3
     refine hK.out _ _ ?_
     clear hK K
     refine done_ (done_of HT_.out (by kernel_rfl)) ?_
     have S : Aside0 (node_Merge.Ms w (((((((((w'.setCell ⟨g4, 0, none⟩ (.bool o1)).setCell ⟨g4, 1, none⟩ (.slice kA_ o2.length kAc_)).setCell ⟨g4, 2, none⟩ (.slice vA_ o3.length vAc_)).setCell ⟨g4, 3, none⟩ (.slice dA_ o4.length dAc_)).setCell ⟨g5, 0, none⟩ (.bool p1)).setCell ⟨g5, 1, none⟩ (.slice kB_ p2.length kBc_)).setCell ⟨g5, 2, none⟩ (.slice vB_ p3.length vBc_)).setCell ⟨g5, 3, none⟩ (.slice dB_ p4.length dBc_))) gr g4 o1 (.slice kA_ o2.length kAc_) o2 (.slice vA_ o3.length vAc_) o3 (.slice dA_ o4.length dAc_) o4 (.slice kB_ p2.length kBc_) p2 (.slice vB_ p3.length vBc_) p3 (.slice dB_ p4.length dBc_) p4) := ⟨node_Merge.Ms.of (pageF (pageF M.out.BR G4.out.2.2.1 _ _ _ _) G5.out.2.2.1 _ _ _ _) (pageF (pageB G4.out.1 _ _ _ _) N45.out _ _ _ _) (pageW (pageW M.out.HB G4.out.2.1 _ _ _ _) G5.out.2.1 _ _ _ _) GR.out G4.out.2.1 (Ne.symm G4.out.2.2.1) (node_Merge.OwnR.set4 (node_Merge.OwnR.set4 QA.out.1 G4.out.1 _ _ _ _) G5s.out _ _ _ _) (node_Merge.OwnR.set4 (node_Merge.OwnR.set4 QB.out.1 G4.out.1 _ _ _ _) G5s.out _ _ _ _) QA.out.2.1 QB.out.2.1 QB.out.2.2⟩
     have B5 : Aside0 ((((((((((w'.setCell ⟨g4, 0, none⟩ (.bool o1)).setCell ⟨g4, 1, none⟩ (.slice kA_ o2.length kAc_)).setCell ⟨g4, 2, none⟩ (.slice vA_ o3.length vAc_)).setCell ⟨g4, 3, none⟩ (.slice dA_ o4.length dAc_)).setCell ⟨g5, 0, none⟩ (.bool p1)).setCell ⟨g5, 1, none⟩ (.slice kB_ p2.length kBc_)).setCell ⟨g5, 2, none⟩ (.slice vB_ p3.length vBc_)).setCell ⟨g5, 3, none⟩ (.slice dB_ p4.length dBc_))).heap[g5]? = some (.cells #[.bool p1, .slice kB_ p2.length kBc_, .slice vB_ p3.length vBc_, .slice dB_ p4.length dBc_] 26 (0, 0))) := ⟨pageB G5s.out _ _ _ _⟩
     have BP : Aside0 ((((((((((w'.setCell ⟨g4, 0, none⟩ (.bool o1)).setCell ⟨g4, 1, none⟩ (.slice kA_ o2.length kAc_)).setCell ⟨g4, 2, none⟩ (.slice vA_ o3.length vAc_)).setCell ⟨g4, 3, none⟩ (.slice dA_ o4.length dAc_)).setCell ⟨g5, 0, none⟩ (.bool p1)).setCell ⟨g5, 1, none⟩ (.slice kB_ p2.length kBc_)).setCell ⟨g5, 2, none⟩ (.slice vB_ p3.length vBc_)).setCell ⟨g5, 3, none⟩ (.slice dB_ p4.length dBc_))).heap[gp]? = some (.cells #[.bool a0_0, .slice A0_1 l0_1.length c0_1, .slice A0_2 l0_2.length c0_2, .slice A0_3 l0_3.length c0_3] 26 (0, 0))) := ⟨pageF (pageF M.out.BA G4.out.2.2.2 _ _ _ _) G5.out.2.2.2 _ _ _ _⟩
     obtain ⟨w8, hw8⟩ : ∃ w8, w8 = ((((((((w'.setCell ⟨g4, 0, none⟩ (.bool o1)).setCell ⟨g4, 1, none⟩ (.slice kA_ o2.length kAc_)).setCell ⟨g4, 2, none⟩ (.slice vA_ o3.length vAc_)).setCell ⟨g4, 3, none⟩ (.slice dA_ o4.length dAc_)).setCell ⟨g5, 0, none⟩ (.bool p1)).setCell ⟨g5, 1, none⟩ (.slice kB_ p2.length kBc_)).setCell ⟨g5, 2, none⟩ (.slice vB_ p3.length vBc_)).setCell ⟨g5, 3, none⟩ (.slice dB_ p4.length dBc_)) := ⟨_, rfl⟩
     rw [← hw8] at S B5 BP ⊢
     clear hw8 hHeld M QA QB G4 G5 G5s HO HP
     have hp0 := (blk_cell BP.out 0).trans rfl
     have H := HH.out
     dsimp only at H
     clear HH
     by_cases hz : a0_0 = true
     ·rw [if_pos hz] at H
      have y4 : (!a0_0) = false := by rw [hz]; rfl
      go_upto_region 15 with fail
      clear y4 hp0 BP
      unfold node_Merge.g at H
      split at H
      rotate_left
      ·cases H
      rename_i hB
      have LB := Aside0.mk hB
      clear hB
      replace H := Option.bind_eq_some_iff.mp H
      obtain ⟨t, ht, H⟩ := H
      have HT := Aside0.mk ht
      have HH := Aside0.mk H
      clear ht H
      have hc0 := (blk_cell S.out.BG 1).trans rfl
      have hd0 := (blk_cell B5.out 1).trans rfl
      go_upto_region 16 with (first | ((with_reducible refine gate_builtin (b := .append) (xs := #[.tmp 56, .tmp 58]) rfl ?_); at_builtin; refine Kd.N_append_rows (Kd.slice 5 (Kd.int .u8)) (w0 := w) w.heap.size rfl (.tmp 56) (.tmp 58) 22 27 (.slice none 0 0) 24 rfl Try.underlying22 info27 rfl (by decide) (by omega) (.slice kA_ o2.length kAc_) o2 p2 _ _ _ (node_Merge.mok w.heap.size g4 gr (.bool true) (.slice vA_ o3.length vAc_) (.slice dA_ o4.length dAc_)) (node_Merge.mok w.heap.size g4 gr (.slice kA_ o2.length kAc_) (.slice vA_ o3.length vAc_) (.slice dA_ o4.length dAc_)) rfl rfl S.out.K (Kd.V_F S.out.K2) (fun k hk => ⟨⟨hk.1, node_Merge.none_own k, hk.2.2.1, hk.2.2.2.1, hk.2.2.2.2.1, hk.2.2.2.2.2⟩, hk.2.1⟩) (fun k hk => ⟨(S.out.fresh k hk).1, node_Merge.none_own k, (S.out.fresh k hk).2.2⟩) S.out.HB S.out.HB.size (by have := LB.out; omega) ?_; intro v1 w9 hn hb hg hat; obtain ⟨A1_, c1_, hv_⟩ := Kd.N_slice hn; obtain ⟨n1_, e_⟩ : ∃ n, n = (o2 ++ p2).length := ⟨_, rfl⟩; rw [← e_] at hv_; subst hv_; have E1_ := Aside0.mk e_; clear e_; have n5_ := Aside0.mk (blk_grown B5.out hg (Kd.N_ne S.out.K B5.out (by decide))); obtain ⟨bg, S9⟩ := S.out.growK hn hb hg hat; have hc1 := (blk_cell bg 1).trans rfl; have hf1 := blk_frozen bg 1; have S9_ := Aside0.mk S9; have B5_ : Aside0 ((w9.setCell ⟨g4, 1, none⟩ (.slice A1_ n1_ c1_)).heap[g5]? = some (.cells #[.bool p1, .slice kB_ p2.length kBc_, .slice vB_ p3.length vBc_, .slice dB_ p4.length dBc_] 26 (0, 0))) := ⟨blk_far n5_.out (Ne.symm N45.out) _⟩; clear hn hb hg hat S B5 n5_ bg S9 hc0 hd0))
      have S := Aside0.mk S9_.out
      have B5 := Aside0.mk B5_.out
      clear S9_ B5_ hc1 hf1
      obtain ⟨w11, hw9⟩ : ∃ w_, w_ = w9.setCell ⟨g4, 1, none⟩ (.slice A1_ n1_ c1_) := ⟨_, rfl⟩
      rw [← hw9] at S B5 ⊢
      clear hw9
      have hc0 := (blk_cell S.out.BG 2).trans rfl
      have hd0 := (blk_cell B5.out 2).trans rfl
      go_upto_region 17 with (first | ((with_reducible refine gate_builtin (b := .append) (xs := #[.tmp 62, .tmp 64]) rfl ?_); at_builtin; refine Kd.N_append_rows (Kd.slice 5 (Kd.int .u8)) (w0 := w) w.heap.size rfl (.tmp 62) (.tmp 64) 22 27 (.slice none 0 0) 24 rfl Try.underlying22 info27 rfl (by decide) (by omega) (.slice vA_ o3.length vAc_) o3 p3 _ _ _ (node_Merge.mok w.heap.size g4 gr (.slice A1_ n1_ c1_) (.bool true) (.slice dA_ o4.length dAc_)) (node_Merge.mok w.heap.size g4 gr (.slice A1_ n1_ c1_) (.slice vA_ o3.length vAc_) (.slice dA_ o4.length dAc_)) rfl rfl S.out.V (Kd.V_F S.out.V2) (fun k hk => ⟨⟨hk.1, hk.2.1, node_Merge.none_own k, hk.2.2.2.1, hk.2.2.2.2.1, hk.2.2.2.2.2⟩, hk.2.2.1⟩) (fun k hk => ⟨(S.out.fresh k hk).1, (S.out.fresh k hk).2.1, node_Merge.none_own k, (S.out.fresh k hk).2.2.2⟩) S.out.HB S.out.HB.size (by have := LB.out; omega) ?_; intro v1 w9 hn hb hg hat; obtain ⟨A2_, c2_, hv_⟩ := Kd.N_slice hn; obtain ⟨n2_, e_⟩ : ∃ n, n = (o3 ++ p3).length := ⟨_, rfl⟩; rw [← e_] at hv_; subst hv_; have E2_ := Aside0.mk e_; clear e_; have n5_ := Aside0.mk (blk_grown B5.out hg (Kd.N_ne S.out.V B5.out (by decide))); obtain ⟨bg, S9⟩ := S.out.growV hn hb hg hat; have hc1 := (blk_cell bg 2).trans rfl; have hf1 := blk_frozen bg 2; have S9_ := Aside0.mk S9; have B5_ : Aside0 ((w9.setCell ⟨g4, 2, none⟩ (.slice A2_ n2_ c2_)).heap[g5]? = some (.cells #[.bool p1, .slice kB_ p2.length kBc_, .slice vB_ p3.length vBc_, .slice dB_ p4.length dBc_] 26 (0, 0))) := ⟨blk_far n5_.out (Ne.symm N45.out) _⟩; clear hn hb hg hat S B5 n5_ bg S9 hc0 hd0))
      have S := Aside0.mk S9_.out
      have B5 := Aside0.mk B5_.out
      clear S9_ B5_ hc1 hf1
      obtain ⟨w12, hw9⟩ : ∃ w_, w_ = w9.setCell ⟨g4, 2, none⟩ (.slice A2_ n2_ c2_) := ⟨_, rfl⟩
      rw [← hw9] at S B5 ⊢
      clear hw9
      have hc0 := (blk_cell S.out.BG 3).trans rfl
      have hd0 := (blk_cell B5.out 3).trans rfl
      go_upto_region 18 with (first | ((with_reducible refine gate_builtin (b := .append) (xs := #[.tmp 68, .tmp 70]) rfl ?_); at_builtin; refine Kd.N_append_rows (Kd.int .i64) (w0 := w) w.heap.size rfl (.tmp 68) (.tmp 70) 24 3 (.int .i64 0) 8 rfl Try.underlying24 info3 rfl (by decide) (by omega) (.slice dA_ o4.length dAc_) o4 p4 _ _ _ (node_Merge.mok w.heap.size g4 gr (.slice A1_ n1_ c1_) (.slice A2_ n2_ c2_) (.bool true)) (node_Merge.mok w.heap.size g4 gr (.slice A1_ n1_ c1_) (.slice A2_ n2_ c2_) (.slice dA_ o4.length dAc_)) rfl rfl S.out.D (Kd.V_F S.out.D2) (fun k hk => ⟨⟨hk.1, hk.2.1, hk.2.2.1, node_Merge.none_own k, hk.2.2.2.2.1, hk.2.2.2.2.2⟩, hk.2.2.2.1⟩) (fun k hk => ⟨(S.out.fresh k hk).1, (S.out.fresh k hk).2.1, (S.out.fresh k hk).2.2.1, node_Merge.none_own k, (S.out.fresh k hk).2.2.2.2⟩) S.out.HB S.out.HB.size (by have := LB.out; omega) ?_; intro v1 w9 hn hb hg hat; obtain ⟨A3_, c3_, hv_⟩ := Kd.N_slice hn; obtain ⟨n3_, e_⟩ : ∃ n, n = (o4 ++ p4).length := ⟨_, rfl⟩; rw [← e_] at hv_; subst hv_; have E3_ := Aside0.mk e_; clear e_; have n5_ := Aside0.mk (blk_grown B5.out hg (Kd.N_ne S.out.D B5.out (by decide))); obtain ⟨bg, S9⟩ := S.out.growD hn hb hg hat; have hc1 := (blk_cell bg 3).trans rfl; have hf1 := blk_frozen bg 3; have S9_ := Aside0.mk S9; have B5_ : Aside0 ((w9.setCell ⟨g4, 3, none⟩ (.slice A3_ n3_ c3_)).heap[g5]? = some (.cells #[.bool p1, .slice kB_ p2.length kBc_, .slice vB_ p3.length vBc_, .slice dB_ p4.length dBc_] 26 (0, 0))) := ⟨blk_far n5_.out (Ne.symm N45.out) _⟩; clear hn hb hg hat S B5 n5_ bg S9 hc0 hd0))
      have S := Aside0.mk S9_.out
      have B5 := Aside0.mk B5_.out
      clear S9_ B5_ hc1 hf1
      obtain ⟨w13, hw9⟩ : ∃ w_, w_ = w9.setCell ⟨g4, 3, none⟩ (.slice A3_ n3_ c3_) := ⟨_, rfl⟩
      rw [← hw9] at S B5 ⊢
      clear hw9
      have hc0 := (blk_cell S.out.BG 0).trans rfl
      have hc1 := (blk_cell S.out.BG 1).trans rfl
      have hc2 := (blk_cell S.out.BG 2).trans rfl
      have hc3 := (blk_cell S.out.BG 3).trans rfl
      go_wp2_with fail
      rw [E1_.out, E2_.out, E3_.out]
      refine (node_Check.calls k o1 _ _ (o2 ++ p2) _ _ (o3 ++ p3) _ _ (o4 ++ p4) t _ (Kd.V_reads' (Kd.N_V (base' := w.heap.size) S.out.K)).2.2 (Nat.le_trans (Nat.le_of_eq E1_.out.symm) (Kd.V_reads' (Kd.N_V (base' := w.heap.size) S.out.K)).2.1) (Kd.V_reads' (Kd.N_V (base' := w.heap.size) S.out.V)).2.2 (Nat.le_trans (Nat.le_of_eq E2_.out.symm) (Kd.V_reads' (Kd.N_V (base' := w.heap.size) S.out.V)).2.1) (Kd.V_reads' (Kd.N_V (base' := w.heap.size) S.out.D)).2.2 (Nat.le_trans (Nat.le_of_eq E3_.out.symm) (Kd.V_reads' (Kd.N_V (base' := w.heap.size) S.out.D)).2.1) HT.out).mono ?_
      rintro e w7 ⟨rfl, hb⟩
      have n_ := Aside0.mk (S.out.below hb)
      clear hc0 hc1 hc2 hc3 hb S B5
      have S := n_
      clear n_
      have H := HH.out
      clear HH
      by_cases hz : t = 0
      ·rw [if_pos hz] at H
       have z1 : (t == 0) = true := beq_iff_eq.mpr hz
       have z2 : (t != 0) = false := bne_eq_false_iff_eq.mpr hz
       clear hz
       simp only [Option.some.injEq, Prod.mk.injEq] at H
       obtain ⟨rfl, rfl, rfl, rfl, rfl⟩ := H
       have hc0 := (blk_cell S.out.BG 0).trans rfl
       have hc1 := (blk_cell S.out.BG 1).trans rfl
       have hc2 := (blk_cell S.out.BG 2).trans rfl
       have hc3 := (blk_cell S.out.BG 3).trans rfl
       have hz0 := (blk_cell S.out.BR 0).trans rfl
       have hz1 := (blk_cell S.out.BR 1).trans rfl
       have hz2 := (blk_cell S.out.BR 2).trans rfl
       have hz3 := (blk_cell S.out.BR 3).trans rfl
       have hf0 := blk_frozen S.out.BR 0
       have hf1 := blk_frozen S.out.BR 1
       have hf2 := blk_frozen S.out.BR 2
       have hf3 := blk_frozen S.out.BR 3
       go_wp2
       refine bodyPost_ret (results_ct rfl _ _ gr 26 #[.bool o1, .slice A1_ n1_ c1_, .slice A2_ n2_ c2_, .slice A3_ n3_ c3_] (0, 0) _ rfl (pageB S.out.BR _ _ _ _) Try.underlying26 rfl (by kernel_rfl)) rfl ?_
       obtain ⟨e1, e2, e3, e4⟩ := S.out.end_ (.bool o1) (.slice A1_ n1_ c1_) (.slice A2_ n2_ c2_) (.slice A3_ n3_ c3_)
       exact ⟨_, _, _, rfl, e1, e2, e3, e4⟩
      ·rw [if_neg hz] at H
       have z1 : (t == 0) = false := beq_eq_false_iff_ne.mpr hz
       have z2 : (t != 0) = true := bne_iff_ne.mpr hz
       clear hz HT
       simp only [Option.some.injEq, Prod.mk.injEq] at H
       obtain ⟨rfl, rfl, rfl, rfl, rfl⟩ := H
       have hz0 := (blk_cell S.out.BR 0).trans rfl
       have hz1 := (blk_cell S.out.BR 1).trans rfl
       have hz2 := (blk_cell S.out.BR 2).trans rfl
       have hz3 := (blk_cell S.out.BR 3).trans rfl
       have hf0 := blk_frozen S.out.BR 0
       have hf1 := blk_frozen S.out.BR 1
       have hf2 := blk_frozen S.out.BR 2
       have hf3 := blk_frozen S.out.BR 3
       go_wp2
       refine bodyPost_ret (results_ct rfl _ _ gr 26 #[.bool false, .slice none 0 0, .slice none 0 0, .slice none 0 0] (0, 0) _ rfl (pageB S.out.BR _ _ _ _) Try.underlying26 rfl (by kernel_rfl)) rfl ⟨_, _, _, rfl, Kd.V_nil _ _ _ _ _, Kd.V_nil _ _ _ _ _, Kd.V_nil _ _ _ _ _, pageW S.out.HB GR.out _ _ _ _⟩
     ·rw [if_neg hz] at H
      have y4 : (!a0_0) = true := by revert hz; cases a0_0 <;> decide
      replace H := Option.bind_eq_some_iff.mp H
      obtain ⟨cb, hcb, H⟩ := H
      have HC := Aside0.mk hcb
      clear hcb
      by_cases hlen : o2.length < 5864062014800
      rotate_left
      ·rw [if_neg hlen] at H; cases H
      rw [if_pos hlen] at H
      have HLN := Aside0.mk hlen
      clear hlen
      have HH := Aside0.mk H
      clear H
      go_upto_region 14 with fail
      clear y4 hp0 BP
      have n_ := Aside0.mk (S.out.below (below_drew (Below.refl _ _)))
      have n5_ := Aside0.mk (blk_below B5.out (below_drew (Below.refl _ _)))
      clear S B5
      have S := n_
      have B5 := n5_
      clear n_ n5_
      refine start_ (n := 8) (S := fun w' => w'.cell? ⟨g4, 1, none⟩ = some (.slice kA_ o2.length kAc_)) (ds := [7]) (zB 0 8) (by kernel_rfl) rfl rfl (((blk_cell S.out.BG 1).trans rfl)) (fun hHeld => ?_)
      refine with_tabW node_Merge.tab14 node_Merge.bits14 (fun HT_ HW_ => ?_)
      refine pure_ (i := 0) (N := some 48) (v := ?_) (a' := ?_) (zB 1 7) rfl rfl (any_of HT_.out (by kernel_rfl)) (fun _ _ _ h => h) (Or.inl ⟨by rfl, ?_⟩) ?_ ?_
      rotate_left
      ·intro w'
       go_simp
       with_reducible rfl
      rotate_left
      ·simp only [Act.put, zt0, zt1, zt2, i64_w, i32_w]
       rfl
      refine pure_ (i := 2) (N := some 50) (v := ?_) (a' := ?_) #[true, false, true, false, false, false, false, false] rfl rfl (any_of HT_.out (by kernel_rfl)) (fun _ _ _ h => h) (Or.inl ⟨by rfl, ?_⟩) ?_ ?_
      rotate_left
      ·intro w'
       go_simp
       with_reducible rfl
      rotate_left
      ·simp only [Act.put, zt0, zt1, zt2, i64_w, i32_w]
       rfl
      refine take_ (i := 1) (N := some 49) (v := ?_) (a' := ?_) (zB 3 5) rfl rfl (take_ofW HT_.out HW_.out (by kernel_rfl)) (fun _ _ _ h => h) (Or.inl ⟨by rfl, ?_⟩) hHeld ?_ ?_
      rotate_left
      ·intro w' s0
       go_simp
       with_reducible rfl
      rotate_left
      ·simp only [Act.put, zt0, zt1, zt2, i64_w, i32_w]
       rfl
      refine one_ (i := 3) (N := some 51) (zB 4 4) rfl rfl (one_of HT_.out (by kernel_rfl)) (by decide) (fun K hK => ?_)
      refine goes_ Try.func27 (by kernel_rfl) rfl #[.slice A1 l1.length c1] (by rfl) rfl rfl zl_ ?_
      refine (bytes_Clone.calls _ _ l1 cb _ (Kd.C_below RK.out S.out.HB) LK.out HC.out).mono ?_
      rintro e w7 ⟨vc, rfl, hRc, hb⟩
      refine ⟨_, rfl, ?_⟩
      obtain ⟨Ac, cc, rfl⟩ := Kd.R_slice hRc
      have HPc := Aside0.mk (Kd.FK_slice_mk (e := 5) (Kd.R_reads' hRc).2.1 (Kd.R_F (Kd.R_mono (Kd.R_bound hRc) (fun k hk => S.out.fresh k hk.2.1))))
      have n_ := Aside0.mk (S.out.below hb)
      have n5_ := Aside0.mk (blk_below B5.out hb)
      clear S B5 hRc hb
      have S := n_
      have B5 := n5_
      clear n_ n5_
      refine hK.out _ _ (((blk_cell S.out.BG 1).trans rfl)) (fun hHeld => ?_)
      clear hK K
      refine norm_ (a' := ?_) ?_ ?_
      rotate_left
      ·show Act.put _ (some 51) _ = _
       simp only [Act.put, zt0, zt1, zt2, i64_w, i32_w]
       rfl
      refine one_ (i := 4) (N := some 52) (zB 5 3) rfl rfl (one_of HT_.out (by kernel_rfl)) (by decide) (fun K hK => ?_)
      refine value_ (w1 := ?_) (v := ?_) (by rfl) rfl ?_ ?_
      rotate_left 2
      ·go_simp
       constructor
       ·rfl
       ·rfl
      refine hK.out _ _ (((blk_cell (blk_alloc S.out.BG _) 1).trans rfl)) (fun hHeld => ?_)
      clear hK K
      refine norm_ (a' := ?_) ?_ ?_
      rotate_left
      ·show Act.put _ (some 52) _ = _
       simp only [Act.put, zt0, zt1, zt2, i64_w, i32_w]
       rfl
      refine one_ (i := 5) (N := some 53) (zB 6 2) rfl rfl (one_of HT_.out (by kernel_rfl)) (by decide) (fun K hK => ?_)
      refine Kd.N_append_step (Kd.slice 5 (Kd.int .u8)) (w0 := w) w.heap.size (by rfl) (.tmp 49) (.tmp 52) 22 27 (.slice none 0 0) 24 rfl Try.underlying22 info27 rfl (by decide) (by omega) (.slice kA_ o2.length kAc_) o2 cb [.slice Ac cb.length cc] (node_Merge.mok w.heap.size g4 gr (.bool true) (.slice vA_ o3.length vAc_) (.slice dA_ o4.length dAc_)) (node_Merge.mok w.heap.size g4 gr (.slice kA_ o2.length kAc_) (.slice vA_ o3.length vAc_) (.slice dA_ o4.length dAc_)) rfl rfl HPc.out (fun k hk => ⟨⟨hk.1, node_Merge.none_own k, hk.2.2.1, hk.2.2.2.1, hk.2.2.2.2.1, hk.2.2.2.2.2⟩, hk.2.1⟩) (fun k hk => ⟨(S.out.fresh k hk).1, node_Merge.none_own k, (S.out.fresh k hk).2.2⟩) S.out.K S.out.HB S.out.HB.size (by have := HLN.out; omega) ?_
      intro v1 w8 hn hb hg hat
      obtain ⟨A9_, c9_, hv_⟩ := Kd.N_slice hn
      obtain ⟨n9_, e9_⟩ : ∃ n, n = (o2 ++ [cb]).length := ⟨_, rfl⟩
      rw [← e9_] at hv_
      subst hv_
      clear e9_
      have n5_ := Aside0.mk (blk_grown B5.out hg (Kd.N_ne S.out.K B5.out (by decide)))
      obtain ⟨bg, S9⟩ := S.out.growK hn hb hg hat
      clear hn hb hg hat S B5
      have BG := Aside0.mk bg
      have S := Aside0.mk S9
      have B5 : Aside0 ((w8.setCell ⟨g4, 1, none⟩ (.slice A9_ n9_ c9_)).heap[g5]? = some (.cells #[.bool p1, .slice kB_ p2.length kBc_, .slice vB_ p3.length vBc_, .slice dB_ p4.length dBc_] 26 (0, 0))) := ⟨blk_far n5_.out (Ne.symm N45.out) _⟩
      clear n5_ bg S9
      refine hK.out _ _ (((blk_cell BG.out 1).trans rfl)) (fun hHeld => ?_)
      clear hK K
      refine norm_ (a' := ?_) ?_ ?_
      rotate_left
      ·show Act.put _ (some 53) _ = _
       simp only [Act.put, zt0, zt1, zt2, i64_w, i32_w]
       rfl
      refine pure_ (i := 6) (N := some 54) (v := ?_) (a' := ?_) (zB 7 1) rfl rfl (any_of HT_.out (by kernel_rfl)) (fun _ _ _ h => h) (Or.inl ⟨by rfl, ?_⟩) ?_ ?_
      rotate_left
      ·intro w'
       go_simp
       with_reducible rfl
      rotate_left
      ·simp only [Act.put, zt0, zt1, zt2, i64_w, i32_w]
       rfl
      refine last_ (i := 7) (N := none) (zB 8 0) rfl rfl (one_of HT_.out (by kernel_rfl)) (by decide) (fun K hK => ?_)
      have hh1 := (blk_cell BG.out 1).trans rfl
      have hf1 := blk_frozen BG.out 1
      refine skip_ (w1 := ?_) (by rfl) rfl ?_ ?_
      rotate_left
      ·go_simp
       rfl
      clear hh1 hf1
      refine hK.out _ _ ?_
      clear hK K
      refine done_ (done_of HT_.out (by kernel_rfl)) ?_
      obtain ⟨w9, hw9⟩ : ∃ w9, w9 = w8.setCell ⟨g4, 1, none⟩ (.slice A9_ n9_ c9_) := ⟨_, rfl⟩
      rw [← hw9] at S B5 ⊢
      clear hw9 hHeld
      have H := HH.out
      clear HH
      go_upto_region 15 with fail
      unfold node_Merge.g at H
      split at H
      rotate_left
      ·cases H
      rename_i hB
      have LB := Aside0.mk hB
      clear hB
      replace H := Option.bind_eq_some_iff.mp H
      obtain ⟨t, ht, H⟩ := H
      have HT := Aside0.mk ht
      have HH := Aside0.mk H
      clear ht H
      have hc0 := (blk_cell S.out.BG 1).trans rfl
      have hd0 := (blk_cell B5.out 1).trans rfl
      go_upto_region 16 with (first | ((with_reducible refine gate_builtin (b := .append) (xs := #[.tmp 56, .tmp 58]) rfl ?_); at_builtin; refine Kd.N_append_rows (Kd.slice 5 (Kd.int .u8)) (w0 := w) w.heap.size rfl (.tmp 56) (.tmp 58) 22 27 (.slice none 0 0) 24 rfl Try.underlying22 info27 rfl (by decide) (by omega) (.slice A9_ n9_ c9_) (o2 ++ [cb]) p2 _ _ _ (node_Merge.mok w.heap.size g4 gr (.bool true) (.slice vA_ o3.length vAc_) (.slice dA_ o4.length dAc_)) (node_Merge.mok w.heap.size g4 gr (.slice A9_ n9_ c9_) (.slice vA_ o3.length vAc_) (.slice dA_ o4.length dAc_)) rfl rfl S.out.K (Kd.V_F S.out.K2) (fun k hk => ⟨⟨hk.1, node_Merge.none_own k, hk.2.2.1, hk.2.2.2.1, hk.2.2.2.2.1, hk.2.2.2.2.2⟩, hk.2.1⟩) (fun k hk => ⟨(S.out.fresh k hk).1, node_Merge.none_own k, (S.out.fresh k hk).2.2⟩) S.out.HB S.out.HB.size (by have := LB.out; omega) ?_; intro v1 w9 hn hb hg hat; obtain ⟨A1_, c1_, hv_⟩ := Kd.N_slice hn; obtain ⟨n1_, e_⟩ : ∃ n, n = ((o2 ++ [cb]) ++ p2).length := ⟨_, rfl⟩; rw [← e_] at hv_; subst hv_; have E1_ := Aside0.mk e_; clear e_; have n5_ := Aside0.mk (blk_grown B5.out hg (Kd.N_ne S.out.K B5.out (by decide))); obtain ⟨bg, S9⟩ := S.out.growK hn hb hg hat; have hc1 := (blk_cell bg 1).trans rfl; have hf1 := blk_frozen bg 1; have S9_ := Aside0.mk S9; have B5_ : Aside0 ((w9.setCell ⟨g4, 1, none⟩ (.slice A1_ n1_ c1_)).heap[g5]? = some (.cells #[.bool p1, .slice kB_ p2.length kBc_, .slice vB_ p3.length vBc_, .slice dB_ p4.length dBc_] 26 (0, 0))) := ⟨blk_far n5_.out (Ne.symm N45.out) _⟩; clear hn hb hg hat S B5 n5_ bg S9 hc0 hd0))
      have S := Aside0.mk S9_.out
      have B5 := Aside0.mk B5_.out
      clear S9_ B5_ hc1 hf1
      obtain ⟨w11, hw9⟩ : ∃ w_, w_ = w9.setCell ⟨g4, 1, none⟩ (.slice A1_ n1_ c1_) := ⟨_, rfl⟩
      rw [← hw9] at S B5 ⊢
      clear hw9
      have hc0 := (blk_cell S.out.BG 2).trans rfl
      have hd0 := (blk_cell B5.out 2).trans rfl
      go_upto_region 17 with (first | ((with_reducible refine gate_builtin (b := .append) (xs := #[.tmp 62, .tmp 64]) rfl ?_); at_builtin; refine Kd.N_append_rows (Kd.slice 5 (Kd.int .u8)) (w0 := w) w.heap.size rfl (.tmp 62) (.tmp 64) 22 27 (.slice none 0 0) 24 rfl Try.underlying22 info27 rfl (by decide) (by omega) (.slice vA_ o3.length vAc_) o3 p3 _ _ _ (node_Merge.mok w.heap.size g4 gr (.slice A1_ n1_ c1_) (.bool true) (.slice dA_ o4.length dAc_)) (node_Merge.mok w.heap.size g4 gr (.slice A1_ n1_ c1_) (.slice vA_ o3.length vAc_) (.slice dA_ o4.length dAc_)) rfl rfl S.out.V (Kd.V_F S.out.V2) (fun k hk => ⟨⟨hk.1, hk.2.1, node_Merge.none_own k, hk.2.2.2.1, hk.2.2.2.2.1, hk.2.2.2.2.2⟩, hk.2.2.1⟩) (fun k hk => ⟨(S.out.fresh k hk).1, (S.out.fresh k hk).2.1, node_Merge.none_own k, (S.out.fresh k hk).2.2.2⟩) S.out.HB S.out.HB.size (by have := LB.out; omega) ?_; intro v1 w9 hn hb hg hat; obtain ⟨A2_, c2_, hv_⟩ := Kd.N_slice hn; obtain ⟨n2_, e_⟩ : ∃ n, n = (o3 ++ p3).length := ⟨_, rfl⟩; rw [← e_] at hv_; subst hv_; have E2_ := Aside0.mk e_; clear e_; have n5_ := Aside0.mk (blk_grown B5.out hg (Kd.N_ne S.out.V B5.out (by decide))); obtain ⟨bg, S9⟩ := S.out.growV hn hb hg hat; have hc1 := (blk_cell bg 2).trans rfl; have hf1 := blk_frozen bg 2; have S9_ := Aside0.mk S9; have B5_ : Aside0 ((w9.setCell ⟨g4, 2, none⟩ (.slice A2_ n2_ c2_)).heap[g5]? = some (.cells #[.bool p1, .slice kB_ p2.length kBc_, .slice vB_ p3.length vBc_, .slice dB_ p4.length dBc_] 26 (0, 0))) := ⟨blk_far n5_.out (Ne.symm N45.out) _⟩; clear hn hb hg hat S B5 n5_ bg S9 hc0 hd0))
      have S := Aside0.mk S9_.out
      have B5 := Aside0.mk B5_.out
      clear S9_ B5_ hc1 hf1
      obtain ⟨w12, hw9⟩ : ∃ w_, w_ = w9.setCell ⟨g4, 2, none⟩ (.slice A2_ n2_ c2_) := ⟨_, rfl⟩
      rw [← hw9] at S B5 ⊢
      clear hw9
      have hc0 := (blk_cell S.out.BG 3).trans rfl
      have hd0 := (blk_cell B5.out 3).trans rfl
      go_upto_region 18 with (first | ((with_reducible refine gate_builtin (b := .append) (xs := #[.tmp 68, .tmp 70]) rfl ?_); at_builtin; refine Kd.N_append_rows (Kd.int .i64) (w0 := w) w.heap.size rfl (.tmp 68) (.tmp 70) 24 3 (.int .i64 0) 8 rfl Try.underlying24 info3 rfl (by decide) (by omega) (.slice dA_ o4.length dAc_) o4 p4 _ _ _ (node_Merge.mok w.heap.size g4 gr (.slice A1_ n1_ c1_) (.slice A2_ n2_ c2_) (.bool true)) (node_Merge.mok w.heap.size g4 gr (.slice A1_ n1_ c1_) (.slice A2_ n2_ c2_) (.slice dA_ o4.length dAc_)) rfl rfl S.out.D (Kd.V_F S.out.D2) (fun k hk => ⟨⟨hk.1, hk.2.1, hk.2.2.1, node_Merge.none_own k, hk.2.2.2.2.1, hk.2.2.2.2.2⟩, hk.2.2.2.1⟩) (fun k hk => ⟨(S.out.fresh k hk).1, (S.out.fresh k hk).2.1, (S.out.fresh k hk).2.2.1, node_Merge.none_own k, (S.out.fresh k hk).2.2.2.2⟩) S.out.HB S.out.HB.size (by have := LB.out; omega) ?_; intro v1 w9 hn hb hg hat; obtain ⟨A3_, c3_, hv_⟩ := Kd.N_slice hn; obtain ⟨n3_, e_⟩ : ∃ n, n = (o4 ++ p4).length := ⟨_, rfl⟩; rw [← e_] at hv_; subst hv_; have E3_ := Aside0.mk e_; clear e_; have n5_ := Aside0.mk (blk_grown B5.out hg (Kd.N_ne S.out.D B5.out (by decide))); obtain ⟨bg, S9⟩ := S.out.growD hn hb hg hat; have hc1 := (blk_cell bg 3).trans rfl; have hf1 := blk_frozen bg 3; have S9_ := Aside0.mk S9; have B5_ : Aside0 ((w9.setCell ⟨g4, 3, none⟩ (.slice A3_ n3_ c3_)).heap[g5]? = some (.cells #[.bool p1, .slice kB_ p2.length kBc_, .slice vB_ p3.length vBc_, .slice dB_ p4.length dBc_] 26 (0, 0))) := ⟨blk_far n5_.out (Ne.symm N45.out) _⟩; clear hn hb hg hat S B5 n5_ bg S9 hc0 hd0))
      have S := Aside0.mk S9_.out
      have B5 := Aside0.mk B5_.out
      clear S9_ B5_ hc1 hf1
      obtain ⟨w13, hw9⟩ : ∃ w_, w_ = w9.setCell ⟨g4, 3, none⟩ (.slice A3_ n3_ c3_) := ⟨_, rfl⟩
      rw [← hw9] at S B5 ⊢
      clear hw9
      have hc0 := (blk_cell S.out.BG 0).trans rfl
      have hc1 := (blk_cell S.out.BG 1).trans rfl
      have hc2 := (blk_cell S.out.BG 2).trans rfl
      have hc3 := (blk_cell S.out.BG 3).trans rfl
      go_wp2_with fail
      rw [E1_.out, E2_.out, E3_.out]
      refine (node_Check.calls k o1 _ _ ((o2 ++ [cb]) ++ p2) _ _ (o3 ++ p3) _ _ (o4 ++ p4) t _ (Kd.V_reads' (Kd.N_V (base' := w.heap.size) S.out.K)).2.2 (Nat.le_trans (Nat.le_of_eq E1_.out.symm) (Kd.V_reads' (Kd.N_V (base' := w.heap.size) S.out.K)).2.1) (Kd.V_reads' (Kd.N_V (base' := w.heap.size) S.out.V)).2.2 (Nat.le_trans (Nat.le_of_eq E2_.out.symm) (Kd.V_reads' (Kd.N_V (base' := w.heap.size) S.out.V)).2.1) (Kd.V_reads' (Kd.N_V (base' := w.heap.size) S.out.D)).2.2 (Nat.le_trans (Nat.le_of_eq E3_.out.symm) (Kd.V_reads' (Kd.N_V (base' := w.heap.size) S.out.D)).2.1) HT.out).mono ?_
      rintro e w7 ⟨rfl, hb⟩
      have n_ := Aside0.mk (S.out.below hb)
      clear hc0 hc1 hc2 hc3 hb S B5
      have S := n_
      clear n_
      have H := HH.out
      clear HH
      by_cases hz : t = 0
      ·rw [if_pos hz] at H
       have z1 : (t == 0) = true := beq_iff_eq.mpr hz
       have z2 : (t != 0) = false := bne_eq_false_iff_eq.mpr hz
       clear hz
       simp only [Option.some.injEq, Prod.mk.injEq] at H
       obtain ⟨rfl, rfl, rfl, rfl, rfl⟩ := H
       have hc0 := (blk_cell S.out.BG 0).trans rfl
       have hc1 := (blk_cell S.out.BG 1).trans rfl
       have hc2 := (blk_cell S.out.BG 2).trans rfl
       have hc3 := (blk_cell S.out.BG 3).trans rfl
       have hz0 := (blk_cell S.out.BR 0).trans rfl
       have hz1 := (blk_cell S.out.BR 1).trans rfl
       have hz2 := (blk_cell S.out.BR 2).trans rfl
       have hz3 := (blk_cell S.out.BR 3).trans rfl
       have hf0 := blk_frozen S.out.BR 0
       have hf1 := blk_frozen S.out.BR 1
       have hf2 := blk_frozen S.out.BR 2
       have hf3 := blk_frozen S.out.BR 3
       go_wp2
       refine bodyPost_ret (results_ct rfl _ _ gr 26 #[.bool o1, .slice A1_ n1_ c1_, .slice A2_ n2_ c2_, .slice A3_ n3_ c3_] (0, 0) _ rfl (pageB S.out.BR _ _ _ _) Try.underlying26 rfl (by kernel_rfl)) rfl ?_
       obtain ⟨e1, e2, e3, e4⟩ := S.out.end_ (.bool o1) (.slice A1_ n1_ c1_) (.slice A2_ n2_ c2_) (.slice A3_ n3_ c3_)
       exact ⟨_, _, _, rfl, e1, e2, e3, e4⟩
      ·rw [if_neg hz] at H
       have z1 : (t == 0) = false := beq_eq_false_iff_ne.mpr hz
       have z2 : (t != 0) = true := bne_iff_ne.mpr hz
       clear hz HT
       simp only [Option.some.injEq, Prod.mk.injEq] at H
       obtain ⟨rfl, rfl, rfl, rfl, rfl⟩ := H
       have hz0 := (blk_cell S.out.BR 0).trans rfl
       have hz1 := (blk_cell S.out.BR 1).trans rfl
       have hz2 := (blk_cell S.out.BR 2).trans rfl
       have hz3 := (blk_cell S.out.BR 3).trans rfl
       have hf0 := blk_frozen S.out.BR 0
       have hf1 := blk_frozen S.out.BR 1
       have hf2 := blk_frozen S.out.BR 2
       have hf3 := blk_frozen S.out.BR 3
       go_wp2
       refine bodyPost_ret (results_ct rfl _ _ gr 26 #[.bool false, .slice none 0 0, .slice none 0 0, .slice none 0 0] (0, 0) _ rfl (pageB S.out.BR _ _ _ _) Try.underlying26 rfl (by kernel_rfl)) rfl ⟨_, _, _, rfl, Kd.V_nil _ _ _ _ _, Kd.V_nil _ _ _ _ _, Kd.V_nil _ _ _ _ _, pageW S.out.HB GR.out _ _ _ _⟩
end Go.Proofs.Ytcbgichkeecgiaa.Print
