-- What the claim uses alone (wip/slim.py). Lean checks it.
import Derived.Test.YtdiopojnkjkgmaaDoorZAb
import Derived.Test.YtdiopojnkjkgmaaDoorZAln
import Derived.Test.YtdiopojnkjkgmaaDoorZAlq
namespace Go.Proofs.YtdiopojnkjkgmaaDoor.Print
open Go.RowKit Go.Proofs.YtdiopojnkjkgmaaDoorW.PrintWords Go.Proofs.YtdiopojnkjkgmaaDoorW.PrintLast Go.Proofs.YtdiopojnkjkgmaaDoorW.PrintMore
attribute [local go_sem] max2_mx min2_mn max_two min_two max_three min_three max_four min_four
set_option linter.unusedVariables false
set_option linter.unusedSimpArgs false
theorem eqA47 (d : Nat) (w : World) (x0 y0 : Int) (x1 y1 : Int) (x2 y2 : Int) (x3 y3 : Int) :
  (Op.equalIn (d + 2) 47 (.agg #[.int .i64 x0, .int .i64 x1, .int .i64 x2, .int .i64 x3]) (.agg #[.int .i64 y0, .int .i64 y1, .int .i64 y2, .int .i64 y3])).run Tryd.prog w = .ok (x0 == y0 && (x1 == y1 && (x2 == y2 && (x3 == y3)))) w := by
 refine eqA_of Tryd.underlying47 (by kernel_rfl) ?_
 refine eqf_cons (by rfl) (by go_simp; rfl) (by go_simp; rfl) (by go_simp) ?_
 refine eqf_cons (by rfl) (by go_simp; rfl) (by go_simp; rfl) (by go_simp) ?_
 refine eqf_cons (by rfl) (by go_simp; rfl) (by go_simp; rfl) (by go_simp) ?_
 exact eqf_last (by rfl) (by go_simp; rfl) (by go_simp; rfl) (by go_simp)
section
variable {α : Type} {d : Kd α} {e base g t : Nat} {ok : Nat → Prop} {W w : World} {v : Value} {xs : List α} {a b : Value}
theorem set2R (h : d.R e W base ok v xs) (hb : W.heap[g]? = some (.cells #[a, b] t (0, 0))) (ht : ∀ q, q ∈ e :: d.E → q ≠ t) (x0 x1 : Value) : d.R e ((W.setCell ⟨g, 0, none⟩ x0).setCell ⟨g, 1, none⟩ x1) base ok v xs := Kd.R_set (Kd.R_set h hb ht 0 x0) (blk_set hb 0 x0) ht 1 x1
theorem set4R (h : d.R e W base ok v xs) {c c' : Value} (hb : W.heap[g]? = some (.cells #[a, b, c, c'] t (0, 0))) (ht : ∀ q, q ∈ e :: d.E → q ≠ t) (x0 x1 x2 x3 : Value) : d.R e ((((W.setCell ⟨g, 0, none⟩ x0).setCell ⟨g, 1, none⟩ x1).setCell ⟨g, 2, none⟩ x2).setCell ⟨g, 3, none⟩ x3) base ok v xs :=
 Kd.R_set (Kd.R_set (Kd.R_set (Kd.R_set h hb ht 0 x0) (blk_set hb 0 x0) ht 1 x1) (blk_set (blk_set hb 0 x0) 1 x1) ht 2 x2) (blk_set (blk_set (blk_set hb 0 x0) 1 x1) 2 x2) ht 3 x3
theorem set4P (h : d.R e W base ok v xs) (hE : d.E = []) (hg : ∀ k, v.ownBlock = some k → k ≠ g) (x0 x1 x2 x3 : Value) : d.R e ((((W.setCell ⟨g, 0, none⟩ x0).setCell ⟨g, 1, none⟩ x1).setCell ⟨g, 2, none⟩ x2).setCell ⟨g, 3, none⟩ x3) base ok v xs :=
 Kd.R_mono (Kd.R_far (p := ⟨g, 3, none⟩) (Kd.R_far (p := ⟨g, 2, none⟩) (Kd.R_far (p := ⟨g, 1, none⟩) (Kd.R_far (p := ⟨g, 0, none⟩) (Kd.R_tight hE h) (fun k hk => hg k hk.symm) x0) (fun k hk => hg k hk.symm) x1) (fun k hk => hg k hk.symm) x2) (fun k hk => hg k hk.symm) x3) (fun k hk => h.1 k hk.symm)
theorem set2B (hb : W.heap[g]? = some (.cells #[a, b] t (0, 0))) (x0 x1 : Value) : ((W.setCell ⟨g, 0, none⟩ x0).setCell ⟨g, 1, none⟩ x1).heap[g]? = some (.cells #[x0, x1] t (0, 0)) := blk_put (cs := #[x0, b]) (blk_put hb 0 _ rfl) 1 _ rfl
theorem set2F {g' t' : Nat} {cs : Array Value} (h : W.heap[g']? = some (.cells cs t' (0, 0))) (hne : g' ≠ g) (x0 x1 : Value) : ((W.setCell ⟨g, 0, none⟩ x0).setCell ⟨g, 1, none⟩ x1).heap[g']? = some (.cells cs t' (0, 0)) := blk_far (blk_far h hne _) hne _
theorem set2W {B : Nat} (h : Below B w W) (hg : B ≤ g) (x0 x1 : Value) : Below B w ((W.setCell ⟨g, 0, none⟩ x0).setCell ⟨g, 1, none⟩ x1) := (h.setCell (p := ⟨g, 0, none⟩) hg x0).setCell (p := ⟨g, 1, none⟩) hg x1
end
theorem rows_ne {α β : Type} {d : Kd α} {d' : Kd β} {e e' base base' : Nat} {ok ok' : Nat → Prop} {W : World} {v v' : Value} {xs : List α} {ys : List β} (h : d.R e W base ok v xs) (h' : d'.R e' W base' ok' v' ys) (hne : e ≠ e') : ∀ k, v.ownBlock = some k → some k ≠ v'.ownBlock := by
 intro k hk he
 obtain ⟨c1, h1⟩ := Kd.R_typed h k hk
 obtain ⟨c2, h2⟩ := Kd.R_typed h' k he.symm
 rw [h1] at h2
 injection h2 with h2
 injection h2 with _ h2
 exact hne h2
attribute [local go_sem high] eqA47
theorem ledger_Check.law : Go.Maps.Keyed Tryd.prog 3 := Go.Maps.int_keyed Tryd.underlying3
theorem ledger_Check.zeroE (w : World) : (zeroValue 47).run Tryd.prog w = .ok (.agg (pcells z47)) w := by kernel_rfl
def payElem (v : Value) : Option (DataW S47 × List MemPlace) := match v with
 | .agg cs => match cs.toList with
  | [.int .i64 a, .int .i64 b, .int .i64 c, .int .i64 d] => some (.held ⟨a, b, c, d⟩, [])
  | _ => none
 | _ => none
theorem payElem_mk (p : S47) : payElem (.agg (pcells p)) = some (.held p, []) := rfl
theorem payElem_inv {v : Value} {y : DataW S47 × List MemPlace} (h : payElem v = some y) : ∃ p : S47, v = .agg (pcells p) := by
 unfold payElem at h
 split at h
 ·rename_i cs
  split at h
  ·rename_i a b c d he
   refine ⟨⟨a, b, c, d⟩, ?_⟩
   have : cs = #[.int .i64 a, .int .i64 b, .int .i64 c, .int .i64 d] := by
    apply Array.ext'
    rw [he]
   rw [this]
   rfl
  ·cases h
 ·cases h
theorem payElem_is {p : S47} {d : DataW S47} {ps : List MemPlace} (h : payElem (.agg (pcells p)) = some (d, ps)) : d = .held p := by
 rw [payElem_mk] at h
 injection h with h
 injection h with h _
 exact h.symm
def inI (k : Int) : Prop := (Lit.int .i64 k).wf = true
theorem inI_small {k : Int} (h0 : 1 ≤ k) (h1 : k ≤ 1024) : inI k := by
 unfold inI
 simp [Lit.wf, IntKind.min, IntKind.max, IntKind.bits, IntKind.signed]
 omega
def HoldsG (D : DataW S47) (G : Int → Option S47) : Prop := ∀ k, inI k → Go.Maps.has D (.int .i64 k) = (G k).isSome ∧ ∀ z, D.atKey (.int .i64 k) z = match G k with
 | some p => .held p
 | none => z
def MapG (w : World) (b n : Nat) (G : Int → Option S47) : Prop := ∃ D : DataW S47, w.ownsMap Tryd.prog 3 payElem b n D ∧ HoldsG D G
theorem MapG.made (w : World) : MapG (w.alloc (.map #[] 0)) w.heap.size 0 (fun _ => none) := ⟨_, World.ownsMap_made _ _ _ _, fun k _ => ⟨rfl, fun z => rfl⟩⟩
theorem MapG.kept {w w' : World} {b n : Nat} {G : Int → Option S47} {row : Option Nat} (h : MapG w b n G) (hg : w.grownBy w' row) (hne : some b ≠ row) : MapG w' b n G := by
 obtain ⟨D, ho, hG⟩ := h
 exact ⟨D, ho.kept hg hne, hG⟩
theorem MapG.below {w w' : World} {b n : Nat} {G : Int → Option S47} (h : MapG w b n G) (hb : Below w.heap.size w w') : MapG w' b n G := h.kept (grown_of_below hb none) (by simp)
theorem MapG.drewN {w : World} {b n : Nat} {G : Int → Option S47} (h : MapG w b n G) (m : Nat) : MapG (w.drewN m) b n G := h
theorem MapG.set {w : World} {b n g : Nat} {G : Int → Option S47} (h : MapG w b n G) (hne : b ≠ g) (i : Nat) (v : Value) : MapG (w.setCell ⟨g, i, none⟩ v) b n G := by
 obtain ⟨D, ho, hG⟩ := h
 exact ⟨D, ho.setCell hne v, hG⟩
theorem MapG.lt {w : World} {b n : Nat} {G : Int → Option S47} (h : MapG w b n G) : b < w.heap.size := by
 obtain ⟨D, ho, _⟩ := h
 exact ho.lt
def putG (G : Int → Option S47) (k : Int) (p : S47) (n : Int) : Option S47 := if n = k then some p else G n
def delG (G : Int → Option S47) (k : Int) (n : Int) : Option S47 := if n = k then none else G n
theorem HoldsG.put {D : DataW S47} {G : Int → Option S47} (h : HoldsG D G) (hm : Go.Maps.IsMap D) {k : Int} (hk : inI k) (p : S47) : HoldsG (D.put (.int .i64 k) (.held p)) (putG G k p) := by
 intro n hn
 by_cases e : n = k
 ·subst e
  rw [show putG G n p n = some p from if_pos rfl]
  exact ⟨Go.Maps.has_put_same hm (show WideAt.IsKeyLit (.int .i64 n) from trivial) _, fun z => Go.Maps.atKey_put_same hm (show WideAt.IsKeyLit (.int .i64 n) from trivial) _ _⟩
 ·rw [show putG G k p n = G n from if_neg e]
  have hne : Lit.int .i64 n ≠ Lit.int .i64 k := fun h => e (by injection h)
  exact ⟨(Go.Maps.has_put_other hne _).trans (h n hn).1, fun z => (Go.Maps.atKey_put_other hne _ _).trans ((h n hn).2 z)⟩
theorem HoldsG.del {D : DataW S47} {G : Int → Option S47} (h : HoldsG D G) (k : Int) : HoldsG (D.del (.int .i64 k)) (delG G k) := by
 intro n hn
 by_cases e : n = k
 ·subst e
  rw [show delG G n n = none from if_pos rfl]
  exact ⟨Go.Maps.has_del_same, fun z => Go.Maps.atKey_del_same _⟩
 ·rw [show delG G k n = G n from if_neg e]
  have hne : Lit.int .i64 n ≠ Lit.int .i64 k := fun h => e (by injection h)
  exact ⟨(Go.Maps.has_del_other hne).trans (h n hn).1, fun z => (Go.Maps.atKey_del_other hne _).trans ((h n hn).2 z)⟩
set_option maxRecDepth 100000 in
theorem MapG.look {w : World} {b n : Nat} {G : Int → Option S47} (h : MapG w b n G) {k : Int} (hk : inI k) : (Instr.lookup 97 (.map (some b)) (.int .i64 k) false).run Tryd.prog w = .ok (.agg (pcells ((G k).getD z47))) w := by
 obtain ⟨D, ho, hG⟩ := h
 obtain ⟨v, ps, hrun, hv⟩ := ho.lookup ledger_Check.law Tryd.underlying97 (ledger_Check.zeroE w) (payElem_mk z47) (Go.Maps.keyOf_int_mk Tryd.underlying3 hk)
 obtain ⟨p, rfl⟩ := payElem_inv hv
 have e := payElem_is hv
 rw [(hG k hk).2] at e
 cases hgk : G k with
 | none =>
  rw [hgk] at e
  injection e with e
  rw [hrun, ← e]
  rfl
 | some q =>
  rw [hgk] at e
  injection e with e
  rw [hrun, ← e]
  rfl
section
variable (w : World) {ops : Array Oper} {rest : List Oper} {o : Oper} {a : Act} {Q : Exit → Act → World → Prop}
theorem wpList_lookG (hg : o.guard = none) (m x : Operand) (hop : o.op = Op.lookup 97 m x false) (b n : Nat) (G : Int → Option S47) (hm : a.eval m = .map (some b)) (h : MapG w b n G) (k : Int) (hx : a.eval x = .int .i64 k) (hk : inI k)
  (hK : wpList Tryd.prog ops Q rest (a.put o.dst (.agg (pcells ((G k).getD z47)))) w) : wpList Tryd.prog ops Q (o :: rest) a w := by
 refine wpList_plain hg fun K' hK' => ?_
 have hrun := h.look hk
 unfold Oper.wp
 simp [execOp, hop, hm, hx, hrun, Result.andThen]
 exact hK' _ _ hK
theorem wpList_putG (hg : o.guard = none) (m x v : Operand) (hop : o.op = Op.mapUpdate 97 m x v) (b n : Nat) (G : Int → Option S47) (hm : a.eval m = .map (some b)) (h : MapG w b n G) (hn : n < maxLen) (k : Int) (p : S47) (hx : a.eval x = .int .i64 k) (hv : a.eval v = .agg (pcells p)) (hk : inI k)
  (hK : ∀ w', MapG w' b (n + 1) (putG G k p) → w.grownBy w' (some b) → wpList Tryd.prog ops Q rest (a.put o.dst undef) w') : wpList Tryd.prog ops Q (o :: rest) a w := by
 obtain ⟨D, ho, hG⟩ := h
 exact wpList_mapUpdate_own w hg m x v 97 hop 3 47 ledger_Check.law Tryd.underlying97 payElem b n D hm ho hn _ _ _ hx hv (Go.Maps.keyOf_int_mk Tryd.underlying3 hk) _ [] (payElem_mk p) (fun w' h1 h2 => hK w' ⟨_, h1, hG.put ho.isMap hk p⟩ h2)
theorem wpList_delG (hg : o.guard = none) (m x : Operand) (hop : o.op = Op.call { callee := Callee.builtin Builtin.delete, args := #[m, x], argTypes := #[97, 3] }) (b n : Nat) (G : Int → Option S47) (hm : a.eval m = .map (some b)) (h : MapG w b n G) (k : Int) (hx : a.eval x = .int .i64 k) (hk : inI k)
  (hK : ∀ w', MapG w' b n (delG G k) → w.grownBy w' (some b) → wpList Tryd.prog ops Q rest (a.put o.dst (.tuple #[])) w') : wpList Tryd.prog ops Q (o :: rest) a w := by
 obtain ⟨D, ho, hG⟩ := h
 exact wpList_delete_own w hg m x 97 3 hop 47 ledger_Check.law Tryd.underlying97 payElem b n D hm ho _ _ hx (Go.Maps.keyOf_int_mk Tryd.underlying3 hk) (fun w' h1 h2 => hK w' ⟨_, h1, hG.del k⟩ h2.grown)
def RangeG (w : World) (b r n : Nat) (G : Int → Option S47) (cnt : Nat) : Prop := ∃ (D : DataW S47) (left : Lit → Bool), w.ranges Tryd.prog 3 payElem b r n D left cnt ∧ HoldsG D G ∧ ∀ k p, inI k → G k = some p → left (.int .i64 k) = false → p = zeroP k
theorem wpList_rangeG (hg : o.guard = none) (m : Operand) (hop : o.op = Op.range 97 m) (b n : Nat) (G : Int → Option S47) (hm : a.eval m = .map (some b)) (h : MapG w b n G)
  (hK : ∀ w' cnt, RangeG w' b w.heap.size n G cnt → w.grownBy w' none → w'.heap.size = w.heap.size + 1 → wpList Tryd.prog ops Q rest (a.put o.dst (.pointer (some ⟨w.heap.size, 0, none⟩))) w') : wpList Tryd.prog ops Q (o :: rest) a w := by
 obtain ⟨D, ho, hG⟩ := h
 refine wpList_range_own w hg m 97 hop 3 47 ledger_Check.law Tryd.underlying97 payElem b n D hm ho (fun w' h1 h2 h3 => hK w' _ ⟨D, _, h1, hG, fun k p hk hp hl => ?_⟩ h2 h3)
 rw [(hG k hk).1, hp] at hl
 cases hl
set_option maxRecDepth 100000 in
theorem wpList_nextG (hg : o.guard = none) (it : Operand) (hop : o.op = Op.next it false) (b r n : Nat) (G : Int → Option S47) (cnt : Nat) (hit : a.eval it = .pointer (some ⟨r, 0, none⟩)) (h : RangeG w b r n G cnt)
  (hDone : (∀ k p, inI k → G k = some p → p = zeroP k) → wpList Tryd.prog ops Q rest (a.put o.dst (.tuple #[.bool false])) w)
  (hMore : ∀ (x : Int) (p : S47) (w' : World) (cnt' : Nat), inI x → G x = some p → (p = zeroP x → RangeG w' b r n G cnt') → cnt' < cnt → w.grownBy w' (some r) → w'.heap.size = w.heap.size →
   (Instr.entry (.pointer (some ⟨r, 0, none⟩))).run Tryd.prog w' = .ok (.tuple #[.int .i64 x, .agg (pcells p)]) w' → wpList Tryd.prog ops Q rest (a.put o.dst (.tuple #[.bool true, .int .i64 x, .agg (pcells p)])) w') : wpList Tryd.prog ops Q (o :: rest) a w := by
 obtain ⟨D, left, hr, hG, hz⟩ := h
 refine wpList_next_ranges w hg it hop 3 ledger_Check.law payElem (Value.int .i64) (fun p => .agg (pcells p)) (fun key kl hkey => by obtain ⟨x, rfl, _⟩ := Maps.keyOf_int_inv Tryd.underlying3 hkey; exact ⟨x, rfl⟩) (fun v y hv => payElem_inv hv) b r n D left cnt hit hr (fun _ hl => hDone (fun k p hk hp => hz k p hk hp (hl _))) (fun x p kl y w' cnt' hkey hlk hv hat hrg hlt hgr hsz hen => ?_)
 obtain ⟨x', ex, rfl, hwx⟩ := Maps.keyOf_int_inv Tryd.underlying3 hkey
 cases ex
 have hy := payElem_is (show payElem (.agg (pcells p)) = some (y.1, y.2) from hv)
 have hGx : G x = some p := by
  have h2 := hat (.nil : DataW S47)
  rw [(hG x hwx).2, hy] at h2
  cases hgk : G x with
  | none => rw [hgk] at h2; cases h2
  | some q => rw [hgk] at h2; injection h2 with h2; rw [h2]
 refine hMore x p w' cnt' hwx hGx (fun hp => ⟨D, _, hrg, hG, fun k q hk hq hl => ?_⟩) hlt hgr hsz hen
 by_cases e : k = x
 ·subst e
  rw [hGx] at hq
  injection hq with hq
  rw [← hq]
  exact hp
 ·have hne : (Lit.int .i64 k).sameKey (Lit.int .i64 x) = false := Go.Maps.sameKey_ne (fun h => e (by injection h))
  rw [hne] at hl
  simp only [Bool.not_false, Bool.and_true] at hl
  exact hz k q hk hq hl
end
theorem MapG.keep {w w' : World} {b n g : Nat} {G : Int → Option S47} (h : MapG w b n G) (hk : KeepBut w w' g none) (hne : b ≠ g) : MapG w' b n G := by
 have hlt := h.lt
 obtain ⟨D, ⟨es, clock, hb, F, hs, hD⟩, hG⟩ := h
 exact ⟨D, ⟨es, clock, (hk.2 b hlt hne (by simp)).trans hb, F, hs, hD⟩, hG⟩
theorem set4B {W : World} {g t : Nat} {v0 v1 v2 v3 : Value} (h : W.heap[g]? = some (.cells #[v0, v1, v2, v3] t (0, 0))) (x0 x1 x2 x3 : Value) :
  ((((W.setCell ⟨g, 0, none⟩ x0).setCell ⟨g, 1, none⟩ x1).setCell ⟨g, 2, none⟩ x2).setCell ⟨g, 3, none⟩ x3).heap[g]? = some (.cells #[x0, x1, x2, x3] t (0, 0)) :=
 blk_put (cs := #[x0, x1, x2, v3]) (blk_put (cs := #[x0, x1, v2, v3]) (blk_put (cs := #[x0, v1, v2, v3]) (blk_put h 0 _ rfl) 1 _ rfl) 2 _ rfl) 3 _ rfl
theorem set4F {W : World} {g g' t : Nat} {cs : Array Value} (h : W.heap[g']? = some (.cells cs t (0, 0))) (hne : g' ≠ g) (x0 x1 x2 x3 : Value) :
  ((((W.setCell ⟨g, 0, none⟩ x0).setCell ⟨g, 1, none⟩ x1).setCell ⟨g, 2, none⟩ x2).setCell ⟨g, 3, none⟩ x3).heap[g']? = some (.cells cs t (0, 0)) :=
 blk_far (blk_far (blk_far (blk_far h hne _) hne _) hne _) hne _
theorem set4W {B : Nat} {w W : World} {g : Nat} (h : Below B w W) (hg : B ≤ g) (x0 x1 x2 x3 : Value) :
  Below B w ((((W.setCell ⟨g, 0, none⟩ x0).setCell ⟨g, 1, none⟩ x1).setCell ⟨g, 2, none⟩ x2).setCell ⟨g, 3, none⟩ x3) :=
 ((((h.setCell (p := ⟨g, 0, none⟩) hg x0).setCell (p := ⟨g, 1, none⟩) hg x1).setCell (p := ⟨g, 2, none⟩) hg x2).setCell (p := ⟨g, 3, none⟩) hg x3)
theorem set4M {W : World} {b n g : Nat} {G : Int → Option S47} (h : MapG W b n G) (hne : b ≠ g) (x0 x1 x2 x3 : Value) :
  MapG ((((W.setCell ⟨g, 0, none⟩ x0).setCell ⟨g, 1, none⟩ x1).setCell ⟨g, 2, none⟩ x2).setCell ⟨g, 3, none⟩ x3) b n G :=
 (((h.set hne 0 x0).set hne 1 x1).set hne 2 x2).set hne 3 x3
def G1 (l : List S69) (k : Nat) (n : Int) : Option S47 := if hasN (l.take k) n = true then some (sumN (l.take k) n) else none
def G2 (ps : List S47) (l : List S69) (i : Nat) (n : Int) : Option S47 := if (ps.take i).any (fun p => p.f0 == n) = true then none else G1 l l.length n
theorem upto_next {P : Nat → Prop} {k : Nat} (h : ∀ j, j < k → P j) (hk : P k) : ∀ j, j < k + 1 → P j := fun j hj => by
 rcases Nat.lt_or_ge j k with h1 | h1
 ·exact h j h1
 ·obtain rfl : j = k := by omega
  exact hk
theorem num_next {k : Nat} (h : k < 20000) : Value.int .i64 (wrap64 ((k : Int) + 1)) = .int .i64 ((k + 1 : Nat) : Int) := by
 congr 1
 unfold wrap64
 omega
theorem below_then_ {B : Nat} {w w1 w2 : World} (h : Below B w w1) (k : Below B w1 w2) : Below B w w2 := h.trans k
theorem G1_zero (l : List S69) : G1 l 0 = fun _ => none := by funext n; rfl
theorem G1_step (l : List S69) (k : Nat) (h : k < l.length) : putG (G1 l k) (xAt l k).f0 (sumN (l.take (k + 1)) (xAt l k).f0) = G1 l (k + 1) := by
 funext n
 unfold putG G1
 rw [take_xAt l k h, hasN_snoc, sumN_snoc, sumN_snoc, if_pos rfl]
 by_cases e : n = (xAt l k).f0
 ·subst e
  rw [if_pos rfl, if_pos rfl]
  simp
 ·have hne : ¬ (xAt l k).f0 = n := fun h => e h.symm
  have : ((xAt l k).f0 == n) = false := beq_eq_false_iff_ne.mpr hne
  rw [if_neg e, this, Bool.or_false, if_neg hne]
theorem G1_add (l : List S69) (k : Nat) (h : k < l.length) (q : S47) (hq : q = (G1 l k (xAt l k).f0).getD z47) : addP ⟨(xAt l k).f0, q.f1, q.f2, q.f3⟩ (xAt l k) = sumN (l.take (k + 1)) (xAt l k).f0 := by
 rw [take_xAt l k h, sumN_snoc, if_pos rfl]
 congr 1
 subst hq
 unfold G1
 by_cases e : hasN (l.take k) (xAt l k).f0 = true
 ·rw [if_pos e]
  have := sumN_f0 (l.take k) (xAt l k).f0
  generalize sumN (l.take k) (xAt l k).f0 = s at *
  obtain ⟨a, b, c, d⟩ := s
  simp only at this
  subst this
  rfl
 ·rw [if_neg e, sumN_none _ _ (Bool.eq_false_iff.mpr e)]
  rfl
theorem G2_zero (ps : List S47) (l : List S69) : G2 ps l 0 = G1 l l.length := by funext n; rfl
theorem take_pAt (l : List S47) (k : Nat) (h : k < l.length) : l.take (k + 1) = l.take k ++ [pAt l k] := by
 rw [List.take_succ_eq_append_getElem h]
 unfold pAt
 rw [List.getD_eq_getElem?_getD, List.getElem?_eq_getElem h]
 rfl
theorem G2_step (ps : List S47) (l : List S69) (i : Nat) (h : i < ps.length) : delG (G2 ps l i) (pAt ps i).f0 = G2 ps l (i + 1) := by
 funext n
 unfold delG G2
 rw [take_pAt ps i h, List.any_append]
 by_cases e : n = (pAt ps i).f0
 ·subst e
  rw [if_pos rfl]
  simp
 ·rw [if_neg e]
  have : ((pAt ps i).f0 == n) = false := beq_eq_false_iff_ne.mpr (fun h => e h.symm)
  simp [this]
theorem ledger_Check.rising (ps : List S47) (l : List S69) (i : Nat) (hok : ∀ j, j < i → okP1 ps j = true) : ∀ d j, j + d < i → 0 < d → (pAt ps j).f0 < (pAt ps (j + d)).f0 := by
 intro d
 induction d with
 | zero => intro j _ h; omega
 | succ d ih =>
  intro j hj _
  have h1 := hok (j + d + 1) hj
  unfold okP1 at h1
  simp only [Bool.and_eq_true, Bool.not_eq_true', Bool.and_eq_false_iff, decide_eq_false_iff_not] at h1
  have h2 : (pAt ps (j + d)).f0 < (pAt ps (j + d + 1)).f0 := by
   rcases h1.2.2.2.1 with h | h
   ·omega
   ·rw [show j + d + 1 - 1 = j + d by omega] at h; omega
  rcases Nat.eq_zero_or_pos d with rfl | hd
  ·exact h2
  ·exact Int.lt_trans (ih j (by omega) hd) h2
theorem ledger_Check.look_eq (ps : List S47) (l : List S69) (i : Nat) (hi : i < ps.length) (hok : ∀ j, j < i → okP ps l j = true) (h1 : okP1 ps i = true) : eqP ((G2 ps l i (pAt ps i).f0).getD z47) (pAt ps i) = eqP (sumN l (pAt ps i).f0) (pAt ps i) := by
 have hr := ledger_Check.rising ps l (i + 1) (fun j hj => by
  rcases Nat.lt_or_ge j i with h | h
  ·have := hok j h
   unfold okP at this
   exact (Bool.and_eq_true _ _ ▸ this).1
  ·obtain rfl : j = i := by omega
   exact h1)
 have hno : (ps.take i).any (fun p => p.f0 == (pAt ps i).f0) = false := by
  rw [List.any_eq_false]
  intro p hp he
  obtain ⟨j, hj, rfl⟩ := List.mem_iff_getElem.mp hp
  have hji : j < i := by have := List.length_take_le i ps; omega
  have h3 := hr (i - j) j (by omega) (by omega)
  rw [show j + (i - j) = i by omega] at h3
  have h4 : (ps.take i)[j] = pAt ps j := by
   rw [List.getElem_take]
   unfold pAt
   rw [List.getD_eq_getElem?_getD, List.getElem?_eq_getElem (by omega)]
   rfl
  rw [h4] at he
  have := beq_iff_eq.mp he
  omega
 have hk := h1
 unfold okP1 at hk
 simp only [Bool.and_eq_true, decide_eq_true_eq, Bool.not_eq_true'] at hk
 unfold G2
 rw [hno, if_neg (by simp)]
 unfold G1
 rw [List.take_length]
 by_cases e : hasN l (pAt ps i).f0 = true
 ·rw [if_pos e]; rfl
 ·rw [if_neg e, sumN_none _ _ (Bool.eq_false_iff.mpr e)]
  have a1 : eqP z47 (pAt ps i) = false := by
   unfold eqP z47
   rw [beq_eq_false_iff_ne.mpr (by show (0 : Int) ≠ _; omega)]
   rfl
  have a2 : eqP (zeroP (pAt ps i).f0) (pAt ps i) = false := by
   rw [Bool.eq_false_iff]
   intro h
   have h5 := (eqP_iff _ _).mp h
   have h6 : eqP (pAt ps i) (zeroP (pAt ps i).f0) = true := (eqP_iff _ _).mpr h5.symm
   rw [h6] at hk
   exact absurd hk.2.2.1 (by simp)
  rw [a2]
  exact a1
theorem goodL_x {ps : List S47} {l : List S69} (k : Nat) (h : k < l.length) (hx : okX l k = false) : goodL ps l = false := by
 apply Bool.eq_false_iff.mpr
 intro hg
 simp only [goodL, Bool.and_eq_true, List.all_eq_true, List.mem_range] at hg
 rw [hg.2.1 k h] at hx
 cases hx
theorem goodL_p {ps : List S47} {l : List S69} (k : Nat) (h : k < ps.length) (hx : okP ps l k = false) : goodL ps l = false := by
 apply Bool.eq_false_iff.mpr
 intro hg
 simp only [goodL, Bool.and_eq_true, List.all_eq_true, List.mem_range] at hg
 rw [hg.2.2.1 k h] at hx
 cases hx
def ledger_Check.Rel1 (w : World) (gb gm : Nat) (A0_0 : Option Addr) (c0_0 : Nat) (l0_0 : List S47) (A0_1 : Option Addr) (c0_1 : Nat) (l0_1 : List S69) (kq : Nat) (v26 : Value) (wr : World) : Prop :=
 ∃ k : Nat, k ≤ l0_1.length ∧ k + kq = l0_1.length + 1 ∧ v26 = .int .i64 k ∧ wr.heap[gb]? = some (.cells #[.slice A0_0 l0_0.length c0_0, .slice A0_1 l0_1.length c0_1] 35 (0, 0)) ∧ MapG wr gm k (G1 l0_1 k) ∧ Below w.heap.size w wr ∧ ∀ j, j < k → okX l0_1 j = true
def ledger_Check.Rel2 (w : World) (gb gm : Nat) (A0_0 : Option Addr) (c0_0 : Nat) (l0_0 : List S47) (A0_1 : Option Addr) (c0_1 : Nat) (l0_1 : List S69) (kq : Nat) (v77 : Value) (wr : World) : Prop :=
 ∃ k : Nat, k ≤ l0_0.length ∧ k + kq = l0_0.length + 1 ∧ v77 = .int .i64 k ∧ wr.heap[gb]? = some (.cells #[.slice A0_0 l0_0.length c0_0, .slice A0_1 l0_1.length c0_1] 35 (0, 0)) ∧ MapG wr gm l0_1.length (G2 l0_0 l0_1 k) ∧ Below w.heap.size w wr ∧ ∀ j, j < k → okP l0_0 l0_1 j = true
structure ledger_Check.S1 (w wr : World) (gb gm gx : Nat) (A0_0 : Option Addr) (c0_0 : Nat) (l0_0 : List S47) (A0_1 : Option Addr) (c0_1 : Nat) (l0_1 : List S69) (N : Nat) (G : Int → Option S47) (x : S69) : Prop where
 BB : wr.heap[gb]? = some (.cells #[.slice A0_0 l0_0.length c0_0, .slice A0_1 l0_1.length c0_1] 35 (0, 0))
 BX : wr.heap[gx]? = some (.cells (xcells x) 69 (0, 0))
 MG : MapG wr gm N G
 HB : Below w.heap.size w wr
theorem ledger_Check.S1.drewN {w wr : World} {gb gm gx : Nat} {A0_0 : Option Addr} {c0_0 : Nat} {l0_0 : List S47} {A0_1 : Option Addr} {c0_1 : Nat} {l0_1 : List S69} {N : Nat} {G : Int → Option S47} {x : S69} (h : ledger_Check.S1 w wr gb gm gx A0_0 c0_0 l0_0 A0_1 c0_1 l0_1 N G x) (n : Nat) : ledger_Check.S1 w (wr.drewN n) gb gm gx A0_0 c0_0 l0_0 A0_1 c0_1 l0_1 N G x :=
 ⟨h.BB, h.BX, h.MG.drewN n, pw_below_drewN h.HB n⟩
structure ledger_Check.S2 (w wr : World) (gb gm gp : Nat) (A0_0 : Option Addr) (c0_0 : Nat) (l0_0 : List S47) (A0_1 : Option Addr) (c0_1 : Nat) (l0_1 : List S69) (N : Nat) (G : Int → Option S47) (p : S47) : Prop where
 BB : wr.heap[gb]? = some (.cells #[.slice A0_0 l0_0.length c0_0, .slice A0_1 l0_1.length c0_1] 35 (0, 0))
 BP : wr.heap[gp]? = some (.cells (pcells p) 47 (0, 0))
 MG : MapG wr gm N G
 HB : Below w.heap.size w wr
theorem ledger_Check.S2.drewN {w wr : World} {gb gm gp : Nat} {A0_0 : Option Addr} {c0_0 : Nat} {l0_0 : List S47} {A0_1 : Option Addr} {c0_1 : Nat} {l0_1 : List S69} {N : Nat} {G : Int → Option S47} {p : S47} (h : ledger_Check.S2 w wr gb gm gp A0_0 c0_0 l0_0 A0_1 c0_1 l0_1 N G p) (n : Nat) : ledger_Check.S2 w (wr.drewN n) gb gm gp A0_0 c0_0 l0_0 A0_1 c0_1 l0_1 N G p :=
 ⟨h.BB, h.BP, h.MG.drewN n, pw_below_drewN h.HB n⟩
def ledger_Check.Rel3 (w : World) (gm gr N : Nat) (G : Int → Option S47) (kq : Nat) (v10 : Value) (wr : World) : Prop := ∃ cnt : Nat, cnt < kq ∧ RangeG wr gm gr N G cnt ∧ Below w.heap.size w wr
theorem RangeG.keep {w w' : World} {b r n g cnt : Nat} {G : Int → Option S47} (h : RangeG w b r n G cnt) (hk : KeepBut w w' g none) (hb : b ≠ g) (hr : r ≠ g) : RangeG w' b r n G cnt := by
 obtain ⟨D, left, ⟨es, clock, since, seen, c0, h1, F, hs, hD, h2, rest⟩, hG, hz⟩ := h
 have l1 := (Array.getElem?_eq_some_iff.1 h1).1
 have l2 := (Array.getElem?_eq_some_iff.1 h2).1
 exact ⟨D, left, ⟨es, clock, since, seen, c0, (hk.2 b l1 hb (by simp)).trans h1, F, hs, hD, (hk.2 r l2 hr (by simp)).trans h2, rest⟩, hG, hz⟩
theorem RangeG.lt1 {w : World} {b r n cnt : Nat} {G : Int → Option S47} (h : RangeG w b r n G cnt) : b < w.heap.size := by
 obtain ⟨D, left, hr, _, _⟩ := h
 exact hr.owns.lt
theorem RangeG.lt2 {w : World} {b r n cnt : Nat} {G : Int → Option S47} (h : RangeG w b r n G cnt) : r < w.heap.size := by
 obtain ⟨D, left, hr, _, _⟩ := h
 exact hr.lt
theorem ledger_Check.good_of (ps : List S47) (l : List S69) (h1 : ps.length ≤ 1024) (h2 : l.length ≤ 16384) (hx : ∀ j, j < l.length → okX l j = true) (hp : ∀ j, j < ps.length → okP ps l j = true) (hd : ∀ k p, inI k → G2 ps l ps.length k = some p → p = zeroP k) : goodL ps l = true := by
 unfold goodL
 simp only [Bool.and_eq_true, List.all_eq_true, List.mem_range, decide_eq_true_eq]
 refine ⟨⟨h1, h2⟩, hx, hp, fun k hk => ?_⟩
 have hxk := hx k hk
 unfold okX postOk at hxk
 simp only [Bool.and_eq_true, decide_eq_true_eq] at hxk
 have hin : inI (xAt l k).f0 := inI_small hxk.1.1 hxk.1.2.1
 have hh : hasN l (xAt l k).f0 = true := by
  unfold hasN
  rw [List.any_eq_true]
  refine ⟨xAt l k, ?_, beq_self_eq_true _⟩
  unfold xAt
  rw [List.getD_eq_getElem?_getD, List.getElem?_eq_getElem hk]
  exact List.getElem_mem hk
 unfold okR
 rcases Bool.eq_false_or_eq_true (ps.any (fun p => p.f0 == (xAt l k).f0)) with e | e
 ·rw [e]; rfl
 ·rw [e, Bool.false_or]
  have := hd (xAt l k).f0 (sumN l (xAt l k).f0) hin (by unfold G2 G1; rw [List.take_length, e, if_neg (by simp), List.take_length, hh, if_pos rfl])
  exact (eqP_iff _ _).mpr this
theorem ledger_Check.bad_of (ps : List S47) (l : List S69) (n : Int) (p : S47) (hG : G2 ps l ps.length n = some p) (hz : ¬ p = zeroP n) : goodL ps l = false := by
 rw [Bool.eq_false_iff]
 intro hg
 unfold goodL at hg
 simp only [Bool.and_eq_true, List.all_eq_true, List.mem_range] at hg
 unfold G2 G1 at hG
 rw [List.take_length, List.take_length] at hG
 split at hG
 ·cases hG
 ·rename_i e
  split at hG
  ·rename_i hh
   injection hG with hG
   unfold hasN at hh
   rw [List.any_eq_true] at hh
   obtain ⟨x, hx, he⟩ := hh
   obtain ⟨k, hk, rfl⟩ := List.mem_iff_getElem.mp hx
   have hr := hg.2.2.2 k hk
   have hxk : xAt l k = l[k] := by
    unfold xAt
    rw [List.getD_eq_getElem?_getD, List.getElem?_eq_getElem hk]
    rfl
   have hn : (l[k]).f0 = n := beq_iff_eq.mp he
   unfold okR at hr
   rw [hxk, hn, Bool.eq_false_iff.mpr e, Bool.false_or] at hr
   have := (eqP_iff _ _).mp hr
   rw [hG] at this
   exact hz this
  ·cases hG
def ledger_Check.f (l0_0 : List S47) (l0_1 : List S69) : Option Int := some (if goodL l0_0 l0_1 = true then 0 else 9)
set_option maxHeartbeats 16000000 in
set_option maxRecDepth 100000 in
theorem ledger_Check.calls (A0_0 : Option Addr) (c0_0 : Nat) (l0_0 : List (S47)) (A0_1 : Option Addr) (c0_1 : Nat) (l0_1 : List (S69)) (r : Int) (w : World) (hr0_0 : Kd.C k47 w A0_0 l0_0.length l0_0) (hc0_0 : l0_0.length ≤ c0_0) (hr0_1 : Kd.C k69 w A0_1 l0_1.length l0_1) (hc0_1 : l0_1.length ≤ c0_1) (h : ledger_Check.f l0_0 l0_1 = some r) :
  Calls Tryd.prog 35 #[.agg #[.slice A0_0 l0_0.length c0_0, .slice A0_1 l0_1.length c0_1]] w fun e w' => e = .returned (.int .i64 r) ∧ Below w.heap.size w w' := by
 have HR := Aside0.mk (Option.some.inj h)
 clear h
 have hu25 := Tryd.underlying35
 have hu31 := Tryd.underlying47
 have hu55 := Tryd.underlying69
 have HR0 := Aside0.mk hr0_0
 have HC0 := Aside0.mk hc0_0
 have HR1 := Aside0.mk hr0_1
 have HC1 := Aside0.mk hc0_1
 clear hr0_0 hc0_0 hr0_1 hc0_1
 have hmm := @run_makeMap Tryd.prog
 have HMM := Aside0.mk hmm
 clear hmm
 by_cases hn : 1024 < l0_0.length
 ·have d1 : decide (1024 < (l0_0.length : Int)) = true := decide_eq_true (by omega)
  have d1n : decide (1024 < l0_0.length) = true := decide_eq_true hn
  have HG : Aside0 (r = 9) := ⟨by rw [← HR.out, show goodL l0_0 l0_1 = false by unfold goodL; rw [decide_eq_false (show ¬ l0_0.length ≤ 1024 by omega)]; rfl]; rfl⟩
  clear hn
  go_enter Tryd.func35, Tryd.ntmps35
  go_wp2_with (first | ((with_reducible refine gate_dst (N := 1) rfl ?_); refine box_event ?hg (N := 1) ?hd (cs := #[.slice A0_0 l0_0.length c0_0, .slice A0_1 l0_1.length c0_1]) (t := 35) ?hr ?_; (case hd => rfl); (case hg => rfl); (case hr => first | (go_simp; done) | (go_simp; rfl)); intro gb hgb w1 hbox hb; have BB := Aside0.mk hbox; have HB := Aside0.mk hb; have GB : Aside0 (w.heap.size ≤ gb) := ⟨by rw [hgb]; exact Nat.le_refl _⟩; have hb0 := (blk_cell hbox 0).trans rfl; have hb1 := (blk_cell hbox 1).trans rfl; have hb2 : (w1.alloc (.map #[] 0)).cell? ⟨gb, 1, none⟩ = some (.slice A0_1 l0_1.length c0_1) := (blk_cell (blk_alloc hbox _) 1).trans rfl; have GB2 : Aside0 (gb < w1.heap.size) := ⟨blk_lt hbox⟩; clear hbox hb hgb))
  go_ret
  exact ⟨by rw [HG.out]; rfl, HB.out⟩
 have d1 : decide (1024 < (l0_0.length : Int)) = false := decide_eq_false (by omega)
 have d1n : decide (1024 < l0_0.length) = false := decide_eq_false hn
 by_cases hm : 16384 < l0_1.length
 ·have d2 : decide (16384 < (l0_1.length : Int)) = true := decide_eq_true (by omega)
  have d2n : decide (16384 < l0_1.length) = true := decide_eq_true hm
  have HG : Aside0 (r = 9) := ⟨by rw [← HR.out, show goodL l0_0 l0_1 = false by unfold goodL; rw [decide_eq_false (show ¬ l0_1.length ≤ 16384 by omega), Bool.and_false]; rfl]; rfl⟩
  clear hn hm
  go_enter Tryd.func35, Tryd.ntmps35
  go_wp2_with (first | ((with_reducible refine gate_dst (N := 1) rfl ?_); refine box_event ?hg (N := 1) ?hd (cs := #[.slice A0_0 l0_0.length c0_0, .slice A0_1 l0_1.length c0_1]) (t := 35) ?hr ?_; (case hd => rfl); (case hg => rfl); (case hr => first | (go_simp; done) | (go_simp; rfl)); intro gb hgb w1 hbox hb; have BB := Aside0.mk hbox; have HB := Aside0.mk hb; have GB : Aside0 (w.heap.size ≤ gb) := ⟨by rw [hgb]; exact Nat.le_refl _⟩; have hb0 := (blk_cell hbox 0).trans rfl; have hb1 := (blk_cell hbox 1).trans rfl; have hb2 : (w1.alloc (.map #[] 0)).cell? ⟨gb, 1, none⟩ = some (.slice A0_1 l0_1.length c0_1) := (blk_cell (blk_alloc hbox _) 1).trans rfl; have GB2 : Aside0 (gb < w1.heap.size) := ⟨blk_lt hbox⟩; clear hbox hb hgb))
  go_ret
  exact ⟨by rw [HG.out]; rfl, HB.out⟩
 have d2 : decide (16384 < (l0_1.length : Int)) = false := decide_eq_false (by omega)
 have d2n : decide (16384 < l0_1.length) = false := decide_eq_false hm
 have HL : Aside0 (l0_0.length ≤ 1024 ∧ l0_1.length ≤ 16384) := ⟨by omega, by omega⟩
 clear hn hm
 go_enter Tryd.func35, Tryd.ntmps35
 have hmm := HMM.out
 go_wp2_with (first | ((with_reducible refine gate_dst (N := 1) rfl ?_); refine box_event ?hg (N := 1) ?hd (cs := #[.slice A0_0 l0_0.length c0_0, .slice A0_1 l0_1.length c0_1]) (t := 35) ?hr ?_; (case hd => rfl); (case hg => rfl); (case hr => first | (go_simp; done) | (go_simp; rfl)); intro gb hgb w1 hbox hb; have BB := Aside0.mk hbox; have HB := Aside0.mk hb; have GB : Aside0 (w.heap.size ≤ gb) := ⟨by rw [hgb]; exact Nat.le_refl _⟩; have hb0 := (blk_cell hbox 0).trans rfl; have hb1 := (blk_cell hbox 1).trans rfl; have hb2 : (w1.alloc (.map #[] 0)).cell? ⟨gb, 1, none⟩ = some (.slice A0_1 l0_1.length c0_1) := (blk_cell (blk_alloc hbox _) 1).trans rfl; have GB2 : Aside0 (gb < w1.heap.size) := ⟨blk_lt hbox⟩; clear hbox hb hgb))
 clear hmm hb0 hb1 hb2
 obtain ⟨gm, hgm⟩ : ∃ gm, gm = w1.heap.size := ⟨_, rfl⟩
 rw [← hgm]
 have HGM := Aside0.mk hgm
 clear hgm
 go_loopg [26] (l0_1.length + 1) (fun kq v26 wr => ledger_Check.Rel1 w gb gm A0_0 c0_0 l0_0 A0_1 c0_1 l0_1 kq v26 wr)
 case atStart => exact ⟨0, Nat.zero_le _, Nat.zero_add _, rfl, blk_alloc BB.out _, by rw [G1_zero, HGM.out]; exact MapG.made w1, below_alloc HB.out _, fun j hj => absurd hj (Nat.not_lt_zero j)⟩
 case round =>
  obtain ⟨k, hk, hkq, rfl, hbb, hmg, hb, hok⟩ := hrel
  have GM : Aside0 (gb ≠ gm ∧ w.heap.size ≤ gm) := ⟨by rw [HGM.out]; exact Nat.ne_of_lt GB2.out, by rw [HGM.out]; exact HB.out.size⟩
  clear BB HB GB2 HGM
  have BB := Aside0.mk hbb
  have MG := Aside0.mk hmg
  have HB := Aside0.mk hb
  have OK := Aside0.mk hok
  have HKQ := Aside0.mk hkq
  clear hbb hmg hb hok hkq
  by_cases hlt : k < l0_1.length
  ·obtain ⟨kq, rfl⟩ : ∃ q, gk = q + 1 := ⟨gk - 1, by have := HKQ.out; omega⟩
   have HLT := Aside0.mk hlt
   obtain ⟨ad, rfl, hx0, hx1, hx2, hx3⟩ := at_T69 HR1.out (k : Int) (Int.natCast_nonneg _) (Int.ofNat_lt.mpr hlt)
   replace hx0 := zx_ HB.out hx0
   replace hx1 := zx_ HB.out hx1
   replace hx2 := zx_ HB.out hx2
   replace hx3 := zx_ HB.out hx3
   rw [Int.toNat_natCast, rd_xAt] at hx0 hx1 hx2 hx3
   obtain ⟨x, hx⟩ : ∃ x, x = xAt l0_1 k := ⟨_, rfl⟩
   rw [← hx] at hx0 hx1 hx2 hx3
   have HX := Aside0.mk hx
   have pm : ((k : Int) < (l0_1.length : Int)) = True := eq_true (Int.ofNat_lt.mpr hlt)
   have t1 : decide ((k : Int) < (l0_1.length : Int)) = true := decide_eq_true (Int.ofNat_lt.mpr hlt)
   have t1n : decide (k < l0_1.length) = true := decide_eq_true hlt
   clear hx hlt
   go_upto_region 7 with (first | ((with_reducible refine gate_dst (N := 5) rfl ?_); refine box_event ?hg (N := 5) ?hd (cs := #[.int .i64 0, .int .u8 0, .int .u8 0, .int .i64 0]) (t := 69) ?hr ?_; (case hd => rfl); (case hg => rfl); (case hr => first | (go_simp; done) | (go_simp; rfl)); intro gx hgx w2 hbox hb; have GX : Aside0 (gb ≠ gx ∧ gm ≠ gx ∧ w.heap.size ≤ gx) := ⟨by rw [hgx]; exact Nat.ne_of_lt (blk_lt BB.out), by rw [hgx]; exact Nat.ne_of_lt MG.out.lt, by rw [hgx]; exact HB.out.size⟩; have BX := Aside0.mk hbox; have BB2 := Aside0.mk (blk_below BB.out hb); have MG2 := Aside0.mk (MG.out.below hb); have HB2 := Aside0.mk (below_step HB.out hb); have hz0 := (blk_cell hbox 0).trans rfl; have hz1 := (blk_cell hbox 1).trans rfl; have hz2 := (blk_cell hbox 2).trans rfl; have hz3 := (blk_cell hbox 3).trans rfl; have hf0 := blk_frozen hbox 0; have hf1 := blk_frozen hbox 1; have hf2 := blk_frozen hbox 2; have hf3 := blk_frozen hbox 3; clear hbox hb hgx BB MG HB))
   have ST : Aside0 (ledger_Check.S1 w ((((w2.setCell ⟨gx, 0, none⟩ (.int .i64 x.f0)).setCell ⟨gx, 1, none⟩ (.int .u8 x.f1)).setCell ⟨gx, 2, none⟩ (.int .u8 x.f2)).setCell ⟨gx, 3, none⟩ (.int .i64 x.f3)) gb gm gx A0_0 c0_0 l0_0 (some ad) c0_1 l0_1 k (G1 l0_1 k) x) := ⟨⟨set4F BB2.out GX.out.1 (.int .i64 x.f0) (.int .u8 x.f1) (.int .u8 x.f2) (.int .i64 x.f3), set4B BX.out (.int .i64 x.f0) (.int .u8 x.f1) (.int .u8 x.f2) (.int .i64 x.f3), set4M MG2.out GX.out.2.1 (.int .i64 x.f0) (.int .u8 x.f1) (.int .u8 x.f2) (.int .i64 x.f3), set4W HB2.out GX.out.2.2 (.int .i64 x.f0) (.int .u8 x.f1) (.int .u8 x.f2) (.int .i64 x.f3)⟩⟩
   clear hx0 hx1 hx2 hx3 hz0 hz1 hz2 hz3 hf0 hf1 hf2 hf3 BX BB2 MG2 HB2 pm t1 t1n
   obtain ⟨w6, hw6⟩ : ∃ w6, w6 = ((((w2.setCell ⟨gx, 0, none⟩ (.int .i64 x.f0)).setCell ⟨gx, 1, none⟩ (.int .u8 x.f1)).setCell ⟨gx, 2, none⟩ (.int .u8 x.f2)).setCell ⟨gx, 3, none⟩ (.int .i64 x.f3)) := ⟨_, rfl⟩
   rw [← hw6] at ST ⊢
   clear hw6
   go_cut [58] (fun v58 wc => v58 = .bool (!(postOk x)) ∧ Aside0 (ledger_Check.S1 w wc gb gm gx A0_0 c0_0 l0_0 (some ad) c0_1 l0_1 k (G1 l0_1 k) x))
   case first =>
    have hx0 : w6.cell? ⟨gx, 0, none⟩ = some (.int .i64 x.f0) := (blk_cell ST.out.BX 0).trans rfl
    have hx1 : w6.cell? ⟨gx, 1, none⟩ = some (.int .u8 x.f1) := (blk_cell ST.out.BX 1).trans rfl
    have hx2 : w6.cell? ⟨gx, 2, none⟩ = some (.int .u8 x.f2) := (blk_cell ST.out.BX 2).trans rfl
    have hx3 : w6.cell? ⟨gx, 3, none⟩ = some (.int .i64 x.f3) := (blk_cell ST.out.BX 3).trans rfl
    by_cases lo0 : 1 ≤ x.f0
    ·have l0 : decide (1 ≤ x.f0) = true := decide_eq_true lo0
     by_cases hi0 : x.f0 ≤ 1024
     ·have u0_ : decide (x.f0 ≤ 1024) = true := decide_eq_true hi0
      have K0 : Aside0 (ledger_known.f x.f0 = some true) := ⟨by unfold ledger_known.f; rw [if_pos (show x.f0 ≥ 1 from lo0), u0_]⟩
      by_cases lo1 : 1 ≤ x.f3
      ·have l1 : decide (1 ≤ x.f3) = true := decide_eq_true lo1
       by_cases hi1 : x.f3 ≤ 1152921504606846976
       ·have u1_ : decide (x.f3 ≤ 1152921504606846976) = true := decide_eq_true hi1
        have K1 : Aside0 (ledger_amount.f x.f3 = some true) := ⟨by unfold ledger_amount.f; rw [if_pos (show x.f3 ≥ 1 from lo1), u1_]⟩
        by_cases lo2 : 1 ≤ x.f1
        ·have l2 : decide (1 ≤ x.f1) = true := decide_eq_true lo2
         by_cases hi2 : x.f1 < 4
         ·have u2_ : decide (x.f1 < 4) = true := decide_eq_true hi2
          have K2 : Aside0 (ledger_account.f x.f1 = some true) := ⟨by unfold ledger_account.f; rw [if_pos (show x.f1 ≥ 1 from lo2), u2_]⟩
          by_cases lo3 : 1 ≤ x.f2
          ·have l3 : decide (1 ≤ x.f2) = true := decide_eq_true lo3
           by_cases hi3 : x.f2 < 4
           ·have u3_ : decide (x.f2 < 4) = true := decide_eq_true hi3
            have K3 : Aside0 (ledger_account.f x.f2 = some true) := ⟨by unfold ledger_account.f; rw [if_pos (show x.f2 ≥ 1 from lo3), u3_]⟩
            rcases Bool.eq_false_or_eq_true (x.f1 == x.f2) with h5 | h5
            ·have e5 : (x.f1 == x.f2) = true := h5
             have HP : Aside0 (postOk x = false) := ⟨by unfold postOk; simp only [l0, u0_, l1, u1_, l2, u2_, l3, u3_, e5]; rfl⟩
             go_wp2_with (first | (go_at_call 47; (with_reducible refine (ledger_known.calls _ _ _ K0.out).mono ?_); rintro e w' ⟨rfl, ⟨nd_, rfl⟩⟩) | (go_at_call 26; (with_reducible refine (ledger_amount.calls _ _ _ K1.out).mono ?_); rintro e w' ⟨rfl, ⟨nd_, rfl⟩⟩) | (go_at_call 36; (with_reducible refine (ledger_account.calls _ _ _ K2.out).mono ?_); rintro e w' ⟨rfl, ⟨nd_, rfl⟩⟩) | (go_at_call 36; (with_reducible refine (ledger_account.calls _ _ _ K3.out).mono ?_); rintro e w' ⟨rfl, ⟨nd_, rfl⟩⟩) | fail)
             go_meet
             case rel => exact ⟨by rw [HP.out]; rfl, ⟨by repeat (first | exact ST.out | apply ledger_Check.S1.drewN)⟩⟩
            ·have e5 : (x.f1 == x.f2) = false := h5
             have HP : Aside0 (postOk x = true) := ⟨by unfold postOk; simp only [l0, u0_, l1, u1_, l2, u2_, l3, u3_, e5]; rfl⟩
             go_wp2_with (first | (go_at_call 47; (with_reducible refine (ledger_known.calls _ _ _ K0.out).mono ?_); rintro e w' ⟨rfl, ⟨nd_, rfl⟩⟩) | (go_at_call 26; (with_reducible refine (ledger_amount.calls _ _ _ K1.out).mono ?_); rintro e w' ⟨rfl, ⟨nd_, rfl⟩⟩) | (go_at_call 36; (with_reducible refine (ledger_account.calls _ _ _ K2.out).mono ?_); rintro e w' ⟨rfl, ⟨nd_, rfl⟩⟩) | (go_at_call 36; (with_reducible refine (ledger_account.calls _ _ _ K3.out).mono ?_); rintro e w' ⟨rfl, ⟨nd_, rfl⟩⟩) | fail)
             go_meet
             case rel => exact ⟨by rw [HP.out]; rfl, ⟨by repeat (first | exact ST.out | apply ledger_Check.S1.drewN)⟩⟩
           ·have u3_ : decide (x.f2 < 4) = false := decide_eq_false hi3
            have K3 : Aside0 (ledger_account.f x.f2 = some false) := ⟨by unfold ledger_account.f; rw [if_pos (show x.f2 ≥ 1 from lo3), u3_]⟩
            have HP : Aside0 (postOk x = false) := ⟨by unfold postOk; simp only [l0, u0_, l1, u1_, l2, u2_, l3, u3_]; rfl⟩
            go_wp2_with (first | (go_at_call 47; (with_reducible refine (ledger_known.calls _ _ _ K0.out).mono ?_); rintro e w' ⟨rfl, ⟨nd_, rfl⟩⟩) | (go_at_call 26; (with_reducible refine (ledger_amount.calls _ _ _ K1.out).mono ?_); rintro e w' ⟨rfl, ⟨nd_, rfl⟩⟩) | (go_at_call 36; (with_reducible refine (ledger_account.calls _ _ _ K2.out).mono ?_); rintro e w' ⟨rfl, ⟨nd_, rfl⟩⟩) | (go_at_call 36; (with_reducible refine (ledger_account.calls _ _ _ K3.out).mono ?_); rintro e w' ⟨rfl, ⟨nd_, rfl⟩⟩) | fail)
            go_meet
            case rel => exact ⟨by rw [HP.out]; rfl, ⟨by repeat (first | exact ST.out | apply ledger_Check.S1.drewN)⟩⟩
          ·have l3 : decide (1 ≤ x.f2) = false := decide_eq_false lo3
           have K3 : Aside0 (ledger_account.f x.f2 = some false) := ⟨by unfold ledger_account.f; rw [if_neg (show ¬ x.f2 ≥ 1 from lo3)]⟩
           have HP : Aside0 (postOk x = false) := ⟨by unfold postOk; simp only [l0, u0_, l1, u1_, l2, u2_, l3]; rfl⟩
           go_wp2_with (first | (go_at_call 47; (with_reducible refine (ledger_known.calls _ _ _ K0.out).mono ?_); rintro e w' ⟨rfl, ⟨nd_, rfl⟩⟩) | (go_at_call 26; (with_reducible refine (ledger_amount.calls _ _ _ K1.out).mono ?_); rintro e w' ⟨rfl, ⟨nd_, rfl⟩⟩) | (go_at_call 36; (with_reducible refine (ledger_account.calls _ _ _ K2.out).mono ?_); rintro e w' ⟨rfl, ⟨nd_, rfl⟩⟩) | (go_at_call 36; (with_reducible refine (ledger_account.calls _ _ _ K3.out).mono ?_); rintro e w' ⟨rfl, ⟨nd_, rfl⟩⟩) | fail)
           go_meet
           case rel => exact ⟨by rw [HP.out]; rfl, ⟨by repeat (first | exact ST.out | apply ledger_Check.S1.drewN)⟩⟩
         ·have u2_ : decide (x.f1 < 4) = false := decide_eq_false hi2
          have K2 : Aside0 (ledger_account.f x.f1 = some false) := ⟨by unfold ledger_account.f; rw [if_pos (show x.f1 ≥ 1 from lo2), u2_]⟩
          have HP : Aside0 (postOk x = false) := ⟨by unfold postOk; simp only [l0, u0_, l1, u1_, l2, u2_]; rfl⟩
          go_wp2_with (first | (go_at_call 47; (with_reducible refine (ledger_known.calls _ _ _ K0.out).mono ?_); rintro e w' ⟨rfl, ⟨nd_, rfl⟩⟩) | (go_at_call 26; (with_reducible refine (ledger_amount.calls _ _ _ K1.out).mono ?_); rintro e w' ⟨rfl, ⟨nd_, rfl⟩⟩) | (go_at_call 36; (with_reducible refine (ledger_account.calls _ _ _ K2.out).mono ?_); rintro e w' ⟨rfl, ⟨nd_, rfl⟩⟩) | fail)
          go_meet
          case rel => exact ⟨by rw [HP.out]; rfl, ⟨by repeat (first | exact ST.out | apply ledger_Check.S1.drewN)⟩⟩
        ·have l2 : decide (1 ≤ x.f1) = false := decide_eq_false lo2
         have K2 : Aside0 (ledger_account.f x.f1 = some false) := ⟨by unfold ledger_account.f; rw [if_neg (show ¬ x.f1 ≥ 1 from lo2)]⟩
         have HP : Aside0 (postOk x = false) := ⟨by unfold postOk; simp only [l0, u0_, l1, u1_, l2]; rfl⟩
         go_wp2_with (first | (go_at_call 47; (with_reducible refine (ledger_known.calls _ _ _ K0.out).mono ?_); rintro e w' ⟨rfl, ⟨nd_, rfl⟩⟩) | (go_at_call 26; (with_reducible refine (ledger_amount.calls _ _ _ K1.out).mono ?_); rintro e w' ⟨rfl, ⟨nd_, rfl⟩⟩) | (go_at_call 36; (with_reducible refine (ledger_account.calls _ _ _ K2.out).mono ?_); rintro e w' ⟨rfl, ⟨nd_, rfl⟩⟩) | fail)
         go_meet
         case rel => exact ⟨by rw [HP.out]; rfl, ⟨by repeat (first | exact ST.out | apply ledger_Check.S1.drewN)⟩⟩
       ·have u1_ : decide (x.f3 ≤ 1152921504606846976) = false := decide_eq_false hi1
        have K1 : Aside0 (ledger_amount.f x.f3 = some false) := ⟨by unfold ledger_amount.f; rw [if_pos (show x.f3 ≥ 1 from lo1), u1_]⟩
        have HP : Aside0 (postOk x = false) := ⟨by unfold postOk; simp only [l0, u0_, l1, u1_]; rfl⟩
        go_wp2_with (first | (go_at_call 47; (with_reducible refine (ledger_known.calls _ _ _ K0.out).mono ?_); rintro e w' ⟨rfl, ⟨nd_, rfl⟩⟩) | (go_at_call 26; (with_reducible refine (ledger_amount.calls _ _ _ K1.out).mono ?_); rintro e w' ⟨rfl, ⟨nd_, rfl⟩⟩) | fail)
        go_meet
        case rel => exact ⟨by rw [HP.out]; rfl, ⟨by repeat (first | exact ST.out | apply ledger_Check.S1.drewN)⟩⟩
      ·have l1 : decide (1 ≤ x.f3) = false := decide_eq_false lo1
       have K1 : Aside0 (ledger_amount.f x.f3 = some false) := ⟨by unfold ledger_amount.f; rw [if_neg (show ¬ x.f3 ≥ 1 from lo1)]⟩
       have HP : Aside0 (postOk x = false) := ⟨by unfold postOk; simp only [l0, u0_, l1]; rfl⟩
       go_wp2_with (first | (go_at_call 47; (with_reducible refine (ledger_known.calls _ _ _ K0.out).mono ?_); rintro e w' ⟨rfl, ⟨nd_, rfl⟩⟩) | (go_at_call 26; (with_reducible refine (ledger_amount.calls _ _ _ K1.out).mono ?_); rintro e w' ⟨rfl, ⟨nd_, rfl⟩⟩) | fail)
       go_meet
       case rel => exact ⟨by rw [HP.out]; rfl, ⟨by repeat (first | exact ST.out | apply ledger_Check.S1.drewN)⟩⟩
     ·have u0_ : decide (x.f0 ≤ 1024) = false := decide_eq_false hi0
      have K0 : Aside0 (ledger_known.f x.f0 = some false) := ⟨by unfold ledger_known.f; rw [if_pos (show x.f0 ≥ 1 from lo0), u0_]⟩
      have HP : Aside0 (postOk x = false) := ⟨by unfold postOk; simp only [l0, u0_]; rfl⟩
      go_wp2_with (first | (go_at_call 47; (with_reducible refine (ledger_known.calls _ _ _ K0.out).mono ?_); rintro e w' ⟨rfl, ⟨nd_, rfl⟩⟩) | fail)
      go_meet
      case rel => exact ⟨by rw [HP.out]; rfl, ⟨by repeat (first | exact ST.out | apply ledger_Check.S1.drewN)⟩⟩
    ·have l0 : decide (1 ≤ x.f0) = false := decide_eq_false lo0
     have K0 : Aside0 (ledger_known.f x.f0 = some false) := ⟨by unfold ledger_known.f; rw [if_neg (show ¬ x.f0 ≥ 1 from lo0)]⟩
     have HP : Aside0 (postOk x = false) := ⟨by unfold postOk; simp only [l0]; rfl⟩
     go_wp2_with (first | (go_at_call 47; (with_reducible refine (ledger_known.calls _ _ _ K0.out).mono ?_); rintro e w' ⟨rfl, ⟨nd_, rfl⟩⟩) | fail)
     go_meet
     case rel => exact ⟨by rw [HP.out]; rfl, ⟨by repeat (first | exact ST.out | apply ledger_Check.S1.drewN)⟩⟩
   case rest =>
    clear ST
    obtain ⟨rfl, ST⟩ := hcut
    by_cases hp : postOk x = true
    ·have e1 : (!postOk x) = false := by rw [hp]; rfl
     have HIN : Aside0 (inI x.f0) := ⟨by have h2 := hp; unfold postOk at h2; simp only [Bool.and_eq_true, decide_eq_true_eq] at h2; exact inI_small h2.1 h2.2.1⟩
     have HPO := Aside0.mk hp
     rw [e1]
     clear e1 hp
     have hx0 : wc.cell? ⟨gx, 0, none⟩ = some (.int .i64 x.f0) := (blk_cell ST.out.BX 0).trans rfl
     have hx1 : wc.cell? ⟨gx, 1, none⟩ = some (.int .u8 x.f1) := (blk_cell ST.out.BX 1).trans rfl
     have hx2 : wc.cell? ⟨gx, 2, none⟩ = some (.int .u8 x.f2) := (blk_cell ST.out.BX 2).trans rfl
     have hx3 : wc.cell? ⟨gx, 3, none⟩ = some (.int .i64 x.f3) := (blk_cell ST.out.BX 3).trans rfl
     obtain ⟨q, hq⟩ : ∃ q, q = (G1 l0_1 k x.f0).getD z47 := ⟨_, rfl⟩
     have HQ := Aside0.mk hq
     clear hq
     go_wp2_with (first | (at_lookup; refine wpList_lookG _ rfl _ _ rfl gm k (G1 l0_1 k) rfl ST.out.MG x.f0 rfl HIN.out ?_; rw [← HQ.out]; unfold pcells) | ((with_reducible refine gate_dst (N := 6) rfl ?_); refine box_event ?hg (N := 6) ?hd (cs := #[.int .i64 0, .int .i64 0, .int .i64 0, .int .i64 0]) (t := 47) ?hr ?_; (case hd => rfl); (case hg => rfl); (case hr => first | (go_simp; done) | (go_simp; rfl)); intro gp hgp w3 hbox hb; have GP : Aside0 (gb ≠ gp ∧ gm ≠ gp ∧ gx ≠ gp ∧ w.heap.size ≤ gp) := ⟨by rw [hgp]; exact Nat.ne_of_lt (blk_lt ST.out.BB), by rw [hgp]; exact Nat.ne_of_lt ST.out.MG.lt, by rw [hgp]; exact Nat.ne_of_lt (blk_lt ST.out.BX), by rw [hgp]; exact ST.out.HB.size⟩; have BP := Aside0.mk hbox; have ST2 : Aside0 (ledger_Check.S1 w w3 gb gm gx A0_0 c0_0 l0_0 (some ad) c0_1 l0_1 k (G1 l0_1 k) x) := ⟨⟨blk_below ST.out.BB hb, blk_below ST.out.BX hb, ST.out.MG.below hb, below_step ST.out.HB hb⟩⟩; have hz0 := (blk_cell hbox 0).trans rfl; have hz1 := (blk_cell hbox 1).trans rfl; have hz2 := (blk_cell hbox 2).trans rfl; have hz3 := (blk_cell hbox 3).trans rfl; have hf0 := blk_frozen hbox 0; have hf1 := blk_frozen hbox 1; have hf2 := blk_frozen hbox 2; have hf3 := blk_frozen hbox 3; have hy0 : w3.cell? ⟨gx, 0, none⟩ = some (.int .i64 x.f0) := (blk_cell ST2.out.BX 0).trans rfl; have hy1 : w3.cell? ⟨gx, 1, none⟩ = some (.int .u8 x.f1) := (blk_cell ST2.out.BX 1).trans rfl; have hy2 : w3.cell? ⟨gx, 2, none⟩ = some (.int .u8 x.f2) := (blk_cell ST2.out.BX 2).trans rfl; have hy3 : w3.cell? ⟨gx, 3, none⟩ = some (.int .i64 x.f3) := (blk_cell ST2.out.BX 3).trans rfl; have ne1 : ¬ gx = gp := GP.out.2.2.1; have ne2 : ¬ gp = gx := Ne.symm GP.out.2.2.1; clear hbox hb hgp ST))
     have BP2 : Aside0 ((((((w3.setCell ⟨gp, 0, none⟩ (.int .i64 q.f0)).setCell ⟨gp, 1, none⟩ (.int .i64 q.f1)).setCell ⟨gp, 2, none⟩ (.int .i64 q.f2)).setCell ⟨gp, 3, none⟩ (.int .i64 q.f3)).setCell ⟨gp, 0, none⟩ (.int .i64 x.f0)).heap[gp]? = some (.cells (pcells ⟨x.f0, q.f1, q.f2, q.f3⟩) 47 (0, 0))) := ⟨blk_put (set4B BP.out (.int .i64 q.f0) (.int .i64 q.f1) (.int .i64 q.f2) (.int .i64 q.f3)) 0 _ rfl⟩
     have ST3 : Aside0 (ledger_Check.S1 w (((((w3.setCell ⟨gp, 0, none⟩ (.int .i64 q.f0)).setCell ⟨gp, 1, none⟩ (.int .i64 q.f1)).setCell ⟨gp, 2, none⟩ (.int .i64 q.f2)).setCell ⟨gp, 3, none⟩ (.int .i64 q.f3)).setCell ⟨gp, 0, none⟩ (.int .i64 x.f0)) gb gm gx A0_0 c0_0 l0_0 (some ad) c0_1 l0_1 k (G1 l0_1 k) x) := ⟨⟨blk_far (set4F ST2.out.BB GP.out.1 (.int .i64 q.f0) (.int .i64 q.f1) (.int .i64 q.f2) (.int .i64 q.f3)) GP.out.1 _, blk_far (set4F ST2.out.BX GP.out.2.2.1 (.int .i64 q.f0) (.int .i64 q.f1) (.int .i64 q.f2) (.int .i64 q.f3)) GP.out.2.2.1 _, (set4M ST2.out.MG GP.out.2.1 (.int .i64 q.f0) (.int .i64 q.f1) (.int .i64 q.f2) (.int .i64 q.f3)).set GP.out.2.1 0 _, (set4W ST2.out.HB GP.out.2.2.2 (.int .i64 q.f0) (.int .i64 q.f1) (.int .i64 q.f2) (.int .i64 q.f3)).setCell GP.out.2.2.2 _⟩⟩
     clear BP ST2 hz0 hz1 hz2 hz3 hf0 hf1 hf2 hf3 hx0 hx1 hx2 hx3 hy0 hy1 hy2 hy3 ne1 ne2
     obtain ⟨w7, hw7⟩ : ∃ w7, w7 = (((((w3.setCell ⟨gp, 0, none⟩ (.int .i64 q.f0)).setCell ⟨gp, 1, none⟩ (.int .i64 q.f1)).setCell ⟨gp, 2, none⟩ (.int .i64 q.f2)).setCell ⟨gp, 3, none⟩ (.int .i64 q.f3)).setCell ⟨gp, 0, none⟩ (.int .i64 x.f0)) := ⟨_, rfl⟩
     rw [← hw7] at BP2 ST3 ⊢
     clear hw7
     have HA : Aside0 (addP ⟨x.f0, q.f1, q.f2, q.f3⟩ x = sumN (l0_1.take (k + 1)) x.f0) := ⟨by rw [HX.out]; exact G1_add l0_1 k HLT.out q (by rw [← HX.out]; exact HQ.out)⟩
     refine (ledger_add.row w.heap.size gp ⟨x.f0, q.f1, q.f2, q.f3⟩ x _ BP2.out GP.out.2.2.2).mono ?_
     rintro e w8 ⟨rfl, hbp, hkb, hbl⟩
     rw [HA.out] at hbp ⊢
     have ST4 : Aside0 (ledger_Check.S1 w w8 gb gm gx A0_0 c0_0 l0_0 (some ad) c0_1 l0_1 k (G1 l0_1 k) x) := ⟨⟨hkb.blk ST3.out.BB GP.out.1 (by simp), hkb.blk ST3.out.BX GP.out.2.2.1 (by simp), ST3.out.MG.keep hkb GP.out.2.1, below_then_ ST3.out.HB hbl⟩⟩
     have BP3 := Aside0.mk hbp
     clear hbp hkb hbl BP2 ST3 HA HQ
     obtain ⟨s, hs⟩ : ∃ s, s = sumN (l0_1.take (k + 1)) x.f0 := ⟨_, rfl⟩
     rw [← hs] at BP3 ⊢
     have HS := Aside0.mk hs
     clear hs
     by_cases hft : fits s = true
     ·have HOK : Aside0 (okX l0_1 k = true) := ⟨by unfold okX; rw [← HX.out, ← HS.out, HPO.out, hft]; rfl⟩
      rw [hft]
      clear hft
      have hp0 : w8.cell? ⟨gp, 0, none⟩ = some (.int .i64 s.f0) := (blk_cell BP3.out 0).trans rfl
      have hp1 : w8.cell? ⟨gp, 1, none⟩ = some (.int .i64 s.f1) := (blk_cell BP3.out 1).trans rfl
      have hp2 : w8.cell? ⟨gp, 2, none⟩ = some (.int .i64 s.f2) := (blk_cell BP3.out 2).trans rfl
      have hp3 : w8.cell? ⟨gp, 3, none⟩ = some (.int .i64 s.f3) := (blk_cell BP3.out 3).trans rfl
      have hx0 : w8.cell? ⟨gx, 0, none⟩ = some (.int .i64 x.f0) := (blk_cell ST4.out.BX 0).trans rfl
      go_wp2_with (first | (at_mapUpdate; refine wpList_putG _ rfl _ _ _ rfl gm k (G1 l0_1 k) rfl ST4.out.MG (by have := HL.out; have := HLT.out; unfold maxLen; omega) x.f0 s rfl rfl HIN.out ?_; intro w9 hm9 hg9; have MG9 := Aside0.mk hm9; have HG9 := Aside0.mk hg9; clear hm9 hg9))
      go_roundg kq
      case measure => exact Nat.lt_succ_self _
      case rel => exact ⟨k + 1, HLT.out, by have := HKQ.out; omega, num_next (by have := HL.out; have := HLT.out; omega), blk_grown ST4.out.BB HG9.out (by simpa using GM.out.1), by rw [← G1_step l0_1 k HLT.out, ← HX.out, ← HS.out]; exact MG9.out, pw_below_grown ST4.out.HB _ ST4.out.HB.size HG9.out (by rintro _ ⟨⟩; exact GM.out.2), upto_next OK.out HOK.out⟩
     ·have HG : Aside0 (r = 9) := ⟨by rw [← HR.out, goodL_x k HLT.out (by unfold okX; rw [← HX.out, ← HS.out, Bool.eq_false_iff.mpr hft, Bool.and_false])]; rfl⟩
      rw [Bool.eq_false_iff.mpr hft]
      clear hft
      go_wp2_with fail
      go_ret
      exact ⟨by rw [HG.out]; rfl, ST4.out.HB⟩
    ·have e1 : (!postOk x) = true := by rw [Bool.eq_false_iff.mpr hp]; rfl
     have HG : Aside0 (r = 9) := ⟨by rw [← HR.out, goodL_x k HLT.out (by unfold okX; rw [← HX.out, Bool.eq_false_iff.mpr hp, Bool.false_and])]; rfl⟩
     rw [e1]
     clear e1 hp
     go_wp2_with fail
     go_ret
     exact ⟨by rw [HG.out]; rfl, ST.out.HB⟩
  ·obtain ⟨m, hm⟩ : ∃ m, m = l0_1.length := ⟨_, rfl⟩
   obtain rfl : k = m := by omega
   have HM := Aside0.mk hm
   have t1 : decide ((k : Int) < (l0_1.length : Int)) = false := decide_eq_false (by omega)
   have t1n : decide (k < l0_1.length) = false := decide_eq_false hlt
   have OKX : Aside0 (∀ j, j < l0_1.length → okX l0_1 j = true) := ⟨fun j hj => OK.out j (by omega)⟩
   have MG2 : Aside0 (MapG wr gm l0_1.length (G2 l0_0 l0_1 0)) := ⟨by rw [G2_zero, ← HM.out]; exact MG.out⟩
   have hb0 := (blk_cell BB.out 0).trans rfl
   clear hm hlt hk OK MG
   go_wp2_with fail
   clear t1 t1n hb0
   go_loopg [77] (l0_0.length + 1) (fun kq v77 wr => ledger_Check.Rel2 w gb gm A0_0 c0_0 l0_0 A0_1 c0_1 l0_1 kq v77 wr)
   case atStart => exact ⟨0, Nat.zero_le _, Nat.zero_add _, rfl, BB.out, MG2.out, HB.out, fun j hj => absurd hj (Nat.not_lt_zero j)⟩
   case round =>
    clear BB HB MG2 HM HKQ
    obtain ⟨i, hi, hiq, rfl, hbb, hmg, hb, hok⟩ := hrel
    have BB := Aside0.mk hbb
    have MG := Aside0.mk hmg
    have HB := Aside0.mk hb
    have OK := Aside0.mk hok
    have HKQ := Aside0.mk hiq
    clear hbb hmg hb hok hiq
    by_cases hlt : i < l0_0.length
    ·obtain ⟨kq, rfl⟩ : ∃ q, gk = q + 1 := ⟨gk - 1, by have := HKQ.out; omega⟩
     have HLT := Aside0.mk hlt
     obtain ⟨ad, rfl, hx0, hx1, hx2, hx3⟩ := at_T47 HR0.out (i : Int) (Int.natCast_nonneg _) (Int.ofNat_lt.mpr hlt)
     replace hx0 := zx_ HB.out hx0
     replace hx1 := zx_ HB.out hx1
     replace hx2 := zx_ HB.out hx2
     replace hx3 := zx_ HB.out hx3
     rw [Int.toNat_natCast, rd_pAt] at hx0 hx1 hx2 hx3
     obtain ⟨p, hx⟩ : ∃ p, p = pAt l0_0 i := ⟨_, rfl⟩
     rw [← hx] at hx0 hx1 hx2 hx3
     have HX := Aside0.mk hx
     have pm : ((i : Int) < (l0_0.length : Int)) = True := eq_true (Int.ofNat_lt.mpr hlt)
     have t1 : decide ((i : Int) < (l0_0.length : Int)) = true := decide_eq_true (Int.ofNat_lt.mpr hlt)
     have t1n : decide (i < l0_0.length) = true := decide_eq_true hlt
     clear hx hlt
     go_upto_region 18 with (first | ((with_reducible refine gate_dst (N := 8) rfl ?_); refine box_event ?hg (N := 8) ?hd (cs := #[.int .i64 0, .int .i64 0, .int .i64 0, .int .i64 0]) (t := 47) ?hr ?_; (case hd => rfl); (case hg => rfl); (case hr => first | (go_simp; done) | (go_simp; rfl)); intro gp hgp w2 hbox hb; have GP : Aside0 (gb ≠ gp ∧ gm ≠ gp ∧ w.heap.size ≤ gp) := ⟨by rw [hgp]; exact Nat.ne_of_lt (blk_lt BB.out), by rw [hgp]; exact Nat.ne_of_lt MG.out.lt, by rw [hgp]; exact HB.out.size⟩; have BP := Aside0.mk hbox; have BB2 := Aside0.mk (blk_below BB.out hb); have MG2 := Aside0.mk (MG.out.below hb); have HB2 := Aside0.mk (below_step HB.out hb); have hz0 := (blk_cell hbox 0).trans rfl; have hz1 := (blk_cell hbox 1).trans rfl; have hz2 := (blk_cell hbox 2).trans rfl; have hz3 := (blk_cell hbox 3).trans rfl; have hf0 := blk_frozen hbox 0; have hf1 := blk_frozen hbox 1; have hf2 := blk_frozen hbox 2; have hf3 := blk_frozen hbox 3; clear hbox hb hgp BB MG HB))
     have ST : Aside0 (ledger_Check.S2 w ((((w2.setCell ⟨gp, 0, none⟩ (.int .i64 p.f0)).setCell ⟨gp, 1, none⟩ (.int .i64 p.f1)).setCell ⟨gp, 2, none⟩ (.int .i64 p.f2)).setCell ⟨gp, 3, none⟩ (.int .i64 p.f3)) gb gm gp (some ad) c0_0 l0_0 A0_1 c0_1 l0_1 l0_1.length (G2 l0_0 l0_1 i) p) := ⟨⟨set4F BB2.out GP.out.1 (.int .i64 p.f0) (.int .i64 p.f1) (.int .i64 p.f2) (.int .i64 p.f3), set4B BP.out (.int .i64 p.f0) (.int .i64 p.f1) (.int .i64 p.f2) (.int .i64 p.f3), set4M MG2.out GP.out.2.1 (.int .i64 p.f0) (.int .i64 p.f1) (.int .i64 p.f2) (.int .i64 p.f3), set4W HB2.out GP.out.2.2 (.int .i64 p.f0) (.int .i64 p.f1) (.int .i64 p.f2) (.int .i64 p.f3)⟩⟩
     clear hx0 hx1 hx2 hx3 hz0 hz1 hz2 hz3 hf0 hf1 hf2 hf3 BP BB2 MG2 HB2 pm t1 t1n
     obtain ⟨w6, hw6⟩ : ∃ w6, w6 = ((((w2.setCell ⟨gp, 0, none⟩ (.int .i64 p.f0)).setCell ⟨gp, 1, none⟩ (.int .i64 p.f1)).setCell ⟨gp, 2, none⟩ (.int .i64 p.f2)).setCell ⟨gp, 3, none⟩ (.int .i64 p.f3)) := ⟨_, rfl⟩
     rw [← hw6] at ST ⊢
     clear hw6
     have hp0 : w6.cell? ⟨gp, 0, none⟩ = some (.int .i64 p.f0) := (blk_cell ST.out.BP 0).trans rfl
     have hp1 : w6.cell? ⟨gp, 1, none⟩ = some (.int .i64 p.f1) := (blk_cell ST.out.BP 1).trans rfl
     have hp2 : w6.cell? ⟨gp, 2, none⟩ = some (.int .i64 p.f2) := (blk_cell ST.out.BP 2).trans rfl
     have hp3 : w6.cell? ⟨gp, 3, none⟩ = some (.int .i64 p.f3) := (blk_cell ST.out.BP 3).trans rfl
     go_upto_region 19 with (fail)
     obtain ⟨nz, hnz⟩ : ∃ nz, nz = (!p.f1 == 0 || (!p.f2 == 0 || !p.f3 == 0)) := ⟨_, rfl⟩
     rw [← hnz]
     have HNZ : Aside0 (eqP p (zeroP p.f0) = !nz) := ⟨by rw [hnz]; unfold eqP zeroP; cases (p.f1 == 0) <;> cases (p.f2 == 0) <;> cases (p.f3 == 0) <;> simp⟩
     clear hnz
     go_cut [130] (fun v130 wc => v130 = .bool (!(okP l0_0 l0_1 i)) ∧ Aside0 (ledger_Check.S2 w wc gb gm gp (some ad) c0_0 l0_0 A0_1 c0_1 l0_1 l0_1.length (G2 l0_0 l0_1 i) p))
     case first =>
      by_cases lo0 : 1 ≤ p.f0
      ·have l0 : decide (1 ≤ p.f0) = true := decide_eq_true lo0
       by_cases hi0 : p.f0 ≤ 1024
       ·have u0 : decide (p.f0 ≤ 1024) = true := decide_eq_true hi0
        have K0 : Aside0 (ledger_known.f p.f0 = some true) := ⟨by unfold ledger_known.f; rw [if_pos (show p.f0 ≥ 1 from lo0), u0]⟩
        cases nz with
        | false =>
         have HP : Aside0 (okP l0_0 l0_1 i = false) := ⟨by unfold okP okP1; rw [← HX.out]; rw [HNZ.out]; simp⟩
         go_quiet ((go_at_call 47; exact Calls.quiet_of ((ledger_known.calls _ _ _ K0.out).mono (fun _ _ h_ => ⟨h_.1, h_.2.out⟩))))
         go_wp2_with fail
         go_meet
         case rel => exact ⟨by rw [HP.out]; rfl, ⟨ST.out.drewN _⟩⟩
        | true =>
         by_cases h2 : 0 < i
         ·have d2 : decide (0 < i) = true := decide_eq_true h2
          have d2i : decide (0 < (i : Int)) = true := decide_eq_true (by omega)
          have hi1 : i - 1 < l0_0.length := by have := HLT.out; omega
          obtain ⟨ad', he, hy0, -, -, -⟩ := at_T47 HR0.out ((i - 1 : Nat) : Int) (Int.natCast_nonneg _) (Int.ofNat_lt.mpr hi1)
          cases he
          replace hy0 := (ST.out.HB.cell (World.block_lt_of_cell? w _ hy0)).trans hy0
          rw [Int.toNat_natCast, rd_pAt] at hy0
          have pm : (((i - 1 : Nat) : Int) < (l0_0.length : Int)) = True := eq_true (Int.ofNat_lt.mpr hi1)
          have hs1 : IntKind.i64.wrap ((i : Int) - 1) = ((i - 1 : Nat) : Int) := by have := HL.out; have := HLT.out; rw [IntKind.wrap_i64]; omega
          have hs2 : wrap64 ((i : Int) - 1) = ((i - 1 : Nat) : Int) := by have := HL.out; have := HLT.out; unfold wrap64; omega
          have hb0 := (blk_cell ST.out.BB 0).trans rfl
          obtain ⟨pv, hpv⟩ : ∃ pv, pv = (pAt l0_0 (i - 1)).f0 := ⟨_, rfl⟩
          rw [← hpv] at hy0
          have HPV := Aside0.mk hpv
          clear hi1 hpv
          by_cases h3 : p.f0 ≤ pv
          ·have d3 : decide (p.f0 ≤ pv) = true := decide_eq_true h3
           have HP : Aside0 (okP l0_0 l0_1 i = false) := ⟨by unfold okP okP1; rw [← HX.out]; rw [← HPV.out, d2, decide_eq_true (show pv ≥ p.f0 from h3)]; simp⟩
           go_quiet ((go_at_call 47; exact Calls.quiet_of ((ledger_known.calls _ _ _ K0.out).mono (fun _ _ h_ => ⟨h_.1, h_.2.out⟩))))
           go_wp2_with fail
           go_meet
           case rel => exact ⟨by rw [HP.out]; rfl, ⟨ST.out.drewN _⟩⟩
          ·have d3 : decide (p.f0 ≤ pv) = false := decide_eq_false h3
           have PV : Aside0 ((!(decide (0 < i) && decide ((pAt l0_0 (i - 1)).f0 ≥ p.f0))) = true) := ⟨by rw [← HPV.out, decide_eq_false (show ¬ pv ≥ p.f0 from h3), Bool.and_false]; rfl⟩
           by_cases h4 : p.f1 < 0
           ·have d4 : decide (p.f1 < 0) = true := decide_eq_true h4
            have HP : Aside0 (okP l0_0 l0_1 i = false) := ⟨by unfold okP okP1; rw [← HX.out]; rw [d4]; simp⟩
            go_quiet ((go_at_call 47; exact Calls.quiet_of ((ledger_known.calls _ _ _ K0.out).mono (fun _ _ h_ => ⟨h_.1, h_.2.out⟩))))
            go_wp2_with fail
            go_meet
            case rel => exact ⟨by rw [HP.out]; rfl, ⟨ST.out.drewN _⟩⟩
           ·have d4 : decide (p.f1 < 0) = false := decide_eq_false h4
            by_cases h5 : p.f2 < p.f3
            ·have d5 : decide (p.f2 < p.f3) = true := decide_eq_true h5
             have HP : Aside0 (okP l0_0 l0_1 i = false) := ⟨by unfold okP okP1; rw [← HX.out]; rw [decide_eq_true (show p.f3 > p.f2 from h5)]; simp⟩
             go_quiet ((go_at_call 47; exact Calls.quiet_of ((ledger_known.calls _ _ _ K0.out).mono (fun _ _ h_ => ⟨h_.1, h_.2.out⟩))))
             go_wp2_with fail
             go_meet
             case rel => exact ⟨by rw [HP.out]; rfl, ⟨ST.out.drewN _⟩⟩
            ·have d5 : decide (p.f2 < p.f3) = false := decide_eq_false h5
             have HK1 : Aside0 (okP1 l0_0 i = true) := ⟨by unfold okP1; rw [← HX.out, l0, u0, HNZ.out, PV.out, d4, decide_eq_false (show ¬ p.f3 > p.f2 from h5)]; rfl⟩
             have HLK := Aside0.mk (ledger_Check.look_eq l0_0 l0_1 i HLT.out OK.out HK1.out)
             have HIN : Aside0 (inI p.f0) := ⟨inI_small lo0 hi0⟩
             rw [← HX.out] at HLK
             obtain ⟨s, hs⟩ : ∃ s, s = (G2 l0_0 l0_1 i p.f0).getD z47 := ⟨_, rfl⟩
             rw [← hs] at HLK
             have HS := Aside0.mk hs
             clear hs
             have hlook : ∀ n, (Instr.lookup 97 (.map (some gm)) (.int .i64 p.f0) false).run Tryd.prog (w6.drewN n) = .ok (.agg #[.int .i64 s.f0, .int .i64 s.f1, .int .i64 s.f2, .int .i64 s.f3]) (w6.drewN n) := fun n => by have := (ST.out.MG.drewN n).look HIN.out; rw [← HS.out] at this; exact this
             have HP : Aside0 ((!s.f0 == p.f0 || (!s.f1 == p.f1 || (!s.f2 == p.f2 || !s.f3 == p.f3))) = !(okP l0_0 l0_1 i)) := ⟨by unfold okP; rw [HK1.out, Bool.true_and, ← HX.out, ← HLK.out]; unfold eqP; cases (s.f0 == p.f0) <;> cases (s.f1 == p.f1) <;> cases (s.f2 == p.f2) <;> rfl⟩
             go_quiet ((go_at_call 47; exact Calls.quiet_of ((ledger_known.calls _ _ _ K0.out).mono (fun _ _ h_ => ⟨h_.1, h_.2.out⟩))))
             go_wp2_with fail
             go_meet
             case rel => exact ⟨congrArg Value.bool HP.out, ⟨ST.out.drewN _⟩⟩
         ·have d2 : decide (0 < i) = false := decide_eq_false h2
          have d2i : decide (0 < (i : Int)) = false := decide_eq_false (by omega)
          have PV : Aside0 ((!(decide (0 < i) && decide ((pAt l0_0 (i - 1)).f0 ≥ p.f0))) = true) := ⟨by rw [d2, Bool.false_and]; rfl⟩
          by_cases h4 : p.f1 < 0
          ·have d4 : decide (p.f1 < 0) = true := decide_eq_true h4
           have HP : Aside0 (okP l0_0 l0_1 i = false) := ⟨by unfold okP okP1; rw [← HX.out]; rw [d4]; simp⟩
           go_quiet ((go_at_call 47; exact Calls.quiet_of ((ledger_known.calls _ _ _ K0.out).mono (fun _ _ h_ => ⟨h_.1, h_.2.out⟩))))
           go_wp2_with fail
           go_meet
           case rel => exact ⟨by rw [HP.out]; rfl, ⟨ST.out.drewN _⟩⟩
          ·have d4 : decide (p.f1 < 0) = false := decide_eq_false h4
           by_cases h5 : p.f2 < p.f3
           ·have d5 : decide (p.f2 < p.f3) = true := decide_eq_true h5
            have HP : Aside0 (okP l0_0 l0_1 i = false) := ⟨by unfold okP okP1; rw [← HX.out]; rw [decide_eq_true (show p.f3 > p.f2 from h5)]; simp⟩
            go_quiet ((go_at_call 47; exact Calls.quiet_of ((ledger_known.calls _ _ _ K0.out).mono (fun _ _ h_ => ⟨h_.1, h_.2.out⟩))))
            go_wp2_with fail
            go_meet
            case rel => exact ⟨by rw [HP.out]; rfl, ⟨ST.out.drewN _⟩⟩
           ·have d5 : decide (p.f2 < p.f3) = false := decide_eq_false h5
            have HK1 : Aside0 (okP1 l0_0 i = true) := ⟨by unfold okP1; rw [← HX.out, l0, u0, HNZ.out, PV.out, d4, decide_eq_false (show ¬ p.f3 > p.f2 from h5)]; rfl⟩
            have HLK := Aside0.mk (ledger_Check.look_eq l0_0 l0_1 i HLT.out OK.out HK1.out)
            have HIN : Aside0 (inI p.f0) := ⟨inI_small lo0 hi0⟩
            rw [← HX.out] at HLK
            obtain ⟨s, hs⟩ : ∃ s, s = (G2 l0_0 l0_1 i p.f0).getD z47 := ⟨_, rfl⟩
            rw [← hs] at HLK
            have HS := Aside0.mk hs
            clear hs
            have hlook : ∀ n, (Instr.lookup 97 (.map (some gm)) (.int .i64 p.f0) false).run Tryd.prog (w6.drewN n) = .ok (.agg #[.int .i64 s.f0, .int .i64 s.f1, .int .i64 s.f2, .int .i64 s.f3]) (w6.drewN n) := fun n => by have := (ST.out.MG.drewN n).look HIN.out; rw [← HS.out] at this; exact this
            have HP : Aside0 ((!s.f0 == p.f0 || (!s.f1 == p.f1 || (!s.f2 == p.f2 || !s.f3 == p.f3))) = !(okP l0_0 l0_1 i)) := ⟨by unfold okP; rw [HK1.out, Bool.true_and, ← HX.out, ← HLK.out]; unfold eqP; cases (s.f0 == p.f0) <;> cases (s.f1 == p.f1) <;> cases (s.f2 == p.f2) <;> rfl⟩
            go_quiet ((go_at_call 47; exact Calls.quiet_of ((ledger_known.calls _ _ _ K0.out).mono (fun _ _ h_ => ⟨h_.1, h_.2.out⟩))))
            go_wp2_with fail
            go_meet
            case rel => exact ⟨congrArg Value.bool HP.out, ⟨ST.out.drewN _⟩⟩
       ·have u0 : decide (p.f0 ≤ 1024) = false := decide_eq_false hi0
        have K0 : Aside0 (ledger_known.f p.f0 = some false) := ⟨by unfold ledger_known.f; rw [if_pos (show p.f0 ≥ 1 from lo0), u0]⟩
        have HP : Aside0 (okP l0_0 l0_1 i = false) := ⟨by unfold okP okP1; rw [← HX.out]; rw [u0]; simp⟩
        go_quiet ((go_at_call 47; exact Calls.quiet_of ((ledger_known.calls _ _ _ K0.out).mono (fun _ _ h_ => ⟨h_.1, h_.2.out⟩))))
        go_wp2_with fail
        go_meet
        case rel => exact ⟨by rw [HP.out]; rfl, ⟨ST.out.drewN _⟩⟩
      ·have l0 : decide (1 ≤ p.f0) = false := decide_eq_false lo0
       have K0 : Aside0 (ledger_known.f p.f0 = some false) := ⟨by unfold ledger_known.f; rw [if_neg (show ¬ p.f0 ≥ 1 from lo0)]⟩
       have HP : Aside0 (okP l0_0 l0_1 i = false) := ⟨by unfold okP okP1; rw [← HX.out]; rw [l0]; simp⟩
       go_quiet ((go_at_call 47; exact Calls.quiet_of ((ledger_known.calls _ _ _ K0.out).mono (fun _ _ h_ => ⟨h_.1, h_.2.out⟩))))
       go_wp2_with fail
       go_meet
       case rel => exact ⟨by rw [HP.out]; rfl, ⟨ST.out.drewN _⟩⟩
     case rest =>
      clear ST hp0 hp1 hp2 hp3
      obtain ⟨rfl, ST⟩ := hcut
      by_cases hok2 : okP l0_0 l0_1 i = true
      ·have HOK := Aside0.mk hok2
       have HIN : Aside0 (inI p.f0) := ⟨by have h2 := hok2; unfold okP okP1 at h2; rw [← HX.out] at h2; simp only [Bool.and_eq_true, decide_eq_true_eq] at h2; exact inI_small h2.1.1 h2.1.2.1⟩
       have e1 : (!okP l0_0 l0_1 i) = false := by rw [hok2]; rfl
       rw [e1]
       clear e1 hok2
       have hp0 : wc.cell? ⟨gp, 0, none⟩ = some (.int .i64 p.f0) := (blk_cell ST.out.BP 0).trans rfl
       go_wp2_with (first | (at_delete; refine wpList_delG _ rfl _ _ rfl gm l0_1.length (G2 l0_0 l0_1 i) rfl ST.out.MG p.f0 rfl HIN.out ?_; intro w9 hm9 hg9; have MG9 := Aside0.mk hm9; have HG9 := Aside0.mk hg9; clear hm9 hg9))
       go_roundg kq
       case measure => exact Nat.lt_succ_self _
       case rel => exact ⟨i + 1, HLT.out, by have := HKQ.out; omega, num_next (by have := HL.out; have := HLT.out; omega), blk_grown ST.out.BB HG9.out (by simpa using GM.out.1), by rw [← G2_step l0_0 l0_1 i HLT.out, ← HX.out]; exact MG9.out, pw_below_grown ST.out.HB _ ST.out.HB.size HG9.out (by rintro _ ⟨⟩; exact GM.out.2), upto_next OK.out HOK.out⟩
      ·have HG : Aside0 (r = 9) := ⟨by rw [← HR.out, goodL_p i HLT.out (Bool.eq_false_iff.mpr hok2)]; rfl⟩
       have e1 : (!okP l0_0 l0_1 i) = true := by rw [Bool.eq_false_iff.mpr hok2]; rfl
       rw [e1]
       clear e1 hok2
       go_wp2_with fail
       go_ret
       exact ⟨by rw [HG.out]; rfl, ST.out.HB⟩
    ·obtain ⟨n, hn⟩ : ∃ n, n = l0_0.length := ⟨_, rfl⟩
     obtain rfl : i = n := by omega
     have HN := Aside0.mk hn
     have t1 : decide ((i : Int) < (l0_0.length : Int)) = false := decide_eq_false (by omega)
     have t1n : decide (i < l0_0.length) = false := decide_eq_false hlt
     have OKP : Aside0 (∀ j, j < l0_0.length → okP l0_0 l0_1 j = true) := ⟨fun j hj => OK.out j (by omega)⟩
     have GRR : Aside0 (w.heap.size ≤ wr.heap.size ∧ gm ≠ wr.heap.size) := ⟨HB.out.size, Nat.ne_of_lt MG.out.lt⟩
     obtain ⟨gr, hgr⟩ : ∃ gr, gr = wr.heap.size := ⟨_, rfl⟩
     rw [← hgr] at GRR
     have HGR := Aside0.mk hgr
     clear hn hlt hi OK hgr
     go_wp2_with (first | (at_range; refine wpList_rangeG _ rfl _ rfl gm l0_1.length (G2 l0_0 l0_1 i) rfl MG.out ?_; rw [← HGR.out]; intro w0 cnt0 hrg0 hg0 hs0; have RG := Aside0.mk hrg0; have HB0 : Aside0 (Below w.heap.size w w0) := ⟨pw_below_grown HB.out none HB.out.size hg0 (by simp)⟩; clear hrg0 hg0 hs0))
     go_frame
     clear t1 t1n BB MG HB HGR
     go_loopg [10] (cnt0 + 1) (fun kq v10 wr => ledger_Check.Rel3 w gm gr l0_1.length (G2 l0_0 l0_1 i) kq v10 wr)
     case atStart => exact ⟨cnt0, Nat.lt_succ_self _, RG.out, HB0.out⟩
     case round =>
      clear RG HB0
      obtain ⟨cnt, hc, hrg, hb⟩ := hrel
      have RG := Aside0.mk hrg
      have HB := Aside0.mk hb
      have HCN := Aside0.mk hc
      clear hrg hb hc
      obtain ⟨kq, rfl⟩ : ∃ q, gk = q + 1 := ⟨gk - 1, by have := HCN.out; omega⟩
      go_wp2_with (first | (at_next; refine wpList_nextG _ rfl _ rfl gm gr l0_1.length (G2 l0_0 l0_1 i) cnt rfl RG.out ?_ ?_))
      ·intro hdone
       have HG : Aside0 (r = 0) := ⟨by rw [← HR.out, ledger_Check.good_of l0_0 l0_1 HL.out.1 HL.out.2 OKX.out OKP.out (by rw [← HN.out]; exact hdone)]; rfl⟩
       clear hdone
       go_wp2_with fail
       go_ret
       exact ⟨by rw [HG.out]; rfl, HB.out⟩
      ·intro x p w2 cnt2 hin hGx hnx hlt2 hg2 hs2 hen
       unfold pcells at hen
       have HB2 : Aside0 (Below w.heap.size w w2) := ⟨pw_below_grown HB.out _ HB.out.size hg2 (by rintro _ ⟨⟩; exact GRR.out.1)⟩
       have LT3 : Aside0 (gm < w2.heap.size ∧ gr < w2.heap.size) := ⟨by rw [hs2]; exact RG.out.lt1, by rw [hs2]; exact RG.out.lt2⟩
       have HIN := Aside0.mk hin
       have HGX := Aside0.mk hGx
       have HNX := Aside0.mk hnx
       have HLT2 := Aside0.mk hlt2
       clear hin hGx hnx hlt2 hg2 hs2 RG HB
       unfold pcells
       go_upto_region 26 with (first | ((with_reducible refine gate_dst (N := 11) rfl ?_); refine box_event ?hg (N := 11) ?hd (cs := #[.int .i64 0, .int .i64 0, .int .i64 0, .int .i64 0]) (t := 47) ?hr ?_; (case hd => rfl); (case hg => rfl); (case hr => first | (go_simp; done) | (go_simp; rfl)); intro gp hgp w3 hbox hb; have GP : Aside0 (gm ≠ gp ∧ gr ≠ gp ∧ w.heap.size ≤ gp) := ⟨by rw [hgp]; exact Nat.ne_of_lt LT3.out.1, by rw [hgp]; exact Nat.ne_of_lt LT3.out.2, by rw [hgp]; exact HB2.out.size⟩; have KB3 := Aside0.mk (KeepBut.of_below hb gp none); have BP := Aside0.mk hbox; have HB3 := Aside0.mk (below_step HB2.out hb); have hz0 := (blk_cell hbox 0).trans rfl; have hz1 := (blk_cell hbox 1).trans rfl; have hz2 := (blk_cell hbox 2).trans rfl; have hz3 := (blk_cell hbox 3).trans rfl; have hf0 := blk_frozen hbox 0; have hf1 := blk_frozen hbox 1; have hf2 := blk_frozen hbox 2; have hf3 := blk_frozen hbox 3; clear hbox hb hgp))
       clear hen
       have KB4 : Aside0 (KeepBut w2 ((((w3.setCell ⟨gp, 0, none⟩ (.int .i64 p.f0)).setCell ⟨gp, 1, none⟩ (.int .i64 p.f1)).setCell ⟨gp, 2, none⟩ (.int .i64 p.f2)).setCell ⟨gp, 3, none⟩ (.int .i64 p.f3)) gp none) := ⟨(((KB3.out.set_ 0 _).set_ 1 _).set_ 2 _).set_ 3 _⟩
       have BP2 : Aside0 (((((w3.setCell ⟨gp, 0, none⟩ (.int .i64 p.f0)).setCell ⟨gp, 1, none⟩ (.int .i64 p.f1)).setCell ⟨gp, 2, none⟩ (.int .i64 p.f2)).setCell ⟨gp, 3, none⟩ (.int .i64 p.f3)).heap[gp]? = some (.cells (pcells p) 47 (0, 0))) := ⟨set4B BP.out (.int .i64 p.f0) (.int .i64 p.f1) (.int .i64 p.f2) (.int .i64 p.f3)⟩
       have HB4 : Aside0 (Below w.heap.size w ((((w3.setCell ⟨gp, 0, none⟩ (.int .i64 p.f0)).setCell ⟨gp, 1, none⟩ (.int .i64 p.f1)).setCell ⟨gp, 2, none⟩ (.int .i64 p.f2)).setCell ⟨gp, 3, none⟩ (.int .i64 p.f3))) := ⟨set4W HB3.out GP.out.2.2 (.int .i64 p.f0) (.int .i64 p.f1) (.int .i64 p.f2) (.int .i64 p.f3)⟩
       clear hz0 hz1 hz2 hz3 hf0 hf1 hf2 hf3 BP KB3 HB3
       obtain ⟨w7, hw7⟩ : ∃ w7, w7 = ((((w3.setCell ⟨gp, 0, none⟩ (.int .i64 p.f0)).setCell ⟨gp, 1, none⟩ (.int .i64 p.f1)).setCell ⟨gp, 2, none⟩ (.int .i64 p.f2)).setCell ⟨gp, 3, none⟩ (.int .i64 p.f3)) := ⟨_, rfl⟩
       rw [← hw7] at KB4 BP2 HB4 ⊢
       clear hw7
       have hp0 : w7.cell? ⟨gp, 0, none⟩ = some (.int .i64 p.f0) := (blk_cell BP2.out 0).trans rfl
       have hp1 : w7.cell? ⟨gp, 1, none⟩ = some (.int .i64 p.f1) := (blk_cell BP2.out 1).trans rfl
       have hp2 : w7.cell? ⟨gp, 2, none⟩ = some (.int .i64 p.f2) := (blk_cell BP2.out 2).trans rfl
       have hp3 : w7.cell? ⟨gp, 3, none⟩ = some (.int .i64 p.f3) := (blk_cell BP2.out 3).trans rfl
       by_cases hz : p = zeroP x
       ·obtain ⟨z0, z1, z2, z3⟩ : p.f0 = x ∧ p.f1 = 0 ∧ p.f2 = 0 ∧ p.f3 = 0 := by rw [hz]; exact ⟨rfl, rfl, rfl, rfl⟩
        have b0 : (p.f0 == x) = true := beq_iff_eq.mpr z0
        have b1 : (p.f1 == 0) = true := beq_iff_eq.mpr z1
        have b2 : (p.f2 == 0) = true := beq_iff_eq.mpr z2
        have b3 : (p.f3 == 0) = true := beq_iff_eq.mpr z3
        have RG2 : Aside0 (RangeG w7 gm gr l0_1.length (G2 l0_0 l0_1 i) cnt2) := ⟨(HNX.out hz).keep KB4.out GP.out.1 GP.out.2.1⟩
        clear hz z0 z1 z2 z3
        go_wp2_with fail
        go_roundg kq
        case measure => exact Nat.lt_succ_self _
        case rel => exact ⟨cnt2, by have := HCN.out; have := HLT2.out; omega, RG2.out, HB4.out⟩
       ·have HG : Aside0 (r = 9) := ⟨by rw [← HR.out, ledger_Check.bad_of l0_0 l0_1 x p (by rw [← HN.out]; exact HGX.out) hz]; rfl⟩
        have hq : (eqP p (zeroP x)) = false := Bool.eq_false_iff.mpr (fun h => hz ((eqP_iff _ _).mp h))
        have e1 : (!p.f0 == x || (!p.f1 == 0 || (!p.f2 == 0 || !p.f3 == 0))) = true := by unfold eqP zeroP at hq; revert hq; cases (p.f0 == x) <;> cases (p.f1 == 0) <;> cases (p.f2 == 0) <;> cases (p.f3 == 0) <;> simp
        have E1 := Aside0.mk e1
        clear hz hq e1
        go_upto_if 145 with (fail)
        rw [E1.out]
        go_wp2_with fail
        go_ret
        exact ⟨by rw [HG.out]; rfl, HB4.out⟩
end Go.Proofs.YtdiopojnkjkgmaaDoor.Print
namespace Go.Proofs.YtdiopojnkjkgmaaDoor.Print
open Go.RowKit Go.Proofs.YtdiopojnkjkgmaaDoorW.PrintWords Go.Proofs.YtdiopojnkjkgmaaDoorW.PrintLast Go.Proofs.YtdiopojnkjkgmaaDoorW.PrintMore
attribute [local go_sem] max2_mx min2_mn max_two min_two max_three min_three max_four min_four
set_option linter.unusedVariables false
set_option linter.unusedSimpArgs false
def api_Pay_45.f (l0 : List S47) : Option (List S47) := if l0.length * 32 ≤ 140737488355328 then some l0 else none
set_option maxHeartbeats 4000000 in
set_option maxRecDepth 100000 in
theorem api_Pay_45.calls (A0 : Option Addr) (c0 : Nat) (l0 : List (S47)) (r : List (S47)) (w : World) (hr0 : Kd.C k47 w A0 l0.length l0) (hc0 : l0.length ≤ c0) (h : api_Pay_45.f l0 = some r) :
  Calls Tryd.prog 45 #[.slice A0 l0.length c0] w fun e w' => ∃ v0_ : Value, e = .returned v0_ ∧ Kd.R k47 47 w' w.heap.size (fun _ => True) v0_ r ∧ Below w.heap.size w w' := by
 unfold api_Pay_45.f at h
 split at h
 case isFalse => cases h
 case isTrue hbig =>
 obtain rfl := Option.some.inj h
 have qS : ∀ (w : World) (a : Option Addr) (n c : Nat), (binOp .eql 32 (.slice a n c) (.slice none 0 0)).run Tryd.prog w = .ok (.bool a.isNone) w := fun w a n c => Lib.run_eql_slice_nil w _ _ a n c 0 0 Tryd.underlying32
 have HR := Aside0.mk hr0
 have HC := Aside0.mk hc0
 cases A0 with
 | none =>
  have hn : l0.length = 0 := by
   rcases Nat.eq_zero_or_pos l0.length with h0 | h0
   ·exact h0
   ·obtain ⟨_, h, _⟩ := hr0.2.2 h0; cases h
  obtain rfl : l0 = [] := List.eq_nil_of_length_eq_zero hn
  clear hr0 hc0 hn
  go_enter Tryd.func45, Tryd.ntmps45
  go_wp2
  go_ret
  exact ⟨_, rfl, Kd.R_nil _ _ _ _ _, Below.refl _ _⟩
 | some ad =>
  clear hr0 hc0
  obtain ⟨W1, hW1⟩ : ∃ W1, W1 = w.alloc (.cells #[] 47) := ⟨_, rfl⟩
  have hO : Kd.R k47 47 W1 w.heap.size (fun _ => True) (.slice (some ⟨w.heap.size, 0, none⟩) 0 0) [] := by
   refine ⟨fun _ _ => trivial, [], ⟨rfl, .inr ⟨w.heap.size, 0, #[], rfl, Nat.le_refl _, ?_, Nat.le_refl _, by simp only [maxLen]; omega, rfl, rfl⟩⟩, Reps.none _ _⟩
   rw [hW1]; exact heap_alloc_new w _
  have hB : Below w.heap.size w W1 := by rw [hW1]; exact below_alloc (Below.refl _ _) _
  have HO := Aside0.mk hO
  have HB := Aside0.mk hB
  have HS : Aside0 (w.heap.size ≤ W1.heap.size) := ⟨hB.size⟩
  have HC1 : Aside0 (Kd.C k47 W1 (some ad) l0.length l0) := ⟨Kd.C_below HR.out hB⟩
  clear hO hB
  subst hW1
  go_enter Tryd.func45, Tryd.ntmps45
  go_wp2_with (at_builtin; (refine Kd.R_append_rows k47 (w0 := w) w.heap.size rfl _ _ 32 47 _ 32 rfl Tryd.underlying32 info47 rfl (by decide) (by decide) _ [] l0 (some ad) l0.length c0 (fun _ => True) (fun _ => False) rfl rfl HO.out HC1.out (fun x cs hK => hK) (fun _ hk => hk.elim) (fun _ _ => trivial) HB.out HS.out (by simpa using hbig) ?_); rintro v1 w1 ho hb hg hat)
  go_ret
  exact ⟨v1, rfl, ho, hb⟩
end Go.Proofs.YtdiopojnkjkgmaaDoor.Print
namespace Go.Proofs.YtdiopojnkjkgmaaDoor.Print
open Go.RowKit Go.Proofs.YtdiopojnkjkgmaaDoorW.PrintWords Go.Proofs.YtdiopojnkjkgmaaDoorW.PrintLast Go.Proofs.YtdiopojnkjkgmaaDoorW.PrintMore
attribute [local go_sem] max2_mx min2_mn max_two min_two max_three min_three max_four min_four
set_option linter.unusedVariables false
set_option linter.unusedSimpArgs false
def api_Posting.f (l0 : List S69) : Option (List S69) := if l0.length * 24 ≤ 140737488355328 then some l0 else none
set_option maxHeartbeats 4000000 in
set_option maxRecDepth 100000 in
theorem api_Posting.calls (A0 : Option Addr) (c0 : Nat) (l0 : List (S69)) (r : List (S69)) (w : World) (hr0 : Kd.C k69 w A0 l0.length l0) (hc0 : l0.length ≤ c0) (h : api_Posting.f l0 = some r) :
  Calls Tryd.prog 46 #[.slice A0 l0.length c0] w fun e w' => ∃ v0_ : Value, e = .returned v0_ ∧ Kd.R k69 69 w' w.heap.size (fun _ => True) v0_ r ∧ Below w.heap.size w w' := by
 unfold api_Posting.f at h
 split at h
 case isFalse => cases h
 case isTrue hbig =>
 obtain rfl := Option.some.inj h
 have qS : ∀ (w : World) (a : Option Addr) (n c : Nat), (binOp .eql 33 (.slice a n c) (.slice none 0 0)).run Tryd.prog w = .ok (.bool a.isNone) w := fun w a n c => Lib.run_eql_slice_nil w _ _ a n c 0 0 Tryd.underlying33
 have HR := Aside0.mk hr0
 have HC := Aside0.mk hc0
 cases A0 with
 | none =>
  have hn : l0.length = 0 := by
   rcases Nat.eq_zero_or_pos l0.length with h0 | h0
   ·exact h0
   ·obtain ⟨_, h, _⟩ := hr0.2.2 h0; cases h
  obtain rfl : l0 = [] := List.eq_nil_of_length_eq_zero hn
  clear hr0 hc0 hn
  go_enter Tryd.func46, Tryd.ntmps46
  go_wp2
  go_ret
  exact ⟨_, rfl, Kd.R_nil _ _ _ _ _, Below.refl _ _⟩
 | some ad =>
  clear hr0 hc0
  obtain ⟨W1, hW1⟩ : ∃ W1, W1 = w.alloc (.cells #[] 69) := ⟨_, rfl⟩
  have hO : Kd.R k69 69 W1 w.heap.size (fun _ => True) (.slice (some ⟨w.heap.size, 0, none⟩) 0 0) [] := by
   refine ⟨fun _ _ => trivial, [], ⟨rfl, .inr ⟨w.heap.size, 0, #[], rfl, Nat.le_refl _, ?_, Nat.le_refl _, by simp only [maxLen]; omega, rfl, rfl⟩⟩, Reps.none _ _⟩
   rw [hW1]; exact heap_alloc_new w _
  have hB : Below w.heap.size w W1 := by rw [hW1]; exact below_alloc (Below.refl _ _) _
  have HO := Aside0.mk hO
  have HB := Aside0.mk hB
  have HS : Aside0 (w.heap.size ≤ W1.heap.size) := ⟨hB.size⟩
  have HC1 : Aside0 (Kd.C k69 W1 (some ad) l0.length l0) := ⟨Kd.C_below HR.out hB⟩
  clear hO hB
  subst hW1
  go_enter Tryd.func46, Tryd.ntmps46
  go_wp2_with (at_builtin; (refine Kd.R_append_rows k69 (w0 := w) w.heap.size rfl _ _ 33 69 _ 24 rfl Tryd.underlying33 info69 rfl (by decide) (by decide) _ [] l0 (some ad) l0.length c0 (fun _ => True) (fun _ => False) rfl rfl HO.out HC1.out (fun x cs hK => hK) (fun _ hk => hk.elim) (fun _ _ => trivial) HB.out HS.out (by simpa using hbig) ?_); rintro v1 w1 ho hb hg hat)
  go_ret
  exact ⟨v1, rfl, ho, hb⟩
end Go.Proofs.YtdiopojnkjkgmaaDoor.Print
namespace Go.Proofs.YtdiopojnkjkgmaaDoor.Print
open Go.RowKit Go.Proofs.YtdiopojnkjkgmaaDoorW.PrintWords Go.Proofs.YtdiopojnkjkgmaaDoorW.PrintLast Go.Proofs.YtdiopojnkjkgmaaDoorW.PrintMore
attribute [local go_sem] max2_mx min2_mn max_two min_two max_three min_three max_four min_four
set_option linter.unusedVariables false
set_option linter.unusedSimpArgs false
structure Bk (w0 W : World) (g : Nat) (vp vq : Value) (ps : List S47) (qs : List S69) (why : Int) : Prop where
 blk : W.heap[g]? = some (.cells #[vp, vq, .int .i64 why] 76 (0, 0))
 hg : w0.heap.size ≤ g
 rp : Kd.R k47 47 W w0.heap.size (fun _ => True) vp ps
 rq : Kd.R k69 69 W w0.heap.size (fun _ => True) vq qs
 hb : Below w0.heap.size w0 W
section
variable {w0 w1 W W1 : World} {g : Nat} {vp vq : Value} {ps : List S47} {qs : List S69} {why : Int}
theorem Bk.below (h : Bk w0 W g vp vq ps qs why) (hb : Below W.heap.size W W1) : Bk w0 W1 g vp vq ps qs why := ⟨blk_below h.blk hb, h.hg, Kd.R_below h.rp hb, Kd.R_below h.rq hb, below_step h.hb hb⟩
theorem Bk.drewN (h : Bk w0 W g vp vq ps qs why) (n : Nat) : Bk w0 (W.drewN n) g vp vq ps qs why := h.below (pw_below_drewN (Below.refl _ _) n)
theorem Bk.lower (h : Bk w1 W g vp vq ps qs why) (hb : Below w0.heap.size w0 w1) : Bk w0 W g vp vq ps qs why := ⟨h.blk, Nat.le_trans hb.size h.hg, Kd.R_lower h.rp hb.size, Kd.R_lower h.rq hb.size, below_step hb h.hb⟩
theorem Bk.setWhy (h : Bk w0 W g vp vq ps qs why) (c : Int) : Bk w0 (W.setCell ⟨g, 2, none⟩ (.int .i64 c)) g vp vq ps qs c := ⟨blk_put h.blk 2 _ rfl, h.hg, Kd.R_set h.rp h.blk (by decide) 2 _, Kd.R_set h.rq h.blk (by decide) 2 _, below_set h.hb h.hg⟩
theorem Bk.far (h : Bk w0 W g vp vq ps qs why) {b : Nat} (hb : w0.heap.size ≤ b) (hne : g ≠ b) (hp : ∀ k, vp.ownBlock = some k → k ≠ b) (hq : ∀ k, vq.ownBlock = some k → k ≠ b) (i : Nat) (u : Value) : Bk w0 (W.setCell ⟨b, i, none⟩ u) g vp vq ps qs why :=
 ⟨blk_far h.blk hne u, h.hg, Kd.R_mono (Kd.R_far (p := ⟨b, i, none⟩) (Kd.R_tight rfl h.rp) (fun k hk => hp k hk.symm) u) (fun _ _ => trivial), Kd.R_mono (Kd.R_far (p := ⟨b, i, none⟩) (Kd.R_tight rfl h.rq) (fun k hk => hq k hk.symm) u) (fun _ _ => trivial), below_set h.hb hb⟩
theorem Bk.far_type (h : Bk w0 W g vp vq ps qs why) {b t : Nat} {cs : Array Value} (hb : w0.heap.size ≤ b) (hx : W.heap[b]? = some (.cells cs t (0, 0))) (h1 : 76 ≠ t) (h2 : 47 ≠ t) (h3 : 69 ≠ t) (i : Nat) (u : Value) : Bk w0 (W.setCell ⟨b, i, none⟩ u) g vp vq ps qs why :=
 ⟨blk_far h.blk (blk_ne h.blk hx h1) u, h.hg, Kd.R_set h.rp hx (by simpa [k47, Kd.iso, Kd.pair, Kd.int, Kd.scalar] using h2) i u, Kd.R_set h.rq hx (by simpa [k69, Kd.iso, Kd.pair, Kd.int, Kd.scalar] using h3) i u, below_set h.hb hb⟩
def BkS (g : Nat) (vp vq : Value) (k : Nat) : Prop := k = g ∨ some k = vp.ownBlock ∨ some k = vq.ownBlock
theorem Bk.other (h : Bk w0 W g vp vq ps qs why) {b t : Nat} {cs : Array Value} (hx : W.heap[b]? = some (.cells cs t (0, 0))) (h1 : 76 ≠ t) (h2 : 47 ≠ t) (h3 : 69 ≠ t) : ¬ BkS g vp vq b := by
 rintro (rfl | hp | hq)
 ·exact absurd rfl (blk_ne h.blk hx h1)
 ·exact Kd.R_ne h.rp hx h2 hp
 ·exact Kd.R_ne h.rq hx h3 hq
end
def unl (why : Int) (is : Bool) (c : Int) : Int := if why = 0 ∧ is = true then c else why
set_option maxHeartbeats 2000000 in
set_option maxRecDepth 100000 in
theorem ledger_book_unless.row (w0 : World) (g : Nat) (vp vq : Value) (ps : List S47) (qs : List S69) (why : Int) (is : Bool) (c : Int) (w : World) (hk : Bk w0 w g vp vq ps qs why) :
  Calls Tryd.prog 25 #[.pointer (some ⟨g, 0, none⟩), .bool is, .int .i64 c] w fun e w' => e = .returned (.tuple #[]) ∧ Bk w0 w' g vp vq ps qs (unl why is c) ∧ Kept w w' (fun k => k = g) := by
 have HK := Aside0.mk hk
 have h2 := (blk_cell hk.blk 2).trans rfl
 have hf := blk_frozen hk.blk 2
 clear hk
 by_cases hw : why = 0
 ·have e1 : (why == 0) = true := beq_iff_eq.mpr hw
  have e2 : (why != 0) = false := bne_eq_false_iff_eq.mpr hw
  have HW := Aside0.mk hw
  clear hw
  cases is with
  | true =>
   have HU : Aside0 (unl why true c = c) := ⟨if_pos ⟨HW.out, rfl⟩⟩
   go_enter Tryd.func25, Tryd.ntmps25
   go_wp2
   first | go_end0 | ((try simp only [Exit.inBlock, Exit.then]); refine bodyPost_ret (results_none rfl _ _ _) rfl ?_)
   exact ⟨rfl, by rw [HU.out]; exact HK.out.setWhy c, ⟨by simp, fun i hi hn => Below.heap_setCell _ _ _ i hn⟩⟩
  | false =>
   have HU : Aside0 (unl why false c = why) := ⟨if_neg (by simp)⟩
   go_enter Tryd.func25, Tryd.ntmps25
   go_wp2
   first | go_end0 | ((try simp only [Exit.inBlock, Exit.then]); refine bodyPost_ret (results_none rfl _ _ _) rfl ?_)
   exact ⟨rfl, by rw [HU.out]; exact HK.out, Kept.refl _ _⟩
 ·have e1 : (why == 0) = false := beq_eq_false_iff_ne.mpr hw
  have e2 : (why != 0) = true := bne_iff_ne.mpr hw
  have HU : Aside0 (unl why is c = why) := ⟨if_neg (fun h => hw h.1)⟩
  clear hw
  go_enter Tryd.func25, Tryd.ntmps25
  go_wp2
  first | go_end0 | ((try simp only [Exit.inBlock, Exit.then]); refine bodyPost_ret (results_none rfl _ _ _) rfl ?_)
  exact ⟨rfl, by rw [HU.out]; exact HK.out, Kept.refl _ _⟩
end Go.Proofs.YtdiopojnkjkgmaaDoor.Print
namespace Go.Proofs.YtdiopojnkjkgmaaDoor.Print
open Go.RowKit Go.Proofs.YtdiopojnkjkgmaaDoorW.PrintWords Go.Proofs.YtdiopojnkjkgmaaDoorW.PrintLast Go.Proofs.YtdiopojnkjkgmaaDoorW.PrintMore
attribute [local go_sem] max2_mx min2_mn max_two min_two max_three min_three max_four min_four
set_option linter.unusedVariables false
set_option linter.unusedSimpArgs false
theorem ledger_open.known_no {n : Int} (hn : ¬ (1 ≤ n ∧ n ≤ 1024)) : ledger_known.f n = some false := by
 unfold ledger_known.f
 by_cases h_ : n ≥ 1
 ·rw [if_pos h_, decide_eq_false (fun h => hn ⟨h_, h⟩)]
 ·rw [if_neg h_]
def opW (ps : List S47) (qs : List S69) (n : Int) : Int := if goodL ps qs = true then (if 1 ≤ n ∧ n ≤ 1024 then 0 else 2) else 9
def ledger_open.T2 : Bool × List (List Nat × List Nat) := (true, [([], []), ([], []), ([], []), ([2], [2]), ([3], [3]), ([], []), ([5], [5]), ([6, 4], [6]), ([0, 0, 2, 3, 4, 7], [0]), ([8, 0, 2, 3, 4, 7], [8]), ([9, 0, 2, 3, 4, 7], [9]), ([10, 4, 7, 0, 2, 3, 4, 7], [4, 10]), ([1, 0, 1, 2, 3, 4, 5, 6, 7, 8, 9, 10, 11], [1]), ([12, 0, 1, 2, 3, 4, 5, 6, 7, 8, 9, 10, 11], [12]), ([13, 0, 1, 2, 3, 4, 5, 6, 7, 8, 9, 10, 11], [13]), ([14, 7, 11, 0, 1, 2, 3, 4, 5, 6, 7, 8, 9, 10, 11], [7, 14])])
def ledger_open.B2 : List Nat := [0, 0, 0, 4, 12, 0, 32, 124, 253, 509, 1021, 2045, 4095, 8191, 16383, 32767]
theorem ledger_open.tab2 : rtab .any (opsOf Tryd.f24 2) = ledger_open.T2 := by kernel_rfl
theorem ledger_open.bits2 : waitsOk ledger_open.T2.2 ledger_open.B2 = true := by kernel_rfl
set_option maxHeartbeats 4000000 in
set_option maxRecDepth 100000 in
theorem ledger_open.row (A0_0 : Option Addr) (c0_0 : Nat) (l0_0 : List (S47)) (A0_1 : Option Addr) (c0_1 : Nat) (l0_1 : List (S69)) (n : Int) (w : World) (hr0_0 : Kd.C k47 w A0_0 l0_0.length l0_0) (hc0_0 : l0_0.length ≤ c0_0) (hr0_1 : Kd.C k69 w A0_1 l0_1.length l0_1) (hc0_1 : l0_1.length ≤ c0_1) (h1 : l0_0.length * 32 ≤ 140737488355328) (h2 : l0_1.length * 24 ≤ 140737488355328) :
  Calls Tryd.prog 24 #[.agg #[.slice A0_0 l0_0.length c0_0, .slice A0_1 l0_1.length c0_1], .int .i64 n] w fun e w' => ∃ (g : Nat) (vp vq : Value), e = .returned (.pointer (some ⟨g, 0, none⟩)) ∧ Bk w w' g vp vq l0_0 l0_1 (opW l0_0 l0_1 n) := by
 have hu25 := Tryd.underlying35
 have hu58 := Tryd.underlying76
 have HR0 := Aside0.mk hr0_0
 have HC0 := Aside0.mk hc0_0
 have HR1 := Aside0.mk hr0_1
 have HC1 := Aside0.mk hc0_1
 have CL0 : Aside0 (api_Pay_45.f l0_0 = some l0_0) := ⟨if_pos h1⟩
 have CL1 : Aside0 (api_Posting.f l0_1 = some l0_1) := ⟨if_pos h2⟩
 clear hr0_0 hc0_0 hr0_1 hc0_1 h1 h2
 obtain ⟨c, hc⟩ : ∃ c : Int, c = if goodL l0_0 l0_1 = true then 0 else 9 := ⟨_, rfl⟩
 have CH : Aside0 (ledger_Check.f l0_0 l0_1 = some c) := ⟨by rw [hc]; rfl⟩
 have HCV := Aside0.mk hc
 clear hc
 go_enter Tryd.func24, Tryd.ntmps24
 go_wp2_with (first | ((with_reducible refine gate_dst (N := 2) rfl ?_); refine box_event ?hg (N := 2) ?hd (cs := #[.slice A0_0 l0_0.length c0_0, .slice A0_1 l0_1.length c0_1]) (t := 35) ?hr ?_; (case hd => rfl); (case hg => rfl); (case hr => first | (go_simp; done) | (go_simp; rfl)); intro gb hgb w1 hbox hb; have BB := Aside0.mk hbox; have HB := Aside0.mk hb; have GB : Aside0 (w.heap.size ≤ gb) := ⟨by rw [hgb]; exact Nat.le_refl _⟩; have hb0 := (blk_cell hbox 0).trans rfl; have hb1 := (blk_cell hbox 1).trans rfl; clear hbox hb hgb))
 refine (ledger_Check.calls A0_0 c0_0 l0_0 A0_1 c0_1 l0_1 c _ (Kd.C_below HR0.out HB.out) HC0.out (Kd.C_below HR1.out HB.out) HC1.out CH.out).mono ?_
 rintro e w2 ⟨rfl, hb2⟩
 have BB2 := Aside0.mk (blk_below BB.out hb2)
 have HB2 := Aside0.mk (below_step HB.out hb2)
 clear hb0 hb1 hb2 BB HB CH
 go_upto_region 2 with (first | ((with_reducible refine gate_dst (N := 9) rfl ?_); refine box_event ?hg (N := 9) ?hd (cs := #[.slice none 0 0, .slice none 0 0, .int .i64 c]) (t := 76) ?hr ?_; (case hd => rfl); (case hg => rfl); (case hr => first | (go_simp; done) | (go_simp; rfl)); intro g hg w3 hbox hb; have BG := Aside0.mk hbox; have BB := Aside0.mk (blk_below BB2.out hb); have HB := Aside0.mk (below_step HB2.out hb); have GG : Aside0 (w.heap.size ≤ g) := ⟨by rw [hg]; exact HB2.out.size⟩; clear hbox hb hg BB2 HB2))
 go_cut [] (fun wc => ∃ vp vq : Value, Aside0 (Bk w wc g vp vq l0_0 l0_1 c))
 case first =>
  have nB := Aside0.mk (blk_drew BB.out)
  have nG := Aside0.mk (blk_drew BG.out)
  have nH := Aside0.mk (below_drew1 HB.out)
  clear BB BG HB
  have BB := nB
  have BG := nG
  have HB := nH
  clear nB nG nH
  refine start_ (n := 16) (S := fun w' => w'.cell? ⟨gb, 0, none⟩ = some (.slice A0_0 l0_0.length c0_0) ∧ w'.cell? ⟨gb, 1, none⟩ = some (.slice A0_1 l0_1.length c0_1)) (ds := [15]) (zB 0 16) (by kernel_rfl) rfl rfl ⟨((blk_cell BB.out 0).trans rfl), ((blk_cell BB.out 1).trans rfl)⟩ (fun hHeld => ?_)
  refine with_tabW ledger_open.tab2 ledger_open.bits2 (fun HT_ HW_ => ?_)
  refine zpu 0 (some 10) (zB 1 15) (any_of HT_.out (by kernel_rfl)) ?_
  refine zpu 1 (some 11) (zB 2 14) (any_of HT_.out (by kernel_rfl)) ?_
  refine zpu 2 (some 12) (zB 3 13) (any_of HT_.out (by kernel_rfl)) ?_
  refine zpu 5 (some 15) #[true, true, true, false, false, true, false, false, false, false, false, false, false, false, false, false] (any_of HT_.out (by kernel_rfl)) ?_
  refine zta 3 (some 13) #[true, true, true, true, false, true, false, false, false, false, false, false, false, false, false, false] (take_ofW HT_.out HW_.out (by kernel_rfl)) hHeld ?_
  refine zta 6 (some 16) #[true, true, true, true, false, true, true, false, false, false, false, false, false, false, false, false] (take_ofW HT_.out HW_.out (by kernel_rfl)) hHeld ?_
  refine one_ (i := 4) (N := some 14) (zB 7 9) rfl rfl (one_of HT_.out (by kernel_rfl)) (by decide) (fun K hK => ?_)
  refine goes_ Tryd.func45 (by kernel_rfl) rfl #[.slice A0_0 l0_0.length c0_0] (by rfl) rfl rfl zl_ ?_
  with_reducible refine (api_Pay_45.calls A0_0 c0_0 l0_0 l0_0 _ (Kd.C_below HR0.out HB.out) HC0.out CL0.out).mono ?_
  rintro e w7 ⟨v_, rfl, ho, hb⟩
  obtain ⟨AP, cP, rfl⟩ := Kd.R_slice ho
  have nB := Aside0.mk (blk_below BB.out hb)
  have nG := Aside0.mk (blk_below BG.out hb)
  have nR := Aside0.mk (Kd.R_lower ho HB.out.size)
  have nH := Aside0.mk (below_step HB.out hb)
  clear BB BG HB ho hb
  have BB := nB
  have BG := nG
  have HB := nH
  have RP := nR
  clear nB nG nH nR
  refine ⟨_, rfl, ?_⟩
  refine hK.out _ _ ⟨((blk_cell BB.out 0).trans rfl), ((blk_cell BB.out 1).trans rfl)⟩ (fun hHeld => ?_)
  clear hK K
  refine zno 14 ?_
  refine one_ (i := 7) (N := some 17) (zB 8 8) rfl rfl (one_of HT_.out (by kernel_rfl)) (by decide) (fun K hK => ?_)
  refine goes_ Tryd.func46 (by kernel_rfl) rfl #[.slice A0_1 l0_1.length c0_1] (by rfl) rfl rfl zl_ ?_
  with_reducible refine (api_Posting.calls A0_1 c0_1 l0_1 l0_1 _ (Kd.C_below HR1.out HB.out) HC1.out CL1.out).mono ?_
  rintro e w7 ⟨v_, rfl, ho, hb⟩
  obtain ⟨AQ, cQ, rfl⟩ := Kd.R_slice ho
  have nB := Aside0.mk (blk_below BB.out hb)
  have nG := Aside0.mk (blk_below BG.out hb)
  have nR := Aside0.mk (Kd.R_lower ho HB.out.size)
  have nP := Aside0.mk (Kd.R_below RP.out hb)
  have nH := Aside0.mk (below_step HB.out hb)
  clear BB BG HB ho hb RP
  have BB := nB
  have BG := nG
  have HB := nH
  have RQ := nR
  have RP := nP
  clear nP nB nG nH nR
  refine ⟨_, rfl, ?_⟩
  refine hK.out _ _ ⟨((blk_cell BB.out 0).trans rfl), ((blk_cell BB.out 1).trans rfl)⟩ (fun hHeld => ?_)
  clear hK K
  refine zno 17 ?_
  refine zpu 8 (some 18) (zB 9 7) (any_of HT_.out (by kernel_rfl)) ?_
  refine zpu 9 (some 19) (zB 10 6) (any_of HT_.out (by kernel_rfl)) ?_
  refine zpu 10 (some 20) (zB 11 5) (any_of HT_.out (by kernel_rfl)) ?_
  refine one_ (i := 11) (N := none) (zB 12 4) rfl rfl (one_of HT_.out (by kernel_rfl)) (by decide) (fun K hK => ?_)
  have hg0 := (blk_cell BG.out 0).trans rfl
  have hf0 := blk_frozen BG.out 0
  refine skip_ (w1 := ?_) (by rfl) rfl ?_ ?_
  rotate_left
  ·go_simp
   rfl
  have BG2 := Aside0.mk (blk_put (cs' := #[.slice AP l0_0.length cP, .slice none 0 0, .int .i64 c]) BG.out 0 (.slice AP l0_0.length cP) rfl)
  have BB2 := Aside0.mk (blk_far BB.out (blk_ne BB.out BG.out (by decide)) (p := ⟨g, 0, none⟩) (.slice AP l0_0.length cP))
  have RP2 := Aside0.mk (Kd.R_set RP.out BG.out (by decide) 0 (.slice AP l0_0.length cP))
  have RQ2 := Aside0.mk (Kd.R_set RQ.out BG.out (by decide) 0 (.slice AP l0_0.length cP))
  have HB2 := Aside0.mk (below_set (j := 0) (v := .slice AP l0_0.length cP) HB.out GG.out)
  refine hK.out _ _ ⟨((blk_cell BB2.out 0).trans rfl), ((blk_cell BB2.out 1).trans rfl)⟩ (fun hHeld => ?_)
  clear hK K
  refine zpu 12 (some 21) (zB 13 3) (any_of HT_.out (by kernel_rfl)) ?_
  refine zpu 13 (some 22) (zB 14 2) (any_of HT_.out (by kernel_rfl)) ?_
  refine zpu 14 (some 23) (zB 15 1) (any_of HT_.out (by kernel_rfl)) ?_
  refine last_ (i := 15) (N := none) (zB 16 0) rfl rfl (one_of HT_.out (by kernel_rfl)) (by decide) (fun K hK => ?_)
  have hg1 := (blk_cell BG2.out 1).trans rfl
  have hf1 := blk_frozen BG2.out 1
  refine skip_ (w1 := ?_) (by rfl) rfl ?_ ?_
  rotate_left
  ·go_simp
   rfl
  refine hK.out _ _ ?_
  clear hK K
  refine done_ (done_of HT_.out (by kernel_rfl)) ?_
  go_wp2_with fail
  go_meet
  case rel => exact ⟨_, _, ⟨⟨blk_put (cs' := #[.slice AP l0_0.length cP, .slice AQ l0_1.length cQ, .int .i64 c]) BG2.out 1 (.slice AQ l0_1.length cQ) rfl, GG.out, Kd.R_set RP2.out BG2.out (by decide) 1 _, Kd.R_set RQ2.out BG2.out (by decide) 1 _, below_set HB2.out GG.out⟩⟩⟩
 case rest =>
  clear BB BG HB
  obtain ⟨vp, vq, K⟩ := hcut
  have h2 := (blk_cell K.out.blk 2).trans rfl
  have hf := blk_frozen K.out.blk 2
  by_cases hg : goodL l0_0 l0_1 = true
  ·have hc0 : c = 0 := by rw [HCV.out, if_pos hg]
   subst hc0
   have HGD := Aside0.mk hg
   clear hg HCV
   by_cases hn : 1 ≤ n ∧ n ≤ 1024
   ·have K0 : Aside0 (ledger_known.f n = some true) := ⟨by unfold ledger_known.f; rw [if_pos (show n ≥ 1 from hn.1), decide_eq_true hn.2]⟩
    have HO : Aside0 (opW l0_0 l0_1 n = 0) := ⟨by unfold opW; rw [if_pos HGD.out, if_pos hn]⟩
    clear hn
    go_wp2_with (first | (go_at_call 47; (with_reducible refine (ledger_known.calls _ _ _ K0.out).mono ?_); rintro e w' ⟨rfl, ⟨nd_, rfl⟩⟩))
    go_ret
    exact ⟨g, vp, vq, rfl, by rw [HO.out]; first | exact K.out | exact K.out.drewN _⟩
   ·have K0 : Aside0 (ledger_known.f n = some false) := ⟨ledger_open.known_no hn⟩
    have HO : Aside0 (opW l0_0 l0_1 n = 2) := ⟨by unfold opW; rw [if_pos HGD.out, if_neg hn]⟩
    clear hn
    go_wp2_with (first | (go_at_call 47; (with_reducible refine (ledger_known.calls _ _ _ K0.out).mono ?_); rintro e w' ⟨rfl, ⟨nd_, rfl⟩⟩))
    go_ret
    exact ⟨g, vp, vq, rfl, by rw [HO.out]; first | exact K.out.setWhy 2 | exact (K.out.drewN _).setWhy 2⟩
  ·have hc9 : c = 9 := by rw [HCV.out, if_neg hg]
   subst hc9
   have HO : Aside0 (opW l0_0 l0_1 n = 9) := ⟨if_neg hg⟩
   clear hg HCV
   go_wp2_with fail
   go_ret
   exact ⟨g, vp, vq, rfl, by rw [HO.out]; exact K.out⟩
end Go.Proofs.YtdiopojnkjkgmaaDoor.Print
