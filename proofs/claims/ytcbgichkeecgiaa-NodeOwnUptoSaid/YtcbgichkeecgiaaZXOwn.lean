/- Words of this session's: rows that are stored into, where nothing but numbers turns. -/
import Derived.Test.YtcbgichkeecgiaaZWWords
import Derived.Test.YtcbgichkeecgiaaZAlm
set_option linter.unusedVariables false
namespace Go.Proofs.Ytcbgichkeecgiaa.Print
open Go.RowKit Go.Proofs.YtcbgichkeecgiaaW.PrintWords Go.Proofs.YtcbgichkeecgiaaW.PrintMore
def Unm (W : World) (k : Nat) : Prop := ∃ (cs : Array Value) (q : TypeId), W.heap[k]? = some (.cells cs q (0, 0))
theorem R_VU {α : Type} {d : Kd α} {e base : Nat} {ok : Nat → Prop} {v : Value} {xs : List α} {W : World} (h : d.R e W base ok v xs) : Kd.V d e W base (fun k_ => (base ≤ k_) ∧ Unm W k_) v xs := by
  obtain ⟨A, c, rfl⟩ := Kd.R_slice h
  exact ⟨A, c, rfl, (Kd.R_reads' h).2.1, Kd.R_F (Kd.R_mono (Kd.R_bound h) (fun k hk => ⟨hk.2.1, by obtain ⟨_, _, _, q, _, cells, hc⟩ := hk; exact ⟨cells, q, hc⟩⟩))⟩
def Shp (v v' : Value) : Prop := v' = v ∨ ∃ (k : IntKind) (m n : Int), v = .int k m ∧ v' = .int k n
theorem Shp.trans {a b c : Value} (h1 : Shp a b) (h2 : Shp b c) : Shp a c := by
  rcases h1 with rfl | ⟨k, m, n, rfl, rfl⟩
  · exact h2
  · rcases h2 with rfl | ⟨k', m', n', h, rfl⟩
    · exact .inr ⟨k, m, n, rfl, rfl⟩
    · injection h with h1 h2
      subst h1
      exact .inr ⟨k, m, n', rfl, rfl⟩
structure Sim (w W : World) : Prop where
  size : w.heap.size ≤ W.heap.size
  cell : ∀ (a : Addr) (v : Value), w.cell? a = some v → ∃ v', W.cell? a = some v' ∧ Shp v v'
  frz : ∀ a : Addr, a.block < w.heap.size → W.frozen? a = w.frozen? a
theorem Sim.refl (w : World) : Sim w w := ⟨Nat.le_refl _, fun a v h => ⟨v, h, .inl rfl⟩, fun _ _ => rfl⟩
theorem Sim.trans {w W X : World} (h : Sim w W) (h2 : Sim W X) : Sim w X := ⟨Nat.le_trans h.size h2.size, fun a v hc => by
    obtain ⟨v1, h3, s1⟩ := h.cell a v hc
    obtain ⟨v2, h4, s2⟩ := h2.cell a v1 h3
    exact ⟨v2, h4, s1.trans s2⟩, fun a ha => (h2.frz a (Nat.lt_of_lt_of_le ha h.size)).trans (h.frz a ha)⟩
theorem Sim.below {w W : World} (h : Below w.heap.size w W) : Sim w W := ⟨h.size, fun a v hc => ⟨v, pw_cell_below h hc, .inl rfl⟩, fun a ha => by simp only [World.frozen?, h.block a.block ha]⟩
theorem Sim.alloc {w W : World} (h : Sim w W) (o : Obj) : Sim w (W.alloc o) := h.trans (Sim.below (below_alloc (Below.refl _ _) o))
theorem Sim.drewN {w W : World} (h : Sim w W) (n : Nat) : Sim w (W.drewN n) := h.trans (Sim.below (pw_below_drewN (Below.refl _ _) n))
theorem Sim.put {w W : World} (h : Sim w W) {a : Addr} {k : IntKind} {m : Int} (hc : W.cell? a = some (.int k m)) (n : Int) : Sim w (W.setCell a (.int k n)) := by
  refine ⟨by simpa [World.setCell] using h.size, fun b v hb => ?_, fun b hb => (World.frozen?_setCell _ _ _ _).trans (h.frz b hb)⟩
  obtain ⟨v', h', s⟩ := h.cell b v hb
  by_cases e : a = b
  · subst e
    obtain rfl := Option.some.inj (hc.symm.trans h')
    refine ⟨.int k n, World.cell?_setCell_same _ _ _ h', ?_⟩
    rcases s with s | ⟨k', m', n', rfl, s⟩
    · exact .inr ⟨k, m, n, s.symm, rfl⟩
    · injection s with s1 s2
      subst s1
      exact .inr ⟨k, m', n, rfl, rfl⟩
  · exact ⟨v', (World.cell?_setCell_other _ _ _ _ e).trans h', s⟩
theorem Sim.keep {w W : World} (h : Sim w W) {a : Addr} {v : Value} (hc : w.cell? a = some v) (hv : ∀ k m, v ≠ .int k m) : W.cell? a = some v := by
  obtain ⟨v', h', rfl | ⟨k, m, n, e, _⟩⟩ := h.cell a v hc
  · exact h'
  · exact absurd e (hv k m)
theorem Sim.num {w W : World} (h : Sim w W) {a : Addr} {k : IntKind} {m : Int} (hc : w.cell? a = some (.int k m)) : ∃ n, W.cell? a = some (.int k n) := by
  obtain ⟨v', h', rfl | ⟨k', m', n, e, rfl⟩⟩ := h.cell a _ hc
  · exact ⟨m, h'⟩
  · injection e with e1 e2
    subst e1
    exact ⟨n, h'⟩
def BRow (w : World) (base : Nat) (k : IntKind) (A : Option Addr) (n : Nat) : Prop := n ≤ 9223372036854775807 ∧ ∀ i : Nat, i < n → ∃ (ad : Addr) (m : Int), A = some ad ∧ base ≤ ad.block ∧ w.cell? (ad.add i) = some (.int k m) ∧ w.frozen? (ad.add i) = false
def HRow (w : World) (base : Nat) (A : Option Addr) (n : Nat) : Prop := n ≤ 9223372036854775807 ∧ ∀ j : Nat, j < n → ∃ (ad : Addr) (B : Option Addr) (m c : Nat), A = some ad ∧ w.cell? (ad.add j) = some (.slice B m c) ∧ BRow w base .u8 B m
theorem BRow.sim {w W : World} {base : Nat} {k : IntKind} {A : Option Addr} {n : Nat} (h : BRow w base k A n) (hs : Sim w W) : BRow W base k A n := ⟨h.1, fun i hi => by
  obtain ⟨ad, m, hA, hb, hc, hf⟩ := h.2 i hi
  obtain ⟨m', hc'⟩ := hs.num hc
  exact ⟨ad, m', hA, hb, hc', (hs.frz _ (World.block_lt_of_cell? w _ hc)).trans hf⟩⟩
theorem HRow.sim {w W : World} {base : Nat} {A : Option Addr} {n : Nat} (h : HRow w base A n) (hs : Sim w W) : HRow W base A n := ⟨h.1, fun j hj => by
  obtain ⟨ad, B, m, c, hA, hc, hB⟩ := h.2 j hj
  exact ⟨ad, B, m, c, hA, hs.keep hc (by simp), hB.sim hs⟩⟩
theorem BRow.lower {w : World} {base base' : Nat} {k : IntKind} {A : Option Addr} {n : Nat} (h : BRow w base' k A n) (hb : base ≤ base') : BRow w base k A n := ⟨h.1, fun i hi => by
  obtain ⟨ad, m, hA, hc, r⟩ := h.2 i hi
  exact ⟨ad, m, hA, Nat.le_trans hb hc, r⟩⟩
theorem HRow.lower {w : World} {base base' : Nat} {A : Option Addr} {n : Nat} (h : HRow w base' A n) (hb : base ≤ base') : HRow w base A n := ⟨h.1, fun i hi => by
  obtain ⟨ad, B, m, c, hA, hc, r⟩ := h.2 i hi
  exact ⟨ad, B, m, c, hA, hc, r.lower hb⟩⟩
theorem BRow.none (w : World) (base : Nat) (k : IntKind) (A : Option Addr) : BRow w base k A 0 := ⟨by decide, fun i hi => by omega⟩
theorem HRow.none (w : World) (base : Nat) (A : Option Addr) : HRow w base A 0 := ⟨by decide, fun i hi => by omega⟩
theorem add_blk (ad : Addr) (i : Nat) : (ad.add i).block = ad.block := by unfold Addr.add; split <;> rfl
theorem unm_frozen {W : World} {a : Addr} (h : Unm W a.block) : W.frozen? a = false := by
  obtain ⟨cs, q, h⟩ := h
  simp [World.frozen?, h]
theorem ok_of_F {α : Type} {d : Kd α} {w : World} {ok : Nat → Prop} {A : Option Addr} {n : Nat} {xs : List α} (h : Kd.F d w ok A n xs) (hsz : 0 < d.sz) (hn : 0 < n) : ∃ ad, A = some ad ∧ ok ad.block := by
  obtain ⟨h1, _, h3⟩ := Kd.F_now h
  obtain ⟨ad, e, hel⟩ := h3 hn
  refine ⟨ad, e, Classical.byContradiction fun hno => ?_⟩
  obtain ⟨W', q1, q2⟩ := Kd.emptied w ad.block
  obtain ⟨_, _, g3⟩ := h W' (fun k hk _ => q1 k (by rintro rfl; exact hno hk))
  obtain ⟨ad', e', hel'⟩ := g3 hn
  rw [e] at e'
  cases e'
  obtain ⟨c, hc, _, hcell⟩ := hel' 0 _ (List.getElem?_eq_getElem (by omega))
  have := hcell 0 _ (List.getElem?_eq_getElem (by omega))
  rw [q2 _ (add_blk _ _)] at this
  cases this
theorem BRow.of_F {k : IntKind} {w : World} {base : Nat} {A : Option Addr} {n : Nat} {xs : List Int} (h : Kd.F (Kd.int k) w (fun x => base ≤ x ∧ Unm w x) A n xs) : BRow w base k A n := by
  refine ⟨Kd.F_max h, fun i hi => ?_⟩
  obtain ⟨ad, e, hb, hu⟩ := ok_of_F h (show 0 < 1 by decide) (by omega)
  obtain ⟨h1, _, h3⟩ := Kd.F_now h
  obtain ⟨ad', e', hel⟩ := h3 (by omega)
  rw [e] at e'
  cases e'
  obtain ⟨x, hx⟩ : ∃ x, xs[i]? = some x := ⟨_, List.getElem?_eq_getElem (by omega)⟩
  obtain ⟨c, hc, hK, hcell⟩ := hel i x hx
  have hK' : c = [Value.int k x] := hK
  subst hK'
  have := hcell 0 _ rfl
  rw [show i * (Kd.int k).sz + 0 = i from Nat.mul_one i] at this
  exact ⟨ad, _, e, hb, this, unm_frozen (by rw [add_blk]; exact hu)⟩
theorem HRow.of_F {w : World} {base : Nat} {A : Option Addr} {n : Nat} {xs : List (List Int)} (h : Kd.F (Kd.slice 5 (Kd.int .u8)) w (fun x => base ≤ x ∧ Unm w x) A n xs) : HRow w base A n := by
  refine ⟨Kd.F_max h, fun i hi => ?_⟩
  obtain ⟨ad, e, hok⟩ := ok_of_F h (show 0 < 1 by decide) (by omega)
  obtain ⟨h1, _, h3⟩ := Kd.F_now h
  obtain ⟨ad', e', hel⟩ := h3 (by omega)
  rw [e] at e'
  cases e'
  obtain ⟨x, hx⟩ : ∃ x, xs[i]? = some x := ⟨_, List.getElem?_eq_getElem (by omega)⟩
  obtain ⟨c, hc, ⟨B, cb, rfl, hlen, hin⟩, hcell⟩ := hel i x hx
  have hcl := hcell 0 _ rfl
  rw [show i * (Kd.slice 5 (Kd.int .u8)).sz + 0 = i from Nat.mul_one i] at hcl
  refine ⟨ad, B, x.length, cb, e, hcl, BRow.of_F (xs := x) fun W' hW => ?_⟩
  obtain ⟨_, _, g3⟩ := h W' hW
  obtain ⟨ad', e', hel'⟩ := g3 (by omega)
  rw [e] at e'
  cases e'
  obtain ⟨c', hc', ⟨B', cb', rfl, hlen', hin'⟩, hcell'⟩ := hel' i x hx
  have hcl' := hcell' 0 _ rfl
  rw [show i * (Kd.slice 5 (Kd.int .u8)).sz + 0 = i from Nat.mul_one i] at hcl'
  have hlt := World.block_lt_of_cell? w _ hcl
  have hsame := hW (ad.add i).block (by rw [add_blk]; exact hok) hlt
  have : W'.cell? (ad.add i) = w.cell? (ad.add i) := by simp only [World.cell?, hsame]
  rw [this, hcl] at hcl'
  injection hcl' with hcl'
  injection hcl' with hB _ _
  subst hB
  exact hin'
theorem BRow.of_V {k : IntKind} {e : Nat} {w : World} {base b : Nat} {v : Value} {xs : List Int} (h : Kd.V (Kd.int k) e w b (fun x => base ≤ x ∧ Unm w x) v xs) : ∃ A n c, v = .slice A n c ∧ BRow w base k A n := by
  obtain ⟨A, c, rfl, _, hF⟩ := h
  exact ⟨A, _, c, rfl, BRow.of_F hF⟩
theorem HRow.of_V {e : Nat} {w : World} {base b : Nat} {v : Value} {xs : List (List Int)} (h : Kd.V (Kd.slice 5 (Kd.int .u8)) e w b (fun x => base ≤ x ∧ Unm w x) v xs) : ∃ A n c, v = .slice A n c ∧ HRow w base A n := by
  obtain ⟨A, c, rfl, _, hF⟩ := h
  exact ⟨A, _, c, rfl, HRow.of_F hF⟩
theorem lit_event {P : Program} {o : Oper} {rest : List Oper} {ops : Array Oper} {a : Act} {Q : Exit → Act → World → Prop} {W : World} (hgd : o.guard = none) {N : Tmp} (_hd : o.dst = some N) {e len : Nat} {cells : Array Value}
    (hrun : (execOp a.eval o).run P W = .ok (.value (.slice (some ⟨W.heap.size, 0, none⟩) len len)) (W.alloc (.cells cells e (0, 0))))
    (h : ∀ g, g = W.heap.size → ∀ w1, w1.heap[g]? = some (.cells cells e (0, 0)) → Below W.heap.size W w1 → wpList P ops Q rest (a.put o.dst (.slice (some ⟨g, 0, none⟩) len len)) w1) : wpList P ops Q (o :: rest) a W :=
  Kd.event_run hgd hrun (h _ rfl _ (blk_new W _) (below_alloc (Below.refl _ _) _))
end Go.Proofs.Ytcbgichkeecgiaa.Print
