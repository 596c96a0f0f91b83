/- Short names for steps that stand again and again in this claim's texts. -/
import Derived.Test.YtcbgichkeecgiaaZWWords
import Derived.Test.YtcbgichkeecgiaaZAlm
import Derived.Test.YtcbgichkeecgiaaZWLast
namespace Go.Proofs.Ytcbgichkeecgiaa.Print
open Go.RowKit Go.Proofs.YtcbgichkeecgiaaW.PrintWords Go.Proofs.YtcbgichkeecgiaaW.PrintLast Go.Proofs.YtcbgichkeecgiaaW.PrintMore
theorem zb_ {P Q : Prop} (q : Q) (h : Q → P := by intro q_; (with_reducible repeat (first | refine blk_drewN ?_ _ | refine blk_drew ?_ | refine blk_alloc ?_ _)); exact q_) : P := h q
theorem zh0_ {P Q : Prop} (q : Q) (h : Q → P := by intro q_; repeat (first | (with_reducible first | exact q_ | apply below_alloc | apply pw_below_drewN | apply below_drew1) | exact q_)) : P := h q
theorem zh1_ {P Q R1 : Prop} (q : Q) (r1 : R1) (h : Q → R1 → P := by intro q_ r1_; repeat (first | (with_reducible first | exact q_ | apply below_alloc | apply pw_below_drewN | apply below_drew1 | refine below_set ?_ r1_) | exact q_)) : P := h q r1
theorem zh2_ {P Q R1 R2 : Prop} (q : Q) (r1 : R1) (r2 : R2) (h : Q → R1 → R2 → P := by intro q_ r1_ r2_; repeat (first | (with_reducible first | exact q_ | apply below_alloc | apply pw_below_drewN | apply below_drew1 | refine below_set ?_ r1_ | refine below_set ?_ r2_) | exact q_)) : P := h q r1 r2
theorem zh3_ {P Q R1 R2 R3 : Prop} (q : Q) (r1 : R1) (r2 : R2) (r3 : R3) (h : Q → R1 → R2 → R3 → P := by intro q_ r1_ r2_ r3_; repeat (first | (with_reducible first | exact q_ | apply below_alloc | apply pw_below_drewN | apply below_drew1 | refine below_set ?_ r1_ | refine below_set ?_ r2_ | refine below_set ?_ r3_) | exact q_)) : P := h q r1 r2 r3
theorem zc_ {P Q : Prop} (q : Q) (h : Q → P := by intro q_; repeat (first | exact q_ | (with_reducible refine Kd.C_alloc ?_ _) | (with_reducible refine Kd.C_drewN ?_ _) | (with_reducible refine Kd.C_drew ?_))) : P := h q
theorem zl_ {P : Prop} (h : P := by (try simp only [List.map_toArray, List.map_cons, List.map_nil]); first | done | rfl | (simp only [List.length_drop, List.length_take]; rfl)) : P := h
theorem zN_ {P Q : Prop} (q : Q) (h : Q → P := by intro q_; (with_reducible repeat (first | apply Kd.N_alloc | apply Kd.N_drewN | apply Kd.N_drew)); exact q_) : P := h q
theorem zR_ {P Q : Prop} (q : Q) (h : Q → P := by intro q_; (with_reducible repeat (first | apply Kd.R_alloc | apply Kd.R_drewN | apply Kd.R_drew)); exact q_) : P := h q
theorem zV_ {P Q : Prop} (q : Q) (h : Q → P := by intro q_; (with_reducible repeat (first | apply Kd.V_alloc | apply Kd.V_drewN | apply Kd.V_drew)); exact q_) : P := h q
theorem zh4_ {P Q R1 R2 R3 R4 : Prop} (q : Q) (r1 : R1) (r2 : R2) (r3 : R3) (r4 : R4) (h : Q → R1 → R2 → R3 → R4 → P := by intro q_ r1_ r2_ r3_ r4_; repeat (first | (with_reducible first | exact q_ | apply below_alloc | apply pw_below_drewN | apply below_drew1 | refine below_set ?_ r1_ | refine below_set ?_ r2_ | refine below_set ?_ r3_ | refine below_set ?_ r4_) | exact q_)) : P := h q r1 r2 r3 r4
theorem zh5_ {P Q R1 R2 R3 R4 R5 : Prop} (q : Q) (r1 : R1) (r2 : R2) (r3 : R3) (r4 : R4) (r5 : R5) (h : Q → R1 → R2 → R3 → R4 → R5 → P := by intro q_ r1_ r2_ r3_ r4_ r5_; repeat (first | (with_reducible first | exact q_ | apply below_alloc | apply pw_below_drewN | apply below_drew1 | refine below_set ?_ r1_ | refine below_set ?_ r2_ | refine below_set ?_ r3_ | refine below_set ?_ r4_ | refine below_set ?_ r5_) | exact q_)) : P := h q r1 r2 r3 r4 r5
theorem zh6_ {P Q R1 R2 R3 R4 R5 R6 : Prop} (q : Q) (r1 : R1) (r2 : R2) (r3 : R3) (r4 : R4) (r5 : R5) (r6 : R6) (h : Q → R1 → R2 → R3 → R4 → R5 → R6 → P := by intro q_ r1_ r2_ r3_ r4_ r5_ r6_; repeat (first | (with_reducible first | exact q_ | apply below_alloc | apply pw_below_drewN | apply below_drew1 | refine below_set ?_ r1_ | refine below_set ?_ r2_ | refine below_set ?_ r3_ | refine below_set ?_ r4_ | refine below_set ?_ r5_ | refine below_set ?_ r6_) | exact q_)) : P := h q r1 r2 r3 r4 r5 r6
section
variable {α : Type} {d : Kd α} {e base g t : Nat} {ok : Nat → Prop} {W : World} {v : Value} {xs : List α}
theorem zs4 (h : d.R e W base ok v xs) {cs : Array Value} (hb : W.heap[g]? = some (.cells cs t (0, 0))) (ht : ∀ q, q ∈ e :: d.E → q ≠ t) (x0 x1 x2 x3 : Value) : d.R e ((((W.setCell ⟨g, 0, none⟩ x0).setCell ⟨g, 1, none⟩ x1).setCell ⟨g, 2, none⟩ x2).setCell ⟨g, 3, none⟩ x3) base ok v xs :=
  Kd.R_mono (Kd.R_far (p := ⟨g, 3, none⟩) (Kd.R_far (p := ⟨g, 2, none⟩) (Kd.R_far (p := ⟨g, 1, none⟩) (Kd.R_far (p := ⟨g, 0, none⟩) (Kd.R_types h hb ht) (fun _ hk => hk.2) x0) (fun _ hk => hk.2) x1) (fun _ hk => hk.2) x2) (fun _ hk => hk.2) x3) (fun _ h_ => h_.1)
theorem zr4_ {P : Prop} (h : d.R e W base ok v xs) {cs : Array Value} (hb : W.heap[g]? = some (.cells cs t (0, 0))) (ht : ∀ q, q ∈ e :: d.E → q ≠ t := by decide) (hp : (∀ x0 x1 x2 x3, d.R e ((((W.setCell ⟨g, 0, none⟩ x0).setCell ⟨g, 1, none⟩ x1).setCell ⟨g, 2, none⟩ x2).setCell ⟨g, 3, none⟩ x3) base ok v xs) → P := by intro q_; (with_reducible repeat (first | apply Kd.R_alloc | apply Kd.R_drewN | apply Kd.R_drew)); exact q_ _ _ _ _) : P := hp (zs4 h hb ht)
end
theorem zk4 {w : World} {a : Addr} {g j0 j1 j2 j3 : Nat} {o : Option Value} {x0 x1 x2 x3 : Value} (h : a.block ≠ g) (hx : w.cell? a = o) : ((((w.setCell ⟨g, j0, none⟩ x0).setCell ⟨g, j1, none⟩ x1).setCell ⟨g, j2, none⟩ x2).setCell ⟨g, j3, none⟩ x3).cell? a = o :=
  (cell_far (p := ⟨g, j3, none⟩) h _).trans ((cell_far (p := ⟨g, j2, none⟩) h _).trans ((cell_far (p := ⟨g, j1, none⟩) h _).trans ((cell_far (p := ⟨g, j0, none⟩) h _).trans hx)))
theorem zv4 {α : Type} {d : Kd α} {e base g : Nat} {okk : Nat → Prop} {W : World} {v : Value} {xs : List α} {x0 x1 x2 x3 : Value} (h : Kd.V d e W base (fun k => okk k ∧ k ≠ g) v xs) : Kd.V d e ((((W.setCell ⟨g, 0, none⟩ x0).setCell ⟨g, 1, none⟩ x1).setCell ⟨g, 2, none⟩ x2).setCell ⟨g, 3, none⟩ x3) base (fun k => okk k ∧ k ≠ g) v xs :=
  Kd.V_far (p := ⟨g, 3, none⟩) (Kd.V_far (p := ⟨g, 2, none⟩) (Kd.V_far (p := ⟨g, 1, none⟩) (Kd.V_far (p := ⟨g, 0, none⟩) h (fun _ hk => hk.2) x0) (fun _ hk => hk.2) x1) (fun _ hk => hk.2) x2) (fun _ hk => hk.2) x3
theorem zx_ {w W : World} {a : Addr} {v : Value} (hB : Below w.heap.size w W) (h : w.cell? a = some v) : W.cell? a = some v := (hB.cell (World.block_lt_of_cell? w _ h)).trans h
theorem zf_ {P Q R : Prop} (r : R) (q : Q) (h : R → Q → P := by intro r_ q_; (repeat (first | (with_reducible first | refine blk_drewN ?_ _ | refine blk_drew ?_ | refine blk_alloc ?_ _) | refine blk_far ?_ r_ _)); exact q_) : P := h r q
def zB (n m : Nat) : Array Bool := ⟨List.replicate n true ++ List.replicate m false⟩
theorem zt0 {α : Type} {l : List α} {i : Nat} {a : α} : l.toArray.setIfInBounds i a = (l.set i a).toArray := by simp
theorem zt1 {α : Type} {a b : α} {l : List α} : (a :: l).set 0 b = b :: l := rfl
theorem zt2 {α : Type} {a b : α} {l : List α} {n : Nat} : (a :: l).set (n + 1) b = a :: l.set n b := rfl
theorem zp4 {W : World} {g t : Nat} {v0 v1 v2 v3 : Value} (h : W.heap[g]? = some (.cells #[v0, v1, v2, v3] t (0, 0))) (x0 x1 x2 x3 : Value) :
    ((((W.setCell ⟨g, 0, none⟩ x0).setCell ⟨g, 1, none⟩ x1).setCell ⟨g, 2, none⟩ x2).setCell ⟨g, 3, none⟩ x3).heap[g]? = some (.cells #[x0, x1, x2, x3] t (0, 0)) :=
  blk_put (blk_put (blk_put (blk_put h 0 _ rfl) 1 _ rfl) 2 _ rfl) 3 _ rfl
theorem zp_ {P Q : Prop} (q : Q) (h : Q → P := by intro q_; (with_reducible repeat (first | refine blk_drewN ?_ _ | refine blk_drew ?_ | refine blk_alloc ?_ _)); exact zp4 q_ _ _ _ _) : P := h q
theorem za_ {P : Prop} (h : P := by first | (with_reducible assumption) | assumption) : P := h
theorem zc4 {W : World} {g t : Nat} {v0 v1 v2 v3 : Value} (h : W.heap[g]? = some (.cells #[v0, v1, v2, v3] t (0, 0))) : W.cell? ⟨g, 0, none⟩ = some v0 ∧ W.cell? ⟨g, 1, none⟩ = some v1 ∧ W.cell? ⟨g, 2, none⟩ = some v2 ∧ W.cell? ⟨g, 3, none⟩ = some v3 :=
  ⟨(blk_cell h 0).trans rfl, (blk_cell h 1).trans rfl, (blk_cell h 2).trans rfl, (blk_cell h 3).trans rfl⟩
theorem zz4 {W : World} {g t : Nat} {v0 v1 v2 v3 : Value} (h : W.heap[g]? = some (.cells #[v0, v1, v2, v3] t (0, 0))) : W.frozen? ⟨g, 0, none⟩ = false ∧ W.frozen? ⟨g, 1, none⟩ = false ∧ W.frozen? ⟨g, 2, none⟩ = false ∧ W.frozen? ⟨g, 3, none⟩ = false :=
  ⟨blk_frozen h 0, blk_frozen h 1, blk_frozen h 2, blk_frozen h 3⟩
section
variable {P : Program} {ops : Array Oper} {Q : Exit → Act → World → Prop} {md : Region.Mode} {S : World → Prop} {ds : List Nat} {oi : Oper} {v : Value} {fuel : Nat} {l : Array Bool} {a a' : Act} {w : World}
theorem zpu (i : Nat) (N : Option Tmp) (l' : Array Bool) (hc : anyB md ops l l' i = true) (h : wpAnyLast P md ops Q S ds fuel l' a' w) (hi : ops[i]? = some oi := by rfl) (hN : oi.dst = N := by rfl) (hQ : ∀ c a w, Q (.panic c) (a.put oi.dst v) w → Q (.panic c) a w := by exact (fun _ _ _ h => h)) (hy : Yields P ops oi v a := by refine Or.inl ⟨by rfl, ?_⟩; intro w'; go_simp; with_reducible rfl) (ha : a.put N v = a' := by (simp only [Act.put, zt0, zt1, zt2, i64_w, i32_w]; rfl)) : wpAnyLast P md ops Q S ds (fuel + 1) l a w := pure_ l' hi hN hc hQ hy ha h
theorem zta (i : Nat) (N : Option Tmp) (l' : Array Bool) (hc : takeB md ops ds l l' i = true) (hS : S w) (h : wpAnyLast P md ops Q S ds fuel l' a' w) (hi : ops[i]? = some oi := by rfl) (hN : oi.dst = N := by rfl) (hQ : ∀ c a w, Q (.panic c) (a.put oi.dst v) w → Q (.panic c) a w := by exact (fun _ _ _ h => h)) (hy : YieldsIf P ops S oi v a := by refine Or.inl ⟨by rfl, ?_⟩; intro w' hs_; (repeat (obtain ⟨_, hs_⟩ := hs_)); go_simp; with_reducible rfl) (ha : a.put N v = a' := by (simp only [Act.put, zt0, zt1, zt2, i64_w, i32_w]; rfl)) : wpAnyLast P md ops Q S ds (fuel + 1) l a w := take_ l' hi hN hc hQ hy hS ha h
theorem zno (N : Tmp) {b : Act} {u : Value} (h : wpAnyLast P md ops Q S ds fuel l a' w) (ha : Act.put b (some N) u = a' := by (simp only [Act.put, zt0, zt1, zt2, i64_w, i32_w]; rfl)) : wpAnyLast P md ops Q S ds fuel l (Act.put b (some N) u) w := norm_ ha h
end
theorem zN4 {α : Type} {d : Kd α} {e base g : Nat} {ok : Nat → Prop} {W : World} {v : Value} {xs : List α} {P : Prop} (h : Kd.N d e W base ok v xs) (hne : ∀ k, ok k → k ≠ g) (hp : (∀ x0 x1 x2 x3, Kd.N d e ((((W.setCell ⟨g, 0, none⟩ x0).setCell ⟨g, 1, none⟩ x1).setCell ⟨g, 2, none⟩ x2).setCell ⟨g, 3, none⟩ x3) base ok v xs) → P := by intro q_; (with_reducible repeat (first | apply Kd.N_alloc | apply Kd.N_drewN | apply Kd.N_drew)); exact q_ _ _ _ _) : P :=
  hp (fun x0 x1 x2 x3 => Kd.N_far (p := ⟨g, 3, none⟩) (Kd.N_far (p := ⟨g, 2, none⟩) (Kd.N_far (p := ⟨g, 1, none⟩) (Kd.N_far (p := ⟨g, 0, none⟩) h hne x0) hne x1) hne x2) hne x3)
theorem zm {α β : Type} {x : Option α} {f : α → Option β} {b : β} (h : x.bind f = some b) : ∃ a, Aside0 (x = some a) ∧ f a = some b := let ⟨a, h1, h2⟩ := Option.bind_eq_some_iff.1 h; ⟨a, ⟨h1⟩, h2⟩
theorem zq1 {α : Type} [BEq α] [LawfulBEq α] {a b : α} (h : a = b) : (a == b) = true ∧ (a != b) = false := ⟨beq_iff_eq.2 h, bne_eq_false_iff_eq.2 h⟩
theorem zq0 {α : Type} [BEq α] [LawfulBEq α] {a b : α} (h : ¬ a = b) : (a == b) = false ∧ (a != b) = true := ⟨beq_eq_false_iff_ne.2 h, bne_iff_ne.2 h⟩
end Go.Proofs.Ytcbgichkeecgiaa.Print
