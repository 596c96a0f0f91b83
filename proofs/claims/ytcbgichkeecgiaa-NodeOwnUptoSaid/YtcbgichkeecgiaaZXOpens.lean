/- Words of this session's: what a parameter is in memory, as a value of the printed kinds: slices of structs, structs, texts, numbers. -/
import Derived.SizedLaws
import Derived.ChangeSlices
import Derived.ChangeArms
import Derived.DataElems
import Derived.DataReads
import Derived.Test.YtcbgichkeecgiaaZWWords
set_option linter.unusedVariables false
set_option linter.unusedSimpArgs false
namespace Go.Proofs.Ytcbgichkeecgiaa.Opens
open Go.RowKit Go.ChangeShapes Go.WideShapes Go.Proofs.YtcbgichkeecgiaaW.PrintWords
variable {α β : Type} {P : Program}
def Opens (P : Program) (t : TypeId) (d : Kd α) (ok : α → Prop) : Prop :=
  ∀ {H : Type} (enc : TypeId × Value → H) (w : World) (fuel : Nat) (cs : List Value) (x : DataW H × List MemPlace), DataW.trod enc P w 0 (fun _ => true) true fuel t cs = some x → (∀ n ∈ DataW.weights P t x.1, n ≤ reachBytes) → ∃ a, d.K w a cs ∧ ok a
theorem opens_int {t : TypeId} {k : IntKind} (ht : P.underlying t = some (.int k)) : Opens P t (Kd.int k) (fun n => (Lit.int k n).wf = true) := by
  intro H enc w fuel cs x h _
  obtain ⟨n, rfl, _, hw⟩ := DataW.trod_int ht h
  exact ⟨n, rfl, hw⟩
theorem opens_bool {t : TypeId} (ht : P.underlying t = some .bool) : Opens P t Kd.bool (fun _ => True) := by
  intro H enc w fuel cs x h _
  obtain ⟨n, rfl, _⟩ := DataW.trod_bool ht h
  exact ⟨n, rfl, trivial⟩
theorem opens_iso {t : TypeId} {d : Kd α} {ok : α → Prop} (h : Opens P t d ok) (f : β → α) (g : α → β) (hfg : ∀ a, f (g a) = a) : Opens P t (Kd.iso d f) (fun b => ok (f b)) := by
  intro H enc w fuel cs x hx hs
  obtain ⟨a, hK, ho⟩ := h enc w fuel cs x hx hs
  exact ⟨g a, by show d.K w (f (g a)) cs; rw [hfg]; exact hK, by show ok (f (g a)); rw [hfg]; exact ho⟩
theorem cells_get {w : World} {base : Nat} {a : Addr} {n : Nat} {cs : List Value} (h : w.cells? base a n = some cs) : cs.length = n ∧ ∀ j u, cs[j]? = some u → w.cell? (a.add j) = some u := by
  have h2 := World.cells?_some h
  refine ⟨h2.2.1, fun j u hj => ?_⟩
  rw [h2.2.2 j (by rw [← h2.2.1]; exact (List.getElem?_eq_some_iff.1 hj).1), hj]
theorem weightsAll_mem {H : Type} {e : TypeId} : ∀ {ds : List (DataW H)} {d : DataW H}, d ∈ ds → ∀ n ∈ d.weights P e, n ∈ DataW.weightsAll P e ds
  | x :: r, d, hd, n, hn => by
    simp only [DataW.weightsAll, List.mem_append]
    rcases List.mem_cons.1 hd with rfl | hd
    · exact .inl hn
    · exact .inr (weightsAll_mem hd n hn)
theorem opens_slice {t e : TypeId} {d : Kd α} {ok : α → Prop} {B : Nat} (ht : P.underlying t = some (.slice e)) (hd : Opens P e d ok) (hc : P.cellsOf e = d.sz) (hB : P.bytesOf e = B) :
    Opens P t (Kd.slice e d) (fun xs => xs.length * B ≤ 140737488351232 ∧ xs.length ≤ maxLen ∧ ∀ x ∈ xs, ok x) := by
  intro H enc w fuel cs x h hs
  rcases DataW.trod_slice ht h with ⟨rfl, _⟩ | ⟨a, len, cap, elems, rest, m, _, rfl, rfl, _, hl, hm, hlen, hel, _, _⟩
  · exact ⟨[], ⟨none, 0, rfl, Nat.le_refl _, rfl, by simp, fun h => absurd h (by simp)⟩, by simp, by simp [maxLen], by simp⟩
  · have hw : ∀ n ∈ DataW.weights P t (.slice (elems.map (·.1)) (rest.map (·.1))), n ≤ reachBytes := hs
    simp only [DataW.weights, ht, List.mem_cons, List.mem_append] at hw
    have hbig := hw _ (.inl rfl)
    have each : ∀ i, i < len → ∃ p c, c.length = d.sz ∧ d.K w p c ∧ ok p ∧ ∀ j u, c[j]? = some u → w.cell? (a.add (i * d.sz + j)) = some u := by
      intro i hi
      have h1 := hel i hi
      rw [List.getElem?_eq_getElem (by omega)] at h1
      obtain ⟨c, hc1, hc2⟩ := Option.bind_eq_some_iff.1 h1
      obtain ⟨hcl, hcg⟩ := cells_get hc1
      obtain ⟨p, hK, ho⟩ := hd enc w m c _ hc2 (fun n hn => hw n (.inr (.inl (weightsAll_mem (List.mem_map_of_mem (List.getElem_mem _)) n hn))))
      refine ⟨p, c, by rw [hcl, hc], hK, ho, fun j u hj => ?_⟩
      rw [← hc, ← Addr.add_add]
      exact hcg j u hj
    have build : ∀ n, n ≤ len → ∃ xs : List α, xs.length = n ∧ ∀ i p, xs[i]? = some p → ok p ∧ ∃ c, c.length = d.sz ∧ d.K w p c ∧ ∀ j u, c[j]? = some u → w.cell? (a.add (i * d.sz + j)) = some u := by
      intro n
      induction n with
      | zero => exact fun _ => ⟨[], rfl, fun i p h => by simp at h⟩
      | succ n ih =>
        intro hn
        obtain ⟨xs, hxl, hx⟩ := ih (by omega)
        obtain ⟨p, c, hcl, hK, ho, hcg⟩ := each n (by omega)
        refine ⟨xs ++ [p], by simp [hxl], fun i q hq => ?_⟩
        rcases Nat.lt_or_ge i n with hi | hi
        · rw [List.getElem?_append_left (by omega)] at hq
          exact hx i q hq
        · rw [List.getElem?_append_right (by omega)] at hq
          have : i - xs.length = 0 := by
            rcases Nat.eq_zero_or_pos (i - xs.length) with h0 | h0
            · exact h0
            · rw [List.getElem?_eq_none (by simp; omega)] at hq; cases hq
          rw [this] at hq
          obtain rfl : p = q := by simpa using hq
          obtain rfl : i = n := by omega
          exact ⟨ho, c, hcl, hK, hcg⟩
    obtain ⟨xs, hxl, hx⟩ := build len (Nat.le_refl _)
    have hmx : len ≤ maxLen := Nat.le_trans hl hm
    subst hxl
    refine ⟨xs, ⟨some a, cap, rfl, hl, rfl, by simp only [maxLen] at hmx; omega, fun _ => ⟨a, rfl, fun j p hp => ?_⟩⟩, ?_, hmx, fun p hp => ?_⟩
    · obtain ⟨_, c, h1, h2, h3⟩ := hx j p hp
      exact ⟨c, h1, h2, h3⟩
    · rw [← hB]
      refine Nat.le_trans (Nat.mul_le_mul_right _ ?_) hbig
      rw [List.length_map, hlen]; omega
    · obtain ⟨i, hi⟩ := List.getElem?_of_mem hp
      exact (hx i p hi).1
def OpensFs (P : Program) (fs : List Field) (o : Nat) (d : Kd α) (ok : α → Prop) : Prop :=
  ∀ {H : Type} (enc : TypeId × Value → H) (w : World) (fuel : Nat) (cs : List Value) (xs : List (DataW H × List MemPlace)), xs.length = fs.length →
    (∀ (i : Nat) (f : Field), fs[i]? = some f → DataW.trod enc P w 0 (fun _ => true) true fuel f.type ((cs.drop f.offset).take (P.cellsOf f.type)) = xs[i]?) →
    (∀ n ∈ DataW.weightsEach P (fs.map (·.type)) (xs.map (·.1)), n ≤ reachBytes) → ∃ a, d.K w a ((cs.drop o).take d.sz) ∧ ok a
theorem opensFs_one {f : Field} {o : Nat} {d : Kd α} {ok : α → Prop} (h : Opens P f.type d ok) (ho : f.offset = o) (hc : P.cellsOf f.type = d.sz) : OpensFs P [f] o d ok := by
  intro H enc w fuel cs xs hl hf hs
  match xs, hl with
  | [x], _ =>
    have h1 := hf 0 f rfl
    rw [ho, hc] at h1
    exact h enc w fuel _ x h1 (fun n hn => hs n (by simp [DataW.weightsEach, hn]))
theorem opensFs_cons {f : Field} {fs : List Field} {o : Nat} {d0 : Kd α} {d1 : Kd β} {ok0 : α → Prop} {ok1 : β → Prop} (h : Opens P f.type d0 ok0) (ho : f.offset = o) (hc : P.cellsOf f.type = d0.sz) (hr : OpensFs P fs (o + d0.sz) d1 ok1) :
    OpensFs P (f :: fs) o (Kd.pair d0 d1) (fun p => ok0 p.1 ∧ ok1 p.2) := by
  intro H enc w fuel cs xs hl hf hs
  match xs, hl with
  | x :: xs, hl =>
    have h1 := hf 0 f rfl
    rw [ho, hc] at h1
    obtain ⟨a, hK, hok⟩ := h enc w fuel _ x h1 (fun n hn => hs n (by simp [DataW.weightsEach, hn]))
    obtain ⟨b, hK2, hok2⟩ := hr enc w fuel cs xs (by simpa using hl) (fun i g hg => by simpa using hf (i + 1) g (by simpa using hg)) (fun n hn => hs n (by simp only [List.map_cons, DataW.weightsEach, List.mem_append]; exact .inr hn))
    refine ⟨(a, b), ⟨_, _, ?_, hK, hK2⟩, hok, hok2⟩
    show List.take (d0.sz + d1.sz) (cs.drop o) = _
    rw [List.take_add, List.drop_drop]
theorem opens_struct {t : TypeId} {fs : Array Field} {d : Kd α} {ok : α → Prop} (ht : P.underlying t = some (.struct fs)) (hf : OpensFs P fs.toList 0 d ok) (hc : P.cellsOf t = d.sz) : Opens P t d ok := by
  intro H enc w fuel cs x h hs
  obtain ⟨xs, n, _, rfl, hl, hlen, hg⟩ := DataW.trod_struct ht h
  have hw : ∀ n ∈ DataW.weights P t (.agg (xs.map (·.1))), n ≤ reachBytes := hs
  simp only [DataW.weights, ht] at hw
  obtain ⟨a, hK, ho⟩ := hf enc w n cs xs (by simpa using hlen) (fun i f hi => hg i f (by simpa using hi)) hw
  rw [List.drop_zero, List.take_of_length_le (by rw [hl, hc]; exact Nat.le_refl _)] at hK
  exact ⟨a, hK, ho⟩
end Go.Proofs.Ytcbgichkeecgiaa.Opens
