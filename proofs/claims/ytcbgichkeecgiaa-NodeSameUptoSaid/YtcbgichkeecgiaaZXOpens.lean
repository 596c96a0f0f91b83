/- Words of this session's: what a parameter is in memory, as a value of the printed kinds: slices of structs, structs, texts, numbers. -/
import Derived.SizedLaws
import Derived.ChangeSlices
import Derived.ChangeArms
import Derived.DataElems
import Derived.DataReads
import Derived.Test.YtcbgichkeecgiaaZWWords
set_option linter.unusedVariables false
set_option linter.unusedSimpArgs false
namespace Go.Proofs.Ytcbgichkeecgiaa.Opens
open Go.RowKit Go.ChangeShapes Go.WideShapes Go.Proofs.YtcbgichkeecgiaaW.PrintWords
variable {α β : Type} {P : Program}
def Opens (P : Program) (t : TypeId) (d : Kd α) (ok : α → Prop) : Prop :=
  ∀ {H : Type} (enc : TypeId × Value → H) (w : World) (fuel : Nat) (cs : List Value) (x : DataW H × List MemPlace), DataW.trod enc P w 0 (fun _ => true) true fuel t cs = some x → (∀ n ∈ DataW.weights P t x.1, n ≤ reachBytes) → ∃ a, d.K w a cs ∧ ok a
theorem opens_int {t : TypeId} {k : IntKind} (ht : P.underlying t = some (.int k)) : Opens P t (Kd.int k) (fun n => (Lit.int k n).wf = true) := by
  intro H enc w fuel cs x h _
  obtain ⟨n, rfl, _, hw⟩ := DataW.trod_int ht h
  exact ⟨n, rfl, hw⟩
theorem cells_get {w : World} {base : Nat} {a : Addr} {n : Nat} {cs : List Value} (h : w.cells? base a n = some cs) : cs.length = n ∧ ∀ j u, cs[j]? = some u → w.cell? (a.add j) = some u := by
  have h2 := World.cells?_some h
  refine ⟨h2.2.1, fun j u hj => ?_⟩
  rw [h2.2.2 j (by rw [← h2.2.1]; exact (List.getElem?_eq_some_iff.1 hj).1), hj]
theorem weightsAll_mem {H : Type} {e : TypeId} : ∀ {ds : List (DataW H)} {d : DataW H}, d ∈ ds → ∀ n ∈ d.weights P e, n ∈ DataW.weightsAll P e ds
  | x :: r, d, hd, n, hn => by
    simp only [DataW.weightsAll, List.mem_append]
    rcases List.mem_cons.1 hd with rfl | hd
    · exact .inl hn
    · exact .inr (weightsAll_mem hd n hn)
theorem opens_slice {t e : TypeId} {d : Kd α} {ok : α → Prop} {B : Nat} (ht : P.underlying t = some (.slice e)) (hd : Opens P e d ok) (hc : P.cellsOf e = d.sz) (hB : P.bytesOf e = B) :
    Opens P t (Kd.slice e d) (fun xs => xs.length * B ≤ 140737488351232 ∧ xs.length ≤ maxLen ∧ ∀ x ∈ xs, ok x) := by
  intro H enc w fuel cs x h hs
  rcases DataW.trod_slice ht h with ⟨rfl, _⟩ | ⟨a, len, cap, elems, rest, m, _, rfl, rfl, _, hl, hm, hlen, hel, _, _⟩
  · exact ⟨[], ⟨none, 0, rfl, Nat.le_refl _, rfl, by simp, fun h => absurd h (by simp)⟩, by simp, by simp [maxLen], by simp⟩
  · have hw : ∀ n ∈ DataW.weights P t (.slice (elems.map (·.1)) (rest.map (·.1))), n ≤ reachBytes := hs
    simp only [DataW.weights, ht, List.mem_cons, List.mem_append] at hw
    have hbig := hw _ (.inl rfl)
    have each : ∀ i, i < len → ∃ p c, c.length = d.sz ∧ d.K w p c ∧ ok p ∧ ∀ j u, c[j]? = some u → w.cell? (a.add (i * d.sz + j)) = some u := by
      intro i hi
      have h1 := hel i hi
      rw [List.getElem?_eq_getElem (by omega)] at h1
      obtain ⟨c, hc1, hc2⟩ := Option.bind_eq_some_iff.1 h1
      obtain ⟨hcl, hcg⟩ := cells_get hc1
      obtain ⟨p, hK, ho⟩ := hd enc w m c _ hc2 (fun n hn => hw n (.inr (.inl (weightsAll_mem (List.mem_map_of_mem (List.getElem_mem _)) n hn))))
      refine ⟨p, c, by rw [hcl, hc], hK, ho, fun j u hj => ?_⟩
      rw [← hc, ← Addr.add_add]
      exact hcg j u hj
    have build : ∀ n, n ≤ len → ∃ xs : List α, xs.length = n ∧ ∀ i p, xs[i]? = some p → ok p ∧ ∃ c, c.length = d.sz ∧ d.K w p c ∧ ∀ j u, c[j]? = some u → w.cell? (a.add (i * d.sz + j)) = some u := by
      intro n
      induction n with
      | zero => exact fun _ => ⟨[], rfl, fun i p h => by simp at h⟩
      | succ n ih =>
        intro hn
        obtain ⟨xs, hxl, hx⟩ := ih (by omega)
        obtain ⟨p, c, hcl, hK, ho, hcg⟩ := each n (by omega)
        refine ⟨xs ++ [p], by simp [hxl], fun i q hq => ?_⟩
        rcases Nat.lt_or_ge i n with hi | hi
        · rw [List.getElem?_append_left (by omega)] at hq
          exact hx i q hq
        · rw [List.getElem?_append_right (by omega)] at hq
          have : i - xs.length = 0 := by
            rcases Nat.eq_zero_or_pos (i - xs.length) with h0 | h0
            · exact h0
            · rw [List.getElem?_eq_none (by simp; omega)] at hq; cases hq
          rw [this] at hq
          obtain rfl : p = q := by simpa using hq
          obtain rfl : i = n := by omega
          exact ⟨ho, c, hcl, hK, hcg⟩
    obtain ⟨xs, hxl, hx⟩ := build len (Nat.le_refl _)
    have hmx : len ≤ maxLen := Nat.le_trans hl hm
    subst hxl
    refine ⟨xs, ⟨some a, cap, rfl, hl, rfl, by simp only [maxLen] at hmx; omega, fun _ => ⟨a, rfl, fun j p hp => ?_⟩⟩, ?_, hmx, fun p hp => ?_⟩
    · obtain ⟨_, c, h1, h2, h3⟩ := hx j p hp
      exact ⟨c, h1, h2, h3⟩
    · rw [← hB]
      refine Nat.le_trans (Nat.mul_le_mul_right _ ?_) hbig
      rw [List.length_map, hlen]; omega
    · obtain ⟨i, hi⟩ := List.getElem?_of_mem hp
      exact (hx i p hi).1
end Go.Proofs.Ytcbgichkeecgiaa.Opens
