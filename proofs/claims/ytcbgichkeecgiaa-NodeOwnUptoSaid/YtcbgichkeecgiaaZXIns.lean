/- Words of this session's: what slices.Insert does to a row of the call's own, whatever the elements' size. -/
import Derived.Shelf.Spec.SlicesInsert
import Derived.Lib.AppendZerosOnto
import Derived.Laws.CopyRow
import Derived.Laws.NewBlocks
import Derived.Laws.CopyOwn
import Derived.Lib.SliceRun
import Derived.Test.YtcbgichkeecgiaaZWWords
import Derived.Test.YtcbgichkeecgiaaZAlm
set_option linter.unusedVariables false
set_option linter.unusedSimpArgs false
namespace Go.Proofs.Ytcbgichkeecgiaa.Print
open Go.RowKit Go.Proofs.YtcbgichkeecgiaaW.PrintWords Go.Proofs.YtcbgichkeecgiaaW.PrintMore
section
variable {P : Program}
theorem run_overlaps_own (w : World) (tS tR e : TypeId) (ht : P.underlying tS = some (.slice e)) (size : Nat) (hz : ∀ w, (Go.sizeOf e).run P w = .ok size w)
    (a b : Addr) (la ca lb cb : Nat) (hne : a.block ≠ b.block) (v : Value) (ha : w.cell? a = some v) (cur : Array Value) (tB : TypeId) (hb : w.heap[b.block]? = some (.cells cur tB (0, 0))) (hc : 0 < cur.size) :
    (Extern.SlicesOverlaps.overlaps #[tS, tS] #[tR] #[.slice (some a) la ca, .slice (some b) lb cb]).run P w = .ok (.bool false) w := by
  have hnb : (a.block != b.block) = true := by simpa using hne
  have hnb' : (a.block == b.block) = false := by simpa using hne
  have hsb : w.shape? b.block = some (tB, cur.size) := by simp [World.shape?, hb]
  have hfb : w.frozen? b = false := by simp [World.frozen?, hb]
  have hfe : w.frozen? { block := b.block, off := cur.size } = false := by simp [World.frozen?, hb]
  obtain ⟨tA, kA, hsa, hkA⟩ : ∃ tA kA, w.shape? a.block = some (tA, kA) ∧ kA ≠ 0 := by
    cases hh : w.heap[a.block]? with
    | none => simp [World.cell?, hh] at ha
    | some o =>
      cases o with
      | cells c t fr =>
        refine ⟨t, c.size, by simp [World.shape?, hh], fun h0 => ?_⟩
        have hc0 : c = #[] := Array.eq_empty_of_size_eq_zero h0
        subst hc0
        simp [World.cell?, hh] at ha
      | _ => simp [World.cell?, hh] at ha
  change Sem.run P (α := Value) (do
    let some t := (#[tS, tS] : Array TypeId)[0]? | stuck "slices.overlaps: no parameter types"
    let .slice elem ← underlying t | stuck "slices.overlaps: slice type expected"
    let size ← sizeOf elem
    match (some a : Option Addr), (some b : Option Addr) with
    | some a, some b =>
      if la = 0 ∨ lb = 0 ∨ size = 0 then pure (Value.bool false)
      else if a.block != b.block && (← frozen a) && (← frozen b) then unsupported .addressObserved
      else do
        if a.block != b.block then do
          noView a; noView b
          if ← mayBeOne a b then return Value.bool ((← choose (.extern "sameAddr.stringBytes" 2)) == 1)
        pure (Value.bool (a.block == b.block && a.off < b.off + lb * size && b.off < a.off + la * size))
    | _, _ => pure (Value.bool false)) w = _
  by_cases h0 : la = 0 ∨ lb = 0 ∨ size = 0
  · simp [run_underlying ht, hz, h0]
  · have hkB : cur.size ≠ 0 := by omega
    cases hk : cur.size with
    | zero => exact absurd hk hkB
    | succ kB =>
      rw [hk] at hsb hfe
      cases kA with
      | zero => exact absurd rfl hkA
      | succ kA =>
        cases hfa : w.frozen? a <;> cases hfae : w.frozen? { block := a.block, off := kA + 1 } <;>
          simp [run_underlying ht, hz, h0, hnb, hnb', frozen, noView, viewAt, mayBeOne, stringish, shape, Sem.run, hsa, hsb, hfa, hfb, hfe, hfae]
theorem run_copy_rowsz (w : World) (dT sT ty elem : TypeId) (sz : Nat) (g o dLen dCap : Nat) (a : Addr) (sLen sCap : Nat) (cur : Array Value) (t : TypeId) (cs : List Value)
    (hu : P.underlying dT = some (.slice elem)) (hs : (P.info? elem).map (·.size) = some sz)
    (hg : w.heap[g]? = some (.cells cur t (0, 0))) (hn : cs.length = Nat.min sLen dLen * sz)
    (hsrc : ∀ j v, cs[j]? = some v → w.cell? (a.add j) = some v) (hfit : o + cs.length ≤ cur.size) (h1 : ∀ v ∈ cs, v.oneCell' = true) :
    (Builtin.copy_ #[dT, sT] ty #[.slice (some ⟨g, o, none⟩) dLen dCap, .slice (some a) sLen sCap]).run P w =
      .ok (goInt (Nat.min sLen dLen)) (w.setRow g (cur.toList.take o ++ cs ++ cur.toList.drop (o + cs.length)).toArray) := by
  have hl := run_loadCells_list (P := P) w a cs hsrc
  have hst := run_storeCells_at P g o t cs 0 cur w hg (by simpa using hfit) h1
  cases hq : P.info? elem with
  | none => simp [hq] at hs
  | some i =>
    have hi : i.size = sz := by simpa [hq] using hs
    rw [hn] at hl
    simp [Builtin.copy_, run_underlying hu, Builtin.lenOf, Builtin.firstCells, sizeOf, typeInfo, hq, hi, hl, hst]
end
theorem reps_insert {α : Type} {R : α → List Value → Prop} {sz : Nat} {ps : List α} {cs c : List Value} {p : α} {i : Nat} (h : Reps R sz ps cs) (hp : R p c) (hc : c.length = sz) (hi : i ≤ ps.length) :
    Reps R sz (ps.take i ++ [p] ++ ps.drop i) (cs.take (i * sz) ++ c ++ cs.drop (i * sz)) := by
  have hcl := h.1
  have hle : i * sz ≤ cs.length := by rw [hcl]; exact Nat.mul_le_mul_right _ hi
  have hA : (cs.take (i * sz)).length = i * sz := by rw [List.length_take]; omega
  refine ⟨?_, fun j q hq => ?_⟩
  · simp only [List.length_append, List.length_take, List.length_drop, List.length_singleton, hc]
    rw [Nat.min_eq_left hle, Nat.min_eq_left hi, hcl, Nat.add_mul, Nat.add_mul, Nat.one_mul, Nat.sub_mul]
  · rcases Nat.lt_trichotomy j i with hj | hj | hj
    · rw [List.append_assoc, List.getElem?_append_left (by rw [List.length_take]; omega), List.getElem?_take, if_pos hj] at hq
      have := h.2 j q hq
      have hjs : (j + 1) * sz ≤ i * sz := Nat.mul_le_mul_right _ hj
      rw [Nat.add_mul, Nat.one_mul] at hjs
      rw [List.append_assoc, List.drop_append_of_le_length (by omega), List.take_append_of_le_length (by rw [List.length_drop]; omega), List.drop_take, List.take_take, Nat.min_eq_left (by omega)]
      exact this
    · subst hj
      rw [List.append_assoc, List.getElem?_append_right (by rw [List.length_take]; omega), List.length_take, Nat.min_eq_left hi, Nat.sub_self] at hq
      obtain rfl : p = q := by simpa using hq
      rw [List.append_assoc, List.drop_append, hA, Nat.sub_self, List.drop_of_length_le (by omega), List.drop_zero, List.nil_append, List.take_append_of_le_length (by omega), List.take_of_length_le (by omega)]
      exact hp
    · obtain ⟨m, rfl⟩ : ∃ m, j = i + 1 + m := ⟨j - (i + 1), by omega⟩
      have hAc : (ps.take i ++ [p]).length = i + 1 := by rw [List.length_append, List.length_take, Nat.min_eq_left hi]; rfl
      rw [List.getElem?_append_right (by omega), hAc, Nat.add_sub_cancel_left, List.getElem?_drop] at hq
      have := h.2 (i + m) q hq
      have hAc2 : (cs.take (i * sz) ++ c).length = i * sz + sz := by rw [List.length_append, hA, hc]
      rw [List.drop_append, hAc2, List.drop_of_length_le (by rw [hAc2, Nat.add_mul, Nat.add_mul, Nat.one_mul]; omega), List.nil_append, List.drop_drop,
        show i * sz + ((i + 1 + m) * sz - (i * sz + sz)) = (i + m) * sz by rw [Nat.add_mul, Nat.add_mul, Nat.add_mul, Nat.one_mul]; omega]
      exact this
theorem grownBy_any {w w' : World} (h : w.grownBy w' none) (row : Option Nat) : w.grownBy w' row := ⟨h.os, h.tape, h.output, h.size, fun k hk _ => h.block k hk (by simp)⟩
theorem R_inserted {α : Type} {d : Kd α} {e base : Nat} {ok okp : Nat → Prop} {W w1 : World} {v v1 : Value} {xs : List α} {p : α} {inner cs : List Value} {i : Nat} (h0 : ∀ k, v.ownBlock = some k → ok k) (hr : Reps (d.M W base (fun k => ok k ∧ some k ≠ v.ownBlock)) d.sz xs inner) (hp : d.M W base okp p cs) (hokp : ∀ k, okp k → ok k ∧ some k ≠ v.ownBlock) (hi : i ≤ xs.length)
    (hown : w1.ownsRow base e d.sz v1 (xs.length + 1) (inner.take (i * d.sz) ++ cs ++ inner.drop (i * d.sz))) (hg : W.grownBy w1 v.ownBlock) (hat : v1.ownBlock = v.ownBlock ∨ ∃ b, v1.ownBlock = some b ∧ W.heap.size ≤ b) : d.R e w1 base (fun k => ok k ∨ W.heap.size ≤ k) v1 (xs.take i ++ [p] ++ xs.drop i) := by
  have hne : ∀ k, some k ≠ v.ownBlock → k < W.heap.size → some k ≠ v1.ownBlock := by
    intro k hk hlt
    rcases hat with hat | ⟨b, hb, hle⟩
    · rw [hat]; exact hk
    · rw [hb]
      intro he
      injection he with he
      omega
  have step : ∀ {q : α} {c : List Value} {o : Nat → Prop}, d.M W base o q c → (∀ k, o k → ok k ∧ some k ≠ v.ownBlock) → d.M w1 base (fun k => (ok k ∨ W.heap.size ≤ k) ∧ some k ≠ v1.ownBlock) q c := by
    intro q c o hq ho
    have h1 := d.M_move (w1 := w1) (fun k hk => hg.block k hk.2.2.1 (ho k hk.1).2) (d.M_bound hq)
    exact d.M_mono (fun k hk => ⟨.inl (ho k hk.1).1, hne k (ho k hk.1).2 hk.2.2.1⟩) h1
  refine ⟨fun k hk => ?_, inner.take (i * d.sz) ++ cs ++ inner.drop (i * d.sz), ?_, reps_insert (hr.imp_ (fun _ _ hq => step hq (fun _ hk => hk))) (step hp hokp) (d.K_len (d.K_of_M hp)) hi⟩
  · rcases hat with hat | ⟨b, hb, hle⟩
    · exact .inl (h0 k (hat ▸ hk))
    · rw [hb] at hk
      injection hk with hk
      exact .inr (by omega)
  · rw [show (xs.take i ++ [p] ++ xs.drop i).length = xs.length + 1 by simp only [List.length_append, List.length_take, List.length_drop, List.length_singleton]; omega]
    exact hown
theorem w64_in {x : Int} (h0 : 0 ≤ x) (h1 : x ≤ 9223372036854775807) : wrap64 x = x := by unfold wrap64; omega
theorem wi64_in {x : Int} (h0 : 0 ≤ x) (h1 : x ≤ 9223372036854775807) : IntKind.i64.wrap x = x := by rw [IntKind.wrap_i64]; omega
theorem wu64_in {x : Int} (h0 : 0 ≤ x) (h1 : x ≤ 9223372036854775807) : IntKind.u64.wrap x = x := by rw [IntKind.wrap_u64]; omega
theorem half_in {i j m : Nat} (hm : m = (i + j) / 2) (h : (i : Int) + (j : Int) ≤ 9223372036854775807) : wrap64 (((i : Int) + (j : Int)) / 2) = (m : Int) := by
  rw [w64_in (by omega) (by omega)]; omega
def bsN (p : Nat → Bool) : Nat → Nat → Nat → Nat
  | 0, i, _ => i
  | k + 1, i, j => if i < j then (if p ((i + j) / 2) then bsN p k ((i + j) / 2 + 1) j else bsN p k i ((i + j) / 2)) else i
theorem bsN_le (p : Nat → Bool) : ∀ k i j, i ≤ j → bsN p k i j ≤ j
  | 0, i, j, h => h
  | k + 1, i, j, h => by
    rw [bsN]
    split
    · split
      · exact bsN_le p k _ _ (by omega)
      · exact Nat.le_trans (bsN_le p k _ _ (by omega)) (by omega)
    · exact h
end Go.Proofs.Ytcbgichkeecgiaa.Print
