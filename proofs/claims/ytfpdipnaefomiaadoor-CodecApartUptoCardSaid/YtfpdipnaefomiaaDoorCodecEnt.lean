/- Plain: what entries are written as; lists that are the same. -/
import Derived.Test.YtfpdipnaefomiaaDoorPrint12
import Derived.Test.YtfpdipnaefomiaaDoorPrint13
import Derived.Test.YtfpdipnaefomiaaDoorPrint13
import Derived.Test.YtfpdipnaefomiaaDoorCodecKeyMore
set_option linter.unusedVariables false
namespace Go.Proofs.YtfpdipnaefomiaaDoor.Pure
open Go.RowKit Go.Proofs.YtfpdipnaefomiaaDoor.Print Go.Proofs.YtfpdipnaefomiaaDoorW.PrintWords Go.Proofs.YtfpdipnaefomiaaDoorW.PrintLast Go.Proofs.YtfpdipnaefomiaaDoorW.PrintMore

noncomputable instance decS64 : DecidableEq S64 := fun _ _ => Classical.propDecidable _
noncomputable instance decS60 : DecidableEq S60 := fun _ _ => Classical.propDecidable _
theorem rd64_at (l : List S64) (i : Nat) (h : i < l.length) : rd_T64 l (i : Int) = l[i] := by
  unfold rd_T64
  rw [Int.toNat_natCast, List.getD_eq_getElem?_getD, List.getElem?_eq_getElem h]; rfl
theorem drop64 {l d : List S64} {i : Nat} {x : S64} (h : l.drop i = x :: d) : i < l.length ∧ rd_T64 l (i : Int) = x ∧ l.drop (i + 1) = d ∧ x ∈ l := by
  have hi : i < l.length := by
    rcases Nat.lt_or_ge i l.length with h1 | h1
    · exact h1
    · rw [List.drop_eq_nil_of_le h1] at h; cases h
  have h2 := List.drop_eq_getElem_cons hi
  rw [h] at h2
  injection h2 with h3 h4
  exact ⟨hi, by rw [rd64_at l i hi, h3], h4.symm, by rw [h3]; exact List.getElem_mem hi⟩
theorem drop64_nil {l : List S64} {i : Nat} (h : l.drop i = []) : l.length ≤ i := by
  rcases Nat.lt_or_ge i l.length with h1 | h1
  · rw [List.drop_eq_getElem_cons h1] at h; cases h
  · exact h1
/-- An entry's bytes. -/
def entBytes (e : S64) : List Int := num e.f0.length ++ e.f0 ++ (num e.f1.length ++ e.f1)
def fits (e : S64) : Prop := e.f0.length ≤ 256 ∧ e.f1.length ≤ 512
instance (e : S64) : Decidable (fits e) := by unfold fits; infer_instance
theorem ent_len (e : S64) (h : fits e) : (entBytes e).length ≤ 800 := by
  have h1 := num_len e.f0.length
  have h2 := num_len e.f1.length
  unfold fits at h
  unfold entBytes
  simp only [List.length_append]
  omega
def entOut (acc : List Int) : List S64 → List Int × Int
  | [] => (acc, 0)
  | e :: r => if fits e then entOut (acc ++ entBytes e) r else ([], 4)
theorem ent_l (l : List S64) (hl : l.length ≤ 4096) : ∀ (r : List S64) (i k : Nat) (acc : List Int), l.drop i = r → acc.length + r.length * 800 ≤ 10000000 →
    codec_Entries.l0 (k + 10 + 2 * r.length) acc l (l.length : Int) (i : Int) = some (entOut acc r) := by
  intro r
  induction r with
  | nil =>
    intro i k acc hd ha
    have := drop64_nil hd
    rw [show k + 10 + 2 * ([] : List S64).length = (k + 9) + 1 by simp]
    rw [codec_Entries.l0, if_neg (by omega)]; rfl
  | cons e r ih =>
    intro i k acc hd ha
    obtain ⟨h1, h2, h3, h4⟩ := drop64 hd
    rw [List.length_cons] at ha
    rw [show k + 10 + 2 * (e :: r).length = (k + 10 + 2 * r.length + 1) + 1 by rw [List.length_cons]; omega]
    rw [codec_Entries.l0, if_pos (by omega), if_pos (by omega), if_pos (by omega), h2, entOut]
    have go : ∀ b : Bool, (b = true ↔ ¬ fits e) → codec_Entries.j1 (k + 10 + 2 * r.length + 1) acc l (l.length : Int) (i : Int) b e.f0 e.f1 = some (if fits e then entOut (acc ++ entBytes e) r else ([], 4)) := by
      intro b hb
      rw [codec_Entries.j1]
      by_cases g : fits e
      · have hbf : b = false := by
          cases b with
          | true => exact absurd g (hb.1 rfl)
          | false => rfl
        have hf := g
        unfold fits at hf
        have n1 := num_len e.f0.length
        have n2 := num_len e.f1.length
        have hel := ent_len e g
        rw [hbf, if_neg (by decide), if_pos g, u64 (by omega) (by omega), u64 (by omega) (by omega), groups_num _ acc _ (by omega) (by omega) (by omega), some_bind, if_pos (by simp only [List.length_append]; omega),
          groups_num _ _ _ (by omega) (by omega) (by simp only [List.length_append]; omega), some_bind, if_pos (by simp only [List.length_append]; omega), w64 (by omega) (by omega)]
        have e1 : acc ++ num e.f0.length ++ e.f0 ++ num e.f1.length ++ e.f1 = acc ++ entBytes e := by unfold entBytes; simp only [List.append_assoc]
        rw [e1, show (i : Int) + 1 = ((i + 1 : Nat) : Int) by omega]
        exact ih (i + 1) k _ h3 (by rw [List.length_append]; omega)
      · rw [if_pos (hb.2 g), if_neg g]
    by_cases c : (e.f0.length : Int) > 256
    · rw [if_pos c]
      exact go true ⟨fun _ h => by unfold fits at h; omega, fun _ => rfl⟩
    · rw [if_neg c]
      refine go _ ⟨fun h h2 => ?_, fun h => ?_⟩
      · have := of_decide_eq_true h
        unfold fits at h2; omega
      · refine decide_eq_true ?_
        unfold fits at h; omega
theorem entOut_is : ∀ (r : List S64) (acc : List Int), entOut acc r = if ∀ e ∈ r, fits e then (acc ++ r.flatMap entBytes, 0) else ([], 4)
  | [], acc => by rw [entOut, if_pos (by simp), List.flatMap_nil, List.append_nil]
  | e :: r, acc => by
    rw [entOut, entOut_is r]
    by_cases g : fits e
    · rw [if_pos g]
      by_cases h : ∀ x ∈ r, fits x
      · rw [if_pos h, if_pos (by intro x hx; rcases List.mem_cons.1 hx with rfl | hx; exact g; exact h x hx), List.flatMap_cons, List.append_assoc]
      · rw [if_neg h, if_neg (fun h2 => h (fun x hx => h2 x (by simp [hx])))]
    · rw [if_neg g, if_neg (fun h2 => g (h2 e (by simp)))]
/-- What entries are written as: the bytes, and why not. -/
def entsOf (l : List S64) : List Int × Int := if l.length > 4096 then ([], 3) else if ∀ e ∈ l, fits e then (num l.length ++ l.flatMap entBytes, 0) else ([], 4)
theorem ents_is (k : Nat) (l : List S64) (hk : 8300 ≤ k) : codec_Entries.f k l = some (entsOf l) := by
  unfold codec_Entries.f entsOf
  by_cases h : l.length > 4096
  · rw [if_pos (by omega), if_pos h]
  · rw [if_neg (by omega), if_neg h]
    obtain ⟨d, rfl⟩ : ∃ d, k = d + 10 + 2 * l.length := ⟨k - 10 - 2 * l.length, by omega⟩
    have hn := num_len l.length
    rw [u64 (by omega) (by omega), groups_num _ [] _ (by omega) (by omega) (by simp), some_bind, List.nil_append]
    exact (ent_l l (by omega) l 0 d (num l.length) rfl (by omega)).trans (by rw [entOut_is])
theorem ents_cases (l : List S64) : (∃ c : Int, c ≠ 0 ∧ entsOf l = ([], c)) ∨ (l.length ≤ 4096 ∧ (∀ e ∈ l, fits e) ∧ entsOf l = (num l.length ++ l.flatMap entBytes, 0)) := by
  unfold entsOf
  by_cases h1 : l.length > 4096
  · rw [if_pos h1]; exact .inl ⟨3, by decide, rfl⟩
  · rw [if_neg h1]
    by_cases h2 : ∀ p ∈ l, fits p
    · rw [if_pos h2]; exact .inr ⟨by omega, h2, rfl⟩
    · rw [if_neg h2]; exact .inl ⟨4, by decide, rfl⟩
theorem num_inj {n m : Nat} {a b : List Int} (hn : n < 18446744073709551616) (hm : m < 18446744073709551616) (h : num n ++ a = num m ++ b) : n = m ∧ a = b := by
  have h1 := rn_num n a hn
  rw [h, rn_num m b hm] at h1
  simp only [Option.some.injEq, Prod.mk.injEq] at h1
  exact ⟨h1.1.symm, h1.2.symm⟩
theorem ent_inj (e f : S64) (u v : List Int) (he : fits e) (hf : fits f) (h : entBytes e ++ u = entBytes f ++ v) : e = f ∧ u = v := by
  unfold fits at he hf
  unfold entBytes at h
  simp only [List.append_assoc] at h
  obtain ⟨h1, h2⟩ := num_inj (by omega) (by omega) h
  obtain ⟨h3, h4⟩ := List.append_inj h2 h1
  obtain ⟨h5, h6⟩ := num_inj (by omega) (by omega) h4
  obtain ⟨h7, h8⟩ := List.append_inj h6 h5
  obtain ⟨e0, e1⟩ := e
  obtain ⟨f0, f1⟩ := f
  simp only at h3 h7
  subst h3; subst h7
  exact ⟨rfl, h8⟩
theorem ents_inj : ∀ (a b : List S64), a.length = b.length → (∀ e ∈ a, fits e) → (∀ e ∈ b, fits e) → a.flatMap entBytes = b.flatMap entBytes → a = b
  | [], [], _, _, _, _ => rfl
  | [], _ :: _, h, _, _, _ => by simp at h
  | _ :: _, [], h, _, _, _ => by simp at h
  | e :: a, f :: b, h, ha, hb, hx => by
    rw [List.flatMap_cons, List.flatMap_cons] at hx
    obtain ⟨h1, h2⟩ := ent_inj e f _ _ (ha e (by simp)) (hb f (by simp)) hx
    rw [h1, ents_inj a b (by simpa using h) (fun x hx => ha x (by simp [hx])) (fun x hx => hb x (by simp [hx])) h2]
def EntsOk (l : List S64) : Prop := ∀ e ∈ l, BytesL e.f0 ∧ BytesL e.f1
theorem ents_bytes (l : List S64) (h : EntsOk l) (hf : ∀ e ∈ l, fits e) (hl : l.length ≤ 4096) : BytesL (num l.length ++ l.flatMap entBytes) := by
  refine bytesL_append (num_bytes _ (by omega)) ?_
  intro x hx
  obtain ⟨e, he, hxe⟩ := List.mem_flatMap.1 hx
  have hfe := hf e he
  unfold fits at hfe
  have hb := h e he
  unfold entBytes at hxe
  exact bytesL_append (bytesL_append (num_bytes _ (by omega)) hb.1) (bytesL_append (num_bytes _ (by omega)) hb.2) x hxe
theorem same_is (a b : List Int) (ha : BytesL a) (hb : BytesL b) : ladingref03_Same.f a b = some (decide (a = b)) := by
  unfold ladingref03_Same.f
  by_cases h : a = b
  · subst h; rw [beq_self_eq_true, decide_eq_true rfl]
  · rw [decide_eq_false h]
    congr 1
    exact beq_eq_false_iff_ne.2 (fun e => h (strOf_inj ha hb e))
theorem sameE_l (a b : List S64) (hl : a.length = b.length) (ha : EntsOk a) (hb : EntsOk b) (hs : a.length ≤ 1048576) : ∀ (r : List S64) (i k : Nat), a.drop i = r →
    ladingref03_SameEntries.l0 (k + r.length + 1) a b (a.length : Int) (i : Int) = some (decide (r = b.drop i)) := by
  intro r
  induction r with
  | nil =>
    intro i k hd
    have := drop64_nil hd
    rw [ladingref03_SameEntries.l0, if_neg (by omega), List.drop_eq_nil_of_le (by omega), decide_eq_true rfl]
  | cons e r ih =>
    intro i k hd
    obtain ⟨h1, h2, h3, h4⟩ := drop64 hd
    have hbi : i < b.length := by omega
    rw [List.length_cons, show k + (r.length + 1) + 1 = (k + r.length + 1) + 1 by omega, ladingref03_SameEntries.l0, if_pos (by omega), if_pos (by omega), if_pos (by omega), if_pos (by omega), h2, rd64_at b i hbi, List.drop_eq_getElem_cons hbi]
    have oe := ha e h4
    have ob := hb b[i] (List.getElem_mem hbi)
    rw [same_is _ _ oe.1 ob.1, some_bind]
    by_cases g1 : e.f0 = b[i].f0
    · rw [decide_eq_true g1, if_pos rfl, same_is _ _ oe.2 ob.2, some_bind]
      by_cases g2 : e.f1 = b[i].f1
      · rw [decide_eq_true g2, if_pos rfl, w64 (by omega) (by omega), show (i : Int) + 1 = ((i + 1 : Nat) : Int) by omega, ih (i + 1) k h3]
        congr 1
        have he : e = b[i] := by
          generalize b[i] = f at g1 g2
          obtain ⟨e0, e1⟩ := e
          obtain ⟨f0, f1⟩ := f
          simp only at g1 g2
          subst g1; subst g2; rfl
        by_cases g : r = b.drop (i + 1)
        · rw [decide_eq_true g, decide_eq_true (by rw [he, g])]
        · rw [decide_eq_false g, decide_eq_false (fun h => g (List.cons.inj h).2)]
      · rw [decide_eq_false g2, if_neg (by decide), decide_eq_false (fun h => g2 (by rw [(List.cons.inj h).1]))]
    · rw [decide_eq_false g1, if_neg (by decide), decide_eq_false (fun h => g1 (by rw [(List.cons.inj h).1]))]
theorem sameE_is (k : Nat) (a b : List S64) (ha : EntsOk a) (hb : EntsOk b) (hs : a.length ≤ 1048576) (hk : a.length + 1 ≤ k) : ladingref03_SameEntries.f k a b = some (decide (a = b)) := by
  obtain ⟨d, rfl⟩ : ∃ d, k = d + a.length + 1 := ⟨k - a.length - 1, by omega⟩
  unfold ladingref03_SameEntries.f
  by_cases h : a.length = b.length
  · rw [if_pos (by omega)]; exact sameE_l a b h ha hb hs a 0 d rfl
  · rw [if_neg (by omega), decide_eq_false (fun e => h (by rw [e]))]
theorem bytesOf_inj {s t : ByteArray} (h : bytesOf s = bytesOf t) : s = t := by rw [← strOf_bytesOf s, ← strOf_bytesOf t, h]
theorem part_eq (p q : S60) (h0 : p.f0 = q.f0) (h1 : p.f1 = q.f1) (h2 : p.f2 = q.f2) : p = q := by
  obtain ⟨p0, p1, p2⟩ := p
  obtain ⟨q0, q1, q2⟩ := q
  simp only at h0 h1 h2
  subst h0; subst h1; subst h2; rfl
theorem sameP_l (a b : List S60) (hl : a.length = b.length) (hs : a.length ≤ 1048576) : ∀ (r : List S60) (i k : Nat), a.drop i = r →
    ladingref03_SameParts.l0 (k + r.length + 1) a b (a.length : Int) (i : Int) = some (decide (r = b.drop i)) := by
  intro r
  induction r with
  | nil =>
    intro i k hd
    have := drop60_nil hd
    rw [ladingref03_SameParts.l0, if_neg (by omega), List.drop_eq_nil_of_le (by omega), decide_eq_true rfl]
  | cons e r ih =>
    intro i k hd
    obtain ⟨h1, h2, h3, h4⟩ := drop60 hd
    have hbi : i < b.length := by omega
    rw [List.length_cons, show k + (r.length + 1) + 1 = (k + r.length + 1) + 1 by omega, ladingref03_SameParts.l0, if_pos (by omega), if_pos (by omega), if_pos (by omega), if_pos (by omega), h2, rd60_at b i hbi, List.drop_eq_getElem_cons hbi]
    by_cases g : e = b[i]
    · rw [← g, if_neg (by simp), w64 (by omega) (by omega), show (i : Int) + 1 = ((i + 1 : Nat) : Int) by omega, ih (i + 1) k h3]
      congr 1
      by_cases g2 : r = b.drop (i + 1)
      · rw [decide_eq_true g2, decide_eq_true (by rw [g2])]
      · rw [decide_eq_false g2, decide_eq_false (fun h => g2 (List.cons.inj h).2)]
    · rw [decide_eq_false (fun h => g (List.cons.inj h).1), if_pos]
      by_cases c0 : e.f0 = b[i].f0
      · by_cases c1 : e.f1 = b[i].f1
        · have c2 : e.f2.toList ≠ b[i].f2.toList := fun h => g (part_eq _ _ c0 c1 (by
            rw [Lib.toList_data, Lib.toList_data] at h
            exact bytesOf_inj (by unfold bytesOf; rw [h])))
          simp [c2]
        · simp [c1]
      · simp [c0]
theorem sameP_is (k : Nat) (a b : List S60) (hs : a.length ≤ 1048576) (hk : a.length + 1 ≤ k) : ladingref03_SameParts.f k a b = some (decide (a = b)) := by
  obtain ⟨d, rfl⟩ : ∃ d, k = d + a.length + 1 := ⟨k - a.length - 1, by omega⟩
  unfold ladingref03_SameParts.f
  by_cases h : a.length = b.length
  · rw [if_pos (by omega)]; exact sameP_l a b h hs a 0 d rfl
  · rw [if_neg (by omega), decide_eq_false (fun e => h (by rw [e]))]
theorem cmpP_zero (p q : S60) (h : cmpP p q = 0) : p = q := by
  unfold cmpP at h
  by_cases h0 : p.f0 = q.f0
  · rw [if_neg (fun g => g h0)] at h
    by_cases g1 : p.f1 < q.f1 ∨ cmpL (bytesOf p.f2) (bytesOf q.f2) = -1
    · rw [if_pos g1] at h; cases h
    · rw [if_neg g1] at h
      by_cases g2 : p.f1 > q.f1 ∨ cmpL (bytesOf p.f2) (bytesOf q.f2) = 1
      · rw [if_pos g2] at h; cases h
      · have hc : cmpL (bytesOf p.f2) (bytesOf q.f2) = 0 := by
          rcases cmpL_vals (bytesOf p.f2) (bytesOf q.f2) with e | e | e
          · exact absurd (Or.inr e) g1
          · exact e
          · exact absurd (Or.inr e) g2
        exact part_eq p q h0 (by omega) (bytesOf_inj (cmpL_zero _ _ hc))
  · rw [if_pos h0] at h
    split at h <;> cases h
theorem cmpPs_zero : ∀ (a b : List S60), cmpPs a b = 0 → a = b
  | [], [], _ => rfl
  | [], _ :: _, h => by simp [cmpPs] at h
  | _ :: _, [], h => by simp [cmpPs] at h
  | p :: a, q :: b, h => by
    unfold cmpPs at h
    by_cases c : cmpP p q = 0
    · rw [if_pos c] at h
      rw [cmpP_zero p q c, cmpPs_zero a b h]
    · rw [if_neg c] at h; exact absurd h c
theorem key_inj (a b : List S60) (ha : ∀ p ∈ a, good p ∧ 0 ≤ p.f1 ∧ p.f1 < 18446744073709551616) (hb : ∀ p ∈ b, good p ∧ 0 ≤ p.f1 ∧ p.f1 < 18446744073709551616) (h : a.flatMap partBytes = b.flatMap partBytes) : a = b := by
  have hs := cmp_parts a b [] [] ha hb (.inr ⟨rfl, rfl⟩)
  rw [List.append_nil, List.append_nil, h, cmpL_self] at hs
  by_cases g : cmpPs a b = 0
  · exact cmpPs_zero a b g
  · rw [if_neg g] at hs; exact absurd hs.symm g
end Go.Proofs.YtfpdipnaefomiaaDoor.Pure
