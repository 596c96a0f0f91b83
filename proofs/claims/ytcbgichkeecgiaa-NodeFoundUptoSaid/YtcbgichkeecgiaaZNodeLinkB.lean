/- Plain: what a page's checks, copies and places are. -/
import Derived.Test.YtcbgichkeecgiaaZNodeLink
import Derived.Test.YtcbgichkeecgiaaZPrint6
set_option linter.unusedVariables false
namespace Go.Proofs.Ytcbgichkeecgiaa.Pure
open Go.RowKit Go.Proofs.Ytcbgichkeecgiaa.Print Go.Proofs.YtcbgichkeecgiaaW.PrintWords Go.Proofs.YtcbgichkeecgiaaW.PrintLast Go.Proofs.YtcbgichkeecgiaaW.PrintMore
def okF : Option (List Int) → List (List Int) → Bool
  | _, [] => true
  | none, a :: r => decide (a.length ≤ 256) && okF (some a) r
  | some q, a :: r => decide (a.length ≤ 256) && (decide (cmpL q a < 0) && okF (some a) r)
def prevK (ks : List (List Int)) (i : Nat) : Option (List Int) := if i = 0 then none else ks[i - 1]?
theorem any_l0 (l : List (List Int)) (hl : l.length < 4611686018427387904) : ∀ (d k i : Nat), i + d = l.length → d < k →
    ∃ r : Int, slices_IndexFunc_byte_byte.l0 k l 55 (l.length : Int) (i : Int) = some r ∧ decide (r ≥ 0) = (l.drop i).any fun v => decide (512 < v.length)
  | 0, k, i, h, hk => by
    obtain ⟨k, rfl⟩ : ∃ q, k = q + 1 := ⟨k - 1, by omega⟩
    refine ⟨-1, ?_, ?_⟩
    · simp only [slices_IndexFunc_byte_byte.l0]
      rw [if_neg (by omega)]
    · rw [List.drop_of_length_le (by omega)]; rfl
  | d + 1, k, i, h, hk => by
    obtain ⟨k, rfl⟩ : ∃ q, k = q + 1 := ⟨k - 1, by omega⟩
    have hi : i < l.length := by omega
    simp only [slices_IndexFunc_byte_byte.l0]
    rw [if_pos (by omega), if_pos (by omega), if_pos (by omega), rdL_at l i hi, List.drop_eq_getElem_cons hi, List.any_cons]
    simp only [call_T74.f, node_made_1.f, if_pos, Option.bind_some, decide_eq_true_eq]
    by_cases h1 : 512 < l[i].length
    · rw [if_pos (by omega)]
      exact ⟨_, rfl, by rw [decide_eq_true h1, Bool.true_or, decide_eq_true (by omega)]⟩
    · rw [if_neg (by omega), w64n i (by omega), decide_eq_false h1, Bool.false_or]
      exact any_l0 l hl d k (i + 1) (by omega) (by omega)
theorem anyK_l0 (l : List Int) (hl : l.length < 4611686018427387904) : ∀ (d k i : Nat), i + d = l.length → d < k →
    ∃ r : Int, slices_IndexFunc_int_int.l0 k l 57 (l.length : Int) (i : Int) = some r ∧ decide (r ≥ 0) = (l.drop i).any fun v => decide (v < 1 ∨ 1024 ≤ v)
  | 0, k, i, h, hk => by
    obtain ⟨k, rfl⟩ : ∃ q, k = q + 1 := ⟨k - 1, by omega⟩
    refine ⟨-1, ?_, ?_⟩
    · simp only [slices_IndexFunc_int_int.l0]
      rw [if_neg (by omega)]
    · rw [List.drop_of_length_le (by omega)]; rfl
  | d + 1, k, i, h, hk => by
    obtain ⟨k, rfl⟩ : ∃ q, k = q + 1 := ⟨k - 1, by omega⟩
    have hi : i < l.length := by omega
    have e : call_T66.f 57 l[i] = some (decide (l[i] < 1 ∨ 1024 ≤ l[i])) := by
      unfold call_T66.f node_made_2.f
      rw [if_pos rfl]
      by_cases h1 : l[i] < 1
      · rw [if_pos h1, decide_eq_true (Or.inl h1)]
      · rw [if_neg h1]
        by_cases h2 : 1024 ≤ l[i]
        · rw [decide_eq_true (show l[i] ≥ 1024 from h2), decide_eq_true (Or.inr h2)]
        · rw [decide_eq_false (show ¬ l[i] ≥ 1024 from h2), decide_eq_false (by omega)]
    simp only [slices_IndexFunc_int_int.l0]
    rw [if_pos (by omega), if_pos (by omega), if_pos (by omega), rdK_at l i hi, List.drop_eq_getElem_cons hi, List.any_cons, e]
    simp only [Option.bind_some]
    by_cases h1 : l[i] < 1 ∨ 1024 ≤ l[i]
    · rw [decide_eq_true h1, if_pos rfl]
      exact ⟨_, rfl, by rw [Bool.true_or, decide_eq_true (by omega)]⟩
    · rw [decide_eq_false h1, if_neg (by decide), w64n i (by omega), Bool.false_or]
      exact anyK_l0 l hl d k (i + 1) (by omega) (by omega)
theorem any_is {k : Nat} (l : List (List Int)) (hl : l.length < 4611686018427387904) (hk : l.length < k) : slices_ContainsFunc_byte_byte.f k l 55 = some (l.any fun v => decide (512 < v.length)) := by
  obtain ⟨r, h1, h2⟩ := any_l0 l hl l.length k 0 (by omega) hk
  unfold slices_ContainsFunc_byte_byte.f slices_IndexFunc_byte_byte.f
  have h1' : slices_IndexFunc_byte_byte.l0 k l 55 (l.length : Int) 0 = some r := h1
  rw [h1']
  simp only [Option.bind_some]
  rw [h2, List.drop_zero]
theorem anyK_is {k : Nat} (l : List Int) (hl : l.length < 4611686018427387904) (hk : l.length < k) : slices_ContainsFunc_int_int.f k l 57 = some (l.any fun v => decide (v < 1 ∨ 1024 ≤ v)) := by
  obtain ⟨r, h1, h2⟩ := anyK_l0 l hl l.length k 0 (by omega) hk
  unfold slices_ContainsFunc_int_int.f slices_IndexFunc_int_int.f
  have h1' : slices_IndexFunc_int_int.l0 k l 57 (l.length : Int) 0 = some r := h1
  rw [h1']
  simp only [Option.bind_some]
  rw [h2, List.drop_zero]
def shapeP (b : Bool) (ks vs : List (List Int)) (ds : List Int) : Bool :=
  if b then decide (vs.length = ks.length) && decide (ds.length = 0) else decide (0 < ks.length) && (decide (ds.length = ks.length + 1) && decide (vs.length = 0))
def okP (b : Bool) (ks vs : List (List Int)) (ds : List Int) : Bool :=
  okF none ks && (!(vs.any fun v => decide (512 < v.length)) && (!(ds.any fun v => decide (v < 1 ∨ 1024 ≤ v)) && shapeP b ks vs ds))
theorem made_j1 (k : Nat) (x b : Bool) (ks vs : List (List Int)) (ds : List Int) (hl : ks.length < 4611686018427387904) : node_made.j1 (k + 1) x b ks vs ds = some (!x && shapeP b ks vs ds) := by
  cases x
  · cases b
    · simp only [node_made.j1, shapeP, Bool.false_eq_true, if_false, Bool.not_false, Bool.true_and]
      rw [w64n _ (by omega)]
      by_cases h1 : 0 < ks.length
      · rw [if_pos (by omega), decide_eq_true h1]
        by_cases h2 : ds.length = ks.length + 1
        · rw [if_pos (by omega), decide_eq_true h2]
          by_cases h3 : vs.length = 0
          · rw [h3]; rfl
          · rw [decide_eq_false h3, beq_false_of_ne (by omega)]; rfl
        · rw [if_neg (by omega), decide_eq_false h2]; rfl
      · rw [if_neg (by omega), decide_eq_false h1]; rfl
    · simp only [node_made.j1, shapeP, Bool.false_eq_true, if_false, if_true, Bool.not_false, Bool.true_and]
      by_cases h2 : vs.length = ks.length
      · rw [if_pos (by omega), decide_eq_true h2]
        by_cases h3 : ds.length = 0
        · rw [h3]; rfl
        · rw [decide_eq_false h3, beq_false_of_ne (by omega)]; rfl
      · rw [if_neg (by omega), decide_eq_false h2]; rfl
  · simp only [node_made.j1, if_true]; rfl
theorem made_l0 (b : Bool) (ks vs : List (List Int)) (ds : List Int) (hks : ∀ x ∈ ks, BytesL x) (hl : ks.length < 4611686018427387904) (hv : vs.length < 4611686018427387904) (hd : ds.length < 4611686018427387904) : ∀ (d k i : Nat), i + d = ks.length → vs.length < k → ds.length < k → 0 < k →
    node_made.l0 (k + d + 1) ks (ks.length : Int) (i : Int) b ks vs ds = some (okF (prevK ks i) (ks.drop i) && (!(vs.any fun v => decide (512 < v.length)) && (!(ds.any fun v => decide (v < 1 ∨ 1024 ≤ v)) && shapeP b ks vs ds)))
  | 0, k, i, h, hk, hk2, hk3 => by
    simp only [node_made.l0]
    obtain ⟨q, rfl⟩ : ∃ q, k = q + 1 := ⟨k - 1, by omega⟩
    have hF : okF (prevK ks i) (ks.drop i) = true := by rw [List.drop_of_length_le (by omega)]; cases prevK ks i <;> rfl
    rw [if_neg (by omega), Nat.add_zero, any_is vs hv hk, hF, Bool.true_and]
    simp only [Option.bind_some]
    cases hc : vs.any fun v => decide (512 < v.length)
    · rw [if_neg (by decide), anyK_is ds hd hk2]
      simp only [Option.bind_some]
      rw [made_j1 _ _ _ _ _ _ hl]; rfl
    · rw [if_pos rfl, made_j1 _ _ _ _ _ _ hl]; rfl
  | d + 1, k, i, h, hk, hk2, hk3 => by
    have hi : i < ks.length := by omega
    obtain ⟨q, hq⟩ : ∃ q, k + (d + 1) = q := ⟨_, rfl⟩
    rw [hq]
    simp only [node_made.l0]
    rw [if_pos (by omega), if_pos (by omega), if_pos (by omega), rdL_at ks i hi, ← hq, show k + (d + 1) = k + d + 1 by omega, w64n i (by omega), made_l0 b ks vs ds hks hl hv hd d k (i + 1) (by omega) hk hk2 hk3, List.drop_eq_getElem_cons hi]
    have hp : prevK ks (i + 1) = some ks[i] := by unfold prevK; rw [if_neg (by omega), Nat.add_sub_cancel, List.getElem?_eq_getElem hi]
    rw [hp]
    by_cases h1 : 256 < ks[i].length
    · rw [if_pos (by omega)]
      cases prevK ks i <;> simp only [okF] <;> rw [decide_eq_false (by omega)] <;> rfl
    · rw [if_neg (by omega)]
      by_cases h0 : i = 0
      · subst h0
        rw [if_neg (by omega)]
        have : prevK ks 0 = none := rfl
        rw [this]
        simp only [okF]
        rw [decide_eq_true (show ks[0].length ≤ 256 by omega), Bool.true_and]
      · have hi1 : i - 1 < ks.length := by omega
        have hp2 : prevK ks i = some ks[i - 1] := by unfold prevK; rw [if_neg h0, List.getElem?_eq_getElem hi1]
        rw [if_pos (by omega), hp2, w64 (by omega) (by omega), show ((i : Int) - 1) = ((i - 1 : Nat) : Int) by omega, if_pos (by omega), if_pos (by omega), rdL_at ks (i - 1) hi1]
        unfold bytes_Compare.f
        rw [cmpB _ _ (hks _ (List.getElem_mem hi1)) (hks _ (List.getElem_mem hi))]
        simp only [Option.bind_some, okF]
        rw [decide_eq_true (show ks[i].length ≤ 256 by omega), Bool.true_and]
        by_cases h2 : cmpL ks[i - 1] ks[i] < 0
        · rw [if_neg (by omega), decide_eq_true h2, Bool.true_and]
        · rw [if_pos (by omega), decide_eq_false h2]; rfl
theorem made_is {k : Nat} (b : Bool) (ks vs : List (List Int)) (ds : List Int) (hks : ∀ x ∈ ks, BytesL x) (hl : ks.length < 4611686018427387904) (hv : vs.length < 4611686018427387904) (hd : ds.length < 4611686018427387904)
    (hk : ks.length + vs.length + ds.length + 20 ≤ k) : node_made.f k b ks vs ds = some (okP b ks vs ds) := by
  obtain ⟨q, rfl⟩ : ∃ q, k = q + ks.length + 1 := ⟨k - ks.length - 1, by omega⟩
  have := made_l0 b ks vs ds hks hl hv hd ks.length q 0 (by omega) (by omega) (by omega) (by omega)
  rw [List.drop_zero] at this
  exact this
theorem okP_kids {b : Bool} {ks vs : List (List Int)} {ds : List Int} (h : okP b ks vs ds = true) : ∀ x ∈ ds, 0 ≤ x ∧ x < 4611686018427387904 := by
  unfold okP at h
  simp only [Bool.and_eq_true, Bool.not_eq_true', List.any_eq_false, decide_eq_true_eq] at h
  intro x hx
  have := h.2.2.1 x hx
  omega
def chk (b : Bool) (ks vs : List (List Int)) (ds : List Int) : Int := if okP b ks vs ds = true then (if 4096 < sz ks vs ds then 7 else 0) else 2
theorem check_is {k : Nat} (b : Bool) (ks vs : List (List Int)) (ds : List Int) (hks : ∀ x ∈ ks, BytesL x) (hs : okP b ks vs ds = true → sz ks vs ds < 4611686018427387000) (hl : ks.length < 4611686018427387904) (hv : vs.length < 4611686018427387904) (hd : ds.length < 4611686018427387904)
    (hk : ks.length + vs.length + ds.length + 20 ≤ k) : node_Check.f k b ks vs ds = some (chk b ks vs ds) := by
  unfold node_Check.f chk
  rw [made_is b ks vs ds hks hl hv hd hk]
  simp only [Option.bind_some]
  cases ho : okP b ks vs ds
  · rw [if_neg (by decide), if_neg (by decide)]
  · rw [if_pos rfl, if_pos rfl, size_is b ks vs ds (okP_kids ho) (hs ho) hk]
    simp only [Option.bind_some]
    by_cases h1 : 4096 < sz ks vs ds
    · rw [if_pos (by omega), if_pos h1]
    · rw [if_neg (by omega), if_neg h1]
theorem own_l1 (b : Bool) (ks vs : List (List Int)) (ds : List Int) (hl : vs.length < 5864062014805) (hv : ∀ x ∈ vs, x.length ≤ 140737488355327) : ∀ (d k i : Nat), i + d = vs.length → d < k →
    node_own.l1 k vs (vs.length : Int) (i : Int) b ks (vs.take i) ds = some (b, ks, vs, ds)
  | 0, k, i, h, hk => by
    obtain ⟨k, rfl⟩ : ∃ q, k = q + 1 := ⟨k - 1, by omega⟩
    simp only [node_own.l1]
    rw [if_neg (by omega), List.take_of_length_le (by omega)]
  | d + 1, k, i, h, hk => by
    obtain ⟨k, rfl⟩ : ∃ q, k = q + 1 := ⟨k - 1, by omega⟩
    have hi : i < vs.length := by omega
    have hc : bytes_Clone.f vs[i] = some vs[i] := by unfold bytes_Clone.f; rw [if_pos (hv _ (List.getElem_mem hi))]
    simp only [node_own.l1]
    rw [if_pos (by omega), if_pos (by omega), if_pos (by omega), rdL_at vs i hi, hc]
    simp only [Option.bind_some]
    rw [if_pos (by rw [List.length_take]; omega), w64n i (by omega), List.take_append_getElem hi]
    exact own_l1 b ks vs ds hl hv d k (i + 1) (by omega) (by omega)
theorem own_l0 (b : Bool) (ks vs : List (List Int)) (ds : List Int) (hl0 : ks.length < 5864062014805) (hks : ∀ x ∈ ks, x.length ≤ 140737488355327) (hl : vs.length < 5864062014805) (hv : ∀ x ∈ vs, x.length ≤ 140737488355327) : ∀ (d k i : Nat), i + d = ks.length → d + vs.length + 1 < k →
    node_own.l0 k ks (ks.length : Int) (i : Int) b ks vs ds b (ks.take i) ds = some (b, ks, vs, ds)
  | 0, k, i, h, hk => by
    obtain ⟨k, rfl⟩ : ∃ q, k = q + 1 := ⟨k - 1, by omega⟩
    simp only [node_own.l0]
    rw [if_neg (by omega), List.take_of_length_le (by omega)]
    exact own_l1 b ks vs ds hl hv vs.length k 0 (by omega) (by omega)
  | d + 1, k, i, h, hk => by
    obtain ⟨k, rfl⟩ : ∃ q, k = q + 1 := ⟨k - 1, by omega⟩
    have hi : i < ks.length := by omega
    have hc : bytes_Clone.f ks[i] = some ks[i] := by unfold bytes_Clone.f; rw [if_pos (hks _ (List.getElem_mem hi))]
    simp only [node_own.l0]
    rw [if_pos (by omega), if_pos (by omega), if_pos (by omega), rdL_at ks i hi, hc]
    simp only [Option.bind_some]
    rw [if_pos (by rw [List.length_take]; omega), w64n i (by omega), List.take_append_getElem hi]
    exact own_l0 b ks vs ds hl0 hks hl hv d k (i + 1) (by omega) (by omega)
theorem own_is {k : Nat} (b : Bool) (ks vs : List (List Int)) (ds : List Int) (hl0 : ks.length < 5864062014805) (hks : ∀ x ∈ ks, x.length ≤ 140737488355327) (hl : vs.length < 5864062014805) (hv : ∀ x ∈ vs, x.length ≤ 140737488355327) (hd : ds.length * 8 ≤ 140737488355328)
    (hk : ks.length + vs.length + 20 ≤ k) : node_own.f k b ks vs ds = some (b, ks, vs, ds) := by
  unfold node_own.f slices_Clone_int_int.f
  rw [if_pos hd]
  simp only [Option.bind_some]
  exact own_l0 b ks vs ds hl0 hks hl hv ks.length k 0 (by omega) (by omega)
end Go.Proofs.Ytcbgichkeecgiaa.Pure
