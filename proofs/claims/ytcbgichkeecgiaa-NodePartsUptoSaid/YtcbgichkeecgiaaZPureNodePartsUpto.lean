/- NodeParts: the halves of a split are pages; put together they are what was split. -/
import Derived.Test.YtcbgichkeecgiaaZPrint36
import Derived.Test.YtcbgichkeecgiaaZAll
set_option linter.unusedVariables false
namespace Go.Proofs.Ytcbgichkeecgiaa.Pure
open Go.RowKit Go.Proofs.Ytcbgichkeecgiaa.Print Go.Proofs.YtcbgichkeecgiaaW.PrintWords
theorem bd_of {b : Bool} {ks vs : List (List Int)} {ds : List Int} (h : (True ∧ (ks.length ≤ 1048576 ∧ ∀ y5 ∈ ks, (y5.length ≤ 1048576 ∧ ∀ y2 ∈ y5, (Lit.int .u8 y2).wf = true)) ∧ (vs.length ≤ 1048576 ∧ ∀ y5 ∈ vs, (y5.length ≤ 1048576 ∧ ∀ y2 ∈ y5, (Lit.int .u8 y2).wf = true)) ∧ (ds.length ≤ 1048576 ∧ ∀ y5 ∈ ds, (Lit.int .i64 y5).wf = true))) : Bd ks vs ds :=
  ⟨h.2.1.1, h.2.2.1.1, h.2.2.2.1, fun x hx => ⟨(h.2.1.2 x hx).1, bytesL_wf (h.2.1.2 x hx).2⟩, fun x hx => ⟨(h.2.2.1.2 x hx).1, bytesL_wf (h.2.2.1.2 x hx).2⟩⟩
theorem rise_at {l : List (List Int)} (h : Rise l) {i j : Nat} (hi : i < l.length) (hj : j < l.length) (hij : i < j) : cmpL l[i] l[j] < 0 := List.pairwise_iff_getElem.mp h i j hi hj hij
theorem parts_j0 (q : Nat) (hq : 5000000 ≤ q) {b : Bool} {ks vs : List (List Int)} {ds : List Int} (h : Bd ks vs ds) {ka va : List (List Int)} {da : List Int} {kb vb : List (List Int)} {db : List Int} {key : List Int} (ha : Bd ka va da) (hb : Bd kb vb db)
    (c : chk b ks vs ds = 0) (ca : chk b ka va da = 0) (cb : chk b kb vb db = 0) (hk : key.length ≤ 256) (bk : BytesL key) (e1 : keysM b ka key kb = ks) (e2 : va ++ vb = vs) (e3 : da ++ db = ds) (n1 : 0 < ka.length) (n2 : 0 < kb.length)
    (r1 : cmpL (ka[ka.length - 1]'(by omega)) key < 0) (r2 : b = true → key = kb[0]) (r3 : b = false → cmpL key kb[0] < 0) :
    ladinglaw06_NodeParts.j0 (q + 1) key false b ks vs ds b ka va da b kb vb db = some true := by
  have := ha.kl
  have := h.kl
  have := h.vl
  have := h.dl
  rw [ladinglaw06_NodeParts.j0, if_neg (by decide), merge_is ha hb ca cb key hk bk (by omega), e1, e2, e3, if_pos c, some_bind2, if_pos rfl, same_self b ks vs ds (by omega) (by omega) (by omega) (by omega), some_bind2, if_pos rfl]
  have w : wrap64 ((ka.length : Int) - 1) = ((ka.length - 1 : Nat) : Int) := by rw [w64 (by omega) (by omega)]; omega
  have B1 := (ha.kb _ (List.getElem_mem (show ka.length - 1 < ka.length by omega))).2
  have B2 := (hb.kb _ (List.getElem_mem n2)).2
  have e0 : rd_L1 kb 0 = kb[0] := rdL_at kb 0 n2
  rw [w, if_pos (by omega), if_pos (by omega), if_pos (by omega), rdL_at ka _ (by omega), e0, less_dec _ _ B1 bk, if_pos (decide_eq_true r1)]
  cases b with
  | true => rw [if_pos rfl, ← r2 rfl, if_pos rfl]
  | false => rw [if_neg (by simp), less_dec _ _ bk B2, decide_eq_true (r3 rfl)]
theorem NodePartsUpto : ∀ (a0 : S26), (True ∧ (a0.f1.length ≤ 1048576 ∧ ∀ y5 ∈ a0.f1, (y5.length ≤ 1048576 ∧ ∀ y2 ∈ y5, (Lit.int .u8 y2).wf = true)) ∧ (a0.f2.length ≤ 1048576 ∧ ∀ y5 ∈ a0.f2, (y5.length ≤ 1048576 ∧ ∀ y2 ∈ y5, (Lit.int .u8 y2).wf = true)) ∧ (a0.f3.length ≤ 1048576 ∧ ∀ y5 ∈ a0.f3, (Lit.int .i64 y5).wf = true)) → ∃ k, ladinglaw06_NodeParts.f k a0.f0 a0.f1 a0.f2 a0.f3 = some true := by
  rintro ⟨b, ks, vs, ds⟩ h
  have hp : Bd ks vs ds := bd_of (b := b) h
  obtain ⟨q, hq⟩ : ∃ q : Nat, 5000000 ≤ q := ⟨5000000, Nat.le_refl _⟩
  refine ⟨q + 1, ?_⟩
  simp only
  unfold ladinglaw06_NodeParts.f
  rw [show ladinglaw06_lives.f = some true from rfl, some_bind2, if_pos rfl]
  by_cases hc : chk b ks vs ds = 0 ∧ 2 ≤ ks.length ∧ (b = false → 3 ≤ ks.length)
  · obtain ⟨c, hl, hl3⟩ := hc
    have G := chk_good c
    cases b with
    | true =>
      obtain ⟨hvk, rfl⟩ := G.leaf
      obtain ⟨j, hj, j0, hs⟩ := split_leaf hp c hl (k := q + 1) (by omega)
      have ha := hp.take j j 0
      have hb := hp.drop j j 0
      rw [List.take_zero] at ha
      rw [List.drop_zero] at hb
      have ca := leaf_take G j
      have cb := leaf_drop G j
      have l1 : (ks.take j).length = j := by rw [List.length_take]; omega
      have l2 : (ks.drop j).length = ks.length - j := List.length_drop
      rw [hs, some_bind2, if_pos rfl]
      simp only
      rw [ha.check true (by omega), some_bind2, ca, if_pos rfl, hb.check true (by omega), some_bind2, cb, if_pos rfl, if_neg (by omega), show ((((ks.drop j).length : Nat) : Int) == 0) = false by rw [beq_eq_false_iff_ne]; omega]
      have K := hp.kb _ (List.getElem_mem hj)
      refine parts_j0 q hq hp ha hb c ca cb (G.klen _ (List.getElem_mem hj)) K.2 (List.take_append_drop j ks) (List.take_append_drop j vs) rfl (by omega) (by omega) ?_ (fun _ => ?_) (fun h => by cases h)
      · rw [List.getElem_take]
        exact rise_at G.rise (by omega) hj (by omega)
      · rw [List.getElem_drop]
        simp only [Nat.add_zero]
    | false =>
      obtain ⟨rfl, hdl, _, _⟩ := G.inner
      obtain ⟨j, hj, j0, hs⟩ := split_inner hp c (hl3 rfl) (k := q + 1) (by omega)
      have ha := hp.take j 0 (j + 1)
      have hb := hp.drop (j + 1) 0 (j + 1)
      rw [List.take_zero] at ha
      rw [List.drop_zero] at hb
      have ca := inner_take G j j0 (by omega)
      have cb := inner_drop G (j + 1) hj
      have l1 : (ks.take j).length = j := by rw [List.length_take]; omega
      have l2 : (ks.drop (j + 1)).length = ks.length - (j + 1) := List.length_drop
      rw [hs, some_bind2, if_pos rfl]
      simp only
      rw [ha.check false (by omega), some_bind2, ca, if_pos rfl, hb.check false (by omega), some_bind2, cb, if_pos rfl, if_neg (by omega), show ((((ks.drop (j + 1)).length : Nat) : Int) == 0) = false by rw [beq_eq_false_iff_ne]; omega]
      have hj' : j < ks.length := by omega
      have K := hp.kb _ (List.getElem_mem hj')
      refine parts_j0 q hq hp ha hb c ca cb (G.klen _ (List.getElem_mem hj')) K.2 ?_ rfl (List.take_append_drop (j + 1) ds) (by omega) (by omega) ?_ (fun h => by cases h) (fun _ => ?_)
      · unfold keysM
        rw [if_neg (by simp), List.append_assoc, List.singleton_append, ← List.drop_eq_getElem_cons hj', List.take_append_drop]
      · rw [List.getElem_take]
        exact rise_at G.rise (by omega) hj' (by omega)
      · rw [List.getElem_drop]
        exact rise_at G.rise hj' (by omega) (by omega)
  · obtain ⟨t, ht, hs⟩ := split_no hp b hc (k := q + 1) (by omega)
    rw [hs, some_bind2, if_neg ht]
    rfl
end Go.Proofs.Ytcbgichkeecgiaa.Pure
