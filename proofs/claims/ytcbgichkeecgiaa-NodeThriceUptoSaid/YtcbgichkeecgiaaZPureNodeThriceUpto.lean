/- NodeThrice: three pages are put together in either order; what is found in a part is found in the whole. -/
import Derived.Test.YtcbgichkeecgiaaZPrint39
import Derived.Test.YtcbgichkeecgiaaZAll
set_option linter.unusedVariables false
namespace Go.Proofs.Ytcbgichkeecgiaa.Pure
open Go.RowKit Go.Proofs.Ytcbgichkeecgiaa.Print Go.Proofs.YtcbgichkeecgiaaW.PrintWords
theorem bd_of {b : Bool} {ks vs : List (List Int)} {ds : List Int} (h : (True ∧ (ks.length ≤ 1048576 ∧ ∀ y5 ∈ ks, (y5.length ≤ 1048576 ∧ ∀ y2 ∈ y5, (Lit.int .u8 y2).wf = true)) ∧ (vs.length ≤ 1048576 ∧ ∀ y5 ∈ vs, (y5.length ≤ 1048576 ∧ ∀ y2 ∈ y5, (Lit.int .u8 y2).wf = true)) ∧ (ds.length ≤ 1048576 ∧ ∀ y5 ∈ ds, (Lit.int .i64 y5).wf = true))) : Bd ks vs ds :=
  ⟨h.2.1.1, h.2.2.1.1, h.2.2.2.1, fun x hx => ⟨(h.2.1.2 x hx).1, bytesL_wf (h.2.1.2 x hx).2⟩, fun x hx => ⟨(h.2.2.1.2 x hx).1, bytesL_wf (h.2.2.1.2 x hx).2⟩⟩
structure Pg (b : Bool) (ks vs : List (List Int)) (ds : List Int) : Prop where
  bd : Bd ks vs ds
  ok : chk b ks vs ds = 0
theorem find_in {ks vs : List (List Int)} (h : Pg true ks vs []) (key : List Int) (bk : BytesL key) {k : Nat} (hk : 4000000 ≤ k) : ∃ n, node_Find.f k true ks vs [] key = some (n, decide (key ∈ ks), 0) := by
  refine ⟨(if key ∈ ks ∧ true = false then ((bel key ks + 1 : Nat) : Int) else (bel key ks : Int)), ?_⟩
  rw [find_is h.bd true key bk hk]
  unfold fnd
  rw [if_pos h.ok]
theorem thrice_l0 (q : Nat) (hq : 5000000 ≤ q) (key : List Int) (bk : BytesL key) {ka va kb vb kc vc : List (List Int)} (ha : Pg true ka va []) (hb : Pg true kb vb []) (hc : Pg true kc vc []) :
    ladinglaw06_NodeThrice.l0 (q + 4) key (decide (key ∈ ka ++ (kb ++ kc))) false [(⟨true, ka, va, []⟩ : S26), ⟨true, kb, vb, []⟩, ⟨true, kc, vc, []⟩] ((([(⟨true, ka, va, []⟩ : S26), ⟨true, kb, vb, []⟩, ⟨true, kc, vc, []⟩]).length : Nat) : Int) 0 = some true := by
  obtain ⟨na, fa⟩ := find_in ha key bk (k := q + 3) (by omega)
  obtain ⟨nb, fb⟩ := find_in hb key bk (k := q + 2) (by omega)
  obtain ⟨nc, fc⟩ := find_in hc key bk (k := q + 1) (by omega)
  have r0 : rd_T26 [(⟨true, ka, va, []⟩ : S26), ⟨true, kb, vb, []⟩, ⟨true, kc, vc, []⟩] 0 = ⟨true, ka, va, []⟩ := rfl
  have r1 : rd_T26 [(⟨true, ka, va, []⟩ : S26), ⟨true, kb, vb, []⟩, ⟨true, kc, vc, []⟩] 1 = ⟨true, kb, vb, []⟩ := rfl
  have r2 : rd_T26 [(⟨true, ka, va, []⟩ : S26), ⟨true, kb, vb, []⟩, ⟨true, kc, vc, []⟩] 2 = ⟨true, kc, vc, []⟩ := rfl
  have w0 : wrap64 (0 + 1) = 1 := by unfold wrap64; omega
  have w1 : wrap64 (1 + 1) = 2 := by unfold wrap64; omega
  have w2 : wrap64 (2 + 1) = 3 := by unfold wrap64; omega
  have t3 : ∀ x, ladinglaw06_NodeThrice.l0 (q + 1) key (decide (key ∈ ka ++ (kb ++ kc))) x [(⟨true, ka, va, []⟩ : S26), ⟨true, kb, vb, []⟩, ⟨true, kc, vc, []⟩] ((([(⟨true, ka, va, []⟩ : S26), ⟨true, kb, vb, []⟩, ⟨true, kc, vc, []⟩]).length : Nat) : Int) 3 = some (decide (key ∈ ka ++ (kb ++ kc)) == x) := fun x => by
    rw [ladinglaw06_NodeThrice.l0, if_neg (by simp)]
  have t2 : ∀ x, ladinglaw06_NodeThrice.l0 (q + 2) key (decide (key ∈ ka ++ (kb ++ kc))) x [(⟨true, ka, va, []⟩ : S26), ⟨true, kb, vb, []⟩, ⟨true, kc, vc, []⟩] ((([(⟨true, ka, va, []⟩ : S26), ⟨true, kb, vb, []⟩, ⟨true, kc, vc, []⟩]).length : Nat) : Int) 2 = some (decide (key ∈ ka ++ (kb ++ kc)) == (x || decide (key ∈ kc))) := fun x => by
    rw [show q + 2 = (q + 1) + 1 from rfl, ladinglaw06_NodeThrice.l0, if_pos (by simp), if_pos (by omega), if_pos (by simp), r2]
    simp only
    rw [fc, some_bind2, w2, t3, t3]
    cases x <;> rfl
  have t1 : ∀ x, ladinglaw06_NodeThrice.l0 (q + 3) key (decide (key ∈ ka ++ (kb ++ kc))) x [(⟨true, ka, va, []⟩ : S26), ⟨true, kb, vb, []⟩, ⟨true, kc, vc, []⟩] ((([(⟨true, ka, va, []⟩ : S26), ⟨true, kb, vb, []⟩, ⟨true, kc, vc, []⟩]).length : Nat) : Int) 1 = some (decide (key ∈ ka ++ (kb ++ kc)) == ((x || decide (key ∈ kb)) || decide (key ∈ kc))) := fun x => by
    rw [show q + 3 = (q + 2) + 1 from rfl, ladinglaw06_NodeThrice.l0, if_pos (by simp), if_pos (by omega), if_pos (by simp), r1]
    simp only
    rw [fb, some_bind2, w1, t2, t2]
    cases x <;> rfl
  rw [show q + 4 = (q + 3) + 1 from rfl, ladinglaw06_NodeThrice.l0, if_pos (by simp), if_pos (by omega), if_pos (by simp), r0]
  simp only
  rw [fa, some_bind2, w0, t1, t1, if_neg (by simp)]
  congr 1
  rw [beq_iff_eq, Bool.eq_iff_iff]
  simp only [List.mem_append, Bool.or_eq_true, decide_eq_true_eq]
  exact ⟨fun h => by rcases h with h | h | h <;> simp [h], fun h => by rcases h with (h | h) | h <;> simp [h]⟩
theorem thrice_j0 (q : Nat) (hq : 5000000 ≤ q) (b : Bool) (key k1 k2 : List Int) (bk : BytesL key) {ks vs ka va kb vb kc vc kx vx : List (List Int)} {ds da db dc dx : List Int} (hp : Pg b ks vs ds) (ha : Pg b ka va da) (hb : Pg b kb vb db) (hc : Pg b kc vc dc) (hx : Pg b kx vx dx)
    (l1 : k1.length ≤ 256) (l2 : k2.length ≤ 256) (b1 : BytesL k1) (b2 : BytesL k2) (e1 : keysM b ka k1 kb = kx) (e2 : va ++ vb = vx) (e3 : da ++ db = dx) (f1 : keysM b kx k2 kc = ks) (f2 : vx ++ vc = vs) (f3 : dx ++ dc = ds) :
    ladinglaw06_NodeThrice.j0 (q + 6) key k1 k2 false b ks vs ds b ka va da b kb vb db b kc vc dc = some true := by
  have := hp.bd.kl
  have := hp.bd.vl
  have := hp.bd.dl
  rw [show q + 6 = (q + 5) + 1 from rfl, ladinglaw06_NodeThrice.j0, if_neg (by decide), merge_is ha.bd hb.bd ha.ok hb.ok k1 l1 b1 (by omega), e1, e2, e3, if_pos hx.ok, some_bind2]
  simp only
  rw [merge_is hx.bd hc.bd hx.ok hc.ok k2 l2 b2 (by omega), f1, f2, f3, if_pos hp.ok, some_bind2, if_pos trivial, if_pos rfl]
  simp only
  rw [same_self b ks vs ds (by omega) (by omega) (by omega) (by omega), some_bind2, show q + 5 = (q + 4) + 1 from rfl, ladinglaw06_NodeThrice.j1, if_neg (by decide)]
  cases b with
  | false => rw [if_neg (by simp)]
  | true =>
    obtain ⟨_, rfl⟩ := (chk_good hp.ok).leaf
    obtain ⟨_, rfl⟩ := (chk_good ha.ok).leaf
    obtain ⟨_, rfl⟩ := (chk_good hb.ok).leaf
    obtain ⟨_, rfl⟩ := (chk_good hc.ok).leaf
    obtain ⟨n, hf⟩ := find_in hp key bk (k := q + 4) (by omega)
    rw [if_pos rfl, hf, some_bind2, some_bind2]
    have e : ks = ka ++ (kb ++ kc) := by
      rw [← f1, ← e1]
      unfold keysM
      rw [if_pos rfl, if_pos rfl, List.append_assoc]
    rw [e]
    exact thrice_l0 q hq key bk ha hb hc
theorem split_any {ks vs : List (List Int)} {ds : List Int} (h : Bd ks vs ds) (b : Bool) {k : Nat} (hk : 4000000 ≤ k) : ∃ r, node_Split.f k b ks vs ds = some r := by
  by_cases hc : chk b ks vs ds = 0 ∧ 2 ≤ ks.length ∧ (b = false → 3 ≤ ks.length)
  · cases b with
    | true =>
      obtain ⟨j, _, _, hs⟩ := split_leaf h hc.1 hc.2.1 hk
      exact ⟨_, hs⟩
    | false =>
      obtain ⟨j, _, _, hs⟩ := split_inner h hc.1 (hc.2.2 rfl) hk
      exact ⟨_, hs⟩
  · obtain ⟨t, _, hs⟩ := split_no h b hc hk
    exact ⟨_, hs⟩
theorem NodeThriceUpto : ∀ (a0 : S26) (l1 : List Int), (True ∧ (a0.f1.length ≤ 1048576 ∧ ∀ y5 ∈ a0.f1, (y5.length ≤ 1048576 ∧ ∀ y2 ∈ y5, (Lit.int .u8 y2).wf = true)) ∧ (a0.f2.length ≤ 1048576 ∧ ∀ y5 ∈ a0.f2, (y5.length ≤ 1048576 ∧ ∀ y2 ∈ y5, (Lit.int .u8 y2).wf = true)) ∧ (a0.f3.length ≤ 1048576 ∧ ∀ y5 ∈ a0.f3, (Lit.int .i64 y5).wf = true)) → (l1.length ≤ 1048576 ∧ ∀ y2 ∈ l1, (Lit.int .u8 y2).wf = true) → ∃ k, ladinglaw06_NodeThrice.f k a0.f0 a0.f1 a0.f2 a0.f3 l1 = some true := by
  rintro ⟨b, ks, vs, ds⟩ key h hkey
  have hp : Bd ks vs ds := bd_of (b := b) h
  have bk : BytesL key := bytesL_wf hkey.2
  obtain ⟨q, hq⟩ : ∃ q : Nat, 5000000 ≤ q := ⟨5000000, Nat.le_refl _⟩
  refine ⟨q + 6, ?_⟩
  simp only
  have hno : ∀ k1 k2 b1 x1 x2 x3 b2 y1 y2 y3 b3 z1 z2 z3 b4 u1 u2 u3, ladinglaw06_NodeThrice.j0 (q + 6) key k1 k2 true b1 x1 x2 x3 b2 y1 y2 y3 b3 z1 z2 z3 b4 u1 u2 u3 = some true := fun _ _ _ _ _ _ _ _ _ _ _ _ _ _ _ _ _ _ => by
    rw [show q + 6 = (q + 5) + 1 from rfl, ladinglaw06_NodeThrice.j0, if_pos rfl]
  unfold ladinglaw06_NodeThrice.f
  rw [show ladinglaw06_lives.f = some true from rfl, some_bind2, if_pos rfl]
  by_cases hc : chk b ks vs ds = 0 ∧ 2 ≤ ks.length ∧ (b = false → 3 ≤ ks.length)
  · obtain ⟨c, hl, hl3⟩ := hc
    have G := chk_good c
    cases b with
    | true =>
      obtain ⟨hvk, rfl⟩ := G.leaf
      obtain ⟨i, hi, i0, hs⟩ := split_leaf hp c hl (k := q + 6) (by omega)
      have ha := hp.take i i 0
      have hr := hp.drop i i 0
      rw [List.take_zero] at ha
      rw [List.drop_zero] at hr
      have ca := leaf_take G i
      have cr := leaf_drop G i
      have Gr := chk_good cr
      have l1 : (ks.take i).length = i := by rw [List.length_take]; omega
      have l2 : (ks.drop i).length = ks.length - i := List.length_drop
      rw [hs, some_bind2]
      simp only
      by_cases hc2 : 2 ≤ (ks.drop i).length
      · obtain ⟨j, hj, j0, hs2⟩ := split_leaf hr cr hc2 (k := q + 6) (by omega)
        have hb := hr.take j j 0
        have hcc := hr.drop j j 0
        rw [List.take_zero] at hb
        rw [List.drop_zero] at hcc
        have cb := leaf_take Gr j
        have ccc := leaf_drop Gr j
        have hx := hp.take (i + j) (i + j) 0
        rw [List.take_zero] at hx
        have cx := leaf_take G (i + j)
        rw [hs2, some_bind2, if_pos trivial]
        simp only
        rw [show ((0 : Int) != 0) = false from rfl]
        have K1 := hp.kb _ (List.getElem_mem hi)
        have K2 := hr.kb _ (List.getElem_mem hj)
        refine thrice_j0 q hq true key _ _ bk ⟨hp, c⟩ ⟨ha, ca⟩ ⟨hb, cb⟩ ⟨hcc, ccc⟩ ⟨hx, cx⟩ (G.klen _ (List.getElem_mem hi)) (Gr.klen _ (List.getElem_mem hj)) K1.2 K2.2 ?_ ?_ rfl ?_ ?_ rfl
        · unfold keysM
          rw [if_pos rfl, List.take_add]
        · rw [List.take_add]
        · unfold keysM
          rw [if_pos rfl, List.drop_drop, List.take_append_drop]
        · rw [List.drop_drop, List.take_append_drop]
      · obtain ⟨t, ht, hs2⟩ := split_no hr true (fun h => hc2 h.2.1) (k := q + 6) (by omega)
        rw [hs2, some_bind2, if_pos trivial]
        simp only
        rw [show (t != 0) = true by simpa using ht]
        exact hno _ _ _ _ _ _ _ _ _ _ _ _ _ _ _ _ _ _
    | false =>
      obtain ⟨rfl, hdl, _, _⟩ := G.inner
      obtain ⟨i, hi, i0, hs⟩ := split_inner hp c (hl3 rfl) (k := q + 6) (by omega)
      have ha := hp.take i 0 (i + 1)
      have hr := hp.drop (i + 1) 0 (i + 1)
      rw [List.take_zero] at ha
      rw [List.drop_zero] at hr
      have ca := inner_take G i i0 (by omega)
      have cr := inner_drop G (i + 1) hi
      have Gr := chk_good cr
      have l1 : (ks.take i).length = i := by rw [List.length_take]; omega
      have l2 : (ks.drop (i + 1)).length = ks.length - (i + 1) := List.length_drop
      have hi' : i < ks.length := by omega
      rw [hs, some_bind2]
      simp only
      by_cases hc2 : 3 ≤ (ks.drop (i + 1)).length
      · obtain ⟨j, hj, j0, hs2⟩ := split_inner hr cr hc2 (k := q + 6) (by omega)
        have hb := hr.take j 0 (j + 1)
        have hcc := hr.drop (j + 1) 0 (j + 1)
        rw [List.take_zero] at hb
        rw [List.drop_zero] at hcc
        have cb := inner_take Gr j j0 (by omega)
        have ccc := inner_drop Gr (j + 1) hj
        have hx := hp.take (i + 1 + j) 0 (i + 1 + j + 1)
        rw [List.take_zero] at hx
        have cx := inner_take G (i + 1 + j) (by omega) (by omega)
        have hj' : j < (ks.drop (i + 1)).length := by omega
        rw [hs2, some_bind2, if_pos trivial]
        simp only
        rw [show ((0 : Int) != 0) = false from rfl]
        have K1 := hp.kb _ (List.getElem_mem hi')
        have K2 := hr.kb _ (List.getElem_mem hj')
        have hn : i + 1 + j < ks.length := by omega
        refine thrice_j0 q hq false key _ _ bk ⟨hp, c⟩ ⟨ha, ca⟩ ⟨hb, cb⟩ ⟨hcc, ccc⟩ ⟨hx, cx⟩ (G.klen _ (List.getElem_mem hi')) (Gr.klen _ (List.getElem_mem hj')) K1.2 K2.2 ?_ rfl ?_ ?_ rfl ?_
        · unfold keysM
          rw [if_neg (by simp), List.take_append_getElem hi']
          exact List.take_add.symm
        · rw [show i + 1 + j + 1 = (i + 1) + (j + 1) by omega]
          exact List.take_add.symm
        · unfold keysM
          rw [if_neg (by simp), List.getElem_drop, List.take_append_getElem hn, List.drop_drop, show i + 1 + (j + 1) = i + 1 + j + 1 by omega, List.take_append_drop]
        · rw [List.drop_drop, show i + 1 + (j + 1) = i + 1 + j + 1 by omega, List.take_append_drop]
      · obtain ⟨t, ht, hs2⟩ := split_no hr false (fun h => hc2 (h.2.2 rfl)) (k := q + 6) (by omega)
        rw [hs2, some_bind2, if_pos trivial]
        simp only
        rw [show (t != 0) = true by simpa using ht]
        exact hno _ _ _ _ _ _ _ _ _ _ _ _ _ _ _ _ _ _
  · obtain ⟨t, ht, hs⟩ := split_no hp b hc (k := q + 6) (by omega)
    obtain ⟨r, hr⟩ := split_any (⟨by simp, by simp, by simp, by simp, by simp⟩ : Bd [] [] []) false (k := q + 6) (by omega)
    rw [hs, some_bind2]
    simp only
    rw [hr, some_bind2, if_neg ht]
    exact hno _ _ _ _ _ _ _ _ _ _ _ _ _ _ _ _ _ _
end Go.Proofs.Ytcbgichkeecgiaa.Pure
