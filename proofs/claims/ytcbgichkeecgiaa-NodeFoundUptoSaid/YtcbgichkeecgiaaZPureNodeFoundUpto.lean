-- A claim's text with what it uses alone (wip/slim.py, over what the kit's print and this session's tools wrote). Not trusted: Lean checks it.
import Derived.Test.YtcbgichkeecgiaaZPrint30
import Derived.Test.YtcbgichkeecgiaaZNodeLinkD
set_option linter.unusedVariables false
namespace Go.Proofs.Ytcbgichkeecgiaa.Pure
open Go.RowKit Go.Proofs.Ytcbgichkeecgiaa.Print Go.Proofs.YtcbgichkeecgiaaW.PrintWords
theorem bd_of {b : Bool} {ks vs : List (List Int)} {ds : List Int} (h : (True ∧ (ks.length ≤ 1048576 ∧ ∀ y5 ∈ ks, (y5.length ≤ 1048576 ∧ ∀ y2 ∈ y5, (Lit.int .u8 y2).wf = true)) ∧ (vs.length ≤ 1048576 ∧ ∀ y5 ∈ vs, (y5.length ≤ 1048576 ∧ ∀ y2 ∈ y5, (Lit.int .u8 y2).wf = true)) ∧ (ds.length ≤ 1048576 ∧ ∀ y5 ∈ ds, (Lit.int .i64 y5).wf = true))) : Bd ks vs ds :=
  ⟨h.2.1.1, h.2.2.1.1, h.2.2.2.1, fun x hx => ⟨(h.2.1.2 x hx).1, bytesL_wf (h.2.1.2 x hx).2⟩, fun x hx => ⟨(h.2.2.1.2 x hx).1, bytesL_wf (h.2.2.1.2 x hx).2⟩⟩
theorem found_j1 (q : Nat) (hq : 4000000 ≤ q) (ks vs kb vb : List (List Int)) (ds : List Int) (key other : List Int) (hp : Bd ks vs ds) (hb : Bd kb vb ds) (gp : chk true ks vs ds = 0) (gb : chk true kb vb ds = 0)
    (hk : BytesL key) (ho : BytesL other) (hm : other ≠ key → (other ∈ ks ↔ other ∈ kb)) (hx : other ≠ key → other ∈ kb → ∃ x, vs[bel other ks]? = some x ∧ vb[bel other kb]? = some x) :
    ladinglaw06_NodeFound.j1 (q + 1) key other false true ks vs ds true kb vb ds = some true := by
  simp only [ladinglaw06_NodeFound.j1]
  rw [if_neg (by decide)]
  by_cases he : other = key
  · rw [if_pos ((str_eq _ _ ho hk).2 he)]
  · rw [if_neg (fun h => he ((str_eq _ _ ho hk).1 h)), find_is hp true other ho hq, find_is hb true other ho hq]
    simp only [Option.bind_some, fnd]
    rw [if_pos gp, if_pos gb]
    simp only [if_true]
    by_cases hin : other ∈ kb
    · have hin2 := (hm he).2 hin
      obtain ⟨x, e1, e2⟩ := hx he hin
      have l1 : bel other ks < vs.length := (List.getElem?_eq_some_iff.1 e1).1
      have l2 : bel other kb < vb.length := (List.getElem?_eq_some_iff.1 e2).1
      have n1 : ¬ (other ∈ ks ∧ true = false) := by simp
      have n2 : ¬ (other ∈ kb ∧ true = false) := by simp
      rw [decide_eq_true hin, decide_eq_true hin2, if_neg n1, if_neg n2, if_neg (show ¬ (true != true) = true by decide), if_pos rfl, if_pos (by omega), if_pos (by omega), if_pos (by omega), if_pos (by omega), rdL_some e1, rdL_some e2, BEq.rfl]
    · have hin2 : ¬ other ∈ ks := fun h => hin ((hm he).1 h)
      rw [decide_eq_false hin, decide_eq_false hin2, if_neg (by decide), if_neg (by decide)]
theorem found_j0 (q : Nat) (hq : 4000000 ≤ q) (ks vs ka va : List (List Int)) (ds : List Int) (key other : List Int) (hp : Bd ks vs ds) (ha : Bd ka va ds) (gp : chk true ks vs ds = 0) (ga : chk true ka va ds = 0)
    (hk : BytesL key) (ho : BytesL other) (hka : key ∈ ka) (hm : other ≠ key → (other ∈ ks ↔ other ∈ ka.eraseIdx (bel key ka)))
    (hx : other ≠ key → other ∈ ka.eraseIdx (bel key ka) → ∃ x, vs[bel other ks]? = some x ∧ (va.eraseIdx (bel key ka))[bel other (ka.eraseIdx (bel key ka))]? = some x) :
    ladinglaw06_NodeFound.j0 (q + 2) key other false true ks vs ds true ka va ds = some true := by
  have hga := chk_good ga
  obtain ⟨hb, _⟩ := bel_mem hga.rise hka
  have hgb := good_erase hga (bel key ka) hb
  have gb := good_chk hgb.ok hgb.small
  have hbb := bd_erase ha (bel key ka)
  have hnk : ¬ key ∈ ka.eraseIdx (bel key ka) := fun h => ((mem_erase hga.rise hka).1 h).1 rfl
  have hl1 := List.length_eraseIdx_of_lt hb
  have := ha.kl
  simp only [ladinglaw06_NodeFound.j0]
  rw [if_neg (by decide), cut_is ha true key hk (by omega)]
  have hc : cutP true ka va ds key = (true, ka.eraseIdx (bel key ka), va.eraseIdx (bel key ka), ds, true, 0) := by
    unfold cutP
    rw [if_pos ga, if_pos rfl, if_pos hka]
  rw [hc]
  simp only [Option.bind_some]
  rw [find_is hbb true key hk (by omega)]
  simp only [Option.bind_some, fnd]
  rw [if_pos gb]
  simp only [if_true, decide_eq_false hnk]
  rw [if_neg (by decide), w64 (by omega) (by omega)]
  have hne : (((ka.eraseIdx (bel key ka)).length : Int) != (ka.length : Int) - 1) = false := by
    rw [bne_eq_false_iff_eq]; omega
  rw [hne]
  exact found_j1 q hq ks vs _ _ ds key other hp hbb gp gb hk ho hm hx
theorem NodeFoundUpto : ∀ (a0 : S26) (l1 : List Int) (l2 : List Int) (l3 : List Int), (True ∧ (a0.f1.length ≤ 1048576 ∧ ∀ y5 ∈ a0.f1, (y5.length ≤ 1048576 ∧ ∀ y2 ∈ y5, (Lit.int .u8 y2).wf = true)) ∧ (a0.f2.length ≤ 1048576 ∧ ∀ y5 ∈ a0.f2, (y5.length ≤ 1048576 ∧ ∀ y2 ∈ y5, (Lit.int .u8 y2).wf = true)) ∧ (a0.f3.length ≤ 1048576 ∧ ∀ y5 ∈ a0.f3, (Lit.int .i64 y5).wf = true)) → (l1.length ≤ 1048576 ∧ ∀ y2 ∈ l1, (Lit.int .u8 y2).wf = true) → (l2.length ≤ 1048576 ∧ ∀ y2 ∈ l2, (Lit.int .u8 y2).wf = true) → (l3.length ≤ 1048576 ∧ ∀ y2 ∈ l3, (Lit.int .u8 y2).wf = true) → ∃ k, ladinglaw06_NodeFound.f k a0.f0 a0.f1 a0.f2 a0.f3 l1 l2 l3 = some true := by
  rintro ⟨b, ks, vs, ds⟩ key val other h hk hv ho
  have hp : Bd ks vs ds := bd_of (b := b) h
  clear h
  have bk := bytesL_wf hk.2
  have bv := bytesL_wf hv.2
  have bo := bytesL_wf ho.2
  obtain ⟨q, hq⟩ : ∃ q, 4000000 ≤ q := ⟨4000000, Nat.le_refl _⟩
  refine ⟨q + 2, ?_⟩
  unfold ladinglaw06_NodeFound.f ladinglaw06_lives.f
  simp only [Option.bind_some, if_true]
  rw [put_is hp b key val bk bv hk.1 hv.1 (by omega)]
  simp only [Option.bind_some]
  unfold putP
  by_cases gp : chk b ks vs ds = 0
  · rw [if_pos gp]
    cases b
    · rw [if_neg (show ¬ false = true by decide)]; simp [no5]
    · rw [if_pos rfl]
      by_cases hl : 256 < key.length ∨ 512 < val.length
      · rw [if_pos hl]; simp [no5]
      · rw [if_neg hl]
        by_cases hs : 4096 < Pure.sz (putR ks vs key val).1 (putR ks vs key val).2 ds
        · rw [if_pos hs]; simp [no5]
        · rw [if_neg hs]
          have hg := chk_good gp
          obtain ⟨hga, hka, hn, hval⟩ := put_good hg key val (by omega) (by omega) (by omega)
          have ha := putR_bd hg hp key val bk bv hk.1 hv.1
          have ga := good_chk hga.ok hga.small
          have hvk := hg.leaf.1
          have hj : ladinglaw06_NodeFound.j0 (q + 2) key other false true ks vs ds true (putR ks vs key val).1 (putR ks vs key val).2 ds = some true := by
            refine found_j0 q hq ks vs _ _ ds key other hp ha gp ga bk bo hka (fun he => ?_) (fun he => ?_) <;> rw [hn] <;> unfold putR <;> by_cases hm : key ∈ ks
            · rw [if_pos hm]; rw [mem_erase hg.rise hm]; exact ⟨fun h => ⟨he, h⟩, fun h => h.2⟩
            · rw [if_neg hm]; rw [erase_insL _ _ _ (bel_le _ _)]
            · rw [if_pos hm]
              intro hi
              rw [erase_set]
              exact get_erase hg.rise hm hvk hi
            · rw [if_neg hm]
              intro hi
              have hle := bel_le key ks
              rw [erase_insL _ _ _ (bel_le _ _)] at hi
              rw [erase_insL _ _ _ (bel_le _ _), erase_insL _ _ _ (by omega)]
              obtain ⟨hb, _⟩ := bel_mem hg.rise hi
              exact ⟨vs[bel other ks]'(by omega), List.getElem?_eq_getElem _, List.getElem?_eq_getElem _⟩
          generalize (putR ks vs key val).1 = ka at *
          generalize (putR ks vs key val).2 = va at *
          have l2 : bel key ks < va.length := (List.getElem?_eq_some_iff.1 hval).1
          simp only [if_true]
          rw [find_is ha true key bk (by omega)]
          simp only [Option.bind_some, fnd]
          rw [if_pos ga, decide_eq_true hka, if_neg (show ¬ (key ∈ ka ∧ true = false) by simp), hn]
          simp only [if_true]
          rw [if_neg (by omega), if_neg (by omega), if_pos (by omega), if_pos (by omega), rdL_some hval]
          have hne : ((strOfNums val).toList != (strOfNums val).toList) = false := by simp
          rw [hne]
          exact hj
  · rw [if_neg gp]
    have : ¬ (no5 (chk b ks vs ds)).2.2.2.2 = 0 := gp
    rw [if_neg this]; simp [no5]
end Go.Proofs.Ytcbgichkeecgiaa.Pure
