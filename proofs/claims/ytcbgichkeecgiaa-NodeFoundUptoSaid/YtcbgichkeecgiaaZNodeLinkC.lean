/- Plain: where keys are in a page, what is found, put and cut. -/
import Derived.Test.YtcbgichkeecgiaaZNodeLinkB
import Derived.Test.YtcbgichkeecgiaaZPrint26
import Derived.Test.YtcbgichkeecgiaaZPrint9
set_option linter.unusedVariables false
namespace Go.Proofs.Ytcbgichkeecgiaa.Pure
open Go.RowKit Go.Proofs.Ytcbgichkeecgiaa.Print Go.Proofs.YtcbgichkeecgiaaW.PrintWords Go.Proofs.YtcbgichkeecgiaaW.PrintLast Go.Proofs.YtcbgichkeecgiaaW.PrintMore
def Rise (l : List (List Int)) : Prop := l.Pairwise fun a b => cmpL a b < 0
theorem okF_some : ∀ (l : List (List Int)) (q : List Int), okF (some q) l = true ↔ (∀ x ∈ l, x.length ≤ 256) ∧ Rise (q :: l)
  | [], q => by simp [okF, Rise]
  | a :: r, q => by
    have ih := okF_some r a
    unfold okF
    rw [Bool.and_eq_true, Bool.and_eq_true, decide_eq_true_eq, decide_eq_true_eq, ih]
    unfold Rise
    rw [List.pairwise_cons (a := q)]
    constructor
    · rintro ⟨h1, h2, h3, h4⟩
      refine ⟨fun x hx => ?_, fun x hx => ?_, h4⟩
      · rcases List.mem_cons.1 hx with rfl | hx
        · exact h1
        · exact h3 x hx
      · rcases List.mem_cons.1 hx with rfl | hx
        · exact h2
        · exact cmpL_trans q a x h2 ((List.pairwise_cons.1 h4).1 x hx)
    · rintro ⟨h1, h2, h3⟩
      exact ⟨h1 a (by simp), h2 a (by simp), fun x hx => h1 x (by simp [hx]), h3⟩
theorem okF_none (l : List (List Int)) : okF none l = true ↔ (∀ x ∈ l, x.length ≤ 256) ∧ Rise l := by
  cases l with
  | nil => simp [okF, Rise]
  | cons a r =>
    unfold okF
    rw [Bool.and_eq_true, decide_eq_true_eq, okF_some]
    constructor
    · rintro ⟨h1, h2, h3⟩
      refine ⟨fun x hx => ?_, h3⟩
      rcases List.mem_cons.1 hx with rfl | hx
      · exact h1
      · exact h2 x hx
    · rintro ⟨h1, h2⟩
      exact ⟨h1 a (by simp), fun x hx => h1 x (by simp [hx]), h2⟩
def bel (key : List Int) : List (List Int) → Nat
  | [] => 0
  | a :: r => if cmpL a key < 0 then bel key r + 1 else 0
theorem bel_le (key : List Int) : ∀ l, bel key l ≤ l.length
  | [] => by simp [bel]
  | a :: r => by have := bel_le key r; unfold bel; split <;> simp <;> omega
theorem bel_spec (key : List Int) : ∀ (l : List (List Int)), Rise l → ∀ (i : Nat) (hi : i < l.length), (cmpL l[i] key < 0 ↔ i < bel key l)
  | [], _, i, hi => by simp at hi
  | a :: r, h, i, hi => by
    obtain ⟨h1, h2⟩ := List.pairwise_cons.1 h
    unfold bel
    cases i with
    | zero => by_cases hc : cmpL a key < 0 <;> simp [hc]
    | succ i =>
      have hi' : i < r.length := by simpa using hi
      have ih := bel_spec key r h2 i hi'
      rw [List.getElem_cons_succ]
      by_cases hc : cmpL a key < 0
      · rw [if_pos hc, ih]; omega
      · rw [if_neg hc]
        refine ⟨fun hx => absurd (cmpL_trans a _ key (h1 _ (List.getElem_mem hi')) hx) hc, fun hx => by omega⟩
theorem bel_eq (key : List Int) (l : List (List Int)) (n : Nat) (h : Rise l) (hn : n ≤ l.length) (h1 : ∀ (i : Nat) (hi : i < l.length), i < n → cmpL l[i] key < 0) (h2 : ∀ (i : Nat) (hi : i < l.length), n ≤ i → ¬ cmpL l[i] key < 0) : bel key l = n := by
  have hle := bel_le key l
  rcases Nat.lt_trichotomy (bel key l) n with hlt | heq | hgt
  · exact absurd ((bel_spec key l h (bel key l) (by omega)).1 (h1 _ (by omega) hlt)) (by omega)
  · exact heq
  · exact absurd ((bel_spec key l h n (by omega)).2 hgt) (h2 n (by omega) (Nat.le_refl _))
theorem bel_mem {key : List Int} {l : List (List Int)} (h : Rise l) (hm : key ∈ l) : ∃ hi : bel key l < l.length, l[bel key l] = key := by
  obtain ⟨j, hj, e⟩ := List.getElem_of_mem hm
  have : bel key l = j := by
    refine bel_eq key l j h (by omega) (fun i hi hij => ?_) (fun i hi hij => ?_)
    · rw [← e]; exact List.pairwise_iff_getElem.1 h i j hi hj hij
    · rcases Nat.eq_or_lt_of_le hij with rfl | hlt
      · rw [e]; exact cmpL_irr key
      · intro hc
        have h2 := List.pairwise_iff_getElem.1 h j i hj hi hlt
        rw [e] at h2
        exact cmpL_irr key (cmpL_trans _ _ _ h2 hc)
  subst this
  exact ⟨hj, e⟩
theorem at_is (ks : List (List Int)) (key : List Int) (h : Rise ks) (hks : ∀ x ∈ ks, BytesL x) (hk : BytesL key) (hl : ks.length < 4611686018427387904) : node_place.at_ ks key = bel key ks := by
  unfold node_place.at_
  refine bsN_spec _ (bel key ks) 64 0 ks.length (Nat.zero_le _) (by omega) (Nat.zero_le _) (bel_le _ _) fun i hi => ?_
  unfold node_place.P node_place.cmp
  rw [rdL_at ks i hi, cmpB _ _ (hks _ (List.getElem_mem hi)) hk, decide_eq_true_eq]
  exact bel_spec key ks h i hi
theorem place_is (b : Bool) (ks vs : List (List Int)) (ds : List Int) (key : List Int) (h : Rise ks) (hks : ∀ x ∈ ks, BytesL x) (hk : BytesL key) (hl : ks.length < 4611686018427387904) :
    node_place.f b ks vs ds key = some ((bel key ks : Int), decide (key ∈ ks)) := by
  unfold node_place.f
  rw [if_pos (by omega), at_is ks key h hks hk hl]
  congr 2
  by_cases hi : bel key ks < ks.length
  · rw [rdL_at ks _ hi, str_beq _ _ (hks _ (List.getElem_mem hi)) hk, decide_eq_true hi, Bool.true_and]
    by_cases hm : key ∈ ks
    · obtain ⟨_, e⟩ := bel_mem h hm
      rw [decide_eq_true hm, decide_eq_true e]
    · rw [decide_eq_false hm, decide_eq_false (fun e => hm (by rw [← e]; exact List.getElem_mem hi))]
  · rw [decide_eq_false hi, Bool.false_and, decide_eq_false (fun hm => hi (bel_mem h hm).1)]
structure Bd (ks vs : List (List Int)) (ds : List Int) : Prop where
  kl : ks.length ≤ 1048576
  vl : vs.length ≤ 1048576
  dl : ds.length ≤ 1048576
  kb : ∀ x ∈ ks, x.length ≤ 1048576 ∧ BytesL x
  vb : ∀ x ∈ vs, x.length ≤ 1048576 ∧ BytesL x
theorem sumL_le : ∀ (l : List (List Int)), (∀ x ∈ l, x.length ≤ 1048576) → sumL l ≤ l.length * 1048600
  | [], _ => by simp [sumL_nil]
  | a :: r, h => by
    have ih := sumL_le r (fun x hx => h x (by simp [hx]))
    have ha := h a (by simp)
    have hw := wd_le9 (n := a.length) (by omega)
    rw [sumL_cons, List.length_cons]
    unfold lg
    omega
theorem sumK_le : ∀ (l : List Int), (∀ x ∈ l, 0 ≤ x ∧ x < 4611686018427387904) → sumK l ≤ l.length * 9
  | [], _ => by simp [sumK_nil]
  | a :: r, h => by
    have ih := sumK_le r (fun x hx => h x (by simp [hx]))
    have ha := h a (by simp)
    have hw := wd_le9 (n := a.toNat) (by omega)
    rw [sumK_cons, List.length_cons]
    omega
theorem Bd.sz {ks vs : List (List Int)} {ds : List Int} (h : Bd ks vs ds) (hd : ∀ x ∈ ds, 0 ≤ x ∧ x < 4611686018427387904) : sz ks vs ds < 4611686018427387000 := by
  have h1 := sumL_le ks (fun x hx => (h.kb x hx).1)
  have h2 := sumL_le vs (fun x hx => (h.vb x hx).1)
  have h3 := sumK_le ds hd
  have h4 := wd_le9 (n := ks.length) (by have := h.kl; omega)
  have := h.kl
  have := h.vl
  have := h.dl
  unfold Pure.sz
  omega
theorem Bd.check {ks vs : List (List Int)} {ds : List Int} (h : Bd ks vs ds) (b : Bool) {k : Nat} (hk : 4000000 ≤ k) : node_Check.f k b ks vs ds = some (chk b ks vs ds) := by
  have := h.kl
  have := h.vl
  have := h.dl
  exact check_is b ks vs ds (fun x hx => (h.kb x hx).2) (fun ho => h.sz (okP_kids ho)) (by omega) (by omega) (by omega) (by omega)
structure Good (b : Bool) (ks vs : List (List Int)) (ds : List Int) : Prop where
  ok : okP b ks vs ds = true
  small : sz ks vs ds ≤ 4096
  rise : Rise ks
  klen : ∀ x ∈ ks, x.length ≤ 256
  vlen : ∀ x ∈ vs, x.length ≤ 512
  shape : shapeP b ks vs ds = true
theorem chk_good {b : Bool} {ks vs : List (List Int)} {ds : List Int} (h : chk b ks vs ds = 0) : Good b ks vs ds := by
  unfold chk at h
  by_cases ho : okP b ks vs ds = true
  · rw [if_pos ho] at h
    by_cases hs : 4096 < sz ks vs ds
    · rw [if_pos hs] at h; exact absurd h (by decide)
    · have ho2 := ho
      unfold okP at ho
      simp only [Bool.and_eq_true, Bool.not_eq_true', List.any_eq_false, decide_eq_true_eq, okF_none] at ho
      exact ⟨ho2, by omega, ho.1.2, ho.1.1, fun x hx => by have := ho.2.1 x hx; omega, ho.2.2.2⟩
  · rw [if_neg ho] at h; exact absurd h (by decide)
theorem good_chk {b : Bool} {ks vs : List (List Int)} {ds : List Int} (ho : okP b ks vs ds = true) (hs : sz ks vs ds ≤ 4096) : chk b ks vs ds = 0 := by
  unfold chk
  rw [if_pos ho, if_neg (by omega)]
theorem Good.leaf {ks vs : List (List Int)} {ds : List Int} (h : Good true ks vs ds) : vs.length = ks.length ∧ ds = [] := by
  have := h.shape
  unfold shapeP at this
  simp only [if_true, Bool.and_eq_true, decide_eq_true_eq, List.length_eq_zero_iff] at this
  exact this
theorem leaf_ok {ks vs : List (List Int)} (h1 : Rise ks) (h2 : ∀ x ∈ ks, x.length ≤ 256) (h3 : ∀ x ∈ vs, x.length ≤ 512) (h4 : vs.length = ks.length) : okP true ks vs [] = true := by
  unfold okP shapeP
  simp only [Bool.and_eq_true, Bool.not_eq_true', List.any_eq_false, decide_eq_true_eq, okF_none, if_true]
  refine ⟨⟨h2, h1⟩, fun x hx => (by have := h3 x hx; omega), fun x hx => (by cases hx), h4, rfl⟩
theorem Good.lens {b : Bool} {ks vs : List (List Int)} {ds : List Int} (h : Good b ks vs ds) : ks.length ≤ 4096 ∧ vs.length ≤ 4096 ∧ ds.length ≤ 4096 := by
  have h1 := len_sumL ks
  have h2 := len_sumL vs
  have h3 := len_sumK ds
  have := h.small
  unfold Pure.sz at this
  omega
def fnd (b : Bool) (ks vs : List (List Int)) (ds : List Int) (key : List Int) : Int × Bool × Int :=
  if chk b ks vs ds = 0 then (if key ∈ ks ∧ b = false then ((bel key ks + 1 : Nat) : Int) else (bel key ks : Int), decide (key ∈ ks), 0) else (0, false, chk b ks vs ds)
theorem find_is {ks vs : List (List Int)} {ds : List Int} (h : Bd ks vs ds) (b : Bool) (key : List Int) (hk : BytesL key) {k : Nat} (hf : 4000000 ≤ k) : node_Find.f k b ks vs ds key = some (fnd b ks vs ds key) := by
  unfold node_Find.f fnd
  rw [h.check b hf]
  simp only [Option.bind_some]
  by_cases hc : chk b ks vs ds = 0
  · have hg := chk_good hc
    have hl := hg.lens
    have hle := bel_le key ks
    rw [if_pos hc, if_pos hc, place_is b ks vs ds key hg.rise (fun x hx => (h.kb x hx).2) hk (by omega)]
    simp only [Option.bind_some, decide_eq_true_eq]
    by_cases hm : key ∈ ks
    · rw [if_pos hm]
      cases b
      · rw [if_neg (by decide), if_pos ⟨hm, rfl⟩, w64n _ (by omega)]
      · rw [if_pos rfl, if_neg (fun hx => by cases hx.2)]
    · rw [if_neg hm, if_neg (fun hx => hm hx.1)]
  · rw [if_neg hc, if_neg hc]
def insL (l : List (List Int)) (n : Nat) (x : List Int) : List (List Int) := l.take n ++ [x] ++ l.drop n
def putR (ks vs : List (List Int)) (key val : List Int) : List (List Int) × List (List Int) :=
  if key ∈ ks then (ks, vs.set (bel key ks) val) else (insL ks (bel key ks) key, insL vs (bel key ks) val)
def no5 (t : Int) : Bool × List (List Int) × List (List Int) × List Int × Int := (false, [], [], [], t)
def putP (b : Bool) (ks vs : List (List Int)) (ds : List Int) (key val : List Int) : Bool × List (List Int) × List (List Int) × List Int × Int :=
  if chk b ks vs ds = 0 then (if b = true then (if 256 < key.length ∨ 512 < val.length then no5 4 else if 4096 < sz (putR ks vs key val).1 (putR ks vs key val).2 ds then no5 7 else (b, (putR ks vs key val).1, (putR ks vs key val).2, ds, 0)) else no5 15) else no5 (chk b ks vs ds)
theorem leaf_is {ks vs : List (List Int)} {ds : List Int} (h : Bd ks vs ds) (b : Bool) {k : Nat} (hf : 4000000 ≤ k) : node_leaf.f k b ks vs ds = some (if chk b ks vs ds = 0 then (if b = true then 0 else 15) else chk b ks vs ds) := by
  unfold node_leaf.f
  rw [h.check b hf]
  simp only [Option.bind_some]
  by_cases hc : chk b ks vs ds = 0
  · rw [if_pos hc, if_pos hc]
    cases b
    · rw [if_neg (by decide), if_neg (by decide)]
    · rw [if_pos rfl, if_pos rfl, hc]
  · rw [if_neg hc, if_neg hc]
theorem Bd.own {ks vs : List (List Int)} {ds : List Int} (h : Bd ks vs ds) (b : Bool) {k : Nat} (hf : 4000000 ≤ k) : node_own.f k b ks vs ds = some (b, ks, vs, ds) := by
  have := h.kl
  have := h.vl
  have := h.dl
  exact own_is b ks vs ds (by omega) (fun x hx => by have := (h.kb x hx).1; omega) (by omega) (fun x hx => by have := (h.vb x hx).1; omega) (by omega) (by omega)
theorem mem_insL {l : List (List Int)} {n : Nat} {x y : List Int} : y ∈ insL l n x ↔ y = x ∨ y ∈ l := by
  unfold insL
  have : y ∈ l ↔ y ∈ l.take n ∨ y ∈ l.drop n := by rw [← List.mem_append, List.take_append_drop]
  rw [this]
  simp only [List.mem_append, List.mem_singleton]
  constructor
  · rintro ((h | h) | h)
    · exact .inr (.inl h)
    · exact .inl h
    · exact .inr (.inr h)
  · rintro (h | h | h)
    · exact .inl (.inr h)
    · exact .inl (.inl h)
    · exact .inr h
theorem len_insL (l : List (List Int)) (n : Nat) (x : List Int) : (insL l n x).length = l.length + 1 := by
  unfold insL
  simp only [List.length_append, List.length_take, List.length_drop, List.length_singleton]
  omega
theorem putR_bd {ks vs : List (List Int)} {ds : List Int} {b : Bool} (hg : Good b ks vs ds) (h : Bd ks vs ds) (key val : List Int) (hk : BytesL key) (hv : BytesL val) (hkl : key.length ≤ 1048576) (hvl : val.length ≤ 1048576) : Bd (putR ks vs key val).1 (putR ks vs key val).2 ds := by
  have hl := hg.lens
  unfold putR
  by_cases hm : key ∈ ks
  · rw [if_pos hm]
    refine ⟨h.kl, by rw [List.length_set]; exact h.vl, h.dl, h.kb, fun x hx => ?_⟩
    rcases List.mem_or_eq_of_mem_set hx with hx | rfl
    · exact h.vb x hx
    · exact ⟨hvl, hv⟩
  · rw [if_neg hm]
    refine ⟨by rw [len_insL]; omega, by rw [len_insL]; omega, h.dl, fun x hx => ?_, fun x hx => ?_⟩
    · rcases mem_insL.1 hx with rfl | hx
      · exact ⟨hkl, hk⟩
      · exact h.kb x hx
    · rcases mem_insL.1 hx with rfl | hx
      · exact ⟨hvl, hv⟩
      · exact h.vb x hx
theorem put_is {ks vs : List (List Int)} {ds : List Int} (h : Bd ks vs ds) (b : Bool) (key val : List Int) (hk : BytesL key) (hv : BytesL val) (hkl : key.length ≤ 1048576) (hvl : val.length ≤ 1048576) {k : Nat} (hf : 4000000 ≤ k) :
    node_Put.f k b ks vs ds key val = some (putP b ks vs ds key val) := by
  unfold node_Put.f putP
  rw [leaf_is h b hf]
  simp only [Option.bind_some]
  by_cases hc : chk b ks vs ds = 0
  · rw [if_pos hc, if_pos hc]
    cases b
    · rw [if_neg (by decide), if_neg (by decide), if_neg (by decide)]; rfl
    · rw [if_pos rfl, if_pos rfl, if_pos rfl]
      have hg := chk_good hc
      have hl := hg.lens
      have hle := bel_le key ks
      obtain ⟨hvk, hds⟩ := hg.leaf
      by_cases h1 : 256 < key.length
      · rw [if_pos (by omega), if_pos (Or.inl h1)]; rfl
      · rw [if_neg (by omega)]
        by_cases h2 : 512 < val.length
        · rw [if_pos (by omega), if_pos (Or.inr h2)]; rfl
        · rw [if_neg (by omega), if_neg (by omega), h.own true hf]
          simp only [Option.bind_some]
          rw [place_is true ks vs ds key hg.rise (fun x hx => (h.kb x hx).2) hk (by omega)]
          simp only [Option.bind_some]
          have hr : node_Put.rows ks vs key val ((bel key ks : Int), decide (key ∈ ks)) = some (putR ks vs key val) := by
            unfold node_Put.rows putR bytes_Clone.f
            simp only [decide_eq_true_eq, Int.toNat_natCast]
            by_cases hm : key ∈ ks
            · obtain ⟨hb, _⟩ := bel_mem hg.rise hm
              rw [if_pos hm, if_pos hm, if_pos ⟨by omega, by omega⟩, if_pos (by omega)]; rfl
            · rw [if_neg hm, if_neg hm, if_pos ⟨by omega, by omega, by omega, by omega, by omega⟩, if_pos (by omega), if_pos (by omega)]; rfl
          rw [hr]
          simp only [Option.bind_some]
          have hb2 := putR_bd hg h key val hk hv hkl hvl
          have hd0 : ∀ x ∈ ds, 0 ≤ x ∧ x < 4611686018427387904 := by rw [hds]; intro x hx; cases hx
          have := hb2.kl
          have := hb2.vl
          have := hb2.dl
          rw [size_is true _ _ ds hd0 (hb2.sz hd0) (by omega)]
          simp only [Option.bind_some]
          by_cases h3 : 4096 < Pure.sz (putR ks vs key val).1 (putR ks vs key val).2 ds
          · rw [if_pos (by omega), if_pos h3]; rfl
          · rw [if_neg (by omega), if_neg h3]
  · rw [if_neg hc, if_neg hc, if_neg hc]; rfl
def cutP (b : Bool) (ks vs : List (List Int)) (ds : List Int) (key : List Int) : Bool × List (List Int) × List (List Int) × List Int × Bool × Int :=
  if chk b ks vs ds = 0 then (if b = true then (if key ∈ ks then (b, ks.eraseIdx (bel key ks), vs.eraseIdx (bel key ks), ds, true, 0) else (b, ks, vs, ds, false, 0)) else (false, [], [], [], false, 15)) else (false, [], [], [], false, chk b ks vs ds)
theorem cut_is {ks vs : List (List Int)} {ds : List Int} (h : Bd ks vs ds) (b : Bool) (key : List Int) (hk : BytesL key) {k : Nat} (hf : 4000000 ≤ k) : node_Cut.f k b ks vs ds key = some (cutP b ks vs ds key) := by
  unfold node_Cut.f cutP
  rw [leaf_is h b hf]
  simp only [Option.bind_some]
  by_cases hc : chk b ks vs ds = 0
  · rw [if_pos hc, if_pos hc]
    cases b
    · rw [if_neg (by decide), if_neg (by decide), if_neg (by decide)]
    · rw [if_pos rfl, if_pos rfl, if_pos rfl]
      have hg := chk_good hc
      have hl := hg.lens
      obtain ⟨hvk, hds⟩ := hg.leaf
      rw [h.own true hf]
      simp only [Option.bind_some]
      rw [place_is true ks vs ds key hg.rise (fun x hx => (h.kb x hx).2) hk (by omega)]
      simp only [Option.bind_some, decide_eq_true_eq, Int.toNat_natCast]
      by_cases hm : key ∈ ks
      · obtain ⟨hb, _⟩ := bel_mem hg.rise hm
        rw [if_pos hm, if_pos hm, if_pos ⟨by omega, by omega, by omega, by omega⟩]
      · rw [if_neg hm, if_neg hm]
  · rw [if_neg hc, if_neg hc, if_neg hc]
end Go.Proofs.Ytcbgichkeecgiaa.Pure
