/- NodeSame: keys that are put in any order make one leaf. -/
import Derived.Test.YtcbgichkeecgiaaZPrint20
import Derived.Test.YtcbgichkeecgiaaZAll
set_option linter.unusedVariables false
namespace Go.Proofs.Ytcbgichkeecgiaa.Pure
open Go.RowKit Go.Proofs.Ytcbgichkeecgiaa.Print Go.Proofs.YtcbgichkeecgiaaW.PrintWords
theorem some_bind {α β : Type} (a : α) (f : α → Option β) : (some a).bind f = f a := rfl
structure St (ks vs : List (List Int)) (P : List (List Int × List Int)) : Prop where
  bd : Bd ks vs []
  ok : chk true ks vs [] = 0
  perm : (ks.zip vs).Perm P
theorem St.len {ks vs : List (List Int)} {P : List (List Int × List Int)} (h : St ks vs P) : vs.length = ks.length := (chk_good h.ok).leaf.1
theorem St.mem {ks vs : List (List Int)} {P : List (List Int × List Int)} (h : St ks vs P) {key : List Int} (hk : key ∈ ks) : key ∈ P.map Prod.fst := by
  have e : (ks.zip vs).map Prod.fst = ks := List.map_fst_zip (by rw [h.len]; exact Nat.le_refl _)
  exact (h.perm.map Prod.fst).mem_iff.mp (by rw [e]; exact hk)
theorem zip_insL (ks vs : List (List Int)) (n : Nat) (k v : List Int) (hl : vs.length = ks.length) (hn : n ≤ ks.length) : ((insL ks n k).zip (insL vs n v)).Perm ((k, v) :: ks.zip vs) := by
  have e1 : (ks.take n).length = (vs.take n).length := by rw [List.length_take, List.length_take, hl]
  have e2 : ks.zip vs = (ks.take n).zip (vs.take n) ++ (ks.drop n).zip (vs.drop n) := by
    rw [← List.zip_append e1, List.take_append_drop, List.take_append_drop]
  unfold insL
  rw [List.append_assoc, List.append_assoc, List.zip_append e1, e2]
  exact List.perm_middle
theorem St.put {ks vs : List (List Int)} {P : List (List Int × List Int)} (h : St ks vs P) (key val : List Int) (bk : BytesL key) (bv : BytesL val) (hkl : key.length ≤ 1048576) (hvl : val.length ≤ 1048576) (hn : key ∉ P.map Prod.fst) :
    (putP true ks vs [] key val).2.2.2.2 ≠ 0 ∨ ∃ ks' vs', putP true ks vs [] key val = (true, ks', vs', [], 0) ∧ St ks' vs' (P ++ [(key, val)]) := by
  have G := chk_good h.ok
  unfold putP
  rw [if_pos h.ok, if_pos rfl]
  by_cases h1 : 256 < key.length ∨ 512 < val.length
  · rw [if_pos h1]
    exact Or.inl (by decide)
  · rw [if_neg h1]
    by_cases h2 : 4096 < Pure.sz (putR ks vs key val).1 (putR ks vs key val).2 []
    · rw [if_pos h2]
      exact Or.inl (by decide)
    · rw [if_neg h2]
      have D := (put_good G key val (by omega) (by omega) (by omega)).1
      refine Or.inr ⟨_, _, rfl, ⟨putR_bd G h.bd key val bk bv hkl hvl, good_chk D.ok D.small, ?_⟩⟩
      unfold putR
      rw [if_neg (fun hk => hn (h.mem hk))]
      refine (zip_insL ks vs (bel key ks) key val h.len (bel_le _ _)).trans ((h.perm.cons _).trans ?_)
      exact (List.perm_append_singleton _ _).symm
theorem St.same {ks vs ks2 vs2 : List (List Int)} {P Q : List (List Int × List Int)} (h : St ks vs P) (g : St ks2 vs2 Q) (hp : P.Perm Q) : ks = ks2 ∧ vs = vs2 := by
  have e1 : (ks.zip vs).map Prod.fst = ks := List.map_fst_zip (by rw [h.len]; exact Nat.le_refl _)
  have e2 : (ks2.zip vs2).map Prod.fst = ks2 := List.map_fst_zip (by rw [g.len]; exact Nat.le_refl _)
  have f1 : (ks.zip vs).map Prod.snd = vs := List.map_snd_zip (by rw [h.len]; exact Nat.le_refl _)
  have f2 : (ks2.zip vs2).map Prod.snd = vs2 := List.map_snd_zip (by rw [g.len]; exact Nat.le_refl _)
  have r1 : (ks.zip vs).Pairwise fun a b => cmpL a.1 b.1 < 0 := by
    have := (chk_good h.ok).rise
    unfold Rise at this
    rw [← e1, List.pairwise_map] at this
    exact this
  have r2 : (ks2.zip vs2).Pairwise fun a b => cmpL a.1 b.1 < 0 := by
    have := (chk_good g.ok).rise
    unfold Rise at this
    rw [← e2, List.pairwise_map] at this
    exact this
  have e : ks.zip vs = ks2.zip vs2 := by
    refine List.Perm.eq_of_pairwise (fun a b _ _ hab hba => ?_) r1 r2 (h.perm.trans (hp.trans g.perm.symm))
    exact absurd (cmpL_trans _ _ _ hab hba) (cmpL_irr _)
  exact ⟨by rw [← e1, e, e2], by rw [← f1, e, f2]⟩
theorem apart_at {Q : List (List Int × List Int)} (h : (Q.map Prod.fst).Nodup) (i : Nat) (hi : i < Q.length) : Q[i].1 ∉ (Q.take i).map Prod.fst := by
  intro hm
  have hp := List.pairwise_iff_getElem.mp h
  obtain ⟨p, hp1, hp2⟩ := List.mem_map.mp hm
  obtain ⟨j, hj, he⟩ := List.getElem_of_mem hp1
  rw [List.length_take] at hj
  rw [List.getElem_take] at he
  have := hp j i (by rw [List.length_map]; omega) (by rw [List.length_map]; exact hi) (by omega)
  rw [List.getElem_map, List.getElem_map, he] at this
  exact this hp2
def rot (r : Nat) (P : List (List Int × List Int)) : List (List Int × List Int) := P.drop r ++ P.take r
theorem rot_perm (r : Nat) (P : List (List Int × List Int)) : (rot r P).Perm P := by
  unfold rot
  have := List.perm_append_comm (l₁ := P.drop r) (l₂ := P.take r)
  rwa [List.take_append_drop] at this
theorem rot_at (r : Nat) (P : List (List Int × List Int)) (hr : r < P.length) (i : Nat) (hi : i < P.length) (h1 : i < (rot r P).length) (h2 : (i + r) % P.length < P.length) : (rot r P)[i] = P[(i + r) % P.length] := by
  have : ∀ (Q : List (List Int × List Int)) (hQ : Q = P.drop r ++ P.take r) (h : i < Q.length), Q[i] = P[(i + r) % P.length] := by
    rintro Q rfl h
    rw [List.getElem_append]
    split
    · rename_i h
      rw [List.length_drop] at h
      rw [List.getElem_drop]
      congr 1
      rw [Nat.mod_eq_of_lt (by omega)]
      omega
    · rename_i h
      rw [List.length_drop] at h
      rw [List.getElem_take]
      congr 1
      rw [List.length_drop, Nat.mod_eq_sub_mod (by omega), Nat.mod_eq_of_lt (by omega)]
      omega
  exact this _ rfl h1
theorem turn_at (x : Int) (n i : Nat) (hn : 0 < n) (hi : i < n) (hb : n ≤ 1048576) : Int.tmod (wrap64 (wrap64 ((i : Int) + Int.tmod x n) + n)) n = (((i + ((Int.tmod x n + n) % n).toNat) % n : Nat) : Int) := by
  have h1 := Int.tmod_lt_of_pos x (show (0 : Int) < n by omega)
  have h2 : -(n : Int) < Int.tmod x n := by
    have := Int.tmod_lt_of_pos (-x) (show (0 : Int) < n by omega)
    rw [Int.neg_tmod] at this
    omega
  generalize Int.tmod x n = t at h1 h2
  rw [w64 (x := (i : Int) + t) (by omega) (by omega), w64 (by omega) (by omega), Int.tmod_eq_emod_of_nonneg (by omega)]
  have h3 := Int.emod_nonneg (t + n) (show (n : Int) ≠ 0 by omega)
  rw [Int.natCast_emod, Int.natCast_add, Int.toNat_of_nonneg h3, Int.add_comm (i : Int) ((t + n) % n), Int.emod_add_emod]
  congr 1
  omega
theorem l2_is (ks vs : List (List Int)) (x : Int) (hk : ks.length ≤ 1048576) (hv : vs.length ≤ 1048576) (bk : ∀ y ∈ ks, y.length ≤ 1048576 ∧ BytesL y) (bv : ∀ y ∈ vs, y.length ≤ 1048576 ∧ BytesL y) (n : Nat) (hn : (ks.zip vs).length = n) (r : Nat) (hr : 0 < n → r = ((Int.tmod x n + n) % n).toNat)
    (hap : ((ks.zip vs).map Prod.fst).Nodup) : ∀ (d i k : Nat) (ka va kb vb : List (List Int)), i + d = n → 8000000 + d < k → St ka va ((ks.zip vs).take i) → St kb vb ((rot r (ks.zip vs)).take i) →
    ladinglaw06_NodeSame.l2 k ks vs x (n : Int) (i : Int) true ka va [] true kb vb [] = some true := by
  have hzl : (ks.zip vs).length = min ks.length vs.length := List.length_zip
  have hap2 : ((rot r (ks.zip vs)).map Prod.fst).Nodup := ((rot_perm r (ks.zip vs)).map Prod.fst).nodup_iff.mpr hap
  intro d
  induction d with
  | zero =>
    intro i k ka va kb vb hd hk' ha hb
    obtain ⟨q, hq⟩ : ∃ q, k = q + 1 := ⟨k - 1, by omega⟩
    have hl : (rot r (ks.zip vs)).length = n := by rw [(rot_perm r _).length_eq, hn]
    rw [List.take_of_length_le (by omega)] at ha
    rw [List.take_of_length_le (by omega)] at hb
    obtain ⟨rfl, rfl⟩ := ha.same hb (rot_perm r _).symm
    have hlen : ka.length = n := by
      have := ha.perm.length_eq
      rw [List.length_zip, ha.len, Nat.min_self, hn] at this
      exact this
    have := ha.bd.kl
    have := ha.bd.vl
    rw [hq, ladinglaw06_NodeSame.l2, if_neg (by omega), same_self true ka va [] (by simp) (by omega) (by omega) (by simp only [List.length_nil]; omega), some_bind, if_pos rfl, hlen]
    simp
  | succ d ih =>
    intro i k ka va kb vb hd hk' ha hb
    obtain ⟨q, hq⟩ : ∃ q, k = q + 1 := ⟨k - 1, by omega⟩
    have h1 : i < ks.length := by omega
    have h2 : i < vs.length := by omega
    have hi : i < (ks.zip vs).length := by omega
    have hn0 : 0 < n := by omega
    have hrn : r < n := by
      rw [hr hn0]
      have := Int.emod_lt_of_pos (Int.tmod x n + n) (show (0 : Int) < n by omega)
      have := Int.emod_nonneg (Int.tmod x n + n) (show (n : Int) ≠ 0 by omega)
      omega
    have hj : (i + r) % n < n := Nat.mod_lt _ hn0
    have hj1 : (i + r) % n < ks.length := by omega
    have hj2 : (i + r) % n < vs.length := by omega
    have hT := turn_at x n i hn0 (by omega) (by omega)
    rw [← hr hn0] at hT
    have hl : (rot r (ks.zip vs)).length = n := by rw [(rot_perm r _).length_eq, hn]
    have hR : (rot r (ks.zip vs))[i]'(by omega) = (ks[(i + r) % n], vs[(i + r) % n]) := by
      have := rot_at r (ks.zip vs) (by omega) i hi (by omega) (by rw [hn]; omega)
      rw [this, List.getElem_zip]
      simp only [hn]
    have hP : (ks.zip vs)[i] = (ks[i], vs[i]) := List.getElem_zip
    have aA := apart_at hap i hi
    have aB := apart_at hap2 i (by omega)
    rw [hP] at aA
    rw [hR] at aB
    have K := bk _ (List.getElem_mem h1)
    have V := bv _ (List.getElem_mem h2)
    have K2 := bk _ (List.getElem_mem hj1)
    have V2 := bv _ (List.getElem_mem hj2)
    rw [hq, ladinglaw06_NodeSame.l2, if_pos (by omega), if_neg (by omega), if_pos (by omega), if_pos (by omega), if_pos (by omega), hT, rdL_at ks i h1, rdL_at vs i h2, rdL_at ks _ hj1, rdL_at vs _ hj2]
    rw [put_is ha.bd true _ _ K.2 V.2 K.1 V.1 (by omega), some_bind, if_pos (by omega), if_pos (by omega), if_pos (by omega), put_is hb.bd true _ _ K2.2 V2.2 K2.1 V2.1 (by omega), some_bind]
    rcases ha.put _ _ K.2 V.2 K.1 V.1 aA with e1 | ⟨ka', va', e1, ha'⟩
    · rw [if_neg e1]
    · rw [e1, if_pos rfl]
      rcases hb.put _ _ K2.2 V2.2 K2.1 V2.1 aB with e2 | ⟨kb', vb', e2, hb'⟩
      · rw [if_neg e2]
      · rw [e2, if_pos rfl, w64n i (by omega)]
        refine ih (i + 1) q ka' va' kb' vb' (by omega) (by omega) ?_ ?_
        · rw [List.take_succ_eq_append_getElem hi, hP]
          exact ha'
        · rw [List.take_succ_eq_append_getElem (by omega), hR]
          exact hb'
theorem st_none : St [] [] [] := ⟨⟨by simp, by simp, by simp, by simp, by simp⟩, good_chk (leaf_ok List.Pairwise.nil (by simp) (by simp) rfl) (by unfold sz; rw [show ([] : List (List Int)).length = 0 from rfl, wd_small (by omega), sumL_nil, sumK_nil]; omega), List.Perm.nil⟩
theorem l01_is (ks vs : List (List Int)) (x : Int) (hk : ks.length ≤ 1048576) (hv : vs.length ≤ 1048576) (bk : ∀ y ∈ ks, y.length ≤ 1048576 ∧ BytesL y) (bv : ∀ y ∈ vs, y.length ≤ 1048576 ∧ BytesL y) (n : Nat) (hn : (ks.zip vs).length = n) :
    ∀ (d i k : Nat), i + d = n → 8000000 + n + (d + 1) * (n + 3) < k → (∀ (a b : Nat) (ha : a < i) (hb : b < a) (h1 : a < ks.length) (h2 : b < ks.length), ks[a] ≠ ks[b]) →
    ladinglaw06_NodeSame.l0 k ks vs x (n : Int) (i : Int) true true = some true := by
  have hzl : (ks.zip vs).length = min ks.length vs.length := List.length_zip
  intro d
  induction d with
  | zero =>
    intro i k hd hk' hap
    obtain ⟨q, hq⟩ : ∃ q, k = q + 1 := ⟨k - 1, by omega⟩
    rw [hq, ladinglaw06_NodeSame.l0, if_neg (by omega)]
    have hnd : ((ks.zip vs).map Prod.fst).Nodup := by
      refine List.pairwise_iff_getElem.mpr fun a b ha hb hab => ?_
      rw [List.length_map] at ha hb
      rw [List.getElem_map, List.getElem_map, List.getElem_zip, List.getElem_zip]
      exact Ne.symm (hap b a (by omega) hab (by omega) (by omega))
    exact l2_is ks vs x hk hv bk bv n hn _ (fun _ => rfl) hnd n 0 q [] [] [] [] (by omega) (by omega) st_none st_none
  | succ d ih =>
    intro i k hd hk' hap
    obtain ⟨q, hq⟩ : ∃ q, k = q + 1 := ⟨k - 1, by omega⟩
    rw [hq, ladinglaw06_NodeSame.l0, if_pos (by omega)]
    have h1 : i < ks.length := by omega
    have inner : ∀ (e j k' : Nat), j + e = i → 8000000 + n + (d + 1) * (n + 3) + e + 1 < k' → (∀ (b : Nat) (hb : b < j) (h2 : b < ks.length), ks[i] ≠ ks[b]) → ladinglaw06_NodeSame.l1 k' ks vs x (n : Int) (i : Int) (j : Int) true true = some true := by
      intro e
      induction e with
      | zero =>
        intro j k' he hk2 hj
        obtain ⟨q2, hq2⟩ : ∃ q, k' = q + 1 := ⟨k' - 1, by omega⟩
        rw [hq2, ladinglaw06_NodeSame.l1, if_neg (by omega), w64n i (by omega)]
        refine ih (i + 1) q2 (by omega) (by omega) (fun a b ha hb h3 h4 => ?_)
        by_cases hai : a = i
        · subst hai
          exact hj b (by omega) h4
        · exact hap a b (by omega) hb h3 h4
      | succ e ih2 =>
        intro j k' he hk2 hj
        obtain ⟨q2, hq2⟩ : ∃ q, k' = q + 1 := ⟨k' - 1, by omega⟩
        have h2 : j < ks.length := by omega
        rw [hq2, ladinglaw06_NodeSame.l1, if_pos (by omega), if_pos (by omega), if_pos (by omega), if_pos (by omega), if_pos (by omega), rdL_at ks i h1, rdL_at ks j h2]
        by_cases hs : ks[i] = ks[j]
        · rw [hs, if_pos rfl]
        · rw [if_neg (fun h => hs ((str_eq _ _ (bk _ (List.getElem_mem h1)).2 (bk _ (List.getElem_mem h2)).2).1 h)), w64n j (by omega)]
          refine ih2 (j + 1) q2 (by omega) (by omega) (fun b hb h3 => ?_)
          by_cases hbj : b = j
          · subst hbj
            exact hs
          · exact hj b (by omega) h3
    refine inner i 0 q (by omega) ?_ (fun b hb => by omega)
    rw [show (d + 1 + 1) * (n + 3) = (d + 1) * (n + 3) + (n + 3) by rw [Nat.succ_mul]] at hk'
    omega
theorem NodeSameUpto : ∀ (l0 : List (List Int)) (l1 : List (List Int)) (a2 : Int), (l0.length ≤ 1048576 ∧ ∀ y1 ∈ l0, (y1.length ≤ 1048576 ∧ ∀ y2 ∈ y1, (Lit.int .u8 y2).wf = true)) → (l1.length ≤ 1048576 ∧ ∀ y1 ∈ l1, (y1.length ≤ 1048576 ∧ ∀ y2 ∈ y1, (Lit.int .u8 y2).wf = true)) → (Lit.int .i64 a2).wf = true → ∃ k, ladinglaw06_NodeSame.f k l0 l1 a2 = some true := by
  intro ks vs x hk hv _
  have hzl : (ks.zip vs).length = min ks.length vs.length := List.length_zip
  refine ⟨8000000 + (ks.zip vs).length + ((ks.zip vs).length + 1) * ((ks.zip vs).length + 3) + 1, ?_⟩
  generalize hq : 8000000 + (ks.zip vs).length + ((ks.zip vs).length + 1) * ((ks.zip vs).length + 3) + 1 = q
  unfold ladinglaw06_NodeSame.f
  have e : mn (ks.length : Int) (vs.length : Int) = ((ks.zip vs).length : Int) := by
    rw [hzl]
    unfold mn
    omega
  rw [show ladinglaw06_lives.f = some true from rfl, some_bind, if_pos rfl, e]
  exact l01_is ks vs x hk.1 hv.1 (fun y hy => ⟨(hk.2 y hy).1, bytesL_wf (hk.2 y hy).2⟩) (fun y hy => ⟨(hv.2 y hy).1, bytesL_wf (hv.2 y hy).2⟩) _ rfl (ks.zip vs).length 0 q (by omega) (by omega) (fun a b ha => by omega)
end Go.Proofs.Ytcbgichkeecgiaa.Pure
