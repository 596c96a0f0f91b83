/- The law CodecApart, for entries and parts that are not too many. -/
import Derived.Test.YtfpdipnaefomiaaDoorPrint14
import Derived.Test.YtfpdipnaefomiaaDoorCodecEnt
set_option linter.unusedVariables false
namespace Go.Proofs.YtfpdipnaefomiaaDoor.Pure
open Go.RowKit Go.Proofs.YtfpdipnaefomiaaDoor.Print Go.Proofs.YtfpdipnaefomiaaDoorW.PrintWords Go.Proofs.YtfpdipnaefomiaaDoorW.PrintLast Go.Proofs.YtfpdipnaefomiaaDoorW.PrintMore

theorem strs_eq (x y : List Int) (hx : BytesL x) (hy : BytesL y) : ((strOfNums x).toList == (strOfNums y).toList) = decide (x = y) := by
  by_cases h : x = y
  · subst h; rw [beq_self_eq_true, decide_eq_true rfl]
  · rw [decide_eq_false h]; exact beq_eq_false_iff_ne.2 (fun e => h (strOf_inj hx hy e))
theorem apart_j (k : Nat) (p q : List S60) (hk : 60 ≤ k) (hp : PartsOk p) (hq : PartsOk q) : ladinglaw03_CodecApart.j0 (k + 1) p q false = some true := by
  rw [ladinglaw03_CodecApart.j0, if_neg (by decide), key_is k p hk hp, some_bind, key_is k q hk hq, some_bind]
  rcases key_cases p with ⟨c, hc, e0⟩ | ⟨n0, g0, m0, e0⟩
  · rw [e0]; exact (if_neg hc).trans rfl
  · rw [e0]
    refine (if_pos (show (0 : Int) = 0 from rfl)).trans ?_
    rcases key_cases q with ⟨d, hd, e1⟩ | ⟨n1, g1, m1, e1⟩
    · rw [e1]; exact (if_neg hd).trans rfl
    · rw [e1]
      refine (if_pos (show (0 : Int) = 0 from rfl)).trans ?_
      rw [sameP_is k p q (by omega) (by omega), some_bind]
      congr 1
      show (((strOfNums (p.flatMap partBytes)).toList == (strOfNums (q.flatMap partBytes)).toList) == decide (p = q)) = true
      rw [strs_eq _ _ (key_bytes p g0) (key_bytes q g1)]
      have hiff : p.flatMap partBytes = q.flatMap partBytes ↔ p = q :=
        ⟨key_inj p q (fun x hx => ⟨g0 x hx, (hp x hx).2.1⟩) (fun x hx => ⟨g1 x hx, (hq x hx).2.1⟩), fun h => by rw [h]⟩
      by_cases h : p = q
      · rw [decide_eq_true h, decide_eq_true (hiff.2 h)]; rfl
      · rw [decide_eq_false h, decide_eq_false (fun g => h (hiff.1 g))]; rfl
theorem CodecApartUpto (l0 : List (S64)) (l1 : List (S64)) (l2 : List (S60)) (l3 : List (S60)) (h0 : l0.length ≤ 1048576 ∧ ∀ y2 ∈ l0, ((y2.f0.length ≤ 1048576 ∧ ∀ y5 ∈ y2.f0, (Lit.int .u8 y5).wf = true) ∧ (y2.f1.length ≤ 1048576 ∧ ∀ y5 ∈ y2.f1, (Lit.int .u8 y5).wf = true))) (h1 : l1.length ≤ 1048576 ∧ ∀ y2 ∈ l1, ((y2.f0.length ≤ 1048576 ∧ ∀ y5 ∈ y2.f0, (Lit.int .u8 y5).wf = true) ∧ (y2.f1.length ≤ 1048576 ∧ ∀ y5 ∈ y2.f1, (Lit.int .u8 y5).wf = true))) (h2 : l2.length ≤ 1048576 ∧ ∀ y2 ∈ l2, ((Lit.int .u8 y2.f0).wf = true ∧ (Lit.int .u64 y2.f1).wf = true ∧ y2.f2.size ≤ 1048576)) (h3 : l3.length ≤ 1048576 ∧ ∀ y2 ∈ l3, ((Lit.int .u8 y2.f0).wf = true ∧ (Lit.int .u64 y2.f1).wf = true ∧ y2.f2.size ≤ 1048576)) : ∃ k, ladinglaw03_CodecApart.f k l0 l1 l2 l3 = some true := by
  have o0 : EntsOk l0 := fun e he => ⟨fun x hx => wf_u8 ((h0.2 e he).1.2 x hx), fun x hx => wf_u8 ((h0.2 e he).2.2 x hx)⟩
  have o1 : EntsOk l1 := fun e he => ⟨fun x hx => wf_u8 ((h1.2 e he).1.2 x hx), fun x hx => wf_u8 ((h1.2 e he).2.2 x hx)⟩
  have p2 : PartsOk l2 := fun p hp => ⟨wf_u8 (h2.2 p hp).1, wf_u64 (h2.2 p hp).2.1, by have := (h2.2 p hp).2.2; omega⟩
  have p3 : PartsOk l3 := fun p hp => ⟨wf_u8 (h3.2 p hp).1, wf_u64 (h3.2 p hp).2.1, by have := (h3.2 p hp).2.2; omega⟩
  obtain ⟨k, hk⟩ : ∃ k, k = 9999 := ⟨_, rfl⟩
  refine ⟨k + 1, ?_⟩
  have tail := apart_j k l2 l3 (by omega) p2 p3
  unfold ladinglaw03_CodecApart.f
  rw [lives_is _ (by omega), some_bind, if_pos rfl, ents_is _ l0 (by omega), some_bind, ents_is _ l1 (by omega), some_bind]
  rcases ents_cases l0 with ⟨c, hc, e0⟩ | ⟨n0, g0, e0⟩
  · rw [e0]; exact (if_neg hc).trans tail
  · rw [e0]
    refine (if_pos (show (0 : Int) = 0 from rfl)).trans ?_
    rcases ents_cases l1 with ⟨d, hd, e1⟩ | ⟨n1, g1, e1⟩
    · rw [e1]; exact (if_neg hd).trans tail
    · rw [e1]
      refine (if_pos (show (0 : Int) = 0 from rfl)).trans ?_
      rw [sameE_is _ l0 l1 o0 o1 (by omega) (by omega), some_bind]
      show ladinglaw03_CodecApart.j0 (k + 1) l2 l3 (((strOfNums (num l0.length ++ l0.flatMap entBytes)).toList == (strOfNums (num l1.length ++ l1.flatMap entBytes)).toList) != decide (l0 = l1)) = some true
      rw [strs_eq _ _ (ents_bytes l0 o0 g0 n0) (ents_bytes l1 o1 g1 n1)]
      have hiff : num l0.length ++ l0.flatMap entBytes = num l1.length ++ l1.flatMap entBytes ↔ l0 = l1 := by
        constructor
        · intro h
          obtain ⟨h1, h2⟩ := num_inj (by omega) (by omega) h
          exact ents_inj l0 l1 h1 g0 g1 h2
        · intro h; rw [h]
      by_cases h : l0 = l1
      · rw [decide_eq_true h, decide_eq_true (hiff.2 h)]; exact tail
      · rw [decide_eq_false h, decide_eq_false (fun g => h (hiff.1 g))]; exact tail
end Go.Proofs.YtfpdipnaefomiaaDoor.Pure
