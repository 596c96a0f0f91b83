/- The law CodecOrder, for parts that are not too many. -/
import Derived.Test.YtfpdipnaefomiaaDoorPrint8
import Derived.Test.YtfpdipnaefomiaaDoorCodecKeyMore
set_option linter.unusedVariables false
namespace Go.Proofs.YtfpdipnaefomiaaDoor.Pure
open Go.RowKit Go.Proofs.YtfpdipnaefomiaaDoor.Print Go.Proofs.YtfpdipnaefomiaaDoorW.PrintWords Go.Proofs.YtfpdipnaefomiaaDoorW.PrintLast Go.Proofs.YtfpdipnaefomiaaDoorW.PrintMore

theorem order_core (k : Nat) (a b : List S60) (hk : 49 ≤ k) (la : a.length ≤ 16) (pa : PartsOk a) (pb : PartsOk b) (ga : ∀ p ∈ a, good p) (gb : ∀ p ∈ b, good p) :
    ladinglaw03_CodecOrder.j0 (k + 1) a b (a.flatMap partBytes) 0 (b.flatMap partBytes) false = some true := by
  have xa := key_bytes a ga
  have xb := key_bytes b gb
  have ra : ∀ p ∈ a, good p ∧ 0 ≤ p.f1 ∧ p.f1 < 18446744073709551616 := fun p hp => ⟨ga p hp, (pa p hp).2.1⟩
  have rb : ∀ p ∈ b, good p ∧ 0 ≤ p.f1 ∧ p.f1 < 18446744073709551616 := fun p hp => ⟨gb p hp, (pb p hp).2.1⟩
  have hs := cmp_parts a b [] [] ra rb (.inr ⟨rfl, rfl⟩)
  rw [List.append_nil, List.append_nil] at hs
  have hs2 : cmpL (a.flatMap partBytes) (b.flatMap partBytes) = cmpPs a b := by
    rw [hs]
    by_cases g : cmpPs a b = 0
    · rw [if_pos g, g]; rfl
    · rw [if_neg g]
  rw [ladinglaw03_CodecOrder.j0, if_neg (by decide), sign_is _ _ xa xb, some_bind, order_is k a b la hk, some_bind, if_pos hs2]
  by_cases h1 : a.length = b.length
  · rw [if_pos (by omega)]
    by_cases h2 : (a.flatMap partBytes).length > (b.flatMap partBytes).length
    · rw [if_pos (by omega)]
    · rw [if_neg (by omega), if_pos (by omega), if_pos (by omega), Int.toNat_natCast]
      by_cases h3 : (strOfNums ((b.flatMap partBytes).take (a.flatMap partBytes).length)).toList = (strOfNums (a.flatMap partBytes)).toList
      · rw [if_pos h3]
        have e := strOf_inj (fun x hx => xb x (List.mem_of_mem_take hx)) xa h3
        have hz := no_prefix a b h1 ra rb ((b.flatMap partBytes).drop (a.flatMap partBytes).length) (by
          conv => lhs; rw [← List.take_append_drop (a.flatMap partBytes).length (b.flatMap partBytes)]
          rw [e])
        have hl := congrArg List.length hz
        rw [List.length_drop, List.length_nil] at hl
        rw [beq_iff_eq.2 (show ((a.flatMap partBytes).length : Int) = ((b.flatMap partBytes).length : Int) by omega)]
      · rw [if_neg h3]
  · rw [if_neg (by omega)]
theorem CodecOrderUpto (l0 : List (S60)) (l1 : List (S60)) (h0 : l0.length ≤ 1048576 ∧ ∀ y2 ∈ l0, ((Lit.int .u8 y2.f0).wf = true ∧ (Lit.int .u64 y2.f1).wf = true ∧ y2.f2.size ≤ 1048576)) (h1 : l1.length ≤ 1048576 ∧ ∀ y2 ∈ l1, ((Lit.int .u8 y2.f0).wf = true ∧ (Lit.int .u64 y2.f1).wf = true ∧ y2.f2.size ≤ 1048576)) : ∃ k, ladinglaw03_CodecOrder.f k l0 l1 = some true := by
  have p0 : PartsOk l0 := fun p hp => ⟨wf_u8 (h0.2 p hp).1, wf_u64 (h0.2 p hp).2.1, by have := (h0.2 p hp).2.2; omega⟩
  have p1 : PartsOk l1 := fun p hp => ⟨wf_u8 (h1.2 p hp).1, wf_u64 (h1.2 p hp).2.1, by have := (h1.2 p hp).2.2; omega⟩
  refine ⟨99 + 1, ?_⟩
  unfold ladinglaw03_CodecOrder.f
  rw [lives_is _ (by omega), some_bind, if_pos rfl, key_is _ l0 (by omega) p0, some_bind, key_is _ l1 (by omega) p1, some_bind]
  rcases key_cases l0 with ⟨c, hc, e0⟩ | ⟨n0, g0, m0, e0⟩
  · rw [e0]
    refine (if_neg hc).trans ?_
    show ladinglaw03_CodecOrder.j0 (99 + 1) l0 l1 [] c _ true = some true
    rw [ladinglaw03_CodecOrder.j0, if_pos rfl, if_neg hc]; rfl
  · rw [e0]
    refine (if_pos (show (0 : Int) = 0 from rfl)).trans ?_
    rcases key_cases l1 with ⟨d, hd, e1⟩ | ⟨n1, g1, m1, e1⟩
    · rw [e1]
      show ladinglaw03_CodecOrder.j0 (99 + 1) l0 l1 _ 0 [] (d != 0) = some true
      rw [bne_iff_ne.2 hd, ladinglaw03_CodecOrder.j0, if_pos rfl, if_pos rfl]
    · rw [e1]
      exact order_core 99 l0 l1 (by omega) n0 p0 p1 g0 g1
end Go.Proofs.YtfpdipnaefomiaaDoor.Pure
