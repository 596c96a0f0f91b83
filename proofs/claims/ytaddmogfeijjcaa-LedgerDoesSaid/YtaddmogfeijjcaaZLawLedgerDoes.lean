-- What the claim uses alone (wip/slim.py). Lean checks it.
import Derived.Test.YtaddmogfeijjcaaRows
import Derived.Test.YtaddmogfeijjcaaZPrint60
import Derived.Test.YtaddmogfeijjcaaZPureLedgerDoes
import Derived.Test.YtaddmogfeijjcaaZXOpens
import Derived.SizedLaws
import Derived.ChangeSlices
import Derived.WalkKit
import Derived.ProofKit
import Derived.OpenShut
import Derived.ShutString
import Derived.ChangeOld
import Derived.Below
namespace Go.Proofs.Ytaddmogfeijjcaa.ledgerDoes
open Go.ChangeShapes Go.WideShapes Go.ChangeAt Go.RowKit Go.Proofs.Ytaddmogfeijjcaa.Opens Go.Proofs.Ytaddmogfeijjcaa.Print Go.Proofs.YtaddmogfeijjcaaW.PrintWords
open Go.ChangeMaps (open_string shut_string)
set_option linter.unusedVariables false
theorem own : ownKnob Try.prog.godebug = none := by kernel_rfl
theorem laidOut : laidOutB Try.prog = true := by kernel_rfl
theorem opens0 : Opens Try.prog 25 k25 (fun x => ((x.f0.length * 32 ≤ 140737488351232 ∧ x.f0.length ≤ maxLen ∧ ∀ y4 ∈ x.f0, ((Lit.int .i64 y4.f0).wf = true ∧ (Lit.int .i64 y4.f1).wf = true ∧ (Lit.int .i64 y4.f2).wf = true ∧ (Lit.int .i64 y4.f3).wf = true)) ∧ (x.f1.length * 24 ≤ 140737488351232 ∧ x.f1.length ≤ maxLen ∧ ∀ y4 ∈ x.f1, ((Lit.int .i64 y4.f0).wf = true ∧ (Lit.int .u8 y4.f1).wf = true ∧ (Lit.int .u8 y4.f2).wf = true ∧ (Lit.int .i64 y4.f3).wf = true)))) := (show Opens Try.prog 25 k25 (fun x => ((x.f0.length * 32 ≤ 140737488351232 ∧ x.f0.length ≤ maxLen ∧ ∀ y4 ∈ x.f0, ((Lit.int .i64 y4.f0).wf = true ∧ (Lit.int .i64 y4.f1).wf = true ∧ (Lit.int .i64 y4.f2).wf = true ∧ (Lit.int .i64 y4.f3).wf = true)) ∧ (x.f1.length * 24 ≤ 140737488351232 ∧ x.f1.length ≤ maxLen ∧ ∀ y4 ∈ x.f1, ((Lit.int .i64 y4.f0).wf = true ∧ (Lit.int .u8 y4.f1).wf = true ∧ (Lit.int .u8 y4.f2).wf = true ∧ (Lit.int .i64 y4.f3).wf = true)))) from opens_iso (opens_struct Try.underlying25 (opensFs_cons (opens_slice Try.underlying22 (show Opens Try.prog 31 k31 (fun x => ((Lit.int .i64 x.f0).wf = true ∧ (Lit.int .i64 x.f1).wf = true ∧ (Lit.int .i64 x.f2).wf = true ∧ (Lit.int .i64 x.f3).wf = true)) from opens_iso (opens_struct Try.underlying31 (opensFs_cons (opens_int Try.underlying3) rfl (by kernel_rfl) (opensFs_cons (opens_int Try.underlying2) rfl (by kernel_rfl) (opensFs_cons (opens_int Try.underlying2) rfl (by kernel_rfl) (opensFs_one (opens_int Try.underlying2) rfl (by kernel_rfl))))) (by kernel_rfl)) _ (fun p => ⟨p.1, p.2.1, p.2.2.1, p.2.2.2⟩) (fun _ => rfl)) (by kernel_rfl) (by kernel_rfl)) rfl (by kernel_rfl) (opensFs_one (opens_slice Try.underlying23 (show Opens Try.prog 55 k55 (fun x => ((Lit.int .i64 x.f0).wf = true ∧ (Lit.int .u8 x.f1).wf = true ∧ (Lit.int .u8 x.f2).wf = true ∧ (Lit.int .i64 x.f3).wf = true)) from opens_iso (opens_struct Try.underlying55 (opensFs_cons (opens_int Try.underlying3) rfl (by kernel_rfl) (opensFs_cons (opens_int Try.underlying36) rfl (by kernel_rfl) (opensFs_cons (opens_int Try.underlying36) rfl (by kernel_rfl) (opensFs_one (opens_int Try.underlying2) rfl (by kernel_rfl))))) (by kernel_rfl)) _ (fun p => ⟨p.1, p.2.1, p.2.2.1, p.2.2.2⟩) (fun _ => rfl)) (by kernel_rfl) (by kernel_rfl)) rfl (by kernel_rfl))) (by kernel_rfl)) _ (fun p => ⟨p.1, p.2⟩) (fun _ => rfl))
set_option maxRecDepth 100000 in
theorem lifted (os : Os) (started : os.Started) (H : Type) (enc : TypeId × Value → H) :
    ReturnsInHanded {} Try.checked os 5 .any (Rows.ledgerDoesSpec.pre6 enc Try.prog Try.f5 Rows.ledgerDoesRow.domain false) (Rows.ledgerDoesSpec.post enc Try.prog Try.f5 false true false false) := by
  refine returnsInHanded_of_change_sized (C := Try.checked) own started (by kernel_rfl) Try.func5
    (ChangeSpec.witness6 (enc := enc) (C := Try.checked) false ⟨#[], #[.agg #[.slice none 0 0, .slice none 0 0], .int .i64 0, .int .i64 0, .int .u8 0], []⟩ 8 (by kernel_rfl) (by kernel_rfl) (by kernel_rfl) (by kernel_rfl)) ?_
  intro W base args ds gs before hval0 hW hcnd hsz0 _
  have hsz : (DataW.weightsEach Try.prog (Try.f5.params.toList ++ Rows.ledgerDoesSpec.plain.varTypes Try.prog) (ds ++ gs)).all (· ≤ reachBytes) = true := hsz0
  have hval : ∀ (j : Nat) t v, Try.f5.params[j]? = some t → args[j]? = some v → Value.okWide Try.prog W .any base t v := hval0
  have hW' := hW
  obtain ⟨p, q, hA0, hV, rfl, hfz, hnd⟩ := hW
  have hA : DataW.TrodAll enc Try.prog W 0 (fun _ => true) true Try.f5.params.toList args.toList ds p := hA0
  rw [Try.params5] at hA hval hsz
  obtain ⟨v0, vs0, d0, ds0, p0, q0, hargs, rfl, rfl, h0, r0⟩ := trodAll_cons hA
  obtain ⟨v1, vs1, d1, ds1, p1, q1, rfl, rfl, rfl, h1, r1⟩ := trodAll_cons r0
  obtain ⟨v2, vs2, d2, ds2, p2, q2, rfl, rfl, rfl, h2, r2⟩ := trodAll_cons r1
  obtain ⟨v3, vs3, d3, ds3, p3, q3, rfl, rfl, rfl, h3, r3⟩ := trodAll_cons r2
  obtain ⟨rfl, rfl, rfl⟩ := trodAll_nil r3
  obtain rfl : args = #[v0, v1, v2, v3] := by cases args; simp_all
  obtain ⟨rfl, rfl⟩ := trodVars_none hV
  obtain ⟨cs0, rfl⟩ : ∃ cs, v0 = .agg cs := by
    have h_ := (hval 0 25 v0 rfl rfl)
    simp only [Value.okWide, Try.underlying25] at h_
    obtain ⟨cs_, e_, _⟩ := h_
    exact ⟨cs_, e_⟩
  have k0 := h0
  have lt0 : ∀ x ∈ p0, x.block < W.heap.size := by obtain ⟨m, hm⟩ := k0; exact DataW.trod_lt m _ _ _ hm
  obtain ⟨a0, hK0, ok0⟩ : ∃ x, k25.K W x cs0.toList ∧ ((x.f0.length * 32 ≤ 140737488351232 ∧ x.f0.length ≤ maxLen ∧ ∀ y4 ∈ x.f0, ((Lit.int .i64 y4.f0).wf = true ∧ (Lit.int .i64 y4.f1).wf = true ∧ (Lit.int .i64 y4.f2).wf = true ∧ (Lit.int .i64 y4.f3).wf = true)) ∧ (x.f1.length * 24 ≤ 140737488351232 ∧ x.f1.length ≤ maxLen ∧ ∀ y4 ∈ x.f1, ((Lit.int .i64 y4.f0).wf = true ∧ (Lit.int .u8 y4.f1).wf = true ∧ (Lit.int .u8 y4.f2).wf = true ∧ (Lit.int .i64 y4.f3).wf = true))) := by
    obtain ⟨fuel, hf⟩ := h0
    exact opens0 enc W fuel _ _ hf (fun n hn => of_decide_eq_true (List.all_eq_true.1 hsz _ (DataW.weights_mem_each (j := 0) (t := 25) rfl rfl n hn)))
  obtain ⟨A0_0, c0_0, A0_1, c0_1, hcs0, hc0_0, hr0_0, hc0_1, hr0_1⟩ := k25_open hK0
  obtain rfl : cs0 = #[.slice A0_0 a0.f0.length c0_0, .slice A0_1 a0.f1.length c0_1] := by cases cs0; simpa using hcs0
  obtain ⟨a1, rfl, rfl, rfl, w1⟩ := open_int Try.underlying3 (hval 1 3 v1 rfl rfl) h1
  obtain ⟨a2, rfl, rfl, rfl, w2⟩ := open_int Try.underlying2 (hval 2 2 v2 rfl rfl) h2
  obtain ⟨a3, rfl, rfl, rfl, w3⟩ := open_int Try.underlying36 (hval 3 36 v3 rfl rfl) h3
  clear hA0 hval0 hsz0 hsz
  obtain ⟨k, h⟩ := Pure.LedgerDoes a0 a1 a2 a3 ok0 w1 w2 w3
  refine (ladinglaw14_LedgerDoes.calls k _ _ a0.f0 _ _ a0.f1 a1 a2 a3 true W hr0_0 hc0_0 hr0_1 hc0_1 h).mono fun e W' ⟨he, bel0⟩ => ?_
  have bel := bel0
  subst he
  exact ⟨_, rfl, _, _, _, [], _, [], hW', trodAll_mk1 (shut_bool Try.underlying4 _), (trodAll_cons_mk (Below.trod laidOut (by kernel_rfl) (of_decide_eq_true (by kernel_rfl)) k0 bel lt0) (trodAll_cons_mk (shut_int Try.underlying3 w1) (trodAll_cons_mk (shut_int Try.underlying2 w2) (trodAll_cons_mk (shut_int Try.underlying36 w3) trodAll_mk0)))), rfl, bel.frame _, fun h => by cases h⟩
theorem over : Rows.ledgerDoesRow.holds Try.pinned (OpenSpec.ofChange Rows.ledgerDoesSpec) :=
  OpenClaim.holds_of_wide 5 Try.f5 rfl rfl rfl rfl rfl rfl rfl ⟨rfl, rfl, rfl, rfl, rfl⟩ rfl rfl rfl rfl rfl (by kernel_rfl) Try.func5 (by kernel_rfl)
    (of_decide_eq_true (by kernel_rfl)) (by unfold Func.isWrapper; first | (rw [if_pos (by decide +kernel)]; kernel_rfl) | (rw [if_neg (by decide +kernel)]; exact ⟨rfl, rfl⟩))
    (fun os started H enc _ => lifted os started H enc)
theorem proved : Rows.LedgerDoesSaid := over
#print axioms proved
end Go.Proofs.Ytaddmogfeijjcaa.ledgerDoes
namespace Go.Proofs.Ytaddmogfeijjcaa
theorem ledgerDoes_holds : Rows.LedgerDoesSaid := ledgerDoes.proved
end Go.Proofs.Ytaddmogfeijjcaa
