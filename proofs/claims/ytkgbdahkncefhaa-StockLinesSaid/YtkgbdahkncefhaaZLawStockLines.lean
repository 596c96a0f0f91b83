-- A claim's text with what it uses alone (wip/slim.py, over what the kit's print and this session's tools wrote). Not trusted: Lean checks it.
import Derived.Test.YtkgbdahkncefhaaRows
import Derived.Test.YtkgbdahkncefhaaZPrint23
import Derived.Test.YtkgbdahkncefhaaZPureStockLines
import Derived.Test.YtkgbdahkncefhaaZXOpens
import Derived.SizedLaws
import Derived.ChangeSlices
import Derived.WalkKit
import Derived.ProofKit
import Derived.OpenShut
import Derived.ShutString
import Derived.ChangeOld
import Derived.Below
namespace Go.Proofs.Ytkgbdahkncefhaa.stockLines
open Go.ChangeShapes Go.WideShapes Go.ChangeAt Go.RowKit Go.Proofs.Ytkgbdahkncefhaa.Opens Go.Proofs.Ytkgbdahkncefhaa.Print Go.Proofs.YtkgbdahkncefhaaW.PrintWords
open Go.ChangeMaps (open_string shut_string)
set_option linter.unusedVariables false
theorem own : ownKnob Try.prog.godebug = none := by kernel_rfl
theorem laidOut : laidOutB Try.prog = true := by kernel_rfl
theorem opens0 : Opens Try.prog 22 (Kd.slice 33 k33) (fun x => (x.length * 48 ≤ 140737488351232 ∧ x.length ≤ maxLen ∧ ∀ y1 ∈ x, ((Lit.int .i64 y1.f0).wf = true ∧ (Lit.int .i64 y1.f1).wf = true ∧ (Lit.int .i64 y1.f2).wf = true ∧ (Lit.int .i64 y1.f3).wf = true ∧ (Lit.int .i64 y1.f4).wf = true ∧ (Lit.int .i64 y1.f5).wf = true))) := (opens_slice Try.underlying22 (show Opens Try.prog 33 k33 (fun x => ((Lit.int .i64 x.f0).wf = true ∧ (Lit.int .i64 x.f1).wf = true ∧ (Lit.int .i64 x.f2).wf = true ∧ (Lit.int .i64 x.f3).wf = true ∧ (Lit.int .i64 x.f4).wf = true ∧ (Lit.int .i64 x.f5).wf = true)) from opens_iso (opens_struct Try.underlying33 (opensFs_cons (opens_int Try.underlying3) rfl (by kernel_rfl) (opensFs_cons (opens_int Try.underlying3) rfl (by kernel_rfl) (opensFs_cons (opens_int Try.underlying2) rfl (by kernel_rfl) (opensFs_cons (opens_int Try.underlying2) rfl (by kernel_rfl) (opensFs_cons (opens_int Try.underlying2) rfl (by kernel_rfl) (opensFs_one (opens_int Try.underlying2) rfl (by kernel_rfl))))))) (by kernel_rfl)) _ (fun p => ⟨p.1, p.2.1, p.2.2.1, p.2.2.2.1, p.2.2.2.2.1, p.2.2.2.2.2⟩) (fun _ => rfl)) (by kernel_rfl) (by kernel_rfl))
theorem opens1 : Opens Try.prog 39 (Kd.slice 44 k44) (fun x => (x.length * 32 ≤ 140737488351232 ∧ x.length ≤ maxLen ∧ ∀ y1 ∈ x, ((Lit.int .i64 y1.f0).wf = true ∧ (Lit.int .i64 y1.f1).wf = true ∧ (Lit.int .i64 y1.f2).wf = true ∧ (Lit.int .i64 y1.f3).wf = true))) := (opens_slice Try.underlying39 (show Opens Try.prog 44 k44 (fun x => ((Lit.int .i64 x.f0).wf = true ∧ (Lit.int .i64 x.f1).wf = true ∧ (Lit.int .i64 x.f2).wf = true ∧ (Lit.int .i64 x.f3).wf = true)) from opens_iso (opens_struct Try.underlying44 (opensFs_cons (opens_int Try.underlying3) rfl (by kernel_rfl) (opensFs_cons (opens_int Try.underlying3) rfl (by kernel_rfl) (opensFs_cons (opens_int Try.underlying2) rfl (by kernel_rfl) (opensFs_one (opens_int Try.underlying2) rfl (by kernel_rfl))))) (by kernel_rfl)) _ (fun p => ⟨p.1, p.2.1, p.2.2.1, p.2.2.2⟩) (fun _ => rfl)) (by kernel_rfl) (by kernel_rfl))
set_option maxRecDepth 100000 in
theorem lifted (os : Os) (started : os.Started) (H : Type) (enc : TypeId × Value → H) :
    ReturnsInHanded {} Try.checked os 8 .any (Rows.stockLinesSpec.pre6 enc Try.prog Try.f8 Rows.stockLinesRow.domain false) (Rows.stockLinesSpec.post enc Try.prog Try.f8 false true false false) := by
  refine returnsInHanded_of_change_sized (C := Try.checked) own started (by kernel_rfl) Try.func8
    (ChangeSpec.witness6 (enc := enc) (C := Try.checked) false ⟨#[], #[.slice none 0 0, .slice none 0 0], []⟩ 8 (by kernel_rfl) (by kernel_rfl) (by kernel_rfl) (by kernel_rfl)) ?_
  intro W base args ds gs before hval0 hW hcnd hsz0 _
  have hsz : (DataW.weightsEach Try.prog (Try.f8.params.toList ++ Rows.stockLinesSpec.plain.varTypes Try.prog) (ds ++ gs)).all (· ≤ reachBytes) = true := hsz0
  have hval : ∀ (j : Nat) t v, Try.f8.params[j]? = some t → args[j]? = some v → Value.okWide Try.prog W .any base t v := hval0
  have hW' := hW
  obtain ⟨p, q, hA0, hV, rfl, hfz, hnd⟩ := hW
  have hA : DataW.TrodAll enc Try.prog W 0 (fun _ => true) true Try.f8.params.toList args.toList ds p := hA0
  rw [Try.params8] at hA hval hsz
  obtain ⟨v0, vs0, d0, ds0, p0, q0, hargs, rfl, rfl, h0, r0⟩ := trodAll_cons hA
  obtain ⟨v1, vs1, d1, ds1, p1, q1, rfl, rfl, rfl, h1, r1⟩ := trodAll_cons r0
  obtain ⟨rfl, rfl, rfl⟩ := trodAll_nil r1
  obtain rfl : args = #[v0, v1] := by cases args; simp_all
  obtain ⟨rfl, rfl⟩ := trodVars_none hV
  obtain ⟨A0, n0, c0, rfl⟩ := okWide_slice Try.underlying22 (hval 0 22 v0 rfl rfl)
  have k0 := h0
  have lt0 : ∀ x ∈ p0, x.block < W.heap.size := by obtain ⟨m, hm⟩ := k0; exact DataW.trod_lt m _ _ _ hm
  obtain ⟨l0, hK0, ok0⟩ : ∃ x, (Kd.slice 33 k33).K W x [.slice A0 n0 c0] ∧ (x.length * 48 ≤ 140737488351232 ∧ x.length ≤ maxLen ∧ ∀ y1 ∈ x, ((Lit.int .i64 y1.f0).wf = true ∧ (Lit.int .i64 y1.f1).wf = true ∧ (Lit.int .i64 y1.f2).wf = true ∧ (Lit.int .i64 y1.f3).wf = true ∧ (Lit.int .i64 y1.f4).wf = true ∧ (Lit.int .i64 y1.f5).wf = true)) := by
    obtain ⟨fuel, hf⟩ := h0
    exact opens0 enc W fuel _ _ hf (fun n hn => of_decide_eq_true (List.all_eq_true.1 hsz _ (DataW.weights_mem_each (j := 0) (t := 22) rfl rfl n hn)))
  obtain ⟨A0', c0', hcs0, hc0, hr0⟩ := hK0
  obtain ⟨rfl, rfl, rfl⟩ : A0 = A0' ∧ n0 = l0.length ∧ c0 = c0' := by simpa using hcs0
  obtain ⟨A1, n1, c1, rfl⟩ := okWide_slice Try.underlying39 (hval 1 39 v1 rfl rfl)
  have k1 := h1
  have lt1 : ∀ x ∈ p1, x.block < W.heap.size := by obtain ⟨m, hm⟩ := k1; exact DataW.trod_lt m _ _ _ hm
  obtain ⟨l1, hK1, ok1⟩ : ∃ x, (Kd.slice 44 k44).K W x [.slice A1 n1 c1] ∧ (x.length * 32 ≤ 140737488351232 ∧ x.length ≤ maxLen ∧ ∀ y1 ∈ x, ((Lit.int .i64 y1.f0).wf = true ∧ (Lit.int .i64 y1.f1).wf = true ∧ (Lit.int .i64 y1.f2).wf = true ∧ (Lit.int .i64 y1.f3).wf = true)) := by
    obtain ⟨fuel, hf⟩ := h1
    exact opens1 enc W fuel _ _ hf (fun n hn => of_decide_eq_true (List.all_eq_true.1 hsz _ (DataW.weights_mem_each (j := 1) (t := 39) rfl rfl n hn)))
  obtain ⟨A1', c1', hcs1, hc1, hr1⟩ := hK1
  obtain ⟨rfl, rfl, rfl⟩ : A1 = A1' ∧ n1 = l1.length ∧ c1 = c1' := by simpa using hcs1
  clear hA0 hval0 hsz0 hsz
  obtain ⟨k, h⟩ := Pure.StockLines l0 l1 ok0 ok1
  refine (ladinglaw13_StockLines.calls k _ _ l0 _ _ l1 true W hr0 hc0 hr1 hc1 h).mono fun e W' ⟨he, bel0⟩ => ?_
  have bel := bel0
  subst he
  exact ⟨_, rfl, _, _, _, [], _, [], hW', trodAll_mk1 (shut_bool Try.underlying4 _), (trodAll_cons_mk (Below.trod laidOut (by kernel_rfl) (of_decide_eq_true (by kernel_rfl)) k0 bel lt0) (trodAll_cons_mk (Below.trod laidOut (by kernel_rfl) (of_decide_eq_true (by kernel_rfl)) k1 bel lt1) trodAll_mk0)), rfl, bel.frame _, fun h => by cases h⟩
theorem over : Rows.stockLinesRow.holds Try.pinned (OpenSpec.ofChange Rows.stockLinesSpec) :=
  OpenClaim.holds_of_wide 8 Try.f8 rfl rfl rfl rfl rfl rfl rfl ⟨rfl, rfl, rfl, rfl, rfl⟩ rfl rfl rfl rfl rfl (by kernel_rfl) Try.func8 (by kernel_rfl)
    (of_decide_eq_true (by kernel_rfl)) (by unfold Func.isWrapper; first | (rw [if_pos (by decide +kernel)]; kernel_rfl) | (rw [if_neg (by decide +kernel)]; exact ⟨rfl, rfl⟩))
    (fun os started H enc _ => lifted os started H enc)
theorem proved : Rows.StockLinesSaid := over
#print axioms proved
end Go.Proofs.Ytkgbdahkncefhaa.stockLines
namespace Go.Proofs.Ytkgbdahkncefhaa
theorem stockLines_holds : Rows.StockLinesSaid := stockLines.proved
end Go.Proofs.Ytkgbdahkncefhaa
