-- What the claim uses alone (wip/slim.py). Lean checks it.
import Derived.Test.YtcbgichkeecgiaaRows
import Derived.Test.YtcbgichkeecgiaaZPrint36
import Derived.Test.YtcbgichkeecgiaaZPureNodePartsUpto
import Derived.Test.YtcbgichkeecgiaaZXOpensU
import Derived.SizedLaws
import Derived.ChangeSlices
import Derived.WalkKit
import Derived.ProofKit
import Derived.OpenShut
import Derived.ShutString
import Derived.ChangeOld
import Derived.Below
import Derived.JoinedCond
import Derived.Deep.CondSized
namespace Go.Proofs.Ytcbgichkeecgiaa.nodePartsUpto
open Go.ChangeShapes Go.WideShapes Go.ChangeAt Go.RowKit Go.Proofs.Ytcbgichkeecgiaa.OpensU Go.Proofs.Ytcbgichkeecgiaa.Print Go.Proofs.YtcbgichkeecgiaaW.PrintWords
open Go.ChangeMaps (open_string shut_string)
set_option linter.unusedVariables false
theorem own : ownKnob Try.prog.godebug = none := by kernel_rfl
theorem laidOut : laidOutB Try.prog = true := by kernel_rfl
theorem opens0 : Opens Try.prog 26 k26 (fun x => (True ∧ (x.f1.length ≤ 1048576 ∧ ∀ y4 ∈ x.f1, (y4.length ≤ 1048576 ∧ ∀ y2 ∈ y4, (Lit.int .u8 y2).wf = true)) ∧ (x.f2.length ≤ 1048576 ∧ ∀ y4 ∈ x.f2, (y4.length ≤ 1048576 ∧ ∀ y2 ∈ y4, (Lit.int .u8 y2).wf = true)) ∧ (x.f3.length ≤ 1048576 ∧ ∀ y4 ∈ x.f3, (Lit.int .i64 y4).wf = true))) := (show Opens Try.prog 26 k26 (fun x => (True ∧ (x.f1.length ≤ 1048576 ∧ ∀ y4 ∈ x.f1, (y4.length ≤ 1048576 ∧ ∀ y2 ∈ y4, (Lit.int .u8 y2).wf = true)) ∧ (x.f2.length ≤ 1048576 ∧ ∀ y4 ∈ x.f2, (y4.length ≤ 1048576 ∧ ∀ y2 ∈ y4, (Lit.int .u8 y2).wf = true)) ∧ (x.f3.length ≤ 1048576 ∧ ∀ y4 ∈ x.f3, (Lit.int .i64 y4).wf = true))) from opens_iso (opens_struct Try.underlying26 (opensFs_cons (opens_bool Try.underlying4) rfl (by kernel_rfl) (opensFs_cons (opens_slice Try.underlying22 (opens_slice Try.underlying27 (opens_int Try.underlying5) (by kernel_rfl)) (by kernel_rfl)) rfl (by kernel_rfl) (opensFs_cons (opens_slice Try.underlying22 (opens_slice Try.underlying27 (opens_int Try.underlying5) (by kernel_rfl)) (by kernel_rfl)) rfl (by kernel_rfl) (opensFs_one (opens_slice Try.underlying24 (opens_int Try.underlying3) (by kernel_rfl)) rfl (by kernel_rfl))))) (by kernel_rfl)) _ (fun p => ⟨p.1, p.2.1, p.2.2.1, p.2.2.2⟩) (fun _ => rfl))
set_option maxRecDepth 100000 in
theorem lifted (os : Os) (started : os.Started) (H : Type) (enc : TypeId × Value → H) (F : Stop.Interp) :
    ReturnsInHanded {} Try.checked os 5 .any ((Rows.OpenSpec.upto Rows.nodePartsSpec).pre6 enc Try.prog Try.f5 Rows.nodePartsUptoRow.domain false) (((Rows.OpenSpec.upto Rows.nodePartsSpec).at F).post enc Try.prog Try.f5 false true false false) := by
  refine returnsInHanded_of_cond_sized (C := Try.checked) (s := Rows.OpenSpec.upto Rows.nodePartsSpec) (k := Rows.uptoSmall) rfl own started (by kernel_rfl) Try.func5
    (OpenSpec.witness (enc := enc) (C := Try.checked) (s := Rows.OpenSpec.upto Rows.nodePartsSpec) (k := Rows.uptoSmall) rfl false ⟨#[], #[.agg #[.bool false, .slice none 0 0, .slice none 0 0, .slice none 0 0]], []⟩ 8 (by kernel_rfl) (by kernel_rfl) (by kernel_rfl)
      (x := ([.agg [.lit (.bool false), .nil, .nil, .nil]], [], [])) (by kernel_rfl) rfl (by kernel_rfl)) ?_
  intro W base args ds gs before hval0 hW hcnd hk hsz0 _
  have hsz : (DataW.weightsEach Try.prog (Try.f5.params.toList ++ Rows.nodePartsSpec.plain.varTypes Try.prog) (ds ++ gs)).all (· ≤ reachBytes) = true := hsz0
  have hval : ∀ (j : Nat) t v, Try.f5.params[j]? = some t → args[j]? = some v → Value.okWide Try.prog W .any base t v := hval0
  have hW' := hW
  obtain ⟨p, q, hA0, hV, rfl, hfz, hnd⟩ := hW
  have hA : DataW.TrodAll enc Try.prog W 0 (fun _ => true) true Try.f5.params.toList args.toList ds p := hA0
  rw [Try.params5] at hA hval hsz
  obtain ⟨v0, vs0, d0, ds0, p0, q0, hargs, rfl, rfl, h0, r0⟩ := trodAll_cons hA
  obtain ⟨rfl, rfl, rfl⟩ := trodAll_nil r0
  obtain rfl : args = #[v0] := by cases args; simp_all
  obtain ⟨rfl, rfl⟩ := trodVars_none hV
  have hb : Rows.uptoBulkAll ([d0] ++ []) ≤ 1048576 := of_decide_eq_true (hk)
  simp only [List.append_nil, Rows.uptoBulkAll] at hb
  obtain ⟨cs0, rfl⟩ : ∃ cs, v0 = .agg cs := by
    have h_ := (hval 0 26 v0 rfl rfl)
    simp only [Value.okWide, Try.underlying26] at h_
    obtain ⟨cs_, e_, _⟩ := h_
    exact ⟨cs_, e_⟩
  have k0 := h0
  have lt0 : ∀ x ∈ p0, x.block < W.heap.size := by obtain ⟨m, hm⟩ := k0; exact DataW.trod_lt m _ _ _ hm
  obtain ⟨a0, hK0, ok0⟩ : ∃ x, k26.K W x cs0.toList ∧ (True ∧ (x.f1.length ≤ 1048576 ∧ ∀ y4 ∈ x.f1, (y4.length ≤ 1048576 ∧ ∀ y2 ∈ y4, (Lit.int .u8 y2).wf = true)) ∧ (x.f2.length ≤ 1048576 ∧ ∀ y4 ∈ x.f2, (y4.length ≤ 1048576 ∧ ∀ y2 ∈ y4, (Lit.int .u8 y2).wf = true)) ∧ (x.f3.length ≤ 1048576 ∧ ∀ y4 ∈ x.f3, (Lit.int .i64 y4).wf = true)) := by
    obtain ⟨fuel, hf⟩ := h0
    exact opens0 enc W fuel _ _ hf (by show Rows.uptoBulk d0 ≤ _; omega)
  obtain ⟨A0_1, c0_1, A0_2, c0_2, A0_3, c0_3, hcs0, hc0_1, hr0_1, hc0_2, hr0_2, hc0_3, hr0_3⟩ := k26_open hK0
  obtain rfl : cs0 = #[.bool a0.f0, .slice A0_1 a0.f1.length c0_1, .slice A0_2 a0.f2.length c0_2, .slice A0_3 a0.f3.length c0_3] := by cases cs0; simpa using hcs0
  clear hA0 hval0 hsz0 hsz
  obtain ⟨k, h⟩ := Pure.NodePartsUpto a0 ok0
  refine (ladinglaw06_NodeParts.calls k a0.f0 _ _ a0.f1 _ _ a0.f2 _ _ a0.f3 true W hr0_1 hc0_1 hr0_2 hc0_2 hr0_3 hc0_3 h).mono fun e W' ⟨he, bel0⟩ => ?_
  have bel := bel0
  subst he
  exact ⟨_, rfl, _, _, _, [], _, [], hW', trodAll_mk1 (shut_bool Try.underlying4 _), (trodAll_cons_mk (Below.trod laidOut (by kernel_rfl) (of_decide_eq_true (by kernel_rfl)) k0 bel lt0) trodAll_mk0), rfl, bel.frame _, fun h => by cases h⟩
theorem over : Rows.NodePartsUptoSaid :=
  OpenClaim.holds_of_cond 5 Try.f5 rfl rfl rfl rfl rfl rfl rfl ⟨rfl, rfl, rfl, rfl, rfl⟩ rfl rfl rfl rfl rfl (by kernel_rfl) Try.func5 (by kernel_rfl)
    (of_decide_eq_true (by kernel_rfl)) (by unfold Func.isWrapper; first | (rw [if_pos (by decide +kernel)]; kernel_rfl) | (rw [if_neg (by decide +kernel)]; exact ⟨rfl, rfl⟩))
    (fun os started H enc _ F => lifted os started H enc F)
#print axioms over
end Go.Proofs.Ytcbgichkeecgiaa.nodePartsUpto
namespace Go.Proofs.Ytcbgichkeecgiaa
theorem nodePartsUpto_holds : Rows.NodePartsUptoSaid := nodePartsUpto.over
end Go.Proofs.Ytcbgichkeecgiaa
