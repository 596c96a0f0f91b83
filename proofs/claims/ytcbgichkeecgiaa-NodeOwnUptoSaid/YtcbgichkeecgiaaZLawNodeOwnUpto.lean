-- What the claim uses alone (wip/slim.py). Lean checks it.
import Derived.Test.YtcbgichkeecgiaaRows
import Derived.Test.YtcbgichkeecgiaaZPrint29
import Derived.Test.YtcbgichkeecgiaaZAll
import Derived.Test.YtcbgichkeecgiaaZXOpensU
import Derived.SizedLaws
import Derived.ChangeSlices
import Derived.WalkKit
import Derived.ProofKit
import Derived.OpenShut
import Derived.ShutString
import Derived.ChangeOld
import Derived.Below
import Derived.JoinedCond
import Derived.Deep.CondSized
namespace Go.Proofs.Ytcbgichkeecgiaa.nodeOwnUpto
open Go.ChangeShapes Go.WideShapes Go.ChangeAt Go.RowKit Go.Proofs.Ytcbgichkeecgiaa.OpensU Go.Proofs.Ytcbgichkeecgiaa.Print Go.Proofs.YtcbgichkeecgiaaW.PrintWords
open Go.ChangeMaps (open_string shut_string)
set_option linter.unusedVariables false
theorem own : ownKnob Try.prog.godebug = none := by kernel_rfl
theorem laidOut : laidOutB Try.prog = true := by kernel_rfl
theorem opens0 : Opens Try.prog 26 k26 (fun x => (True ∧ (x.f1.length ≤ 1048576 ∧ ∀ y4 ∈ x.f1, (y4.length ≤ 1048576 ∧ ∀ y2 ∈ y4, (Lit.int .u8 y2).wf = true)) ∧ (x.f2.length ≤ 1048576 ∧ ∀ y4 ∈ x.f2, (y4.length ≤ 1048576 ∧ ∀ y2 ∈ y4, (Lit.int .u8 y2).wf = true)) ∧ (x.f3.length ≤ 1048576 ∧ ∀ y4 ∈ x.f3, (Lit.int .i64 y4).wf = true))) := (show Opens Try.prog 26 k26 (fun x => (True ∧ (x.f1.length ≤ 1048576 ∧ ∀ y4 ∈ x.f1, (y4.length ≤ 1048576 ∧ ∀ y2 ∈ y4, (Lit.int .u8 y2).wf = true)) ∧ (x.f2.length ≤ 1048576 ∧ ∀ y4 ∈ x.f2, (y4.length ≤ 1048576 ∧ ∀ y2 ∈ y4, (Lit.int .u8 y2).wf = true)) ∧ (x.f3.length ≤ 1048576 ∧ ∀ y4 ∈ x.f3, (Lit.int .i64 y4).wf = true))) from opens_iso (opens_struct Try.underlying26 (opensFs_cons (opens_bool Try.underlying4) rfl (by kernel_rfl) (opensFs_cons (opens_slice Try.underlying22 (opens_slice Try.underlying27 (opens_int Try.underlying5) (by kernel_rfl)) (by kernel_rfl)) rfl (by kernel_rfl) (opensFs_cons (opens_slice Try.underlying22 (opens_slice Try.underlying27 (opens_int Try.underlying5) (by kernel_rfl)) (by kernel_rfl)) rfl (by kernel_rfl) (opensFs_one (opens_slice Try.underlying24 (opens_int Try.underlying3) (by kernel_rfl)) rfl (by kernel_rfl))))) (by kernel_rfl)) _ (fun p => ⟨p.1, p.2.1, p.2.2.1, p.2.2.2⟩) (fun _ => rfl))
theorem opens1 : Opens Try.prog 27 (Kd.slice 5 (Kd.int .u8)) (fun x => (x.length ≤ 1048576 ∧ ∀ y1 ∈ x, (Lit.int .u8 y1).wf = true)) := (opens_slice Try.underlying27 (opens_int Try.underlying5) (by kernel_rfl))
theorem opens2 : Opens Try.prog 27 (Kd.slice 5 (Kd.int .u8)) (fun x => (x.length ≤ 1048576 ∧ ∀ y1 ∈ x, (Lit.int .u8 y1).wf = true)) := (opens_slice Try.underlying27 (opens_int Try.underlying5) (by kernel_rfl))
set_option maxRecDepth 100000 in
theorem lifted (os : Os) (started : os.Started) (H : Type) (enc : TypeId × Value → H) (F : Stop.Interp) :
    ReturnsInHanded {} Try.checked os 7 .any ((Rows.OpenSpec.upto Rows.nodeOwnSpec).pre6 enc Try.prog Try.f7 Rows.nodeOwnUptoRow.domain false) (((Rows.OpenSpec.upto Rows.nodeOwnSpec).at F).post enc Try.prog Try.f7 false true false false) := by
  refine returnsInHanded_of_cond_sized (C := Try.checked) (s := Rows.OpenSpec.upto Rows.nodeOwnSpec) (k := Rows.uptoSmall) rfl own started (by kernel_rfl) Try.func7
    (OpenSpec.witness (enc := enc) (C := Try.checked) (s := Rows.OpenSpec.upto Rows.nodeOwnSpec) (k := Rows.uptoSmall) rfl false ⟨#[], #[.agg #[.bool false, .slice none 0 0, .slice none 0 0, .slice none 0 0], .slice none 0 0, .slice none 0 0], []⟩ 8 (by kernel_rfl) (by kernel_rfl) (by kernel_rfl)
      (x := ([.agg [.lit (.bool false), .nil, .nil, .nil], .nil, .nil], [], [])) (by kernel_rfl) rfl (by kernel_rfl)) ?_
  intro W base args ds gs before hval0 hW hcnd hk hsz0 _
  have hsz : (DataW.weightsEach Try.prog (Try.f7.params.toList ++ Rows.nodeOwnSpec.plain.varTypes Try.prog) (ds ++ gs)).all (· ≤ reachBytes) = true := hsz0
  have hval : ∀ (j : Nat) t v, Try.f7.params[j]? = some t → args[j]? = some v → Value.okWide Try.prog W .any base t v := hval0
  have hW' := hW
  obtain ⟨p, q, hA0, hV, rfl, hfz, hnd⟩ := hW
  have hA : DataW.TrodAll enc Try.prog W 0 (fun _ => true) true Try.f7.params.toList args.toList ds p := hA0
  rw [Try.params7] at hA hval hsz
  obtain ⟨v0, vs0, d0, ds0, p0, q0, hargs, rfl, rfl, h0, r0⟩ := trodAll_cons hA
  obtain ⟨v1, vs1, d1, ds1, p1, q1, rfl, rfl, rfl, h1, r1⟩ := trodAll_cons r0
  obtain ⟨v2, vs2, d2, ds2, p2, q2, rfl, rfl, rfl, h2, r2⟩ := trodAll_cons r1
  obtain ⟨rfl, rfl, rfl⟩ := trodAll_nil r2
  obtain rfl : args = #[v0, v1, v2] := by cases args; simp_all
  obtain ⟨rfl, rfl⟩ := trodVars_none hV
  have hb : Rows.uptoBulkAll ([d0, d1, d2] ++ []) ≤ 1048576 := of_decide_eq_true (hk)
  simp only [List.append_nil, Rows.uptoBulkAll] at hb
  obtain ⟨cs0, rfl⟩ : ∃ cs, v0 = .agg cs := by
    have h_ := (hval 0 26 v0 rfl rfl)
    simp only [Value.okWide, Try.underlying26] at h_
    obtain ⟨cs_, e_, _⟩ := h_
    exact ⟨cs_, e_⟩
  have k0 := h0
  have lt0 : ∀ x ∈ p0, x.block < W.heap.size := by obtain ⟨m, hm⟩ := k0; exact DataW.trod_lt m _ _ _ hm
  obtain ⟨a0, hK0, ok0⟩ : ∃ x, k26.K W x cs0.toList ∧ (True ∧ (x.f1.length ≤ 1048576 ∧ ∀ y4 ∈ x.f1, (y4.length ≤ 1048576 ∧ ∀ y2 ∈ y4, (Lit.int .u8 y2).wf = true)) ∧ (x.f2.length ≤ 1048576 ∧ ∀ y4 ∈ x.f2, (y4.length ≤ 1048576 ∧ ∀ y2 ∈ y4, (Lit.int .u8 y2).wf = true)) ∧ (x.f3.length ≤ 1048576 ∧ ∀ y4 ∈ x.f3, (Lit.int .i64 y4).wf = true)) := by
    obtain ⟨fuel, hf⟩ := h0
    exact opens0 enc W fuel _ _ hf (by show Rows.uptoBulk d0 ≤ _; omega)
  obtain ⟨A0_1, c0_1, A0_2, c0_2, A0_3, c0_3, hcs0, hc0_1, hr0_1, hc0_2, hr0_2, hc0_3, hr0_3⟩ := k26_open hK0
  obtain rfl : cs0 = #[.bool a0.f0, .slice A0_1 a0.f1.length c0_1, .slice A0_2 a0.f2.length c0_2, .slice A0_3 a0.f3.length c0_3] := by cases cs0; simpa using hcs0
  obtain ⟨A1, n1, c1, rfl⟩ := okWide_slice Try.underlying27 (hval 1 27 v1 rfl rfl)
  have k1 := h1
  have lt1 : ∀ x ∈ p1, x.block < W.heap.size := by obtain ⟨m, hm⟩ := k1; exact DataW.trod_lt m _ _ _ hm
  obtain ⟨l1, hK1, ok1⟩ : ∃ x, (Kd.slice 5 (Kd.int .u8)).K W x [.slice A1 n1 c1] ∧ (x.length ≤ 1048576 ∧ ∀ y1 ∈ x, (Lit.int .u8 y1).wf = true) := by
    obtain ⟨fuel, hf⟩ := h1
    exact opens1 enc W fuel _ _ hf (by show Rows.uptoBulk d1 ≤ _; omega)
  obtain ⟨A1', c1', hcs1, hc1, hr1⟩ := hK1
  obtain ⟨rfl, rfl, rfl⟩ : A1 = A1' ∧ n1 = l1.length ∧ c1 = c1' := by simpa using hcs1
  obtain ⟨A2, n2, c2, rfl⟩ := okWide_slice Try.underlying27 (hval 2 27 v2 rfl rfl)
  have k2 := h2
  have lt2 : ∀ x ∈ p2, x.block < W.heap.size := by obtain ⟨m, hm⟩ := k2; exact DataW.trod_lt m _ _ _ hm
  obtain ⟨l2, hK2, ok2⟩ : ∃ x, (Kd.slice 5 (Kd.int .u8)).K W x [.slice A2 n2 c2] ∧ (x.length ≤ 1048576 ∧ ∀ y1 ∈ x, (Lit.int .u8 y1).wf = true) := by
    obtain ⟨fuel, hf⟩ := h2
    exact opens2 enc W fuel _ _ hf (by show Rows.uptoBulk d2 ≤ _; omega)
  obtain ⟨A2', c2', hcs2, hc2, hr2⟩ := hK2
  obtain ⟨rfl, rfl, rfl⟩ : A2 = A2' ∧ n2 = l2.length ∧ c2 = c2' := by simpa using hcs2
  clear hA0 hval0 hsz0 hsz
  obtain ⟨k, h⟩ := Pure.NodeOwnUpto a0 l1 l2 ok0 ok1 ok2
  refine (ladinglaw06_NodeOwn.calls k a0.f0 _ _ a0.f1 _ _ a0.f2 _ _ a0.f3 _ _ l1 _ _ l2 true W hr0_1 hc0_1 hr0_2 hc0_2 hr0_3 hc0_3 hr1 hc1 hr2 hc2 h).mono fun e W' ⟨he, bel0⟩ => ?_
  have bel := bel0
  subst he
  exact ⟨_, rfl, _, _, _, [], _, [], hW', trodAll_mk1 (shut_bool Try.underlying4 _), (trodAll_cons_mk (Below.trod laidOut (by kernel_rfl) (of_decide_eq_true (by kernel_rfl)) k0 bel lt0) (trodAll_cons_mk (Below.trod laidOut (by kernel_rfl) (of_decide_eq_true (by kernel_rfl)) k1 bel lt1) (trodAll_cons_mk (Below.trod laidOut (by kernel_rfl) (of_decide_eq_true (by kernel_rfl)) k2 bel lt2) trodAll_mk0))), rfl, bel.frame _, fun h => by cases h⟩
theorem over : Rows.NodeOwnUptoSaid :=
  OpenClaim.holds_of_cond 7 Try.f7 rfl rfl rfl rfl rfl rfl rfl ⟨rfl, rfl, rfl, rfl, rfl⟩ rfl rfl rfl rfl rfl (by kernel_rfl) Try.func7 (by kernel_rfl)
    (of_decide_eq_true (by kernel_rfl)) (by unfold Func.isWrapper; first | (rw [if_pos (by decide +kernel)]; kernel_rfl) | (rw [if_neg (by decide +kernel)]; exact ⟨rfl, rfl⟩))
    (fun os started H enc _ F => lifted os started H enc F)
#print axioms over
end Go.Proofs.Ytcbgichkeecgiaa.nodeOwnUpto
namespace Go.Proofs.Ytcbgichkeecgiaa
theorem nodeOwnUpto_holds : Rows.NodeOwnUptoSaid := nodeOwnUpto.over
end Go.Proofs.Ytcbgichkeecgiaa
