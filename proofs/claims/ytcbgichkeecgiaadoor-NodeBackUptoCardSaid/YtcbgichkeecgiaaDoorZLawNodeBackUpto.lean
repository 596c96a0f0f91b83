-- What the claim uses alone (wip/slim.py). Lean checks it.
import Derived.Test.YtcbgichkeecgiaaDoorRows
import Derived.Test.YtcbgichkeecgiaaDoorZPrint37
import Derived.Test.YtcbgichkeecgiaaDoorZAll
import Derived.Test.YtcbgichkeecgiaaDoorZXOpensU
import Derived.SizedLaws
import Derived.ChangeSlices
import Derived.Test.YtcbgichkeecgiaaDoorZXDoor
import Derived.Test.YtcbgichkeecgiaaDoorCards
import Derived.Test.YtcbgichkeecgiaaDoorTie
import Derived.WalkKit
import Derived.ProofKit
import Derived.OpenShut
import Derived.ShutString
import Derived.ChangeOld
import Derived.Below
import Derived.SevenTiedAt
import Derived.JoinedCond
import Derived.Deep.DeepHandedRow
import Derived.Stop.Joined
import Derived.Deep.CondSized
namespace Go.Proofs.YtcbgichkeecgiaaDoor.nodeBackUpto
open Go.ChangeShapes Go.WideShapes Go.ChangeAt Go.RowKit Go.Proofs.YtcbgichkeecgiaaDoor.OpensU Go.Proofs.YtcbgichkeecgiaaDoor.Print Go.Proofs.YtcbgichkeecgiaaDoorW.PrintWords
open Go.ChangeMaps (open_string shut_string)
set_option linter.unusedVariables false
open Go.Proofs.YtcbgichkeecgiaaDoor.Door (own laidOut)
theorem opens0 : Opens Tryd.prog 25 k25 (fun x => (True ∧ (x.f1.length ≤ 1048576 ∧ ∀ y4 ∈ x.f1, (y4.length ≤ 1048576 ∧ ∀ y2 ∈ y4, (Lit.int .u8 y2).wf = true)) ∧ (x.f2.length ≤ 1048576 ∧ ∀ y4 ∈ x.f2, (y4.length ≤ 1048576 ∧ ∀ y2 ∈ y4, (Lit.int .u8 y2).wf = true)) ∧ (x.f3.length ≤ 1048576 ∧ ∀ y4 ∈ x.f3, (Lit.int .i64 y4).wf = true))) := (show Opens Tryd.prog 25 k25 (fun x => (True ∧ (x.f1.length ≤ 1048576 ∧ ∀ y4 ∈ x.f1, (y4.length ≤ 1048576 ∧ ∀ y2 ∈ y4, (Lit.int .u8 y2).wf = true)) ∧ (x.f2.length ≤ 1048576 ∧ ∀ y4 ∈ x.f2, (y4.length ≤ 1048576 ∧ ∀ y2 ∈ y4, (Lit.int .u8 y2).wf = true)) ∧ (x.f3.length ≤ 1048576 ∧ ∀ y4 ∈ x.f3, (Lit.int .i64 y4).wf = true))) from opens_iso (opens_struct Tryd.underlying25 (opensFs_cons (opens_bool Tryd.underlying4) rfl (by kernel_rfl) (opensFs_cons (opens_slice Tryd.underlying22 (opens_slice Tryd.underlying26 (opens_int Tryd.underlying5) (by kernel_rfl)) (by kernel_rfl)) rfl (by kernel_rfl) (opensFs_cons (opens_slice Tryd.underlying22 (opens_slice Tryd.underlying26 (opens_int Tryd.underlying5) (by kernel_rfl)) (by kernel_rfl)) rfl (by kernel_rfl) (opensFs_one (opens_slice Tryd.underlying23 (opens_int Tryd.underlying3) (by kernel_rfl)) rfl (by kernel_rfl))))) (by kernel_rfl)) _ (fun p => ⟨p.1, p.2.1, p.2.2.1, p.2.2.2⟩) (fun _ => rfl))
theorem opens1 : Opens Tryd.prog 26 (Kd.slice 5 (Kd.int .u8)) (fun x => (x.length ≤ 1048576 ∧ ∀ y1 ∈ x, (Lit.int .u8 y1).wf = true)) := (opens_slice Tryd.underlying26 (opens_int Tryd.underlying5) (by kernel_rfl))
set_option maxRecDepth 100000 in
theorem lifted (os : Os) (started : os.Started) (H : Type) (enc : TypeId × Value → H) (F : Stop.Interp) :
    ReturnsInHanded {} Tryd.checked os 4 .any ((Rows.OpenSpec.upto Rows.nodeBackSpec).preRow enc Tryd.prog Tryd.f4 Rows.nodeBackUptoRow.domain false Door.laid) (((Rows.OpenSpec.upto Rows.nodeBackSpec).at F).post enc Tryd.prog Tryd.f4 false true false false) := by
  refine returnsInHanded_of_row (C := Tryd.checked) (s := Rows.OpenSpec.upto Rows.nodeBackSpec) own started (by kernel_rfl) Tryd.func4
    (Door.witness #[.agg #[.bool false, .slice none 0 0, .slice none 0 0, .slice none 0 0], .slice none 0 0, .int .i64 0, .int .u8 0] (by kernel_rfl) (OpenSpec.preRow_of_cond 8 (x := ([.agg [.lit (.bool false), .nil, .nil, .nil], .nil, .lit (.int .i64 0), .lit (.int .u8 0)], [], [])) (by kernel_rfl) (by kernel_rfl) (fun k hk => by cases hk; rfl) (by kernel_rfl) (Door.met os _))) ?_
  intro W base args ds gs before hval0 hW hcnd hk hsz0 hL hsh _
  have hsz : (DataW.weightsEach Tryd.prog (Tryd.f4.params.toList ++ Rows.nodeBackSpec.plain.varTypes Tryd.prog) (ds ++ gs)).all (· ≤ reachBytes) = true := hsz0
  have hval : ∀ (j : Nat) t v, Tryd.f4.params[j]? = some t → args[j]? = some v → Value.okWide Tryd.prog W .any base t v := hval0
  have hW' := hW
  obtain ⟨p, q, hA0, hV, rfl, hfz, hnd⟩ := hW
  have hA : DataW.TrodAll enc Tryd.prog W 0 (fun _ => true) true Tryd.f4.params.toList args.toList ds p := hA0
  rw [Tryd.params4] at hA hval hsz
  obtain ⟨v0, vs0, d0, ds0, p0, q0, hargs, rfl, rfl, h0, r0⟩ := trodAll_cons hA
  obtain ⟨v1, vs1, d1, ds1, p1, q1, rfl, rfl, rfl, h1, r1⟩ := trodAll_cons r0
  obtain ⟨v2, vs2, d2, ds2, p2, q2, rfl, rfl, rfl, h2, r2⟩ := trodAll_cons r1
  obtain ⟨v3, vs3, d3, ds3, p3, q3, rfl, rfl, rfl, h3, r3⟩ := trodAll_cons r2
  obtain ⟨rfl, rfl, rfl⟩ := trodAll_nil r3
  obtain rfl : args = #[v0, v1, v2, v3] := by cases args; simp_all
  obtain ⟨rfl, rfl⟩ := trodVars_none hV
  have hb : Rows.uptoBulkAll ([d0, d1, d2, d3] ++ []) ≤ 1048576 := of_decide_eq_true (hk _ rfl)
  simp only [List.append_nil, Rows.uptoBulkAll] at hb
  obtain ⟨cs0, rfl⟩ : ∃ cs, v0 = .agg cs := by
    have h_ := (hval 0 25 v0 rfl rfl)
    simp only [Value.okWide, Tryd.underlying25] at h_
    obtain ⟨cs_, e_, _⟩ := h_
    exact ⟨cs_, e_⟩
  have k0 := h0
  have lt0 : ∀ x ∈ p0, x.block < W.heap.size := by obtain ⟨m, hm⟩ := k0; exact DataW.trod_lt m _ _ _ hm
  obtain ⟨a0, hK0, ok0⟩ : ∃ x, k25.K W x cs0.toList ∧ (True ∧ (x.f1.length ≤ 1048576 ∧ ∀ y4 ∈ x.f1, (y4.length ≤ 1048576 ∧ ∀ y2 ∈ y4, (Lit.int .u8 y2).wf = true)) ∧ (x.f2.length ≤ 1048576 ∧ ∀ y4 ∈ x.f2, (y4.length ≤ 1048576 ∧ ∀ y2 ∈ y4, (Lit.int .u8 y2).wf = true)) ∧ (x.f3.length ≤ 1048576 ∧ ∀ y4 ∈ x.f3, (Lit.int .i64 y4).wf = true)) := by
    obtain ⟨fuel, hf⟩ := h0
    exact opens0 enc W fuel _ _ hf (by show Rows.uptoBulk d0 ≤ _; omega)
  obtain ⟨A0_1, c0_1, A0_2, c0_2, A0_3, c0_3, hcs0, hc0_1, hr0_1, hc0_2, hr0_2, hc0_3, hr0_3⟩ := k25_open hK0
  obtain rfl : cs0 = #[.bool a0.f0, .slice A0_1 a0.f1.length c0_1, .slice A0_2 a0.f2.length c0_2, .slice A0_3 a0.f3.length c0_3] := by cases cs0; simpa using hcs0
  obtain ⟨A1, n1, c1, rfl⟩ := okWide_slice Tryd.underlying26 (hval 1 26 v1 rfl rfl)
  have k1 := h1
  have lt1 : ∀ x ∈ p1, x.block < W.heap.size := by obtain ⟨m, hm⟩ := k1; exact DataW.trod_lt m _ _ _ hm
  obtain ⟨l1, hK1, ok1⟩ : ∃ x, (Kd.slice 5 (Kd.int .u8)).K W x [.slice A1 n1 c1] ∧ (x.length ≤ 1048576 ∧ ∀ y1 ∈ x, (Lit.int .u8 y1).wf = true) := by
    obtain ⟨fuel, hf⟩ := h1
    exact opens1 enc W fuel _ _ hf (by show Rows.uptoBulk d1 ≤ _; omega)
  obtain ⟨A1', c1', hcs1, hc1, hr1⟩ := hK1
  obtain ⟨rfl, rfl, rfl⟩ : A1 = A1' ∧ n1 = l1.length ∧ c1 = c1' := by simpa using hcs1
  obtain ⟨a2, rfl, rfl, rfl, w2⟩ := open_int Tryd.underlying3 (hval 2 3 v2 rfl rfl) h2
  obtain ⟨a3, rfl, rfl, rfl, w3⟩ := open_int Tryd.underlying5 (hval 3 5 v3 rfl rfl) h3
  clear hA0 hval0 hsz0 hsz
  obtain ⟨k, h⟩ := Pure.NodeBackUpto a0 l1 a2 a3 ok0 ok1 w2 w3
  refine (ladinglaw06_NodeBack.calls k a0.f0 _ _ a0.f1 _ _ a0.f2 _ _ a0.f3 _ _ l1 a2 a3 true W hr0_1 hc0_1 hr0_2 hc0_2 hr0_3 hc0_3 hr1 hc1 h).mono fun e W' ⟨he, bel0⟩ => ?_
  have bel := bel0
  subst he
  exact ⟨_, rfl, _, _, _, [], _, [], hW', trodAll_mk1 (shut_bool Tryd.underlying4 _), (trodAll_cons_mk (Below.trod laidOut (by kernel_rfl) (of_decide_eq_true (by kernel_rfl)) k0 bel lt0) (trodAll_cons_mk (Below.trod laidOut (by kernel_rfl) (of_decide_eq_true (by kernel_rfl)) k1 bel lt1) (trodAll_cons_mk (shut_int Tryd.underlying3 w2) (trodAll_cons_mk (shut_int Tryd.underlying5 w3) trodAll_mk0)))), rfl, bel.frame _, fun h => by cases h⟩
theorem over : Rows.NodeBackUptoSaid :=
  OpenClaim.holds_of_cond 4 Tryd.f4 rfl rfl rfl rfl rfl rfl rfl ⟨rfl, rfl, rfl, rfl, rfl⟩ rfl rfl rfl rfl rfl (by kernel_rfl) Tryd.func4 (by kernel_rfl)
    (of_decide_eq_true (by kernel_rfl)) (by unfold Func.isWrapper; first | (rw [if_pos (by decide +kernel)]; kernel_rfl) | (rw [if_neg (by decide +kernel)]; exact ⟨rfl, rfl⟩))
    (fun os started H enc _ F => by rw [OpenClaim.pre_eq_preRow]; exact lifted os started H enc F)
theorem card : Rows.NodeBackUptoCardSaid :=
  Claim7.holds_tied_plain_at .later [] [.data, .pinned] true (true, "83c14cc6737d2420212962f38515add13dbed9529ef3e2cf7dfaf250eea81a3c") false over (fun _ h => by cases h) (by kernel_rfl) (fun _ h => by cases h) nodeBackUpto_row_tie rfl ⟨rfl, rfl⟩ (by kernel_rfl) rfl
    (fun f fn hf hfn => by
      obtain rfl : f = 4 := Option.some.inj ((show Tryd.prog.funcNamed "lading/ladinglaw06.NodeBack" = some 4 by kernel_rfl).symm.trans hf) |>.symm
      obtain rfl : fn = Tryd.f4 := (Option.some.inj (Tryd.func4.symm.trans hfn)).symm
      exact ⟨by kernel_rfl, fun j t ht => by
        rw [Tryd.params4] at ht
        have hm : t ∈ [25, 26, 3, 5] := by simpa using Array.mem_of_getElem? ht
        have hall : ([25, 26, 3, 5].all fun u => !Tryd.prog.wantsStandIn u) = true := by kernel_rfl
        exact (show Tryd.prog.wantsStandIn t = false by simpa using List.all_eq_true.1 hall t hm)⟩)
    (by kernel_rfl)
#print axioms card
end Go.Proofs.YtcbgichkeecgiaaDoor.nodeBackUpto
namespace Go.Proofs.YtcbgichkeecgiaaDoor
theorem nodeBackUpto_holds : Rows.NodeBackUptoCardSaid := nodeBackUpto.card
end Go.Proofs.YtcbgichkeecgiaaDoor
