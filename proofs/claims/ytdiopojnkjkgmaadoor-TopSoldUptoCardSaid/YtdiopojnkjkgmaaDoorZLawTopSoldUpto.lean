-- What the claim uses alone (wip/slim.py). Lean checks it.
import Derived.Test.YtdiopojnkjkgmaaDoorRows
import Derived.Test.YtdiopojnkjkgmaaDoorZPrint52
import Derived.Test.YtdiopojnkjkgmaaDoorZAll
import Derived.Test.YtdiopojnkjkgmaaDoorZXOpensU
import Derived.SizedLaws
import Derived.ChangeSlices
import Derived.Test.YtdiopojnkjkgmaaDoorZXDoor
import Derived.Test.YtdiopojnkjkgmaaDoorCards
import Derived.Test.YtdiopojnkjkgmaaDoorTie
import Derived.WalkKit
import Derived.ProofKit
import Derived.OpenShut
import Derived.ShutString
import Derived.ChangeOld
import Derived.Below
import Derived.SevenTiedAt
import Derived.JoinedCond
import Derived.Deep.DeepHandedRow
import Derived.Stop.Joined
import Derived.Deep.CondSized
namespace Go.Proofs.YtdiopojnkjkgmaaDoor.topSoldUpto
open Go.ChangeShapes Go.WideShapes Go.ChangeAt Go.RowKit Go.Proofs.YtdiopojnkjkgmaaDoor.OpensU Go.Proofs.YtdiopojnkjkgmaaDoor.Print Go.Proofs.YtdiopojnkjkgmaaDoorW.PrintWords
open Go.ChangeMaps (open_string shut_string)
set_option linter.unusedVariables false
open Go.Proofs.YtdiopojnkjkgmaaDoor.Door (own laidOut)
theorem opens0 : Opens Tryd.prog 22 (Kd.slice 43 k43) (fun x => (x.length ≤ 1048576 ∧ ∀ y1 ∈ x, ((Lit.int .i64 y1.f0).wf = true ∧ (Lit.int .i64 y1.f1).wf = true ∧ (Lit.int .i64 y1.f2).wf = true ∧ (Lit.int .i64 y1.f3).wf = true ∧ (Lit.int .i64 y1.f4).wf = true ∧ (Lit.int .i64 y1.f5).wf = true))) := (opens_slice Tryd.underlying22 (show Opens Tryd.prog 43 k43 (fun x => ((Lit.int .i64 x.f0).wf = true ∧ (Lit.int .i64 x.f1).wf = true ∧ (Lit.int .i64 x.f2).wf = true ∧ (Lit.int .i64 x.f3).wf = true ∧ (Lit.int .i64 x.f4).wf = true ∧ (Lit.int .i64 x.f5).wf = true)) from opens_iso (opens_struct Tryd.underlying43 (opensFs_cons (opens_int Tryd.underlying3) rfl (by kernel_rfl) (opensFs_cons (opens_int Tryd.underlying3) rfl (by kernel_rfl) (opensFs_cons (opens_int Tryd.underlying2) rfl (by kernel_rfl) (opensFs_cons (opens_int Tryd.underlying2) rfl (by kernel_rfl) (opensFs_cons (opens_int Tryd.underlying2) rfl (by kernel_rfl) (opensFs_one (opens_int Tryd.underlying2) rfl (by kernel_rfl))))))) (by kernel_rfl)) _ (fun p => ⟨p.1, p.2.1, p.2.2.1, p.2.2.2.1, p.2.2.2.2.1, p.2.2.2.2.2⟩) (fun _ => rfl)) (by kernel_rfl))
theorem opens1 : Opens Tryd.prog 23 (Kd.slice 41 k41) (fun x => (x.length ≤ 1048576 ∧ ∀ y1 ∈ x, ((Lit.int .i64 y1.f0).wf = true ∧ (Lit.int .i64 y1.f1).wf = true ∧ (Lit.int .i64 y1.f2).wf = true ∧ (Lit.int .i64 y1.f3).wf = true))) := (opens_slice Tryd.underlying23 (show Opens Tryd.prog 41 k41 (fun x => ((Lit.int .i64 x.f0).wf = true ∧ (Lit.int .i64 x.f1).wf = true ∧ (Lit.int .i64 x.f2).wf = true ∧ (Lit.int .i64 x.f3).wf = true)) from opens_iso (opens_struct Tryd.underlying41 (opensFs_cons (opens_int Tryd.underlying3) rfl (by kernel_rfl) (opensFs_cons (opens_int Tryd.underlying3) rfl (by kernel_rfl) (opensFs_cons (opens_int Tryd.underlying2) rfl (by kernel_rfl) (opensFs_one (opens_int Tryd.underlying2) rfl (by kernel_rfl))))) (by kernel_rfl)) _ (fun p => ⟨p.1, p.2.1, p.2.2.1, p.2.2.2⟩) (fun _ => rfl)) (by kernel_rfl))
set_option maxRecDepth 100000 in
theorem lifted (os : Os) (started : os.Started) (H : Type) (enc : TypeId × Value → H) (F : Stop.Interp) :
    ReturnsInHanded {} Tryd.checked os 3 .any ((Rows.OpenSpec.upto Rows.topSoldSpec).preRow enc Tryd.prog Tryd.f3 Rows.topSoldUptoRow.domain false Door.laid) (((Rows.OpenSpec.upto Rows.topSoldSpec).at F).post enc Tryd.prog Tryd.f3 false true false false) := by
  refine returnsInHanded_of_row (C := Tryd.checked) (s := Rows.OpenSpec.upto Rows.topSoldSpec) own started (by kernel_rfl) Tryd.func3
    (Door.witness #[.slice none 0 0, .slice none 0 0, .int .i64 0] (by kernel_rfl) (OpenSpec.preRow_of_cond 8 (x := ([.nil, .nil, .lit (.int .i64 0)], [], [])) (by kernel_rfl) (by kernel_rfl) (fun k hk => by cases hk; rfl) (by kernel_rfl) (Door.met os _))) ?_
  intro W base args ds gs before hval0 hW hcnd hk hsz0 hL hsh _
  have hsz : (DataW.weightsEach Tryd.prog (Tryd.f3.params.toList ++ Rows.topSoldSpec.plain.varTypes Tryd.prog) (ds ++ gs)).all (· ≤ reachBytes) = true := hsz0
  have hval : ∀ (j : Nat) t v, Tryd.f3.params[j]? = some t → args[j]? = some v → Value.okWide Tryd.prog W .any base t v := hval0
  have hW' := hW
  obtain ⟨p, q, hA0, hV, rfl, hfz, hnd⟩ := hW
  have hA : DataW.TrodAll enc Tryd.prog W 0 (fun _ => true) true Tryd.f3.params.toList args.toList ds p := hA0
  rw [Tryd.params3] at hA hval hsz
  obtain ⟨v0, vs0, d0, ds0, p0, q0, hargs, rfl, rfl, h0, r0⟩ := trodAll_cons hA
  obtain ⟨v1, vs1, d1, ds1, p1, q1, rfl, rfl, rfl, h1, r1⟩ := trodAll_cons r0
  obtain ⟨v2, vs2, d2, ds2, p2, q2, rfl, rfl, rfl, h2, r2⟩ := trodAll_cons r1
  obtain ⟨rfl, rfl, rfl⟩ := trodAll_nil r2
  obtain rfl : args = #[v0, v1, v2] := by cases args; simp_all
  obtain ⟨rfl, rfl⟩ := trodVars_none hV
  have hb : Rows.uptoBulkAll ([d0, d1, d2] ++ []) ≤ 1048576 := of_decide_eq_true (hk _ rfl)
  simp only [List.append_nil, Rows.uptoBulkAll] at hb
  obtain ⟨A0, n0, c0, rfl⟩ := okWide_slice Tryd.underlying22 (hval 0 22 v0 rfl rfl)
  have k0 := h0
  have lt0 : ∀ x ∈ p0, x.block < W.heap.size := by obtain ⟨m, hm⟩ := k0; exact DataW.trod_lt m _ _ _ hm
  obtain ⟨l0, hK0, ok0⟩ : ∃ x, (Kd.slice 43 k43).K W x [.slice A0 n0 c0] ∧ (x.length ≤ 1048576 ∧ ∀ y1 ∈ x, ((Lit.int .i64 y1.f0).wf = true ∧ (Lit.int .i64 y1.f1).wf = true ∧ (Lit.int .i64 y1.f2).wf = true ∧ (Lit.int .i64 y1.f3).wf = true ∧ (Lit.int .i64 y1.f4).wf = true ∧ (Lit.int .i64 y1.f5).wf = true)) := by
    obtain ⟨fuel, hf⟩ := h0
    exact opens0 enc W fuel _ _ hf (by show Rows.uptoBulk d0 ≤ _; omega)
  obtain ⟨A0', c0', hcs0, hc0, hr0⟩ := hK0
  obtain ⟨rfl, rfl, rfl⟩ : A0 = A0' ∧ n0 = l0.length ∧ c0 = c0' := by simpa using hcs0
  obtain ⟨A1, n1, c1, rfl⟩ := okWide_slice Tryd.underlying23 (hval 1 23 v1 rfl rfl)
  have k1 := h1
  have lt1 : ∀ x ∈ p1, x.block < W.heap.size := by obtain ⟨m, hm⟩ := k1; exact DataW.trod_lt m _ _ _ hm
  obtain ⟨l1, hK1, ok1⟩ : ∃ x, (Kd.slice 41 k41).K W x [.slice A1 n1 c1] ∧ (x.length ≤ 1048576 ∧ ∀ y1 ∈ x, ((Lit.int .i64 y1.f0).wf = true ∧ (Lit.int .i64 y1.f1).wf = true ∧ (Lit.int .i64 y1.f2).wf = true ∧ (Lit.int .i64 y1.f3).wf = true)) := by
    obtain ⟨fuel, hf⟩ := h1
    exact opens1 enc W fuel _ _ hf (by show Rows.uptoBulk d1 ≤ _; omega)
  obtain ⟨A1', c1', hcs1, hc1, hr1⟩ := hK1
  obtain ⟨rfl, rfl, rfl⟩ : A1 = A1' ∧ n1 = l1.length ∧ c1 = c1' := by simpa using hcs1
  obtain ⟨a2, rfl, rfl, rfl, w2⟩ := open_int Tryd.underlying3 (hval 2 3 v2 rfl rfl) h2
  clear hA0 hval0 hsz0 hsz
  obtain ⟨k, h⟩ := Pure.TopSoldUpto l0 l1 a2 ok0 ok1 w2
  refine (ladingtop_TopSold.calls k _ _ l0 _ _ l1 a2 true W hr0 hc0 hr1 hc1 (Door.globOkL hL) h).mono fun e W' ⟨he, bel0⟩ => ?_
  have bel := bel0
  subst he
  exact ⟨_, rfl, _, _, _, [], _, [], hW', trodAll_mk1 (shut_bool Tryd.underlying4 _), (trodAll_cons_mk (Below.trod laidOut (by kernel_rfl) (of_decide_eq_true (by kernel_rfl)) k0 bel lt0) (trodAll_cons_mk (Below.trod laidOut (by kernel_rfl) (of_decide_eq_true (by kernel_rfl)) k1 bel lt1) (trodAll_cons_mk (shut_int Tryd.underlying3 w2) trodAll_mk0))), rfl, bel.frame _, fun h => by cases h⟩
theorem over : Rows.TopSoldUptoSaid :=
  OpenClaim.holds_of_cond 3 Tryd.f3 rfl rfl rfl rfl rfl rfl rfl ⟨rfl, rfl, rfl, rfl, rfl⟩ rfl rfl rfl rfl rfl (by kernel_rfl) Tryd.func3 (by kernel_rfl)
    (of_decide_eq_true (by kernel_rfl)) (by unfold Func.isWrapper; first | (rw [if_pos (by decide +kernel)]; kernel_rfl) | (rw [if_neg (by decide +kernel)]; exact ⟨rfl, rfl⟩))
    (fun os started H enc _ F => by rw [OpenClaim.pre_eq_preRow]; exact lifted os started H enc F)
theorem card : Rows.TopSoldUptoCardSaid :=
  Claim7.holds_tied_plain_at .later [] [.data, .data, .data] true (true, "29fac21720595ecce9b0e70568786544807599a2bb5d64ffe0159786982ad24c") false over (fun _ h => by cases h) (by kernel_rfl) (fun _ h => by cases h) topSoldUpto_row_tie rfl ⟨rfl, rfl⟩ (by kernel_rfl) rfl
    (fun f fn hf hfn => by
      obtain rfl : f = 3 := Option.some.inj ((show Tryd.prog.funcNamed "lading/ladingtop.TopSold" = some 3 by kernel_rfl).symm.trans hf) |>.symm
      obtain rfl : fn = Tryd.f3 := (Option.some.inj (Tryd.func3.symm.trans hfn)).symm
      exact ⟨by kernel_rfl, fun j t ht => by
        rw [Tryd.params3] at ht
        have hm : t ∈ [22, 23, 3] := by simpa using Array.mem_of_getElem? ht
        have hall : ([22, 23, 3].all fun u => !Tryd.prog.wantsStandIn u) = true := by kernel_rfl
        exact (show Tryd.prog.wantsStandIn t = false by simpa using List.all_eq_true.1 hall t hm)⟩)
    (by kernel_rfl)
#print axioms card
end Go.Proofs.YtdiopojnkjkgmaaDoor.topSoldUpto
namespace Go.Proofs.YtdiopojnkjkgmaaDoor
theorem topSoldUpto_holds : Rows.TopSoldUptoCardSaid := topSoldUpto.card
end Go.Proofs.YtdiopojnkjkgmaaDoor
