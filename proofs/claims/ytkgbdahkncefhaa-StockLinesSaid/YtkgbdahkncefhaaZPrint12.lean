-- A claim's text with what it uses alone (wip/slim.py, over what the kit's print and this session's tools wrote). Not trusted: Lean checks it.
import Derived.Test.YtkgbdahkncefhaaZPrint0
import Derived.Test.YtkgbdahkncefhaaZPrint9
import Derived.Test.YtkgbdahkncefhaaZPrint10
namespace Go.Proofs.Ytkgbdahkncefhaa.Print
open Go.RowKit Go.Proofs.YtkgbdahkncefhaaW.PrintWords Go.Proofs.YtkgbdahkncefhaaW.PrintLast Go.Proofs.YtkgbdahkncefhaaW.PrintMore
attribute [local go_sem] max2_mx min2_mn max_two min_two max_three min_three max_four min_four
set_option linter.unusedVariables false
set_option linter.unusedSimpArgs false
def stock_Release.f (k : Nat) (l0 : List (S33)) (a1 : Int) (a2 : Int) (a3 : Int) : Option ((List (S33)) × Int) := stock_moved.f k l0 a1 a2 a3 (26, a3)
theorem stock_Release.mono : ∀ a0 a1 a2 a3 k, LeO (stock_Release.f k a0 a1 a2 a3) (stock_Release.f (k + 1) a0 a1 a2 a3) := fun _ _ _ _ k => stock_moved.mono _ _ _ _ _ k
set_option maxHeartbeats 4000000 in
set_option maxRecDepth 100000 in
theorem stock_Release.calls (k : Nat) (A0 : Option Addr) (c0 : Nat) (l0 : List (S33)) (a1 : Int) (a2 : Int) (a3 : Int) (r1 : List (S33)) (r2 : Int) (w : World) (hr0 : Kd.C k33 w A0 l0.length l0) (hc0 : l0.length ≤ c0) (h : stock_Release.f k l0 a1 a2 a3 = some (r1, r2)) :
    Calls Try.prog 13 #[.slice A0 l0.length c0, .int .i64 a1, .int .i64 a2, .int .i64 a3] w fun e w' => ∃ v0_ : Value, e = .returned (.tuple #[v0_, .int .i64 r2]) ∧ Kd.R k33 33 w' w.heap.size (fun _ => True) v0_ r1 ∧ Below w.heap.size w w' := by
  have HR0 := Aside0.mk hr0
  have HC0 := Aside0.mk hc0
  have HH := Aside0.mk h
  clear hr0 hc0 h
  go_enter Try.func13, Try.ntmps13
  go_wp2_with (first | ((with_reducible refine gate_dst (N := 7) rfl ?_); refine box_event ?hg (N := 7) ?hd (cs := #[.int .i64 a3]) (t := 2) ?hr ?_; (case hd => rfl); (case hg => rfl); (case hr => first | (go_simp; done) | (go_simp; rfl)); intro gb hg w1 hbox hb; have BK := Aside0.mk hbox; have HB := Aside0.mk hb; have HG := Aside0.mk hg; have hx : w1.cell? ⟨gb, 0, none⟩ = some (.int .i64 a3) := (blk_cell hbox 0).trans rfl; clear hbox hb hg) | ((with_reducible refine gate_callee (f := 23) rfl ?_); refine goesL_ (some 15) rfl rfl Try.func23 (by kernel_rfl) rfl #[.slice A0 l0.length c0, .int .i64 a1, .int .i64 a2, .int .i64 a3, .func (.func (((26 : Int), a3) : Int × Int).1.toNat) #[] #[.pointer (some ⟨gb, 0, none⟩)]] rfl (by (try simp only [List.map_toArray, List.map_cons, List.map_nil]); first | done | rfl) ?_; refine (stock_moved.calls k _ _ l0 a1 a2 a3 gb (26, a3) r1 r2 _ (Kd.C_below HR0.out HB.out) HC0.out BK.out HH.out).mono ?_; rintro e w2 ⟨v0_, rfl, hR, hb2⟩; refine ⟨_, rfl, ?_⟩))
  go_ret2
  exact ⟨_, rfl, Kd.R_lower hR HB.out.size, below_step HB.out hb2⟩
def call_T26.f (k : Nat) (x : Int) (l0 : List (S33)) (a1 : Int) (a2 : Int) (a3 : Int) : Option ((List (S33)) × Int) := if x = 10 then (stock_Restock.f k l0 a1 a2 a3) else if x = 11 then (stock_Reserve.f k l0 a1 a2 a3) else if x = 13 then (stock_Release.f k l0 a1 a2 a3) else if x = 14 then (stock_Send.f k l0 a1 a2 a3) else if x = 15 then (stock_TakeBack.f k l0 a1 a2 a3) else none
theorem call_T26.mono : ∀ x l0 a1 a2 a3 k, LeO (call_T26.f k x l0 a1 a2 a3) (call_T26.f (k + 1) x l0 a1 a2 a3) := by
  intro x l0 a1 a2 a3 k
  unfold call_T26.f
  refine LeO.ite (stock_Restock.mono _ _ _ _ _) ?_
  refine LeO.ite (stock_Reserve.mono _ _ _ _ _) ?_
  refine LeO.ite (stock_Release.mono _ _ _ _ _) ?_
  refine LeO.ite (stock_Send.mono _ _ _ _ _) ?_
  refine LeO.ite (stock_TakeBack.mono _ _ _ _ _) ?_
  exact LeO.none _
theorem call_T26.ok {k : Nat} {x : Int} {l0 : List (S33)} {a1 : Int} {a2 : Int} {a3 : Int} {r} (h : call_T26.f k x l0 a1 a2 a3 = some r) : FnOk Try.prog x := by
  unfold call_T26.f at h
  by_cases h10 : x = 10
  · subst h10; exact ⟨by decide, _, Try.func10, by kernel_rfl, by kernel_rfl⟩
  rw [if_neg h10] at h
  by_cases h11 : x = 11
  · subst h11; exact ⟨by decide, _, Try.func11, by kernel_rfl, by kernel_rfl⟩
  rw [if_neg h11] at h
  by_cases h13 : x = 13
  · subst h13; exact ⟨by decide, _, Try.func13, by kernel_rfl, by kernel_rfl⟩
  rw [if_neg h13] at h
  by_cases h14 : x = 14
  · subst h14; exact ⟨by decide, _, Try.func14, by kernel_rfl, by kernel_rfl⟩
  rw [if_neg h14] at h
  by_cases h15 : x = 15
  · subst h15; exact ⟨by decide, _, Try.func15, by kernel_rfl, by kernel_rfl⟩
  rw [if_neg h15] at h
  cases h
theorem call_T26.calls (k : Nat) (x : Int) (A0 : Option Addr) (c0 : Nat) (l0 : List (S33)) (a1 : Int) (a2 : Int) (a3 : Int) (r1 : List (S33)) (r2 : Int) (w : World) (hr0 : Kd.C k33 w A0 l0.length l0) (hc0 : l0.length ≤ c0) (h : call_T26.f k x l0 a1 a2 a3 = some (r1, r2)) :
    Calls Try.prog x.toNat #[.slice A0 l0.length c0, .int .i64 a1, .int .i64 a2, .int .i64 a3] w fun e w' => ∃ v0_ : Value, e = .returned (.tuple #[v0_, .int .i64 r2]) ∧ Kd.R k33 33 w' w.heap.size (fun _ => True) v0_ r1 ∧ Below w.heap.size w w' := by
  unfold call_T26.f at h
  by_cases h10 : x = 10
  · subst h10
    rw [if_pos rfl] at h
    exact stock_Restock.calls k A0 c0 l0 a1 a2 a3 r1 r2 w hr0 hc0 h
  rw [if_neg h10] at h
  by_cases h11 : x = 11
  · subst h11
    rw [if_pos rfl] at h
    exact stock_Reserve.calls k A0 c0 l0 a1 a2 a3 r1 r2 w hr0 hc0 h
  rw [if_neg h11] at h
  by_cases h13 : x = 13
  · subst h13
    rw [if_pos rfl] at h
    exact stock_Release.calls k A0 c0 l0 a1 a2 a3 r1 r2 w hr0 hc0 h
  rw [if_neg h13] at h
  by_cases h14 : x = 14
  · subst h14
    rw [if_pos rfl] at h
    exact stock_Send.calls k A0 c0 l0 a1 a2 a3 r1 r2 w hr0 hc0 h
  rw [if_neg h14] at h
  by_cases h15 : x = 15
  · subst h15
    rw [if_pos rfl] at h
    exact stock_TakeBack.calls k A0 c0 l0 a1 a2 a3 r1 r2 w hr0 hc0 h
  rw [if_neg h15] at h
  cases h
theorem binEql_T26 {w : World} (x : Int) : (binOp .eql 26 (encFn x) .nilFunc).run Try.prog w = .ok (.bool (decide (x < 0))) w := binEql_fn Try.underlying26 x
theorem binNeq_T26 {w : World} (x : Int) : (binOp .neq 26 (encFn x) .nilFunc).run Try.prog w = .ok (.bool (!decide (x < 0))) w := binNeq_fn Try.underlying26 x
end Go.Proofs.Ytkgbdahkncefhaa.Print
