-- What the claim uses alone (wip/slim.py). Lean checks it.
import Derived.Test.YtcbgichkeecgiaaDoorZAb
import Derived.Test.YtcbgichkeecgiaaDoorZAln
import Derived.Test.YtcbgichkeecgiaaDoorZPrint23
namespace Go.Proofs.YtcbgichkeecgiaaDoor.Print
open Go.RowKit Go.Proofs.YtcbgichkeecgiaaDoorW.PrintWords Go.Proofs.YtcbgichkeecgiaaDoorW.PrintLast Go.Proofs.YtcbgichkeecgiaaDoorW.PrintMore
attribute [local go_sem] max2_mx min2_mn max_two min_two max_three min_three max_four min_four
set_option linter.unusedVariables false
set_option linter.unusedSimpArgs false
def ladingref06_kid.f (k : Nat) (l0 : List Int) : Option (Int × List Int × Bool) := (ladingref03_ReadNum.f k l0).bind fun bt365 => (if bt365.2.2 = 0 then (some (wrap64 (Int.tmod bt365.1 4096), bt365.2.1, decide (bt365.1 ≤ 1023))) else (some (wrap64 (Int.tmod bt365.1 4096), bt365.2.1, false)))
set_option maxHeartbeats 8000000 in
set_option maxRecDepth 100000 in
theorem ladingref06_kid.calls (k : Nat) (A0 : Option Addr) (c0 : Nat) (l0 : List Int) (r1 : Int) (r2 : List Int) (r3 : Bool) (w : World) (hr0 : Kd.C (Kd.int .u8) w A0 l0.length l0) (hc0 : l0.length ≤ c0) (h : ladingref06_kid.f k l0 = some (r1, r2, r3)) :
  Calls Tryd.prog 51 #[.slice A0 l0.length c0] w fun e w' => ∃ v1_ : Value, e = .returned (.tuple #[.int .i64 r1, v1_, .bool r3]) ∧ Kd.R (Kd.int .u8) 5 w' w.heap.size (fun _ => True) v1_ r2 ∧ Below w.heap.size w w' := by
 have HR0 := Aside0.mk hr0
 have HC0 := Aside0.mk hc0
 clear hr0 hc0
 have HB := Aside0.mk (Below.refl w.heap.size w)
 have H : ((ladingref03_ReadNum.f k l0).bind fun bt365 => (if bt365.2.2 = 0 then (some (wrap64 (Int.tmod bt365.1 4096), bt365.2.1, decide (bt365.1 ≤ 1023))) else (some (wrap64 (Int.tmod bt365.1 4096), bt365.2.1, false)))) = some (r1, r2, r3) := h
 clear h
 obtain ⟨⟨t365, t366, t367⟩, A2, H⟩ := zm H
 (try dsimp only at H)
 by_cases c3 : t367 = 0
 ·rw [if_pos c3] at H
  obtain ⟨c3b0, c3b1⟩ := zq1 c3
  clear c3
  simp only [Option.some.injEq, Prod.mk.injEq] at H
  obtain ⟨rfl, rfl, rfl⟩ := H
  go_enter Tryd.func51, Tryd.ntmps51
  go_wp2_with (first | ((with_reducible refine gate_callee (f := 50) rfl ?_); refine goesL_ (some 10) rfl rfl Tryd.func50 (by kernel_rfl) rfl #[.slice A0 l0.length c0] rfl zl_ ?_; (with_reducible refine (ladingref03_ReadNum.calls k _ _ l0 t365 t366 t367 _ ?side1 ?side2 A2.out).mono ?_); (case side1 => repeat (first | exact HR0.out | (with_reducible refine Kd.C_alloc ?_ _) | (with_reducible refine Kd.C_drewN ?_ _) | (with_reducible refine Kd.C_drew ?_))); (case side2 => exact HC0.out); rintro e w4 ⟨v368, rfl, ho0, hb⟩; refine ⟨_, rfl, ?_⟩; have HO369 := Aside0.mk (Kd.R_lower ho0 (below_size (zh0_ HB.out))); replace HB := Aside0.mk (below_step (zh0_ HB.out) hb); (try clear hb); (try clear ho0)))
  go_ret3
  exact ⟨_, by first | rfl | (simp [errW_none, errW_some] <;> rfl) | (simp [*, errW_none, errW_some] <;> rfl), by (with_reducible repeat (first | apply Kd.R_alloc | apply Kd.R_drewN | apply Kd.R_drew)); exact HO369.out, by exact zh0_ HB.out⟩
 ·rw [if_neg c3] at H
  obtain ⟨c3b0, c3b1⟩ := zq0 c3
  simp only [Option.some.injEq, Prod.mk.injEq] at H
  obtain ⟨rfl, rfl, rfl⟩ := H
  go_enter Tryd.func51, Tryd.ntmps51
  go_wp2_with (first | ((with_reducible refine gate_callee (f := 50) rfl ?_); refine goesL_ (some 10) rfl rfl Tryd.func50 (by kernel_rfl) rfl #[.slice A0 l0.length c0] rfl zl_ ?_; (with_reducible refine (ladingref03_ReadNum.calls k _ _ l0 t365 t366 t367 _ ?side1 ?side2 A2.out).mono ?_); (case side1 => repeat (first | exact HR0.out | (with_reducible refine Kd.C_alloc ?_ _) | (with_reducible refine Kd.C_drewN ?_ _) | (with_reducible refine Kd.C_drew ?_))); (case side2 => exact HC0.out); rintro e w5 ⟨v368, rfl, ho0, hb⟩; refine ⟨_, rfl, ?_⟩; have HO369 := Aside0.mk (Kd.R_lower ho0 (below_size (zh0_ HB.out))); replace HB := Aside0.mk (below_step (zh0_ HB.out) hb); (try clear hb); (try clear ho0)))
  go_ret3
  exact ⟨_, by first | rfl | (simp [errW_none, errW_some] <;> rfl) | (simp [*, errW_none, errW_some] <;> rfl), by (with_reducible repeat (first | apply Kd.R_alloc | apply Kd.R_drewN | apply Kd.R_drew)); exact HO369.out, by exact zh0_ HB.out⟩
theorem ladingref06_entry.cutF {P : Program} {w : World} {ok : Nat → Prop} (t : TypeId) {i : TypeInfo} (ht : P.underlying t = some (.slice 5)) (hi : P.info? 5 = some i) (hsz : i.size = 1) (kl : IntKind) {A : Option Addr} {c : Nat} {xs : List Int} (n : Int) (h0 : 0 ≤ n) (hm : n ≤ xs.length) (hc : xs.length ≤ c) (hF : Kd.F (Kd.int .u8) w ok A xs.length xs) :
  ∃ A2, (∀ W : World, (Instr.slice t (.slice A xs.length c) (some (.int kl n)) none none).run P W = .ok (.slice A2 (xs.drop n.toNat).length (c - n.toNat)) W) ∧ Kd.F (Kd.int .u8) w ok A2 (xs.drop n.toNat).length (xs.drop n.toNat) ∧ (xs.drop n.toNat).length ≤ c - n.toNat :=
 ⟨_, fun W => (cut_from t 5 kl ht hi 1 hsz A xs.length c n h0 hm W).trans (by rw [List.length_drop]; rfl), Kd.F_cut hF (by omega) hc, by rw [List.length_drop]; omega⟩
theorem ladingref06_entry.takeF {P : Program} {w : World} {ok : Nat → Prop} (t : TypeId) {i : TypeInfo} (ht : P.underlying t = some (.slice 5)) (hi : P.info? 5 = some i) (kl : IntKind) {A : Option Addr} {c : Nat} {xs : List Int} (n : Int) (h0 : 0 ≤ n) (hm : n ≤ xs.length) (hc : xs.length ≤ c) (hF : Kd.F (Kd.int .u8) w ok A xs.length xs) :
  (∀ W : World, (Instr.slice t (.slice A xs.length c) none (some (.int kl n)) none).run P W = .ok (.slice A (xs.take n.toNat).length c) W) ∧ Kd.F (Kd.int .u8) w ok A (xs.take n.toNat).length (xs.take n.toNat) ∧ (xs.take n.toNat).length ≤ c :=
 ⟨fun W => (cut_to t 5 kl ht hi A xs.length c n h0 hm hc W).trans (by rw [List.length_take, Nat.min_eq_left (by omega)]), Kd.F_take hF (by omega), by rw [List.length_take]; omega⟩
def ladingref06_entry.f (k : Nat) (l0 : List Int) (a1 : Int) : Option (List Int × List Int × Bool) :=
 (ladingref03_ReadNum.f k l0).bind fun t => if t.2.2 = 0 then (if t.1 > IntKind.u64.wrap a1 then some ([], [], false) else if t.1 > IntKind.u64.wrap (t.2.1.length : Int) then some ([], [], false) else if 0 ≤ t.1 ∧ t.1 ≤ (t.2.1.length : Int) then some (t.2.1.take t.1.toNat, t.2.1.drop t.1.toNat, true) else none) else some ([], [], false)
set_option maxHeartbeats 4000000 in
set_option maxRecDepth 100000 in
theorem ladingref06_entry.calls (k : Nat) (A0 : Option Addr) (c0 : Nat) (l0 : List Int) (a1 : Int) (r1 r2 : List Int) (r3 : Bool) (w : World) (hr0 : Kd.C (Kd.int .u8) w A0 l0.length l0) (hc0 : l0.length ≤ c0) (h : ladingref06_entry.f k l0 a1 = some (r1, r2, r3)) :
  Calls Tryd.prog 52 #[.slice A0 l0.length c0, .int .i64 a1] w fun e w' => ∃ v0_ v1_ : Value, e = .returned (.tuple #[v0_, v1_, .bool r3]) ∧ Kd.V (Kd.int .u8) 5 w' w.heap.size (fun k_ => (w.heap.size ≤ k_)) v0_ r1 ∧ Kd.V (Kd.int .u8) 5 w' w.heap.size (fun k_ => (w.heap.size ≤ k_)) v1_ r2 ∧ Below w.heap.size w w' := by
 unfold ladingref06_entry.f at h
 replace h := Option.bind_eq_some_iff.mp h
 obtain ⟨⟨n, rest, why⟩, hn, h⟩ := h
 simp only at h
 have HN := Aside0.mk hn
 have HH := Aside0.mk h
 have R0 := Aside0.mk hr0
 have C0 := Aside0.mk hc0
 clear hr0 hc0 hn h
 go_enter Tryd.func52, Tryd.ntmps52
 go_wp2_with fail
 refine (ladingref03_ReadNum.calls k _ _ l0 n rest why _ R0.out C0.out HN.out).mono ?_
 rintro e w1 ⟨v1, rfl, hR, hb⟩
 obtain ⟨Ar, cr, rfl⟩ := Kd.R_slice hR
 have RR : Aside0 (Kd.F (Kd.int .u8) w1 (fun k => w.heap.size ≤ k) Ar rest.length rest) := ⟨Kd.F_mono (Kd.R_F (Kd.R_bound hR)) (fun k hk => hk.2.1)⟩
 have CR := Aside0.mk (Kd.R_reads' hR).2.1
 have HB := Aside0.mk hb
 clear hR hb
 have H := HH.out
 clear HH
 by_cases hw : why = 0
 ·rw [if_pos hw] at H
  have za : (why == 0) = true := beq_iff_eq.mpr hw
  have zb : (why != 0) = false := bne_eq_false_iff_eq.mpr hw
  clear hw
  by_cases h1 : n > IntKind.u64.wrap a1
  ·rw [if_pos h1] at H
   have y1 : decide (n > IntKind.u64.wrap a1) = true := decide_eq_true h1
   have y2 : decide (IntKind.u64.wrap a1 < n) = true := decide_eq_true h1
   clear h1
   simp only [Option.some.injEq, Prod.mk.injEq] at H
   obtain ⟨rfl, rfl, rfl⟩ := H
   (try go_wp2_with fail)
   repeat (go_quiet (fail); try go_wp2_with fail)
   (try go_wp2)
   go_ret3
   exact ⟨_, _, rfl, Kd.V_nil _ _ _ _ _, Kd.V_nil _ _ _ _ _, (by first | exact HB.out | exact pw_below_drewN HB.out _)⟩
  ·rw [if_neg h1] at H
   have y1 : decide (n > IntKind.u64.wrap a1) = false := decide_eq_false h1
   have y2 : decide (IntKind.u64.wrap a1 < n) = false := decide_eq_false h1
   clear h1
   by_cases h2 : n > IntKind.u64.wrap (rest.length : Int)
   ·rw [if_pos h2] at H
    have x1 : decide (n > IntKind.u64.wrap (rest.length : Int)) = true := decide_eq_true h2
    have x2 : decide (IntKind.u64.wrap (rest.length : Int) < n) = true := decide_eq_true h2
    clear h2
    simp only [Option.some.injEq, Prod.mk.injEq] at H
    obtain ⟨rfl, rfl, rfl⟩ := H
    (try go_wp2_with fail)
    repeat (go_quiet (fail); try go_wp2_with fail)
    (try go_wp2)
    go_ret3
    exact ⟨_, _, rfl, Kd.V_nil _ _ _ _ _, Kd.V_nil _ _ _ _ _, (by first | exact HB.out | exact pw_below_drewN HB.out _)⟩
   ·rw [if_neg h2] at H
    have x1 : decide (n > IntKind.u64.wrap (rest.length : Int)) = false := decide_eq_false h2
    have x2 : decide (IntKind.u64.wrap (rest.length : Int) < n) = false := decide_eq_false h2
    clear h2
    by_cases h3 : 0 ≤ n ∧ n ≤ (rest.length : Int)
    rotate_left
    ·rw [if_neg h3] at H; cases H
    rw [if_pos h3] at H
    simp only [Option.some.injEq, Prod.mk.injEq] at H
    obtain ⟨hx_, hy_, rfl⟩ := H
    obtain ⟨i0, hi0, _, hsz0, _⟩ := info_parts info5
    obtain ⟨hcut1, hF1, hL1⟩ := ladingref06_entry.takeF 26 Tryd.underlying26 hi0 .u64 n h3.1 h3.2 CR.out RR.out
    obtain ⟨A2, hcut2, hF2, hL2⟩ := ladingref06_entry.cutF 26 Tryd.underlying26 hi0 hsz0 .u64 n h3.1 h3.2 CR.out RR.out
    have V1 : Aside0 (Kd.V (Kd.int .u8) 5 w1 w.heap.size (fun k_ => (w.heap.size ≤ k_)) (.slice Ar (rest.take n.toNat).length cr) (rest.take n.toNat)) := ⟨Kd.V_mk hL1 hF1⟩
    have V2 : Aside0 (Kd.V (Kd.int .u8) 5 w1 w.heap.size (fun k_ => (w.heap.size ≤ k_)) (.slice A2 (rest.drop n.toNat).length (cr - n.toNat)) (rest.drop n.toNat)) := ⟨Kd.V_mk hL2 hF2⟩
    clear hF1 hL1 hF2 hL2 hi0 hsz0 h3 RR CR
    rw [hx_] at V1 hcut1
    rw [hy_] at V2 hcut2
    clear hx_ hy_
    (try go_wp2_with fail)
    repeat (go_quiet (fail); try go_wp2_with fail)
    (try go_wp2)
    go_ret3
    exact ⟨_, _, rfl, (by first | exact V1.out | exact Kd.V_drewN V1.out _), (by first | exact V2.out | exact Kd.V_drewN V2.out _), (by first | exact HB.out | exact pw_below_drewN HB.out _)⟩
 ·rw [if_neg hw] at H
  have za : (why == 0) = false := beq_eq_false_iff_ne.mpr hw
  have zb : (why != 0) = true := bne_iff_ne.mpr hw
  clear hw
  simp only [Option.some.injEq, Prod.mk.injEq] at H
  obtain ⟨rfl, rfl, rfl⟩ := H
  (try go_wp2_with fail)
  repeat (go_quiet (fail); try go_wp2_with fail)
  (try go_wp2)
  go_ret3
  exact ⟨_, _, rfl, Kd.V_nil _ _ _ _ _, Kd.V_nil _ _ _ _ _, (by first | exact HB.out | exact pw_below_drewN HB.out _)⟩
end Go.Proofs.YtcbgichkeecgiaaDoor.Print
