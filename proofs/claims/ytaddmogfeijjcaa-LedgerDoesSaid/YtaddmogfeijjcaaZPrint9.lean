-- What the claim uses alone (wip/slim.py). Lean checks it.
import Derived.Test.YtaddmogfeijjcaaZAb
import Derived.Test.YtaddmogfeijjcaaZPrint0
import Derived.Test.YtaddmogfeijjcaaZPrint5
import Derived.Test.YtaddmogfeijjcaaZPrint6
import Derived.Test.YtaddmogfeijjcaaZPrint7
import Derived.Test.YtaddmogfeijjcaaZPrint8
import Derived.Test.YtaddmogfeijjcaaZPrint13
namespace Go.Proofs.Ytaddmogfeijjcaa.Print
open Go.RowKit Go.Proofs.YtaddmogfeijjcaaW.PrintWords Go.Proofs.YtaddmogfeijjcaaW.PrintLast Go.Proofs.YtaddmogfeijjcaaW.PrintMore
attribute [local go_sem] max2_mx min2_mn max_two min_two max_three min_three max_four min_four
set_option linter.unusedVariables false
set_option linter.unusedSimpArgs false
theorem ledger_open.known_no {n : Int} (hn : ¬ (1 ≤ n ∧ n ≤ 1024)) : ledger_known.f n = some false := by
 unfold ledger_known.f
 by_cases h_ : n ≥ 1
 ·rw [if_pos h_, decide_eq_false (fun h => hn ⟨h_, h⟩)]
 ·rw [if_neg h_]
def opW (ps : List S31) (qs : List S55) (n : Int) : Int := if goodL ps qs = true then (if 1 ≤ n ∧ n ≤ 1024 then 0 else 2) else 9
def ledger_open.T2 : Bool × List (List Nat × List Nat) := (true, [([], []), ([], []), ([], []), ([2], [2]), ([3], [3]), ([], []), ([5], [5]), ([6, 4], [6]), ([0, 0, 2, 3, 4, 7], [0]), ([8, 0, 2, 3, 4, 7], [8]), ([9, 0, 2, 3, 4, 7], [9]), ([10, 4, 7, 0, 2, 3, 4, 7], [4, 10]), ([1, 0, 1, 2, 3, 4, 5, 6, 7, 8, 9, 10, 11], [1]), ([12, 0, 1, 2, 3, 4, 5, 6, 7, 8, 9, 10, 11], [12]), ([13, 0, 1, 2, 3, 4, 5, 6, 7, 8, 9, 10, 11], [13]), ([14, 7, 11, 0, 1, 2, 3, 4, 5, 6, 7, 8, 9, 10, 11], [7, 14])])
def ledger_open.B2 : List Nat := [0, 0, 0, 4, 12, 0, 32, 124, 253, 509, 1021, 2045, 4095, 8191, 16383, 32767]
theorem ledger_open.tab2 : rtab .any (opsOf Try.f26 2) = ledger_open.T2 := by kernel_rfl
theorem ledger_open.bits2 : waitsOk ledger_open.T2.2 ledger_open.B2 = true := by kernel_rfl
set_option maxHeartbeats 4000000 in
set_option maxRecDepth 100000 in
theorem ledger_open.row (A0_0 : Option Addr) (c0_0 : Nat) (l0_0 : List (S31)) (A0_1 : Option Addr) (c0_1 : Nat) (l0_1 : List (S55)) (n : Int) (w : World) (hr0_0 : Kd.C k31 w A0_0 l0_0.length l0_0) (hc0_0 : l0_0.length ≤ c0_0) (hr0_1 : Kd.C k55 w A0_1 l0_1.length l0_1) (hc0_1 : l0_1.length ≤ c0_1) (h1 : l0_0.length * 32 ≤ 140737488355328) (h2 : l0_1.length * 24 ≤ 140737488355328) :
  Calls Try.prog 26 #[.agg #[.slice A0_0 l0_0.length c0_0, .slice A0_1 l0_1.length c0_1], .int .i64 n] w fun e w' => ∃ (g : Nat) (vp vq : Value), e = .returned (.pointer (some ⟨g, 0, none⟩)) ∧ Bk w w' g vp vq l0_0 l0_1 (opW l0_0 l0_1 n) := by
 have hu25 := Try.underlying25
 have hu58 := Try.underlying58
 have HR0 := Aside0.mk hr0_0
 have HC0 := Aside0.mk hc0_0
 have HR1 := Aside0.mk hr0_1
 have HC1 := Aside0.mk hc0_1
 have CL0 : Aside0 (api_Pay_47.f l0_0 = some l0_0) := ⟨if_pos h1⟩
 have CL1 : Aside0 (api_Posting.f l0_1 = some l0_1) := ⟨if_pos h2⟩
 clear hr0_0 hc0_0 hr0_1 hc0_1 h1 h2
 obtain ⟨c, hc⟩ : ∃ c : Int, c = if goodL l0_0 l0_1 = true then 0 else 9 := ⟨_, rfl⟩
 have CH : Aside0 (ledger_Check.f l0_0 l0_1 = some c) := ⟨by rw [hc]; rfl⟩
 have HCV := Aside0.mk hc
 clear hc
 go_enter Try.func26, Try.ntmps26
 go_wp2_with (first | ((with_reducible refine gate_dst (N := 2) rfl ?_); refine box_event ?hg (N := 2) ?hd (cs := #[.slice A0_0 l0_0.length c0_0, .slice A0_1 l0_1.length c0_1]) (t := 25) ?hr ?_; (case hd => rfl); (case hg => rfl); (case hr => first | (go_simp; done) | (go_simp; rfl)); intro gb hgb w1 hbox hb; have BB := Aside0.mk hbox; have HB := Aside0.mk hb; have GB : Aside0 (w.heap.size ≤ gb) := ⟨by rw [hgb]; exact Nat.le_refl _⟩; have hb0 := (blk_cell hbox 0).trans rfl; have hb1 := (blk_cell hbox 1).trans rfl; clear hbox hb hgb))
 refine (ledger_Check.calls A0_0 c0_0 l0_0 A0_1 c0_1 l0_1 c _ (Kd.C_below HR0.out HB.out) HC0.out (Kd.C_below HR1.out HB.out) HC1.out CH.out).mono ?_
 rintro e w2 ⟨rfl, hb2⟩
 have BB2 := Aside0.mk (blk_below BB.out hb2)
 have HB2 := Aside0.mk (below_step HB.out hb2)
 clear hb0 hb1 hb2 BB HB CH
 go_upto_region 2 with (first | ((with_reducible refine gate_dst (N := 9) rfl ?_); refine box_event ?hg (N := 9) ?hd (cs := #[.slice none 0 0, .slice none 0 0, .int .i64 c]) (t := 58) ?hr ?_; (case hd => rfl); (case hg => rfl); (case hr => first | (go_simp; done) | (go_simp; rfl)); intro g hg w3 hbox hb; have BG := Aside0.mk hbox; have BB := Aside0.mk (blk_below BB2.out hb); have HB := Aside0.mk (below_step HB2.out hb); have GG : Aside0 (w.heap.size ≤ g) := ⟨by rw [hg]; exact HB2.out.size⟩; clear hbox hb hg BB2 HB2))
 go_cut [] (fun wc => ∃ vp vq : Value, Aside0 (Bk w wc g vp vq l0_0 l0_1 c))
 case first =>
  have nB := Aside0.mk (blk_drew BB.out)
  have nG := Aside0.mk (blk_drew BG.out)
  have nH := Aside0.mk (below_drew1 HB.out)
  clear BB BG HB
  have BB := nB
  have BG := nG
  have HB := nH
  clear nB nG nH
  refine start_ (n := 16) (S := fun w' => w'.cell? ⟨gb, 0, none⟩ = some (.slice A0_0 l0_0.length c0_0) ∧ w'.cell? ⟨gb, 1, none⟩ = some (.slice A0_1 l0_1.length c0_1)) (ds := [15]) (zB 0 16) (by kernel_rfl) rfl rfl ⟨((blk_cell BB.out 0).trans rfl), ((blk_cell BB.out 1).trans rfl)⟩ (fun hHeld => ?_)
  refine with_tabW ledger_open.tab2 ledger_open.bits2 (fun HT_ HW_ => ?_)
  refine pure_ (i := 0) (N := some 10) (v := ?_) (a' := ?_) (zB 1 15) rfl rfl (any_of HT_.out (by kernel_rfl)) (fun _ _ _ h => h) (Or.inl ⟨by rfl, ?_⟩) ?_ ?_
  rotate_left
  ·intro w'
   go_simp
   with_reducible rfl
  rotate_left
  ·simp only [Act.put, zt0, zt1, zt2, i64_w, i32_w]
   rfl
  refine pure_ (i := 1) (N := some 11) (v := ?_) (a' := ?_) (zB 2 14) rfl rfl (any_of HT_.out (by kernel_rfl)) (fun _ _ _ h => h) (Or.inl ⟨by rfl, ?_⟩) ?_ ?_
  rotate_left
  ·intro w'
   go_simp
   with_reducible rfl
  rotate_left
  ·simp only [Act.put, zt0, zt1, zt2, i64_w, i32_w]
   rfl
  refine pure_ (i := 2) (N := some 12) (v := ?_) (a' := ?_) (zB 3 13) rfl rfl (any_of HT_.out (by kernel_rfl)) (fun _ _ _ h => h) (Or.inl ⟨by rfl, ?_⟩) ?_ ?_
  rotate_left
  ·intro w'
   go_simp
   with_reducible rfl
  rotate_left
  ·simp only [Act.put, zt0, zt1, zt2, i64_w, i32_w]
   rfl
  refine pure_ (i := 5) (N := some 15) (v := ?_) (a' := ?_) #[true, true, true, false, false, true, false, false, false, false, false, false, false, false, false, false] rfl rfl (any_of HT_.out (by kernel_rfl)) (fun _ _ _ h => h) (Or.inl ⟨by rfl, ?_⟩) ?_ ?_
  rotate_left
  ·intro w'
   go_simp
   with_reducible rfl
  rotate_left
  ·simp only [Act.put, zt0, zt1, zt2, i64_w, i32_w]
   rfl
  refine take_ (i := 3) (N := some 13) (v := ?_) (a' := ?_) #[true, true, true, true, false, true, false, false, false, false, false, false, false, false, false, false] rfl rfl (take_ofW HT_.out HW_.out (by kernel_rfl)) (fun _ _ _ h => h) (Or.inl ⟨by rfl, ?_⟩) hHeld ?_ ?_
  rotate_left
  ·rintro w' ⟨s0, s1⟩
   go_simp
   with_reducible rfl
  rotate_left
  ·simp only [Act.put, zt0, zt1, zt2, i64_w, i32_w]
   rfl
  refine take_ (i := 6) (N := some 16) (v := ?_) (a' := ?_) #[true, true, true, true, false, true, true, false, false, false, false, false, false, false, false, false] rfl rfl (take_ofW HT_.out HW_.out (by kernel_rfl)) (fun _ _ _ h => h) (Or.inl ⟨by rfl, ?_⟩) hHeld ?_ ?_
  rotate_left
  ·rintro w' ⟨s0, s1⟩
   go_simp
   with_reducible rfl
  rotate_left
  ·simp only [Act.put, zt0, zt1, zt2, i64_w, i32_w]
   rfl
  refine one_ (i := 4) (N := some 14) (zB 7 9) rfl rfl (one_of HT_.out (by kernel_rfl)) (by decide) (fun K hK => ?_)
  refine goes_ Try.func47 (by kernel_rfl) rfl #[.slice A0_0 l0_0.length c0_0] (by rfl) rfl rfl zl_ ?_
  with_reducible refine (api_Pay_47.calls A0_0 c0_0 l0_0 l0_0 _ (Kd.C_below HR0.out HB.out) HC0.out CL0.out).mono ?_
  rintro e w7 ⟨v_, rfl, ho, hb⟩
  obtain ⟨AP, cP, rfl⟩ := Kd.R_slice ho
  have nB := Aside0.mk (blk_below BB.out hb)
  have nG := Aside0.mk (blk_below BG.out hb)
  have nR := Aside0.mk (Kd.R_lower ho HB.out.size)
  have nH := Aside0.mk (below_step HB.out hb)
  clear BB BG HB ho hb
  have BB := nB
  have BG := nG
  have HB := nH
  have RP := nR
  clear nB nG nH nR
  refine ⟨_, rfl, ?_⟩
  refine hK.out _ _ ⟨((blk_cell BB.out 0).trans rfl), ((blk_cell BB.out 1).trans rfl)⟩ (fun hHeld => ?_)
  clear hK K
  refine norm_ (a' := ?_) ?_ ?_
  rotate_left
  ·show Act.put _ (some 14) _ = _
   simp only [Act.put, zt0, zt1, zt2, i64_w, i32_w]
   rfl
  refine one_ (i := 7) (N := some 17) (zB 8 8) rfl rfl (one_of HT_.out (by kernel_rfl)) (by decide) (fun K hK => ?_)
  refine goes_ Try.func48 (by kernel_rfl) rfl #[.slice A0_1 l0_1.length c0_1] (by rfl) rfl rfl zl_ ?_
  with_reducible refine (api_Posting.calls A0_1 c0_1 l0_1 l0_1 _ (Kd.C_below HR1.out HB.out) HC1.out CL1.out).mono ?_
  rintro e w7 ⟨v_, rfl, ho, hb⟩
  obtain ⟨AQ, cQ, rfl⟩ := Kd.R_slice ho
  have nB := Aside0.mk (blk_below BB.out hb)
  have nG := Aside0.mk (blk_below BG.out hb)
  have nR := Aside0.mk (Kd.R_lower ho HB.out.size)
  have nP := Aside0.mk (Kd.R_below RP.out hb)
  have nH := Aside0.mk (below_step HB.out hb)
  clear BB BG HB ho hb RP
  have BB := nB
  have BG := nG
  have HB := nH
  have RQ := nR
  have RP := nP
  clear nP
  clear nB nG nH nR
  refine ⟨_, rfl, ?_⟩
  refine hK.out _ _ ⟨((blk_cell BB.out 0).trans rfl), ((blk_cell BB.out 1).trans rfl)⟩ (fun hHeld => ?_)
  clear hK K
  refine norm_ (a' := ?_) ?_ ?_
  rotate_left
  ·show Act.put _ (some 17) _ = _
   simp only [Act.put, zt0, zt1, zt2, i64_w, i32_w]
   rfl
  refine pure_ (i := 8) (N := some 18) (v := ?_) (a' := ?_) (zB 9 7) rfl rfl (any_of HT_.out (by kernel_rfl)) (fun _ _ _ h => h) (Or.inl ⟨by rfl, ?_⟩) ?_ ?_
  rotate_left
  ·intro w'
   go_simp
   with_reducible rfl
  rotate_left
  ·simp only [Act.put, zt0, zt1, zt2, i64_w, i32_w]
   rfl
  refine pure_ (i := 9) (N := some 19) (v := ?_) (a' := ?_) (zB 10 6) rfl rfl (any_of HT_.out (by kernel_rfl)) (fun _ _ _ h => h) (Or.inl ⟨by rfl, ?_⟩) ?_ ?_
  rotate_left
  ·intro w'
   go_simp
   with_reducible rfl
  rotate_left
  ·simp only [Act.put, zt0, zt1, zt2, i64_w, i32_w]
   rfl
  refine pure_ (i := 10) (N := some 20) (v := ?_) (a' := ?_) (zB 11 5) rfl rfl (any_of HT_.out (by kernel_rfl)) (fun _ _ _ h => h) (Or.inl ⟨by rfl, ?_⟩) ?_ ?_
  rotate_left
  ·intro w'
   go_simp
   with_reducible rfl
  rotate_left
  ·simp only [Act.put, zt0, zt1, zt2, i64_w, i32_w]
   rfl
  refine one_ (i := 11) (N := none) (zB 12 4) rfl rfl (one_of HT_.out (by kernel_rfl)) (by decide) (fun K hK => ?_)
  have hg0 := (blk_cell BG.out 0).trans rfl
  have hf0 := blk_frozen BG.out 0
  refine skip_ (w1 := ?_) (by rfl) rfl ?_ ?_
  rotate_left
  ·go_simp
   rfl
  have BG2 := Aside0.mk (blk_put (cs' := #[.slice AP l0_0.length cP, .slice none 0 0, .int .i64 c]) BG.out 0 (.slice AP l0_0.length cP) rfl)
  have BB2 := Aside0.mk (blk_far BB.out (blk_ne BB.out BG.out (by decide)) (p := ⟨g, 0, none⟩) (.slice AP l0_0.length cP))
  have RP2 := Aside0.mk (Kd.R_set RP.out BG.out (by decide) 0 (.slice AP l0_0.length cP))
  have RQ2 := Aside0.mk (Kd.R_set RQ.out BG.out (by decide) 0 (.slice AP l0_0.length cP))
  have HB2 := Aside0.mk (below_set (j := 0) (v := .slice AP l0_0.length cP) HB.out GG.out)
  refine hK.out _ _ ⟨((blk_cell BB2.out 0).trans rfl), ((blk_cell BB2.out 1).trans rfl)⟩ (fun hHeld => ?_)
  clear hK K
  refine pure_ (i := 12) (N := some 21) (v := ?_) (a' := ?_) (zB 13 3) rfl rfl (any_of HT_.out (by kernel_rfl)) (fun _ _ _ h => h) (Or.inl ⟨by rfl, ?_⟩) ?_ ?_
  rotate_left
  ·intro w'
   go_simp
   with_reducible rfl
  rotate_left
  ·simp only [Act.put, zt0, zt1, zt2, i64_w, i32_w]
   rfl
  refine pure_ (i := 13) (N := some 22) (v := ?_) (a' := ?_) (zB 14 2) rfl rfl (any_of HT_.out (by kernel_rfl)) (fun _ _ _ h => h) (Or.inl ⟨by rfl, ?_⟩) ?_ ?_
  rotate_left
  ·intro w'
   go_simp
   with_reducible rfl
  rotate_left
  ·simp only [Act.put, zt0, zt1, zt2, i64_w, i32_w]
   rfl
  refine pure_ (i := 14) (N := some 23) (v := ?_) (a' := ?_) (zB 15 1) rfl rfl (any_of HT_.out (by kernel_rfl)) (fun _ _ _ h => h) (Or.inl ⟨by rfl, ?_⟩) ?_ ?_
  rotate_left
  ·intro w'
   go_simp
   with_reducible rfl
  rotate_left
  ·simp only [Act.put, zt0, zt1, zt2, i64_w, i32_w]
   rfl
  refine last_ (i := 15) (N := none) (zB 16 0) rfl rfl (one_of HT_.out (by kernel_rfl)) (by decide) (fun K hK => ?_)
  have hg1 := (blk_cell BG2.out 1).trans rfl
  have hf1 := blk_frozen BG2.out 1
  refine skip_ (w1 := ?_) (by rfl) rfl ?_ ?_
  rotate_left
  ·go_simp
   rfl
  refine hK.out _ _ ?_
  clear hK K
  refine done_ (done_of HT_.out (by kernel_rfl)) ?_
  go_wp2_with fail
  go_meet
  case rel => exact ⟨_, _, ⟨⟨blk_put (cs' := #[.slice AP l0_0.length cP, .slice AQ l0_1.length cQ, .int .i64 c]) BG2.out 1 (.slice AQ l0_1.length cQ) rfl, GG.out, Kd.R_set RP2.out BG2.out (by decide) 1 _, Kd.R_set RQ2.out BG2.out (by decide) 1 _, below_set HB2.out GG.out⟩⟩⟩
 case rest =>
  clear BB BG HB
  obtain ⟨vp, vq, K⟩ := hcut
  have h2 := (blk_cell K.out.blk 2).trans rfl
  have hf := blk_frozen K.out.blk 2
  by_cases hg : goodL l0_0 l0_1 = true
  ·have hc0 : c = 0 := by rw [HCV.out, if_pos hg]
   subst hc0
   have HGD := Aside0.mk hg
   clear hg HCV
   by_cases hn : 1 ≤ n ∧ n ≤ 1024
   ·have K0 : Aside0 (ledger_known.f n = some true) := ⟨by unfold ledger_known.f; rw [if_pos (show n ≥ 1 from hn.1), decide_eq_true hn.2]⟩
    have HO : Aside0 (opW l0_0 l0_1 n = 0) := ⟨by unfold opW; rw [if_pos HGD.out, if_pos hn]⟩
    clear hn
    go_wp2_with (first | (go_at_call 42; (with_reducible refine (ledger_known.calls _ _ _ K0.out).mono ?_); rintro e w' ⟨rfl, ⟨nd_, rfl⟩⟩))
    go_ret
    exact ⟨g, vp, vq, rfl, by rw [HO.out]; first | exact K.out | exact K.out.drewN _⟩
   ·have K0 : Aside0 (ledger_known.f n = some false) := ⟨ledger_open.known_no hn⟩
    have HO : Aside0 (opW l0_0 l0_1 n = 2) := ⟨by unfold opW; rw [if_pos HGD.out, if_neg hn]⟩
    clear hn
    go_wp2_with (first | (go_at_call 42; (with_reducible refine (ledger_known.calls _ _ _ K0.out).mono ?_); rintro e w' ⟨rfl, ⟨nd_, rfl⟩⟩))
    go_ret
    exact ⟨g, vp, vq, rfl, by rw [HO.out]; first | exact K.out.setWhy 2 | exact (K.out.drewN _).setWhy 2⟩
  ·have hc9 : c = 9 := by rw [HCV.out, if_neg hg]
   subst hc9
   have HO : Aside0 (opW l0_0 l0_1 n = 9) := ⟨if_neg hg⟩
   clear hg HCV
   go_wp2_with fail
   go_ret
   exact ⟨g, vp, vq, rfl, by rw [HO.out]; exact K.out⟩
end Go.Proofs.Ytaddmogfeijjcaa.Print
