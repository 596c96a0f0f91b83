-- What the claim uses alone (wip/slim.py). Lean checks it.
import Derived.Test.YtaddmogfeijjcaaZAb
import Derived.Test.YtaddmogfeijjcaaZPrint0
namespace Go.Proofs.Ytaddmogfeijjcaa.Print
open Go.RowKit Go.Proofs.YtaddmogfeijjcaaW.PrintWords Go.Proofs.YtaddmogfeijjcaaW.PrintLast Go.Proofs.YtaddmogfeijjcaaW.PrintMore
attribute [local go_sem] max2_mx min2_mn max_two min_two max_three min_three max_four min_four
set_option linter.unusedVariables false
set_option linter.unusedSimpArgs false
def pcells (p : S31) : Array Value := #[.int .i64 p.f0, .int .i64 p.f1, .int .i64 p.f2, .int .i64 p.f3]
def xcells (x : S55) : Array Value := #[.int .i64 x.f0, .int .u8 x.f1, .int .u8 x.f2, .int .i64 x.f3]
def add1 (p : S31) (x : S55) : S31 := if x.f2 = 2 then ⟨p.f0, wrap64 (p.f1 + x.f3), p.f2, p.f3⟩ else p
def add2 (p : S31) (x : S55) : S31 := if x.f1 = 2 then ⟨p.f0, wrap64 (p.f1 - x.f3), p.f2, p.f3⟩ else p
def add3 (p : S31) (x : S55) : S31 := if x.f2 = 3 then ⟨p.f0, p.f1, wrap64 (p.f2 + x.f3), p.f3⟩ else p
def add4 (p : S31) (x : S55) : S31 := if x.f1 = 3 then ⟨p.f0, p.f1, p.f2, wrap64 (p.f3 + x.f3)⟩ else p
def addP (p : S31) (x : S55) : S31 := add4 (add3 (add2 (add1 p x) x) x) x
def fits (p : S31) : Bool := decide (p.f1 ≤ 1152921504606846976) && (decide (-1152921504606846976 ≤ p.f1) && (decide (p.f2 ≤ 1152921504606846976) && decide (p.f3 ≤ 1152921504606846976)))
structure AddS (B : Nat) (w wr : World) (g gx : Nat) (p : S31) (x : S55) : Prop where
 BP : wr.heap[g]? = some (.cells (pcells p) 31 (0, 0))
 BX : wr.heap[gx]? = some (.cells (xcells x) 55 (0, 0))
 KB : KeepBut w wr g none
 HB : Below B w wr
theorem AddS.drew {B : Nat} {w wr : World} {g gx : Nat} {p : S31} {x : S55} (h : AddS B w wr g gx p x) : AddS B w wr.drew g gx p x := ⟨h.BP, h.BX, keep_drew h.KB, below_drew1 h.HB⟩
theorem AddS.drewN {B : Nat} {w wr : World} {g gx : Nat} {p : S31} {x : S55} (h : AddS B w wr g gx p x) (n : Nat) : AddS B w (wr.drewN n) g gx p x := ⟨h.BP, h.BX, keep_drewN h.KB n, pw_below_drewN h.HB n⟩
theorem AddS.put {B : Nat} {w wr : World} {g gx : Nat} {p p' : S31} {x : S55} (h : AddS B w wr g gx p x) (hB : B ≤ g) (hne : gx ≠ g) (i : Nat) (v : Value) (e : (pcells p).setIfInBounds i v = pcells p') : AddS B w (wr.setCell ⟨g, i, none⟩ v) g gx p' x :=
 ⟨blk_put h.BP i v e, blk_far h.BX hne v, h.KB.set_ i v, h.HB.setCell hB v⟩
set_option maxHeartbeats 2000000 in
set_option maxRecDepth 100000 in
theorem ledger_add.row (B : Nat) (g : Nat) (p : S31) (x : S55) (w : World) (hg : w.heap[g]? = some (.cells (pcells p) 31 (0, 0))) (hB : B ≤ g) :
  Calls Try.prog 43 #[.pointer (some ⟨g, 0, none⟩), .agg (xcells x)] w fun e w' => e = .returned (.bool (fits (addP p x))) ∧ w'.heap[g]? = some (.cells (pcells (addP p x)) 31 (0, 0)) ∧ KeepBut w w' g none ∧ Below B w w' := by
 have HG := Aside0.mk hg
 have HBG := Aside0.mk hB
 have hlt := blk_lt hg
 have HL := Aside0.mk hlt
 clear hg hB hlt
 have hu55 := Try.underlying55
 unfold xcells
 go_enter Try.func43, Try.ntmps43
 go_upto_if 7 with (first | ((with_reducible refine gate_dst (N := 3) rfl ?_); refine box_event ?hg (N := 3) ?hd (cs := #[.int .i64 x.f0, .int .u8 x.f1, .int .u8 x.f2, .int .i64 x.f3]) (t := 55) ?hr ?_; (case hd => rfl); (case hg => rfl); (case hr => first | (go_simp; done) | (go_simp; rfl)); intro gx hgx w1 hbox hb; have HX : Aside0 (gx ≠ g) := ⟨by rw [hgx]; exact (Nat.ne_of_lt HL.out).symm⟩; have AS : Aside0 (AddS B w w1 g gx p x) := ⟨⟨blk_below HG.out hb, hbox, KeepBut.of_below hb _ _, hb.mono (Nat.le_trans HBG.out (Nat.le_of_lt HL.out))⟩⟩; have hx1 := (blk_cell hbox 1).trans rfl; have hx2 := (blk_cell hbox 2).trans rfl; clear hbox hb hgx))
 go_cut [] (fun wc => Aside0 (AddS B w wc g gx (add1 p x) x))
 case first =>
  obtain ⟨q, hq⟩ : ∃ q, q = p := ⟨_, rfl⟩
  rw [← hq] at AS
  have HQ := Aside0.mk hq.symm
  clear hq
  have HE : Aside0 (add1 q x = (add1 p x)) := ⟨by first | (rw [← HQ.out]; done) | (rw [← HQ.out]; rfl)⟩
  clear HQ
  try clear hx1
  try clear hx2
  by_cases hd : x.f2 = 2
  ·have hd1 : (x.f2 == 2) = true := beq_iff_eq.mpr hd
   have HS : Aside0 (add1 q x = _) := ⟨if_pos hd⟩
   (first | rw [hd1] | skip)
   have hc1 : w1.cell? ⟨g, 1, none⟩ = some (.int .i64 q.f1) := (blk_cell AS.out.BP 1).trans rfl
   have hc2 : w1.cell? ⟨g, 2, none⟩ = some (.int .i64 q.f2) := (blk_cell AS.out.BP 2).trans rfl
   have hc3 : w1.cell? ⟨g, 3, none⟩ = some (.int .i64 q.f3) := (blk_cell AS.out.BP 3).trans rfl
   have hf1 := blk_frozen AS.out.BP 1
   have hf2 := blk_frozen AS.out.BP 2
   have hf3 := blk_frozen AS.out.BP 3
   have hx1 : w1.cell? ⟨gx, 1, none⟩ = some (.int .u8 x.f1) := (blk_cell AS.out.BX 1).trans rfl
   have hx2 : w1.cell? ⟨gx, 2, none⟩ = some (.int .u8 x.f2) := (blk_cell AS.out.BX 2).trans rfl
   have hx3 : w1.cell? ⟨gx, 3, none⟩ = some (.int .i64 x.f3) := (blk_cell AS.out.BX 3).trans rfl
   clear hd
   go_wp2_with fail
   clear hc1 hc2 hc3 hf1 hf2 hf3 hx1 hx2 hx3
   refine start_ (n := 10) (S := fun w' => AddS B w w' g gx q x ∧ w'.cell? ⟨g, 1, none⟩ = some (.int .i64 q.f1) ∧ w'.cell? ⟨gx, 3, none⟩ = some (.int .i64 x.f3)) (ds := [9]) (zB 0 10) (by kernel_rfl) rfl rfl ⟨AS.out.drew, ((blk_cell AS.out.drew.BP 1).trans rfl), ((blk_cell AS.out.drew.BX 3).trans rfl)⟩ (fun hHeld => ?_)
   refine pure_ (i := 0) (N := some 8) (v := ?_) (a' := ?_) (zB 1 9) rfl rfl (by kernel_rfl) (fun _ _ _ h => h) (Or.inl ⟨by rfl, ?_⟩) ?_ ?_
   rotate_left
   ·intro w'
    go_simp
    with_reducible rfl
   rotate_left
   ·simp only [Act.put, zt0, zt1, zt2, i64_w, i32_w]
    rfl
   refine pure_ (i := 1) (N := some 9) (v := ?_) (a' := ?_) (zB 2 8) rfl rfl (by kernel_rfl) (fun _ _ _ h => h) (Or.inl ⟨by rfl, ?_⟩) ?_ ?_
   rotate_left
   ·intro w'
    go_simp
    with_reducible rfl
   rotate_left
   ·simp only [Act.put, zt0, zt1, zt2, i64_w, i32_w]
    rfl
   refine pure_ (i := 2) (N := some 10) (v := ?_) (a' := ?_) (zB 3 7) rfl rfl (by kernel_rfl) (fun _ _ _ h => h) (Or.inl ⟨by rfl, ?_⟩) ?_ ?_
   rotate_left
   ·intro w'
    go_simp
    with_reducible rfl
   rotate_left
   ·simp only [Act.put, zt0, zt1, zt2, i64_w, i32_w]
    rfl
   refine pure_ (i := 4) (N := some 12) (v := ?_) (a' := ?_) #[true, true, true, false, true, false, false, false, false, false] rfl rfl (by kernel_rfl) (fun _ _ _ h => h) (Or.inl ⟨by rfl, ?_⟩) ?_ ?_
   rotate_left
   ·intro w'
    go_simp
    with_reducible rfl
   rotate_left
   ·simp only [Act.put, zt0, zt1, zt2, i64_w, i32_w]
    rfl
   refine take_ (i := 3) (N := some 11) (v := ?_) (a' := ?_) (zB 5 5) rfl rfl (by kernel_rfl) (fun _ _ _ h => h) (Or.inl ⟨by rfl, ?_⟩) hHeld ?_ ?_
   rotate_left
   ·rintro w' ⟨s0, s1, s2⟩
    go_simp
    with_reducible rfl
   rotate_left
   ·simp only [Act.put, zt0, zt1, zt2, i64_w, i32_w]
    rfl
   refine take_ (i := 5) (N := some 13) (v := ?_) (a' := ?_) (zB 6 4) rfl rfl (by kernel_rfl) (fun _ _ _ h => h) (Or.inl ⟨by rfl, ?_⟩) hHeld ?_ ?_
   rotate_left
   ·rintro w' ⟨s0, s1, s2⟩
    go_simp
    with_reducible rfl
   rotate_left
   ·simp only [Act.put, zt0, zt1, zt2, i64_w, i32_w]
    rfl
   refine pure_ (i := 6) (N := some 14) (v := ?_) (a' := ?_) (zB 7 3) rfl rfl (by kernel_rfl) (fun _ _ _ h => h) (Or.inl ⟨by rfl, ?_⟩) ?_ ?_
   rotate_left
   ·intro w'
    go_simp
    with_reducible rfl
   rotate_left
   ·simp only [Act.put, zt0, zt1, zt2, i64_w, i32_w]
    rfl
   refine pure_ (i := 7) (N := some 15) (v := ?_) (a' := ?_) (zB 8 2) rfl rfl (by kernel_rfl) (fun _ _ _ h => h) (Or.inl ⟨by rfl, ?_⟩) ?_ ?_
   rotate_left
   ·intro w'
    go_simp
    with_reducible rfl
   rotate_left
   ·simp only [Act.put, zt0, zt1, zt2, i64_w, i32_w]
    rfl
   refine pure_ (i := 8) (N := some 16) (v := ?_) (a' := ?_) (zB 9 1) rfl rfl (by kernel_rfl) (fun _ _ _ h => h) (Or.inl ⟨by rfl, ?_⟩) ?_ ?_
   rotate_left
   ·intro w'
    go_simp
    with_reducible rfl
   rotate_left
   ·simp only [Act.put, zt0, zt1, zt2, i64_w, i32_w]
    rfl
   refine last_ (i := 9) (N := none) (zB 10 0) rfl rfl (by kernel_rfl) (by decide) (fun K hK => ?_)
   obtain ⟨SH, SX, SY⟩ := hHeld
   have hf := blk_frozen SH.BP 1
   refine skip_ (w1 := ?_) (by rfl) rfl ?_ ?_
   rotate_left
   ·go_simp
    rfl
   have SN := SH.put (p' := add1 q x) HBG.out HX.out 1 (.int .i64 (wrap64 (q.f1 + x.f3))) (by rw [HS.out]; rfl)
   refine hK.out _ _ ?_
   clear hK K
   refine done_ (by kernel_rfl) ?_
   go_wp2_with fail
   go_meet
   case rel => exact ⟨by rw [← HE.out]; exact SN⟩
  ·have hd1 : (x.f2 == 2) = false := beq_eq_false_iff_ne.mpr hd
   have HS : Aside0 (add1 q x = q) := ⟨if_neg hd⟩
   (first | rw [hd1] | skip)
   clear hd
   go_wp2_with fail
   go_meet
   case rel => exact ⟨by rw [← HE.out, HS.out]; exact AS.out⟩
 case rest =>
  clear AS
  try clear hx1
  try clear hx2
  have AS := hcut
  clear hcut
  have hx1 : wc.cell? ⟨gx, 1, none⟩ = some (.int .u8 x.f1) := (blk_cell AS.out.BX 1).trans rfl
  have hx2 : wc.cell? ⟨gx, 2, none⟩ = some (.int .u8 x.f2) := (blk_cell AS.out.BX 2).trans rfl
  go_upto_if 19 with (fail)
  go_cut [] (fun wc => Aside0 (AddS B w wc g gx (add2 (add1 p x) x) x))
  case first =>
   generalize hq : (add1 p x) = q at AS
   have HQ := Aside0.mk hq
   clear hq
   have HE : Aside0 (add2 q x = (add2 (add1 p x) x)) := ⟨by first | (rw [← HQ.out]; done) | (rw [← HQ.out]; rfl)⟩
   clear HQ
   try clear hx1
   try clear hx2
   by_cases hd : x.f1 = 2
   ·have hd1 : (x.f1 == 2) = true := beq_iff_eq.mpr hd
    have HS : Aside0 (add2 q x = _) := ⟨if_pos hd⟩
    (first | rw [hd1] | skip)
    have hc1 : wc.cell? ⟨g, 1, none⟩ = some (.int .i64 q.f1) := (blk_cell AS.out.BP 1).trans rfl
    have hc2 : wc.cell? ⟨g, 2, none⟩ = some (.int .i64 q.f2) := (blk_cell AS.out.BP 2).trans rfl
    have hc3 : wc.cell? ⟨g, 3, none⟩ = some (.int .i64 q.f3) := (blk_cell AS.out.BP 3).trans rfl
    have hf1 := blk_frozen AS.out.BP 1
    have hf2 := blk_frozen AS.out.BP 2
    have hf3 := blk_frozen AS.out.BP 3
    have hx1 : wc.cell? ⟨gx, 1, none⟩ = some (.int .u8 x.f1) := (blk_cell AS.out.BX 1).trans rfl
    have hx2 : wc.cell? ⟨gx, 2, none⟩ = some (.int .u8 x.f2) := (blk_cell AS.out.BX 2).trans rfl
    have hx3 : wc.cell? ⟨gx, 3, none⟩ = some (.int .i64 x.f3) := (blk_cell AS.out.BX 3).trans rfl
    clear hd
    go_wp2_with fail
    clear hc1 hc2 hc3 hf1 hf2 hf3 hx1 hx2 hx3
    refine start_ (n := 10) (S := fun w' => AddS B w w' g gx q x ∧ w'.cell? ⟨g, 1, none⟩ = some (.int .i64 q.f1) ∧ w'.cell? ⟨gx, 3, none⟩ = some (.int .i64 x.f3)) (ds := [9]) (zB 0 10) (by kernel_rfl) rfl rfl ⟨AS.out.drew, ((blk_cell AS.out.drew.BP 1).trans rfl), ((blk_cell AS.out.drew.BX 3).trans rfl)⟩ (fun hHeld => ?_)
    refine pure_ (i := 0) (N := some 20) (v := ?_) (a' := ?_) (zB 1 9) rfl rfl (by kernel_rfl) (fun _ _ _ h => h) (Or.inl ⟨by rfl, ?_⟩) ?_ ?_
    rotate_left
    ·intro w'
     go_simp
     with_reducible rfl
    rotate_left
    ·simp only [Act.put, zt0, zt1, zt2, i64_w, i32_w]
     rfl
    refine pure_ (i := 1) (N := some 21) (v := ?_) (a' := ?_) (zB 2 8) rfl rfl (by kernel_rfl) (fun _ _ _ h => h) (Or.inl ⟨by rfl, ?_⟩) ?_ ?_
    rotate_left
    ·intro w'
     go_simp
     with_reducible rfl
    rotate_left
    ·simp only [Act.put, zt0, zt1, zt2, i64_w, i32_w]
     rfl
    refine pure_ (i := 2) (N := some 22) (v := ?_) (a' := ?_) (zB 3 7) rfl rfl (by kernel_rfl) (fun _ _ _ h => h) (Or.inl ⟨by rfl, ?_⟩) ?_ ?_
    rotate_left
    ·intro w'
     go_simp
     with_reducible rfl
    rotate_left
    ·simp only [Act.put, zt0, zt1, zt2, i64_w, i32_w]
     rfl
    refine pure_ (i := 4) (N := some 24) (v := ?_) (a' := ?_) #[true, true, true, false, true, false, false, false, false, false] rfl rfl (by kernel_rfl) (fun _ _ _ h => h) (Or.inl ⟨by rfl, ?_⟩) ?_ ?_
    rotate_left
    ·intro w'
     go_simp
     with_reducible rfl
    rotate_left
    ·simp only [Act.put, zt0, zt1, zt2, i64_w, i32_w]
     rfl
    refine take_ (i := 3) (N := some 23) (v := ?_) (a' := ?_) (zB 5 5) rfl rfl (by kernel_rfl) (fun _ _ _ h => h) (Or.inl ⟨by rfl, ?_⟩) hHeld ?_ ?_
    rotate_left
    ·rintro w' ⟨s0, s1, s2⟩
     go_simp
     with_reducible rfl
    rotate_left
    ·simp only [Act.put, zt0, zt1, zt2, i64_w, i32_w]
     rfl
    refine take_ (i := 5) (N := some 25) (v := ?_) (a' := ?_) (zB 6 4) rfl rfl (by kernel_rfl) (fun _ _ _ h => h) (Or.inl ⟨by rfl, ?_⟩) hHeld ?_ ?_
    rotate_left
    ·rintro w' ⟨s0, s1, s2⟩
     go_simp
     with_reducible rfl
    rotate_left
    ·simp only [Act.put, zt0, zt1, zt2, i64_w, i32_w]
     rfl
    refine pure_ (i := 6) (N := some 26) (v := ?_) (a' := ?_) (zB 7 3) rfl rfl (by kernel_rfl) (fun _ _ _ h => h) (Or.inl ⟨by rfl, ?_⟩) ?_ ?_
    rotate_left
    ·intro w'
     go_simp
     with_reducible rfl
    rotate_left
    ·simp only [Act.put, zt0, zt1, zt2, i64_w, i32_w]
     rfl
    refine pure_ (i := 7) (N := some 27) (v := ?_) (a' := ?_) (zB 8 2) rfl rfl (by kernel_rfl) (fun _ _ _ h => h) (Or.inl ⟨by rfl, ?_⟩) ?_ ?_
    rotate_left
    ·intro w'
     go_simp
     with_reducible rfl
    rotate_left
    ·simp only [Act.put, zt0, zt1, zt2, i64_w, i32_w]
     rfl
    refine pure_ (i := 8) (N := some 28) (v := ?_) (a' := ?_) (zB 9 1) rfl rfl (by kernel_rfl) (fun _ _ _ h => h) (Or.inl ⟨by rfl, ?_⟩) ?_ ?_
    rotate_left
    ·intro w'
     go_simp
     with_reducible rfl
    rotate_left
    ·simp only [Act.put, zt0, zt1, zt2, i64_w, i32_w]
     rfl
    refine last_ (i := 9) (N := none) (zB 10 0) rfl rfl (by kernel_rfl) (by decide) (fun K hK => ?_)
    obtain ⟨SH, SX, SY⟩ := hHeld
    have hf := blk_frozen SH.BP 1
    refine skip_ (w1 := ?_) (by rfl) rfl ?_ ?_
    rotate_left
    ·go_simp
     rfl
    have SN := SH.put (p' := add2 q x) HBG.out HX.out 1 (.int .i64 (wrap64 (q.f1 - x.f3))) (by rw [HS.out]; rfl)
    refine hK.out _ _ ?_
    clear hK K
    refine done_ (by kernel_rfl) ?_
    go_wp2_with fail
    go_meet
    case rel => exact ⟨by rw [← HE.out]; exact SN⟩
   ·have hd1 : (x.f1 == 2) = false := beq_eq_false_iff_ne.mpr hd
    have HS : Aside0 (add2 q x = q) := ⟨if_neg hd⟩
    (first | rw [hd1] | skip)
    clear hd
    go_wp2_with fail
    go_meet
    case rel => exact ⟨by rw [← HE.out, HS.out]; exact AS.out⟩
  case rest =>
   clear AS
   try clear hx1
   try clear hx2
   have AS := hcut
   clear hcut
   have hx1 : wc.cell? ⟨gx, 1, none⟩ = some (.int .u8 x.f1) := (blk_cell AS.out.BX 1).trans rfl
   have hx2 : wc.cell? ⟨gx, 2, none⟩ = some (.int .u8 x.f2) := (blk_cell AS.out.BX 2).trans rfl
   go_upto_if 31 with (fail)
   go_cut [] (fun wc => Aside0 (AddS B w wc g gx (add3 (add2 (add1 p x) x) x) x))
   case first =>
    generalize hq : (add2 (add1 p x) x) = q at AS
    have HQ := Aside0.mk hq
    clear hq
    have HE : Aside0 (add3 q x = (add3 (add2 (add1 p x) x) x)) := ⟨by first | (rw [← HQ.out]; done) | (rw [← HQ.out]; rfl)⟩
    clear HQ
    try clear hx1
    try clear hx2
    by_cases hd : x.f2 = 3
    ·have hd1 : (x.f2 == 3) = true := beq_iff_eq.mpr hd
     have HS : Aside0 (add3 q x = _) := ⟨if_pos hd⟩
     (first | rw [hd1] | skip)
     have hc1 : wc.cell? ⟨g, 1, none⟩ = some (.int .i64 q.f1) := (blk_cell AS.out.BP 1).trans rfl
     have hc2 : wc.cell? ⟨g, 2, none⟩ = some (.int .i64 q.f2) := (blk_cell AS.out.BP 2).trans rfl
     have hc3 : wc.cell? ⟨g, 3, none⟩ = some (.int .i64 q.f3) := (blk_cell AS.out.BP 3).trans rfl
     have hf1 := blk_frozen AS.out.BP 1
     have hf2 := blk_frozen AS.out.BP 2
     have hf3 := blk_frozen AS.out.BP 3
     have hx1 : wc.cell? ⟨gx, 1, none⟩ = some (.int .u8 x.f1) := (blk_cell AS.out.BX 1).trans rfl
     have hx2 : wc.cell? ⟨gx, 2, none⟩ = some (.int .u8 x.f2) := (blk_cell AS.out.BX 2).trans rfl
     have hx3 : wc.cell? ⟨gx, 3, none⟩ = some (.int .i64 x.f3) := (blk_cell AS.out.BX 3).trans rfl
     clear hd
     go_wp2_with fail
     clear hc1 hc2 hc3 hf1 hf2 hf3 hx1 hx2 hx3
     refine start_ (n := 10) (S := fun w' => AddS B w w' g gx q x ∧ w'.cell? ⟨g, 2, none⟩ = some (.int .i64 q.f2) ∧ w'.cell? ⟨gx, 3, none⟩ = some (.int .i64 x.f3)) (ds := [9]) (zB 0 10) (by kernel_rfl) rfl rfl ⟨AS.out.drew, ((blk_cell AS.out.drew.BP 2).trans rfl), ((blk_cell AS.out.drew.BX 3).trans rfl)⟩ (fun hHeld => ?_)
     refine pure_ (i := 0) (N := some 32) (v := ?_) (a' := ?_) (zB 1 9) rfl rfl (by kernel_rfl) (fun _ _ _ h => h) (Or.inl ⟨by rfl, ?_⟩) ?_ ?_
     rotate_left
     ·intro w'
      go_simp
      with_reducible rfl
     rotate_left
     ·simp only [Act.put, zt0, zt1, zt2, i64_w, i32_w]
      rfl
     refine pure_ (i := 1) (N := some 33) (v := ?_) (a' := ?_) (zB 2 8) rfl rfl (by kernel_rfl) (fun _ _ _ h => h) (Or.inl ⟨by rfl, ?_⟩) ?_ ?_
     rotate_left
     ·intro w'
      go_simp
      with_reducible rfl
     rotate_left
     ·simp only [Act.put, zt0, zt1, zt2, i64_w, i32_w]
      rfl
     refine pure_ (i := 2) (N := some 34) (v := ?_) (a' := ?_) (zB 3 7) rfl rfl (by kernel_rfl) (fun _ _ _ h => h) (Or.inl ⟨by rfl, ?_⟩) ?_ ?_
     rotate_left
     ·intro w'
      go_simp
      with_reducible rfl
     rotate_left
     ·simp only [Act.put, zt0, zt1, zt2, i64_w, i32_w]
      rfl
     refine pure_ (i := 4) (N := some 36) (v := ?_) (a' := ?_) #[true, true, true, false, true, false, false, false, false, false] rfl rfl (by kernel_rfl) (fun _ _ _ h => h) (Or.inl ⟨by rfl, ?_⟩) ?_ ?_
     rotate_left
     ·intro w'
      go_simp
      with_reducible rfl
     rotate_left
     ·simp only [Act.put, zt0, zt1, zt2, i64_w, i32_w]
      rfl
     refine take_ (i := 3) (N := some 35) (v := ?_) (a' := ?_) (zB 5 5) rfl rfl (by kernel_rfl) (fun _ _ _ h => h) (Or.inl ⟨by rfl, ?_⟩) hHeld ?_ ?_
     rotate_left
     ·rintro w' ⟨s0, s1, s2⟩
      go_simp
      with_reducible rfl
     rotate_left
     ·simp only [Act.put, zt0, zt1, zt2, i64_w, i32_w]
      rfl
     refine take_ (i := 5) (N := some 37) (v := ?_) (a' := ?_) (zB 6 4) rfl rfl (by kernel_rfl) (fun _ _ _ h => h) (Or.inl ⟨by rfl, ?_⟩) hHeld ?_ ?_
     rotate_left
     ·rintro w' ⟨s0, s1, s2⟩
      go_simp
      with_reducible rfl
     rotate_left
     ·simp only [Act.put, zt0, zt1, zt2, i64_w, i32_w]
      rfl
     refine pure_ (i := 6) (N := some 38) (v := ?_) (a' := ?_) (zB 7 3) rfl rfl (by kernel_rfl) (fun _ _ _ h => h) (Or.inl ⟨by rfl, ?_⟩) ?_ ?_
     rotate_left
     ·intro w'
      go_simp
      with_reducible rfl
     rotate_left
     ·simp only [Act.put, zt0, zt1, zt2, i64_w, i32_w]
      rfl
     refine pure_ (i := 7) (N := some 39) (v := ?_) (a' := ?_) (zB 8 2) rfl rfl (by kernel_rfl) (fun _ _ _ h => h) (Or.inl ⟨by rfl, ?_⟩) ?_ ?_
     rotate_left
     ·intro w'
      go_simp
      with_reducible rfl
     rotate_left
     ·simp only [Act.put, zt0, zt1, zt2, i64_w, i32_w]
      rfl
     refine pure_ (i := 8) (N := some 40) (v := ?_) (a' := ?_) (zB 9 1) rfl rfl (by kernel_rfl) (fun _ _ _ h => h) (Or.inl ⟨by rfl, ?_⟩) ?_ ?_
     rotate_left
     ·intro w'
      go_simp
      with_reducible rfl
     rotate_left
     ·simp only [Act.put, zt0, zt1, zt2, i64_w, i32_w]
      rfl
     refine last_ (i := 9) (N := none) (zB 10 0) rfl rfl (by kernel_rfl) (by decide) (fun K hK => ?_)
     obtain ⟨SH, SX, SY⟩ := hHeld
     have hf := blk_frozen SH.BP 2
     refine skip_ (w1 := ?_) (by rfl) rfl ?_ ?_
     rotate_left
     ·go_simp
      rfl
     have SN := SH.put (p' := add3 q x) HBG.out HX.out 2 (.int .i64 (wrap64 (q.f2 + x.f3))) (by rw [HS.out]; rfl)
     refine hK.out _ _ ?_
     clear hK K
     refine done_ (by kernel_rfl) ?_
     go_wp2_with fail
     go_meet
     case rel => exact ⟨by rw [← HE.out]; exact SN⟩
    ·have hd1 : (x.f2 == 3) = false := beq_eq_false_iff_ne.mpr hd
     have HS : Aside0 (add3 q x = q) := ⟨if_neg hd⟩
     (first | rw [hd1] | skip)
     clear hd
     go_wp2_with fail
     go_meet
     case rel => exact ⟨by rw [← HE.out, HS.out]; exact AS.out⟩
   case rest =>
    clear AS
    try clear hx1
    try clear hx2
    have AS := hcut
    clear hcut
    have hx1 : wc.cell? ⟨gx, 1, none⟩ = some (.int .u8 x.f1) := (blk_cell AS.out.BX 1).trans rfl
    have hx2 : wc.cell? ⟨gx, 2, none⟩ = some (.int .u8 x.f2) := (blk_cell AS.out.BX 2).trans rfl
    go_upto_if 43 with (fail)
    go_cut [] (fun wc => Aside0 (AddS B w wc g gx (addP p x) x))
    case first =>
     generalize hq : (add3 (add2 (add1 p x) x) x) = q at AS
     have HQ := Aside0.mk hq
     clear hq
     have HE : Aside0 (add4 q x = (addP p x)) := ⟨by first | (rw [← HQ.out]; done) | (rw [← HQ.out]; rfl)⟩
     clear HQ
     try clear hx1
     try clear hx2
     by_cases hd : x.f1 = 3
     ·have hd1 : (x.f1 == 3) = true := beq_iff_eq.mpr hd
      have HS : Aside0 (add4 q x = _) := ⟨if_pos hd⟩
      (first | rw [hd1] | skip)
      have hc1 : wc.cell? ⟨g, 1, none⟩ = some (.int .i64 q.f1) := (blk_cell AS.out.BP 1).trans rfl
      have hc2 : wc.cell? ⟨g, 2, none⟩ = some (.int .i64 q.f2) := (blk_cell AS.out.BP 2).trans rfl
      have hc3 : wc.cell? ⟨g, 3, none⟩ = some (.int .i64 q.f3) := (blk_cell AS.out.BP 3).trans rfl
      have hf1 := blk_frozen AS.out.BP 1
      have hf2 := blk_frozen AS.out.BP 2
      have hf3 := blk_frozen AS.out.BP 3
      have hx1 : wc.cell? ⟨gx, 1, none⟩ = some (.int .u8 x.f1) := (blk_cell AS.out.BX 1).trans rfl
      have hx2 : wc.cell? ⟨gx, 2, none⟩ = some (.int .u8 x.f2) := (blk_cell AS.out.BX 2).trans rfl
      have hx3 : wc.cell? ⟨gx, 3, none⟩ = some (.int .i64 x.f3) := (blk_cell AS.out.BX 3).trans rfl
      clear hd
      go_wp2_with fail
      clear hc1 hc2 hc3 hf1 hf2 hf3 hx1 hx2 hx3
      refine start_ (n := 10) (S := fun w' => AddS B w w' g gx q x ∧ w'.cell? ⟨g, 3, none⟩ = some (.int .i64 q.f3) ∧ w'.cell? ⟨gx, 3, none⟩ = some (.int .i64 x.f3)) (ds := [9]) (zB 0 10) (by kernel_rfl) rfl rfl ⟨AS.out.drew, ((blk_cell AS.out.drew.BP 3).trans rfl), ((blk_cell AS.out.drew.BX 3).trans rfl)⟩ (fun hHeld => ?_)
      refine pure_ (i := 0) (N := some 44) (v := ?_) (a' := ?_) (zB 1 9) rfl rfl (by kernel_rfl) (fun _ _ _ h => h) (Or.inl ⟨by rfl, ?_⟩) ?_ ?_
      rotate_left
      ·intro w'
       go_simp
       with_reducible rfl
      rotate_left
      ·simp only [Act.put, zt0, zt1, zt2, i64_w, i32_w]
       rfl
      refine pure_ (i := 1) (N := some 45) (v := ?_) (a' := ?_) (zB 2 8) rfl rfl (by kernel_rfl) (fun _ _ _ h => h) (Or.inl ⟨by rfl, ?_⟩) ?_ ?_
      rotate_left
      ·intro w'
       go_simp
       with_reducible rfl
      rotate_left
      ·simp only [Act.put, zt0, zt1, zt2, i64_w, i32_w]
       rfl
      refine pure_ (i := 2) (N := some 46) (v := ?_) (a' := ?_) (zB 3 7) rfl rfl (by kernel_rfl) (fun _ _ _ h => h) (Or.inl ⟨by rfl, ?_⟩) ?_ ?_
      rotate_left
      ·intro w'
       go_simp
       with_reducible rfl
      rotate_left
      ·simp only [Act.put, zt0, zt1, zt2, i64_w, i32_w]
       rfl
      refine pure_ (i := 4) (N := some 48) (v := ?_) (a' := ?_) #[true, true, true, false, true, false, false, false, false, false] rfl rfl (by kernel_rfl) (fun _ _ _ h => h) (Or.inl ⟨by rfl, ?_⟩) ?_ ?_
      rotate_left
      ·intro w'
       go_simp
       with_reducible rfl
      rotate_left
      ·simp only [Act.put, zt0, zt1, zt2, i64_w, i32_w]
       rfl
      refine take_ (i := 3) (N := some 47) (v := ?_) (a' := ?_) (zB 5 5) rfl rfl (by kernel_rfl) (fun _ _ _ h => h) (Or.inl ⟨by rfl, ?_⟩) hHeld ?_ ?_
      rotate_left
      ·rintro w' ⟨s0, s1, s2⟩
       go_simp
       with_reducible rfl
      rotate_left
      ·simp only [Act.put, zt0, zt1, zt2, i64_w, i32_w]
       rfl
      refine take_ (i := 5) (N := some 49) (v := ?_) (a' := ?_) (zB 6 4) rfl rfl (by kernel_rfl) (fun _ _ _ h => h) (Or.inl ⟨by rfl, ?_⟩) hHeld ?_ ?_
      rotate_left
      ·rintro w' ⟨s0, s1, s2⟩
       go_simp
       with_reducible rfl
      rotate_left
      ·simp only [Act.put, zt0, zt1, zt2, i64_w, i32_w]
       rfl
      refine pure_ (i := 6) (N := some 50) (v := ?_) (a' := ?_) (zB 7 3) rfl rfl (by kernel_rfl) (fun _ _ _ h => h) (Or.inl ⟨by rfl, ?_⟩) ?_ ?_
      rotate_left
      ·intro w'
       go_simp
       with_reducible rfl
      rotate_left
      ·simp only [Act.put, zt0, zt1, zt2, i64_w, i32_w]
       rfl
      refine pure_ (i := 7) (N := some 51) (v := ?_) (a' := ?_) (zB 8 2) rfl rfl (by kernel_rfl) (fun _ _ _ h => h) (Or.inl ⟨by rfl, ?_⟩) ?_ ?_
      rotate_left
      ·intro w'
       go_simp
       with_reducible rfl
      rotate_left
      ·simp only [Act.put, zt0, zt1, zt2, i64_w, i32_w]
       rfl
      refine pure_ (i := 8) (N := some 52) (v := ?_) (a' := ?_) (zB 9 1) rfl rfl (by kernel_rfl) (fun _ _ _ h => h) (Or.inl ⟨by rfl, ?_⟩) ?_ ?_
      rotate_left
      ·intro w'
       go_simp
       with_reducible rfl
      rotate_left
      ·simp only [Act.put, zt0, zt1, zt2, i64_w, i32_w]
       rfl
      refine last_ (i := 9) (N := none) (zB 10 0) rfl rfl (by kernel_rfl) (by decide) (fun K hK => ?_)
      obtain ⟨SH, SX, SY⟩ := hHeld
      have hf := blk_frozen SH.BP 3
      refine skip_ (w1 := ?_) (by rfl) rfl ?_ ?_
      rotate_left
      ·go_simp
       rfl
      have SN := SH.put (p' := add4 q x) HBG.out HX.out 3 (.int .i64 (wrap64 (q.f3 + x.f3))) (by rw [HS.out]; rfl)
      refine hK.out _ _ ?_
      clear hK K
      refine done_ (by kernel_rfl) ?_
      go_wp2_with fail
      go_meet
      case rel => exact ⟨by rw [← HE.out]; exact SN⟩
     ·have hd1 : (x.f1 == 3) = false := beq_eq_false_iff_ne.mpr hd
      have HS : Aside0 (add4 q x = q) := ⟨if_neg hd⟩
      (first | rw [hd1] | skip)
      clear hd
      go_wp2_with fail
      go_meet
      case rel => exact ⟨by rw [← HE.out, HS.out]; exact AS.out⟩
    case rest =>
     clear AS
     try clear hx1
     try clear hx2
     have AS := hcut
     clear hcut
     obtain ⟨q, hq⟩ : ∃ q, q = addP p x := ⟨_, rfl⟩
     rw [← hq] at AS
     have HQ := Aside0.mk hq
     clear hq
     have hc1 : wc.cell? ⟨g, 1, none⟩ = some (.int .i64 q.f1) := (blk_cell AS.out.BP 1).trans rfl
     have hc2 : wc.cell? ⟨g, 2, none⟩ = some (.int .i64 q.f2) := (blk_cell AS.out.BP 2).trans rfl
     have hc3 : wc.cell? ⟨g, 3, none⟩ = some (.int .i64 q.f3) := (blk_cell AS.out.BP 3).trans rfl
     rcases Bool.eq_false_or_eq_true (decide (q.f1 ≤ 1152921504606846976)) with d0 | d0
     ·rcases Bool.eq_false_or_eq_true (decide (-1152921504606846976 ≤ q.f1)) with d1 | d1
      ·rcases Bool.eq_false_or_eq_true (decide (q.f2 ≤ 1152921504606846976)) with d2 | d2
       ·rcases Bool.eq_false_or_eq_true (decide (q.f3 ≤ 1152921504606846976)) with d3 | d3
        ·have hft : fits q = true := by unfold fits; simp only [d0, d1, d2, d3, Bool.true_and, Bool.false_and]
         have HF := Aside0.mk hft
         clear hft
         go_wp2_with fail
         go_ret
         exact ⟨by rw [← HQ.out, HF.out]; rfl, by rw [← HQ.out]; exact AS.out.BP, AS.out.KB, AS.out.HB⟩
        ·have hft : fits q = false := by unfold fits; simp only [d0, d1, d2, d3, Bool.true_and, Bool.false_and]
         have HF := Aside0.mk hft
         clear hft
         go_wp2_with fail
         go_ret
         exact ⟨by rw [← HQ.out, HF.out]; rfl, by rw [← HQ.out]; exact AS.out.BP, AS.out.KB, AS.out.HB⟩
       ·have hft : fits q = false := by unfold fits; simp only [d0, d1, d2, Bool.true_and, Bool.false_and]
        have HF := Aside0.mk hft
        clear hft
        go_wp2_with fail
        go_ret
        exact ⟨by rw [← HQ.out, HF.out]; rfl, by rw [← HQ.out]; exact AS.out.BP, AS.out.KB, AS.out.HB⟩
      ·have hft : fits q = false := by unfold fits; simp only [d0, d1, Bool.true_and, Bool.false_and]
       have HF := Aside0.mk hft
       clear hft
       go_wp2_with fail
       go_ret
       exact ⟨by rw [← HQ.out, HF.out]; rfl, by rw [← HQ.out]; exact AS.out.BP, AS.out.KB, AS.out.HB⟩
     ·have hft : fits q = false := by unfold fits; simp only [d0, Bool.true_and, Bool.false_and]
      have HF := Aside0.mk hft
      clear hft
      go_wp2_with fail
      go_ret
      exact ⟨by rw [← HQ.out, HF.out]; rfl, by rw [← HQ.out]; exact AS.out.BP, AS.out.KB, AS.out.HB⟩
def postOk (x : S55) : Bool := decide (1 ≤ x.f0) && (decide (x.f0 ≤ 1024) && (decide (1 ≤ x.f3) && (decide (x.f3 ≤ 1152921504606846976) && (decide (1 ≤ x.f1) && (decide (x.f1 < 4) && (decide (1 ≤ x.f2) && (decide (x.f2 < 4) && !(x.f1 == x.f2))))))))
def zeroP (n : Int) : S31 := ⟨n, 0, 0, 0⟩
def eqP (p q : S31) : Bool := p.f0 == q.f0 && (p.f1 == q.f1 && (p.f2 == q.f2 && p.f3 == q.f3))
def sumN (l : List S55) (n : Int) : S31 := (l.filter fun x => x.f0 == n).foldl addP (zeroP n)
def hasN (l : List S55) (n : Int) : Bool := l.any fun x => x.f0 == n
def xAt (l : List S55) (k : Nat) : S55 := l.getD k z55
def pAt (l : List S31) (k : Nat) : S31 := l.getD k z31
theorem rd_xAt (l : List S55) (k : Nat) : rd_T55 l (k : Int) = xAt l k := by unfold rd_T55 xAt; rw [Int.toNat_natCast]
theorem rd_pAt (l : List S31) (k : Nat) : rd_T31 l (k : Int) = pAt l k := by unfold rd_T31 pAt; rw [Int.toNat_natCast]
def okX (l : List S55) (k : Nat) : Bool := postOk (xAt l k) && fits (sumN (l.take (k + 1)) (xAt l k).f0)
def okP1 (l : List S31) (i : Nat) : Bool := decide (1 ≤ (pAt l i).f0) && (decide ((pAt l i).f0 ≤ 1024) && (!(eqP (pAt l i) (zeroP (pAt l i).f0)) && (!(decide (0 < i) && decide ((pAt l (i - 1)).f0 ≥ (pAt l i).f0)) && (!(decide ((pAt l i).f1 < 0)) && !(decide ((pAt l i).f3 > (pAt l i).f2))))))
def okP (ps : List S31) (xs : List S55) (i : Nat) : Bool := okP1 ps i && eqP (sumN xs (pAt ps i).f0) (pAt ps i)
def okR (ps : List S31) (xs : List S55) (k : Nat) : Bool := ps.any (fun p => p.f0 == (xAt xs k).f0) || eqP (sumN xs (xAt xs k).f0) (zeroP (xAt xs k).f0)
def goodL (ps : List S31) (xs : List S55) : Bool := (decide (ps.length ≤ 1024) && decide (xs.length ≤ 16384)) && ((List.range xs.length).all (okX xs) && ((List.range ps.length).all (okP ps xs) && (List.range xs.length).all (okR ps xs)))
theorem addP_f0 (p : S31) (x : S55) : (addP p x).f0 = p.f0 := by
 unfold addP add4 add3 add2 add1
 split <;> split <;> split <;> split <;> rfl
theorem foldP_f0 (l : List S55) : ∀ p : S31, (l.foldl addP p).f0 = p.f0 := by
 induction l with
 | nil => intro p; rfl
 | cons x l ih => intro p; rw [List.foldl_cons, ih, addP_f0]
theorem sumN_f0 (l : List S55) (n : Int) : (sumN l n).f0 = n := foldP_f0 _ _
theorem eqP_iff (p q : S31) : eqP p q = true ↔ p = q := by
 obtain ⟨a, b, c, d⟩ := p
 obtain ⟨a', b', c', d'⟩ := q
 unfold eqP
 simp only [Bool.and_eq_true, beq_iff_eq, S31.mk.injEq]
theorem take_xAt (l : List S55) (k : Nat) (h : k < l.length) : l.take (k + 1) = l.take k ++ [xAt l k] := by
 rw [List.take_succ_eq_append_getElem h]
 unfold xAt
 rw [List.getD_eq_getElem?_getD, List.getElem?_eq_getElem h]
 rfl
theorem sumN_snoc (l : List S55) (x : S55) (n : Int) : sumN (l ++ [x]) n = if x.f0 = n then addP (sumN l n) x else sumN l n := by
 unfold sumN
 rw [List.filter_append]
 by_cases h : x.f0 = n
 ·rw [if_pos h]; simp [h, List.foldl_append]
 ·rw [if_neg h]; simp [h]
theorem hasN_snoc (l : List S55) (x : S55) (n : Int) : hasN (l ++ [x]) n = (hasN l n || x.f0 == n) := by
 unfold hasN; simp [List.any_append]
theorem sumN_none (l : List S55) (n : Int) (h : hasN l n = false) : sumN l n = zeroP n := by
 unfold sumN
 rw [List.filter_eq_nil_iff.mpr]
 ·rfl
 ·intro x hx he
  have := List.any_eq_false.mp h x hx
  exact this he
end Go.Proofs.Ytaddmogfeijjcaa.Print
