-- What the claim uses alone (wip/slim.py). Lean checks it.
import Derived.Test.YtcbgichkeecgiaaDoorZAln
import Derived.Test.YtcbgichkeecgiaaDoorZPrint26
import Derived.Test.YtcbgichkeecgiaaDoorZAb
import Derived.Test.YtcbgichkeecgiaaDoorZAlp
import Derived.Test.YtcbgichkeecgiaaDoorZAlo
namespace Go.Proofs.YtcbgichkeecgiaaDoor.Print
open Go.RowKit Go.Proofs.YtcbgichkeecgiaaDoorW.PrintWords Go.Proofs.YtcbgichkeecgiaaDoorW.PrintLast Go.Proofs.YtcbgichkeecgiaaDoorW.PrintMore
attribute [local go_sem] max2_mx min2_mn max_two min_two max_three min_three max_four min_four
set_option linter.unusedVariables false
set_option linter.unusedSimpArgs false
theorem pageB {W : World} {g : Nat} {v0 v1 v2 v3 : Value} (h : W.heap[g]? = some (.cells #[v0, v1, v2, v3] 25 (0, 0))) (x0 x1 x2 x3 : Value) :
  ((((W.setCell ⟨g, 0, none⟩ x0).setCell ⟨g, 1, none⟩ x1).setCell ⟨g, 2, none⟩ x2).setCell ⟨g, 3, none⟩ x3).heap[g]? = some (.cells #[x0, x1, x2, x3] 25 (0, 0)) :=
 blk_put (cs := #[x0, x1, x2, v3]) (blk_put (cs := #[x0, x1, v2, v3]) (blk_put (cs := #[x0, v1, v2, v3]) (blk_put h 0 _ rfl) 1 _ rfl) 2 _ rfl) 3 _ rfl
theorem pageF {W : World} {g g' t : Nat} {cs : Array Value} (h : W.heap[g']? = some (.cells cs t (0, 0))) (hne : g' ≠ g) (x0 x1 x2 x3 : Value) :
  ((((W.setCell ⟨g, 0, none⟩ x0).setCell ⟨g, 1, none⟩ x1).setCell ⟨g, 2, none⟩ x2).setCell ⟨g, 3, none⟩ x3).heap[g']? = some (.cells cs t (0, 0)) :=
 blk_far (blk_far (blk_far (blk_far h hne _) hne _) hne _) hne _
theorem pageR {α : Type} {d : Kd α} {e base : Nat} {ok : Nat → Prop} {v : Value} {xs : List α} {W : World} {g : Nat} {v0 v1 v2 v3 : Value} (h : d.R e W base ok v xs) (hb : W.heap[g]? = some (.cells #[v0, v1, v2, v3] 25 (0, 0))) (ht : ∀ q, q ∈ e :: d.E → q ≠ 25) (x0 x1 x2 x3 : Value) :
  d.R e ((((W.setCell ⟨g, 0, none⟩ x0).setCell ⟨g, 1, none⟩ x1).setCell ⟨g, 2, none⟩ x2).setCell ⟨g, 3, none⟩ x3) base ok v xs :=
 Kd.R_mono (Kd.R_far (p := ⟨g, 3, none⟩) (Kd.R_far (p := ⟨g, 2, none⟩) (Kd.R_far (p := ⟨g, 1, none⟩) (Kd.R_far (p := ⟨g, 0, none⟩) (Kd.R_types h hb ht) (fun _ hk => hk.2) x0) (fun _ hk => hk.2) x1) (fun _ hk => hk.2) x2) (fun _ hk => hk.2) x3) (fun _ hk => hk.1)
theorem pageW {w W : World} {g : Nat} (h : Below w.heap.size w W) (hg : w.heap.size ≤ g) (x0 x1 x2 x3 : Value) :
  Below w.heap.size w ((((W.setCell ⟨g, 0, none⟩ x0).setCell ⟨g, 1, none⟩ x1).setCell ⟨g, 2, none⟩ x2).setCell ⟨g, 3, none⟩ x3) :=
 below_set (below_set (below_set (below_set h hg) hg) hg) hg
theorem R_V {α : Type} {d : Kd α} {e base : Nat} {ok : Nat → Prop} {v : Value} {xs : List α} {W : World} (h : d.R e W base ok v xs) : Kd.V d e W base (fun k_ => (base ≤ k_)) v xs := by
 obtain ⟨A, c, rfl⟩ := Kd.R_slice h
 exact ⟨A, c, rfl, (Kd.R_reads' h).2.1, Kd.R_F (Kd.R_mono (Kd.R_bound h) (fun k hk => hk.2.1))⟩
structure OutP (w W : World) (gb gr : Nat) (b : Bool) (Ak : Option Addr) (ck : Nat) (ks : List (List Int)) (Av : Option Addr) (cv : Nat) (vs : List (List Int)) (Ad : Option Addr) (cd : Nat) (ds : List Int) : Prop where
 BB : W.heap[gb]? = some (.cells #[.bool b, .slice Ak ks.length ck, .slice Av vs.length cv, .slice Ad ds.length cd] 25 (0, 0))
 BR : W.heap[gr]? = some (.cells #[.bool false, .slice none 0 0, .slice none 0 0, .slice none 0 0] 25 (0, 0))
 HB : Below w.heap.size w W
 K : Kd.R (Kd.slice 5 (Kd.int .u8)) 26 W w.heap.size (fun k => some k ≠ (Value.slice Av vs.length cv).ownBlock) (.slice Ak ks.length ck) ks
 V : Kd.R (Kd.slice 5 (Kd.int .u8)) 26 W w.heap.size (fun k => some k ≠ (Value.slice Ak ks.length ck).ownBlock) (.slice Av vs.length cv) vs
 D : Kd.R (Kd.int .i64) 3 W w.heap.size (fun _ => True) (.slice Ad ds.length cd) ds
 GB : w.heap.size ≤ gb
 GR : w.heap.size ≤ gr
 ne : gb ≠ gr
section
variable {w W W2 : World} {gb gr : Nat} {b : Bool} {Ak : Option Addr} {ck : Nat} {ks ks' : List (List Int)} {Av : Option Addr} {cv : Nat} {vs vs' : List (List Int)} {Ad : Option Addr} {cd : Nat} {ds : List Int} {A' : Option Addr} {c' : Nat}
theorem OutP.below (O : OutP w W gb gr b Ak ck ks Av cv vs Ad cd ds) (hb : Below W.heap.size W W2) : OutP w W2 gb gr b Ak ck ks Av cv vs Ad cd ds :=
 ⟨blk_below O.BB hb, blk_below O.BR hb, below_step O.HB hb, Kd.R_below O.K hb, Kd.R_below O.V hb, Kd.R_below O.D hb, O.GB, O.GR, O.ne⟩
theorem OutP.drew (O : OutP w W gb gr b Ak ck ks Av cv vs Ad cd ds) : OutP w W.drew gb gr b Ak ck ks Av cv vs Ad cd ds := O.below (below_drew (Below.refl _ _))
theorem OutP.rd (O : OutP w W gb gr b Ak ck ks Av cv vs Ad cd ds) : (W.cell? ⟨gb, 0, none⟩ = some (.bool b) ∧ W.cell? ⟨gb, 1, none⟩ = some (.slice Ak ks.length ck) ∧ W.cell? ⟨gb, 2, none⟩ = some (.slice Av vs.length cv) ∧ W.cell? ⟨gb, 3, none⟩ = some (.slice Ad ds.length cd)) ∧ (∀ i, W.frozen? ⟨gb, i, none⟩ = false) ∧
  (W.cell? ⟨gr, 0, none⟩ = some (.bool false) ∧ W.cell? ⟨gr, 1, none⟩ = some (.slice none 0 0) ∧ W.cell? ⟨gr, 2, none⟩ = some (.slice none 0 0) ∧ W.cell? ⟨gr, 3, none⟩ = some (.slice none 0 0)) ∧ (∀ i, W.frozen? ⟨gr, i, none⟩ = false) :=
 ⟨⟨(blk_cell O.BB 0).trans rfl, (blk_cell O.BB 1).trans rfl, (blk_cell O.BB 2).trans rfl, (blk_cell O.BB 3).trans rfl⟩, fun i => blk_frozen O.BB i, ⟨(blk_cell O.BR 0).trans rfl, (blk_cell O.BR 1).trans rfl, (blk_cell O.BR 2).trans rfl, (blk_cell O.BR 3).trans rfl⟩, fun i => blk_frozen O.BR i⟩
theorem OutP.end_ (O : OutP w W gb gr b Ak ck ks Av cv vs Ad cd ds) (x0 x1 x2 x3 : Value) :
  Kd.V (Kd.slice 5 (Kd.int .u8)) 26 ((((W.setCell ⟨gr, 0, none⟩ x0).setCell ⟨gr, 1, none⟩ x1).setCell ⟨gr, 2, none⟩ x2).setCell ⟨gr, 3, none⟩ x3) w.heap.size (fun k_ => (w.heap.size ≤ k_)) (.slice Ak ks.length ck) ks ∧
  Kd.V (Kd.slice 5 (Kd.int .u8)) 26 ((((W.setCell ⟨gr, 0, none⟩ x0).setCell ⟨gr, 1, none⟩ x1).setCell ⟨gr, 2, none⟩ x2).setCell ⟨gr, 3, none⟩ x3) w.heap.size (fun k_ => (w.heap.size ≤ k_)) (.slice Av vs.length cv) vs ∧
  Kd.V (Kd.int .i64) 3 ((((W.setCell ⟨gr, 0, none⟩ x0).setCell ⟨gr, 1, none⟩ x1).setCell ⟨gr, 2, none⟩ x2).setCell ⟨gr, 3, none⟩ x3) w.heap.size (fun k_ => (w.heap.size ≤ k_)) (.slice Ad ds.length cd) ds ∧
  Below w.heap.size w ((((W.setCell ⟨gr, 0, none⟩ x0).setCell ⟨gr, 1, none⟩ x1).setCell ⟨gr, 2, none⟩ x2).setCell ⟨gr, 3, none⟩ x3) :=
 ⟨R_V (pageR O.K O.BR (by decide) _ _ _ _), R_V (pageR O.V O.BR (by decide) _ _ _ _), R_V (pageR O.D O.BR (by decide) _ _ _ _), pageW O.HB O.GR _ _ _ _⟩
end
def node_place.cmp (a b : List Int) : Int := Lib.compareBytes (strOfNums a).data.toList (strOfNums b).data.toList
theorem node_place.cmp_calls (A0 : Option Addr) (c0 : Nat) (l0 : List Int) (A1 : Option Addr) (c1 : Nat) (l1 : List Int) (w : World) (hr0 : Kd.C (Kd.int .u8) w A0 l0.length l0) (hc0 : l0.length ≤ c0) (hr1 : Kd.C (Kd.int .u8) w A1 l1.length l1) (hc1 : l1.length ≤ c1) :
  Calls Tryd.prog 58 #[.slice A0 l0.length c0, .slice A1 l1.length c1] w fun e w' => e = .returned (.int .i64 (node_place.cmp l0 l1)) ∧ ∃ m, w' = w.drewN m :=
 (bytes_Compare.calls A0 c0 l0 A1 c1 l1 _ w hr0 hc0 hr1 hc1 rfl).mono fun e w' ⟨he, hd⟩ => ⟨he, hd.out⟩
theorem node_place.eq_calls (A0 : Option Addr) (c0 : Nat) (l0 : List Int) (A1 : Option Addr) (c1 : Nat) (l1 : List Int) (w : World) (hr0 : Kd.C (Kd.int .u8) w A0 l0.length l0) (hc0 : l0.length ≤ c0) (hr1 : Kd.C (Kd.int .u8) w A1 l1.length l1) (hc1 : l1.length ≤ c1) :
  Calls Tryd.prog 76 #[.slice A0 l0.length c0, .slice A1 l1.length c1] w fun e w' => e = .returned (.bool ((strOfNums l0).toList == (strOfNums l1).toList)) ∧ ∃ m, w' = w.drewN m :=
 (bytes_Equal.calls A0 c0 l0 A1 c1 l1 _ w hr0 hc0 hr1 hc1 rfl).mono fun e w' ⟨he, hd⟩ => ⟨he, hd.out⟩
def node_place.P (l : List (List Int)) (key : List Int) (h : Nat) : Bool := decide (node_place.cmp (rd_L1 l (h : Int)) key < 0)
set_option maxHeartbeats 1000000 in
set_option maxRecDepth 100000 in
theorem node_place.clo (bP bK : Nat) (a : Bool) (A1 : Option Addr) (c1 : Nat) (l : List (List Int)) (v2 v3 : Value) (Ak : Option Addr) (ck : Nat) (key : List Int) (i : Nat) (hi : i < l.length) (w : World)
  (hp : w.heap[bP]? = some (.cells #[.bool a, .slice A1 l.length c1, v2, v3] 25 (0, 0))) (hk : w.heap[bK]? = some (.cells #[.slice Ak key.length ck] 26 (0, 0)))
  (hr : Kd.C (Kd.slice 5 (Kd.int .u8)) w A1 l.length l) (hrk : Kd.C (Kd.int .u8) w Ak key.length key) (hck : key.length ≤ ck) :
  Calls Tryd.prog 75 #[.int .i64 (i : Int), .pointer (some ⟨bP, 0, none⟩), .pointer (some ⟨bK, 0, none⟩)] w fun e w' => e = .returned (.bool (!node_place.P l key i)) ∧ Below w.heap.size w w' := by
 obtain ⟨ad, Ae, ce, rfl, hx, hle, hre⟩ := at_L1 hr (i : Int) (Int.natCast_nonneg _) (Int.ofNat_lt.mpr hi)
 have hb1 : w.cell? ⟨bP, 1, none⟩ = some (.slice (some ad) l.length c1) := (blk_cell hp 1).trans rfl
 have hb2 : w.cell? ⟨bK, 0, none⟩ = some (.slice Ak key.length ck) := (blk_cell hk 0).trans rfl
 have pm : ((i : Int) < (l.length : Int)) = True := eq_true (Int.ofNat_lt.mpr hi)
 have HRE := Aside0.mk hre
 have HLE := Aside0.mk hle
 have HRK := Aside0.mk hrk
 have HCK := Aside0.mk hck
 have HPP : Aside0 ((!node_place.P l key i) = decide (0 ≤ node_place.cmp (rd_L1 l (i : Int)) key)) := ⟨by
  unfold node_place.P
  by_cases h : node_place.cmp (rd_L1 l (i : Int)) key < 0
  ·rw [decide_eq_true h, decide_eq_false (by omega)]; rfl
  ·rw [decide_eq_false h, decide_eq_true (by omega)]; rfl⟩
 rw [Int.toNat_natCast] at hx
 clear hre hle hrk hck hr hp hk
 generalize rd_L1 l (i : Int) = x at HRE HLE HPP hx
 go_enter Tryd.func75, Tryd.ntmps75
 go_wp2
 go_quiet ((go_at_call 58; exact Calls.quiet_of (node_place.cmp_calls Ae ce x Ak ck key _ (Kd.C_drewN HRE.out _) HLE.out (Kd.C_drewN HRK.out _) HCK.out)))
 go_wp2
 go_ret
 exact ⟨by rw [HPP.out]; rfl, pw_below_drewN (Below.refl _ _) _⟩
def node_place.Rel (w : World) (l : List (List Int)) (key : List Int) (fin : Nat) (kq : Nat) (v5 v6 : Value) (wr : World) : Prop := ∃ i j : Nat, i ≤ j ∧ j ≤ l.length ∧ j - i < 2 ^ kq ∧ v5 = .int .i64 i ∧ v6 = .int .i64 j ∧ bsN (node_place.P l key) kq i j = fin ∧ Below w.heap.size w wr
set_option maxHeartbeats 1000000 in
set_option maxRecDepth 100000 in
theorem node_place.bs_row (bP bK : Nat) (a : Bool) (A1 : Option Addr) (c1 : Nat) (l : List (List Int)) (v2 v3 : Value) (Ak : Option Addr) (ck : Nat) (key : List Int) (w : World)
  (hp : w.heap[bP]? = some (.cells #[.bool a, .slice A1 l.length c1, v2, v3] 25 (0, 0))) (hk : w.heap[bK]? = some (.cells #[.slice Ak key.length ck] 26 (0, 0)))
  (hr : Kd.C (Kd.slice 5 (Kd.int .u8)) w A1 l.length l) (hrk : Kd.C (Kd.int .u8) w Ak key.length key) (hck : key.length ≤ ck) (hbig : l.length ≤ 4611686018427387904) (fin : Nat) (hfin : bsN (node_place.P l key) 64 0 l.length = fin) :
  Calls Tryd.prog 74 #[.int .i64 (l.length : Int), .func (.func 75) #[] #[.pointer (some ⟨bP, 0, none⟩), .pointer (some ⟨bK, 0, none⟩)]] w fun e w' => e = .returned (.int .i64 fin) ∧ Below w.heap.size w w' := by
 have HP := Aside0.mk hp
 have HK := Aside0.mk hk
 have HR := Aside0.mk hr
 have HRK := Aside0.mk hrk
 have HCK := Aside0.mk hck
 have HBG := Aside0.mk hbig
 have HF := Aside0.mk hfin
 have hle : fin ≤ l.length := hfin ▸ bsN_le _ 64 0 l.length (Nat.zero_le _)
 have HLE := Aside0.mk hle
 clear hp hk hr hrk hck hbig hfin hle
 go_enter Tryd.func74, Tryd.ntmps74
 go_wp2
 go_loopg [5, 6] 64 (fun kq v5 v6 wr => node_place.Rel w l key fin kq v5 v6 wr)
 case atStart => exact ⟨0, l.length, Nat.zero_le _, Nat.le_refl _, by have := HBG.out; omega, rfl, rfl, HF.out, Below.refl _ _⟩
 case round =>
  obtain ⟨i, j, hij, hjl, hq, rfl, rfl, hb, hB⟩ := hrel
  have HB := Aside0.mk hB
  clear hB HF
  by_cases hlt : i < j
  ·obtain ⟨q, rfl⟩ : ∃ q, gk = q + 1 := by
    rcases gk with _ | q
    ·simp at hq; omega
    ·exact ⟨q, rfl⟩
   have t1 : decide ((i : Int) < (j : Int)) = true := decide_eq_true (Int.ofNat_lt.mpr hlt)
   have t1n : decide (i < j) = true := decide_eq_true hlt
   obtain ⟨m, hm⟩ : ∃ m, m = (i + j) / 2 := ⟨_, rfl⟩
   have hmj : m < l.length := by omega
   have hsum : (0 : Int) ≤ (i : Int) + (j : Int) ∧ (i : Int) + (j : Int) ≤ 9223372036854775807 := by have := HBG.out; omega
   have hadd : IntKind.i64.wrap ((i : Int) + (j : Int)) = (i : Int) + (j : Int) := wi64_in hsum.1 hsum.2
   have hu : IntKind.u64.wrap ((i : Int) + (j : Int)) = (i : Int) + (j : Int) := wu64_in hsum.1 hsum.2
   have hh : wrap64 (((i : Int) + (j : Int)) / 2) = (m : Int) := half_in hm hsum.2
   have HM := Aside0.mk hm
   have HHH := Aside0.mk hh
   have HI := Aside0.mk (And.intro hij (And.intro hjl (And.intro hq (And.intro hlt hmj))))
   have hbs : bsN (node_place.P l key) (q + 1) i j = if node_place.P l key m then bsN (node_place.P l key) q (m + 1) j else bsN (node_place.P l key) q i m := by rw [bsN, if_pos hlt, ← hm]
   have HS := Aside0.mk (hbs.symm.trans hb)
   clear hm hsum hbs hb hij hjl hq hlt hmj
   go_wp2_with fail
   rw [HHH.out]
   refine (node_place.clo bP bK a A1 c1 l v2 v3 Ak ck key m HI.out.2.2.2.2 _ (blk_below HP.out HB.out) (blk_below HK.out HB.out) (Kd.C_below HR.out HB.out) (Kd.C_below HRK.out HB.out) HCK.out).mono ?_
   rintro e w' ⟨rfl, hb2⟩
   have HB2 := Aside0.mk (below_then HB.out HB.out.size hb2)
   clear hb2 hh hadd hu t1 t1n
   cases hc : node_place.P l key m
   ·have hS := HS.out
    rw [hc] at hS
    have HS2 := Aside0.mk hS
    clear hS HS hc
    go_wp2_with fail
    go_roundg q
    case measure => exact Nat.lt_succ_self _
    case rel =>
     refine ⟨i, m, ?_, ?_, ?_, rfl, rfl, HS2.out, HB2.out⟩
     ·have := HI.out; have := HM.out; omega
     ·have := HI.out; omega
     ·have h1 := HI.out; have h2 := HM.out; have h3 := Nat.pow_succ 2 q; omega
   ·have hS := HS.out
    rw [hc] at hS
    have HS2 := Aside0.mk hS
    have hw : IntKind.i64.wrap ((m : Int) + 1) = (m : Int) + 1 := wi64_in (by omega) (by have := HBG.out; have := HI.out; omega)
    clear hS HS hc
    go_wp2_with fail
    go_roundg q
    case measure => exact Nat.lt_succ_self _
    case rel =>
     refine ⟨m + 1, j, ?_, HI.out.2.1, ?_, ?_, rfl, HS2.out, HB2.out⟩
     ·have := HI.out; have := HM.out; omega
     ·have h1 := HI.out; have h2 := HM.out; have h3 := Nat.pow_succ 2 q; omega
     ·go_num
  ·have e0 : bsN (node_place.P l key) gk i j = i := by cases gk with
    | zero => rfl
    | succ q => rw [bsN, if_neg hlt]
   obtain rfl : i = fin := e0.symm.trans hb
   have t1 : decide ((i : Int) < (j : Int)) = false := decide_eq_false (by omega)
   have t1n : decide (i < j) = false := decide_eq_false hlt
   clear e0 hb hq hjl hij
   go_wp2_with fail
   go_ret
   exact ⟨rfl, HB.out⟩
def node_place.at_ (l : List (List Int)) (key : List Int) : Nat := bsN (node_place.P l key) 64 0 l.length
def node_place.f (a0_0 : Bool) (l0_1 l0_2 : List (List Int)) (l0_3 : List Int) (l1 : List Int) : Option (Int × Bool) :=
 if l0_1.length ≤ 4611686018427387904 then some ((node_place.at_ l0_1 l1 : Int), decide (node_place.at_ l0_1 l1 < l0_1.length) && ((strOfNums (rd_L1 l0_1 (node_place.at_ l0_1 l1 : Int))).toList == (strOfNums l1).toList)) else none
set_option maxHeartbeats 1000000 in
set_option maxRecDepth 100000 in
theorem node_place.calls (a0_0 : Bool) (A0_1 : Option Addr) (c0_1 : Nat) (l0_1 : List (List Int)) (A0_2 : Option Addr) (c0_2 : Nat) (l0_2 : List (List Int)) (A0_3 : Option Addr) (c0_3 : Nat) (l0_3 : List Int) (A1 : Option Addr) (c1 : Nat) (l1 : List Int) (r1 : Int) (r2 : Bool) (w : World) (hr0_1 : Kd.C (Kd.slice 5 (Kd.int .u8)) w A0_1 l0_1.length l0_1) (hc0_1 : l0_1.length ≤ c0_1) (hr0_2 : Kd.C (Kd.slice 5 (Kd.int .u8)) w A0_2 l0_2.length l0_2) (hc0_2 : l0_2.length ≤ c0_2) (hr0_3 : Kd.C (Kd.int .i64) w A0_3 l0_3.length l0_3) (hc0_3 : l0_3.length ≤ c0_3) (hr1 : Kd.C (Kd.int .u8) w A1 l1.length l1) (hc1 : l1.length ≤ c1) (h : node_place.f a0_0 l0_1 l0_2 l0_3 l1 = some (r1, r2)) :
  Calls Tryd.prog 53 #[.agg #[.bool a0_0, .slice A0_1 l0_1.length c0_1, .slice A0_2 l0_2.length c0_2, .slice A0_3 l0_3.length c0_3], .slice A1 l1.length c1] w fun e w' => e = .returned (.tuple #[.int .i64 r1, .bool r2]) ∧ Below w.heap.size w w' := by
 unfold node_place.f at h
 split at h
 case isFalse => cases h
 case isTrue hbig =>
 obtain ⟨h1, h2⟩ := Prod.mk.inj (Option.some.inj h)
 obtain ⟨fin, hfin⟩ : ∃ fin, fin = node_place.at_ l0_1 l1 := ⟨_, rfl⟩
 rw [← hfin] at h1 h2
 subst h1
 subst h2
 have hle : fin ≤ l0_1.length := by rw [hfin]; exact bsN_le _ 64 0 l0_1.length (Nat.zero_le _)
 have hbp : ((w.alloc (.cells #[.bool a0_0, .slice A0_1 l0_1.length c0_1, .slice A0_2 l0_2.length c0_2, .slice A0_3 l0_3.length c0_3] 25)).alloc (.cells #[.slice A1 l1.length c1] 26)).heap[w.heap.size]? = some (.cells #[.bool a0_0, .slice A0_1 l0_1.length c0_1, .slice A0_2 l0_2.length c0_2, .slice A0_3 l0_3.length c0_3] 25 (0, 0)) := heap_alloc2_old w _ _
 have hbk : ((w.alloc (.cells #[.bool a0_0, .slice A0_1 l0_1.length c0_1, .slice A0_2 l0_2.length c0_2, .slice A0_3 l0_3.length c0_3] 25)).alloc (.cells #[.slice A1 l1.length c1] 26)).heap[w.heap.size + 1]? = some (.cells #[.slice A1 l1.length c1] 26 (0, 0)) := heap_alloc2_new w _ _
 have hB : Below w.heap.size w ((w.alloc (.cells #[.bool a0_0, .slice A0_1 l0_1.length c0_1, .slice A0_2 l0_2.length c0_2, .slice A0_3 l0_3.length c0_3] 25)).alloc (.cells #[.slice A1 l1.length c1] 26)) := below_alloc (below_alloc (Below.refl _ _) _) _
 have HC := Aside0.mk (node_place.bs_row w.heap.size (w.heap.size + 1) a0_0 A0_1 c0_1 l0_1 (.slice A0_2 l0_2.length c0_2) (.slice A0_3 l0_3.length c0_3) A1 c1 l1 _ hbp hbk (Kd.C_below hr0_1 hB) (Kd.C_below hr1 hB) hc1 hbig fin hfin.symm)
 have HBP := Aside0.mk hbp
 have HBK := Aside0.mk hbk
 have HBB := Aside0.mk hB
 have HR := Aside0.mk hr0_1
 have HRK := Aside0.mk hr1
 have HCK := Aside0.mk hc1
 clear hbp hbk hB hr0_1 hr0_2 hr0_3 hr1 hc0_1 hc0_2 hc0_3 hc1 h hfin hbig
 go_enter Tryd.func53, Tryd.ntmps53
 go_wp2_with fail
 refine HC.out.mono ?_
 rintro e w' ⟨rfl, hb2⟩
 have HB2 := Aside0.mk (below_then HBB.out HBB.out.size hb2)
 have hc1' : w'.cell? ⟨w.heap.size, 1, none⟩ = some (.slice A0_1 l0_1.length c0_1) := (blk_cell (blk_below HBP.out hb2) 1).trans rfl
 have hc2' : w'.cell? ⟨w.heap.size + 1, 0, none⟩ = some (.slice A1 l1.length c1) := (blk_cell (blk_below HBK.out hb2) 0).trans rfl
 clear hb2 HC HBP HBK HBB
 by_cases hin : fin < l0_1.length
 ·obtain ⟨ad, Ae, ce, rfl, hx, hle2, hre⟩ := at_L1 HR.out (fin : Int) (Int.natCast_nonneg _) (Int.ofNat_lt.mpr hin)
  replace hx := (HB2.out.cell (World.block_lt_of_cell? w _ hx)).trans hx
  rw [Int.toNat_natCast] at hx
  have pm : ((fin : Int) < (l0_1.length : Int)) = True := eq_true (Int.ofNat_lt.mpr hin)
  have pd : decide ((fin : Int) < (l0_1.length : Int)) = true := decide_eq_true (Int.ofNat_lt.mpr hin)
  have pdn : decide (fin < l0_1.length) = true := decide_eq_true hin
  have HPD : Aside0 (decide (fin < l0_1.length) = true) := ⟨decide_eq_true hin⟩
  have HRE := Aside0.mk (Kd.C_below hre HB2.out)
  have HLE := Aside0.mk hle2
  have HRK2 := Aside0.mk (Kd.C_below HRK.out HB2.out)
  clear hre hle2 hin hle
  obtain ⟨x, hxe⟩ : ∃ x, x = rd_L1 l0_1 (fin : Int) := ⟨_, rfl⟩
  rw [← hxe] at hx HRE HLE
  have HXE := Aside0.mk hxe
  clear hxe
  go_wp2
  go_quiet ((go_at_call 76; exact Calls.quiet_of (node_place.eq_calls Ae ce x A1 c1 l1 _ (Kd.C_drewN HRE.out _) HLE.out (Kd.C_drewN HRK2.out _) HCK.out)))
  go_wp2
  go_ret2
  exact ⟨by rw [HPD.out, Bool.true_and, ← HXE.out]; rfl, pw_below_drewN HB2.out _⟩
 ·have pd : decide ((fin : Int) < (l0_1.length : Int)) = false := decide_eq_false (by omega)
  have pdn : decide (fin < l0_1.length) = false := decide_eq_false hin
  have HPD : Aside0 (decide (fin < l0_1.length) = false) := ⟨decide_eq_false hin⟩
  clear hin hle
  go_wp2
  go_quiet (fail)
  go_wp2
  go_ret2
  exact ⟨by rw [HPD.out, Bool.false_and]; rfl, pw_below_drewN HB2.out _⟩
end Go.Proofs.YtcbgichkeecgiaaDoor.Print
namespace Go.Proofs.YtcbgichkeecgiaaDoor.Print
open Go.RowKit Go.Proofs.YtcbgichkeecgiaaDoorW.PrintWords Go.Proofs.YtcbgichkeecgiaaDoorW.PrintLast Go.Proofs.YtcbgichkeecgiaaDoorW.PrintMore
attribute [local go_sem] max2_mx min2_mn max_two min_two max_three min_three max_four min_four
set_option linter.unusedVariables false
set_option linter.unusedSimpArgs false
def node_Find.f (k : Nat) (a0_0 : Bool) (l0_1 : List (List Int)) (l0_2 : List (List Int)) (l0_3 : List Int) (l1 : List Int) : Option (Int × Bool × Int) := (node_Check.f k a0_0 l0_1 l0_2 l0_3).bind fun t449 => (if t449 = 0 then ((node_place.f a0_0 l0_1 l0_2 l0_3 l1).bind fun bt450 => (if bt450.2 = true then (if a0_0 = true then (some (bt450.1, bt450.2, 0)) else (some (wrap64 (bt450.1 + 1), bt450.2, 0))) else (some (bt450.1, bt450.2, 0)))) else (some (0, false, t449)))
set_option maxHeartbeats 8000000 in
set_option maxRecDepth 100000 in
theorem node_Find.calls (k : Nat) (a0_0 : Bool) (A0_1 : Option Addr) (c0_1 : Nat) (l0_1 : List (List Int)) (A0_2 : Option Addr) (c0_2 : Nat) (l0_2 : List (List Int)) (A0_3 : Option Addr) (c0_3 : Nat) (l0_3 : List Int) (A1 : Option Addr) (c1 : Nat) (l1 : List Int) (r1 : Int) (r2 : Bool) (r3 : Int) (w : World) (hr0_1 : Kd.C (Kd.slice 5 (Kd.int .u8)) w A0_1 l0_1.length l0_1) (hc0_1 : l0_1.length ≤ c0_1) (hr0_2 : Kd.C (Kd.slice 5 (Kd.int .u8)) w A0_2 l0_2.length l0_2) (hc0_2 : l0_2.length ≤ c0_2) (hr0_3 : Kd.C (Kd.int .i64) w A0_3 l0_3.length l0_3) (hc0_3 : l0_3.length ≤ c0_3) (hr1 : Kd.C (Kd.int .u8) w A1 l1.length l1) (hc1 : l1.length ≤ c1) (h : node_Find.f k a0_0 l0_1 l0_2 l0_3 l1 = some (r1, r2, r3)) :
  Calls Tryd.prog 27 #[.agg #[.bool a0_0, .slice A0_1 l0_1.length c0_1, .slice A0_2 l0_2.length c0_2, .slice A0_3 l0_3.length c0_3], .slice A1 l1.length c1] w fun e w' => e = .returned (.tuple #[.int .i64 r1, .bool r2, .int .i64 r3]) ∧ Below w.heap.size w w' := by
 have hu25 := Tryd.underlying25
 have HR0_1 := Aside0.mk hr0_1
 have HC0_1 := Aside0.mk hc0_1
 clear hr0_1 hc0_1
 have HR0_2 := Aside0.mk hr0_2
 have HC0_2 := Aside0.mk hc0_2
 clear hr0_2 hc0_2
 have HR0_3 := Aside0.mk hr0_3
 have HC0_3 := Aside0.mk hc0_3
 clear hr0_3 hc0_3
 have HR1 := Aside0.mk hr1
 have HC1 := Aside0.mk hc1
 clear hr1 hc1
 have HB := Aside0.mk (Below.refl w.heap.size w)
 have H : ((node_Check.f k a0_0 l0_1 l0_2 l0_3).bind fun t449 => (if t449 = 0 then ((node_place.f a0_0 l0_1 l0_2 l0_3 l1).bind fun bt450 => (if bt450.2 = true then (if a0_0 = true then (some (bt450.1, bt450.2, 0)) else (some (wrap64 (bt450.1 + 1), bt450.2, 0))) else (some (bt450.1, bt450.2, 0)))) else (some (0, false, t449)))) = some (r1, r2, r3) := h
 clear h
 obtain ⟨t449, A3, H⟩ := zm H
 (try dsimp only at H)
 by_cases c4 : t449 = 0
 ·rw [if_pos c4] at H
  obtain ⟨c4b0, c4b1⟩ := zq1 c4
  clear c4
  obtain ⟨⟨t450, t451⟩, A5, H⟩ := zm H
  (try dsimp only at H)
  by_cases c6 : t451 = true
  ·subst c6
   replace H := (if_pos (rfl : true = true)).symm.trans H
   by_cases c7 : a0_0 = true
   ·subst c7
    replace H := (if_pos (rfl : true = true)).symm.trans H
    simp only [Option.some.injEq, Prod.mk.injEq] at H
    obtain ⟨rfl, rfl, rfl⟩ := H
    go_enter Tryd.func27, Tryd.ntmps27
    go_wp2_with (first | ((with_reducible refine gate_dst (N := 2) rfl ?_); refine box_event ?hg (N := 2) ?hd (cs := #[.bool true, .slice A0_1 l0_1.length c0_1, .slice A0_2 l0_2.length c0_2, .slice A0_3 l0_3.length c0_3]) (t := 25) ?hr ?_; (case hd => rfl); (case hg => rfl); (case hr => first | (go_simp; done) | (go_simp; rfl)); intro gb448 hg w8 hbox hb; have BK448 := Aside0.mk (hbox); have GW448 := Aside0.mk ((by rw [hg]; exact (below_size (zh0_ HB.out)) : w.heap.size ≤ gb448)); have GE448 := Aside0.mk ((by rw [hg]; exact (below_size (zh0_ HB.out)) : w.heap.size ≤ gb448)); replace HB := Aside0.mk (below_step (zh0_ HB.out) hb); clear hb hbox hg; obtain ⟨hcz9_0, hcz9_1, hcz9_2, hcz9_3⟩ := zc4 BK448.out; obtain ⟨hfz9_0, hfz9_1, hfz9_2, hfz9_3⟩ := zz4 BK448.out) | ((with_reducible refine gate_callee (f := 11) rfl ?_); refine goesL_ (some 11) rfl rfl Tryd.func11 (by kernel_rfl) rfl #[.agg #[.bool true, .slice A0_1 l0_1.length c0_1, .slice A0_2 l0_2.length c0_2, .slice A0_3 l0_3.length c0_3]] rfl zl_ ?_; (with_reducible refine (node_Check.calls k true _ _ l0_1 _ _ l0_2 _ _ l0_3 t449 _ ?side1 ?side2 ?side3 ?side4 ?side5 ?side6 A3.out).mono ?_); (case side1 => exact zc_ (Kd.C_below HR0_1.out HB.out)); (case side2 => exact HC0_1.out); (case side3 => exact zc_ (Kd.C_below HR0_2.out HB.out)); (case side4 => exact HC0_2.out); (case side5 => exact zc_ (Kd.C_below HR0_3.out HB.out)); (case side6 => exact HC0_3.out); rintro e w10 ⟨rfl, hb⟩; refine ⟨_, rfl, ?_⟩; replace BK448 := Aside0.mk (blk_below (zb_ BK448.out) hb); replace HB := Aside0.mk (below_step (zh1_ HB.out GE448.out) hb); (try clear hb); obtain ⟨hcz11_0, hcz11_1, hcz11_2, hcz11_3⟩ := zc4 BK448.out; obtain ⟨hfz11_0, hfz11_1, hfz11_2, hfz11_3⟩ := zz4 BK448.out) | ((with_reducible refine gate_callee (f := 53) rfl ?_); refine goesL_ (some 18) rfl rfl Tryd.func53 (by kernel_rfl) rfl #[.agg #[.bool true, .slice A0_1 l0_1.length c0_1, .slice A0_2 l0_2.length c0_2, .slice A0_3 l0_3.length c0_3], .slice A1 l1.length c1] rfl zl_ ?_; (with_reducible refine (node_place.calls true _ _ l0_1 _ _ l0_2 _ _ l0_3 _ _ l1 t450 true _ ?side1 ?side2 ?side3 ?side4 ?side5 ?side6 ?side7 ?side8 A5.out).mono ?_); (case side1 => exact zc_ (Kd.C_below HR0_1.out HB.out)); (case side2 => exact HC0_1.out); (case side3 => exact zc_ (Kd.C_below HR0_2.out HB.out)); (case side4 => exact HC0_2.out); (case side5 => exact zc_ (Kd.C_below HR0_3.out HB.out)); (case side6 => exact HC0_3.out); (case side7 => exact zc_ (Kd.C_below HR1.out HB.out)); (case side8 => exact HC1.out); rintro e w12 ⟨rfl, hb⟩; refine ⟨_, rfl, ?_⟩; replace BK448 := Aside0.mk (blk_below (zb_ BK448.out) hb); replace HB := Aside0.mk (below_step (zh1_ HB.out GE448.out) hb); (try clear hb); obtain ⟨hcz13_0, hcz13_1, hcz13_2, hcz13_3⟩ := zc4 BK448.out; obtain ⟨hfz13_0, hfz13_1, hfz13_2, hfz13_3⟩ := zz4 BK448.out))
    go_ret3
    exact ⟨by first | rfl | (simp [errW_none, errW_some] <;> rfl) | (simp [*, errW_none, errW_some] <;> rfl), by exact zh1_ HB.out GE448.out⟩
   ·replace c7 := Bool.eq_false_iff.mpr c7
    subst c7
    replace H := (if_neg (show ¬ (false = true) by decide)).symm.trans H
    simp only [Option.some.injEq, Prod.mk.injEq] at H
    obtain ⟨rfl, rfl, rfl⟩ := H
    go_enter Tryd.func27, Tryd.ntmps27
    go_wp2_with (first | ((with_reducible refine gate_dst (N := 2) rfl ?_); refine box_event ?hg (N := 2) ?hd (cs := #[.bool false, .slice A0_1 l0_1.length c0_1, .slice A0_2 l0_2.length c0_2, .slice A0_3 l0_3.length c0_3]) (t := 25) ?hr ?_; (case hd => rfl); (case hg => rfl); (case hr => first | (go_simp; done) | (go_simp; rfl)); intro gb448 hg w14 hbox hb; have BK448 := Aside0.mk (hbox); have GW448 := Aside0.mk ((by rw [hg]; exact (below_size (zh0_ HB.out)) : w.heap.size ≤ gb448)); have GE448 := Aside0.mk ((by rw [hg]; exact (below_size (zh0_ HB.out)) : w.heap.size ≤ gb448)); replace HB := Aside0.mk (below_step (zh0_ HB.out) hb); clear hb hbox hg; obtain ⟨hcz15_0, hcz15_1, hcz15_2, hcz15_3⟩ := zc4 BK448.out; obtain ⟨hfz15_0, hfz15_1, hfz15_2, hfz15_3⟩ := zz4 BK448.out) | ((with_reducible refine gate_callee (f := 11) rfl ?_); refine goesL_ (some 11) rfl rfl Tryd.func11 (by kernel_rfl) rfl #[.agg #[.bool false, .slice A0_1 l0_1.length c0_1, .slice A0_2 l0_2.length c0_2, .slice A0_3 l0_3.length c0_3]] rfl zl_ ?_; (with_reducible refine (node_Check.calls k false _ _ l0_1 _ _ l0_2 _ _ l0_3 t449 _ ?side1 ?side2 ?side3 ?side4 ?side5 ?side6 A3.out).mono ?_); (case side1 => exact zc_ (Kd.C_below HR0_1.out HB.out)); (case side2 => exact HC0_1.out); (case side3 => exact zc_ (Kd.C_below HR0_2.out HB.out)); (case side4 => exact HC0_2.out); (case side5 => exact zc_ (Kd.C_below HR0_3.out HB.out)); (case side6 => exact HC0_3.out); rintro e w16 ⟨rfl, hb⟩; refine ⟨_, rfl, ?_⟩; replace BK448 := Aside0.mk (blk_below (zb_ BK448.out) hb); replace HB := Aside0.mk (below_step (zh1_ HB.out GE448.out) hb); (try clear hb); obtain ⟨hcz17_0, hcz17_1, hcz17_2, hcz17_3⟩ := zc4 BK448.out; obtain ⟨hfz17_0, hfz17_1, hfz17_2, hfz17_3⟩ := zz4 BK448.out) | ((with_reducible refine gate_callee (f := 53) rfl ?_); refine goesL_ (some 18) rfl rfl Tryd.func53 (by kernel_rfl) rfl #[.agg #[.bool false, .slice A0_1 l0_1.length c0_1, .slice A0_2 l0_2.length c0_2, .slice A0_3 l0_3.length c0_3], .slice A1 l1.length c1] rfl zl_ ?_; (with_reducible refine (node_place.calls false _ _ l0_1 _ _ l0_2 _ _ l0_3 _ _ l1 t450 true _ ?side1 ?side2 ?side3 ?side4 ?side5 ?side6 ?side7 ?side8 A5.out).mono ?_); (case side1 => exact zc_ (Kd.C_below HR0_1.out HB.out)); (case side2 => exact HC0_1.out); (case side3 => exact zc_ (Kd.C_below HR0_2.out HB.out)); (case side4 => exact HC0_2.out); (case side5 => exact zc_ (Kd.C_below HR0_3.out HB.out)); (case side6 => exact HC0_3.out); (case side7 => exact zc_ (Kd.C_below HR1.out HB.out)); (case side8 => exact HC1.out); rintro e w18 ⟨rfl, hb⟩; refine ⟨_, rfl, ?_⟩; replace BK448 := Aside0.mk (blk_below (zb_ BK448.out) hb); replace HB := Aside0.mk (below_step (zh1_ HB.out GE448.out) hb); (try clear hb); obtain ⟨hcz19_0, hcz19_1, hcz19_2, hcz19_3⟩ := zc4 BK448.out; obtain ⟨hfz19_0, hfz19_1, hfz19_2, hfz19_3⟩ := zz4 BK448.out))
    go_ret3
    exact ⟨by first | rfl | (simp [errW_none, errW_some] <;> rfl) | (simp [*, errW_none, errW_some] <;> rfl), by exact zh1_ HB.out GE448.out⟩
  ·replace c6 := Bool.eq_false_iff.mpr c6
   subst c6
   replace H := (if_neg (show ¬ (false = true) by decide)).symm.trans H
   simp only [Option.some.injEq, Prod.mk.injEq] at H
   obtain ⟨rfl, rfl, rfl⟩ := H
   go_enter Tryd.func27, Tryd.ntmps27
   go_wp2_with (first | ((with_reducible refine gate_dst (N := 2) rfl ?_); refine box_event ?hg (N := 2) ?hd (cs := #[.bool a0_0, .slice A0_1 l0_1.length c0_1, .slice A0_2 l0_2.length c0_2, .slice A0_3 l0_3.length c0_3]) (t := 25) ?hr ?_; (case hd => rfl); (case hg => rfl); (case hr => first | (go_simp; done) | (go_simp; rfl)); intro gb448 hg w20 hbox hb; have BK448 := Aside0.mk (hbox); have GW448 := Aside0.mk ((by rw [hg]; exact (below_size (zh0_ HB.out)) : w.heap.size ≤ gb448)); have GE448 := Aside0.mk ((by rw [hg]; exact (below_size (zh0_ HB.out)) : w.heap.size ≤ gb448)); replace HB := Aside0.mk (below_step (zh0_ HB.out) hb); clear hb hbox hg; obtain ⟨hcz21_0, hcz21_1, hcz21_2, hcz21_3⟩ := zc4 BK448.out; obtain ⟨hfz21_0, hfz21_1, hfz21_2, hfz21_3⟩ := zz4 BK448.out) | ((with_reducible refine gate_callee (f := 11) rfl ?_); refine goesL_ (some 11) rfl rfl Tryd.func11 (by kernel_rfl) rfl #[.agg #[.bool a0_0, .slice A0_1 l0_1.length c0_1, .slice A0_2 l0_2.length c0_2, .slice A0_3 l0_3.length c0_3]] rfl zl_ ?_; (with_reducible refine (node_Check.calls k a0_0 _ _ l0_1 _ _ l0_2 _ _ l0_3 t449 _ ?side1 ?side2 ?side3 ?side4 ?side5 ?side6 A3.out).mono ?_); (case side1 => exact zc_ (Kd.C_below HR0_1.out HB.out)); (case side2 => exact HC0_1.out); (case side3 => exact zc_ (Kd.C_below HR0_2.out HB.out)); (case side4 => exact HC0_2.out); (case side5 => exact zc_ (Kd.C_below HR0_3.out HB.out)); (case side6 => exact HC0_3.out); rintro e w22 ⟨rfl, hb⟩; refine ⟨_, rfl, ?_⟩; replace BK448 := Aside0.mk (blk_below (zb_ BK448.out) hb); replace HB := Aside0.mk (below_step (zh1_ HB.out GE448.out) hb); (try clear hb); obtain ⟨hcz23_0, hcz23_1, hcz23_2, hcz23_3⟩ := zc4 BK448.out; obtain ⟨hfz23_0, hfz23_1, hfz23_2, hfz23_3⟩ := zz4 BK448.out) | ((with_reducible refine gate_callee (f := 53) rfl ?_); refine goesL_ (some 18) rfl rfl Tryd.func53 (by kernel_rfl) rfl #[.agg #[.bool a0_0, .slice A0_1 l0_1.length c0_1, .slice A0_2 l0_2.length c0_2, .slice A0_3 l0_3.length c0_3], .slice A1 l1.length c1] rfl zl_ ?_; (with_reducible refine (node_place.calls a0_0 _ _ l0_1 _ _ l0_2 _ _ l0_3 _ _ l1 t450 false _ ?side1 ?side2 ?side3 ?side4 ?side5 ?side6 ?side7 ?side8 A5.out).mono ?_); (case side1 => exact zc_ (Kd.C_below HR0_1.out HB.out)); (case side2 => exact HC0_1.out); (case side3 => exact zc_ (Kd.C_below HR0_2.out HB.out)); (case side4 => exact HC0_2.out); (case side5 => exact zc_ (Kd.C_below HR0_3.out HB.out)); (case side6 => exact HC0_3.out); (case side7 => exact zc_ (Kd.C_below HR1.out HB.out)); (case side8 => exact HC1.out); rintro e w24 ⟨rfl, hb⟩; refine ⟨_, rfl, ?_⟩; replace BK448 := Aside0.mk (blk_below (zb_ BK448.out) hb); replace HB := Aside0.mk (below_step (zh1_ HB.out GE448.out) hb); (try clear hb)))
   go_ret3
   exact ⟨by first | rfl | (simp [errW_none, errW_some] <;> rfl) | (simp [*, errW_none, errW_some] <;> rfl), by exact zh1_ HB.out GE448.out⟩
 ·rw [if_neg c4] at H
  obtain ⟨c4b0, c4b1⟩ := zq0 c4
  simp only [Option.some.injEq, Prod.mk.injEq] at H
  obtain ⟨rfl, rfl, rfl⟩ := H
  go_enter Tryd.func27, Tryd.ntmps27
  go_wp2_with (first | ((with_reducible refine gate_dst (N := 2) rfl ?_); refine box_event ?hg (N := 2) ?hd (cs := #[.bool a0_0, .slice A0_1 l0_1.length c0_1, .slice A0_2 l0_2.length c0_2, .slice A0_3 l0_3.length c0_3]) (t := 25) ?hr ?_; (case hd => rfl); (case hg => rfl); (case hr => first | (go_simp; done) | (go_simp; rfl)); intro gb448 hg w25 hbox hb; have BK448 := Aside0.mk (hbox); have GW448 := Aside0.mk ((by rw [hg]; exact (below_size (zh0_ HB.out)) : w.heap.size ≤ gb448)); have GE448 := Aside0.mk ((by rw [hg]; exact (below_size (zh0_ HB.out)) : w.heap.size ≤ gb448)); replace HB := Aside0.mk (below_step (zh0_ HB.out) hb); clear hb hbox hg; obtain ⟨hcz26_0, hcz26_1, hcz26_2, hcz26_3⟩ := zc4 BK448.out; obtain ⟨hfz26_0, hfz26_1, hfz26_2, hfz26_3⟩ := zz4 BK448.out) | ((with_reducible refine gate_callee (f := 11) rfl ?_); refine goesL_ (some 11) rfl rfl Tryd.func11 (by kernel_rfl) rfl #[.agg #[.bool a0_0, .slice A0_1 l0_1.length c0_1, .slice A0_2 l0_2.length c0_2, .slice A0_3 l0_3.length c0_3]] rfl zl_ ?_; (with_reducible refine (node_Check.calls k a0_0 _ _ l0_1 _ _ l0_2 _ _ l0_3 t449 _ ?side1 ?side2 ?side3 ?side4 ?side5 ?side6 A3.out).mono ?_); (case side1 => exact zc_ (Kd.C_below HR0_1.out HB.out)); (case side2 => exact HC0_1.out); (case side3 => exact zc_ (Kd.C_below HR0_2.out HB.out)); (case side4 => exact HC0_2.out); (case side5 => exact zc_ (Kd.C_below HR0_3.out HB.out)); (case side6 => exact HC0_3.out); rintro e w27 ⟨rfl, hb⟩; refine ⟨_, rfl, ?_⟩; replace BK448 := Aside0.mk (blk_below (zb_ BK448.out) hb); replace HB := Aside0.mk (below_step (zh1_ HB.out GE448.out) hb); (try clear hb)))
  go_ret3
  exact ⟨by first | rfl | (simp [errW_none, errW_some] <;> rfl) | (simp [*, errW_none, errW_some] <;> rfl), by exact zh1_ HB.out GE448.out⟩
theorem ladinglaw06_two.byte_reads (W : World) (g : Nat) (x : Int) (fr : Nat × Nat) (h : W.heap[g]? = some (.cells #[.int .u8 x] 5 fr)) : Kd.C (Kd.int .u8) W (some ⟨g, 0, none⟩) [x].length [x] := by
 refine ⟨rfl, by simp, fun _ => ⟨_, rfl, fun j p hj => ?_⟩⟩
 match j, hj with
 | 0, hj =>
  obtain rfl : x = p := by simpa using hj
  refine ⟨[.int .u8 x], rfl, rfl, fun i u hu => ?_⟩
  match i, hu with
  | 0, hu =>
   rw [show (⟨g, 0, none⟩ : Addr).add (0 * (Kd.int IntKind.u8).sz + 0) = ⟨g, 0, none⟩ by unfold Addr.add; rfl, cell_of_row W g 0 _ 5 fr h]
   exact hu
theorem ladinglaw06_two.pair_reads (W : World) (G g0 g1 : Nat) (x0 x1 : Int) (c0 c1 : Nat) (hc0 : 1 ≤ c0) (hc1 : 1 ≤ c1) (fr0 fr1 : Nat × Nat) (h : W.heap[G]? = some (.cells #[.slice (some ⟨g0, 0, none⟩) 1 c0, .slice (some ⟨g1, 0, none⟩) 1 c1] 26 (0, 0)))
  (h0 : W.heap[g0]? = some (.cells #[.int .u8 x0] 5 fr0)) (h1 : W.heap[g1]? = some (.cells #[.int .u8 x1] 5 fr1)) : Kd.C (Kd.slice 5 (Kd.int .u8)) W (some ⟨G, 0, none⟩) [[x0], [x1]].length [[x0], [x1]] := by
 refine ⟨rfl, by simp, fun _ => ⟨_, rfl, fun j p hj => ?_⟩⟩
 match j, hj with
 | 0, hj =>
  obtain rfl : [x0] = p := by simpa using hj
  refine ⟨[.slice (some ⟨g0, 0, none⟩) 1 c0], rfl, ⟨_, _, rfl, hc0, ladinglaw06_two.byte_reads W g0 x0 fr0 h0⟩, fun i u hu => ?_⟩
  match i, hu with
  | 0, hu =>
   rw [show (⟨G, 0, none⟩ : Addr).add (0 * (Kd.slice 5 (Kd.int IntKind.u8)).sz + 0) = ⟨G, 0, none⟩ by unfold Addr.add; rfl, cell_of_row W G 0 _ _ _ h]
   exact hu
 | 1, hj =>
  obtain rfl : [x1] = p := by simpa using hj
  refine ⟨[.slice (some ⟨g1, 0, none⟩) 1 c1], rfl, ⟨_, _, rfl, hc1, ladinglaw06_two.byte_reads W g1 x1 fr1 h1⟩, fun i u hu => ?_⟩
  match i, hu with
  | 0, hu =>
   rw [show (⟨G, 0, none⟩ : Addr).add (1 * (Kd.slice 5 (Kd.int IntKind.u8)).sz + 0) = ⟨G, 1, none⟩ by unfold Addr.add; rfl, cell_of_row W G 1 _ _ _ h]
   exact hu
theorem ladinglaw06_two.new_at {W : World} {b : Nat} {o : Obj} (h : W.heap.size = b) : (W.alloc o).heap[b]? = some o := by subst h; exact (MapKept.heap_alloc W o).1
theorem ladinglaw06_two.old_at {W : World} {b : Nat} {o o' : Obj} (h : W.heap[b]? = some o) : (W.alloc o').heap[b]? = some o := ((MapKept.heap_alloc W o').2 b (Array.getElem?_eq_some_iff.1 h).1).trans h
theorem ladinglaw06_two.size_at {W : World} {b : Nat} {o : Obj} (h : W.heap.size = b) : (W.alloc o).heap.size = b + 1 := by subst h; show (W.heap.push o).size = _; rw [Array.size_push]
def ladinglaw06_two.f : Option (Bool × (List (List Int)) × (List (List Int)) × List Int) := some (true, [[97], [98]], [[49], [50]], [])
set_option maxHeartbeats 4000000 in
set_option maxRecDepth 100000 in
theorem ladinglaw06_two.calls (r1 : Bool) (r2 : List (List Int)) (r3 : List (List Int)) (r4 : List Int) (w : World) (h : ladinglaw06_two.f = some (r1, r2, r3, r4)) :
  Calls Tryd.prog 28 #[] w fun e w' => ∃ v1_ v2_ v3_ : Value, e = .returned (.agg #[.bool r1, v1_, v2_, v3_]) ∧ Kd.V (Kd.slice 5 (Kd.int .u8)) 26 w' w.heap.size (fun k_ => (w.heap.size ≤ k_)) v1_ r2 ∧ Kd.V (Kd.slice 5 (Kd.int .u8)) 26 w' w.heap.size (fun k_ => (w.heap.size ≤ k_)) v2_ r3 ∧ Kd.V (Kd.int .i64) 3 w' w.heap.size (fun k_ => (w.heap.size ≤ k_)) v3_ r4 ∧ Below w.heap.size w w' := by
 have kc : ∀ (W : World) (b : Nat) (C : Array Value) (n c : Nat), W.heap.size = b → (convert 26 26 (.slice (some ⟨b, 0, none⟩) n c)).run Tryd.prog (W.alloc (.cells C 5)) = .ok (.slice (some ⟨b, 0, none⟩) n c) (W.alloc (.cells C 5 (C.size, C.size + 1))) := by
  rintro W _ C n c rfl
  exact Lib.run_convert_bytes_const (P := Tryd.prog) W 26 5 C n c Tryd.underlying26 Tryd.underlying5
 unfold ladinglaw06_two.f at h
 simp only [Option.some.injEq, Prod.mk.injEq] at h
 obtain ⟨rfl, rfl, rfl, rfl⟩ := h
 go_enter Tryd.func28, Tryd.ntmps28
 go_wp2
 refine bodyPost_ret (results_cell_row rfl _ _ w.heap.size 25 #[.bool true, .slice (some ⟨w.heap.size + 1 + 1 + 1, 0, none⟩) 2 2, .slice (some ⟨w.heap.size + 1 + 1 + 1 + 1 + 1 + 1, 0, none⟩) 2 2, .slice none 0 0] (0, 0) _ rfl (ladinglaw06_two.old_at (ladinglaw06_two.old_at (ladinglaw06_two.old_at (ladinglaw06_two.old_at (ladinglaw06_two.old_at (ladinglaw06_two.old_at (ladinglaw06_two.new_at rfl))))))) Tryd.underlying25 rfl (by kernel_rfl)) rfl ?_
 refine ⟨_, _, _, rfl, ⟨some ⟨w.heap.size + 1 + 1 + 1, 0, none⟩, 2, rfl, Nat.le_refl _, fun W' hW => ladinglaw06_two.pair_reads W' (w.heap.size + 1 + 1 + 1) (w.heap.size + 1) (w.heap.size + 1 + 1) 97 98 1 1 (Nat.le_refl _) (Nat.le_refl _) (1, 2) (1, 2) ((hW (w.heap.size + 1 + 1 + 1) (by omega) (Array.getElem?_eq_some_iff.1 (ladinglaw06_two.old_at (ladinglaw06_two.old_at (ladinglaw06_two.old_at (ladinglaw06_two.new_at (ladinglaw06_two.size_at (ladinglaw06_two.size_at (ladinglaw06_two.size_at rfl)))))))).1).trans (ladinglaw06_two.old_at (ladinglaw06_two.old_at (ladinglaw06_two.old_at (ladinglaw06_two.new_at (ladinglaw06_two.size_at (ladinglaw06_two.size_at (ladinglaw06_two.size_at rfl)))))))) ((hW (w.heap.size + 1) (by omega) (Array.getElem?_eq_some_iff.1 (ladinglaw06_two.old_at (ladinglaw06_two.old_at (ladinglaw06_two.old_at (ladinglaw06_two.old_at (ladinglaw06_two.old_at (ladinglaw06_two.new_at (ladinglaw06_two.size_at rfl)))))))).1).trans (ladinglaw06_two.old_at (ladinglaw06_two.old_at (ladinglaw06_two.old_at (ladinglaw06_two.old_at (ladinglaw06_two.old_at (ladinglaw06_two.new_at (ladinglaw06_two.size_at rfl)))))))) ((hW (w.heap.size + 1 + 1) (by omega) (Array.getElem?_eq_some_iff.1 (ladinglaw06_two.old_at (ladinglaw06_two.old_at (ladinglaw06_two.old_at (ladinglaw06_two.old_at (ladinglaw06_two.new_at (ladinglaw06_two.size_at (ladinglaw06_two.size_at rfl)))))))).1).trans (ladinglaw06_two.old_at (ladinglaw06_two.old_at (ladinglaw06_two.old_at (ladinglaw06_two.old_at (ladinglaw06_two.new_at (ladinglaw06_two.size_at (ladinglaw06_two.size_at rfl))))))))⟩, ⟨some ⟨w.heap.size + 1 + 1 + 1 + 1 + 1 + 1, 0, none⟩, 2, rfl, Nat.le_refl _, fun W' hW => ladinglaw06_two.pair_reads W' (w.heap.size + 1 + 1 + 1 + 1 + 1 + 1) (w.heap.size + 1 + 1 + 1 + 1) (w.heap.size + 1 + 1 + 1 + 1 + 1) 49 50 1 1 (Nat.le_refl _) (Nat.le_refl _) (1, 2) (1, 2) ((hW (w.heap.size + 1 + 1 + 1 + 1 + 1 + 1) (by omega) (Array.getElem?_eq_some_iff.1 (ladinglaw06_two.new_at (ladinglaw06_two.size_at (ladinglaw06_two.size_at (ladinglaw06_two.size_at (ladinglaw06_two.size_at (ladinglaw06_two.size_at (ladinglaw06_two.size_at rfl)))))))).1).trans (ladinglaw06_two.new_at (ladinglaw06_two.size_at (ladinglaw06_two.size_at (ladinglaw06_two.size_at (ladinglaw06_two.size_at (ladinglaw06_two.size_at (ladinglaw06_two.size_at rfl)))))))) ((hW (w.heap.size + 1 + 1 + 1 + 1) (by omega) (Array.getElem?_eq_some_iff.1 (ladinglaw06_two.old_at (ladinglaw06_two.old_at (ladinglaw06_two.new_at (ladinglaw06_two.size_at (ladinglaw06_two.size_at (ladinglaw06_two.size_at (ladinglaw06_two.size_at rfl)))))))).1).trans (ladinglaw06_two.old_at (ladinglaw06_two.old_at (ladinglaw06_two.new_at (ladinglaw06_two.size_at (ladinglaw06_two.size_at (ladinglaw06_two.size_at (ladinglaw06_two.size_at rfl)))))))) ((hW (w.heap.size + 1 + 1 + 1 + 1 + 1) (by omega) (Array.getElem?_eq_some_iff.1 (ladinglaw06_two.old_at (ladinglaw06_two.new_at (ladinglaw06_two.size_at (ladinglaw06_two.size_at (ladinglaw06_two.size_at (ladinglaw06_two.size_at (ladinglaw06_two.size_at rfl)))))))).1).trans (ladinglaw06_two.old_at (ladinglaw06_two.new_at (ladinglaw06_two.size_at (ladinglaw06_two.size_at (ladinglaw06_two.size_at (ladinglaw06_two.size_at (ladinglaw06_two.size_at rfl))))))))⟩, ⟨none, 0, rfl, Nat.le_refl _, fun W' _ => Kd.C_nil _ _⟩, ?_⟩
 exact below_alloc (below_alloc (below_alloc (below_alloc (below_alloc (below_alloc (below_alloc (Below.refl _ _) _) _) _) _) _) _) _
def slices_Clone_int_int.f (l0 : List Int) : Option (List Int) := if l0.length * 8 ≤ 140737488355328 then some l0 else none
set_option maxHeartbeats 4000000 in
set_option maxRecDepth 100000 in
theorem slices_Clone_int_int.calls (A0 : Option Addr) (c0 : Nat) (l0 : List (Int)) (r : List (Int)) (w : World) (hr0 : Kd.C (Kd.int .i64) w A0 l0.length l0) (hc0 : l0.length ≤ c0) (h : slices_Clone_int_int.f l0 = some r) :
  Calls Tryd.prog 77 #[.slice A0 l0.length c0] w fun e w' => ∃ v0_ : Value, e = .returned v0_ ∧ Kd.R (Kd.int .i64) 3 w' w.heap.size (fun _ => True) v0_ r ∧ Below w.heap.size w w' := by
 unfold slices_Clone_int_int.f at h
 split at h
 case isFalse => cases h
 case isTrue hbig =>
 obtain rfl := Option.some.inj h
 have qS : ∀ (w : World) (a : Option Addr) (n c : Nat), (binOp .eql 23 (.slice a n c) (.slice none 0 0)).run Tryd.prog w = .ok (.bool a.isNone) w := fun w a n c => Lib.run_eql_slice_nil w _ _ a n c 0 0 Tryd.underlying23
 have HR := Aside0.mk hr0
 have HC := Aside0.mk hc0
 cases A0 with
 | none =>
  have hn : l0.length = 0 := by
   rcases Nat.eq_zero_or_pos l0.length with h0 | h0
   ·exact h0
   ·obtain ⟨_, h, _⟩ := hr0.2.2 h0; cases h
  obtain rfl : l0 = [] := List.eq_nil_of_length_eq_zero hn
  clear hr0 hc0 hn
  go_enter Tryd.func77, Tryd.ntmps77
  go_wp2
  go_ret
  exact ⟨_, rfl, Kd.R_nil _ _ _ _ _, Below.refl _ _⟩
 | some ad =>
  clear hr0 hc0
  obtain ⟨W1, hW1⟩ : ∃ W1, W1 = w.alloc (.cells #[] 3) := ⟨_, rfl⟩
  have hO : Kd.R (Kd.int .i64) 3 W1 w.heap.size (fun _ => True) (.slice (some ⟨w.heap.size, 0, none⟩) 0 0) [] := by
   refine ⟨fun _ _ => trivial, [], ⟨rfl, .inr ⟨w.heap.size, 0, #[], rfl, Nat.le_refl _, ?_, Nat.le_refl _, by simp only [maxLen]; omega, rfl, rfl⟩⟩, Reps.none _ _⟩
   rw [hW1]; exact heap_alloc_new w _
  have hB : Below w.heap.size w W1 := by rw [hW1]; exact below_alloc (Below.refl _ _) _
  have HO := Aside0.mk hO
  have HB := Aside0.mk hB
  have HS : Aside0 (w.heap.size ≤ W1.heap.size) := ⟨hB.size⟩
  have HC1 : Aside0 (Kd.C (Kd.int .i64) W1 (some ad) l0.length l0) := ⟨Kd.C_below HR.out hB⟩
  clear hO hB
  subst hW1
  go_enter Tryd.func77, Tryd.ntmps77
  go_wp2_with (at_builtin; (refine Kd.R_append_rows (Kd.int .i64) (w0 := w) w.heap.size rfl _ _ 23 3 _ 8 rfl Tryd.underlying23 info3 rfl (by decide) (by decide) _ [] l0 (some ad) l0.length c0 (fun _ => True) (fun _ => False) rfl rfl HO.out HC1.out (fun x cs hK => hK) (fun _ hk => hk.elim) (fun _ _ => trivial) HB.out HS.out (by simpa using hbig) ?_); rintro v1 w1 ho hb hg hat)
  go_ret
  exact ⟨v1, rfl, ho, hb⟩
end Go.Proofs.YtcbgichkeecgiaaDoor.Print
namespace Go.Proofs.YtcbgichkeecgiaaDoor.Print
open Go.RowKit Go.Proofs.YtcbgichkeecgiaaDoorW.PrintWords Go.Proofs.YtcbgichkeecgiaaDoorW.PrintLast Go.Proofs.YtcbgichkeecgiaaDoorW.PrintMore
attribute [local go_sem] max2_mx min2_mn max_two min_two max_three min_three max_four min_four
set_option linter.unusedVariables false
set_option linter.unusedSimpArgs false
mutual
def node_own.l0 : Nat → List (List Int) → Int → Int → Bool → List (List Int) → List (List Int) → List Int → Bool → List (List Int) → List Int → Option (Bool × (List (List Int)) × (List (List Int)) × List Int)
 | 0, _, _, _, _, _, _, _, _, _, _ => none
 | k + 1, x15, x16, x17, x453000, x453001, x453002, x453003, x458000, x458001, x458003 => if x17 < x16 then (if 0 ≤ x17 then (if x17 < (x15.length : Int) then ((bytes_Clone.f (rd_L1 x15 x17)).bind fun t459 => (if x458001.length < 5864062014805 then (node_own.l0 k x15 x16 (wrap64 (x17 + 1)) x453000 x453001 x453002 x453003 x458000 (x458001 ++ [t459]) x458003) else (none))) else (none)) else (none)) else (node_own.l1 k x453002 (x453002.length : Int) 0 x458000 x458001 ([] : List (List Int)) x458003)
def node_own.l1 : Nat → List (List Int) → Int → Int → Bool → List (List Int) → List (List Int) → List Int → Option (Bool × (List (List Int)) × (List (List Int)) × List Int)
 | 0, _, _, _, _, _, _, _ => none
 | k + 1, x30, x31, x32, x458000, x458001, x458002, x458003 => if x32 < x31 then (if 0 ≤ x32 then (if x32 < (x30.length : Int) then ((bytes_Clone.f (rd_L1 x30 x32)).bind fun t466 => (if x458002.length < 5864062014805 then (node_own.l1 k x30 x31 (wrap64 (x32 + 1)) x458000 x458001 (x458002 ++ [t466]) x458003) else (none))) else (none)) else (none)) else (some (x458000, x458001, x458002, x458003))
end
def node_own.f (k : Nat) (a0_0 : Bool) (l0_1 : List (List Int)) (l0_2 : List (List Int)) (l0_3 : List Int) : Option (Bool × (List (List Int)) × (List (List Int)) × List Int) := (slices_Clone_int_int.f l0_3).bind fun t454 => (node_own.l0 k l0_1 (l0_1.length : Int) 0 a0_0 l0_1 l0_2 l0_3 a0_0 ([] : List (List Int)) t454)
def node_own.T1 : Bool × List (List Nat × List Nat) := (true, [([], []), ([0], [0]), ([], []), ([2], [2]), ([3], [3]), ([1, 4], [1, 4]), ([], []), ([6, 5, 4, 0, 1, 2, 3, 4, 5, 6], [5, 6])])
def node_own.B1 : List Nat := [0, 1, 0, 4, 12, 31, 0, 127]
theorem node_own.tab1 : rtab .any (opsOf Tryd.f54 1) = node_own.T1 := by kernel_rfl
theorem node_own.bits1 : waitsOk node_own.T1.2 node_own.B1 = true := by kernel_rfl
def node_own.T5 : Bool × List (List Nat × List Nat) := (true, [([], []), ([0], [0]), ([], []), ([2], [2]), ([3], [3]), ([1, 4, 3], [1, 4]), ([0, 1, 2, 3, 4, 5], []), ([6, 5, 5, 0, 1, 2, 3, 4, 5], [5, 6])])
def node_own.B5 : List Nat := [0, 1, 0, 4, 12, 31, 63, 127]
theorem node_own.tab5 : rtab .any (opsOf Tryd.f54 5) = node_own.T5 := by kernel_rfl
theorem node_own.bits5 : waitsOk node_own.T5.2 node_own.B5 = true := by kernel_rfl
def node_own.T10 : Bool × List (List Nat × List Nat) := (true, [([], []), ([0], [0]), ([], []), ([2], [2]), ([3], [3]), ([1, 4, 3], [1, 4]), ([0, 1, 2, 3, 4, 5], []), ([6, 5, 5, 0, 1, 2, 3, 4, 5], [5, 6])])
def node_own.B10 : List Nat := [0, 1, 0, 4, 12, 31, 63, 127]
theorem node_own.tab10 : rtab .any (opsOf Tryd.f54 10) = node_own.T10 := by kernel_rfl
theorem node_own.bits10 : waitsOk node_own.T10.2 node_own.B10 = true := by kernel_rfl
set_option maxHeartbeats 8000000 in
set_option maxRecDepth 100000 in
theorem node_own.calls (k : Nat) (a0_0 : Bool) (A0_1 : Option Addr) (c0_1 : Nat) (l0_1 : List (List Int)) (A0_2 : Option Addr) (c0_2 : Nat) (l0_2 : List (List Int)) (A0_3 : Option Addr) (c0_3 : Nat) (l0_3 : List Int) (r1 : Bool) (r2 : List (List Int)) (r3 : List (List Int)) (r4 : List Int) (w : World) (hr0_1 : Kd.C (Kd.slice 5 (Kd.int .u8)) w A0_1 l0_1.length l0_1) (hc0_1 : l0_1.length ≤ c0_1) (hr0_2 : Kd.C (Kd.slice 5 (Kd.int .u8)) w A0_2 l0_2.length l0_2) (hc0_2 : l0_2.length ≤ c0_2) (hr0_3 : Kd.C (Kd.int .i64) w A0_3 l0_3.length l0_3) (hc0_3 : l0_3.length ≤ c0_3) (h : node_own.f k a0_0 l0_1 l0_2 l0_3 = some (r1, r2, r3, r4)) :
  Calls Tryd.prog 54 #[.agg #[.bool a0_0, .slice A0_1 l0_1.length c0_1, .slice A0_2 l0_2.length c0_2, .slice A0_3 l0_3.length c0_3]] w fun e w' => ∃ v1_ v2_ v3_ : Value, e = .returned (.agg #[.bool r1, v1_, v2_, v3_]) ∧ Kd.S (Kd.slice 5 (Kd.int .u8)) 26 w' w.heap.size (fun k_ => some k_ ≠ (v2_ : Value).ownBlock) v1_ r2 ∧ Kd.S (Kd.slice 5 (Kd.int .u8)) 26 w' w.heap.size (fun k_ => some k_ ≠ (v1_ : Value).ownBlock) v2_ r3 ∧ Kd.R (Kd.int .i64) 3 w' w.heap.size (fun _ => True) v3_ r4 ∧ Below w.heap.size w w' := by
 have hu25 := Tryd.underlying25
 have HR0_1 := Aside0.mk hr0_1
 have HC0_1 := Aside0.mk hc0_1
 clear hr0_1 hc0_1
 have HR0_2 := Aside0.mk hr0_2
 have HC0_2 := Aside0.mk hc0_2
 clear hr0_2 hc0_2
 have HR0_3 := Aside0.mk hr0_3
 have HC0_3 := Aside0.mk hc0_3
 clear hr0_3 hc0_3
 have HB := Aside0.mk (Below.refl w.heap.size w)
 have H : ((slices_Clone_int_int.f l0_3).bind fun t454 => (node_own.l0 k l0_1 (l0_1.length : Int) 0 a0_0 l0_1 l0_2 l0_3 a0_0 ([] : List (List Int)) t454)) = some (r1, r2, r3, r4) := h
 clear h
 obtain ⟨t454, A2, H⟩ := zm H
 (try dsimp only at H)
 have H' := Aside0.mk H
 clear H
 go_enter Tryd.func54, Tryd.ntmps54
 try go_wp2_with (first | ((with_reducible refine gate_dst (N := 1) rfl ?_); refine box_event ?hg (N := 1) ?hd (cs := #[.bool a0_0, .slice A0_1 l0_1.length c0_1, .slice A0_2 l0_2.length c0_2, .slice A0_3 l0_3.length c0_3]) (t := 25) ?hr ?_; (case hd => rfl); (case hg => rfl); (case hr => first | (go_simp; done) | (go_simp; rfl)); intro gb452 hg w3 hbox hb; have BK452 := Aside0.mk (hbox); have GW452 := Aside0.mk ((by rw [hg]; exact (below_size (zh0_ HB.out)) : w.heap.size ≤ gb452)); have GE452 := Aside0.mk ((by rw [hg]; exact (below_size (zh0_ HB.out)) : w.heap.size ≤ gb452)); replace HB := Aside0.mk (below_step (zh0_ HB.out) hb); clear hb hbox hg) | ((with_reducible refine gate_dst (N := 2) rfl ?_); refine box_event ?hg (N := 2) ?hd (cs := #[.bool false, .slice none 0 0, .slice none 0 0, .slice none 0 0]) (t := 25) ?hr ?_; (case hd => rfl); (case hg => rfl); (case hr => first | (go_simp; done) | (go_simp; rfl)); intro gb453 hg w4 hbox hb; have BK453 := Aside0.mk (hbox); have GW453 := Aside0.mk ((by rw [hg]; exact (below_size (zh1_ HB.out GE452.out)) : w.heap.size ≤ gb453)); have GE453 := Aside0.mk ((by rw [hg]; exact (below_size (zh1_ HB.out GE452.out)) : w.heap.size ≤ gb453)); replace HB := Aside0.mk (below_step (zh1_ HB.out GE452.out) hb); have NB452_453 := Aside0.mk ((by rw [hg]; exact Nat.ne_of_lt (blk_lt (zb_ BK452.out)) : gb452 ≠ gb453)); have NB453_452 := Aside0.mk ((by rw [hg]; exact Nat.ne_of_gt (blk_lt (zb_ BK452.out)) : gb453 ≠ gb452)); replace BK452 := Aside0.mk (blk_below (zb_ BK452.out) hb); clear hb hbox hg))
 have n0_ := Aside0.mk (blk_drew BK452.out)
 have n1_ := Aside0.mk (blk_drew BK453.out)
 have n2_ := Aside0.mk (below_drew1 HB.out)
 clear BK452 BK453 HB
 have BK452 := n0_
 have BK453 := n1_
 have HB := n2_
 clear n0_ n1_ n2_
 refine start_ (n := 8) (S := fun w' => w'.cell? ⟨gb452, 0, none⟩ = some (.bool a0_0) ∧ w'.cell? ⟨gb452, 1, none⟩ = some (.slice A0_1 l0_1.length c0_1) ∧ w'.cell? ⟨gb452, 2, none⟩ = some (.slice A0_2 l0_2.length c0_2) ∧ w'.cell? ⟨gb452, 3, none⟩ = some (.slice A0_3 l0_3.length c0_3)) (ds := []) (zB 0 8) (by kernel_rfl) rfl rfl ⟨(blk_cell BK452.out 0).trans rfl, (blk_cell BK452.out 1).trans rfl, (blk_cell BK452.out 2).trans rfl, (blk_cell BK452.out 3).trans rfl⟩ (fun hHeld => ?_); refine with_tabW node_own.tab1 node_own.bits1 (fun HT_ HW_ => ?_)
 generalize w4.drew = w5 at BK452 BK453 HB hHeld ⊢
 refine zpu 0 (some 8) (zB 1 7) (any_of HT_.out (by kernel_rfl)) ?_
 refine zpu 2 (some 10) #[true, false, true, false, false, false, false, false] (any_of HT_.out (by kernel_rfl)) ?_
 refine zta 1 (some 9) (zB 3 5) (take_ofW HT_.out HW_.out (by kernel_rfl)) hHeld ?_
 refine zta 3 (some 11) (zB 4 4) (take_ofW HT_.out HW_.out (by kernel_rfl)) hHeld ?_
 refine join_ (σ := Value × Nat) 1 (zB 7 1) (fun s_ => [(12, s_.1), (3, .pointer (some ⟨s_.2, 0, none⟩)), (13, .agg #[.bool a0_0, .slice none 0 0, .slice none 0 0, s_.1])]) (fun s_ w' => (w'.cell? ⟨gb452, 0, none⟩ = some (.bool a0_0) ∧ w'.cell? ⟨gb452, 1, none⟩ = some (.slice A0_1 l0_1.length c0_1) ∧ w'.cell? ⟨gb452, 2, none⟩ = some (.slice A0_2 l0_2.length c0_2) ∧ w'.cell? ⟨gb452, 3, none⟩ = some (.slice A0_3 l0_3.length c0_3)) ∧ (Kd.R (Kd.int .i64) 3 w' w.heap.size (fun _ => True) s_.1 t454) ∧ (w'.heap[gb452]? = some (.cells #[.bool a0_0, .slice A0_1 l0_1.length c0_1, .slice A0_2 l0_2.length c0_2, .slice A0_3 l0_3.length c0_3] 25 (0, 0))) ∧ (w'.heap[gb453]? = some (.cells #[.bool false, .slice none 0 0, .slice none 0 0, .slice none 0 0] 25 (0, 0))) ∧ (w'.heap[s_.2]? = some (.cells #[.bool false, .slice none 0 0, .slice none 0 0, .slice none 0 0] 25 (0, 0))) ∧ (w.heap.size ≤ s_.2) ∧ (w.heap.size ≤ s_.2) ∧ (gb452 ≠ s_.2) ∧ (s_.2 ≠ gb452) ∧ (gb453 ≠ s_.2) ∧ (s_.2 ≠ gb453) ∧ (Below w.heap.size w w')) ?_ ?_
 rotate_left
 ·intro hCont
  refine two_ (i := 4) (j := 6) (Ni := some 12) (Nj := some 3) (zB 5 3) #[true, true, true, true, false, false, true, false] rfl rfl rfl rfl (two_of HT_.out (by kernel_rfl)) (by decide) (by decide) (fun K hK => ?_) (fun K hK => ?_)
  ·skip
   refine goes_ Tryd.func77 (by kernel_rfl) rfl #[.slice A0_3 l0_3.length c0_3] (by rfl) rfl rfl zl_ ?_
   with_reducible refine (slices_Clone_int_int.calls _ _ l0_3 t454 _ ?side1 ?side2 A2.out).mono ?_
   (case side1 => exact zc_ (Kd.C_below HR0_3.out HB.out))
   (case side2 => exact HC0_3.out)
   rintro e w6 ⟨v455, rfl, ho0, hb⟩
   refine ⟨_, rfl, ?_⟩
   have n0_ := Aside0.mk (Kd.R_lower ho0 (below_size (zh2_ HB.out GE452.out GE453.out)))
   have n1_ := Aside0.mk (blk_below (zb_ BK452.out) hb)
   have n2_ := Aside0.mk (blk_below (zb_ BK453.out) hb)
   have n3_ := Aside0.mk (below_step (zh2_ HB.out GE452.out GE453.out) hb)
   clear BK452 BK453 HB
   have HO456 := n0_
   have BK452 := n1_
   have BK453 := n2_
   have HB := n3_
   clear n0_ n1_ n2_ n3_
   (try clear hb)
   (try clear hb2)
   (try clear hk)
   (try clear hi)
   (try clear ho0)
   obtain ⟨Ao7, co7, eo7⟩ := Kd.R_slice HO456.out
   (first | subst eo7 | (injection eo7 with f1_ f2_ f3_; have f4_ := f1_.symm; have f5_ := f3_.symm; clear f1_ f2_ f3_; subst f4_; subst f5_))
   refine hK.out _ _ ⟨(blk_cell BK452.out 0).trans rfl, (blk_cell BK452.out 1).trans rfl, (blk_cell BK452.out 2).trans rfl, (blk_cell BK452.out 3).trans rfl⟩ (fun hHeld => ?_)
   clear hK K
   refine zno 12 ?_
   refine zpu 5 (some 13) (zB 6 2) (any_of HT_.out (by kernel_rfl)) ?_
   refine one_ (i := 6) (N := some 3) (zB 7 1) rfl rfl (one_of HT_.out (by kernel_rfl)) (by decide) (fun K hK => ?_)
   refine box_step ?hg (N := 3) ?hd (cs := #[.bool false, .slice none 0 0, .slice none 0 0, .slice none 0 0]) (t := 25) ?hr ?_; (case hd => rfl); (case hg => rfl); (case hr => first | (go_simp; done) | (go_simp; rfl))
   intro gb457 hg w8 hbox hb
   have n0_ := Aside0.mk (Kd.R_below (zR_ HO456.out) hb)
   have n1_ := Aside0.mk (blk_below (zb_ BK452.out) hb)
   have n2_ := Aside0.mk (blk_below (zb_ BK453.out) hb)
   have n3_ := Aside0.mk (below_step (zh2_ HB.out GE452.out GE453.out) hb)
   have n4_ := Aside0.mk (hbox)
   have n5_ := Aside0.mk ((by rw [hg]; exact (below_size (zh2_ HB.out GE452.out GE453.out)) : w.heap.size ≤ gb457))
   have n6_ := Aside0.mk ((by rw [hg]; exact (below_size (zh2_ HB.out GE452.out GE453.out)) : w.heap.size ≤ gb457))
   have n7_ := Aside0.mk ((by rw [hg]; exact Nat.ne_of_lt (blk_lt (zb_ BK452.out)) : gb452 ≠ gb457))
   have n8_ := Aside0.mk ((by rw [hg]; exact Nat.ne_of_gt (blk_lt (zb_ BK452.out)) : gb457 ≠ gb452))
   have n9_ := Aside0.mk ((by rw [hg]; exact Nat.ne_of_lt (blk_lt (zb_ BK453.out)) : gb453 ≠ gb457))
   have n10_ := Aside0.mk ((by rw [hg]; exact Nat.ne_of_gt (blk_lt (zb_ BK453.out)) : gb457 ≠ gb453))
   clear HO456 BK452 BK453 HB
   have HO456 := n0_
   have BK452 := n1_
   have BK453 := n2_
   have HB := n3_
   have BK457 := n4_
   have GW457 := n5_
   have GE457 := n6_
   have NB452_457 := n7_
   have NB457_452 := n8_
   have NB453_457 := n9_
   have NB457_453 := n10_
   clear n0_ n1_ n2_ n3_ n4_ n5_ n6_ n7_ n8_ n9_ n10_ hb hbox hg
   refine hK.out _ _ ⟨(blk_cell BK452.out 0).trans rfl, (blk_cell BK452.out 1).trans rfl, (blk_cell BK452.out 2).trans rfl, (blk_cell BK452.out 3).trans rfl⟩ (fun hHeld => ?_)
   clear hK K
   refine zno 3 ?_
   exact norm_ (by simp only [putAll, Act.put, zt0, zt1, zt2]) (hCont (.slice Ao7 t454.length co7, gb457) _ ⟨hHeld, (zR_ HO456.out), (zb_ BK452.out), (zb_ BK453.out), (zb_ BK457.out), GW457.out, GE457.out, NB452_457.out, NB457_452.out, NB453_457.out, NB457_453.out, (zh3_ HB.out GE452.out GE453.out GE457.out)⟩)
  ·skip
   refine box_step ?hg (N := 3) ?hd (cs := #[.bool false, .slice none 0 0, .slice none 0 0, .slice none 0 0]) (t := 25) ?hr ?_; (case hd => rfl); (case hg => rfl); (case hr => first | (go_simp; done) | (go_simp; rfl))
   intro gb457 hg w6 hbox hb
   have n0_ := Aside0.mk (blk_below (zb_ BK452.out) hb)
   have n1_ := Aside0.mk (blk_below (zb_ BK453.out) hb)
   have n2_ := Aside0.mk (below_step (zh2_ HB.out GE452.out GE453.out) hb)
   have n3_ := Aside0.mk (hbox)
   have n4_ := Aside0.mk ((by rw [hg]; exact (below_size (zh2_ HB.out GE452.out GE453.out)) : w.heap.size ≤ gb457))
   have n5_ := Aside0.mk ((by rw [hg]; exact (below_size (zh2_ HB.out GE452.out GE453.out)) : w.heap.size ≤ gb457))
   have n6_ := Aside0.mk ((by rw [hg]; exact Nat.ne_of_lt (blk_lt (zb_ BK452.out)) : gb452 ≠ gb457))
   have n7_ := Aside0.mk ((by rw [hg]; exact Nat.ne_of_gt (blk_lt (zb_ BK452.out)) : gb457 ≠ gb452))
   have n8_ := Aside0.mk ((by rw [hg]; exact Nat.ne_of_lt (blk_lt (zb_ BK453.out)) : gb453 ≠ gb457))
   have n9_ := Aside0.mk ((by rw [hg]; exact Nat.ne_of_gt (blk_lt (zb_ BK453.out)) : gb457 ≠ gb453))
   clear BK452 BK453 HB
   have BK452 := n0_
   have BK453 := n1_
   have HB := n2_
   have BK457 := n3_
   have GW457 := n4_
   have GE457 := n5_
   have NB452_457 := n6_
   have NB457_452 := n7_
   have NB453_457 := n8_
   have NB457_453 := n9_
   clear n0_ n1_ n2_ n3_ n4_ n5_ n6_ n7_ n8_ n9_ hb hbox hg
   refine hK.out _ _ ⟨(blk_cell BK452.out 0).trans rfl, (blk_cell BK452.out 1).trans rfl, (blk_cell BK452.out 2).trans rfl, (blk_cell BK452.out 3).trans rfl⟩ (fun hHeld => ?_)
   clear hK K
   refine zno 3 ?_
   refine one_ (i := 4) (N := some 12) #[true, true, true, true, true, false, true, false] rfl rfl (one_of HT_.out (by kernel_rfl)) (by decide) (fun K hK => ?_)
   refine goes_ Tryd.func77 (by kernel_rfl) rfl #[.slice A0_3 l0_3.length c0_3] (by rfl) rfl rfl zl_ ?_
   with_reducible refine (slices_Clone_int_int.calls _ _ l0_3 t454 _ ?side1 ?side2 A2.out).mono ?_
   (case side1 => exact zc_ (Kd.C_below HR0_3.out HB.out))
   (case side2 => exact HC0_3.out)
   rintro e w7 ⟨v455, rfl, ho0, hb⟩
   refine ⟨_, rfl, ?_⟩
   have n0_ := Aside0.mk (Kd.R_lower ho0 (below_size (zh3_ HB.out GE452.out GE453.out GE457.out)))
   have n1_ := Aside0.mk (blk_below (zb_ BK452.out) hb)
   have n2_ := Aside0.mk (blk_below (zb_ BK453.out) hb)
   have n3_ := Aside0.mk (blk_below (zb_ BK457.out) hb)
   have n4_ := Aside0.mk (below_step (zh3_ HB.out GE452.out GE453.out GE457.out) hb)
   clear BK452 BK453 BK457 HB
   have HO456 := n0_
   have BK452 := n1_
   have BK453 := n2_
   have BK457 := n3_
   have HB := n4_
   clear n0_ n1_ n2_ n3_ n4_
   (try clear hb)
   (try clear hb2)
   (try clear hk)
   (try clear hi)
   (try clear ho0)
   obtain ⟨Ao8, co8, eo8⟩ := Kd.R_slice HO456.out
   (first | subst eo8 | (injection eo8 with f1_ f2_ f3_; have f4_ := f1_.symm; have f5_ := f3_.symm; clear f1_ f2_ f3_; subst f4_; subst f5_))
   refine hK.out _ _ ⟨(blk_cell BK452.out 0).trans rfl, (blk_cell BK452.out 1).trans rfl, (blk_cell BK452.out 2).trans rfl, (blk_cell BK452.out 3).trans rfl⟩ (fun hHeld => ?_)
   clear hK K
   refine zno 12 ?_
   refine zpu 5 (some 13) (zB 7 1) (any_of HT_.out (by kernel_rfl)) ?_
   exact norm_ (by simp only [putAll, Act.put, zt0, zt1, zt2]) (hCont (.slice Ao8 t454.length co8, gb457) _ ⟨hHeld, (zR_ HO456.out), (zb_ BK452.out), (zb_ BK453.out), (zb_ BK457.out), GW457.out, GE457.out, NB452_457.out, NB457_452.out, NB453_457.out, NB457_453.out, (zh3_ HB.out GE452.out GE453.out GE457.out)⟩)
 rintro ⟨v455, gb457⟩ w9 ⟨hS_, h0_, h1_, h2_, h3_, h4_, h5_, h6_, h7_, h8_, h9_, h10_⟩
 have n0_ : Aside0 (Kd.R (Kd.int .i64) 3 w9 w.heap.size (fun _ => True) v455 t454) := ⟨h0_⟩
 have n1_ : Aside0 (w9.heap[gb452]? = some (.cells #[.bool a0_0, .slice A0_1 l0_1.length c0_1, .slice A0_2 l0_2.length c0_2, .slice A0_3 l0_3.length c0_3] 25 (0, 0))) := ⟨h1_⟩
 have n2_ : Aside0 (w9.heap[gb453]? = some (.cells #[.bool false, .slice none 0 0, .slice none 0 0, .slice none 0 0] 25 (0, 0))) := ⟨h2_⟩
 have n3_ : Aside0 (w9.heap[gb457]? = some (.cells #[.bool false, .slice none 0 0, .slice none 0 0, .slice none 0 0] 25 (0, 0))) := ⟨h3_⟩
 have n4_ : Aside0 (w.heap.size ≤ gb457) := ⟨h4_⟩
 have n5_ : Aside0 (w.heap.size ≤ gb457) := ⟨h5_⟩
 have n6_ : Aside0 (gb452 ≠ gb457) := ⟨h6_⟩
 have n7_ : Aside0 (gb457 ≠ gb452) := ⟨h7_⟩
 have n8_ : Aside0 (gb453 ≠ gb457) := ⟨h8_⟩
 have n9_ : Aside0 (gb457 ≠ gb453) := ⟨h9_⟩
 have n10_ : Aside0 (Below w.heap.size w w9) := ⟨h10_⟩
 clear BK452 BK453 HB h0_ h1_ h2_ h3_ h4_ h5_ h6_ h7_ h8_ h9_ h10_
 have HO456 := n0_
 have BK452 := n1_
 have BK453 := n2_
 have BK457 := n3_
 have GW457 := n4_
 have GE457 := n5_
 have NB452_457 := n6_
 have NB457_452 := n7_
 have NB453_457 := n8_
 have NB457_453 := n9_
 have HB := n10_
 clear n0_ n1_ n2_ n3_ n4_ n5_ n6_ n7_ n8_ n9_ n10_
 have hHeld : w9.cell? ⟨gb452, 0, none⟩ = some (.bool a0_0) ∧ w9.cell? ⟨gb452, 1, none⟩ = some (.slice A0_1 l0_1.length c0_1) ∧ w9.cell? ⟨gb452, 2, none⟩ = some (.slice A0_2 l0_2.length c0_2) ∧ w9.cell? ⟨gb452, 3, none⟩ = some (.slice A0_3 l0_3.length c0_3) := hS_
 obtain ⟨Ao10, co10, eo10⟩ := Kd.R_slice HO456.out
 (first | subst eo10 | (injection eo10 with f1_ f2_ f3_; have f4_ := f1_.symm; have f5_ := f3_.symm; clear f1_ f2_ f3_; subst f4_; subst f5_))
 refine norm_ (a' := ?_) ?_ ?_
 rotate_left
 ·simp only [putAll, Act.put, zt0, zt1, zt2]
  rfl
 refine one_ (i := 7) (N := none) (zB 8 0) rfl rfl (one_of HT_.out (by kernel_rfl)) (by decide) (fun K hK => ?_)
 have hs11 : w9.cell? ⟨gb457, 0, none⟩ = some (.bool false) := (blk_cell BK457.out 0).trans rfl
 have hfs11 := blk_frozen BK457.out 0
 have hns11_0 := NB452_457.out
 have hns11_1 := NB453_457.out
 have hms11_0 := NB457_452.out
 have hms11_1 := NB457_453.out
 have hs12 : w9.cell? ⟨gb457, 1, none⟩ = some (.slice none 0 0) := (blk_cell BK457.out 1).trans rfl
 have hfs12 := blk_frozen BK457.out 1
 have hns12_0 := NB452_457.out
 have hns12_1 := NB453_457.out
 have hms12_0 := NB457_452.out
 have hms12_1 := NB457_453.out
 have hs13 : w9.cell? ⟨gb457, 2, none⟩ = some (.slice none 0 0) := (blk_cell BK457.out 2).trans rfl
 have hfs13 := blk_frozen BK457.out 2
 have hns13_0 := NB452_457.out
 have hns13_1 := NB453_457.out
 have hms13_0 := NB457_452.out
 have hms13_1 := NB457_453.out
 have hs14 : w9.cell? ⟨gb457, 3, none⟩ = some (.slice none 0 0) := (blk_cell BK457.out 3).trans rfl
 have hfs14 := blk_frozen BK457.out 3
 have hns14_0 := NB452_457.out
 have hns14_1 := NB453_457.out
 have hms14_0 := NB457_452.out
 have hms14_1 := NB457_453.out
 refine skip_ (w1 := ?_) (by rfl) rfl ?_ ?_
 rotate_left
 ·go_simp
  rfl
 refine hK.out _ _ ⟨(zk4 NB452_457.out (hHeld.1)), (zk4 NB452_457.out (hHeld.2.1)), (zk4 NB452_457.out (hHeld.2.2.1)), (zk4 NB452_457.out (hHeld.2.2.2))⟩ (fun hHeld => ?_)
 clear hK K
 refine done_ (done_of HT_.out (by kernel_rfl)) ?_
 have hnb15 := NB452_453.out
 have hnc15 := NB453_452.out
 have hnb16 := NB452_457.out
 have hnc16 := NB457_452.out
 obtain ⟨hcz17_0, hcz17_1, hcz17_2, hcz17_3⟩ := zc4 BK452.out
 obtain ⟨hfz17_0, hfz17_1, hfz17_2, hfz17_3⟩ := zz4 BK452.out
 try go_wp2
 go_loopg [17] k (fun kq v17 w' => ∃ (x17_1 : Int) (x458001_1 : List (List Int)) (u458001 : Value), v17 = .int .i64 x17_1 ∧ Aside0 (node_own.l0 kq l0_1 (l0_1.length : Int) x17_1 a0_0 l0_1 l0_2 l0_3 a0_0 x458001_1 t454 = some (r1, r2, r3, r4)) ∧ Aside0 (kq ≤ k) ∧ Aside0 (Kd.S (Kd.slice 5 (Kd.int .u8)) 26 w' w.heap.size (fun _ => True) u458001 x458001_1) ∧ Aside0 (Kd.R (Kd.int .i64) 3 w' w.heap.size (fun _ => True) (.slice Ao10 t454.length co10) t454) ∧ Aside0 (w'.heap[gb452]? = some (.cells #[.bool a0_0, (.slice A0_1 l0_1.length c0_1), (.slice A0_2 l0_2.length c0_2), (.slice A0_3 l0_3.length c0_3)] 25 (0, 0))) ∧ Aside0 (w'.heap[gb453]? = some (.cells #[.bool false, (.slice none 0 0), (.slice none 0 0), (.slice none 0 0)] 25 (0, 0))) ∧ Aside0 (w'.heap[gb457]? = some (.cells #[.bool a0_0, u458001, (.slice none 0 0), (.slice Ao10 t454.length co10)] 25 (0, 0))) ∧ Aside0 (Below w.heap.size w w'))
 case atStart => exact ⟨(0), (([] : List (List Int))), (.slice none 0 0), (by first | rfl | (simp; done) | (simp [*]; done) | (simp only [i64_w]; done)), H', ⟨Nat.le_refl _⟩, ⟨by first | exact Kd.S_nil _ _ _ _ _ | exact Kd.N_nil _ _ _ _ _ | exact Kd.V_nil _ _ _ _ _ | exact Kd.Q_nil _ _ _ _ _ | exact Kd.R_nil _ _ _ _ _⟩, ⟨by (with_reducible repeat (first | apply Kd.R_alloc | apply Kd.R_drewN | apply Kd.R_drew)); exact Kd.R_mono (Kd.R_far (p := ⟨gb457, 3, none⟩) (Kd.R_far (p := ⟨gb457, 2, none⟩) (Kd.R_far (p := ⟨gb457, 1, none⟩) (Kd.R_far (p := ⟨gb457, 0, none⟩) (Kd.R_types HO456.out BK457.out (by decide)) (fun _ hk => hk.2) (.bool a0_0)) (fun _ hk => hk.2) (.slice none 0 0)) (fun _ hk => hk.2) (.slice none 0 0)) (fun _ hk => hk.2) (.slice Ao10 t454.length co10)) (fun _ hk => trivial)⟩, ⟨by (with_reducible repeat (first | refine blk_drewN ?_ _ | refine blk_drew ?_ | refine blk_alloc ?_ _)); refine blk_far ?_ NB452_457.out _; (with_reducible repeat (first | refine blk_drewN ?_ _ | refine blk_drew ?_ | refine blk_alloc ?_ _)); refine blk_far ?_ NB452_457.out _; (with_reducible repeat (first | refine blk_drewN ?_ _ | refine blk_drew ?_ | refine blk_alloc ?_ _)); refine blk_far ?_ NB452_457.out _; (with_reducible repeat (first | refine blk_drewN ?_ _ | refine blk_drew ?_ | refine blk_alloc ?_ _)); refine blk_far ?_ NB452_457.out _; (with_reducible repeat (first | refine blk_drewN ?_ _ | refine blk_drew ?_ | refine blk_alloc ?_ _)); exact BK452.out⟩, ⟨by (with_reducible repeat (first | refine blk_drewN ?_ _ | refine blk_drew ?_ | refine blk_alloc ?_ _)); refine blk_far ?_ NB453_457.out _; (with_reducible repeat (first | refine blk_drewN ?_ _ | refine blk_drew ?_ | refine blk_alloc ?_ _)); refine blk_far ?_ NB453_457.out _; (with_reducible repeat (first | refine blk_drewN ?_ _ | refine blk_drew ?_ | refine blk_alloc ?_ _)); refine blk_far ?_ NB453_457.out _; (with_reducible repeat (first | refine blk_drewN ?_ _ | refine blk_drew ?_ | refine blk_alloc ?_ _)); refine blk_far ?_ NB453_457.out _; (with_reducible repeat (first | refine blk_drewN ?_ _ | refine blk_drew ?_ | refine blk_alloc ?_ _)); exact BK453.out⟩, ⟨by (with_reducible repeat (first | refine blk_drewN ?_ _ | refine blk_drew ?_ | refine blk_alloc ?_ _)); refine blk_put (cs := #[.bool a0_0, .slice none 0 0, .slice none 0 0, .slice none 0 0]) ?_ 3 _ (by first | rfl | (simp only [List.length_drop, List.length_take]; rfl)); (with_reducible repeat (first | refine blk_drewN ?_ _ | refine blk_drew ?_ | refine blk_alloc ?_ _)); refine blk_put (cs := #[.bool a0_0, .slice none 0 0, .slice none 0 0, .slice none 0 0]) ?_ 2 _ (by first | rfl | (simp only [List.length_drop, List.length_take]; rfl)); (with_reducible repeat (first | refine blk_drewN ?_ _ | refine blk_drew ?_ | refine blk_alloc ?_ _)); refine blk_put (cs := #[.bool a0_0, .slice none 0 0, .slice none 0 0, .slice none 0 0]) ?_ 1 _ (by first | rfl | (simp only [List.length_drop, List.length_take]; rfl)); (with_reducible repeat (first | refine blk_drewN ?_ _ | refine blk_drew ?_ | refine blk_alloc ?_ _)); refine blk_put (cs := #[.bool false, .slice none 0 0, .slice none 0 0, .slice none 0 0]) ?_ 0 _ (by first | rfl | (simp only [List.length_drop, List.length_take]; rfl)); (with_reducible repeat (first | refine blk_drewN ?_ _ | refine blk_drew ?_ | refine blk_alloc ?_ _)); exact BK457.out⟩, ⟨by exact zh3_ HB.out GE452.out GE453.out GE457.out⟩⟩
 case round =>
  clear H'
  try clear c1
  try clear p2
  try clear c5
  try clear c7
  try clear c15
  try clear c16
  try clear hcz17_0
  try clear hcz17_1
  try clear hcz17_2
  try clear hcz17_3
  try clear hfz17_0
  try clear hfz17_1
  try clear hfz17_2
  try clear hfz17_3
  (try clear BK452)
  (try clear BK453)
  (try clear BK457)
  obtain ⟨x17_1, x458001_1, u458001, rfl, HA, HK1, HO_458001, HO_458003, BK452, BK453, BK457, HB⟩ := hrel
  cases gk with
  | zero => exact absurd HA.out (by simp [node_own.l0])
  | succ k1 =>
   have H := HA.out
   clear HA
   simp only [node_own.l0] at H
   by_cases c18 : x17_1 < (l0_1.length : Int)
   ·rw [if_pos c18] at H
    have c18b0 : decide (x17_1 < (l0_1.length : Int)) = true := decide_eq_true c18
    clear c18
    by_cases c19 : 0 ≤ x17_1
    ·rw [if_pos c19] at H
     have c19b0 : decide (0 ≤ x17_1) = true := decide_eq_true c19
     clear c19
     by_cases c20 : x17_1 < (l0_1.length : Int)
     ·rw [if_pos c20] at H
      have c20b0 : decide (x17_1 < (l0_1.length : Int)) = true := decide_eq_true c20
      clear c20
      obtain ⟨t459, A21, H⟩ := zm H
      (try dsimp only at H)
      by_cases c22 : x458001_1.length < 5864062014805
      ·rw [if_pos c22] at H
       have LMc22 := Aside0.mk c22
       clear c22
       obtain ⟨y462, hy462⟩ : ∃ y_ : List (List Int), y_ = (x458001_1 ++ [t459]) := ⟨_, rfl⟩
       replace H : (node_own.l0 k1 l0_1 (l0_1.length : Int) (wrap64 (x17_1 + 1)) a0_0 l0_1 l0_2 l0_3 a0_0 y462 t454) = some (r1, r2, r3, r4) := by first | (rw [hy462]; with_reducible exact H) | (have H2_ := (Option.bind_some _ _).symm.trans H; rw [hy462]; with_reducible exact H2_) | (have H2_ := (Option.bind_some _ _).symm.trans H; with_reducible exact H2_) | with_reducible exact H | (rw [hy462]; exact H) | exact H
       have Ny462 := Aside0.mk hy462
       clear hy462
       have H' := Aside0.mk H
       clear H
       have p458 : 0 ≤ (x17_1 : Int) := of_decide_eq_true za_
       have q458 : x17_1 < (l0_1.length : Int) := of_decide_eq_true za_
       obtain ⟨ad458, A458_0, c458_0, e458, hx458_0, hl458_0, hi458_0⟩ := at_L1 HR0_1.out x17_1 p458 q458
       cases e458
       replace hx458_0 := zx_ HB.out hx458_0
       have HR458_0 := Aside0.mk hi458_0
       have HC458_0 := Aside0.mk hl458_0
       clear hi458_0 hl458_0
       replace p458 := eq_true p458
       replace q458 := eq_true q458
       try go_wp2
       have n0_ := Aside0.mk (Kd.S_drew HO_458001.out)
       have n1_ := Aside0.mk (Kd.R_drew HO_458003.out)
       have n2_ := Aside0.mk (blk_drew BK452.out)
       have n3_ := Aside0.mk (blk_drew BK453.out)
       have n4_ := Aside0.mk (blk_drew BK457.out)
       have n5_ := Aside0.mk (below_drew1 HB.out)
       clear HO_458001 HO_458003 BK452 BK453 BK457 HB
       have HO_458001 := n0_
       have HO_458003 := n1_
       have BK452 := n2_
       have BK453 := n3_
       have BK457 := n4_
       have HB := n5_
       clear n0_ n1_ n2_ n3_ n4_ n5_
       refine start_ (n := 8) (S := fun w' => w'.cell? ⟨gb457, 0, none⟩ = some (.bool a0_0) ∧ w'.cell? ⟨gb457, 1, none⟩ = some (u458001) ∧ w'.cell? ⟨gb457, 2, none⟩ = some (.slice none 0 0) ∧ w'.cell? ⟨gb457, 3, none⟩ = some (.slice Ao10 t454.length co10)) (ds := [7]) (zB 0 8) (by kernel_rfl) rfl rfl ⟨(blk_cell BK457.out 0).trans rfl, (blk_cell BK457.out 1).trans rfl, (blk_cell BK457.out 2).trans rfl, (blk_cell BK457.out 3).trans rfl⟩ (fun hHeld => ?_); refine with_tabW node_own.tab5 node_own.bits5 (fun HT_ HW_ => ?_)
       generalize wr.drew = w23 at HO_458001 HO_458003 BK452 BK453 BK457 HB hHeld ⊢
       refine zpu 0 (some 21) (zB 1 7) (any_of HT_.out (by kernel_rfl)) ?_
       refine zpu 2 (some 23) #[true, false, true, false, false, false, false, false] (any_of HT_.out (by kernel_rfl)) ?_
       refine zta 1 (some 22) (zB 3 5) (take_ofW HT_.out HW_.out (by kernel_rfl)) hHeld ?_
       refine one_ (i := 3) (N := some 24) (zB 4 4) rfl rfl (one_of HT_.out (by kernel_rfl)) (by decide) (fun K hK => ?_)
       refine goes_ Tryd.func42 (by kernel_rfl) rfl #[.slice A458_0 (rd_L1 l0_1 x17_1).length c458_0] (by rfl) rfl rfl zl_ ?_
       with_reducible refine (bytes_Clone.calls _ _ (rd_L1 l0_1 x17_1) t459 _ ?side1 ?side2 A21.out).mono ?_
       (case side1 => exact zc_ (Kd.C_below HR458_0.out HB.out))
       (case side2 => exact HC458_0.out)
       rintro e w24 ⟨v460, rfl, ho0, hb⟩
       refine ⟨_, rfl, ?_⟩
       have n0_ := Aside0.mk (Kd.S_elder' (by (with_reducible repeat (first | apply Kd.S_alloc | apply Kd.S_drewN | apply Kd.S_drew)); exact HO_458001.out) (Kd.R_base ho0) hb)
       have n1_ := Aside0.mk (Kd.R_below (zR_ HO_458003.out) hb)
       have n2_ := Aside0.mk (Kd.R_lower ho0 (below_size (zh3_ HB.out GE452.out GE453.out GE457.out)))
       have n3_ := Aside0.mk (blk_below (zb_ BK452.out) hb)
       have n4_ := Aside0.mk (blk_below (zb_ BK453.out) hb)
       have n5_ := Aside0.mk (blk_below (zb_ BK457.out) hb)
       have n6_ := Aside0.mk (below_step (zh3_ HB.out GE452.out GE453.out GE457.out) hb)
       clear HO_458001 HO_458003 BK452 BK453 BK457 HB
       have HO_458001 := n0_
       have HO_458003 := n1_
       have HO461 := n2_
       have BK452 := n3_
       have BK453 := n4_
       have BK457 := n5_
       have HB := n6_
       clear n0_ n1_ n2_ n3_ n4_ n5_ n6_
       (try clear hb)
       (try clear hb2)
       (try clear hk)
       (try clear hi)
       (try clear ho0)
       obtain ⟨Ao26, co26, eo26⟩ := Kd.R_slice HO461.out
       (first | subst eo26 | (injection eo26 with f1_ f2_ f3_; have f4_ := f1_.symm; have f5_ := f3_.symm; clear f1_ f2_ f3_; subst f4_; subst f5_))
       refine hK.out _ _ ⟨(blk_cell BK457.out 0).trans rfl, (blk_cell BK457.out 1).trans rfl, (blk_cell BK457.out 2).trans rfl, (blk_cell BK457.out 3).trans rfl⟩ (fun hHeld => ?_)
       clear hK K
       refine zno 24 ?_
       refine one_ (i := 4) (N := some 25) (zB 5 3) rfl rfl (one_of HT_.out (by kernel_rfl)) (by decide) (fun K hK => ?_)
       refine value_ (w1 := ?_) (v := ?_) (by rfl) rfl ?_ ?_
       rotate_left 2
       ·go_simp
        constructor
        ·rfl
        ·rfl
       refine hK.out _ _ ⟨(blk_cell (blk_alloc BK457.out _) 0).trans rfl, (blk_cell (blk_alloc BK457.out _) 1).trans rfl, (blk_cell (blk_alloc BK457.out _) 2).trans rfl, (blk_cell (blk_alloc BK457.out _) 3).trans rfl⟩ (fun hHeld => ?_)
       clear hK K
       refine zno 25 ?_
       refine one_ (i := 5) (N := some 26) (zB 6 2) rfl rfl (one_of HT_.out (by kernel_rfl)) (by decide) (fun K hK => ?_)
       refine Kd.S_append_step (Kd.slice 5 (Kd.int .u8)) (w0 := w) w.heap.size (by rfl) (.tmp 22) (.tmp 25) 22 26 (.slice none 0 0) 24 rfl Tryd.underlying22 info26 rfl (by decide) (by omega) u458001 x458001_1 t459 [.slice Ao26 t459.length co26] (fun _ => True) (fun k_ => some k_ = (.slice Ao26 t459.length co26 : Value).ownBlock) rfl rfl ?aP (fun k_ hk_ => ((Kd.R_mono (ok' := fun k_ => ((fun _ => True)) k_ ∧ some k_ ≠ (u458001 : Value).ownBlock) (Kd.R_apart' (HO461.out) (Kd.S_typed HO_458001.out) (by decide)) (fun k_ hk => ⟨trivial, hk.2⟩))).1 k_ hk_.symm) ?aF ?aO ?aB ?aS ?aL ?_
       (case aP => exact Kd.M_row (Kd.R_mono (Kd.R_tight rfl (Kd.R_mono (ok' := fun k_ => ((fun _ => True)) k_ ∧ some k_ ≠ (u458001 : Value).ownBlock) (Kd.R_apart' (HO461.out) (Kd.S_typed HO_458001.out) (by decide)) (fun k_ hk => ⟨trivial, hk.2⟩))) (fun _ h_ => h_)))
       (case aB => exact (zh3_ HB.out GE452.out GE453.out GE457.out))
       (case aF => exact (fun _ _ => trivial))
       (case aO => exact (by (with_reducible repeat (first | apply Kd.S_alloc | apply Kd.S_drewN | apply Kd.S_drew)); exact Kd.S_mono HO_458001.out (fun k_ hk => ⟨trivial, fun e_ => hk.2 e_⟩)))
       (case aS => exact (below_size (zh3_ HB.out GE452.out GE453.out GE457.out)))
       (case aL => have := LMc22.out; omega)
       intro v463 w25 ho hb hg hat
       rw [← Ny462.out] at ho
       have n0_ := Aside0.mk (Kd.R_over' (zR_ HO_458003.out) (Kd.S_typed (by (with_reducible repeat (first | apply Kd.S_alloc | apply Kd.S_drewN | apply Kd.S_drew)); exact HO_458001.out)) (by decide) hg)
       have n1_ := Aside0.mk (blk_grown (zb_ BK452.out) hg (Kd.S_ne HO_458001.out BK452.out (by decide)))
       have n2_ := Aside0.mk (blk_grown (zb_ BK453.out) hg (Kd.S_ne HO_458001.out BK453.out (by decide)))
       have n3_ := Aside0.mk (blk_grown (zb_ BK457.out) hg (Kd.S_ne HO_458001.out BK457.out (by decide)))
       have n4_ := Aside0.mk (hb)
       have n5_ := Aside0.mk (ho)
       clear HO_458003 BK452 BK453 BK457 HB HO_458001 HO461
       have HO_458003 := n0_
       have BK452 := n1_
       have BK453 := n2_
       have BK457 := n3_
       have HB := n4_
       have HO464 := n5_
       clear n0_ n1_ n2_ n3_ n4_ n5_ ho hb hg hat
       obtain ⟨Ao27, co27, eo27⟩ := Kd.S_slice HO464.out
       (first | subst eo27 | (injection eo27 with f1_ f2_ f3_; have f4_ := f1_.symm; have f5_ := f3_.symm; clear f1_ f2_ f3_; subst f4_; subst f5_))
       refine hK.out _ _ ⟨(blk_cell BK457.out 0).trans rfl, (blk_cell BK457.out 1).trans rfl, (blk_cell BK457.out 2).trans rfl, (blk_cell BK457.out 3).trans rfl⟩ (fun hHeld => ?_)
       clear hK K
       refine zno 26 ?_
       refine zpu 6 (some 27) (zB 7 1) (any_of HT_.out (by kernel_rfl)) ?_
       refine last_ (i := 7) (N := none) (zB 8 0) rfl rfl (one_of HT_.out (by kernel_rfl)) (by decide) (fun K hK => ?_)
       have hs28 : w25.cell? ⟨gb457, 1, none⟩ = some (u458001) := (blk_cell BK457.out 1).trans rfl
       have hfs28 := blk_frozen BK457.out 1
       have hns28_0 := NB452_457.out
       have hns28_1 := NB453_457.out
       have hms28_0 := NB457_452.out
       have hms28_1 := NB457_453.out
       refine skip_ (w1 := ?_) (by rfl) rfl ?_ ?_
       rotate_left
       ·go_simp
        rfl
       refine hK.out _ _ ?_
       clear hK K
       refine done_ (done_of HT_.out (by kernel_rfl)) ?_
       try go_wp2
       go_roundg k1
       case measure => have := HK1.out; omega
       case rel => exact ⟨(wrap64 (x17_1 + 1)), (y462), (.slice Ao27 y462.length co27), (by first | rfl | (simp; done) | (simp [*]; done) | (simp only [i64_w]; done)), H', ⟨by have := HK1.out; omega⟩, ⟨by (with_reducible repeat (first | apply Kd.S_alloc | apply Kd.S_drewN | apply Kd.S_drew)); exact Kd.S_mono (Kd.S_far (p := ⟨gb457, 1, none⟩) (Kd.S_types HO464.out BK457.out (by decide)) (fun _ hk => hk.2) (.slice Ao27 y462.length co27)) (fun _ hk => trivial)⟩, ⟨by (with_reducible repeat (first | apply Kd.R_alloc | apply Kd.R_drewN | apply Kd.R_drew)); exact Kd.R_mono (Kd.R_far (p := ⟨gb457, 1, none⟩) (Kd.R_types HO_458003.out BK457.out (by decide)) (fun _ hk => hk.2) (.slice Ao27 y462.length co27)) (fun _ hk => trivial)⟩, ⟨by (with_reducible repeat (first | refine blk_drewN ?_ _ | refine blk_drew ?_ | refine blk_alloc ?_ _)); refine blk_far ?_ NB452_457.out _; (with_reducible repeat (first | refine blk_drewN ?_ _ | refine blk_drew ?_ | refine blk_alloc ?_ _)); exact BK452.out⟩, ⟨by (with_reducible repeat (first | refine blk_drewN ?_ _ | refine blk_drew ?_ | refine blk_alloc ?_ _)); refine blk_far ?_ NB453_457.out _; (with_reducible repeat (first | refine blk_drewN ?_ _ | refine blk_drew ?_ | refine blk_alloc ?_ _)); exact BK453.out⟩, ⟨by (with_reducible repeat (first | refine blk_drewN ?_ _ | refine blk_drew ?_ | refine blk_alloc ?_ _)); refine blk_put (cs := #[.bool a0_0, u458001, .slice none 0 0, .slice Ao10 t454.length co10]) ?_ 1 _ (by first | rfl | (simp only [List.length_drop, List.length_take]; rfl)); (with_reducible repeat (first | refine blk_drewN ?_ _ | refine blk_drew ?_ | refine blk_alloc ?_ _)); exact BK457.out⟩, ⟨by exact zh3_ HB.out GE452.out GE453.out GE457.out⟩⟩
      ·rw [if_neg c22] at H
       cases H
     ·rw [if_neg c20] at H
      cases H
    ·rw [if_neg c19] at H
     cases H
   ·rw [if_neg c18] at H
    have c18b0 : decide (x17_1 < (l0_1.length : Int)) = false := decide_eq_false c18
    clear c18
    have H' := Aside0.mk H
    clear H
    have hnb29 := NB452_453.out
    have hnc29 := NB453_452.out
    have hnb30 := NB452_457.out
    have hnc30 := NB457_452.out
    obtain ⟨hcz31_0, hcz31_1, hcz31_2, hcz31_3⟩ := zc4 BK452.out
    obtain ⟨hfz31_0, hfz31_1, hfz31_2, hfz31_3⟩ := zz4 BK452.out
    go_wp2
    go_loopg [32] k1 (fun kq v32 w' => ∃ (x32_2 : Int) (x458002_2 : List (List Int)) (u458002 : Value), v32 = .int .i64 x32_2 ∧ Aside0 (node_own.l1 kq l0_2 (l0_2.length : Int) x32_2 a0_0 x458001_1 x458002_2 t454 = some (r1, r2, r3, r4)) ∧ Aside0 (kq ≤ k1) ∧ Aside0 (Kd.S (Kd.slice 5 (Kd.int .u8)) 26 w' w.heap.size (fun k_ => some k_ ≠ (u458002 : Value).ownBlock) u458001 x458001_1) ∧ Aside0 (Kd.S (Kd.slice 5 (Kd.int .u8)) 26 w' w.heap.size (fun k_ => some k_ ≠ (u458001 : Value).ownBlock) u458002 x458002_2) ∧ Aside0 (Kd.R (Kd.int .i64) 3 w' w.heap.size (fun _ => True) (.slice Ao10 t454.length co10) t454) ∧ Aside0 (w'.heap[gb452]? = some (.cells #[.bool a0_0, (.slice A0_1 l0_1.length c0_1), (.slice A0_2 l0_2.length c0_2), (.slice A0_3 l0_3.length c0_3)] 25 (0, 0))) ∧ Aside0 (w'.heap[gb453]? = some (.cells #[.bool false, (.slice none 0 0), (.slice none 0 0), (.slice none 0 0)] 25 (0, 0))) ∧ Aside0 (w'.heap[gb457]? = some (.cells #[.bool a0_0, u458001, u458002, (.slice Ao10 t454.length co10)] 25 (0, 0))) ∧ Aside0 (Below w.heap.size w w'))
    case atStart => exact ⟨(0), (([] : List (List Int))), (.slice none 0 0), (by first | rfl | (simp; done) | (simp [*]; done) | (simp only [i64_w]; done)), H', ⟨Nat.le_refl _⟩, ⟨by (with_reducible repeat (first | apply Kd.S_alloc | apply Kd.S_drewN | apply Kd.S_drew)); exact Kd.S_mono HO_458001.out (fun _ hk => (by simp [Value.ownBlock]))⟩, ⟨by first | exact Kd.S_nil _ _ _ _ _ | exact Kd.N_nil _ _ _ _ _ | exact Kd.V_nil _ _ _ _ _ | exact Kd.Q_nil _ _ _ _ _ | exact Kd.R_nil _ _ _ _ _⟩, ⟨by (with_reducible repeat (first | apply Kd.R_alloc | apply Kd.R_drewN | apply Kd.R_drew)); exact HO_458003.out⟩, ⟨by (with_reducible repeat (first | refine blk_drewN ?_ _ | refine blk_drew ?_ | refine blk_alloc ?_ _)); exact BK452.out⟩, ⟨by (with_reducible repeat (first | refine blk_drewN ?_ _ | refine blk_drew ?_ | refine blk_alloc ?_ _)); exact BK453.out⟩, ⟨by (with_reducible repeat (first | refine blk_drewN ?_ _ | refine blk_drew ?_ | refine blk_alloc ?_ _)); exact BK457.out⟩, ⟨by exact zh3_ HB.out GE452.out GE453.out GE457.out⟩⟩
    case round =>
     clear H'
     try clear c1
     try clear c2
     try clear p2
     try clear c3
     try clear c4
     try clear p4
     try clear q4
     try clear hx4
     try clear c5
     try clear p6
     try clear c7
     try clear c15
     try clear c16
     try clear c18
     try clear c18b0
     try clear c19
     try clear c19b0
     try clear c20
     try clear c20b0
     try clear c22
     try clear c29
     try clear c30
     try clear hcz17_0
     try clear hcz17_1
     try clear hcz17_2
     try clear hcz17_3
     try clear hcz31_0
     try clear hcz31_1
     try clear hcz31_2
     try clear hcz31_3
     try clear hfz17_0
     try clear hfz17_1
     try clear hfz17_2
     try clear hfz17_3
     try clear hfz31_0
     try clear hfz31_1
     try clear hfz31_2
     try clear hfz31_3
     try clear hx458_0
     try clear p2
     try clear p458
     try clear q458
     (try clear BK452)
     (try clear BK453)
     (try clear BK457)
     obtain ⟨x32_2, x458002_2, u458002, rfl, HA, HK2, HO_458001, HO_458002, HO_458003, BK452, BK453, BK457, HB⟩ := hrel
     cases gk with
     | zero => exact absurd HA.out (by simp [node_own.l1])
     | succ k2 =>
      have H := HA.out
      clear HA
      simp only [node_own.l1] at H
      by_cases c32 : x32_2 < (l0_2.length : Int)
      ·rw [if_pos c32] at H
       have c32b0 : decide (x32_2 < (l0_2.length : Int)) = true := decide_eq_true c32
       clear c32
       by_cases c33 : 0 ≤ x32_2
       ·rw [if_pos c33] at H
        have c33b0 : decide (0 ≤ x32_2) = true := decide_eq_true c33
        clear c33
        by_cases c34 : x32_2 < (l0_2.length : Int)
        ·rw [if_pos c34] at H
         have c34b0 : decide (x32_2 < (l0_2.length : Int)) = true := decide_eq_true c34
         clear c34
         obtain ⟨t466, A35, H⟩ := zm H
         (try dsimp only at H)
         by_cases c36 : x458002_2.length < 5864062014805
         ·rw [if_pos c36] at H
          have LMc36 := Aside0.mk c36
          clear c36
          obtain ⟨y469, hy469⟩ : ∃ y_ : List (List Int), y_ = (x458002_2 ++ [t466]) := ⟨_, rfl⟩
          replace H : (node_own.l1 k2 l0_2 (l0_2.length : Int) (wrap64 (x32_2 + 1)) a0_0 x458001_1 y469 t454) = some (r1, r2, r3, r4) := by first | (rw [hy469]; with_reducible exact H) | (have H2_ := (Option.bind_some _ _).symm.trans H; rw [hy469]; with_reducible exact H2_) | (have H2_ := (Option.bind_some _ _).symm.trans H; with_reducible exact H2_) | with_reducible exact H | (rw [hy469]; exact H) | exact H
          have Ny469 := Aside0.mk hy469
          clear hy469
          have H' := Aside0.mk H
          clear H
          have p465 : 0 ≤ (x32_2 : Int) := of_decide_eq_true za_
          have q465 : x32_2 < (l0_2.length : Int) := of_decide_eq_true za_
          obtain ⟨ad465, A465_0, c465_0, e465, hx465_0, hl465_0, hi465_0⟩ := at_L1 HR0_2.out x32_2 p465 q465
          cases e465
          replace hx465_0 := zx_ HB.out hx465_0
          have HR465_0 := Aside0.mk hi465_0
          have HC465_0 := Aside0.mk hl465_0
          clear hi465_0 hl465_0
          replace p465 := eq_true p465
          replace q465 := eq_true q465
          try go_wp2
          have n0_ := Aside0.mk (Kd.S_drew HO_458001.out)
          have n1_ := Aside0.mk (Kd.S_drew HO_458002.out)
          have n2_ := Aside0.mk (Kd.R_drew HO_458003.out)
          have n3_ := Aside0.mk (blk_drew BK452.out)
          have n4_ := Aside0.mk (blk_drew BK453.out)
          have n5_ := Aside0.mk (blk_drew BK457.out)
          have n6_ := Aside0.mk (below_drew1 HB.out)
          clear HO_458001 HO_458002 HO_458003 BK452 BK453 BK457 HB
          have HO_458001 := n0_
          have HO_458002 := n1_
          have HO_458003 := n2_
          have BK452 := n3_
          have BK453 := n4_
          have BK457 := n5_
          have HB := n6_
          clear n0_ n1_ n2_ n3_ n4_ n5_ n6_
          refine start_ (n := 8) (S := fun w' => w'.cell? ⟨gb457, 0, none⟩ = some (.bool a0_0) ∧ w'.cell? ⟨gb457, 1, none⟩ = some (u458001) ∧ w'.cell? ⟨gb457, 2, none⟩ = some (u458002) ∧ w'.cell? ⟨gb457, 3, none⟩ = some (.slice Ao10 t454.length co10)) (ds := [7]) (zB 0 8) (by kernel_rfl) rfl rfl ⟨(blk_cell BK457.out 0).trans rfl, (blk_cell BK457.out 1).trans rfl, (blk_cell BK457.out 2).trans rfl, (blk_cell BK457.out 3).trans rfl⟩ (fun hHeld => ?_); refine with_tabW node_own.tab10 node_own.bits10 (fun HT_ HW_ => ?_)
          generalize wr.drew = w37 at HO_458001 HO_458002 HO_458003 BK452 BK453 BK457 HB hHeld ⊢
          refine zpu 0 (some 36) (zB 1 7) (any_of HT_.out (by kernel_rfl)) ?_
          refine zpu 2 (some 38) #[true, false, true, false, false, false, false, false] (any_of HT_.out (by kernel_rfl)) ?_
          refine zta 1 (some 37) (zB 3 5) (take_ofW HT_.out HW_.out (by kernel_rfl)) hHeld ?_
          refine one_ (i := 3) (N := some 39) (zB 4 4) rfl rfl (one_of HT_.out (by kernel_rfl)) (by decide) (fun K hK => ?_)
          refine goes_ Tryd.func42 (by kernel_rfl) rfl #[.slice A465_0 (rd_L1 l0_2 x32_2).length c465_0] (by rfl) rfl rfl zl_ ?_
          with_reducible refine (bytes_Clone.calls _ _ (rd_L1 l0_2 x32_2) t466 _ ?side1 ?side2 A35.out).mono ?_
          (case side1 => exact zc_ (Kd.C_below HR465_0.out HB.out))
          (case side2 => exact HC465_0.out)
          rintro e w38 ⟨v467, rfl, ho0, hb⟩
          refine ⟨_, rfl, ?_⟩
          have n0_ := Aside0.mk (Kd.S_elder' (by (with_reducible repeat (first | apply Kd.S_alloc | apply Kd.S_drewN | apply Kd.S_drew)); exact HO_458001.out) (Kd.R_base ho0) hb)
          have n1_ := Aside0.mk (Kd.S_elder' (by (with_reducible repeat (first | apply Kd.S_alloc | apply Kd.S_drewN | apply Kd.S_drew)); exact HO_458002.out) (Kd.R_base ho0) hb)
          have n2_ := Aside0.mk (Kd.R_below (zR_ HO_458003.out) hb)
          have n3_ := Aside0.mk (Kd.R_lower ho0 (below_size (zh3_ HB.out GE452.out GE453.out GE457.out)))
          have n4_ := Aside0.mk (blk_below (zb_ BK452.out) hb)
          have n5_ := Aside0.mk (blk_below (zb_ BK453.out) hb)
          have n6_ := Aside0.mk (blk_below (zb_ BK457.out) hb)
          have n7_ := Aside0.mk (below_step (zh3_ HB.out GE452.out GE453.out GE457.out) hb)
          clear HO_458001 HO_458002 HO_458003 BK452 BK453 BK457 HB
          have HO_458001 := n0_
          have HO_458002 := n1_
          have HO_458003 := n2_
          have HO468 := n3_
          have BK452 := n4_
          have BK453 := n5_
          have BK457 := n6_
          have HB := n7_
          clear n0_ n1_ n2_ n3_ n4_ n5_ n6_ n7_
          (try clear hb)
          (try clear hb2)
          (try clear hk)
          (try clear hi)
          (try clear ho0)
          obtain ⟨Ao40, co40, eo40⟩ := Kd.R_slice HO468.out
          (first | subst eo40 | (injection eo40 with f1_ f2_ f3_; have f4_ := f1_.symm; have f5_ := f3_.symm; clear f1_ f2_ f3_; subst f4_; subst f5_))
          refine hK.out _ _ ⟨(blk_cell BK457.out 0).trans rfl, (blk_cell BK457.out 1).trans rfl, (blk_cell BK457.out 2).trans rfl, (blk_cell BK457.out 3).trans rfl⟩ (fun hHeld => ?_)
          clear hK K
          refine zno 39 ?_
          refine one_ (i := 4) (N := some 40) (zB 5 3) rfl rfl (one_of HT_.out (by kernel_rfl)) (by decide) (fun K hK => ?_)
          refine value_ (w1 := ?_) (v := ?_) (by rfl) rfl ?_ ?_
          rotate_left 2
          ·go_simp
           constructor
           ·rfl
           ·rfl
          refine hK.out _ _ ⟨(blk_cell (blk_alloc BK457.out _) 0).trans rfl, (blk_cell (blk_alloc BK457.out _) 1).trans rfl, (blk_cell (blk_alloc BK457.out _) 2).trans rfl, (blk_cell (blk_alloc BK457.out _) 3).trans rfl⟩ (fun hHeld => ?_)
          clear hK K
          refine zno 40 ?_
          refine one_ (i := 5) (N := some 41) (zB 6 2) rfl rfl (one_of HT_.out (by kernel_rfl)) (by decide) (fun K hK => ?_)
          refine Kd.S_append_step (Kd.slice 5 (Kd.int .u8)) (w0 := w) w.heap.size (by rfl) (.tmp 37) (.tmp 40) 22 26 (.slice none 0 0) 24 rfl Tryd.underlying22 info26 rfl (by decide) (by omega) u458002 x458002_2 t466 [.slice Ao40 t466.length co40] (fun k_ => some k_ ≠ (u458001 : Value).ownBlock) (fun k_ => some k_ = (.slice Ao40 t466.length co40 : Value).ownBlock) rfl rfl ?aP (fun k_ hk_ => ((Kd.R_mono (ok' := fun k_ => ((fun k_ => some k_ ≠ (u458001 : Value).ownBlock)) k_ ∧ some k_ ≠ (u458002 : Value).ownBlock) (Kd.R_apart' (Kd.R_apart' (HO468.out) (Kd.S_typed HO_458001.out) (by decide)) (Kd.S_typed HO_458002.out) (by decide)) (fun k_ hk => ⟨hk.1.2, hk.2⟩))).1 k_ hk_.symm) ?aF ?aO ?aB ?aS ?aL ?_
          (case aP => exact Kd.M_row (Kd.R_mono (Kd.R_tight rfl (Kd.R_mono (ok' := fun k_ => ((fun k_ => some k_ ≠ (u458001 : Value).ownBlock)) k_ ∧ some k_ ≠ (u458002 : Value).ownBlock) (Kd.R_apart' (Kd.R_apart' (HO468.out) (Kd.S_typed HO_458001.out) (by decide)) (Kd.S_typed HO_458002.out) (by decide)) (fun k_ hk => ⟨hk.1.2, hk.2⟩))) (fun _ h_ => h_)))
          (case aB => exact (zh3_ HB.out GE452.out GE453.out GE457.out))
          (case aF => exact (fun k_ hk => Kd.fresh' (Kd.S_lt (by (with_reducible repeat (first | apply Kd.S_alloc | apply Kd.S_drewN | apply Kd.S_drew)); exact HO_458001.out)) k_ hk))
          (case aO => exact (by (with_reducible repeat (first | apply Kd.S_alloc | apply Kd.S_drewN | apply Kd.S_drew)); exact Kd.S_mono HO_458002.out (fun k_ hk => ⟨hk.1, fun e_ => hk.2 e_⟩)))
          (case aS => exact (below_size (zh3_ HB.out GE452.out GE453.out GE457.out)))
          (case aL => have := LMc36.out; omega)
          intro v470 w39 ho hb hg hat
          rw [← Ny469.out] at ho
          have n0_ := Aside0.mk (Kd.S_after (ok := (fun k_ => some k_ ≠ (.slice Ao40 t466.length co40 : Value).ownBlock)) (by (with_reducible repeat (first | apply Kd.S_alloc | apply Kd.S_drewN | apply Kd.S_drew)); exact Kd.S_mono HO_458001.out (fun _ hk => ⟨hk.2, hk.1⟩)) hg hat)
          have n1_ := Aside0.mk (Kd.R_over' (zR_ HO_458003.out) (Kd.S_typed (by (with_reducible repeat (first | apply Kd.S_alloc | apply Kd.S_drewN | apply Kd.S_drew)); exact HO_458002.out)) (by decide) hg)
          have n2_ := Aside0.mk (blk_grown (zb_ BK452.out) hg (Kd.S_ne HO_458002.out BK452.out (by decide)))
          have n3_ := Aside0.mk (blk_grown (zb_ BK453.out) hg (Kd.S_ne HO_458002.out BK453.out (by decide)))
          have n4_ := Aside0.mk (blk_grown (zb_ BK457.out) hg (Kd.S_ne HO_458002.out BK457.out (by decide)))
          have n5_ := Aside0.mk (hb)
          have n6_ := Aside0.mk (ho)
          clear HO_458001 HO_458003 BK452 BK453 BK457 HB HO_458002 HO468
          have HO_458001 := n0_
          have HO_458003 := n1_
          have BK452 := n2_
          have BK453 := n3_
          have BK457 := n4_
          have HB := n5_
          have HO471 := n6_
          clear n0_ n1_ n2_ n3_ n4_ n5_ n6_ ho hb hg hat
          obtain ⟨Ao41, co41, eo41⟩ := Kd.S_slice HO471.out
          (first | subst eo41 | (injection eo41 with f1_ f2_ f3_; have f4_ := f1_.symm; have f5_ := f3_.symm; clear f1_ f2_ f3_; subst f4_; subst f5_))
          refine hK.out _ _ ⟨(blk_cell BK457.out 0).trans rfl, (blk_cell BK457.out 1).trans rfl, (blk_cell BK457.out 2).trans rfl, (blk_cell BK457.out 3).trans rfl⟩ (fun hHeld => ?_)
          clear hK K
          refine zno 41 ?_
          refine zpu 6 (some 42) (zB 7 1) (any_of HT_.out (by kernel_rfl)) ?_
          refine last_ (i := 7) (N := none) (zB 8 0) rfl rfl (one_of HT_.out (by kernel_rfl)) (by decide) (fun K hK => ?_)
          have hs42 : w39.cell? ⟨gb457, 2, none⟩ = some (u458002) := (blk_cell BK457.out 2).trans rfl
          have hfs42 := blk_frozen BK457.out 2
          have hns42_0 := NB452_457.out
          have hns42_1 := NB453_457.out
          have hms42_0 := NB457_452.out
          have hms42_1 := NB457_453.out
          refine skip_ (w1 := ?_) (by rfl) rfl ?_ ?_
          rotate_left
          ·go_simp
           rfl
          refine hK.out _ _ ?_
          clear hK K
          refine done_ (done_of HT_.out (by kernel_rfl)) ?_
          try go_wp2
          go_roundg k2
          case measure => have := HK1.out; have := HK2.out; omega
          case rel => exact ⟨(wrap64 (x32_2 + 1)), (y469), (.slice Ao41 y469.length co41), (by first | rfl | (simp; done) | (simp [*]; done) | (simp only [i64_w]; done)), H', ⟨by have := HK1.out; have := HK2.out; omega⟩, ⟨by (with_reducible repeat (first | apply Kd.S_alloc | apply Kd.S_drewN | apply Kd.S_drew)); exact Kd.S_mono (Kd.S_far (p := ⟨gb457, 2, none⟩) (Kd.S_types HO_458001.out BK457.out (by decide)) (fun _ hk => hk.2) (.slice Ao41 y469.length co41)) (fun _ hk => hk.1.2)⟩, ⟨by (with_reducible repeat (first | apply Kd.S_alloc | apply Kd.S_drewN | apply Kd.S_drew)); exact Kd.S_mono (Kd.S_far (p := ⟨gb457, 2, none⟩) (Kd.S_types HO471.out BK457.out (by decide)) (fun _ hk => hk.2) (.slice Ao41 y469.length co41)) (fun _ hk => hk.1)⟩, ⟨by (with_reducible repeat (first | apply Kd.R_alloc | apply Kd.R_drewN | apply Kd.R_drew)); exact Kd.R_mono (Kd.R_far (p := ⟨gb457, 2, none⟩) (Kd.R_types HO_458003.out BK457.out (by decide)) (fun _ hk => hk.2) (.slice Ao41 y469.length co41)) (fun _ hk => trivial)⟩, ⟨by (with_reducible repeat (first | refine blk_drewN ?_ _ | refine blk_drew ?_ | refine blk_alloc ?_ _)); refine blk_far ?_ NB452_457.out _; (with_reducible repeat (first | refine blk_drewN ?_ _ | refine blk_drew ?_ | refine blk_alloc ?_ _)); exact BK452.out⟩, ⟨by (with_reducible repeat (first | refine blk_drewN ?_ _ | refine blk_drew ?_ | refine blk_alloc ?_ _)); refine blk_far ?_ NB453_457.out _; (with_reducible repeat (first | refine blk_drewN ?_ _ | refine blk_drew ?_ | refine blk_alloc ?_ _)); exact BK453.out⟩, ⟨by (with_reducible repeat (first | refine blk_drewN ?_ _ | refine blk_drew ?_ | refine blk_alloc ?_ _)); refine blk_put (cs := #[.bool a0_0, u458001, u458002, .slice Ao10 t454.length co10]) ?_ 2 _ (by first | rfl | (simp only [List.length_drop, List.length_take]; rfl)); (with_reducible repeat (first | refine blk_drewN ?_ _ | refine blk_drew ?_ | refine blk_alloc ?_ _)); exact BK457.out⟩, ⟨by exact zh3_ HB.out GE452.out GE453.out GE457.out⟩⟩
         ·rw [if_neg c36] at H
          cases H
        ·rw [if_neg c34] at H
         cases H
       ·rw [if_neg c33] at H
        cases H
      ·rw [if_neg c32] at H
       have c32b0 : decide (x32_2 < (l0_2.length : Int)) = false := decide_eq_false c32
       clear c32
       simp only [Option.some.injEq, Prod.mk.injEq] at H
       obtain ⟨rfl, rfl, rfl, rfl⟩ := H
       have hnb43 := NB457_452.out
       have hnc43 := NB452_457.out
       have hnb44 := NB457_453.out
       have hnc44 := NB453_457.out
       obtain ⟨hcz45_0, hcz45_1, hcz45_2, hcz45_3⟩ := zc4 BK457.out
       obtain ⟨hfz45_0, hfz45_1, hfz45_2, hfz45_3⟩ := zz4 BK457.out
       have hnb46 := NB453_452.out
       have hnc46 := NB452_453.out
       obtain ⟨hcz47_0, hcz47_1, hcz47_2, hcz47_3⟩ := zc4 BK453.out
       obtain ⟨hfz47_0, hfz47_1, hfz47_2, hfz47_3⟩ := zz4 BK453.out
       obtain ⟨Ao48, co48, eo48⟩ := Kd.S_slice HO_458001.out
       subst eo48
       obtain ⟨Ao49, co49, eo49⟩ := Kd.S_slice HO_458002.out
       subst eo49
       go_wp2
       refine bodyPost_ret (results_cell_row rfl _ _ gb453 25 #[.bool a0_0, .slice Ao48 x458001_1.length co48, .slice Ao49 x458002_2.length co49, .slice Ao10 t454.length co10] (0, 0) _ rfl (zp_ BK453.out) Tryd.underlying25 rfl (by kernel_rfl)) rfl ?_
       exact ⟨_, _, _, by first | rfl | (simp [errW_none, errW_some] <;> rfl) | (simp [*, errW_none, errW_some] <;> rfl), by (with_reducible repeat (first | apply Kd.S_alloc | apply Kd.S_drewN | apply Kd.S_drew)); exact Kd.S_mono (Kd.S_far (p := ⟨gb453, 3, none⟩) (Kd.S_far (p := ⟨gb453, 2, none⟩) (Kd.S_far (p := ⟨gb453, 1, none⟩) (Kd.S_far (p := ⟨gb453, 0, none⟩) (Kd.S_types HO_458001.out BK453.out (by decide)) (fun _ hk => hk.2) (.bool a0_0)) (fun _ hk => hk.2) (.slice Ao48 x458001_1.length co48)) (fun _ hk => hk.2) (.slice Ao49 x458002_2.length co49)) (fun _ hk => hk.2) (.slice Ao10 t454.length co10)) (fun _ hk => hk.1), by (with_reducible repeat (first | apply Kd.S_alloc | apply Kd.S_drewN | apply Kd.S_drew)); exact Kd.S_mono (Kd.S_far (p := ⟨gb453, 3, none⟩) (Kd.S_far (p := ⟨gb453, 2, none⟩) (Kd.S_far (p := ⟨gb453, 1, none⟩) (Kd.S_far (p := ⟨gb453, 0, none⟩) (Kd.S_types HO_458002.out BK453.out (by decide)) (fun _ hk => hk.2) (.bool a0_0)) (fun _ hk => hk.2) (.slice Ao48 x458001_1.length co48)) (fun _ hk => hk.2) (.slice Ao49 x458002_2.length co49)) (fun _ hk => hk.2) (.slice Ao10 t454.length co10)) (fun _ hk => hk.1), by (with_reducible repeat (first | apply Kd.R_alloc | apply Kd.R_drewN | apply Kd.R_drew)); exact Kd.R_mono (Kd.R_far (p := ⟨gb453, 3, none⟩) (Kd.R_far (p := ⟨gb453, 2, none⟩) (Kd.R_far (p := ⟨gb453, 1, none⟩) (Kd.R_far (p := ⟨gb453, 0, none⟩) (Kd.R_types HO_458003.out BK453.out (by decide)) (fun _ hk => hk.2) (.bool a0_0)) (fun _ hk => hk.2) (.slice Ao48 x458001_1.length co48)) (fun _ hk => hk.2) (.slice Ao49 x458002_2.length co49)) (fun _ hk => hk.2) (.slice Ao10 t454.length co10)) (fun _ hk => trivial), by exact zh3_ HB.out GE452.out GE453.out GE457.out⟩
end Go.Proofs.YtcbgichkeecgiaaDoor.Print
namespace Go.Proofs.YtcbgichkeecgiaaDoor.Print
open Go.RowKit Go.Proofs.YtcbgichkeecgiaaDoorW.PrintWords Go.Proofs.YtcbgichkeecgiaaDoorW.PrintLast Go.Proofs.YtcbgichkeecgiaaDoorW.PrintMore
attribute [local go_sem] max2_mx min2_mn max_two min_two max_three min_three max_four min_four
set_option linter.unusedVariables false
set_option linter.unusedSimpArgs false
def node_half.l0 : Nat → Int → Int → Int → Int → Bool → List (List Int) → List (List Int) → List Int → Option (Int)
 | 0, _, _, _, _, _, _, _, _ => none
 | k + 1, x3, x4, x16, x17, x473000, x473001, x473002, x473003 => if x17 < x16 then (if 0 ≤ x17 then (if x17 < (x473001.length : Int) then ((node_long.f k (rd_L1 x473001 x17)).bind fun t479 => (if x17 < (x473002.length : Int) then ((node_long.f k (rd_L1 x473002 x17)).bind fun t481 => ((node_width.f k (wrap64 (x17 + 1))).bind fun t482 => (if (wrap64 ((wrap64 (x4 + (wrap64 (t479 + t481)))) + t482)) ≥ x3 then (some (wrap64 (x17 + 1))) else (node_half.l0 k x3 (wrap64 (x4 + (wrap64 (t479 + t481)))) x16 (wrap64 (x17 + 1)) x473000 x473001 x473002 x473003)))) else (none))) else (none)) else (none)) else (some (wrap64 ((x473001.length : Int) - 1)))
def node_half.f (k : Nat) (a0_0 : Bool) (l0_1 : List (List Int)) (l0_2 : List (List Int)) (l0_3 : List Int) : Option (Int) := (node_size.f k a0_0 l0_1 l0_2 l0_3).bind fun t473 => (if 0 ≤ (wrap64 ((l0_1.length : Int) - 1)) then (if (wrap64 ((l0_1.length : Int) - 1)) ≤ (l0_1.length : Int) then (node_half.l0 k (wrap64 (Int.tdiv t473 2)) 5 ((l0_1.take ((wrap64 ((l0_1.length : Int) - 1)) : Int).toNat).length : Int) 0 a0_0 l0_1 l0_2 l0_3) else (none)) else (none))
set_option maxHeartbeats 8000000 in
set_option maxRecDepth 100000 in
theorem node_half.calls (k : Nat) (a0_0 : Bool) (A0_1 : Option Addr) (c0_1 : Nat) (l0_1 : List (List Int)) (A0_2 : Option Addr) (c0_2 : Nat) (l0_2 : List (List Int)) (A0_3 : Option Addr) (c0_3 : Nat) (l0_3 : List Int) (r : Int) (w : World) (hr0_1 : Kd.C (Kd.slice 5 (Kd.int .u8)) w A0_1 l0_1.length l0_1) (hc0_1 : l0_1.length ≤ c0_1) (hr0_2 : Kd.C (Kd.slice 5 (Kd.int .u8)) w A0_2 l0_2.length l0_2) (hc0_2 : l0_2.length ≤ c0_2) (hr0_3 : Kd.C (Kd.int .i64) w A0_3 l0_3.length l0_3) (hc0_3 : l0_3.length ≤ c0_3) (h : node_half.f k a0_0 l0_1 l0_2 l0_3 = some r) :
  Calls Tryd.prog 55 #[.agg #[.bool a0_0, .slice A0_1 l0_1.length c0_1, .slice A0_2 l0_2.length c0_2, .slice A0_3 l0_3.length c0_3]] w fun e w' => e = .returned (.int .i64 r) ∧ Below w.heap.size w w' := by
 have hu25 := Tryd.underlying25
 have HR0_1 := Aside0.mk hr0_1
 have HC0_1 := Aside0.mk hc0_1
 clear hr0_1 hc0_1
 have HR0_2 := Aside0.mk hr0_2
 have HC0_2 := Aside0.mk hc0_2
 clear hr0_2 hc0_2
 have HR0_3 := Aside0.mk hr0_3
 have HC0_3 := Aside0.mk hc0_3
 clear hr0_3 hc0_3
 have HB := Aside0.mk (Below.refl w.heap.size w)
 have H : ((node_size.f k a0_0 l0_1 l0_2 l0_3).bind fun t473 => (if 0 ≤ (wrap64 ((l0_1.length : Int) - 1)) then (if (wrap64 ((l0_1.length : Int) - 1)) ≤ (l0_1.length : Int) then (node_half.l0 k (wrap64 (Int.tdiv t473 2)) 5 ((l0_1.take ((wrap64 ((l0_1.length : Int) - 1)) : Int).toNat).length : Int) 0 a0_0 l0_1 l0_2 l0_3) else (none)) else (none))) = some r := h
 clear h
 obtain ⟨t473, A2, H⟩ := zm H
 (try dsimp only at H)
 obtain ⟨ji3, hji3⟩ : ∃ j_ : Int, (wrap64 ((l0_1.length : Int) - 1)) = j_ := ⟨_, rfl⟩
 replace H : (if 0 ≤ (ji3) then (if (ji3) ≤ (l0_1.length : Int) then (node_half.l0 k (wrap64 (Int.tdiv t473 2)) 5 ((l0_1.take ((ji3) : Int).toNat).length : Int) 0 a0_0 l0_1 l0_2 l0_3) else (none)) else (none)) = some r := by first | (rw [hji3] at H; exact H) | (simp only [hji3] at H ⊢; exact H)
 (try rw [hji3] at A2)
 have hji3w : (IntKind.i64.wrap ((l0_1.length : Int) - 1)) = ji3 := (i64_w _).trans hji3
 by_cases c4 : 0 ≤ (ji3)
 ·rw [if_pos c4] at H
  have c4b0 := eq_true c4
  have c4b1 : decide (0 ≤ (ji3)) = true := decide_eq_true c4
  clear c4
  by_cases c5 : (ji3) ≤ (l0_1.length : Int)
  ·rw [if_pos c5] at H
   have c5b0 := eq_true c5
   have c5b1 : decide ((ji3) ≤ (l0_1.length : Int)) = true := decide_eq_true c5
   clear c5
   obtain ⟨y474, hy474⟩ : ∃ y_ : List (List Int), y_ = (l0_1.take ((ji3) : Int).toNat) := ⟨_, rfl⟩
   replace H : (node_half.l0 k (wrap64 (Int.tdiv t473 2)) 5 (y474.length : Int) 0 a0_0 l0_1 l0_2 l0_3) = some r := by first | (rw [hy474]; with_reducible exact H) | (have H2_ := (Option.bind_some _ _).symm.trans H; rw [hy474]; with_reducible exact H2_) | (have H2_ := (Option.bind_some _ _).symm.trans H; with_reducible exact H2_) | with_reducible exact H | (rw [hy474]; exact H) | exact H
   have Ny474 := Aside0.mk hy474
   clear hy474
   have H' := Aside0.mk H
   clear H
   go_enter Tryd.func55, Tryd.ntmps55
   go_wp2_with (first | ((with_reducible refine gate_dst (N := 1) rfl ?_); refine box_event ?hg (N := 1) ?hd (cs := #[.bool a0_0, .slice A0_1 l0_1.length c0_1, .slice A0_2 l0_2.length c0_2, .slice A0_3 l0_3.length c0_3]) (t := 25) ?hr ?_; (case hd => rfl); (case hg => rfl); (case hr => first | (go_simp; done) | (go_simp; rfl)); intro gb472 hg w6 hbox hb; have BK472 := Aside0.mk (hbox); have GW472 := Aside0.mk ((by rw [hg]; exact (below_size (zh0_ HB.out)) : w.heap.size ≤ gb472)); have GE472 := Aside0.mk ((by rw [hg]; exact (below_size (zh0_ HB.out)) : w.heap.size ≤ gb472)); replace HB := Aside0.mk (below_step (zh0_ HB.out) hb); clear hb hbox hg; obtain ⟨hcz7_0, hcz7_1, hcz7_2, hcz7_3⟩ := zc4 BK472.out; obtain ⟨hfz7_0, hfz7_1, hfz7_2, hfz7_3⟩ := zz4 BK472.out) | (go_at_call 32; (with_reducible refine (node_size.calls k a0_0 _ _ l0_1 _ _ l0_2 _ _ l0_3 t473 _ ?side1 ?side2 ?side3 ?side4 ?side5 ?side6 A2.out).mono ?_); (case side1 => exact zc_ (Kd.C_below HR0_1.out HB.out)); (case side2 => exact HC0_1.out); (case side3 => exact zc_ (Kd.C_below HR0_2.out HB.out)); (case side4 => exact HC0_2.out); (case side5 => exact zc_ (Kd.C_below HR0_3.out HB.out)); (case side6 => exact HC0_3.out); rintro e w8 ⟨rfl, hb⟩; replace BK472 := Aside0.mk (blk_below (zb_ BK472.out) hb); replace HB := Aside0.mk (below_step (zh1_ HB.out GE472.out) hb); (try clear hb); obtain ⟨hcz9_0, hcz9_1, hcz9_2, hcz9_3⟩ := zc4 BK472.out; obtain ⟨hfz9_0, hfz9_1, hfz9_2, hfz9_3⟩ := zz4 BK472.out; have q10 : ((ji3) : Int) ≤ ((l0_1.length : Int) : Int) := of_decide_eq_true za_; obtain ⟨i010, hi010, _, hsz10, _⟩ := info_parts info26; have hroom10 : l0_1.length ≤ c0_1 := HC0_1.out; have hC10 : Kd.C (Kd.slice 5 (Kd.int .u8)) _ A0_1 l0_1.length l0_1 := HR0_1.out; have hcut10 := cut_to (P := Tryd.prog) 22 26 .i64 Tryd.underlying22 hi010 A0_1 l0_1.length c0_1 (ji3) (of_decide_eq_true za_) q10 hroom10; have hr10 := Kd.C_take (m := ((ji3) : Int).toNat) hC10 (by omega); have hy10 : y474.length = ((ji3) : Int).toNat := (by rw [Ny474.out, List.length_take]; omega); rw [← Ny474.out] at hr10; rw [← hy10] at hcut10; have HR477 := Aside0.mk hr10; have HC477 := Aside0.mk (show y474.length ≤ c0_1 from by omega); clear hr10 hC10 hroom10 hi010 hsz10; have KY10 := Aside0.mk hy10; clear hy10; replace q10 := eq_true q10))
   repeat (go_quiet (first | ((with_reducible refine gate_dst (N := 1) rfl ?_); refine box_event ?hg (N := 1) ?hd (cs := #[.bool a0_0, .slice A0_1 l0_1.length c0_1, .slice A0_2 l0_2.length c0_2, .slice A0_3 l0_3.length c0_3]) (t := 25) ?hr ?_; (case hd => rfl); (case hg => rfl); (case hr => first | (go_simp; done) | (go_simp; rfl)); intro gb472 hg w6 hbox hb; have BK472 := Aside0.mk (hbox); have GW472 := Aside0.mk ((by rw [hg]; exact (below_size (zh0_ HB.out)) : w.heap.size ≤ gb472)); have GE472 := Aside0.mk ((by rw [hg]; exact (below_size (zh0_ HB.out)) : w.heap.size ≤ gb472)); replace HB := Aside0.mk (below_step (zh0_ HB.out) hb); clear hb hbox hg; obtain ⟨hcz7_0, hcz7_1, hcz7_2, hcz7_3⟩ := zc4 BK472.out; obtain ⟨hfz7_0, hfz7_1, hfz7_2, hfz7_3⟩ := zz4 BK472.out) | (go_at_call 32; (with_reducible refine (node_size.calls k a0_0 _ _ l0_1 _ _ l0_2 _ _ l0_3 t473 _ ?side1 ?side2 ?side3 ?side4 ?side5 ?side6 A2.out).mono ?_); (case side1 => exact zc_ (Kd.C_below HR0_1.out HB.out)); (case side2 => exact HC0_1.out); (case side3 => exact zc_ (Kd.C_below HR0_2.out HB.out)); (case side4 => exact HC0_2.out); (case side5 => exact zc_ (Kd.C_below HR0_3.out HB.out)); (case side6 => exact HC0_3.out); rintro e w8 ⟨rfl, hb⟩; replace BK472 := Aside0.mk (blk_below (zb_ BK472.out) hb); replace HB := Aside0.mk (below_step (zh1_ HB.out GE472.out) hb); (try clear hb); obtain ⟨hcz9_0, hcz9_1, hcz9_2, hcz9_3⟩ := zc4 BK472.out; obtain ⟨hfz9_0, hfz9_1, hfz9_2, hfz9_3⟩ := zz4 BK472.out; have q10 : ((ji3) : Int) ≤ ((l0_1.length : Int) : Int) := of_decide_eq_true za_; obtain ⟨i010, hi010, _, hsz10, _⟩ := info_parts info26; have hroom10 : l0_1.length ≤ c0_1 := HC0_1.out; have hC10 : Kd.C (Kd.slice 5 (Kd.int .u8)) _ A0_1 l0_1.length l0_1 := HR0_1.out; have hcut10 := cut_to (P := Tryd.prog) 22 26 .i64 Tryd.underlying22 hi010 A0_1 l0_1.length c0_1 (ji3) (of_decide_eq_true za_) q10 hroom10; have hr10 := Kd.C_take (m := ((ji3) : Int).toNat) hC10 (by omega); have hy10 : y474.length = ((ji3) : Int).toNat := (by rw [Ny474.out, List.length_take]; omega); rw [← Ny474.out] at hr10; rw [← hy10] at hcut10; have HR477 := Aside0.mk hr10; have HC477 := Aside0.mk (show y474.length ≤ c0_1 from by omega); clear hr10 hC10 hroom10 hi010 hsz10; have KY10 := Aside0.mk hy10; clear hy10; replace q10 := eq_true q10)); try go_wp2_with (first | ((with_reducible refine gate_dst (N := 1) rfl ?_); refine box_event ?hg (N := 1) ?hd (cs := #[.bool a0_0, .slice A0_1 l0_1.length c0_1, .slice A0_2 l0_2.length c0_2, .slice A0_3 l0_3.length c0_3]) (t := 25) ?hr ?_; (case hd => rfl); (case hg => rfl); (case hr => first | (go_simp; done) | (go_simp; rfl)); intro gb472 hg w6 hbox hb; have BK472 := Aside0.mk (hbox); have GW472 := Aside0.mk ((by rw [hg]; exact (below_size (zh0_ HB.out)) : w.heap.size ≤ gb472)); have GE472 := Aside0.mk ((by rw [hg]; exact (below_size (zh0_ HB.out)) : w.heap.size ≤ gb472)); replace HB := Aside0.mk (below_step (zh0_ HB.out) hb); clear hb hbox hg; obtain ⟨hcz7_0, hcz7_1, hcz7_2, hcz7_3⟩ := zc4 BK472.out; obtain ⟨hfz7_0, hfz7_1, hfz7_2, hfz7_3⟩ := zz4 BK472.out) | (go_at_call 32; (with_reducible refine (node_size.calls k a0_0 _ _ l0_1 _ _ l0_2 _ _ l0_3 t473 _ ?side1 ?side2 ?side3 ?side4 ?side5 ?side6 A2.out).mono ?_); (case side1 => exact zc_ (Kd.C_below HR0_1.out HB.out)); (case side2 => exact HC0_1.out); (case side3 => exact zc_ (Kd.C_below HR0_2.out HB.out)); (case side4 => exact HC0_2.out); (case side5 => exact zc_ (Kd.C_below HR0_3.out HB.out)); (case side6 => exact HC0_3.out); rintro e w8 ⟨rfl, hb⟩; replace BK472 := Aside0.mk (blk_below (zb_ BK472.out) hb); replace HB := Aside0.mk (below_step (zh1_ HB.out GE472.out) hb); (try clear hb); obtain ⟨hcz9_0, hcz9_1, hcz9_2, hcz9_3⟩ := zc4 BK472.out; obtain ⟨hfz9_0, hfz9_1, hfz9_2, hfz9_3⟩ := zz4 BK472.out; have q10 : ((ji3) : Int) ≤ ((l0_1.length : Int) : Int) := of_decide_eq_true za_; obtain ⟨i010, hi010, _, hsz10, _⟩ := info_parts info26; have hroom10 : l0_1.length ≤ c0_1 := HC0_1.out; have hC10 : Kd.C (Kd.slice 5 (Kd.int .u8)) _ A0_1 l0_1.length l0_1 := HR0_1.out; have hcut10 := cut_to (P := Tryd.prog) 22 26 .i64 Tryd.underlying22 hi010 A0_1 l0_1.length c0_1 (ji3) (of_decide_eq_true za_) q10 hroom10; have hr10 := Kd.C_take (m := ((ji3) : Int).toNat) hC10 (by omega); have hy10 : y474.length = ((ji3) : Int).toNat := (by rw [Ny474.out, List.length_take]; omega); rw [← Ny474.out] at hr10; rw [← hy10] at hcut10; have HR477 := Aside0.mk hr10; have HC477 := Aside0.mk (show y474.length ≤ c0_1 from by omega); clear hr10 hC10 hroom10 hi010 hsz10; have KY10 := Aside0.mk hy10; clear hy10; replace q10 := eq_true q10)))
   go_loopg [4, 17] k (fun kq v4 v17 w' => ∃ (x4_1 : Int) (x17_1 : Int), v4 = .int .i64 x4_1 ∧ v17 = .int .i64 x17_1 ∧ Aside0 (node_half.l0 kq (wrap64 (Int.tdiv t473 2)) x4_1 (y474.length : Int) x17_1 a0_0 l0_1 l0_2 l0_3 = some r) ∧ Aside0 (kq ≤ k) ∧ Aside0 (w'.heap[gb472]? = some (.cells #[.bool a0_0, (.slice A0_1 l0_1.length c0_1), (.slice A0_2 l0_2.length c0_2), (.slice A0_3 l0_3.length c0_3)] 25 (0, 0))) ∧ Aside0 (Below w.heap.size w w'))
   case atStart => exact ⟨(5), (0), (by first | rfl | (simp; done) | (simp [*]; done) | (simp only [i64_w]; done)), (by first | rfl | (simp; done) | (simp [*]; done) | (simp only [i64_w]; done)), H', ⟨Nat.le_refl _⟩, ⟨by (with_reducible repeat (first | refine blk_drewN ?_ _ | refine blk_drew ?_ | refine blk_alloc ?_ _)); exact BK472.out⟩, ⟨by exact zh1_ HB.out GE472.out⟩⟩
   case round =>
    clear H'
    try clear q1
    try clear p2
    try clear c4
    try clear c4b0
    try clear c4b1
    try clear c5
    try clear c5b0
    try clear c5b1
    try clear p6
    try clear q10
    try clear hcz7_0
    try clear hcz7_1
    try clear hcz7_2
    try clear hcz7_3
    try clear hcz9_0
    try clear hcz9_1
    try clear hcz9_2
    try clear hcz9_3
    try clear hfz7_0
    try clear hfz7_1
    try clear hfz7_2
    try clear hfz7_3
    try clear hfz9_0
    try clear hfz9_1
    try clear hfz9_2
    try clear hfz9_3
    try clear q10
    (try clear BK472)
    obtain ⟨x4_1, x17_1, rfl, rfl, HA, HK1, BK472, HB⟩ := hrel
    cases gk with
    | zero => exact absurd HA.out (by simp [node_half.l0])
    | succ k1 =>
     have H := HA.out
     clear HA
     simp only [node_half.l0] at H
     by_cases c11 : x17_1 < (y474.length : Int)
     ·rw [if_pos c11] at H
      have c11b0 : decide (x17_1 < (y474.length : Int)) = true := decide_eq_true c11
      clear c11
      by_cases c12 : 0 ≤ x17_1
      ·rw [if_pos c12] at H
       have c12b0 : decide (0 ≤ x17_1) = true := decide_eq_true c12
       clear c12
       by_cases c13 : x17_1 < (l0_1.length : Int)
       ·rw [if_pos c13] at H
        have c13b0 : decide (x17_1 < (l0_1.length : Int)) = true := decide_eq_true c13
        clear c13
        obtain ⟨t479, A14, H⟩ := zm H
        (try dsimp only at H)
        by_cases c15 : x17_1 < (l0_2.length : Int)
        ·rw [if_pos c15] at H
         have c15b0 : decide (x17_1 < (l0_2.length : Int)) = true := decide_eq_true c15
         clear c15
         obtain ⟨t481, A16, H⟩ := zm H
         (try dsimp only at H)
         obtain ⟨t482, A17, H⟩ := zm H
         (try dsimp only at H)
         by_cases c18 : (wrap64 ((wrap64 (x4_1 + (wrap64 (t479 + t481)))) + t482)) ≥ (wrap64 (Int.tdiv t473 2))
         ·rw [if_pos c18] at H
          have c18b0 : decide ((wrap64 (Int.tdiv t473 2)) ≤ (wrap64 ((wrap64 (x4_1 + (wrap64 (t479 + t481)))) + t482))) = true := decide_eq_true c18
          clear c18
          obtain rfl := Option.some.inj H
          obtain ⟨hcz19_0, hcz19_1, hcz19_2, hcz19_3⟩ := zc4 BK472.out
          obtain ⟨hfz19_0, hfz19_1, hfz19_2, hfz19_3⟩ := zz4 BK472.out
          have p478 : 0 ≤ (x17_1 : Int) := of_decide_eq_true za_
          have q478 : x17_1 < (l0_1.length : Int) := of_decide_eq_true za_
          obtain ⟨ad478, A478_0, c478_0, e478, hx478_0, hl478_0, hi478_0⟩ := at_L1 HR0_1.out x17_1 p478 q478
          cases e478
          replace hx478_0 := zx_ HB.out hx478_0
          have HR478_0 := Aside0.mk hi478_0
          have HC478_0 := Aside0.mk hl478_0
          clear hi478_0 hl478_0
          replace p478 := eq_true p478
          replace q478 := eq_true q478
          go_wp2_with (first | (go_at_call 64; (with_reducible refine (node_long.calls k1 _ _ (rd_L1 l0_1 x17_1) t479 _ ?side1 ?side2 A14.out).mono ?_); (case side1 => exact zc_ (Kd.C_below HR478_0.out HB.out)); (case side2 => exact HC478_0.out); rintro e w' ⟨rfl, ⟨nd, rfl⟩⟩; (try first | exact ⟨rfl, _, World.drewN_drewN _ _ _⟩ | exact ⟨rfl, _, Eq.trans (World.drewN_drewN _ _ _) (congrArg (World.drewN _) (Nat.add_assoc _ _ _))⟩); have p480 : 0 ≤ (x17_1 : Int) := of_decide_eq_true za_; have q480 : x17_1 < (l0_2.length : Int) := of_decide_eq_true za_; obtain ⟨ad480, A480_0, c480_0, e480, hx480_0, hl480_0, hi480_0⟩ := at_L1 HR0_2.out x17_1 p480 q480; cases e480; replace hx480_0 := zx_ HB.out hx480_0; have HR480_0 := Aside0.mk hi480_0; have HC480_0 := Aside0.mk hl480_0; clear hi480_0 hl480_0; replace p480 := eq_true p480; replace q480 := eq_true q480) | (go_at_call 64; (with_reducible refine (node_long.calls k1 _ _ (rd_L1 l0_2 x17_1) t481 _ ?side1 ?side2 A16.out).mono ?_); (case side1 => exact zc_ (Kd.C_below HR480_0.out (zh1_ HB.out GE472.out))); (case side2 => exact HC480_0.out); rintro e w' ⟨rfl, ⟨nd, rfl⟩⟩; (try first | exact ⟨rfl, _, World.drewN_drewN _ _ _⟩ | exact ⟨rfl, _, Eq.trans (World.drewN_drewN _ _ _) (congrArg (World.drewN _) (Nat.add_assoc _ _ _))⟩)) | (go_at_call 63; (with_reducible refine (node_width.calls k1 (wrap64 (x17_1 + 1)) t482 _ A17.out).mono ?_); rintro e w' ⟨rfl, ⟨nd, rfl⟩⟩; (try first | exact ⟨rfl, _, World.drewN_drewN _ _ _⟩ | exact ⟨rfl, _, Eq.trans (World.drewN_drewN _ _ _) (congrArg (World.drewN _) (Nat.add_assoc _ _ _))⟩)))
          repeat (go_quiet (first | (go_at_call 64; (with_reducible refine (node_long.calls k1 _ _ (rd_L1 l0_1 x17_1) t479 _ ?side1 ?side2 A14.out).mono ?_); (case side1 => exact zc_ (Kd.C_below HR478_0.out HB.out)); (case side2 => exact HC478_0.out); rintro e w' ⟨rfl, ⟨nd, rfl⟩⟩; (try first | exact ⟨rfl, _, World.drewN_drewN _ _ _⟩ | exact ⟨rfl, _, Eq.trans (World.drewN_drewN _ _ _) (congrArg (World.drewN _) (Nat.add_assoc _ _ _))⟩); have p480 : 0 ≤ (x17_1 : Int) := of_decide_eq_true za_; have q480 : x17_1 < (l0_2.length : Int) := of_decide_eq_true za_; obtain ⟨ad480, A480_0, c480_0, e480, hx480_0, hl480_0, hi480_0⟩ := at_L1 HR0_2.out x17_1 p480 q480; cases e480; replace hx480_0 := zx_ HB.out hx480_0; have HR480_0 := Aside0.mk hi480_0; have HC480_0 := Aside0.mk hl480_0; clear hi480_0 hl480_0; replace p480 := eq_true p480; replace q480 := eq_true q480) | (go_at_call 64; (with_reducible refine (node_long.calls k1 _ _ (rd_L1 l0_2 x17_1) t481 _ ?side1 ?side2 A16.out).mono ?_); (case side1 => exact zc_ (Kd.C_below HR480_0.out (zh1_ HB.out GE472.out))); (case side2 => exact HC480_0.out); rintro e w' ⟨rfl, ⟨nd, rfl⟩⟩; (try first | exact ⟨rfl, _, World.drewN_drewN _ _ _⟩ | exact ⟨rfl, _, Eq.trans (World.drewN_drewN _ _ _) (congrArg (World.drewN _) (Nat.add_assoc _ _ _))⟩)) | (go_at_call 63; (with_reducible refine (node_width.calls k1 (wrap64 (x17_1 + 1)) t482 _ A17.out).mono ?_); rintro e w' ⟨rfl, ⟨nd, rfl⟩⟩; (try first | exact ⟨rfl, _, World.drewN_drewN _ _ _⟩ | exact ⟨rfl, _, Eq.trans (World.drewN_drewN _ _ _) (congrArg (World.drewN _) (Nat.add_assoc _ _ _))⟩))); try go_wp2_with (first | (go_at_call 64; (with_reducible refine (node_long.calls k1 _ _ (rd_L1 l0_1 x17_1) t479 _ ?side1 ?side2 A14.out).mono ?_); (case side1 => exact zc_ (Kd.C_below HR478_0.out HB.out)); (case side2 => exact HC478_0.out); rintro e w' ⟨rfl, ⟨nd, rfl⟩⟩; (try first | exact ⟨rfl, _, World.drewN_drewN _ _ _⟩ | exact ⟨rfl, _, Eq.trans (World.drewN_drewN _ _ _) (congrArg (World.drewN _) (Nat.add_assoc _ _ _))⟩); have p480 : 0 ≤ (x17_1 : Int) := of_decide_eq_true za_; have q480 : x17_1 < (l0_2.length : Int) := of_decide_eq_true za_; obtain ⟨ad480, A480_0, c480_0, e480, hx480_0, hl480_0, hi480_0⟩ := at_L1 HR0_2.out x17_1 p480 q480; cases e480; replace hx480_0 := zx_ HB.out hx480_0; have HR480_0 := Aside0.mk hi480_0; have HC480_0 := Aside0.mk hl480_0; clear hi480_0 hl480_0; replace p480 := eq_true p480; replace q480 := eq_true q480) | (go_at_call 64; (with_reducible refine (node_long.calls k1 _ _ (rd_L1 l0_2 x17_1) t481 _ ?side1 ?side2 A16.out).mono ?_); (case side1 => exact zc_ (Kd.C_below HR480_0.out (zh1_ HB.out GE472.out))); (case side2 => exact HC480_0.out); rintro e w' ⟨rfl, ⟨nd, rfl⟩⟩; (try first | exact ⟨rfl, _, World.drewN_drewN _ _ _⟩ | exact ⟨rfl, _, Eq.trans (World.drewN_drewN _ _ _) (congrArg (World.drewN _) (Nat.add_assoc _ _ _))⟩)) | (go_at_call 63; (with_reducible refine (node_width.calls k1 (wrap64 (x17_1 + 1)) t482 _ A17.out).mono ?_); rintro e w' ⟨rfl, ⟨nd, rfl⟩⟩; (try first | exact ⟨rfl, _, World.drewN_drewN _ _ _⟩ | exact ⟨rfl, _, Eq.trans (World.drewN_drewN _ _ _) (congrArg (World.drewN _) (Nat.add_assoc _ _ _))⟩))))
          go_ret
          exact ⟨by first | rfl | (simp [errW_none, errW_some] <;> rfl) | (simp only [← hji3]; first | rfl | (simp [errW_none, errW_some] <;> rfl)) | (simp [*, errW_none, errW_some] <;> rfl), by exact zh1_ HB.out GE472.out⟩
         ·rw [if_neg c18] at H
          have c18b0 : decide ((wrap64 (Int.tdiv t473 2)) ≤ (wrap64 ((wrap64 (x4_1 + (wrap64 (t479 + t481)))) + t482))) = false := decide_eq_false c18
          clear c18
          have H' := Aside0.mk H
          clear H
          obtain ⟨hcz20_0, hcz20_1, hcz20_2, hcz20_3⟩ := zc4 BK472.out
          obtain ⟨hfz20_0, hfz20_1, hfz20_2, hfz20_3⟩ := zz4 BK472.out
          have p478 : 0 ≤ (x17_1 : Int) := of_decide_eq_true za_
          have q478 : x17_1 < (l0_1.length : Int) := of_decide_eq_true za_
          obtain ⟨ad478, A478_0, c478_0, e478, hx478_0, hl478_0, hi478_0⟩ := at_L1 HR0_1.out x17_1 p478 q478
          cases e478
          replace hx478_0 := zx_ HB.out hx478_0
          have HR478_0 := Aside0.mk hi478_0
          have HC478_0 := Aside0.mk hl478_0
          clear hi478_0 hl478_0
          replace p478 := eq_true p478
          replace q478 := eq_true q478
          go_wp2_with (first | (go_at_call 64; (with_reducible refine (node_long.calls k1 _ _ (rd_L1 l0_1 x17_1) t479 _ ?side1 ?side2 A14.out).mono ?_); (case side1 => exact zc_ (Kd.C_below HR478_0.out HB.out)); (case side2 => exact HC478_0.out); rintro e w' ⟨rfl, ⟨nd, rfl⟩⟩; (try first | exact ⟨rfl, _, World.drewN_drewN _ _ _⟩ | exact ⟨rfl, _, Eq.trans (World.drewN_drewN _ _ _) (congrArg (World.drewN _) (Nat.add_assoc _ _ _))⟩); have p480 : 0 ≤ (x17_1 : Int) := of_decide_eq_true za_; have q480 : x17_1 < (l0_2.length : Int) := of_decide_eq_true za_; obtain ⟨ad480, A480_0, c480_0, e480, hx480_0, hl480_0, hi480_0⟩ := at_L1 HR0_2.out x17_1 p480 q480; cases e480; replace hx480_0 := zx_ HB.out hx480_0; have HR480_0 := Aside0.mk hi480_0; have HC480_0 := Aside0.mk hl480_0; clear hi480_0 hl480_0; replace p480 := eq_true p480; replace q480 := eq_true q480) | (go_at_call 64; (with_reducible refine (node_long.calls k1 _ _ (rd_L1 l0_2 x17_1) t481 _ ?side1 ?side2 A16.out).mono ?_); (case side1 => exact zc_ (Kd.C_below HR480_0.out (zh1_ HB.out GE472.out))); (case side2 => exact HC480_0.out); rintro e w' ⟨rfl, ⟨nd, rfl⟩⟩; (try first | exact ⟨rfl, _, World.drewN_drewN _ _ _⟩ | exact ⟨rfl, _, Eq.trans (World.drewN_drewN _ _ _) (congrArg (World.drewN _) (Nat.add_assoc _ _ _))⟩)) | (go_at_call 63; (with_reducible refine (node_width.calls k1 (wrap64 (x17_1 + 1)) t482 _ A17.out).mono ?_); rintro e w' ⟨rfl, ⟨nd, rfl⟩⟩; (try first | exact ⟨rfl, _, World.drewN_drewN _ _ _⟩ | exact ⟨rfl, _, Eq.trans (World.drewN_drewN _ _ _) (congrArg (World.drewN _) (Nat.add_assoc _ _ _))⟩)))
          repeat (go_quiet (first | (go_at_call 64; (with_reducible refine (node_long.calls k1 _ _ (rd_L1 l0_1 x17_1) t479 _ ?side1 ?side2 A14.out).mono ?_); (case side1 => exact zc_ (Kd.C_below HR478_0.out HB.out)); (case side2 => exact HC478_0.out); rintro e w' ⟨rfl, ⟨nd, rfl⟩⟩; (try first | exact ⟨rfl, _, World.drewN_drewN _ _ _⟩ | exact ⟨rfl, _, Eq.trans (World.drewN_drewN _ _ _) (congrArg (World.drewN _) (Nat.add_assoc _ _ _))⟩); have p480 : 0 ≤ (x17_1 : Int) := of_decide_eq_true za_; have q480 : x17_1 < (l0_2.length : Int) := of_decide_eq_true za_; obtain ⟨ad480, A480_0, c480_0, e480, hx480_0, hl480_0, hi480_0⟩ := at_L1 HR0_2.out x17_1 p480 q480; cases e480; replace hx480_0 := zx_ HB.out hx480_0; have HR480_0 := Aside0.mk hi480_0; have HC480_0 := Aside0.mk hl480_0; clear hi480_0 hl480_0; replace p480 := eq_true p480; replace q480 := eq_true q480) | (go_at_call 64; (with_reducible refine (node_long.calls k1 _ _ (rd_L1 l0_2 x17_1) t481 _ ?side1 ?side2 A16.out).mono ?_); (case side1 => exact zc_ (Kd.C_below HR480_0.out (zh1_ HB.out GE472.out))); (case side2 => exact HC480_0.out); rintro e w' ⟨rfl, ⟨nd, rfl⟩⟩; (try first | exact ⟨rfl, _, World.drewN_drewN _ _ _⟩ | exact ⟨rfl, _, Eq.trans (World.drewN_drewN _ _ _) (congrArg (World.drewN _) (Nat.add_assoc _ _ _))⟩)) | (go_at_call 63; (with_reducible refine (node_width.calls k1 (wrap64 (x17_1 + 1)) t482 _ A17.out).mono ?_); rintro e w' ⟨rfl, ⟨nd, rfl⟩⟩; (try first | exact ⟨rfl, _, World.drewN_drewN _ _ _⟩ | exact ⟨rfl, _, Eq.trans (World.drewN_drewN _ _ _) (congrArg (World.drewN _) (Nat.add_assoc _ _ _))⟩))); try go_wp2_with (first | (go_at_call 64; (with_reducible refine (node_long.calls k1 _ _ (rd_L1 l0_1 x17_1) t479 _ ?side1 ?side2 A14.out).mono ?_); (case side1 => exact zc_ (Kd.C_below HR478_0.out HB.out)); (case side2 => exact HC478_0.out); rintro e w' ⟨rfl, ⟨nd, rfl⟩⟩; (try first | exact ⟨rfl, _, World.drewN_drewN _ _ _⟩ | exact ⟨rfl, _, Eq.trans (World.drewN_drewN _ _ _) (congrArg (World.drewN _) (Nat.add_assoc _ _ _))⟩); have p480 : 0 ≤ (x17_1 : Int) := of_decide_eq_true za_; have q480 : x17_1 < (l0_2.length : Int) := of_decide_eq_true za_; obtain ⟨ad480, A480_0, c480_0, e480, hx480_0, hl480_0, hi480_0⟩ := at_L1 HR0_2.out x17_1 p480 q480; cases e480; replace hx480_0 := zx_ HB.out hx480_0; have HR480_0 := Aside0.mk hi480_0; have HC480_0 := Aside0.mk hl480_0; clear hi480_0 hl480_0; replace p480 := eq_true p480; replace q480 := eq_true q480) | (go_at_call 64; (with_reducible refine (node_long.calls k1 _ _ (rd_L1 l0_2 x17_1) t481 _ ?side1 ?side2 A16.out).mono ?_); (case side1 => exact zc_ (Kd.C_below HR480_0.out (zh1_ HB.out GE472.out))); (case side2 => exact HC480_0.out); rintro e w' ⟨rfl, ⟨nd, rfl⟩⟩; (try first | exact ⟨rfl, _, World.drewN_drewN _ _ _⟩ | exact ⟨rfl, _, Eq.trans (World.drewN_drewN _ _ _) (congrArg (World.drewN _) (Nat.add_assoc _ _ _))⟩)) | (go_at_call 63; (with_reducible refine (node_width.calls k1 (wrap64 (x17_1 + 1)) t482 _ A17.out).mono ?_); rintro e w' ⟨rfl, ⟨nd, rfl⟩⟩; (try first | exact ⟨rfl, _, World.drewN_drewN _ _ _⟩ | exact ⟨rfl, _, Eq.trans (World.drewN_drewN _ _ _) (congrArg (World.drewN _) (Nat.add_assoc _ _ _))⟩))))
          go_roundg k1
          case measure => have := HK1.out; omega
          case rel => exact ⟨(wrap64 (x4_1 + (wrap64 (t479 + t481)))), (wrap64 (x17_1 + 1)), (by first | rfl | (simp; done) | (simp [*]; done) | (simp only [i64_w]; done)), (by first | rfl | (simp; done) | (simp [*]; done) | (simp only [i64_w]; done)), H', ⟨by have := HK1.out; omega⟩, ⟨by (with_reducible repeat (first | refine blk_drewN ?_ _ | refine blk_drew ?_ | refine blk_alloc ?_ _)); exact BK472.out⟩, ⟨by exact zh1_ HB.out GE472.out⟩⟩
        ·rw [if_neg c15] at H
         cases H
       ·rw [if_neg c13] at H
        cases H
      ·rw [if_neg c12] at H
       cases H
     ·rw [if_neg c11] at H
      have c11b0 : decide (x17_1 < (y474.length : Int)) = false := decide_eq_false c11
      clear c11
      obtain rfl := Option.some.inj H
      obtain ⟨hcz21_0, hcz21_1, hcz21_2, hcz21_3⟩ := zc4 BK472.out
      obtain ⟨hfz21_0, hfz21_1, hfz21_2, hfz21_3⟩ := zz4 BK472.out
      go_wp2
      repeat (go_quiet (fail); try go_wp2)
      go_ret
      exact ⟨by first | rfl | (simp [errW_none, errW_some] <;> rfl) | (simp only [← hji3]; first | rfl | (simp [errW_none, errW_some] <;> rfl)) | (simp [*, errW_none, errW_some] <;> rfl), by exact zh1_ HB.out GE472.out⟩
  ·rw [if_neg c5] at H
   cases H
 ·rw [if_neg c4] at H
  cases H
end Go.Proofs.YtcbgichkeecgiaaDoor.Print
namespace Go.Proofs.YtcbgichkeecgiaaDoor.Print
open Go.RowKit Go.Proofs.YtcbgichkeecgiaaDoorW.PrintWords Go.Proofs.YtcbgichkeecgiaaDoorW.PrintLast Go.Proofs.YtcbgichkeecgiaaDoorW.PrintMore
attribute [local go_sem] max2_mx min2_mn max_two min_two max_three min_three max_four min_four
set_option linter.unusedVariables false
set_option linter.unusedSimpArgs false
theorem V_take {α : Type} {d : Kd α} {e base : Nat} {ok : Nat → Prop} {g n c : Nat} {xs : List α} {W : World} (h : d.R e W base ok (.slice (some ⟨g, 0, none⟩) n c) xs) (i cc : Nat) (hi : i ≤ n) (hc : i ≤ cc) : Kd.V d e W base (fun k_ => (base ≤ k_)) (.slice (some ⟨g, 0, none⟩) i cc) (xs.take i) := by
 have hn := (Kd.R_reads' h).1
 have hl : (xs.take i).length = i := by rw [List.length_take]; omega
 refine ⟨some ⟨g, 0, none⟩, cc, by rw [hl], by rw [hl]; exact hc, ?_⟩
 have hF := Kd.R_F (Kd.R_mono (Kd.R_bound h) (fun k hk => hk.2.1) : d.R e W base (fun k => base ≤ k) _ _)
 intro W' hW
 obtain ⟨h1, h2, h3⟩ := hF W' hW
 refine ⟨rfl, by rw [hl]; omega, fun hp => ?_⟩
 obtain ⟨ad, ha, hel⟩ := h3 (by rw [hl] at hp; omega)
 refine ⟨ad, ha, fun j p hj => hel j p ?_⟩
 rw [List.getElem?_take] at hj
 split at hj
 ·exact hj
 ·cases hj
theorem V_drop {α : Type} {d : Kd α} {e base : Nat} {ok : Nat → Prop} {g n c : Nat} {xs : List α} {W : World} (h : d.R e W base ok (.slice (some ⟨g, 0, none⟩) n c) xs) (i : Nat) (hi : i ≤ n) (A : Option Addr) (hA : (if c = i then some (⟨g, 0, none⟩ : Addr) else some ⟨g, i * d.sz, none⟩) = A) :
  Kd.V d e W base (fun k_ => (base ≤ k_)) (.slice A (n - i) (c - i)) (xs.drop i) := by
 have hn := (Kd.R_reads' h).1
 have hnc : n ≤ c := by have := (Kd.R_reads' h).2.1; omega
 have hl : (xs.drop i).length = n - i := by rw [List.length_drop]; omega
 refine ⟨A, c - i, by rw [hl], by rw [hl]; omega, ?_⟩
 have hF := Kd.R_F (Kd.R_mono (Kd.R_bound h) (fun k hk => hk.2.1) : d.R e W base (fun k => base ≤ k) _ _)
 intro W' hW
 obtain ⟨h1, h2, h3⟩ := hF W' hW
 refine ⟨rfl, by rw [hl]; omega, fun hp => ?_⟩
 rw [hl] at hp
 have hci : ¬ c = i := by omega
 rw [if_neg hci] at hA
 obtain ⟨ad, ha, hel⟩ := h3 (by omega)
 cases ha
 refine ⟨⟨g, i * d.sz, none⟩, hA.symm, fun j p hj => ?_⟩
 rw [List.getElem?_drop] at hj
 obtain ⟨cs, hs, hk, hc⟩ := hel (i + j) p hj
 refine ⟨cs, hs, hk, fun q u hu => ?_⟩
 have := hc q u hu
 rw [Addr.add_lit]
 rwa [Addr.add_lit, Nat.zero_add, Nat.add_mul, Nat.add_assoc] at this
structure SplP (w W : World) (gc ga gb : Nat) (b : Bool) (Ak : Option Addr) (ck : Nat) (ks : List (List Int)) (Av : Option Addr) (cv : Nat) (vs : List (List Int)) (Ad : Option Addr) (cd : Nat) (ds : List Int) : Prop where
 BC : W.heap[gc]? = some (.cells #[.bool b, .slice Ak ks.length ck, .slice Av vs.length cv, .slice Ad ds.length cd] 25 (0, 0))
 BA : W.heap[ga]? = some (.cells #[.bool false, .slice none 0 0, .slice none 0 0, .slice none 0 0] 25 (0, 0))
 BB : W.heap[gb]? = some (.cells #[.bool false, .slice none 0 0, .slice none 0 0, .slice none 0 0] 25 (0, 0))
 HB : Below w.heap.size w W
 K : Kd.R (Kd.slice 5 (Kd.int .u8)) 26 W w.heap.size (fun _ => True) (.slice Ak ks.length ck) ks
 V : Kd.R (Kd.slice 5 (Kd.int .u8)) 26 W w.heap.size (fun _ => True) (.slice Av vs.length cv) vs
 D : Kd.R (Kd.int .i64) 3 W w.heap.size (fun _ => True) (.slice Ad ds.length cd) ds
 GC : w.heap.size ≤ gc
 GA : w.heap.size ≤ ga
 GB : w.heap.size ≤ gb
 ne1 : ga ≠ gc
 ne2 : gb ≠ gc
 ne3 : ga ≠ gb
section
variable {w W W2 : World} {gc ga gb : Nat} {b : Bool} {Ak : Option Addr} {ck : Nat} {ks : List (List Int)} {Av : Option Addr} {cv : Nat} {vs : List (List Int)} {Ad : Option Addr} {cd : Nat} {ds : List Int}
theorem SplP.below (O : SplP w W gc ga gb b Ak ck ks Av cv vs Ad cd ds) (hb : Below W.heap.size W W2) : SplP w W2 gc ga gb b Ak ck ks Av cv vs Ad cd ds :=
 ⟨blk_below O.BC hb, blk_below O.BA hb, blk_below O.BB hb, below_step O.HB hb, Kd.R_below O.K hb, Kd.R_below O.V hb, Kd.R_below O.D hb, O.GC, O.GA, O.GB, O.ne1, O.ne2, O.ne3⟩
theorem SplP.drew (O : SplP w W gc ga gb b Ak ck ks Av cv vs Ad cd ds) : SplP w W.drew gc ga gb b Ak ck ks Av cv vs Ad cd ds := O.below (below_drew (Below.refl _ _))
theorem SplP.far (O : SplP w W gc ga gb b Ak ck ks Av cv vs Ad cd ds) {g : Nat} {v0 v1 v2 v3 : Value} (hg : W.heap[g]? = some (.cells #[v0, v1, v2, v3] 25 (0, 0))) (h0 : w.heap.size ≤ g) (h1 : gc ≠ g) (h2 : ga ≠ g) (h3 : gb ≠ g) (x0 x1 x2 x3 : Value) :
  SplP w ((((W.setCell ⟨g, 0, none⟩ x0).setCell ⟨g, 1, none⟩ x1).setCell ⟨g, 2, none⟩ x2).setCell ⟨g, 3, none⟩ x3) gc ga gb b Ak ck ks Av cv vs Ad cd ds :=
 ⟨pageF O.BC h1 _ _ _ _, pageF O.BA h2 _ _ _ _, pageF O.BB h3 _ _ _ _, pageW O.HB h0 _ _ _ _, pageR O.K hg (by decide) _ _ _ _, pageR O.V hg (by decide) _ _ _ _, pageR O.D hg (by decide) _ _ _ _, O.GC, O.GA, O.GB, O.ne1, O.ne2, O.ne3⟩
theorem cells4 {g : Nat} {v0 v1 v2 v3 : Value} (h : W.heap[g]? = some (.cells #[v0, v1, v2, v3] 25 (0, 0))) : W.cell? ⟨g, 0, none⟩ = some v0 ∧ W.cell? ⟨g, 1, none⟩ = some v1 ∧ W.cell? ⟨g, 2, none⟩ = some v2 ∧ W.cell? ⟨g, 3, none⟩ = some v3 :=
 ⟨(blk_cell h 0).trans rfl, (blk_cell h 1).trans rfl, (blk_cell h 2).trans rfl, (blk_cell h 3).trans rfl⟩
theorem SplP.end_ (O : SplP w W gc ga gb b Ak ck ks Av cv vs Ad cd ds) (x0 x1 x2 x3 y0 y1 y2 y3 : Value) :
  ∃ W2, W2 = ((((((((W.setCell ⟨ga, 0, none⟩ x0).setCell ⟨ga, 1, none⟩ x1).setCell ⟨ga, 2, none⟩ x2).setCell ⟨ga, 3, none⟩ x3).setCell ⟨gb, 0, none⟩ y0).setCell ⟨gb, 1, none⟩ y1).setCell ⟨gb, 2, none⟩ y2).setCell ⟨gb, 3, none⟩ y3) ∧
   W2.heap[ga]? = some (.cells #[x0, x1, x2, x3] 25 (0, 0)) ∧ W2.heap[gb]? = some (.cells #[y0, y1, y2, y3] 25 (0, 0)) ∧ Below w.heap.size w W2 ∧
   Kd.R (Kd.slice 5 (Kd.int .u8)) 26 W2 w.heap.size (fun _ => True) (.slice Ak ks.length ck) ks ∧ Kd.R (Kd.slice 5 (Kd.int .u8)) 26 W2 w.heap.size (fun _ => True) (.slice Av vs.length cv) vs ∧ Kd.R (Kd.int .i64) 3 W2 w.heap.size (fun _ => True) (.slice Ad ds.length cd) ds := by
 have hb := pageF O.BB (Ne.symm O.ne3) x0 x1 x2 x3
 exact ⟨_, rfl, pageF (pageB O.BA x0 x1 x2 x3) O.ne3 _ _ _ _, pageB hb y0 y1 y2 y3, pageW (pageW O.HB O.GA _ _ _ _) O.GB _ _ _ _, pageR (pageR O.K O.BA (by decide) _ _ _ _) hb (by decide) _ _ _ _, pageR (pageR O.V O.BA (by decide) _ _ _ _) hb (by decide) _ _ _ _, pageR (pageR O.D O.BA (by decide) _ _ _ _) hb (by decide) _ _ _ _⟩
end
def node_Split.f (k : Nat) (a0_0 : Bool) (l0_1 l0_2 : List (List Int)) (l0_3 : List Int) : Option (Bool × (List (List Int)) × (List (List Int)) × List Int × List Int × Bool × (List (List Int)) × (List (List Int)) × List Int × Int) :=
 (node_Check.f k a0_0 l0_1 l0_2 l0_3).bind fun t => if t = 0 then (if l0_1.length < 2 then none else if a0_0 = true then ((node_own.f k a0_0 l0_1 l0_2 l0_3).bind fun o => ((node_half.f k a0_0 l0_1 l0_2 l0_3).bind fun i => if 0 < i ∧ i < (o.2.1.length : Int) ∧ i ≤ (o.2.2.1.length : Int) ∧ o.2.1.length < 9223372036854775807 ∧ o.2.2.1.length < 9223372036854775807 then ((bytes_Clone.f (rd_L1 o.2.1 i)).bind fun b => some (true, o.2.1.take i.toNat, o.2.2.1.take i.toNat, [], b, true, o.2.1.drop i.toNat, o.2.2.1.drop i.toNat, [], 0)) else none)) else none) else none
set_option maxHeartbeats 8000000 in
set_option maxRecDepth 100000 in
theorem node_Split.calls (k : Nat) (a0_0 : Bool) (A0_1 : Option Addr) (c0_1 : Nat) (l0_1 : List (List Int)) (A0_2 : Option Addr) (c0_2 : Nat) (l0_2 : List (List Int)) (A0_3 : Option Addr) (c0_3 : Nat) (l0_3 : List Int) (r1 : Bool) (r2 : List (List Int)) (r3 : List (List Int)) (r4 : List Int) (r5 : List Int) (r6 : Bool) (r7 : List (List Int)) (r8 : List (List Int)) (r9 : List Int) (r10 : Int) (w : World) (hr0_1 : Kd.C (Kd.slice 5 (Kd.int .u8)) w A0_1 l0_1.length l0_1) (hc0_1 : l0_1.length ≤ c0_1) (hr0_2 : Kd.C (Kd.slice 5 (Kd.int .u8)) w A0_2 l0_2.length l0_2) (hc0_2 : l0_2.length ≤ c0_2) (hr0_3 : Kd.C (Kd.int .i64) w A0_3 l0_3.length l0_3) (hc0_3 : l0_3.length ≤ c0_3) (h : node_Split.f k a0_0 l0_1 l0_2 l0_3 = some (r1, r2, r3, r4, r5, r6, r7, r8, r9, r10)) :
  Calls Tryd.prog 29 #[.agg #[.bool a0_0, .slice A0_1 l0_1.length c0_1, .slice A0_2 l0_2.length c0_2, .slice A0_3 l0_3.length c0_3]] w fun e w' => ∃ v1_ v2_ v3_ v4_ v6_ v7_ v8_ : Value, e = .returned (.tuple #[.agg #[.bool r1, v1_, v2_, v3_], v4_, .agg #[.bool r6, v6_, v7_, v8_], .int .i64 r10]) ∧ Kd.V (Kd.slice 5 (Kd.int .u8)) 26 w' w.heap.size (fun k_ => (w.heap.size ≤ k_)) v1_ r2 ∧ Kd.V (Kd.slice 5 (Kd.int .u8)) 26 w' w.heap.size (fun k_ => (w.heap.size ≤ k_)) v2_ r3 ∧ Kd.V (Kd.int .i64) 3 w' w.heap.size (fun k_ => (w.heap.size ≤ k_)) v3_ r4 ∧ Kd.V (Kd.int .u8) 5 w' w.heap.size (fun k_ => (w.heap.size ≤ k_)) v4_ r5 ∧ Kd.V (Kd.slice 5 (Kd.int .u8)) 26 w' w.heap.size (fun k_ => (w.heap.size ≤ k_)) v6_ r7 ∧ Kd.V (Kd.slice 5 (Kd.int .u8)) 26 w' w.heap.size (fun k_ => (w.heap.size ≤ k_)) v7_ r8 ∧ Kd.V (Kd.int .i64) 3 w' w.heap.size (fun k_ => (w.heap.size ≤ k_)) v8_ r9 ∧ Below w.heap.size w w' := by
 have hu26 := Tryd.underlying25
 have R1 := Aside0.mk hr0_1
 have L1 := Aside0.mk hc0_1
 have R2 := Aside0.mk hr0_2
 have L2 := Aside0.mk hc0_2
 have R3 := Aside0.mk hr0_3
 have L3 := Aside0.mk hc0_3
 clear hr0_1 hc0_1 hr0_2 hc0_2 hr0_3 hc0_3
 unfold node_Split.f at h
 replace h := Option.bind_eq_some_iff.mp h
 obtain ⟨t, ht, h⟩ := h
 have HT := Aside0.mk ht
 have HH := Aside0.mk h
 clear ht h
 go_enter Tryd.func29, Tryd.ntmps29
 go_wp2_with (first | ((with_reducible refine gate_dst (N := 1) rfl ?_); refine box_event ?hg (N := 1) ?hd (cs := #[.bool a0_0, .slice A0_1 l0_1.length c0_1, .slice A0_2 l0_2.length c0_2, .slice A0_3 l0_3.length c0_3]) (t := 25) ?hr ?_; (case hd => rfl); (case hg => rfl); (case hr => first | (go_simp; done) | (go_simp; rfl)); intro gp hgp w1 hbox hb; have BP := Aside0.mk hbox; have HB := Aside0.mk hb; clear hbox hb hgp) | ((with_reducible refine gate_dst (N := 2) rfl ?_); refine box_event ?hg (N := 2) ?hd (cs := #[.bool false, .slice none 0 0, .slice none 0 0, .slice none 0 0]) (t := 25) ?hr ?_; (case hd => rfl); (case hg => rfl); (case hr => first | (go_simp; done) | (go_simp; rfl)); intro ga hga w2 hbox hb; have GA : Aside0 (w.heap.size ≤ ga) := ⟨by rw [hga]; exact HB.out.size⟩; have BA := Aside0.mk hbox; have BP2 := Aside0.mk (blk_below BP.out hb); have HB2 := Aside0.mk (below_step HB.out hb); clear hbox hb hga BP HB) | ((with_reducible refine gate_dst (N := 4) rfl ?_); refine box_event ?hg (N := 4) ?hd (cs := #[.bool false, .slice none 0 0, .slice none 0 0, .slice none 0 0]) (t := 25) ?hr ?_; (case hd => rfl); (case hg => rfl); (case hr => first | (go_simp; done) | (go_simp; rfl)); intro gb hgb w3 hbox hb; have GB : Aside0 (w.heap.size ≤ gb ∧ ga ≠ gb) := ⟨by rw [hgb]; exact HB2.out.size, by rw [hgb]; exact Nat.ne_of_lt (blk_lt BA.out)⟩; have BB := Aside0.mk hbox; have BA2 := Aside0.mk (blk_below BA.out hb); have BP3 := Aside0.mk (blk_below BP2.out hb); have HB3 := Aside0.mk (below_step HB2.out hb); obtain ⟨hc0, hc1, hc2, hc3⟩ := cells4 BP3.out; clear hbox hb hgb BP2 HB2 BA))
 refine (node_Check.calls k a0_0 A0_1 c0_1 l0_1 A0_2 c0_2 l0_2 A0_3 c0_3 l0_3 t _ (Kd.C_below R1.out HB3.out) L1.out (Kd.C_below R2.out HB3.out) L2.out (Kd.C_below R3.out HB3.out) L3.out HT.out).mono ?_
 rintro e w4 ⟨rfl, hb4⟩
 have BP4 := Aside0.mk (blk_below BP3.out hb4)
 have BA4 := Aside0.mk (blk_below BA2.out hb4)
 have BB4 := Aside0.mk (blk_below BB.out hb4)
 have HB4 := Aside0.mk (below_step HB3.out hb4)
 clear hc0 hc1 hc2 hc3 hb4 BP3 BA2 BB HB3 HT
 obtain ⟨hc0, hc1, hc2, hc3⟩ := cells4 BP4.out
 have H := HH.out
 clear HH
 by_cases hz : t = 0
 case neg =>
  rw [if_neg hz] at H
  cases H
 case pos =>
 rw [if_pos hz] at H
 have z1 : (t == 0) = true := beq_iff_eq.mpr hz
 have z2 : (t != 0) = false := bne_eq_false_iff_eq.mpr hz
 clear hz
 by_cases h2 : l0_1.length < 2
 case pos =>
  rw [if_pos h2] at H
  cases H
 case neg =>
 have y2 : decide ((l0_1.length : Int) < 2) = false := decide_eq_false (by omega)
 have y2n : decide (l0_1.length < 2) = false := decide_eq_false h2
 rw [if_neg h2] at H
 cases a0_0 with
 | false =>
  rw [if_neg (by decide)] at H
  cases H
 | true =>
  rw [if_pos rfl] at H
  by_cases h3 : l0_1.length < 3
  case' pos =>
   have y3 : decide ((l0_1.length : Int) < 3) = true := decide_eq_true (by omega)
   have y3n : decide (l0_1.length < 3) = true := decide_eq_true h3
  case' neg =>
   have y3 : decide ((l0_1.length : Int) < 3) = false := decide_eq_false (by omega)
   have y3n : decide (l0_1.length < 3) = false := decide_eq_false h3
  all_goals
   clear h2 h3
   replace H := Option.bind_eq_some_iff.mp H
   obtain ⟨⟨o1, o2, o3, o4⟩, ho, H⟩ := H
   have HO := Aside0.mk ho
   have HH := Aside0.mk H
   clear ho H
   go_wp2_with fail
   refine (node_own.calls k true A0_1 c0_1 l0_1 A0_2 c0_2 l0_2 A0_3 c0_3 l0_3 o1 o2 o3 o4 _ (Kd.C_below R1.out HB4.out) L1.out (Kd.C_below R2.out HB4.out) L2.out (Kd.C_below R3.out HB4.out) L3.out HO.out).mono ?_
   rintro e w5 ⟨v1, v2, v3, rfl, hS1, hS2, hR3, hb5⟩
   obtain ⟨Ak, ck, rfl⟩ := Kd.R_slice (Kd.S_R hS1)
   obtain ⟨Av, cv, rfl⟩ := Kd.R_slice (Kd.S_R hS2)
   obtain ⟨Ad, cd, rfl⟩ := Kd.R_slice hR3
   have S1 := Aside0.mk (Kd.R_mono (Kd.R_lower (Kd.S_R hS1) HB4.out.size) (ok' := fun _ => True) (fun _ _ => trivial))
   have S2 := Aside0.mk (Kd.R_mono (Kd.R_lower (Kd.S_R hS2) HB4.out.size) (ok' := fun _ => True) (fun _ _ => trivial))
   have S3 := Aside0.mk (Kd.R_lower hR3 HB4.out.size)
   have BP5 := Aside0.mk (blk_below BP4.out hb5)
   have BA5 := Aside0.mk (blk_below BA4.out hb5)
   have BB5 := Aside0.mk (blk_below BB4.out hb5)
   have HB5 := Aside0.mk (below_step HB4.out hb5)
   clear hc0 hc1 hc2 hc3 hb5 BP4 BA4 BB4 HB4 hS1 hS2 hR3 HO
   have H := HH.out
   clear HH
   replace H := Option.bind_eq_some_iff.mp H
   obtain ⟨i, hi_, H⟩ := H
   have HI := Aside0.mk hi_
   have HH := Aside0.mk H
   clear hi_ H
   go_wp2_with (first | ((with_reducible refine gate_dst (N := 8) rfl ?_); refine box_event ?hg (N := 8) ?hd (cs := #[.bool false, .slice none 0 0, .slice none 0 0, .slice none 0 0]) (t := 25) ?hr ?_; (case hd => rfl); (case hg => rfl); (case hr => first | (go_simp; done) | (go_simp; rfl)); intro gc hgc w6 hbox hb; have GC : Aside0 (w.heap.size ≤ gc ∧ ga ≠ gc ∧ gb ≠ gc ∧ gp ≠ gc) := ⟨by rw [hgc]; exact HB5.out.size, by rw [hgc]; exact Nat.ne_of_lt (blk_lt BA5.out), by rw [hgc]; exact Nat.ne_of_lt (blk_lt BB5.out), by rw [hgc]; exact Nat.ne_of_lt (blk_lt BP5.out)⟩; have BC := Aside0.mk hbox; have BP6 := Aside0.mk (blk_below BP5.out hb); have BA6 := Aside0.mk (blk_below BA5.out hb); have BB6 := Aside0.mk (blk_below BB5.out hb); have HB6 := Aside0.mk (below_step HB5.out hb); have T1 := Aside0.mk (Kd.R_below S1.out hb); have T2 := Aside0.mk (Kd.R_below S2.out hb); have T3 := Aside0.mk (Kd.R_below S3.out hb); obtain ⟨hd0, hd1, hd2, hd3⟩ := cells4 BC.out; have hf0 := blk_frozen BC.out 0; have hf1 := blk_frozen BC.out 1; have hf2 := blk_frozen BC.out 2; have hf3 := blk_frozen BC.out 3; obtain ⟨hc0, hc1, hc2, hc3⟩ := cells4 BP6.out; have hne1 : ¬ gc = gp := Ne.symm GC.out.2.2.2; have hne2 : ¬ gp = gc := GC.out.2.2.2; clear hbox hb hgc BP5 BA5 BB5 HB5 S1 S2 S3))
   have O : Aside0 (SplP w ((((w6.setCell ⟨gc, 0, none⟩ (.bool o1)).setCell ⟨gc, 1, none⟩ (.slice Ak o2.length ck)).setCell ⟨gc, 2, none⟩ (.slice Av o3.length cv)).setCell ⟨gc, 3, none⟩ (.slice Ad o4.length cd)) gc ga gb o1 Ak ck o2 Av cv o3 Ad cd o4) :=
    ⟨pageB BC.out _ _ _ _, pageF BA6.out GC.out.2.1 _ _ _ _, pageF BB6.out GC.out.2.2.1 _ _ _ _, pageW HB6.out GC.out.1 _ _ _ _, pageR T1.out BC.out (by decide) _ _ _ _, pageR T2.out BC.out (by decide) _ _ _ _, pageR T3.out BC.out (by decide) _ _ _ _, GC.out.1, GA.out, GB.out.1, GC.out.2.1, GC.out.2.2.1, GB.out.2⟩
   clear T1 T2 T3 BC BA6 BB6 HB6 BP6 hd0 hd1 hd2 hd3 hf0 hf1 hf2 hf3 hc0 hc1 hc2 hc3 hne1 hne2 GC GA GB
   refine (node_half.calls k true A0_1 c0_1 l0_1 A0_2 c0_2 l0_2 A0_3 c0_3 l0_3 i _ (Kd.C_below R1.out O.out.HB) L1.out (Kd.C_below R2.out O.out.HB) L2.out (Kd.C_below R3.out O.out.HB) L3.out HI.out).mono ?_
   rintro e w7 ⟨rfl, hb7⟩
   have O2 := Aside0.mk (O.out.below hb7)
   clear hb7 O HI
   have O := O2
   clear O2
   have H := HH.out
   clear HH
   by_cases hc : 0 < i ∧ i < (o2.length : Int) ∧ i ≤ (o3.length : Int) ∧ o2.length < 9223372036854775807 ∧ o3.length < 9223372036854775807
   case neg => rw [if_neg hc] at H; cases H
   case pos =>
   rw [if_pos hc] at H
   obtain ⟨n, rfl⟩ := Int.eq_ofNat_of_zero_le (Int.le_of_lt hc.1)
   replace H := Option.bind_eq_some_iff.mp H
   obtain ⟨bb, hbb, H⟩ := H
   have HCB := Aside0.mk hbb
   simp only [Option.some.injEq, Prod.mk.injEq, Int.toNat_natCast] at H
   obtain ⟨rfl, rfl, rfl, rfl, rfl, rfl, rfl, rfl, rfl, rfl⟩ := H
   have HN : Aside0 (0 < n ∧ n < o2.length ∧ n ≤ o3.length) := ⟨by omega⟩
   clear hc hbb
   obtain ⟨gk, c_, e_, _, _, curk, hk⟩ := Kd.R_form O.out.K (by have := HN.out; omega)
   injection e_ with e1_ _ e2_
   subst e1_
   subst e2_
   obtain ⟨gv, c_, e_, _, _, curv, hv⟩ := Kd.R_form O.out.V (by have := HN.out; omega)
   injection e_ with e1_ _ e2_
   subst e1_
   subst e2_
   clear hk hv
   have HCK := Aside0.mk (Kd.R_reads' O.out.K).2.1
   have HCV := Aside0.mk (Kd.R_reads' O.out.V).2.1
   have f1 : n ≤ ck := by have := HN.out; have := HCK.out; omega
   have f2 : n ≤ cv := by have := HN.out; have := HCV.out; omega
   have f3 : (n : Int) ≤ (ck : Int) := by omega
   have f4 : (n : Int) ≤ (cv : Int) := by omega
   have f5 : n ≤ o2.length := by have := HN.out; omega
   have f6 : n ≤ o3.length := by have := HN.out; omega
   have f7 : (n : Int) < (o2.length : Int) := by have := HN.out; omega
   have f8 : n < o2.length := HN.out.2.1
   obtain ⟨AK, hAK⟩ : ∃ A, (if ck = n then some (⟨gk, 0, none⟩ : Addr) else some ⟨gk, n, none⟩) = A := ⟨_, rfl⟩
   obtain ⟨AV, hAV⟩ : ∃ A, (if cv = n then some (⟨gv, 0, none⟩ : Addr) else some ⟨gv, n, none⟩) = A := ⟨_, rfl⟩
   go_wp2_with fail
   have O2 := Aside0.mk O.out.drew
   clear O
   have O := O2
   clear O2
   refine start_ (n := 13) (S := fun w' => w'.cell? ⟨gc, 0, none⟩ = some (.bool o1) ∧ w'.cell? ⟨gc, 1, none⟩ = some (.slice (some ⟨gk, 0, none⟩) o2.length ck) ∧ w'.cell? ⟨gc, 2, none⟩ = some (.slice (some ⟨gv, 0, none⟩) o3.length cv) ∧ w'.cell? ⟨gc, 3, none⟩ = some (.slice Ad o4.length cd)) (ds := [12]) (zB 0 13) (by kernel_rfl) rfl rfl ⟨(cells4 O.out.BC).1, (cells4 O.out.BC).2.1, (cells4 O.out.BC).2.2.1, (cells4 O.out.BC).2.2.2⟩ (fun hHeld => ?_)
   generalize World.drew _ = wa at O hHeld ⊢
   refine zpu 0 (some 44) (zB 1 12) (by kernel_rfl) ?_
   refine zpu 2 (some 46) #[true, false, true, false, false, false, false, false, false, false, false, false, false] (by kernel_rfl) ?_
   refine zpu 3 (some 47) #[true, false, true, true, false, false, false, false, false, false, false, false, false] (by kernel_rfl) ?_
   refine zpu 5 (some 49) #[true, false, true, true, false, true, false, false, false, false, false, false, false] (by kernel_rfl) ?_
   refine zpu 7 (some 51) #[true, false, true, true, false, true, false, true, false, false, false, false, false] (by kernel_rfl) ?_
   refine zpu 8 (some 52) #[true, false, true, true, false, true, false, true, true, false, false, false, false] (by kernel_rfl) ?_
   refine zta 1 (some 45) #[true, true, true, true, false, true, false, true, true, false, false, false, false] (by kernel_rfl) hHeld ?_
   refine zpu 4 (some 48) #[true, true, true, true, true, true, false, true, true, false, false, false, false] (by kernel_rfl) ?_
   refine zta 6 (some 50) (zB 9 4) (by kernel_rfl) hHeld ?_
   refine zpu 9 (some 53) (zB 10 3) (by kernel_rfl) ?_
   refine zpu 10 (some 54) (zB 11 2) (by kernel_rfl) ?_
   refine one_ (i := 11) (N := some 10) (zB 12 1) rfl rfl (by kernel_rfl) (by decide) (fun K hK => ?_)
   refine value_ (w1 := ?_) (v := ?_) (by rfl) rfl ?_ ?_
   rotate_left 2
   ·go_simp
    constructor
    ·rfl
    ·rfl
   have hb := below_alloc (Below.refl _ wa) (.cells #[.bool false, .slice none 0 0, .slice none 0 0, .slice none 0 0] 25)
   have BX := Aside0.mk (MapKept.heap_alloc wa (.cells #[.bool false, .slice none 0 0, .slice none 0 0, .slice none 0 0] 25 (0, 0))).1
   have GX : Aside0 (w.heap.size ≤ wa.heap.size ∧ gc ≠ wa.heap.size ∧ ga ≠ wa.heap.size ∧ gb ≠ wa.heap.size) := ⟨O.out.HB.size, Nat.ne_of_lt (blk_lt O.out.BC), Nat.ne_of_lt (blk_lt O.out.BA), Nat.ne_of_lt (blk_lt O.out.BB)⟩
   have O2 := Aside0.mk (O.out.below hb)
   clear O hb
   have O := O2
   clear O2
   refine hK.out _ _ ⟨(cells4 O.out.BC).1, (cells4 O.out.BC).2.1, (cells4 O.out.BC).2.2.1, (cells4 O.out.BC).2.2.2⟩ (fun hHeld => ?_)
   clear hK K
   refine zno 10 ?_
   generalize hgx : wa.heap.size = gx at BX GX ⊢
   clear hgx
   generalize wa.alloc _ = wb at O BX hHeld ⊢
   obtain ⟨hx0, hx1, hx2, hx3⟩ := cells4 BX.out
   have hy0 := blk_frozen BX.out 0
   have hy1 := blk_frozen BX.out 1
   have hy2 := blk_frozen BX.out 2
   have hy3 := blk_frozen BX.out 3
   refine last_ (i := 12) (N := none) (zB 13 0) rfl rfl (by kernel_rfl) (by decide) (fun K hK => ?_)
   refine skip_ (w1 := ?_) (by rfl) rfl ?_ ?_
   rotate_left
   ·go_simp
    rfl
   refine hK.out _ _ ?_
   clear hK K
   refine done_ (by kernel_rfl) ?_
   have O2 := Aside0.mk (O.out.far BX.out GX.out.1 GX.out.2.1 GX.out.2.2.1 GX.out.2.2.2 (.bool true) (.slice (some ⟨gk, 0, none⟩) n n) (.slice (some ⟨gv, 0, none⟩) n n) (.slice none 0 0))
   have BX2 := Aside0.mk (pageB BX.out (.bool true) (.slice (some ⟨gk, 0, none⟩) n n) (.slice (some ⟨gv, 0, none⟩) n n) (.slice none 0 0))
   clear O BX hx0 hx1 hx2 hx3 hy0 hy1 hy2 hy3 hHeld
   have O := O2
   have BX := BX2
   clear O2 BX2
   generalize World.setCell _ _ _ = wc at O BX ⊢
   go_wp2_with fail
   obtain ⟨ce_, hcl, hMe, hcc, hfr⟩ := Kd.R_elem O.out.K [] (n : Int) (Int.natCast_nonneg _) (by have := HN.out; omega)
   obtain ⟨ve, rfl, hRe⟩ := hMe
   obtain ⟨Ae, ce, rfl⟩ := Kd.R_slice hRe
   have hx_ := hcc 0 _ rfl
   simp only [show (Kd.slice 5 (Kd.int .u8)).sz = 1 from rfl, Nat.mul_one, Nat.add_zero, Int.toNat_natCast] at hx_ hRe
   obtain ⟨curk, hck_⟩ := Kd.R_typed O.out.K gk rfl
   have he_ := (blk_cell hck_ n).symm.trans hx_
   have hxn : o2.getD n [] = rd_L1 o2 (n : Int) := by unfold rd_L1; rw [Int.toNat_natCast]
   rw [hxn] at he_ hRe
   clear hxn hx_ hcl hcc hfr
   obtain ⟨x, hxe⟩ : ∃ x, x = rd_L1 o2 (n : Int) := ⟨_, rfl⟩
   rw [← hxe] at he_ hRe
   (try rw [← hxe] at HCB)
   (try rw [← hxe])
   have HXE := Aside0.mk hxe
   clear hxe
   have BE := Aside0.mk hck_
   have HE := Aside0.mk he_
   have RE := Aside0.mk (Kd.R_mono hRe (ok' := fun _ => True) (fun _ _ => trivial))
   have NE : Aside0 (gk ≠ ga) := ⟨fun e_ => Kd.R_ne O.out.K O.out.BA (by decide) (by rw [← e_]; rfl)⟩
   clear hck_ he_ hRe
   have O2 := Aside0.mk O.out.drew
   have BX2 := Aside0.mk (blk_drew BX.out)
   have BE2 := Aside0.mk (blk_drew BE.out)
   have RE2 := Aside0.mk (Kd.R_drew RE.out)
   clear O BX BE RE
   have O := O2
   have BX := BX2
   have BE := BE2
   have RE := RE2
   clear O2 BX2 BE2 RE2
   refine start_ (n := 20) (S := fun w' => w'.cell? ⟨gc, 0, none⟩ = some (.bool o1) ∧ w'.cell? ⟨gc, 1, none⟩ = some (.slice (some ⟨gk, 0, none⟩) o2.length ck) ∧ w'.cell? ⟨gc, 2, none⟩ = some (.slice (some ⟨gv, 0, none⟩) o3.length cv) ∧ w'.cell? ⟨gc, 3, none⟩ = some (.slice Ad o4.length cd) ∧ w'.cell? ⟨gx, 0, none⟩ = some (.bool true) ∧ w'.cell? ⟨gx, 1, none⟩ = some (.slice (some ⟨gk, 0, none⟩) n n) ∧ w'.cell? ⟨gx, 2, none⟩ = some (.slice (some ⟨gv, 0, none⟩) n n) ∧ w'.cell? ⟨gx, 3, none⟩ = some (.slice none 0 0) ∧ w'.cell? ⟨gk, n, none⟩ = some (.slice Ae x.length ce)) (ds := [18]) (zB 0 20) (by kernel_rfl) rfl rfl ⟨(cells4 O.out.BC).1, (cells4 O.out.BC).2.1, (cells4 O.out.BC).2.2.1, (cells4 O.out.BC).2.2.2, (cells4 BX.out).1, (cells4 BX.out).2.1, (cells4 BX.out).2.2.1, (cells4 BX.out).2.2.2, (blk_cell BE.out n).trans HE.out⟩ (fun hHeld => ?_)
   generalize World.drew _ = wd at O BX BE RE hHeld ⊢
   refine zpu 1 (some 56) #[false, true, false, false, false, false, false, false, false, false, false, false, false, false, false, false, false, false, false, false] (by kernel_rfl) ?_
   refine zpu 3 (some 58) #[false, true, false, true, false, false, false, false, false, false, false, false, false, false, false, false, false, false, false, false] (by kernel_rfl) ?_
   refine zpu 7 (some 62) #[false, true, false, true, false, false, false, true, false, false, false, false, false, false, false, false, false, false, false, false] (by kernel_rfl) ?_
   refine zpu 9 (some 64) #[false, true, false, true, false, false, false, true, false, true, false, false, false, false, false, false, false, false, false, false] (by kernel_rfl) ?_
   refine zpu 11 (some 66) #[false, true, false, true, false, false, false, true, false, true, false, true, false, false, false, false, false, false, false, false] (by kernel_rfl) ?_
   refine zpu 13 (some 68) #[false, true, false, true, false, false, false, true, false, true, false, true, false, true, false, false, false, false, false, false] (by kernel_rfl) ?_
   refine zta 0 (some 55) #[true, true, false, true, false, false, false, true, false, true, false, true, false, true, false, false, false, false, false, false] (by kernel_rfl) hHeld ?_
   refine zta 2 (some 57) #[true, true, true, true, false, false, false, true, false, true, false, true, false, true, false, false, false, false, false, false] (by kernel_rfl) hHeld ?_
   refine zpu 4 (some 59) #[true, true, true, true, true, false, false, true, false, true, false, true, false, true, false, false, false, false, false, false] (by kernel_rfl) ?_
   refine zta 5 (some 60) #[true, true, true, true, true, true, false, true, false, true, false, true, false, true, false, false, false, false, false, false] (by kernel_rfl) hHeld ?_
   refine zta 8 (some 63) #[true, true, true, true, true, true, false, true, true, true, false, true, false, true, false, false, false, false, false, false] (by kernel_rfl) hHeld ?_
   refine zpu 10 (some 65) #[true, true, true, true, true, true, false, true, true, true, true, true, false, true, false, false, false, false, false, false] (by kernel_rfl) ?_
   refine zta 12 (some 67) #[true, true, true, true, true, true, false, true, true, true, true, true, true, true, false, false, false, false, false, false] (by kernel_rfl) hHeld ?_
   refine zpu 14 (some 69) #[true, true, true, true, true, true, false, true, true, true, true, true, true, true, true, false, false, false, false, false] (by kernel_rfl) ?_
   refine zpu 15 (some 70) #[true, true, true, true, true, true, false, true, true, true, true, true, true, true, true, true, false, false, false, false] (by kernel_rfl) ?_
   refine one_ (i := 6) (N := some 61) (zB 16 4) rfl rfl (by kernel_rfl) (by decide) (fun K hK => ?_)
   refine goes_ Tryd.func42 (by kernel_rfl) rfl #[.slice Ae x.length ce] (by rfl) rfl rfl zl_ ?_
   refine (bytes_Clone.calls _ _ x bb _ (Kd.R_reads' RE.out).2.2 (Kd.R_reads' RE.out).2.1 HCB.out).mono ?_
   rintro e we ⟨vb, rfl, hRb, hb⟩
   obtain ⟨Ab, cb, rfl⟩ := Kd.R_slice hRb
   refine ⟨_, rfl, ?_⟩
   have RB := Aside0.mk (Kd.R_lower hRb O.out.HB.size)
   have O2 := Aside0.mk (O.out.below hb)
   have BX2 := Aside0.mk (blk_below BX.out hb)
   have BE2 := Aside0.mk (blk_below BE.out hb)
   clear O BX BE RE hRb hb
   have O := O2
   have BX := BX2
   have BE := BE2
   clear O2 BX2 BE2
   obtain ⟨ha0, ha1, ha2, ha3⟩ := cells4 O.out.BA
   obtain ⟨hb0, hb1, hb2, hb3⟩ := cells4 O.out.BB
   have hfa0 := blk_frozen O.out.BA 0
   have hfa1 := blk_frozen O.out.BA 1
   have hfa2 := blk_frozen O.out.BA 2
   have hfa3 := blk_frozen O.out.BA 3
   have hfb0 := blk_frozen O.out.BB 0
   have hfb1 := blk_frozen O.out.BB 1
   have hfb2 := blk_frozen O.out.BB 2
   have hfb3 := blk_frozen O.out.BB 3
   have hne3 : ¬ ga = gb := O.out.ne3
   have hne4 : ¬ gb = ga := Ne.symm O.out.ne3
   refine hK.out _ _ ⟨(cells4 O.out.BC).1, (cells4 O.out.BC).2.1, (cells4 O.out.BC).2.2.1, (cells4 O.out.BC).2.2.2, (cells4 BX.out).1, (cells4 BX.out).2.1, (cells4 BX.out).2.2.1, (cells4 BX.out).2.2.2, (blk_cell BE.out n).trans HE.out⟩ (fun hHeld => ?_)
   clear hK K
   refine zno 61 ?_
   refine one_ (i := 16) (N := none) (zB 17 3) rfl rfl (by kernel_rfl) (by decide) (fun K hK => ?_)
   refine skip_ (w1 := ?_) (by rfl) rfl ?_ ?_
   rotate_left
   ·go_simp
    rfl
   refine hK.out _ _ ⟨(cells4 (pageF O.out.BC (Ne.symm O.out.ne1) (.bool true) (.slice (some ⟨gk, 0, none⟩) n n) (.slice (some ⟨gv, 0, none⟩) n n) (.slice none 0 0))).1, (cells4 (pageF O.out.BC (Ne.symm O.out.ne1) (.bool true) (.slice (some ⟨gk, 0, none⟩) n n) (.slice (some ⟨gv, 0, none⟩) n n) (.slice none 0 0))).2.1, (cells4 (pageF O.out.BC (Ne.symm O.out.ne1) (.bool true) (.slice (some ⟨gk, 0, none⟩) n n) (.slice (some ⟨gv, 0, none⟩) n n) (.slice none 0 0))).2.2.1, (cells4 (pageF O.out.BC (Ne.symm O.out.ne1) (.bool true) (.slice (some ⟨gk, 0, none⟩) n n) (.slice (some ⟨gv, 0, none⟩) n n) (.slice none 0 0))).2.2.2, (cells4 (pageF BX.out (Ne.symm GX.out.2.2.1) (.bool true) (.slice (some ⟨gk, 0, none⟩) n n) (.slice (some ⟨gv, 0, none⟩) n n) (.slice none 0 0))).1, (cells4 (pageF BX.out (Ne.symm GX.out.2.2.1) (.bool true) (.slice (some ⟨gk, 0, none⟩) n n) (.slice (some ⟨gv, 0, none⟩) n n) (.slice none 0 0))).2.1, (cells4 (pageF BX.out (Ne.symm GX.out.2.2.1) (.bool true) (.slice (some ⟨gk, 0, none⟩) n n) (.slice (some ⟨gv, 0, none⟩) n n) (.slice none 0 0))).2.2.1, (cells4 (pageF BX.out (Ne.symm GX.out.2.2.1) (.bool true) (.slice (some ⟨gk, 0, none⟩) n n) (.slice (some ⟨gv, 0, none⟩) n n) (.slice none 0 0))).2.2.2, (blk_cell (pageF BE.out NE.out (.bool true) (.slice (some ⟨gk, 0, none⟩) n n) (.slice (some ⟨gv, 0, none⟩) n n) (.slice none 0 0)) n).trans HE.out⟩ (fun hHeld => ?_)
   clear hK K
   refine zpu 17 (some 3) (zB 18 2) (by kernel_rfl) ?_
   refine last_ (i := 18) (N := none) (zB 19 1) rfl rfl (by kernel_rfl) (by decide) (fun K hK => ?_)
   refine skip_ (w1 := ?_) (by rfl) rfl ?_ ?_
   rotate_left
   ·go_simp
    rfl
   refine hK.out _ _ ?_
   clear hK K
   refine zpu 19 (some 5) (zB 20 0) (by kernel_rfl) ?_
   refine done_ (by kernel_rfl) ?_
   go_wp2
   obtain ⟨W2, hW2, e1, e2, e3, e4, e5, e6⟩ := O.out.end_ (.bool true) (.slice (some ⟨gk, 0, none⟩) n n) (.slice (some ⟨gv, 0, none⟩) n n) (.slice none 0 0) (.bool true) (.slice AK (o2.length - n) (ck - n)) (.slice AV (o3.length - n) (cv - n)) (.slice none 0 0)
   have hRB := pageR (pageR RB.out O.out.BA (by decide) (.bool true) (.slice (some ⟨gk, 0, none⟩) n n) (.slice (some ⟨gv, 0, none⟩) n n) (.slice none 0 0)) (pageF O.out.BB (Ne.symm O.out.ne3) (.bool true) (.slice (some ⟨gk, 0, none⟩) n n) (.slice (some ⟨gv, 0, none⟩) n n) (.slice none 0 0)) (by decide) (.bool true) (.slice AK (o2.length - n) (ck - n)) (.slice AV (o3.length - n) (cv - n)) (.slice none 0 0)
   rw [← hW2] at hRB
   rw [← hW2]
   refine bodyPost_ret (results_list (rs := [.cell 2 25, .tmp 3, .cell 4 25, .tmp 5]) rfl (by simp) (Vals.cell ga 25 #[.bool true, .slice (some ⟨gk, 0, none⟩) n n, .slice (some ⟨gv, 0, none⟩) n n, .slice none 0 0] (0, 0) _ rfl e1 Tryd.underlying25 rfl (by kernel_rfl) (Vals.tmp (Vals.cell gb 25 #[.bool true, .slice AK (o2.length - n) (ck - n), .slice AV (o3.length - n) (cv - n), .slice none 0 0] (0, 0) _ rfl e2 Tryd.underlying25 rfl (by kernel_rfl) (Vals.tmp Vals.nil))))) rfl ⟨_, _, _, _, _, _, _, rfl, V_take e4 n n f5 (Nat.le_refl _), V_take e5 n n f6 (Nat.le_refl _), Kd.V_nil _ _ _ _ _, R_V hRB, V_drop e4 n f5 AK (by rw [← hAK]; simp [Kd.slice]), V_drop e5 n f6 AV (by rw [← hAV]; simp [Kd.slice]), Kd.V_nil _ _ _ _ _, e3⟩
end Go.Proofs.YtcbgichkeecgiaaDoor.Print
namespace Go.Proofs.YtcbgichkeecgiaaDoor.Print
open Go.RowKit Go.Proofs.YtcbgichkeecgiaaDoorW.PrintWords Go.Proofs.YtcbgichkeecgiaaDoorW.PrintLast Go.Proofs.YtcbgichkeecgiaaDoorW.PrintMore
attribute [local go_sem] max2_mx min2_mn max_two min_two max_three min_three max_four min_four
set_option linter.unusedVariables false
set_option linter.unusedSimpArgs false
def node_leaf.f (k : Nat) (a0_0 : Bool) (l0_1 : List (List Int)) (l0_2 : List (List Int)) (l0_3 : List Int) : Option (Int) := (node_Check.f k a0_0 l0_1 l0_2 l0_3).bind fun t484 => (if t484 = 0 then (if a0_0 = true then (some t484) else (some 15)) else (some t484))
set_option maxHeartbeats 8000000 in
set_option maxRecDepth 100000 in
theorem node_leaf.calls (k : Nat) (a0_0 : Bool) (A0_1 : Option Addr) (c0_1 : Nat) (l0_1 : List (List Int)) (A0_2 : Option Addr) (c0_2 : Nat) (l0_2 : List (List Int)) (A0_3 : Option Addr) (c0_3 : Nat) (l0_3 : List Int) (r : Int) (w : World) (hr0_1 : Kd.C (Kd.slice 5 (Kd.int .u8)) w A0_1 l0_1.length l0_1) (hc0_1 : l0_1.length ≤ c0_1) (hr0_2 : Kd.C (Kd.slice 5 (Kd.int .u8)) w A0_2 l0_2.length l0_2) (hc0_2 : l0_2.length ≤ c0_2) (hr0_3 : Kd.C (Kd.int .i64) w A0_3 l0_3.length l0_3) (hc0_3 : l0_3.length ≤ c0_3) (h : node_leaf.f k a0_0 l0_1 l0_2 l0_3 = some r) :
  Calls Tryd.prog 56 #[.agg #[.bool a0_0, .slice A0_1 l0_1.length c0_1, .slice A0_2 l0_2.length c0_2, .slice A0_3 l0_3.length c0_3]] w fun e w' => e = .returned (.int .i64 r) ∧ Below w.heap.size w w' := by
 have hu25 := Tryd.underlying25
 have HR0_1 := Aside0.mk hr0_1
 have HC0_1 := Aside0.mk hc0_1
 clear hr0_1 hc0_1
 have HR0_2 := Aside0.mk hr0_2
 have HC0_2 := Aside0.mk hc0_2
 clear hr0_2 hc0_2
 have HR0_3 := Aside0.mk hr0_3
 have HC0_3 := Aside0.mk hc0_3
 clear hr0_3 hc0_3
 have HB := Aside0.mk (Below.refl w.heap.size w)
 have H : ((node_Check.f k a0_0 l0_1 l0_2 l0_3).bind fun t484 => (if t484 = 0 then (if a0_0 = true then (some t484) else (some 15)) else (some t484))) = some r := h
 clear h
 obtain ⟨t484, A2, H⟩ := zm H
 (try dsimp only at H)
 by_cases c3 : t484 = 0
 ·rw [if_pos c3] at H
  obtain ⟨c3b0, c3b1⟩ := zq1 c3
  clear c3
  by_cases c4 : a0_0 = true
  ·subst c4
   replace H := (if_pos (rfl : true = true)).symm.trans H
   obtain rfl := Option.some.inj H
   go_enter Tryd.func56, Tryd.ntmps56
   go_wp2_with (first | ((with_reducible refine gate_dst (N := 1) rfl ?_); refine box_event ?hg (N := 1) ?hd (cs := #[.bool true, .slice A0_1 l0_1.length c0_1, .slice A0_2 l0_2.length c0_2, .slice A0_3 l0_3.length c0_3]) (t := 25) ?hr ?_; (case hd => rfl); (case hg => rfl); (case hr => first | (go_simp; done) | (go_simp; rfl)); intro gb483 hg w5 hbox hb; have BK483 := Aside0.mk (hbox); have GW483 := Aside0.mk ((by rw [hg]; exact (below_size (zh0_ HB.out)) : w.heap.size ≤ gb483)); have GE483 := Aside0.mk ((by rw [hg]; exact (below_size (zh0_ HB.out)) : w.heap.size ≤ gb483)); replace HB := Aside0.mk (below_step (zh0_ HB.out) hb); clear hb hbox hg; obtain ⟨hcz6_0, hcz6_1, hcz6_2, hcz6_3⟩ := zc4 BK483.out; obtain ⟨hfz6_0, hfz6_1, hfz6_2, hfz6_3⟩ := zz4 BK483.out) | ((with_reducible refine gate_callee (f := 11) rfl ?_); refine goesL_ (some 5) rfl rfl Tryd.func11 (by kernel_rfl) rfl #[.agg #[.bool true, .slice A0_1 l0_1.length c0_1, .slice A0_2 l0_2.length c0_2, .slice A0_3 l0_3.length c0_3]] rfl zl_ ?_; (with_reducible refine (node_Check.calls k true _ _ l0_1 _ _ l0_2 _ _ l0_3 t484 _ ?side1 ?side2 ?side3 ?side4 ?side5 ?side6 A2.out).mono ?_); (case side1 => exact zc_ (Kd.C_below HR0_1.out HB.out)); (case side2 => exact HC0_1.out); (case side3 => exact zc_ (Kd.C_below HR0_2.out HB.out)); (case side4 => exact HC0_2.out); (case side5 => exact zc_ (Kd.C_below HR0_3.out HB.out)); (case side6 => exact HC0_3.out); rintro e w7 ⟨rfl, hb⟩; refine ⟨_, rfl, ?_⟩; replace BK483 := Aside0.mk (blk_below (zb_ BK483.out) hb); replace HB := Aside0.mk (below_step (zh1_ HB.out GE483.out) hb); (try clear hb); obtain ⟨hcz8_0, hcz8_1, hcz8_2, hcz8_3⟩ := zc4 BK483.out; obtain ⟨hfz8_0, hfz8_1, hfz8_2, hfz8_3⟩ := zz4 BK483.out))
   go_ret
   exact ⟨by first | rfl | (simp [errW_none, errW_some] <;> rfl) | (simp [*, errW_none, errW_some] <;> rfl), by exact zh1_ HB.out GE483.out⟩
  ·replace c4 := Bool.eq_false_iff.mpr c4
   subst c4
   replace H := (if_neg (show ¬ (false = true) by decide)).symm.trans H
   obtain rfl := Option.some.inj H
   go_enter Tryd.func56, Tryd.ntmps56
   go_wp2_with (first | ((with_reducible refine gate_dst (N := 1) rfl ?_); refine box_event ?hg (N := 1) ?hd (cs := #[.bool false, .slice A0_1 l0_1.length c0_1, .slice A0_2 l0_2.length c0_2, .slice A0_3 l0_3.length c0_3]) (t := 25) ?hr ?_; (case hd => rfl); (case hg => rfl); (case hr => first | (go_simp; done) | (go_simp; rfl)); intro gb483 hg w9 hbox hb; have BK483 := Aside0.mk (hbox); have GW483 := Aside0.mk ((by rw [hg]; exact (below_size (zh0_ HB.out)) : w.heap.size ≤ gb483)); have GE483 := Aside0.mk ((by rw [hg]; exact (below_size (zh0_ HB.out)) : w.heap.size ≤ gb483)); replace HB := Aside0.mk (below_step (zh0_ HB.out) hb); clear hb hbox hg; obtain ⟨hcz10_0, hcz10_1, hcz10_2, hcz10_3⟩ := zc4 BK483.out; obtain ⟨hfz10_0, hfz10_1, hfz10_2, hfz10_3⟩ := zz4 BK483.out) | ((with_reducible refine gate_callee (f := 11) rfl ?_); refine goesL_ (some 5) rfl rfl Tryd.func11 (by kernel_rfl) rfl #[.agg #[.bool false, .slice A0_1 l0_1.length c0_1, .slice A0_2 l0_2.length c0_2, .slice A0_3 l0_3.length c0_3]] rfl zl_ ?_; (with_reducible refine (node_Check.calls k false _ _ l0_1 _ _ l0_2 _ _ l0_3 t484 _ ?side1 ?side2 ?side3 ?side4 ?side5 ?side6 A2.out).mono ?_); (case side1 => exact zc_ (Kd.C_below HR0_1.out HB.out)); (case side2 => exact HC0_1.out); (case side3 => exact zc_ (Kd.C_below HR0_2.out HB.out)); (case side4 => exact HC0_2.out); (case side5 => exact zc_ (Kd.C_below HR0_3.out HB.out)); (case side6 => exact HC0_3.out); rintro e w11 ⟨rfl, hb⟩; refine ⟨_, rfl, ?_⟩; replace BK483 := Aside0.mk (blk_below (zb_ BK483.out) hb); replace HB := Aside0.mk (below_step (zh1_ HB.out GE483.out) hb); (try clear hb); obtain ⟨hcz12_0, hcz12_1, hcz12_2, hcz12_3⟩ := zc4 BK483.out; obtain ⟨hfz12_0, hfz12_1, hfz12_2, hfz12_3⟩ := zz4 BK483.out))
   go_ret
   exact ⟨by first | rfl | (simp [errW_none, errW_some] <;> rfl) | (simp [*, errW_none, errW_some] <;> rfl), by exact zh1_ HB.out GE483.out⟩
 ·rw [if_neg c3] at H
  obtain ⟨c3b0, c3b1⟩ := zq0 c3
  obtain rfl := Option.some.inj H
  go_enter Tryd.func56, Tryd.ntmps56
  go_wp2_with (first | ((with_reducible refine gate_dst (N := 1) rfl ?_); refine box_event ?hg (N := 1) ?hd (cs := #[.bool a0_0, .slice A0_1 l0_1.length c0_1, .slice A0_2 l0_2.length c0_2, .slice A0_3 l0_3.length c0_3]) (t := 25) ?hr ?_; (case hd => rfl); (case hg => rfl); (case hr => first | (go_simp; done) | (go_simp; rfl)); intro gb483 hg w13 hbox hb; have BK483 := Aside0.mk (hbox); have GW483 := Aside0.mk ((by rw [hg]; exact (below_size (zh0_ HB.out)) : w.heap.size ≤ gb483)); have GE483 := Aside0.mk ((by rw [hg]; exact (below_size (zh0_ HB.out)) : w.heap.size ≤ gb483)); replace HB := Aside0.mk (below_step (zh0_ HB.out) hb); clear hb hbox hg; obtain ⟨hcz14_0, hcz14_1, hcz14_2, hcz14_3⟩ := zc4 BK483.out; obtain ⟨hfz14_0, hfz14_1, hfz14_2, hfz14_3⟩ := zz4 BK483.out) | ((with_reducible refine gate_callee (f := 11) rfl ?_); refine goesL_ (some 5) rfl rfl Tryd.func11 (by kernel_rfl) rfl #[.agg #[.bool a0_0, .slice A0_1 l0_1.length c0_1, .slice A0_2 l0_2.length c0_2, .slice A0_3 l0_3.length c0_3]] rfl zl_ ?_; (with_reducible refine (node_Check.calls k a0_0 _ _ l0_1 _ _ l0_2 _ _ l0_3 t484 _ ?side1 ?side2 ?side3 ?side4 ?side5 ?side6 A2.out).mono ?_); (case side1 => exact zc_ (Kd.C_below HR0_1.out HB.out)); (case side2 => exact HC0_1.out); (case side3 => exact zc_ (Kd.C_below HR0_2.out HB.out)); (case side4 => exact HC0_2.out); (case side5 => exact zc_ (Kd.C_below HR0_3.out HB.out)); (case side6 => exact HC0_3.out); rintro e w15 ⟨rfl, hb⟩; refine ⟨_, rfl, ?_⟩; replace BK483 := Aside0.mk (blk_below (zb_ BK483.out) hb); replace HB := Aside0.mk (below_step (zh1_ HB.out GE483.out) hb); (try clear hb)))
  go_ret
  exact ⟨by first | rfl | (simp [errW_none, errW_some] <;> rfl) | (simp [*, errW_none, errW_some] <;> rfl), by exact zh1_ HB.out GE483.out⟩
end Go.Proofs.YtcbgichkeecgiaaDoor.Print
namespace Go.Proofs.YtcbgichkeecgiaaDoor.Print
open Go.RowKit Go.Proofs.YtcbgichkeecgiaaDoorW.PrintWords Go.Proofs.YtcbgichkeecgiaaDoorW.PrintLast Go.Proofs.YtcbgichkeecgiaaDoorW.PrintMore
attribute [local go_sem] max2_mx min2_mn max_two min_two max_three min_three max_four min_four
set_option linter.unusedVariables false
set_option linter.unusedSimpArgs false
set_option maxHeartbeats 4000000 in
set_option maxRecDepth 100000 in
theorem slices_Insert_byte_byte.end_ (w : World) (base : Nat) (v : Value) (n : Nat) (xs : List Value) (hO : w.ownsRow base 26 1 v n xs) (vb : Addr) (vc : Nat) (ys : List Value) (hy : ∀ j u, ys[j]? = some u → w.cell? (vb.add j) = some u) (hyl : ys.length = 1) (h1 : ∀ u ∈ ys, u.oneCell' = true) (hbig : (n + 1) * 24 ≤ 140737488355328) (hbase : base ≤ w.heap.size) :
  Calls Tryd.prog 57 #[v, .int .i64 n, .slice (some vb) 1 vc] w fun e w' => ∃ v1, e = .returned v1 ∧ w'.ownsRow base 26 1 v1 (n + 1) (xs ++ ys) ∧ w.grownBy w' v.ownBlock ∧ (v1.ownBlock = v.ownBlock ∨ v1.ownBlock = some w.heap.size) := by
 obtain ⟨i0, hi0, hz0, hzs, hzb⟩ := info_parts info26
 obtain ⟨v1, w1, hr, h2, h3, _, h5⟩ := run_append_own_at (P := Tryd.prog) (w := w) base 22 22 26 i0 (.slice none 0 0) 1 24 Tryd.underlying22 hi0 hz0 hzs hzb rfl (by omega) v n xs hO vb 1 vc ys (by simpa using hyl) hy h1 (by simp only [maxLen]; omega) hbig hbase
 have H2 := Aside0.mk h2
 have H3 := Aside0.mk h3
 have H5 := Aside0.mk h5
 clear h2 h3 h5
 have hshape : ∃ A c, v = .slice A n c ∧ n ≤ c := by
  rcases hO.2 with ⟨rfl, rfl⟩ | ⟨g, cap, cur, rfl, _, _, h, _⟩
  ·exact ⟨_, _, rfl, Nat.le_refl _⟩
  ·exact ⟨_, _, rfl, h⟩
 have HY := Aside0.mk hy
 clear hO hy
 obtain ⟨A, c, rfl, hnc⟩ := hshape
 have hn63 : n ≤ 9223372036854775807 := by omega
 go_enter Tryd.func57, Tryd.ntmps57
 go_wp2_with (at_builtin; refine Lib.wpList_append_run _ rfl _ _ _ _ rfl _ _ rfl rfl _ _ hr ?_)
 all_goals go_ret
 all_goals exact ⟨v1, rfl, H2.out, by cases A <;> exact H3.out, by cases A <;> exact H5.out⟩
def node_Put.f (k : Nat) (a0_0 : Bool) (l0_1 l0_2 : List (List Int)) (l0_3 : List Int) (l1 l2 : List Int) : Option (Bool × (List (List Int)) × (List (List Int)) × List Int × Int) :=
 (node_leaf.f k a0_0 l0_1 l0_2 l0_3).bind fun t => if t = 0 then none else some (false, [], [], [], t)
set_option maxHeartbeats 8000000 in
set_option maxRecDepth 100000 in
theorem node_Put.calls (k : Nat) (a0_0 : Bool) (A0_1 : Option Addr) (c0_1 : Nat) (l0_1 : List (List Int)) (A0_2 : Option Addr) (c0_2 : Nat) (l0_2 : List (List Int)) (A0_3 : Option Addr) (c0_3 : Nat) (l0_3 : List Int) (A1 : Option Addr) (c1 : Nat) (l1 : List Int) (A2 : Option Addr) (c2 : Nat) (l2 : List Int) (r1 : Bool) (r2 : List (List Int)) (r3 : List (List Int)) (r4 : List Int) (r5 : Int) (w : World) (hr0_1 : Kd.C (Kd.slice 5 (Kd.int .u8)) w A0_1 l0_1.length l0_1) (hc0_1 : l0_1.length ≤ c0_1) (hr0_2 : Kd.C (Kd.slice 5 (Kd.int .u8)) w A0_2 l0_2.length l0_2) (hc0_2 : l0_2.length ≤ c0_2) (hr0_3 : Kd.C (Kd.int .i64) w A0_3 l0_3.length l0_3) (hc0_3 : l0_3.length ≤ c0_3) (hr1 : Kd.C (Kd.int .u8) w A1 l1.length l1) (hc1 : l1.length ≤ c1) (hr2 : Kd.C (Kd.int .u8) w A2 l2.length l2) (hc2 : l2.length ≤ c2) (h : node_Put.f k a0_0 l0_1 l0_2 l0_3 l1 l2 = some (r1, r2, r3, r4, r5)) :
  Calls Tryd.prog 30 #[.agg #[.bool a0_0, .slice A0_1 l0_1.length c0_1, .slice A0_2 l0_2.length c0_2, .slice A0_3 l0_3.length c0_3], .slice A1 l1.length c1, .slice A2 l2.length c2] w fun e w' => ∃ v1_ v2_ v3_ : Value, e = .returned (.tuple #[.agg #[.bool r1, v1_, v2_, v3_], .int .i64 r5]) ∧ Kd.V (Kd.slice 5 (Kd.int .u8)) 26 w' w.heap.size (fun k_ => (w.heap.size ≤ k_)) v1_ r2 ∧ Kd.V (Kd.slice 5 (Kd.int .u8)) 26 w' w.heap.size (fun k_ => (w.heap.size ≤ k_)) v2_ r3 ∧ Kd.V (Kd.int .i64) 3 w' w.heap.size (fun k_ => (w.heap.size ≤ k_)) v3_ r4 ∧ Below w.heap.size w w' := by
 have hu26 := Tryd.underlying25
 have R1 := Aside0.mk hr0_1
 have L1 := Aside0.mk hc0_1
 have R2 := Aside0.mk hr0_2
 have L2 := Aside0.mk hc0_2
 have R3 := Aside0.mk hr0_3
 have L3 := Aside0.mk hc0_3
 have RK := Aside0.mk hr1
 have LK := Aside0.mk hc1
 have RW := Aside0.mk hr2
 have LW := Aside0.mk hc2
 clear hr0_1 hc0_1 hr0_2 hc0_2 hr0_3 hc0_3 hr1 hc1 hr2 hc2
 unfold node_Put.f at h
 replace h := Option.bind_eq_some_iff.mp h
 obtain ⟨t, ht, h⟩ := h
 have HT := Aside0.mk ht
 have HH := Aside0.mk h
 clear ht h
 go_enter Tryd.func30, Tryd.ntmps30
 go_wp2_with (first | ((with_reducible refine gate_dst (N := 3) rfl ?_); refine box_event ?hg (N := 3) ?hd (cs := #[.bool a0_0, .slice A0_1 l0_1.length c0_1, .slice A0_2 l0_2.length c0_2, .slice A0_3 l0_3.length c0_3]) (t := 25) ?hr ?_; (case hd => rfl); (case hg => rfl); (case hr => first | (go_simp; done) | (go_simp; rfl)); intro gp hgp w1 hbox hb; have BP := Aside0.mk hbox; have HB := Aside0.mk hb; clear hbox hb hgp) | ((with_reducible refine gate_dst (N := 6) rfl ?_); refine box_event ?hg (N := 6) ?hd (cs := #[.bool false, .slice none 0 0, .slice none 0 0, .slice none 0 0]) (t := 25) ?hr ?_; (case hd => rfl); (case hg => rfl); (case hr => first | (go_simp; done) | (go_simp; rfl)); intro gr hgr w2 hbox hb; have GR : Aside0 (w.heap.size ≤ gr) := ⟨by rw [hgr]; exact HB.out.size⟩; have BR := Aside0.mk hbox; have BP2 := Aside0.mk (blk_below BP.out hb); have HB2 := Aside0.mk (below_step HB.out hb); have hc0 := (blk_cell BP2.out 0).trans rfl; have hc1 := (blk_cell BP2.out 1).trans rfl; have hc2 := (blk_cell BP2.out 2).trans rfl; have hc3 := (blk_cell BP2.out 3).trans rfl; clear hbox hb hgr BP HB))
 refine (node_leaf.calls k a0_0 A0_1 c0_1 l0_1 A0_2 c0_2 l0_2 A0_3 c0_3 l0_3 t _ (Kd.C_below R1.out HB2.out) L1.out (Kd.C_below R2.out HB2.out) L2.out (Kd.C_below R3.out HB2.out) L3.out HT.out).mono ?_
 rintro e w3 ⟨rfl, hb3⟩
 have BP3 := Aside0.mk (blk_below BP2.out hb3)
 have BR3 := Aside0.mk (blk_below BR.out hb3)
 have HB3 := Aside0.mk (below_step HB2.out hb3)
 clear hc0 hc1 hc2 hc3 hb3 BP2 BR HB2
 have H := HH.out
 clear HH
 by_cases hz : t = 0
 case neg =>
  rw [if_neg hz] at H
  have z1 : (t == 0) = false := beq_eq_false_iff_ne.mpr hz
  have z2 : (t != 0) = true := bne_iff_ne.mpr hz
  clear hz HT
  simp only [Option.some.injEq, Prod.mk.injEq] at H
  obtain ⟨rfl, rfl, rfl, rfl, rfl⟩ := H
  have hc0 := (blk_cell BR3.out 0).trans rfl
  have hc1 := (blk_cell BR3.out 1).trans rfl
  have hc2 := (blk_cell BR3.out 2).trans rfl
  have hc3 := (blk_cell BR3.out 3).trans rfl
  have hf0 := blk_frozen BR3.out 0
  have hf1 := blk_frozen BR3.out 1
  have hf2 := blk_frozen BR3.out 2
  have hf3 := blk_frozen BR3.out 3
  go_wp2
  refine bodyPost_ret (results_ct rfl _ _ gr 25 #[.bool false, .slice none 0 0, .slice none 0 0, .slice none 0 0] (0, 0) _ rfl (pageB BR3.out _ _ _ _) Tryd.underlying25 rfl (by kernel_rfl)) rfl ⟨_, _, _, rfl, Kd.V_nil _ _ _ _ _, Kd.V_nil _ _ _ _ _, Kd.V_nil _ _ _ _ _, pageW HB3.out GR.out _ _ _ _⟩
 case pos =>
  rw [if_pos hz] at H
  cases H
end Go.Proofs.YtcbgichkeecgiaaDoor.Print
namespace Go.Proofs.YtcbgichkeecgiaaDoor.Print
open Go.RowKit Go.Proofs.YtcbgichkeecgiaaDoorW.PrintWords Go.Proofs.YtcbgichkeecgiaaDoorW.PrintLast Go.Proofs.YtcbgichkeecgiaaDoorW.PrintMore
attribute [local go_sem] max2_mx min2_mn max_two min_two max_three min_three max_four min_four
set_option linter.unusedVariables false
set_option linter.unusedSimpArgs false
theorem ladinglaw06_lives.v1 : node_Find.f 20 true [[97], [98]] [[49], [50]] [] [98] = some (1, true, 0) := by kernel_rfl
theorem ladinglaw06_lives.v2 : node_Split.f 20 true [[97], [98]] [[49], [50]] [] = some (true, [[97]], [[49]], [], [98], true, [[98]], [[50]], [], 0) := by kernel_rfl
theorem ladinglaw06_lives.v3 : node_Put.f 20 false [[97]] [] [1, 2] [] [] = some (false, [], [], [], 15) := by kernel_rfl
theorem ladinglaw06_lives.v4 : node_Size.f 20 true [[97], [98]] [[49], [50]] [] = some 14 := by kernel_rfl
theorem ladinglaw06_lives.v5 : node_Encode.f 20 true [[97], [98]] [[49], [50]] [] = ((crc_Seal.f (node_Encode.pad [1, 2, 1, 97, 1, 49, 1, 98, 1, 50])).bind fun t => some (t, 0)) := by kernel_rfl
theorem ladinglaw06_lives.seal (l : List Int) (hl : l.length = 4092) : ∃ b, crc_Seal.f l = some b ∧ b.length = 4096 := by
 have hw : wrap64 ((l.length : Int) + 4) = 4096 := by unfold wrap64; omega
 obtain ⟨t, ht⟩ : ∃ t, crc_Update.f 0 l = some t := ⟨_, rfl⟩
 unfold crc_Seal.f crc_Of.f
 rw [ht, hw]
 simp only [Option.bind_some]
 rw [if_pos (by omega), if_pos (by decide), if_pos (by simp only [List.length_nil]; omega), if_pos (by simp only [List.nil_append, List.length_cons, List.length_nil]; omega)]
 exact ⟨_, rfl, by simp only [List.nil_append, List.length_append, List.length_cons, List.length_nil]; omega⟩
theorem ladinglaw06_lives.enc : ∃ b, node_Encode.f 20 true [[97], [98]] [[49], [50]] [] = some (b, 0) ∧ b.length = 4096 := by
 obtain ⟨b, hb, hl⟩ := ladinglaw06_lives.seal (node_Encode.pad [1, 2, 1, 97, 1, 49, 1, 98, 1, 50]) ((node_Encode.pad_len _ _).trans (List.length_replicate.trans (by decide)))
 exact ⟨b, by rw [ladinglaw06_lives.v5, hb]; rfl, hl⟩
theorem ladinglaw06_lives.row1 (W : World) (G g0 : Nat) (x0 : Int) (fr0 fr : Nat × Nat) (h : W.heap[G]? = some (.cells #[.slice (some ⟨g0, 0, none⟩) 1 1] 26 fr)) (h0 : W.heap[g0]? = some (.cells #[.int .u8 x0] 5 fr0)) : Kd.C (Kd.slice 5 (Kd.int .u8)) W (some ⟨G, 0, none⟩) [[x0]].length [[x0]] := by
 refine ⟨rfl, by simp, fun _ => ⟨_, rfl, fun j p hj => ?_⟩⟩
 match j, hj with
 | 0, hj =>
  obtain rfl : [x0] = p := by simpa using hj
  refine ⟨[.slice (some ⟨g0, 0, none⟩) 1 1], rfl, ⟨_, _, rfl, Nat.le_refl _, ladinglaw06_two.byte_reads W g0 x0 fr0 h0⟩, fun i u hu => ?_⟩
  match i, hu with
  | 0, hu =>
   rw [show (⟨G, 0, none⟩ : Addr).add (0 * (Kd.slice 5 (Kd.int IntKind.u8)).sz + 0) = ⟨G, 0, none⟩ by unfold Addr.add; rfl, cell_of_row W G 0 _ _ _ h]
   exact hu
theorem ladinglaw06_lives.ints2 (W : World) (G : Nat) (x0 x1 : Int) (fr : Nat × Nat) (h : W.heap[G]? = some (.cells #[.int .i64 x0, .int .i64 x1] 3 fr)) : Kd.C (Kd.int .i64) W (some ⟨G, 0, none⟩) [x0, x1].length [x0, x1] := by
 refine ⟨rfl, by simp, fun _ => ⟨_, rfl, fun j p hj => ?_⟩⟩
 match j, hj with
 | 0, hj =>
  obtain rfl : x0 = p := by simpa using hj
  refine ⟨[.int .i64 x0], rfl, rfl, fun i u hu => ?_⟩
  match i, hu with
  | 0, hu =>
   rw [show (⟨G, 0, none⟩ : Addr).add (0 * (Kd.int IntKind.i64).sz + 0) = ⟨G, 0, none⟩ by unfold Addr.add; rfl, cell_of_row W G 0 _ _ _ h]
   exact hu
 | 1, hj =>
  obtain rfl : x1 = p := by simpa using hj
  refine ⟨[.int .i64 x1], rfl, rfl, fun i u hu => ?_⟩
  match i, hu with
  | 0, hu =>
   rw [show (⟨G, 0, none⟩ : Addr).add (1 * (Kd.int IntKind.i64).sz + 0) = ⟨G, 1, none⟩ by unfold Addr.add; rfl, cell_of_row W G 1 _ _ _ h]
   exact hu
theorem ladinglaw06_lives.farF {α : Type} {d : Kd α} {W : World} {ok : Nat → Prop} {A : Option Addr} {n : Nat} {xs : List α} {g : Nat} (h : Kd.F d W ok A n xs) (hok : ∀ k, ok k → k ≠ g) (x0 x1 x2 x3 : Value) :
  Kd.F d ((((W.setCell ⟨g, 0, none⟩ x0).setCell ⟨g, 1, none⟩ x1).setCell ⟨g, 2, none⟩ x2).setCell ⟨g, 3, none⟩ x3) ok A n xs :=
 Kd.F_far (Kd.F_far (Kd.F_far (Kd.F_far h hok x0) hok x1) hok x2) hok x3
def ladinglaw06_lives.f : Option Bool := some true
set_option maxHeartbeats 8000000 in
set_option maxRecDepth 100000 in
theorem ladinglaw06_lives.calls (r : Bool) (w : World) (h : ladinglaw06_lives.f = some r) :
  Calls Tryd.prog 10 #[] w fun e w' => e = .returned (.bool r) ∧ Below w.heap.size w w' := by
 obtain rfl := Option.some.inj h
 clear h
 have kc : ∀ (W : World) (b : Nat) (C : Array Value) (n c : Nat), W.heap.size = b → (convert 26 26 (.slice (some ⟨b, 0, none⟩) n c)).run Tryd.prog (W.alloc (.cells C 5)) = .ok (.slice (some ⟨b, 0, none⟩) n c) (W.alloc (.cells C 5 (C.size, C.size + 1))) := by
  rintro W _ C n c rfl
  exact Lib.run_convert_bytes_const (P := Tryd.prog) W 26 5 C n c Tryd.underlying26 Tryd.underlying5
 have KC := Aside0.mk kc
 have hu26 := Tryd.underlying25
 obtain ⟨eb, heb, hel⟩ := ladinglaw06_lives.enc
 have HEB := Aside0.mk heb
 have HEL := Aside0.mk hel
 clear heb hel kc
 go_enter Tryd.func10, Tryd.ntmps10
 go_wp2_with fail
 refine (ladinglaw06_two.calls true [[97], [98]] [[49], [50]] [] _ rfl).mono ?_
 rintro e w1 ⟨_, _, _, rfl, ⟨A1, c1, rfl, l1, F1⟩, ⟨A2, c2, rfl, l2, F2⟩, ⟨A3, c3, rfl, l3, F3⟩, hb⟩
 have HB1 := Aside0.mk (hb)
 have G1 := Aside0.mk (Kd.F_now F1)
 have G2 := Aside0.mk (Kd.F_now F2)
 have G3 := Aside0.mk (Kd.F_now F3)
 have M1 := Aside0.mk l1
 have M2 := Aside0.mk l2
 have M3 := Aside0.mk l3
 clear F1 F2 F3 l1 l2 l3 hb
 have kc := KC.out
 go_wp2_with fail
 clear kc
 have hb2 := below_alloc (Below.refl _ w1) (.cells #[.int .u8 98] 5 (1, 2))
 have hK := ladinglaw06_two.byte_reads _ w1.heap.size 98 (1, 2) (ladinglaw06_two.new_at (o := .cells #[.int .u8 98] 5 (1, 2)) (rfl : w1.heap.size = w1.heap.size))
 refine (node_Find.calls 20 true A1 c1 [[97], [98]] A2 c2 [[49], [50]] A3 c3 [] (some ⟨w1.heap.size, 0, none⟩) 1 [98] 1 true 0 _ (Kd.C_below G1.out hb2) M1.out (Kd.C_below G2.out hb2) M2.out (Kd.C_below G3.out hb2) M3.out hK (Nat.le_refl _) ladinglaw06_lives.v1).mono ?_
 rintro e w2 ⟨rfl, hb3⟩
 have HB2 := Aside0.mk (below_step (below_step HB1.out hb2) hb3)
 clear hb2 hb3 hK G1 G2 G3 M1 M2 M3 HB1
 go_wp2_with fail
 refine (ladinglaw06_two.calls true [[97], [98]] [[49], [50]] [] _ rfl).mono ?_
 rintro e w3 ⟨_, _, _, rfl, ⟨A1, c1, rfl, l1, F1⟩, ⟨A2, c2, rfl, l2, F2⟩, ⟨A3, c3, rfl, l3, F3⟩, hb⟩
 have HB3 := Aside0.mk (below_step HB2.out hb)
 have G1 := Aside0.mk (Kd.F_now F1)
 have G2 := Aside0.mk (Kd.F_now F2)
 have G3 := Aside0.mk (Kd.F_now F3)
 have M1 := Aside0.mk l1
 have M2 := Aside0.mk l2
 have M3 := Aside0.mk l3
 clear F1 F2 F3 l1 l2 l3 hb HB2
 go_wp2_with fail
 refine (node_Split.calls 20 true A1 c1 [[97], [98]] A2 c2 [[49], [50]] A3 c3 [] true [[97]] [[49]] [] [98] true [[98]] [[50]] [] 0 _ G1.out M1.out G2.out M2.out G3.out M3.out ladinglaw06_lives.v2).mono ?_
 rintro e w4 ⟨_, _, _, _, _, _, _, rfl, ⟨B1, d1, rfl, -, -⟩, ⟨B2, d2, rfl, -, -⟩, ⟨B3, d3, rfl, -, -⟩, ⟨BK, dK, rfl, lK, FK_⟩, ⟨B6, d6, rfl, -, -⟩, ⟨B7, d7, rfl, -, -⟩, ⟨B8, d8, rfl, -, -⟩, hb⟩
 have HB4 := Aside0.mk (below_step HB3.out hb)
 have GK := Aside0.mk (Kd.F_bound FK_)
 clear FK_ lK hb HB3 G1 G2 G3 M1 M2 M3
 go_wp2_with (first | ((with_reducible refine gate_dst (N := 4) rfl ?_); refine box_event ?hg (N := 4) ?hd (cs := #[.bool false, .slice none 0 0, .slice none 0 0, .slice none 0 0]) (t := 25) ?hr ?_; (case hd => rfl); (case hg => rfl); (case hr => first | (go_simp; done) | (go_simp; rfl)); intro g4 hg4 w5 hbox hb; have GE4 : Aside0 (w.heap.size ≤ g4) := ⟨by rw [hg4]; exact HB4.out.size⟩; have BK4 := Aside0.mk hbox; have HB5 := Aside0.mk (below_step HB4.out hb); have NK4 : Aside0 (∀ k, (w3.heap.size ≤ k ∧ k < w4.heap.size) → k ≠ g4) := ⟨fun k hk hh => by rw [hh, hg4] at hk; exact Nat.lt_irrefl _ hk.2⟩; have GK5 := Aside0.mk (Kd.F_below GK.out hb); have SZ5 : Aside0 (w4.heap.size ≤ w5.heap.size) := ⟨hb.size⟩; clear hbox hb hg4 HB4 GK) | ((with_reducible refine gate_dst (N := 6) rfl ?_); refine box_event ?hg (N := 6) ?hd (cs := #[.bool false, .slice none 0 0, .slice none 0 0, .slice none 0 0]) (t := 25) ?hr ?_; (case hd => rfl); (case hg => rfl); (case hr => first | (go_simp; done) | (go_simp; rfl)); intro g6 hg6 w6 hbox hb; have GE6 : Aside0 (w.heap.size ≤ g6 ∧ g4 ≠ g6) := ⟨by rw [hg6]; exact HB5.out.size, by rw [hg6]; exact Nat.ne_of_lt (blk_lt BK4.out)⟩; have NK6 : Aside0 (∀ k, (w3.heap.size ≤ k ∧ k < w4.heap.size) → k ≠ g6) := ⟨fun k hk hh => by rw [hh, hg6] at hk; exact Nat.lt_irrefl _ (Nat.lt_of_lt_of_le hk.2 SZ5.out)⟩; have BK6 := Aside0.mk hbox; have BK4b := Aside0.mk (blk_below BK4.out hb); have HB6 := Aside0.mk (below_step HB5.out hb); have GK6 := Aside0.mk (Kd.F_below GK5.out hb); obtain ⟨p0, p1, p2, p3⟩ := cells4 BK4b.out; obtain ⟨q0, q1, q2, q3⟩ := cells4 BK6.out; have pf0 := blk_frozen BK4b.out 0; have qf0 := blk_frozen BK6.out 0; have pf1 := blk_frozen BK4b.out 1; have qf1 := blk_frozen BK6.out 1; have pf2 := blk_frozen BK4b.out 2; have qf2 := blk_frozen BK6.out 2; have pf3 := blk_frozen BK4b.out 3; have qf3 := blk_frozen BK6.out 3; have hne1 : ¬ g4 = g6 := GE6.out.2; have hne2 : ¬ g6 = g4 := Ne.symm GE6.out.2; clear hbox hb hg6 HB5 GK5 BK4 SZ5))
 have HB7 := Aside0.mk (pageW (pageW HB6.out GE4.out (.bool true) (.slice B1 1 d1) (.slice B2 1 d2) (.slice B3 0 d3)) GE6.out.1 (.bool true) (.slice B6 1 d6) (.slice B7 1 d7) (.slice B8 0 d8))
 have BK7 := Aside0.mk (pageB (pageF BK6.out (Ne.symm GE6.out.2) (.bool true) (.slice B1 1 d1) (.slice B2 1 d2) (.slice B3 0 d3)) (.bool true) (.slice B6 1 d6) (.slice B7 1 d7) (.slice B8 0 d8))
 have GK7 := Aside0.mk (ladinglaw06_lives.farF (ladinglaw06_lives.farF GK6.out NK4.out (.bool true) (.slice B1 1 d1) (.slice B2 1 d2) (.slice B3 0 d3)) NK6.out (.bool true) (.slice B6 1 d6) (.slice B7 1 d7) (.slice B8 0 d8))
 clear p0 p1 p2 p3 q0 q1 q2 q3 pf0 pf1 pf2 pf3 qf0 qf1 qf2 qf3 hne1 hne2 BK4b BK6 HB6 GK6 NK4 NK6 GE4 GE6
 obtain ⟨w7, hw7⟩ : ∃ w7, w7 = ((((((((w6.setCell ⟨g4, 0, none⟩ (.bool true)).setCell ⟨g4, 1, none⟩ (.slice B1 1 d1)).setCell ⟨g4, 2, none⟩ (.slice B2 1 d2)).setCell ⟨g4, 3, none⟩ (.slice B3 0 d3)).setCell ⟨g6, 0, none⟩ (.bool true)).setCell ⟨g6, 1, none⟩ (.slice B6 1 d6)).setCell ⟨g6, 2, none⟩ (.slice B7 1 d7)).setCell ⟨g6, 3, none⟩ (.slice B8 0 d8)) := ⟨_, rfl⟩
 rw [← hw7] at HB7 BK7 GK7 ⊢
 clear hw7
 refine (ladinglaw06_two.calls true [[97], [98]] [[49], [50]] [] _ rfl).mono ?_
 rintro e w8 ⟨_, _, _, rfl, ⟨A1, c1, rfl, l1, F1⟩, ⟨A2, c2, rfl, l2, F2⟩, ⟨A3, c3, rfl, l3, F3⟩, hb⟩
 have HB8 := Aside0.mk (below_step HB7.out hb)
 have BK8 := Aside0.mk (blk_below BK7.out hb)
 have GK8 := Aside0.mk (Kd.F_below GK7.out hb)
 have G1 := Aside0.mk (Kd.F_now F1)
 have G2 := Aside0.mk (Kd.F_now F2)
 have G3 := Aside0.mk (Kd.F_now F3)
 have M1 := Aside0.mk l1
 have M2 := Aside0.mk l2
 have M3 := Aside0.mk l3
 clear F1 F2 F3 l1 l2 l3 hb HB7 BK7 GK7
 go_wp2_with fail
 refine (node_Encode.calls 20 true A1 c1 [[97], [98]] A2 c2 [[49], [50]] A3 c3 [] eb 0 _ G1.out M1.out G2.out M2.out G3.out M3.out HEB.out).mono ?_
 rintro e w9 ⟨_, rfl, hev, hb⟩
 obtain ⟨EA, ec, rfl⟩ := Kd.R_slice hev
 have HB9 := Aside0.mk (below_step HB8.out hb)
 have BK9 := Aside0.mk (blk_below BK8.out hb)
 have GK9 := Aside0.mk (Kd.F_below GK8.out hb)
 clear hev hb HB8 BK8 GK8 G1 G2 G3 M1 M2 M3
 have kc := KC.out
 go_wp2_with fail
 clear kc
 have hb2 := below_alloc (below_alloc (below_alloc (Below.refl _ w9) (.cells #[.int .u8 97] 5 (1, 2))) (.cells #[.slice (some ⟨w9.heap.size, 0, none⟩) 1 1] 26)) (.cells #[.int .i64 1, .int .i64 2] 3)
 have n0 := ladinglaw06_two.old_at (o' := (.cells #[.int .i64 1, .int .i64 2] 3)) (ladinglaw06_two.old_at (o' := (.cells #[.slice (some ⟨w9.heap.size, 0, none⟩) 1 1] 26)) (ladinglaw06_two.new_at (o := (.cells #[.int .u8 97] 5 (1, 2))) (rfl : w9.heap.size = w9.heap.size)))
 have n1 := ladinglaw06_two.old_at (o' := (.cells #[.int .i64 1, .int .i64 2] 3)) (ladinglaw06_two.new_at (o := (.cells #[.slice (some ⟨w9.heap.size, 0, none⟩) 1 1] 26)) (ladinglaw06_two.size_at (o := (.cells #[.int .u8 97] 5 (1, 2))) (rfl : w9.heap.size = w9.heap.size)))
 have n2 := ladinglaw06_two.new_at (o := (.cells #[.int .i64 1, .int .i64 2] 3)) (ladinglaw06_two.size_at (o := (.cells #[.slice (some ⟨w9.heap.size, 0, none⟩) 1 1] 26)) (ladinglaw06_two.size_at (o := (.cells #[.int .u8 97] 5 (1, 2))) (rfl : w9.heap.size = w9.heap.size)))
 refine (node_Put.calls 20 false (some ⟨w9.heap.size + 1, 0, none⟩) 1 [[97]] none 0 [] (some ⟨w9.heap.size + 1 + 1, 0, none⟩) 2 [1, 2] none 0 [] none 0 [] false [] [] [] 15 _ (ladinglaw06_lives.row1 _ _ _ _ _ _ n1 n0) (Nat.le_refl _) (Kd.C_nil _ _) (Nat.le_refl _) (ladinglaw06_lives.ints2 _ _ _ _ _ n2) (Nat.le_refl _) (Kd.C_nil _ _) (Nat.le_refl _) (Kd.C_nil _ _) (Nat.le_refl _) ladinglaw06_lives.v3).mono ?_
 rintro e w10 ⟨_, _, _, rfl, ⟨Y1, y1, rfl, -, -⟩, ⟨Y2, y2, rfl, -, -⟩, ⟨Y3, y3, rfl, -, -⟩, hb3⟩
 have hb4 := below_step hb2 hb3
 have HB10 := Aside0.mk (below_step HB9.out hb4)
 have BK10 := Aside0.mk (blk_below BK9.out hb4)
 have GK10 := Aside0.mk (Kd.F_below GK9.out hb4)
 clear hb2 hb3 hb4 n0 n1 n2 HB9 BK9 GK9
 go_wp2_with (first | ((with_reducible refine gate_dst (N := 10) rfl ?_); refine box_event ?hg (N := 10) ?hd (cs := #[.bool false, .slice none 0 0, .slice none 0 0, .slice none 0 0]) (t := 25) ?hr ?_; (case hd => rfl); (case hg => rfl); (case hr => first | (go_simp; done) | (go_simp; rfl)); intro gx hgx w11 hbox hb; have GEX : Aside0 (w.heap.size ≤ gx ∧ g6 ≠ gx) := ⟨by rw [hgx]; exact HB10.out.size, by rw [hgx]; exact Nat.ne_of_lt (blk_lt BK10.out)⟩; have NKX : Aside0 (∀ k, ((w3.heap.size ≤ k ∧ k < w4.heap.size) ∧ k < w10.heap.size) → k ≠ gx) := ⟨fun k hk hh => by rw [hh, hgx] at hk; exact Nat.lt_irrefl _ hk.2⟩; have BX := Aside0.mk hbox; have BK11 := Aside0.mk (blk_below BK10.out hb); have HB11 := Aside0.mk (below_step HB10.out hb); have GK11 := Aside0.mk (Kd.F_below (Kd.F_bound GK10.out) hb); obtain ⟨p0, p1, p2, p3⟩ := cells4 BX.out; have pf0 := blk_frozen BX.out 0; have pf1 := blk_frozen BX.out 1; have pf2 := blk_frozen BX.out 2; have pf3 := blk_frozen BX.out 3; clear hbox hb hgx HB10 GK10 BK10))
 have HB12 := Aside0.mk (pageW HB11.out GEX.out.1 (.bool false) (.slice Y1 0 y1) (.slice Y2 0 y2) (.slice Y3 0 y3))
 have BK12 := Aside0.mk (pageF BK11.out GEX.out.2 (.bool false) (.slice Y1 0 y1) (.slice Y2 0 y2) (.slice Y3 0 y3))
 have GK12 := Aside0.mk (ladinglaw06_lives.farF GK11.out NKX.out (.bool false) (.slice Y1 0 y1) (.slice Y2 0 y2) (.slice Y3 0 y3))
 clear p0 p1 p2 p3 pf0 pf1 pf2 pf3 BX BK11 HB11 GK11 NKX GEX
 obtain ⟨w12, hw12⟩ : ∃ w12, w12 = ((((w11.setCell ⟨gx, 0, none⟩ (.bool false)).setCell ⟨gx, 1, none⟩ (.slice Y1 0 y1)).setCell ⟨gx, 2, none⟩ (.slice Y2 0 y2)).setCell ⟨gx, 3, none⟩ (.slice Y3 0 y3)) := ⟨_, rfl⟩
 rw [← hw12] at HB12 BK12 GK12 ⊢
 clear hw12
 refine (ladinglaw06_two.calls true [[97], [98]] [[49], [50]] [] _ rfl).mono ?_
 rintro e w13 ⟨_, _, _, rfl, ⟨A1, c1, rfl, l1, F1⟩, ⟨A2, c2, rfl, l2, F2⟩, ⟨A3, c3, rfl, l3, F3⟩, hb⟩
 have HB13 := Aside0.mk (below_step HB12.out hb)
 have BK13 := Aside0.mk (blk_below BK12.out hb)
 have GK13 := Aside0.mk (Kd.F_below GK12.out hb)
 have G1 := Aside0.mk (Kd.F_now F1)
 have G2 := Aside0.mk (Kd.F_now F2)
 have G3 := Aside0.mk (Kd.F_now F3)
 have M1 := Aside0.mk l1
 have M2 := Aside0.mk l2
 have M3 := Aside0.mk l3
 clear F1 F2 F3 l1 l2 l3 hb HB12 BK12 GK12
 go_wp2_with fail
 refine (node_Size.calls 20 true A1 c1 [[97], [98]] A2 c2 [[49], [50]] A3 c3 [] 14 _ G1.out M1.out G2.out M2.out G3.out M3.out ladinglaw06_lives.v4).mono ?_
 rintro e w14 ⟨rfl, hb⟩
 have HB14 := Aside0.mk (below_step HB13.out hb)
 have BK14 := Aside0.mk (blk_below BK13.out hb)
 have GK14 := Aside0.mk (Kd.F_below GK13.out hb)
 clear hb HB13 BK13 GK13 G1 G2 G3 M1 M2 M3
 obtain ⟨q0, q1, q2, q3⟩ := cells4 BK14.out
 have hcv0 := Kd.C_string (P := Tryd.prog) (A := BK) (c := dK) Tryd.underlying26 Tryd.underlying5 Tryd.underlying9 (Kd.F_now GK14.out)
 have hcv : (convert 26 9 (.slice BK 1 dK)).run Tryd.prog w14 = .ok (.string { data := #[98] }) w14 := hcv0
 clear hcv0
 have hel := HEL.out
 go_wp2_with fail
 go_ret
 exact ⟨rfl, HB14.out⟩
end Go.Proofs.YtcbgichkeecgiaaDoor.Print
