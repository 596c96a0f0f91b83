-- What the claim uses alone (wip/slim.py). Lean checks it.
import Derived.Test.YtcbgichkeecgiaaZPrint0
import Derived.Test.YtcbgichkeecgiaaZPrint1
import Derived.Test.YtcbgichkeecgiaaZPrint8
namespace Go.Proofs.Ytcbgichkeecgiaa.Print
open Go.RowKit Go.Proofs.YtcbgichkeecgiaaW.PrintWords Go.Proofs.YtcbgichkeecgiaaW.PrintLast Go.Proofs.YtcbgichkeecgiaaW.PrintMore
attribute [local go_sem] max2_mx min2_mn max_two min_two max_three min_three max_four min_four
set_option linter.unusedVariables false
set_option linter.unusedSimpArgs false
theorem pageB {W : World} {g : Nat} {v0 v1 v2 v3 : Value} (h : W.heap[g]? = some (.cells #[v0, v1, v2, v3] 26 (0, 0))) (x0 x1 x2 x3 : Value) :
  ((((W.setCell ⟨g, 0, none⟩ x0).setCell ⟨g, 1, none⟩ x1).setCell ⟨g, 2, none⟩ x2).setCell ⟨g, 3, none⟩ x3).heap[g]? = some (.cells #[x0, x1, x2, x3] 26 (0, 0)) :=
 blk_put (cs := #[x0, x1, x2, v3]) (blk_put (cs := #[x0, x1, v2, v3]) (blk_put (cs := #[x0, v1, v2, v3]) (blk_put h 0 _ rfl) 1 _ rfl) 2 _ rfl) 3 _ rfl
theorem pageF {W : World} {g g' t : Nat} {cs : Array Value} (h : W.heap[g']? = some (.cells cs t (0, 0))) (hne : g' ≠ g) (x0 x1 x2 x3 : Value) :
  ((((W.setCell ⟨g, 0, none⟩ x0).setCell ⟨g, 1, none⟩ x1).setCell ⟨g, 2, none⟩ x2).setCell ⟨g, 3, none⟩ x3).heap[g']? = some (.cells cs t (0, 0)) :=
 blk_far (blk_far (blk_far (blk_far h hne _) hne _) hne _) hne _
theorem pageR {α : Type} {d : Kd α} {e base : Nat} {ok : Nat → Prop} {v : Value} {xs : List α} {W : World} {g : Nat} {v0 v1 v2 v3 : Value} (h : d.R e W base ok v xs) (hb : W.heap[g]? = some (.cells #[v0, v1, v2, v3] 26 (0, 0))) (ht : ∀ q, q ∈ e :: d.E → q ≠ 26) (x0 x1 x2 x3 : Value) :
  d.R e ((((W.setCell ⟨g, 0, none⟩ x0).setCell ⟨g, 1, none⟩ x1).setCell ⟨g, 2, none⟩ x2).setCell ⟨g, 3, none⟩ x3) base ok v xs :=
 Kd.R_mono (Kd.R_far (p := ⟨g, 3, none⟩) (Kd.R_far (p := ⟨g, 2, none⟩) (Kd.R_far (p := ⟨g, 1, none⟩) (Kd.R_far (p := ⟨g, 0, none⟩) (Kd.R_types h hb ht) (fun _ hk => hk.2) x0) (fun _ hk => hk.2) x1) (fun _ hk => hk.2) x2) (fun _ hk => hk.2) x3) (fun _ hk => hk.1)
theorem pageW {w W : World} {g : Nat} (h : Below w.heap.size w W) (hg : w.heap.size ≤ g) (x0 x1 x2 x3 : Value) :
  Below w.heap.size w ((((W.setCell ⟨g, 0, none⟩ x0).setCell ⟨g, 1, none⟩ x1).setCell ⟨g, 2, none⟩ x2).setCell ⟨g, 3, none⟩ x3) :=
 below_set (below_set (below_set (below_set h hg) hg) hg) hg
theorem R_V {α : Type} {d : Kd α} {e base : Nat} {ok : Nat → Prop} {v : Value} {xs : List α} {W : World} (h : d.R e W base ok v xs) : Kd.V d e W base (fun k_ => (base ≤ k_)) v xs := by
 obtain ⟨A, c, rfl⟩ := Kd.R_slice h
 exact ⟨A, c, rfl, (Kd.R_reads' h).2.1, Kd.R_F (Kd.R_mono (Kd.R_bound h) (fun k hk => hk.2.1))⟩
structure OutP (w W : World) (gb gr : Nat) (b : Bool) (Ak : Option Addr) (ck : Nat) (ks : List (List Int)) (Av : Option Addr) (cv : Nat) (vs : List (List Int)) (Ad : Option Addr) (cd : Nat) (ds : List Int) : Prop where
 BB : W.heap[gb]? = some (.cells #[.bool b, .slice Ak ks.length ck, .slice Av vs.length cv, .slice Ad ds.length cd] 26 (0, 0))
 BR : W.heap[gr]? = some (.cells #[.bool false, .slice none 0 0, .slice none 0 0, .slice none 0 0] 26 (0, 0))
 HB : Below w.heap.size w W
 K : Kd.R (Kd.slice 5 (Kd.int .u8)) 27 W w.heap.size (fun k => some k ≠ (Value.slice Av vs.length cv).ownBlock) (.slice Ak ks.length ck) ks
 V : Kd.R (Kd.slice 5 (Kd.int .u8)) 27 W w.heap.size (fun k => some k ≠ (Value.slice Ak ks.length ck).ownBlock) (.slice Av vs.length cv) vs
 D : Kd.R (Kd.int .i64) 3 W w.heap.size (fun _ => True) (.slice Ad ds.length cd) ds
 GB : w.heap.size ≤ gb
 GR : w.heap.size ≤ gr
 ne : gb ≠ gr
section
variable {w W W2 : World} {gb gr : Nat} {b : Bool} {Ak : Option Addr} {ck : Nat} {ks ks' : List (List Int)} {Av : Option Addr} {cv : Nat} {vs vs' : List (List Int)} {Ad : Option Addr} {cd : Nat} {ds : List Int} {A' : Option Addr} {c' : Nat}
theorem OutP.below (O : OutP w W gb gr b Ak ck ks Av cv vs Ad cd ds) (hb : Below W.heap.size W W2) : OutP w W2 gb gr b Ak ck ks Av cv vs Ad cd ds :=
 ⟨blk_below O.BB hb, blk_below O.BR hb, below_step O.HB hb, Kd.R_below O.K hb, Kd.R_below O.V hb, Kd.R_below O.D hb, O.GB, O.GR, O.ne⟩
theorem OutP.drew (O : OutP w W gb gr b Ak ck ks Av cv vs Ad cd ds) : OutP w W.drew gb gr b Ak ck ks Av cv vs Ad cd ds := O.below (below_drew (Below.refl _ _))
theorem OutP.rd (O : OutP w W gb gr b Ak ck ks Av cv vs Ad cd ds) : (W.cell? ⟨gb, 0, none⟩ = some (.bool b) ∧ W.cell? ⟨gb, 1, none⟩ = some (.slice Ak ks.length ck) ∧ W.cell? ⟨gb, 2, none⟩ = some (.slice Av vs.length cv) ∧ W.cell? ⟨gb, 3, none⟩ = some (.slice Ad ds.length cd)) ∧ (∀ i, W.frozen? ⟨gb, i, none⟩ = false) ∧
  (W.cell? ⟨gr, 0, none⟩ = some (.bool false) ∧ W.cell? ⟨gr, 1, none⟩ = some (.slice none 0 0) ∧ W.cell? ⟨gr, 2, none⟩ = some (.slice none 0 0) ∧ W.cell? ⟨gr, 3, none⟩ = some (.slice none 0 0)) ∧ (∀ i, W.frozen? ⟨gr, i, none⟩ = false) :=
 ⟨⟨(blk_cell O.BB 0).trans rfl, (blk_cell O.BB 1).trans rfl, (blk_cell O.BB 2).trans rfl, (blk_cell O.BB 3).trans rfl⟩, fun i => blk_frozen O.BB i, ⟨(blk_cell O.BR 0).trans rfl, (blk_cell O.BR 1).trans rfl, (blk_cell O.BR 2).trans rfl, (blk_cell O.BR 3).trans rfl⟩, fun i => blk_frozen O.BR i⟩
theorem OutP.grK (O : OutP w W gb gr b Ak ck ks Av cv vs Ad cd ds) (hg : W.grownBy W2 (Value.slice Ak ks.length ck).ownBlock) :
  W2.heap[gb]? = some (.cells #[.bool b, .slice Ak ks.length ck, .slice Av vs.length cv, .slice Ad ds.length cd] 26 (0, 0)) ∧ W2.heap[gr]? = some (.cells #[.bool false, .slice none 0 0, .slice none 0 0, .slice none 0 0] 26 (0, 0)) :=
 ⟨blk_grown O.BB hg (Kd.R_ne O.K O.BB (by decide)), blk_grown O.BR hg (Kd.R_ne O.K O.BR (by decide))⟩
theorem OutP.grV (O : OutP w W gb gr b Ak ck ks Av cv vs Ad cd ds) (hg : W.grownBy W2 (Value.slice Av vs.length cv).ownBlock) :
  W2.heap[gb]? = some (.cells #[.bool b, .slice Ak ks.length ck, .slice Av vs.length cv, .slice Ad ds.length cd] 26 (0, 0)) ∧ W2.heap[gr]? = some (.cells #[.bool false, .slice none 0 0, .slice none 0 0, .slice none 0 0] 26 (0, 0)) :=
 ⟨blk_grown O.BB hg (Kd.R_ne O.V O.BB (by decide)), blk_grown O.BR hg (Kd.R_ne O.V O.BR (by decide))⟩
theorem apart_at {α : Type} {d : Kd α} {e base : Nat} {v v1 u : Value} {xs : List α} (h : d.R e W base (fun k => some k ≠ v.ownBlock) u xs) (hg : W.grownBy W2 v.ownBlock) (hat : v1.ownBlock = v.ownBlock ∨ ∃ x, v1.ownBlock = some x ∧ W.heap.size ≤ x) : d.R e W2 base (fun k => some k ≠ v1.ownBlock) u xs := by
 refine Kd.R_mono (Kd.R_grown (Kd.R_bound h) hg (fun k hk => hk.1)) (fun k hk => ?_)
 rcases hat with hat | ⟨x, hx, hle⟩
 ·rw [hat]; exact hk.1
 ·rw [hx]
  intro he
  injection he with he
  have := hk.2.2.1
  omega
theorem OutP.setK (O : OutP w W gb gr b Ak ck ks Av cv vs Ad cd ds) (hI : Kd.R (Kd.slice 5 (Kd.int .u8)) 27 W2 w.heap.size (fun k => some k ≠ (Value.slice Av vs.length cv).ownBlock ∨ W.heap.size ≤ k) (.slice A' ks'.length c') ks')
  (hg : W.grownBy W2 (Value.slice Ak ks.length ck).ownBlock) (hat : (Value.slice A' ks'.length c').ownBlock = (Value.slice Ak ks.length ck).ownBlock ∨ ∃ x, (Value.slice A' ks'.length c').ownBlock = some x ∧ W.heap.size ≤ x) :
  OutP w (W2.setCell ⟨gb, 1, none⟩ (.slice A' ks'.length c')) gb gr b A' c' ks' Av cv vs Ad cd ds := by
 obtain ⟨BB2, BR2⟩ := O.grK hg
 refine ⟨blk_put BB2 1 _ rfl, blk_far BR2 (Ne.symm O.ne) _, below_set (O.HB.grown hg O.HB.size (Kd.R_base O.K)) O.GB, Kd.R_set (Kd.R_mono hI (fun k hk => ?_)) BB2 (by decide) 1 _, Kd.R_set (apart_at O.V hg hat) BB2 (by decide) 1 _, Kd.R_set (Kd.R_over' O.D (Kd.R_typed O.K) (by decide) hg) BB2 (by decide) 1 _, O.GB, O.GR, O.ne⟩
 rcases hk with hk | hk
 ·exact hk
 ·intro he
  have := Kd.R_lt O.V k he.symm
  omega
theorem OutP.setV (O : OutP w W gb gr b Ak ck ks Av cv vs Ad cd ds) (hI : Kd.R (Kd.slice 5 (Kd.int .u8)) 27 W2 w.heap.size (fun k => some k ≠ (Value.slice Ak ks.length ck).ownBlock ∨ W.heap.size ≤ k) (.slice A' vs'.length c') vs')
  (hg : W.grownBy W2 (Value.slice Av vs.length cv).ownBlock) (hat : (Value.slice A' vs'.length c').ownBlock = (Value.slice Av vs.length cv).ownBlock ∨ ∃ x, (Value.slice A' vs'.length c').ownBlock = some x ∧ W.heap.size ≤ x) :
  OutP w (W2.setCell ⟨gb, 2, none⟩ (.slice A' vs'.length c')) gb gr b Ak ck ks A' c' vs' Ad cd ds := by
 obtain ⟨BB2, BR2⟩ := O.grV hg
 refine ⟨blk_put BB2 2 _ rfl, blk_far BR2 (Ne.symm O.ne) _, below_set (O.HB.grown hg O.HB.size (Kd.R_base O.V)) O.GB, Kd.R_set (apart_at O.K hg hat) BB2 (by decide) 2 _, Kd.R_set (Kd.R_mono hI (fun k hk => ?_)) BB2 (by decide) 2 _, Kd.R_set (Kd.R_over' O.D (Kd.R_typed O.V) (by decide) hg) BB2 (by decide) 2 _, O.GB, O.GR, O.ne⟩
 rcases hk with hk | hk
 ·exact hk
 ·intro he
  have := Kd.R_lt O.K k he.symm
  omega
theorem OutP.putV (O : OutP w W gb gr b Ak ck ks Av cv vs Ad cd ds) (hI : Kd.R (Kd.slice 5 (Kd.int .u8)) 27 W2 w.heap.size (fun k => some k ≠ (Value.slice Ak ks.length ck).ownBlock) (.slice Av vs.length cv) vs') (hl : vs'.length = vs.length)
  (hg : W.grownBy W2 (Value.slice Av vs.length cv).ownBlock) : OutP w W2 gb gr b Ak ck ks Av cv vs' Ad cd ds := by
 obtain ⟨BB2, BR2⟩ := O.grV hg
 have hK := apart_at O.K hg (.inl rfl)
 have hD := Kd.R_over' O.D (Kd.R_typed O.V) (by decide) hg
 have hB := O.HB.grown hg O.HB.size (Kd.R_base O.V)
 rw [← hl] at BB2 hI hK
 exact ⟨BB2, BR2, hB, hK, hI, hD, O.GB, O.GR, O.ne⟩
theorem OutP.end_ (O : OutP w W gb gr b Ak ck ks Av cv vs Ad cd ds) (x0 x1 x2 x3 : Value) :
  Kd.V (Kd.slice 5 (Kd.int .u8)) 27 ((((W.setCell ⟨gr, 0, none⟩ x0).setCell ⟨gr, 1, none⟩ x1).setCell ⟨gr, 2, none⟩ x2).setCell ⟨gr, 3, none⟩ x3) w.heap.size (fun k_ => (w.heap.size ≤ k_)) (.slice Ak ks.length ck) ks ∧
  Kd.V (Kd.slice 5 (Kd.int .u8)) 27 ((((W.setCell ⟨gr, 0, none⟩ x0).setCell ⟨gr, 1, none⟩ x1).setCell ⟨gr, 2, none⟩ x2).setCell ⟨gr, 3, none⟩ x3) w.heap.size (fun k_ => (w.heap.size ≤ k_)) (.slice Av vs.length cv) vs ∧
  Kd.V (Kd.int .i64) 3 ((((W.setCell ⟨gr, 0, none⟩ x0).setCell ⟨gr, 1, none⟩ x1).setCell ⟨gr, 2, none⟩ x2).setCell ⟨gr, 3, none⟩ x3) w.heap.size (fun k_ => (w.heap.size ≤ k_)) (.slice Ad ds.length cd) ds ∧
  Below w.heap.size w ((((W.setCell ⟨gr, 0, none⟩ x0).setCell ⟨gr, 1, none⟩ x1).setCell ⟨gr, 2, none⟩ x2).setCell ⟨gr, 3, none⟩ x3) :=
 ⟨R_V (pageR O.K O.BR (by decide) _ _ _ _), R_V (pageR O.V O.BR (by decide) _ _ _ _), R_V (pageR O.D O.BR (by decide) _ _ _ _), pageW O.HB O.GR _ _ _ _⟩
end
def node_place.cmp (a b : List Int) : Int := Lib.compareBytes (strOfNums a).data.toList (strOfNums b).data.toList
theorem node_place.cmp_calls (A0 : Option Addr) (c0 : Nat) (l0 : List Int) (A1 : Option Addr) (c1 : Nat) (l1 : List Int) (w : World) (hr0 : Kd.C (Kd.int .u8) w A0 l0.length l0) (hc0 : l0.length ≤ c0) (hr1 : Kd.C (Kd.int .u8) w A1 l1.length l1) (hc1 : l1.length ≤ c1) :
  Calls Try.prog 46 #[.slice A0 l0.length c0, .slice A1 l1.length c1] w fun e w' => e = .returned (.int .i64 (node_place.cmp l0 l1)) ∧ ∃ m, w' = w.drewN m :=
 (bytes_Compare.calls A0 c0 l0 A1 c1 l1 _ w hr0 hc0 hr1 hc1 rfl).mono fun e w' ⟨he, hd⟩ => ⟨he, hd.out⟩
theorem node_place.eq_calls (A0 : Option Addr) (c0 : Nat) (l0 : List Int) (A1 : Option Addr) (c1 : Nat) (l1 : List Int) (w : World) (hr0 : Kd.C (Kd.int .u8) w A0 l0.length l0) (hc0 : l0.length ≤ c0) (hr1 : Kd.C (Kd.int .u8) w A1 l1.length l1) (hc1 : l1.length ≤ c1) :
  Calls Try.prog 47 #[.slice A0 l0.length c0, .slice A1 l1.length c1] w fun e w' => e = .returned (.bool ((strOfNums l0).toList == (strOfNums l1).toList)) ∧ ∃ m, w' = w.drewN m :=
 (bytes_Equal.calls A0 c0 l0 A1 c1 l1 _ w hr0 hc0 hr1 hc1 rfl).mono fun e w' ⟨he, hd⟩ => ⟨he, hd.out⟩
def node_place.P (l : List (List Int)) (key : List Int) (h : Nat) : Bool := decide (node_place.cmp (rd_L1 l (h : Int)) key < 0)
set_option maxHeartbeats 1000000 in
set_option maxRecDepth 100000 in
theorem node_place.clo (bP bK : Nat) (a : Bool) (A1 : Option Addr) (c1 : Nat) (l : List (List Int)) (v2 v3 : Value) (Ak : Option Addr) (ck : Nat) (key : List Int) (i : Nat) (hi : i < l.length) (w : World)
  (hp : w.heap[bP]? = some (.cells #[.bool a, .slice A1 l.length c1, v2, v3] 26 (0, 0))) (hk : w.heap[bK]? = some (.cells #[.slice Ak key.length ck] 27 (0, 0)))
  (hr : Kd.C (Kd.slice 5 (Kd.int .u8)) w A1 l.length l) (hrk : Kd.C (Kd.int .u8) w Ak key.length key) (hck : key.length ≤ ck) :
  Calls Try.prog 45 #[.int .i64 (i : Int), .pointer (some ⟨bP, 0, none⟩), .pointer (some ⟨bK, 0, none⟩)] w fun e w' => e = .returned (.bool (!node_place.P l key i)) ∧ Below w.heap.size w w' := by
 obtain ⟨ad, Ae, ce, rfl, hx, hle, hre⟩ := at_L1 hr (i : Int) (Int.natCast_nonneg _) (Int.ofNat_lt.mpr hi)
 have hb1 : w.cell? ⟨bP, 1, none⟩ = some (.slice (some ad) l.length c1) := (blk_cell hp 1).trans rfl
 have hb2 : w.cell? ⟨bK, 0, none⟩ = some (.slice Ak key.length ck) := (blk_cell hk 0).trans rfl
 have pm : ((i : Int) < (l.length : Int)) = True := eq_true (Int.ofNat_lt.mpr hi)
 have HRE := Aside0.mk hre
 have HLE := Aside0.mk hle
 have HRK := Aside0.mk hrk
 have HCK := Aside0.mk hck
 have HPP : Aside0 ((!node_place.P l key i) = decide (0 ≤ node_place.cmp (rd_L1 l (i : Int)) key)) := ⟨by
  unfold node_place.P
  by_cases h : node_place.cmp (rd_L1 l (i : Int)) key < 0
  ·rw [decide_eq_true h, decide_eq_false (by omega)]; rfl
  ·rw [decide_eq_false h, decide_eq_true (by omega)]; rfl⟩
 rw [Int.toNat_natCast] at hx
 clear hre hle hrk hck hr hp hk
 generalize rd_L1 l (i : Int) = x at HRE HLE HPP hx
 go_enter Try.func45, Try.ntmps45
 go_wp2
 go_quiet ((go_at_call 46; exact Calls.quiet_of (node_place.cmp_calls Ae ce x Ak ck key _ (Kd.C_drewN HRE.out _) HLE.out (Kd.C_drewN HRK.out _) HCK.out)))
 go_wp2
 go_ret
 exact ⟨by rw [HPP.out]; rfl, pw_below_drewN (Below.refl _ _) _⟩
def node_place.Rel (w : World) (l : List (List Int)) (key : List Int) (fin : Nat) (kq : Nat) (v5 v6 : Value) (wr : World) : Prop := ∃ i j : Nat, i ≤ j ∧ j ≤ l.length ∧ j - i < 2 ^ kq ∧ v5 = .int .i64 i ∧ v6 = .int .i64 j ∧ bsN (node_place.P l key) kq i j = fin ∧ Below w.heap.size w wr
set_option maxHeartbeats 1000000 in
set_option maxRecDepth 100000 in
theorem node_place.bs_row (bP bK : Nat) (a : Bool) (A1 : Option Addr) (c1 : Nat) (l : List (List Int)) (v2 v3 : Value) (Ak : Option Addr) (ck : Nat) (key : List Int) (w : World)
  (hp : w.heap[bP]? = some (.cells #[.bool a, .slice A1 l.length c1, v2, v3] 26 (0, 0))) (hk : w.heap[bK]? = some (.cells #[.slice Ak key.length ck] 27 (0, 0)))
  (hr : Kd.C (Kd.slice 5 (Kd.int .u8)) w A1 l.length l) (hrk : Kd.C (Kd.int .u8) w Ak key.length key) (hck : key.length ≤ ck) (hbig : l.length ≤ 4611686018427387904) (fin : Nat) (hfin : bsN (node_place.P l key) 64 0 l.length = fin) :
  Calls Try.prog 44 #[.int .i64 (l.length : Int), .func (.func 45) #[] #[.pointer (some ⟨bP, 0, none⟩), .pointer (some ⟨bK, 0, none⟩)]] w fun e w' => e = .returned (.int .i64 fin) ∧ Below w.heap.size w w' := by
 have HP := Aside0.mk hp
 have HK := Aside0.mk hk
 have HR := Aside0.mk hr
 have HRK := Aside0.mk hrk
 have HCK := Aside0.mk hck
 have HBG := Aside0.mk hbig
 have HF := Aside0.mk hfin
 have hle : fin ≤ l.length := hfin ▸ bsN_le _ 64 0 l.length (Nat.zero_le _)
 have HLE := Aside0.mk hle
 clear hp hk hr hrk hck hbig hfin hle
 go_enter Try.func44, Try.ntmps44
 go_wp2
 go_loopg [5, 6] 64 (fun kq v5 v6 wr => node_place.Rel w l key fin kq v5 v6 wr)
 case atStart => exact ⟨0, l.length, Nat.zero_le _, Nat.le_refl _, by have := HBG.out; omega, rfl, rfl, HF.out, Below.refl _ _⟩
 case round =>
  obtain ⟨i, j, hij, hjl, hq, rfl, rfl, hb, hB⟩ := hrel
  have HB := Aside0.mk hB
  clear hB HF
  by_cases hlt : i < j
  ·obtain ⟨q, rfl⟩ : ∃ q, gk = q + 1 := by
    rcases gk with _ | q
    ·simp at hq; omega
    ·exact ⟨q, rfl⟩
   have t1 : decide ((i : Int) < (j : Int)) = true := decide_eq_true (Int.ofNat_lt.mpr hlt)
   have t1n : decide (i < j) = true := decide_eq_true hlt
   obtain ⟨m, hm⟩ : ∃ m, m = (i + j) / 2 := ⟨_, rfl⟩
   have hmj : m < l.length := by omega
   have hsum : (0 : Int) ≤ (i : Int) + (j : Int) ∧ (i : Int) + (j : Int) ≤ 9223372036854775807 := by have := HBG.out; omega
   have hadd : IntKind.i64.wrap ((i : Int) + (j : Int)) = (i : Int) + (j : Int) := wi64_in hsum.1 hsum.2
   have hu : IntKind.u64.wrap ((i : Int) + (j : Int)) = (i : Int) + (j : Int) := wu64_in hsum.1 hsum.2
   have hh : wrap64 (((i : Int) + (j : Int)) / 2) = (m : Int) := half_in hm hsum.2
   have HM := Aside0.mk hm
   have HHH := Aside0.mk hh
   have HI := Aside0.mk (And.intro hij (And.intro hjl (And.intro hq (And.intro hlt hmj))))
   have hbs : bsN (node_place.P l key) (q + 1) i j = if node_place.P l key m then bsN (node_place.P l key) q (m + 1) j else bsN (node_place.P l key) q i m := by rw [bsN, if_pos hlt, ← hm]
   have HS := Aside0.mk (hbs.symm.trans hb)
   clear hm hsum hbs hb hij hjl hq hlt hmj
   go_wp2_with fail
   rw [HHH.out]
   refine (node_place.clo bP bK a A1 c1 l v2 v3 Ak ck key m HI.out.2.2.2.2 _ (blk_below HP.out HB.out) (blk_below HK.out HB.out) (Kd.C_below HR.out HB.out) (Kd.C_below HRK.out HB.out) HCK.out).mono ?_
   rintro e w' ⟨rfl, hb2⟩
   have HB2 := Aside0.mk (below_then HB.out HB.out.size hb2)
   clear hb2 hh hadd hu t1 t1n
   cases hc : node_place.P l key m
   ·have hS := HS.out
    rw [hc] at hS
    have HS2 := Aside0.mk hS
    clear hS HS hc
    go_wp2_with fail
    go_roundg q
    case measure => exact Nat.lt_succ_self _
    case rel =>
     refine ⟨i, m, ?_, ?_, ?_, rfl, rfl, HS2.out, HB2.out⟩
     ·have := HI.out; have := HM.out; omega
     ·have := HI.out; omega
     ·have h1 := HI.out; have h2 := HM.out; have h3 := Nat.pow_succ 2 q; omega
   ·have hS := HS.out
    rw [hc] at hS
    have HS2 := Aside0.mk hS
    have hw : IntKind.i64.wrap ((m : Int) + 1) = (m : Int) + 1 := wi64_in (by omega) (by have := HBG.out; have := HI.out; omega)
    clear hS HS hc
    go_wp2_with fail
    go_roundg q
    case measure => exact Nat.lt_succ_self _
    case rel =>
     refine ⟨m + 1, j, ?_, HI.out.2.1, ?_, ?_, rfl, HS2.out, HB2.out⟩
     ·have := HI.out; have := HM.out; omega
     ·have h1 := HI.out; have h2 := HM.out; have h3 := Nat.pow_succ 2 q; omega
     ·go_num
  ·have e0 : bsN (node_place.P l key) gk i j = i := by cases gk with
    | zero => rfl
    | succ q => rw [bsN, if_neg hlt]
   obtain rfl : i = fin := e0.symm.trans hb
   have t1 : decide ((i : Int) < (j : Int)) = false := decide_eq_false (by omega)
   have t1n : decide (i < j) = false := decide_eq_false hlt
   clear e0 hb hq hjl hij
   go_wp2_with fail
   go_ret
   exact ⟨rfl, HB.out⟩
def node_place.at_ (l : List (List Int)) (key : List Int) : Nat := bsN (node_place.P l key) 64 0 l.length
def node_place.f (a0_0 : Bool) (l0_1 l0_2 : List (List Int)) (l0_3 : List Int) (l1 : List Int) : Option (Int × Bool) :=
 if l0_1.length ≤ 4611686018427387904 then some ((node_place.at_ l0_1 l1 : Int), decide (node_place.at_ l0_1 l1 < l0_1.length) && ((strOfNums (rd_L1 l0_1 (node_place.at_ l0_1 l1 : Int))).toList == (strOfNums l1).toList)) else none
set_option maxHeartbeats 1000000 in
set_option maxRecDepth 100000 in
theorem node_place.calls (a0_0 : Bool) (A0_1 : Option Addr) (c0_1 : Nat) (l0_1 : List (List Int)) (A0_2 : Option Addr) (c0_2 : Nat) (l0_2 : List (List Int)) (A0_3 : Option Addr) (c0_3 : Nat) (l0_3 : List Int) (A1 : Option Addr) (c1 : Nat) (l1 : List Int) (r1 : Int) (r2 : Bool) (w : World) (hr0_1 : Kd.C (Kd.slice 5 (Kd.int .u8)) w A0_1 l0_1.length l0_1) (hc0_1 : l0_1.length ≤ c0_1) (hr0_2 : Kd.C (Kd.slice 5 (Kd.int .u8)) w A0_2 l0_2.length l0_2) (hc0_2 : l0_2.length ≤ c0_2) (hr0_3 : Kd.C (Kd.int .i64) w A0_3 l0_3.length l0_3) (hc0_3 : l0_3.length ≤ c0_3) (hr1 : Kd.C (Kd.int .u8) w A1 l1.length l1) (hc1 : l1.length ≤ c1) (h : node_place.f a0_0 l0_1 l0_2 l0_3 l1 = some (r1, r2)) :
  Calls Try.prog 26 #[.agg #[.bool a0_0, .slice A0_1 l0_1.length c0_1, .slice A0_2 l0_2.length c0_2, .slice A0_3 l0_3.length c0_3], .slice A1 l1.length c1] w fun e w' => e = .returned (.tuple #[.int .i64 r1, .bool r2]) ∧ Below w.heap.size w w' := by
 unfold node_place.f at h
 split at h
 case isFalse => cases h
 case isTrue hbig =>
 obtain ⟨h1, h2⟩ := Prod.mk.inj (Option.some.inj h)
 obtain ⟨fin, hfin⟩ : ∃ fin, fin = node_place.at_ l0_1 l1 := ⟨_, rfl⟩
 rw [← hfin] at h1 h2
 subst h1
 subst h2
 have hle : fin ≤ l0_1.length := by rw [hfin]; exact bsN_le _ 64 0 l0_1.length (Nat.zero_le _)
 have hbp : ((w.alloc (.cells #[.bool a0_0, .slice A0_1 l0_1.length c0_1, .slice A0_2 l0_2.length c0_2, .slice A0_3 l0_3.length c0_3] 26)).alloc (.cells #[.slice A1 l1.length c1] 27)).heap[w.heap.size]? = some (.cells #[.bool a0_0, .slice A0_1 l0_1.length c0_1, .slice A0_2 l0_2.length c0_2, .slice A0_3 l0_3.length c0_3] 26 (0, 0)) := heap_alloc2_old w _ _
 have hbk : ((w.alloc (.cells #[.bool a0_0, .slice A0_1 l0_1.length c0_1, .slice A0_2 l0_2.length c0_2, .slice A0_3 l0_3.length c0_3] 26)).alloc (.cells #[.slice A1 l1.length c1] 27)).heap[w.heap.size + 1]? = some (.cells #[.slice A1 l1.length c1] 27 (0, 0)) := heap_alloc2_new w _ _
 have hB : Below w.heap.size w ((w.alloc (.cells #[.bool a0_0, .slice A0_1 l0_1.length c0_1, .slice A0_2 l0_2.length c0_2, .slice A0_3 l0_3.length c0_3] 26)).alloc (.cells #[.slice A1 l1.length c1] 27)) := below_alloc (below_alloc (Below.refl _ _) _) _
 have HC := Aside0.mk (node_place.bs_row w.heap.size (w.heap.size + 1) a0_0 A0_1 c0_1 l0_1 (.slice A0_2 l0_2.length c0_2) (.slice A0_3 l0_3.length c0_3) A1 c1 l1 _ hbp hbk (Kd.C_below hr0_1 hB) (Kd.C_below hr1 hB) hc1 hbig fin hfin.symm)
 have HBP := Aside0.mk hbp
 have HBK := Aside0.mk hbk
 have HBB := Aside0.mk hB
 have HR := Aside0.mk hr0_1
 have HRK := Aside0.mk hr1
 have HCK := Aside0.mk hc1
 clear hbp hbk hB hr0_1 hr0_2 hr0_3 hr1 hc0_1 hc0_2 hc0_3 hc1 h hfin hbig
 go_enter Try.func26, Try.ntmps26
 go_wp2_with fail
 refine HC.out.mono ?_
 rintro e w' ⟨rfl, hb2⟩
 have HB2 := Aside0.mk (below_then HBB.out HBB.out.size hb2)
 have hc1' : w'.cell? ⟨w.heap.size, 1, none⟩ = some (.slice A0_1 l0_1.length c0_1) := (blk_cell (blk_below HBP.out hb2) 1).trans rfl
 have hc2' : w'.cell? ⟨w.heap.size + 1, 0, none⟩ = some (.slice A1 l1.length c1) := (blk_cell (blk_below HBK.out hb2) 0).trans rfl
 clear hb2 HC HBP HBK HBB
 by_cases hin : fin < l0_1.length
 ·obtain ⟨ad, Ae, ce, rfl, hx, hle2, hre⟩ := at_L1 HR.out (fin : Int) (Int.natCast_nonneg _) (Int.ofNat_lt.mpr hin)
  replace hx := (HB2.out.cell (World.block_lt_of_cell? w _ hx)).trans hx
  rw [Int.toNat_natCast] at hx
  have pm : ((fin : Int) < (l0_1.length : Int)) = True := eq_true (Int.ofNat_lt.mpr hin)
  have pd : decide ((fin : Int) < (l0_1.length : Int)) = true := decide_eq_true (Int.ofNat_lt.mpr hin)
  have pdn : decide (fin < l0_1.length) = true := decide_eq_true hin
  have HPD : Aside0 (decide (fin < l0_1.length) = true) := ⟨decide_eq_true hin⟩
  have HRE := Aside0.mk (Kd.C_below hre HB2.out)
  have HLE := Aside0.mk hle2
  have HRK2 := Aside0.mk (Kd.C_below HRK.out HB2.out)
  clear hre hle2 hin hle
  obtain ⟨x, hxe⟩ : ∃ x, x = rd_L1 l0_1 (fin : Int) := ⟨_, rfl⟩
  rw [← hxe] at hx HRE HLE
  have HXE := Aside0.mk hxe
  clear hxe
  go_wp2
  go_quiet ((go_at_call 47; exact Calls.quiet_of (node_place.eq_calls Ae ce x A1 c1 l1 _ (Kd.C_drewN HRE.out _) HLE.out (Kd.C_drewN HRK2.out _) HCK.out)))
  go_wp2
  go_ret2
  exact ⟨by rw [HPD.out, Bool.true_and, ← HXE.out]; rfl, pw_below_drewN HB2.out _⟩
 ·have pd : decide ((fin : Int) < (l0_1.length : Int)) = false := decide_eq_false (by omega)
  have pdn : decide (fin < l0_1.length) = false := decide_eq_false hin
  have HPD : Aside0 (decide (fin < l0_1.length) = false) := ⟨decide_eq_false hin⟩
  clear hin hle
  go_wp2
  go_quiet (fail)
  go_wp2
  go_ret2
  exact ⟨by rw [HPD.out, Bool.false_and]; rfl, pw_below_drewN HB2.out _⟩
end Go.Proofs.Ytcbgichkeecgiaa.Print
