-- What the claim uses alone (wip/slim.py). Lean checks it.
import Derived.Test.YtcbgichkeecgiaaZAln
import Derived.Test.YtcbgichkeecgiaaZAb
namespace Go.Proofs.Ytcbgichkeecgiaa.Print
open Go.RowKit Go.Proofs.YtcbgichkeecgiaaW.PrintWords Go.Proofs.YtcbgichkeecgiaaW.PrintLast Go.Proofs.YtcbgichkeecgiaaW.PrintMore
attribute [local go_sem] max2_mx min2_mn max_two min_two max_three min_three max_four min_four
set_option linter.unusedVariables false
set_option linter.unusedSimpArgs false
def bytes_Equal.f (l0 : List Int) (l1 : List Int) : Option (Bool) := some ((strOfNums l0).toList == (strOfNums l1).toList)
set_option maxHeartbeats 8000000 in
set_option maxRecDepth 100000 in
theorem bytes_Equal.calls (A0 : Option Addr) (c0 : Nat) (l0 : List Int) (A1 : Option Addr) (c1 : Nat) (l1 : List Int) (r : Bool) (w : World) (hr0 : Kd.C (Kd.int .u8) w A0 l0.length l0) (hc0 : l0.length ≤ c0) (hr1 : Kd.C (Kd.int .u8) w A1 l1.length l1) (hc1 : l1.length ≤ c1) (h : bytes_Equal.f l0 l1 = some r) :
  Calls Try.prog 47 #[.slice A0 l0.length c0, .slice A1 l1.length c1] w fun e w' => e = .returned (.bool r) ∧ Drawn0 w w' := by
 have HR0 := Aside0.mk hr0
 have HC0 := Aside0.mk hc0
 clear hr0 hc0
 have HR1 := Aside0.mk hr1
 have HC1 := Aside0.mk hc1
 clear hr1 hc1
 have H : (some ((strOfNums l0).toList == (strOfNums l1).toList)) = some r := h
 clear h
 obtain rfl := Option.some.inj H
 have hcv3 := Kd.C_string (P := Try.prog) (A := A0) (c := c0) Try.underlying27 Try.underlying5 Try.underlying9 HR0.out
 have hcw4 := fun n_ : Nat => Kd.C_string (P := Try.prog) (A := A0) (c := c0) Try.underlying27 Try.underlying5 Try.underlying9 (Kd.C_drewN HR0.out n_)
 have hcv5 := Kd.C_string (P := Try.prog) (A := A1) (c := c1) Try.underlying27 Try.underlying5 Try.underlying9 HR1.out
 have hcw6 := fun n_ : Nat => Kd.C_string (P := Try.prog) (A := A1) (c := c1) Try.underlying27 Try.underlying5 Try.underlying9 (Kd.C_drewN HR1.out n_)
 go_enter Try.func47, Try.ntmps47
 go_wp2
 go_ret
 exact ⟨by first | rfl | (simp; done) | (simp [*]; done), by repeat (first | exact Drawn0.refl _ | apply Drawn0.step)⟩
theorem pageB {W : World} {g : Nat} {v0 v1 v2 v3 : Value} (h : W.heap[g]? = some (.cells #[v0, v1, v2, v3] 26 (0, 0))) (x0 x1 x2 x3 : Value) :
  ((((W.setCell ⟨g, 0, none⟩ x0).setCell ⟨g, 1, none⟩ x1).setCell ⟨g, 2, none⟩ x2).setCell ⟨g, 3, none⟩ x3).heap[g]? = some (.cells #[x0, x1, x2, x3] 26 (0, 0)) :=
 blk_put (cs := #[x0, x1, x2, v3]) (blk_put (cs := #[x0, x1, v2, v3]) (blk_put (cs := #[x0, v1, v2, v3]) (blk_put h 0 _ rfl) 1 _ rfl) 2 _ rfl) 3 _ rfl
theorem pageF {W : World} {g g' t : Nat} {cs : Array Value} (h : W.heap[g']? = some (.cells cs t (0, 0))) (hne : g' ≠ g) (x0 x1 x2 x3 : Value) :
  ((((W.setCell ⟨g, 0, none⟩ x0).setCell ⟨g, 1, none⟩ x1).setCell ⟨g, 2, none⟩ x2).setCell ⟨g, 3, none⟩ x3).heap[g']? = some (.cells cs t (0, 0)) :=
 blk_far (blk_far (blk_far (blk_far h hne _) hne _) hne _) hne _
theorem pageR {α : Type} {d : Kd α} {e base : Nat} {ok : Nat → Prop} {v : Value} {xs : List α} {W : World} {g : Nat} {v0 v1 v2 v3 : Value} (h : d.R e W base ok v xs) (hb : W.heap[g]? = some (.cells #[v0, v1, v2, v3] 26 (0, 0))) (ht : ∀ q, q ∈ e :: d.E → q ≠ 26) (x0 x1 x2 x3 : Value) :
  d.R e ((((W.setCell ⟨g, 0, none⟩ x0).setCell ⟨g, 1, none⟩ x1).setCell ⟨g, 2, none⟩ x2).setCell ⟨g, 3, none⟩ x3) base ok v xs :=
 Kd.R_mono (Kd.R_far (p := ⟨g, 3, none⟩) (Kd.R_far (p := ⟨g, 2, none⟩) (Kd.R_far (p := ⟨g, 1, none⟩) (Kd.R_far (p := ⟨g, 0, none⟩) (Kd.R_types h hb ht) (fun _ hk => hk.2) x0) (fun _ hk => hk.2) x1) (fun _ hk => hk.2) x2) (fun _ hk => hk.2) x3) (fun _ hk => hk.1)
theorem pageW {w W : World} {g : Nat} (h : Below w.heap.size w W) (hg : w.heap.size ≤ g) (x0 x1 x2 x3 : Value) :
  Below w.heap.size w ((((W.setCell ⟨g, 0, none⟩ x0).setCell ⟨g, 1, none⟩ x1).setCell ⟨g, 2, none⟩ x2).setCell ⟨g, 3, none⟩ x3) :=
 below_set (below_set (below_set (below_set h hg) hg) hg) hg
theorem R_V {α : Type} {d : Kd α} {e base : Nat} {ok : Nat → Prop} {v : Value} {xs : List α} {W : World} (h : d.R e W base ok v xs) : Kd.V d e W base (fun k_ => (base ≤ k_)) v xs := by
 obtain ⟨A, c, rfl⟩ := Kd.R_slice h
 exact ⟨A, c, rfl, (Kd.R_reads' h).2.1, Kd.R_F (Kd.R_mono (Kd.R_bound h) (fun k hk => hk.2.1))⟩
structure OutP (w W : World) (gb gr : Nat) (b : Bool) (Ak : Option Addr) (ck : Nat) (ks : List (List Int)) (Av : Option Addr) (cv : Nat) (vs : List (List Int)) (Ad : Option Addr) (cd : Nat) (ds : List Int) : Prop where
 BB : W.heap[gb]? = some (.cells #[.bool b, .slice Ak ks.length ck, .slice Av vs.length cv, .slice Ad ds.length cd] 26 (0, 0))
 BR : W.heap[gr]? = some (.cells #[.bool false, .slice none 0 0, .slice none 0 0, .slice none 0 0] 26 (0, 0))
 HB : Below w.heap.size w W
 K : Kd.R (Kd.slice 5 (Kd.int .u8)) 27 W w.heap.size (fun k => some k ≠ (Value.slice Av vs.length cv).ownBlock) (.slice Ak ks.length ck) ks
 V : Kd.R (Kd.slice 5 (Kd.int .u8)) 27 W w.heap.size (fun k => some k ≠ (Value.slice Ak ks.length ck).ownBlock) (.slice Av vs.length cv) vs
 D : Kd.R (Kd.int .i64) 3 W w.heap.size (fun _ => True) (.slice Ad ds.length cd) ds
 GB : w.heap.size ≤ gb
 GR : w.heap.size ≤ gr
 ne : gb ≠ gr
section
variable {w W W2 : World} {gb gr : Nat} {b : Bool} {Ak : Option Addr} {ck : Nat} {ks ks' : List (List Int)} {Av : Option Addr} {cv : Nat} {vs vs' : List (List Int)} {Ad : Option Addr} {cd : Nat} {ds : List Int} {A' : Option Addr} {c' : Nat}
theorem OutP.below (O : OutP w W gb gr b Ak ck ks Av cv vs Ad cd ds) (hb : Below W.heap.size W W2) : OutP w W2 gb gr b Ak ck ks Av cv vs Ad cd ds :=
 ⟨blk_below O.BB hb, blk_below O.BR hb, below_step O.HB hb, Kd.R_below O.K hb, Kd.R_below O.V hb, Kd.R_below O.D hb, O.GB, O.GR, O.ne⟩
theorem OutP.drew (O : OutP w W gb gr b Ak ck ks Av cv vs Ad cd ds) : OutP w W.drew gb gr b Ak ck ks Av cv vs Ad cd ds := O.below (below_drew (Below.refl _ _))
theorem OutP.rd (O : OutP w W gb gr b Ak ck ks Av cv vs Ad cd ds) : (W.cell? ⟨gb, 0, none⟩ = some (.bool b) ∧ W.cell? ⟨gb, 1, none⟩ = some (.slice Ak ks.length ck) ∧ W.cell? ⟨gb, 2, none⟩ = some (.slice Av vs.length cv) ∧ W.cell? ⟨gb, 3, none⟩ = some (.slice Ad ds.length cd)) ∧ (∀ i, W.frozen? ⟨gb, i, none⟩ = false) ∧
  (W.cell? ⟨gr, 0, none⟩ = some (.bool false) ∧ W.cell? ⟨gr, 1, none⟩ = some (.slice none 0 0) ∧ W.cell? ⟨gr, 2, none⟩ = some (.slice none 0 0) ∧ W.cell? ⟨gr, 3, none⟩ = some (.slice none 0 0)) ∧ (∀ i, W.frozen? ⟨gr, i, none⟩ = false) :=
 ⟨⟨(blk_cell O.BB 0).trans rfl, (blk_cell O.BB 1).trans rfl, (blk_cell O.BB 2).trans rfl, (blk_cell O.BB 3).trans rfl⟩, fun i => blk_frozen O.BB i, ⟨(blk_cell O.BR 0).trans rfl, (blk_cell O.BR 1).trans rfl, (blk_cell O.BR 2).trans rfl, (blk_cell O.BR 3).trans rfl⟩, fun i => blk_frozen O.BR i⟩
theorem OutP.grK (O : OutP w W gb gr b Ak ck ks Av cv vs Ad cd ds) (hg : W.grownBy W2 (Value.slice Ak ks.length ck).ownBlock) :
  W2.heap[gb]? = some (.cells #[.bool b, .slice Ak ks.length ck, .slice Av vs.length cv, .slice Ad ds.length cd] 26 (0, 0)) ∧ W2.heap[gr]? = some (.cells #[.bool false, .slice none 0 0, .slice none 0 0, .slice none 0 0] 26 (0, 0)) :=
 ⟨blk_grown O.BB hg (Kd.R_ne O.K O.BB (by decide)), blk_grown O.BR hg (Kd.R_ne O.K O.BR (by decide))⟩
theorem OutP.grV (O : OutP w W gb gr b Ak ck ks Av cv vs Ad cd ds) (hg : W.grownBy W2 (Value.slice Av vs.length cv).ownBlock) :
  W2.heap[gb]? = some (.cells #[.bool b, .slice Ak ks.length ck, .slice Av vs.length cv, .slice Ad ds.length cd] 26 (0, 0)) ∧ W2.heap[gr]? = some (.cells #[.bool false, .slice none 0 0, .slice none 0 0, .slice none 0 0] 26 (0, 0)) :=
 ⟨blk_grown O.BB hg (Kd.R_ne O.V O.BB (by decide)), blk_grown O.BR hg (Kd.R_ne O.V O.BR (by decide))⟩
theorem apart_at {α : Type} {d : Kd α} {e base : Nat} {v v1 u : Value} {xs : List α} (h : d.R e W base (fun k => some k ≠ v.ownBlock) u xs) (hg : W.grownBy W2 v.ownBlock) (hat : v1.ownBlock = v.ownBlock ∨ ∃ x, v1.ownBlock = some x ∧ W.heap.size ≤ x) : d.R e W2 base (fun k => some k ≠ v1.ownBlock) u xs := by
 refine Kd.R_mono (Kd.R_grown (Kd.R_bound h) hg (fun k hk => hk.1)) (fun k hk => ?_)
 rcases hat with hat | ⟨x, hx, hle⟩
 ·rw [hat]; exact hk.1
 ·rw [hx]
  intro he
  injection he with he
  have := hk.2.2.1
  omega
theorem OutP.setK (O : OutP w W gb gr b Ak ck ks Av cv vs Ad cd ds) (hI : Kd.R (Kd.slice 5 (Kd.int .u8)) 27 W2 w.heap.size (fun k => some k ≠ (Value.slice Av vs.length cv).ownBlock ∨ W.heap.size ≤ k) (.slice A' ks'.length c') ks')
  (hg : W.grownBy W2 (Value.slice Ak ks.length ck).ownBlock) (hat : (Value.slice A' ks'.length c').ownBlock = (Value.slice Ak ks.length ck).ownBlock ∨ ∃ x, (Value.slice A' ks'.length c').ownBlock = some x ∧ W.heap.size ≤ x) :
  OutP w (W2.setCell ⟨gb, 1, none⟩ (.slice A' ks'.length c')) gb gr b A' c' ks' Av cv vs Ad cd ds := by
 obtain ⟨BB2, BR2⟩ := O.grK hg
 refine ⟨blk_put BB2 1 _ rfl, blk_far BR2 (Ne.symm O.ne) _, below_set (O.HB.grown hg O.HB.size (Kd.R_base O.K)) O.GB, Kd.R_set (Kd.R_mono hI (fun k hk => ?_)) BB2 (by decide) 1 _, Kd.R_set (apart_at O.V hg hat) BB2 (by decide) 1 _, Kd.R_set (Kd.R_over' O.D (Kd.R_typed O.K) (by decide) hg) BB2 (by decide) 1 _, O.GB, O.GR, O.ne⟩
 rcases hk with hk | hk
 ·exact hk
 ·intro he
  have := Kd.R_lt O.V k he.symm
  omega
theorem OutP.setV (O : OutP w W gb gr b Ak ck ks Av cv vs Ad cd ds) (hI : Kd.R (Kd.slice 5 (Kd.int .u8)) 27 W2 w.heap.size (fun k => some k ≠ (Value.slice Ak ks.length ck).ownBlock ∨ W.heap.size ≤ k) (.slice A' vs'.length c') vs')
  (hg : W.grownBy W2 (Value.slice Av vs.length cv).ownBlock) (hat : (Value.slice A' vs'.length c').ownBlock = (Value.slice Av vs.length cv).ownBlock ∨ ∃ x, (Value.slice A' vs'.length c').ownBlock = some x ∧ W.heap.size ≤ x) :
  OutP w (W2.setCell ⟨gb, 2, none⟩ (.slice A' vs'.length c')) gb gr b Ak ck ks A' c' vs' Ad cd ds := by
 obtain ⟨BB2, BR2⟩ := O.grV hg
 refine ⟨blk_put BB2 2 _ rfl, blk_far BR2 (Ne.symm O.ne) _, below_set (O.HB.grown hg O.HB.size (Kd.R_base O.V)) O.GB, Kd.R_set (apart_at O.K hg hat) BB2 (by decide) 2 _, Kd.R_set (Kd.R_mono hI (fun k hk => ?_)) BB2 (by decide) 2 _, Kd.R_set (Kd.R_over' O.D (Kd.R_typed O.V) (by decide) hg) BB2 (by decide) 2 _, O.GB, O.GR, O.ne⟩
 rcases hk with hk | hk
 ·exact hk
 ·intro he
  have := Kd.R_lt O.K k he.symm
  omega
theorem OutP.putV (O : OutP w W gb gr b Ak ck ks Av cv vs Ad cd ds) (hI : Kd.R (Kd.slice 5 (Kd.int .u8)) 27 W2 w.heap.size (fun k => some k ≠ (Value.slice Ak ks.length ck).ownBlock) (.slice Av vs.length cv) vs') (hl : vs'.length = vs.length)
  (hg : W.grownBy W2 (Value.slice Av vs.length cv).ownBlock) : OutP w W2 gb gr b Ak ck ks Av cv vs' Ad cd ds := by
 obtain ⟨BB2, BR2⟩ := O.grV hg
 have hK := apart_at O.K hg (.inl rfl)
 have hD := Kd.R_over' O.D (Kd.R_typed O.V) (by decide) hg
 have hB := O.HB.grown hg O.HB.size (Kd.R_base O.V)
 rw [← hl] at BB2 hI hK
 exact ⟨BB2, BR2, hB, hK, hI, hD, O.GB, O.GR, O.ne⟩
theorem OutP.end_ (O : OutP w W gb gr b Ak ck ks Av cv vs Ad cd ds) (x0 x1 x2 x3 : Value) :
  Kd.V (Kd.slice 5 (Kd.int .u8)) 27 ((((W.setCell ⟨gr, 0, none⟩ x0).setCell ⟨gr, 1, none⟩ x1).setCell ⟨gr, 2, none⟩ x2).setCell ⟨gr, 3, none⟩ x3) w.heap.size (fun k_ => (w.heap.size ≤ k_)) (.slice Ak ks.length ck) ks ∧
  Kd.V (Kd.slice 5 (Kd.int .u8)) 27 ((((W.setCell ⟨gr, 0, none⟩ x0).setCell ⟨gr, 1, none⟩ x1).setCell ⟨gr, 2, none⟩ x2).setCell ⟨gr, 3, none⟩ x3) w.heap.size (fun k_ => (w.heap.size ≤ k_)) (.slice Av vs.length cv) vs ∧
  Kd.V (Kd.int .i64) 3 ((((W.setCell ⟨gr, 0, none⟩ x0).setCell ⟨gr, 1, none⟩ x1).setCell ⟨gr, 2, none⟩ x2).setCell ⟨gr, 3, none⟩ x3) w.heap.size (fun k_ => (w.heap.size ≤ k_)) (.slice Ad ds.length cd) ds ∧
  Below w.heap.size w ((((W.setCell ⟨gr, 0, none⟩ x0).setCell ⟨gr, 1, none⟩ x1).setCell ⟨gr, 2, none⟩ x2).setCell ⟨gr, 3, none⟩ x3) :=
 ⟨R_V (pageR O.K O.BR (by decide) _ _ _ _), R_V (pageR O.V O.BR (by decide) _ _ _ _), R_V (pageR O.D O.BR (by decide) _ _ _ _), pageW O.HB O.GR _ _ _ _⟩
theorem OutP.endU (O : OutP w W gb gr b Ak ck ks Av cv vs Ad cd ds) (x0 x1 x2 x3 : Value) :
  Kd.V (Kd.slice 5 (Kd.int .u8)) 27 ((((W.setCell ⟨gr, 0, none⟩ x0).setCell ⟨gr, 1, none⟩ x1).setCell ⟨gr, 2, none⟩ x2).setCell ⟨gr, 3, none⟩ x3) w.heap.size (fun k_ => (w.heap.size ≤ k_) ∧ Unm ((((W.setCell ⟨gr, 0, none⟩ x0).setCell ⟨gr, 1, none⟩ x1).setCell ⟨gr, 2, none⟩ x2).setCell ⟨gr, 3, none⟩ x3) k_) (.slice Ak ks.length ck) ks ∧
  Kd.V (Kd.slice 5 (Kd.int .u8)) 27 ((((W.setCell ⟨gr, 0, none⟩ x0).setCell ⟨gr, 1, none⟩ x1).setCell ⟨gr, 2, none⟩ x2).setCell ⟨gr, 3, none⟩ x3) w.heap.size (fun k_ => (w.heap.size ≤ k_) ∧ Unm ((((W.setCell ⟨gr, 0, none⟩ x0).setCell ⟨gr, 1, none⟩ x1).setCell ⟨gr, 2, none⟩ x2).setCell ⟨gr, 3, none⟩ x3) k_) (.slice Av vs.length cv) vs ∧
  Kd.V (Kd.int .i64) 3 ((((W.setCell ⟨gr, 0, none⟩ x0).setCell ⟨gr, 1, none⟩ x1).setCell ⟨gr, 2, none⟩ x2).setCell ⟨gr, 3, none⟩ x3) w.heap.size (fun k_ => (w.heap.size ≤ k_) ∧ Unm ((((W.setCell ⟨gr, 0, none⟩ x0).setCell ⟨gr, 1, none⟩ x1).setCell ⟨gr, 2, none⟩ x2).setCell ⟨gr, 3, none⟩ x3) k_) (.slice Ad ds.length cd) ds ∧
  Below w.heap.size w ((((W.setCell ⟨gr, 0, none⟩ x0).setCell ⟨gr, 1, none⟩ x1).setCell ⟨gr, 2, none⟩ x2).setCell ⟨gr, 3, none⟩ x3) :=
 ⟨R_VU (pageR O.K O.BR (by decide) _ _ _ _), R_VU (pageR O.V O.BR (by decide) _ _ _ _), R_VU (pageR O.D O.BR (by decide) _ _ _ _), pageW O.HB O.GR _ _ _ _⟩
end
def node_place.cmp (a b : List Int) : Int := Lib.compareBytes (strOfNums a).data.toList (strOfNums b).data.toList
theorem node_place.cmp_calls (A0 : Option Addr) (c0 : Nat) (l0 : List Int) (A1 : Option Addr) (c1 : Nat) (l1 : List Int) (w : World) (hr0 : Kd.C (Kd.int .u8) w A0 l0.length l0) (hc0 : l0.length ≤ c0) (hr1 : Kd.C (Kd.int .u8) w A1 l1.length l1) (hc1 : l1.length ≤ c1) :
  Calls Try.prog 46 #[.slice A0 l0.length c0, .slice A1 l1.length c1] w fun e w' => e = .returned (.int .i64 (node_place.cmp l0 l1)) ∧ ∃ m, w' = w.drewN m :=
 (bytes_Compare.calls A0 c0 l0 A1 c1 l1 _ w hr0 hc0 hr1 hc1 rfl).mono fun e w' ⟨he, hd⟩ => ⟨he, hd.out⟩
theorem node_place.eq_calls (A0 : Option Addr) (c0 : Nat) (l0 : List Int) (A1 : Option Addr) (c1 : Nat) (l1 : List Int) (w : World) (hr0 : Kd.C (Kd.int .u8) w A0 l0.length l0) (hc0 : l0.length ≤ c0) (hr1 : Kd.C (Kd.int .u8) w A1 l1.length l1) (hc1 : l1.length ≤ c1) :
  Calls Try.prog 47 #[.slice A0 l0.length c0, .slice A1 l1.length c1] w fun e w' => e = .returned (.bool ((strOfNums l0).toList == (strOfNums l1).toList)) ∧ ∃ m, w' = w.drewN m :=
 (bytes_Equal.calls A0 c0 l0 A1 c1 l1 _ w hr0 hc0 hr1 hc1 rfl).mono fun e w' ⟨he, hd⟩ => ⟨he, hd.out⟩
def node_place.P (l : List (List Int)) (key : List Int) (h : Nat) : Bool := decide (node_place.cmp (rd_L1 l (h : Int)) key < 0)
set_option maxHeartbeats 1000000 in
set_option maxRecDepth 100000 in
theorem node_place.clo (bP bK : Nat) (a : Bool) (A1 : Option Addr) (c1 : Nat) (l : List (List Int)) (v2 v3 : Value) (Ak : Option Addr) (ck : Nat) (key : List Int) (i : Nat) (hi : i < l.length) (w : World)
  (hp : w.heap[bP]? = some (.cells #[.bool a, .slice A1 l.length c1, v2, v3] 26 (0, 0))) (hk : w.heap[bK]? = some (.cells #[.slice Ak key.length ck] 27 (0, 0)))
  (hr : Kd.C (Kd.slice 5 (Kd.int .u8)) w A1 l.length l) (hrk : Kd.C (Kd.int .u8) w Ak key.length key) (hck : key.length ≤ ck) :
  Calls Try.prog 45 #[.int .i64 (i : Int), .pointer (some ⟨bP, 0, none⟩), .pointer (some ⟨bK, 0, none⟩)] w fun e w' => e = .returned (.bool (!node_place.P l key i)) ∧ Below w.heap.size w w' := by
 obtain ⟨ad, Ae, ce, rfl, hx, hle, hre⟩ := at_L1 hr (i : Int) (Int.natCast_nonneg _) (Int.ofNat_lt.mpr hi)
 have hb1 : w.cell? ⟨bP, 1, none⟩ = some (.slice (some ad) l.length c1) := (blk_cell hp 1).trans rfl
 have hb2 : w.cell? ⟨bK, 0, none⟩ = some (.slice Ak key.length ck) := (blk_cell hk 0).trans rfl
 have pm : ((i : Int) < (l.length : Int)) = True := eq_true (Int.ofNat_lt.mpr hi)
 have HRE := Aside0.mk hre
 have HLE := Aside0.mk hle
 have HRK := Aside0.mk hrk
 have HCK := Aside0.mk hck
 have HPP : Aside0 ((!node_place.P l key i) = decide (0 ≤ node_place.cmp (rd_L1 l (i : Int)) key)) := ⟨by
  unfold node_place.P
  by_cases h : node_place.cmp (rd_L1 l (i : Int)) key < 0
  ·rw [decide_eq_true h, decide_eq_false (by omega)]; rfl
  ·rw [decide_eq_false h, decide_eq_true (by omega)]; rfl⟩
 rw [Int.toNat_natCast] at hx
 clear hre hle hrk hck hr hp hk
 generalize rd_L1 l (i : Int) = x at HRE HLE HPP hx
 go_enter Try.func45, Try.ntmps45
 go_wp2
 go_quiet ((go_at_call 46; exact Calls.quiet_of (node_place.cmp_calls Ae ce x Ak ck key _ (Kd.C_drewN HRE.out _) HLE.out (Kd.C_drewN HRK.out _) HCK.out)))
 go_wp2
 go_ret
 exact ⟨by rw [HPP.out]; rfl, pw_below_drewN (Below.refl _ _) _⟩
def node_place.Rel (w : World) (l : List (List Int)) (key : List Int) (fin : Nat) (kq : Nat) (v5 v6 : Value) (wr : World) : Prop := ∃ i j : Nat, i ≤ j ∧ j ≤ l.length ∧ j - i < 2 ^ kq ∧ v5 = .int .i64 i ∧ v6 = .int .i64 j ∧ bsN (node_place.P l key) kq i j = fin ∧ Below w.heap.size w wr
set_option maxHeartbeats 1000000 in
set_option maxRecDepth 100000 in
theorem node_place.bs_row (bP bK : Nat) (a : Bool) (A1 : Option Addr) (c1 : Nat) (l : List (List Int)) (v2 v3 : Value) (Ak : Option Addr) (ck : Nat) (key : List Int) (w : World)
  (hp : w.heap[bP]? = some (.cells #[.bool a, .slice A1 l.length c1, v2, v3] 26 (0, 0))) (hk : w.heap[bK]? = some (.cells #[.slice Ak key.length ck] 27 (0, 0)))
  (hr : Kd.C (Kd.slice 5 (Kd.int .u8)) w A1 l.length l) (hrk : Kd.C (Kd.int .u8) w Ak key.length key) (hck : key.length ≤ ck) (hbig : l.length ≤ 4611686018427387904) (fin : Nat) (hfin : bsN (node_place.P l key) 64 0 l.length = fin) :
  Calls Try.prog 44 #[.int .i64 (l.length : Int), .func (.func 45) #[] #[.pointer (some ⟨bP, 0, none⟩), .pointer (some ⟨bK, 0, none⟩)]] w fun e w' => e = .returned (.int .i64 fin) ∧ Below w.heap.size w w' := by
 have HP := Aside0.mk hp
 have HK := Aside0.mk hk
 have HR := Aside0.mk hr
 have HRK := Aside0.mk hrk
 have HCK := Aside0.mk hck
 have HBG := Aside0.mk hbig
 have HF := Aside0.mk hfin
 have hle : fin ≤ l.length := hfin ▸ bsN_le _ 64 0 l.length (Nat.zero_le _)
 have HLE := Aside0.mk hle
 clear hp hk hr hrk hck hbig hfin hle
 go_enter Try.func44, Try.ntmps44
 go_wp2
 go_loopg [5, 6] 64 (fun kq v5 v6 wr => node_place.Rel w l key fin kq v5 v6 wr)
 case atStart => exact ⟨0, l.length, Nat.zero_le _, Nat.le_refl _, by have := HBG.out; omega, rfl, rfl, HF.out, Below.refl _ _⟩
 case round =>
  obtain ⟨i, j, hij, hjl, hq, rfl, rfl, hb, hB⟩ := hrel
  have HB := Aside0.mk hB
  clear hB HF
  by_cases hlt : i < j
  ·obtain ⟨q, rfl⟩ : ∃ q, gk = q + 1 := by
    rcases gk with _ | q
    ·simp at hq; omega
    ·exact ⟨q, rfl⟩
   have t1 : decide ((i : Int) < (j : Int)) = true := decide_eq_true (Int.ofNat_lt.mpr hlt)
   have t1n : decide (i < j) = true := decide_eq_true hlt
   obtain ⟨m, hm⟩ : ∃ m, m = (i + j) / 2 := ⟨_, rfl⟩
   have hmj : m < l.length := by omega
   have hsum : (0 : Int) ≤ (i : Int) + (j : Int) ∧ (i : Int) + (j : Int) ≤ 9223372036854775807 := by have := HBG.out; omega
   have hadd : IntKind.i64.wrap ((i : Int) + (j : Int)) = (i : Int) + (j : Int) := wi64_in hsum.1 hsum.2
   have hu : IntKind.u64.wrap ((i : Int) + (j : Int)) = (i : Int) + (j : Int) := wu64_in hsum.1 hsum.2
   have hh : wrap64 (((i : Int) + (j : Int)) / 2) = (m : Int) := half_in hm hsum.2
   have HM := Aside0.mk hm
   have HHH := Aside0.mk hh
   have HI := Aside0.mk (And.intro hij (And.intro hjl (And.intro hq (And.intro hlt hmj))))
   have hbs : bsN (node_place.P l key) (q + 1) i j = if node_place.P l key m then bsN (node_place.P l key) q (m + 1) j else bsN (node_place.P l key) q i m := by rw [bsN, if_pos hlt, ← hm]
   have HS := Aside0.mk (hbs.symm.trans hb)
   clear hm hsum hbs hb hij hjl hq hlt hmj
   go_wp2_with fail
   rw [HHH.out]
   refine (node_place.clo bP bK a A1 c1 l v2 v3 Ak ck key m HI.out.2.2.2.2 _ (blk_below HP.out HB.out) (blk_below HK.out HB.out) (Kd.C_below HR.out HB.out) (Kd.C_below HRK.out HB.out) HCK.out).mono ?_
   rintro e w' ⟨rfl, hb2⟩
   have HB2 := Aside0.mk (below_then HB.out HB.out.size hb2)
   clear hb2 hh hadd hu t1 t1n
   cases hc : node_place.P l key m
   ·have hS := HS.out
    rw [hc] at hS
    have HS2 := Aside0.mk hS
    clear hS HS hc
    go_wp2_with fail
    go_roundg q
    case measure => exact Nat.lt_succ_self _
    case rel =>
     refine ⟨i, m, ?_, ?_, ?_, rfl, rfl, HS2.out, HB2.out⟩
     ·have := HI.out; have := HM.out; omega
     ·have := HI.out; omega
     ·have h1 := HI.out; have h2 := HM.out; have h3 := Nat.pow_succ 2 q; omega
   ·have hS := HS.out
    rw [hc] at hS
    have HS2 := Aside0.mk hS
    have hw : IntKind.i64.wrap ((m : Int) + 1) = (m : Int) + 1 := wi64_in (by omega) (by have := HBG.out; have := HI.out; omega)
    clear hS HS hc
    go_wp2_with fail
    go_roundg q
    case measure => exact Nat.lt_succ_self _
    case rel =>
     refine ⟨m + 1, j, ?_, HI.out.2.1, ?_, ?_, rfl, HS2.out, HB2.out⟩
     ·have := HI.out; have := HM.out; omega
     ·have h1 := HI.out; have h2 := HM.out; have h3 := Nat.pow_succ 2 q; omega
     ·go_num
  ·have e0 : bsN (node_place.P l key) gk i j = i := by cases gk with
    | zero => rfl
    | succ q => rw [bsN, if_neg hlt]
   obtain rfl : i = fin := e0.symm.trans hb
   have t1 : decide ((i : Int) < (j : Int)) = false := decide_eq_false (by omega)
   have t1n : decide (i < j) = false := decide_eq_false hlt
   clear e0 hb hq hjl hij
   go_wp2_with fail
   go_ret
   exact ⟨rfl, HB.out⟩
def node_place.at_ (l : List (List Int)) (key : List Int) : Nat := bsN (node_place.P l key) 64 0 l.length
def node_place.f (a0_0 : Bool) (l0_1 l0_2 : List (List Int)) (l0_3 : List Int) (l1 : List Int) : Option (Int × Bool) :=
 if l0_1.length ≤ 4611686018427387904 then some ((node_place.at_ l0_1 l1 : Int), decide (node_place.at_ l0_1 l1 < l0_1.length) && ((strOfNums (rd_L1 l0_1 (node_place.at_ l0_1 l1 : Int))).toList == (strOfNums l1).toList)) else none
set_option maxHeartbeats 1000000 in
set_option maxRecDepth 100000 in
theorem node_place.calls (a0_0 : Bool) (A0_1 : Option Addr) (c0_1 : Nat) (l0_1 : List (List Int)) (A0_2 : Option Addr) (c0_2 : Nat) (l0_2 : List (List Int)) (A0_3 : Option Addr) (c0_3 : Nat) (l0_3 : List Int) (A1 : Option Addr) (c1 : Nat) (l1 : List Int) (r1 : Int) (r2 : Bool) (w : World) (hr0_1 : Kd.C (Kd.slice 5 (Kd.int .u8)) w A0_1 l0_1.length l0_1) (hc0_1 : l0_1.length ≤ c0_1) (hr0_2 : Kd.C (Kd.slice 5 (Kd.int .u8)) w A0_2 l0_2.length l0_2) (hc0_2 : l0_2.length ≤ c0_2) (hr0_3 : Kd.C (Kd.int .i64) w A0_3 l0_3.length l0_3) (hc0_3 : l0_3.length ≤ c0_3) (hr1 : Kd.C (Kd.int .u8) w A1 l1.length l1) (hc1 : l1.length ≤ c1) (h : node_place.f a0_0 l0_1 l0_2 l0_3 l1 = some (r1, r2)) :
  Calls Try.prog 26 #[.agg #[.bool a0_0, .slice A0_1 l0_1.length c0_1, .slice A0_2 l0_2.length c0_2, .slice A0_3 l0_3.length c0_3], .slice A1 l1.length c1] w fun e w' => e = .returned (.tuple #[.int .i64 r1, .bool r2]) ∧ Below w.heap.size w w' := by
 unfold node_place.f at h
 split at h
 case isFalse => cases h
 case isTrue hbig =>
 obtain ⟨h1, h2⟩ := Prod.mk.inj (Option.some.inj h)
 obtain ⟨fin, hfin⟩ : ∃ fin, fin = node_place.at_ l0_1 l1 := ⟨_, rfl⟩
 rw [← hfin] at h1 h2
 subst h1
 subst h2
 have hle : fin ≤ l0_1.length := by rw [hfin]; exact bsN_le _ 64 0 l0_1.length (Nat.zero_le _)
 have hbp : ((w.alloc (.cells #[.bool a0_0, .slice A0_1 l0_1.length c0_1, .slice A0_2 l0_2.length c0_2, .slice A0_3 l0_3.length c0_3] 26)).alloc (.cells #[.slice A1 l1.length c1] 27)).heap[w.heap.size]? = some (.cells #[.bool a0_0, .slice A0_1 l0_1.length c0_1, .slice A0_2 l0_2.length c0_2, .slice A0_3 l0_3.length c0_3] 26 (0, 0)) := heap_alloc2_old w _ _
 have hbk : ((w.alloc (.cells #[.bool a0_0, .slice A0_1 l0_1.length c0_1, .slice A0_2 l0_2.length c0_2, .slice A0_3 l0_3.length c0_3] 26)).alloc (.cells #[.slice A1 l1.length c1] 27)).heap[w.heap.size + 1]? = some (.cells #[.slice A1 l1.length c1] 27 (0, 0)) := heap_alloc2_new w _ _
 have hB : Below w.heap.size w ((w.alloc (.cells #[.bool a0_0, .slice A0_1 l0_1.length c0_1, .slice A0_2 l0_2.length c0_2, .slice A0_3 l0_3.length c0_3] 26)).alloc (.cells #[.slice A1 l1.length c1] 27)) := below_alloc (below_alloc (Below.refl _ _) _) _
 have HC := Aside0.mk (node_place.bs_row w.heap.size (w.heap.size + 1) a0_0 A0_1 c0_1 l0_1 (.slice A0_2 l0_2.length c0_2) (.slice A0_3 l0_3.length c0_3) A1 c1 l1 _ hbp hbk (Kd.C_below hr0_1 hB) (Kd.C_below hr1 hB) hc1 hbig fin hfin.symm)
 have HBP := Aside0.mk hbp
 have HBK := Aside0.mk hbk
 have HBB := Aside0.mk hB
 have HR := Aside0.mk hr0_1
 have HRK := Aside0.mk hr1
 have HCK := Aside0.mk hc1
 clear hbp hbk hB hr0_1 hr0_2 hr0_3 hr1 hc0_1 hc0_2 hc0_3 hc1 h hfin hbig
 go_enter Try.func26, Try.ntmps26
 go_wp2_with fail
 refine HC.out.mono ?_
 rintro e w' ⟨rfl, hb2⟩
 have HB2 := Aside0.mk (below_then HBB.out HBB.out.size hb2)
 have hc1' : w'.cell? ⟨w.heap.size, 1, none⟩ = some (.slice A0_1 l0_1.length c0_1) := (blk_cell (blk_below HBP.out hb2) 1).trans rfl
 have hc2' : w'.cell? ⟨w.heap.size + 1, 0, none⟩ = some (.slice A1 l1.length c1) := (blk_cell (blk_below HBK.out hb2) 0).trans rfl
 clear hb2 HC HBP HBK HBB
 by_cases hin : fin < l0_1.length
 ·obtain ⟨ad, Ae, ce, rfl, hx, hle2, hre⟩ := at_L1 HR.out (fin : Int) (Int.natCast_nonneg _) (Int.ofNat_lt.mpr hin)
  replace hx := (HB2.out.cell (World.block_lt_of_cell? w _ hx)).trans hx
  rw [Int.toNat_natCast] at hx
  have pm : ((fin : Int) < (l0_1.length : Int)) = True := eq_true (Int.ofNat_lt.mpr hin)
  have pd : decide ((fin : Int) < (l0_1.length : Int)) = true := decide_eq_true (Int.ofNat_lt.mpr hin)
  have pdn : decide (fin < l0_1.length) = true := decide_eq_true hin
  have HPD : Aside0 (decide (fin < l0_1.length) = true) := ⟨decide_eq_true hin⟩
  have HRE := Aside0.mk (Kd.C_below hre HB2.out)
  have HLE := Aside0.mk hle2
  have HRK2 := Aside0.mk (Kd.C_below HRK.out HB2.out)
  clear hre hle2 hin hle
  obtain ⟨x, hxe⟩ : ∃ x, x = rd_L1 l0_1 (fin : Int) := ⟨_, rfl⟩
  rw [← hxe] at hx HRE HLE
  have HXE := Aside0.mk hxe
  clear hxe
  go_wp2
  go_quiet ((go_at_call 47; exact Calls.quiet_of (node_place.eq_calls Ae ce x A1 c1 l1 _ (Kd.C_drewN HRE.out _) HLE.out (Kd.C_drewN HRK2.out _) HCK.out)))
  go_wp2
  go_ret2
  exact ⟨by rw [HPD.out, Bool.true_and, ← HXE.out]; rfl, pw_below_drewN HB2.out _⟩
 ·have pd : decide ((fin : Int) < (l0_1.length : Int)) = false := decide_eq_false (by omega)
  have pdn : decide (fin < l0_1.length) = false := decide_eq_false hin
  have HPD : Aside0 (decide (fin < l0_1.length) = false) := ⟨decide_eq_false hin⟩
  clear hin hle
  go_wp2
  go_quiet (fail)
  go_wp2
  go_ret2
  exact ⟨by rw [HPD.out, Bool.false_and]; rfl, pw_below_drewN HB2.out _⟩
end Go.Proofs.Ytcbgichkeecgiaa.Print
namespace Go.Proofs.Ytcbgichkeecgiaa.Print
open Go.RowKit Go.Proofs.YtcbgichkeecgiaaW.PrintWords Go.Proofs.YtcbgichkeecgiaaW.PrintLast Go.Proofs.YtcbgichkeecgiaaW.PrintMore
attribute [local go_sem] max2_mx min2_mn max_two min_two max_three min_three max_four min_four
set_option linter.unusedVariables false
set_option linter.unusedSimpArgs false
mutual
def node_own.l0 : Nat → List (List Int) → Int → Int → Bool → List (List Int) → List (List Int) → List Int → Bool → List (List Int) → List Int → Option (Bool × (List (List Int)) × (List (List Int)) × List Int)
 | 0, _, _, _, _, _, _, _, _, _, _ => none
 | k + 1, x15, x16, x17, x128000, x128001, x128002, x128003, x133000, x133001, x133003 => if x17 < x16 then (if 0 ≤ x17 then (if x17 < (x15.length : Int) then ((bytes_Clone.f (rd_L1 x15 x17)).bind fun t134 => (if x133001.length < 5864062014805 then (node_own.l0 k x15 x16 (wrap64 (x17 + 1)) x128000 x128001 x128002 x128003 x133000 (x133001 ++ [t134]) x133003) else (none))) else (none)) else (none)) else (node_own.l1 k x128002 (x128002.length : Int) 0 x133000 x133001 ([] : List (List Int)) x133003)
def node_own.l1 : Nat → List (List Int) → Int → Int → Bool → List (List Int) → List (List Int) → List Int → Option (Bool × (List (List Int)) × (List (List Int)) × List Int)
 | 0, _, _, _, _, _, _, _ => none
 | k + 1, x30, x31, x32, x133000, x133001, x133002, x133003 => if x32 < x31 then (if 0 ≤ x32 then (if x32 < (x30.length : Int) then ((bytes_Clone.f (rd_L1 x30 x32)).bind fun t141 => (if x133002.length < 5864062014805 then (node_own.l1 k x30 x31 (wrap64 (x32 + 1)) x133000 x133001 (x133002 ++ [t141]) x133003) else (none))) else (none)) else (none)) else (some (x133000, x133001, x133002, x133003))
end
def node_own.f (k : Nat) (a0_0 : Bool) (l0_1 : List (List Int)) (l0_2 : List (List Int)) (l0_3 : List Int) : Option (Bool × (List (List Int)) × (List (List Int)) × List Int) := (slices_Clone_int_int.f l0_3).bind fun t129 => (node_own.l0 k l0_1 (l0_1.length : Int) 0 a0_0 l0_1 l0_2 l0_3 a0_0 ([] : List (List Int)) t129)
theorem node_own.mono_l : ∀ k, (∀ y0 y1 y2 y3 y4 y5 y6 y7 y8 y9, LeO (node_own.l0 k y0 y1 y2 y3 y4 y5 y6 y7 y8 y9) (node_own.l0 (k + 1) y0 y1 y2 y3 y4 y5 y6 y7 y8 y9)) ∧ (∀ y0 y1 y2 y3 y4 y5 y6, LeO (node_own.l1 k y0 y1 y2 y3 y4 y5 y6) (node_own.l1 (k + 1) y0 y1 y2 y3 y4 y5 y6))
 | 0 => ⟨fun _ _ _ _ _ _ _ _ _ _ r h => by simp [node_own.l0] at h, fun _ _ _ _ _ _ _ r h => by simp [node_own.l1] at h⟩
 | k + 1 => by
  obtain ⟨ih0, ih1⟩ := node_own.mono_l k
  refine ⟨?_, ?_⟩
  ·intro y0 y1 y2 y3 y4 y5 y6 y7 y8 y9
   unfold node_own.l0
   repeat' first
   | (with_reducible exact ih0 _ _ _ _ _ _ _ _ _ _)
   | (with_reducible exact ih1 _ _ _ _ _ _ _)
   | (with_reducible exact LeO.refl _)
   | (with_reducible exact LeO.none _)
   | (with_reducible refine LeO.ite ?_ ?_)
   | (with_reducible refine LeO.bind ?_ (fun _ => ?_))
   | exact ih0 _ _ _ _ _ _ _ _ _ _
   | exact ih1 _ _ _ _ _ _ _
   | exact LeO.none _
   | refine LeO.ite ?_ ?_
   | refine LeO.bind ?_ (fun _ => ?_)
  ·intro y0 y1 y2 y3 y4 y5 y6
   unfold node_own.l1
   repeat' first
   | (with_reducible exact ih0 _ _ _ _ _ _ _ _ _ _)
   | (with_reducible exact ih1 _ _ _ _ _ _ _)
   | (with_reducible exact LeO.refl _)
   | (with_reducible exact LeO.none _)
   | (with_reducible refine LeO.ite ?_ ?_)
   | (with_reducible refine LeO.bind ?_ (fun _ => ?_))
   | exact ih0 _ _ _ _ _ _ _ _ _ _
   | exact ih1 _ _ _ _ _ _ _
   | exact LeO.none _
   | refine LeO.ite ?_ ?_
   | refine LeO.bind ?_ (fun _ => ?_)
theorem node_own.mono : ∀ a0 a1 a2 a3 k, LeO (node_own.f k a0 a1 a2 a3) (node_own.f (k + 1) a0 a1 a2 a3) := by
 intro a0 a1 a2 a3 k
 obtain ⟨ih0, ih1⟩ := node_own.mono_l k
 unfold node_own.f
 repeat' first
   | (with_reducible exact ih0 _ _ _ _ _ _ _ _ _ _)
   | (with_reducible exact ih1 _ _ _ _ _ _ _)
   | (with_reducible exact LeO.refl _)
   | (with_reducible exact LeO.none _)
   | (with_reducible refine LeO.ite ?_ ?_)
   | (with_reducible refine LeO.bind ?_ (fun _ => ?_))
   | exact ih0 _ _ _ _ _ _ _ _ _ _
   | exact ih1 _ _ _ _ _ _ _
   | exact LeO.none _
   | refine LeO.ite ?_ ?_
   | refine LeO.bind ?_ (fun _ => ?_)
def node_own.T1 : Bool × List (List Nat × List Nat) := (true, [([], []), ([0], [0]), ([], []), ([2], [2]), ([3], [3]), ([1, 4], [1, 4]), ([], []), ([6, 5, 4, 0, 1, 2, 3, 4, 5, 6], [5, 6])])
def node_own.B1 : List Nat := [0, 1, 0, 4, 12, 31, 0, 127]
theorem node_own.tab1 : rtab .any (opsOf Try.f25 1) = node_own.T1 := by kernel_rfl
theorem node_own.bits1 : waitsOk node_own.T1.2 node_own.B1 = true := by kernel_rfl
def node_own.T5 : Bool × List (List Nat × List Nat) := (true, [([], []), ([0], [0]), ([], []), ([2], [2]), ([3], [3]), ([1, 4, 3], [1, 4]), ([0, 1, 2, 3, 4, 5], []), ([6, 5, 5, 0, 1, 2, 3, 4, 5], [5, 6])])
def node_own.B5 : List Nat := [0, 1, 0, 4, 12, 31, 63, 127]
theorem node_own.tab5 : rtab .any (opsOf Try.f25 5) = node_own.T5 := by kernel_rfl
theorem node_own.bits5 : waitsOk node_own.T5.2 node_own.B5 = true := by kernel_rfl
def node_own.T10 : Bool × List (List Nat × List Nat) := (true, [([], []), ([0], [0]), ([], []), ([2], [2]), ([3], [3]), ([1, 4, 3], [1, 4]), ([0, 1, 2, 3, 4, 5], []), ([6, 5, 5, 0, 1, 2, 3, 4, 5], [5, 6])])
def node_own.B10 : List Nat := [0, 1, 0, 4, 12, 31, 63, 127]
theorem node_own.tab10 : rtab .any (opsOf Try.f25 10) = node_own.T10 := by kernel_rfl
theorem node_own.bits10 : waitsOk node_own.T10.2 node_own.B10 = true := by kernel_rfl
set_option maxHeartbeats 8000000 in
set_option maxRecDepth 100000 in
theorem node_own.calls (k : Nat) (a0_0 : Bool) (A0_1 : Option Addr) (c0_1 : Nat) (l0_1 : List (List Int)) (A0_2 : Option Addr) (c0_2 : Nat) (l0_2 : List (List Int)) (A0_3 : Option Addr) (c0_3 : Nat) (l0_3 : List Int) (r1 : Bool) (r2 : List (List Int)) (r3 : List (List Int)) (r4 : List Int) (w : World) (hr0_1 : Kd.C (Kd.slice 5 (Kd.int .u8)) w A0_1 l0_1.length l0_1) (hc0_1 : l0_1.length ≤ c0_1) (hr0_2 : Kd.C (Kd.slice 5 (Kd.int .u8)) w A0_2 l0_2.length l0_2) (hc0_2 : l0_2.length ≤ c0_2) (hr0_3 : Kd.C (Kd.int .i64) w A0_3 l0_3.length l0_3) (hc0_3 : l0_3.length ≤ c0_3) (h : node_own.f k a0_0 l0_1 l0_2 l0_3 = some (r1, r2, r3, r4)) :
  Calls Try.prog 25 #[.agg #[.bool a0_0, .slice A0_1 l0_1.length c0_1, .slice A0_2 l0_2.length c0_2, .slice A0_3 l0_3.length c0_3]] w fun e w' => ∃ v1_ v2_ v3_ : Value, e = .returned (.agg #[.bool r1, v1_, v2_, v3_]) ∧ Kd.S (Kd.slice 5 (Kd.int .u8)) 27 w' w.heap.size (fun k_ => some k_ ≠ (v2_ : Value).ownBlock) v1_ r2 ∧ Kd.S (Kd.slice 5 (Kd.int .u8)) 27 w' w.heap.size (fun k_ => some k_ ≠ (v1_ : Value).ownBlock) v2_ r3 ∧ Kd.R (Kd.int .i64) 3 w' w.heap.size (fun _ => True) v3_ r4 ∧ Below w.heap.size w w' := by
 have hu26 := Try.underlying26
 have HR0_1 := Aside0.mk hr0_1
 have HC0_1 := Aside0.mk hc0_1
 clear hr0_1 hc0_1
 have HR0_2 := Aside0.mk hr0_2
 have HC0_2 := Aside0.mk hc0_2
 clear hr0_2 hc0_2
 have HR0_3 := Aside0.mk hr0_3
 have HC0_3 := Aside0.mk hc0_3
 clear hr0_3 hc0_3
 have HB := Aside0.mk (Below.refl w.heap.size w)
 have H : ((slices_Clone_int_int.f l0_3).bind fun t129 => (node_own.l0 k l0_1 (l0_1.length : Int) 0 a0_0 l0_1 l0_2 l0_3 a0_0 ([] : List (List Int)) t129)) = some (r1, r2, r3, r4) := h
 clear h
 obtain ⟨t129, A2, H⟩ := zm H
 (try dsimp only at H)
 have H' := Aside0.mk H
 clear H
 go_enter Try.func25, Try.ntmps25
 try go_wp2_with (first | ((with_reducible refine gate_dst (N := 1) rfl ?_); refine box_event ?hg (N := 1) ?hd (cs := #[.bool a0_0, .slice A0_1 l0_1.length c0_1, .slice A0_2 l0_2.length c0_2, .slice A0_3 l0_3.length c0_3]) (t := 26) ?hr ?_; (case hd => rfl); (case hg => rfl); (case hr => first | (go_simp; done) | (go_simp; rfl)); intro gb127 hg w3 hbox hb; have BK127 := Aside0.mk (hbox); have GW127 := Aside0.mk ((by rw [hg]; exact (below_size (zh0_ HB.out)) : w.heap.size ≤ gb127)); have GE127 := Aside0.mk ((by rw [hg]; exact (below_size (zh0_ HB.out)) : w.heap.size ≤ gb127)); replace HB := Aside0.mk (below_step (zh0_ HB.out) hb); clear hb hbox hg) | ((with_reducible refine gate_dst (N := 2) rfl ?_); refine box_event ?hg (N := 2) ?hd (cs := #[.bool false, .slice none 0 0, .slice none 0 0, .slice none 0 0]) (t := 26) ?hr ?_; (case hd => rfl); (case hg => rfl); (case hr => first | (go_simp; done) | (go_simp; rfl)); intro gb128 hg w4 hbox hb; have BK128 := Aside0.mk (hbox); have GW128 := Aside0.mk ((by rw [hg]; exact (below_size (zh1_ HB.out GE127.out)) : w.heap.size ≤ gb128)); have GE128 := Aside0.mk ((by rw [hg]; exact (below_size (zh1_ HB.out GE127.out)) : w.heap.size ≤ gb128)); replace HB := Aside0.mk (below_step (zh1_ HB.out GE127.out) hb); have NB127_128 := Aside0.mk ((by rw [hg]; exact Nat.ne_of_lt (blk_lt (zb_ BK127.out)) : gb127 ≠ gb128)); have NB128_127 := Aside0.mk ((by rw [hg]; exact Nat.ne_of_gt (blk_lt (zb_ BK127.out)) : gb128 ≠ gb127)); replace BK127 := Aside0.mk (blk_below (zb_ BK127.out) hb); clear hb hbox hg))
 have n0_ := Aside0.mk (blk_drew BK127.out)
 have n1_ := Aside0.mk (blk_drew BK128.out)
 have n2_ := Aside0.mk (below_drew1 HB.out)
 clear BK127 BK128 HB
 have BK127 := n0_
 have BK128 := n1_
 have HB := n2_
 clear n0_ n1_ n2_
 refine start_ (n := 8) (S := fun w' => w'.cell? ⟨gb127, 0, none⟩ = some (.bool a0_0) ∧ w'.cell? ⟨gb127, 1, none⟩ = some (.slice A0_1 l0_1.length c0_1) ∧ w'.cell? ⟨gb127, 2, none⟩ = some (.slice A0_2 l0_2.length c0_2) ∧ w'.cell? ⟨gb127, 3, none⟩ = some (.slice A0_3 l0_3.length c0_3)) (ds := []) (zB 0 8) (by kernel_rfl) rfl rfl ⟨(blk_cell BK127.out 0).trans rfl, (blk_cell BK127.out 1).trans rfl, (blk_cell BK127.out 2).trans rfl, (blk_cell BK127.out 3).trans rfl⟩ (fun hHeld => ?_); refine with_tabW node_own.tab1 node_own.bits1 (fun HT_ HW_ => ?_)
 generalize w4.drew = w5 at BK127 BK128 HB hHeld ⊢
 refine zpu 0 (some 8) (zB 1 7) (any_of HT_.out (by kernel_rfl)) ?_
 refine zpu 2 (some 10) #[true, false, true, false, false, false, false, false] (any_of HT_.out (by kernel_rfl)) ?_
 refine zta 1 (some 9) (zB 3 5) (take_ofW HT_.out HW_.out (by kernel_rfl)) hHeld ?_
 refine zta 3 (some 11) (zB 4 4) (take_ofW HT_.out HW_.out (by kernel_rfl)) hHeld ?_
 refine join_ (σ := Value × Nat) 1 (zB 7 1) (fun s_ => [(12, s_.1), (3, .pointer (some ⟨s_.2, 0, none⟩)), (13, .agg #[.bool a0_0, .slice none 0 0, .slice none 0 0, s_.1])]) (fun s_ w' => (w'.cell? ⟨gb127, 0, none⟩ = some (.bool a0_0) ∧ w'.cell? ⟨gb127, 1, none⟩ = some (.slice A0_1 l0_1.length c0_1) ∧ w'.cell? ⟨gb127, 2, none⟩ = some (.slice A0_2 l0_2.length c0_2) ∧ w'.cell? ⟨gb127, 3, none⟩ = some (.slice A0_3 l0_3.length c0_3)) ∧ (Kd.R (Kd.int .i64) 3 w' w.heap.size (fun _ => True) s_.1 t129) ∧ (w'.heap[gb127]? = some (.cells #[.bool a0_0, .slice A0_1 l0_1.length c0_1, .slice A0_2 l0_2.length c0_2, .slice A0_3 l0_3.length c0_3] 26 (0, 0))) ∧ (w'.heap[gb128]? = some (.cells #[.bool false, .slice none 0 0, .slice none 0 0, .slice none 0 0] 26 (0, 0))) ∧ (w'.heap[s_.2]? = some (.cells #[.bool false, .slice none 0 0, .slice none 0 0, .slice none 0 0] 26 (0, 0))) ∧ (w.heap.size ≤ s_.2) ∧ (w.heap.size ≤ s_.2) ∧ (gb127 ≠ s_.2) ∧ (s_.2 ≠ gb127) ∧ (gb128 ≠ s_.2) ∧ (s_.2 ≠ gb128) ∧ (Below w.heap.size w w')) ?_ ?_
 rotate_left
 ·intro hCont
  refine two_ (i := 4) (j := 6) (Ni := some 12) (Nj := some 3) (zB 5 3) #[true, true, true, true, false, false, true, false] rfl rfl rfl rfl (two_of HT_.out (by kernel_rfl)) (by decide) (by decide) (fun K hK => ?_) (fun K hK => ?_)
  ·skip
   refine goes_ Try.func43 (by kernel_rfl) rfl #[.slice A0_3 l0_3.length c0_3] (by rfl) rfl rfl zl_ ?_
   with_reducible refine (slices_Clone_int_int.calls _ _ l0_3 t129 _ ?side1 ?side2 A2.out).mono ?_
   (case side1 => exact zc_ (Kd.C_below HR0_3.out HB.out))
   (case side2 => exact HC0_3.out)
   rintro e w6 ⟨v130, rfl, ho0, hb⟩
   refine ⟨_, rfl, ?_⟩
   have n0_ := Aside0.mk (Kd.R_lower ho0 (below_size (zh2_ HB.out GE127.out GE128.out)))
   have n1_ := Aside0.mk (blk_below (zb_ BK127.out) hb)
   have n2_ := Aside0.mk (blk_below (zb_ BK128.out) hb)
   have n3_ := Aside0.mk (below_step (zh2_ HB.out GE127.out GE128.out) hb)
   clear BK127 BK128 HB
   have HO131 := n0_
   have BK127 := n1_
   have BK128 := n2_
   have HB := n3_
   clear n0_ n1_ n2_ n3_
   (try clear hb)
   (try clear hb2)
   (try clear hk)
   (try clear hi)
   (try clear ho0)
   obtain ⟨Ao7, co7, eo7⟩ := Kd.R_slice HO131.out
   (first | subst eo7 | (injection eo7 with f1_ f2_ f3_; have f4_ := f1_.symm; have f5_ := f3_.symm; clear f1_ f2_ f3_; subst f4_; subst f5_))
   refine hK.out _ _ ⟨(blk_cell BK127.out 0).trans rfl, (blk_cell BK127.out 1).trans rfl, (blk_cell BK127.out 2).trans rfl, (blk_cell BK127.out 3).trans rfl⟩ (fun hHeld => ?_)
   clear hK K
   refine zno 12 ?_
   refine zpu 5 (some 13) (zB 6 2) (any_of HT_.out (by kernel_rfl)) ?_
   refine one_ (i := 6) (N := some 3) (zB 7 1) rfl rfl (one_of HT_.out (by kernel_rfl)) (by decide) (fun K hK => ?_)
   refine box_step ?hg (N := 3) ?hd (cs := #[.bool false, .slice none 0 0, .slice none 0 0, .slice none 0 0]) (t := 26) ?hr ?_; (case hd => rfl); (case hg => rfl); (case hr => first | (go_simp; done) | (go_simp; rfl))
   intro gb132 hg w8 hbox hb
   have n0_ := Aside0.mk (Kd.R_below (zR_ HO131.out) hb)
   have n1_ := Aside0.mk (blk_below (zb_ BK127.out) hb)
   have n2_ := Aside0.mk (blk_below (zb_ BK128.out) hb)
   have n3_ := Aside0.mk (below_step (zh2_ HB.out GE127.out GE128.out) hb)
   have n4_ := Aside0.mk (hbox)
   have n5_ := Aside0.mk ((by rw [hg]; exact (below_size (zh2_ HB.out GE127.out GE128.out)) : w.heap.size ≤ gb132))
   have n6_ := Aside0.mk ((by rw [hg]; exact (below_size (zh2_ HB.out GE127.out GE128.out)) : w.heap.size ≤ gb132))
   have n7_ := Aside0.mk ((by rw [hg]; exact Nat.ne_of_lt (blk_lt (zb_ BK127.out)) : gb127 ≠ gb132))
   have n8_ := Aside0.mk ((by rw [hg]; exact Nat.ne_of_gt (blk_lt (zb_ BK127.out)) : gb132 ≠ gb127))
   have n9_ := Aside0.mk ((by rw [hg]; exact Nat.ne_of_lt (blk_lt (zb_ BK128.out)) : gb128 ≠ gb132))
   have n10_ := Aside0.mk ((by rw [hg]; exact Nat.ne_of_gt (blk_lt (zb_ BK128.out)) : gb132 ≠ gb128))
   clear HO131 BK127 BK128 HB
   have HO131 := n0_
   have BK127 := n1_
   have BK128 := n2_
   have HB := n3_
   have BK132 := n4_
   have GW132 := n5_
   have GE132 := n6_
   have NB127_132 := n7_
   have NB132_127 := n8_
   have NB128_132 := n9_
   have NB132_128 := n10_
   clear n0_ n1_ n2_ n3_ n4_ n5_ n6_ n7_ n8_ n9_ n10_ hb hbox hg
   refine hK.out _ _ ⟨(blk_cell BK127.out 0).trans rfl, (blk_cell BK127.out 1).trans rfl, (blk_cell BK127.out 2).trans rfl, (blk_cell BK127.out 3).trans rfl⟩ (fun hHeld => ?_)
   clear hK K
   refine zno 3 ?_
   exact norm_ (by simp only [putAll, Act.put, zt0, zt1, zt2]) (hCont (.slice Ao7 t129.length co7, gb132) _ ⟨hHeld, (zR_ HO131.out), (zb_ BK127.out), (zb_ BK128.out), (zb_ BK132.out), GW132.out, GE132.out, NB127_132.out, NB132_127.out, NB128_132.out, NB132_128.out, (zh3_ HB.out GE127.out GE128.out GE132.out)⟩)
  ·skip
   refine box_step ?hg (N := 3) ?hd (cs := #[.bool false, .slice none 0 0, .slice none 0 0, .slice none 0 0]) (t := 26) ?hr ?_; (case hd => rfl); (case hg => rfl); (case hr => first | (go_simp; done) | (go_simp; rfl))
   intro gb132 hg w6 hbox hb
   have n0_ := Aside0.mk (blk_below (zb_ BK127.out) hb)
   have n1_ := Aside0.mk (blk_below (zb_ BK128.out) hb)
   have n2_ := Aside0.mk (below_step (zh2_ HB.out GE127.out GE128.out) hb)
   have n3_ := Aside0.mk (hbox)
   have n4_ := Aside0.mk ((by rw [hg]; exact (below_size (zh2_ HB.out GE127.out GE128.out)) : w.heap.size ≤ gb132))
   have n5_ := Aside0.mk ((by rw [hg]; exact (below_size (zh2_ HB.out GE127.out GE128.out)) : w.heap.size ≤ gb132))
   have n6_ := Aside0.mk ((by rw [hg]; exact Nat.ne_of_lt (blk_lt (zb_ BK127.out)) : gb127 ≠ gb132))
   have n7_ := Aside0.mk ((by rw [hg]; exact Nat.ne_of_gt (blk_lt (zb_ BK127.out)) : gb132 ≠ gb127))
   have n8_ := Aside0.mk ((by rw [hg]; exact Nat.ne_of_lt (blk_lt (zb_ BK128.out)) : gb128 ≠ gb132))
   have n9_ := Aside0.mk ((by rw [hg]; exact Nat.ne_of_gt (blk_lt (zb_ BK128.out)) : gb132 ≠ gb128))
   clear BK127 BK128 HB
   have BK127 := n0_
   have BK128 := n1_
   have HB := n2_
   have BK132 := n3_
   have GW132 := n4_
   have GE132 := n5_
   have NB127_132 := n6_
   have NB132_127 := n7_
   have NB128_132 := n8_
   have NB132_128 := n9_
   clear n0_ n1_ n2_ n3_ n4_ n5_ n6_ n7_ n8_ n9_ hb hbox hg
   refine hK.out _ _ ⟨(blk_cell BK127.out 0).trans rfl, (blk_cell BK127.out 1).trans rfl, (blk_cell BK127.out 2).trans rfl, (blk_cell BK127.out 3).trans rfl⟩ (fun hHeld => ?_)
   clear hK K
   refine zno 3 ?_
   refine one_ (i := 4) (N := some 12) #[true, true, true, true, true, false, true, false] rfl rfl (one_of HT_.out (by kernel_rfl)) (by decide) (fun K hK => ?_)
   refine goes_ Try.func43 (by kernel_rfl) rfl #[.slice A0_3 l0_3.length c0_3] (by rfl) rfl rfl zl_ ?_
   with_reducible refine (slices_Clone_int_int.calls _ _ l0_3 t129 _ ?side1 ?side2 A2.out).mono ?_
   (case side1 => exact zc_ (Kd.C_below HR0_3.out HB.out))
   (case side2 => exact HC0_3.out)
   rintro e w7 ⟨v130, rfl, ho0, hb⟩
   refine ⟨_, rfl, ?_⟩
   have n0_ := Aside0.mk (Kd.R_lower ho0 (below_size (zh3_ HB.out GE127.out GE128.out GE132.out)))
   have n1_ := Aside0.mk (blk_below (zb_ BK127.out) hb)
   have n2_ := Aside0.mk (blk_below (zb_ BK128.out) hb)
   have n3_ := Aside0.mk (blk_below (zb_ BK132.out) hb)
   have n4_ := Aside0.mk (below_step (zh3_ HB.out GE127.out GE128.out GE132.out) hb)
   clear BK127 BK128 BK132 HB
   have HO131 := n0_
   have BK127 := n1_
   have BK128 := n2_
   have BK132 := n3_
   have HB := n4_
   clear n0_ n1_ n2_ n3_ n4_
   (try clear hb)
   (try clear hb2)
   (try clear hk)
   (try clear hi)
   (try clear ho0)
   obtain ⟨Ao8, co8, eo8⟩ := Kd.R_slice HO131.out
   (first | subst eo8 | (injection eo8 with f1_ f2_ f3_; have f4_ := f1_.symm; have f5_ := f3_.symm; clear f1_ f2_ f3_; subst f4_; subst f5_))
   refine hK.out _ _ ⟨(blk_cell BK127.out 0).trans rfl, (blk_cell BK127.out 1).trans rfl, (blk_cell BK127.out 2).trans rfl, (blk_cell BK127.out 3).trans rfl⟩ (fun hHeld => ?_)
   clear hK K
   refine zno 12 ?_
   refine zpu 5 (some 13) (zB 7 1) (any_of HT_.out (by kernel_rfl)) ?_
   exact norm_ (by simp only [putAll, Act.put, zt0, zt1, zt2]) (hCont (.slice Ao8 t129.length co8, gb132) _ ⟨hHeld, (zR_ HO131.out), (zb_ BK127.out), (zb_ BK128.out), (zb_ BK132.out), GW132.out, GE132.out, NB127_132.out, NB132_127.out, NB128_132.out, NB132_128.out, (zh3_ HB.out GE127.out GE128.out GE132.out)⟩)
 rintro ⟨v130, gb132⟩ w9 ⟨hS_, h0_, h1_, h2_, h3_, h4_, h5_, h6_, h7_, h8_, h9_, h10_⟩
 have n0_ : Aside0 (Kd.R (Kd.int .i64) 3 w9 w.heap.size (fun _ => True) v130 t129) := ⟨h0_⟩
 have n1_ : Aside0 (w9.heap[gb127]? = some (.cells #[.bool a0_0, .slice A0_1 l0_1.length c0_1, .slice A0_2 l0_2.length c0_2, .slice A0_3 l0_3.length c0_3] 26 (0, 0))) := ⟨h1_⟩
 have n2_ : Aside0 (w9.heap[gb128]? = some (.cells #[.bool false, .slice none 0 0, .slice none 0 0, .slice none 0 0] 26 (0, 0))) := ⟨h2_⟩
 have n3_ : Aside0 (w9.heap[gb132]? = some (.cells #[.bool false, .slice none 0 0, .slice none 0 0, .slice none 0 0] 26 (0, 0))) := ⟨h3_⟩
 have n4_ : Aside0 (w.heap.size ≤ gb132) := ⟨h4_⟩
 have n5_ : Aside0 (w.heap.size ≤ gb132) := ⟨h5_⟩
 have n6_ : Aside0 (gb127 ≠ gb132) := ⟨h6_⟩
 have n7_ : Aside0 (gb132 ≠ gb127) := ⟨h7_⟩
 have n8_ : Aside0 (gb128 ≠ gb132) := ⟨h8_⟩
 have n9_ : Aside0 (gb132 ≠ gb128) := ⟨h9_⟩
 have n10_ : Aside0 (Below w.heap.size w w9) := ⟨h10_⟩
 clear BK127 BK128 HB h0_ h1_ h2_ h3_ h4_ h5_ h6_ h7_ h8_ h9_ h10_
 have HO131 := n0_
 have BK127 := n1_
 have BK128 := n2_
 have BK132 := n3_
 have GW132 := n4_
 have GE132 := n5_
 have NB127_132 := n6_
 have NB132_127 := n7_
 have NB128_132 := n8_
 have NB132_128 := n9_
 have HB := n10_
 clear n0_ n1_ n2_ n3_ n4_ n5_ n6_ n7_ n8_ n9_ n10_
 have hHeld : w9.cell? ⟨gb127, 0, none⟩ = some (.bool a0_0) ∧ w9.cell? ⟨gb127, 1, none⟩ = some (.slice A0_1 l0_1.length c0_1) ∧ w9.cell? ⟨gb127, 2, none⟩ = some (.slice A0_2 l0_2.length c0_2) ∧ w9.cell? ⟨gb127, 3, none⟩ = some (.slice A0_3 l0_3.length c0_3) := hS_
 obtain ⟨Ao10, co10, eo10⟩ := Kd.R_slice HO131.out
 (first | subst eo10 | (injection eo10 with f1_ f2_ f3_; have f4_ := f1_.symm; have f5_ := f3_.symm; clear f1_ f2_ f3_; subst f4_; subst f5_))
 refine norm_ (a' := ?_) ?_ ?_
 rotate_left
 ·simp only [putAll, Act.put, zt0, zt1, zt2]
  rfl
 refine one_ (i := 7) (N := none) (zB 8 0) rfl rfl (one_of HT_.out (by kernel_rfl)) (by decide) (fun K hK => ?_)
 have hs11 : w9.cell? ⟨gb132, 0, none⟩ = some (.bool false) := (blk_cell BK132.out 0).trans rfl
 have hfs11 := blk_frozen BK132.out 0
 have hns11_0 := NB127_132.out
 have hns11_1 := NB128_132.out
 have hms11_0 := NB132_127.out
 have hms11_1 := NB132_128.out
 have hs12 : w9.cell? ⟨gb132, 1, none⟩ = some (.slice none 0 0) := (blk_cell BK132.out 1).trans rfl
 have hfs12 := blk_frozen BK132.out 1
 have hns12_0 := NB127_132.out
 have hns12_1 := NB128_132.out
 have hms12_0 := NB132_127.out
 have hms12_1 := NB132_128.out
 have hs13 : w9.cell? ⟨gb132, 2, none⟩ = some (.slice none 0 0) := (blk_cell BK132.out 2).trans rfl
 have hfs13 := blk_frozen BK132.out 2
 have hns13_0 := NB127_132.out
 have hns13_1 := NB128_132.out
 have hms13_0 := NB132_127.out
 have hms13_1 := NB132_128.out
 have hs14 : w9.cell? ⟨gb132, 3, none⟩ = some (.slice none 0 0) := (blk_cell BK132.out 3).trans rfl
 have hfs14 := blk_frozen BK132.out 3
 have hns14_0 := NB127_132.out
 have hns14_1 := NB128_132.out
 have hms14_0 := NB132_127.out
 have hms14_1 := NB132_128.out
 refine skip_ (w1 := ?_) (by rfl) rfl ?_ ?_
 rotate_left
 ·go_simp
  rfl
 refine hK.out _ _ ⟨(zk4 NB127_132.out (hHeld.1)), (zk4 NB127_132.out (hHeld.2.1)), (zk4 NB127_132.out (hHeld.2.2.1)), (zk4 NB127_132.out (hHeld.2.2.2))⟩ (fun hHeld => ?_)
 clear hK K
 refine done_ (done_of HT_.out (by kernel_rfl)) ?_
 have hnb15 := NB127_128.out
 have hnc15 := NB128_127.out
 have hnb16 := NB127_132.out
 have hnc16 := NB132_127.out
 obtain ⟨hcz17_0, hcz17_1, hcz17_2, hcz17_3⟩ := zc4 BK127.out
 obtain ⟨hfz17_0, hfz17_1, hfz17_2, hfz17_3⟩ := zz4 BK127.out
 try go_wp2
 go_loopg [17] k (fun kq v17 w' => ∃ (x17_1 : Int) (x133001_1 : List (List Int)) (u133001 : Value), v17 = .int .i64 x17_1 ∧ Aside0 (node_own.l0 kq l0_1 (l0_1.length : Int) x17_1 a0_0 l0_1 l0_2 l0_3 a0_0 x133001_1 t129 = some (r1, r2, r3, r4)) ∧ Aside0 (kq ≤ k) ∧ Aside0 (Kd.S (Kd.slice 5 (Kd.int .u8)) 27 w' w.heap.size (fun _ => True) u133001 x133001_1) ∧ Aside0 (Kd.R (Kd.int .i64) 3 w' w.heap.size (fun _ => True) (.slice Ao10 t129.length co10) t129) ∧ Aside0 (w'.heap[gb127]? = some (.cells #[.bool a0_0, (.slice A0_1 l0_1.length c0_1), (.slice A0_2 l0_2.length c0_2), (.slice A0_3 l0_3.length c0_3)] 26 (0, 0))) ∧ Aside0 (w'.heap[gb128]? = some (.cells #[.bool false, (.slice none 0 0), (.slice none 0 0), (.slice none 0 0)] 26 (0, 0))) ∧ Aside0 (w'.heap[gb132]? = some (.cells #[.bool a0_0, u133001, (.slice none 0 0), (.slice Ao10 t129.length co10)] 26 (0, 0))) ∧ Aside0 (Below w.heap.size w w'))
 case atStart => exact ⟨(0), (([] : List (List Int))), (.slice none 0 0), (by first | rfl | (simp; done) | (simp [*]; done) | (simp only [i64_w]; done)), H', ⟨Nat.le_refl _⟩, ⟨by first | exact Kd.S_nil _ _ _ _ _ | exact Kd.N_nil _ _ _ _ _ | exact Kd.V_nil _ _ _ _ _ | exact Kd.Q_nil _ _ _ _ _ | exact Kd.R_nil _ _ _ _ _⟩, ⟨by (with_reducible repeat (first | apply Kd.R_alloc | apply Kd.R_drewN | apply Kd.R_drew)); exact Kd.R_mono (Kd.R_far (p := ⟨gb132, 3, none⟩) (Kd.R_far (p := ⟨gb132, 2, none⟩) (Kd.R_far (p := ⟨gb132, 1, none⟩) (Kd.R_far (p := ⟨gb132, 0, none⟩) (Kd.R_types HO131.out BK132.out (by decide)) (fun _ hk => hk.2) (.bool a0_0)) (fun _ hk => hk.2) (.slice none 0 0)) (fun _ hk => hk.2) (.slice none 0 0)) (fun _ hk => hk.2) (.slice Ao10 t129.length co10)) (fun _ hk => trivial)⟩, ⟨by (with_reducible repeat (first | refine blk_drewN ?_ _ | refine blk_drew ?_ | refine blk_alloc ?_ _)); refine blk_far ?_ NB127_132.out _; (with_reducible repeat (first | refine blk_drewN ?_ _ | refine blk_drew ?_ | refine blk_alloc ?_ _)); refine blk_far ?_ NB127_132.out _; (with_reducible repeat (first | refine blk_drewN ?_ _ | refine blk_drew ?_ | refine blk_alloc ?_ _)); refine blk_far ?_ NB127_132.out _; (with_reducible repeat (first | refine blk_drewN ?_ _ | refine blk_drew ?_ | refine blk_alloc ?_ _)); refine blk_far ?_ NB127_132.out _; (with_reducible repeat (first | refine blk_drewN ?_ _ | refine blk_drew ?_ | refine blk_alloc ?_ _)); exact BK127.out⟩, ⟨by (with_reducible repeat (first | refine blk_drewN ?_ _ | refine blk_drew ?_ | refine blk_alloc ?_ _)); refine blk_far ?_ NB128_132.out _; (with_reducible repeat (first | refine blk_drewN ?_ _ | refine blk_drew ?_ | refine blk_alloc ?_ _)); refine blk_far ?_ NB128_132.out _; (with_reducible repeat (first | refine blk_drewN ?_ _ | refine blk_drew ?_ | refine blk_alloc ?_ _)); refine blk_far ?_ NB128_132.out _; (with_reducible repeat (first | refine blk_drewN ?_ _ | refine blk_drew ?_ | refine blk_alloc ?_ _)); refine blk_far ?_ NB128_132.out _; (with_reducible repeat (first | refine blk_drewN ?_ _ | refine blk_drew ?_ | refine blk_alloc ?_ _)); exact BK128.out⟩, ⟨by (with_reducible repeat (first | refine blk_drewN ?_ _ | refine blk_drew ?_ | refine blk_alloc ?_ _)); refine blk_put (cs := #[.bool a0_0, .slice none 0 0, .slice none 0 0, .slice none 0 0]) ?_ 3 _ (by first | rfl | (simp only [List.length_drop, List.length_take]; rfl)); (with_reducible repeat (first | refine blk_drewN ?_ _ | refine blk_drew ?_ | refine blk_alloc ?_ _)); refine blk_put (cs := #[.bool a0_0, .slice none 0 0, .slice none 0 0, .slice none 0 0]) ?_ 2 _ (by first | rfl | (simp only [List.length_drop, List.length_take]; rfl)); (with_reducible repeat (first | refine blk_drewN ?_ _ | refine blk_drew ?_ | refine blk_alloc ?_ _)); refine blk_put (cs := #[.bool a0_0, .slice none 0 0, .slice none 0 0, .slice none 0 0]) ?_ 1 _ (by first | rfl | (simp only [List.length_drop, List.length_take]; rfl)); (with_reducible repeat (first | refine blk_drewN ?_ _ | refine blk_drew ?_ | refine blk_alloc ?_ _)); refine blk_put (cs := #[.bool false, .slice none 0 0, .slice none 0 0, .slice none 0 0]) ?_ 0 _ (by first | rfl | (simp only [List.length_drop, List.length_take]; rfl)); (with_reducible repeat (first | refine blk_drewN ?_ _ | refine blk_drew ?_ | refine blk_alloc ?_ _)); exact BK132.out⟩, ⟨by exact zh3_ HB.out GE127.out GE128.out GE132.out⟩⟩
 case round =>
  clear H'
  try clear c1
  try clear c2
  try clear p2
  try clear c4
  try clear c15
  try clear c16
  try clear hcz17_0
  try clear hcz17_1
  try clear hcz17_2
  try clear hcz17_3
  try clear hfz17_0
  try clear hfz17_1
  try clear hfz17_2
  try clear hfz17_3
  (try clear BK127)
  (try clear BK128)
  (try clear BK132)
  obtain ⟨x17_1, x133001_1, u133001, rfl, HA, HK1, HO_133001, HO_133003, BK127, BK128, BK132, HB⟩ := hrel
  cases gk with
  | zero => exact absurd HA.out (by simp [node_own.l0])
  | succ k1 =>
   have H := HA.out
   clear HA
   simp only [node_own.l0] at H
   by_cases c18 : x17_1 < (l0_1.length : Int)
   ·rw [if_pos c18] at H
    have c18b0 : decide (x17_1 < (l0_1.length : Int)) = true := decide_eq_true c18
    clear c18
    by_cases c19 : 0 ≤ x17_1
    ·rw [if_pos c19] at H
     have c19b0 : decide (0 ≤ x17_1) = true := decide_eq_true c19
     clear c19
     by_cases c20 : x17_1 < (l0_1.length : Int)
     ·rw [if_pos c20] at H
      have c20b0 : decide (x17_1 < (l0_1.length : Int)) = true := decide_eq_true c20
      clear c20
      obtain ⟨t134, A21, H⟩ := zm H
      (try dsimp only at H)
      by_cases c22 : x133001_1.length < 5864062014805
      ·rw [if_pos c22] at H
       have LMc22 := Aside0.mk c22
       clear c22
       obtain ⟨y137, hy137⟩ : ∃ y_ : List (List Int), y_ = (x133001_1 ++ [t134]) := ⟨_, rfl⟩
       replace H : (node_own.l0 k1 l0_1 (l0_1.length : Int) (wrap64 (x17_1 + 1)) a0_0 l0_1 l0_2 l0_3 a0_0 y137 t129) = some (r1, r2, r3, r4) := by first | (rw [hy137]; with_reducible exact H) | (have H2_ := (Option.bind_some _ _).symm.trans H; rw [hy137]; with_reducible exact H2_) | (have H2_ := (Option.bind_some _ _).symm.trans H; with_reducible exact H2_) | with_reducible exact H | (rw [hy137]; exact H) | exact H
       have Ny137 := Aside0.mk hy137
       clear hy137
       have H' := Aside0.mk H
       clear H
       have p133 : 0 ≤ (x17_1 : Int) := of_decide_eq_true za_
       have q133 : x17_1 < (l0_1.length : Int) := of_decide_eq_true za_
       obtain ⟨ad133, A133_0, c133_0, e133, hx133_0, hl133_0, hi133_0⟩ := at_L1 HR0_1.out x17_1 p133 q133
       cases e133
       replace hx133_0 := zx_ HB.out hx133_0
       have HR133_0 := Aside0.mk hi133_0
       have HC133_0 := Aside0.mk hl133_0
       clear hi133_0 hl133_0
       replace p133 := eq_true p133
       replace q133 := eq_true q133
       try go_wp2
       have n0_ := Aside0.mk (Kd.S_drew HO_133001.out)
       have n1_ := Aside0.mk (Kd.R_drew HO_133003.out)
       have n2_ := Aside0.mk (blk_drew BK127.out)
       have n3_ := Aside0.mk (blk_drew BK128.out)
       have n4_ := Aside0.mk (blk_drew BK132.out)
       have n5_ := Aside0.mk (below_drew1 HB.out)
       clear HO_133001 HO_133003 BK127 BK128 BK132 HB
       have HO_133001 := n0_
       have HO_133003 := n1_
       have BK127 := n2_
       have BK128 := n3_
       have BK132 := n4_
       have HB := n5_
       clear n0_ n1_ n2_ n3_ n4_ n5_
       refine start_ (n := 8) (S := fun w' => w'.cell? ⟨gb132, 0, none⟩ = some (.bool a0_0) ∧ w'.cell? ⟨gb132, 1, none⟩ = some (u133001) ∧ w'.cell? ⟨gb132, 2, none⟩ = some (.slice none 0 0) ∧ w'.cell? ⟨gb132, 3, none⟩ = some (.slice Ao10 t129.length co10)) (ds := [7]) (zB 0 8) (by kernel_rfl) rfl rfl ⟨(blk_cell BK132.out 0).trans rfl, (blk_cell BK132.out 1).trans rfl, (blk_cell BK132.out 2).trans rfl, (blk_cell BK132.out 3).trans rfl⟩ (fun hHeld => ?_); refine with_tabW node_own.tab5 node_own.bits5 (fun HT_ HW_ => ?_)
       generalize wr.drew = w23 at HO_133001 HO_133003 BK127 BK128 BK132 HB hHeld ⊢
       refine zpu 0 (some 21) (zB 1 7) (any_of HT_.out (by kernel_rfl)) ?_
       refine zpu 2 (some 23) #[true, false, true, false, false, false, false, false] (any_of HT_.out (by kernel_rfl)) ?_
       refine zta 1 (some 22) (zB 3 5) (take_ofW HT_.out HW_.out (by kernel_rfl)) hHeld ?_
       refine one_ (i := 3) (N := some 24) (zB 4 4) rfl rfl (one_of HT_.out (by kernel_rfl)) (by decide) (fun K hK => ?_)
       refine goes_ Try.func27 (by kernel_rfl) rfl #[.slice A133_0 (rd_L1 l0_1 x17_1).length c133_0] (by rfl) rfl rfl zl_ ?_
       with_reducible refine (bytes_Clone.calls _ _ (rd_L1 l0_1 x17_1) t134 _ ?side1 ?side2 A21.out).mono ?_
       (case side1 => exact zc_ (Kd.C_below HR133_0.out HB.out))
       (case side2 => exact HC133_0.out)
       rintro e w24 ⟨v135, rfl, ho0, hb⟩
       refine ⟨_, rfl, ?_⟩
       have n0_ := Aside0.mk (Kd.S_elder' (by (with_reducible repeat (first | apply Kd.S_alloc | apply Kd.S_drewN | apply Kd.S_drew)); exact HO_133001.out) (Kd.R_base ho0) hb)
       have n1_ := Aside0.mk (Kd.R_below (zR_ HO_133003.out) hb)
       have n2_ := Aside0.mk (Kd.R_lower ho0 (below_size (zh3_ HB.out GE127.out GE128.out GE132.out)))
       have n3_ := Aside0.mk (blk_below (zb_ BK127.out) hb)
       have n4_ := Aside0.mk (blk_below (zb_ BK128.out) hb)
       have n5_ := Aside0.mk (blk_below (zb_ BK132.out) hb)
       have n6_ := Aside0.mk (below_step (zh3_ HB.out GE127.out GE128.out GE132.out) hb)
       clear HO_133001 HO_133003 BK127 BK128 BK132 HB
       have HO_133001 := n0_
       have HO_133003 := n1_
       have HO136 := n2_
       have BK127 := n3_
       have BK128 := n4_
       have BK132 := n5_
       have HB := n6_
       clear n0_ n1_ n2_ n3_ n4_ n5_ n6_
       (try clear hb)
       (try clear hb2)
       (try clear hk)
       (try clear hi)
       (try clear ho0)
       obtain ⟨Ao26, co26, eo26⟩ := Kd.R_slice HO136.out
       (first | subst eo26 | (injection eo26 with f1_ f2_ f3_; have f4_ := f1_.symm; have f5_ := f3_.symm; clear f1_ f2_ f3_; subst f4_; subst f5_))
       refine hK.out _ _ ⟨(blk_cell BK132.out 0).trans rfl, (blk_cell BK132.out 1).trans rfl, (blk_cell BK132.out 2).trans rfl, (blk_cell BK132.out 3).trans rfl⟩ (fun hHeld => ?_)
       clear hK K
       refine zno 24 ?_
       refine one_ (i := 4) (N := some 25) (zB 5 3) rfl rfl (one_of HT_.out (by kernel_rfl)) (by decide) (fun K hK => ?_)
       refine value_ (w1 := ?_) (v := ?_) (by rfl) rfl ?_ ?_
       rotate_left 2
       ·go_simp
        constructor
        ·rfl
        ·rfl
       refine hK.out _ _ ⟨(blk_cell (blk_alloc BK132.out _) 0).trans rfl, (blk_cell (blk_alloc BK132.out _) 1).trans rfl, (blk_cell (blk_alloc BK132.out _) 2).trans rfl, (blk_cell (blk_alloc BK132.out _) 3).trans rfl⟩ (fun hHeld => ?_)
       clear hK K
       refine zno 25 ?_
       refine one_ (i := 5) (N := some 26) (zB 6 2) rfl rfl (one_of HT_.out (by kernel_rfl)) (by decide) (fun K hK => ?_)
       refine Kd.S_append_step (Kd.slice 5 (Kd.int .u8)) (w0 := w) w.heap.size (by rfl) (.tmp 22) (.tmp 25) 22 27 (.slice none 0 0) 24 rfl Try.underlying22 info27 rfl (by decide) (by omega) u133001 x133001_1 t134 [.slice Ao26 t134.length co26] (fun _ => True) (fun k_ => some k_ = (.slice Ao26 t134.length co26 : Value).ownBlock) rfl rfl ?aP (fun k_ hk_ => ((Kd.R_mono (ok' := fun k_ => ((fun _ => True)) k_ ∧ some k_ ≠ (u133001 : Value).ownBlock) (Kd.R_apart' (HO136.out) (Kd.S_typed HO_133001.out) (by decide)) (fun k_ hk => ⟨trivial, hk.2⟩))).1 k_ hk_.symm) ?aF ?aO ?aB ?aS ?aL ?_
       (case aP => exact Kd.M_row (Kd.R_mono (Kd.R_tight rfl (Kd.R_mono (ok' := fun k_ => ((fun _ => True)) k_ ∧ some k_ ≠ (u133001 : Value).ownBlock) (Kd.R_apart' (HO136.out) (Kd.S_typed HO_133001.out) (by decide)) (fun k_ hk => ⟨trivial, hk.2⟩))) (fun _ h_ => h_)))
       (case aB => exact (zh3_ HB.out GE127.out GE128.out GE132.out))
       (case aF => exact (fun _ _ => trivial))
       (case aO => exact (by (with_reducible repeat (first | apply Kd.S_alloc | apply Kd.S_drewN | apply Kd.S_drew)); exact Kd.S_mono HO_133001.out (fun k_ hk => ⟨trivial, fun e_ => hk.2 e_⟩)))
       (case aS => exact (below_size (zh3_ HB.out GE127.out GE128.out GE132.out)))
       (case aL => have := LMc22.out; omega)
       intro v138 w25 ho hb hg hat
       rw [← Ny137.out] at ho
       have n0_ := Aside0.mk (Kd.R_over' (zR_ HO_133003.out) (Kd.S_typed (by (with_reducible repeat (first | apply Kd.S_alloc | apply Kd.S_drewN | apply Kd.S_drew)); exact HO_133001.out)) (by decide) hg)
       have n1_ := Aside0.mk (blk_grown (zb_ BK127.out) hg (Kd.S_ne HO_133001.out BK127.out (by decide)))
       have n2_ := Aside0.mk (blk_grown (zb_ BK128.out) hg (Kd.S_ne HO_133001.out BK128.out (by decide)))
       have n3_ := Aside0.mk (blk_grown (zb_ BK132.out) hg (Kd.S_ne HO_133001.out BK132.out (by decide)))
       have n4_ := Aside0.mk (hb)
       have n5_ := Aside0.mk (ho)
       clear HO_133003 BK127 BK128 BK132 HB HO_133001 HO136
       have HO_133003 := n0_
       have BK127 := n1_
       have BK128 := n2_
       have BK132 := n3_
       have HB := n4_
       have HO139 := n5_
       clear n0_ n1_ n2_ n3_ n4_ n5_ ho hb hg hat
       obtain ⟨Ao27, co27, eo27⟩ := Kd.S_slice HO139.out
       (first | subst eo27 | (injection eo27 with f1_ f2_ f3_; have f4_ := f1_.symm; have f5_ := f3_.symm; clear f1_ f2_ f3_; subst f4_; subst f5_))
       refine hK.out _ _ ⟨(blk_cell BK132.out 0).trans rfl, (blk_cell BK132.out 1).trans rfl, (blk_cell BK132.out 2).trans rfl, (blk_cell BK132.out 3).trans rfl⟩ (fun hHeld => ?_)
       clear hK K
       refine zno 26 ?_
       refine zpu 6 (some 27) (zB 7 1) (any_of HT_.out (by kernel_rfl)) ?_
       refine last_ (i := 7) (N := none) (zB 8 0) rfl rfl (one_of HT_.out (by kernel_rfl)) (by decide) (fun K hK => ?_)
       have hs28 : w25.cell? ⟨gb132, 1, none⟩ = some (u133001) := (blk_cell BK132.out 1).trans rfl
       have hfs28 := blk_frozen BK132.out 1
       have hns28_0 := NB127_132.out
       have hns28_1 := NB128_132.out
       have hms28_0 := NB132_127.out
       have hms28_1 := NB132_128.out
       refine skip_ (w1 := ?_) (by rfl) rfl ?_ ?_
       rotate_left
       ·go_simp
        rfl
       refine hK.out _ _ ?_
       clear hK K
       refine done_ (done_of HT_.out (by kernel_rfl)) ?_
       try go_wp2
       go_roundg k1
       case measure => have := HK1.out; omega
       case rel => exact ⟨(wrap64 (x17_1 + 1)), (y137), (.slice Ao27 y137.length co27), (by first | rfl | (simp; done) | (simp [*]; done) | (simp only [i64_w]; done)), H', ⟨by have := HK1.out; omega⟩, ⟨by (with_reducible repeat (first | apply Kd.S_alloc | apply Kd.S_drewN | apply Kd.S_drew)); exact Kd.S_mono (Kd.S_far (p := ⟨gb132, 1, none⟩) (Kd.S_types HO139.out BK132.out (by decide)) (fun _ hk => hk.2) (.slice Ao27 y137.length co27)) (fun _ hk => trivial)⟩, ⟨by (with_reducible repeat (first | apply Kd.R_alloc | apply Kd.R_drewN | apply Kd.R_drew)); exact Kd.R_mono (Kd.R_far (p := ⟨gb132, 1, none⟩) (Kd.R_types HO_133003.out BK132.out (by decide)) (fun _ hk => hk.2) (.slice Ao27 y137.length co27)) (fun _ hk => trivial)⟩, ⟨by (with_reducible repeat (first | refine blk_drewN ?_ _ | refine blk_drew ?_ | refine blk_alloc ?_ _)); refine blk_far ?_ NB127_132.out _; (with_reducible repeat (first | refine blk_drewN ?_ _ | refine blk_drew ?_ | refine blk_alloc ?_ _)); exact BK127.out⟩, ⟨by (with_reducible repeat (first | refine blk_drewN ?_ _ | refine blk_drew ?_ | refine blk_alloc ?_ _)); refine blk_far ?_ NB128_132.out _; (with_reducible repeat (first | refine blk_drewN ?_ _ | refine blk_drew ?_ | refine blk_alloc ?_ _)); exact BK128.out⟩, ⟨by (with_reducible repeat (first | refine blk_drewN ?_ _ | refine blk_drew ?_ | refine blk_alloc ?_ _)); refine blk_put (cs := #[.bool a0_0, u133001, .slice none 0 0, .slice Ao10 t129.length co10]) ?_ 1 _ (by first | rfl | (simp only [List.length_drop, List.length_take]; rfl)); (with_reducible repeat (first | refine blk_drewN ?_ _ | refine blk_drew ?_ | refine blk_alloc ?_ _)); exact BK132.out⟩, ⟨by exact zh3_ HB.out GE127.out GE128.out GE132.out⟩⟩
      ·rw [if_neg c22] at H
       cases H
     ·rw [if_neg c20] at H
      cases H
    ·rw [if_neg c19] at H
     cases H
   ·rw [if_neg c18] at H
    have c18b0 : decide (x17_1 < (l0_1.length : Int)) = false := decide_eq_false c18
    clear c18
    have H' := Aside0.mk H
    clear H
    have hnb29 := NB127_128.out
    have hnc29 := NB128_127.out
    have hnb30 := NB127_132.out
    have hnc30 := NB132_127.out
    obtain ⟨hcz31_0, hcz31_1, hcz31_2, hcz31_3⟩ := zc4 BK127.out
    obtain ⟨hfz31_0, hfz31_1, hfz31_2, hfz31_3⟩ := zz4 BK127.out
    go_wp2
    go_loopg [32] k1 (fun kq v32 w' => ∃ (x32_2 : Int) (x133002_2 : List (List Int)) (u133002 : Value), v32 = .int .i64 x32_2 ∧ Aside0 (node_own.l1 kq l0_2 (l0_2.length : Int) x32_2 a0_0 x133001_1 x133002_2 t129 = some (r1, r2, r3, r4)) ∧ Aside0 (kq ≤ k1) ∧ Aside0 (Kd.S (Kd.slice 5 (Kd.int .u8)) 27 w' w.heap.size (fun k_ => some k_ ≠ (u133002 : Value).ownBlock) u133001 x133001_1) ∧ Aside0 (Kd.S (Kd.slice 5 (Kd.int .u8)) 27 w' w.heap.size (fun k_ => some k_ ≠ (u133001 : Value).ownBlock) u133002 x133002_2) ∧ Aside0 (Kd.R (Kd.int .i64) 3 w' w.heap.size (fun _ => True) (.slice Ao10 t129.length co10) t129) ∧ Aside0 (w'.heap[gb127]? = some (.cells #[.bool a0_0, (.slice A0_1 l0_1.length c0_1), (.slice A0_2 l0_2.length c0_2), (.slice A0_3 l0_3.length c0_3)] 26 (0, 0))) ∧ Aside0 (w'.heap[gb128]? = some (.cells #[.bool false, (.slice none 0 0), (.slice none 0 0), (.slice none 0 0)] 26 (0, 0))) ∧ Aside0 (w'.heap[gb132]? = some (.cells #[.bool a0_0, u133001, u133002, (.slice Ao10 t129.length co10)] 26 (0, 0))) ∧ Aside0 (Below w.heap.size w w'))
    case atStart => exact ⟨(0), (([] : List (List Int))), (.slice none 0 0), (by first | rfl | (simp; done) | (simp [*]; done) | (simp only [i64_w]; done)), H', ⟨Nat.le_refl _⟩, ⟨by (with_reducible repeat (first | apply Kd.S_alloc | apply Kd.S_drewN | apply Kd.S_drew)); exact Kd.S_mono HO_133001.out (fun _ hk => (by simp [Value.ownBlock]))⟩, ⟨by first | exact Kd.S_nil _ _ _ _ _ | exact Kd.N_nil _ _ _ _ _ | exact Kd.V_nil _ _ _ _ _ | exact Kd.Q_nil _ _ _ _ _ | exact Kd.R_nil _ _ _ _ _⟩, ⟨by (with_reducible repeat (first | apply Kd.R_alloc | apply Kd.R_drewN | apply Kd.R_drew)); exact HO_133003.out⟩, ⟨by (with_reducible repeat (first | refine blk_drewN ?_ _ | refine blk_drew ?_ | refine blk_alloc ?_ _)); exact BK127.out⟩, ⟨by (with_reducible repeat (first | refine blk_drewN ?_ _ | refine blk_drew ?_ | refine blk_alloc ?_ _)); exact BK128.out⟩, ⟨by (with_reducible repeat (first | refine blk_drewN ?_ _ | refine blk_drew ?_ | refine blk_alloc ?_ _)); exact BK132.out⟩, ⟨by exact zh3_ HB.out GE127.out GE128.out GE132.out⟩⟩
    case round =>
     clear H'
     try clear c1
     try clear p1
     try clear q1
     try clear hx1
     try clear c2
     try clear p2
     try clear c3
     try clear c4
     try clear p6
     try clear c13
     try clear p13
     try clear q13
     try clear hx13
     try clear c15
     try clear c16
     try clear c18
     try clear c18b0
     try clear c19
     try clear c19b0
     try clear c20
     try clear c20b0
     try clear c22
     try clear c25
     try clear c27
     try clear c29
     try clear c30
     try clear hcz17_0
     try clear hcz17_1
     try clear hcz17_2
     try clear hcz17_3
     try clear hcz31_0
     try clear hcz31_1
     try clear hcz31_2
     try clear hcz31_3
     try clear hfz17_0
     try clear hfz17_1
     try clear hfz17_2
     try clear hfz17_3
     try clear hfz31_0
     try clear hfz31_1
     try clear hfz31_2
     try clear hfz31_3
     try clear hx133_0
     try clear p133
     try clear p2
     try clear q133
     (try clear BK127)
     (try clear BK128)
     (try clear BK132)
     obtain ⟨x32_2, x133002_2, u133002, rfl, HA, HK2, HO_133001, HO_133002, HO_133003, BK127, BK128, BK132, HB⟩ := hrel
     cases gk with
     | zero => exact absurd HA.out (by simp [node_own.l1])
     | succ k2 =>
      have H := HA.out
      clear HA
      simp only [node_own.l1] at H
      by_cases c32 : x32_2 < (l0_2.length : Int)
      ·rw [if_pos c32] at H
       have c32b0 : decide (x32_2 < (l0_2.length : Int)) = true := decide_eq_true c32
       clear c32
       by_cases c33 : 0 ≤ x32_2
       ·rw [if_pos c33] at H
        have c33b0 : decide (0 ≤ x32_2) = true := decide_eq_true c33
        clear c33
        by_cases c34 : x32_2 < (l0_2.length : Int)
        ·rw [if_pos c34] at H
         have c34b0 : decide (x32_2 < (l0_2.length : Int)) = true := decide_eq_true c34
         clear c34
         obtain ⟨t141, A35, H⟩ := zm H
         (try dsimp only at H)
         by_cases c36 : x133002_2.length < 5864062014805
         ·rw [if_pos c36] at H
          have LMc36 := Aside0.mk c36
          clear c36
          obtain ⟨y144, hy144⟩ : ∃ y_ : List (List Int), y_ = (x133002_2 ++ [t141]) := ⟨_, rfl⟩
          replace H : (node_own.l1 k2 l0_2 (l0_2.length : Int) (wrap64 (x32_2 + 1)) a0_0 x133001_1 y144 t129) = some (r1, r2, r3, r4) := by first | (rw [hy144]; with_reducible exact H) | (have H2_ := (Option.bind_some _ _).symm.trans H; rw [hy144]; with_reducible exact H2_) | (have H2_ := (Option.bind_some _ _).symm.trans H; with_reducible exact H2_) | with_reducible exact H | (rw [hy144]; exact H) | exact H
          have Ny144 := Aside0.mk hy144
          clear hy144
          have H' := Aside0.mk H
          clear H
          have p140 : 0 ≤ (x32_2 : Int) := of_decide_eq_true za_
          have q140 : x32_2 < (l0_2.length : Int) := of_decide_eq_true za_
          obtain ⟨ad140, A140_0, c140_0, e140, hx140_0, hl140_0, hi140_0⟩ := at_L1 HR0_2.out x32_2 p140 q140
          cases e140
          replace hx140_0 := zx_ HB.out hx140_0
          have HR140_0 := Aside0.mk hi140_0
          have HC140_0 := Aside0.mk hl140_0
          clear hi140_0 hl140_0
          replace p140 := eq_true p140
          replace q140 := eq_true q140
          try go_wp2
          have n0_ := Aside0.mk (Kd.S_drew HO_133001.out)
          have n1_ := Aside0.mk (Kd.S_drew HO_133002.out)
          have n2_ := Aside0.mk (Kd.R_drew HO_133003.out)
          have n3_ := Aside0.mk (blk_drew BK127.out)
          have n4_ := Aside0.mk (blk_drew BK128.out)
          have n5_ := Aside0.mk (blk_drew BK132.out)
          have n6_ := Aside0.mk (below_drew1 HB.out)
          clear HO_133001 HO_133002 HO_133003 BK127 BK128 BK132 HB
          have HO_133001 := n0_
          have HO_133002 := n1_
          have HO_133003 := n2_
          have BK127 := n3_
          have BK128 := n4_
          have BK132 := n5_
          have HB := n6_
          clear n0_ n1_ n2_ n3_ n4_ n5_ n6_
          refine start_ (n := 8) (S := fun w' => w'.cell? ⟨gb132, 0, none⟩ = some (.bool a0_0) ∧ w'.cell? ⟨gb132, 1, none⟩ = some (u133001) ∧ w'.cell? ⟨gb132, 2, none⟩ = some (u133002) ∧ w'.cell? ⟨gb132, 3, none⟩ = some (.slice Ao10 t129.length co10)) (ds := [7]) (zB 0 8) (by kernel_rfl) rfl rfl ⟨(blk_cell BK132.out 0).trans rfl, (blk_cell BK132.out 1).trans rfl, (blk_cell BK132.out 2).trans rfl, (blk_cell BK132.out 3).trans rfl⟩ (fun hHeld => ?_); refine with_tabW node_own.tab10 node_own.bits10 (fun HT_ HW_ => ?_)
          generalize wr.drew = w37 at HO_133001 HO_133002 HO_133003 BK127 BK128 BK132 HB hHeld ⊢
          refine zpu 0 (some 36) (zB 1 7) (any_of HT_.out (by kernel_rfl)) ?_
          refine zpu 2 (some 38) #[true, false, true, false, false, false, false, false] (any_of HT_.out (by kernel_rfl)) ?_
          refine zta 1 (some 37) (zB 3 5) (take_ofW HT_.out HW_.out (by kernel_rfl)) hHeld ?_
          refine one_ (i := 3) (N := some 39) (zB 4 4) rfl rfl (one_of HT_.out (by kernel_rfl)) (by decide) (fun K hK => ?_)
          refine goes_ Try.func27 (by kernel_rfl) rfl #[.slice A140_0 (rd_L1 l0_2 x32_2).length c140_0] (by rfl) rfl rfl zl_ ?_
          with_reducible refine (bytes_Clone.calls _ _ (rd_L1 l0_2 x32_2) t141 _ ?side1 ?side2 A35.out).mono ?_
          (case side1 => exact zc_ (Kd.C_below HR140_0.out HB.out))
          (case side2 => exact HC140_0.out)
          rintro e w38 ⟨v142, rfl, ho0, hb⟩
          refine ⟨_, rfl, ?_⟩
          have n0_ := Aside0.mk (Kd.S_elder' (by (with_reducible repeat (first | apply Kd.S_alloc | apply Kd.S_drewN | apply Kd.S_drew)); exact HO_133001.out) (Kd.R_base ho0) hb)
          have n1_ := Aside0.mk (Kd.S_elder' (by (with_reducible repeat (first | apply Kd.S_alloc | apply Kd.S_drewN | apply Kd.S_drew)); exact HO_133002.out) (Kd.R_base ho0) hb)
          have n2_ := Aside0.mk (Kd.R_below (zR_ HO_133003.out) hb)
          have n3_ := Aside0.mk (Kd.R_lower ho0 (below_size (zh3_ HB.out GE127.out GE128.out GE132.out)))
          have n4_ := Aside0.mk (blk_below (zb_ BK127.out) hb)
          have n5_ := Aside0.mk (blk_below (zb_ BK128.out) hb)
          have n6_ := Aside0.mk (blk_below (zb_ BK132.out) hb)
          have n7_ := Aside0.mk (below_step (zh3_ HB.out GE127.out GE128.out GE132.out) hb)
          clear HO_133001 HO_133002 HO_133003 BK127 BK128 BK132 HB
          have HO_133001 := n0_
          have HO_133002 := n1_
          have HO_133003 := n2_
          have HO143 := n3_
          have BK127 := n4_
          have BK128 := n5_
          have BK132 := n6_
          have HB := n7_
          clear n0_ n1_ n2_ n3_ n4_ n5_ n6_ n7_
          (try clear hb)
          (try clear hb2)
          (try clear hk)
          (try clear hi)
          (try clear ho0)
          obtain ⟨Ao40, co40, eo40⟩ := Kd.R_slice HO143.out
          (first | subst eo40 | (injection eo40 with f1_ f2_ f3_; have f4_ := f1_.symm; have f5_ := f3_.symm; clear f1_ f2_ f3_; subst f4_; subst f5_))
          refine hK.out _ _ ⟨(blk_cell BK132.out 0).trans rfl, (blk_cell BK132.out 1).trans rfl, (blk_cell BK132.out 2).trans rfl, (blk_cell BK132.out 3).trans rfl⟩ (fun hHeld => ?_)
          clear hK K
          refine zno 39 ?_
          refine one_ (i := 4) (N := some 40) (zB 5 3) rfl rfl (one_of HT_.out (by kernel_rfl)) (by decide) (fun K hK => ?_)
          refine value_ (w1 := ?_) (v := ?_) (by rfl) rfl ?_ ?_
          rotate_left 2
          ·go_simp
           constructor
           ·rfl
           ·rfl
          refine hK.out _ _ ⟨(blk_cell (blk_alloc BK132.out _) 0).trans rfl, (blk_cell (blk_alloc BK132.out _) 1).trans rfl, (blk_cell (blk_alloc BK132.out _) 2).trans rfl, (blk_cell (blk_alloc BK132.out _) 3).trans rfl⟩ (fun hHeld => ?_)
          clear hK K
          refine zno 40 ?_
          refine one_ (i := 5) (N := some 41) (zB 6 2) rfl rfl (one_of HT_.out (by kernel_rfl)) (by decide) (fun K hK => ?_)
          refine Kd.S_append_step (Kd.slice 5 (Kd.int .u8)) (w0 := w) w.heap.size (by rfl) (.tmp 37) (.tmp 40) 22 27 (.slice none 0 0) 24 rfl Try.underlying22 info27 rfl (by decide) (by omega) u133002 x133002_2 t141 [.slice Ao40 t141.length co40] (fun k_ => some k_ ≠ (u133001 : Value).ownBlock) (fun k_ => some k_ = (.slice Ao40 t141.length co40 : Value).ownBlock) rfl rfl ?aP (fun k_ hk_ => ((Kd.R_mono (ok' := fun k_ => ((fun k_ => some k_ ≠ (u133001 : Value).ownBlock)) k_ ∧ some k_ ≠ (u133002 : Value).ownBlock) (Kd.R_apart' (Kd.R_apart' (HO143.out) (Kd.S_typed HO_133001.out) (by decide)) (Kd.S_typed HO_133002.out) (by decide)) (fun k_ hk => ⟨hk.1.2, hk.2⟩))).1 k_ hk_.symm) ?aF ?aO ?aB ?aS ?aL ?_
          (case aP => exact Kd.M_row (Kd.R_mono (Kd.R_tight rfl (Kd.R_mono (ok' := fun k_ => ((fun k_ => some k_ ≠ (u133001 : Value).ownBlock)) k_ ∧ some k_ ≠ (u133002 : Value).ownBlock) (Kd.R_apart' (Kd.R_apart' (HO143.out) (Kd.S_typed HO_133001.out) (by decide)) (Kd.S_typed HO_133002.out) (by decide)) (fun k_ hk => ⟨hk.1.2, hk.2⟩))) (fun _ h_ => h_)))
          (case aB => exact (zh3_ HB.out GE127.out GE128.out GE132.out))
          (case aF => exact (fun k_ hk => Kd.fresh' (Kd.S_lt (by (with_reducible repeat (first | apply Kd.S_alloc | apply Kd.S_drewN | apply Kd.S_drew)); exact HO_133001.out)) k_ hk))
          (case aO => exact (by (with_reducible repeat (first | apply Kd.S_alloc | apply Kd.S_drewN | apply Kd.S_drew)); exact Kd.S_mono HO_133002.out (fun k_ hk => ⟨hk.1, fun e_ => hk.2 e_⟩)))
          (case aS => exact (below_size (zh3_ HB.out GE127.out GE128.out GE132.out)))
          (case aL => have := LMc36.out; omega)
          intro v145 w39 ho hb hg hat
          rw [← Ny144.out] at ho
          have n0_ := Aside0.mk (Kd.S_after (ok := (fun k_ => some k_ ≠ (.slice Ao40 t141.length co40 : Value).ownBlock)) (by (with_reducible repeat (first | apply Kd.S_alloc | apply Kd.S_drewN | apply Kd.S_drew)); exact Kd.S_mono HO_133001.out (fun _ hk => ⟨hk.2, hk.1⟩)) hg hat)
          have n1_ := Aside0.mk (Kd.R_over' (zR_ HO_133003.out) (Kd.S_typed (by (with_reducible repeat (first | apply Kd.S_alloc | apply Kd.S_drewN | apply Kd.S_drew)); exact HO_133002.out)) (by decide) hg)
          have n2_ := Aside0.mk (blk_grown (zb_ BK127.out) hg (Kd.S_ne HO_133002.out BK127.out (by decide)))
          have n3_ := Aside0.mk (blk_grown (zb_ BK128.out) hg (Kd.S_ne HO_133002.out BK128.out (by decide)))
          have n4_ := Aside0.mk (blk_grown (zb_ BK132.out) hg (Kd.S_ne HO_133002.out BK132.out (by decide)))
          have n5_ := Aside0.mk (hb)
          have n6_ := Aside0.mk (ho)
          clear HO_133001 HO_133003 BK127 BK128 BK132 HB HO_133002 HO143
          have HO_133001 := n0_
          have HO_133003 := n1_
          have BK127 := n2_
          have BK128 := n3_
          have BK132 := n4_
          have HB := n5_
          have HO146 := n6_
          clear n0_ n1_ n2_ n3_ n4_ n5_ n6_ ho hb hg hat
          obtain ⟨Ao41, co41, eo41⟩ := Kd.S_slice HO146.out
          (first | subst eo41 | (injection eo41 with f1_ f2_ f3_; have f4_ := f1_.symm; have f5_ := f3_.symm; clear f1_ f2_ f3_; subst f4_; subst f5_))
          refine hK.out _ _ ⟨(blk_cell BK132.out 0).trans rfl, (blk_cell BK132.out 1).trans rfl, (blk_cell BK132.out 2).trans rfl, (blk_cell BK132.out 3).trans rfl⟩ (fun hHeld => ?_)
          clear hK K
          refine zno 41 ?_
          refine zpu 6 (some 42) (zB 7 1) (any_of HT_.out (by kernel_rfl)) ?_
          refine last_ (i := 7) (N := none) (zB 8 0) rfl rfl (one_of HT_.out (by kernel_rfl)) (by decide) (fun K hK => ?_)
          have hs42 : w39.cell? ⟨gb132, 2, none⟩ = some (u133002) := (blk_cell BK132.out 2).trans rfl
          have hfs42 := blk_frozen BK132.out 2
          have hns42_0 := NB127_132.out
          have hns42_1 := NB128_132.out
          have hms42_0 := NB132_127.out
          have hms42_1 := NB132_128.out
          refine skip_ (w1 := ?_) (by rfl) rfl ?_ ?_
          rotate_left
          ·go_simp
           rfl
          refine hK.out _ _ ?_
          clear hK K
          refine done_ (done_of HT_.out (by kernel_rfl)) ?_
          try go_wp2
          go_roundg k2
          case measure => have := HK1.out; have := HK2.out; omega
          case rel => exact ⟨(wrap64 (x32_2 + 1)), (y144), (.slice Ao41 y144.length co41), (by first | rfl | (simp; done) | (simp [*]; done) | (simp only [i64_w]; done)), H', ⟨by have := HK1.out; have := HK2.out; omega⟩, ⟨by (with_reducible repeat (first | apply Kd.S_alloc | apply Kd.S_drewN | apply Kd.S_drew)); exact Kd.S_mono (Kd.S_far (p := ⟨gb132, 2, none⟩) (Kd.S_types HO_133001.out BK132.out (by decide)) (fun _ hk => hk.2) (.slice Ao41 y144.length co41)) (fun _ hk => hk.1.2)⟩, ⟨by (with_reducible repeat (first | apply Kd.S_alloc | apply Kd.S_drewN | apply Kd.S_drew)); exact Kd.S_mono (Kd.S_far (p := ⟨gb132, 2, none⟩) (Kd.S_types HO146.out BK132.out (by decide)) (fun _ hk => hk.2) (.slice Ao41 y144.length co41)) (fun _ hk => hk.1)⟩, ⟨by (with_reducible repeat (first | apply Kd.R_alloc | apply Kd.R_drewN | apply Kd.R_drew)); exact Kd.R_mono (Kd.R_far (p := ⟨gb132, 2, none⟩) (Kd.R_types HO_133003.out BK132.out (by decide)) (fun _ hk => hk.2) (.slice Ao41 y144.length co41)) (fun _ hk => trivial)⟩, ⟨by (with_reducible repeat (first | refine blk_drewN ?_ _ | refine blk_drew ?_ | refine blk_alloc ?_ _)); refine blk_far ?_ NB127_132.out _; (with_reducible repeat (first | refine blk_drewN ?_ _ | refine blk_drew ?_ | refine blk_alloc ?_ _)); exact BK127.out⟩, ⟨by (with_reducible repeat (first | refine blk_drewN ?_ _ | refine blk_drew ?_ | refine blk_alloc ?_ _)); refine blk_far ?_ NB128_132.out _; (with_reducible repeat (first | refine blk_drewN ?_ _ | refine blk_drew ?_ | refine blk_alloc ?_ _)); exact BK128.out⟩, ⟨by (with_reducible repeat (first | refine blk_drewN ?_ _ | refine blk_drew ?_ | refine blk_alloc ?_ _)); refine blk_put (cs := #[.bool a0_0, u133001, u133002, .slice Ao10 t129.length co10]) ?_ 2 _ (by first | rfl | (simp only [List.length_drop, List.length_take]; rfl)); (with_reducible repeat (first | refine blk_drewN ?_ _ | refine blk_drew ?_ | refine blk_alloc ?_ _)); exact BK132.out⟩, ⟨by exact zh3_ HB.out GE127.out GE128.out GE132.out⟩⟩
         ·rw [if_neg c36] at H
          cases H
        ·rw [if_neg c34] at H
         cases H
       ·rw [if_neg c33] at H
        cases H
      ·rw [if_neg c32] at H
       have c32b0 : decide (x32_2 < (l0_2.length : Int)) = false := decide_eq_false c32
       clear c32
       simp only [Option.some.injEq, Prod.mk.injEq] at H
       obtain ⟨rfl, rfl, rfl, rfl⟩ := H
       have hnb43 := NB132_127.out
       have hnc43 := NB127_132.out
       have hnb44 := NB132_128.out
       have hnc44 := NB128_132.out
       obtain ⟨hcz45_0, hcz45_1, hcz45_2, hcz45_3⟩ := zc4 BK132.out
       obtain ⟨hfz45_0, hfz45_1, hfz45_2, hfz45_3⟩ := zz4 BK132.out
       have hnb46 := NB128_127.out
       have hnc46 := NB127_128.out
       obtain ⟨hcz47_0, hcz47_1, hcz47_2, hcz47_3⟩ := zc4 BK128.out
       obtain ⟨hfz47_0, hfz47_1, hfz47_2, hfz47_3⟩ := zz4 BK128.out
       obtain ⟨Ao48, co48, eo48⟩ := Kd.S_slice HO_133001.out
       subst eo48
       obtain ⟨Ao49, co49, eo49⟩ := Kd.S_slice HO_133002.out
       subst eo49
       go_wp2
       refine bodyPost_ret (results_cell_row rfl _ _ gb128 26 #[.bool a0_0, .slice Ao48 x133001_1.length co48, .slice Ao49 x133002_2.length co49, .slice Ao10 t129.length co10] (0, 0) _ rfl (zp_ BK128.out) Try.underlying26 rfl (by kernel_rfl)) rfl ?_
       exact ⟨_, _, _, by first | rfl | (simp [errW_none, errW_some] <;> rfl) | (simp [*, errW_none, errW_some] <;> rfl), by (with_reducible repeat (first | apply Kd.S_alloc | apply Kd.S_drewN | apply Kd.S_drew)); exact Kd.S_mono (Kd.S_far (p := ⟨gb128, 3, none⟩) (Kd.S_far (p := ⟨gb128, 2, none⟩) (Kd.S_far (p := ⟨gb128, 1, none⟩) (Kd.S_far (p := ⟨gb128, 0, none⟩) (Kd.S_types HO_133001.out BK128.out (by decide)) (fun _ hk => hk.2) (.bool a0_0)) (fun _ hk => hk.2) (.slice Ao48 x133001_1.length co48)) (fun _ hk => hk.2) (.slice Ao49 x133002_2.length co49)) (fun _ hk => hk.2) (.slice Ao10 t129.length co10)) (fun _ hk => hk.1), by (with_reducible repeat (first | apply Kd.S_alloc | apply Kd.S_drewN | apply Kd.S_drew)); exact Kd.S_mono (Kd.S_far (p := ⟨gb128, 3, none⟩) (Kd.S_far (p := ⟨gb128, 2, none⟩) (Kd.S_far (p := ⟨gb128, 1, none⟩) (Kd.S_far (p := ⟨gb128, 0, none⟩) (Kd.S_types HO_133002.out BK128.out (by decide)) (fun _ hk => hk.2) (.bool a0_0)) (fun _ hk => hk.2) (.slice Ao48 x133001_1.length co48)) (fun _ hk => hk.2) (.slice Ao49 x133002_2.length co49)) (fun _ hk => hk.2) (.slice Ao10 t129.length co10)) (fun _ hk => hk.1), by (with_reducible repeat (first | apply Kd.R_alloc | apply Kd.R_drewN | apply Kd.R_drew)); exact Kd.R_mono (Kd.R_far (p := ⟨gb128, 3, none⟩) (Kd.R_far (p := ⟨gb128, 2, none⟩) (Kd.R_far (p := ⟨gb128, 1, none⟩) (Kd.R_far (p := ⟨gb128, 0, none⟩) (Kd.R_types HO_133003.out BK128.out (by decide)) (fun _ hk => hk.2) (.bool a0_0)) (fun _ hk => hk.2) (.slice Ao48 x133001_1.length co48)) (fun _ hk => hk.2) (.slice Ao49 x133002_2.length co49)) (fun _ hk => hk.2) (.slice Ao10 t129.length co10)) (fun _ hk => trivial), by exact zh3_ HB.out GE127.out GE128.out GE132.out⟩
end Go.Proofs.Ytcbgichkeecgiaa.Print
namespace Go.Proofs.Ytcbgichkeecgiaa.Print
open Go.RowKit Go.Proofs.YtcbgichkeecgiaaW.PrintWords Go.Proofs.YtcbgichkeecgiaaW.PrintLast Go.Proofs.YtcbgichkeecgiaaW.PrintMore
attribute [local go_sem] max2_mx min2_mn max_two min_two max_three min_three max_four min_four
set_option linter.unusedVariables false
set_option linter.unusedSimpArgs false
set_option maxHeartbeats 4000000 in
set_option maxRecDepth 100000 in
theorem slices_Insert_byte_byte.end_ (w : World) (base : Nat) (v : Value) (n : Nat) (xs : List Value) (hO : w.ownsRow base 27 1 v n xs) (vb : Addr) (vc : Nat) (ys : List Value) (hy : ∀ j u, ys[j]? = some u → w.cell? (vb.add j) = some u) (hyl : ys.length = 1) (h1 : ∀ u ∈ ys, u.oneCell' = true) (hbig : (n + 1) * 24 ≤ 140737488355328) (hbase : base ≤ w.heap.size) :
  Calls Try.prog 28 #[v, .int .i64 n, .slice (some vb) 1 vc] w fun e w' => ∃ v1, e = .returned v1 ∧ w'.ownsRow base 27 1 v1 (n + 1) (xs ++ ys) ∧ w.grownBy w' v.ownBlock ∧ (v1.ownBlock = v.ownBlock ∨ v1.ownBlock = some w.heap.size) := by
 obtain ⟨i0, hi0, hz0, hzs, hzb⟩ := info_parts info27
 obtain ⟨v1, w1, hr, h2, h3, _, h5⟩ := run_append_own_at (P := Try.prog) (w := w) base 22 22 27 i0 (.slice none 0 0) 1 24 Try.underlying22 hi0 hz0 hzs hzb rfl (by omega) v n xs hO vb 1 vc ys (by simpa using hyl) hy h1 (by simp only [maxLen]; omega) hbig hbase
 have H2 := Aside0.mk h2
 have H3 := Aside0.mk h3
 have H5 := Aside0.mk h5
 clear h2 h3 h5
 have hshape : ∃ A c, v = .slice A n c ∧ n ≤ c := by
  rcases hO.2 with ⟨rfl, rfl⟩ | ⟨g, cap, cur, rfl, _, _, h, _⟩
  ·exact ⟨_, _, rfl, Nat.le_refl _⟩
  ·exact ⟨_, _, rfl, h⟩
 have HY := Aside0.mk hy
 clear hO hy
 obtain ⟨A, c, rfl, hnc⟩ := hshape
 have hn63 : n ≤ 9223372036854775807 := by omega
 go_enter Try.func28, Try.ntmps28
 go_wp2_with (at_builtin; refine Lib.wpList_append_run _ rfl _ _ _ _ rfl _ _ rfl rfl _ _ hr ?_)
 all_goals go_ret
 all_goals exact ⟨v1, rfl, H2.out, by cases A <;> exact H3.out, by cases A <;> exact H5.out⟩
set_option maxHeartbeats 4000000 in
set_option maxRecDepth 100000 in
theorem slices_Insert_byte_byte.grow_ (w : World) (g n c i : Nat) (cur : Array Value) (xs : List Value) (hg : w.heap[g]? = some (.cells cur 27 (0, 0))) (hsz : cur.size = c * 1) (hxs : cur.toList.take (n * 1) = xs) (hxl : xs.length = n * 1) (h1x : ∀ u ∈ xs, u.oneCell' = true) (hi : i < n) (hnc : n ≤ c) (hroom : c < n + 1)
  (vb : Addr) (vc : Nat) (ys : List Value) (hy : ∀ j u, ys[j]? = some u → w.cell? (vb.add j) = some u) (hyl : ys.length = 1) (h1 : ∀ u ∈ ys, u.oneCell' = true) (hbig : (n + 1) * 24 ≤ 140737488355328) :
  Calls Try.prog 28 #[.slice (some ⟨g, 0, none⟩) n c, .int .i64 i, .slice (some vb) 1 vc] w fun e w' => ∃ G R, e = .returned (.slice (some ⟨w.heap.size, 0, none⟩) (n + 1) G) ∧ (n + 1 ≤ G ∧ G ≤ maxLen) ∧ w'.heap[w.heap.size]? = some (.cells R 27 (0, 0)) ∧ R.size = G * 1 ∧ R.toList.take ((n + 1) * 1) = xs.take (i * 1) ++ ys ++ xs.drop (i * 1) ∧ w.grownBy w' none := by
 obtain ⟨i0, hi0, hz0, hzs, hzb⟩ := info_parts info27
 have hold : (Builtin.firstCells i0.size i (.slice (some ⟨g, 0, none⟩) i c)).run Try.prog w.drew = .ok (xs.take (i * 1)).toArray w.drew := by
  rw [hzs]
  exact run_firstCells_some w.drew 1 i ⟨g, 0, none⟩ i c (xs.take (i * 1)) (by rw [List.length_take]; omega) (fun j v hj => by
   rw [add_plain, cell_of_row _ _ _ _ _ _ (show w.drew.heap[g]? = _ from hg), ← Array.getElem?_toList]
   rw [List.getElem?_take] at hj
   split at hj
   ·rw [← hxs, List.getElem?_take] at hj
    split at hj
    ·exact hj
    ·cases hj
   ·cases hj)
 have hkk : (n : Int) + (1 : Int) - (i : Int) = ((n + 1 - i : Nat) : Int) := by omega
 have hik : i + (n + 1 - i) = n + 1 := by omega
 obtain ⟨G, R0, hG, hGl, hR0, hR0t, hrz⟩ : ∃ G R0, n + 1 ≤ G ∧ G ≤ maxLen ∧ Array.size R0 = G * 1 ∧ R0.toList.take (i * 1) = xs.take (i * 1) ∧ (Builtin.append_ #[22, 3] 22 #[.slice (some ⟨g, 0, none⟩) i c, .int .i64 ((n : Int) + (1 : Int) - (i : Int))]).run Try.prog w = .ok (.slice (some ⟨w.heap.size, 0, none⟩) (n + 1) G) (w.drew.alloc (.cells R0 27)) := by
  have h := Lib.run_append_grow_zeros w 22 3 22 27 i0 _ .i64 .i64 Try.underlying22 Try.underlying3 hi0 hz0 (some ⟨g, 0, none⟩) i c (xs.take (i * 1)) hold (n + 1 - i) (by omega) (by omega) (by omega) (by omega) (by rw [hzb]; omega) (by rw [hzb, hik]; exact growslice_fits hroom hbig)
  rw [hik, ← hkk] at h
  have hge := grownCap_ge w (n + 1) c 27
  refine ⟨_, _, hge, grownCap_le_maxLen w (n + 1) c 27 (by unfold maxLen; omega), ?_, ?_, h⟩
  ·rw [Array.size_append, Array.size_append, List.size_toArray, size_zeroCells, size_zeroCells, List.length_take, show ((.slice none 0 0) : Value).cells.size = 1 from rfl, Nat.min_eq_left (by omega), ← Nat.add_mul, ← Nat.add_mul]
   congr 1
   omega
  ·rw [Array.toList_append, Array.toList_append, List.append_assoc, List.take_append_of_le_length (by rw [List.length_take]; omega), List.take_of_length_le (by rw [List.length_take]; omega)]
 have hgw : g < w.heap.size := blk_lt hg
 obtain ⟨R1, hR1⟩ : ∃ R1, R1 = (R0.toList.take (i * 1) ++ ys ++ R0.toList.drop (i * 1 + ys.length)).toArray := ⟨_, rfl⟩
 obtain ⟨R2, hR2⟩ : ∃ R2, R2 = (R1.toList.take ((i + 1) * 1) ++ xs.drop (i * 1) ++ R1.toList.drop ((i + 1) * 1 + (xs.drop (i * 1)).length)).toArray := ⟨_, rfl⟩
 have hdl : (xs.drop (i * 1)).length = (n - i) * 1 := by rw [List.length_drop, hxl, Nat.sub_mul]
 have hR1s : R1.size = G * 1 := by
  rw [hR1, List.size_toArray, List.length_append, List.length_append, List.length_take, List.length_drop, Array.length_toList, hyl, hR0]
  omega
 have hR2s : R2.size = G * 1 := by
  rw [hR2]
  generalize xs.drop (i * 1) = D at hdl
  rw [List.size_toArray, List.length_append, List.length_append, List.length_take, List.length_drop, Array.length_toList, hdl, hR1s]
  omega
 have hR1t : R1.toList.take ((i + 1) * 1) = xs.take (i * 1) ++ ys := by
  have hl0 : (R0.toList.take (i * 1)).length = i * 1 := by rw [List.length_take, Array.length_toList, hR0]; omega
  rw [hR1, List.take_append_of_le_length (by rw [List.length_append, hl0, hyl]; omega), List.take_of_length_le (by rw [List.length_append, hl0, hyl]; omega), hR0t]
 have hR2t : R2.toList.take ((n + 1) * 1) = xs.take (i * 1) ++ ys ++ xs.drop (i * 1) := by
  have hl1 : (xs.take (i * 1) ++ ys).length = (i + 1) * 1 := by rw [List.length_append, List.length_take, hyl]; omega
  rw [hR2, hR1t, List.take_append_of_le_length (by rw [List.length_append, hl1, hdl]; omega), List.take_of_length_le (by rw [List.length_append, hl1, hdl]; omega)]
 have hNW : (w.alloc (.cells R0 27)).drew.heap[w.heap.size]? = some (.cells R0 27 (0, 0)) := heap_alloc_new w _
 have hmin1 : Nat.min 1 (n + 1 - i) = 1 := Nat.min_eq_left (by omega)
 have hmin2 : Nat.min (n - i) (n - i) = n - i := Nat.min_eq_left (Nat.le_refl _)
 have hcp1 : (Builtin.copy_ #[22, 22] 3 #[.slice (some ⟨w.heap.size, i * 1, none⟩) (n + 1 - i) (G - i), .slice (some vb) 1 vc]).run Try.prog (w.alloc (.cells R0 27)).drew = .ok (goInt (Nat.min 1 (n + 1 - i))) ((w.alloc (.cells R0 27)).drew.setRow w.heap.size R1) := by
  rw [hR1]
  exact run_copy_rowsz _ 22 22 3 27 1 w.heap.size (i * 1) (n + 1 - i) (G - i) vb 1 vc R0 27 ys Try.underlying22 (by rw [hi0]; simp [hzs]) hNW (by rw [hyl, hmin1])
   (fun j v hj => by
    have := hy j v hj
    exact pw_cell_below (below_alloc (Below.refl _ _) _) this) (by rw [hyl, hR0]; omega) h1
 have hNW1 : ((w.alloc (.cells R0 27)).drew.setRow w.heap.size R1).drew.heap[w.heap.size]? = some (.cells R1 27 (0, 0)) := setRow_heap _ _ R0 R1 27 _ hNW
 have hgW1 : ((w.alloc (.cells R0 27)).drew.setRow w.heap.size R1).drew.heap[g]? = some (.cells cur 27 (0, 0)) := by
  show ((w.alloc (.cells R0 27)).setRow w.heap.size R1).heap[g]? = _
  rw [setRow_other _ _ _ _ (by omega)]
  exact blk_alloc hg _
 have hcp2 : (Builtin.copy_ #[22, 22] 3 #[.slice (some ⟨w.heap.size, (i + 1) * 1, none⟩) (n - i) (G - (i + 1)), .slice (some ⟨g, i * 1, none⟩) (n - i) (c - i)]).run Try.prog ((w.alloc (.cells R0 27)).drew.setRow w.heap.size R1).drew = .ok (goInt (Nat.min (n - i) (n - i))) (((w.alloc (.cells R0 27)).drew.setRow w.heap.size R1).drew.setRow w.heap.size R2) := by
  rw [hR2]
  exact run_copy_rowsz _ 22 22 3 27 1 w.heap.size ((i + 1) * 1) (n - i) (G - (i + 1)) ⟨g, i * 1, none⟩ (n - i) (c - i) R1 27 (xs.drop (i * 1)) Try.underlying22 (by rw [hi0]; simp [hzs]) hNW1 (by rw [hdl, hmin2])
   (fun j v hj => by
    rw [Addr.add_lit, cell_of_row _ _ _ _ _ _ hgW1, ← Array.getElem?_toList]
    rw [List.getElem?_drop, ← hxs, List.getElem?_take] at hj
    split at hj
    ·exact hj
    ·cases hj) (by rw [hdl, hR1s]; omega) (fun v hv => h1x v (List.mem_of_mem_drop hv))
 have hfin : (((w.alloc (.cells R0 27)).drew.setRow w.heap.size R1).drew.setRow w.heap.size R2).heap[w.heap.size]? = some (.cells R2 27 (0, 0)) := setRow_heap _ _ R1 R2 27 _ hNW1
 have hgrown : w.grownBy (((w.alloc (.cells R0 27)).drew.setRow w.heap.size R1).drew.setRow w.heap.size R2) none := by
  have hB : Below w.heap.size w (((w.alloc (.cells R0 27)).drew.setRow w.heap.size R1).drew.setRow w.heap.size R2) :=
   below_setRow (below_drew (below_setRow (below_drew (below_alloc (Below.refl _ _) _)) (Nat.le_refl _) _)) (Nat.le_refl _) _
  exact grown_of_below hB none
 have F1 := Aside0.mk hfin
 have F2 := Aside0.mk hgrown
 have F3 := Aside0.mk hR2s
 have F4 := Aside0.mk hR2t
 have F5 := Aside0.mk (And.intro hG hGl)
 clear hmin1 hmin2 hfin hgrown hR2s hR2t hR2 hR1t hR1s hR1 hdl hNW hNW1 hgW1 hR0 hR0t hy
 have hin : i ≤ n := by omega
 have hGi : ¬ (G = i) := by omega
 have hGi1 : ¬ (G = i + 1) := by omega
 have hci : ¬ (c = i) := by omega
 clear hkk hik hold
 have hw1 : IntKind.i64.wrap ((i : Int) + (1 : Int)) = (i : Int) + (1 : Int) := by rw [IntKind.wrap_i64]; omega
 have hb1 : (0 : Int) ≤ (i : Int) + (1 : Int) := by omega
 have mixed : Try.prog.follows Departure.mixedOrders = true := by kernel_rfl
 have htn : ((i : Int) + (1 : Int)).toNat = i + 1 := by omega
 (try simp only [Nat.mul_one] at hrz hcp1 hcp2)
 go_enter Try.func28, Try.ntmps28
 go_wp2_with (first
  | (at_builtin; refine Lib.wpList_append_run _ rfl _ _ _ _ rfl _ _ rfl rfl _ _ hrz ?_)
  | (at_builtin; refine wpList_copy_runI _ rfl _ _ 22 22 rfl _ _ rfl rfl hcp1 ?_)
  | (at_builtin; refine wpList_copy_runI _ rfl _ _ 22 22 rfl _ _ rfl rfl hcp2 ?_))
 go_region_law_o (refine step_copy_runI rfl _ _ 22 22 rfl _ _ (by simp [Act.eval, Act.put]) (by simp [Act.eval, Act.put]) hcp2 ?_)
 go_wp2
 go_ret
 exact ⟨G, R2, rfl, F5.out, F1.out, F3.out, F4.out, F2.out⟩
set_option maxHeartbeats 4000000 in
set_option maxRecDepth 100000 in
theorem slices_Insert_byte_byte.shift_ (w : World) (g n c i : Nat) (cur : Array Value) (xs : List Value) (hg : w.heap[g]? = some (.cells cur 27 (0, 0))) (hsz : cur.size = c * 1) (hcm : c ≤ maxLen) (hxs : cur.toList.take (n * 1) = xs) (hxl : xs.length = n * 1) (h1x : ∀ u ∈ xs, u.oneCell' = true) (hi : i < n) (hroom : n + 1 ≤ c)
  (vb : Addr) (vc : Nat) (ys : List Value) (hvg : vb.block ≠ g) (hy : ∀ j u, ys[j]? = some u → w.cell? (vb.add j) = some u) (hyl : ys.length = 1) (h1 : ∀ u ∈ ys, u.oneCell' = true) :
  Calls Try.prog 28 #[.slice (some ⟨g, 0, none⟩) n c, .int .i64 i, .slice (some vb) 1 vc] w fun e w' => ∃ R, e = .returned (.slice (some ⟨g, 0, none⟩) (n + 1) c) ∧ w'.heap[g]? = some (.cells R 27 (0, 0)) ∧ R.size = c * 1 ∧ R.toList.take ((n + 1) * 1) = xs.take (i * 1) ++ ys ++ xs.drop (i * 1) ∧ w.grownBy w' (some g) := by
 obtain ⟨i0, hi0, hz0, hzs, hzb⟩ := info_parts info27
 have hc63 : c ≤ 9223372036854775807 := by simp only [maxLen] at hcm; omega
 have hgw : g < w.heap.size := blk_lt hg
 have hdl : (xs.drop (i * 1)).length = (n - i) * 1 := by rw [List.length_drop, hxl, Nat.sub_mul]
 obtain ⟨D, hD⟩ : ∃ D, D = xs.drop (i * 1) := ⟨_, rfl⟩
 rw [← hD] at hdl ⊢
 obtain ⟨R1, hR1⟩ : ∃ R1, R1 = (cur.toList.take ((i + 1) * 1) ++ D ++ cur.toList.drop ((i + 1) * 1 + D.length)).toArray := ⟨_, rfl⟩
 obtain ⟨R2, hR2⟩ : ∃ R2, R2 = (R1.toList.take (i * 1) ++ ys ++ R1.toList.drop (i * 1 + ys.length)).toArray := ⟨_, rfl⟩
 have hR1s : R1.size = c * 1 := by
  rw [hR1, List.size_toArray, List.length_append, List.length_append, List.length_take, List.length_drop, Array.length_toList, hdl, hsz]
  omega
 have hR2s : R2.size = c * 1 := by
  rw [hR2, List.size_toArray, List.length_append, List.length_append, List.length_take, List.length_drop, Array.length_toList, hyl, hR1s]
  omega
 have hl0 : (cur.toList.take ((i + 1) * 1)).length = (i + 1) * 1 := by rw [List.length_take, Array.length_toList, hsz]; omega
 have hR2t : R2.toList.take ((n + 1) * 1) = xs.take (i * 1) ++ ys ++ D := by
  have ht : R1.toList.take (i * 1) = xs.take (i * 1) := by
   rw [hR1, List.append_assoc, List.take_append_of_le_length (by omega), List.take_take, Nat.min_eq_left (by omega), ← hxs, List.take_take, Nat.min_eq_left (by omega)]
  have hd : R1.toList.drop (i * 1 + ys.length) = D ++ cur.toList.drop ((i + 1) * 1 + D.length) := by
   rw [hR1, hyl, List.append_assoc, show i * 1 + 1 = (i + 1) * 1 by omega, List.drop_append, List.drop_of_length_le (by omega), hl0, Nat.sub_self, List.drop_zero, List.nil_append]
  have hl2 : (xs.take (i * 1) ++ ys ++ D).length = (n + 1) * 1 := by
   rw [List.length_append, List.length_append, List.length_take, hyl, hdl]; omega
  rw [hR2, ht, hd, ← List.append_assoc, List.take_append_of_le_length (by omega), List.take_of_length_le (by omega)]
 have hmin1 : Nat.min 1 (n + 1 - i) = 1 := Nat.min_eq_left (by omega)
 have hmin2 : Nat.min (n + 1 - i) (n - i) = n - i := Nat.min_eq_right (by omega)
 have hcp1 : (Builtin.copy_ #[22, 22] 3 #[.slice (some ⟨g, (i + 1) * 1, none⟩) (n - i) (c - (i + 1)), .slice (some ⟨g, i * 1, none⟩) (n + 1 - i) (c - i)]).run Try.prog w.drew = .ok (goInt (Nat.min (n + 1 - i) (n - i))) (w.drew.setRow g R1) := by
  rw [hR1]
  exact run_copy_rowsz _ 22 22 3 27 1 g ((i + 1) * 1) (n - i) (c - (i + 1)) ⟨g, i * 1, none⟩ (n + 1 - i) (c - i) cur 27 D Try.underlying22 (by rw [hi0]; simp [hzs]) hg (by rw [hdl, hmin2])
   (fun j v hj => by
    rw [Addr.add_lit, cell_of_row _ _ _ _ _ _ (show w.drew.heap[g]? = _ from hg), ← Array.getElem?_toList]
    rw [hD, List.getElem?_drop, ← hxs, List.getElem?_take] at hj
    split at hj
    ·exact hj
    ·cases hj) (by rw [hdl, hsz]; omega) (fun v hv => h1x v (List.mem_of_mem_drop (hD ▸ hv)))
 have hg1 : (w.drew.setRow g R1).heap[g]? = some (.cells R1 27 (0, 0)) := setRow_heap _ _ cur R1 27 _ hg
 have hcp2 : (Builtin.copy_ #[22, 22] 3 #[.slice (some ⟨g, i * 1, none⟩) (n + 1 - i) (c - i), .slice (some vb) 1 vc]).run Try.prog (w.drew.setRow g R1) = .ok (goInt (Nat.min 1 (n + 1 - i))) ((w.drew.setRow g R1).setRow g R2) := by
  rw [hR2]
  exact run_copy_rowsz _ 22 22 3 27 1 g (i * 1) (n + 1 - i) (c - i) vb 1 vc R1 27 ys Try.underlying22 (by rw [hi0]; simp [hzs]) hg1 (by rw [hyl, hmin1])
   (fun j v hj => by
    rw [cell_setRow_other _ _ _ _ (by rw [show (vb.add j).block = vb.block by unfold Addr.add; split <;> rfl]; exact hvg)]
    exact hy j v hj) (by rw [hyl, hR1s]; omega) h1
 have hfin : ((w.drew.setRow g R1).setRow g R2).heap[g]? = some (.cells R2 27 (0, 0)) := setRow_heap _ _ R1 R2 27 _ hg1
 have hgrown : w.grownBy ((w.drew.setRow g R1).setRow g R2) (some g) := by
  refine ⟨rfl, rfl, rfl, by simp, fun k hk hne => ?_⟩
  have hkg : k ≠ g := fun h => hne (by rw [h])
  rw [setRow_other _ _ _ _ hkg, setRow_other _ _ _ _ hkg]
  rfl
 have hov : ∀ lb cb, (callFunc 48 #[.slice (some vb) 1 vc, .slice (some ⟨g, (i + 1) * 1, none⟩) lb cb]).run Try.prog w = .ok (.value (.bool false)) w := fun lb cb => by
  rw [run_callFunc_extern Try.func48 (by kernel_rfl) (by kernel_rfl) (by kernel_rfl) (e := Extern.SlicesOverlaps.overlaps #[22, 22] #[4]) (by kernel_rfl),
   run_overlaps_own w 22 4 27 Try.underlying22 1 (fun w => by simp [sizeOf, typeInfo, hi0, hzs]) vb ⟨g, (i + 1) * 1, none⟩ 1 vc lb cb hvg (ys[0]'(by omega)) (by have h := hy 0 _ (List.getElem?_eq_getElem (show 0 < ys.length by omega)); rwa [show vb.add 0 = vb by unfold Addr.add; rfl] at h) cur 27 hg (by omega)]
  rfl
 have F1 := Aside0.mk hfin
 have F2 := Aside0.mk hgrown
 have F3 := Aside0.mk hR2s
 have F4 := Aside0.mk hR2t
 clear hmin1 hmin2 hfin hgrown hR2s hR2t hR2 hR1s hR1 hl0 hg1 hy
 have hin : i ≤ n := by omega
 have hin1 : (i : Int) ≤ (n : Int) + 1 := by omega
 have hci1 : ¬ (c = i + 1) := by omega
 have hci : ¬ (c = i) := by omega
 have hw1 : IntKind.i64.wrap ((i : Int) + (1 : Int)) = (i : Int) + (1 : Int) := by rw [IntKind.wrap_i64]; omega
 have hb1 : (0 : Int) ≤ (i : Int) + (1 : Int) := by omega
 have mixed : Try.prog.follows Departure.mixedOrders = true := by kernel_rfl
 have htn : ((i : Int) + (1 : Int)).toNat = i + 1 := by omega
 (try simp only [Nat.mul_one] at hov hcp1 hcp2)
 go_enter Try.func28, Try.ntmps28
 go_wp2_with (simp only [hov])
 go_region_law_o (refine step_copy_runI rfl _ _ 22 22 rfl _ _ (by simp [Act.eval, Act.put]) (by simp [Act.eval, Act.put]) hcp1 ?_)
 go_wp2_with (at_builtin; refine wpList_copy_runI _ rfl _ _ 22 22 rfl _ _ rfl rfl hcp2 ?_)
 go_ret
 exact ⟨R2, rfl, F1.out, F3.out, F4.out, F2.out⟩
set_option maxHeartbeats 4000000 in
set_option maxRecDepth 100000 in
theorem slices_Insert_byte_byte.ins (P0_ okp : Nat → Prop) (v : Value) (l0 : List (List Int)) (i : Nat) (hi : i ≤ l0.length) (ad : Addr) (c2 : Nat) (p : List Int) (ys : List Value) (base : Nat) (w : World) (hbase : base ≤ w.heap.size) (ho0 : Kd.R (Kd.slice 5 (Kd.int .u8)) 27 w base P0_ v l0) (hyl : ys.length = 1) (hys : ∀ j u, ys[j]? = some u → w.cell? (ad.add j) = some u) (hM : (Kd.slice 5 (Kd.int .u8)).M w base okp p ys) (hokp : ∀ k, okp k → P0_ k ∧ some k ≠ v.ownBlock) (hfoot : ∀ g, v.ownBlock = some g → ad.block ≠ g) (hbig : (l0.length + 1) * 24 ≤ 140737488355328) :
  Calls Try.prog 28 #[v, .int .i64 (i : Int), .slice (some ad) 1 c2] w fun e w' => ∃ v1 : Value, e = .returned v1 ∧ Kd.R (Kd.slice 5 (Kd.int .u8)) 27 w' base (fun k_ => (P0_ k_ ∨ w.heap.size ≤ k_)) v1 (l0.take i ++ [p] ++ l0.drop i) ∧ w.grownBy w' v.ownBlock ∧ (v1.ownBlock = v.ownBlock ∨ ∃ b, v1.ownBlock = some b ∧ w.heap.size ≤ b) := by
 have h1y := (Kd.slice 5 (Kd.int .u8)).K_one ((Kd.slice 5 (Kd.int .u8)).K_of_M hM)
 obtain ⟨h0, inner, hown, hrep⟩ := ho0
 have h1x : ∀ u ∈ inner, u.oneCell' = true := Kd.reps_one hrep (show 0 < (Kd.slice 5 (Kd.int .u8)).sz by decide) (fun _ _ hq => (Kd.slice 5 (Kd.int .u8)).K_one ((Kd.slice 5 (Kd.int .u8)).K_of_M hq))
 have hil := hown.1
 have fin : ∀ (v1 : Value) (w' : World), w'.ownsRow base 27 1 v1 (l0.length + 1) (inner.take (i * 1) ++ ys ++ inner.drop (i * 1)) → w.grownBy w' v.ownBlock → (v1.ownBlock = v.ownBlock ∨ ∃ b, v1.ownBlock = some b ∧ w.heap.size ≤ b) →
   Kd.R (Kd.slice 5 (Kd.int .u8)) 27 w' base (fun k_ => (P0_ k_ ∨ w.heap.size ≤ k_)) v1 (l0.take i ++ [p] ++ l0.drop i) ∧ w.grownBy w' v.ownBlock ∧ (v1.ownBlock = v.ownBlock ∨ ∃ b, v1.ownBlock = some b ∧ w.heap.size ≤ b) := fun v1 w' ho hg hat =>
  ⟨R_inserted h0 hrep hM hokp hi ho hg hat, hg, hat⟩
 rcases Nat.lt_or_ge i l0.length with hlt | hge
 ·rcases hown.2 with ⟨_, hn⟩ | ⟨g, cap, cur, rfl, hbas, hheap, hnc, hcm, hcs, htk⟩
  ·omega
  ·have hvg : ad.block ≠ g := hfoot g rfl
   rcases Nat.lt_or_ge cap (l0.length + 1) with hroom | hroom
   ·refine (slices_Insert_byte_byte.grow_ w g l0.length cap i cur inner hheap hcs htk hil h1x hlt hnc hroom ad c2 ys hys hyl h1y hbig).mono ?_
    rintro e w' ⟨G, R, rfl, ⟨hG, hGm⟩, hH, hRs, hRt, hgr⟩
    refine ⟨_, rfl, fin _ w' ⟨?_, .inr ⟨_, G, R, rfl, hbase, hH, hG, hGm, hRs, hRt⟩⟩ (grownBy_any hgr _) (.inr ⟨_, rfl, Nat.le_refl _⟩)⟩
    rw [← hRt, List.length_take, show R.toList.length = _ from (Array.length_toList).trans hRs]; omega
   ·refine (slices_Insert_byte_byte.shift_ w g l0.length cap i cur inner hheap hcs hcm htk hil h1x hlt hroom ad c2 ys hvg hys hyl h1y).mono ?_
    rintro e w' ⟨R, rfl, hH, hRs, hRt, hgr⟩
    refine ⟨_, rfl, fin _ w' ⟨?_, .inr ⟨g, cap, R, rfl, hbas, hH, hroom, hcm, hRs, hRt⟩⟩ hgr (.inl rfl)⟩
    rw [← hRt, List.length_take, show R.toList.length = _ from (Array.length_toList).trans hRs]; omega
 ·obtain rfl : i = l0.length := by omega
  refine (slices_Insert_byte_byte.end_ w base v l0.length inner hown ad c2 ys hys hyl h1y hbig hbase).mono ?_
  rintro e w' ⟨v1, rfl, ho, hgr, hat⟩
  refine ⟨v1, rfl, fin v1 w' ?_ hgr (hat.imp id (fun h => ⟨_, h, Nat.le_refl _⟩))⟩
  rw [List.take_of_length_le (by rw [hil]; exact Nat.le_refl _), List.drop_of_length_le (by rw [hil]; exact Nat.le_refl _), List.append_nil]
  exact ho
end Go.Proofs.Ytcbgichkeecgiaa.Print
namespace Go.Proofs.Ytcbgichkeecgiaa.Print
open Go.RowKit Go.Proofs.YtcbgichkeecgiaaW.PrintWords Go.Proofs.YtcbgichkeecgiaaW.PrintLast Go.Proofs.YtcbgichkeecgiaaW.PrintMore
attribute [local go_sem] max2_mx min2_mn max_two min_two max_three min_three max_four min_four
set_option linter.unusedVariables false
set_option linter.unusedSimpArgs false
def node_Put.rows (ks vs : List (List Int)) (key val : List Int) (p : Int × Bool) : Option (List (List Int) × List (List Int)) :=
 if p.2 = true then (if 0 ≤ p.1 ∧ p.1 < (vs.length : Int) then (bytes_Clone.f val).bind fun b => some (ks, vs.set p.1.toNat b) else none)
 else (if 0 ≤ p.1 ∧ p.1 ≤ (ks.length : Int) ∧ p.1 ≤ (vs.length : Int) ∧ (ks.length + 1) * 24 ≤ 140737488355328 ∧ (vs.length + 1) * 24 ≤ 140737488355328 then (bytes_Clone.f key).bind fun a => (bytes_Clone.f val).bind fun b => some (ks.take p.1.toNat ++ [a] ++ ks.drop p.1.toNat, vs.take p.1.toNat ++ [b] ++ vs.drop p.1.toNat) else none)
def node_Put.f (k : Nat) (a0_0 : Bool) (l0_1 l0_2 : List (List Int)) (l0_3 : List Int) (l1 l2 : List Int) : Option (Bool × (List (List Int)) × (List (List Int)) × List Int × Int) :=
 (node_leaf.f k a0_0 l0_1 l0_2 l0_3).bind fun t => if t = 0 then (if 256 < (l1.length : Int) then some (false, [], [], [], 4) else if 512 < (l2.length : Int) then some (false, [], [], [], 4) else ((node_own.f k a0_0 l0_1 l0_2 l0_3).bind fun o => (node_place.f a0_0 l0_1 l0_2 l0_3 l1).bind fun p =>
  (node_Put.rows o.2.1 o.2.2.1 l1 l2 p).bind fun q => (node_size.f k o.1 q.1 q.2 o.2.2.2).bind fun s => if s > 4096 then some (false, [], [], [], 7) else some (o.1, q.1, q.2, o.2.2.2, 0))) else some (false, [], [], [], t)
theorem node_Put.mono : ∀ a0 a1 a2 a3 a4 a5 k, LeO (node_Put.f k a0 a1 a2 a3 a4 a5) (node_Put.f (k + 1) a0 a1 a2 a3 a4 a5) := by
 intro a0 a1 a2 a3 a4 a5 k
 unfold node_Put.f
 exact LeO.bind (node_leaf.mono _ _ _ _ _) (fun _ => LeO.ite (LeO.ite (LeO.refl _) (LeO.ite (LeO.refl _) (LeO.bind (node_own.mono _ _ _ _ _) (fun _ => LeO.bind (LeO.refl _) (fun _ => LeO.bind (LeO.refl _) (fun _ => LeO.bind (node_size.mono _ _ _ _ _) (fun _ => LeO.refl _))))))) (LeO.refl _))
set_option maxHeartbeats 8000000 in
set_option maxRecDepth 100000 in
theorem node_Put.calls_own (k : Nat) (a0_0 : Bool) (A0_1 : Option Addr) (c0_1 : Nat) (l0_1 : List (List Int)) (A0_2 : Option Addr) (c0_2 : Nat) (l0_2 : List (List Int)) (A0_3 : Option Addr) (c0_3 : Nat) (l0_3 : List Int) (A1 : Option Addr) (c1 : Nat) (l1 : List Int) (A2 : Option Addr) (c2 : Nat) (l2 : List Int) (r1 : Bool) (r2 : List (List Int)) (r3 : List (List Int)) (r4 : List Int) (r5 : Int) (w : World) (hr0_1 : Kd.C (Kd.slice 5 (Kd.int .u8)) w A0_1 l0_1.length l0_1) (hc0_1 : l0_1.length ≤ c0_1) (hr0_2 : Kd.C (Kd.slice 5 (Kd.int .u8)) w A0_2 l0_2.length l0_2) (hc0_2 : l0_2.length ≤ c0_2) (hr0_3 : Kd.C (Kd.int .i64) w A0_3 l0_3.length l0_3) (hc0_3 : l0_3.length ≤ c0_3) (hr1 : Kd.C (Kd.int .u8) w A1 l1.length l1) (hc1 : l1.length ≤ c1) (hr2 : Kd.C (Kd.int .u8) w A2 l2.length l2) (hc2 : l2.length ≤ c2) (h : node_Put.f k a0_0 l0_1 l0_2 l0_3 l1 l2 = some (r1, r2, r3, r4, r5)) :
  Calls Try.prog 10 #[.agg #[.bool a0_0, .slice A0_1 l0_1.length c0_1, .slice A0_2 l0_2.length c0_2, .slice A0_3 l0_3.length c0_3], .slice A1 l1.length c1, .slice A2 l2.length c2] w fun e w' => ∃ v1_ v2_ v3_ : Value, e = .returned (.tuple #[.agg #[.bool r1, v1_, v2_, v3_], .int .i64 r5]) ∧ Kd.V (Kd.slice 5 (Kd.int .u8)) 27 w' w.heap.size (fun k_ => (w.heap.size ≤ k_) ∧ Unm w' k_) v1_ r2 ∧ Kd.V (Kd.slice 5 (Kd.int .u8)) 27 w' w.heap.size (fun k_ => (w.heap.size ≤ k_) ∧ Unm w' k_) v2_ r3 ∧ Kd.V (Kd.int .i64) 3 w' w.heap.size (fun k_ => (w.heap.size ≤ k_) ∧ Unm w' k_) v3_ r4 ∧ Below w.heap.size w w' := by
 have hu26 := Try.underlying26
 have R1 := Aside0.mk hr0_1
 have L1 := Aside0.mk hc0_1
 have R2 := Aside0.mk hr0_2
 have L2 := Aside0.mk hc0_2
 have R3 := Aside0.mk hr0_3
 have L3 := Aside0.mk hc0_3
 have RK := Aside0.mk hr1
 have LK := Aside0.mk hc1
 have RW := Aside0.mk hr2
 have LW := Aside0.mk hc2
 clear hr0_1 hc0_1 hr0_2 hc0_2 hr0_3 hc0_3 hr1 hc1 hr2 hc2
 unfold node_Put.f at h
 replace h := Option.bind_eq_some_iff.mp h
 obtain ⟨t, ht, h⟩ := h
 have HT := Aside0.mk ht
 have HH := Aside0.mk h
 clear ht h
 go_enter Try.func10, Try.ntmps10
 go_wp2_with (first | ((with_reducible refine gate_dst (N := 3) rfl ?_); refine box_event ?hg (N := 3) ?hd (cs := #[.bool a0_0, .slice A0_1 l0_1.length c0_1, .slice A0_2 l0_2.length c0_2, .slice A0_3 l0_3.length c0_3]) (t := 26) ?hr ?_; (case hd => rfl); (case hg => rfl); (case hr => first | (go_simp; done) | (go_simp; rfl)); intro gp hgp w1 hbox hb; have BP := Aside0.mk hbox; have HB := Aside0.mk hb; clear hbox hb hgp) | ((with_reducible refine gate_dst (N := 6) rfl ?_); refine box_event ?hg (N := 6) ?hd (cs := #[.bool false, .slice none 0 0, .slice none 0 0, .slice none 0 0]) (t := 26) ?hr ?_; (case hd => rfl); (case hg => rfl); (case hr => first | (go_simp; done) | (go_simp; rfl)); intro gr hgr w2 hbox hb; have GR : Aside0 (w.heap.size ≤ gr) := ⟨by rw [hgr]; exact HB.out.size⟩; have BR := Aside0.mk hbox; have BP2 := Aside0.mk (blk_below BP.out hb); have HB2 := Aside0.mk (below_step HB.out hb); have hc0 := (blk_cell BP2.out 0).trans rfl; have hc1 := (blk_cell BP2.out 1).trans rfl; have hc2 := (blk_cell BP2.out 2).trans rfl; have hc3 := (blk_cell BP2.out 3).trans rfl; clear hbox hb hgr BP HB))
 refine (node_leaf.calls k a0_0 A0_1 c0_1 l0_1 A0_2 c0_2 l0_2 A0_3 c0_3 l0_3 t _ (Kd.C_below R1.out HB2.out) L1.out (Kd.C_below R2.out HB2.out) L2.out (Kd.C_below R3.out HB2.out) L3.out HT.out).mono ?_
 rintro e w3 ⟨rfl, hb3⟩
 have BP3 := Aside0.mk (blk_below BP2.out hb3)
 have BR3 := Aside0.mk (blk_below BR.out hb3)
 have HB3 := Aside0.mk (below_step HB2.out hb3)
 clear hc0 hc1 hc2 hc3 hb3 BP2 BR HB2
 have H := HH.out
 clear HH
 by_cases hz : t = 0
 case neg =>
  rw [if_neg hz] at H
  have z1 : (t == 0) = false := beq_eq_false_iff_ne.mpr hz
  have z2 : (t != 0) = true := bne_iff_ne.mpr hz
  clear hz HT
  simp only [Option.some.injEq, Prod.mk.injEq] at H
  obtain ⟨rfl, rfl, rfl, rfl, rfl⟩ := H
  have hc0 := (blk_cell BR3.out 0).trans rfl
  have hc1 := (blk_cell BR3.out 1).trans rfl
  have hc2 := (blk_cell BR3.out 2).trans rfl
  have hc3 := (blk_cell BR3.out 3).trans rfl
  have hf0 := blk_frozen BR3.out 0
  have hf1 := blk_frozen BR3.out 1
  have hf2 := blk_frozen BR3.out 2
  have hf3 := blk_frozen BR3.out 3
  go_wp2
  refine bodyPost_ret (results_ct rfl _ _ gr 26 #[.bool false, .slice none 0 0, .slice none 0 0, .slice none 0 0] (0, 0) _ rfl (pageB BR3.out _ _ _ _) Try.underlying26 rfl (by kernel_rfl)) rfl ⟨_, _, _, rfl, Kd.V_nil _ _ _ _ _, Kd.V_nil _ _ _ _ _, Kd.V_nil _ _ _ _ _, pageW HB3.out GR.out _ _ _ _⟩
 case pos =>
 rw [if_pos hz] at H
 have z1 : (t == 0) = true := beq_iff_eq.mpr hz
 have z2 : (t != 0) = false := bne_eq_false_iff_eq.mpr hz
 clear hz HT
 by_cases hk : 256 < (l1.length : Int)
 case pos =>
  rw [if_pos hk] at H
  have y1 : decide (256 < (l1.length : Int)) = true := decide_eq_true hk
  have y1n : decide (256 < l1.length) = true := decide_eq_true (by omega)
  clear hk
  simp only [Option.some.injEq, Prod.mk.injEq] at H
  obtain ⟨rfl, rfl, rfl, rfl, rfl⟩ := H
  have hc0 := (blk_cell BR3.out 0).trans rfl
  have hc1 := (blk_cell BR3.out 1).trans rfl
  have hc2 := (blk_cell BR3.out 2).trans rfl
  have hc3 := (blk_cell BR3.out 3).trans rfl
  have hf0 := blk_frozen BR3.out 0
  have hf1 := blk_frozen BR3.out 1
  have hf2 := blk_frozen BR3.out 2
  have hf3 := blk_frozen BR3.out 3
  go_wp2
  refine bodyPost_ret (results_ct rfl _ _ gr 26 #[.bool false, .slice none 0 0, .slice none 0 0, .slice none 0 0] (0, 0) _ rfl (pageB BR3.out _ _ _ _) Try.underlying26 rfl (by kernel_rfl)) rfl ⟨_, _, _, rfl, Kd.V_nil _ _ _ _ _, Kd.V_nil _ _ _ _ _, Kd.V_nil _ _ _ _ _, pageW HB3.out GR.out _ _ _ _⟩
 case neg =>
 rw [if_neg hk] at H
 have y1 : decide (256 < (l1.length : Int)) = false := decide_eq_false hk
 have y1n : decide (256 < l1.length) = false := decide_eq_false (by omega)
 clear hk
 by_cases hv : 512 < (l2.length : Int)
 case pos =>
  rw [if_pos hv] at H
  have y2 : decide (512 < (l2.length : Int)) = true := decide_eq_true hv
  have y2n : decide (512 < l2.length) = true := decide_eq_true (by omega)
  clear hv
  simp only [Option.some.injEq, Prod.mk.injEq] at H
  obtain ⟨rfl, rfl, rfl, rfl, rfl⟩ := H
  have hc0 := (blk_cell BR3.out 0).trans rfl
  have hc1 := (blk_cell BR3.out 1).trans rfl
  have hc2 := (blk_cell BR3.out 2).trans rfl
  have hc3 := (blk_cell BR3.out 3).trans rfl
  have hf0 := blk_frozen BR3.out 0
  have hf1 := blk_frozen BR3.out 1
  have hf2 := blk_frozen BR3.out 2
  have hf3 := blk_frozen BR3.out 3
  go_wp2
  refine bodyPost_ret (results_ct rfl _ _ gr 26 #[.bool false, .slice none 0 0, .slice none 0 0, .slice none 0 0] (0, 0) _ rfl (pageB BR3.out _ _ _ _) Try.underlying26 rfl (by kernel_rfl)) rfl ⟨_, _, _, rfl, Kd.V_nil _ _ _ _ _, Kd.V_nil _ _ _ _ _, Kd.V_nil _ _ _ _ _, pageW HB3.out GR.out _ _ _ _⟩
 case neg =>
 rw [if_neg hv] at H
 have y2 : decide (512 < (l2.length : Int)) = false := decide_eq_false hv
 have y2n : decide (512 < l2.length) = false := decide_eq_false (by omega)
 clear hv
 replace H := Option.bind_eq_some_iff.mp H
 obtain ⟨o, ho, H⟩ := H
 replace H := Option.bind_eq_some_iff.mp H
 obtain ⟨p, hp, H⟩ := H
 obtain ⟨o1, o2, o3, o4⟩ := o
 obtain ⟨pn, pb⟩ := p
 replace H := Option.bind_eq_some_iff.mp H
 obtain ⟨⟨q1, q2⟩, hq, H⟩ := H
 have HO := Aside0.mk ho
 have HPL := Aside0.mk hp
 have HQ := Aside0.mk hq
 have HH := Aside0.mk H
 clear ho hp hq H
 have hc0 := (blk_cell BP3.out 0).trans rfl
 have hc1 := (blk_cell BP3.out 1).trans rfl
 have hc2 := (blk_cell BP3.out 2).trans rfl
 have hc3 := (blk_cell BP3.out 3).trans rfl
 go_wp2_with fail
 refine (node_own.calls k a0_0 A0_1 c0_1 l0_1 A0_2 c0_2 l0_2 A0_3 c0_3 l0_3 o1 o2 o3 o4 _ (Kd.C_below R1.out HB3.out) L1.out (Kd.C_below R2.out HB3.out) L2.out (Kd.C_below R3.out HB3.out) L3.out HO.out).mono ?_
 rintro e w4 ⟨v1, v2, v3, rfl, hS1, hS2, hR3, hb4⟩
 obtain ⟨Ak, ck, rfl⟩ := Kd.R_slice (Kd.S_R hS1)
 obtain ⟨Av, cv, rfl⟩ := Kd.R_slice (Kd.S_R hS2)
 obtain ⟨Ad, cd, rfl⟩ := Kd.R_slice hR3
 have S1 := Aside0.mk (Kd.R_lower (Kd.S_R hS1) HB3.out.size)
 have S2 := Aside0.mk (Kd.R_lower (Kd.S_R hS2) HB3.out.size)
 have S3 := Aside0.mk (Kd.R_lower hR3 HB3.out.size)
 have BP4 := Aside0.mk (blk_below BP3.out hb4)
 have BR4 := Aside0.mk (blk_below BR3.out hb4)
 have HB4 := Aside0.mk (below_step HB3.out hb4)
 clear hc0 hc1 hc2 hc3 hb4 BP3 BR3 HB3 hS1 hS2 hR3
 go_wp2_with (first | ((with_reducible refine gate_dst (N := 9) rfl ?_); refine box_event ?hg (N := 9) ?hd (cs := #[.bool false, .slice none 0 0, .slice none 0 0, .slice none 0 0]) (t := 26) ?hr ?_; (case hd => rfl); (case hg => rfl); (case hr => first | (go_simp; done) | (go_simp; rfl)); intro gb hgb w5 hbox hb; have GB : Aside0 (w.heap.size ≤ gb ∧ gb ≠ gr ∧ gb ≠ gp) := ⟨by rw [hgb]; exact HB4.out.size, by rw [hgb]; exact Nat.ne_of_gt (blk_lt BR4.out), by rw [hgb]; exact Nat.ne_of_gt (blk_lt BP4.out)⟩; have BB := Aside0.mk hbox; have BP5 := Aside0.mk (blk_below BP4.out hb); have BR5 := Aside0.mk (blk_below BR4.out hb); have HB5 := Aside0.mk (below_step HB4.out hb); have T1 := Aside0.mk (Kd.R_below S1.out hb); have T2 := Aside0.mk (Kd.R_below S2.out hb); have T3 := Aside0.mk (Kd.R_below S3.out hb); have hd0 := (blk_cell BB.out 0).trans rfl; have hd1 := (blk_cell BB.out 1).trans rfl; have hd2 := (blk_cell BB.out 2).trans rfl; have hd3 := (blk_cell BB.out 3).trans rfl; have hf0 := blk_frozen BB.out 0; have hf1 := blk_frozen BB.out 1; have hf2 := blk_frozen BB.out 2; have hf3 := blk_frozen BB.out 3; have hq0 := (blk_cell BP5.out 0).trans rfl; have hq1 := (blk_cell BP5.out 1).trans rfl; have hq2 := (blk_cell BP5.out 2).trans rfl; have hq3 := (blk_cell BP5.out 3).trans rfl; have hne1 : ¬ gb = gp := GB.out.2.2; have hne2 : ¬ gp = gb := Ne.symm GB.out.2.2; clear hbox hb hgb BP4 BR4 HB4 S1 S2 S3))
 have O : Aside0 (OutP w (((((w5.setCell ⟨gb, 0, none⟩ (.bool o1)).setCell ⟨gb, 1, none⟩ (.slice Ak o2.length ck)).setCell ⟨gb, 2, none⟩ (.slice Av o3.length cv)).setCell ⟨gb, 3, none⟩ (.slice Ad o4.length cd))) gb gr o1 Ak ck o2 Av cv o3 Ad cd o4) :=
  ⟨pageB BB.out _ _ _ _, pageF BR5.out (Ne.symm GB.out.2.1) _ _ _ _, pageW HB5.out GB.out.1 _ _ _ _, pageR T1.out BB.out (by decide) _ _ _ _, pageR T2.out BB.out (by decide) _ _ _ _, pageR T3.out BB.out (by decide) _ _ _ _, GB.out.1, GR.out, GB.out.2.1⟩
 clear T1 T2 T3 BB BR5 HB5 BP5 hd0 hd1 hd2 hd3 hf0 hf1 hf2 hf3 hq0 hq1 hq2 hq3 hne1 hne2 GB GR
 refine (node_place.calls a0_0 A0_1 c0_1 l0_1 A0_2 c0_2 l0_2 A0_3 c0_3 l0_3 A1 c1 l1 pn pb _ (Kd.C_below R1.out O.out.HB) L1.out (Kd.C_below R2.out O.out.HB) L2.out (Kd.C_below R3.out O.out.HB) L3.out (Kd.C_below RK.out O.out.HB) LK.out HPL.out).mono ?_
 rintro e w7 ⟨rfl, hb7⟩
 have O2 := Aside0.mk (O.out.below hb7)
 clear hb7 O HPL HO
 have O := O2
 clear O2
 have H := HQ.out
 clear HQ
 unfold node_Put.rows at H
 cases pb with
 | true =>
  rw [if_pos rfl] at H
  by_cases hc : 0 ≤ pn ∧ pn < (o3.length : Int)
  case neg => rw [if_neg hc] at H; cases H
  case pos =>
  rw [if_pos hc] at H
  obtain ⟨n, rfl⟩ := Int.eq_ofNat_of_zero_le hc.1
  replace H := Option.bind_eq_some_iff.mp H
  obtain ⟨bb, hbb, H⟩ := H
  have HCB := Aside0.mk hbb
  simp only [Option.some.injEq, Prod.mk.injEq, Int.toNat_natCast] at H
  obtain ⟨rfl, rfl⟩ := H
  have HN : Aside0 (n < o3.length) := ⟨by omega⟩
  clear hc hbb
  obtain ⟨gv, cv', ev⟩ : ∃ gv cv', Value.slice Av o3.length cv = .slice (some ⟨gv, 0, none⟩) o3.length cv' := by
   obtain ⟨g, cap, he, _⟩ := Kd.R_form O.out.V (by have := HN.out; omega)
   exact ⟨g, cap, he⟩
  injection ev with ev1 _ ev2
  subst ev1
  subst ev2
  have pm : ((n : Int) < (o3.length : Int)) = True := eq_true (by have := HN.out; omega)
  have pmn : (n < o3.length) = True := eq_true HN.out
  go_wp2_with fail
  have O2 := Aside0.mk O.out.drew
  clear O
  have O := O2
  clear O2
  refine start_ (n := 7) (S := fun w' => w'.cell? ⟨gb, 0, none⟩ = some (.bool o1) ∧ w'.cell? ⟨gb, 1, none⟩ = some (.slice Ak o2.length ck) ∧ w'.cell? ⟨gb, 2, none⟩ = some (.slice (some ⟨gv, 0, none⟩) o3.length cv) ∧ w'.cell? ⟨gb, 3, none⟩ = some (.slice Ad o4.length cd)) (ds := [6]) #[false, false, false, false, false, false, false] (by kernel_rfl) rfl rfl O.out.rd.1 (fun hHeld => ?_)
  generalize World.drew _ = wa at O hHeld ⊢
  refine zpu 0 (some 36) #[true, false, false, false, false, false, false] (by kernel_rfl) ?_
  refine zpu 2 (some 38) #[true, false, true, false, false, false, false] (by kernel_rfl) ?_
  refine zpu 3 (some 39) #[true, false, true, true, false, false, false] (by kernel_rfl) ?_
  refine zta 1 (some 37) #[true, true, true, true, false, false, false] (by kernel_rfl) hHeld ?_
  refine one_ (i := 4) (N := some 40) #[true, true, true, true, true, false, false] rfl rfl (by kernel_rfl) (by decide) (fun K hK => ?_)
  refine goes_ Try.func27 (by kernel_rfl) rfl #[.slice A2 l2.length c2] (by rfl) rfl rfl zl_ ?_
  refine (bytes_Clone.calls _ _ l2 bb _ (Kd.C_below RW.out O.out.HB) LW.out HCB.out).mono ?_
  rintro e wb ⟨vb, rfl, hRb, hb⟩
  obtain ⟨Ab, cb, rfl⟩ := Kd.R_slice hRb
  refine ⟨_, rfl, ?_⟩
  have RB := Aside0.mk hRb
  have OL := O
  have O2 := Aside0.mk (O.out.below hb)
  clear O
  have O := O2
  clear O2 hRb hb
  obtain ⟨ce, hcl, hMe, hcc, hfr⟩ := Kd.R_elem O.out.V [] (n : Int) (Int.natCast_nonneg _) (by have := HN.out; omega)
  obtain ⟨ve, rfl, hRe⟩ := hMe
  have hP := Kd.R_seg O.out.V (n : Int) (Int.natCast_nonneg _) (by have := HN.out; omega) (seg := [.slice Ab bb.length cb]) (j := 0) hcl hcc (show 1 ≤ 1 from Nat.le_refl _) (x' := bb) (okp := fun k => wa.heap.size ≤ k) ⟨_, rfl, Kd.R_mono (Kd.R_lower (Kd.R_bound RB.out) OL.out.HB.size) (fun k hk => hk.2.1)⟩ (fun k hk => ⟨fun he => Nat.lt_irrefl _ (Nat.lt_of_lt_of_le (Kd.R_lt OL.out.K k he.symm) hk), fun he => Nat.lt_irrefl _ (Nat.lt_of_lt_of_le (Kd.R_lt OL.out.V k (by rw [he]; rfl)) hk)⟩)
  have hx := hcc 0 _ rfl
  have hf := hfr 0
  (try simp only [show (Kd.slice 5 (Kd.int .u8)).sz = 1 from rfl, Nat.mul_one, Nat.add_zero, Int.toNat_natCast] at hx hf hP)
  have O3 := Aside0.mk (O.out.putV hP.1 (List.length_set ..) hP.2)
  clear hcl hcc hfr hRe hP OL RB
  refine hK.out _ _ O.out.rd.1 (fun hHeld => ?_)
  clear hK K
  refine zno 40 ?_
  refine zpu 5 (some 41) #[true, true, true, true, true, true, false] (by kernel_rfl) ?_
  refine last_ (i := 6) (N := none) #[true, true, true, true, true, true, true] rfl rfl (by kernel_rfl) (by decide) (fun K hK => ?_)
  refine skip_ (w1 := ?_) (by rfl) rfl ?_ ?_
  rotate_left
  ·go_simp
   rfl
  refine hK.out _ _ ?_
  clear hK K
  refine done_ (by kernel_rfl) ?_
  clear hx hf hHeld O
  have O := O3
  clear O3
  simp only [World.setCells] at O
  generalize World.setCell _ _ _ = wz at O ⊢
  obtain ⟨vv, hvv⟩ : ∃ vv, vv = o3.set n bb := ⟨_, rfl⟩
  rw [← hvv] at O HH
  (try rw [← hvv])
  clear hvv
  obtain ⟨⟨hd0, hd1, hd2, hd3⟩, -, -, -⟩ := O.out.rd
  replace H := HH.out
  clear HH
  replace H := Option.bind_eq_some_iff.mp H
  obtain ⟨sz, hsz, H⟩ := H
  have HSZ := Aside0.mk hsz
  have HH := Aside0.mk H
  clear hsz H
  go_wp2_with fail
  refine (node_size.calls k o1 Ak ck (o2) (some ⟨gv, 0, none⟩) cv (vv) Ad cd o4 sz _ (Kd.R_reads' O.out.K).2.2 (Kd.R_reads' O.out.K).2.1 (Kd.R_reads' O.out.V).2.2 (Kd.R_reads' O.out.V).2.1 (Kd.R_reads' O.out.D).2.2 (Kd.R_reads' O.out.D).2.1 HSZ.out).mono ?_
  rintro e we ⟨rfl, hb⟩
  have O2 := Aside0.mk (O.out.below hb)
  clear O hb hd0 hd1 hd2 hd3
  have O := O2
  clear O2
  have H := HH.out
  clear HH
  obtain ⟨⟨hd0, hd1, hd2, hd3⟩, hf, ⟨hr0, hr1, hr2, hr3⟩, hs⟩ := O.out.rd
  have hs0 := hs 0
  have hs1 := hs 1
  have hs2 := hs 2
  have hs3 := hs 3
  have hne1 : ¬ gb = gr := O.out.ne
  have hne2 : ¬ gr = gb := Ne.symm O.out.ne
  clear hf hs
  by_cases hbig : sz > 4096
  ·rw [if_pos hbig] at H
   have zb : decide (4096 < sz) = true := decide_eq_true hbig
   clear hbig
   simp only [Option.some.injEq, Prod.mk.injEq] at H
   obtain ⟨rfl, rfl, rfl, rfl, rfl⟩ := H
   go_wp2
   refine bodyPost_ret (results_ct rfl _ _ gr 26 #[.bool false, .slice none 0 0, .slice none 0 0, .slice none 0 0] (0, 0) _ rfl (pageB O.out.BR _ _ _ _) Try.underlying26 rfl (by kernel_rfl)) rfl ⟨_, _, _, rfl, Kd.V_nil _ _ _ _ _, Kd.V_nil _ _ _ _ _, Kd.V_nil _ _ _ _ _, pageW O.out.HB O.out.GR _ _ _ _⟩
  ·rw [if_neg hbig] at H
   have zb : decide (4096 < sz) = false := decide_eq_false hbig
   clear hbig
   simp only [Option.some.injEq, Prod.mk.injEq] at H
   obtain ⟨rfl, rfl, rfl, rfl, rfl⟩ := H
   go_wp2
   obtain ⟨e1, e2, e3, e4⟩ := O.out.endU (.bool o1) (.slice Ak (o2).length ck) (.slice (some ⟨gv, 0, none⟩) (vv).length cv) (.slice Ad o4.length cd)
   exact bodyPost_ret (results_ct rfl _ _ gr 26 #[.bool o1, .slice Ak (o2).length ck, .slice (some ⟨gv, 0, none⟩) (vv).length cv, .slice Ad o4.length cd] (0, 0) _ rfl (pageB O.out.BR _ _ _ _) Try.underlying26 rfl (by kernel_rfl)) rfl ⟨_, _, _, rfl, e1, e2, e3, e4⟩
 | false =>
  rw [if_neg (by simp)] at H
  by_cases hc : 0 ≤ pn ∧ pn ≤ (o2.length : Int) ∧ pn ≤ (o3.length : Int) ∧ (o2.length + 1) * 24 ≤ 140737488355328 ∧ (o3.length + 1) * 24 ≤ 140737488355328
  case neg => rw [if_neg hc] at H; cases H
  case pos =>
  rw [if_pos hc] at H
  obtain ⟨n, rfl⟩ := Int.eq_ofNat_of_zero_le hc.1
  replace H := Option.bind_eq_some_iff.mp H
  obtain ⟨aa, haa, H⟩ := H
  replace H := Option.bind_eq_some_iff.mp H
  obtain ⟨bb, hbb, H⟩ := H
  have HCA := Aside0.mk haa
  have HCB := Aside0.mk hbb
  simp only [Option.some.injEq, Prod.mk.injEq, Int.toNat_natCast] at H
  obtain ⟨rfl, rfl⟩ := H
  have HN : Aside0 (n ≤ o2.length ∧ n ≤ o3.length ∧ (o2.length + 1) * 24 ≤ 140737488355328 ∧ (o3.length + 1) * 24 ≤ 140737488355328) := ⟨by omega, by omega, hc.2.2.2.1, hc.2.2.2.2⟩
  clear hc haa hbb
  go_wp2_with fail
  have O2 := Aside0.mk O.out.drew
  clear O
  have O := O2
  clear O2
  refine start_ (n := 9) (S := fun w' => w'.cell? ⟨gb, 0, none⟩ = some (.bool o1) ∧ w'.cell? ⟨gb, 1, none⟩ = some (.slice Ak o2.length ck) ∧ w'.cell? ⟨gb, 2, none⟩ = some (.slice Av o3.length cv) ∧ w'.cell? ⟨gb, 3, none⟩ = some (.slice Ad o4.length cd)) (ds := [8]) (zB 0 9) (by kernel_rfl) rfl rfl O.out.rd.1 (fun hHeld => ?_)
  generalize World.drew _ = wa at O hHeld ⊢
  refine zpu 0 (some 42) (zB 1 8) (by kernel_rfl) ?_
  refine zpu 2 (some 44) #[true, false, true, false, false, false, false, false, false] (by kernel_rfl) ?_
  refine zpu 3 (some 45) #[true, false, true, true, false, false, false, false, false] (by kernel_rfl) ?_
  refine zta 1 (some 43) (zB 4 5) (by kernel_rfl) hHeld ?_
  refine one_ (i := 4) (N := some 46) (zB 5 4) rfl rfl (by kernel_rfl) (by decide) (fun K hK => ?_)
  refine goes_ Try.func27 (by kernel_rfl) rfl #[.slice A1 l1.length c1] (by rfl) rfl rfl zl_ ?_
  refine (bytes_Clone.calls _ _ l1 aa _ (Kd.C_below RK.out O.out.HB) LK.out HCA.out).mono ?_
  rintro e wb ⟨vb, rfl, hRb, hb⟩
  obtain ⟨Ab, cb, rfl⟩ := Kd.R_slice hRb
  refine ⟨_, rfl, ?_⟩
  have RB := Aside0.mk hRb
  have OL := O
  have O2 := Aside0.mk (O.out.below hb)
  clear O
  have O := O2
  clear O2 hRb hb
  refine hK.out _ _ O.out.rd.1 (fun hHeld => ?_)
  clear hK K
  refine zno 46 ?_
  refine one_ (i := 5) (N := some 47) (zB 6 3) rfl rfl (by kernel_rfl) (by decide) (fun K hK => ?_)
  refine value_ (w1 := ?_) (v := ?_) (by rfl) rfl ?_ ?_
  rotate_left 2
  ·go_simp
   constructor
   ·rfl
   ·rfl
  have hb := below_alloc (Below.refl _ wb) (.cells #[.slice Ab aa.length cb] 27)
  have BV := Aside0.mk (MapKept.heap_alloc wb (.cells #[.slice Ab aa.length cb] 27 (0, 0))).1
  have O2 := Aside0.mk (O.out.below hb)
  have RB2 := Aside0.mk (Kd.R_below RB.out hb)
  have GV : Aside0 (∀ g, (Value.slice Ak o2.length ck).ownBlock = some g → wb.heap.size ≠ g) := ⟨fun g hg => Nat.ne_of_gt (Kd.R_lt O.out.K g hg)⟩
  clear O RB hb
  have O := O2
  have RB := RB2
  clear O2 RB2
  refine hK.out _ _ O.out.rd.1 (fun hHeld => ?_)
  clear hK K
  refine zno 47 ?_
  generalize hgv : wb.heap.size = gv at BV GV ⊢
  clear hgv
  generalize wb.alloc _ = wc at O RB BV hHeld ⊢
  refine one_ (i := 6) (N := some 48) (zB 7 2) rfl rfl (by kernel_rfl) (by decide) (fun K hK => ?_)
  refine goes_ Try.func28 (by kernel_rfl) rfl #[.slice Ak o2.length ck, .int .i64 (n : Int), .slice (some ⟨gv, 0, none⟩) 1 1] (by rfl) rfl rfl zl_ ?_
  refine (slices_Insert_byte_byte.ins (fun k => some k ≠ (Value.slice Av o3.length cv).ownBlock) (fun k => wa.heap.size ≤ k) (.slice Ak o2.length ck) o2 n HN.out.1 ⟨gv, 0, none⟩ 1 aa [.slice Ab aa.length cb] w.heap.size _ O.out.HB.size O.out.K rfl (fun j u hj => ?hys) ⟨_, rfl, ?hM⟩ (fun k hk => ⟨?ha, ?hb⟩) GV.out HN.out.2.2.1).mono ?_
  case hys =>
   match j, hj with
   | 0, hj =>
    rw [show (⟨gv, 0, none⟩ : Addr).add 0 = ⟨gv, 0, none⟩ by unfold Addr.add; rfl, cell_of_row _ _ _ _ _ _ BV.out]
    exact hj
  case hM => exact Kd.R_mono (Kd.R_lower (Kd.R_bound RB.out) OL.out.HB.size) (fun k hk => hk.2.1)
  case ha => exact fun he => Nat.lt_irrefl _ (Nat.lt_of_lt_of_le (Kd.R_lt OL.out.V k he.symm) hk)
  case hb => exact fun he => Nat.lt_irrefl _ (Nat.lt_of_lt_of_le (Kd.R_lt OL.out.K k he.symm) hk)
  rintro e wd ⟨vi, rfl, hI, hg, hat⟩
  obtain ⟨kk, hnl⟩ : ∃ nl, nl = o2.take n ++ [aa] ++ o2.drop n := ⟨_, rfl⟩
  rw [← hnl] at hI HH
  clear hnl
  obtain ⟨Ai1, ci1, rfl⟩ := Kd.R_slice hI
  refine ⟨_, rfl, ?_⟩
  have O3 := Aside0.mk (O.out.setK hI hg hat)
  obtain ⟨b1, b2⟩ := O.out.grK hg
  have q0 := (blk_cell b1 0).trans rfl
  have q1 := (blk_cell b1 1).trans rfl
  have q2 := (blk_cell b1 2).trans rfl
  have q3 := (blk_cell b1 3).trans rfl
  have qf := blk_frozen b1 1
  clear hI hg hat b1 b2 O RB BV GV OL
  refine hK.out _ _ ⟨q0, q1, q2, q3⟩ (fun hHeld => ?_)
  clear hK K
  refine zno 48 ?_
  refine zpu 7 (some 49) (zB 8 1) (by kernel_rfl) ?_
  refine last_ (i := 8) (N := none) (zB 9 0) rfl rfl (by kernel_rfl) (by decide) (fun K hK => ?_)
  refine skip_ (w1 := ?_) (by rfl) rfl ?_ ?_
  rotate_left
  ·go_simp
   rfl
  refine hK.out _ _ ?_
  clear hK K
  refine done_ (by kernel_rfl) ?_
  clear q0 q1 q2 q3 qf hHeld
  have O := O3
  clear O3
  generalize World.setCell _ _ _ = wy at O ⊢
  go_wp2_with fail
  have O2 := Aside0.mk O.out.drew
  clear O
  have O := O2
  clear O2
  refine start_ (n := 9) (S := fun w' => w'.cell? ⟨gb, 0, none⟩ = some (.bool o1) ∧ w'.cell? ⟨gb, 1, none⟩ = some (.slice Ai1 kk.length ci1) ∧ w'.cell? ⟨gb, 2, none⟩ = some (.slice Av o3.length cv) ∧ w'.cell? ⟨gb, 3, none⟩ = some (.slice Ad o4.length cd)) (ds := [8]) (zB 0 9) (by kernel_rfl) rfl rfl O.out.rd.1 (fun hHeld => ?_)
  generalize World.drew _ = wa at O hHeld ⊢
  refine zpu 0 (some 50) (zB 1 8) (by kernel_rfl) ?_
  refine zpu 2 (some 52) #[true, false, true, false, false, false, false, false, false] (by kernel_rfl) ?_
  refine zpu 3 (some 53) #[true, false, true, true, false, false, false, false, false] (by kernel_rfl) ?_
  refine zta 1 (some 51) (zB 4 5) (by kernel_rfl) hHeld ?_
  refine one_ (i := 4) (N := some 54) (zB 5 4) rfl rfl (by kernel_rfl) (by decide) (fun K hK => ?_)
  refine goes_ Try.func27 (by kernel_rfl) rfl #[.slice A2 l2.length c2] (by rfl) rfl rfl zl_ ?_
  refine (bytes_Clone.calls _ _ l2 bb _ (Kd.C_below RW.out O.out.HB) LW.out HCB.out).mono ?_
  rintro e wb ⟨vb, rfl, hRb, hb⟩
  obtain ⟨Ab, cb, rfl⟩ := Kd.R_slice hRb
  refine ⟨_, rfl, ?_⟩
  have RB := Aside0.mk hRb
  have OL := O
  have O2 := Aside0.mk (O.out.below hb)
  clear O
  have O := O2
  clear O2 hRb hb
  refine hK.out _ _ O.out.rd.1 (fun hHeld => ?_)
  clear hK K
  refine zno 54 ?_
  refine one_ (i := 5) (N := some 55) (zB 6 3) rfl rfl (by kernel_rfl) (by decide) (fun K hK => ?_)
  refine value_ (w1 := ?_) (v := ?_) (by rfl) rfl ?_ ?_
  rotate_left 2
  ·go_simp
   constructor
   ·rfl
   ·rfl
  have hb := below_alloc (Below.refl _ wb) (.cells #[.slice Ab bb.length cb] 27)
  have BV := Aside0.mk (MapKept.heap_alloc wb (.cells #[.slice Ab bb.length cb] 27 (0, 0))).1
  have O2 := Aside0.mk (O.out.below hb)
  have RB2 := Aside0.mk (Kd.R_below RB.out hb)
  have GV : Aside0 (∀ g, (Value.slice Av o3.length cv).ownBlock = some g → wb.heap.size ≠ g) := ⟨fun g hg => Nat.ne_of_gt (Kd.R_lt O.out.V g hg)⟩
  clear O RB hb
  have O := O2
  have RB := RB2
  clear O2 RB2
  refine hK.out _ _ O.out.rd.1 (fun hHeld => ?_)
  clear hK K
  refine zno 55 ?_
  generalize hgv : wb.heap.size = gv at BV GV ⊢
  clear hgv
  generalize wb.alloc _ = wc at O RB BV hHeld ⊢
  refine one_ (i := 6) (N := some 56) (zB 7 2) rfl rfl (by kernel_rfl) (by decide) (fun K hK => ?_)
  refine goes_ Try.func28 (by kernel_rfl) rfl #[.slice Av o3.length cv, .int .i64 (n : Int), .slice (some ⟨gv, 0, none⟩) 1 1] (by rfl) rfl rfl zl_ ?_
  refine (slices_Insert_byte_byte.ins (fun k => some k ≠ (Value.slice Ai1 kk.length ci1).ownBlock) (fun k => wa.heap.size ≤ k) (.slice Av o3.length cv) o3 n HN.out.2.1 ⟨gv, 0, none⟩ 1 bb [.slice Ab bb.length cb] w.heap.size _ O.out.HB.size O.out.V rfl (fun j u hj => ?hys) ⟨_, rfl, ?hM⟩ (fun k hk => ⟨?ha, ?hb⟩) GV.out HN.out.2.2.2).mono ?_
  case hys =>
   match j, hj with
   | 0, hj =>
    rw [show (⟨gv, 0, none⟩ : Addr).add 0 = ⟨gv, 0, none⟩ by unfold Addr.add; rfl, cell_of_row _ _ _ _ _ _ BV.out]
    exact hj
  case hM => exact Kd.R_mono (Kd.R_lower (Kd.R_bound RB.out) OL.out.HB.size) (fun k hk => hk.2.1)
  case ha => exact fun he => Nat.lt_irrefl _ (Nat.lt_of_lt_of_le (Kd.R_lt OL.out.K k he.symm) hk)
  case hb => exact fun he => Nat.lt_irrefl _ (Nat.lt_of_lt_of_le (Kd.R_lt OL.out.V k he.symm) hk)
  rintro e wd ⟨vi, rfl, hI, hg, hat⟩
  obtain ⟨ww, hnl⟩ : ∃ nl, nl = o3.take n ++ [bb] ++ o3.drop n := ⟨_, rfl⟩
  rw [← hnl] at hI HH
  clear hnl
  obtain ⟨Ai2, ci2, rfl⟩ := Kd.R_slice hI
  refine ⟨_, rfl, ?_⟩
  have O3 := Aside0.mk (O.out.setV hI hg hat)
  obtain ⟨b1, b2⟩ := O.out.grV hg
  have q0 := (blk_cell b1 0).trans rfl
  have q1 := (blk_cell b1 1).trans rfl
  have q2 := (blk_cell b1 2).trans rfl
  have q3 := (blk_cell b1 3).trans rfl
  have qf := blk_frozen b1 2
  clear hI hg hat b1 b2 O RB BV GV OL
  refine hK.out _ _ ⟨q0, q1, q2, q3⟩ (fun hHeld => ?_)
  clear hK K
  refine zno 56 ?_
  refine zpu 7 (some 57) (zB 8 1) (by kernel_rfl) ?_
  refine last_ (i := 8) (N := none) (zB 9 0) rfl rfl (by kernel_rfl) (by decide) (fun K hK => ?_)
  refine skip_ (w1 := ?_) (by rfl) rfl ?_ ?_
  rotate_left
  ·go_simp
   rfl
  refine hK.out _ _ ?_
  clear hK K
  refine done_ (by kernel_rfl) ?_
  clear q0 q1 q2 q3 qf hHeld
  have O := O3
  clear O3
  generalize World.setCell _ _ _ = wz at O ⊢
  obtain ⟨⟨hd0, hd1, hd2, hd3⟩, -, -, -⟩ := O.out.rd
  replace H := HH.out
  clear HH
  replace H := Option.bind_eq_some_iff.mp H
  obtain ⟨sz, hsz, H⟩ := H
  have HSZ := Aside0.mk hsz
  have HH := Aside0.mk H
  clear hsz H
  go_wp2_with fail
  refine (node_size.calls k o1 Ai1 ci1 (kk) Ai2 ci2 (ww) Ad cd o4 sz _ (Kd.R_reads' O.out.K).2.2 (Kd.R_reads' O.out.K).2.1 (Kd.R_reads' O.out.V).2.2 (Kd.R_reads' O.out.V).2.1 (Kd.R_reads' O.out.D).2.2 (Kd.R_reads' O.out.D).2.1 HSZ.out).mono ?_
  rintro e we ⟨rfl, hb⟩
  have O2 := Aside0.mk (O.out.below hb)
  clear O hb hd0 hd1 hd2 hd3
  have O := O2
  clear O2
  have H := HH.out
  clear HH
  obtain ⟨⟨hd0, hd1, hd2, hd3⟩, hf, ⟨hr0, hr1, hr2, hr3⟩, hs⟩ := O.out.rd
  have hs0 := hs 0
  have hs1 := hs 1
  have hs2 := hs 2
  have hs3 := hs 3
  have hne1 : ¬ gb = gr := O.out.ne
  have hne2 : ¬ gr = gb := Ne.symm O.out.ne
  clear hf hs
  by_cases hbig : sz > 4096
  ·rw [if_pos hbig] at H
   have zb : decide (4096 < sz) = true := decide_eq_true hbig
   clear hbig
   simp only [Option.some.injEq, Prod.mk.injEq] at H
   obtain ⟨rfl, rfl, rfl, rfl, rfl⟩ := H
   go_wp2
   refine bodyPost_ret (results_ct rfl _ _ gr 26 #[.bool false, .slice none 0 0, .slice none 0 0, .slice none 0 0] (0, 0) _ rfl (pageB O.out.BR _ _ _ _) Try.underlying26 rfl (by kernel_rfl)) rfl ⟨_, _, _, rfl, Kd.V_nil _ _ _ _ _, Kd.V_nil _ _ _ _ _, Kd.V_nil _ _ _ _ _, pageW O.out.HB O.out.GR _ _ _ _⟩
  ·rw [if_neg hbig] at H
   have zb : decide (4096 < sz) = false := decide_eq_false hbig
   clear hbig
   simp only [Option.some.injEq, Prod.mk.injEq] at H
   obtain ⟨rfl, rfl, rfl, rfl, rfl⟩ := H
   go_wp2
   obtain ⟨e1, e2, e3, e4⟩ := O.out.endU (.bool o1) (.slice Ai1 (kk).length ci1) (.slice Ai2 (ww).length ci2) (.slice Ad o4.length cd)
   exact bodyPost_ret (results_ct rfl _ _ gr 26 #[.bool o1, .slice Ai1 (kk).length ci1, .slice Ai2 (ww).length ci2, .slice Ad o4.length cd] (0, 0) _ rfl (pageB O.out.BR _ _ _ _) Try.underlying26 rfl (by kernel_rfl)) rfl ⟨_, _, _, rfl, e1, e2, e3, e4⟩
theorem node_Put.calls (k : Nat) (a0_0 : Bool) (A0_1 : Option Addr) (c0_1 : Nat) (l0_1 : List (List Int)) (A0_2 : Option Addr) (c0_2 : Nat) (l0_2 : List (List Int)) (A0_3 : Option Addr) (c0_3 : Nat) (l0_3 : List Int) (A1 : Option Addr) (c1 : Nat) (l1 : List Int) (A2 : Option Addr) (c2 : Nat) (l2 : List Int) (r1 : Bool) (r2 : List (List Int)) (r3 : List (List Int)) (r4 : List Int) (r5 : Int) (w : World) (hr0_1 : Kd.C (Kd.slice 5 (Kd.int .u8)) w A0_1 l0_1.length l0_1) (hc0_1 : l0_1.length ≤ c0_1) (hr0_2 : Kd.C (Kd.slice 5 (Kd.int .u8)) w A0_2 l0_2.length l0_2) (hc0_2 : l0_2.length ≤ c0_2) (hr0_3 : Kd.C (Kd.int .i64) w A0_3 l0_3.length l0_3) (hc0_3 : l0_3.length ≤ c0_3) (hr1 : Kd.C (Kd.int .u8) w A1 l1.length l1) (hc1 : l1.length ≤ c1) (hr2 : Kd.C (Kd.int .u8) w A2 l2.length l2) (hc2 : l2.length ≤ c2) (h : node_Put.f k a0_0 l0_1 l0_2 l0_3 l1 l2 = some (r1, r2, r3, r4, r5)) :
  Calls Try.prog 10 #[.agg #[.bool a0_0, .slice A0_1 l0_1.length c0_1, .slice A0_2 l0_2.length c0_2, .slice A0_3 l0_3.length c0_3], .slice A1 l1.length c1, .slice A2 l2.length c2] w fun e w' => ∃ v1_ v2_ v3_ : Value, e = .returned (.tuple #[.agg #[.bool r1, v1_, v2_, v3_], .int .i64 r5]) ∧ Kd.V (Kd.slice 5 (Kd.int .u8)) 27 w' w.heap.size (fun k_ => (w.heap.size ≤ k_)) v1_ r2 ∧ Kd.V (Kd.slice 5 (Kd.int .u8)) 27 w' w.heap.size (fun k_ => (w.heap.size ≤ k_)) v2_ r3 ∧ Kd.V (Kd.int .i64) 3 w' w.heap.size (fun k_ => (w.heap.size ≤ k_)) v3_ r4 ∧ Below w.heap.size w w' := by
 refine (node_Put.calls_own k a0_0 A0_1 c0_1 l0_1 A0_2 c0_2 l0_2 A0_3 c0_3 l0_3 A1 c1 l1 A2 c2 l2 r1 r2 r3 r4 r5 w hr0_1 hc0_1 hr0_2 hc0_2 hr0_3 hc0_3 hr1 hc1 hr2 hc2 h).mono ?_
 rintro e w' ⟨v1_, v2_, v3_, he, h0_, h1_, h2_, hb⟩
 exact ⟨v1_, v2_, v3_, he, Kd.V_mono h0_ (fun _ h => h.1), Kd.V_mono h1_ (fun _ h => h.1), Kd.V_mono h2_ (fun _ h => h.1), hb⟩
end Go.Proofs.Ytcbgichkeecgiaa.Print
