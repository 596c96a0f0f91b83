-- What the claim uses alone (wip/slim.py). Lean checks it.
import Derived.Test.YtcbgichkeecgiaaDoorZAb
import Derived.Test.YtcbgichkeecgiaaDoorZAln
import Derived.Test.YtcbgichkeecgiaaDoorZAlp
namespace Go.Proofs.YtcbgichkeecgiaaDoor.Print
open Go.RowKit Go.Proofs.YtcbgichkeecgiaaDoorW.PrintWords Go.Proofs.YtcbgichkeecgiaaDoorW.PrintLast Go.Proofs.YtcbgichkeecgiaaDoorW.PrintMore
attribute [local go_sem] max2_mx min2_mn max_two min_two max_three min_three max_four min_four
set_option linter.unusedVariables false
set_option linter.unusedSimpArgs false
theorem node_Decode.cutF {P : Program} {w : World} {ok : Nat → Prop} (t : TypeId) {i : TypeInfo} (ht : P.underlying t = some (.slice 5)) (hi : P.info? 5 = some i) (hsz : i.size = 1) (kl : IntKind) {A : Option Addr} {c : Nat} {xs : List Int} (n : Int) (h0 : 0 ≤ n) (hm : n ≤ xs.length) (hc : xs.length ≤ c) (hF : Kd.F (Kd.int .u8) w ok A xs.length xs) :
  ∃ A2, (∀ W : World, (Instr.slice t (.slice A xs.length c) (some (.int kl n)) none none).run P W = .ok (.slice A2 (xs.drop n.toNat).length (c - n.toNat)) W) ∧ Kd.F (Kd.int .u8) w ok A2 (xs.drop n.toNat).length (xs.drop n.toNat) ∧ (xs.drop n.toNat).length ≤ c - n.toNat :=
 ⟨_, fun W => (cut_from t 5 kl ht hi 1 hsz A xs.length c n h0 hm W).trans (by rw [List.length_drop]; rfl), Kd.F_cut hF (by omega) hc, by rw [List.length_drop]; omega⟩
theorem node_Decode.takeF {P : Program} {w : World} {ok : Nat → Prop} (t : TypeId) {i : TypeInfo} (ht : P.underlying t = some (.slice 5)) (hi : P.info? 5 = some i) (kl : IntKind) {A : Option Addr} {c : Nat} {xs : List Int} (n : Int) (h0 : 0 ≤ n) (hm : n ≤ xs.length) (hc : xs.length ≤ c) (hF : Kd.F (Kd.int .u8) w ok A xs.length xs) :
  (∀ W : World, (Instr.slice t (.slice A xs.length c) none (some (.int kl n)) none).run P W = .ok (.slice A (xs.take n.toNat).length c) W) ∧ Kd.F (Kd.int .u8) w ok A (xs.take n.toNat).length (xs.take n.toNat) ∧ (xs.take n.toNat).length ≤ c :=
 ⟨fun W => (cut_to t 5 kl ht hi A xs.length c n h0 hm hc W).trans (by rw [List.length_take, Nat.min_eq_left (by omega)]), Kd.F_take hF (by omega), by rw [List.length_take]; omega⟩
def node_Decode_num.f (k : Nat) (left : List Int) (bad : Bool) (most : Int) : Option (Int × List Int × Bool) :=
 (codec_ReadNum.f k left).bind fun t => if t.2.2 = 0 then (if t.1 > most then some (0, left, true) else if bad = true then some (0, left, true) else some (t.1, t.2.1, false)) else some (0, left, true)
set_option maxHeartbeats 4000000 in
set_option maxRecDepth 100000 in
theorem node_Decode_num.calls (k g : Nat) (ok : Nat → Prop) (A : Option Addr) (c : Nat) (left : List Int) (bad : Bool) (most : Int) (r1 : Int) (r2 : List Int) (r3 : Bool) (w0 w : World) (hB : Below w0.heap.size w0 w) (hge : w0.heap.size ≤ g) (hbx : w.heap[g]? = some (.cells #[.slice A left.length c, .bool bad] 47 (0, 0))) (hF : Kd.F (Kd.int .u8) w ok A left.length left) (hok : ∀ k, ok k → k ≠ g) (hL : left.length ≤ c) (h : node_Decode_num.f k left bad most = some (r1, r2, r3)) :
  Calls Tryd.prog 23 #[.pointer (some ⟨g, 0, none⟩), .int .u64 most] w fun e w' => ∃ (A' : Option Addr) (c' : Nat), e = .returned (.int .u64 r1) ∧ w'.heap[g]? = some (.cells #[.slice A' r2.length c', .bool r3] 47 (0, 0)) ∧ Kd.F (Kd.int .u8) w' (fun k => ok k ∨ w.heap.size ≤ k) A' r2.length r2 ∧ r2.length ≤ c' ∧ Below w0.heap.size w0 w' ∧ KeepBut w w' g none := by
 unfold node_Decode_num.f at h
 replace h := Option.bind_eq_some_iff.mp h
 obtain ⟨⟨n, rest, why⟩, hn, h⟩ := h
 simp only at h
 have HN := Aside0.mk hn
 have HH := Aside0.mk h
 have BX := Aside0.mk hbx
 have F0 := Aside0.mk hF
 have L0 := Aside0.mk hL
 have OK := Aside0.mk hok
 have GE := Aside0.mk hge
 have HB := Aside0.mk hB
 clear hn h hbx hF hL hok hge hB
 have hc0 := (blk_cell BX.out 0).trans rfl
 have hc1 := (blk_cell BX.out 1).trans rfl
 have hf0 := blk_frozen BX.out 0
 have hf1 := blk_frozen BX.out 1
 go_enter Tryd.func23, Tryd.ntmps23
 go_wp2_with fail
 refine (codec_ReadNum.calls k _ _ left n rest why _ (Kd.F_now F0.out) L0.out HN.out).mono ?_
 rintro e w1 ⟨v1, rfl, hR, hb⟩
 obtain ⟨Ar, cr, rfl⟩ := Kd.R_slice hR
 have hlt := blk_lt BX.out
 have RR : Aside0 (Kd.F (Kd.int .u8) w1 (fun k => w.heap.size ≤ k) Ar rest.length rest) := ⟨Kd.F_mono (Kd.R_F (Kd.R_bound hR)) (fun k hk => hk.2.1)⟩
 have CR := Aside0.mk (Kd.R_reads' hR).2.1
 have B1 := Aside0.mk (blk_below BX.out hb)
 have F1 := Aside0.mk (Kd.F_below F0.out hb)
 have HB1 := Aside0.mk (below_then HB.out HB.out.size hb)
 have HK := Aside0.mk (KeepBut.of_below hb g none)
 have LT := Aside0.mk hlt
 clear hc0 hc1 hf0 hf1 hR hb hlt BX F0 HB
 have H := HH.out
 clear HH
 have hc0 := (blk_cell B1.out 0).trans rfl
 have hc1 := (blk_cell B1.out 1).trans rfl
 have hf0 := blk_frozen B1.out 0
 have hf1 := blk_frozen B1.out 1
 by_cases hw : why = 0
 ·rw [if_pos hw] at H
  have za : (why == 0) = true := beq_iff_eq.mpr hw
  have zb : (why != 0) = false := bne_eq_false_iff_eq.mpr hw
  clear hw
  by_cases h1 : n > most
  ·rw [if_pos h1] at H
   have y1 : decide (n > most) = true := decide_eq_true h1
   have y2 : decide (most < n) = true := decide_eq_true h1
   clear h1
   simp only [Option.some.injEq, Prod.mk.injEq] at H
   obtain ⟨rfl, rfl, rfl⟩ := H
   (try go_wp2_with fail)
   repeat (go_quiet (fail); try go_wp2_with fail)
   (try go_wp2)
   go_ret
   exact ⟨A, c, rfl, blk_put B1.out 1 _ rfl, Kd.F_mono (Kd.F_far (p := ⟨g, 1, none⟩) F1.out (fun k hk => OK.out k hk) _) (fun k hk => .inl hk), L0.out, below_set HB1.out GE.out, KeepBut.set_ HK.out 1 _⟩
  ·rw [if_neg h1] at H
   have y1 : decide (n > most) = false := decide_eq_false h1
   have y2 : decide (most < n) = false := decide_eq_false h1
   clear h1
   by_cases h2 : bad = true
   ·rw [if_pos h2] at H
    subst h2
    simp only [Option.some.injEq, Prod.mk.injEq] at H
    obtain ⟨rfl, rfl, rfl⟩ := H
    (try go_wp2_with fail)
    repeat (go_quiet (fail); try go_wp2_with fail)
    (try go_wp2)
    go_ret
    exact ⟨A, c, rfl, blk_put B1.out 1 _ rfl, Kd.F_mono (Kd.F_far (p := ⟨g, 1, none⟩) F1.out (fun k hk => OK.out k hk) _) (fun k hk => .inl hk), L0.out, below_set HB1.out GE.out, KeepBut.set_ HK.out 1 _⟩
   ·rw [if_neg h2] at H
    replace h2 := Bool.eq_false_iff.mpr h2
    subst h2
    simp only [Option.some.injEq, Prod.mk.injEq] at H
    obtain ⟨rfl, rfl, rfl⟩ := H
    (try go_wp2_with fail)
    repeat (go_quiet (fail); try go_wp2_with fail)
    (try go_wp2)
    go_ret
    exact ⟨Ar, cr, rfl, blk_put B1.out 0 _ rfl, Kd.F_mono (Kd.F_far (p := ⟨g, 0, none⟩) RR.out (fun k hk he => by have := LT.out; have he2 : k = g := he; omega) _) (fun k hk => .inr hk), CR.out, below_set HB1.out GE.out, KeepBut.set_ HK.out 0 _⟩
 ·rw [if_neg hw] at H
  have za : (why == 0) = false := beq_eq_false_iff_ne.mpr hw
  have zb : (why != 0) = true := bne_iff_ne.mpr hw
  clear hw
  simp only [Option.some.injEq, Prod.mk.injEq] at H
  obtain ⟨rfl, rfl, rfl⟩ := H
  (try go_wp2_with fail)
  repeat (go_quiet (fail); try go_wp2_with fail)
  (try go_wp2)
  go_ret
  exact ⟨A, c, rfl, blk_put B1.out 1 _ rfl, Kd.F_mono (Kd.F_far (p := ⟨g, 1, none⟩) F1.out (fun k hk => OK.out k hk) _) (fun k hk => .inl hk), L0.out, below_set HB1.out GE.out, KeepBut.set_ HK.out 1 _⟩
def node_Decode_text.f (k : Nat) (left : List Int) (bad : Bool) (most : Int) : Option (List Int × List Int × Bool) :=
 (node_Decode_num.f k left bad most).bind fun t => if t.2.2 = true then some ([], t.2.1, true) else if t.1 > IntKind.u64.wrap (t.2.1.length : Int) then some ([], t.2.1, true) else if 0 ≤ t.1 ∧ t.1 ≤ (t.2.1.length : Int) then (bytes_Clone.f (t.2.1.take t.1.toNat)).bind fun b => some (b, t.2.1.drop t.1.toNat, false) else none
set_option maxHeartbeats 4000000 in
set_option maxRecDepth 100000 in
theorem node_Decode_text.calls (k g : Nat) (ok : Nat → Prop) (A : Option Addr) (c : Nat) (left : List Int) (bad : Bool) (most : Int) (r1 : List Int) (r2 : List Int) (r3 : Bool) (w0 w : World) (hB : Below w0.heap.size w0 w) (hge : w0.heap.size ≤ g) (hbx : w.heap[g]? = some (.cells #[.slice A left.length c, .bool bad] 47 (0, 0))) (hF : Kd.F (Kd.int .u8) w ok A left.length left) (hok : ∀ k, ok k → k ≠ g) (hL : left.length ≤ c) (h : node_Decode_text.f k left bad most = some (r1, r2, r3)) :
  Calls Tryd.prog 24 #[.pointer (some ⟨g, 0, none⟩), .int .u64 most] w fun e w' => ∃ (B : Option Addr) (d : Nat) (A' : Option Addr) (c' : Nat), e = .returned (.slice B r1.length d) ∧ Kd.F (Kd.int .u8) w' (fun k => w.heap.size ≤ k) B r1.length r1 ∧ r1.length ≤ d ∧ w'.heap[g]? = some (.cells #[.slice A' r2.length c', .bool r3] 47 (0, 0)) ∧ Kd.F (Kd.int .u8) w' (fun k => ok k ∨ w.heap.size ≤ k) A' r2.length r2 ∧ r2.length ≤ c' ∧ Below w0.heap.size w0 w' ∧ KeepBut w w' g none := by
 unfold node_Decode_text.f at h
 replace h := Option.bind_eq_some_iff.mp h
 obtain ⟨⟨n, left1, bad1⟩, hn, h⟩ := h
 simp only at h
 have HN := Aside0.mk hn
 have HH := Aside0.mk h
 have BX := Aside0.mk hbx
 have F0 := Aside0.mk hF
 have L0 := Aside0.mk hL
 have OK := Aside0.mk hok
 have GE := Aside0.mk hge
 have HB := Aside0.mk hB
 clear hn h hbx hF hL hok hge hB
 go_enter Tryd.func24, Tryd.ntmps24
 go_wp2_with fail
 refine (node_Decode_num.calls k g ok A c left bad most n left1 bad1 w0 _ HB.out GE.out BX.out F0.out OK.out L0.out HN.out).mono ?_
 rintro e w1 ⟨A1, c1, rfl, hbx1, hF1, hL1, hB1, hK1⟩
 have hlt := blk_lt BX.out
 have LT := Aside0.mk hlt
 have B1 := Aside0.mk hbx1
 have F1 := Aside0.mk hF1
 have L1 := Aside0.mk hL1
 have HB1 := Aside0.mk hB1
 have HK := Aside0.mk hK1
 clear hlt hbx1 hF1 hL1 hB1 hK1 BX F0 HB L0 HN
 have H := HH.out
 clear HH
 have hc0 := (blk_cell B1.out 0).trans rfl
 have hc1 := (blk_cell B1.out 1).trans rfl
 have hf0 := blk_frozen B1.out 0
 have hf1 := blk_frozen B1.out 1
 by_cases hb1 : bad1 = true
 ·rw [if_pos hb1] at H
  subst hb1
  simp only [Option.some.injEq, Prod.mk.injEq] at H
  obtain ⟨rfl, rfl, rfl⟩ := H
  (try go_wp2_with fail)
  repeat (go_quiet (fail); try go_wp2_with fail)
  (try go_wp2)
  go_ret
  exact ⟨none, 0, A1, c1, rfl, Kd.F_nil _ _ _, Nat.le_refl _, blk_put B1.out 1 _ rfl, Kd.F_far (p := ⟨g, 1, none⟩) F1.out (fun k hk he => by rcases hk with hk | hk; exact OK.out k hk he; have := LT.out; have he2 : k = g := he; omega) _, L1.out, below_set HB1.out GE.out, KeepBut.set_ HK.out 1 _⟩
 ·rw [if_neg hb1] at H
  replace hb1 := Bool.eq_false_iff.mpr hb1
  subst hb1
  by_cases h1 : n > IntKind.u64.wrap (left1.length : Int)
  ·rw [if_pos h1] at H
   have y1 : decide (n > IntKind.u64.wrap (left1.length : Int)) = true := decide_eq_true h1
   have y2 : decide (IntKind.u64.wrap (left1.length : Int) < n) = true := decide_eq_true h1
   clear h1
   simp only [Option.some.injEq, Prod.mk.injEq] at H
   obtain ⟨rfl, rfl, rfl⟩ := H
   (try go_wp2_with fail)
   repeat (go_quiet (fail); try go_wp2_with fail)
   (try go_wp2)
   go_ret
   exact ⟨none, 0, A1, c1, rfl, Kd.F_nil _ _ _, Nat.le_refl _, blk_put B1.out 1 _ rfl, Kd.F_far (p := ⟨g, 1, none⟩) F1.out (fun k hk he => by rcases hk with hk | hk; exact OK.out k hk he; have := LT.out; have he2 : k = g := he; omega) _, L1.out, below_set HB1.out GE.out, KeepBut.set_ HK.out 1 _⟩
  ·rw [if_neg h1] at H
   have y1 : decide (n > IntKind.u64.wrap (left1.length : Int)) = false := decide_eq_false h1
   have y2 : decide (IntKind.u64.wrap (left1.length : Int) < n) = false := decide_eq_false h1
   clear h1
   by_cases h3 : 0 ≤ n ∧ n ≤ (left1.length : Int)
   rotate_left
   ·rw [if_neg h3] at H; cases H
   rw [if_pos h3] at H
   obtain ⟨b, HC, H⟩ := zm H
   simp only [Option.some.injEq, Prod.mk.injEq] at H
   obtain ⟨rfl, hr2, rfl⟩ := H
   obtain ⟨i0, hi0, _, hsz0, _⟩ := info_parts info5
   obtain ⟨hcut1, hF1, hL1⟩ := node_Decode.takeF 26 Tryd.underlying26 hi0 .u64 n h3.1 h3.2 L1.out F1.out
   obtain ⟨A2, hcut2, hF2, hL2⟩ := node_Decode.cutF 26 Tryd.underlying26 hi0 hsz0 .u64 n h3.1 h3.2 L1.out F1.out
   have T1 := Aside0.mk hF1
   have T2 := Aside0.mk hL1
   have D1 := Aside0.mk hF2
   have D2 := Aside0.mk hL2
   clear hF1 hL1 hF2 hL2 hi0 hsz0 h3
   rw [hr2] at D1 D2 hcut2
   obtain ⟨x_, hx_⟩ : ∃ x, x = left1.take n.toNat := ⟨_, rfl⟩
   rw [← hx_] at T1 T2 hcut1 HC
   clear hx_ hr2
   go_wp2_with fail
   refine (bytes_Clone.calls _ _ x_ b _ (Kd.F_now T1.out) T2.out HC.out).mono ?_
   rintro e w2 ⟨v2, rfl, hR, hb⟩
   obtain ⟨Bb, db, rfl⟩ := Kd.R_slice hR
   have R2 : Aside0 (Kd.F (Kd.int .u8) w2 (fun k => w1.heap.size ≤ k) Bb b.length b) := ⟨Kd.F_mono (Kd.R_F (Kd.R_bound hR)) (fun k hk => hk.2.1)⟩
   have R3 := Aside0.mk (Kd.R_reads' hR).2.1
   have B2 := Aside0.mk (blk_below B1.out hb)
   have D3 := Aside0.mk (Kd.F_below D1.out hb)
   have HB2 := Aside0.mk (below_then HB1.out HB1.out.size hb)
   have HK2 := Aside0.mk (KeepBut.trans HK.out (KeepBut.of_below hb g none) (.inl rfl))
   have SZ := Aside0.mk (Nat.le_trans HK.out.1 (Nat.le_refl _))
   have LT1 := Aside0.mk (blk_lt B1.out)
   clear hc0 hc1 hf0 hf1 hR hb T1 T2 HC B1 D1 HB1 HK
   have hc0 := (blk_cell B2.out 0).trans rfl
   have hc1 := (blk_cell B2.out 1).trans rfl
   have hf0 := blk_frozen B2.out 0
   have hf1 := blk_frozen B2.out 1
   (try go_wp2_with fail)
   repeat (go_quiet (fail); try go_wp2_with fail)
   (try go_wp2)
   go_ret
   exact ⟨Bb, db, A2, _, rfl, Kd.F_mono (Kd.F_far (p := ⟨g, 0, none⟩) R2.out (fun k hk he => by have := LT1.out; have he2 : k = g := he; omega) _) (fun k hk => Nat.le_trans SZ.out hk), R3.out, blk_put B2.out 0 _ rfl, Kd.F_far (p := ⟨g, 0, none⟩) D3.out (fun k hk he => by rcases hk with hk | hk; exact OK.out k hk he; have := LT.out; have he2 : k = g := he; omega) _, D2.out, below_set HB2.out GE.out, KeepBut.set_ HK2.out 0 _⟩
def node_Decode_trim.T6 : Bool × List (List Nat × List Nat) := (true, [([], []), ([], []), ([1], [1]), ([0, 2], [0, 2]), ([], []), ([4], [4]), ([3, 5, 3], [3, 5]), ([6, 6, 0, 1, 2, 3, 4, 5, 6], [6])])
def node_Decode_trim.B6 : List Nat := [0, 0, 2, 7, 0, 16, 63, 127]
theorem node_Decode_trim.tab6 : rtab .any (opsOf Tryd.f25 6) = node_Decode_trim.T6 := by kernel_rfl
theorem node_Decode_trim.bits6 : waitsOk node_Decode_trim.T6.2 node_Decode_trim.B6 = true := by kernel_rfl
def node_Decode_trim.f (k : Nat) (l : List Int) : Option (List Int) := if l.length = 0 then some [] else (bytes_trimRightByte.f k l 0).bind fun x => bytes_trimLeftByte.f k x 0
set_option maxHeartbeats 4000000 in
set_option maxRecDepth 100000 in
theorem node_Decode_trim.calls (k : Nat) (A : Option Addr) (c : Nat) (l r : List Int) (w : World) (hV : Kd.V (Kd.int .u8) 5 w w.heap.size (fun _ => True) (.slice A l.length c) l) (h : node_Decode_trim.f k l = some r) :
  Calls Tryd.prog 25 #[.slice A l.length c, .string ⟨#[0]⟩] w fun e w' => ∃ (A' : Option Addr) (c' : Nat), e = .returned (.slice A' r.length c') ∧ Below w.heap.size w w' := by
 have HV := Aside0.mk hV
 unfold node_Decode_trim.f at h
 have H := h
 clear hV h
 by_cases h0 : l.length = 0
 ·rw [if_pos h0] at H
  obtain rfl := Option.some.inj H
  have z1 : ((l.length : Int) == 0) = true := beq_iff_eq.mpr (by omega)
  clear h0
  go_enter Tryd.func25, Tryd.ntmps25
  (try go_wp2_with fail)
  repeat (go_quiet (fail); try go_wp2_with fail)
  (try go_wp2)
  go_ret
  first | exact ⟨none, 0, rfl, by first | exact Below.refl _ _ | exact pw_below_drewN (Below.refl _ _) _⟩ | exact ⟨⟨none, 0, rfl⟩, by first | exact Below.refl _ _ | exact pw_below_drewN (Below.refl _ _) _⟩
 ·rw [if_neg h0] at H
  have z1 : ((l.length : Int) == 0) = false := beq_eq_false_iff_ne.mpr (by omega)
  clear h0
  replace H := Option.bind_eq_some_iff.mp H
  obtain ⟨x, hx, H⟩ := H
  have HX := Aside0.mk hx
  have HL := Aside0.mk H
  clear hx H
  have HB := Aside0.mk (Below.refl w.heap.size w)
  go_enter Tryd.func25, Tryd.ntmps25
  go_upto_region 6 with fail
  have n_ := Aside0.mk (below_drew HB.out)
  have v_ : Aside0 (Kd.V (Kd.int .u8) 5 w.drew w.drew.heap.size (fun _ => True) (.slice A l.length c) l) := ⟨Kd.V_drew HV.out⟩
  clear HB HV
  have HB := n_
  have HV := v_
  clear n_ v_
  refine start_ (n := 8) (S := fun w' => True) (ds := []) (zB 0 8) (by kernel_rfl) rfl rfl trivial (fun hHeld => ?_)
  refine with_tabW node_Decode_trim.tab6 node_Decode_trim.bits6 (fun HT_ HW_ => ?_)
  refine zpu 0 (some 21) (zB 1 7) (any_of HT_.out (by kernel_rfl)) ?_
  refine zpu 1 (some 22) (zB 2 6) (any_of HT_.out (by kernel_rfl)) ?_
  refine zpu 4 (some 25) #[true, true, false, false, true, false, false, false] (any_of HT_.out (by kernel_rfl)) ?_
  refine zta 2 (some 23) #[true, true, true, false, true, false, false, false] (take_ofW HT_.out HW_.out (by kernel_rfl)) hHeld ?_
  refine zta 5 (some 26) #[true, true, true, false, true, true, false, false] (take_ofW HT_.out HW_.out (by kernel_rfl)) hHeld ?_
  refine one_ (i := 3) (N := some 24) (zB 6 2) rfl rfl (one_of HT_.out (by kernel_rfl)) (by decide) (fun K hK => ?_)
  refine goes_ Tryd.func44 (by kernel_rfl) rfl #[.slice A l.length c, .int .u8 0] (by rfl) rfl rfl (by (try simp only [List.map_toArray, List.map_cons, List.map_nil]); first | done | rfl) ?_
  refine (bytes_trimRightByte.calls k (fun _ => True) _ _ l 0 x _ HV.out HX.out).mono ?_
  rintro e w2 ⟨v2, rfl, hV2, hb2⟩
  refine ⟨_, rfl, ?_⟩
  obtain ⟨Ax, cx, rfl⟩ := Kd.V_slice hV2
  have V2 : Aside0 (Kd.V (Kd.int .u8) 5 w2 w2.heap.size (fun k_ => True) (.slice Ax x.length cx) x) := ⟨Kd.V_mono (base := w.heap.size) hV2 (fun _ _ => trivial)⟩
  have B2 := Aside0.mk (below_step HB.out hb2)
  clear hV2 hb2 HB
  refine hK.out _ _ trivial (fun hHeld => ?_)
  clear hK K
  refine zno 24 ?_
  refine one_ (i := 6) (N := some 27) (zB 7 1) rfl rfl (one_of HT_.out (by kernel_rfl)) (by decide) (fun K hK => ?_)
  refine goes_ Tryd.func43 (by kernel_rfl) rfl #[.slice Ax x.length cx, .int .u8 0] (by rfl) rfl rfl (by (try simp only [List.map_toArray, List.map_cons, List.map_nil]); first | done | rfl) ?_
  refine (bytes_trimLeftByte.calls k (fun _ => True) _ _ x 0 r _ V2.out HL.out).mono ?_
  rintro e w3 ⟨v3, rfl, hV3, hb3⟩
  refine ⟨_, rfl, ?_⟩
  obtain ⟨Ay, cy, rfl⟩ := Kd.V_slice hV3
  have B3 := Aside0.mk (below_step B2.out hb3)
  clear hV3 hb3 B2
  refine hK.out _ _ trivial (fun hHeld => ?_)
  clear hK K
  refine zno 27 ?_
  refine zpu 7 (some 4) (zB 8 0) (any_of HT_.out (by kernel_rfl)) ?_
  refine done_ (done_of HT_.out (by kernel_rfl)) ?_
  (try go_wp2_with fail)
  go_ret
  first | exact ⟨Ay, cy, rfl, B3.out⟩ | exact ⟨⟨Ay, cy, rfl⟩, B3.out⟩
def node_Decode.dok (base g gp gr : Nat) (x y z : Value) (k : Nat) : Prop := base ≤ k ∧ some k ≠ x.ownBlock ∧ some k ≠ y.ownBlock ∧ some k ≠ z.ownBlock ∧ k ≠ g ∧ k ≠ gp ∧ k ≠ gr
structure node_Decode.Dc (w W : World) (g gp gr : Nat) (A : Option Addr) (c : Nat) (left : List Int) (bad b : Bool) (vK : Value) (ks : List (List Int)) (vV : Value) (vs : List (List Int)) (vD : Value) (ds : List Int) : Prop where
 BX : W.heap[g]? = some (.cells #[.slice A left.length c, .bool bad] 47 (0, 0))
 BG : W.heap[gp]? = some (.cells #[.bool b, vK, vV, vD] 25 (0, 0))
 BR : W.heap[gr]? = some (.cells #[.bool false, .slice none 0 0, .slice none 0 0, .slice none 0 0] 25 (0, 0))
 HB : Below w.heap.size w W
 GX : w.heap.size ≤ g
 GG : w.heap.size ≤ gp
 GR : w.heap.size ≤ gr
 ne : gp ≠ gr
 F : Kd.F (Kd.int .u8) W (node_Decode.dok w.heap.size g gp gr vK vV vD) A left.length left
 L : left.length ≤ c
 K : Kd.N (Kd.slice 5 (Kd.int .u8)) 26 W w.heap.size (node_Decode.dok w.heap.size g gp gr (.bool true) vV vD) vK ks
 V : Kd.N (Kd.slice 5 (Kd.int .u8)) 26 W w.heap.size (node_Decode.dok w.heap.size g gp gr vK (.bool true) vD) vV vs
 D : Kd.N (Kd.int .i64) 3 W w.heap.size (node_Decode.dok w.heap.size g gp gr vK vV (.bool true)) vD ds
section
variable {w W W2 : World} {g gp gr : Nat} {A A' : Option Addr} {c c' : Nat} {left left' : List Int} {bad bad' b : Bool} {vK vV vD v1 : Value} {ks vs : List (List Int)} {ds : List Int}
theorem node_Decode.none_own (k : Nat) : some k ≠ (Value.bool true).ownBlock := by simp [Value.ownBlock]
theorem node_Decode.nil_own (k : Nat) : some k ≠ (Value.slice none 0 0).ownBlock := by simp [Value.ownBlock]
theorem node_Decode.lt_ne {v : Value} {n : Nat} (h : ∀ k, v.ownBlock = some k → k < n) (k : Nat) (hk : n ≤ k) : some k ≠ v.ownBlock := fun he => by have := h k he.symm; omega
theorem node_Decode.Dc.below (S : node_Decode.Dc w W g gp gr A c left bad b vK ks vV vs vD ds) (hb : Below W.heap.size W W2) : node_Decode.Dc w W2 g gp gr A c left bad b vK ks vV vs vD ds :=
 ⟨blk_below S.BX hb, blk_below S.BG hb, blk_below S.BR hb, below_step S.HB hb, S.GX, S.GG, S.GR, S.ne, Kd.F_below S.F hb, S.L, Kd.N_below S.K hb, Kd.N_below S.V hb, Kd.N_below S.D hb⟩
theorem node_Decode.Dc.fresh (S : node_Decode.Dc w W g gp gr A c left bad b vK ks vV vs vD ds) (k : Nat) (hk : W.heap.size ≤ k) : node_Decode.dok w.heap.size g gp gr vK vV vD k :=
 ⟨Nat.le_trans S.HB.size hk, node_Decode.lt_ne (Kd.N_lt S.K) k hk, node_Decode.lt_ne (Kd.N_lt S.V) k hk, node_Decode.lt_ne (Kd.N_lt S.D) k hk, by have := blk_lt S.BX; omega, by have := blk_lt S.BG; omega, by have := blk_lt S.BR; omega⟩
theorem node_Decode.Dc.gg (S : node_Decode.Dc w W g gp gr A c left bad b vK ks vV vs vD ds) : g ≠ gp := blk_ne S.BX S.BG (by decide)
theorem node_Decode.Dc.gr_ (S : node_Decode.Dc w W g gp gr A c left bad b vK ks vV vs vD ds) : g ≠ gr := blk_ne S.BX S.BR (by decide)
theorem node_Decode.Dc.moved (S : node_Decode.Dc w W g gp gr A c left bad b vK ks vV vs vD ds) (hbx : W2.heap[g]? = some (.cells #[.slice A' left'.length c', .bool bad'] 47 (0, 0))) (hF : Kd.F (Kd.int .u8) W2 (fun k => node_Decode.dok w.heap.size g gp gr vK vV vD k ∨ W.heap.size ≤ k) A' left'.length left') (hL : left'.length ≤ c') (hB : Below w.heap.size w W2) (hK : KeepBut W W2 g none) : node_Decode.Dc w W2 g gp gr A' c' left' bad' b vK ks vV vs vD ds :=
 ⟨hbx, KeepBut.blk hK S.BG (Ne.symm S.gg) (by simp), KeepBut.blk hK S.BR (Ne.symm S.gr_) (by simp), hB, S.GX, S.GG, S.GR, S.ne, Kd.F_mono hF (fun k hk => hk.elim id (S.fresh k)), hL, Kd.N_keep S.K hK (fun k hk => hk.2.2.2.2.1), Kd.N_keep S.V hK (fun k hk => hk.2.2.2.2.1), Kd.N_keep S.D hK (fun k hk => hk.2.2.2.2.1)⟩
theorem node_Decode.Dc.growK (S : node_Decode.Dc w W g gp gr A c left bad b vK ks vV vs vD ds) {xs : List (List Int)} (hn : Kd.N (Kd.slice 5 (Kd.int .u8)) 26 W2 w.heap.size (node_Decode.dok w.heap.size g gp gr (.bool true) vV vD) v1 xs) (hb : Below w.heap.size w W2) (hg : W.grownBy W2 vK.ownBlock) (hat : v1.ownBlock = vK.ownBlock ∨ ∃ b, v1.ownBlock = some b ∧ W.heap.size ≤ b) :
  W2.heap[gp]? = some (.cells #[.bool b, vK, vV, vD] 25 (0, 0)) ∧ node_Decode.Dc w (W2.setCell ⟨gp, 1, none⟩ v1) g gp gr A c left bad b v1 xs vV vs vD ds := by
 have ax := Kd.N_away S.K (g := g) (fun k hk => hk.2.2.2.2.1)
 have ag := Kd.N_away S.K (g := gp) (fun k hk => hk.2.2.2.2.2.1)
 have ar := Kd.N_away S.K (g := gr) (fun k hk => hk.2.2.2.2.2.2)
 have bg := blk_grown S.BG hg ag
 refine ⟨bg, blk_far (blk_grown S.BX hg ax) S.gg _, blk_put bg 1 _ rfl, blk_far (blk_grown S.BR hg ar) (Ne.symm S.ne) _, below_set hb S.GG, S.GX, S.GG, S.GR, S.ne, Kd.F_far (Kd.F_mono (Kd.F_after (ok := (node_Decode.dok w.heap.size g gp gr (.bool true) vV vD)) (Kd.F_mono S.F ?_) hg hat) ?_) (fun k hk => hk.2.2.2.2.2.1) _, S.L, Kd.N_far hn (fun k hk => hk.2.2.2.2.2.1) _, Kd.N_far (Kd.N_mono (Kd.N_after (ok := (node_Decode.dok w.heap.size g gp gr (.bool true) (.bool true) vD)) (Kd.N_mono S.V ?_) hg hat) ?_) (fun k hk => hk.2.2.2.2.2.1) _, Kd.N_far (Kd.N_mono (Kd.N_after (ok := (node_Decode.dok w.heap.size g gp gr (.bool true) vV (.bool true))) (Kd.N_mono S.D ?_) hg hat) ?_) (fun k hk => hk.2.2.2.2.2.1) _⟩
 all_goals first | exact fun k hk => ⟨⟨hk.1, node_Decode.none_own k, hk.2.2.1, hk.2.2.2.1, hk.2.2.2.2.1, hk.2.2.2.2.2.1, hk.2.2.2.2.2.2⟩, hk.2.1⟩ | exact fun k hk => ⟨hk.1.1, hk.2, hk.1.2.2.1, hk.1.2.2.2.1, hk.1.2.2.2.2.1, hk.1.2.2.2.2.2.1, hk.1.2.2.2.2.2.2⟩
theorem node_Decode.Dc.growV (S : node_Decode.Dc w W g gp gr A c left bad b vK ks vV vs vD ds) {xs : List (List Int)} (hn : Kd.N (Kd.slice 5 (Kd.int .u8)) 26 W2 w.heap.size (node_Decode.dok w.heap.size g gp gr vK (.bool true) vD) v1 xs) (hb : Below w.heap.size w W2) (hg : W.grownBy W2 vV.ownBlock) (hat : v1.ownBlock = vV.ownBlock ∨ ∃ b, v1.ownBlock = some b ∧ W.heap.size ≤ b) :
  W2.heap[gp]? = some (.cells #[.bool b, vK, vV, vD] 25 (0, 0)) ∧ node_Decode.Dc w (W2.setCell ⟨gp, 2, none⟩ v1) g gp gr A c left bad b vK ks v1 xs vD ds := by
 have ax := Kd.N_away S.V (g := g) (fun k hk => hk.2.2.2.2.1)
 have ag := Kd.N_away S.V (g := gp) (fun k hk => hk.2.2.2.2.2.1)
 have ar := Kd.N_away S.V (g := gr) (fun k hk => hk.2.2.2.2.2.2)
 have bg := blk_grown S.BG hg ag
 refine ⟨bg, blk_far (blk_grown S.BX hg ax) S.gg _, blk_put bg 2 _ rfl, blk_far (blk_grown S.BR hg ar) (Ne.symm S.ne) _, below_set hb S.GG, S.GX, S.GG, S.GR, S.ne, Kd.F_far (Kd.F_mono (Kd.F_after (ok := (node_Decode.dok w.heap.size g gp gr vK (.bool true) vD)) (Kd.F_mono S.F ?_) hg hat) ?_) (fun k hk => hk.2.2.2.2.2.1) _, S.L, Kd.N_far (Kd.N_mono (Kd.N_after (ok := (node_Decode.dok w.heap.size g gp gr (.bool true) (.bool true) vD)) (Kd.N_mono S.K ?_) hg hat) ?_) (fun k hk => hk.2.2.2.2.2.1) _, Kd.N_far hn (fun k hk => hk.2.2.2.2.2.1) _, Kd.N_far (Kd.N_mono (Kd.N_after (ok := (node_Decode.dok w.heap.size g gp gr vK (.bool true) (.bool true))) (Kd.N_mono S.D ?_) hg hat) ?_) (fun k hk => hk.2.2.2.2.2.1) _⟩
 all_goals first | exact fun k hk => ⟨⟨hk.1, hk.2.1, node_Decode.none_own k, hk.2.2.2.1, hk.2.2.2.2.1, hk.2.2.2.2.2.1, hk.2.2.2.2.2.2⟩, hk.2.2.1⟩ | exact fun k hk => ⟨hk.1.1, hk.1.2.1, hk.2, hk.1.2.2.2.1, hk.1.2.2.2.2.1, hk.1.2.2.2.2.2.1, hk.1.2.2.2.2.2.2⟩
theorem node_Decode.Dc.growD (S : node_Decode.Dc w W g gp gr A c left bad b vK ks vV vs vD ds) {xs : List Int} (hn : Kd.N (Kd.int .i64) 3 W2 w.heap.size (node_Decode.dok w.heap.size g gp gr vK vV (.bool true)) v1 xs) (hb : Below w.heap.size w W2) (hg : W.grownBy W2 vD.ownBlock) (hat : v1.ownBlock = vD.ownBlock ∨ ∃ b, v1.ownBlock = some b ∧ W.heap.size ≤ b) :
  W2.heap[gp]? = some (.cells #[.bool b, vK, vV, vD] 25 (0, 0)) ∧ node_Decode.Dc w (W2.setCell ⟨gp, 3, none⟩ v1) g gp gr A c left bad b vK ks vV vs v1 xs := by
 have ax := Kd.N_away S.D (g := g) (fun k hk => hk.2.2.2.2.1)
 have ag := Kd.N_away S.D (g := gp) (fun k hk => hk.2.2.2.2.2.1)
 have ar := Kd.N_away S.D (g := gr) (fun k hk => hk.2.2.2.2.2.2)
 have bg := blk_grown S.BG hg ag
 refine ⟨bg, blk_far (blk_grown S.BX hg ax) S.gg _, blk_put bg 3 _ rfl, blk_far (blk_grown S.BR hg ar) (Ne.symm S.ne) _, below_set hb S.GG, S.GX, S.GG, S.GR, S.ne, Kd.F_far (Kd.F_mono (Kd.F_after (ok := (node_Decode.dok w.heap.size g gp gr vK vV (.bool true))) (Kd.F_mono S.F ?_) hg hat) ?_) (fun k hk => hk.2.2.2.2.2.1) _, S.L, Kd.N_far (Kd.N_mono (Kd.N_after (ok := (node_Decode.dok w.heap.size g gp gr (.bool true) vV (.bool true))) (Kd.N_mono S.K ?_) hg hat) ?_) (fun k hk => hk.2.2.2.2.2.1) _, Kd.N_far (Kd.N_mono (Kd.N_after (ok := (node_Decode.dok w.heap.size g gp gr vK (.bool true) (.bool true))) (Kd.N_mono S.V ?_) hg hat) ?_) (fun k hk => hk.2.2.2.2.2.1) _, Kd.N_far hn (fun k hk => hk.2.2.2.2.2.1) _⟩
 all_goals first | exact fun k hk => ⟨⟨hk.1, hk.2.1, hk.2.2.1, node_Decode.none_own k, hk.2.2.2.2.1, hk.2.2.2.2.2.1, hk.2.2.2.2.2.2⟩, hk.2.2.2.1⟩ | exact fun k hk => ⟨hk.1.1, hk.1.2.1, hk.1.2.2.1, hk.2, hk.1.2.2.2.2.1, hk.1.2.2.2.2.2.1, hk.1.2.2.2.2.2.2⟩
theorem node_Decode.putB {v0 v1 v2 v3 : Value} (h : W.heap[g]? = some (.cells #[v0, v1, v2, v3] 25 (0, 0))) (x0 x1 x2 x3 : Value) : ((((W.setCell ⟨g, 0, none⟩ x0).setCell ⟨g, 1, none⟩ x1).setCell ⟨g, 2, none⟩ x2).setCell ⟨g, 3, none⟩ x3).heap[g]? = some (.cells #[x0, x1, x2, x3] 25 (0, 0)) :=
 blk_put (cs := #[x0, x1, x2, v3]) (blk_put (cs := #[x0, x1, v2, v3]) (blk_put (cs := #[x0, v1, v2, v3]) (blk_put h 0 _ rfl) 1 _ rfl) 2 _ rfl) 3 _ rfl
theorem node_Decode.putF {g' t : Nat} {cs : Array Value} (h : W.heap[g']? = some (.cells cs t (0, 0))) (hne : g' ≠ g) (x0 x1 x2 x3 : Value) : ((((W.setCell ⟨g, 0, none⟩ x0).setCell ⟨g, 1, none⟩ x1).setCell ⟨g, 2, none⟩ x2).setCell ⟨g, 3, none⟩ x3).heap[g']? = some (.cells cs t (0, 0)) := blk_far (blk_far (blk_far (blk_far h hne _) hne _) hne _) hne _
theorem node_Decode.putW (h : Below w.heap.size w W) (hg : w.heap.size ≤ g) (x0 x1 x2 x3 : Value) : Below w.heap.size w ((((W.setCell ⟨g, 0, none⟩ x0).setCell ⟨g, 1, none⟩ x1).setCell ⟨g, 2, none⟩ x2).setCell ⟨g, 3, none⟩ x3) := below_set (below_set (below_set (below_set h hg) hg) hg) hg
theorem node_Decode.Dc.end_ (S : node_Decode.Dc w W g gp gr A c left bad b vK ks vV vs vD ds) (x0 x1 x2 x3 : Value) :
  Kd.V (Kd.slice 5 (Kd.int .u8)) 26 ((((W.setCell ⟨gr, 0, none⟩ x0).setCell ⟨gr, 1, none⟩ x1).setCell ⟨gr, 2, none⟩ x2).setCell ⟨gr, 3, none⟩ x3) w.heap.size (fun k_ => (w.heap.size ≤ k_)) vK ks ∧ Kd.V (Kd.slice 5 (Kd.int .u8)) 26 ((((W.setCell ⟨gr, 0, none⟩ x0).setCell ⟨gr, 1, none⟩ x1).setCell ⟨gr, 2, none⟩ x2).setCell ⟨gr, 3, none⟩ x3) w.heap.size (fun k_ => (w.heap.size ≤ k_)) vV vs ∧ Kd.V (Kd.int .i64) 3 ((((W.setCell ⟨gr, 0, none⟩ x0).setCell ⟨gr, 1, none⟩ x1).setCell ⟨gr, 2, none⟩ x2).setCell ⟨gr, 3, none⟩ x3) w.heap.size (fun k_ => (w.heap.size ≤ k_)) vD ds ∧ Below w.heap.size w ((((W.setCell ⟨gr, 0, none⟩ x0).setCell ⟨gr, 1, none⟩ x1).setCell ⟨gr, 2, none⟩ x2).setCell ⟨gr, 3, none⟩ x3) := by
 have far : ∀ {α : Type} {d : Kd α} {e : Nat} {ok : Nat → Prop} {v : Value} {xs : List α} (h : Kd.V d e W w.heap.size ok v xs) (hok : ∀ k, ok k → k ≠ gr), Kd.V d e ((((W.setCell ⟨gr, 0, none⟩ x0).setCell ⟨gr, 1, none⟩ x1).setCell ⟨gr, 2, none⟩ x2).setCell ⟨gr, 3, none⟩ x3) w.heap.size ok v xs :=
  fun h hok => Kd.V_far (Kd.V_far (Kd.V_far (Kd.V_far h hok x0) hok x1) hok x2) hok x3
 exact ⟨Kd.V_mono (far (Kd.N_V S.K) (fun _ hk => hk.2.2.2.2.2.2)) (fun _ hk => hk.1), Kd.V_mono (far (Kd.N_V S.V) (fun _ hk => hk.2.2.2.2.2.2)) (fun _ hk => hk.1), Kd.V_mono (far (Kd.N_V S.D) (fun _ hk => hk.2.2.2.2.2.2)) (fun _ hk => hk.1), node_Decode.putW S.HB S.GR _ _ _ _⟩
end
abbrev node_Decode.Pg : Type := Bool × List (List Int) × List (List Int) × List Int × Int
def node_Decode.no : node_Decode.Pg := (false, [], [], [], 6)
def node_Decode.g (k : Nat) (b : Bool) : Nat → List Int → Bool → List (List Int) → List (List Int) → List Int → Option (List Int × Bool × List (List Int) × List (List Int) × List Int)
 | 0, left, bad, ks, vs, ds => some (left, bad, ks, vs, ds)
 | m + 1, left, bad, ks, vs, ds => if bad = true then some (left, bad, ks, vs, ds) else (node_Decode_text.f k left false 256).bind fun t => if ks.length < 1048576 ∧ vs.length < 1048576 ∧ ds.length < 1048576 then (if b = true then (node_Decode_text.f k t.2.1 t.2.2 512).bind fun u => node_Decode.g k b m u.2.1 u.2.2 (ks ++ [t.1]) (vs ++ [u.1]) ds else (node_Decode_num.f k t.2.1 t.2.2 1023).bind fun u => node_Decode.g k b m u.2.1 u.2.2 (ks ++ [t.1]) vs (ds ++ [wrap64 u.1])) else none
def node_Decode.e (k : Nat) (b : Bool) (s : List Int × Bool × List (List Int) × List (List Int) × List Int) : Option node_Decode.Pg :=
 (node_Decode_trim.f k s.1).bind fun y => if s.2.1 = true then some node_Decode.no else if 0 < y.length then some node_Decode.no else (node_Check.f k b s.2.2.1 s.2.2.2.1 s.2.2.2.2).bind fun c => if c = 0 then some (b, s.2.2.1, s.2.2.2.1, s.2.2.2.2, 0) else some node_Decode.no
def node_Decode.h (k : Nat) (b : Bool) (body : List Int) : Option node_Decode.Pg :=
 (node_Decode_num.f k (body.drop 1) false 4096).bind fun n => if 0 ≤ n.1 ∧ n.1 ≤ 4096 then (if b = true then (node_Decode.g k b n.1.toNat n.2.1 n.2.2 [] [] []).bind (node_Decode.e k b) else (node_Decode_num.f k n.2.1 n.2.2 1023).bind fun u => (node_Decode.g k b n.1.toNat u.2.1 u.2.2 [] [] [wrap64 u.1]).bind (node_Decode.e k b)) else none
def node_Decode.f (k : Nat) (l0 : List Int) : Option node_Decode.Pg :=
 if l0.length = 4096 then (crc_Open.f l0).bind fun t => if t.2 = 0 then (if 0 < t.1.length then (if rd t.1 0 = 1 then node_Decode.h k true t.1 else if rd t.1 0 = 2 then node_Decode.h k false t.1 else some node_Decode.no) else none) else some node_Decode.no else some node_Decode.no
def node_Decode.T10 : Bool × List (List Nat × List Nat) := (true, [([], []), ([0], [0]), ([], []), ([2], [2]), ([3], [3]), ([1, 4, 2], [1, 4]), ([0, 1, 2, 3, 4, 5], []), ([6, 5, 5, 0, 1, 2, 3, 4, 5], [5, 6])])
def node_Decode.B10 : List Nat := [0, 1, 0, 4, 12, 31, 63, 127]
theorem node_Decode.tab10 : rtab .any (opsOf Tryd.f8 10) = node_Decode.T10 := by kernel_rfl
theorem node_Decode.bits10 : waitsOk node_Decode.T10.2 node_Decode.B10 = true := by kernel_rfl
def node_Decode.T13 : Bool × List (List Nat × List Nat) := (true, [([], []), ([0], [0]), ([], []), ([2], [2]), ([1, 3, 2], [1, 3]), ([0, 1, 2, 3, 4], []), ([5, 4, 4, 0, 1, 2, 3, 4], [4, 5])])
def node_Decode.B13 : List Nat := [0, 1, 0, 4, 15, 31, 63]
theorem node_Decode.tab13 : rtab .any (opsOf Tryd.f8 13) = node_Decode.T13 := by kernel_rfl
theorem node_Decode.bits13 : waitsOk node_Decode.T13.2 node_Decode.B13 = true := by kernel_rfl
def node_Decode.T15 : Bool × List (List Nat × List Nat) := (true, [([], []), ([0], [0]), ([], []), ([2], [2]), ([1, 3, 2], [1, 3]), ([0, 1, 2, 3, 4], []), ([5, 4, 4, 0, 1, 2, 3, 4], [4, 5])])
def node_Decode.B15 : List Nat := [0, 1, 0, 4, 15, 31, 63]
theorem node_Decode.tab15 : rtab .any (opsOf Tryd.f8 15) = node_Decode.T15 := by kernel_rfl
theorem node_Decode.bits15 : waitsOk node_Decode.T15.2 node_Decode.B15 = true := by kernel_rfl
def node_Decode.T16 : Bool × List (List Nat × List Nat) := (true, [([], []), ([0], [0]), ([], []), ([2], [2]), ([3], [3]), ([1, 4, 2], [1, 4]), ([0, 1, 2, 3, 4, 5], []), ([6, 5, 5, 0, 1, 2, 3, 4, 5], [5, 6])])
def node_Decode.B16 : List Nat := [0, 1, 0, 4, 12, 31, 63, 127]
theorem node_Decode.tab16 : rtab .any (opsOf Tryd.f8 16) = node_Decode.T16 := by kernel_rfl
theorem node_Decode.bits16 : waitsOk node_Decode.T16.2 node_Decode.B16 = true := by kernel_rfl
set_option maxHeartbeats 8000000 in
set_option maxRecDepth 100000 in
theorem node_Decode.calls (k : Nat) (A0 : Option Addr) (c0 : Nat) (l0 : List Int) (r1 : Bool) (r2 : List (List Int)) (r3 : List (List Int)) (r4 : List Int) (r5 : Int) (w : World) (hr0 : Kd.C (Kd.int .u8) w A0 l0.length l0) (hc0 : l0.length ≤ c0) (h : node_Decode.f k l0 = some (r1, r2, r3, r4, r5)) :
  Calls Tryd.prog 8 #[.slice A0 l0.length c0] w fun e w' => ∃ v1_ v2_ v3_ : Value, e = .returned (.tuple #[.agg #[.bool r1, v1_, v2_, v3_], .int .i64 r5]) ∧ Kd.V (Kd.slice 5 (Kd.int .u8)) 26 w' w.heap.size (fun k_ => (w.heap.size ≤ k_)) v1_ r2 ∧ Kd.V (Kd.slice 5 (Kd.int .u8)) 26 w' w.heap.size (fun k_ => (w.heap.size ≤ k_)) v2_ r3 ∧ Kd.V (Kd.int .i64) 3 w' w.heap.size (fun k_ => (w.heap.size ≤ k_)) v3_ r4 ∧ Below w.heap.size w w' := by
 have hu25 := Tryd.underlying25
 have R0 := Aside0.mk hr0
 have L0 := Aside0.mk hc0
 unfold node_Decode.f at h
 have H := h
 clear hr0 hc0 h
 by_cases hlen : l0.length = 4096
 ·rw [if_pos hlen] at H
  have y1 : ((l0.length : Int) == 4096) = true := beq_iff_eq.mpr (by omega)
  have y2 : ((l0.length : Int) != 4096) = false := bne_eq_false_iff_eq.mpr (by omega)
  clear hlen
  replace H := Option.bind_eq_some_iff.mp H
  obtain ⟨⟨body, why⟩, ho, H⟩ := H
  have HO := Aside0.mk ho
  have HH := Aside0.mk H
  clear ho H
  go_enter Tryd.func8, Tryd.ntmps8
  go_upto_region 3 with (first | ((with_reducible refine gate_dst (N := 2) rfl ?_); refine box_event ?hg (N := 2) ?hd (cs := #[.bool false, .slice none 0 0, .slice none 0 0, .slice none 0 0]) (t := 25) ?hr ?_; (case hd => rfl); (case hg => rfl); (case hr => first | (go_simp; done) | (go_simp; rfl)); intro gr hgr w1 hbox hb; have BR := Aside0.mk hbox; have HB := Aside0.mk (below_step (Below.refl _ _) hb); have GR : Aside0 (w.heap.size ≤ gr) := ⟨by rw [hgr]; exact Nat.le_refl _⟩; clear hbox hb hgr))
  go_wp2_with fail
  refine (crc_Open.calls _ _ l0 body why _ (Kd.C_below R0.out HB.out) L0.out HO.out).mono ?_
  rintro e w2 ⟨v2, rfl, hR, hb⟩
  obtain ⟨Ab, cb, rfl⟩ := Kd.R_slice hR
  have RB : Aside0 (Kd.F (Kd.int .u8) w2 (fun k => w1.heap.size ≤ k) Ab body.length body) := ⟨Kd.F_mono (Kd.R_F (Kd.R_bound hR)) (fun k hk => hk.2.1)⟩
  have LB := Aside0.mk (Kd.R_reads' hR).2.1
  have BR2 := Aside0.mk (blk_below BR.out hb)
  have HB2 := Aside0.mk (below_step HB.out hb)
  have LT := Aside0.mk (blk_lt BR.out)
  have SZ := Aside0.mk HB.out.size
  clear hR hb BR HB R0 L0 HO y1 y2
  have H := HH.out
  clear HH
  (try simp only at H)
  by_cases hw : why = 0
  ·rw [if_pos hw] at H
   have za : (why == 0) = true := beq_iff_eq.mpr hw
   have zb : (why != 0) = false := bne_eq_false_iff_eq.mpr hw
   clear hw
   by_cases hp : 0 < body.length
   rotate_left
   ·rw [if_neg hp] at H; cases H
   rw [if_pos hp] at H
   have HP := Aside0.mk hp
   clear hp
   have p0 : 0 ≤ (0 : Int) := (by omega)
   have q0 : (0 : Int) < (body.length : Int) := by have := HP.out; omega
   have qi0 : (0 < body.length) = True := eq_true HP.out
   obtain ⟨ad, ea, hx⟩ := Kd.at_int (Kd.F_now RB.out) 0 p0 q0
   cases ea
   (try rw [show ((0 : Int)).toNat = 0 from rfl] at hx)
   (try rw [Addr.add_zero'] at hx)
   replace p0 := eq_true p0
   replace q0 := eq_true q0
   obtain ⟨x0, hx0⟩ : ∃ x, x = rd body 0 := ⟨_, rfl⟩
   rw [← hx0] at H hx
   have HX0 := Aside0.mk hx0
   clear hx0
   by_cases h1 : x0 = 1
   ·rw [if_pos h1] at H
    have xa : (x0 == 1) = true := beq_iff_eq.mpr h1
    have xb : (x0 != 1) = false := bne_eq_false_iff_eq.mpr h1
    clear h1
    have HH := Aside0.mk H
    clear H
    obtain ⟨i0, hi0, _, hsz0, _⟩ := info_parts info5
    obtain ⟨A2, hcut, hF2, hL2⟩ := node_Decode.cutF 26 Tryd.underlying26 hi0 hsz0 .i64 1 (by omega) (by have := HP.out; omega) LB.out RB.out
    have D1 := Aside0.mk hF2
    have D2 := Aside0.mk hL2
    clear hF2 hL2 hi0 hsz0
    rw [show (1 : Int).toNat = 1 from rfl] at hcut D1 D2
    obtain ⟨left0, hleft⟩ : ∃ x, x = body.drop 1 := ⟨_, rfl⟩
    unfold node_Decode.h at HH
    rw [← hleft] at hcut D1 D2 HH
    clear hleft
    go_upto_region 7 with (first | ((with_reducible refine gate_dst (N := 6) rfl ?_); refine box_event ?hg (N := 6) ?hd (cs := #[.slice none 0 0, .bool false]) (t := 47) ?hr ?_; (case hd => rfl); (case hg => rfl); (case hr => first | (go_simp; done) | (go_simp; rfl)); intro g hg w3 hbox hb; have BX := Aside0.mk hbox; have GX : Aside0 (w.heap.size ≤ g ∧ g ≠ gr ∧ w2.heap.size ≤ g) := ⟨by rw [hg]; exact HB2.out.size, by rw [hg]; exact Nat.ne_of_gt (blk_lt BR2.out), by rw [hg]; exact Nat.le_refl _⟩; have BR3 := Aside0.mk (blk_below BR2.out hb); have HB3 := Aside0.mk (below_step HB2.out hb); have RB3 := Aside0.mk (Kd.F_bound RB.out); have RB4 := Aside0.mk (Kd.F_below RB3.out hb); have D3 := Aside0.mk (Kd.F_bound D1.out); have D4 := Aside0.mk (Kd.F_below D3.out hb); clear hbox hb hg BR2 HB2 RB RB3 D1 D3 hx; have hzc0 := (blk_cell BX.out 0).trans rfl; have hzc1 := (blk_cell BX.out 1).trans rfl; have hzf0 := blk_frozen BX.out 0; have hzf1 := blk_frozen BX.out 1))
    clear hzc0 hzc1 hzf0 hzf1
    have FAR : Aside0 (∀ k, (w1.heap.size ≤ k ∧ k < w2.heap.size) → k ≠ g) := ⟨fun k hk he => by have := GX.out.2.2; omega⟩
    have BX4 : Aside0 (((w3.setCell ⟨g, 0, none⟩ (.slice A2 left0.length (cb - 1))).setCell ⟨g, 1, none⟩ (.bool false)).heap[g]? = some (.cells #[.slice A2 left0.length (cb - 1), .bool false] 47 (0, 0))) := ⟨blk_put (cs := #[.slice A2 left0.length (cb - 1), .bool false]) (blk_put (cs := #[.slice none 0 0, .bool false]) BX.out 0 _ rfl) 1 _ rfl⟩
    have BR4 : Aside0 (((w3.setCell ⟨g, 0, none⟩ (.slice A2 left0.length (cb - 1))).setCell ⟨g, 1, none⟩ (.bool false)).heap[gr]? = some (.cells #[.bool false, .slice none 0 0, .slice none 0 0, .slice none 0 0] 25 (0, 0))) := ⟨blk_far (blk_far BR3.out (Ne.symm GX.out.2.1) _) (Ne.symm GX.out.2.1) _⟩
    have HB4 : Aside0 (Below w.heap.size w ((w3.setCell ⟨g, 0, none⟩ (.slice A2 left0.length (cb - 1))).setCell ⟨g, 1, none⟩ (.bool false))) := ⟨below_set (below_set HB3.out GX.out.1) GX.out.1⟩
    have RB5 : Aside0 (Kd.F (Kd.int .u8) ((w3.setCell ⟨g, 0, none⟩ (.slice A2 left0.length (cb - 1))).setCell ⟨g, 1, none⟩ (.bool false)) (fun k => w1.heap.size ≤ k ∧ k < w2.heap.size) (some ad) body.length body) := ⟨Kd.F_far (p := ⟨g, 1, none⟩) (Kd.F_far (p := ⟨g, 0, none⟩) RB4.out FAR.out _) FAR.out _⟩
    have D5 : Aside0 (Kd.F (Kd.int .u8) ((w3.setCell ⟨g, 0, none⟩ (.slice A2 left0.length (cb - 1))).setCell ⟨g, 1, none⟩ (.bool false)) (fun k => w1.heap.size ≤ k ∧ k < w2.heap.size) A2 left0.length left0) := ⟨Kd.F_far (p := ⟨g, 1, none⟩) (Kd.F_far (p := ⟨g, 0, none⟩) D4.out FAR.out _) FAR.out _⟩
    clear BX BR3 HB3 RB4 D4
    obtain ⟨w4, hw4⟩ : ∃ w4, w4 = ((w3.setCell ⟨g, 0, none⟩ (.slice A2 left0.length (cb - 1))).setCell ⟨g, 1, none⟩ (.bool false)) := ⟨_, rfl⟩
    rw [← hw4] at BX4 BR4 HB4 RB5 D5 ⊢
    clear hw4 hcut
    obtain ⟨ad2, ea, hx⟩ := Kd.at_int (Kd.F_now RB5.out) 0 (by omega) (by have := HP.out; omega)
    cases ea
    (try rw [show ((0 : Int)).toNat = 0 from rfl] at hx)
    (try rw [Addr.add_zero'] at hx)
    rw [← HX0.out] at hx
    go_upto_region 8 with (first | ((with_reducible refine gate_dst (N := 7) rfl ?_); refine box_event ?hg (N := 7) ?hd (cs := #[.bool false, .slice none 0 0, .slice none 0 0, .slice none 0 0]) (t := 25) ?hr ?_; (case hd => rfl); (case hg => rfl); (case hr => first | (go_simp; done) | (go_simp; rfl)); intro gp hg w5 hbox hb; have BP := Aside0.mk hbox; have GP : Aside0 (w.heap.size ≤ gp ∧ gp ≠ gr ∧ gp ≠ g ∧ w4.heap.size ≤ gp) := ⟨by rw [hg]; exact HB4.out.size, by rw [hg]; exact Nat.ne_of_gt (blk_lt BR4.out), by rw [hg]; exact Nat.ne_of_gt (blk_lt BX4.out), by rw [hg]; exact Nat.le_refl _⟩; have BR5 := Aside0.mk (blk_below BR4.out hb); have BX5 := Aside0.mk (blk_below BX4.out hb); have HB5 := Aside0.mk (below_step HB4.out hb); have D6 := Aside0.mk (Kd.F_bound D5.out); have D7 := Aside0.mk (Kd.F_below D6.out hb); clear hbox hb hg BR4 BX4 HB4 D5 D6 hx RB5; have hzc0 := (blk_cell BP.out 0).trans rfl; have hzc1 := (blk_cell BP.out 1).trans rfl; have hzc2 := (blk_cell BP.out 2).trans rfl; have hzc3 := (blk_cell BP.out 3).trans rfl; have hzf0 := blk_frozen BP.out 0; have hzf1 := blk_frozen BP.out 1; have hzf2 := blk_frozen BP.out 2; have hzf3 := blk_frozen BP.out 3))
    clear hzc0 hzc1 hzc2 hzc3 hzf0 hzf1 hzf2 hzf3 p0 q0 qi0
    have S : Aside0 (node_Decode.Dc w ((((w5.setCell ⟨gp, 0, none⟩ (.bool true)).setCell ⟨gp, 1, none⟩ (.slice none 0 0)).setCell ⟨gp, 2, none⟩ (.slice none 0 0)).setCell ⟨gp, 3, none⟩ (.slice none 0 0)) g gp gr A2 (cb - 1) left0 false true (.slice none 0 0) [] (.slice none 0 0) [] (.slice none 0 0) []) := ⟨⟨node_Decode.putF BX5.out (Ne.symm GP.out.2.2.1) _ _ _ _, node_Decode.putB BP.out _ _ _ _, node_Decode.putF BR5.out (Ne.symm GP.out.2.1) _ _ _ _, node_Decode.putW HB5.out GP.out.1 _ _ _ _, GX.out.1, GP.out.1, GR.out, GP.out.2.1, Kd.F_mono (Kd.F_far (p := ⟨gp, 3, none⟩) (Kd.F_far (p := ⟨gp, 2, none⟩) (Kd.F_far (p := ⟨gp, 1, none⟩) (Kd.F_far (p := ⟨gp, 0, none⟩) D7.out (fun k hk he => by have := GP.out.2.2.2; have he2 : k = gp := he; omega) _) (fun k hk he => by have := GP.out.2.2.2; have he2 : k = gp := he; omega) _) (fun k hk he => by have := GP.out.2.2.2; have he2 : k = gp := he; omega) _) (fun k hk he => by have := GP.out.2.2.2; have he2 : k = gp := he; omega) _) (fun k hk => ⟨Nat.le_trans SZ.out hk.1.1, node_Decode.nil_own k, node_Decode.nil_own k, node_Decode.nil_own k, FAR.out k hk.1, (by have := GP.out.2.2.2; omega), (by have := LT.out; omega)⟩), D2.out, Kd.N_nil _ _ _ _ _, Kd.N_nil _ _ _ _ _, Kd.N_nil _ _ _ _ _⟩⟩
    clear BP BR5 BX5 HB5 D7 D2 FAR GP GX GR SZ LT HP LB HX0
    obtain ⟨w6, hw6⟩ : ∃ w6, w6 = ((((w5.setCell ⟨gp, 0, none⟩ (.bool true)).setCell ⟨gp, 1, none⟩ (.slice none 0 0)).setCell ⟨gp, 2, none⟩ (.slice none 0 0)).setCell ⟨gp, 3, none⟩ (.slice none 0 0)) := ⟨_, rfl⟩
    rw [← hw6] at S ⊢
    clear hw6
    have H := HH.out
    clear HH
    replace H := Option.bind_eq_some_iff.mp H
    obtain ⟨⟨n, left1, bad1⟩, hn, H⟩ := H
    (try simp only at H)
    have HN := Aside0.mk hn
    clear hn
    by_cases hM : 0 ≤ n ∧ n ≤ 4096
    rotate_left
    ·rw [if_neg hM] at H; cases H
    rw [if_pos hM] at H
    obtain ⟨M, rfl⟩ := Int.eq_ofNat_of_zero_le hM.1
    rw [Int.toNat_natCast] at H
    have HM : Aside0 (M ≤ 4096) := ⟨by omega⟩
    clear hM
    have HH := Aside0.mk H
    clear H
    go_wp2_with fail
    refine (node_Decode_num.calls k g _ A2 (cb - 1) left0 false 4096 (M : Int) left1 bad1 w _ S.out.HB S.out.GX S.out.BX S.out.F (fun k hk => hk.2.2.2.2.1) S.out.L HN.out).mono ?_
    rintro e w7 ⟨A_, c_, rfl, hbx, hF, hL, hB, hK⟩
    have S1 := Aside0.mk (S.out.moved hbx hF hL hB hK)
    clear hbx hF hL hB hK S HN
    have hg0 := (blk_cell S1.out.BG 0).trans rfl
    have H := HH.out
    clear HH
    (first | rw [if_pos rfl] at H | rw [if_pos trivial] at H)
    have HH := Aside0.mk H
    clear H
    go_upto_region 11 with fail
    clear hg0
    go_loopg [8] (M + 1) (fun kq v8 wr => ∃ (i : Nat) (A : Option Addr) (c : Nat) (left : List Int) (bad : Bool) (vK : Value) (ks : List (List Int)) (vV : Value) (vs : List (List Int)) (vD : Value) (ds : List Int), i ≤ M ∧ kq = i + 1 ∧ v8 = .int .u64 (i : Int) ∧ Aside0 (node_Decode.Dc w wr g gp gr A c left bad true vK ks vV vs vD ds) ∧ Aside0 ((node_Decode.g k true i left bad ks vs ds).bind (node_Decode.e k true) = some (r1, r2, r3, r4, r5)))
    case atStart => exact ⟨M, _, _, _, _, _, _, _, _, _, _, Nat.le_refl _, rfl, rfl, S1, HH⟩
    case round =>
     clear S1 HH
     obtain ⟨i, A, c, left, bad, vK, ks, vV, vs, vD, ds, hiM, rfl, rfl, S, HA⟩ := hrel
     have H := HA.out
     clear HA
     have hg1 := (blk_cell S.out.BX 1).trans rfl
     cases i with
     | zero =>
      rw [node_Decode.g, Option.bind_some] at H
      have y1 : decide (((0 : Nat) : Int) > 0) = false := by decide
      have y2 : decide (0 < ((0 : Nat) : Int)) = false := by decide
      cases bad
      ·have HH := Aside0.mk H
       clear H
       have H := HH.out
       clear HH
       unfold node_Decode.e at H
       replace H := Option.bind_eq_some_iff.mp H
       obtain ⟨y, hy, H⟩ := H
       (try simp only at H)
       have HT := Aside0.mk hy
       have HH := Aside0.mk H
       clear hy H
       have hg2 := (blk_cell S.out.BX 0).trans rfl
       go_wp2_with fail
       repeat (go_quiet (fail); try go_wp2_with fail)
       refine (node_Decode_trim.calls k _ _ left y _ (Kd.V_mono (Kd.V_mk (base := _) (e := 5) S.out.L S.out.F) (fun _ _ => trivial)) HT.out).mono ?_
       rintro e w7 ⟨Ay, cy, rfl, hb⟩
       have n_ := Aside0.mk (S.out.below hb)
       clear hb S hg1 hg2 HT y1 y2
       have S := n_
       clear n_
       have hg1 := (blk_cell S.out.BX 1).trans rfl
       have H := HH.out
       clear HH
       rw [if_neg (by decide)] at H
       by_cases hy : 0 < y.length
       ·rw [if_pos hy] at H
        have z1 : decide ((y.length : Int) > 0) = true := decide_eq_true (by omega)
        have z2 : decide (0 < y.length) = true := decide_eq_true hy
        clear hy
        simp only [Option.some.injEq, Prod.mk.injEq, node_Decode.no] at H
        obtain ⟨rfl, rfl, rfl, rfl, rfl⟩ := H
        have hzc0 := (blk_cell S.out.BR 0).trans rfl
        have hzc1 := (blk_cell S.out.BR 1).trans rfl
        have hzc2 := (blk_cell S.out.BR 2).trans rfl
        have hzc3 := (blk_cell S.out.BR 3).trans rfl
        have hzf0 := blk_frozen S.out.BR 0
        have hzf1 := blk_frozen S.out.BR 1
        have hzf2 := blk_frozen S.out.BR 2
        have hzf3 := blk_frozen S.out.BR 3
        go_wp2
        refine bodyPost_ret (results_ct rfl _ _ gr 25 #[.bool false, .slice none 0 0, .slice none 0 0, .slice none 0 0] (0, 0) _ rfl (node_Decode.putB S.out.BR _ _ _ _) Tryd.underlying25 rfl (by kernel_rfl)) rfl ⟨_, _, _, rfl, Kd.V_nil _ _ _ _ _, Kd.V_nil _ _ _ _ _, Kd.V_nil _ _ _ _ _, node_Decode.putW S.out.HB S.out.GR _ _ _ _⟩
       ·rw [if_neg hy] at H
        have z1 : decide ((y.length : Int) > 0) = false := decide_eq_false (by omega)
        have z2 : decide (0 < y.length) = false := decide_eq_false hy
        clear hy
        replace H := Option.bind_eq_some_iff.mp H
        obtain ⟨cc, hc, H⟩ := H
        have HC := Aside0.mk hc
        have HH := Aside0.mk H
        clear hc H
        obtain ⟨AK, cK, rfl⟩ := Kd.N_slice S.out.K
        obtain ⟨AV, cV, rfl⟩ := Kd.N_slice S.out.V
        obtain ⟨AD, cD, rfl⟩ := Kd.N_slice S.out.D
        have hpc0 := (blk_cell S.out.BG 0).trans rfl
        have hpc1 := (blk_cell S.out.BG 1).trans rfl
        have hpc2 := (blk_cell S.out.BG 2).trans rfl
        have hpc3 := (blk_cell S.out.BG 3).trans rfl
        have hpf0 := blk_frozen S.out.BG 0
        have hpf1 := blk_frozen S.out.BG 1
        have hpf2 := blk_frozen S.out.BG 2
        have hpf3 := blk_frozen S.out.BG 3
        go_wp2_with fail
        refine (node_Check.calls k true _ _ ks _ _ vs _ _ ds cc _ (Kd.V_reads' (Kd.N_V (base' := w.heap.size) S.out.K)).2.2 (Kd.V_reads' (Kd.N_V (base' := w.heap.size) S.out.K)).2.1 (Kd.V_reads' (Kd.N_V (base' := w.heap.size) S.out.V)).2.2 (Kd.V_reads' (Kd.N_V (base' := w.heap.size) S.out.V)).2.1 (Kd.V_reads' (Kd.N_V (base' := w.heap.size) S.out.D)).2.2 (Kd.V_reads' (Kd.N_V (base' := w.heap.size) S.out.D)).2.1 HC.out).mono ?_
        rintro e w8 ⟨rfl, hb⟩
        have n_ := Aside0.mk (S.out.below hb)
        clear hpc0 hpc1 hpc2 hpc3 hpf0 hpf1 hpf2 hpf3 hb S hg1 HC
        have S := n_
        clear n_
        have H := HH.out
        clear HH
        by_cases hz : cc = 0
        ·rw [if_pos hz] at H
         have wa : (cc == 0) = true := beq_iff_eq.mpr hz
         have wb : (cc != 0) = false := bne_eq_false_iff_eq.mpr hz
         clear hz
         simp only [Option.some.injEq, Prod.mk.injEq] at H
         obtain ⟨rfl, rfl, rfl, rfl, rfl⟩ := H
         have hpc0 := (blk_cell S.out.BG 0).trans rfl
         have hpc1 := (blk_cell S.out.BG 1).trans rfl
         have hpc2 := (blk_cell S.out.BG 2).trans rfl
         have hpc3 := (blk_cell S.out.BG 3).trans rfl
         have hpf0 := blk_frozen S.out.BG 0
         have hpf1 := blk_frozen S.out.BG 1
         have hpf2 := blk_frozen S.out.BG 2
         have hpf3 := blk_frozen S.out.BG 3
         have hzc0 := (blk_cell S.out.BR 0).trans rfl
         have hzc1 := (blk_cell S.out.BR 1).trans rfl
         have hzc2 := (blk_cell S.out.BR 2).trans rfl
         have hzc3 := (blk_cell S.out.BR 3).trans rfl
         have hzf0 := blk_frozen S.out.BR 0
         have hzf1 := blk_frozen S.out.BR 1
         have hzf2 := blk_frozen S.out.BR 2
         have hzf3 := blk_frozen S.out.BR 3
         go_wp2
         refine bodyPost_ret (results_ct rfl _ _ gr 25 #[.bool true, .slice AK ks.length cK, .slice AV vs.length cV, .slice AD ds.length cD] (0, 0) _ rfl (node_Decode.putB S.out.BR _ _ _ _) Tryd.underlying25 rfl (by kernel_rfl)) rfl ?_
         obtain ⟨e1, e2, e3, e4⟩ := S.out.end_ (.bool true) (.slice AK ks.length cK) (.slice AV vs.length cV) (.slice AD ds.length cD)
         exact ⟨_, _, _, rfl, e1, e2, e3, e4⟩
        ·rw [if_neg hz] at H
         have wa : (cc == 0) = false := beq_eq_false_iff_ne.mpr hz
         have wb : (cc != 0) = true := bne_iff_ne.mpr hz
         clear hz
         simp only [Option.some.injEq, Prod.mk.injEq, node_Decode.no] at H
         obtain ⟨rfl, rfl, rfl, rfl, rfl⟩ := H
         have hzc0 := (blk_cell S.out.BR 0).trans rfl
         have hzc1 := (blk_cell S.out.BR 1).trans rfl
         have hzc2 := (blk_cell S.out.BR 2).trans rfl
         have hzc3 := (blk_cell S.out.BR 3).trans rfl
         have hzf0 := blk_frozen S.out.BR 0
         have hzf1 := blk_frozen S.out.BR 1
         have hzf2 := blk_frozen S.out.BR 2
         have hzf3 := blk_frozen S.out.BR 3
         go_wp2
         refine bodyPost_ret (results_ct rfl _ _ gr 25 #[.bool false, .slice none 0 0, .slice none 0 0, .slice none 0 0] (0, 0) _ rfl (node_Decode.putB S.out.BR _ _ _ _) Tryd.underlying25 rfl (by kernel_rfl)) rfl ⟨_, _, _, rfl, Kd.V_nil _ _ _ _ _, Kd.V_nil _ _ _ _ _, Kd.V_nil _ _ _ _ _, node_Decode.putW S.out.HB S.out.GR _ _ _ _⟩
      ·have HH := Aside0.mk H
       clear H
       have H := HH.out
       clear HH
       unfold node_Decode.e at H
       replace H := Option.bind_eq_some_iff.mp H
       obtain ⟨y, hy, H⟩ := H
       (try simp only at H)
       have HT := Aside0.mk hy
       have HH := Aside0.mk H
       clear hy H
       have hg2 := (blk_cell S.out.BX 0).trans rfl
       go_wp2_with fail
       repeat (go_quiet (fail); try go_wp2_with fail)
       refine (node_Decode_trim.calls k _ _ left y _ (Kd.V_mono (Kd.V_mk (base := _) (e := 5) S.out.L S.out.F) (fun _ _ => trivial)) HT.out).mono ?_
       rintro e w7 ⟨Ay, cy, rfl, hb⟩
       have n_ := Aside0.mk (S.out.below hb)
       clear hb S hg1 hg2 HT y1 y2
       have S := n_
       clear n_
       have hg1 := (blk_cell S.out.BX 1).trans rfl
       have H := HH.out
       clear HH
       (first | rw [if_pos rfl] at H | rw [if_pos trivial] at H)
       simp only [Option.some.injEq, Prod.mk.injEq, node_Decode.no] at H
       obtain ⟨rfl, rfl, rfl, rfl, rfl⟩ := H
       have hzc0 := (blk_cell S.out.BR 0).trans rfl
       have hzc1 := (blk_cell S.out.BR 1).trans rfl
       have hzc2 := (blk_cell S.out.BR 2).trans rfl
       have hzc3 := (blk_cell S.out.BR 3).trans rfl
       have hzf0 := blk_frozen S.out.BR 0
       have hzf1 := blk_frozen S.out.BR 1
       have hzf2 := blk_frozen S.out.BR 2
       have hzf3 := blk_frozen S.out.BR 3
       go_wp2
       refine bodyPost_ret (results_ct rfl _ _ gr 25 #[.bool false, .slice none 0 0, .slice none 0 0, .slice none 0 0] (0, 0) _ rfl (node_Decode.putB S.out.BR _ _ _ _) Tryd.underlying25 rfl (by kernel_rfl)) rfl ⟨_, _, _, rfl, Kd.V_nil _ _ _ _ _, Kd.V_nil _ _ _ _ _, Kd.V_nil _ _ _ _ _, node_Decode.putW S.out.HB S.out.GR _ _ _ _⟩
     | succ m =>
      rw [node_Decode.g] at H
      have y1 : decide (((m + 1 : Nat) : Int) > 0) = true := decide_eq_true (by omega)
      have y2 : decide (0 < ((m + 1 : Nat) : Int)) = true := decide_eq_true (by omega)
      cases bad
      rotate_left
      ·rw [if_pos rfl] at H; rw [Option.bind_some] at H
       have HH := Aside0.mk H
       clear H
       have H := HH.out
       clear HH
       unfold node_Decode.e at H
       replace H := Option.bind_eq_some_iff.mp H
       obtain ⟨y, hy, H⟩ := H
       (try simp only at H)
       have HT := Aside0.mk hy
       have HH := Aside0.mk H
       clear hy H
       have hg2 := (blk_cell S.out.BX 0).trans rfl
       go_wp2_with fail
       repeat (go_quiet (fail); try go_wp2_with fail)
       refine (node_Decode_trim.calls k _ _ left y _ (Kd.V_mono (Kd.V_mk (base := _) (e := 5) S.out.L S.out.F) (fun _ _ => trivial)) HT.out).mono ?_
       rintro e w7 ⟨Ay, cy, rfl, hb⟩
       have n_ := Aside0.mk (S.out.below hb)
       clear hb S hg1 hg2 HT y1 y2
       have S := n_
       clear n_
       have hg1 := (blk_cell S.out.BX 1).trans rfl
       have H := HH.out
       clear HH
       (first | rw [if_pos rfl] at H | rw [if_pos trivial] at H)
       simp only [Option.some.injEq, Prod.mk.injEq, node_Decode.no] at H
       obtain ⟨rfl, rfl, rfl, rfl, rfl⟩ := H
       have hzc0 := (blk_cell S.out.BR 0).trans rfl
       have hzc1 := (blk_cell S.out.BR 1).trans rfl
       have hzc2 := (blk_cell S.out.BR 2).trans rfl
       have hzc3 := (blk_cell S.out.BR 3).trans rfl
       have hzf0 := blk_frozen S.out.BR 0
       have hzf1 := blk_frozen S.out.BR 1
       have hzf2 := blk_frozen S.out.BR 2
       have hzf3 := blk_frozen S.out.BR 3
       go_wp2
       refine bodyPost_ret (results_ct rfl _ _ gr 25 #[.bool false, .slice none 0 0, .slice none 0 0, .slice none 0 0] (0, 0) _ rfl (node_Decode.putB S.out.BR _ _ _ _) Tryd.underlying25 rfl (by kernel_rfl)) rfl ⟨_, _, _, rfl, Kd.V_nil _ _ _ _ _, Kd.V_nil _ _ _ _ _, Kd.V_nil _ _ _ _ _, node_Decode.putW S.out.HB S.out.GR _ _ _ _⟩
      rw [if_neg (by decide)] at H
      rw [Option.bind_assoc] at H
      replace H := Option.bind_eq_some_iff.mp H
      obtain ⟨⟨x1, left1, bad1⟩, hn, H⟩ := H
      (try simp only at H)
      have HN := Aside0.mk hn
      clear hn
      by_cases hl : ks.length < 1048576 ∧ vs.length < 1048576 ∧ ds.length < 1048576
      rotate_left
      ·rw [if_neg hl] at H; cases H
      rw [if_pos hl] at H
      have HLN := Aside0.mk hl.1
      have HLV := Aside0.mk hl.2.1
      have HLD := Aside0.mk hl.2.2
      clear hl
      have HH := Aside0.mk H
      clear H
      go_upto_region 13 with fail
      clear hg1 y1 y2
      have n_ := Aside0.mk (S.out.below (below_drew (Below.refl _ _)))
      clear S
      have S := n_
      clear n_
      refine start_ (n := 7) (S := fun w' => w'.cell? ⟨gp, 1, none⟩ = some vK) (ds := [6]) #[false, false, false, false, false, false, false] (by kernel_rfl) rfl rfl (((blk_cell S.out.BG 1).trans rfl)) (fun hHeld => ?_)
      refine with_tabW node_Decode.tab13 node_Decode.bits13 (fun HT_ HW_ => ?_)
      refine zpu 0 (some 62) #[true, false, false, false, false, false, false] (any_of HT_.out (by kernel_rfl)) ?_
      refine zta 1 (some 63) #[true, true, false, false, false, false, false] (take_ofW HT_.out HW_.out (by kernel_rfl)) hHeld ?_
      refine one_ (i := 2) (N := some 64) #[true, true, true, false, false, false, false] rfl rfl (one_of HT_.out (by kernel_rfl)) (by decide) (fun K hK => ?_)
      refine goes_ Tryd.func24 (by kernel_rfl) rfl #[.pointer (some ⟨g, 0, none⟩), .int .u64 256] (by rfl) rfl rfl zl_ ?_
      refine (node_Decode_text.calls k g _ _ _ left false 256 x1 left1 bad1 w _ S.out.HB S.out.GX S.out.BX S.out.F (fun k hk => hk.2.2.2.2.1) S.out.L HN.out).mono ?_
      rintro e w7_ ⟨Bx_, dx_, A_, c_, rfl, hFx, hLx, hbx, hF, hL, hB, hK⟩
      refine ⟨_, rfl, ?_⟩
      have S2 := Aside0.mk (S.out.moved hbx hF hL hB hK)
      have FX := Aside0.mk (Kd.FK_slice_mk (e := 5) hLx (Kd.F_mono hFx (fun k hk => S.out.fresh k hk)))
      clear hbx hF hL hB hK hFx hLx S HN
      refine hK.out _ _ (((blk_cell S2.out.BG 1).trans rfl)) (fun hHeld => ?_)
      clear hK K
      refine zno 64 ?_
      refine one_ (i := 3) (N := some 65) #[true, true, true, true, false, false, false] rfl rfl (one_of HT_.out (by kernel_rfl)) (by decide) (fun K hK => ?_)
      refine value_ (w1 := ?_) (v := ?_) (by rfl) rfl ?_ ?_
      rotate_left 2
      ·go_simp
       constructor
       ·rfl
       ·rfl
      refine hK.out _ _ (((blk_cell (blk_alloc S2.out.BG _) 1).trans rfl)) (fun hHeld => ?_)
      clear hK K
      refine zno 65 ?_
      refine one_ (i := 4) (N := some 66) #[true, true, true, true, true, false, false] rfl rfl (one_of HT_.out (by kernel_rfl)) (by decide) (fun K hK => ?_)
      refine Kd.N_append_step (Kd.slice 5 (Kd.int .u8)) (w0 := w) w.heap.size (by rfl) (.tmp 63) (.tmp 65) 22 26 (.slice none 0 0) 24 rfl Tryd.underlying22 info26 rfl (by decide) (by omega) vK ks x1 [.slice Bx_ x1.length dx_] (node_Decode.dok w.heap.size g gp gr (.bool true) vV vD) (node_Decode.dok w.heap.size g gp gr vK vV vD) rfl rfl FX.out (fun k hk => ⟨⟨hk.1, node_Decode.none_own k, hk.2.2.1, hk.2.2.2.1, hk.2.2.2.2.1, hk.2.2.2.2.2.1, hk.2.2.2.2.2.2⟩, hk.2.1⟩) (fun k hk => ⟨(S2.out.fresh k hk).1, node_Decode.none_own k, (S2.out.fresh k hk).2.2.1, (S2.out.fresh k hk).2.2.2.1, (S2.out.fresh k hk).2.2.2.2.1, (S2.out.fresh k hk).2.2.2.2.2.1, (S2.out.fresh k hk).2.2.2.2.2.2⟩) S2.out.K S2.out.HB S2.out.HB.size (by have := HLN.out; omega) ?_
      intro v9_ w8_ hn hb hg hat
      obtain ⟨bg, S9⟩ := S2.out.growK hn hb hg hat
      obtain ⟨A9_, c9_, hv_⟩ := Kd.N_slice hn
      obtain ⟨n9_, e9_⟩ : ∃ n, n = (ks ++ [x1]).length := ⟨_, rfl⟩
      rw [← e9_] at hv_
      subst hv_
      clear e9_ hn hb hg hat FX S2
      have BG9 := Aside0.mk bg
      have S2 := Aside0.mk S9
      clear bg S9
      refine hK.out _ _ (((blk_cell BG9.out 1).trans rfl)) (fun hHeld => ?_)
      clear hK K
      refine zno 66 ?_
      refine zpu 5 (some 67) #[true, true, true, true, true, true, false] (any_of HT_.out (by kernel_rfl)) ?_
      refine last_ (i := 6) (N := none) #[true, true, true, true, true, true, true] rfl rfl (one_of HT_.out (by kernel_rfl)) (by decide) (fun K hK => ?_)
      have hh1 := (blk_cell BG9.out 1).trans rfl
      have hf1 := blk_frozen BG9.out 1
      refine skip_ (w1 := ?_) (by rfl) rfl ?_ ?_
      rotate_left
      ·go_simp
       rfl
      clear hh1 hf1
      refine hK.out _ _ ?_
      clear hK K
      refine done_ (done_of HT_.out (by kernel_rfl)) ?_
      obtain ⟨w9_, hw9_⟩ : ∃ w9, w9 = w8_.setCell ⟨gp, 1, none⟩ (.slice A9_ n9_ c9_) := ⟨_, rfl⟩
      rw [← hw9_] at S2 ⊢
      clear hw9_ BG9
      try clear hHeld
      obtain ⟨vK9, hv9_⟩ : ∃ v, v = Value.slice A9_ n9_ c9_ := ⟨_, rfl⟩
      rw [← hv9_] at S2
      (try rw [← hv9_])
      clear hv9_
      have H := HH.out
      clear HH HLN
      have hg0 := (blk_cell S2.out.BG 0).trans rfl
      (first | rw [if_pos rfl] at H | rw [if_pos trivial] at H)
      rw [Option.bind_assoc] at H
      replace H := Option.bind_eq_some_iff.mp H
      obtain ⟨⟨x2, left2, bad2⟩, hn, H⟩ := H
      (try simp only at H)
      have HN := Aside0.mk hn
      have HH := Aside0.mk H
      have HLN := HLV
      clear hn H HLV
      go_upto_region 15 with fail
      clear hg0
      have n_ := Aside0.mk (S2.out.below (below_drew (Below.refl _ _)))
      clear S2
      have S2 := n_
      clear n_
      refine start_ (n := 7) (S := fun w' => w'.cell? ⟨gp, 2, none⟩ = some vV) (ds := [6]) #[false, false, false, false, false, false, false] (by kernel_rfl) rfl rfl (((blk_cell S2.out.BG 2).trans rfl)) (fun hHeld => ?_)
      refine with_tabW node_Decode.tab15 node_Decode.bits15 (fun HT_ HW_ => ?_)
      refine zpu 0 (some 70) #[true, false, false, false, false, false, false] (any_of HT_.out (by kernel_rfl)) ?_
      refine zta 1 (some 71) #[true, true, false, false, false, false, false] (take_ofW HT_.out HW_.out (by kernel_rfl)) hHeld ?_
      refine one_ (i := 2) (N := some 72) #[true, true, true, false, false, false, false] rfl rfl (one_of HT_.out (by kernel_rfl)) (by decide) (fun K hK => ?_)
      refine goes_ Tryd.func24 (by kernel_rfl) rfl #[.pointer (some ⟨g, 0, none⟩), .int .u64 512] (by rfl) rfl rfl zl_ ?_
      refine (node_Decode_text.calls k g _ _ _ left1 bad1 512 x2 left2 bad2 w _ S2.out.HB S2.out.GX S2.out.BX S2.out.F (fun k hk => hk.2.2.2.2.1) S2.out.L HN.out).mono ?_
      rintro e w7_ ⟨Bx_, dx_, A_, c_, rfl, hFx, hLx, hbx, hF, hL, hB, hK⟩
      refine ⟨_, rfl, ?_⟩
      have S3 := Aside0.mk (S2.out.moved hbx hF hL hB hK)
      have FX := Aside0.mk (Kd.FK_slice_mk (e := 5) hLx (Kd.F_mono hFx (fun k hk => S2.out.fresh k hk)))
      clear hbx hF hL hB hK hFx hLx S2 HN
      refine hK.out _ _ (((blk_cell S3.out.BG 2).trans rfl)) (fun hHeld => ?_)
      clear hK K
      refine zno 72 ?_
      refine one_ (i := 3) (N := some 73) #[true, true, true, true, false, false, false] rfl rfl (one_of HT_.out (by kernel_rfl)) (by decide) (fun K hK => ?_)
      refine value_ (w1 := ?_) (v := ?_) (by rfl) rfl ?_ ?_
      rotate_left 2
      ·go_simp
       constructor
       ·rfl
       ·rfl
      refine hK.out _ _ (((blk_cell (blk_alloc S3.out.BG _) 2).trans rfl)) (fun hHeld => ?_)
      clear hK K
      refine zno 73 ?_
      refine one_ (i := 4) (N := some 74) #[true, true, true, true, true, false, false] rfl rfl (one_of HT_.out (by kernel_rfl)) (by decide) (fun K hK => ?_)
      refine Kd.N_append_step (Kd.slice 5 (Kd.int .u8)) (w0 := w) w.heap.size (by rfl) (.tmp 71) (.tmp 73) 22 26 (.slice none 0 0) 24 rfl Tryd.underlying22 info26 rfl (by decide) (by omega) vV vs x2 [.slice Bx_ x2.length dx_] (node_Decode.dok w.heap.size g gp gr vK9 (.bool true) vD) (node_Decode.dok w.heap.size g gp gr vK9 vV vD) rfl rfl FX.out (fun k hk => ⟨⟨hk.1, hk.2.1, node_Decode.none_own k, hk.2.2.2.1, hk.2.2.2.2.1, hk.2.2.2.2.2.1, hk.2.2.2.2.2.2⟩, hk.2.2.1⟩) (fun k hk => ⟨(S3.out.fresh k hk).1, (S3.out.fresh k hk).2.1, node_Decode.none_own k, (S3.out.fresh k hk).2.2.2.1, (S3.out.fresh k hk).2.2.2.2.1, (S3.out.fresh k hk).2.2.2.2.2.1, (S3.out.fresh k hk).2.2.2.2.2.2⟩) S3.out.V S3.out.HB S3.out.HB.size (by have := HLN.out; omega) ?_
      intro v9_ w8_ hn hb hg hat
      obtain ⟨bg, S9⟩ := S3.out.growV hn hb hg hat
      obtain ⟨A9_, c9_, hv_⟩ := Kd.N_slice hn
      obtain ⟨n9_, e9_⟩ : ∃ n, n = (vs ++ [x2]).length := ⟨_, rfl⟩
      rw [← e9_] at hv_
      subst hv_
      clear e9_ hn hb hg hat FX S3
      have BG9 := Aside0.mk bg
      have S3 := Aside0.mk S9
      clear bg S9
      refine hK.out _ _ (((blk_cell BG9.out 2).trans rfl)) (fun hHeld => ?_)
      clear hK K
      refine zno 74 ?_
      refine zpu 5 (some 75) #[true, true, true, true, true, true, false] (any_of HT_.out (by kernel_rfl)) ?_
      refine last_ (i := 6) (N := none) #[true, true, true, true, true, true, true] rfl rfl (one_of HT_.out (by kernel_rfl)) (by decide) (fun K hK => ?_)
      have hh1 := (blk_cell BG9.out 2).trans rfl
      have hf1 := blk_frozen BG9.out 2
      refine skip_ (w1 := ?_) (by rfl) rfl ?_ ?_
      rotate_left
      ·go_simp
       rfl
      clear hh1 hf1
      refine hK.out _ _ ?_
      clear hK K
      refine done_ (done_of HT_.out (by kernel_rfl)) ?_
      obtain ⟨w9_, hw9_⟩ : ∃ w9, w9 = w8_.setCell ⟨gp, 2, none⟩ (.slice A9_ n9_ c9_) := ⟨_, rfl⟩
      rw [← hw9_] at S3 ⊢
      clear hw9_ BG9
      try clear hHeld
      obtain ⟨vV9, hv9_⟩ : ∃ v, v = Value.slice A9_ n9_ c9_ := ⟨_, rfl⟩
      rw [← hv9_] at S3
      (try rw [← hv9_])
      clear hv9_
      have e1 : IntKind.u64.wrap (((m + 1 : Nat) : Int) - 1) = (m : Int) := by have := HM.out; rw [IntKind.wrap_u64]; omega
      have e2 : IntKind.u64.wrap (m : Int) = (m : Int) := by have := HM.out; rw [IntKind.wrap_u64]; omega
      go_wp2_with fail
      go_roundg (m + 1)
      case measure => exact (by omega)
      case rel => exact ⟨m, _, _, left2, bad2, _, _, _, _, _, _, by omega, rfl, by first | rfl | rw [e1] | rw [e2] | simp [e1, e2], S3, HH⟩
   ·rw [if_neg h1] at H
    have xa : (x0 == 1) = false := beq_eq_false_iff_ne.mpr h1
    have xb : (x0 != 1) = true := bne_iff_ne.mpr h1
    clear h1
    by_cases h2 : x0 = 2
    ·rw [if_pos h2] at H
     have va : (x0 == 2) = true := beq_iff_eq.mpr h2
     have vb : (x0 != 2) = false := bne_eq_false_iff_eq.mpr h2
     clear h2
     have HH := Aside0.mk H
     clear H
     obtain ⟨i0, hi0, _, hsz0, _⟩ := info_parts info5
     obtain ⟨A2, hcut, hF2, hL2⟩ := node_Decode.cutF 26 Tryd.underlying26 hi0 hsz0 .i64 1 (by omega) (by have := HP.out; omega) LB.out RB.out
     have D1 := Aside0.mk hF2
     have D2 := Aside0.mk hL2
     clear hF2 hL2 hi0 hsz0
     rw [show (1 : Int).toNat = 1 from rfl] at hcut D1 D2
     obtain ⟨left0, hleft⟩ : ∃ x, x = body.drop 1 := ⟨_, rfl⟩
     unfold node_Decode.h at HH
     rw [← hleft] at hcut D1 D2 HH
     clear hleft
     go_upto_region 7 with (first | ((with_reducible refine gate_dst (N := 6) rfl ?_); refine box_event ?hg (N := 6) ?hd (cs := #[.slice none 0 0, .bool false]) (t := 47) ?hr ?_; (case hd => rfl); (case hg => rfl); (case hr => first | (go_simp; done) | (go_simp; rfl)); intro g hg w3 hbox hb; have BX := Aside0.mk hbox; have GX : Aside0 (w.heap.size ≤ g ∧ g ≠ gr ∧ w2.heap.size ≤ g) := ⟨by rw [hg]; exact HB2.out.size, by rw [hg]; exact Nat.ne_of_gt (blk_lt BR2.out), by rw [hg]; exact Nat.le_refl _⟩; have BR3 := Aside0.mk (blk_below BR2.out hb); have HB3 := Aside0.mk (below_step HB2.out hb); have RB3 := Aside0.mk (Kd.F_bound RB.out); have RB4 := Aside0.mk (Kd.F_below RB3.out hb); have D3 := Aside0.mk (Kd.F_bound D1.out); have D4 := Aside0.mk (Kd.F_below D3.out hb); clear hbox hb hg BR2 HB2 RB RB3 D1 D3 hx; have hzc0 := (blk_cell BX.out 0).trans rfl; have hzc1 := (blk_cell BX.out 1).trans rfl; have hzf0 := blk_frozen BX.out 0; have hzf1 := blk_frozen BX.out 1))
     clear hzc0 hzc1 hzf0 hzf1
     have FAR : Aside0 (∀ k, (w1.heap.size ≤ k ∧ k < w2.heap.size) → k ≠ g) := ⟨fun k hk he => by have := GX.out.2.2; omega⟩
     have BX4 : Aside0 (((w3.setCell ⟨g, 0, none⟩ (.slice A2 left0.length (cb - 1))).setCell ⟨g, 1, none⟩ (.bool false)).heap[g]? = some (.cells #[.slice A2 left0.length (cb - 1), .bool false] 47 (0, 0))) := ⟨blk_put (cs := #[.slice A2 left0.length (cb - 1), .bool false]) (blk_put (cs := #[.slice none 0 0, .bool false]) BX.out 0 _ rfl) 1 _ rfl⟩
     have BR4 : Aside0 (((w3.setCell ⟨g, 0, none⟩ (.slice A2 left0.length (cb - 1))).setCell ⟨g, 1, none⟩ (.bool false)).heap[gr]? = some (.cells #[.bool false, .slice none 0 0, .slice none 0 0, .slice none 0 0] 25 (0, 0))) := ⟨blk_far (blk_far BR3.out (Ne.symm GX.out.2.1) _) (Ne.symm GX.out.2.1) _⟩
     have HB4 : Aside0 (Below w.heap.size w ((w3.setCell ⟨g, 0, none⟩ (.slice A2 left0.length (cb - 1))).setCell ⟨g, 1, none⟩ (.bool false))) := ⟨below_set (below_set HB3.out GX.out.1) GX.out.1⟩
     have RB5 : Aside0 (Kd.F (Kd.int .u8) ((w3.setCell ⟨g, 0, none⟩ (.slice A2 left0.length (cb - 1))).setCell ⟨g, 1, none⟩ (.bool false)) (fun k => w1.heap.size ≤ k ∧ k < w2.heap.size) (some ad) body.length body) := ⟨Kd.F_far (p := ⟨g, 1, none⟩) (Kd.F_far (p := ⟨g, 0, none⟩) RB4.out FAR.out _) FAR.out _⟩
     have D5 : Aside0 (Kd.F (Kd.int .u8) ((w3.setCell ⟨g, 0, none⟩ (.slice A2 left0.length (cb - 1))).setCell ⟨g, 1, none⟩ (.bool false)) (fun k => w1.heap.size ≤ k ∧ k < w2.heap.size) A2 left0.length left0) := ⟨Kd.F_far (p := ⟨g, 1, none⟩) (Kd.F_far (p := ⟨g, 0, none⟩) D4.out FAR.out _) FAR.out _⟩
     clear BX BR3 HB3 RB4 D4
     obtain ⟨w4, hw4⟩ : ∃ w4, w4 = ((w3.setCell ⟨g, 0, none⟩ (.slice A2 left0.length (cb - 1))).setCell ⟨g, 1, none⟩ (.bool false)) := ⟨_, rfl⟩
     rw [← hw4] at BX4 BR4 HB4 RB5 D5 ⊢
     clear hw4 hcut
     obtain ⟨ad2, ea, hx⟩ := Kd.at_int (Kd.F_now RB5.out) 0 (by omega) (by have := HP.out; omega)
     cases ea
     (try rw [show ((0 : Int)).toNat = 0 from rfl] at hx)
     (try rw [Addr.add_zero'] at hx)
     rw [← HX0.out] at hx
     go_upto_region 8 with (first | ((with_reducible refine gate_dst (N := 7) rfl ?_); refine box_event ?hg (N := 7) ?hd (cs := #[.bool false, .slice none 0 0, .slice none 0 0, .slice none 0 0]) (t := 25) ?hr ?_; (case hd => rfl); (case hg => rfl); (case hr => first | (go_simp; done) | (go_simp; rfl)); intro gp hg w5 hbox hb; have BP := Aside0.mk hbox; have GP : Aside0 (w.heap.size ≤ gp ∧ gp ≠ gr ∧ gp ≠ g ∧ w4.heap.size ≤ gp) := ⟨by rw [hg]; exact HB4.out.size, by rw [hg]; exact Nat.ne_of_gt (blk_lt BR4.out), by rw [hg]; exact Nat.ne_of_gt (blk_lt BX4.out), by rw [hg]; exact Nat.le_refl _⟩; have BR5 := Aside0.mk (blk_below BR4.out hb); have BX5 := Aside0.mk (blk_below BX4.out hb); have HB5 := Aside0.mk (below_step HB4.out hb); have D6 := Aside0.mk (Kd.F_bound D5.out); have D7 := Aside0.mk (Kd.F_below D6.out hb); clear hbox hb hg BR4 BX4 HB4 D5 D6 hx RB5; have hzc0 := (blk_cell BP.out 0).trans rfl; have hzc1 := (blk_cell BP.out 1).trans rfl; have hzc2 := (blk_cell BP.out 2).trans rfl; have hzc3 := (blk_cell BP.out 3).trans rfl; have hzf0 := blk_frozen BP.out 0; have hzf1 := blk_frozen BP.out 1; have hzf2 := blk_frozen BP.out 2; have hzf3 := blk_frozen BP.out 3))
     clear hzc0 hzc1 hzc2 hzc3 hzf0 hzf1 hzf2 hzf3 p0 q0 qi0
     have S : Aside0 (node_Decode.Dc w ((((w5.setCell ⟨gp, 0, none⟩ (.bool false)).setCell ⟨gp, 1, none⟩ (.slice none 0 0)).setCell ⟨gp, 2, none⟩ (.slice none 0 0)).setCell ⟨gp, 3, none⟩ (.slice none 0 0)) g gp gr A2 (cb - 1) left0 false false (.slice none 0 0) [] (.slice none 0 0) [] (.slice none 0 0) []) := ⟨⟨node_Decode.putF BX5.out (Ne.symm GP.out.2.2.1) _ _ _ _, node_Decode.putB BP.out _ _ _ _, node_Decode.putF BR5.out (Ne.symm GP.out.2.1) _ _ _ _, node_Decode.putW HB5.out GP.out.1 _ _ _ _, GX.out.1, GP.out.1, GR.out, GP.out.2.1, Kd.F_mono (Kd.F_far (p := ⟨gp, 3, none⟩) (Kd.F_far (p := ⟨gp, 2, none⟩) (Kd.F_far (p := ⟨gp, 1, none⟩) (Kd.F_far (p := ⟨gp, 0, none⟩) D7.out (fun k hk he => by have := GP.out.2.2.2; have he2 : k = gp := he; omega) _) (fun k hk he => by have := GP.out.2.2.2; have he2 : k = gp := he; omega) _) (fun k hk he => by have := GP.out.2.2.2; have he2 : k = gp := he; omega) _) (fun k hk he => by have := GP.out.2.2.2; have he2 : k = gp := he; omega) _) (fun k hk => ⟨Nat.le_trans SZ.out hk.1.1, node_Decode.nil_own k, node_Decode.nil_own k, node_Decode.nil_own k, FAR.out k hk.1, (by have := GP.out.2.2.2; omega), (by have := LT.out; omega)⟩), D2.out, Kd.N_nil _ _ _ _ _, Kd.N_nil _ _ _ _ _, Kd.N_nil _ _ _ _ _⟩⟩
     clear BP BR5 BX5 HB5 D7 D2 FAR GP GX GR SZ LT HP LB HX0
     obtain ⟨w6, hw6⟩ : ∃ w6, w6 = ((((w5.setCell ⟨gp, 0, none⟩ (.bool false)).setCell ⟨gp, 1, none⟩ (.slice none 0 0)).setCell ⟨gp, 2, none⟩ (.slice none 0 0)).setCell ⟨gp, 3, none⟩ (.slice none 0 0)) := ⟨_, rfl⟩
     rw [← hw6] at S ⊢
     clear hw6
     have H := HH.out
     clear HH
     replace H := Option.bind_eq_some_iff.mp H
     obtain ⟨⟨n, left1, bad1⟩, hn, H⟩ := H
     (try simp only at H)
     have HN := Aside0.mk hn
     clear hn
     by_cases hM : 0 ≤ n ∧ n ≤ 4096
     rotate_left
     ·rw [if_neg hM] at H; cases H
     rw [if_pos hM] at H
     obtain ⟨M, rfl⟩ := Int.eq_ofNat_of_zero_le hM.1
     rw [Int.toNat_natCast] at H
     have HM : Aside0 (M ≤ 4096) := ⟨by omega⟩
     clear hM
     have HH := Aside0.mk H
     clear H
     go_wp2_with fail
     refine (node_Decode_num.calls k g _ A2 (cb - 1) left0 false 4096 (M : Int) left1 bad1 w _ S.out.HB S.out.GX S.out.BX S.out.F (fun k hk => hk.2.2.2.2.1) S.out.L HN.out).mono ?_
     rintro e w7 ⟨A_, c_, rfl, hbx, hF, hL, hB, hK⟩
     have S1 := Aside0.mk (S.out.moved hbx hF hL hB hK)
     clear hbx hF hL hB hK S HN
     have hg0 := (blk_cell S1.out.BG 0).trans rfl
     have H := HH.out
     clear HH
     rw [if_neg (by decide)] at H
     replace H := Option.bind_eq_some_iff.mp H
     obtain ⟨⟨d0, left2, bad2⟩, hn, H⟩ := H
     (try simp only at H)
     have HN := Aside0.mk hn
     have HH := Aside0.mk H
     clear hn H
     go_upto_region 10 with fail
     clear hg0
     have n_ := Aside0.mk (S1.out.below (below_drew (Below.refl _ _)))
     clear S1
     have S1 := n_
     clear n_
     refine start_ (n := 8) (S := fun w' => w'.cell? ⟨gp, 3, none⟩ = some (.slice none 0 0)) (ds := [7]) (zB 0 8) (by kernel_rfl) rfl rfl (((blk_cell S1.out.BG 3).trans rfl)) (fun hHeld => ?_)
     refine with_tabW node_Decode.tab10 node_Decode.bits10 (fun HT_ HW_ => ?_)
     refine zpu 0 (some 46) (zB 1 7) (any_of HT_.out (by kernel_rfl)) ?_
     refine zta 1 (some 47) (zB 2 6) (take_ofW HT_.out HW_.out (by kernel_rfl)) hHeld ?_
     refine one_ (i := 2) (N := some 48) (zB 3 5) rfl rfl (one_of HT_.out (by kernel_rfl)) (by decide) (fun K hK => ?_)
     refine goes_ Tryd.func23 (by kernel_rfl) rfl #[.pointer (some ⟨g, 0, none⟩), .int .u64 1023] (by rfl) rfl rfl zl_ ?_
     refine (node_Decode_num.calls k g _ _ _ left1 bad1 1023 d0 left2 bad2 w _ S1.out.HB S1.out.GX S1.out.BX S1.out.F (fun k hk => hk.2.2.2.2.1) S1.out.L HN.out).mono ?_
     rintro e w7_ ⟨A_, c_, rfl, hbx, hF, hL, hB, hK⟩
     refine ⟨_, rfl, ?_⟩
     have S2 := Aside0.mk (S1.out.moved hbx hF hL hB hK)
     clear hbx hF hL hB hK S1 HN
     refine hK.out _ _ (((blk_cell S2.out.BG 3).trans rfl)) (fun hHeld => ?_)
     clear hK K
     refine zno 48 ?_
     refine zpu 3 (some 49) (zB 4 4) (any_of HT_.out (by kernel_rfl)) ?_
     refine one_ (i := 4) (N := some 50) (zB 5 3) rfl rfl (one_of HT_.out (by kernel_rfl)) (by decide) (fun K hK => ?_)
     refine value_ (w1 := ?_) (v := ?_) (by rfl) rfl ?_ ?_
     rotate_left 2
     ·go_simp
      constructor
      ·rfl
      ·rfl
     refine hK.out _ _ (((blk_cell (blk_alloc S2.out.BG _) 3).trans rfl)) (fun hHeld => ?_)
     clear hK K
     refine zno 50 ?_
     refine one_ (i := 5) (N := some 51) (zB 6 2) rfl rfl (one_of HT_.out (by kernel_rfl)) (by decide) (fun K hK => ?_)
     refine Kd.N_append_step (Kd.int .i64) (w0 := w) w.heap.size (by rfl) (.tmp 47) (.tmp 50) 23 3 (.int .i64 0) 8 rfl Tryd.underlying23 info3 rfl (by decide) (by omega) (.slice none 0 0) [] (wrap64 d0) [.int .i64 (wrap64 d0)] (node_Decode.dok w.heap.size g gp gr (.slice none 0 0) (.slice none 0 0) (.bool true)) (fun _ => False) rfl rfl (fun _ _ => rfl) (fun _ hk => hk.elim) (fun k hk => ⟨(S2.out.fresh k hk).1, (S2.out.fresh k hk).2.1, (S2.out.fresh k hk).2.2.1, node_Decode.none_own k, (S2.out.fresh k hk).2.2.2.2⟩) S2.out.D S2.out.HB S2.out.HB.size (by decide) ?_
     intro v9_ w8_ hn hb hg hat
     obtain ⟨bg, S9⟩ := S2.out.growD hn hb hg hat
     obtain ⟨A9_, c9_, hv_⟩ := Kd.N_slice hn
     obtain ⟨n9_, e9_⟩ : ∃ n, n = ([] ++ [wrap64 d0]).length := ⟨_, rfl⟩
     rw [← e9_] at hv_
     subst hv_
     clear e9_ hn hb hg hat S2
     have BG9 := Aside0.mk bg
     have S2 := Aside0.mk S9
     clear bg S9
     refine hK.out _ _ (((blk_cell BG9.out 3).trans rfl)) (fun hHeld => ?_)
     clear hK K
     refine zno 51 ?_
     refine zpu 6 (some 52) (zB 7 1) (any_of HT_.out (by kernel_rfl)) ?_
     refine last_ (i := 7) (N := none) (zB 8 0) rfl rfl (one_of HT_.out (by kernel_rfl)) (by decide) (fun K hK => ?_)
     have hh1 := (blk_cell BG9.out 3).trans rfl
     have hf1 := blk_frozen BG9.out 3
     refine skip_ (w1 := ?_) (by rfl) rfl ?_ ?_
     rotate_left
     ·go_simp
      rfl
     clear hh1 hf1
     refine hK.out _ _ ?_
     clear hK K
     refine done_ (done_of HT_.out (by kernel_rfl)) ?_
     obtain ⟨w9_, hw9_⟩ : ∃ w9, w9 = w8_.setCell ⟨gp, 3, none⟩ (.slice A9_ n9_ c9_) := ⟨_, rfl⟩
     rw [← hw9_] at S2 ⊢
     clear hw9_ BG9
     try clear hHeld
     obtain ⟨vD9, hvD9⟩ : ∃ v, v = Value.slice A9_ n9_ c9_ := ⟨_, rfl⟩
     rw [← hvD9] at S2
     (try rw [← hvD9])
     clear hvD9
     have S1 := S2
     clear S2
     (try go_wp2_with fail)
     go_loopg [8] (M + 1) (fun kq v8 wr => ∃ (i : Nat) (A : Option Addr) (c : Nat) (left : List Int) (bad : Bool) (vK : Value) (ks : List (List Int)) (vV : Value) (vs : List (List Int)) (vD : Value) (ds : List Int), i ≤ M ∧ kq = i + 1 ∧ v8 = .int .u64 (i : Int) ∧ Aside0 (node_Decode.Dc w wr g gp gr A c left bad false vK ks vV vs vD ds) ∧ Aside0 ((node_Decode.g k false i left bad ks vs ds).bind (node_Decode.e k false) = some (r1, r2, r3, r4, r5)))
     case atStart => exact ⟨M, _, _, _, _, _, _, _, _, _, _, Nat.le_refl _, rfl, rfl, S1, HH⟩
     case round =>
      clear S1 HH
      obtain ⟨i, A, c, left, bad, vK, ks, vV, vs, vD, ds, hiM, rfl, rfl, S, HA⟩ := hrel
      have H := HA.out
      clear HA
      have hg1 := (blk_cell S.out.BX 1).trans rfl
      cases i with
      | zero =>
       rw [node_Decode.g, Option.bind_some] at H
       have y1 : decide (((0 : Nat) : Int) > 0) = false := by decide
       have y2 : decide (0 < ((0 : Nat) : Int)) = false := by decide
       cases bad
       ·have HH := Aside0.mk H
        clear H
        have H := HH.out
        clear HH
        unfold node_Decode.e at H
        replace H := Option.bind_eq_some_iff.mp H
        obtain ⟨y, hy, H⟩ := H
        (try simp only at H)
        have HT := Aside0.mk hy
        have HH := Aside0.mk H
        clear hy H
        have hg2 := (blk_cell S.out.BX 0).trans rfl
        go_wp2_with fail
        repeat (go_quiet (fail); try go_wp2_with fail)
        refine (node_Decode_trim.calls k _ _ left y _ (Kd.V_mono (Kd.V_mk (base := _) (e := 5) S.out.L S.out.F) (fun _ _ => trivial)) HT.out).mono ?_
        rintro e w7 ⟨Ay, cy, rfl, hb⟩
        have n_ := Aside0.mk (S.out.below hb)
        clear hb S hg1 hg2 HT y1 y2
        have S := n_
        clear n_
        have hg1 := (blk_cell S.out.BX 1).trans rfl
        have H := HH.out
        clear HH
        rw [if_neg (by decide)] at H
        by_cases hy : 0 < y.length
        ·rw [if_pos hy] at H
         have z1 : decide ((y.length : Int) > 0) = true := decide_eq_true (by omega)
         have z2 : decide (0 < y.length) = true := decide_eq_true hy
         clear hy
         simp only [Option.some.injEq, Prod.mk.injEq, node_Decode.no] at H
         obtain ⟨rfl, rfl, rfl, rfl, rfl⟩ := H
         have hzc0 := (blk_cell S.out.BR 0).trans rfl
         have hzc1 := (blk_cell S.out.BR 1).trans rfl
         have hzc2 := (blk_cell S.out.BR 2).trans rfl
         have hzc3 := (blk_cell S.out.BR 3).trans rfl
         have hzf0 := blk_frozen S.out.BR 0
         have hzf1 := blk_frozen S.out.BR 1
         have hzf2 := blk_frozen S.out.BR 2
         have hzf3 := blk_frozen S.out.BR 3
         go_wp2
         refine bodyPost_ret (results_ct rfl _ _ gr 25 #[.bool false, .slice none 0 0, .slice none 0 0, .slice none 0 0] (0, 0) _ rfl (node_Decode.putB S.out.BR _ _ _ _) Tryd.underlying25 rfl (by kernel_rfl)) rfl ⟨_, _, _, rfl, Kd.V_nil _ _ _ _ _, Kd.V_nil _ _ _ _ _, Kd.V_nil _ _ _ _ _, node_Decode.putW S.out.HB S.out.GR _ _ _ _⟩
        ·rw [if_neg hy] at H
         have z1 : decide ((y.length : Int) > 0) = false := decide_eq_false (by omega)
         have z2 : decide (0 < y.length) = false := decide_eq_false hy
         clear hy
         replace H := Option.bind_eq_some_iff.mp H
         obtain ⟨cc, hc, H⟩ := H
         have HC := Aside0.mk hc
         have HH := Aside0.mk H
         clear hc H
         obtain ⟨AK, cK, rfl⟩ := Kd.N_slice S.out.K
         obtain ⟨AV, cV, rfl⟩ := Kd.N_slice S.out.V
         obtain ⟨AD, cD, rfl⟩ := Kd.N_slice S.out.D
         have hpc0 := (blk_cell S.out.BG 0).trans rfl
         have hpc1 := (blk_cell S.out.BG 1).trans rfl
         have hpc2 := (blk_cell S.out.BG 2).trans rfl
         have hpc3 := (blk_cell S.out.BG 3).trans rfl
         have hpf0 := blk_frozen S.out.BG 0
         have hpf1 := blk_frozen S.out.BG 1
         have hpf2 := blk_frozen S.out.BG 2
         have hpf3 := blk_frozen S.out.BG 3
         go_wp2_with fail
         refine (node_Check.calls k false _ _ ks _ _ vs _ _ ds cc _ (Kd.V_reads' (Kd.N_V (base' := w.heap.size) S.out.K)).2.2 (Kd.V_reads' (Kd.N_V (base' := w.heap.size) S.out.K)).2.1 (Kd.V_reads' (Kd.N_V (base' := w.heap.size) S.out.V)).2.2 (Kd.V_reads' (Kd.N_V (base' := w.heap.size) S.out.V)).2.1 (Kd.V_reads' (Kd.N_V (base' := w.heap.size) S.out.D)).2.2 (Kd.V_reads' (Kd.N_V (base' := w.heap.size) S.out.D)).2.1 HC.out).mono ?_
         rintro e w8 ⟨rfl, hb⟩
         have n_ := Aside0.mk (S.out.below hb)
         clear hpc0 hpc1 hpc2 hpc3 hpf0 hpf1 hpf2 hpf3 hb S hg1 HC
         have S := n_
         clear n_
         have H := HH.out
         clear HH
         by_cases hz : cc = 0
         ·rw [if_pos hz] at H
          have wa : (cc == 0) = true := beq_iff_eq.mpr hz
          have wb : (cc != 0) = false := bne_eq_false_iff_eq.mpr hz
          clear hz
          simp only [Option.some.injEq, Prod.mk.injEq] at H
          obtain ⟨rfl, rfl, rfl, rfl, rfl⟩ := H
          have hpc0 := (blk_cell S.out.BG 0).trans rfl
          have hpc1 := (blk_cell S.out.BG 1).trans rfl
          have hpc2 := (blk_cell S.out.BG 2).trans rfl
          have hpc3 := (blk_cell S.out.BG 3).trans rfl
          have hpf0 := blk_frozen S.out.BG 0
          have hpf1 := blk_frozen S.out.BG 1
          have hpf2 := blk_frozen S.out.BG 2
          have hpf3 := blk_frozen S.out.BG 3
          have hzc0 := (blk_cell S.out.BR 0).trans rfl
          have hzc1 := (blk_cell S.out.BR 1).trans rfl
          have hzc2 := (blk_cell S.out.BR 2).trans rfl
          have hzc3 := (blk_cell S.out.BR 3).trans rfl
          have hzf0 := blk_frozen S.out.BR 0
          have hzf1 := blk_frozen S.out.BR 1
          have hzf2 := blk_frozen S.out.BR 2
          have hzf3 := blk_frozen S.out.BR 3
          go_wp2
          refine bodyPost_ret (results_ct rfl _ _ gr 25 #[.bool false, .slice AK ks.length cK, .slice AV vs.length cV, .slice AD ds.length cD] (0, 0) _ rfl (node_Decode.putB S.out.BR _ _ _ _) Tryd.underlying25 rfl (by kernel_rfl)) rfl ?_
          obtain ⟨e1, e2, e3, e4⟩ := S.out.end_ (.bool false) (.slice AK ks.length cK) (.slice AV vs.length cV) (.slice AD ds.length cD)
          exact ⟨_, _, _, rfl, e1, e2, e3, e4⟩
         ·rw [if_neg hz] at H
          have wa : (cc == 0) = false := beq_eq_false_iff_ne.mpr hz
          have wb : (cc != 0) = true := bne_iff_ne.mpr hz
          clear hz
          simp only [Option.some.injEq, Prod.mk.injEq, node_Decode.no] at H
          obtain ⟨rfl, rfl, rfl, rfl, rfl⟩ := H
          have hzc0 := (blk_cell S.out.BR 0).trans rfl
          have hzc1 := (blk_cell S.out.BR 1).trans rfl
          have hzc2 := (blk_cell S.out.BR 2).trans rfl
          have hzc3 := (blk_cell S.out.BR 3).trans rfl
          have hzf0 := blk_frozen S.out.BR 0
          have hzf1 := blk_frozen S.out.BR 1
          have hzf2 := blk_frozen S.out.BR 2
          have hzf3 := blk_frozen S.out.BR 3
          go_wp2
          refine bodyPost_ret (results_ct rfl _ _ gr 25 #[.bool false, .slice none 0 0, .slice none 0 0, .slice none 0 0] (0, 0) _ rfl (node_Decode.putB S.out.BR _ _ _ _) Tryd.underlying25 rfl (by kernel_rfl)) rfl ⟨_, _, _, rfl, Kd.V_nil _ _ _ _ _, Kd.V_nil _ _ _ _ _, Kd.V_nil _ _ _ _ _, node_Decode.putW S.out.HB S.out.GR _ _ _ _⟩
       ·have HH := Aside0.mk H
        clear H
        have H := HH.out
        clear HH
        unfold node_Decode.e at H
        replace H := Option.bind_eq_some_iff.mp H
        obtain ⟨y, hy, H⟩ := H
        (try simp only at H)
        have HT := Aside0.mk hy
        have HH := Aside0.mk H
        clear hy H
        have hg2 := (blk_cell S.out.BX 0).trans rfl
        go_wp2_with fail
        repeat (go_quiet (fail); try go_wp2_with fail)
        refine (node_Decode_trim.calls k _ _ left y _ (Kd.V_mono (Kd.V_mk (base := _) (e := 5) S.out.L S.out.F) (fun _ _ => trivial)) HT.out).mono ?_
        rintro e w7 ⟨Ay, cy, rfl, hb⟩
        have n_ := Aside0.mk (S.out.below hb)
        clear hb S hg1 hg2 HT y1 y2
        have S := n_
        clear n_
        have hg1 := (blk_cell S.out.BX 1).trans rfl
        have H := HH.out
        clear HH
        (first | rw [if_pos rfl] at H | rw [if_pos trivial] at H)
        simp only [Option.some.injEq, Prod.mk.injEq, node_Decode.no] at H
        obtain ⟨rfl, rfl, rfl, rfl, rfl⟩ := H
        have hzc0 := (blk_cell S.out.BR 0).trans rfl
        have hzc1 := (blk_cell S.out.BR 1).trans rfl
        have hzc2 := (blk_cell S.out.BR 2).trans rfl
        have hzc3 := (blk_cell S.out.BR 3).trans rfl
        have hzf0 := blk_frozen S.out.BR 0
        have hzf1 := blk_frozen S.out.BR 1
        have hzf2 := blk_frozen S.out.BR 2
        have hzf3 := blk_frozen S.out.BR 3
        go_wp2
        refine bodyPost_ret (results_ct rfl _ _ gr 25 #[.bool false, .slice none 0 0, .slice none 0 0, .slice none 0 0] (0, 0) _ rfl (node_Decode.putB S.out.BR _ _ _ _) Tryd.underlying25 rfl (by kernel_rfl)) rfl ⟨_, _, _, rfl, Kd.V_nil _ _ _ _ _, Kd.V_nil _ _ _ _ _, Kd.V_nil _ _ _ _ _, node_Decode.putW S.out.HB S.out.GR _ _ _ _⟩
      | succ m =>
       rw [node_Decode.g] at H
       have y1 : decide (((m + 1 : Nat) : Int) > 0) = true := decide_eq_true (by omega)
       have y2 : decide (0 < ((m + 1 : Nat) : Int)) = true := decide_eq_true (by omega)
       cases bad
       rotate_left
       ·rw [if_pos rfl] at H; rw [Option.bind_some] at H
        have HH := Aside0.mk H
        clear H
        have H := HH.out
        clear HH
        unfold node_Decode.e at H
        replace H := Option.bind_eq_some_iff.mp H
        obtain ⟨y, hy, H⟩ := H
        (try simp only at H)
        have HT := Aside0.mk hy
        have HH := Aside0.mk H
        clear hy H
        have hg2 := (blk_cell S.out.BX 0).trans rfl
        go_wp2_with fail
        repeat (go_quiet (fail); try go_wp2_with fail)
        refine (node_Decode_trim.calls k _ _ left y _ (Kd.V_mono (Kd.V_mk (base := _) (e := 5) S.out.L S.out.F) (fun _ _ => trivial)) HT.out).mono ?_
        rintro e w7 ⟨Ay, cy, rfl, hb⟩
        have n_ := Aside0.mk (S.out.below hb)
        clear hb S hg1 hg2 HT y1 y2
        have S := n_
        clear n_
        have hg1 := (blk_cell S.out.BX 1).trans rfl
        have H := HH.out
        clear HH
        (first | rw [if_pos rfl] at H | rw [if_pos trivial] at H)
        simp only [Option.some.injEq, Prod.mk.injEq, node_Decode.no] at H
        obtain ⟨rfl, rfl, rfl, rfl, rfl⟩ := H
        have hzc0 := (blk_cell S.out.BR 0).trans rfl
        have hzc1 := (blk_cell S.out.BR 1).trans rfl
        have hzc2 := (blk_cell S.out.BR 2).trans rfl
        have hzc3 := (blk_cell S.out.BR 3).trans rfl
        have hzf0 := blk_frozen S.out.BR 0
        have hzf1 := blk_frozen S.out.BR 1
        have hzf2 := blk_frozen S.out.BR 2
        have hzf3 := blk_frozen S.out.BR 3
        go_wp2
        refine bodyPost_ret (results_ct rfl _ _ gr 25 #[.bool false, .slice none 0 0, .slice none 0 0, .slice none 0 0] (0, 0) _ rfl (node_Decode.putB S.out.BR _ _ _ _) Tryd.underlying25 rfl (by kernel_rfl)) rfl ⟨_, _, _, rfl, Kd.V_nil _ _ _ _ _, Kd.V_nil _ _ _ _ _, Kd.V_nil _ _ _ _ _, node_Decode.putW S.out.HB S.out.GR _ _ _ _⟩
       rw [if_neg (by decide)] at H
       rw [Option.bind_assoc] at H
       replace H := Option.bind_eq_some_iff.mp H
       obtain ⟨⟨x1, left1, bad1⟩, hn, H⟩ := H
       (try simp only at H)
       have HN := Aside0.mk hn
       clear hn
       by_cases hl : ks.length < 1048576 ∧ vs.length < 1048576 ∧ ds.length < 1048576
       rotate_left
       ·rw [if_neg hl] at H; cases H
       rw [if_pos hl] at H
       have HLN := Aside0.mk hl.1
       have HLV := Aside0.mk hl.2.1
       have HLD := Aside0.mk hl.2.2
       clear hl
       have HH := Aside0.mk H
       clear H
       go_upto_region 13 with fail
       clear hg1 y1 y2
       have n_ := Aside0.mk (S.out.below (below_drew (Below.refl _ _)))
       clear S
       have S := n_
       clear n_
       refine start_ (n := 7) (S := fun w' => w'.cell? ⟨gp, 1, none⟩ = some vK) (ds := [6]) #[false, false, false, false, false, false, false] (by kernel_rfl) rfl rfl (((blk_cell S.out.BG 1).trans rfl)) (fun hHeld => ?_)
       refine with_tabW node_Decode.tab13 node_Decode.bits13 (fun HT_ HW_ => ?_)
       refine zpu 0 (some 62) #[true, false, false, false, false, false, false] (any_of HT_.out (by kernel_rfl)) ?_
       refine zta 1 (some 63) #[true, true, false, false, false, false, false] (take_ofW HT_.out HW_.out (by kernel_rfl)) hHeld ?_
       refine one_ (i := 2) (N := some 64) #[true, true, true, false, false, false, false] rfl rfl (one_of HT_.out (by kernel_rfl)) (by decide) (fun K hK => ?_)
       refine goes_ Tryd.func24 (by kernel_rfl) rfl #[.pointer (some ⟨g, 0, none⟩), .int .u64 256] (by rfl) rfl rfl zl_ ?_
       refine (node_Decode_text.calls k g _ _ _ left false 256 x1 left1 bad1 w _ S.out.HB S.out.GX S.out.BX S.out.F (fun k hk => hk.2.2.2.2.1) S.out.L HN.out).mono ?_
       rintro e w7_ ⟨Bx_, dx_, A_, c_, rfl, hFx, hLx, hbx, hF, hL, hB, hK⟩
       refine ⟨_, rfl, ?_⟩
       have S2 := Aside0.mk (S.out.moved hbx hF hL hB hK)
       have FX := Aside0.mk (Kd.FK_slice_mk (e := 5) hLx (Kd.F_mono hFx (fun k hk => S.out.fresh k hk)))
       clear hbx hF hL hB hK hFx hLx S HN
       refine hK.out _ _ (((blk_cell S2.out.BG 1).trans rfl)) (fun hHeld => ?_)
       clear hK K
       refine zno 64 ?_
       refine one_ (i := 3) (N := some 65) #[true, true, true, true, false, false, false] rfl rfl (one_of HT_.out (by kernel_rfl)) (by decide) (fun K hK => ?_)
       refine value_ (w1 := ?_) (v := ?_) (by rfl) rfl ?_ ?_
       rotate_left 2
       ·go_simp
        constructor
        ·rfl
        ·rfl
       refine hK.out _ _ (((blk_cell (blk_alloc S2.out.BG _) 1).trans rfl)) (fun hHeld => ?_)
       clear hK K
       refine zno 65 ?_
       refine one_ (i := 4) (N := some 66) #[true, true, true, true, true, false, false] rfl rfl (one_of HT_.out (by kernel_rfl)) (by decide) (fun K hK => ?_)
       refine Kd.N_append_step (Kd.slice 5 (Kd.int .u8)) (w0 := w) w.heap.size (by rfl) (.tmp 63) (.tmp 65) 22 26 (.slice none 0 0) 24 rfl Tryd.underlying22 info26 rfl (by decide) (by omega) vK ks x1 [.slice Bx_ x1.length dx_] (node_Decode.dok w.heap.size g gp gr (.bool true) vV vD) (node_Decode.dok w.heap.size g gp gr vK vV vD) rfl rfl FX.out (fun k hk => ⟨⟨hk.1, node_Decode.none_own k, hk.2.2.1, hk.2.2.2.1, hk.2.2.2.2.1, hk.2.2.2.2.2.1, hk.2.2.2.2.2.2⟩, hk.2.1⟩) (fun k hk => ⟨(S2.out.fresh k hk).1, node_Decode.none_own k, (S2.out.fresh k hk).2.2.1, (S2.out.fresh k hk).2.2.2.1, (S2.out.fresh k hk).2.2.2.2.1, (S2.out.fresh k hk).2.2.2.2.2.1, (S2.out.fresh k hk).2.2.2.2.2.2⟩) S2.out.K S2.out.HB S2.out.HB.size (by have := HLN.out; omega) ?_
       intro v9_ w8_ hn hb hg hat
       obtain ⟨bg, S9⟩ := S2.out.growK hn hb hg hat
       obtain ⟨A9_, c9_, hv_⟩ := Kd.N_slice hn
       obtain ⟨n9_, e9_⟩ : ∃ n, n = (ks ++ [x1]).length := ⟨_, rfl⟩
       rw [← e9_] at hv_
       subst hv_
       clear e9_ hn hb hg hat FX S2
       have BG9 := Aside0.mk bg
       have S2 := Aside0.mk S9
       clear bg S9
       refine hK.out _ _ (((blk_cell BG9.out 1).trans rfl)) (fun hHeld => ?_)
       clear hK K
       refine zno 66 ?_
       refine zpu 5 (some 67) #[true, true, true, true, true, true, false] (any_of HT_.out (by kernel_rfl)) ?_
       refine last_ (i := 6) (N := none) #[true, true, true, true, true, true, true] rfl rfl (one_of HT_.out (by kernel_rfl)) (by decide) (fun K hK => ?_)
       have hh1 := (blk_cell BG9.out 1).trans rfl
       have hf1 := blk_frozen BG9.out 1
       refine skip_ (w1 := ?_) (by rfl) rfl ?_ ?_
       rotate_left
       ·go_simp
        rfl
       clear hh1 hf1
       refine hK.out _ _ ?_
       clear hK K
       refine done_ (done_of HT_.out (by kernel_rfl)) ?_
       obtain ⟨w9_, hw9_⟩ : ∃ w9, w9 = w8_.setCell ⟨gp, 1, none⟩ (.slice A9_ n9_ c9_) := ⟨_, rfl⟩
       rw [← hw9_] at S2 ⊢
       clear hw9_ BG9
       try clear hHeld
       obtain ⟨vK9, hv9_⟩ : ∃ v, v = Value.slice A9_ n9_ c9_ := ⟨_, rfl⟩
       rw [← hv9_] at S2
       (try rw [← hv9_])
       clear hv9_
       have H := HH.out
       clear HH HLN
       have hg0 := (blk_cell S2.out.BG 0).trans rfl
       rw [if_neg (by decide), Option.bind_assoc] at H
       replace H := Option.bind_eq_some_iff.mp H
       obtain ⟨⟨d1, left2, bad2⟩, hn, H⟩ := H
       (try simp only at H)
       have HN := Aside0.mk hn
       have HH := Aside0.mk H
       clear hn H
       go_upto_region 16 with fail
       clear hg0
       have n_ := Aside0.mk (S2.out.below (below_drew (Below.refl _ _)))
       clear S2
       have S2 := n_
       clear n_
       refine start_ (n := 8) (S := fun w' => w'.cell? ⟨gp, 3, none⟩ = some vD) (ds := [7]) (zB 0 8) (by kernel_rfl) rfl rfl (((blk_cell S2.out.BG 3).trans rfl)) (fun hHeld => ?_)
       refine with_tabW node_Decode.tab16 node_Decode.bits16 (fun HT_ HW_ => ?_)
       refine zpu 0 (some 76) (zB 1 7) (any_of HT_.out (by kernel_rfl)) ?_
       refine zta 1 (some 77) (zB 2 6) (take_ofW HT_.out HW_.out (by kernel_rfl)) hHeld ?_
       refine one_ (i := 2) (N := some 78) (zB 3 5) rfl rfl (one_of HT_.out (by kernel_rfl)) (by decide) (fun K hK => ?_)
       refine goes_ Tryd.func23 (by kernel_rfl) rfl #[.pointer (some ⟨g, 0, none⟩), .int .u64 1023] (by rfl) rfl rfl zl_ ?_
       refine (node_Decode_num.calls k g _ _ _ left1 bad1 1023 d1 left2 bad2 w _ S2.out.HB S2.out.GX S2.out.BX S2.out.F (fun k hk => hk.2.2.2.2.1) S2.out.L HN.out).mono ?_
       rintro e w7_ ⟨A_, c_, rfl, hbx, hF, hL, hB, hK⟩
       refine ⟨_, rfl, ?_⟩
       have S3 := Aside0.mk (S2.out.moved hbx hF hL hB hK)
       clear hbx hF hL hB hK S2 HN
       refine hK.out _ _ (((blk_cell S3.out.BG 3).trans rfl)) (fun hHeld => ?_)
       clear hK K
       refine zno 78 ?_
       refine zpu 3 (some 79) (zB 4 4) (any_of HT_.out (by kernel_rfl)) ?_
       refine one_ (i := 4) (N := some 80) (zB 5 3) rfl rfl (one_of HT_.out (by kernel_rfl)) (by decide) (fun K hK => ?_)
       refine value_ (w1 := ?_) (v := ?_) (by rfl) rfl ?_ ?_
       rotate_left 2
       ·go_simp
        constructor
        ·rfl
        ·rfl
       refine hK.out _ _ (((blk_cell (blk_alloc S3.out.BG _) 3).trans rfl)) (fun hHeld => ?_)
       clear hK K
       refine zno 80 ?_
       refine one_ (i := 5) (N := some 81) (zB 6 2) rfl rfl (one_of HT_.out (by kernel_rfl)) (by decide) (fun K hK => ?_)
       refine Kd.N_append_step (Kd.int .i64) (w0 := w) w.heap.size (by rfl) (.tmp 77) (.tmp 80) 23 3 (.int .i64 0) 8 rfl Tryd.underlying23 info3 rfl (by decide) (by omega) vD ds (wrap64 d1) [.int .i64 (wrap64 d1)] (node_Decode.dok w.heap.size g gp gr vK9 vV (.bool true)) (fun _ => False) rfl rfl (fun _ _ => rfl) (fun _ hk => hk.elim) (fun k hk => ⟨(S3.out.fresh k hk).1, (S3.out.fresh k hk).2.1, (S3.out.fresh k hk).2.2.1, node_Decode.none_own k, (S3.out.fresh k hk).2.2.2.2⟩) S3.out.D S3.out.HB S3.out.HB.size (by have := HLD.out; omega) ?_
       intro v9_ w8_ hn hb hg hat
       obtain ⟨bg, S9⟩ := S3.out.growD hn hb hg hat
       obtain ⟨A9_, c9_, hv_⟩ := Kd.N_slice hn
       obtain ⟨n9_, e9_⟩ : ∃ n, n = (ds ++ [wrap64 d1]).length := ⟨_, rfl⟩
       rw [← e9_] at hv_
       subst hv_
       clear e9_ hn hb hg hat S3
       have BG9 := Aside0.mk bg
       have S3 := Aside0.mk S9
       clear bg S9
       refine hK.out _ _ (((blk_cell BG9.out 3).trans rfl)) (fun hHeld => ?_)
       clear hK K
       refine zno 81 ?_
       refine zpu 6 (some 82) (zB 7 1) (any_of HT_.out (by kernel_rfl)) ?_
       refine last_ (i := 7) (N := none) (zB 8 0) rfl rfl (one_of HT_.out (by kernel_rfl)) (by decide) (fun K hK => ?_)
       have hh1 := (blk_cell BG9.out 3).trans rfl
       have hf1 := blk_frozen BG9.out 3
       refine skip_ (w1 := ?_) (by rfl) rfl ?_ ?_
       rotate_left
       ·go_simp
        rfl
       clear hh1 hf1
       refine hK.out _ _ ?_
       clear hK K
       refine done_ (done_of HT_.out (by kernel_rfl)) ?_
       obtain ⟨w9_, hw9_⟩ : ∃ w9, w9 = w8_.setCell ⟨gp, 3, none⟩ (.slice A9_ n9_ c9_) := ⟨_, rfl⟩
       rw [← hw9_] at S3 ⊢
       clear hw9_ BG9
       try clear hHeld
       obtain ⟨vD9, hvD9⟩ : ∃ v, v = Value.slice A9_ n9_ c9_ := ⟨_, rfl⟩
       rw [← hvD9] at S3
       (try rw [← hvD9])
       clear hvD9
       have e1 : IntKind.u64.wrap (((m + 1 : Nat) : Int) - 1) = (m : Int) := by have := HM.out; rw [IntKind.wrap_u64]; omega
       have e2 : IntKind.u64.wrap (m : Int) = (m : Int) := by have := HM.out; rw [IntKind.wrap_u64]; omega
       go_wp2_with fail
       go_roundg (m + 1)
       case measure => exact (by omega)
       case rel => exact ⟨m, _, _, left2, bad2, _, _, _, _, _, _, by omega, rfl, by first | rfl | rw [e1] | rw [e2] | simp [e1, e2], S3, HH⟩
    ·rw [if_neg h2] at H
     have va : (x0 == 2) = false := beq_eq_false_iff_ne.mpr h2
     have vb : (x0 != 2) = true := bne_iff_ne.mpr h2
     clear h2
     simp only [Option.some.injEq, Prod.mk.injEq, node_Decode.no] at H
     obtain ⟨rfl, rfl, rfl, rfl, rfl⟩ := H
     have hzc0 := (blk_cell BR2.out 0).trans rfl
     have hzc1 := (blk_cell BR2.out 1).trans rfl
     have hzc2 := (blk_cell BR2.out 2).trans rfl
     have hzc3 := (blk_cell BR2.out 3).trans rfl
     have hzf0 := blk_frozen BR2.out 0
     have hzf1 := blk_frozen BR2.out 1
     have hzf2 := blk_frozen BR2.out 2
     have hzf3 := blk_frozen BR2.out 3
     go_wp2
     refine bodyPost_ret (results_ct rfl _ _ gr 25 #[.bool false, .slice none 0 0, .slice none 0 0, .slice none 0 0] (0, 0) _ rfl (node_Decode.putB BR2.out _ _ _ _) Tryd.underlying25 rfl (by kernel_rfl)) rfl ⟨_, _, _, rfl, Kd.V_nil _ _ _ _ _, Kd.V_nil _ _ _ _ _, Kd.V_nil _ _ _ _ _, node_Decode.putW HB2.out GR.out _ _ _ _⟩
  ·rw [if_neg hw] at H
   have za : (why == 0) = false := beq_eq_false_iff_ne.mpr hw
   have zb : (why != 0) = true := bne_iff_ne.mpr hw
   clear hw
   simp only [Option.some.injEq, Prod.mk.injEq, node_Decode.no] at H
   obtain ⟨rfl, rfl, rfl, rfl, rfl⟩ := H
   have hzc0 := (blk_cell BR2.out 0).trans rfl
   have hzc1 := (blk_cell BR2.out 1).trans rfl
   have hzc2 := (blk_cell BR2.out 2).trans rfl
   have hzc3 := (blk_cell BR2.out 3).trans rfl
   have hzf0 := blk_frozen BR2.out 0
   have hzf1 := blk_frozen BR2.out 1
   have hzf2 := blk_frozen BR2.out 2
   have hzf3 := blk_frozen BR2.out 3
   go_wp2
   refine bodyPost_ret (results_ct rfl _ _ gr 25 #[.bool false, .slice none 0 0, .slice none 0 0, .slice none 0 0] (0, 0) _ rfl (node_Decode.putB BR2.out _ _ _ _) Tryd.underlying25 rfl (by kernel_rfl)) rfl ⟨_, _, _, rfl, Kd.V_nil _ _ _ _ _, Kd.V_nil _ _ _ _ _, Kd.V_nil _ _ _ _ _, node_Decode.putW HB2.out GR.out _ _ _ _⟩
 ·rw [if_neg hlen] at H
  have y1 : ((l0.length : Int) == 4096) = false := beq_eq_false_iff_ne.mpr (by omega)
  have y2 : ((l0.length : Int) != 4096) = true := bne_iff_ne.mpr (by omega)
  clear hlen
  go_enter Tryd.func8, Tryd.ntmps8
  go_upto_region 2 with (first | ((with_reducible refine gate_dst (N := 2) rfl ?_); refine box_event ?hg (N := 2) ?hd (cs := #[.bool false, .slice none 0 0, .slice none 0 0, .slice none 0 0]) (t := 25) ?hr ?_; (case hd => rfl); (case hg => rfl); (case hr => first | (go_simp; done) | (go_simp; rfl)); intro gr hgr w1 hbox hb; have BR := Aside0.mk hbox; have HB := Aside0.mk (below_step (Below.refl _ _) hb); have GR : Aside0 (w.heap.size ≤ gr) := ⟨by rw [hgr]; exact Nat.le_refl _⟩; clear hbox hb hgr))
  simp only [Option.some.injEq, Prod.mk.injEq, node_Decode.no] at H
  obtain ⟨rfl, rfl, rfl, rfl, rfl⟩ := H
  have hzc0 := (blk_cell BR.out 0).trans rfl
  have hzc1 := (blk_cell BR.out 1).trans rfl
  have hzc2 := (blk_cell BR.out 2).trans rfl
  have hzc3 := (blk_cell BR.out 3).trans rfl
  have hzf0 := blk_frozen BR.out 0
  have hzf1 := blk_frozen BR.out 1
  have hzf2 := blk_frozen BR.out 2
  have hzf3 := blk_frozen BR.out 3
  go_wp2
  refine bodyPost_ret (results_ct rfl _ _ gr 25 #[.bool false, .slice none 0 0, .slice none 0 0, .slice none 0 0] (0, 0) _ rfl (node_Decode.putB BR.out _ _ _ _) Tryd.underlying25 rfl (by kernel_rfl)) rfl ⟨_, _, _, rfl, Kd.V_nil _ _ _ _ _, Kd.V_nil _ _ _ _ _, Kd.V_nil _ _ _ _ _, node_Decode.putW HB.out GR.out _ _ _ _⟩
end Go.Proofs.YtcbgichkeecgiaaDoor.Print
