-- What the claim uses alone (wip/slim.py). Lean checks it.
import Derived.Test.YtcbgichkeecgiaaZAln
import Derived.Test.YtcbgichkeecgiaaZAlo
import Derived.Test.YtcbgichkeecgiaaZAlp
import Derived.Test.YtcbgichkeecgiaaZAlq
import Derived.Test.YtcbgichkeecgiaaZAlr
import Derived.Test.YtcbgichkeecgiaaZPrint28
namespace Go.Proofs.Ytcbgichkeecgiaa.Print
open Go.RowKit Go.Proofs.YtcbgichkeecgiaaW.PrintWords Go.Proofs.YtcbgichkeecgiaaW.PrintLast Go.Proofs.YtcbgichkeecgiaaW.PrintMore
attribute [local go_sem] max2_mx min2_mn max_two min_two max_three min_three max_four min_four
set_option linter.unusedVariables false
set_option linter.unusedSimpArgs false
def ladinglaw06_NodeOwn.f (k : Nat) (a0_0 : Bool) (l0_1 l0_2 : List (List Int)) (l0_3 l1 l2 : List Int) : Option Bool :=
 (ladinglaw06_lives.f).bind fun t => if t = true then ((ladingref06_Copy.f k a0_0 l0_1 l0_2 l0_3).bind fun g => (node_Split.f k g.1 g.2.1 g.2.2.1 g.2.2.2).bind fun s => (node_Put.f k g.1 g.2.1 g.2.2.1 g.2.2.2 l1 l2).bind fun c =>
  (ladingref06_Same.f k g.1 g.2.1 g.2.2.1 g.2.2.2 a0_0 l0_1 l0_2 l0_3).bind fun sm => if sm = true then (ladinglaw06_NodeKeys.f k g.1 g.2.1 g.2.2.1 g.2.2.2 l1 l2) else none) else none
def PgRow (W : World) (base gR p : Nat) : Prop := ∃ (b : Bool) (A1 : Option Addr) (m1 x1 : Nat) (A2 : Option Addr) (m2 x2 : Nat) (A3 : Option Addr) (m3 x3 : Nat), W.cell? ⟨gR, p * 4, none⟩ = some (.bool b) ∧ W.cell? ⟨gR, p * 4 + 1, none⟩ = some (.slice A1 m1 x1) ∧
 W.cell? ⟨gR, p * 4 + 2, none⟩ = some (.slice A2 m2 x2) ∧ W.cell? ⟨gR, p * 4 + 3, none⟩ = some (.slice A3 m3 x3) ∧ HRow W base A1 m1 ∧ HRow W base A2 m2 ∧ BRow W base .i64 A3 m3
theorem PgRow.sim {w W : World} {base gR p : Nat} (h : PgRow w base gR p) (hs : Sim w W) : PgRow W base gR p := by
 obtain ⟨b, A1, m1, x1, A2, m2, x2, A3, m3, x3, h0, h1, h2, h3, r1, r2, r3⟩ := h
 exact ⟨b, A1, m1, x1, A2, m2, x2, A3, m3, x3, hs.keep h0 (by simp), hs.keep h1 (by simp), hs.keep h2 (by simp), hs.keep h3 (by simp), r1.sim hs, r2.sim hs, r3.sim hs⟩
def LsRow (W : World) (base gL q : Nat) : Prop := ∃ (A : Option Addr) (n c : Nat), W.cell? ⟨gL, q, none⟩ = some (.slice A n c) ∧ HRow W base A n
theorem LsRow.sim {w W : World} {base gL q : Nat} (h : LsRow w base gL q) (hs : Sim w W) : LsRow W base gL q := by
 obtain ⟨A, n, c, h0, r⟩ := h
 exact ⟨A, n, c, hs.keep h0 (by simp), r.sim hs⟩
set_option maxHeartbeats 16000000 in
set_option maxRecDepth 100000 in
theorem ladinglaw06_NodeOwn.calls (k : Nat) (a0_0 : Bool) (A0_1 : Option Addr) (c0_1 : Nat) (l0_1 : List (List Int)) (A0_2 : Option Addr) (c0_2 : Nat) (l0_2 : List (List Int)) (A0_3 : Option Addr) (c0_3 : Nat) (l0_3 : List Int) (A1 : Option Addr) (c1 : Nat) (l1 : List Int) (A2 : Option Addr) (c2 : Nat) (l2 : List Int) (r : Bool) (w : World) (hr0_1 : Kd.C (Kd.slice 5 (Kd.int .u8)) w A0_1 l0_1.length l0_1) (hc0_1 : l0_1.length ≤ c0_1) (hr0_2 : Kd.C (Kd.slice 5 (Kd.int .u8)) w A0_2 l0_2.length l0_2) (hc0_2 : l0_2.length ≤ c0_2) (hr0_3 : Kd.C (Kd.int .i64) w A0_3 l0_3.length l0_3) (hc0_3 : l0_3.length ≤ c0_3) (hr1 : Kd.C (Kd.int .u8) w A1 l1.length l1) (hc1 : l1.length ≤ c1) (hr2 : Kd.C (Kd.int .u8) w A2 l2.length l2) (hc2 : l2.length ≤ c2) (h : ladinglaw06_NodeOwn.f k a0_0 l0_1 l0_2 l0_3 l1 l2 = some r) :
  Calls Try.prog 7 #[.agg #[.bool a0_0, .slice A0_1 l0_1.length c0_1, .slice A0_2 l0_2.length c0_2, .slice A0_3 l0_3.length c0_3], .slice A1 l1.length c1, .slice A2 l2.length c2] w fun e w' => e = .returned (.bool r) ∧ Below w.heap.size w w' := by
 have hu26 := Try.underlying26
 have R1 := Aside0.mk hr0_1
 have L1 := Aside0.mk hc0_1
 have R2 := Aside0.mk hr0_2
 have L2 := Aside0.mk hc0_2
 have R3 := Aside0.mk hr0_3
 have L3 := Aside0.mk hc0_3
 have RK := Aside0.mk hr1
 have LK := Aside0.mk hc1
 have RV := Aside0.mk hr2
 have LV := Aside0.mk hc2
 clear hr0_1 hc0_1 hr0_2 hc0_2 hr0_3 hc0_3 hr1 hc1 hr2 hc2
 unfold ladinglaw06_NodeOwn.f at h
 replace h := Option.bind_eq_some_iff.mp h
 obtain ⟨t, ht, h⟩ := h
 split at h
 case isFalse => cases h
 case isTrue htt =>
 subst htt
 replace h := Option.bind_eq_some_iff.mp h
 obtain ⟨⟨g1, g2, g3, g4⟩, hg, h⟩ := h
 replace h := Option.bind_eq_some_iff.mp h
 obtain ⟨⟨s1, s2, s3, s4, s5, s6, s7, s8, s9, s10⟩, hs, h⟩ := h
 replace h := Option.bind_eq_some_iff.mp h
 obtain ⟨⟨p1, p2, p3, p4, p5⟩, hp, h⟩ := h
 replace h := Option.bind_eq_some_iff.mp h
 obtain ⟨sm, hsm, h⟩ := h
 split at h
 case isFalse => cases h
 case isTrue hst =>
 subst hst
 dsimp only at hs hp hsm h
 have HLV := Aside0.mk ht
 have HG := Aside0.mk hg
 have HS := Aside0.mk hs
 have HP := Aside0.mk hp
 have HSM := Aside0.mk hsm
 have HN := Aside0.mk h
 clear ht hg hs hp hsm h
 go_enter Try.func7, Try.ntmps7
 go_wp2_with ((with_reducible refine gate_dst (N := 3) rfl ?_); refine box_event ?hg (N := 3) ?hd (cs := #[.bool a0_0, .slice A0_1 l0_1.length c0_1, .slice A0_2 l0_2.length c0_2, .slice A0_3 l0_3.length c0_3]) (t := 26) ?hr ?_; (case hd => rfl); (case hg => rfl); (case hr => first | (go_simp; done) | (go_simp; rfl)); intro gp hgp w1 hbox hb; have GP : Aside0 (w.heap.size ≤ gp) := ⟨by rw [hgp]; exact Nat.le_refl _⟩; have BP := Aside0.mk hbox; have HB := Aside0.mk hb; clear hbox hb hgp)
 refine (ladinglaw06_lives.calls _ _ HLV.out).mono ?_
 rintro e w2 ⟨rfl, hb2⟩
 have BP2 := Aside0.mk (blk_below BP.out hb2)
 have HB2 := Aside0.mk (below_step HB.out hb2)
 have q0 := (blk_cell BP2.out 0).trans rfl
 have q1 := (blk_cell BP2.out 1).trans rfl
 have q2 := (blk_cell BP2.out 2).trans rfl
 have q3 := (blk_cell BP2.out 3).trans rfl
 clear hb2 BP HB
 go_wp2_with fail
 refine (ladingref06_Copy.calls k a0_0 A0_1 c0_1 l0_1 A0_2 c0_2 l0_2 A0_3 c0_3 l0_3 g1 g2 g3 g4 _ (Kd.C_below R1.out HB2.out) L1.out (Kd.C_below R2.out HB2.out) L2.out (Kd.C_below R3.out HB2.out) L3.out HG.out).mono ?_
 rintro e w3 ⟨v1, v2, v3, rfl, hS1, hS2, hR3, hb3⟩
 obtain ⟨G1, d1, e1⟩ := Kd.R_slice (Kd.S_R hS1)
 subst e1
 obtain ⟨G2, d2, e2⟩ := Kd.R_slice (Kd.S_R hS2)
 subst e2
 obtain ⟨G3, d3, e3⟩ := Kd.R_slice (hR3)
 subst e3
 have T1 := Aside0.mk (Kd.S_R hS1)
 have T2 := Aside0.mk (Kd.S_R hS2)
 have T3 := Aside0.mk hR3
 have BP3 := Aside0.mk (blk_below BP2.out hb3)
 have HB3 := Aside0.mk (below_step HB2.out hb3)
 clear q0 q1 q2 q3 hb3 BP2 HB2 hS1 hS2 hR3
 go_wp2_with ((with_reducible refine gate_dst (N := 7) rfl ?_); refine box_event ?hg (N := 7) ?hd (cs := #[.bool false, .slice none 0 0, .slice none 0 0, .slice none 0 0]) (t := 26) ?hr ?_; (case hd => rfl); (case hg => rfl); (case hr => first | (go_simp; done) | (go_simp; rfl)); intro gg hgg w4 hbox hb; have Ggg : Aside0 (w.heap.size ≤ gg) := ⟨by rw [hgg]; exact HB3.out.size⟩; have Bgg := Aside0.mk hbox; have fgg0 := blk_frozen hbox 0; have fgg1 := blk_frozen hbox 1; have fgg2 := blk_frozen hbox 2; have fgg3 := blk_frozen hbox 3; have cgg0 := (blk_cell hbox 0).trans rfl; have cgg1 := (blk_cell hbox 1).trans rfl; have cgg2 := (blk_cell hbox 2).trans rfl; have cgg3 := (blk_cell hbox 3).trans rfl; have Ngp_gg : Aside0 (gp ≠ gg) := ⟨by rw [hgg]; exact Nat.ne_of_lt (blk_lt BP3.out)⟩; replace BP3 := Aside0.mk (blk_below BP3.out hb); have HB4 := Aside0.mk (below_step HB3.out hb); have U1 := Aside0.mk (Kd.R_below T1.out hb); have U2 := Aside0.mk (Kd.R_below T2.out hb); have U3 := Aside0.mk (Kd.R_below T3.out hb); clear hbox hb hgg)
 have V1 := Aside0.mk (pageR U1.out Bgg.out (by decide) (.bool g1) (.slice G1 g2.length d1) (.slice G2 g3.length d2) (.slice G3 g4.length d3))
 have V2 := Aside0.mk (pageR U2.out Bgg.out (by decide) (.bool g1) (.slice G1 g2.length d1) (.slice G2 g3.length d2) (.slice G3 g4.length d3))
 have V3 := Aside0.mk (pageR U3.out Bgg.out (by decide) (.bool g1) (.slice G1 g2.length d1) (.slice G2 g3.length d2) (.slice G3 g4.length d3))
 have BG := Aside0.mk (pageB Bgg.out (.bool g1) (.slice G1 g2.length d1) (.slice G2 g3.length d2) (.slice G3 g4.length d3))
 have BP5 := Aside0.mk (pageF BP3.out Ngp_gg.out (.bool g1) (.slice G1 g2.length d1) (.slice G2 g3.length d2) (.slice G3 g4.length d3))
 have HB5 := Aside0.mk (pageW HB4.out Ggg.out (.bool g1) (.slice G1 g2.length d1) (.slice G2 g3.length d2) (.slice G3 g4.length d3))
 clear U1 U2 U3 T1 T2 T3 Bgg BP3 HB3 HB4 cgg0 cgg1 cgg2 cgg3 fgg0 fgg1 fgg2 fgg3
 generalize World.setCell _ _ _ = ws at V1 V2 V3 BG BP5 HB5 ⊢
 have C1 := Aside0.mk (Kd.R_reads' V1.out).2.2
 have D1 := Aside0.mk (Kd.R_reads' V1.out).2.1
 have C2 := Aside0.mk (Kd.R_reads' V2.out).2.2
 have D2 := Aside0.mk (Kd.R_reads' V2.out).2.1
 have C3 := Aside0.mk (Kd.R_reads' V3.out).2.2
 have D3 := Aside0.mk (Kd.R_reads' V3.out).2.1
 clear V1 V2 V3
 refine (node_Split.calls_own k g1 G1 d1 g2 G2 d2 g3 G3 d3 g4 s1 s2 s3 s4 s5 s6 s7 s8 s9 s10 _ C1.out D1.out C2.out D2.out C3.out D3.out HS.out).mono ?_
 rintro e w6 ⟨v1, v2, v3, v4, v6, v7, v8, rfl, t1, t2, t3, t4, t6, t7, t8, hb6⟩
 obtain ⟨S1, m1, x1, rfl, r1⟩ := HRow.of_V t1
 have Q1 := Aside0.mk r1
 clear t1 r1
 obtain ⟨S2, m2, x2, rfl, r2⟩ := HRow.of_V t2
 have Q2 := Aside0.mk r2
 clear t2 r2
 obtain ⟨S3, m3, x3, rfl, r3⟩ := BRow.of_V t3
 have Q3 := Aside0.mk r3
 clear t3 r3
 obtain ⟨S4, m4, x4, rfl, r4⟩ := BRow.of_V t4
 have Q4 := Aside0.mk r4
 clear t4 r4
 obtain ⟨S6, m6, x6, rfl, r6⟩ := HRow.of_V t6
 have Q6 := Aside0.mk r6
 clear t6 r6
 obtain ⟨S7, m7, x7, rfl, r7⟩ := HRow.of_V t7
 have Q7 := Aside0.mk r7
 clear t7 r7
 obtain ⟨S8, m8, x8, rfl, r8⟩ := BRow.of_V t8
 have Q8 := Aside0.mk r8
 clear t8 r8
 have BG6 := Aside0.mk (blk_below BG.out hb6)
 have BP6 := Aside0.mk (blk_below BP5.out hb6)
 have HS6 := Aside0.mk hb6
 have W6 := Aside0.mk (Below.refl w6.heap.size w6)
 clear hb6 BG BP5
 have cgg0 := (blk_cell BG6.out 0).trans rfl
 have cgg1 := (blk_cell BG6.out 1).trans rfl
 have cgg2 := (blk_cell BG6.out 2).trans rfl
 have cgg3 := (blk_cell BG6.out 3).trans rfl
 go_wp2_with (first | ((with_reducible refine gate_dst (N := 8) rfl ?_); refine box_event ?hg (N := 8) ?hd (cs := #[.bool false, .slice none 0 0, .slice none 0 0, .slice none 0 0]) (t := 26) ?hr ?_; (case hd => rfl); (case hg => rfl); (case hr => first | (go_simp; done) | (go_simp; rfl)); intro ga hga w7 hbox hb; have Gga : Aside0 (w6.heap.size ≤ ga) := ⟨by rw [hga]; exact W6.out.size⟩; have Bga := Aside0.mk hbox; have fga0 := blk_frozen hbox 0; have cga0 := (blk_cell hbox 0).trans rfl; have fga1 := blk_frozen hbox 1; have cga1 := (blk_cell hbox 1).trans rfl; have fga2 := blk_frozen hbox 2; have cga2 := (blk_cell hbox 2).trans rfl; have fga3 := blk_frozen hbox 3; have cga3 := (blk_cell hbox 3).trans rfl; have ngp_ga : gp ≠ ga := (by rw [hga]; exact Nat.ne_of_lt (blk_lt BP6.out)); have Ngp_ga := Aside0.mk ngp_ga; replace BP6 := Aside0.mk (blk_below BP6.out hb); have ngg_ga : gg ≠ ga := (by rw [hga]; exact Nat.ne_of_lt (blk_lt BG6.out)); have Ngg_ga := Aside0.mk ngg_ga; replace BG6 := Aside0.mk (blk_below BG6.out hb); replace cgg0 := (blk_cell BG6.out 0).trans rfl; replace cgg1 := (blk_cell BG6.out 1).trans rfl; replace cgg2 := (blk_cell BG6.out 2).trans rfl; replace cgg3 := (blk_cell BG6.out 3).trans rfl; have W7 := Aside0.mk (below_step W6.out hb); clear hbox hb hga) | ((with_reducible refine gate_dst (N := 10) rfl ?_); refine box_event ?hg (N := 10) ?hd (cs := #[.bool false, .slice none 0 0, .slice none 0 0, .slice none 0 0]) (t := 26) ?hr ?_; (case hd => rfl); (case hg => rfl); (case hr => first | (go_simp; done) | (go_simp; rfl)); intro gb hgb w8 hbox hb; have Ggb : Aside0 (w6.heap.size ≤ gb) := ⟨by rw [hgb]; exact W7.out.size⟩; have Bgb := Aside0.mk hbox; have fgb0 := blk_frozen hbox 0; have cgb0 := (blk_cell hbox 0).trans rfl; have fgb1 := blk_frozen hbox 1; have cgb1 := (blk_cell hbox 1).trans rfl; have fgb2 := blk_frozen hbox 2; have cgb2 := (blk_cell hbox 2).trans rfl; have fgb3 := blk_frozen hbox 3; have cgb3 := (blk_cell hbox 3).trans rfl; have ngp_gb : gp ≠ gb := (by rw [hgb]; exact Nat.ne_of_lt (blk_lt BP6.out)); have Ngp_gb := Aside0.mk ngp_gb; replace BP6 := Aside0.mk (blk_below BP6.out hb); have ngg_gb : gg ≠ gb := (by rw [hgb]; exact Nat.ne_of_lt (blk_lt BG6.out)); have Ngg_gb := Aside0.mk ngg_gb; replace BG6 := Aside0.mk (blk_below BG6.out hb); have nga_gb : ga ≠ gb := (by rw [hgb]; exact Nat.ne_of_lt (blk_lt Bga.out)); have Nga_gb := Aside0.mk nga_gb; replace Bga := Aside0.mk (blk_below Bga.out hb); replace cgg0 := (blk_cell BG6.out 0).trans rfl; replace cgg1 := (blk_cell BG6.out 1).trans rfl; replace cgg2 := (blk_cell BG6.out 2).trans rfl; replace cgg3 := (blk_cell BG6.out 3).trans rfl; replace cga0 := (blk_cell Bga.out 0).trans rfl; replace cga1 := (blk_cell Bga.out 1).trans rfl; replace cga2 := (blk_cell Bga.out 2).trans rfl; replace cga3 := (blk_cell Bga.out 3).trans rfl; replace fga0 := blk_frozen Bga.out 0; replace fga1 := blk_frozen Bga.out 1; replace fga2 := blk_frozen Bga.out 2; replace fga3 := blk_frozen Bga.out 3; have W8 := Aside0.mk (below_step W7.out hb); clear hbox hb hgb))
 have BAx := Aside0.mk (pageF (pageB Bga.out (.bool s1) (.slice S1 m1 x1) (.slice S2 m2 x2) (.slice S3 m3 x3)) Nga_gb.out (.bool s6) (.slice S6 m6 x6) (.slice S7 m7 x7) (.slice S8 m8 x8))
 have BBx := Aside0.mk (pageB (pageF Bgb.out (Ne.symm Nga_gb.out) (.bool s1) (.slice S1 m1 x1) (.slice S2 m2 x2) (.slice S3 m3 x3)) (.bool s6) (.slice S6 m6 x6) (.slice S7 m7 x7) (.slice S8 m8 x8))
 have BGx := Aside0.mk (pageF (pageF BG6.out Ngg_ga.out (.bool s1) (.slice S1 m1 x1) (.slice S2 m2 x2) (.slice S3 m3 x3)) Ngg_gb.out (.bool s6) (.slice S6 m6 x6) (.slice S7 m7 x7) (.slice S8 m8 x8))
 have BPx := Aside0.mk (pageF (pageF BP6.out Ngp_ga.out (.bool s1) (.slice S1 m1 x1) (.slice S2 m2 x2) (.slice S3 m3 x3)) Ngp_gb.out (.bool s6) (.slice S6 m6 x6) (.slice S7 m7 x7) (.slice S8 m8 x8))
 have Wx := Aside0.mk (pageW (pageW W8.out Gga.out (.bool s1) (.slice S1 m1 x1) (.slice S2 m2 x2) (.slice S3 m3 x3)) Ggb.out (.bool s6) (.slice S6 m6 x6) (.slice S7 m7 x7) (.slice S8 m8 x8))
 clear Bga Bgb BG6 BP6 W6 W7 W8 cgg0 cgg1 cgg2 cgg3 cga0 cga1 cga2 cga3 cgb0 cgb1 cgb2 cgb3 fga0 fga1 fga2 fga3 fgb0 fgb1 fgb2 fgb3 ngp_ga ngg_ga ngp_gb ngg_gb nga_gb
 generalize World.setCell _ _ _ = wx at BAx BBx BGx BPx Wx ⊢
 have XS := Aside0.mk (below_step HS6.out Wx.out)
 have XW := Aside0.mk (below_step HB5.out XS.out)
 refine (node_Put.calls_own k g1 G1 d1 g2 G2 d2 g3 G3 d3 g4 A1 c1 l1 A2 c2 l2 p1 p2 p3 p4 p5 _ (Kd.C_below C1.out XS.out) D1.out (Kd.C_below C2.out XS.out) D2.out (Kd.C_below C3.out XS.out) D3.out (Kd.C_below RK.out XW.out) LK.out (Kd.C_below RV.out XW.out) LV.out HP.out).mono ?_
 rintro e w9 ⟨v1, v2, v3, rfl, t1, t2, t3, hb9⟩
 obtain ⟨Z1, n1, y1, rfl, r1⟩ := HRow.of_V t1
 have O1 := Aside0.mk (r1.lower (XS.out.size))
 clear t1 r1
 obtain ⟨Z2, n2, y2, rfl, r2⟩ := HRow.of_V t2
 have O2 := Aside0.mk (r2.lower (XS.out.size))
 clear t2 r2
 obtain ⟨Z3, n3, y3, rfl, r3⟩ := BRow.of_V t3
 have O3 := Aside0.mk (r3.lower (XS.out.size))
 clear t3 r3
 have W9 := Aside0.mk (below_step Wx.out hb9)
 have Y9 := Aside0.mk (Below.refl w9.heap.size w9)
 have BA9 := Aside0.mk (blk_below BAx.out hb9)
 have BB9 := Aside0.mk (blk_below BBx.out hb9)
 have BG9 := Aside0.mk (blk_below BGx.out hb9)
 have BP9 := Aside0.mk (blk_below BPx.out hb9)
 clear hb9 BAx BBx BGx BPx
 go_wp2_with ((with_reducible refine gate_dst (N := 12) rfl ?_); refine box_event ?hg (N := 12) ?hd (cs := #[.bool false, .slice none 0 0, .slice none 0 0, .slice none 0 0]) (t := 26) ?hr ?_; (case hd => rfl); (case hg => rfl); (case hr => first | (go_simp; done) | (go_simp; rfl)); intro gc hgc w10 hbox hb; have Ggc : Aside0 (w9.heap.size ≤ gc) := ⟨by rw [hgc]; exact Y9.out.size⟩; have Bgc := Aside0.mk hbox; have fgc0 := blk_frozen hbox 0; have cgc0 := (blk_cell hbox 0).trans rfl; have fgc1 := blk_frozen hbox 1; have cgc1 := (blk_cell hbox 1).trans rfl; have fgc2 := blk_frozen hbox 2; have cgc2 := (blk_cell hbox 2).trans rfl; have fgc3 := blk_frozen hbox 3; have cgc3 := (blk_cell hbox 3).trans rfl; have ngp_gc : gp ≠ gc := (by rw [hgc]; exact Nat.ne_of_lt (blk_lt BP9.out)); have Ngp_gc := Aside0.mk ngp_gc; replace BP9 := Aside0.mk (blk_below BP9.out hb); have ngg_gc : gg ≠ gc := (by rw [hgc]; exact Nat.ne_of_lt (blk_lt BG9.out)); have Ngg_gc := Aside0.mk ngg_gc; replace BG9 := Aside0.mk (blk_below BG9.out hb); have nga_gc : ga ≠ gc := (by rw [hgc]; exact Nat.ne_of_lt (blk_lt BA9.out)); have Nga_gc := Aside0.mk nga_gc; replace BA9 := Aside0.mk (blk_below BA9.out hb); have ngb_gc : gb ≠ gc := (by rw [hgc]; exact Nat.ne_of_lt (blk_lt BB9.out)); have Ngb_gc := Aside0.mk ngb_gc; replace BB9 := Aside0.mk (blk_below BB9.out hb); replace cgg0 := (blk_cell BG9.out 0).trans rfl; replace cgg1 := (blk_cell BG9.out 1).trans rfl; replace cgg2 := (blk_cell BG9.out 2).trans rfl; replace cgg3 := (blk_cell BG9.out 3).trans rfl; replace cga0 := (blk_cell BA9.out 0).trans rfl; replace cga1 := (blk_cell BA9.out 1).trans rfl; replace cga2 := (blk_cell BA9.out 2).trans rfl; replace cga3 := (blk_cell BA9.out 3).trans rfl; replace fga0 := blk_frozen BA9.out 0; replace fga1 := blk_frozen BA9.out 1; replace fga2 := blk_frozen BA9.out 2; replace fga3 := blk_frozen BA9.out 3; have Y10 := Aside0.mk (below_step Y9.out hb); clear hbox hb hgc)
 have BCl := Aside0.mk (pageB Bgc.out (.bool p1) (.slice Z1 n1 y1) (.slice Z2 n2 y2) (.slice Z3 n3 y3))
 have BAl := Aside0.mk (pageF BA9.out Nga_gc.out (.bool p1) (.slice Z1 n1 y1) (.slice Z2 n2 y2) (.slice Z3 n3 y3))
 have BBl := Aside0.mk (pageF BB9.out Ngb_gc.out (.bool p1) (.slice Z1 n1 y1) (.slice Z2 n2 y2) (.slice Z3 n3 y3))
 have BGl := Aside0.mk (pageF BG9.out Ngg_gc.out (.bool p1) (.slice Z1 n1 y1) (.slice Z2 n2 y2) (.slice Z3 n3 y3))
 have BPl := Aside0.mk (pageF BP9.out Ngp_gc.out (.bool p1) (.slice Z1 n1 y1) (.slice Z2 n2 y2) (.slice Z3 n3 y3))
 have Yl := Aside0.mk (pageW Y10.out Ggc.out (.bool p1) (.slice Z1 n1 y1) (.slice Z2 n2 y2) (.slice Z3 n3 y3))
 clear Bgc BA9 BB9 BG9 BP9 Y9 Y10 ngp_gc ngg_gc nga_gc ngb_gc cgc0 cgc1 cgc2 cgc3 fgc0 fgc1 fgc2 fgc3 cga0 cgg0 fga0 cga1 cgg1 fga1 cga2 cgg2 fga2 cga3 cgg3 fga3
 generalize World.setCell _ _ _ = wl at BAl BBl BCl BGl BPl Yl ⊢
 have SM := Aside0.mk (Sim.below (below_step W9.out Yl.out))
 have SY := Aside0.mk (Sim.below Yl.out)
 replace Q1 := Aside0.mk (Q1.out.sim SM.out)
 replace Q2 := Aside0.mk (Q2.out.sim SM.out)
 replace Q3 := Aside0.mk (Q3.out.sim SM.out)
 replace Q4 := Aside0.mk (Q4.out.sim SM.out)
 replace Q6 := Aside0.mk (Q6.out.sim SM.out)
 replace Q7 := Aside0.mk (Q7.out.sim SM.out)
 replace Q8 := Aside0.mk (Q8.out.sim SM.out)
 replace O1 := Aside0.mk (O1.out.sim SY.out)
 replace O2 := Aside0.mk (O2.out.sim SY.out)
 replace O3 := Aside0.mk (O3.out.sim SY.out)
 have BL := Aside0.mk (below_step HS6.out (below_step W9.out Yl.out))
 have BW := Aside0.mk HB5.out
 clear SM SY W9 Wx XS XW HS6 Yl HB5
 go_loopg [43] (m4 + 1) (fun kq v43 wr1 => ∃ i : Nat, i ≤ m4 ∧ i + kq = m4 + 1 ∧ v43 = .int .i64 (i : Int) ∧ Aside0 (Sim wl wr1) ∧ Aside0 (Below ws.heap.size ws wr1))
 case atStart => exact ⟨0, by omega, by omega, rfl, ⟨Sim.refl _⟩, BL⟩
 case round =>
  rename World => wr1
  obtain ⟨i1, hin, hk, rfl, SM1, BR1⟩ := hrel
  by_cases hlt : i1 < m4
  ·obtain ⟨mm, rfl⟩ : ∃ m, gk = m + 1 := ⟨gk - 1, by omega⟩
   have c0_ : decide ((i1 : Int) < (m4 : Int)) = true := decide_eq_true (by omega)
   have HQ := Aside0.mk (Q4.out.sim SM1.out)
   obtain ⟨ad, v, e, hb, hc, hf⟩ := HQ.out.2 i1 hlt
   cases e
   have hp1 : 0 ≤ (i1 : Int) := by omega
   have hq1 : (i1 : Int) < (m4 : Int) := by omega
   replace hp1 := eq_true hp1
   replace hq1 := eq_true hq1
   go_wp2_with fail
   go_roundg mm
   case measure => exact Nat.lt_succ_self _
   case rel => exact ⟨i1 + 1, by omega, by omega, congrArg (Value.int .i64) (show wrap64 ((i1 : Int) + 1) = ((i1 + 1 : Nat) : Int) by have := HQ.out.1; unfold wrap64; omega), ⟨SM1.out.put hc _⟩, ⟨BR1.out.setCell (p := ad.add i1) (by rw [add_blk]; exact hb) _⟩⟩
  ·obtain rfl : i1 = m4 := by omega
   have c0_ : decide ((i1 : Int) < (i1 : Int)) = false := decide_eq_false (by omega)
   clear hlt hin hk
   have ca0 : wr1.cell? ⟨ga, 0, none⟩ = some (.bool s1) := SM1.out.keep (blk_cell BAl.out 0) (by simp)
   have ca1 : wr1.cell? ⟨ga, 1, none⟩ = some (.slice S1 m1 x1) := SM1.out.keep (blk_cell BAl.out 1) (by simp)
   have ca2 : wr1.cell? ⟨ga, 2, none⟩ = some (.slice S2 m2 x2) := SM1.out.keep (blk_cell BAl.out 2) (by simp)
   have ca3 : wr1.cell? ⟨ga, 3, none⟩ = some (.slice S3 m3 x3) := SM1.out.keep (blk_cell BAl.out 3) (by simp)
   have cb0 : wr1.cell? ⟨gb, 0, none⟩ = some (.bool s6) := SM1.out.keep (blk_cell BBl.out 0) (by simp)
   have cb1 : wr1.cell? ⟨gb, 1, none⟩ = some (.slice S6 m6 x6) := SM1.out.keep (blk_cell BBl.out 1) (by simp)
   have cb2 : wr1.cell? ⟨gb, 2, none⟩ = some (.slice S7 m7 x7) := SM1.out.keep (blk_cell BBl.out 2) (by simp)
   have cb3 : wr1.cell? ⟨gb, 3, none⟩ = some (.slice S8 m8 x8) := SM1.out.keep (blk_cell BBl.out 3) (by simp)
   have cc0 : wr1.cell? ⟨gc, 0, none⟩ = some (.bool p1) := SM1.out.keep (blk_cell BCl.out 0) (by simp)
   have cc1 : wr1.cell? ⟨gc, 1, none⟩ = some (.slice Z1 n1 y1) := SM1.out.keep (blk_cell BCl.out 1) (by simp)
   have cc2 : wr1.cell? ⟨gc, 2, none⟩ = some (.slice Z2 n2 y2) := SM1.out.keep (blk_cell BCl.out 2) (by simp)
   have cc3 : wr1.cell? ⟨gc, 3, none⟩ = some (.slice Z3 n3 y3) := SM1.out.keep (blk_cell BCl.out 3) (by simp)
   go_wp2_with ((with_reducible refine gate_dst (N := 56) rfl ?_); refine lit_event ?hg (N := 56) ?hd (e := 26) (len := 3) (cells := #[.bool s1, .slice S1 m1 x1, .slice S2 m2 x2, .slice S3 m3 x3, .bool s6, .slice S6 m6 x6, .slice S7 m7 x7, .slice S8 m8 x8, .bool p1, .slice Z1 n1 y1, .slice Z2 n2 y2, .slice Z3 n3 y3]) ?hr ?_; (case hd => rfl); (case hg => rfl); (case hr => first | (go_simp; done) | (go_simp; rfl)); intro gR hgR w11 hbox hb; have BRR := Aside0.mk hbox; have SM2 := Aside0.mk (SM1.out.trans (Sim.below hb)); have BR2 := Aside0.mk (below_step BR1.out hb); clear hbox hb hgR)
   have PG := Aside0.mk (show ∀ p : Nat, p < 3 → PgRow w11 ws.heap.size gR p from fun p hp => by
    match p, hp with
    | 0, _ => exact ⟨s1, _, _, _, _, _, _, _, _, _, blk_cell BRR.out 0, blk_cell BRR.out 1, blk_cell BRR.out 2, blk_cell BRR.out 3, Q1.out.sim SM2.out, Q2.out.sim SM2.out, Q3.out.sim SM2.out⟩
    | 1, _ => exact ⟨s6, _, _, _, _, _, _, _, _, _, blk_cell BRR.out 4, blk_cell BRR.out 5, blk_cell BRR.out 6, blk_cell BRR.out 7, Q6.out.sim SM2.out, Q7.out.sim SM2.out, Q8.out.sim SM2.out⟩
    | 2, _ => exact ⟨p1, _, _, _, _, _, _, _, _, _, blk_cell BRR.out 8, blk_cell BRR.out 9, blk_cell BRR.out 10, blk_cell BRR.out 11, O1.out.sim SM2.out, O2.out.sim SM2.out, O3.out.sim SM2.out⟩)
   have BGr := Aside0.mk BGl.out
   have SG := Aside0.mk SM2.out
   clear ca0 ca1 ca2 ca3 cb0 cb1 cb2 cb3 cc0 cc1 cc2 cc3 BRR Q1 Q2 Q3 Q4 Q6 Q7 Q8 O1 O2 O3 SM1 BR1 SM2 BAl BBl BCl c0_
   go_loopg [58] 4 (fun kq v58 wr2 => ∃ p : Nat, p ≤ 3 ∧ p + kq = 4 ∧ v58 = .int .i64 (p : Int) ∧ Aside0 (Sim w11 wr2) ∧ Aside0 (Below ws.heap.size ws wr2))
   case atStart => exact ⟨0, by omega, by omega, rfl, ⟨Sim.refl _⟩, BR2⟩
   case round =>
    rename World => wr2
    obtain ⟨p, hin, hk, rfl, SM2, BR2⟩ := hrel
    by_cases hlt : p < 3
    ·obtain ⟨m2_, rfl⟩ : ∃ m, gk = m + 1 := ⟨gk - 1, by omega⟩
     have c1_ : decide ((p : Int) < 3) = true := decide_eq_true (by omega)
     obtain ⟨b, A1_, m1_, x1_, A2_, m2__, x2_, A3_, m3_, x3_, h0, h1, h2, h3, r1, r2, r3⟩ := (PG.out p hlt).sim SM2.out
     have hp2 : 0 ≤ (p : Int) := by omega
     have hq2 : (p : Int) < 3 := by omega
     replace hp2 := eq_true hp2
     replace hq2 := eq_true hq2
     go_wp2_with (first | ((with_reducible refine gate_dst (N := 16) rfl ?_); refine box_event ?hg (N := 16) ?hd (cs := #[.bool false, .slice none 0 0, .slice none 0 0, .slice none 0 0]) (t := 26) ?hr ?_; (case hd => rfl); (case hg => rfl); (case hr => first | (go_simp; done) | (go_simp; rfl)); intro gq hgq w21 hbox hb; have GQ : Aside0 (wr2.heap.size ≤ gq) := ⟨by rw [hgq]; exact Nat.le_refl _⟩; have Bq := Aside0.mk hbox; have Hb21 := Aside0.mk hb; have fq0 := blk_frozen hbox 0; have cq0 := (blk_cell hbox 0).trans rfl; have fq1 := blk_frozen hbox 1; have cq1 := (blk_cell hbox 1).trans rfl; have fq2 := blk_frozen hbox 2; have cq2 := (blk_cell hbox 2).trans rfl; have fq3 := blk_frozen hbox 3; have cq3 := (blk_cell hbox 3).trans rfl; clear hbox hb hgq) | ((with_reducible refine gate_dst (N := 66) rfl ?_); refine lit_event ?hg (N := 66) ?hd (e := 22) (len := 2) (cells := #[.slice A1_ m1_ x1_, .slice A2_ m2__ x2_]) ?hr ?_; (case hd => rfl); (case hg => rfl); (case hr => first | (go_simp; done) | (go_simp; rfl)); intro gL hgL w22 hbox hb; have SM3 := Aside0.mk (Sim.below (below_step (pageW Hb21.out GQ.out (.bool b) (.slice A1_ m1_ x1_) (.slice A2_ m2__ x2_) (.slice A3_ m3_ x3_)) hb)); have BR3 := Aside0.mk (below_step BR2.out (below_step (pageW Hb21.out GQ.out (.bool b) (.slice A1_ m1_ x1_) (.slice A2_ m2__ x2_) (.slice A3_ m3_ x3_)) hb)); have BQ := Aside0.mk (blk_below (pageB Bq.out (.bool b) (.slice A1_ m1_ x1_) (.slice A2_ m2__ x2_) (.slice A3_ m3_ x3_)) hb); have BLs := Aside0.mk hbox; clear hbox hb hgL))
     have LS := Aside0.mk (show ∀ q : Nat, q < 2 → LsRow w22 ws.heap.size gL q from fun q hq => by
      match q, hq with
      | 0, _ => exact ⟨_, _, _, blk_cell BLs.out 0, r1.sim SM3.out⟩
      | 1, _ => exact ⟨_, _, _, blk_cell BLs.out 1, r2.sim SM3.out⟩)
     have KD := Aside0.mk (r3.sim SM3.out)
     have KQ : Aside0 (w22.cell? ⟨gq, 3, none⟩ = some (.slice A3_ m3_ x3_)) := ⟨blk_cell BQ.out 3⟩
     clear r1 r2 r3 h0 h1 h2 h3 BLs BQ Bq Hb21 GQ fq0 fq1 fq2 fq3 cq0 cq1 cq2 cq3 hp2 hq2 c1_
     go_loopg [68] (2 + 1) (fun kq v68 wr3 => ∃ q : Nat, q ≤ 2 ∧ q + kq = 2 + 1 ∧ v68 = .int .i64 (q : Int) ∧ Aside0 (Sim w22 wr3) ∧ Aside0 (Below ws.heap.size ws wr3))
     case atStart => exact ⟨0, by omega, by omega, rfl, ⟨Sim.refl _⟩, BR3⟩
     case round =>
      rename World => wr3
      obtain ⟨q, hin, hk, rfl, SMq, BRq⟩ := hrel
      by_cases hlt : q < 2
      ·obtain ⟨m3k, rfl⟩ : ∃ m, gk = m + 1 := ⟨gk - 1, by omega⟩
       have c2_ : decide ((q : Int) < 2) = true := decide_eq_true (by omega)
       obtain ⟨Al, nl, xl, hl0, hrl⟩ := (LS.out q hlt).sim SMq.out
       have HRL := Aside0.mk hrl
       have hp3 : 0 ≤ (q : Int) := by omega
       have hq3 : (q : Int) < 2 := by omega
       replace hp3 := eq_true hp3
       replace hq3 := eq_true hq3
       go_wp2_with fail
       clear hl0 hrl c2_ hp3 hq3
       go_loopg [74] (nl + 1) (fun kq v74 wr4 => ∃ j : Nat, j ≤ nl ∧ j + kq = nl + 1 ∧ v74 = .int .i64 (j : Int) ∧ Aside0 (Sim wr3 wr4) ∧ Aside0 (Below ws.heap.size ws wr4))
       case atStart => exact ⟨0, by omega, by omega, rfl, ⟨Sim.refl _⟩, BRq⟩
       case round =>
        rename World => wr4
        obtain ⟨j, hin4, hk4, rfl, SMj, BRj⟩ := hrel
        by_cases hlt4 : j < nl
        ·obtain ⟨m4k, rfl⟩ : ∃ m, gk = m + 1 := ⟨gk - 1, by omega⟩
         have c3_ : decide ((j : Int) < (nl : Int)) = true := decide_eq_true (by omega)
         obtain ⟨ad, Bx, nx, xx, e, hcx, hbx⟩ := (HRL.out.sim SMj.out).2 j hlt4
         cases e
         have HBX := Aside0.mk hbx
         have hp4 : 0 ≤ (j : Int) := by omega
         have hq4 : (j : Int) < (nl : Int) := by omega
         replace hp4 := eq_true hp4
         replace hq4 := eq_true hq4
         go_wp2_with fail
         clear hcx hbx c3_ hp4 hq4
         go_loopg [80] (nx + 1) (fun kq v80 wr5 => ∃ i : Nat, i ≤ nx ∧ i + kq = nx + 1 ∧ v80 = .int .i64 (i : Int) ∧ Aside0 (Sim wr4 wr5) ∧ Aside0 (Below ws.heap.size ws wr5))
         case atStart => exact ⟨0, by omega, by omega, rfl, ⟨Sim.refl _⟩, BRj⟩
         case round =>
          rename World => wr5
          obtain ⟨i5, hin, hk, rfl, SM5, BR5⟩ := hrel
          by_cases hlt : i5 < nx
          ·obtain ⟨mm, rfl⟩ : ∃ m, gk = m + 1 := ⟨gk - 1, by omega⟩
           have c0_ : decide ((i5 : Int) < (nx : Int)) = true := decide_eq_true (by omega)
           have HQ := Aside0.mk (HBX.out.sim SM5.out)
           obtain ⟨ad, v, e, hb, hc, hf⟩ := HQ.out.2 i5 hlt
           cases e
           have hp1 : 0 ≤ (i5 : Int) := by omega
           have hq1 : (i5 : Int) < (nx : Int) := by omega
           replace hp1 := eq_true hp1
           replace hq1 := eq_true hq1
           go_wp2_with fail
           go_roundg mm
           case measure => exact Nat.lt_succ_self _
           case rel => exact ⟨i5 + 1, by omega, by omega, congrArg (Value.int .i64) (show wrap64 ((i5 : Int) + 1) = ((i5 + 1 : Nat) : Int) by have := HQ.out.1; unfold wrap64; omega), ⟨SM5.out.put hc _⟩, ⟨BR5.out.setCell (p := ad.add i5) (by rw [add_blk]; exact hb) _⟩⟩
          ·obtain rfl : i5 = nx := by omega
           have c0_ : decide ((i5 : Int) < (i5 : Int)) = false := decide_eq_false (by omega)
           clear hlt hin hk
           go_wp2_with fail
           go_roundg m4k
           case measure => exact Nat.lt_succ_self _
           case rel => exact ⟨j + 1, by omega, by omega, congrArg (Value.int .i64) (show wrap64 ((j : Int) + 1) = ((j + 1 : Nat) : Int) by have := HRL.out.1; unfold wrap64; omega), ⟨SMj.out.trans SM5.out⟩, BR5⟩
        ·obtain rfl : j = nl := by omega
         have c3_ : decide ((j : Int) < (j : Int)) = false := decide_eq_false (by omega)
         clear hlt4 hin4 hk4
         go_wp2_with fail
         go_roundg m3k
         case measure => exact Nat.lt_succ_self _
         case rel => exact ⟨q + 1, by omega, by omega, congrArg (Value.int .i64) (show (q : Int) + 1 = ((q + 1 : Nat) : Int) by omega), ⟨SMq.out.trans SMj.out⟩, BRj⟩
      ·obtain rfl : q = 2 := by omega
       have c2_ : decide (((2 : Nat) : Int) < 2) = false := decide_eq_false (by omega)
       clear hlt hin hk
       have KD3 := Aside0.mk (KD.out.sim SMq.out)
       have k3 := SMq.out.keep KQ.out (by simp)
       go_wp2_with fail
       clear k3
       go_loopg [95] (m3_ + 1) (fun kq v95 wr6 => ∃ i : Nat, i ≤ m3_ ∧ i + kq = m3_ + 1 ∧ v95 = .int .i64 (i : Int) ∧ Aside0 (Sim wr3 wr6) ∧ Aside0 (Below ws.heap.size ws wr6))
       case atStart => exact ⟨0, by omega, by omega, rfl, ⟨Sim.refl _⟩, BRq⟩
       case round =>
        rename World => wr6
        obtain ⟨i6, hin, hk, rfl, SM6, BR6⟩ := hrel
        by_cases hlt : i6 < m3_
        ·obtain ⟨mm, rfl⟩ : ∃ m, gk = m + 1 := ⟨gk - 1, by omega⟩
         have c0_ : decide ((i6 : Int) < (m3_ : Int)) = true := decide_eq_true (by omega)
         have HQ := Aside0.mk (KD3.out.sim SM6.out)
         obtain ⟨ad, v, e, hb, hc, hf⟩ := HQ.out.2 i6 hlt
         have k6 : wr6.cell? ⟨gq, 3, none⟩ = some (.slice A3_ m3_ x3_) := SM6.out.keep (SMq.out.keep KQ.out (by simp)) (by simp)
         cases e
         have hp1 : 0 ≤ (i6 : Int) := by omega
         have hq1 : (i6 : Int) < (m3_ : Int) := by omega
         replace hp1 := eq_true hp1
         replace hq1 := eq_true hq1
         go_wp2_with fail
         go_roundg mm
         case measure => exact Nat.lt_succ_self _
         case rel => exact ⟨i6 + 1, by omega, by omega, congrArg (Value.int .i64) (show wrap64 ((i6 : Int) + 1) = ((i6 + 1 : Nat) : Int) by have := HQ.out.1; unfold wrap64; omega), ⟨SM6.out.put hc _⟩, ⟨BR6.out.setCell (p := ad.add i6) (by rw [add_blk]; exact hb) _⟩⟩
        ·obtain rfl : i6 = m3_ := by omega
         have c0_ : decide ((i6 : Int) < (i6 : Int)) = false := decide_eq_false (by omega)
         clear hlt hin hk
         go_wp2_with fail
         go_roundg m2_
         case measure => exact Nat.lt_succ_self _
         case rel => exact ⟨p + 1, by omega, by omega, congrArg (Value.int .i64) (show (p : Int) + 1 = ((p + 1 : Nat) : Int) by omega), ⟨SM2.out.trans (SM3.out.trans (SMq.out.trans SM6.out))⟩, BR6⟩
    ·obtain rfl : p = 3 := by omega
     have c1_ : decide (((3 : Nat) : Int) < 3) = false := decide_eq_false (by omega)
     clear hlt hin hk
     have SE := Aside0.mk (SG.out.trans SM2.out)
     have cg0 : wr2.cell? ⟨gg, 0, none⟩ = some (.bool g1) := SE.out.keep (blk_cell BGr.out 0) (by simp)
     have cg1 : wr2.cell? ⟨gg, 1, none⟩ = some (.slice G1 g2.length d1) := SE.out.keep (blk_cell BGr.out 1) (by simp)
     have cg2 : wr2.cell? ⟨gg, 2, none⟩ = some (.slice G2 g3.length d2) := SE.out.keep (blk_cell BGr.out 2) (by simp)
     have cg3 : wr2.cell? ⟨gg, 3, none⟩ = some (.slice G3 g4.length d3) := SE.out.keep (blk_cell BGr.out 3) (by simp)
     have cp0 : wr2.cell? ⟨gp, 0, none⟩ = some (.bool a0_0) := SE.out.keep (blk_cell BPl.out 0) (by simp)
     have cp1 : wr2.cell? ⟨gp, 1, none⟩ = some (.slice A0_1 l0_1.length c0_1) := SE.out.keep (blk_cell BPl.out 1) (by simp)
     have cp2 : wr2.cell? ⟨gp, 2, none⟩ = some (.slice A0_2 l0_2.length c0_2) := SE.out.keep (blk_cell BPl.out 2) (by simp)
     have cp3 : wr2.cell? ⟨gp, 3, none⟩ = some (.slice A0_3 l0_3.length c0_3) := SE.out.keep (blk_cell BPl.out 3) (by simp)
     go_wp2_with fail
     have BE := Aside0.mk (below_step BW.out BR2.out)
     refine (ladingref06_Same.calls k g1 G1 d1 g2 G2 d2 g3 G3 d3 g4 a0_0 A0_1 c0_1 l0_1 A0_2 c0_2 l0_2 A0_3 c0_3 l0_3 true _ (Kd.C_below C1.out BR2.out) D1.out (Kd.C_below C2.out BR2.out) D2.out (Kd.C_below C3.out BR2.out) D3.out (Kd.C_below R1.out BE.out) L1.out (Kd.C_below R2.out BE.out) L2.out (Kd.C_below R3.out BE.out) L3.out HSM.out).mono ?_
     rintro e w30 ⟨rfl, hb30⟩
     have BR30 := Aside0.mk (below_step BR2.out hb30)
     have BE30 := Aside0.mk (below_step BE.out hb30)
     replace cg0 := pw_cell_below hb30 cg0
     replace cg1 := pw_cell_below hb30 cg1
     replace cg2 := pw_cell_below hb30 cg2
     replace cg3 := pw_cell_below hb30 cg3
     clear hb30 cp0 cp1 cp2 cp3
     go_wp2_with fail
     refine (ladinglaw06_NodeKeys.calls k g1 G1 d1 g2 G2 d2 g3 G3 d3 g4 A1 c1 l1 A2 c2 l2 r _ (Kd.C_below C1.out BR30.out) D1.out (Kd.C_below C2.out BR30.out) D2.out (Kd.C_below C3.out BR30.out) D3.out (Kd.C_below RK.out BE30.out) LK.out (Kd.C_below RV.out BE30.out) LV.out HN.out).mono ?_
     rintro e w31 ⟨rfl, hb31⟩
     have BE31 := Aside0.mk (below_step BE30.out hb31)
     clear hb31
     go_wp2_with fail
     go_ret
     exact ⟨rfl, BE31.out⟩
end Go.Proofs.Ytcbgichkeecgiaa.Print
