-- What the claim uses alone (wip/slim.py). Lean checks it.
import Derived.Test.YtfpdipnaefomiaaDoorZPrint0
import Derived.Test.YtfpdipnaefomiaaDoorZPrint15
import Derived.Test.YtfpdipnaefomiaaDoorZPrint17
namespace Go.Proofs.YtfpdipnaefomiaaDoor.Print
open Go.RowKit Go.Proofs.YtfpdipnaefomiaaDoorW.PrintWords Go.Proofs.YtfpdipnaefomiaaDoorW.PrintLast Go.Proofs.YtfpdipnaefomiaaDoorW.PrintMore
attribute [local go_sem] max2_mx min2_mn max_two min_two max_three min_three max_four min_four
set_option linter.unusedVariables false
set_option linter.unusedSimpArgs false
theorem ladingref03_ReadEntries.bytes_F (W : World) (s : ByteArray) (hs : s.size ≤ 1048576) (C : Nat) (m : Nat × Nat) : Kd.F (Kd.int .u8) (W.drew.alloc (.cells (bytesRow s C) 5 m)) (fun k => W.heap.size ≤ k) (some ⟨W.heap.size, 0, none⟩) s.size (bytesOf s) := by
  intro W' hW
  have h0 : (W.drew.alloc (.cells (bytesRow s C) 5 m)).heap[W.heap.size]? = some (.cells (bytesRow s C) 5 m) := by
    show (W.heap.push (.cells (bytesRow s C) 5 m))[W.heap.size]? = _
    simp
  have h1 := (hW W.heap.size (Nat.le_refl _) (by show W.heap.size < (W.heap.push _).size; simp)).trans h0
  refine ⟨bytesOf_length s, by omega, fun _ => ⟨_, rfl, fun j p hp => ⟨[.int .u8 p], rfl, rfl, fun i u hu => ?_⟩⟩⟩
  obtain rfl : i = 0 := by
    have := (List.getElem?_eq_some_iff.1 hu).1
    simpa using this
  obtain rfl : Value.int .u8 p = u := by simpa using hu
  have hj : j < s.data.size := by
    have := (List.getElem?_eq_some_iff.1 hp).1
    rw [bytesOf_length] at this
    exact this
  have hp2 : p = (s.data[j].toNat : Int) := by
    unfold bytesOf at hp
    rw [List.getElem?_map, List.getElem?_eq_getElem (by simpa using hj)] at hp
    simpa using hp.symm
  have hc := cell_of_row W' W.heap.size j _ _ _ h1
  rw [bytesRow_at s C j hj] at hc
  rw [hp2, ← hc]
  congr 1
  simp [Addr.add, Kd.int, Kd.scalar]
  exact fun h => h.symm
theorem ladingref03_ReadEntries.mkE {W : World} {ok : Nat → Prop} {s t : ByteArray} {A B : Option Addr} {c d : Nat} (hc : s.size ≤ c) (hd : t.size ≤ d) (ha : Kd.F (Kd.int .u8) W ok A s.size (bytesOf s)) (hb : Kd.F (Kd.int .u8) W ok B t.size (bytesOf t)) :
    Kd.FK k64 W ok ⟨bytesOf s, bytesOf t⟩ [.slice A s.size c, .slice B t.size d] := by
  have h := k64_mkF W ok (⟨bytesOf s, bytesOf t⟩ : S64) (A0 := A) (c0 := c) (A1 := B) (c1 := d) (by rw [bytesOf_length]; exact hc) (by rw [bytesOf_length]; exact ha) (by rw [bytesOf_length]; exact hd) (by rw [bytesOf_length]; exact hb)
  rw [bytesOf_length, bytesOf_length] at h
  exact h
theorem ladingref03_ReadEntries.conv_event {P : Program} {o : Oper} {rest : List Oper} {ops : Array Oper} {a : Act} {Q : Exit → Act → World → Prop} {W : World} (hgd : o.guard = none) {N : Tmp} (_hd : o.dst = some N) {s : ByteArray}
    (hrun : (execOp a.eval o).run P W = .ok (.value (.slice (some ⟨W.heap.size, 0, none⟩) s.size (grownCap W s.size 0 5))) (W.drew.alloc (.cells (bytesRow s (grownCap W s.size 0 5)) 5 ((bytesRow s (grownCap W s.size 0 5)).size, (bytesRow s (grownCap W s.size 0 5)).size + 1)))) (hs : s.size ≤ 1048576)
    (h : ∀ g c w1, W.heap.size ≤ g → s.size ≤ c → Kd.F (Kd.int .u8) w1 (fun k => g ≤ k) (some ⟨g, 0, none⟩) s.size (bytesOf s) → Below W.heap.size W w1 → wpList P ops Q rest (a.put o.dst (.slice (some ⟨g, 0, none⟩) s.size c)) w1) : wpList P ops Q (o :: rest) a W :=
  Kd.event_run hgd hrun (h _ _ _ (Nat.le_refl _) (grownCap_ge _ _ _ _) (ladingref03_ReadEntries.bytes_F W s hs _ _) (below_alloc (below_drew (Below.refl _ _)) _))
def ladingref03_ReadEntries.g (k : Nat) : Nat → List S64 → List Int → Option (List S64 × Int)
  | 0, out, rest => if rest.length > 0 then some ([], 6) else some (out, 0)
  | m + 1, out, rest => (ladingref03_text.f k rest 256).bind fun t => if t.2.2 = 0 then ((ladingref03_text.f k t.2.1 512).bind fun u => if u.2.2 = 0 then (if out.length < 1048576 ∧ t.1.size ≤ 1048576 ∧ u.1.size ≤ 1048576 then ladingref03_ReadEntries.g k m (out ++ [⟨bytesOf t.1, bytesOf u.1⟩]) u.2.1 else none) else some ([], u.2.2)) else some ([], t.2.2)
def ladingref03_ReadEntries.f (k : Nat) (l0 : List Int) : Option (List S64 × Int) :=
  (ladingref03_ReadNum.f k l0).bind fun t => if t.2.2 = 0 then (if t.1 > 4096 then some ([], 3) else if 0 ≤ t.1 then ladingref03_ReadEntries.g k t.1.toNat [] t.2.1 else none) else some ([], t.2.2)
set_option maxHeartbeats 4000000 in
set_option maxRecDepth 100000 in
theorem ladingref03_ReadEntries.calls (k : Nat) (A0 : Option Addr) (c0 : Nat) (l0 : List Int) (r1 : List S64) (r2 : Int) (w : World) (hr0 : Kd.C (Kd.int .u8) w A0 l0.length l0) (hc0 : l0.length ≤ c0) (h : ladingref03_ReadEntries.f k l0 = some (r1, r2)) :
    Calls Tryd.prog 35 #[.slice A0 l0.length c0] w fun e w' => ∃ v0_ : Value, e = .returned (.tuple #[v0_, .int .i64 r2]) ∧ Kd.V k64 64 w' w.heap.size (fun k_ => (w.heap.size ≤ k_)) v0_ r1 ∧ Below w.heap.size w w' := by
  have hcv := fun w s => run_bytes_of_string (P := Tryd.prog) w 9 24 5 s Tryd.underlying9 Tryd.underlying24 Tryd.underlying5
  unfold ladingref03_ReadEntries.f at h
  replace h := Option.bind_eq_some_iff.mp h
  obtain ⟨⟨n, rest, why⟩, hn, h⟩ := h
  simp only at h
  have HN := Aside0.mk hn
  have HH := Aside0.mk h
  have R0 := Aside0.mk hr0
  have C0 := Aside0.mk hc0
  clear hr0 hc0 hn h
  go_enter Tryd.func35, Tryd.ntmps35
  go_wp2_with fail
  refine (ladingref03_ReadNum.calls k _ _ l0 n rest why _ R0.out C0.out HN.out).mono ?_
  rintro e w1 ⟨v1, rfl, hR, hb⟩
  obtain ⟨Ar, cr, rfl⟩ := Kd.R_slice hR
  have RR : Aside0 (Kd.F (Kd.int .u8) w1 (fun k => some k ≠ (Value.slice none 0 0).ownBlock) Ar rest.length rest) := ⟨Kd.F_mono (Kd.R_F hR) (fun k _ => by simp [Value.ownBlock])⟩
  have CR := Aside0.mk (Kd.R_reads' hR).2.1
  have HB := Aside0.mk hb
  clear hR hb
  have H := HH.out
  clear HH
  by_cases hw : why = 0
  · rw [if_pos hw] at H
    have w1_ : (why == 0) = true := beq_iff_eq.mpr hw
    have w2_ : (why != 0) = false := bne_eq_false_iff_eq.mpr hw
    clear hw
    by_cases hz : n > 4096
    · rw [if_pos hz] at H
      have z1 : decide (n > 4096) = true := decide_eq_true hz
      clear hz
      simp only [Option.some.injEq, Prod.mk.injEq] at H
      obtain ⟨rfl, rfl⟩ := H
      (try go_wp2_with fail)
      repeat (go_quiet (fail); try go_wp2_with fail)
      (try go_wp2)
      go_ret2
      exact ⟨_, rfl, Kd.V_nil _ _ _ _ _, HB.out⟩
    · rw [if_neg hz] at H
      have z1 : decide (n > 4096) = false := decide_eq_false hz
      by_cases hn0 : 0 ≤ n
      rotate_left
      · rw [if_neg hn0] at H; cases H
      rw [if_pos hn0] at H
      obtain ⟨M, rfl⟩ := Int.eq_ofNat_of_zero_le hn0
      rw [Int.toNat_natCast] at H
      have HM : Aside0 (M ≤ 4096) := ⟨by omega⟩
      have HH := Aside0.mk H
      clear hz hn0 H HN
      (try go_wp2_with fail)
      repeat (go_quiet (fail); try go_wp2_with fail)
      go_loopg [5, 7, 8] (M + 1) (fun kq v5 v7 v8 wr => ∃ (i : Nat) (Ar : Option Addr) (cr : Nat) (rest : List Int) (out : List S64), i ≤ M ∧ i + kq = M + 1 ∧ v8 = .int .u64 (i : Int) ∧ v5 = .slice Ar rest.length cr ∧ Kd.F (Kd.int .u8) wr (fun k => some k ≠ v7.ownBlock) Ar rest.length rest ∧ rest.length ≤ cr ∧ Kd.N k64 64 wr w.heap.size (fun k_ => w.heap.size ≤ k_) v7 out ∧ Below w.heap.size w wr ∧ ladingref03_ReadEntries.g k (M - i) out rest = some (r1, r2))
      case atStart => exact ⟨0, Ar, cr, rest, [], by omega, by omega, rfl, rfl, RR.out, CR.out, Kd.N_nil _ _ _ _ _, HB.out, HH.out⟩
      case round =>
        clear z1 RR CR HB HH
        obtain ⟨i, Ai, ci, ri, out, hi, hik, rfl, rfl, hC, hL, hN, hB, hH⟩ := hrel
        have CI := Aside0.mk hC
        have LI := Aside0.mk hL
        have NI := Aside0.mk hN
        have HB := Aside0.mk hB
        have H := hH
        clear hC hL hN hB hH
        rcases Nat.lt_or_ge i M with hlt | hge
        · obtain ⟨m, hm⟩ : ∃ m, M - i = m + 1 := ⟨M - i - 1, by omega⟩
          rw [hm, ladingref03_ReadEntries.g] at H
          have y1 : decide ((i : Int) < (M : Int)) = true := decide_eq_true (by omega)
          replace H := Option.bind_eq_some_iff.mp H
          obtain ⟨⟨s1, q1, e1⟩, ht, H⟩ := H
          simp only at H
          have HT := Aside0.mk ht
          have HH := Aside0.mk H
          clear ht H
          (try go_wp2_with fail)
          repeat (go_quiet (fail); try go_wp2_with fail)
          refine (ladingref03_text.calls k _ _ ri 256 s1 q1 e1 _ (Kd.F_now CI.out) LI.out HT.out).mono ?_
          rintro e w2 ⟨v2, rfl, hQ, hb⟩
          obtain ⟨B1, d1, rfl, _⟩ := Kd.Q_slice hQ
          have C1_ : Aside0 (Kd.F (Kd.int .u8) w2 (fun k => some k ≠ u7.ownBlock) B1 q1.length q1) := ⟨Kd.F_mono (Kd.Q_F (Kd.Q_bound hQ)) (fun k hk he => by have := Kd.N_lt NI.out k he.symm; have := hk.2.1; omega)⟩
          have L1_ := Aside0.mk (Kd.Q_reads' hQ).2.1
          have n_ := Aside0.mk (Kd.N_below NI.out hb)
          have b_ := Aside0.mk (below_step HB.out hb)
          clear NI HB hQ hb HT CI LI
          have NI := n_
          have HB := b_
          clear n_ b_
          have H := HH.out
          clear HH
          by_cases he1 : e1 = 0
          · rw [if_pos he1] at H
            have z11 : (e1 == 0) = true := beq_iff_eq.mpr he1
            have z12 : (e1 != 0) = false := bne_eq_false_iff_eq.mpr he1
            clear he1
            replace H := Option.bind_eq_some_iff.mp H
            obtain ⟨⟨s2, q2, e2⟩, ht, H⟩ := H
            simp only at H
            have HT := Aside0.mk ht
            have HH := Aside0.mk H
            clear ht H
            (try go_wp2_with fail)
            repeat (go_quiet (fail); try go_wp2_with fail)
            refine (ladingref03_text.calls k _ _ q1 512 s2 q2 e2 _ (Kd.F_now C1_.out) L1_.out HT.out).mono ?_
            rintro e w3 ⟨v2, rfl, hQ, hb⟩
            obtain ⟨B2, d2, rfl, _⟩ := Kd.Q_slice hQ
            have C2_ : Aside0 (Kd.F (Kd.int .u8) w3 (fun k => some k ≠ u7.ownBlock) B2 q2.length q2) := ⟨Kd.F_mono (Kd.Q_F (Kd.Q_bound hQ)) (fun k hk he => by have := Kd.N_lt NI.out k he.symm; have := hk.2.1; omega)⟩
            have L2_ := Aside0.mk (Kd.Q_reads' hQ).2.1
            have n_ := Aside0.mk (Kd.N_below NI.out hb)
            have b_ := Aside0.mk (below_step HB.out hb)
            clear NI HB hQ hb HT C1_ L1_
            have NI := n_
            have HB := b_
            clear n_ b_
            have H := HH.out
            clear HH
            by_cases he2 : e2 = 0
            · rw [if_pos he2] at H
              have z21 : (e2 == 0) = true := beq_iff_eq.mpr he2
              have z22 : (e2 != 0) = false := bne_eq_false_iff_eq.mpr he2
              clear he2
              by_cases hS : out.length < 1048576 ∧ s1.size ≤ 1048576 ∧ s2.size ≤ 1048576
              rotate_left
              · rw [if_neg hS] at H; cases H
              rw [if_pos hS] at H
              have HOL := Aside0.mk hS.1
              have HS : Aside0 (s1.size ≤ 1048576 ∧ s2.size ≤ 1048576) := ⟨hS.2⟩
              clear hS
              have HH := Aside0.mk H
              clear H
              go_upto_region 16 with fail
              obtain ⟨lo, hlo⟩ : ∃ lo, lo = w3.heap.size := ⟨_, rfl⟩
              have HLO : Aside0 (w.heap.size ≤ lo ∧ ∀ k, u7.ownBlock = some k → k < lo) := ⟨by rw [hlo]; exact HB.out.size, by rw [hlo]; exact fun k hk => Kd.N_lt NI.out k hk⟩
              have HLW : Aside0 (lo ≤ w3.heap.size) := ⟨by rw [hlo]; exact Nat.le_refl _⟩
              clear hlo
              go_wp2_with (first | ((with_reducible refine gate_dst (N := 53) rfl ?_); refine ladingref03_ReadEntries.conv_event ?hg (N := 53) ?hd (s := s1) ?hr HS.out.1 ?_; (case hd => rfl); (case hg => rfl); (case hr => first | (go_simp; done) | (go_simp; rfl) | (go_simp; exact ⟨rfl, rfl⟩)); intro ga ca w4 hlo_ hC hF hb; have FA : Aside0 (Kd.F (Kd.int .u8) w4 (fun k_ => lo ≤ k_) (some ⟨ga, 0, none⟩) s1.size (bytesOf s1) ∧ s1.size ≤ ca) := ⟨Kd.F_mono hF (fun k hk => Nat.le_trans (Nat.le_trans HLW.out hlo_) hk), hC⟩; have n_ := Aside0.mk (Kd.N_below NI.out hb); have b_ := Aside0.mk (below_step HB.out hb); have q_ := Aside0.mk (Kd.F_below C2_.out hb); have l_ : Aside0 (lo ≤ w4.heap.size) := ⟨Nat.le_trans HLW.out hb.size⟩; clear NI HB C2_ HLW hF hC hlo_ hb; have NI := n_; have HB := b_; have C2_ := q_; have HLW := l_; clear n_ b_ q_ l_) | ((with_reducible refine gate_dst (N := 55) rfl ?_); refine ladingref03_ReadEntries.conv_event ?hg (N := 55) ?hd (s := s2) ?hr HS.out.2 ?_; (case hd => rfl); (case hg => rfl); (case hr => first | (go_simp; done) | (go_simp; rfl) | (go_simp; exact ⟨rfl, rfl⟩)); intro gb cb w5 hlo_ hC hF hb; have FB : Aside0 (Kd.F (Kd.int .u8) w5 (fun k_ => lo ≤ k_) (some ⟨gb, 0, none⟩) s2.size (bytesOf s2) ∧ s2.size ≤ cb) := ⟨Kd.F_mono hF (fun k hk => Nat.le_trans (Nat.le_trans HLW.out hlo_) hk), hC⟩; have f_ := Aside0.mk (Kd.F_below FA.out.1 hb); have FA2 : Aside0 (Kd.F (Kd.int .u8) w5 (fun k_ => lo ≤ k_) (some ⟨ga, 0, none⟩) s1.size (bytesOf s1) ∧ s1.size ≤ ca) := ⟨f_.out, FA.out.2⟩; clear FA f_; have n_ := Aside0.mk (Kd.N_below NI.out hb); have b_ := Aside0.mk (below_step HB.out hb); have q_ := Aside0.mk (Kd.F_below C2_.out hb); have l_ : Aside0 (lo ≤ w5.heap.size) := ⟨Nat.le_trans HLW.out hb.size⟩; clear NI HB C2_ HLW hF hC hlo_ hb; have NI := n_; have HB := b_; have C2_ := q_; have HLW := l_; clear n_ b_ q_ l_) | ((with_reducible refine gate_builtin (b := .append) (xs := #[.tmp 51, .tmp 57]) rfl ?_); at_builtin; refine Kd.N_append k64 (w0 := w) w.heap.size rfl (.tmp 51) (.tmp 57) 39 64 (.agg #[.slice none 0 0, .slice none 0 0]) 48 rfl Tryd.underlying39 info64 rfl (by decide) (by omega) u7 out ⟨bytesOf s1, bytesOf s2⟩ [.slice (some ⟨ga, 0, none⟩) s1.size ca, .slice (some ⟨gb, 0, none⟩) s2.size cb] (fun k_ => w.heap.size ≤ k_) (fun k_ => lo ≤ k_) rfl rfl (ladingref03_ReadEntries.mkE FA2.out.2 FB.out.2 FA2.out.1 FB.out.1) (fun k hk => ⟨Nat.le_trans HLO.out.1 hk, fun he => by have := HLO.out.2 k he.symm; omega⟩) (fun k hk => Nat.le_trans HB.out.size hk) NI.out HB.out HB.out.size (by have := HOL.out; omega) ?_; intro v9 w8 hn hb hg hat; have n_ := Aside0.mk hn; have b_ := Aside0.mk hb; have C_ : Aside0 (Kd.F (Kd.int .u8) w8 (fun k => some k ≠ v9.ownBlock) B2 q2.length q2) := ⟨Kd.F_mono (Kd.F_after (ok := fun _ => True) (Kd.F_mono C2_.out (fun k hk => ⟨trivial, hk⟩)) hg hat) (fun k hk => hk.2)⟩; clear hn hb hg hat NI HB C2_ FA2 FB HLW))
              repeat (go_quiet (fail); try go_wp2_with fail)
              have e1 : IntKind.u64.wrap ((i : Int) + 1) = ((i + 1 : Nat) : Int) := by have := HM.out; rw [IntKind.wrap_u64]; omega
              go_roundg (M - i)
              case measure => exact (by omega)
              case rel => exact ⟨i + 1, B2, d2, q2, out ++ [⟨bytesOf s1, bytesOf s2⟩], by omega, by omega, by first | rfl | rw [e1] | simp [e1], rfl, C_.out, L2_.out, n_.out, b_.out, by rw [show M - (i + 1) = m by omega]; exact HH.out⟩
            · rw [if_neg he2] at H
              have z1 : (e2 == 0) = false := beq_eq_false_iff_ne.mpr he2
              have z2 : (e2 != 0) = true := bne_iff_ne.mpr he2
              clear he2
              simp only [Option.some.injEq, Prod.mk.injEq] at H
              obtain ⟨rfl, rfl⟩ := H
              (try go_wp2_with fail)
              repeat (go_quiet (fail); try go_wp2_with fail)
              (try go_wp2)
              go_ret2
              exact ⟨_, rfl, Kd.V_nil _ _ _ _ _, HB.out⟩
          · rw [if_neg he1] at H
            have z1 : (e1 == 0) = false := beq_eq_false_iff_ne.mpr he1
            have z2 : (e1 != 0) = true := bne_iff_ne.mpr he1
            clear he1
            simp only [Option.some.injEq, Prod.mk.injEq] at H
            obtain ⟨rfl, rfl⟩ := H
            (try go_wp2_with fail)
            repeat (go_quiet (fail); try go_wp2_with fail)
            (try go_wp2)
            go_ret2
            exact ⟨_, rfl, Kd.V_nil _ _ _ _ _, HB.out⟩
        · obtain rfl : i = M := by omega
          rw [Nat.sub_self, ladingref03_ReadEntries.g] at H
          have y1 : decide ((i : Int) < (i : Int)) = false := decide_eq_false (by omega)
          clear hi hge
          by_cases hr : ri.length > 0
          · rw [if_pos hr] at H
            have y2 : decide ((ri.length : Int) > 0) = true := decide_eq_true (by omega)
            have y3 : decide (0 < ri.length) = true := decide_eq_true hr
            clear hr
            simp only [Option.some.injEq, Prod.mk.injEq] at H
            obtain ⟨rfl, rfl⟩ := H
            (try go_wp2_with fail)
            repeat (go_quiet (fail); try go_wp2_with fail)
            (try go_wp2)
            go_ret2
            exact ⟨_, rfl, Kd.V_nil _ _ _ _ _, HB.out⟩
          · rw [if_neg hr] at H
            have y2 : decide ((ri.length : Int) > 0) = false := decide_eq_false (by omega)
            have y3 : decide (0 < ri.length) = false := decide_eq_false hr
            clear hr
            simp only [Option.some.injEq, Prod.mk.injEq] at H
            obtain ⟨rfl, rfl⟩ := H
            (try go_wp2_with fail)
            repeat (go_quiet (fail); try go_wp2_with fail)
            (try go_wp2)
            go_ret2
            exact ⟨_, rfl, Kd.N_V NI.out, HB.out⟩
  · rw [if_neg hw] at H
    have z1 : (why == 0) = false := beq_eq_false_iff_ne.mpr hw
    have z2 : (why != 0) = true := bne_iff_ne.mpr hw
    clear hw
    simp only [Option.some.injEq, Prod.mk.injEq] at H
    obtain ⟨rfl, rfl⟩ := H
    (try go_wp2_with fail)
    repeat (go_quiet (fail); try go_wp2_with fail)
    (try go_wp2)
    go_ret2
    exact ⟨_, rfl, Kd.V_nil _ _ _ _ _, HB.out⟩
end Go.Proofs.YtfpdipnaefomiaaDoor.Print
