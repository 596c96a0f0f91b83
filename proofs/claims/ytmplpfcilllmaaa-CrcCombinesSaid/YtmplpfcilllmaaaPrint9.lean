-- Printed for this claim by wip/xprint.py over the kit's printer. Not trusted: Lean checks it.
import Derived.Test.YtmplpfcilllmaaaPrint0
import Derived.Test.YtmplpfcilllmaaaPrint1
namespace Go.Proofs.Ytmplpfcilllmaaa.Print
open Go.RowKit Go.Proofs.YtmplpfcilllmaaaW.PrintWords Go.Proofs.YtmplpfcilllmaaaW.PrintLast Go.Proofs.YtmplpfcilllmaaaW.PrintMore
attribute [local go_sem] max2_mx min2_mn max_two min_two max_three min_three max_four min_four   -- for this text's walks alone
set_option linter.unusedVariables false
set_option linter.unusedSimpArgs false

-- NOT PRINTED: function 26 (crc_matrix_of)

-- NOT PRINTED: function 27 (crc_matrix_twice)

/-! ### crc_Combine: function 21, by hand -/
theorem crcM0_shifted : ∀ k : Nat, k < 32 → crc_shifted.f 9 ((2 : Int) ^ k % 4294967296) 8 = some (crcM0.getD k 0) := by decide +kernel
def OfRel (w : World) (m : List Int) (c : Int) (kq : Nat) (v1 v5 v6 : Value) (wr : World) : Prop := ∃ k : Nat, k ≤ 32 ∧ k + kq = 33 ∧ v1 = .int .u32 (c / 2 ^ k) ∧ v5 = .int .u32 (crcOfN m c k) ∧ v6 = .int .i64 k ∧ w = wr
set_option maxHeartbeats 1000000 in
set_option maxRecDepth 100000 in
theorem crc_Combine.of_row (g : Nat) (m : List Int) (c : Int) (w : World) (hm : m.length = 32) (hg : w.heap[g]? = some (.cells (mcells m) 46 (0, 0))) (h0 : 0 ≤ c) (h1 : c < 4294967296) :
    Calls Try.prog 26 #[.pointer (some ⟨g, 0, none⟩), .int .u32 c] w fun e w' => e = .returned (.int .u32 (crcOfN m c 32)) ∧ w = w' := by
  have HM := Aside0.mk hm
  have HG := Aside0.mk hg
  have H0 := Aside0.mk h0
  have H1 := Aside0.mk h1
  clear hm hg h0 h1
  go_enter Try.func26, Try.ntmps26
  go_wp2
  go_loopg [1, 5, 6] 33 (fun kq v1 v5 v6 wr => OfRel w m c kq v1 v5 v6 wr)
  case atStart => exact ⟨0, by omega, rfl, by simp, rfl, rfl, rfl⟩
  case round =>
    obtain ⟨k, hk, hkq, rfl, rfl, rfl, rfl⟩ := hrel
    generalize hd : c / 2 ^ k = d
    by_cases hz : d = 0
    · subst hz
      have e : crcOfN m c 32 = crcOfN m c k := by
        have := crcOfN_stop m c k H0.out hd (32 - k)
        rwa [show k + (32 - k) = 32 by omega] at this
      have HE := Aside0.mk e
      clear hd e
      go_wp2
      go_ret
      exact ⟨by rw [HE.out]; rfl, rfl⟩
    · have hk2 : k < 32 := by
        rcases Nat.lt_or_ge k 32 with h | h
        · exact h
        · exfalso
          apply hz
          rw [← hd]
          have : k = 32 := by omega
          subst this
          exact Int.ediv_eq_zero_of_lt H0.out (by have := H1.out; omega)
      obtain ⟨kq, rfl⟩ : ∃ q, gk = q + 1 := ⟨gk - 1, by omega⟩
      have hx : w.cell? ⟨g, k, none⟩ = some (.int .u32 (m.getD k 0)) := by
        rw [cell_of_row _ _ _ _ _ _ HG.out]
        exact mcells_get (by have := HM.out; omega)
      have hz1 : (d == 0) = false := beq_eq_false_iff_ne.mpr hz
      have hz2 : (d != 0) = true := bne_iff_ne.mpr hz
      have hd1 : c / 2 ^ (k + 1) = d / 2 := by
        rw [← hd, Int.pow_succ, Int.ediv_ediv_of_nonneg (Int.pow_nonneg (by decide))]
      have HD := Aside0.mk hd
      have HD1 := Aside0.mk hd1
      have HKQ := Aside0.mk hkq
      generalize hmk : m.getD k 0 = mk at hx
      have HMK := Aside0.mk hmk
      generalize hof : crcOfN m c k = ofk
      have HOF := Aside0.mk hof
      clear hd hd1 hz hmk hof hkq
      go_wp2
      go_roundg kq
      case measure => exact Nat.lt_succ_self _
      case rel =>
        refine ⟨k + 1, by omega, by have := HKQ.out; omega, ?_, ?_, by go_num, rfl⟩
        · rw [HD1.out]
        · rw [crcOfN, HD.out, HMK.out, HOF.out]
def TwRel (w : World) (g : Nat) (m : List Int) (kq : Nat) (v5 : Value) (wr : World) : Prop := ∃ k : Nat, k ≤ 32 ∧ k + kq = 33 ∧ v5 = .int .i64 k ∧ wr.heap[g]? = some (.cells (mcells m) 46 (0, 0)) ∧ wr.heap[w.heap.size]? = some (.cells (arrUpto .u32 0 (mSq m)) 46 (0, 0)) ∧ wr.heap[w.heap.size + 1]? = some (.cells (arrUpto .u32 k (mSq m)) 46 (0, 0)) ∧ Below w.heap.size w wr
set_option maxHeartbeats 1000000 in
set_option maxRecDepth 100000 in
theorem crc_Combine.twice_row (g : Nat) (m : List Int) (w : World) (hm : MRange m) (hg : w.heap[g]? = some (.cells (mcells m) 46 (0, 0))) :
    Calls Try.prog 27 #[.pointer (some ⟨g, 0, none⟩)] w fun e w' => e = .returned (.agg (mcells (mSq m))) ∧ Below w.heap.size w w' := by
  have HM := Aside0.mk hm
  have HG := Aside0.mk hg
  have hlt := blk_lt hg
  have HL := Aside0.mk hlt
  clear hm hg hlt
  have HS : Aside0 ((mSq m).length = 32) := ⟨by rw [mSq_length]; exact HM.out.1⟩
  go_enter Try.func27, Try.ntmps27
  go_wp2
  go_loopg [4, 5] 33 (fun kq v4 v5 wr => TwRel w g m kq v5 wr)
  case atStart =>
    refine ⟨0, by omega, rfl, rfl, ?_, ?_, ?_, ?_⟩
    · exact blk_alloc (blk_alloc HG.out _) _
    · rw [arr32_zero HS.out]; exact heap_alloc2_old w _ _
    · rw [arr32_zero HS.out]; exact heap_alloc2_new w _ _
    · exact below_alloc (below_alloc (Below.refl _ _) _) _
  case round =>
    obtain ⟨k, hk, hkq, rfl, h1, h2, h3, hb⟩ := hrel
    have HB := Aside0.mk hb
    have H1 := Aside0.mk h1
    have H2 := Aside0.mk h2
    have H3 := Aside0.mk h3
    have HKQ := Aside0.mk hkq
    clear hb h1 h2 h3 hkq
    by_cases hlt : k < 32
    · obtain ⟨kq, rfl⟩ : ∃ q, gk = q + 1 := ⟨gk - 1, by have := HKQ.out; omega⟩
      have hr := HM.out.at_ hlt
      have hx : wr.cell? ⟨g, k, none⟩ = some (.int .u32 (m.getD k 0)) := by
        rw [cell_of_row _ _ _ _ _ _ H1.out]
        exact mcells_get (by have := HM.out.1; omega)
      have HMK : Aside0 ((mSq m).getD k 0 = crcOfN m (m.getD k 0) 32) := ⟨mSq_getD (by have := HM.out.1; omega)⟩
      generalize m.getD k 0 = mk at hx HMK hr
      have HR := Aside0.mk hr
      clear hr
      go_wp2_with fail
      refine (crc_Combine.of_row g m mk _ HM.out.1 H1.out HR.out.1 HR.out.2).mono ?_
      rintro e w' ⟨rfl, rfl⟩
      have hc : wr.cell? ⟨w.heap.size + 1, k, none⟩ = some (.int .u32 0) := by
        rw [cell_of_row _ _ _ _ _ _ H3.out]
        exact arrUpto_get _ (by rw [HS.out]; exact hlt)
      have hf : wr.frozen? ⟨w.heap.size + 1, k, none⟩ = false := frozen_of_row _ _ _ _ _ H3.out
      go_wp2_with fail
      go_roundg kq
      case measure => exact Nat.lt_succ_self _
      case rel =>
        refine ⟨k + 1, by omega, by have := HKQ.out; omega, by go_num, ?_, ?_, ?_, ?_⟩
        · refine (heap_setCell_other _ _ _ _ ?_).trans H1.out; exact Nat.ne_of_lt (Nat.lt_succ_of_lt HL.out)
        · refine (heap_setCell_other _ _ _ _ ?_).trans H2.out; exact Nat.ne_of_lt (Nat.lt_succ_self _)
        · have := heap_setCell_same _ _ k _ _ (.int .u32 (crcOfN m mk 32)) H3.out
          rw [← HMK.out, arrUpto_set _ (by rw [HS.out]; exact hlt)] at this
          rw [← HMK.out]
          exact this
        · exact below_set HB.out (Nat.le_succ _)
    · obtain rfl : k = 32 := by omega
      have e32 : arrUpto .u32 32 (mSq m) = mcells (mSq m) := by
        have := mcells_full (mSq m)
        rwa [HS.out] at this
      have H3' := Aside0.mk (e32 ▸ H3.out)
      have HZ : Aside0 ((mcells (mSq m)).size = 32) := ⟨by simp [mcells, HS.out]⟩
      have HO : Aside0 ((arrUpto .u32 0 (mSq m)).size = 32) := ⟨by rw [arrUpto_size]; exact HS.out⟩
      have HA : Aside0 ((mcells (mSq m)).all (·.oneCell') = true) := ⟨by simp [mcells]; intro x _; rfl⟩
      have HI : Aside0 ((Try.prog.info? 46).map (·.size) = some (mcells (mSq m)).size) := ⟨by rw [HZ.out]; kernel_rfl⟩
      clear e32 H3 hlt
      go_wp2_with (first | (with_reducible refine wpList_load_row rfl 46 (.tmp 3) rfl (w.heap.size + 1) rfl 46 _ (0, 0) _ H3'.out Try.underlying46 rfl HI.out ?_) | (refine wpList_store_row rfl 46 (.tmp 2) (.tmp 18) rfl w.heap.size _ rfl rfl 46 _ H2.out HI.out (HO.out.trans HZ.out.symm) HA.out ?_))
      refine bodyPost_ret (results_cell_row rfl _ _ w.heap.size 46 _ (0, 0) _ rfl (setRow_heap _ _ _ _ _ _ H2.out) Try.underlying46 rfl HI.out) rfl ⟨rfl, ?_⟩
      exact below_setRow HB.out (Nat.le_refl _) _
def CoRel1 (w : World) (g : Nat) (kq : Nat) (v16 : Value) (wr : World) : Prop := ∃ k : Nat, k ≤ 32 ∧ k + kq = 33 ∧ v16 = .int .i64 k ∧ wr.heap[g]? = some (.cells (arrUpto .u32 k crcM0) 46 (0, 0)) ∧ Below w.heap.size w wr
def CoRel2 (w : World) (g : Nat) (r : Int) (b : Int) (kq : Nat) (v0 v2 : Value) (wr : World) : Prop := ∃ (m : List Int) (a n : Int), MRange m ∧ 0 ≤ a ∧ a < 4294967296 ∧ 0 ≤ n ∧ n < 2 ^ kq ∧ n ≤ 2147483648 ∧ v0 = .int .u32 a ∧ v2 = .int .i64 n ∧ wr.heap[g]? = some (.cells (mcells m) 46 (0, 0)) ∧ crcGo kq m a n = r ∧ Below w.heap.size w wr
set_option maxHeartbeats 1000000 in
set_option maxRecDepth 100000 in
theorem crc_Combine.yes (a b n : Int) (w : World) (h0 : 0 ≤ a) (h1 : a < 4294967296) (hn0 : 0 ≤ n) (hn1 : n ≤ 2147483648) :
    Calls Try.prog 21 #[.int .u32 a, .int .u32 b, .int .i64 n] w fun e w' => e = .returned (.tuple #[.int .u32 (Go.bits .xor .u32 (crcGo 33 crcM0 a n) b), .int .i64 0]) ∧ Below w.heap.size w w' := by
  have H0 := Aside0.mk h0
  have H1 := Aside0.mk h1
  have t1 : decide (n < 0) = false := decide_eq_false (by omega)
  have t2 : decide (2147483648 < n) = false := decide_eq_false (by omega)
  have HN := Aside0.mk (And.intro hn0 hn1)
  clear h0 h1 hn0 hn1
  go_enter Try.func21, Try.ntmps21
  go_wp2
  go_loopg [9, 16] 33 (fun kq v9 v16 wr => CoRel1 w w.heap.size kq v16 wr)
  case atStart =>
    refine ⟨0, by omega, rfl, rfl, ?_, below_alloc (Below.refl _ _) _⟩
    rw [arr32_zero crcM0_range.1]; exact heap_alloc_new w _
  case round =>
    obtain ⟨k, hk, hkq, rfl, h1, hb⟩ := hrel
    have HB := Aside0.mk hb
    have HG := Aside0.mk h1
    have HKQ := Aside0.mk hkq
    clear hb h1 hkq
    by_cases hlt : k < 32
    · obtain ⟨kq, rfl⟩ : ∃ q, gk = q + 1 := ⟨gk - 1, by have := HKQ.out; omega⟩
      have HS := Aside0.mk (crcM0_shifted k hlt)
      go_wp2_with fail
      refine (crc_shifted.calls 9 _ 8 _ _ HS.out).mono ?_
      rintro e w' ⟨rfl, ⟨nd, rfl⟩⟩
      have hc : wr.cell? ⟨w.heap.size, k, none⟩ = some (.int .u32 0) := by
        rw [cell_of_row _ _ _ _ _ _ HG.out]
        exact arrUpto_get _ (by rw [crcM0_range.1]; exact hlt)
      have hf : wr.frozen? ⟨w.heap.size, k, none⟩ = false := frozen_of_row _ _ _ _ _ HG.out
      go_wp2_with fail
      go_roundg kq
      case measure => exact Nat.lt_succ_self _
      case rel =>
        refine ⟨k + 1, by omega, by have := HKQ.out; omega, by go_num, ?_, ?_⟩
        · have := heap_setCell_same _ _ k _ _ (.int .u32 (crcM0.getD k 0)) HG.out
          rw [arrUpto_set _ (by rw [crcM0_range.1]; exact hlt)] at this
          exact this
        · exact below_set (pw_below_drewN HB.out _) (Nat.le_refl _)
    · obtain rfl : k = 32 := by omega
      have HG' := Aside0.mk (mcells_full crcM0 ▸ HG.out)
      clear HG hlt HKQ
      go_wp2_with fail
      go_loopg [0, 2] 33 (fun kq v0 v2 wr => CoRel2 w w.heap.size (crcGo 33 crcM0 a n) b kq v0 v2 wr)
      case atStart => exact ⟨crcM0, a, n, crcM0_range, H0.out, H1.out, HN.out.1, by have := HN.out.2; omega, HN.out.2, rfl, rfl, HG'.out, rfl, HB.out⟩
      case round =>
        clear HG' HB H0 H1 HN t1 t2
        obtain ⟨m, a', n', hm, ha0, ha1, hn0, hn1, hn2, rfl, rfl, h1, hr, hb⟩ := hrel
        have HB := Aside0.mk hb
        have HG := Aside0.mk h1
        have HM := Aside0.mk hm
        have HR := Aside0.mk hr
        have HA := Aside0.mk (And.intro ha0 ha1)
        have HN := Aside0.mk (And.intro hn0 (And.intro hn1 hn2))
        clear hb h1 hm hr ha0 ha1 hn0 hn1 hn2
        have hb1 := bits_and1_i64 n' HN.out.1 HN.out.2.2
        have HB1 := Aside0.mk hb1
        clear hb1
        by_cases hpos : 0 < n'
        · have d1 : decide (0 < n') = true := decide_eq_true hpos
          obtain ⟨kq, rfl⟩ : ∃ q, gk = q + 1 := by
            cases gk with
            | zero => have := HN.out.2.1; omega
            | succ q => exact ⟨q, rfl⟩
          have HN2 : Aside0 (0 ≤ n' / 2 ∧ n' / 2 < 2 ^ kq ∧ n' / 2 ≤ 2147483648) := ⟨by
            have h := HN.out
            have hp : (2 : Int) ^ (kq + 1) = 2 ^ kq * 2 := Int.pow_succ 2 kq
            omega⟩
          by_cases hodd : n' % 2 = 1
          · have o1 : (Go.bits .and .i64 n' 1 == 1) = true := by rw [HB1.out]; exact beq_iff_eq.mpr hodd
            have HRR : Aside0 (crcGo kq (mSq m) (crcOfN m a' 32) (n' / 2) = crcGo 33 crcM0 a n) := ⟨by
              have := HR.out
              rw [crcGo, if_pos hpos, if_pos hodd] at this
              exact this⟩
            clear HR hodd hpos
            go_wp2_with fail
            refine (crc_Combine.of_row w.heap.size m a' _ HM.out.1 HG.out HA.out.1 HA.out.2).mono ?_
            rintro e w' ⟨rfl, rfl⟩
            go_wp2_with fail
            refine (crc_Combine.twice_row w.heap.size m _ HM.out HG.out).mono ?_
            rintro e w2 ⟨rfl, hb2⟩
            have HG2 := Aside0.mk (blk_below HG.out hb2)
            have HB2 := Aside0.mk (below_step HB.out hb2)
            have HZ : Aside0 ((Try.prog.info? 46).map (·.size) = some (mcells (mSq m)).size) := ⟨by rw [show (mcells (mSq m)).size = 32 by simp [mcells, (mSq_range HM.out).1]]; kernel_rfl⟩
            have HO : Aside0 ((mcells m).size = (mcells (mSq m)).size) := ⟨by simp [mcells, mSq_length]⟩
            have HA2 : Aside0 ((mcells (mSq m)).all (·.oneCell') = true) := ⟨by simp [mcells]; intro x _; rfl⟩
            clear hb2
            go_wp2_with (refine wpList_store_row rfl 46 (.tmp 8) (.tmp 34) rfl w.heap.size _ rfl rfl 46 _ HG2.out HZ.out HO.out HA2.out ?_)
            go_roundg kq
            case measure => exact Nat.lt_succ_self _
            case rel =>
              exact ⟨mSq m, crcOfN m a' 32, n' / 2, mSq_range HM.out, (crcOfN_range m a' 32).1, (crcOfN_range m a' 32).2, HN2.out.1, HN2.out.2.1, HN2.out.2.2, rfl, rfl, setRow_heap _ _ _ _ _ _ HG2.out, HRR.out, below_setRow HB2.out (Nat.le_refl _) _⟩
          · have o1 : (Go.bits .and .i64 n' 1 == 1) = false := by rw [HB1.out]; exact beq_eq_false_iff_ne.mpr hodd
            have HRR : Aside0 (crcGo kq (mSq m) a' (n' / 2) = crcGo 33 crcM0 a n) := ⟨by
              have := HR.out
              rw [crcGo, if_pos hpos, if_neg hodd] at this
              exact this⟩
            clear HR hodd hpos
            go_wp2_with fail
            refine (crc_Combine.twice_row w.heap.size m _ HM.out HG.out).mono ?_
            rintro e w2 ⟨rfl, hb2⟩
            have HG2 := Aside0.mk (blk_below HG.out hb2)
            have HB2 := Aside0.mk (below_step HB.out hb2)
            have HZ : Aside0 ((Try.prog.info? 46).map (·.size) = some (mcells (mSq m)).size) := ⟨by rw [show (mcells (mSq m)).size = 32 by simp [mcells, (mSq_range HM.out).1]]; kernel_rfl⟩
            have HO : Aside0 ((mcells m).size = (mcells (mSq m)).size) := ⟨by simp [mcells, mSq_length]⟩
            have HA2 : Aside0 ((mcells (mSq m)).all (·.oneCell') = true) := ⟨by simp [mcells]; intro x _; rfl⟩
            clear hb2
            go_wp2_with (refine wpList_store_row rfl 46 (.tmp 8) (.tmp 34) rfl w.heap.size _ rfl rfl 46 _ HG2.out HZ.out HO.out HA2.out ?_)
            go_roundg kq
            case measure => exact Nat.lt_succ_self _
            case rel =>
              exact ⟨mSq m, a', n' / 2, mSq_range HM.out, HA.out.1, HA.out.2, HN2.out.1, HN2.out.2.1, HN2.out.2.2, rfl, rfl, setRow_heap _ _ _ _ _ _ HG2.out, HRR.out, below_setRow HB2.out (Nat.le_refl _) _⟩
        · have d1 : decide (0 < n') = false := decide_eq_false hpos
          have HRR : Aside0 (a' = crcGo 33 crcM0 a n) := ⟨by
            have := HR.out
            cases gk with
            | zero => exact this
            | succ q => rw [crcGo, if_neg hpos] at this; exact this⟩
          clear HR
          go_wp2_with fail
          go_ret2
          exact ⟨by rw [← HRR.out]; rfl, HB.out⟩

def crc_Combine.f (a b n : Int) : Option (Int × Int) := if 0 ≤ a ∧ a < 4294967296 then (if n < 0 then some (0, 2) else if 2147483648 < n then some (0, 2) else some (Go.bits .xor .u32 (crcGo 33 crcM0 a n) b, 0)) else none
set_option maxHeartbeats 1000000 in
set_option maxRecDepth 100000 in
theorem crc_Combine.calls (a0 : Int) (a1 : Int) (a2 : Int) (r1 : Int) (r2 : Int) (w : World) (h : crc_Combine.f a0 a1 a2 = some (r1, r2)) :
    Calls Try.prog 21 #[.int .u32 a0, .int .u32 a1, .int .i64 a2] w fun e w' => e = .returned (.tuple #[.int .u32 r1, .int .i64 r2]) ∧ Below w.heap.size w w' := by
  unfold crc_Combine.f at h
  by_cases ha : 0 ≤ a0 ∧ a0 < 4294967296
  · rw [if_pos ha] at h
    by_cases h0 : a2 < 0
    · rw [if_pos h0] at h
      simp only [Option.some.injEq, Prod.mk.injEq] at h
      obtain ⟨rfl, rfl⟩ := h
      have t1 : decide (a2 < 0) = true := decide_eq_true h0
      clear ha h0
      go_enter Try.func21, Try.ntmps21
      go_wp2
      go_ret2
      exact ⟨rfl, Below.refl _ _⟩
    · rw [if_neg h0] at h
      by_cases h1 : 2147483648 < a2
      · rw [if_pos h1] at h
        simp only [Option.some.injEq, Prod.mk.injEq] at h
        obtain ⟨rfl, rfl⟩ := h
        have t1 : decide (a2 < 0) = false := decide_eq_false h0
        have t2 : decide (2147483648 < a2) = true := decide_eq_true h1
        clear ha h0 h1
        go_enter Try.func21, Try.ntmps21
        go_wp2
        go_ret2
        exact ⟨rfl, Below.refl _ _⟩
      · rw [if_neg h1] at h
        simp only [Option.some.injEq, Prod.mk.injEq] at h
        obtain ⟨rfl, rfl⟩ := h
        exact crc_Combine.yes a0 a1 a2 w ha.1 ha.2 (by omega) (by omega)
  · rw [if_neg ha] at h
    cases h


-- NOT PRINTED: function 28 (ladingref02_times)

-- NOT PRINTED: function 29 (ladingref02_squared)

end Go.Proofs.Ytmplpfcilllmaaa.Print
