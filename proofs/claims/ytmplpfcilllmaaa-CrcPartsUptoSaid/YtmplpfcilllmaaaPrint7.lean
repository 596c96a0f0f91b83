-- Printed for this claim by wip/xprint.py over the kit's printer. Not trusted: Lean checks it.
import Derived.Test.YtmplpfcilllmaaaPrint0
import Derived.Test.YtmplpfcilllmaaaPrint1
namespace Go.Proofs.Ytmplpfcilllmaaa.Print
open Go.RowKit Go.Proofs.YtmplpfcilllmaaaW.PrintWords Go.Proofs.YtmplpfcilllmaaaW.PrintLast Go.Proofs.YtmplpfcilllmaaaW.PrintMore
attribute [local go_sem] max2_mx min2_mn max_two min_two max_three min_three max_four min_four   -- for this text's walks alone
set_option linter.unusedVariables false
set_option linter.unusedSimpArgs false

-- NOT PRINTED: function 26 (crc_matrix_of)

-- NOT PRINTED: function 27 (crc_matrix_twice)

/-! ### crc_Combine: function 21, by hand -/
theorem crcM0_shifted : ∀ k : Nat, k < 32 → crc_shifted.f 9 ((2 : Int) ^ k % 4294967296) 8 = some (crcM0.getD k 0) := by decide +kernel
def OfRel (w : World) (m : List Int) (c : Int) (kq : Nat) (v1 v5 v6 : Value) (wr : World) : Prop := ∃ k : Nat, k ≤ 32 ∧ k + kq = 33 ∧ v1 = .int .u32 (c / 2 ^ k) ∧ v5 = .int .u32 (crcOfN m c k) ∧ v6 = .int .i64 k ∧ w = wr
set_option maxHeartbeats 1000000 in
set_option maxRecDepth 100000 in
theorem crc_Combine.of_row (g : Nat) (m : List Int) (c : Int) (w : World) (hm : m.length = 32) (hg : w.heap[g]? = some (.cells (mcells m) 46 (0, 0))) (h0 : 0 ≤ c) (h1 : c < 4294967296) :
    Calls Try.prog 26 #[.pointer (some ⟨g, 0, none⟩), .int .u32 c] w fun e w' => e = .returned (.int .u32 (crcOfN m c 32)) ∧ w = w' := by
  have HM := Aside0.mk hm
  have HG := Aside0.mk hg
  have H0 := Aside0.mk h0
  have H1 := Aside0.mk h1
  clear hm hg h0 h1
  go_enter Try.func26, Try.ntmps26
  go_wp2
  go_loopg [1, 5, 6] 33 (fun kq v1 v5 v6 wr => OfRel w m c kq v1 v5 v6 wr)
  case atStart => exact ⟨0, by omega, rfl, by simp, rfl, rfl, rfl⟩
  case round =>
    obtain ⟨k, hk, hkq, rfl, rfl, rfl, rfl⟩ := hrel
    generalize hd : c / 2 ^ k = d
    by_cases hz : d = 0
    · subst hz
      have e : crcOfN m c 32 = crcOfN m c k := by
        have := crcOfN_stop m c k H0.out hd (32 - k)
        rwa [show k + (32 - k) = 32 by omega] at this
      have HE := Aside0.mk e
      clear hd e
      go_wp2
      go_ret
      exact ⟨by rw [HE.out]; rfl, rfl⟩
    · have hk2 : k < 32 := by
        rcases Nat.lt_or_ge k 32 with h | h
        · exact h
        · exfalso
          apply hz
          rw [← hd]
          have : k = 32 := by omega
          subst this
          exact Int.ediv_eq_zero_of_lt H0.out (by have := H1.out; omega)
      obtain ⟨kq, rfl⟩ : ∃ q, gk = q + 1 := ⟨gk - 1, by omega⟩
      have hx : w.cell? ⟨g, k, none⟩ = some (.int .u32 (m.getD k 0)) := by
        rw [cell_of_row _ _ _ _ _ _ HG.out]
        exact mcells_get (by have := HM.out; omega)
      have hz1 : (d == 0) = false := beq_eq_false_iff_ne.mpr hz
      have hz2 : (d != 0) = true := bne_iff_ne.mpr hz
      have hd1 : c / 2 ^ (k + 1) = d / 2 := by
        rw [← hd, Int.pow_succ, Int.ediv_ediv_of_nonneg (Int.pow_nonneg (by decide))]
      have HD := Aside0.mk hd
      have HD1 := Aside0.mk hd1
      have HKQ := Aside0.mk hkq
      generalize hmk : m.getD k 0 = mk at hx
      have HMK := Aside0.mk hmk
      generalize hof : crcOfN m c k = ofk
      have HOF := Aside0.mk hof
      clear hd hd1 hz hmk hof hkq
      go_wp2
      go_roundg kq
      case measure => exact Nat.lt_succ_self _
      case rel =>
        refine ⟨k + 1, by omega, by have := HKQ.out; omega, ?_, ?_, by go_num, rfl⟩
        · rw [HD1.out]
        · rw [crcOfN, HD.out, HMK.out, HOF.out]
def TwRel (w : World) (g : Nat) (m : List Int) (kq : Nat) (v5 : Value) (wr : World) : Prop := ∃ k : Nat, k ≤ 32 ∧ k + kq = 33 ∧ v5 = .int .i64 k ∧ wr.heap[g]? = some (.cells (mcells m) 46 (0, 0)) ∧ wr.heap[w.heap.size]? = some (.cells (arrUpto .u32 0 (mSq m)) 46 (0, 0)) ∧ wr.heap[w.heap.size + 1]? = some (.cells (arrUpto .u32 k (mSq m)) 46 (0, 0)) ∧ Below w.heap.size w wr
set_option maxHeartbeats 1000000 in
set_option maxRecDepth 100000 in
theorem crc_Combine.twice_row (g : Nat) (m : List Int) (w : World) (hm : MRange m) (hg : w.heap[g]? = some (.cells (mcells m) 46 (0, 0))) :
    Calls Try.prog 27 #[.pointer (some ⟨g, 0, none⟩)] w fun e w' => e = .returned (.agg (mcells (mSq m))) ∧ Below w.heap.size w w' := by
  have HM := Aside0.mk hm
  have HG := Aside0.mk hg
  have hlt := blk_lt hg
  have HL := Aside0.mk hlt
  clear hm hg hlt
  have HS : Aside0 ((mSq m).length = 32) := ⟨by rw [mSq_length]; exact HM.out.1⟩
  go_enter Try.func27, Try.ntmps27
  go_wp2
  go_loopg [4, 5] 33 (fun kq v4 v5 wr => TwRel w g m kq v5 wr)
  case atStart =>
    refine ⟨0, by omega, rfl, rfl, ?_, ?_, ?_, ?_⟩
    · exact blk_alloc (blk_alloc HG.out _) _
    · rw [arr32_zero HS.out]; exact heap_alloc2_old w _ _
    · rw [arr32_zero HS.out]; exact heap_alloc2_new w _ _
    · exact below_alloc (below_alloc (Below.refl _ _) _) _
  case round =>
    obtain ⟨k, hk, hkq, rfl, h1, h2, h3, hb⟩ := hrel
    have HB := Aside0.mk hb
    have H1 := Aside0.mk h1
    have H2 := Aside0.mk h2
    have H3 := Aside0.mk h3
    have HKQ := Aside0.mk hkq
    clear hb h1 h2 h3 hkq
    by_cases hlt : k < 32
    · obtain ⟨kq, rfl⟩ : ∃ q, gk = q + 1 := ⟨gk - 1, by have := HKQ.out; omega⟩
      have hr := HM.out.at_ hlt
      have hx : wr.cell? ⟨g, k, none⟩ = some (.int .u32 (m.getD k 0)) := by
        rw [cell_of_row _ _ _ _ _ _ H1.out]
        exact mcells_get (by have := HM.out.1; omega)
      have HMK : Aside0 ((mSq m).getD k 0 = crcOfN m (m.getD k 0) 32) := ⟨mSq_getD (by have := HM.out.1; omega)⟩
      generalize m.getD k 0 = mk at hx HMK hr
      have HR := Aside0.mk hr
      clear hr
      go_wp2_with fail
      refine (crc_Combine.of_row g m mk _ HM.out.1 H1.out HR.out.1 HR.out.2).mono ?_
      rintro e w' ⟨rfl, rfl⟩
      have hc : wr.cell? ⟨w.heap.size + 1, k, none⟩ = some (.int .u32 0) := by
        rw [cell_of_row _ _ _ _ _ _ H3.out]
        exact arrUpto_get _ (by rw [HS.out]; exact hlt)
      have hf : wr.frozen? ⟨w.heap.size + 1, k, none⟩ = false := frozen_of_row _ _ _ _ _ H3.out
      go_wp2_with fail
      go_roundg kq
      case measure => exact Nat.lt_succ_self _
      case rel =>
        refine ⟨k + 1, by omega, by have := HKQ.out; omega, by go_num, ?_, ?_, ?_, ?_⟩
        · refine (heap_setCell_other _ _ _ _ ?_).trans H1.out; exact Nat.ne_of_lt (Nat.lt_succ_of_lt HL.out)
        · refine (heap_setCell_other _ _ _ _ ?_).trans H2.out; exact Nat.ne_of_lt (Nat.lt_succ_self _)
        · have := heap_setCell_same _ _ k _ _ (.int .u32 (crcOfN m mk 32)) H3.out
          rw [← HMK.out, arrUpto_set _ (by rw [HS.out]; exact hlt)] at this
          rw [← HMK.out]
          exact this
        · exact below_set HB.out (Nat.le_succ _)
    · obtain rfl : k = 32 := by omega
      have e32 : arrUpto .u32 32 (mSq m) = mcells (mSq m) := by
        have := mcells_full (mSq m)
        rwa [HS.out] at this
      have H3' := Aside0.mk (e32 ▸ H3.out)
      have HZ : Aside0 ((mcells (mSq m)).size = 32) := ⟨by simp [mcells, HS.out]⟩
      have HO : Aside0 ((arrUpto .u32 0 (mSq m)).size = 32) := ⟨by rw [arrUpto_size]; exact HS.out⟩
      have HA : Aside0 ((mcells (mSq m)).all (·.oneCell') = true) := ⟨by simp [mcells]; intro x _; rfl⟩
      have HI : Aside0 ((Try.prog.info? 46).map (·.size) = some (mcells (mSq m)).size) := ⟨by rw [HZ.out]; kernel_rfl⟩
      clear e32 H3 hlt
      go_wp2_with (first | (with_reducible refine wpList_load_row rfl 46 (.tmp 3) rfl (w.heap.size + 1) rfl 46 _ (0, 0) _ H3'.out Try.underlying46 rfl HI.out ?_) | (refine wpList_store_row rfl 46 (.tmp 2) (.tmp 18) rfl w.heap.size _ rfl rfl 46 _ H2.out HI.out (HO.out.trans HZ.out.symm) HA.out ?_))
      refine bodyPost_ret (results_cell_row rfl _ _ w.heap.size 46 _ (0, 0) _ rfl (setRow_heap _ _ _ _ _ _ H2.out) Try.underlying46 rfl HI.out) rfl ⟨rfl, ?_⟩
      exact below_setRow HB.out (Nat.le_refl _) _
def CoRel1 (w : World) (g : Nat) (kq : Nat) (v16 : Value) (wr : World) : Prop := ∃ k : Nat, k ≤ 32 ∧ k + kq = 33 ∧ v16 = .int .i64 k ∧ wr.heap[g]? = some (.cells (arrUpto .u32 k crcM0) 46 (0, 0)) ∧ Below w.heap.size w wr
def CoRel2 (w : World) (g : Nat) (r : Int) (b : Int) (kq : Nat) (v0 v2 : Value) (wr : World) : Prop := ∃ (m : List Int) (a n : Int), MRange m ∧ 0 ≤ a ∧ a < 4294967296 ∧ 0 ≤ n ∧ n < 2 ^ kq ∧ n ≤ 2147483648 ∧ v0 = .int .u32 a ∧ v2 = .int .i64 n ∧ wr.heap[g]? = some (.cells (mcells m) 46 (0, 0)) ∧ crcGo kq m a n = r ∧ Below w.heap.size w wr
set_option maxHeartbeats 1000000 in
set_option maxRecDepth 100000 in
theorem crc_Combine.yes (a b n : Int) (w : World) (h0 : 0 ≤ a) (h1 : a < 4294967296) (hn0 : 0 ≤ n) (hn1 : n ≤ 2147483648) :
    Calls Try.prog 21 #[.int .u32 a, .int .u32 b, .int .i64 n] w fun e w' => e = .returned (.tuple #[.int .u32 (Go.bits .xor .u32 (crcGo 33 crcM0 a n) b), .int .i64 0]) ∧ Below w.heap.size w w' := by
  have H0 := Aside0.mk h0
  have H1 := Aside0.mk h1
  have t1 : decide (n < 0) = false := decide_eq_false (by omega)
  have t2 : decide (2147483648 < n) = false := decide_eq_false (by omega)
  have HN := Aside0.mk (And.intro hn0 hn1)
  clear h0 h1 hn0 hn1
  go_enter Try.func21, Try.ntmps21
  go_wp2
  go_loopg [9, 16] 33 (fun kq v9 v16 wr => CoRel1 w w.heap.size kq v16 wr)
  case atStart =>
    refine ⟨0, by omega, rfl, rfl, ?_, below_alloc (Below.refl _ _) _⟩
    rw [arr32_zero crcM0_range.1]; exact heap_alloc_new w _
  case round =>
    obtain ⟨k, hk, hkq, rfl, h1, hb⟩ := hrel
    have HB := Aside0.mk hb
    have HG := Aside0.mk h1
    have HKQ := Aside0.mk hkq
    clear hb h1 hkq
    by_cases hlt : k < 32
    · obtain ⟨kq, rfl⟩ : ∃ q, gk = q + 1 := ⟨gk - 1, by have := HKQ.out; omega⟩
      have HS := Aside0.mk (crcM0_shifted k hlt)
      go_wp2_with fail
      refine (crc_shifted.calls 9 _ 8 _ _ HS.out).mono ?_
      rintro e w' ⟨rfl, ⟨nd, rfl⟩⟩
      have hc : wr.cell? ⟨w.heap.size, k, none⟩ = some (.int .u32 0) := by
        rw [cell_of_row _ _ _ _ _ _ HG.out]
        exact arrUpto_get _ (by rw [crcM0_range.1]; exact hlt)
      have hf : wr.frozen? ⟨w.heap.size, k, none⟩ = false := frozen_of_row _ _ _ _ _ HG.out
      go_wp2_with fail
      go_roundg kq
      case measure => exact Nat.lt_succ_self _
      case rel =>
        refine ⟨k + 1, by omega, by have := HKQ.out; omega, by go_num, ?_, ?_⟩
        · have := heap_setCell_same _ _ k _ _ (.int .u32 (crcM0.getD k 0)) HG.out
          rw [arrUpto_set _ (by rw [crcM0_range.1]; exact hlt)] at this
          exact this
        · exact below_set (pw_below_drewN HB.out _) (Nat.le_refl _)
    · obtain rfl : k = 32 := by omega
      have HG' := Aside0.mk (mcells_full crcM0 ▸ HG.out)
      clear HG hlt HKQ
      go_wp2_with fail
      go_loopg [0, 2] 33 (fun kq v0 v2 wr => CoRel2 w w.heap.size (crcGo 33 crcM0 a n) b kq v0 v2 wr)
      case atStart => exact ⟨crcM0, a, n, crcM0_range, H0.out, H1.out, HN.out.1, by have := HN.out.2; omega, HN.out.2, rfl, rfl, HG'.out, rfl, HB.out⟩
      case round =>
        clear HG' HB H0 H1 HN t1 t2
        obtain ⟨m, a', n', hm, ha0, ha1, hn0, hn1, hn2, rfl, rfl, h1, hr, hb⟩ := hrel
        have HB := Aside0.mk hb
        have HG := Aside0.mk h1
        have HM := Aside0.mk hm
        have HR := Aside0.mk hr
        have HA := Aside0.mk (And.intro ha0 ha1)
        have HN := Aside0.mk (And.intro hn0 (And.intro hn1 hn2))
        clear hb h1 hm hr ha0 ha1 hn0 hn1 hn2
        have hb1 := bits_and1_i64 n' HN.out.1 HN.out.2.2
        have HB1 := Aside0.mk hb1
        clear hb1
        by_cases hpos : 0 < n'
        · have d1 : decide (0 < n') = true := decide_eq_true hpos
          obtain ⟨kq, rfl⟩ : ∃ q, gk = q + 1 := by
            cases gk with
            | zero => have := HN.out.2.1; omega
            | succ q => exact ⟨q, rfl⟩
          have HN2 : Aside0 (0 ≤ n' / 2 ∧ n' / 2 < 2 ^ kq ∧ n' / 2 ≤ 2147483648) := ⟨by
            have h := HN.out
            have hp : (2 : Int) ^ (kq + 1) = 2 ^ kq * 2 := Int.pow_succ 2 kq
            omega⟩
          by_cases hodd : n' % 2 = 1
          · have o1 : (Go.bits .and .i64 n' 1 == 1) = true := by rw [HB1.out]; exact beq_iff_eq.mpr hodd
            have HRR : Aside0 (crcGo kq (mSq m) (crcOfN m a' 32) (n' / 2) = crcGo 33 crcM0 a n) := ⟨by
              have := HR.out
              rw [crcGo, if_pos hpos, if_pos hodd] at this
              exact this⟩
            clear HR hodd hpos
            go_wp2_with fail
            refine (crc_Combine.of_row w.heap.size m a' _ HM.out.1 HG.out HA.out.1 HA.out.2).mono ?_
            rintro e w' ⟨rfl, rfl⟩
            go_wp2_with fail
            refine (crc_Combine.twice_row w.heap.size m _ HM.out HG.out).mono ?_
            rintro e w2 ⟨rfl, hb2⟩
            have HG2 := Aside0.mk (blk_below HG.out hb2)
            have HB2 := Aside0.mk (below_step HB.out hb2)
            have HZ : Aside0 ((Try.prog.info? 46).map (·.size) = some (mcells (mSq m)).size) := ⟨by rw [show (mcells (mSq m)).size = 32 by simp [mcells, (mSq_range HM.out).1]]; kernel_rfl⟩
            have HO : Aside0 ((mcells m).size = (mcells (mSq m)).size) := ⟨by simp [mcells, mSq_length]⟩
            have HA2 : Aside0 ((mcells (mSq m)).all (·.oneCell') = true) := ⟨by simp [mcells]; intro x _; rfl⟩
            clear hb2
            go_wp2_with (refine wpList_store_row rfl 46 (.tmp 8) (.tmp 34) rfl w.heap.size _ rfl rfl 46 _ HG2.out HZ.out HO.out HA2.out ?_)
            go_roundg kq
            case measure => exact Nat.lt_succ_self _
            case rel =>
              exact ⟨mSq m, crcOfN m a' 32, n' / 2, mSq_range HM.out, (crcOfN_range m a' 32).1, (crcOfN_range m a' 32).2, HN2.out.1, HN2.out.2.1, HN2.out.2.2, rfl, rfl, setRow_heap _ _ _ _ _ _ HG2.out, HRR.out, below_setRow HB2.out (Nat.le_refl _) _⟩
          · have o1 : (Go.bits .and .i64 n' 1 == 1) = false := by rw [HB1.out]; exact beq_eq_false_iff_ne.mpr hodd
            have HRR : Aside0 (crcGo kq (mSq m) a' (n' / 2) = crcGo 33 crcM0 a n) := ⟨by
              have := HR.out
              rw [crcGo, if_pos hpos, if_neg hodd] at this
              exact this⟩
            clear HR hodd hpos
            go_wp2_with fail
            refine (crc_Combine.twice_row w.heap.size m _ HM.out HG.out).mono ?_
            rintro e w2 ⟨rfl, hb2⟩
            have HG2 := Aside0.mk (blk_below HG.out hb2)
            have HB2 := Aside0.mk (below_step HB.out hb2)
            have HZ : Aside0 ((Try.prog.info? 46).map (·.size) = some (mcells (mSq m)).size) := ⟨by rw [show (mcells (mSq m)).size = 32 by simp [mcells, (mSq_range HM.out).1]]; kernel_rfl⟩
            have HO : Aside0 ((mcells m).size = (mcells (mSq m)).size) := ⟨by simp [mcells, mSq_length]⟩
            have HA2 : Aside0 ((mcells (mSq m)).all (·.oneCell') = true) := ⟨by simp [mcells]; intro x _; rfl⟩
            clear hb2
            go_wp2_with (refine wpList_store_row rfl 46 (.tmp 8) (.tmp 34) rfl w.heap.size _ rfl rfl 46 _ HG2.out HZ.out HO.out HA2.out ?_)
            go_roundg kq
            case measure => exact Nat.lt_succ_self _
            case rel =>
              exact ⟨mSq m, a', n' / 2, mSq_range HM.out, HA.out.1, HA.out.2, HN2.out.1, HN2.out.2.1, HN2.out.2.2, rfl, rfl, setRow_heap _ _ _ _ _ _ HG2.out, HRR.out, below_setRow HB2.out (Nat.le_refl _) _⟩
        · have d1 : decide (0 < n') = false := decide_eq_false hpos
          have HRR : Aside0 (a' = crcGo 33 crcM0 a n) := ⟨by
            have := HR.out
            cases gk with
            | zero => exact this
            | succ q => rw [crcGo, if_neg hpos] at this; exact this⟩
          clear HR
          go_wp2_with fail
          go_ret2
          exact ⟨by rw [← HRR.out]; rfl, HB.out⟩

def crc_Combine.f (a b n : Int) : Option (Int × Int) := if 0 ≤ a ∧ a < 4294967296 then (if n < 0 then some (0, 2) else if 2147483648 < n then some (0, 2) else some (Go.bits .xor .u32 (crcGo 33 crcM0 a n) b, 0)) else none
set_option maxHeartbeats 1000000 in
set_option maxRecDepth 100000 in
theorem crc_Combine.calls (a0 : Int) (a1 : Int) (a2 : Int) (r1 : Int) (r2 : Int) (w : World) (h : crc_Combine.f a0 a1 a2 = some (r1, r2)) :
    Calls Try.prog 21 #[.int .u32 a0, .int .u32 a1, .int .i64 a2] w fun e w' => e = .returned (.tuple #[.int .u32 r1, .int .i64 r2]) ∧ Below w.heap.size w w' := by
  unfold crc_Combine.f at h
  by_cases ha : 0 ≤ a0 ∧ a0 < 4294967296
  · rw [if_pos ha] at h
    by_cases h0 : a2 < 0
    · rw [if_pos h0] at h
      simp only [Option.some.injEq, Prod.mk.injEq] at h
      obtain ⟨rfl, rfl⟩ := h
      have t1 : decide (a2 < 0) = true := decide_eq_true h0
      clear ha h0
      go_enter Try.func21, Try.ntmps21
      go_wp2
      go_ret2
      exact ⟨rfl, Below.refl _ _⟩
    · rw [if_neg h0] at h
      by_cases h1 : 2147483648 < a2
      · rw [if_pos h1] at h
        simp only [Option.some.injEq, Prod.mk.injEq] at h
        obtain ⟨rfl, rfl⟩ := h
        have t1 : decide (a2 < 0) = false := decide_eq_false h0
        have t2 : decide (2147483648 < a2) = true := decide_eq_true h1
        clear ha h0 h1
        go_enter Try.func21, Try.ntmps21
        go_wp2
        go_ret2
        exact ⟨rfl, Below.refl _ _⟩
      · rw [if_neg h1] at h
        simp only [Option.some.injEq, Prod.mk.injEq] at h
        obtain ⟨rfl, rfl⟩ := h
        exact crc_Combine.yes a0 a1 a2 w ha.1 ha.2 (by omega) (by omega)
  · rw [if_neg ha] at h
    cases h


-- NOT PRINTED: function 28 (ladingref02_times)

-- NOT PRINTED: function 29 (ladingref02_squared)

-- NOT PRINTED: function 22 (ladingref02_Combine)

-- NOT PRINTED: function 8 (ladinglaw02_CrcCombines)

/-! ### ladinglaw02_CrcParts: function 9 -/
def ladinglaw02_CrcParts.f (l0 : List Int) (l1 : List Int) : Option (Bool) := (ladinglaw02_lives.f).bind fun t229 => (if t229 = true then ((some (([] : List Int) : List Int)).bind fun y230 => (if y230.length + l0.length < 140737488355328 then ((some (y230 ++ l0 : List Int)).bind fun y233 => (if y233.length + l1.length < 140737488355328 then ((crc_Of.f (y233 ++ l1)).bind fun t239 => ((crc_Of.f l0).bind fun t240 => ((crc_Of.f l1).bind fun t241 => ((crc_Combine.f t240 t241 (l1.length : Int)).bind fun bt242 => ((crc_Of.f l0).bind fun t244 => ((crc_Update.f t244 l1).bind fun t245 => (if t245 = t239 then (if bt242.2 = 0 then (some (bt242.1 == t239)) else (some false)) else (some false)))))))) else (none))) else (none))) else (some false))
set_option maxHeartbeats 8000000 in
set_option maxRecDepth 100000 in
theorem ladinglaw02_CrcParts.calls (A0 : Option Addr) (c0 : Nat) (l0 : List Int) (A1 : Option Addr) (c1 : Nat) (l1 : List Int) (r : Bool) (w : World) (hr0 : Kd.C (Kd.int .u8) w A0 l0.length l0) (hc0 : l0.length ≤ c0) (hr1 : Kd.C (Kd.int .u8) w A1 l1.length l1) (hc1 : l1.length ≤ c1) (h : ladinglaw02_CrcParts.f l0 l1 = some r) :
    Calls Try.prog 9 #[.slice A0 l0.length c0, .slice A1 l1.length c1] w fun e w' => e = .returned (.bool r) ∧ Below w.heap.size w w' := by
  have HR0 := Aside0.mk hr0
  have HC0 := Aside0.mk hc0
  clear hr0 hc0
  have HR1 := Aside0.mk hr1
  have HC1 := Aside0.mk hc1
  clear hr1 hc1
  have HB := Aside0.mk (Below.refl w.heap.size w)
  have H : ((ladinglaw02_lives.f).bind fun t229 => (if t229 = true then ((some (([] : List Int) : List Int)).bind fun y230 => (if y230.length + l0.length < 140737488355328 then ((some (y230 ++ l0 : List Int)).bind fun y233 => (if y233.length + l1.length < 140737488355328 then ((crc_Of.f (y233 ++ l1)).bind fun t239 => ((crc_Of.f l0).bind fun t240 => ((crc_Of.f l1).bind fun t241 => ((crc_Combine.f t240 t241 (l1.length : Int)).bind fun bt242 => ((crc_Of.f l0).bind fun t244 => ((crc_Update.f t244 l1).bind fun t245 => (if t245 = t239 then (if bt242.2 = 0 then (some (bt242.1 == t239)) else (some false)) else (some false)))))))) else (none))) else (none))) else (some false))) = some r := h
  clear h
  replace H := Option.bind_eq_some_iff.mp H
  obtain ⟨t229, A30, H⟩ := H
  replace H : (if t229 = true then ((some (([] : List Int) : List Int)).bind fun y230 => (if y230.length + l0.length < 140737488355328 then ((some (y230 ++ l0 : List Int)).bind fun y233 => (if y233.length + l1.length < 140737488355328 then ((crc_Of.f (y233 ++ l1)).bind fun t239 => ((crc_Of.f l0).bind fun t240 => ((crc_Of.f l1).bind fun t241 => ((crc_Combine.f t240 t241 (l1.length : Int)).bind fun bt242 => ((crc_Of.f l0).bind fun t244 => ((crc_Update.f t244 l1).bind fun t245 => (if t245 = t239 then (if bt242.2 = 0 then (some (bt242.1 == t239)) else (some false)) else (some false)))))))) else (none))) else (none))) else (some false)) = some r := H
  have A3 := Aside0.mk A30
  clear A30
  by_cases c4 : t229 = true
  · subst c4
    have H1 : ((some (([] : List Int) : List Int)).bind fun y230 => (if y230.length + l0.length < 140737488355328 then ((some (y230 ++ l0 : List Int)).bind fun y233 => (if y233.length + l1.length < 140737488355328 then ((crc_Of.f (y233 ++ l1)).bind fun t239 => ((crc_Of.f l0).bind fun t240 => ((crc_Of.f l1).bind fun t241 => ((crc_Combine.f t240 t241 (l1.length : Int)).bind fun bt242 => ((crc_Of.f l0).bind fun t244 => ((crc_Update.f t244 l1).bind fun t245 => (if t245 = t239 then (if bt242.2 = 0 then (some (bt242.1 == t239)) else (some false)) else (some false)))))))) else (none))) else (none))) = some r := by rw [if_pos rfl] at H; exact H
    clear H
    have H := H1
    clear H1
    obtain ⟨y230, hy230⟩ : ∃ y_ : List Int, y_ = (([] : List Int)) := ⟨_, rfl⟩
    replace H : (if y230.length + l0.length < 140737488355328 then ((some (y230 ++ l0 : List Int)).bind fun y233 => (if y233.length + l1.length < 140737488355328 then ((crc_Of.f (y233 ++ l1)).bind fun t239 => ((crc_Of.f l0).bind fun t240 => ((crc_Of.f l1).bind fun t241 => ((crc_Combine.f t240 t241 (l1.length : Int)).bind fun bt242 => ((crc_Of.f l0).bind fun t244 => ((crc_Update.f t244 l1).bind fun t245 => (if t245 = t239 then (if bt242.2 = 0 then (some (bt242.1 == t239)) else (some false)) else (some false)))))))) else (none))) else (none)) = some r := by first | (rw [hy230]; with_reducible exact H) | (have H2_ := (Option.bind_some _ _).symm.trans H; rw [hy230]; with_reducible exact H2_) | (have H2_ := (Option.bind_some _ _).symm.trans H; with_reducible exact H2_) | with_reducible exact H | (rw [hy230]; exact H) | exact H
    have Ny230 := Aside0.mk hy230
    clear hy230
    by_cases c5 : y230.length + l0.length < 140737488355328
    · rw [if_pos c5] at H
      have LMc5 := Aside0.mk c5
      clear c5
      obtain ⟨y233, hy233⟩ : ∃ y_ : List Int, y_ = (y230 ++ l0) := ⟨_, rfl⟩
      replace H : (if y233.length + l1.length < 140737488355328 then ((crc_Of.f (y233 ++ l1)).bind fun t239 => ((crc_Of.f l0).bind fun t240 => ((crc_Of.f l1).bind fun t241 => ((crc_Combine.f t240 t241 (l1.length : Int)).bind fun bt242 => ((crc_Of.f l0).bind fun t244 => ((crc_Update.f t244 l1).bind fun t245 => (if t245 = t239 then (if bt242.2 = 0 then (some (bt242.1 == t239)) else (some false)) else (some false)))))))) else (none)) = some r := by first | (rw [hy233]; with_reducible exact H) | (have H2_ := (Option.bind_some _ _).symm.trans H; rw [hy233]; with_reducible exact H2_) | (have H2_ := (Option.bind_some _ _).symm.trans H; with_reducible exact H2_) | with_reducible exact H | (rw [hy233]; exact H) | exact H
      have Ny233 := Aside0.mk hy233
      clear hy233
      by_cases c6 : y233.length + l1.length < 140737488355328
      · rw [if_pos c6] at H
        have LMc6 := Aside0.mk c6
        clear c6
        obtain ⟨y236, hy236⟩ : ∃ y_ : List Int, y_ = (y233 ++ l1) := ⟨_, rfl⟩
        replace H : ((crc_Of.f y236).bind fun t239 => ((crc_Of.f l0).bind fun t240 => ((crc_Of.f l1).bind fun t241 => ((crc_Combine.f t240 t241 (l1.length : Int)).bind fun bt242 => ((crc_Of.f l0).bind fun t244 => ((crc_Update.f t244 l1).bind fun t245 => (if t245 = t239 then (if bt242.2 = 0 then (some (bt242.1 == t239)) else (some false)) else (some false)))))))) = some r := by first | (rw [hy236]; with_reducible exact H) | (have H2_ := (Option.bind_some _ _).symm.trans H; rw [hy236]; with_reducible exact H2_) | (have H2_ := (Option.bind_some _ _).symm.trans H; with_reducible exact H2_) | with_reducible exact H | (rw [hy236]; exact H) | exact H
        have Ny236 := Aside0.mk hy236
        clear hy236
        replace H := Option.bind_eq_some_iff.mp H
        obtain ⟨t239, A70, H⟩ := H
        replace H : ((crc_Of.f l0).bind fun t240 => ((crc_Of.f l1).bind fun t241 => ((crc_Combine.f t240 t241 (l1.length : Int)).bind fun bt242 => ((crc_Of.f l0).bind fun t244 => ((crc_Update.f t244 l1).bind fun t245 => (if t245 = t239 then (if bt242.2 = 0 then (some (bt242.1 == t239)) else (some false)) else (some false))))))) = some r := H
        have A7 := Aside0.mk A70
        clear A70
        replace H := Option.bind_eq_some_iff.mp H
        obtain ⟨t240, A80, H⟩ := H
        replace H : ((crc_Of.f l1).bind fun t241 => ((crc_Combine.f t240 t241 (l1.length : Int)).bind fun bt242 => ((crc_Of.f l0).bind fun t244 => ((crc_Update.f t244 l1).bind fun t245 => (if t245 = t239 then (if bt242.2 = 0 then (some (bt242.1 == t239)) else (some false)) else (some false)))))) = some r := H
        have A8 := Aside0.mk A80
        clear A80
        replace H := Option.bind_eq_some_iff.mp H
        obtain ⟨t241, A90, H⟩ := H
        replace H : ((crc_Combine.f t240 t241 (l1.length : Int)).bind fun bt242 => ((crc_Of.f l0).bind fun t244 => ((crc_Update.f t244 l1).bind fun t245 => (if t245 = t239 then (if bt242.2 = 0 then (some (bt242.1 == t239)) else (some false)) else (some false))))) = some r := H
        have A9 := Aside0.mk A90
        clear A90
        replace H := Option.bind_eq_some_iff.mp H
        obtain ⟨⟨t242, t243⟩, A100, H⟩ := H
        replace H : ((crc_Of.f l0).bind fun t244 => ((crc_Update.f t244 l1).bind fun t245 => (if t245 = t239 then (if t243 = 0 then (some (t242 == t239)) else (some false)) else (some false)))) = some r := H
        have A10 := Aside0.mk A100
        clear A100
        replace H := Option.bind_eq_some_iff.mp H
        obtain ⟨t244, A110, H⟩ := H
        replace H : ((crc_Update.f t244 l1).bind fun t245 => (if t245 = t239 then (if t243 = 0 then (some (t242 == t239)) else (some false)) else (some false))) = some r := H
        have A11 := Aside0.mk A110
        clear A110
        replace H := Option.bind_eq_some_iff.mp H
        obtain ⟨t245, A120, H⟩ := H
        replace H : (if t245 = t239 then (if t243 = 0 then (some (t242 == t239)) else (some false)) else (some false)) = some r := H
        have A12 := Aside0.mk A120
        clear A120
        by_cases c13 : t245 = t239
        · rw [if_pos c13] at H
          have c13b0 : (t245 == t239) = true := beq_iff_eq.mpr c13
          have c13b1 : (t245 != t239) = false := bne_eq_false_iff_eq.mpr c13
          clear c13
          by_cases c14 : t243 = 0
          · rw [if_pos c14] at H
            have c14b0 : (t243 == 0) = true := beq_iff_eq.mpr c14
            have c14b1 : (t243 != 0) = false := bne_eq_false_iff_eq.mpr c14
            clear c14
            obtain rfl := Option.some.inj H
            go_enter Try.func9, Try.ntmps9
            go_wp2_with (first | ((with_reducible refine gate_callee (f := 11) rfl ?_); refine goesL_ (some 8) rfl rfl Try.func11 (by kernel_rfl) rfl #[] rfl (by (try simp only [List.map_toArray, List.map_cons, List.map_nil]); first | done | rfl | (simp only [List.length_drop, List.length_take]; rfl)) ?_; (with_reducible refine (ladinglaw02_lives.calls  true _ A3.out).mono ?_); rintro e w15 ⟨rfl, hb⟩; refine ⟨_, rfl, ?_⟩; have n0_ := Aside0.mk (below_step (by repeat (first | (with_reducible first | exact HB.out | apply below_alloc | apply pw_below_drewN | apply below_drew1) | exact HB.out)) hb); clear HB; have HB := n0_; clear n0_; (try clear hb); (try clear hb2); (try clear hk); (try clear hi)) | ((with_reducible refine gate_dst (N := 10) rfl ?_); refine Kd.R_lit (Kd.int .u8) _ 5 ?hg (N := 10) ?hd (xs := ([] : List Int)) (inner := []) (ok := fun _ => True) (okp := fun _ => True) ?hr ?hp (fun _ hk => hk) trivial (Below.refl _ _) (Nat.le_refl _) (by simp) ?_; (case hd => rfl); (case hg => rfl); (case hr => first | (go_simp; done) | (go_simp; rfl)); (case hp => exact (Reps.none _ _)); intro v231 w16 ho17 hb hg_ hnew_; clear hg_ hnew_; (first | rw [← Ny230.out] at ho17 | (simp only [Int.reduceToNat] at ho17; rw [← Ny230.out] at ho17)); have n0_ := Aside0.mk (Kd.R_lower ho17 (below_size (by repeat (first | (with_reducible first | exact HB.out | apply below_alloc | apply pw_below_drewN | apply below_drew1) | exact HB.out)))); have n1_ := Aside0.mk (below_step (by repeat (first | (with_reducible first | exact HB.out | apply below_alloc | apply pw_below_drewN | apply below_drew1) | exact HB.out)) hb); clear HB; have HO232 := n0_; have HB := n1_; clear n0_ n1_; clear hb ho17) | ((with_reducible refine gate_builtin (b := .append) (xs := #[.tmp 10, .tmp 11]) rfl ?_); at_builtin; refine Kd.R_append_rows (Kd.int .u8) (w0 := w) w.heap.size rfl (.tmp 10) (.tmp 11) 23 5 (.int .u8 0) 1 rfl Try.underlying23 info5 rfl (by decide) (by omega) v231 y230 l0 _ _ _ (fun _ => True) (fun _ => False) rfl rfl ?aO ?aR (fun _ _ h => h) (fun _ h => h.elim) ?aF ?aB ?aS ?aL ?_; (case aR => repeat (first | exact (Kd.C_below HR0.out HB.out) | (with_reducible refine Kd.C_alloc ?_ _) | (with_reducible refine Kd.C_drewN ?_ _) | (with_reducible refine Kd.C_drew ?_))); (case aB => exact (by repeat (first | (with_reducible first | exact HB.out | apply below_alloc | apply pw_below_drewN | apply below_drew1) | exact HB.out))); (case aF => exact (fun _ _ => trivial)); (case aO => exact (by (with_reducible repeat (first | apply Kd.R_alloc | apply Kd.R_drewN | apply Kd.R_drew)); exact HO232.out)); (case aS => exact (below_size (by repeat (first | (with_reducible first | exact HB.out | apply below_alloc | apply pw_below_drewN | apply below_drew1) | exact HB.out)))); (case aL => have := LMc5.out; omega); intro v234 w18 ho hb hg hat; rw [← Ny233.out] at ho; have n0_ := Aside0.mk (hb); have n1_ := Aside0.mk (ho); clear HB; clear HO232; have HB := n0_; have HO235 := n1_; clear n0_ n1_; clear ho hb hg hat) | ((with_reducible refine gate_builtin (b := .append) (xs := #[.tmp 12, .tmp 13]) rfl ?_); at_builtin; refine Kd.R_append_rows (Kd.int .u8) (w0 := w) w.heap.size rfl (.tmp 12) (.tmp 13) 23 5 (.int .u8 0) 1 rfl Try.underlying23 info5 rfl (by decide) (by omega) v234 y233 l1 _ _ _ (fun _ => True) (fun _ => False) rfl rfl ?aO ?aR (fun _ _ h => h) (fun _ h => h.elim) ?aF ?aB ?aS ?aL ?_; (case aR => repeat (first | exact (Kd.C_below HR1.out HB.out) | (with_reducible refine Kd.C_alloc ?_ _) | (with_reducible refine Kd.C_drewN ?_ _) | (with_reducible refine Kd.C_drew ?_))); (case aB => exact (by repeat (first | (with_reducible first | exact HB.out | apply below_alloc | apply pw_below_drewN | apply below_drew1) | exact HB.out))); (case aF => exact (fun _ _ => trivial)); (case aO => exact (by (with_reducible repeat (first | apply Kd.R_alloc | apply Kd.R_drewN | apply Kd.R_drew)); exact HO235.out)); (case aS => exact (below_size (by repeat (first | (with_reducible first | exact HB.out | apply below_alloc | apply pw_below_drewN | apply below_drew1) | exact HB.out)))); (case aL => have := LMc6.out; omega); intro v237 w19 ho hb hg hat; rw [← Ny236.out] at ho; have n0_ := Aside0.mk (hb); have n1_ := Aside0.mk (ho); clear HB; clear HO235; have HB := n0_; have HO238 := n1_; clear n0_ n1_; clear ho hb hg hat; obtain ⟨Ao20, co20, eo20⟩ := Kd.R_slice HO238.out; subst eo20) | ((with_reducible refine gate_callee (f := 12) rfl ?_); refine goesL_ (some 15) rfl rfl Try.func12 (by kernel_rfl) rfl #[.slice Ao20 y236.length co20] rfl (by (try simp only [List.map_toArray, List.map_cons, List.map_nil]); first | done | rfl | (simp only [List.length_drop, List.length_take]; rfl)) ?_; (with_reducible refine (crc_Of.calls _ _ y236 t239 _ ?side1 ?side2 A7.out).mono ?_); (case side1 => repeat (first | exact (Kd.R_reads' HO238.out).2.2 | (with_reducible refine Kd.C_alloc ?_ _) | (with_reducible refine Kd.C_drewN ?_ _) | (with_reducible refine Kd.C_drew ?_))); (case side2 => exact (Kd.R_reads' HO238.out).2.1); rintro e w21 ⟨rfl, hb⟩; refine ⟨_, rfl, ?_⟩; have n0_ := Aside0.mk (Kd.R_below (by (with_reducible repeat (first | apply Kd.R_alloc | apply Kd.R_drewN | apply Kd.R_drew)); exact HO238.out) hb); have n1_ := Aside0.mk (below_step (by repeat (first | (with_reducible first | exact HB.out | apply below_alloc | apply pw_below_drewN | apply below_drew1) | exact HB.out)) hb); clear HO238; clear HB; have HO238 := n0_; have HB := n1_; clear n0_ n1_; (try clear hb); (try clear hb2); (try clear hk); (try clear hi)) | ((with_reducible refine gate_callee (f := 12) rfl ?_); refine goesL_ (some 18) rfl rfl Try.func12 (by kernel_rfl) rfl #[.slice A0 l0.length c0] rfl (by (try simp only [List.map_toArray, List.map_cons, List.map_nil]); first | done | rfl | (simp only [List.length_drop, List.length_take]; rfl)) ?_; (with_reducible refine (crc_Of.calls _ _ l0 t240 _ ?side1 ?side2 A8.out).mono ?_); (case side1 => repeat (first | exact (Kd.C_below HR0.out HB.out) | (with_reducible refine Kd.C_alloc ?_ _) | (with_reducible refine Kd.C_drewN ?_ _) | (with_reducible refine Kd.C_drew ?_))); (case side2 => exact HC0.out); rintro e w22 ⟨rfl, hb⟩; refine ⟨_, rfl, ?_⟩; have n0_ := Aside0.mk (Kd.R_below (by (with_reducible repeat (first | apply Kd.R_alloc | apply Kd.R_drewN | apply Kd.R_drew)); exact HO238.out) hb); have n1_ := Aside0.mk (below_step (by repeat (first | (with_reducible first | exact HB.out | apply below_alloc | apply pw_below_drewN | apply below_drew1) | exact HB.out)) hb); clear HO238; clear HB; have HO238 := n0_; have HB := n1_; clear n0_ n1_; (try clear hb); (try clear hb2); (try clear hk); (try clear hi)) | ((with_reducible refine gate_callee (f := 12) rfl ?_); refine goesL_ (some 20) rfl rfl Try.func12 (by kernel_rfl) rfl #[.slice A1 l1.length c1] rfl (by (try simp only [List.map_toArray, List.map_cons, List.map_nil]); first | done | rfl | (simp only [List.length_drop, List.length_take]; rfl)) ?_; (with_reducible refine (crc_Of.calls _ _ l1 t241 _ ?side1 ?side2 A9.out).mono ?_); (case side1 => repeat (first | exact (Kd.C_below HR1.out HB.out) | (with_reducible refine Kd.C_alloc ?_ _) | (with_reducible refine Kd.C_drewN ?_ _) | (with_reducible refine Kd.C_drew ?_))); (case side2 => exact HC1.out); rintro e w23 ⟨rfl, hb⟩; refine ⟨_, rfl, ?_⟩; have n0_ := Aside0.mk (Kd.R_below (by (with_reducible repeat (first | apply Kd.R_alloc | apply Kd.R_drewN | apply Kd.R_drew)); exact HO238.out) hb); have n1_ := Aside0.mk (below_step (by repeat (first | (with_reducible first | exact HB.out | apply below_alloc | apply pw_below_drewN | apply below_drew1) | exact HB.out)) hb); clear HO238; clear HB; have HO238 := n0_; have HB := n1_; clear n0_ n1_; (try clear hb); (try clear hb2); (try clear hk); (try clear hi)) | ((with_reducible refine gate_callee (f := 21) rfl ?_); refine goesL_ (some 23) rfl rfl Try.func21 (by kernel_rfl) rfl #[.int .u32 t240, .int .u32 t241, .int .i64 (l1.length : Int)] rfl (by (try simp only [List.map_toArray, List.map_cons, List.map_nil]); first | done | rfl | (simp only [List.length_drop, List.length_take]; rfl)) ?_; (with_reducible refine (crc_Combine.calls t240 t241 (l1.length : Int) t242 t243 _ A10.out).mono ?_); rintro e w24 ⟨rfl, hb⟩; refine ⟨_, rfl, ?_⟩; have n0_ := Aside0.mk (Kd.R_below (by (with_reducible repeat (first | apply Kd.R_alloc | apply Kd.R_drewN | apply Kd.R_drew)); exact HO238.out) hb); have n1_ := Aside0.mk (below_step (by repeat (first | (with_reducible first | exact HB.out | apply below_alloc | apply pw_below_drewN | apply below_drew1) | exact HB.out)) hb); clear HO238; clear HB; have HO238 := n0_; have HB := n1_; clear n0_ n1_; (try clear hb); (try clear hb2); (try clear hk); (try clear hi)) | ((with_reducible refine gate_callee (f := 12) rfl ?_); refine goesL_ (some 27) rfl rfl Try.func12 (by kernel_rfl) rfl #[.slice A0 l0.length c0] rfl (by (try simp only [List.map_toArray, List.map_cons, List.map_nil]); first | done | rfl | (simp only [List.length_drop, List.length_take]; rfl)) ?_; (with_reducible refine (crc_Of.calls _ _ l0 t244 _ ?side1 ?side2 A11.out).mono ?_); (case side1 => repeat (first | exact (Kd.C_below HR0.out HB.out) | (with_reducible refine Kd.C_alloc ?_ _) | (with_reducible refine Kd.C_drewN ?_ _) | (with_reducible refine Kd.C_drew ?_))); (case side2 => exact HC0.out); rintro e w25 ⟨rfl, hb⟩; refine ⟨_, rfl, ?_⟩; have n0_ := Aside0.mk (Kd.R_below (by (with_reducible repeat (first | apply Kd.R_alloc | apply Kd.R_drewN | apply Kd.R_drew)); exact HO238.out) hb); have n1_ := Aside0.mk (below_step (by repeat (first | (with_reducible first | exact HB.out | apply below_alloc | apply pw_below_drewN | apply below_drew1) | exact HB.out)) hb); clear HO238; clear HB; have HO238 := n0_; have HB := n1_; clear n0_ n1_; (try clear hb); (try clear hb2); (try clear hk); (try clear hi)) | ((with_reducible refine gate_callee (f := 14) rfl ?_); refine goesL_ (some 29) rfl rfl Try.func14 (by kernel_rfl) rfl #[.int .u32 t244, .slice A1 l1.length c1] rfl (by (try simp only [List.map_toArray, List.map_cons, List.map_nil]); first | done | rfl | (simp only [List.length_drop, List.length_take]; rfl)) ?_; (with_reducible refine (crc_Update.calls t244 _ _ l1 t245 _ ?side1 ?side2 A12.out).mono ?_); (case side1 => repeat (first | exact (Kd.C_below HR1.out HB.out) | (with_reducible refine Kd.C_alloc ?_ _) | (with_reducible refine Kd.C_drewN ?_ _) | (with_reducible refine Kd.C_drew ?_))); (case side2 => exact HC1.out); rintro e w26 ⟨rfl, hb⟩; refine ⟨_, rfl, ?_⟩; have n0_ := Aside0.mk (Kd.R_below (by (with_reducible repeat (first | apply Kd.R_alloc | apply Kd.R_drewN | apply Kd.R_drew)); exact HO238.out) hb); have n1_ := Aside0.mk (below_step (by repeat (first | (with_reducible first | exact HB.out | apply below_alloc | apply pw_below_drewN | apply below_drew1) | exact HB.out)) hb); clear HO238; clear HB; have HO238 := n0_; have HB := n1_; clear n0_ n1_; (try clear hb); (try clear hb2); (try clear hk); (try clear hi)))
            go_ret
            exact ⟨by first | rfl | (simp [errW_none, errW_some] <;> rfl) | (simp [*, errW_none, errW_some] <;> rfl), by repeat (first | (with_reducible first | exact HB.out | apply below_alloc | apply pw_below_drewN | apply below_drew1) | exact HB.out)⟩
          · rw [if_neg c14] at H
            have c14b0 : (t243 == 0) = false := beq_eq_false_iff_ne.mpr c14
            have c14b1 : (t243 != 0) = true := bne_iff_ne.mpr c14
            obtain rfl := Option.some.inj H
            go_enter Try.func9, Try.ntmps9
            go_wp2_with (first | ((with_reducible refine gate_callee (f := 11) rfl ?_); refine goesL_ (some 8) rfl rfl Try.func11 (by kernel_rfl) rfl #[] rfl (by (try simp only [List.map_toArray, List.map_cons, List.map_nil]); first | done | rfl | (simp only [List.length_drop, List.length_take]; rfl)) ?_; (with_reducible refine (ladinglaw02_lives.calls  true _ A3.out).mono ?_); rintro e w27 ⟨rfl, hb⟩; refine ⟨_, rfl, ?_⟩; have n0_ := Aside0.mk (below_step (by repeat (first | (with_reducible first | exact HB.out | apply below_alloc | apply pw_below_drewN | apply below_drew1) | exact HB.out)) hb); clear HB; have HB := n0_; clear n0_; (try clear hb); (try clear hb2); (try clear hk); (try clear hi)) | ((with_reducible refine gate_dst (N := 10) rfl ?_); refine Kd.R_lit (Kd.int .u8) _ 5 ?hg (N := 10) ?hd (xs := ([] : List Int)) (inner := []) (ok := fun _ => True) (okp := fun _ => True) ?hr ?hp (fun _ hk => hk) trivial (Below.refl _ _) (Nat.le_refl _) (by simp) ?_; (case hd => rfl); (case hg => rfl); (case hr => first | (go_simp; done) | (go_simp; rfl)); (case hp => exact (Reps.none _ _)); intro v231 w28 ho29 hb hg_ hnew_; clear hg_ hnew_; (first | rw [← Ny230.out] at ho29 | (simp only [Int.reduceToNat] at ho29; rw [← Ny230.out] at ho29)); have n0_ := Aside0.mk (Kd.R_lower ho29 (below_size (by repeat (first | (with_reducible first | exact HB.out | apply below_alloc | apply pw_below_drewN | apply below_drew1) | exact HB.out)))); have n1_ := Aside0.mk (below_step (by repeat (first | (with_reducible first | exact HB.out | apply below_alloc | apply pw_below_drewN | apply below_drew1) | exact HB.out)) hb); clear HB; have HO232 := n0_; have HB := n1_; clear n0_ n1_; clear hb ho29) | ((with_reducible refine gate_builtin (b := .append) (xs := #[.tmp 10, .tmp 11]) rfl ?_); at_builtin; refine Kd.R_append_rows (Kd.int .u8) (w0 := w) w.heap.size rfl (.tmp 10) (.tmp 11) 23 5 (.int .u8 0) 1 rfl Try.underlying23 info5 rfl (by decide) (by omega) v231 y230 l0 _ _ _ (fun _ => True) (fun _ => False) rfl rfl ?aO ?aR (fun _ _ h => h) (fun _ h => h.elim) ?aF ?aB ?aS ?aL ?_; (case aR => repeat (first | exact (Kd.C_below HR0.out HB.out) | (with_reducible refine Kd.C_alloc ?_ _) | (with_reducible refine Kd.C_drewN ?_ _) | (with_reducible refine Kd.C_drew ?_))); (case aB => exact (by repeat (first | (with_reducible first | exact HB.out | apply below_alloc | apply pw_below_drewN | apply below_drew1) | exact HB.out))); (case aF => exact (fun _ _ => trivial)); (case aO => exact (by (with_reducible repeat (first | apply Kd.R_alloc | apply Kd.R_drewN | apply Kd.R_drew)); exact HO232.out)); (case aS => exact (below_size (by repeat (first | (with_reducible first | exact HB.out | apply below_alloc | apply pw_below_drewN | apply below_drew1) | exact HB.out)))); (case aL => have := LMc5.out; omega); intro v234 w30 ho hb hg hat; rw [← Ny233.out] at ho; have n0_ := Aside0.mk (hb); have n1_ := Aside0.mk (ho); clear HB; clear HO232; have HB := n0_; have HO235 := n1_; clear n0_ n1_; clear ho hb hg hat) | ((with_reducible refine gate_builtin (b := .append) (xs := #[.tmp 12, .tmp 13]) rfl ?_); at_builtin; refine Kd.R_append_rows (Kd.int .u8) (w0 := w) w.heap.size rfl (.tmp 12) (.tmp 13) 23 5 (.int .u8 0) 1 rfl Try.underlying23 info5 rfl (by decide) (by omega) v234 y233 l1 _ _ _ (fun _ => True) (fun _ => False) rfl rfl ?aO ?aR (fun _ _ h => h) (fun _ h => h.elim) ?aF ?aB ?aS ?aL ?_; (case aR => repeat (first | exact (Kd.C_below HR1.out HB.out) | (with_reducible refine Kd.C_alloc ?_ _) | (with_reducible refine Kd.C_drewN ?_ _) | (with_reducible refine Kd.C_drew ?_))); (case aB => exact (by repeat (first | (with_reducible first | exact HB.out | apply below_alloc | apply pw_below_drewN | apply below_drew1) | exact HB.out))); (case aF => exact (fun _ _ => trivial)); (case aO => exact (by (with_reducible repeat (first | apply Kd.R_alloc | apply Kd.R_drewN | apply Kd.R_drew)); exact HO235.out)); (case aS => exact (below_size (by repeat (first | (with_reducible first | exact HB.out | apply below_alloc | apply pw_below_drewN | apply below_drew1) | exact HB.out)))); (case aL => have := LMc6.out; omega); intro v237 w31 ho hb hg hat; rw [← Ny236.out] at ho; have n0_ := Aside0.mk (hb); have n1_ := Aside0.mk (ho); clear HB; clear HO235; have HB := n0_; have HO238 := n1_; clear n0_ n1_; clear ho hb hg hat; obtain ⟨Ao32, co32, eo32⟩ := Kd.R_slice HO238.out; subst eo32) | ((with_reducible refine gate_callee (f := 12) rfl ?_); refine goesL_ (some 15) rfl rfl Try.func12 (by kernel_rfl) rfl #[.slice Ao32 y236.length co32] rfl (by (try simp only [List.map_toArray, List.map_cons, List.map_nil]); first | done | rfl | (simp only [List.length_drop, List.length_take]; rfl)) ?_; (with_reducible refine (crc_Of.calls _ _ y236 t239 _ ?side1 ?side2 A7.out).mono ?_); (case side1 => repeat (first | exact (Kd.R_reads' HO238.out).2.2 | (with_reducible refine Kd.C_alloc ?_ _) | (with_reducible refine Kd.C_drewN ?_ _) | (with_reducible refine Kd.C_drew ?_))); (case side2 => exact (Kd.R_reads' HO238.out).2.1); rintro e w33 ⟨rfl, hb⟩; refine ⟨_, rfl, ?_⟩; have n0_ := Aside0.mk (Kd.R_below (by (with_reducible repeat (first | apply Kd.R_alloc | apply Kd.R_drewN | apply Kd.R_drew)); exact HO238.out) hb); have n1_ := Aside0.mk (below_step (by repeat (first | (with_reducible first | exact HB.out | apply below_alloc | apply pw_below_drewN | apply below_drew1) | exact HB.out)) hb); clear HO238; clear HB; have HO238 := n0_; have HB := n1_; clear n0_ n1_; (try clear hb); (try clear hb2); (try clear hk); (try clear hi)) | ((with_reducible refine gate_callee (f := 12) rfl ?_); refine goesL_ (some 18) rfl rfl Try.func12 (by kernel_rfl) rfl #[.slice A0 l0.length c0] rfl (by (try simp only [List.map_toArray, List.map_cons, List.map_nil]); first | done | rfl | (simp only [List.length_drop, List.length_take]; rfl)) ?_; (with_reducible refine (crc_Of.calls _ _ l0 t240 _ ?side1 ?side2 A8.out).mono ?_); (case side1 => repeat (first | exact (Kd.C_below HR0.out HB.out) | (with_reducible refine Kd.C_alloc ?_ _) | (with_reducible refine Kd.C_drewN ?_ _) | (with_reducible refine Kd.C_drew ?_))); (case side2 => exact HC0.out); rintro e w34 ⟨rfl, hb⟩; refine ⟨_, rfl, ?_⟩; have n0_ := Aside0.mk (Kd.R_below (by (with_reducible repeat (first | apply Kd.R_alloc | apply Kd.R_drewN | apply Kd.R_drew)); exact HO238.out) hb); have n1_ := Aside0.mk (below_step (by repeat (first | (with_reducible first | exact HB.out | apply below_alloc | apply pw_below_drewN | apply below_drew1) | exact HB.out)) hb); clear HO238; clear HB; have HO238 := n0_; have HB := n1_; clear n0_ n1_; (try clear hb); (try clear hb2); (try clear hk); (try clear hi)) | ((with_reducible refine gate_callee (f := 12) rfl ?_); refine goesL_ (some 20) rfl rfl Try.func12 (by kernel_rfl) rfl #[.slice A1 l1.length c1] rfl (by (try simp only [List.map_toArray, List.map_cons, List.map_nil]); first | done | rfl | (simp only [List.length_drop, List.length_take]; rfl)) ?_; (with_reducible refine (crc_Of.calls _ _ l1 t241 _ ?side1 ?side2 A9.out).mono ?_); (case side1 => repeat (first | exact (Kd.C_below HR1.out HB.out) | (with_reducible refine Kd.C_alloc ?_ _) | (with_reducible refine Kd.C_drewN ?_ _) | (with_reducible refine Kd.C_drew ?_))); (case side2 => exact HC1.out); rintro e w35 ⟨rfl, hb⟩; refine ⟨_, rfl, ?_⟩; have n0_ := Aside0.mk (Kd.R_below (by (with_reducible repeat (first | apply Kd.R_alloc | apply Kd.R_drewN | apply Kd.R_drew)); exact HO238.out) hb); have n1_ := Aside0.mk (below_step (by repeat (first | (with_reducible first | exact HB.out | apply below_alloc | apply pw_below_drewN | apply below_drew1) | exact HB.out)) hb); clear HO238; clear HB; have HO238 := n0_; have HB := n1_; clear n0_ n1_; (try clear hb); (try clear hb2); (try clear hk); (try clear hi)) | ((with_reducible refine gate_callee (f := 21) rfl ?_); refine goesL_ (some 23) rfl rfl Try.func21 (by kernel_rfl) rfl #[.int .u32 t240, .int .u32 t241, .int .i64 (l1.length : Int)] rfl (by (try simp only [List.map_toArray, List.map_cons, List.map_nil]); first | done | rfl | (simp only [List.length_drop, List.length_take]; rfl)) ?_; (with_reducible refine (crc_Combine.calls t240 t241 (l1.length : Int) t242 t243 _ A10.out).mono ?_); rintro e w36 ⟨rfl, hb⟩; refine ⟨_, rfl, ?_⟩; have n0_ := Aside0.mk (Kd.R_below (by (with_reducible repeat (first | apply Kd.R_alloc | apply Kd.R_drewN | apply Kd.R_drew)); exact HO238.out) hb); have n1_ := Aside0.mk (below_step (by repeat (first | (with_reducible first | exact HB.out | apply below_alloc | apply pw_below_drewN | apply below_drew1) | exact HB.out)) hb); clear HO238; clear HB; have HO238 := n0_; have HB := n1_; clear n0_ n1_; (try clear hb); (try clear hb2); (try clear hk); (try clear hi)) | ((with_reducible refine gate_callee (f := 12) rfl ?_); refine goesL_ (some 27) rfl rfl Try.func12 (by kernel_rfl) rfl #[.slice A0 l0.length c0] rfl (by (try simp only [List.map_toArray, List.map_cons, List.map_nil]); first | done | rfl | (simp only [List.length_drop, List.length_take]; rfl)) ?_; (with_reducible refine (crc_Of.calls _ _ l0 t244 _ ?side1 ?side2 A11.out).mono ?_); (case side1 => repeat (first | exact (Kd.C_below HR0.out HB.out) | (with_reducible refine Kd.C_alloc ?_ _) | (with_reducible refine Kd.C_drewN ?_ _) | (with_reducible refine Kd.C_drew ?_))); (case side2 => exact HC0.out); rintro e w37 ⟨rfl, hb⟩; refine ⟨_, rfl, ?_⟩; have n0_ := Aside0.mk (Kd.R_below (by (with_reducible repeat (first | apply Kd.R_alloc | apply Kd.R_drewN | apply Kd.R_drew)); exact HO238.out) hb); have n1_ := Aside0.mk (below_step (by repeat (first | (with_reducible first | exact HB.out | apply below_alloc | apply pw_below_drewN | apply below_drew1) | exact HB.out)) hb); clear HO238; clear HB; have HO238 := n0_; have HB := n1_; clear n0_ n1_; (try clear hb); (try clear hb2); (try clear hk); (try clear hi)) | ((with_reducible refine gate_callee (f := 14) rfl ?_); refine goesL_ (some 29) rfl rfl Try.func14 (by kernel_rfl) rfl #[.int .u32 t244, .slice A1 l1.length c1] rfl (by (try simp only [List.map_toArray, List.map_cons, List.map_nil]); first | done | rfl | (simp only [List.length_drop, List.length_take]; rfl)) ?_; (with_reducible refine (crc_Update.calls t244 _ _ l1 t245 _ ?side1 ?side2 A12.out).mono ?_); (case side1 => repeat (first | exact (Kd.C_below HR1.out HB.out) | (with_reducible refine Kd.C_alloc ?_ _) | (with_reducible refine Kd.C_drewN ?_ _) | (with_reducible refine Kd.C_drew ?_))); (case side2 => exact HC1.out); rintro e w38 ⟨rfl, hb⟩; refine ⟨_, rfl, ?_⟩; have n0_ := Aside0.mk (Kd.R_below (by (with_reducible repeat (first | apply Kd.R_alloc | apply Kd.R_drewN | apply Kd.R_drew)); exact HO238.out) hb); have n1_ := Aside0.mk (below_step (by repeat (first | (with_reducible first | exact HB.out | apply below_alloc | apply pw_below_drewN | apply below_drew1) | exact HB.out)) hb); clear HO238; clear HB; have HO238 := n0_; have HB := n1_; clear n0_ n1_; (try clear hb); (try clear hb2); (try clear hk); (try clear hi)))
            go_ret
            exact ⟨by first | rfl | (simp [errW_none, errW_some] <;> rfl) | (simp [*, errW_none, errW_some] <;> rfl), by repeat (first | (with_reducible first | exact HB.out | apply below_alloc | apply pw_below_drewN | apply below_drew1) | exact HB.out)⟩
        · rw [if_neg c13] at H
          have c13b0 : (t245 == t239) = false := beq_eq_false_iff_ne.mpr c13
          have c13b1 : (t245 != t239) = true := bne_iff_ne.mpr c13
          obtain rfl := Option.some.inj H
          go_enter Try.func9, Try.ntmps9
          go_wp2_with (first | ((with_reducible refine gate_callee (f := 11) rfl ?_); refine goesL_ (some 8) rfl rfl Try.func11 (by kernel_rfl) rfl #[] rfl (by (try simp only [List.map_toArray, List.map_cons, List.map_nil]); first | done | rfl | (simp only [List.length_drop, List.length_take]; rfl)) ?_; (with_reducible refine (ladinglaw02_lives.calls  true _ A3.out).mono ?_); rintro e w39 ⟨rfl, hb⟩; refine ⟨_, rfl, ?_⟩; have n0_ := Aside0.mk (below_step (by repeat (first | (with_reducible first | exact HB.out | apply below_alloc | apply pw_below_drewN | apply below_drew1) | exact HB.out)) hb); clear HB; have HB := n0_; clear n0_; (try clear hb); (try clear hb2); (try clear hk); (try clear hi)) | ((with_reducible refine gate_dst (N := 10) rfl ?_); refine Kd.R_lit (Kd.int .u8) _ 5 ?hg (N := 10) ?hd (xs := ([] : List Int)) (inner := []) (ok := fun _ => True) (okp := fun _ => True) ?hr ?hp (fun _ hk => hk) trivial (Below.refl _ _) (Nat.le_refl _) (by simp) ?_; (case hd => rfl); (case hg => rfl); (case hr => first | (go_simp; done) | (go_simp; rfl)); (case hp => exact (Reps.none _ _)); intro v231 w40 ho41 hb hg_ hnew_; clear hg_ hnew_; (first | rw [← Ny230.out] at ho41 | (simp only [Int.reduceToNat] at ho41; rw [← Ny230.out] at ho41)); have n0_ := Aside0.mk (Kd.R_lower ho41 (below_size (by repeat (first | (with_reducible first | exact HB.out | apply below_alloc | apply pw_below_drewN | apply below_drew1) | exact HB.out)))); have n1_ := Aside0.mk (below_step (by repeat (first | (with_reducible first | exact HB.out | apply below_alloc | apply pw_below_drewN | apply below_drew1) | exact HB.out)) hb); clear HB; have HO232 := n0_; have HB := n1_; clear n0_ n1_; clear hb ho41) | ((with_reducible refine gate_builtin (b := .append) (xs := #[.tmp 10, .tmp 11]) rfl ?_); at_builtin; refine Kd.R_append_rows (Kd.int .u8) (w0 := w) w.heap.size rfl (.tmp 10) (.tmp 11) 23 5 (.int .u8 0) 1 rfl Try.underlying23 info5 rfl (by decide) (by omega) v231 y230 l0 _ _ _ (fun _ => True) (fun _ => False) rfl rfl ?aO ?aR (fun _ _ h => h) (fun _ h => h.elim) ?aF ?aB ?aS ?aL ?_; (case aR => repeat (first | exact (Kd.C_below HR0.out HB.out) | (with_reducible refine Kd.C_alloc ?_ _) | (with_reducible refine Kd.C_drewN ?_ _) | (with_reducible refine Kd.C_drew ?_))); (case aB => exact (by repeat (first | (with_reducible first | exact HB.out | apply below_alloc | apply pw_below_drewN | apply below_drew1) | exact HB.out))); (case aF => exact (fun _ _ => trivial)); (case aO => exact (by (with_reducible repeat (first | apply Kd.R_alloc | apply Kd.R_drewN | apply Kd.R_drew)); exact HO232.out)); (case aS => exact (below_size (by repeat (first | (with_reducible first | exact HB.out | apply below_alloc | apply pw_below_drewN | apply below_drew1) | exact HB.out)))); (case aL => have := LMc5.out; omega); intro v234 w42 ho hb hg hat; rw [← Ny233.out] at ho; have n0_ := Aside0.mk (hb); have n1_ := Aside0.mk (ho); clear HB; clear HO232; have HB := n0_; have HO235 := n1_; clear n0_ n1_; clear ho hb hg hat) | ((with_reducible refine gate_builtin (b := .append) (xs := #[.tmp 12, .tmp 13]) rfl ?_); at_builtin; refine Kd.R_append_rows (Kd.int .u8) (w0 := w) w.heap.size rfl (.tmp 12) (.tmp 13) 23 5 (.int .u8 0) 1 rfl Try.underlying23 info5 rfl (by decide) (by omega) v234 y233 l1 _ _ _ (fun _ => True) (fun _ => False) rfl rfl ?aO ?aR (fun _ _ h => h) (fun _ h => h.elim) ?aF ?aB ?aS ?aL ?_; (case aR => repeat (first | exact (Kd.C_below HR1.out HB.out) | (with_reducible refine Kd.C_alloc ?_ _) | (with_reducible refine Kd.C_drewN ?_ _) | (with_reducible refine Kd.C_drew ?_))); (case aB => exact (by repeat (first | (with_reducible first | exact HB.out | apply below_alloc | apply pw_below_drewN | apply below_drew1) | exact HB.out))); (case aF => exact (fun _ _ => trivial)); (case aO => exact (by (with_reducible repeat (first | apply Kd.R_alloc | apply Kd.R_drewN | apply Kd.R_drew)); exact HO235.out)); (case aS => exact (below_size (by repeat (first | (with_reducible first | exact HB.out | apply below_alloc | apply pw_below_drewN | apply below_drew1) | exact HB.out)))); (case aL => have := LMc6.out; omega); intro v237 w43 ho hb hg hat; rw [← Ny236.out] at ho; have n0_ := Aside0.mk (hb); have n1_ := Aside0.mk (ho); clear HB; clear HO235; have HB := n0_; have HO238 := n1_; clear n0_ n1_; clear ho hb hg hat; obtain ⟨Ao44, co44, eo44⟩ := Kd.R_slice HO238.out; subst eo44) | ((with_reducible refine gate_callee (f := 12) rfl ?_); refine goesL_ (some 15) rfl rfl Try.func12 (by kernel_rfl) rfl #[.slice Ao44 y236.length co44] rfl (by (try simp only [List.map_toArray, List.map_cons, List.map_nil]); first | done | rfl | (simp only [List.length_drop, List.length_take]; rfl)) ?_; (with_reducible refine (crc_Of.calls _ _ y236 t239 _ ?side1 ?side2 A7.out).mono ?_); (case side1 => repeat (first | exact (Kd.R_reads' HO238.out).2.2 | (with_reducible refine Kd.C_alloc ?_ _) | (with_reducible refine Kd.C_drewN ?_ _) | (with_reducible refine Kd.C_drew ?_))); (case side2 => exact (Kd.R_reads' HO238.out).2.1); rintro e w45 ⟨rfl, hb⟩; refine ⟨_, rfl, ?_⟩; have n0_ := Aside0.mk (Kd.R_below (by (with_reducible repeat (first | apply Kd.R_alloc | apply Kd.R_drewN | apply Kd.R_drew)); exact HO238.out) hb); have n1_ := Aside0.mk (below_step (by repeat (first | (with_reducible first | exact HB.out | apply below_alloc | apply pw_below_drewN | apply below_drew1) | exact HB.out)) hb); clear HO238; clear HB; have HO238 := n0_; have HB := n1_; clear n0_ n1_; (try clear hb); (try clear hb2); (try clear hk); (try clear hi)) | ((with_reducible refine gate_callee (f := 12) rfl ?_); refine goesL_ (some 18) rfl rfl Try.func12 (by kernel_rfl) rfl #[.slice A0 l0.length c0] rfl (by (try simp only [List.map_toArray, List.map_cons, List.map_nil]); first | done | rfl | (simp only [List.length_drop, List.length_take]; rfl)) ?_; (with_reducible refine (crc_Of.calls _ _ l0 t240 _ ?side1 ?side2 A8.out).mono ?_); (case side1 => repeat (first | exact (Kd.C_below HR0.out HB.out) | (with_reducible refine Kd.C_alloc ?_ _) | (with_reducible refine Kd.C_drewN ?_ _) | (with_reducible refine Kd.C_drew ?_))); (case side2 => exact HC0.out); rintro e w46 ⟨rfl, hb⟩; refine ⟨_, rfl, ?_⟩; have n0_ := Aside0.mk (Kd.R_below (by (with_reducible repeat (first | apply Kd.R_alloc | apply Kd.R_drewN | apply Kd.R_drew)); exact HO238.out) hb); have n1_ := Aside0.mk (below_step (by repeat (first | (with_reducible first | exact HB.out | apply below_alloc | apply pw_below_drewN | apply below_drew1) | exact HB.out)) hb); clear HO238; clear HB; have HO238 := n0_; have HB := n1_; clear n0_ n1_; (try clear hb); (try clear hb2); (try clear hk); (try clear hi)) | ((with_reducible refine gate_callee (f := 12) rfl ?_); refine goesL_ (some 20) rfl rfl Try.func12 (by kernel_rfl) rfl #[.slice A1 l1.length c1] rfl (by (try simp only [List.map_toArray, List.map_cons, List.map_nil]); first | done | rfl | (simp only [List.length_drop, List.length_take]; rfl)) ?_; (with_reducible refine (crc_Of.calls _ _ l1 t241 _ ?side1 ?side2 A9.out).mono ?_); (case side1 => repeat (first | exact (Kd.C_below HR1.out HB.out) | (with_reducible refine Kd.C_alloc ?_ _) | (with_reducible refine Kd.C_drewN ?_ _) | (with_reducible refine Kd.C_drew ?_))); (case side2 => exact HC1.out); rintro e w47 ⟨rfl, hb⟩; refine ⟨_, rfl, ?_⟩; have n0_ := Aside0.mk (Kd.R_below (by (with_reducible repeat (first | apply Kd.R_alloc | apply Kd.R_drewN | apply Kd.R_drew)); exact HO238.out) hb); have n1_ := Aside0.mk (below_step (by repeat (first | (with_reducible first | exact HB.out | apply below_alloc | apply pw_below_drewN | apply below_drew1) | exact HB.out)) hb); clear HO238; clear HB; have HO238 := n0_; have HB := n1_; clear n0_ n1_; (try clear hb); (try clear hb2); (try clear hk); (try clear hi)) | ((with_reducible refine gate_callee (f := 21) rfl ?_); refine goesL_ (some 23) rfl rfl Try.func21 (by kernel_rfl) rfl #[.int .u32 t240, .int .u32 t241, .int .i64 (l1.length : Int)] rfl (by (try simp only [List.map_toArray, List.map_cons, List.map_nil]); first | done | rfl | (simp only [List.length_drop, List.length_take]; rfl)) ?_; (with_reducible refine (crc_Combine.calls t240 t241 (l1.length : Int) t242 t243 _ A10.out).mono ?_); rintro e w48 ⟨rfl, hb⟩; refine ⟨_, rfl, ?_⟩; have n0_ := Aside0.mk (Kd.R_below (by (with_reducible repeat (first | apply Kd.R_alloc | apply Kd.R_drewN | apply Kd.R_drew)); exact HO238.out) hb); have n1_ := Aside0.mk (below_step (by repeat (first | (with_reducible first | exact HB.out | apply below_alloc | apply pw_below_drewN | apply below_drew1) | exact HB.out)) hb); clear HO238; clear HB; have HO238 := n0_; have HB := n1_; clear n0_ n1_; (try clear hb); (try clear hb2); (try clear hk); (try clear hi)) | ((with_reducible refine gate_callee (f := 12) rfl ?_); refine goesL_ (some 27) rfl rfl Try.func12 (by kernel_rfl) rfl #[.slice A0 l0.length c0] rfl (by (try simp only [List.map_toArray, List.map_cons, List.map_nil]); first | done | rfl | (simp only [List.length_drop, List.length_take]; rfl)) ?_; (with_reducible refine (crc_Of.calls _ _ l0 t244 _ ?side1 ?side2 A11.out).mono ?_); (case side1 => repeat (first | exact (Kd.C_below HR0.out HB.out) | (with_reducible refine Kd.C_alloc ?_ _) | (with_reducible refine Kd.C_drewN ?_ _) | (with_reducible refine Kd.C_drew ?_))); (case side2 => exact HC0.out); rintro e w49 ⟨rfl, hb⟩; refine ⟨_, rfl, ?_⟩; have n0_ := Aside0.mk (Kd.R_below (by (with_reducible repeat (first | apply Kd.R_alloc | apply Kd.R_drewN | apply Kd.R_drew)); exact HO238.out) hb); have n1_ := Aside0.mk (below_step (by repeat (first | (with_reducible first | exact HB.out | apply below_alloc | apply pw_below_drewN | apply below_drew1) | exact HB.out)) hb); clear HO238; clear HB; have HO238 := n0_; have HB := n1_; clear n0_ n1_; (try clear hb); (try clear hb2); (try clear hk); (try clear hi)) | ((with_reducible refine gate_callee (f := 14) rfl ?_); refine goesL_ (some 29) rfl rfl Try.func14 (by kernel_rfl) rfl #[.int .u32 t244, .slice A1 l1.length c1] rfl (by (try simp only [List.map_toArray, List.map_cons, List.map_nil]); first | done | rfl | (simp only [List.length_drop, List.length_take]; rfl)) ?_; (with_reducible refine (crc_Update.calls t244 _ _ l1 t245 _ ?side1 ?side2 A12.out).mono ?_); (case side1 => repeat (first | exact (Kd.C_below HR1.out HB.out) | (with_reducible refine Kd.C_alloc ?_ _) | (with_reducible refine Kd.C_drewN ?_ _) | (with_reducible refine Kd.C_drew ?_))); (case side2 => exact HC1.out); rintro e w50 ⟨rfl, hb⟩; refine ⟨_, rfl, ?_⟩; have n0_ := Aside0.mk (Kd.R_below (by (with_reducible repeat (first | apply Kd.R_alloc | apply Kd.R_drewN | apply Kd.R_drew)); exact HO238.out) hb); have n1_ := Aside0.mk (below_step (by repeat (first | (with_reducible first | exact HB.out | apply below_alloc | apply pw_below_drewN | apply below_drew1) | exact HB.out)) hb); clear HO238; clear HB; have HO238 := n0_; have HB := n1_; clear n0_ n1_; (try clear hb); (try clear hb2); (try clear hk); (try clear hi)))
          go_ret
          exact ⟨by first | rfl | (simp [errW_none, errW_some] <;> rfl) | (simp [*, errW_none, errW_some] <;> rfl), by repeat (first | (with_reducible first | exact HB.out | apply below_alloc | apply pw_below_drewN | apply below_drew1) | exact HB.out)⟩
      · rw [if_neg c6] at H
        exact absurd H (by simp)
    · rw [if_neg c5] at H
      exact absurd H (by simp)
  · replace c4 := Bool.eq_false_iff.mpr c4
    subst c4
    have H1 : (some false) = some r := by rw [if_neg (show ¬ (false = true) by decide)] at H; exact H
    clear H
    have H := H1
    clear H1
    obtain rfl := Option.some.inj H
    go_enter Try.func9, Try.ntmps9
    go_wp2_with (first | ((with_reducible refine gate_callee (f := 11) rfl ?_); refine goesL_ (some 8) rfl rfl Try.func11 (by kernel_rfl) rfl #[] rfl (by (try simp only [List.map_toArray, List.map_cons, List.map_nil]); first | done | rfl | (simp only [List.length_drop, List.length_take]; rfl)) ?_; (with_reducible refine (ladinglaw02_lives.calls  false _ A3.out).mono ?_); rintro e w51 ⟨rfl, hb⟩; refine ⟨_, rfl, ?_⟩; have n0_ := Aside0.mk (below_step (by repeat (first | (with_reducible first | exact HB.out | apply below_alloc | apply pw_below_drewN | apply below_drew1) | exact HB.out)) hb); clear HB; have HB := n0_; clear n0_; (try clear hb); (try clear hb2); (try clear hk); (try clear hi)))
    go_ret
    exact ⟨by first | rfl | (simp [errW_none, errW_some] <;> rfl) | (simp [*, errW_none, errW_some] <;> rfl), by repeat (first | (with_reducible first | exact HB.out | apply below_alloc | apply pw_below_drewN | apply below_drew1) | exact HB.out)⟩

/-- THE ONE PURE STATEMENT of ladinglaw02_CrcParts: yours. -/
def ladinglaw02_CrcParts.Pure : Prop := ∀ (l0 : List Int) (l1 : List Int), l0.length ≤ maxLen → l0.length * 1 ≤ 140737488351232 → (∀ x ∈ l0, (Lit.int .u8 x).wf = true) → l1.length ≤ maxLen → l1.length * 1 ≤ 140737488351232 → (∀ x ∈ l1, (Lit.int .u8 x).wf = true) → ladinglaw02_CrcParts.f l0 l1 = some true
theorem ladinglaw02_CrcParts.walk (P : ladinglaw02_CrcParts.Pure) (a0 : Option Addr) (len0 cap0 : Nat) (z0 : List Int) (a1 : Option Addr) (len1 cap1 : Nat) (z1 : List Int) (w : World) (w0 : (a0 = none ∧ len0 = 0 ∧ cap0 = 0 ∧ z0 = []) ∨ ∃ x, a0 = some x ∧ len0 ≤ cap0 ∧ cap0 ≤ maxLen ∧ z0.length = cap0 ∧ (∀ i, i < z0.length → w.cell? (x.add i) = some (.int .u8 (z0.getD i 0))) ∧ ∀ n ∈ z0, (Lit.int .u8 n).wf = true) (y0 : len0 * 1 ≤ 140737488351232) (w1 : (a1 = none ∧ len1 = 0 ∧ cap1 = 0 ∧ z1 = []) ∨ ∃ x, a1 = some x ∧ len1 ≤ cap1 ∧ cap1 ≤ maxLen ∧ z1.length = cap1 ∧ (∀ i, i < z1.length → w.cell? (x.add i) = some (.int .u8 (z1.getD i 0))) ∧ ∀ n ∈ z1, (Lit.int .u8 n).wf = true) (y1 : len1 * 1 ≤ 140737488351232) :
    Calls Try.prog 9 #[.slice a0 len0 cap0, .slice a1 len1 cap1] w fun e w' => e = .returned (.bool true) ∧ Below w.heap.size w w' := by
  obtain ⟨l0, rfl, hr0, hm0, hw0, hc0⟩ := ReadsInt.ofRowC w0
  obtain ⟨l1, rfl, hr1, hm1, hw1, hc1⟩ := ReadsInt.ofRowC w1
  have h := P l0 l1 hm0 y0 hw0 hm1 y1 hw1
  refine (ladinglaw02_CrcParts.calls _ _ l0 _ _ l1 true w (Kd.C_of_reads (d := (0 : Int)) (h1 := fun _ => rfl) hr0) hc0 (Kd.C_of_reads (d := (0 : Int)) (h1 := fun _ => rfl) hr1) hc1 h).mono ?_
  rintro e w' ⟨rfl, hd⟩
  exact ⟨rfl, hd⟩

end Go.Proofs.Ytmplpfcilllmaaa.Print
