-- Printed for this claim by wip/xprint.py over the kit's printer. Not trusted: Lean checks it.
import Derived.Test.YtmplpfcilllmaaaPrint0
import Derived.Test.YtmplpfcilllmaaaPrint2
namespace Go.Proofs.Ytmplpfcilllmaaa.Print
open Go.RowKit Go.Proofs.YtmplpfcilllmaaaW.PrintWords Go.Proofs.YtmplpfcilllmaaaW.PrintLast Go.Proofs.YtmplpfcilllmaaaW.PrintMore
attribute [local go_sem] max2_mx min2_mn max_two min_two max_three min_three max_four min_four   -- for this text's walks alone
set_option linter.unusedVariables false
set_option linter.unusedSimpArgs false

/-! ### ladingref02_Combine: function 22, by hand -/
theorem tmod2 (x : Int) (h : 0 ≤ x) : x.tmod 2 = x % 2 := Int.tmod_eq_emod_of_nonneg h
theorem and_one (d : Int) (h0 : 0 ≤ d) (h1 : d < 4294967296) : Go.bits .and .u32 d 1 = d % 2 :=
  bits_mask .u32 32 (by decide) (fun x h0 h1 => by rw [IntKind.wrap_u32]; omega) 1 (by decide) d h0 h1
theorem and_full (x : Int) (h0 : 0 ≤ x) (h1 : x < 4294967296) : Go.bits .and .u32 x 4294967295 = x := by
  rw [bits_and]
  have : BitVec.ofInt 32 4294967295 = BitVec.allOnes 32 := rfl
  rw [this, BitVec.and_allOnes, toNat_ofInt x h0 h1]
theorem div_pow_range (v : Int) (k : Nat) (h0 : 0 ≤ v) (h1 : v < 4294967296) : 0 ≤ v / 2 ^ k ∧ v / 2 ^ k < 4294967296 := by
  have hp : (0 : Int) < 2 ^ k := Int.pow_pos (by decide)
  refine ⟨Int.ediv_nonneg h0 (Int.le_of_lt hp), Int.lt_of_le_of_lt (Int.ediv_le_self _ h0) h1⟩
theorem crcOfN_odd {m : List Int} {v : Int} {k : Nat} (hm : MRange m) (hk : k < 32) (h0 : 0 ≤ v) (h1 : v < 4294967296) (h : (v / 2 ^ k).tmod 2 = 1) : crcOfN m v (k + 1) = Go.bits .xor .u32 (crcOfN m v k) (m.getD k 0) := by
  have hd := div_pow_range v k h0 h1
  have hr := hm.at_ hk
  rw [tmod2 _ hd.1] at h
  show Go.bits .xor .u32 _ (Go.bits .and .u32 _ ((-(Go.bits .and .u32 (v / 2 ^ k) 1)) % 4294967296)) = _
  rw [and_one _ hd.1 hd.2, h]
  show Go.bits .xor .u32 _ (Go.bits .and .u32 _ 4294967295) = _
  rw [and_full _ hr.1 hr.2]
theorem crcOfN_even {m : List Int} {v : Int} {k : Nat} (h0 : 0 ≤ v) (h1 : v < 4294967296) (h : ¬ (v / 2 ^ k).tmod 2 = 1) : crcOfN m v (k + 1) = crcOfN m v k := by
  have hd := div_pow_range v k h0 h1
  have hr := crcOfN_range m v k
  rw [tmod2 _ hd.1] at h
  have h2 : (v / 2 ^ k) % 2 = 0 := by omega
  show Go.bits .xor .u32 _ (Go.bits .and .u32 _ ((-(Go.bits .and .u32 (v / 2 ^ k) 1)) % 4294967296)) = _
  rw [and_one _ hd.1 hd.2, h2]
  show Go.bits .xor .u32 _ (Go.bits .and .u32 _ 0) = _
  rw [and_zero_r, xor_zero_r _ hr.1 hr.2]
def TiRel (w : World) (g : Nat) (m : List Int) (v : Int) (kq : Nat) (v5 v6 : Value) (wr : World) : Prop := ∃ k : Nat, k ≤ 32 ∧ k + kq = 33 ∧ v5 = .int .u32 (crcOfN m v k) ∧ v6 = .int .i64 k ∧ wr.heap[g]? = some (.cells (mcells m) 45 (0, 0)) ∧ Below w.heap.size w wr
set_option maxHeartbeats 1000000 in
set_option maxRecDepth 100000 in
theorem ladingref02_Combine.times.row (m : List Int) (v : Int) (w : World) (hm : MRange m) (h0 : 0 ≤ v) (h1 : v < 4294967296) :
    Calls Try.prog 28 #[.agg (mcells m), .int .u32 v] w fun e w' => e = .returned (.int .u32 (crcOfN m v 32)) ∧ Below w.heap.size w w' := by
  have HM := Aside0.mk hm
  have H0 := Aside0.mk h0
  have H1 := Aside0.mk h1
  clear hm h0 h1
  go_enter Try.func28, Try.ntmps28
  go_wp2
  go_loopg [5, 6] 33 (fun kq v5 v6 wr => TiRel w w.heap.size m v kq v5 v6 wr)
  case atStart => exact ⟨0, by omega, rfl, rfl, rfl, heap_alloc_new w _, below_alloc (Below.refl _ _) _⟩
  case round =>
    obtain ⟨k, hk, hkq, rfl, rfl, hg, hb⟩ := hrel
    have HB := Aside0.mk hb
    have HG := Aside0.mk hg
    have HKQ := Aside0.mk hkq
    clear hb hg hkq
    by_cases hlt : k < 32
    · obtain ⟨kq, rfl⟩ : ∃ q, gk = q + 1 := ⟨gk - 1, by have := HKQ.out; omega⟩
      by_cases ho : (v / 2 ^ k).tmod 2 = 1
      · have o1 : ((v / 2 ^ k).tmod 2 == 1) = true := beq_iff_eq.mpr ho
        have HO := Aside0.mk (crcOfN_odd HM.out hlt H0.out H1.out ho)
        have hx : wr.cell? ⟨w.heap.size, k, none⟩ = some (.int .u32 (m.getD k 0)) := by
          rw [cell_of_row _ _ _ _ _ _ HG.out]
          exact mcells_get (by have := HM.out.1; omega)
        generalize m.getD k 0 = mk at hx HO
        clear ho
        go_wp2_with fail
        go_roundg kq
        case measure => exact Nat.lt_succ_self _
        case rel => exact ⟨k + 1, by omega, by have := HKQ.out; omega, by rw [HO.out], by go_num, HG.out, HB.out⟩
      · have o1 : ((v / 2 ^ k).tmod 2 == 1) = false := beq_eq_false_iff_ne.mpr ho
        have HO := Aside0.mk (crcOfN_even (m := m) H0.out H1.out ho)
        clear ho
        go_wp2_with fail
        go_roundg kq
        case measure => exact Nat.lt_succ_self _
        case rel => exact ⟨k + 1, by omega, by have := HKQ.out; omega, by rw [HO.out], by go_num, HG.out, HB.out⟩
    · obtain rfl : k = 32 := by omega
      go_wp2_with fail
      go_ret
      exact ⟨rfl, HB.out⟩
theorem mcells_size {m : List Int} (h : MRange m) : (mcells m).size = 32 := by simp [mcells, h.1]
theorem ladingref02_Combine.load45 (w : World) (g : Nat) (cs : Array Value) (hg : w.heap[g]? = some (.cells cs 45 (0, 0))) (hs : cs.size = 32) (ev : Operand → Value) (dst : Option Tmp) (x : Operand) (ty : TypeId) (pos : String) (after : Array Edge) (guard : Option (Nat × Bool)) (hx : ev x = .pointer (some ⟨g, 0, none⟩)) :
    Sem.run Try.prog (execOp ev { dst := dst, op := .load 45 x, type := ty, pos := pos, after := after, guard := guard }) w = .ok (.value (.agg cs)) w := by
  have hr := run_loadVar_row (P := Try.prog) w g 45 45 cs (0, 0) _ hg Try.underlying45 rfl (by rw [hs]; kernel_rfl)
  simp only [execOp, hx, Instr.loadAt, Instr.sureAddr, Sem.run_bind, Sem.run_pure, Result.andThen_ok, hr]
structure ladingref02_Combine.SqS (w wr : World) (m : List Int) (k : Nat) : Prop where
  h1 : wr.heap[w.heap.size]? = some (.cells (mcells m) 45 (0, 0))
  h2 : wr.heap[w.heap.size + 1]? = some (.cells (arrUpto .u32 0 (mSq m)) 45 (0, 0))
  h3 : wr.heap[w.heap.size + 2]? = some (.cells (arrUpto .u32 k (mSq m)) 45 (0, 0))
  hb : Below w.heap.size w wr
theorem ladingref02_Combine.SqS.drew {w wr : World} {m : List Int} {k : Nat} (h : ladingref02_Combine.SqS w wr m k) : ladingref02_Combine.SqS w wr.drew m k := ⟨h.h1, h.h2, h.h3, pw_below_drewN h.hb 1⟩
theorem ladingref02_Combine.SqS.below {w wr w2 : World} {m : List Int} {k : Nat} (h : ladingref02_Combine.SqS w wr m k) (hb : Below wr.heap.size wr w2) : ladingref02_Combine.SqS w w2 m k := ⟨blk_below h.h1 hb, blk_below h.h2 hb, blk_below h.h3 hb, below_step h.hb hb⟩
theorem ladingref02_Combine.SqS.next {w wr : World} {m : List Int} {k : Nat} (h : ladingref02_Combine.SqS w wr m k) (hk : k < (mSq m).length) : ladingref02_Combine.SqS w (wr.setCell ⟨w.heap.size + 2, k, none⟩ (.int .u32 ((mSq m).getD k 0))) m (k + 1) :=
  ⟨(heap_setCell_other _ _ _ _ (Nat.ne_of_lt (Nat.lt_succ_of_lt (Nat.lt_succ_self _)))).trans h.h1, (heap_setCell_other _ _ _ _ (Nat.ne_of_lt (Nat.lt_succ_self _))).trans h.h2, by
    have := heap_setCell_same _ _ k _ _ (.int .u32 ((mSq m).getD k 0)) h.h3
    rwa [arrUpto_set _ hk] at this, below_set h.hb (Nat.le_succ_of_le (Nat.le_succ _))⟩
def ladingref02_Combine.SqRel (w : World) (m : List Int) (kq : Nat) (v4 : Value) (wr : World) : Prop := ∃ k : Nat, k ≤ 32 ∧ k + kq = 33 ∧ v4 = .int .i64 k ∧ ladingref02_Combine.SqS w wr m k
set_option maxHeartbeats 4000000 in
set_option maxRecDepth 100000 in
theorem ladingref02_Combine.squared_row (m : List Int) (w : World) (hm : MRange m) :
    Calls Try.prog 29 #[.agg (mcells m)] w fun e w' => e = .returned (.agg (mcells (mSq m))) ∧ Below w.heap.size w w' := by
  have HM := Aside0.mk hm
  clear hm
  have HS : Aside0 ((mSq m).length = 32) := ⟨by rw [mSq_length]; exact HM.out.1⟩
  have HZ0 : Aside0 ((Try.prog.info? 45).map (·.size) = some (mcells m).size) := ⟨by rw [mcells_size HM.out]; kernel_rfl⟩
  go_enter Try.func29, Try.ntmps29
  go_wp2
  go_loopg [4] 33 (fun kq v4 wr => ladingref02_Combine.SqRel w m kq v4 wr)
  case atStart =>
    refine ⟨0, by omega, rfl, rfl, ?_, ?_, ?_, ?_⟩
    · exact blk_alloc (blk_alloc (heap_alloc_new w _) _) _
    · rw [arr32_zero HS.out]; exact blk_alloc (heap_alloc2_new w _ _) _
    · rw [arr32_zero HS.out]; have := heap_alloc2_new (w.alloc (.cells (mcells m) 45)) (.cells (List.replicate 32 (Value.int .u32 0)).toArray 45) (.cells (List.replicate 32 (Value.int .u32 0)).toArray 45)
      rw [show (w.alloc (.cells (mcells m) 45)).heap.size + 1 = w.heap.size + 2 by simp] at this
      exact this
    · exact below_alloc (below_alloc (below_alloc (Below.refl _ _) _) _) _
  case round =>
    obtain ⟨k, hk, hkq, rfl, hs⟩ := hrel
    have SS := Aside0.mk hs
    have HKQ := Aside0.mk hkq
    clear hs hkq
    by_cases hlt : k < 32
    · obtain ⟨kq, rfl⟩ : ∃ q, gk = q + 1 := ⟨gk - 1, by have := HKQ.out; omega⟩
      have HLT : Aside0 (k < (mSq m).length) := ⟨by rw [HS.out]; exact hlt⟩
      have hr := HM.out.at_ hlt
      have HX : Aside0 (∀ W, ladingref02_Combine.SqS w W m k → W.cell? ⟨w.heap.size, k, none⟩ = some (.int .u32 (m.getD k 0))) := ⟨fun W h => by
        rw [cell_of_row _ _ _ _ _ _ h.h1]
        exact mcells_get (by have := HM.out.1; omega)⟩
      have HC : Aside0 (∀ W, ladingref02_Combine.SqS w W m k → W.cell? ⟨w.heap.size + 2, k, none⟩ = some (.int .u32 0)) := ⟨fun W h => by
        rw [cell_of_row _ _ _ _ _ _ h.h3]
        exact arrUpto_get _ HLT.out⟩
      have HMK : Aside0 ((mSq m).getD k 0 = crcOfN m (m.getD k 0) 32) := ⟨mSq_getD (by have := HM.out.1; omega)⟩
      generalize hmk : m.getD k 0 = mk at HX HMK hr
      clear hmk
      have HR := Aside0.mk hr
      clear hr
      go_wp2_with fail
      refine start_ (n := 8) (S := fun w' => ladingref02_Combine.SqS w w' m k ∧ w'.cell? ⟨w.heap.size, k, none⟩ = some (.int .u32 mk)) (ds := [7]) #[false, false, false, false, false, false, false, false] (by kernel_rfl) rfl rfl ⟨SS.out.drew, (HX.out _ SS.out.drew)⟩ (fun hHeld => ?_)
      refine pure_ (i := 0) (N := some 9) (v := ?_) (a' := ?_) #[true, false, false, false, false, false, false, false] rfl rfl (by kernel_rfl) (fun _ _ _ h => h) (Or.inl ⟨by rfl, ?_⟩) ?_ ?_
      rotate_left
      · intro w'
        go_simp
        with_reducible rfl
      rotate_left
      · simp only [Act.put, List.setIfInBounds_toArray, List.set_cons_zero, List.set_cons_succ, i64_w, i32_w]
        rfl
      refine pure_ (i := 2) (N := some 11) (v := ?_) (a' := ?_) #[true, false, true, false, false, false, false, false] rfl rfl (by kernel_rfl) (fun _ _ _ h => h) (Or.inl ⟨by rfl, ?_⟩) ?_ ?_
      rotate_left
      · intro w'
        go_simp
        with_reducible rfl
      rotate_left
      · simp only [Act.put, List.setIfInBounds_toArray, List.set_cons_zero, List.set_cons_succ, i64_w, i32_w]
        rfl
      refine pure_ (i := 3) (N := some 12) (v := ?_) (a' := ?_) #[true, false, true, true, false, false, false, false] rfl rfl (by kernel_rfl) (fun _ _ _ h => h) (Or.inl ⟨by rfl, ?_⟩) ?_ ?_
      rotate_left
      · intro w'
        go_simp
        with_reducible rfl
      rotate_left
      · simp only [Act.put, List.setIfInBounds_toArray, List.set_cons_zero, List.set_cons_succ, i64_w, i32_w]
        rfl
      refine take_ (i := 4) (N := some 13) (v := ?_) (a' := ?_) #[true, false, true, true, true, false, false, false] rfl rfl (by kernel_rfl) (fun _ _ _ h => h) (Or.inl ⟨by rfl, ?_⟩) hHeld ?_ ?_
      rotate_left
      · rintro w' ⟨s0, s1⟩
        go_simp
        with_reducible rfl
      rotate_left
      · simp only [Act.put, List.setIfInBounds_toArray, List.set_cons_zero, List.set_cons_succ, i64_w, i32_w]
        rfl
      refine one_ (i := 1) (N := some 10) #[true, true, true, true, true, false, false, false] rfl rfl (by kernel_rfl) (by decide) (fun K hK => ?_)
      obtain ⟨SH, SX⟩ := hHeld
      refine value_ (v := .agg (mcells m)) (by rfl) rfl (ladingref02_Combine.load45 _ _ _ SH.h1 (mcells_size HM.out) _ _ _ _ _ _ _ rfl) ?_
      refine hK.out _ _ ⟨SH, SX⟩ (fun hHeld => ?_)
      clear hK K
      refine norm_ (a' := ?_) ?_ ?_
      rotate_left
      · show Act.put _ (some 10) _ = _
        simp only [Act.put, List.setIfInBounds_toArray, List.set_cons_zero, List.set_cons_succ, i64_w, i32_w]
        rfl
      refine one_ (i := 5) (N := some 14) #[true, true, true, true, true, true, false, false] rfl rfl (by kernel_rfl) (by decide) (fun K hK => ?_)
      refine goes_ Try.func28 (by kernel_rfl) rfl #[.agg (mcells m), .int .u32 mk] (by rfl) rfl rfl (by (try simp only [List.map_toArray, List.map_cons, List.map_nil]); first | done | rfl | (simp only [List.length_drop, List.length_take]; rfl)) ?_
      with_reducible refine (ladingref02_Combine.times.row m mk _ HM.out HR.out.1 HR.out.2).mono ?_
      rintro e w3 ⟨rfl, hb3⟩
      obtain ⟨SH, SX⟩ := hHeld
      have SH3 := SH.below hb3
      refine ⟨_, rfl, ?_⟩
      refine hK.out _ _ ⟨SH3, (HX.out _ SH3)⟩ (fun hHeld => ?_)
      clear hK K
      refine norm_ (a' := ?_) ?_ ?_
      rotate_left
      · show Act.put _ (some 14) _ = _
        simp only [Act.put, List.setIfInBounds_toArray, List.set_cons_zero, List.set_cons_succ, i64_w, i32_w]
        rfl
      refine pure_ (i := 6) (N := some 15) (v := ?_) (a' := ?_) #[true, true, true, true, true, true, true, false] rfl rfl (by kernel_rfl) (fun _ _ _ h => h) (Or.inl ⟨by rfl, ?_⟩) ?_ ?_
      rotate_left
      · intro w'
        go_simp
        with_reducible rfl
      rotate_left
      · simp only [Act.put, List.setIfInBounds_toArray, List.set_cons_zero, List.set_cons_succ, i64_w, i32_w]
        rfl
      refine last_ (i := 7) (N := none) #[true, true, true, true, true, true, true, true] rfl rfl (by kernel_rfl) (by decide) (fun K hK => ?_)
      obtain ⟨SH, SX⟩ := hHeld
      have hc := HC.out _ SH
      have hf := frozen_of_row _ _ k _ _ SH.h3
      refine skip_ (w1 := ?_) (by rfl) rfl ?_ ?_
      rotate_left
      · go_simp
        rfl
      have SN := SH.next HLT.out
      rw [HMK.out] at SN
      refine hK.out _ _ ?_
      clear hK K
      refine done_ (by kernel_rfl) ?_
      go_wp2_with fail
      go_roundg kq
      case measure => exact Nat.lt_succ_self _
      case rel => exact ⟨k + 1, by omega, by have := HKQ.out; omega, by go_num, SN⟩
    · obtain rfl : k = 32 := by omega
      have e32 : arrUpto .u32 32 (mSq m) = mcells (mSq m) := by
        have := mcells_full (mSq m)
        rwa [HS.out] at this
      have H3' := Aside0.mk (e32 ▸ SS.out.h3)
      have H2 := Aside0.mk SS.out.h2
      have HB := Aside0.mk SS.out.hb
      have HZ : Aside0 ((mcells (mSq m)).size = 32) := ⟨by simp [mcells, HS.out]⟩
      have HO : Aside0 ((arrUpto .u32 0 (mSq m)).size = 32) := ⟨by rw [arrUpto_size]; exact HS.out⟩
      have HA : Aside0 ((mcells (mSq m)).all (·.oneCell') = true) := ⟨by simp [mcells]; intro x _; rfl⟩
      have HI : Aside0 ((Try.prog.info? 45).map (·.size) = some (mcells (mSq m)).size) := ⟨by rw [HZ.out]; kernel_rfl⟩
      clear e32 SS hlt
      go_wp2_with (first | (with_reducible refine wpList_load_row rfl 45 (.tmp 3) rfl (w.heap.size + 2) rfl 45 _ (0, 0) _ H3'.out Try.underlying45 rfl HI.out ?_) | (refine wpList_store_row rfl 45 (.tmp 2) (.tmp 16) rfl (w.heap.size + 1) _ rfl rfl 45 _ H2.out HI.out (HO.out.trans HZ.out.symm) HA.out ?_))
      refine bodyPost_ret (results_cell_row rfl _ _ (w.heap.size + 1) 45 _ (0, 0) _ rfl (setRow_heap _ _ _ _ _ _ H2.out) Try.underlying45 rfl HI.out) rfl ⟨rfl, ?_⟩
      exact below_setRow HB.out (Nat.le_succ _) _
theorem ladingref02_Combine.M0_bits : ∀ k : Nat, k < 32 → ladingref02_bits.f 9 ((2 : Int) ^ k % 4294967296) = some (crcM0.getD k 0) := by decide +kernel
def ladingref02_Combine.CoRel1 (w : World) (g : Nat) (kq : Nat) (v9 : Value) (wr : World) : Prop := ∃ k : Nat, k ≤ 32 ∧ k + kq = 33 ∧ v9 = .int .i64 k ∧ wr.heap[g]? = some (.cells (arrUpto .u32 k crcM0) 45 (0, 0)) ∧ Below w.heap.size w wr
def ladingref02_Combine.CoRel2 (w : World) (g : Nat) (r : Int) (b : Int) (kq : Nat) (v0 v2 : Value) (wr : World) : Prop := ∃ (m : List Int) (a n : Int), MRange m ∧ 0 ≤ a ∧ a < 4294967296 ∧ 0 ≤ n ∧ n < 2 ^ kq ∧ n ≤ 2147483648 ∧ v0 = .int .u32 a ∧ v2 = .int .i64 n ∧ wr.heap[g]? = some (.cells (mcells m) 45 (0, 0)) ∧ crcGo kq m a n = r ∧ Below w.heap.size w wr
set_option maxHeartbeats 2000000 in
set_option maxRecDepth 100000 in
theorem ladingref02_Combine.yes (a b n : Int) (w : World) (h0 : 0 ≤ a) (h1 : a < 4294967296) (hn0 : 0 ≤ n) (hn1 : n ≤ 2147483648) :
    Calls Try.prog 22 #[.int .u32 a, .int .u32 b, .int .i64 n] w fun e w' => e = .returned (.tuple #[.int .u32 (Go.bits .xor .u32 (crcGo 33 crcM0 a n) b), .int .i64 0]) ∧ Below w.heap.size w w' := by
  have H0 := Aside0.mk h0
  have H1 := Aside0.mk h1
  have t1 : decide (n < 0) = false := decide_eq_false (by omega)
  have t2 : decide (2147483648 < n) = false := decide_eq_false (by omega)
  have HN := Aside0.mk (And.intro hn0 hn1)
  clear h0 h1 hn0 hn1
  go_enter Try.func22, Try.ntmps22
  go_wp2
  go_loopg [9] 33 (fun kq v9 wr => ladingref02_Combine.CoRel1 w w.heap.size kq v9 wr)
  case atStart =>
    refine ⟨0, by omega, rfl, rfl, ?_, below_alloc (Below.refl _ _) _⟩
    rw [arr32_zero crcM0_range.1]; exact heap_alloc_new w _
  case round =>
    obtain ⟨k, hk, hkq, rfl, h1, hb⟩ := hrel
    have HB := Aside0.mk hb
    have HG := Aside0.mk h1
    have HKQ := Aside0.mk hkq
    clear hb h1 hkq
    by_cases hlt : k < 32
    · obtain ⟨kq, rfl⟩ : ∃ q, gk = q + 1 := ⟨gk - 1, by have := HKQ.out; omega⟩
      have HS := Aside0.mk (ladingref02_Combine.M0_bits k hlt)
      go_wp2_with fail
      refine (ladingref02_bits.calls 9 _ _ _ HS.out).mono ?_
      rintro e w' ⟨rfl, ⟨nd, rfl⟩⟩
      have hc : wr.cell? ⟨w.heap.size, k, none⟩ = some (.int .u32 0) := by
        rw [cell_of_row _ _ _ _ _ _ HG.out]
        exact arrUpto_get _ (by rw [crcM0_range.1]; exact hlt)
      have hf : wr.frozen? ⟨w.heap.size, k, none⟩ = false := frozen_of_row _ _ _ _ _ HG.out
      go_wp2_with fail
      go_roundg kq
      case measure => exact Nat.lt_succ_self _
      case rel =>
        refine ⟨k + 1, by omega, by have := HKQ.out; omega, by go_num, ?_, ?_⟩
        · have := heap_setCell_same _ _ k _ _ (.int .u32 (crcM0.getD k 0)) HG.out
          rw [arrUpto_set _ (by rw [crcM0_range.1]; exact hlt)] at this
          exact this
        · exact below_set (pw_below_drewN HB.out _) (Nat.le_refl _)
    · obtain rfl : k = 32 := by omega
      have HG' := Aside0.mk (mcells_full crcM0 ▸ HG.out)
      clear HG hlt HKQ
      go_wp2_with fail
      go_loopg [0, 2] 33 (fun kq v0 v2 wr => ladingref02_Combine.CoRel2 w w.heap.size (crcGo 33 crcM0 a n) b kq v0 v2 wr)
      case atStart => exact ⟨crcM0, a, n, crcM0_range, H0.out, H1.out, HN.out.1, by have := HN.out.2; omega, HN.out.2, rfl, rfl, HG'.out, rfl, HB.out⟩
      case round =>
        clear HG' HB H0 H1 HN t1 t2
        obtain ⟨m, a', n', hm, ha0, ha1, hn0, hn1, hn2, rfl, rfl, h1, hr, hb⟩ := hrel
        have HB := Aside0.mk hb
        have HG := Aside0.mk h1
        have HM := Aside0.mk hm
        have HR := Aside0.mk hr
        have HA := Aside0.mk (And.intro ha0 ha1)
        have HN := Aside0.mk (And.intro hn0 (And.intro hn1 hn2))
        have HI : Aside0 ((Try.prog.info? 45).map (·.size) = some (mcells m).size) := ⟨by rw [mcells_size hm]; kernel_rfl⟩
        clear hb h1 hm hr ha0 ha1 hn1
        by_cases hpos : 0 < n'
        · have d1 : decide (0 < n') = true := decide_eq_true hpos
          obtain ⟨kq, rfl⟩ : ∃ q, gk = q + 1 := by
            cases gk with
            | zero => have := HN.out.2.1; omega
            | succ q => exact ⟨q, rfl⟩
          have HN2 : Aside0 (0 ≤ n' / 2 ∧ n' / 2 < 2 ^ kq ∧ n' / 2 ≤ 2147483648) := ⟨by
            have h := HN.out
            have hp : (2 : Int) ^ (kq + 1) = 2 ^ kq * 2 := Int.pow_succ 2 kq
            omega⟩
          by_cases hodd : n' % 2 = 1
          · have o1 : (n' % 2 == 1) = true := beq_iff_eq.mpr hodd
            have HRR : Aside0 (crcGo kq (mSq m) (crcOfN m a' 32) (n' / 2) = crcGo 33 crcM0 a n) := ⟨by
              have := HR.out
              rw [crcGo, if_pos hpos, if_pos hodd] at this
              exact this⟩
            clear HR hodd hpos
            go_wp2_with (refine wpList_load_row rfl 45 (.tmp 8) rfl w.heap.size rfl 45 _ (0, 0) _ HG.out Try.underlying45 rfl HI.out ?_)
            refine (ladingref02_Combine.times.row m a' _ HM.out HA.out.1 HA.out.2).mono ?_
            rintro e w2 ⟨rfl, hb2⟩
            have HG1 := Aside0.mk (blk_below HG.out hb2)
            have HB1 := Aside0.mk (below_step HB.out hb2)
            clear hb2 HG HB
            go_wp2_with (refine wpList_load_row rfl 45 (.tmp 8) rfl w.heap.size rfl 45 _ (0, 0) _ HG1.out Try.underlying45 rfl HI.out ?_)
            refine (ladingref02_Combine.squared_row m _ HM.out).mono ?_
            rintro e w3 ⟨rfl, hb3⟩
            have HG2 := Aside0.mk (blk_below HG1.out hb3)
            have HB2 := Aside0.mk (below_step HB1.out hb3)
            have HZ : Aside0 ((Try.prog.info? 45).map (·.size) = some (mcells (mSq m)).size) := ⟨by rw [mcells_size (mSq_range HM.out)]; kernel_rfl⟩
            have HO : Aside0 ((mcells m).size = (mcells (mSq m)).size) := ⟨by simp [mcells, mSq_length]⟩
            have HA2 : Aside0 ((mcells (mSq m)).all (·.oneCell') = true) := ⟨by simp [mcells]; intro x _; rfl⟩
            clear hb3 HG1 HB1
            go_wp2_with (refine wpList_store_row rfl 45 (.tmp 8) (.tmp 35) rfl w.heap.size _ rfl rfl 45 _ HG2.out HZ.out HO.out HA2.out ?_)
            go_roundg kq
            case measure => exact Nat.lt_succ_self _
            case rel =>
              exact ⟨mSq m, crcOfN m a' 32, n' / 2, mSq_range HM.out, (crcOfN_range m a' 32).1, (crcOfN_range m a' 32).2, HN2.out.1, HN2.out.2.1, HN2.out.2.2, rfl, rfl, setRow_heap _ _ _ _ _ _ HG2.out, HRR.out, below_setRow HB2.out (Nat.le_refl _) _⟩
          · have o1 : (n' % 2 == 1) = false := beq_eq_false_iff_ne.mpr hodd
            have HRR : Aside0 (crcGo kq (mSq m) a' (n' / 2) = crcGo 33 crcM0 a n) := ⟨by
              have := HR.out
              rw [crcGo, if_pos hpos, if_neg hodd] at this
              exact this⟩
            clear HR hodd hpos
            go_wp2_with (refine wpList_load_row rfl 45 (.tmp 8) rfl w.heap.size rfl 45 _ (0, 0) _ HG.out Try.underlying45 rfl HI.out ?_)
            refine (ladingref02_Combine.squared_row m _ HM.out).mono ?_
            rintro e w3 ⟨rfl, hb3⟩
            have HG2 := Aside0.mk (blk_below HG.out hb3)
            have HB2 := Aside0.mk (below_step HB.out hb3)
            have HZ : Aside0 ((Try.prog.info? 45).map (·.size) = some (mcells (mSq m)).size) := ⟨by rw [mcells_size (mSq_range HM.out)]; kernel_rfl⟩
            have HO : Aside0 ((mcells m).size = (mcells (mSq m)).size) := ⟨by simp [mcells, mSq_length]⟩
            have HA2 : Aside0 ((mcells (mSq m)).all (·.oneCell') = true) := ⟨by simp [mcells]; intro x _; rfl⟩
            clear hb3 HG HB
            go_wp2_with (refine wpList_store_row rfl 45 (.tmp 8) (.tmp 35) rfl w.heap.size _ rfl rfl 45 _ HG2.out HZ.out HO.out HA2.out ?_)
            go_roundg kq
            case measure => exact Nat.lt_succ_self _
            case rel =>
              exact ⟨mSq m, a', n' / 2, mSq_range HM.out, HA.out.1, HA.out.2, HN2.out.1, HN2.out.2.1, HN2.out.2.2, rfl, rfl, setRow_heap _ _ _ _ _ _ HG2.out, HRR.out, below_setRow HB2.out (Nat.le_refl _) _⟩
        · have d1 : decide (0 < n') = false := decide_eq_false hpos
          have HRR : Aside0 (a' = crcGo 33 crcM0 a n) := ⟨by
            have := HR.out
            cases gk with
            | zero => exact this
            | succ q => rw [crcGo, if_neg hpos] at this; exact this⟩
          clear HR
          go_wp2_with fail
          go_ret2
          exact ⟨by rw [← HRR.out]; rfl, HB.out⟩

def ladingref02_Combine.f (a b n : Int) : Option (Int × Int) := if 0 ≤ a ∧ a < 4294967296 then (if n < 0 then some (0, 2) else if 2147483648 < n then some (0, 2) else some (Go.bits .xor .u32 (crcGo 33 crcM0 a n) b, 0)) else none
set_option maxHeartbeats 1000000 in
set_option maxRecDepth 100000 in
theorem ladingref02_Combine.calls (a0 : Int) (a1 : Int) (a2 : Int) (r1 : Int) (r2 : Int) (w : World) (h : ladingref02_Combine.f a0 a1 a2 = some (r1, r2)) :
    Calls Try.prog 22 #[.int .u32 a0, .int .u32 a1, .int .i64 a2] w fun e w' => e = .returned (.tuple #[.int .u32 r1, .int .i64 r2]) ∧ Below w.heap.size w w' := by
  unfold ladingref02_Combine.f at h
  by_cases ha : 0 ≤ a0 ∧ a0 < 4294967296
  · rw [if_pos ha] at h
    by_cases h0 : a2 < 0
    · rw [if_pos h0] at h
      simp only [Option.some.injEq, Prod.mk.injEq] at h
      obtain ⟨rfl, rfl⟩ := h
      have t1 : decide (a2 < 0) = true := decide_eq_true h0
      clear ha h0
      go_enter Try.func22, Try.ntmps22
      go_wp2
      go_ret2
      exact ⟨rfl, Below.refl _ _⟩
    · rw [if_neg h0] at h
      by_cases h1 : 2147483648 < a2
      · rw [if_pos h1] at h
        simp only [Option.some.injEq, Prod.mk.injEq] at h
        obtain ⟨rfl, rfl⟩ := h
        have t1 : decide (a2 < 0) = false := decide_eq_false h0
        have t2 : decide (2147483648 < a2) = true := decide_eq_true h1
        clear ha h0 h1
        go_enter Try.func22, Try.ntmps22
        go_wp2
        go_ret2
        exact ⟨rfl, Below.refl _ _⟩
      · rw [if_neg h1] at h
        simp only [Option.some.injEq, Prod.mk.injEq] at h
        obtain ⟨rfl, rfl⟩ := h
        exact ladingref02_Combine.yes a0 a1 a2 w ha.1 ha.2 (by omega) (by omega)
  · rw [if_neg ha] at h
    cases h


end Go.Proofs.Ytmplpfcilllmaaa.Print
