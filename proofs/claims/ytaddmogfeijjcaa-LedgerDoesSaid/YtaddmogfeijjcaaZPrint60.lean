-- What the claim uses alone (wip/slim.py). Lean checks it.
import Derived.Test.YtaddmogfeijjcaaZAb
import Derived.Test.YtaddmogfeijjcaaZPrint7
import Derived.Test.YtaddmogfeijjcaaZPrint19
import Derived.Test.YtaddmogfeijjcaaZPrint20
import Derived.Test.YtaddmogfeijjcaaZPrint24
import Derived.Test.YtaddmogfeijjcaaZPrint25
import Derived.Test.YtaddmogfeijjcaaZPrint27
import Derived.Test.YtaddmogfeijjcaaZPrint28
import Derived.Test.YtaddmogfeijjcaaZPrint30
import Derived.Test.YtaddmogfeijjcaaZPrint32
import Derived.Test.YtaddmogfeijjcaaZPrint36
import Derived.Test.YtaddmogfeijjcaaZPrint39
import Derived.Test.YtaddmogfeijjcaaZPrint40
import Derived.Test.YtaddmogfeijjcaaZPrint42
import Derived.Test.YtaddmogfeijjcaaZPrint43
import Derived.Test.YtaddmogfeijjcaaZPrint44
import Derived.Test.YtaddmogfeijjcaaZPrint47
namespace Go.Proofs.Ytaddmogfeijjcaa.Print
open Go.RowKit Go.Proofs.YtaddmogfeijjcaaW.PrintWords Go.Proofs.YtaddmogfeijjcaaW.PrintLast Go.Proofs.YtaddmogfeijjcaaW.PrintMore
attribute [local go_sem] max2_mx min2_mn max_two min_two max_three min_three max_four min_four
set_option linter.unusedVariables false
set_option linter.unusedSimpArgs false
attribute [local go_sem high] eqA31
def ladinglaw14_LedgerDoes.j0 : Nat → Int → Int → Bool → List (S31) → List (S55) → List (S31) → List (S55) → Option (Bool)
 | 0, _, _, _, _, _, _, _ => none
 | k + 1, x1, x3, x143, x254000, x254001, x261000, x261001 => if x143 = true then (none) else ((ledger_Pay.f x261000 x261001 x1).bind fun bt333 => ((ladingref14_Pay.f k x254000 x254001 x1).bind fun bt339 => ((ledger_Balance.f k x261000 x261001 x3).bind fun bt345 => ((ladingref14_Balance.f k x254000 x254001 x3).bind fun bt347 => ((ladinglaw14_lives.f).bind fun t349 => (if t349 = true then (if (bt333.1 == bt339.1 && (bt333.2.1 == bt339.2.1 && (bt333.2.2.1 == bt339.2.2.1 && (bt333.2.2.2.1 == bt339.2.2.2.1)))) = true then (if bt333.2.2.2.2 = bt339.2.2.2.2 then (if bt345.1 = bt347.1 then (if bt345.2 = bt347.2 then ((ledger_Check.f x261000 x261001).bind fun t350 => ((ladingref14_Check.f x254000 x254001).bind fun t351 => (if t350 = t351 then ((ladingref14_Same.f k x261000 x261001 x254000 x254001).bind fun t352 => (some t352)) else (none)))) else (none)) else (none)) else (none)) else (none)) else (none)))))))
def ladinglaw14_LedgerDoes.f (k : Nat) (l0_0 : List (S31)) (l0_1 : List (S55)) (a1 : Int) (a2 : Int) (a3 : Int) : Option (Bool) := (ladingref14_Copy.f l0_0 l0_1).bind fun bt254 => ((ledger_Authorise.f bt254.1 bt254.2 a1 a2).bind fun bt261 => ((ladingref14_Authorise.f k l0_0 l0_1 a1 a2).bind fun bt269 => ((ledger_Void.f bt254.1 bt254.2 a1).bind fun bt277 => ((ladingref14_Void.f k l0_0 l0_1 a1).bind fun bt286 => ((ledger_Capture.f bt254.1 bt254.2 a1).bind fun bt295 => ((ladingref14_Capture.f k l0_0 l0_1 a1).bind fun bt304 => ((ledger_Refund.f bt254.1 bt254.2 a1 a2).bind fun bt313 => ((ladingref14_Refund.f k l0_0 l0_1 a1 a2).bind fun bt321 => ((ladingref14_Same.f k bt261.1 bt261.2.1 bt269.1 bt269.2.1).bind fun t329 => (if t329 = true then (if bt261.2.2 = bt269.2.2 then ((ladingref14_Same.f k bt277.1 bt277.2.1 bt286.1 bt286.2.1).bind fun t330 => (if t330 = true then (if bt277.2.2.1 = bt286.2.2.1 then (if bt277.2.2.2 = bt286.2.2.2 then ((ladingref14_Same.f k bt295.1 bt295.2.1 bt304.1 bt304.2.1).bind fun t331 => (if t331 = true then (if bt295.2.2.1 = bt304.2.2.1 then (if bt295.2.2.2 = bt304.2.2.2 then ((ladingref14_Same.f k bt313.1 bt313.2.1 bt321.1 bt321.2.1).bind fun t332 => (if t332 = true then (ladinglaw14_LedgerDoes.j0 k a1 a3 (bt313.2.2 != bt321.2.2) l0_0 l0_1 bt254.1 bt254.2) else (none))) else (none)) else (none)) else (none))) else (none)) else (none)) else (none))) else (none)) else (none)))))))))))
def ladinglaw14_LedgerDoes.T16 : Bool × List (List Nat × List Nat) := (true, [([], []), ([0, 0], [0]), ([1], [1]), ([1], [1]), ([2, 3, 1], [1, 2, 3]), ([1, 4], [1, 4]), ([5, 1], [5]), ([6], [6]), ([6], [6]), ([7, 8, 6], [6, 7, 8]), ([6, 9], [6, 9]), ([10, 6], [10]), ([11], [11]), ([11], [11]), ([12, 13, 11], [11, 12, 13]), ([11, 14], [11, 14]), ([15, 11], [15]), ([16], [16]), ([16], [16]), ([17, 18, 16], [16, 17, 18]), ([16, 19], [16, 19]), ([20, 16], [20]), ([21], [21]), ([22, 21, 21], [21, 22]), ([21], [21]), ([24, 23, 21], [21, 24]), ([23, 25, 21], [21, 23, 25]), ([21, 26], [21, 26]), ([27, 25], [27]), ([28], [28]), ([28], [28]), ([29, 30, 28, 28], [28, 29, 30]), ([28, 31], [28, 31]), ([32, 31, 0, 1, 2, 3, 4, 5, 6, 7, 8, 9, 10, 11, 12, 13, 14, 15, 16, 17, 18, 19, 20, 21, 22, 23, 24, 25, 26, 27, 28, 29, 30, 31, 32], [32])])
def ladinglaw14_LedgerDoes.B16 : List Nat := [0, 1, 3, 3, 15, 31, 63, 127, 127, 511, 1023, 2047, 4095, 4095, 16383, 32767, 65535, 131071, 131071, 524287, 1048575, 2097151, 4194303, 8388607, 4194303, 33554431, 67108863, 134217727, 268435455, 536870911, 536870911, 2147483647, 4294967295, 8589934591]
theorem ladinglaw14_LedgerDoes.tab16 : rtab .any (opsOf Try.f5 16) = ladinglaw14_LedgerDoes.T16 := by kernel_rfl
theorem ladinglaw14_LedgerDoes.bits16 : waitsOk ladinglaw14_LedgerDoes.T16.2 ladinglaw14_LedgerDoes.B16 = true := by kernel_rfl
set_option maxHeartbeats 8000000 in
set_option maxRecDepth 100000 in
theorem ladinglaw14_LedgerDoes.calls (k : Nat) (A0_0 : Option Addr) (c0_0 : Nat) (l0_0 : List (S31)) (A0_1 : Option Addr) (c0_1 : Nat) (l0_1 : List (S55)) (a1 : Int) (a2 : Int) (a3 : Int) (r : Bool) (w : World) (hr0_0 : Kd.C k31 w A0_0 l0_0.length l0_0) (hc0_0 : l0_0.length ≤ c0_0) (hr0_1 : Kd.C k55 w A0_1 l0_1.length l0_1) (hc0_1 : l0_1.length ≤ c0_1) (h : ladinglaw14_LedgerDoes.f k l0_0 l0_1 a1 a2 a3 = some r) :
  Calls Try.prog 5 #[.agg #[.slice A0_0 l0_0.length c0_0, .slice A0_1 l0_1.length c0_1], .int .i64 a1, .int .i64 a2, .int .u8 a3] w fun e w' => e = .returned (.bool r) ∧ Below w.heap.size w w' := by
 have hu25 := Try.underlying25
 have hu31 := Try.underlying31
 have HR0_0 := Aside0.mk hr0_0
 have HC0_0 := Aside0.mk hc0_0
 clear hr0_0 hc0_0
 have HR0_1 := Aside0.mk hr0_1
 have HC0_1 := Aside0.mk hc0_1
 clear hr0_1 hc0_1
 have HB := Aside0.mk (Below.refl w.heap.size w)
 have H : ((ladingref14_Copy.f l0_0 l0_1).bind fun bt254 => ((ledger_Authorise.f bt254.1 bt254.2 a1 a2).bind fun bt261 => ((ladingref14_Authorise.f k l0_0 l0_1 a1 a2).bind fun bt269 => ((ledger_Void.f bt254.1 bt254.2 a1).bind fun bt277 => ((ladingref14_Void.f k l0_0 l0_1 a1).bind fun bt286 => ((ledger_Capture.f bt254.1 bt254.2 a1).bind fun bt295 => ((ladingref14_Capture.f k l0_0 l0_1 a1).bind fun bt304 => ((ledger_Refund.f bt254.1 bt254.2 a1 a2).bind fun bt313 => ((ladingref14_Refund.f k l0_0 l0_1 a1 a2).bind fun bt321 => ((ladingref14_Same.f k bt261.1 bt261.2.1 bt269.1 bt269.2.1).bind fun t329 => (if t329 = true then (if bt261.2.2 = bt269.2.2 then ((ladingref14_Same.f k bt277.1 bt277.2.1 bt286.1 bt286.2.1).bind fun t330 => (if t330 = true then (if bt277.2.2.1 = bt286.2.2.1 then (if bt277.2.2.2 = bt286.2.2.2 then ((ladingref14_Same.f k bt295.1 bt295.2.1 bt304.1 bt304.2.1).bind fun t331 => (if t331 = true then (if bt295.2.2.1 = bt304.2.2.1 then (if bt295.2.2.2 = bt304.2.2.2 then ((ladingref14_Same.f k bt313.1 bt313.2.1 bt321.1 bt321.2.1).bind fun t332 => (if t332 = true then (ladinglaw14_LedgerDoes.j0 k a1 a3 (bt313.2.2 != bt321.2.2) l0_0 l0_1 bt254.1 bt254.2) else (none))) else (none)) else (none)) else (none))) else (none)) else (none)) else (none))) else (none)) else (none)))))))))))) = some r := h
 clear h
 replace H := Option.bind_eq_some_iff.mp H
 obtain ⟨⟨t254, t257⟩, A50, H⟩ := H
 replace H : ((ledger_Authorise.f t254 t257 a1 a2).bind fun bt261 => ((ladingref14_Authorise.f k l0_0 l0_1 a1 a2).bind fun bt269 => ((ledger_Void.f t254 t257 a1).bind fun bt277 => ((ladingref14_Void.f k l0_0 l0_1 a1).bind fun bt286 => ((ledger_Capture.f t254 t257 a1).bind fun bt295 => ((ladingref14_Capture.f k l0_0 l0_1 a1).bind fun bt304 => ((ledger_Refund.f t254 t257 a1 a2).bind fun bt313 => ((ladingref14_Refund.f k l0_0 l0_1 a1 a2).bind fun bt321 => ((ladingref14_Same.f k bt261.1 bt261.2.1 bt269.1 bt269.2.1).bind fun t329 => (if t329 = true then (if bt261.2.2 = bt269.2.2 then ((ladingref14_Same.f k bt277.1 bt277.2.1 bt286.1 bt286.2.1).bind fun t330 => (if t330 = true then (if bt277.2.2.1 = bt286.2.2.1 then (if bt277.2.2.2 = bt286.2.2.2 then ((ladingref14_Same.f k bt295.1 bt295.2.1 bt304.1 bt304.2.1).bind fun t331 => (if t331 = true then (if bt295.2.2.1 = bt304.2.2.1 then (if bt295.2.2.2 = bt304.2.2.2 then ((ladingref14_Same.f k bt313.1 bt313.2.1 bt321.1 bt321.2.1).bind fun t332 => (if t332 = true then (ladinglaw14_LedgerDoes.j0 k a1 a3 (bt313.2.2 != bt321.2.2) l0_0 l0_1 t254 t257) else (none))) else (none)) else (none)) else (none))) else (none)) else (none)) else (none))) else (none)) else (none))))))))))) = some r := H
 have A5 := Aside0.mk A50
 clear A50
 replace H := Option.bind_eq_some_iff.mp H
 obtain ⟨⟨t261, t264, t267⟩, A60, H⟩ := H
 replace H : ((ladingref14_Authorise.f k l0_0 l0_1 a1 a2).bind fun bt269 => ((ledger_Void.f t254 t257 a1).bind fun bt277 => ((ladingref14_Void.f k l0_0 l0_1 a1).bind fun bt286 => ((ledger_Capture.f t254 t257 a1).bind fun bt295 => ((ladingref14_Capture.f k l0_0 l0_1 a1).bind fun bt304 => ((ledger_Refund.f t254 t257 a1 a2).bind fun bt313 => ((ladingref14_Refund.f k l0_0 l0_1 a1 a2).bind fun bt321 => ((ladingref14_Same.f k t261 t264 bt269.1 bt269.2.1).bind fun t329 => (if t329 = true then (if t267 = bt269.2.2 then ((ladingref14_Same.f k bt277.1 bt277.2.1 bt286.1 bt286.2.1).bind fun t330 => (if t330 = true then (if bt277.2.2.1 = bt286.2.2.1 then (if bt277.2.2.2 = bt286.2.2.2 then ((ladingref14_Same.f k bt295.1 bt295.2.1 bt304.1 bt304.2.1).bind fun t331 => (if t331 = true then (if bt295.2.2.1 = bt304.2.2.1 then (if bt295.2.2.2 = bt304.2.2.2 then ((ladingref14_Same.f k bt313.1 bt313.2.1 bt321.1 bt321.2.1).bind fun t332 => (if t332 = true then (ladinglaw14_LedgerDoes.j0 k a1 a3 (bt313.2.2 != bt321.2.2) l0_0 l0_1 t254 t257) else (none))) else (none)) else (none)) else (none))) else (none)) else (none)) else (none))) else (none)) else (none)))))))))) = some r := H
 have A6 := Aside0.mk A60
 clear A60
 replace H := Option.bind_eq_some_iff.mp H
 obtain ⟨⟨t269, t272, t275⟩, A70, H⟩ := H
 replace H : ((ledger_Void.f t254 t257 a1).bind fun bt277 => ((ladingref14_Void.f k l0_0 l0_1 a1).bind fun bt286 => ((ledger_Capture.f t254 t257 a1).bind fun bt295 => ((ladingref14_Capture.f k l0_0 l0_1 a1).bind fun bt304 => ((ledger_Refund.f t254 t257 a1 a2).bind fun bt313 => ((ladingref14_Refund.f k l0_0 l0_1 a1 a2).bind fun bt321 => ((ladingref14_Same.f k t261 t264 t269 t272).bind fun t329 => (if t329 = true then (if t267 = t275 then ((ladingref14_Same.f k bt277.1 bt277.2.1 bt286.1 bt286.2.1).bind fun t330 => (if t330 = true then (if bt277.2.2.1 = bt286.2.2.1 then (if bt277.2.2.2 = bt286.2.2.2 then ((ladingref14_Same.f k bt295.1 bt295.2.1 bt304.1 bt304.2.1).bind fun t331 => (if t331 = true then (if bt295.2.2.1 = bt304.2.2.1 then (if bt295.2.2.2 = bt304.2.2.2 then ((ladingref14_Same.f k bt313.1 bt313.2.1 bt321.1 bt321.2.1).bind fun t332 => (if t332 = true then (ladinglaw14_LedgerDoes.j0 k a1 a3 (bt313.2.2 != bt321.2.2) l0_0 l0_1 t254 t257) else (none))) else (none)) else (none)) else (none))) else (none)) else (none)) else (none))) else (none)) else (none))))))))) = some r := H
 have A7 := Aside0.mk A70
 clear A70
 replace H := Option.bind_eq_some_iff.mp H
 obtain ⟨⟨t277, t280, t283, t284⟩, A80, H⟩ := H
 replace H : ((ladingref14_Void.f k l0_0 l0_1 a1).bind fun bt286 => ((ledger_Capture.f t254 t257 a1).bind fun bt295 => ((ladingref14_Capture.f k l0_0 l0_1 a1).bind fun bt304 => ((ledger_Refund.f t254 t257 a1 a2).bind fun bt313 => ((ladingref14_Refund.f k l0_0 l0_1 a1 a2).bind fun bt321 => ((ladingref14_Same.f k t261 t264 t269 t272).bind fun t329 => (if t329 = true then (if t267 = t275 then ((ladingref14_Same.f k t277 t280 bt286.1 bt286.2.1).bind fun t330 => (if t330 = true then (if t283 = bt286.2.2.1 then (if t284 = bt286.2.2.2 then ((ladingref14_Same.f k bt295.1 bt295.2.1 bt304.1 bt304.2.1).bind fun t331 => (if t331 = true then (if bt295.2.2.1 = bt304.2.2.1 then (if bt295.2.2.2 = bt304.2.2.2 then ((ladingref14_Same.f k bt313.1 bt313.2.1 bt321.1 bt321.2.1).bind fun t332 => (if t332 = true then (ladinglaw14_LedgerDoes.j0 k a1 a3 (bt313.2.2 != bt321.2.2) l0_0 l0_1 t254 t257) else (none))) else (none)) else (none)) else (none))) else (none)) else (none)) else (none))) else (none)) else (none)))))))) = some r := H
 have A8 := Aside0.mk A80
 clear A80
 replace H := Option.bind_eq_some_iff.mp H
 obtain ⟨⟨t286, t289, t292, t293⟩, A90, H⟩ := H
 replace H : ((ledger_Capture.f t254 t257 a1).bind fun bt295 => ((ladingref14_Capture.f k l0_0 l0_1 a1).bind fun bt304 => ((ledger_Refund.f t254 t257 a1 a2).bind fun bt313 => ((ladingref14_Refund.f k l0_0 l0_1 a1 a2).bind fun bt321 => ((ladingref14_Same.f k t261 t264 t269 t272).bind fun t329 => (if t329 = true then (if t267 = t275 then ((ladingref14_Same.f k t277 t280 t286 t289).bind fun t330 => (if t330 = true then (if t283 = t292 then (if t284 = t293 then ((ladingref14_Same.f k bt295.1 bt295.2.1 bt304.1 bt304.2.1).bind fun t331 => (if t331 = true then (if bt295.2.2.1 = bt304.2.2.1 then (if bt295.2.2.2 = bt304.2.2.2 then ((ladingref14_Same.f k bt313.1 bt313.2.1 bt321.1 bt321.2.1).bind fun t332 => (if t332 = true then (ladinglaw14_LedgerDoes.j0 k a1 a3 (bt313.2.2 != bt321.2.2) l0_0 l0_1 t254 t257) else (none))) else (none)) else (none)) else (none))) else (none)) else (none)) else (none))) else (none)) else (none))))))) = some r := H
 have A9 := Aside0.mk A90
 clear A90
 replace H := Option.bind_eq_some_iff.mp H
 obtain ⟨⟨t295, t298, t301, t302⟩, A100, H⟩ := H
 replace H : ((ladingref14_Capture.f k l0_0 l0_1 a1).bind fun bt304 => ((ledger_Refund.f t254 t257 a1 a2).bind fun bt313 => ((ladingref14_Refund.f k l0_0 l0_1 a1 a2).bind fun bt321 => ((ladingref14_Same.f k t261 t264 t269 t272).bind fun t329 => (if t329 = true then (if t267 = t275 then ((ladingref14_Same.f k t277 t280 t286 t289).bind fun t330 => (if t330 = true then (if t283 = t292 then (if t284 = t293 then ((ladingref14_Same.f k t295 t298 bt304.1 bt304.2.1).bind fun t331 => (if t331 = true then (if t301 = bt304.2.2.1 then (if t302 = bt304.2.2.2 then ((ladingref14_Same.f k bt313.1 bt313.2.1 bt321.1 bt321.2.1).bind fun t332 => (if t332 = true then (ladinglaw14_LedgerDoes.j0 k a1 a3 (bt313.2.2 != bt321.2.2) l0_0 l0_1 t254 t257) else (none))) else (none)) else (none)) else (none))) else (none)) else (none)) else (none))) else (none)) else (none)))))) = some r := H
 have A10 := Aside0.mk A100
 clear A100
 replace H := Option.bind_eq_some_iff.mp H
 obtain ⟨⟨t304, t307, t310, t311⟩, A110, H⟩ := H
 replace H : ((ledger_Refund.f t254 t257 a1 a2).bind fun bt313 => ((ladingref14_Refund.f k l0_0 l0_1 a1 a2).bind fun bt321 => ((ladingref14_Same.f k t261 t264 t269 t272).bind fun t329 => (if t329 = true then (if t267 = t275 then ((ladingref14_Same.f k t277 t280 t286 t289).bind fun t330 => (if t330 = true then (if t283 = t292 then (if t284 = t293 then ((ladingref14_Same.f k t295 t298 t304 t307).bind fun t331 => (if t331 = true then (if t301 = t310 then (if t302 = t311 then ((ladingref14_Same.f k bt313.1 bt313.2.1 bt321.1 bt321.2.1).bind fun t332 => (if t332 = true then (ladinglaw14_LedgerDoes.j0 k a1 a3 (bt313.2.2 != bt321.2.2) l0_0 l0_1 t254 t257) else (none))) else (none)) else (none)) else (none))) else (none)) else (none)) else (none))) else (none)) else (none))))) = some r := H
 have A11 := Aside0.mk A110
 clear A110
 replace H := Option.bind_eq_some_iff.mp H
 obtain ⟨⟨t313, t316, t319⟩, A120, H⟩ := H
 replace H : ((ladingref14_Refund.f k l0_0 l0_1 a1 a2).bind fun bt321 => ((ladingref14_Same.f k t261 t264 t269 t272).bind fun t329 => (if t329 = true then (if t267 = t275 then ((ladingref14_Same.f k t277 t280 t286 t289).bind fun t330 => (if t330 = true then (if t283 = t292 then (if t284 = t293 then ((ladingref14_Same.f k t295 t298 t304 t307).bind fun t331 => (if t331 = true then (if t301 = t310 then (if t302 = t311 then ((ladingref14_Same.f k t313 t316 bt321.1 bt321.2.1).bind fun t332 => (if t332 = true then (ladinglaw14_LedgerDoes.j0 k a1 a3 (t319 != bt321.2.2) l0_0 l0_1 t254 t257) else (none))) else (none)) else (none)) else (none))) else (none)) else (none)) else (none))) else (none)) else (none)))) = some r := H
 have A12 := Aside0.mk A120
 clear A120
 replace H := Option.bind_eq_some_iff.mp H
 obtain ⟨⟨t321, t324, t327⟩, A130, H⟩ := H
 replace H : ((ladingref14_Same.f k t261 t264 t269 t272).bind fun t329 => (if t329 = true then (if t267 = t275 then ((ladingref14_Same.f k t277 t280 t286 t289).bind fun t330 => (if t330 = true then (if t283 = t292 then (if t284 = t293 then ((ladingref14_Same.f k t295 t298 t304 t307).bind fun t331 => (if t331 = true then (if t301 = t310 then (if t302 = t311 then ((ladingref14_Same.f k t313 t316 t321 t324).bind fun t332 => (if t332 = true then (ladinglaw14_LedgerDoes.j0 k a1 a3 (t319 != t327) l0_0 l0_1 t254 t257) else (none))) else (none)) else (none)) else (none))) else (none)) else (none)) else (none))) else (none)) else (none))) = some r := H
 have A13 := Aside0.mk A130
 clear A130
 have HC14 := Aside0.mk H
 clear H
 go_enter Try.func5, Try.ntmps5
 go_upto_region 10 with (first | ((with_reducible refine gate_dst (N := 4) rfl ?_); refine box_event ?hg (N := 4) ?hd (cs := #[.slice A0_0 l0_0.length c0_0, .slice A0_1 l0_1.length c0_1]) (t := 25) ?hr ?_; (case hd => rfl); (case hg => rfl); (case hr => first | (go_simp; done) | (go_simp; rfl)); intro gb253 hg w15 hbox hb; have n0_ := Aside0.mk (below_step (zh0_ HB.out) hb); have n1_ := Aside0.mk (hbox); have n2_ := Aside0.mk ((by rw [hg]; exact (below_size (zh0_ HB.out)) : w.heap.size ≤ gb253)); have n3_ := Aside0.mk ((by rw [hg]; exact (below_size (zh0_ HB.out)) : w.heap.size ≤ gb253)); clear HB; have HB := n0_; have BK253 := n1_; have GW253 := n2_; have GE253 := n3_; clear n0_ n1_ n2_ n3_; clear hb hbox hg; have hcz16_0 : w15.cell? ⟨gb253, 0, none⟩ = some (.slice A0_0 l0_0.length c0_0) := (blk_cell BK253.out 0).trans rfl; have hcz16_1 : w15.cell? ⟨gb253, 1, none⟩ = some (.slice A0_1 l0_1.length c0_1) := (blk_cell BK253.out 1).trans rfl; have hfz16_0 := blk_frozen BK253.out 0; have hfz16_1 := blk_frozen BK253.out 1) | ((with_reducible refine gate_callee (f := 14) rfl ?_); refine goesL_ (some 35) rfl rfl Try.func14 (by kernel_rfl) rfl #[.agg #[.slice A0_0 l0_0.length c0_0, .slice A0_1 l0_1.length c0_1]] rfl zl_ ?_; (with_reducible refine (ladingref14_Copy.calls _ _ l0_0 _ _ l0_1 t254 t257 _ ?side1 ?side2 ?side3 ?side4 A5.out).mono ?_); (case side1 => exact zc_ (Kd.C_below HR0_0.out HB.out)); (case side2 => exact HC0_0.out); (case side3 => exact zc_ (Kd.C_below HR0_1.out HB.out)); (case side4 => exact HC0_1.out); rintro e w17 ⟨v255, v258, rfl, ho0, ho1, hb⟩; refine ⟨_, rfl, ?_⟩; have n0_ := Aside0.mk (Kd.R_lower ho0 (below_size (zh1_ HB.out GE253.out))); have n1_ := Aside0.mk (Kd.R_lower ho1 (below_size (zh1_ HB.out GE253.out))); have n2_ := Aside0.mk (blk_below (g := gb253) (o := .cells #[.slice A0_0 l0_0.length c0_0, .slice A0_1 l0_1.length c0_1] 25 (0, 0)) (zb_ BK253.out) hb); have n3_ := Aside0.mk (below_step (zh1_ HB.out GE253.out) hb); clear BK253; clear HB; have HO256 := n0_; have HO259 := n1_; have BK253 := n2_; have HB := n3_; clear n0_ n1_ n2_ n3_; (try clear hb); (try clear hb2); (try clear hk); (try clear hi); (try clear ho0); (try clear ho1)) | ((with_reducible refine gate_dst (N := 9) rfl ?_); refine box_event ?hg (N := 9) ?hd (cs := #[.slice none 0 0, .slice none 0 0]) (t := 25) ?hr ?_; (case hd => rfl); (case hg => rfl); (case hr => first | (go_simp; done) | (go_simp; rfl)); intro gb260 hg w18 hbox hb; have n0_ := Aside0.mk (Kd.R_below (zR_ HO256.out) hb); have n1_ := Aside0.mk (Kd.R_below (zR_ HO259.out) hb); have n2_ := Aside0.mk (blk_below (g := gb253) (o := .cells #[.slice A0_0 l0_0.length c0_0, .slice A0_1 l0_1.length c0_1] 25 (0, 0)) (zb_ BK253.out) hb); have n3_ := Aside0.mk (below_step (zh1_ HB.out GE253.out) hb); have n4_ := Aside0.mk (hbox); have n5_ := Aside0.mk ((by rw [hg]; exact (below_size (zh1_ HB.out GE253.out)) : w.heap.size ≤ gb260)); have n6_ := Aside0.mk ((by rw [hg]; exact (below_size (zh1_ HB.out GE253.out)) : w.heap.size ≤ gb260)); have n7_ := Aside0.mk ((by rw [hg]; exact Nat.ne_of_lt (blk_lt (g := gb253) (o := .cells #[.slice A0_0 l0_0.length c0_0, .slice A0_1 l0_1.length c0_1] 25 (0, 0)) (zb_ BK253.out)) : gb253 ≠ gb260)); have n8_ := Aside0.mk ((by rw [hg]; exact Nat.ne_of_gt (blk_lt (g := gb253) (o := .cells #[.slice A0_0 l0_0.length c0_0, .slice A0_1 l0_1.length c0_1] 25 (0, 0)) (zb_ BK253.out)) : gb260 ≠ gb253)); clear HO256; clear HO259; clear BK253; clear HB; have HO256 := n0_; have HO259 := n1_; have BK253 := n2_; have HB := n3_; have BK260 := n4_; have GW260 := n5_; have GE260 := n6_; have NB253_260 := n7_; have NB260_253 := n8_; clear n0_ n1_ n2_ n3_ n4_ n5_ n6_ n7_ n8_; clear hb hbox hg; obtain ⟨Ao19, co19, eo19⟩ := Kd.R_slice HO256.out; subst eo19; have hnb20 := NB260_253.out; have hnc20 := NB253_260.out; have hcz21_0 : w18.cell? ⟨gb260, 0, none⟩ = some (.slice none 0 0) := (blk_cell BK260.out 0).trans rfl; have hcz21_1 : w18.cell? ⟨gb260, 1, none⟩ = some (.slice none 0 0) := (blk_cell BK260.out 1).trans rfl; have hfz21_0 := blk_frozen BK260.out 0; have hfz21_1 := blk_frozen BK260.out 1; obtain ⟨Ao22, co22, eo22⟩ := Kd.R_slice HO259.out; subst eo22) | ((with_reducible refine gate_callee (f := 12) rfl ?_); refine goesL_ (some 40) rfl rfl Try.func12 (by kernel_rfl) rfl #[.agg #[.slice Ao19 t254.length co19, .slice Ao22 t257.length co22], .int .i64 a1, .int .i64 a2] rfl zl_ ?_; (with_reducible refine (ledger_Authorise.calls _ _ t254 _ _ t257 a1 a2 t261 t264 t267 _ ?side1 ?side2 ?side3 ?side4 A6.out).mono ?_); (case side1 => refine (Kd.R_reads' (e := 31) (base := w.heap.size) (ok := fun k_ => True) (n := t254.length) (c := co19) ?_).2.2; exact (zr2_ HO256.out BK260.out)); (case side2 => exact (Kd.R_reads' HO256.out).2.1); (case side3 => refine (Kd.R_reads' (e := 55) (base := w.heap.size) (ok := fun k_ => True) (n := t257.length) (c := co22) ?_).2.2; exact (zr2_ HO259.out BK260.out)); (case side4 => exact (Kd.R_reads' HO259.out).2.1); rintro e w23 ⟨v262, v265, rfl, ho0, ho1, hb⟩; refine ⟨_, rfl, ?_⟩; have n0_ := Aside0.mk (Kd.R_elder' (zr2_ HO256.out BK260.out) (Kd.R_base ho0) hb); have n1_ := Aside0.mk (Kd.R_elder' (zr2_ HO259.out BK260.out) (Kd.R_base ho1) hb); have n2_ := Aside0.mk (Kd.R_lower (Kd.R_new' ho0 (Kd.R_lt (zr2_ HO256.out BK260.out))) (below_size (zh2_ HB.out GE253.out GE260.out))); have n3_ := Aside0.mk (Kd.R_lower (Kd.R_new' ho1 (Kd.R_lt (zr2_ HO259.out BK260.out))) (below_size (zh2_ HB.out GE253.out GE260.out))); have n4_ := Aside0.mk (blk_below (g := gb253) (o := .cells #[.slice A0_0 l0_0.length c0_0, .slice A0_1 l0_1.length c0_1] 25 (0, 0)) (zf_ NB253_260.out BK253.out) hb); have n5_ := Aside0.mk (blk_below (g := gb260) (o := .cells #[.slice Ao19 t254.length co19, .slice Ao22 t257.length co22] 25 (0, 0)) (zp2_ BK260.out) hb); have n6_ := Aside0.mk (below_step (zh2_ HB.out GE253.out GE260.out) hb); clear HO256; clear HO259; clear BK253; clear BK260; clear HB; have HO256 := n0_; have HO259 := n1_; have HO263 := n2_; have HO266 := n3_; have BK253 := n4_; have BK260 := n5_; have HB := n6_; clear n0_ n1_ n2_ n3_ n4_ n5_ n6_; (try clear hb); (try clear hb2); (try clear hk); (try clear hi); (try clear ho0); (try clear ho1)) | ((with_reducible refine gate_dst (N := 10) rfl ?_); refine box_event ?hg (N := 10) ?hd (cs := #[.slice none 0 0, .slice none 0 0]) (t := 25) ?hr ?_; (case hd => rfl); (case hg => rfl); (case hr => first | (go_simp; done) | (go_simp; rfl)); intro gb268 hg w24 hbox hb; have n0_ := Aside0.mk (Kd.R_below (zR_ HO256.out) hb); have n1_ := Aside0.mk (Kd.R_below (zR_ HO259.out) hb); have n2_ := Aside0.mk (Kd.R_below (zR_ HO263.out) hb); have n3_ := Aside0.mk (Kd.R_below (zR_ HO266.out) hb); have n4_ := Aside0.mk (blk_below (g := gb253) (o := .cells #[.slice A0_0 l0_0.length c0_0, .slice A0_1 l0_1.length c0_1] 25 (0, 0)) (zb_ BK253.out) hb); have n5_ := Aside0.mk (blk_below (g := gb260) (o := .cells #[.slice Ao19 t254.length co19, .slice Ao22 t257.length co22] 25 (0, 0)) (zb_ BK260.out) hb); have n6_ := Aside0.mk (below_step (zh2_ HB.out GE253.out GE260.out) hb); have n7_ := Aside0.mk (hbox); have n8_ := Aside0.mk ((by rw [hg]; exact (below_size (zh2_ HB.out GE253.out GE260.out)) : w.heap.size ≤ gb268)); have n9_ := Aside0.mk ((by rw [hg]; exact (below_size (zh2_ HB.out GE253.out GE260.out)) : w.heap.size ≤ gb268)); have n10_ := Aside0.mk ((by rw [hg]; exact Nat.ne_of_lt (blk_lt (g := gb253) (o := .cells #[.slice A0_0 l0_0.length c0_0, .slice A0_1 l0_1.length c0_1] 25 (0, 0)) (zb_ BK253.out)) : gb253 ≠ gb268)); have n11_ := Aside0.mk ((by rw [hg]; exact Nat.ne_of_gt (blk_lt (g := gb253) (o := .cells #[.slice A0_0 l0_0.length c0_0, .slice A0_1 l0_1.length c0_1] 25 (0, 0)) (zb_ BK253.out)) : gb268 ≠ gb253)); have n12_ := Aside0.mk ((by rw [hg]; exact Nat.ne_of_lt (blk_lt (g := gb260) (o := .cells #[.slice Ao19 t254.length co19, .slice Ao22 t257.length co22] 25 (0, 0)) (zb_ BK260.out)) : gb260 ≠ gb268)); have n13_ := Aside0.mk ((by rw [hg]; exact Nat.ne_of_gt (blk_lt (g := gb260) (o := .cells #[.slice Ao19 t254.length co19, .slice Ao22 t257.length co22] 25 (0, 0)) (zb_ BK260.out)) : gb268 ≠ gb260)); clear HO256; clear HO259; clear HO263; clear HO266; clear BK253; clear BK260; clear HB; have HO256 := n0_; have HO259 := n1_; have HO263 := n2_; have HO266 := n3_; have BK253 := n4_; have BK260 := n5_; have HB := n6_; have BK268 := n7_; have GW268 := n8_; have GE268 := n9_; have NB253_268 := n10_; have NB268_253 := n11_; have NB260_268 := n12_; have NB268_260 := n13_; clear n0_ n1_ n2_ n3_ n4_ n5_ n6_ n7_ n8_ n9_ n10_ n11_ n12_ n13_; clear hb hbox hg; obtain ⟨Ao25, co25, eo25⟩ := Kd.R_slice HO263.out; subst eo25; have hnb26 := NB268_253.out; have hnc26 := NB253_268.out; have hnb27 := NB268_260.out; have hnc27 := NB260_268.out; have hcz28_0 : w24.cell? ⟨gb268, 0, none⟩ = some (.slice none 0 0) := (blk_cell BK268.out 0).trans rfl; have hcz28_1 : w24.cell? ⟨gb268, 1, none⟩ = some (.slice none 0 0) := (blk_cell BK268.out 1).trans rfl; have hfz28_0 := blk_frozen BK268.out 0; have hfz28_1 := blk_frozen BK268.out 1; obtain ⟨Ao29, co29, eo29⟩ := Kd.R_slice HO266.out; subst eo29; have hcz30_0 : w24.cell? ⟨gb253, 0, none⟩ = some (.slice A0_0 l0_0.length c0_0) := (blk_cell BK253.out 0).trans rfl; have hcz30_1 : w24.cell? ⟨gb253, 1, none⟩ = some (.slice A0_1 l0_1.length c0_1) := (blk_cell BK253.out 1).trans rfl; have hfz30_0 := blk_frozen BK253.out 0; have hfz30_1 := blk_frozen BK253.out 1) | ((with_reducible refine gate_callee (f := 15) rfl ?_); refine goesL_ (some 47) rfl rfl Try.func15 (by kernel_rfl) rfl #[.agg #[.slice A0_0 l0_0.length c0_0, .slice A0_1 l0_1.length c0_1], .int .i64 a1, .int .i64 a2] rfl zl_ ?_; (with_reducible refine (ladingref14_Authorise.calls k _ _ l0_0 _ _ l0_1 a1 a2 t269 t272 t275 _ ?side1 ?side2 ?side3 ?side4 A7.out).mono ?_); (case side1 => exact Kd.C_below HR0_0.out (zh3_ HB.out GE253.out GE260.out GE268.out)); (case side2 => exact HC0_0.out); (case side3 => exact Kd.C_below HR0_1.out (zh3_ HB.out GE253.out GE260.out GE268.out)); (case side4 => exact HC0_1.out); rintro e w31 ⟨v270, v273, rfl, ho0, ho1, hb⟩; refine ⟨_, rfl, ?_⟩; have n0_ := Aside0.mk (Kd.R_elder' (zr2_ HO256.out BK268.out) (Kd.R_base ho0) hb); have n1_ := Aside0.mk (Kd.R_elder' (zr2_ HO259.out BK268.out) (Kd.R_base ho1) hb); have n2_ := Aside0.mk (Kd.R_elder' (zr2_ HO263.out BK268.out) (Kd.R_base ho0) hb); have n3_ := Aside0.mk (Kd.R_elder' (zr2_ HO266.out BK268.out) (Kd.R_base ho1) hb); have n4_ := Aside0.mk (Kd.R_lower (Kd.R_new' (Kd.R_new' ho0 (Kd.R_lt (zr2_ HO256.out BK268.out))) (Kd.R_lt (zr2_ HO263.out BK268.out))) (below_size (zh3_ HB.out GE253.out GE260.out GE268.out))); have n5_ := Aside0.mk (Kd.R_lower (Kd.R_new' (Kd.R_new' ho1 (Kd.R_lt (zr2_ HO259.out BK268.out))) (Kd.R_lt (zr2_ HO266.out BK268.out))) (below_size (zh3_ HB.out GE253.out GE260.out GE268.out))); have n6_ := Aside0.mk (blk_below (g := gb253) (o := .cells #[.slice A0_0 l0_0.length c0_0, .slice A0_1 l0_1.length c0_1] 25 (0, 0)) (zf_ NB253_268.out BK253.out) hb); have n7_ := Aside0.mk (blk_below (g := gb260) (o := .cells #[.slice Ao19 t254.length co19, .slice Ao22 t257.length co22] 25 (0, 0)) (zf_ NB260_268.out BK260.out) hb); have n8_ := Aside0.mk (blk_below (g := gb268) (o := .cells #[.slice Ao25 t261.length co25, .slice Ao29 t264.length co29] 25 (0, 0)) (zp2_ BK268.out) hb); have n9_ := Aside0.mk (below_step (zh3_ HB.out GE253.out GE260.out GE268.out) hb); clear HO256; clear HO259; clear HO263; clear HO266; clear BK253; clear BK260; clear BK268; clear HB; have HO256 := n0_; have HO259 := n1_; have HO263 := n2_; have HO266 := n3_; have HO271 := n4_; have HO274 := n5_; have BK253 := n6_; have BK260 := n7_; have BK268 := n8_; have HB := n9_; clear n0_ n1_ n2_ n3_ n4_ n5_ n6_ n7_ n8_ n9_; (try clear hb); (try clear hb2); (try clear hk); (try clear hi); (try clear ho0); (try clear ho1)) | ((with_reducible refine gate_dst (N := 12) rfl ?_); refine box_event ?hg (N := 12) ?hd (cs := #[.slice none 0 0, .slice none 0 0]) (t := 25) ?hr ?_; (case hd => rfl); (case hg => rfl); (case hr => first | (go_simp; done) | (go_simp; rfl)); intro gb276 hg w32 hbox hb; have n0_ := Aside0.mk (Kd.R_below (zR_ HO256.out) hb); have n1_ := Aside0.mk (Kd.R_below (zR_ HO259.out) hb); have n2_ := Aside0.mk (Kd.R_below (zR_ HO263.out) hb); have n3_ := Aside0.mk (Kd.R_below (zR_ HO266.out) hb); have n4_ := Aside0.mk (Kd.R_below (zR_ HO271.out) hb); have n5_ := Aside0.mk (Kd.R_below (zR_ HO274.out) hb); have n6_ := Aside0.mk (blk_below (g := gb253) (o := .cells #[.slice A0_0 l0_0.length c0_0, .slice A0_1 l0_1.length c0_1] 25 (0, 0)) (zb_ BK253.out) hb); have n7_ := Aside0.mk (blk_below (g := gb260) (o := .cells #[.slice Ao19 t254.length co19, .slice Ao22 t257.length co22] 25 (0, 0)) (zb_ BK260.out) hb); have n8_ := Aside0.mk (blk_below (g := gb268) (o := .cells #[.slice Ao25 t261.length co25, .slice Ao29 t264.length co29] 25 (0, 0)) (zb_ BK268.out) hb); have n9_ := Aside0.mk (below_step (zh3_ HB.out GE253.out GE260.out GE268.out) hb); have n10_ := Aside0.mk (hbox); have n11_ := Aside0.mk ((by rw [hg]; exact (below_size (zh3_ HB.out GE253.out GE260.out GE268.out)) : w.heap.size ≤ gb276)); have n12_ := Aside0.mk ((by rw [hg]; exact (below_size (zh3_ HB.out GE253.out GE260.out GE268.out)) : w.heap.size ≤ gb276)); have n13_ := Aside0.mk ((by rw [hg]; exact Nat.ne_of_lt (blk_lt (g := gb253) (o := .cells #[.slice A0_0 l0_0.length c0_0, .slice A0_1 l0_1.length c0_1] 25 (0, 0)) (zb_ BK253.out)) : gb253 ≠ gb276)); have n14_ := Aside0.mk ((by rw [hg]; exact Nat.ne_of_gt (blk_lt (g := gb253) (o := .cells #[.slice A0_0 l0_0.length c0_0, .slice A0_1 l0_1.length c0_1] 25 (0, 0)) (zb_ BK253.out)) : gb276 ≠ gb253)); have n15_ := Aside0.mk ((by rw [hg]; exact Nat.ne_of_lt (blk_lt (g := gb260) (o := .cells #[.slice Ao19 t254.length co19, .slice Ao22 t257.length co22] 25 (0, 0)) (zb_ BK260.out)) : gb260 ≠ gb276)); have n16_ := Aside0.mk ((by rw [hg]; exact Nat.ne_of_gt (blk_lt (g := gb260) (o := .cells #[.slice Ao19 t254.length co19, .slice Ao22 t257.length co22] 25 (0, 0)) (zb_ BK260.out)) : gb276 ≠ gb260)); have n17_ := Aside0.mk ((by rw [hg]; exact Nat.ne_of_lt (blk_lt (g := gb268) (o := .cells #[.slice Ao25 t261.length co25, .slice Ao29 t264.length co29] 25 (0, 0)) (zb_ BK268.out)) : gb268 ≠ gb276)); have n18_ := Aside0.mk ((by rw [hg]; exact Nat.ne_of_gt (blk_lt (g := gb268) (o := .cells #[.slice Ao25 t261.length co25, .slice Ao29 t264.length co29] 25 (0, 0)) (zb_ BK268.out)) : gb276 ≠ gb268)); clear HO256; clear HO259; clear HO263; clear HO266; clear HO271; clear HO274; clear BK253; clear BK260; clear BK268; clear HB; have HO256 := n0_; have HO259 := n1_; have HO263 := n2_; have HO266 := n3_; have HO271 := n4_; have HO274 := n5_; have BK253 := n6_; have BK260 := n7_; have BK268 := n8_; have HB := n9_; have BK276 := n10_; have GW276 := n11_; have GE276 := n12_; have NB253_276 := n13_; have NB276_253 := n14_; have NB260_276 := n15_; have NB276_260 := n16_; have NB268_276 := n17_; have NB276_268 := n18_; clear n0_ n1_ n2_ n3_ n4_ n5_ n6_ n7_ n8_ n9_ n10_ n11_ n12_ n13_ n14_ n15_ n16_ n17_ n18_; clear hb hbox hg; obtain ⟨Ao33, co33, eo33⟩ := Kd.R_slice HO271.out; subst eo33; have hnb34 := NB276_253.out; have hnc34 := NB253_276.out; have hnb35 := NB276_260.out; have hnc35 := NB260_276.out; have hnb36 := NB276_268.out; have hnc36 := NB268_276.out; have hcz37_0 : w32.cell? ⟨gb276, 0, none⟩ = some (.slice none 0 0) := (blk_cell BK276.out 0).trans rfl; have hcz37_1 : w32.cell? ⟨gb276, 1, none⟩ = some (.slice none 0 0) := (blk_cell BK276.out 1).trans rfl; have hfz37_0 := blk_frozen BK276.out 0; have hfz37_1 := blk_frozen BK276.out 1; obtain ⟨Ao38, co38, eo38⟩ := Kd.R_slice HO274.out; subst eo38; have hcz39_0 : w32.cell? ⟨gb260, 0, none⟩ = some (.slice Ao19 t254.length co19) := (blk_cell BK260.out 0).trans rfl; have hcz39_1 : w32.cell? ⟨gb260, 1, none⟩ = some (.slice Ao22 t257.length co22) := (blk_cell BK260.out 1).trans rfl; have hfz39_0 := blk_frozen BK260.out 0; have hfz39_1 := blk_frozen BK260.out 1) | ((with_reducible refine gate_callee (f := 16) rfl ?_); refine goesL_ (some 53) rfl rfl Try.func16 (by kernel_rfl) rfl #[.agg #[.slice Ao19 t254.length co19, .slice Ao22 t257.length co22], .int .i64 a1] rfl zl_ ?_; (with_reducible refine (ledger_Void.calls _ _ t254 _ _ t257 a1 t277 t280 t283 t284 _ ?side1 ?side2 ?side3 ?side4 A8.out).mono ?_); (case side1 => exact (Kd.R_reads' (n := t254.length) (c := co19) (zr2_ HO256.out BK276.out)).2.2); (case side2 => exact (Kd.R_reads' HO256.out).2.1); (case side3 => exact (Kd.R_reads' (n := t257.length) (c := co22) (zr2_ HO259.out BK276.out)).2.2); (case side4 => exact (Kd.R_reads' HO259.out).2.1); rintro e w40 ⟨v278, v281, rfl, ho0, ho1, hb⟩; refine ⟨_, rfl, ?_⟩; have n0_ := Aside0.mk (Kd.R_elder' (zr2_ HO256.out BK276.out) (Kd.R_base ho0) hb); have n1_ := Aside0.mk (Kd.R_elder' (zr2_ HO259.out BK276.out) (Kd.R_base ho1) hb); have n2_ := Aside0.mk (Kd.R_elder' (zr2_ HO263.out BK276.out) (Kd.R_base ho0) hb); have n3_ := Aside0.mk (Kd.R_elder' (zr2_ HO266.out BK276.out) (Kd.R_base ho1) hb); have n4_ := Aside0.mk (Kd.R_elder' (zr2_ HO271.out BK276.out) (Kd.R_base ho0) hb); have n5_ := Aside0.mk (Kd.R_elder' (zr2_ HO274.out BK276.out) (Kd.R_base ho1) hb); have n6_ := Aside0.mk (Kd.R_lower (Kd.R_new' (Kd.R_new' (Kd.R_new' ho0 (Kd.R_lt (zr2_ HO256.out BK276.out))) (Kd.R_lt (zr2_ HO263.out BK276.out))) (Kd.R_lt (zr2_ HO271.out BK276.out))) (below_size (zh4_ HB.out GE253.out GE260.out GE268.out GE276.out))); have n7_ := Aside0.mk (Kd.R_lower (Kd.R_new' (Kd.R_new' (Kd.R_new' ho1 (Kd.R_lt (zr2_ HO259.out BK276.out))) (Kd.R_lt (zr2_ HO266.out BK276.out))) (Kd.R_lt (zr2_ HO274.out BK276.out))) (below_size (zh4_ HB.out GE253.out GE260.out GE268.out GE276.out))); have n8_ := Aside0.mk (blk_below (g := gb253) (o := .cells #[.slice A0_0 l0_0.length c0_0, .slice A0_1 l0_1.length c0_1] 25 (0, 0)) (zf_ NB253_276.out BK253.out) hb); have n9_ := Aside0.mk (blk_below (g := gb260) (o := .cells #[.slice Ao19 t254.length co19, .slice Ao22 t257.length co22] 25 (0, 0)) (zf_ NB260_276.out BK260.out) hb); have n10_ := Aside0.mk (blk_below (g := gb268) (o := .cells #[.slice Ao25 t261.length co25, .slice Ao29 t264.length co29] 25 (0, 0)) (zf_ NB268_276.out BK268.out) hb); have n11_ := Aside0.mk (blk_below (g := gb276) (o := .cells #[.slice Ao33 t269.length co33, .slice Ao38 t272.length co38] 25 (0, 0)) (zp2_ BK276.out) hb); have n12_ := Aside0.mk (below_step (zh4_ HB.out GE253.out GE260.out GE268.out GE276.out) hb); clear HO256; clear HO259; clear HO263; clear HO266; clear HO271; clear HO274; clear BK253; clear BK260; clear BK268; clear BK276; clear HB; have HO256 := n0_; have HO259 := n1_; have HO263 := n2_; have HO266 := n3_; have HO271 := n4_; have HO274 := n5_; have HO279 := n6_; have HO282 := n7_; have BK253 := n8_; have BK260 := n9_; have BK268 := n10_; have BK276 := n11_; have HB := n12_; clear n0_ n1_ n2_ n3_ n4_ n5_ n6_ n7_ n8_ n9_ n10_ n11_ n12_; (try clear hb); (try clear hb2); (try clear hk); (try clear hi); (try clear ho0); (try clear ho1)) | ((with_reducible refine gate_dst (N := 14) rfl ?_); refine box_event ?hg (N := 14) ?hd (cs := #[.slice none 0 0, .slice none 0 0]) (t := 25) ?hr ?_; (case hd => rfl); (case hg => rfl); (case hr => first | (go_simp; done) | (go_simp; rfl)); intro gb285 hg w41 hbox hb; have n0_ := Aside0.mk (Kd.R_below (zR_ HO256.out) hb); have n1_ := Aside0.mk (Kd.R_below (zR_ HO259.out) hb); have n2_ := Aside0.mk (Kd.R_below (zR_ HO263.out) hb); have n3_ := Aside0.mk (Kd.R_below (zR_ HO266.out) hb); have n4_ := Aside0.mk (Kd.R_below (zR_ HO271.out) hb); have n5_ := Aside0.mk (Kd.R_below (zR_ HO274.out) hb); have n6_ := Aside0.mk (Kd.R_below (zR_ HO279.out) hb); have n7_ := Aside0.mk (Kd.R_below (zR_ HO282.out) hb); have n8_ := Aside0.mk (blk_below (g := gb253) (o := .cells #[.slice A0_0 l0_0.length c0_0, .slice A0_1 l0_1.length c0_1] 25 (0, 0)) (zb_ BK253.out) hb); have n9_ := Aside0.mk (blk_below (g := gb260) (o := .cells #[.slice Ao19 t254.length co19, .slice Ao22 t257.length co22] 25 (0, 0)) (zb_ BK260.out) hb); have n10_ := Aside0.mk (blk_below (g := gb268) (o := .cells #[.slice Ao25 t261.length co25, .slice Ao29 t264.length co29] 25 (0, 0)) (zb_ BK268.out) hb); have n11_ := Aside0.mk (blk_below (g := gb276) (o := .cells #[.slice Ao33 t269.length co33, .slice Ao38 t272.length co38] 25 (0, 0)) (zb_ BK276.out) hb); have n12_ := Aside0.mk (below_step (zh4_ HB.out GE253.out GE260.out GE268.out GE276.out) hb); have n13_ := Aside0.mk (hbox); have n14_ := Aside0.mk ((by rw [hg]; exact (below_size (zh4_ HB.out GE253.out GE260.out GE268.out GE276.out)) : w.heap.size ≤ gb285)); have n15_ := Aside0.mk ((by rw [hg]; exact (below_size (zh4_ HB.out GE253.out GE260.out GE268.out GE276.out)) : w.heap.size ≤ gb285)); have n16_ := Aside0.mk ((by rw [hg]; exact Nat.ne_of_lt (blk_lt (g := gb253) (o := .cells #[.slice A0_0 l0_0.length c0_0, .slice A0_1 l0_1.length c0_1] 25 (0, 0)) (zb_ BK253.out)) : gb253 ≠ gb285)); have n17_ := Aside0.mk ((by rw [hg]; exact Nat.ne_of_gt (blk_lt (g := gb253) (o := .cells #[.slice A0_0 l0_0.length c0_0, .slice A0_1 l0_1.length c0_1] 25 (0, 0)) (zb_ BK253.out)) : gb285 ≠ gb253)); have n18_ := Aside0.mk ((by rw [hg]; exact Nat.ne_of_lt (blk_lt (g := gb260) (o := .cells #[.slice Ao19 t254.length co19, .slice Ao22 t257.length co22] 25 (0, 0)) (zb_ BK260.out)) : gb260 ≠ gb285)); have n19_ := Aside0.mk ((by rw [hg]; exact Nat.ne_of_gt (blk_lt (g := gb260) (o := .cells #[.slice Ao19 t254.length co19, .slice Ao22 t257.length co22] 25 (0, 0)) (zb_ BK260.out)) : gb285 ≠ gb260)); have n20_ := Aside0.mk ((by rw [hg]; exact Nat.ne_of_lt (blk_lt (g := gb268) (o := .cells #[.slice Ao25 t261.length co25, .slice Ao29 t264.length co29] 25 (0, 0)) (zb_ BK268.out)) : gb268 ≠ gb285)); have n21_ := Aside0.mk ((by rw [hg]; exact Nat.ne_of_gt (blk_lt (g := gb268) (o := .cells #[.slice Ao25 t261.length co25, .slice Ao29 t264.length co29] 25 (0, 0)) (zb_ BK268.out)) : gb285 ≠ gb268)); have n22_ := Aside0.mk ((by rw [hg]; exact Nat.ne_of_lt (blk_lt (g := gb276) (o := .cells #[.slice Ao33 t269.length co33, .slice Ao38 t272.length co38] 25 (0, 0)) (zb_ BK276.out)) : gb276 ≠ gb285)); have n23_ := Aside0.mk ((by rw [hg]; exact Nat.ne_of_gt (blk_lt (g := gb276) (o := .cells #[.slice Ao33 t269.length co33, .slice Ao38 t272.length co38] 25 (0, 0)) (zb_ BK276.out)) : gb285 ≠ gb276)); clear HO256; clear HO259; clear HO263; clear HO266; clear HO271; clear HO274; clear HO279; clear HO282; clear BK253; clear BK260; clear BK268; clear BK276; clear HB; have HO256 := n0_; have HO259 := n1_; have HO263 := n2_; have HO266 := n3_; have HO271 := n4_; have HO274 := n5_; have HO279 := n6_; have HO282 := n7_; have BK253 := n8_; have BK260 := n9_; have BK268 := n10_; have BK276 := n11_; have HB := n12_; have BK285 := n13_; have GW285 := n14_; have GE285 := n15_; have NB253_285 := n16_; have NB285_253 := n17_; have NB260_285 := n18_; have NB285_260 := n19_; have NB268_285 := n20_; have NB285_268 := n21_; have NB276_285 := n22_; have NB285_276 := n23_; clear n0_ n1_ n2_ n3_ n4_ n5_ n6_ n7_ n8_ n9_ n10_ n11_ n12_ n13_ n14_ n15_ n16_ n17_ n18_ n19_ n20_ n21_ n22_ n23_; clear hb hbox hg; obtain ⟨Ao42, co42, eo42⟩ := Kd.R_slice HO279.out; subst eo42; have hnb43 := NB285_253.out; have hnc43 := NB253_285.out; have hnb44 := NB285_260.out; have hnc44 := NB260_285.out; have hnb45 := NB285_268.out; have hnc45 := NB268_285.out; have hnb46 := NB285_276.out; have hnc46 := NB276_285.out; have hcz47_0 : w41.cell? ⟨gb285, 0, none⟩ = some (.slice none 0 0) := (blk_cell BK285.out 0).trans rfl; have hcz47_1 : w41.cell? ⟨gb285, 1, none⟩ = some (.slice none 0 0) := (blk_cell BK285.out 1).trans rfl; have hfz47_0 := blk_frozen BK285.out 0; have hfz47_1 := blk_frozen BK285.out 1; obtain ⟨Ao48, co48, eo48⟩ := Kd.R_slice HO282.out; subst eo48; have hcz49_0 : w41.cell? ⟨gb253, 0, none⟩ = some (.slice A0_0 l0_0.length c0_0) := (blk_cell BK253.out 0).trans rfl; have hcz49_1 : w41.cell? ⟨gb253, 1, none⟩ = some (.slice A0_1 l0_1.length c0_1) := (blk_cell BK253.out 1).trans rfl; have hfz49_0 := blk_frozen BK253.out 0; have hfz49_1 := blk_frozen BK253.out 1) | ((with_reducible refine gate_callee (f := 17) rfl ?_); refine goesL_ (some 60) rfl rfl Try.func17 (by kernel_rfl) rfl #[.agg #[.slice A0_0 l0_0.length c0_0, .slice A0_1 l0_1.length c0_1], .int .i64 a1] rfl zl_ ?_; (with_reducible refine (ladingref14_Void.calls k _ _ l0_0 _ _ l0_1 a1 t286 t289 t292 t293 _ ?side1 ?side2 ?side3 ?side4 A9.out).mono ?_); (case side1 => exact Kd.C_below HR0_0.out (zh5_ HB.out GE253.out GE260.out GE268.out GE276.out GE285.out)); (case side2 => exact HC0_0.out); (case side3 => exact Kd.C_below HR0_1.out (zh5_ HB.out GE253.out GE260.out GE268.out GE276.out GE285.out)); (case side4 => exact HC0_1.out); rintro e w50 ⟨v287, v290, rfl, ho0, ho1, hb⟩; refine ⟨_, rfl, ?_⟩; have n0_ := Aside0.mk (Kd.R_elder' (zr2_ HO256.out BK285.out) (Kd.R_base ho0) hb); have n1_ := Aside0.mk (Kd.R_elder' (zr2_ HO259.out BK285.out) (Kd.R_base ho1) hb); have n2_ := Aside0.mk (Kd.R_elder' (zr2_ HO263.out BK285.out) (Kd.R_base ho0) hb); have n3_ := Aside0.mk (Kd.R_elder' (zr2_ HO266.out BK285.out) (Kd.R_base ho1) hb); have n4_ := Aside0.mk (Kd.R_elder' (zr2_ HO271.out BK285.out) (Kd.R_base ho0) hb); have n5_ := Aside0.mk (Kd.R_elder' (zr2_ HO274.out BK285.out) (Kd.R_base ho1) hb); have n6_ := Aside0.mk (Kd.R_elder' (zr2_ HO279.out BK285.out) (Kd.R_base ho0) hb); have n7_ := Aside0.mk (Kd.R_elder' (zr2_ HO282.out BK285.out) (Kd.R_base ho1) hb); have n8_ := Aside0.mk (Kd.R_lower (Kd.R_new' (Kd.R_new' (Kd.R_new' (Kd.R_new' ho0 (Kd.R_lt (zr2_ HO256.out BK285.out))) (Kd.R_lt (zr2_ HO263.out BK285.out))) (Kd.R_lt (zr2_ HO271.out BK285.out))) (Kd.R_lt (zr2_ HO279.out BK285.out))) (below_size (zh5_ HB.out GE253.out GE260.out GE268.out GE276.out GE285.out))); have n9_ := Aside0.mk (Kd.R_lower (Kd.R_new' (Kd.R_new' (Kd.R_new' (Kd.R_new' ho1 (Kd.R_lt (zr2_ HO259.out BK285.out))) (Kd.R_lt (zr2_ HO266.out BK285.out))) (Kd.R_lt (zr2_ HO274.out BK285.out))) (Kd.R_lt (zr2_ HO282.out BK285.out))) (below_size (zh5_ HB.out GE253.out GE260.out GE268.out GE276.out GE285.out))); have n10_ := Aside0.mk (blk_below (g := gb253) (o := .cells #[.slice A0_0 l0_0.length c0_0, .slice A0_1 l0_1.length c0_1] 25 (0, 0)) (zf_ NB253_285.out BK253.out) hb); have n11_ := Aside0.mk (blk_below (g := gb260) (o := .cells #[.slice Ao19 t254.length co19, .slice Ao22 t257.length co22] 25 (0, 0)) (zf_ NB260_285.out BK260.out) hb); have n12_ := Aside0.mk (blk_below (g := gb268) (o := .cells #[.slice Ao25 t261.length co25, .slice Ao29 t264.length co29] 25 (0, 0)) (zf_ NB268_285.out BK268.out) hb); have n13_ := Aside0.mk (blk_below (g := gb276) (o := .cells #[.slice Ao33 t269.length co33, .slice Ao38 t272.length co38] 25 (0, 0)) (zf_ NB276_285.out BK276.out) hb); have n14_ := Aside0.mk (blk_below (g := gb285) (o := .cells #[.slice Ao42 t277.length co42, .slice Ao48 t280.length co48] 25 (0, 0)) (zp2_ BK285.out) hb); have n15_ := Aside0.mk (below_step (zh5_ HB.out GE253.out GE260.out GE268.out GE276.out GE285.out) hb); clear HO256; clear HO259; clear HO263; clear HO266; clear HO271; clear HO274; clear HO279; clear HO282; clear BK253; clear BK260; clear BK268; clear BK276; clear BK285; clear HB; have HO256 := n0_; have HO259 := n1_; have HO263 := n2_; have HO266 := n3_; have HO271 := n4_; have HO274 := n5_; have HO279 := n6_; have HO282 := n7_; have HO288 := n8_; have HO291 := n9_; have BK253 := n10_; have BK260 := n11_; have BK268 := n12_; have BK276 := n13_; have BK285 := n14_; have HB := n15_; clear n0_ n1_ n2_ n3_ n4_ n5_ n6_ n7_ n8_ n9_ n10_ n11_ n12_ n13_ n14_ n15_; (try clear hb); (try clear hb2); (try clear hk); (try clear hi); (try clear ho0); (try clear ho1)) | ((with_reducible refine gate_dst (N := 17) rfl ?_); refine box_event ?hg (N := 17) ?hd (cs := #[.slice none 0 0, .slice none 0 0]) (t := 25) ?hr ?_; (case hd => rfl); (case hg => rfl); (case hr => first | (go_simp; done) | (go_simp; rfl)); intro gb294 hg w51 hbox hb; have n0_ := Aside0.mk (Kd.R_below (zR_ HO256.out) hb); have n1_ := Aside0.mk (Kd.R_below (zR_ HO259.out) hb); have n2_ := Aside0.mk (Kd.R_below (zR_ HO263.out) hb); have n3_ := Aside0.mk (Kd.R_below (zR_ HO266.out) hb); have n4_ := Aside0.mk (Kd.R_below (zR_ HO271.out) hb); have n5_ := Aside0.mk (Kd.R_below (zR_ HO274.out) hb); have n6_ := Aside0.mk (Kd.R_below (zR_ HO279.out) hb); have n7_ := Aside0.mk (Kd.R_below (zR_ HO282.out) hb); have n8_ := Aside0.mk (Kd.R_below (zR_ HO288.out) hb); have n9_ := Aside0.mk (Kd.R_below (zR_ HO291.out) hb); have n10_ := Aside0.mk (blk_below (g := gb253) (o := .cells #[.slice A0_0 l0_0.length c0_0, .slice A0_1 l0_1.length c0_1] 25 (0, 0)) (zb_ BK253.out) hb); have n11_ := Aside0.mk (blk_below (g := gb260) (o := .cells #[.slice Ao19 t254.length co19, .slice Ao22 t257.length co22] 25 (0, 0)) (zb_ BK260.out) hb); have n12_ := Aside0.mk (blk_below (g := gb268) (o := .cells #[.slice Ao25 t261.length co25, .slice Ao29 t264.length co29] 25 (0, 0)) (zb_ BK268.out) hb); have n13_ := Aside0.mk (blk_below (g := gb276) (o := .cells #[.slice Ao33 t269.length co33, .slice Ao38 t272.length co38] 25 (0, 0)) (zb_ BK276.out) hb); have n14_ := Aside0.mk (blk_below (g := gb285) (o := .cells #[.slice Ao42 t277.length co42, .slice Ao48 t280.length co48] 25 (0, 0)) (zb_ BK285.out) hb); have n15_ := Aside0.mk (below_step (zh5_ HB.out GE253.out GE260.out GE268.out GE276.out GE285.out) hb); have n16_ := Aside0.mk (hbox); have n17_ := Aside0.mk ((by rw [hg]; exact (below_size (zh5_ HB.out GE253.out GE260.out GE268.out GE276.out GE285.out)) : w.heap.size ≤ gb294)); have n18_ := Aside0.mk ((by rw [hg]; exact (below_size (zh5_ HB.out GE253.out GE260.out GE268.out GE276.out GE285.out)) : w.heap.size ≤ gb294)); have n19_ := Aside0.mk ((by rw [hg]; exact Nat.ne_of_lt (blk_lt (g := gb253) (o := .cells #[.slice A0_0 l0_0.length c0_0, .slice A0_1 l0_1.length c0_1] 25 (0, 0)) (zb_ BK253.out)) : gb253 ≠ gb294)); have n20_ := Aside0.mk ((by rw [hg]; exact Nat.ne_of_gt (blk_lt (g := gb253) (o := .cells #[.slice A0_0 l0_0.length c0_0, .slice A0_1 l0_1.length c0_1] 25 (0, 0)) (zb_ BK253.out)) : gb294 ≠ gb253)); have n21_ := Aside0.mk ((by rw [hg]; exact Nat.ne_of_lt (blk_lt (g := gb260) (o := .cells #[.slice Ao19 t254.length co19, .slice Ao22 t257.length co22] 25 (0, 0)) (zb_ BK260.out)) : gb260 ≠ gb294)); have n22_ := Aside0.mk ((by rw [hg]; exact Nat.ne_of_gt (blk_lt (g := gb260) (o := .cells #[.slice Ao19 t254.length co19, .slice Ao22 t257.length co22] 25 (0, 0)) (zb_ BK260.out)) : gb294 ≠ gb260)); have n23_ := Aside0.mk ((by rw [hg]; exact Nat.ne_of_lt (blk_lt (g := gb268) (o := .cells #[.slice Ao25 t261.length co25, .slice Ao29 t264.length co29] 25 (0, 0)) (zb_ BK268.out)) : gb268 ≠ gb294)); have n24_ := Aside0.mk ((by rw [hg]; exact Nat.ne_of_gt (blk_lt (g := gb268) (o := .cells #[.slice Ao25 t261.length co25, .slice Ao29 t264.length co29] 25 (0, 0)) (zb_ BK268.out)) : gb294 ≠ gb268)); have n25_ := Aside0.mk ((by rw [hg]; exact Nat.ne_of_lt (blk_lt (g := gb276) (o := .cells #[.slice Ao33 t269.length co33, .slice Ao38 t272.length co38] 25 (0, 0)) (zb_ BK276.out)) : gb276 ≠ gb294)); have n26_ := Aside0.mk ((by rw [hg]; exact Nat.ne_of_gt (blk_lt (g := gb276) (o := .cells #[.slice Ao33 t269.length co33, .slice Ao38 t272.length co38] 25 (0, 0)) (zb_ BK276.out)) : gb294 ≠ gb276)); have n27_ := Aside0.mk ((by rw [hg]; exact Nat.ne_of_lt (blk_lt (g := gb285) (o := .cells #[.slice Ao42 t277.length co42, .slice Ao48 t280.length co48] 25 (0, 0)) (zb_ BK285.out)) : gb285 ≠ gb294)); have n28_ := Aside0.mk ((by rw [hg]; exact Nat.ne_of_gt (blk_lt (g := gb285) (o := .cells #[.slice Ao42 t277.length co42, .slice Ao48 t280.length co48] 25 (0, 0)) (zb_ BK285.out)) : gb294 ≠ gb285)); clear HO256; clear HO259; clear HO263; clear HO266; clear HO271; clear HO274; clear HO279; clear HO282; clear HO288; clear HO291; clear BK253; clear BK260; clear BK268; clear BK276; clear BK285; clear HB; have HO256 := n0_; have HO259 := n1_; have HO263 := n2_; have HO266 := n3_; have HO271 := n4_; have HO274 := n5_; have HO279 := n6_; have HO282 := n7_; have HO288 := n8_; have HO291 := n9_; have BK253 := n10_; have BK260 := n11_; have BK268 := n12_; have BK276 := n13_; have BK285 := n14_; have HB := n15_; have BK294 := n16_; have GW294 := n17_; have GE294 := n18_; have NB253_294 := n19_; have NB294_253 := n20_; have NB260_294 := n21_; have NB294_260 := n22_; have NB268_294 := n23_; have NB294_268 := n24_; have NB276_294 := n25_; have NB294_276 := n26_; have NB285_294 := n27_; have NB294_285 := n28_; clear n0_ n1_ n2_ n3_ n4_ n5_ n6_ n7_ n8_ n9_ n10_ n11_ n12_ n13_ n14_ n15_ n16_ n17_ n18_ n19_ n20_ n21_ n22_ n23_ n24_ n25_ n26_ n27_ n28_; clear hb hbox hg; obtain ⟨Ao52, co52, eo52⟩ := Kd.R_slice HO288.out; subst eo52; have hnb53 := NB294_253.out; have hnc53 := NB253_294.out; have hnb54 := NB294_260.out; have hnc54 := NB260_294.out; have hnb55 := NB294_268.out; have hnc55 := NB268_294.out; have hnb56 := NB294_276.out; have hnc56 := NB276_294.out; have hnb57 := NB294_285.out; have hnc57 := NB285_294.out; have hcz58_0 : w51.cell? ⟨gb294, 0, none⟩ = some (.slice none 0 0) := (blk_cell BK294.out 0).trans rfl; have hcz58_1 : w51.cell? ⟨gb294, 1, none⟩ = some (.slice none 0 0) := (blk_cell BK294.out 1).trans rfl; have hfz58_0 := blk_frozen BK294.out 0; have hfz58_1 := blk_frozen BK294.out 1; obtain ⟨Ao59, co59, eo59⟩ := Kd.R_slice HO291.out; subst eo59; have hcz60_0 : w51.cell? ⟨gb260, 0, none⟩ = some (.slice Ao19 t254.length co19) := (blk_cell BK260.out 0).trans rfl; have hcz60_1 : w51.cell? ⟨gb260, 1, none⟩ = some (.slice Ao22 t257.length co22) := (blk_cell BK260.out 1).trans rfl; have hfz60_0 := blk_frozen BK260.out 0; have hfz60_1 := blk_frozen BK260.out 1) | ((with_reducible refine gate_callee (f := 18) rfl ?_); refine goesL_ (some 67) rfl rfl Try.func18 (by kernel_rfl) rfl #[.agg #[.slice Ao19 t254.length co19, .slice Ao22 t257.length co22], .int .i64 a1] rfl zl_ ?_; (with_reducible refine (ledger_Capture.calls _ _ t254 _ _ t257 a1 t295 t298 t301 t302 _ ?side1 ?side2 ?side3 ?side4 A10.out).mono ?_); (case side1 => refine (Kd.R_reads' (e := 31) (base := w.heap.size) (ok := fun k_ => ((((True ∧ some k_ ≠ (.slice Ao25 t261.length co25 : Value).ownBlock) ∧ some k_ ≠ (.slice Ao33 t269.length co33 : Value).ownBlock) ∧ some k_ ≠ (.slice Ao42 t277.length co42 : Value).ownBlock) ∧ some k_ ≠ (.slice Ao52 t286.length co52 : Value).ownBlock)) (n := t254.length) (c := co19) ?_).2.2; exact (zr2_ HO256.out BK294.out)); (case side2 => exact (Kd.R_reads' HO256.out).2.1); (case side3 => refine (Kd.R_reads' (e := 55) (base := w.heap.size) (ok := fun k_ => ((((True ∧ some k_ ≠ (.slice Ao29 t264.length co29 : Value).ownBlock) ∧ some k_ ≠ (.slice Ao38 t272.length co38 : Value).ownBlock) ∧ some k_ ≠ (.slice Ao48 t280.length co48 : Value).ownBlock) ∧ some k_ ≠ (.slice Ao59 t289.length co59 : Value).ownBlock)) (n := t257.length) (c := co22) ?_).2.2; exact (zr2_ HO259.out BK294.out)); (case side4 => exact (Kd.R_reads' HO259.out).2.1); rintro e w61 ⟨v296, v299, rfl, ho0, ho1, hb⟩; refine ⟨_, rfl, ?_⟩; have n0_ := Aside0.mk (Kd.R_elder' (zr2_ HO256.out BK294.out) (Kd.R_base ho0) hb); have n1_ := Aside0.mk (Kd.R_elder' (zr2_ HO259.out BK294.out) (Kd.R_base ho1) hb); have n2_ := Aside0.mk (Kd.R_elder' (zr2_ HO263.out BK294.out) (Kd.R_base ho0) hb); have n3_ := Aside0.mk (Kd.R_elder' (zr2_ HO266.out BK294.out) (Kd.R_base ho1) hb); have n4_ := Aside0.mk (Kd.R_elder' (zr2_ HO271.out BK294.out) (Kd.R_base ho0) hb); have n5_ := Aside0.mk (Kd.R_elder' (zr2_ HO274.out BK294.out) (Kd.R_base ho1) hb); have n6_ := Aside0.mk (Kd.R_elder' (zr2_ HO279.out BK294.out) (Kd.R_base ho0) hb); have n7_ := Aside0.mk (Kd.R_elder' (zr2_ HO282.out BK294.out) (Kd.R_base ho1) hb); have n8_ := Aside0.mk (Kd.R_elder' (zr2_ HO288.out BK294.out) (Kd.R_base ho0) hb); have n9_ := Aside0.mk (Kd.R_elder' (zr2_ HO291.out BK294.out) (Kd.R_base ho1) hb); have n10_ := Aside0.mk (Kd.R_lower (Kd.R_new' (Kd.R_new' (Kd.R_new' (Kd.R_new' (Kd.R_new' ho0 (Kd.R_lt (zr2_ HO256.out BK294.out))) (Kd.R_lt (zr2_ HO263.out BK294.out))) (Kd.R_lt (zr2_ HO271.out BK294.out))) (Kd.R_lt (zr2_ HO279.out BK294.out))) (Kd.R_lt (zr2_ HO288.out BK294.out))) (below_size (zh6_ HB.out GE253.out GE260.out GE268.out GE276.out GE285.out GE294.out))); have n11_ := Aside0.mk (Kd.R_lower (Kd.R_new' (Kd.R_new' (Kd.R_new' (Kd.R_new' (Kd.R_new' ho1 (Kd.R_lt (zr2_ HO259.out BK294.out))) (Kd.R_lt (zr2_ HO266.out BK294.out))) (Kd.R_lt (zr2_ HO274.out BK294.out))) (Kd.R_lt (zr2_ HO282.out BK294.out))) (Kd.R_lt (zr2_ HO291.out BK294.out))) (below_size (zh6_ HB.out GE253.out GE260.out GE268.out GE276.out GE285.out GE294.out))); have n12_ := Aside0.mk (blk_below (g := gb253) (o := .cells #[.slice A0_0 l0_0.length c0_0, .slice A0_1 l0_1.length c0_1] 25 (0, 0)) (zf_ NB253_294.out BK253.out) hb); have n13_ := Aside0.mk (blk_below (g := gb260) (o := .cells #[.slice Ao19 t254.length co19, .slice Ao22 t257.length co22] 25 (0, 0)) (zf_ NB260_294.out BK260.out) hb); have n14_ := Aside0.mk (blk_below (g := gb268) (o := .cells #[.slice Ao25 t261.length co25, .slice Ao29 t264.length co29] 25 (0, 0)) (zf_ NB268_294.out BK268.out) hb); have n15_ := Aside0.mk (blk_below (g := gb276) (o := .cells #[.slice Ao33 t269.length co33, .slice Ao38 t272.length co38] 25 (0, 0)) (zf_ NB276_294.out BK276.out) hb); have n16_ := Aside0.mk (blk_below (g := gb285) (o := .cells #[.slice Ao42 t277.length co42, .slice Ao48 t280.length co48] 25 (0, 0)) (zf_ NB285_294.out BK285.out) hb); have n17_ := Aside0.mk (blk_below (g := gb294) (o := .cells #[.slice Ao52 t286.length co52, .slice Ao59 t289.length co59] 25 (0, 0)) (zp2_ BK294.out) hb); have n18_ := Aside0.mk (below_step (zh6_ HB.out GE253.out GE260.out GE268.out GE276.out GE285.out GE294.out) hb); clear HO256; clear HO259; clear HO263; clear HO266; clear HO271; clear HO274; clear HO279; clear HO282; clear HO288; clear HO291; clear BK253; clear BK260; clear BK268; clear BK276; clear BK285; clear BK294; clear HB; have HO256 := n0_; have HO259 := n1_; have HO263 := n2_; have HO266 := n3_; have HO271 := n4_; have HO274 := n5_; have HO279 := n6_; have HO282 := n7_; have HO288 := n8_; have HO291 := n9_; have HO297 := n10_; have HO300 := n11_; have BK253 := n12_; have BK260 := n13_; have BK268 := n14_; have BK276 := n15_; have BK285 := n16_; have BK294 := n17_; have HB := n18_; clear n0_ n1_ n2_ n3_ n4_ n5_ n6_ n7_ n8_ n9_ n10_ n11_ n12_ n13_ n14_ n15_ n16_ n17_ n18_; (try clear hb); (try clear hb2); (try clear hk); (try clear hi); (try clear ho0); (try clear ho1)) | ((with_reducible refine gate_dst (N := 20) rfl ?_); refine box_event ?hg (N := 20) ?hd (cs := #[.slice none 0 0, .slice none 0 0]) (t := 25) ?hr ?_; (case hd => rfl); (case hg => rfl); (case hr => first | (go_simp; done) | (go_simp; rfl)); intro gb303 hg w62 hbox hb; have n0_ := Aside0.mk (Kd.R_below (zR_ HO256.out) hb); have n1_ := Aside0.mk (Kd.R_below (zR_ HO259.out) hb); have n2_ := Aside0.mk (Kd.R_below (zR_ HO263.out) hb); have n3_ := Aside0.mk (Kd.R_below (zR_ HO266.out) hb); have n4_ := Aside0.mk (Kd.R_below (zR_ HO271.out) hb); have n5_ := Aside0.mk (Kd.R_below (zR_ HO274.out) hb); have n6_ := Aside0.mk (Kd.R_below (zR_ HO279.out) hb); have n7_ := Aside0.mk (Kd.R_below (zR_ HO282.out) hb); have n8_ := Aside0.mk (Kd.R_below (zR_ HO288.out) hb); have n9_ := Aside0.mk (Kd.R_below (zR_ HO291.out) hb); have n10_ := Aside0.mk (Kd.R_below (zR_ HO297.out) hb); have n11_ := Aside0.mk (Kd.R_below (zR_ HO300.out) hb); have n12_ := Aside0.mk (blk_below (g := gb253) (o := .cells #[.slice A0_0 l0_0.length c0_0, .slice A0_1 l0_1.length c0_1] 25 (0, 0)) (zb_ BK253.out) hb); have n13_ := Aside0.mk (blk_below (g := gb260) (o := .cells #[.slice Ao19 t254.length co19, .slice Ao22 t257.length co22] 25 (0, 0)) (zb_ BK260.out) hb); have n14_ := Aside0.mk (blk_below (g := gb268) (o := .cells #[.slice Ao25 t261.length co25, .slice Ao29 t264.length co29] 25 (0, 0)) (zb_ BK268.out) hb); have n15_ := Aside0.mk (blk_below (g := gb276) (o := .cells #[.slice Ao33 t269.length co33, .slice Ao38 t272.length co38] 25 (0, 0)) (zb_ BK276.out) hb); have n16_ := Aside0.mk (blk_below (g := gb285) (o := .cells #[.slice Ao42 t277.length co42, .slice Ao48 t280.length co48] 25 (0, 0)) (zb_ BK285.out) hb); have n17_ := Aside0.mk (blk_below (g := gb294) (o := .cells #[.slice Ao52 t286.length co52, .slice Ao59 t289.length co59] 25 (0, 0)) (zb_ BK294.out) hb); have n18_ := Aside0.mk (below_step (zh6_ HB.out GE253.out GE260.out GE268.out GE276.out GE285.out GE294.out) hb); have n19_ := Aside0.mk (hbox); have n20_ := Aside0.mk ((by rw [hg]; exact (below_size (zh6_ HB.out GE253.out GE260.out GE268.out GE276.out GE285.out GE294.out)) : w.heap.size ≤ gb303)); have n21_ := Aside0.mk ((by rw [hg]; exact (below_size (zh6_ HB.out GE253.out GE260.out GE268.out GE276.out GE285.out GE294.out)) : w.heap.size ≤ gb303)); have n22_ := Aside0.mk ((by rw [hg]; exact Nat.ne_of_lt (blk_lt (g := gb253) (o := .cells #[.slice A0_0 l0_0.length c0_0, .slice A0_1 l0_1.length c0_1] 25 (0, 0)) (zb_ BK253.out)) : gb253 ≠ gb303)); have n23_ := Aside0.mk ((by rw [hg]; exact Nat.ne_of_gt (blk_lt (g := gb253) (o := .cells #[.slice A0_0 l0_0.length c0_0, .slice A0_1 l0_1.length c0_1] 25 (0, 0)) (zb_ BK253.out)) : gb303 ≠ gb253)); have n24_ := Aside0.mk ((by rw [hg]; exact Nat.ne_of_lt (blk_lt (g := gb260) (o := .cells #[.slice Ao19 t254.length co19, .slice Ao22 t257.length co22] 25 (0, 0)) (zb_ BK260.out)) : gb260 ≠ gb303)); have n25_ := Aside0.mk ((by rw [hg]; exact Nat.ne_of_gt (blk_lt (g := gb260) (o := .cells #[.slice Ao19 t254.length co19, .slice Ao22 t257.length co22] 25 (0, 0)) (zb_ BK260.out)) : gb303 ≠ gb260)); have n26_ := Aside0.mk ((by rw [hg]; exact Nat.ne_of_lt (blk_lt (g := gb268) (o := .cells #[.slice Ao25 t261.length co25, .slice Ao29 t264.length co29] 25 (0, 0)) (zb_ BK268.out)) : gb268 ≠ gb303)); have n27_ := Aside0.mk ((by rw [hg]; exact Nat.ne_of_gt (blk_lt (g := gb268) (o := .cells #[.slice Ao25 t261.length co25, .slice Ao29 t264.length co29] 25 (0, 0)) (zb_ BK268.out)) : gb303 ≠ gb268)); have n28_ := Aside0.mk ((by rw [hg]; exact Nat.ne_of_lt (blk_lt (g := gb276) (o := .cells #[.slice Ao33 t269.length co33, .slice Ao38 t272.length co38] 25 (0, 0)) (zb_ BK276.out)) : gb276 ≠ gb303)); have n29_ := Aside0.mk ((by rw [hg]; exact Nat.ne_of_gt (blk_lt (g := gb276) (o := .cells #[.slice Ao33 t269.length co33, .slice Ao38 t272.length co38] 25 (0, 0)) (zb_ BK276.out)) : gb303 ≠ gb276)); have n30_ := Aside0.mk ((by rw [hg]; exact Nat.ne_of_lt (blk_lt (g := gb285) (o := .cells #[.slice Ao42 t277.length co42, .slice Ao48 t280.length co48] 25 (0, 0)) (zb_ BK285.out)) : gb285 ≠ gb303)); have n31_ := Aside0.mk ((by rw [hg]; exact Nat.ne_of_gt (blk_lt (g := gb285) (o := .cells #[.slice Ao42 t277.length co42, .slice Ao48 t280.length co48] 25 (0, 0)) (zb_ BK285.out)) : gb303 ≠ gb285)); have n32_ := Aside0.mk ((by rw [hg]; exact Nat.ne_of_lt (blk_lt (g := gb294) (o := .cells #[.slice Ao52 t286.length co52, .slice Ao59 t289.length co59] 25 (0, 0)) (zb_ BK294.out)) : gb294 ≠ gb303)); have n33_ := Aside0.mk ((by rw [hg]; exact Nat.ne_of_gt (blk_lt (g := gb294) (o := .cells #[.slice Ao52 t286.length co52, .slice Ao59 t289.length co59] 25 (0, 0)) (zb_ BK294.out)) : gb303 ≠ gb294)); clear HO256; clear HO259; clear HO263; clear HO266; clear HO271; clear HO274; clear HO279; clear HO282; clear HO288; clear HO291; clear HO297; clear HO300; clear BK253; clear BK260; clear BK268; clear BK276; clear BK285; clear BK294; clear HB; have HO256 := n0_; have HO259 := n1_; have HO263 := n2_; have HO266 := n3_; have HO271 := n4_; have HO274 := n5_; have HO279 := n6_; have HO282 := n7_; have HO288 := n8_; have HO291 := n9_; have HO297 := n10_; have HO300 := n11_; have BK253 := n12_; have BK260 := n13_; have BK268 := n14_; have BK276 := n15_; have BK285 := n16_; have BK294 := n17_; have HB := n18_; have BK303 := n19_; have GW303 := n20_; have GE303 := n21_; have NB253_303 := n22_; have NB303_253 := n23_; have NB260_303 := n24_; have NB303_260 := n25_; have NB268_303 := n26_; have NB303_268 := n27_; have NB276_303 := n28_; have NB303_276 := n29_; have NB285_303 := n30_; have NB303_285 := n31_; have NB294_303 := n32_; have NB303_294 := n33_; clear n0_ n1_ n2_ n3_ n4_ n5_ n6_ n7_ n8_ n9_ n10_ n11_ n12_ n13_ n14_ n15_ n16_ n17_ n18_ n19_ n20_ n21_ n22_ n23_ n24_ n25_ n26_ n27_ n28_ n29_ n30_ n31_ n32_ n33_; clear hb hbox hg; obtain ⟨Ao63, co63, eo63⟩ := Kd.R_slice HO297.out; subst eo63; have hnb64 := NB303_253.out; have hnc64 := NB253_303.out; have hnb65 := NB303_260.out; have hnc65 := NB260_303.out; have hnb66 := NB303_268.out; have hnc66 := NB268_303.out; have hnb67 := NB303_276.out; have hnc67 := NB276_303.out; have hnb68 := NB303_285.out; have hnc68 := NB285_303.out; have hnb69 := NB303_294.out; have hnc69 := NB294_303.out; have hcz70_0 : w62.cell? ⟨gb303, 0, none⟩ = some (.slice none 0 0) := (blk_cell BK303.out 0).trans rfl; have hcz70_1 : w62.cell? ⟨gb303, 1, none⟩ = some (.slice none 0 0) := (blk_cell BK303.out 1).trans rfl; have hfz70_0 := blk_frozen BK303.out 0; have hfz70_1 := blk_frozen BK303.out 1; obtain ⟨Ao71, co71, eo71⟩ := Kd.R_slice HO300.out; subst eo71; have hcz72_0 : w62.cell? ⟨gb253, 0, none⟩ = some (.slice A0_0 l0_0.length c0_0) := (blk_cell BK253.out 0).trans rfl; have hcz72_1 : w62.cell? ⟨gb253, 1, none⟩ = some (.slice A0_1 l0_1.length c0_1) := (blk_cell BK253.out 1).trans rfl; have hfz72_0 := blk_frozen BK253.out 0; have hfz72_1 := blk_frozen BK253.out 1) | ((with_reducible refine gate_callee (f := 19) rfl ?_); refine goesL_ (some 74) rfl rfl Try.func19 (by kernel_rfl) rfl #[.agg #[.slice A0_0 l0_0.length c0_0, .slice A0_1 l0_1.length c0_1], .int .i64 a1] rfl zl_ ?_; (with_reducible refine (ladingref14_Capture.calls k _ _ l0_0 _ _ l0_1 a1 t304 t307 t310 t311 _ ?side1 ?side2 ?side3 ?side4 A11.out).mono ?_); (case side1 => exact Kd.C_below HR0_0.out (zh7_ HB.out GE253.out GE260.out GE268.out GE276.out GE285.out GE294.out GE303.out)); (case side2 => exact HC0_0.out); (case side3 => exact Kd.C_below HR0_1.out (zh7_ HB.out GE253.out GE260.out GE268.out GE276.out GE285.out GE294.out GE303.out)); (case side4 => exact HC0_1.out); rintro e w73 ⟨v305, v308, rfl, ho0, ho1, hb⟩; refine ⟨_, rfl, ?_⟩; have n0_ := Aside0.mk (Kd.R_elder' (zr2_ HO256.out BK303.out) (Kd.R_base ho0) hb); have n1_ := Aside0.mk (Kd.R_elder' (zr2_ HO259.out BK303.out) (Kd.R_base ho1) hb); have n2_ := Aside0.mk (Kd.R_elder' (zr2_ HO263.out BK303.out) (Kd.R_base ho0) hb); have n3_ := Aside0.mk (Kd.R_elder' (zr2_ HO266.out BK303.out) (Kd.R_base ho1) hb); have n4_ := Aside0.mk (Kd.R_elder' (zr2_ HO271.out BK303.out) (Kd.R_base ho0) hb); have n5_ := Aside0.mk (Kd.R_elder' (zr2_ HO274.out BK303.out) (Kd.R_base ho1) hb); have n6_ := Aside0.mk (Kd.R_elder' (zr2_ HO279.out BK303.out) (Kd.R_base ho0) hb); have n7_ := Aside0.mk (Kd.R_elder' (zr2_ HO282.out BK303.out) (Kd.R_base ho1) hb); have n8_ := Aside0.mk (Kd.R_elder' (zr2_ HO288.out BK303.out) (Kd.R_base ho0) hb); have n9_ := Aside0.mk (Kd.R_elder' (zr2_ HO291.out BK303.out) (Kd.R_base ho1) hb); have n10_ := Aside0.mk (Kd.R_elder' (zr2_ HO297.out BK303.out) (Kd.R_base ho0) hb); have n11_ := Aside0.mk (Kd.R_elder' (zr2_ HO300.out BK303.out) (Kd.R_base ho1) hb); have n12_ := Aside0.mk (Kd.R_lower (Kd.R_new' (Kd.R_new' (Kd.R_new' (Kd.R_new' (Kd.R_new' (Kd.R_new' ho0 (Kd.R_lt (zr2_ HO256.out BK303.out))) (Kd.R_lt (zr2_ HO263.out BK303.out))) (Kd.R_lt (zr2_ HO271.out BK303.out))) (Kd.R_lt (zr2_ HO279.out BK303.out))) (Kd.R_lt (zr2_ HO288.out BK303.out))) (Kd.R_lt (zr2_ HO297.out BK303.out))) (below_size (zh7_ HB.out GE253.out GE260.out GE268.out GE276.out GE285.out GE294.out GE303.out))); have n13_ := Aside0.mk (Kd.R_lower (Kd.R_new' (Kd.R_new' (Kd.R_new' (Kd.R_new' (Kd.R_new' (Kd.R_new' ho1 (Kd.R_lt (zr2_ HO259.out BK303.out))) (Kd.R_lt (zr2_ HO266.out BK303.out))) (Kd.R_lt (zr2_ HO274.out BK303.out))) (Kd.R_lt (zr2_ HO282.out BK303.out))) (Kd.R_lt (zr2_ HO291.out BK303.out))) (Kd.R_lt (zr2_ HO300.out BK303.out))) (below_size (zh7_ HB.out GE253.out GE260.out GE268.out GE276.out GE285.out GE294.out GE303.out))); have n14_ := Aside0.mk (blk_below (g := gb253) (o := .cells #[.slice A0_0 l0_0.length c0_0, .slice A0_1 l0_1.length c0_1] 25 (0, 0)) (zf_ NB253_303.out BK253.out) hb); have n15_ := Aside0.mk (blk_below (g := gb260) (o := .cells #[.slice Ao19 t254.length co19, .slice Ao22 t257.length co22] 25 (0, 0)) (zf_ NB260_303.out BK260.out) hb); have n16_ := Aside0.mk (blk_below (g := gb268) (o := .cells #[.slice Ao25 t261.length co25, .slice Ao29 t264.length co29] 25 (0, 0)) (zf_ NB268_303.out BK268.out) hb); have n17_ := Aside0.mk (blk_below (g := gb276) (o := .cells #[.slice Ao33 t269.length co33, .slice Ao38 t272.length co38] 25 (0, 0)) (zf_ NB276_303.out BK276.out) hb); have n18_ := Aside0.mk (blk_below (g := gb285) (o := .cells #[.slice Ao42 t277.length co42, .slice Ao48 t280.length co48] 25 (0, 0)) (zf_ NB285_303.out BK285.out) hb); have n19_ := Aside0.mk (blk_below (g := gb294) (o := .cells #[.slice Ao52 t286.length co52, .slice Ao59 t289.length co59] 25 (0, 0)) (zf_ NB294_303.out BK294.out) hb); have n20_ := Aside0.mk (blk_below (g := gb303) (o := .cells #[.slice Ao63 t295.length co63, .slice Ao71 t298.length co71] 25 (0, 0)) (zp2_ BK303.out) hb); have n21_ := Aside0.mk (below_step (zh7_ HB.out GE253.out GE260.out GE268.out GE276.out GE285.out GE294.out GE303.out) hb); clear HO256; clear HO259; clear HO263; clear HO266; clear HO271; clear HO274; clear HO279; clear HO282; clear HO288; clear HO291; clear HO297; clear HO300; clear BK253; clear BK260; clear BK268; clear BK276; clear BK285; clear BK294; clear BK303; clear HB; have HO256 := n0_; have HO259 := n1_; have HO263 := n2_; have HO266 := n3_; have HO271 := n4_; have HO274 := n5_; have HO279 := n6_; have HO282 := n7_; have HO288 := n8_; have HO291 := n9_; have HO297 := n10_; have HO300 := n11_; have HO306 := n12_; have HO309 := n13_; have BK253 := n14_; have BK260 := n15_; have BK268 := n16_; have BK276 := n17_; have BK285 := n18_; have BK294 := n19_; have BK303 := n20_; have HB := n21_; clear n0_ n1_ n2_ n3_ n4_ n5_ n6_ n7_ n8_ n9_ n10_ n11_ n12_ n13_ n14_ n15_ n16_ n17_ n18_ n19_ n20_ n21_; (try clear hb); (try clear hb2); (try clear hk); (try clear hi); (try clear ho0); (try clear ho1)) | ((with_reducible refine gate_dst (N := 23) rfl ?_); refine box_event ?hg (N := 23) ?hd (cs := #[.slice none 0 0, .slice none 0 0]) (t := 25) ?hr ?_; (case hd => rfl); (case hg => rfl); (case hr => first | (go_simp; done) | (go_simp; rfl)); intro gb312 hg w74 hbox hb; have n0_ := Aside0.mk (Kd.R_below (zR_ HO256.out) hb); have n1_ := Aside0.mk (Kd.R_below (zR_ HO259.out) hb); have n2_ := Aside0.mk (Kd.R_below (zR_ HO263.out) hb); have n3_ := Aside0.mk (Kd.R_below (zR_ HO266.out) hb); have n4_ := Aside0.mk (Kd.R_below (zR_ HO271.out) hb); have n5_ := Aside0.mk (Kd.R_below (zR_ HO274.out) hb); have n6_ := Aside0.mk (Kd.R_below (zR_ HO279.out) hb); have n7_ := Aside0.mk (Kd.R_below (zR_ HO282.out) hb); have n8_ := Aside0.mk (Kd.R_below (zR_ HO288.out) hb); have n9_ := Aside0.mk (Kd.R_below (zR_ HO291.out) hb); have n10_ := Aside0.mk (Kd.R_below (zR_ HO297.out) hb); have n11_ := Aside0.mk (Kd.R_below (zR_ HO300.out) hb); have n12_ := Aside0.mk (Kd.R_below (zR_ HO306.out) hb); have n13_ := Aside0.mk (Kd.R_below (zR_ HO309.out) hb); have n14_ := Aside0.mk (blk_below (g := gb253) (o := .cells #[.slice A0_0 l0_0.length c0_0, .slice A0_1 l0_1.length c0_1] 25 (0, 0)) (zb_ BK253.out) hb); have n15_ := Aside0.mk (blk_below (g := gb260) (o := .cells #[.slice Ao19 t254.length co19, .slice Ao22 t257.length co22] 25 (0, 0)) (zb_ BK260.out) hb); have n16_ := Aside0.mk (blk_below (g := gb268) (o := .cells #[.slice Ao25 t261.length co25, .slice Ao29 t264.length co29] 25 (0, 0)) (zb_ BK268.out) hb); have n17_ := Aside0.mk (blk_below (g := gb276) (o := .cells #[.slice Ao33 t269.length co33, .slice Ao38 t272.length co38] 25 (0, 0)) (zb_ BK276.out) hb); have n18_ := Aside0.mk (blk_below (g := gb285) (o := .cells #[.slice Ao42 t277.length co42, .slice Ao48 t280.length co48] 25 (0, 0)) (zb_ BK285.out) hb); have n19_ := Aside0.mk (blk_below (g := gb294) (o := .cells #[.slice Ao52 t286.length co52, .slice Ao59 t289.length co59] 25 (0, 0)) (zb_ BK294.out) hb); have n20_ := Aside0.mk (blk_below (g := gb303) (o := .cells #[.slice Ao63 t295.length co63, .slice Ao71 t298.length co71] 25 (0, 0)) (zb_ BK303.out) hb); have n21_ := Aside0.mk (below_step (zh7_ HB.out GE253.out GE260.out GE268.out GE276.out GE285.out GE294.out GE303.out) hb); have n22_ := Aside0.mk (hbox); have n23_ := Aside0.mk ((by rw [hg]; exact (below_size (zh7_ HB.out GE253.out GE260.out GE268.out GE276.out GE285.out GE294.out GE303.out)) : w.heap.size ≤ gb312)); have n24_ := Aside0.mk ((by rw [hg]; exact (below_size (zh7_ HB.out GE253.out GE260.out GE268.out GE276.out GE285.out GE294.out GE303.out)) : w.heap.size ≤ gb312)); have n25_ := Aside0.mk ((by rw [hg]; exact Nat.ne_of_lt (blk_lt (g := gb253) (o := .cells #[.slice A0_0 l0_0.length c0_0, .slice A0_1 l0_1.length c0_1] 25 (0, 0)) (zb_ BK253.out)) : gb253 ≠ gb312)); have n26_ := Aside0.mk ((by rw [hg]; exact Nat.ne_of_gt (blk_lt (g := gb253) (o := .cells #[.slice A0_0 l0_0.length c0_0, .slice A0_1 l0_1.length c0_1] 25 (0, 0)) (zb_ BK253.out)) : gb312 ≠ gb253)); have n27_ := Aside0.mk ((by rw [hg]; exact Nat.ne_of_lt (blk_lt (g := gb260) (o := .cells #[.slice Ao19 t254.length co19, .slice Ao22 t257.length co22] 25 (0, 0)) (zb_ BK260.out)) : gb260 ≠ gb312)); have n28_ := Aside0.mk ((by rw [hg]; exact Nat.ne_of_gt (blk_lt (g := gb260) (o := .cells #[.slice Ao19 t254.length co19, .slice Ao22 t257.length co22] 25 (0, 0)) (zb_ BK260.out)) : gb312 ≠ gb260)); have n29_ := Aside0.mk ((by rw [hg]; exact Nat.ne_of_lt (blk_lt (g := gb268) (o := .cells #[.slice Ao25 t261.length co25, .slice Ao29 t264.length co29] 25 (0, 0)) (zb_ BK268.out)) : gb268 ≠ gb312)); have n30_ := Aside0.mk ((by rw [hg]; exact Nat.ne_of_gt (blk_lt (g := gb268) (o := .cells #[.slice Ao25 t261.length co25, .slice Ao29 t264.length co29] 25 (0, 0)) (zb_ BK268.out)) : gb312 ≠ gb268)); have n31_ := Aside0.mk ((by rw [hg]; exact Nat.ne_of_lt (blk_lt (g := gb276) (o := .cells #[.slice Ao33 t269.length co33, .slice Ao38 t272.length co38] 25 (0, 0)) (zb_ BK276.out)) : gb276 ≠ gb312)); have n32_ := Aside0.mk ((by rw [hg]; exact Nat.ne_of_gt (blk_lt (g := gb276) (o := .cells #[.slice Ao33 t269.length co33, .slice Ao38 t272.length co38] 25 (0, 0)) (zb_ BK276.out)) : gb312 ≠ gb276)); have n33_ := Aside0.mk ((by rw [hg]; exact Nat.ne_of_lt (blk_lt (g := gb285) (o := .cells #[.slice Ao42 t277.length co42, .slice Ao48 t280.length co48] 25 (0, 0)) (zb_ BK285.out)) : gb285 ≠ gb312)); have n34_ := Aside0.mk ((by rw [hg]; exact Nat.ne_of_gt (blk_lt (g := gb285) (o := .cells #[.slice Ao42 t277.length co42, .slice Ao48 t280.length co48] 25 (0, 0)) (zb_ BK285.out)) : gb312 ≠ gb285)); have n35_ := Aside0.mk ((by rw [hg]; exact Nat.ne_of_lt (blk_lt (g := gb294) (o := .cells #[.slice Ao52 t286.length co52, .slice Ao59 t289.length co59] 25 (0, 0)) (zb_ BK294.out)) : gb294 ≠ gb312)); have n36_ := Aside0.mk ((by rw [hg]; exact Nat.ne_of_gt (blk_lt (g := gb294) (o := .cells #[.slice Ao52 t286.length co52, .slice Ao59 t289.length co59] 25 (0, 0)) (zb_ BK294.out)) : gb312 ≠ gb294)); have n37_ := Aside0.mk ((by rw [hg]; exact Nat.ne_of_lt (blk_lt (g := gb303) (o := .cells #[.slice Ao63 t295.length co63, .slice Ao71 t298.length co71] 25 (0, 0)) (zb_ BK303.out)) : gb303 ≠ gb312)); have n38_ := Aside0.mk ((by rw [hg]; exact Nat.ne_of_gt (blk_lt (g := gb303) (o := .cells #[.slice Ao63 t295.length co63, .slice Ao71 t298.length co71] 25 (0, 0)) (zb_ BK303.out)) : gb312 ≠ gb303)); clear HO256; clear HO259; clear HO263; clear HO266; clear HO271; clear HO274; clear HO279; clear HO282; clear HO288; clear HO291; clear HO297; clear HO300; clear HO306; clear HO309; clear BK253; clear BK260; clear BK268; clear BK276; clear BK285; clear BK294; clear BK303; clear HB; have HO256 := n0_; have HO259 := n1_; have HO263 := n2_; have HO266 := n3_; have HO271 := n4_; have HO274 := n5_; have HO279 := n6_; have HO282 := n7_; have HO288 := n8_; have HO291 := n9_; have HO297 := n10_; have HO300 := n11_; have HO306 := n12_; have HO309 := n13_; have BK253 := n14_; have BK260 := n15_; have BK268 := n16_; have BK276 := n17_; have BK285 := n18_; have BK294 := n19_; have BK303 := n20_; have HB := n21_; have BK312 := n22_; have GW312 := n23_; have GE312 := n24_; have NB253_312 := n25_; have NB312_253 := n26_; have NB260_312 := n27_; have NB312_260 := n28_; have NB268_312 := n29_; have NB312_268 := n30_; have NB276_312 := n31_; have NB312_276 := n32_; have NB285_312 := n33_; have NB312_285 := n34_; have NB294_312 := n35_; have NB312_294 := n36_; have NB303_312 := n37_; have NB312_303 := n38_; clear n0_ n1_ n2_ n3_ n4_ n5_ n6_ n7_ n8_ n9_ n10_ n11_ n12_ n13_ n14_ n15_ n16_ n17_ n18_ n19_ n20_ n21_ n22_ n23_ n24_ n25_ n26_ n27_ n28_ n29_ n30_ n31_ n32_ n33_ n34_ n35_ n36_ n37_ n38_; clear hb hbox hg; obtain ⟨Ao75, co75, eo75⟩ := Kd.R_slice HO306.out; subst eo75; have hnb76 := NB312_253.out; have hnc76 := NB253_312.out; have hnb77 := NB312_260.out; have hnc77 := NB260_312.out; have hnb78 := NB312_268.out; have hnc78 := NB268_312.out; have hnb79 := NB312_276.out; have hnc79 := NB276_312.out; have hnb80 := NB312_285.out; have hnc80 := NB285_312.out; have hnb81 := NB312_294.out; have hnc81 := NB294_312.out; have hnb82 := NB312_303.out; have hnc82 := NB303_312.out; have hcz83_0 : w74.cell? ⟨gb312, 0, none⟩ = some (.slice none 0 0) := (blk_cell BK312.out 0).trans rfl; have hcz83_1 : w74.cell? ⟨gb312, 1, none⟩ = some (.slice none 0 0) := (blk_cell BK312.out 1).trans rfl; have hfz83_0 := blk_frozen BK312.out 0; have hfz83_1 := blk_frozen BK312.out 1; obtain ⟨Ao84, co84, eo84⟩ := Kd.R_slice HO309.out; subst eo84; have hcz85_0 : w74.cell? ⟨gb260, 0, none⟩ = some (.slice Ao19 t254.length co19) := (blk_cell BK260.out 0).trans rfl; have hcz85_1 : w74.cell? ⟨gb260, 1, none⟩ = some (.slice Ao22 t257.length co22) := (blk_cell BK260.out 1).trans rfl; have hfz85_0 := blk_frozen BK260.out 0; have hfz85_1 := blk_frozen BK260.out 1) | ((with_reducible refine gate_callee (f := 9) rfl ?_); refine goesL_ (some 82) rfl rfl Try.func9 (by kernel_rfl) rfl #[.agg #[.slice Ao19 t254.length co19, .slice Ao22 t257.length co22], .int .i64 a1, .int .i64 a2] rfl zl_ ?_; (with_reducible refine (ledger_Refund.calls _ _ t254 _ _ t257 a1 a2 t313 t316 t319 _ ?side1 ?side2 ?side3 ?side4 A12.out).mono ?_); (case side1 => refine (Kd.R_reads' (e := 31) (base := w.heap.size) (ok := fun k_ => ((((((True ∧ some k_ ≠ (.slice Ao25 t261.length co25 : Value).ownBlock) ∧ some k_ ≠ (.slice Ao33 t269.length co33 : Value).ownBlock) ∧ some k_ ≠ (.slice Ao42 t277.length co42 : Value).ownBlock) ∧ some k_ ≠ (.slice Ao52 t286.length co52 : Value).ownBlock) ∧ some k_ ≠ (.slice Ao63 t295.length co63 : Value).ownBlock) ∧ some k_ ≠ (.slice Ao75 t304.length co75 : Value).ownBlock)) (n := t254.length) (c := co19) ?_).2.2; exact (zr2_ HO256.out BK312.out)); (case side2 => exact (Kd.R_reads' HO256.out).2.1); (case side3 => refine (Kd.R_reads' (e := 55) (base := w.heap.size) (ok := fun k_ => ((((((True ∧ some k_ ≠ (.slice Ao29 t264.length co29 : Value).ownBlock) ∧ some k_ ≠ (.slice Ao38 t272.length co38 : Value).ownBlock) ∧ some k_ ≠ (.slice Ao48 t280.length co48 : Value).ownBlock) ∧ some k_ ≠ (.slice Ao59 t289.length co59 : Value).ownBlock) ∧ some k_ ≠ (.slice Ao71 t298.length co71 : Value).ownBlock) ∧ some k_ ≠ (.slice Ao84 t307.length co84 : Value).ownBlock)) (n := t257.length) (c := co22) ?_).2.2; exact (zr2_ HO259.out BK312.out)); (case side4 => exact (Kd.R_reads' HO259.out).2.1); rintro e w86 ⟨v314, v317, rfl, ho0, ho1, hb⟩; refine ⟨_, rfl, ?_⟩; have n0_ := Aside0.mk (Kd.R_elder' (zr2_ HO256.out BK312.out) (Kd.R_base ho0) hb); have n1_ := Aside0.mk (Kd.R_elder' (zr2_ HO259.out BK312.out) (Kd.R_base ho1) hb); have n2_ := Aside0.mk (Kd.R_elder' (zr2_ HO263.out BK312.out) (Kd.R_base ho0) hb); have n3_ := Aside0.mk (Kd.R_elder' (zr2_ HO266.out BK312.out) (Kd.R_base ho1) hb); have n4_ := Aside0.mk (Kd.R_elder' (zr2_ HO271.out BK312.out) (Kd.R_base ho0) hb); have n5_ := Aside0.mk (Kd.R_elder' (zr2_ HO274.out BK312.out) (Kd.R_base ho1) hb); have n6_ := Aside0.mk (Kd.R_elder' (zr2_ HO279.out BK312.out) (Kd.R_base ho0) hb); have n7_ := Aside0.mk (Kd.R_elder' (zr2_ HO282.out BK312.out) (Kd.R_base ho1) hb); have n8_ := Aside0.mk (Kd.R_elder' (zr2_ HO288.out BK312.out) (Kd.R_base ho0) hb); have n9_ := Aside0.mk (Kd.R_elder' (zr2_ HO291.out BK312.out) (Kd.R_base ho1) hb); have n10_ := Aside0.mk (Kd.R_elder' (zr2_ HO297.out BK312.out) (Kd.R_base ho0) hb); have n11_ := Aside0.mk (Kd.R_elder' (zr2_ HO300.out BK312.out) (Kd.R_base ho1) hb); have n12_ := Aside0.mk (Kd.R_elder' (zr2_ HO306.out BK312.out) (Kd.R_base ho0) hb); have n13_ := Aside0.mk (Kd.R_elder' (zr2_ HO309.out BK312.out) (Kd.R_base ho1) hb); have n14_ := Aside0.mk (Kd.R_lower (Kd.R_new' (Kd.R_new' (Kd.R_new' (Kd.R_new' (Kd.R_new' (Kd.R_new' (Kd.R_new' ho0 (Kd.R_lt (zr2_ HO256.out BK312.out))) (Kd.R_lt (zr2_ HO263.out BK312.out))) (Kd.R_lt (zr2_ HO271.out BK312.out))) (Kd.R_lt (zr2_ HO279.out BK312.out))) (Kd.R_lt (zr2_ HO288.out BK312.out))) (Kd.R_lt (zr2_ HO297.out BK312.out))) (Kd.R_lt (zr2_ HO306.out BK312.out))) (below_size (zh8_ HB.out GE253.out GE260.out GE268.out GE276.out GE285.out GE294.out GE303.out GE312.out))); have n15_ := Aside0.mk (Kd.R_lower (Kd.R_new' (Kd.R_new' (Kd.R_new' (Kd.R_new' (Kd.R_new' (Kd.R_new' (Kd.R_new' ho1 (Kd.R_lt (zr2_ HO259.out BK312.out))) (Kd.R_lt (zr2_ HO266.out BK312.out))) (Kd.R_lt (zr2_ HO274.out BK312.out))) (Kd.R_lt (zr2_ HO282.out BK312.out))) (Kd.R_lt (zr2_ HO291.out BK312.out))) (Kd.R_lt (zr2_ HO300.out BK312.out))) (Kd.R_lt (zr2_ HO309.out BK312.out))) (below_size (zh8_ HB.out GE253.out GE260.out GE268.out GE276.out GE285.out GE294.out GE303.out GE312.out))); have n16_ := Aside0.mk (blk_below (g := gb253) (o := .cells #[.slice A0_0 l0_0.length c0_0, .slice A0_1 l0_1.length c0_1] 25 (0, 0)) (zf_ NB253_312.out BK253.out) hb); have n17_ := Aside0.mk (blk_below (g := gb260) (o := .cells #[.slice Ao19 t254.length co19, .slice Ao22 t257.length co22] 25 (0, 0)) (zf_ NB260_312.out BK260.out) hb); have n18_ := Aside0.mk (blk_below (g := gb268) (o := .cells #[.slice Ao25 t261.length co25, .slice Ao29 t264.length co29] 25 (0, 0)) (zf_ NB268_312.out BK268.out) hb); have n19_ := Aside0.mk (blk_below (g := gb276) (o := .cells #[.slice Ao33 t269.length co33, .slice Ao38 t272.length co38] 25 (0, 0)) (zf_ NB276_312.out BK276.out) hb); have n20_ := Aside0.mk (blk_below (g := gb285) (o := .cells #[.slice Ao42 t277.length co42, .slice Ao48 t280.length co48] 25 (0, 0)) (zf_ NB285_312.out BK285.out) hb); have n21_ := Aside0.mk (blk_below (g := gb294) (o := .cells #[.slice Ao52 t286.length co52, .slice Ao59 t289.length co59] 25 (0, 0)) (zf_ NB294_312.out BK294.out) hb); have n22_ := Aside0.mk (blk_below (g := gb303) (o := .cells #[.slice Ao63 t295.length co63, .slice Ao71 t298.length co71] 25 (0, 0)) (zf_ NB303_312.out BK303.out) hb); have n23_ := Aside0.mk (blk_below (g := gb312) (o := .cells #[.slice Ao75 t304.length co75, .slice Ao84 t307.length co84] 25 (0, 0)) (zp2_ BK312.out) hb); have n24_ := Aside0.mk (below_step (zh8_ HB.out GE253.out GE260.out GE268.out GE276.out GE285.out GE294.out GE303.out GE312.out) hb); clear HO256; clear HO259; clear HO263; clear HO266; clear HO271; clear HO274; clear HO279; clear HO282; clear HO288; clear HO291; clear HO297; clear HO300; clear HO306; clear HO309; clear BK253; clear BK260; clear BK268; clear BK276; clear BK285; clear BK294; clear BK303; clear BK312; clear HB; have HO256 := n0_; have HO259 := n1_; have HO263 := n2_; have HO266 := n3_; have HO271 := n4_; have HO274 := n5_; have HO279 := n6_; have HO282 := n7_; have HO288 := n8_; have HO291 := n9_; have HO297 := n10_; have HO300 := n11_; have HO306 := n12_; have HO309 := n13_; have HO315 := n14_; have HO318 := n15_; have BK253 := n16_; have BK260 := n17_; have BK268 := n18_; have BK276 := n19_; have BK285 := n20_; have BK294 := n21_; have BK303 := n22_; have BK312 := n23_; have HB := n24_; clear n0_ n1_ n2_ n3_ n4_ n5_ n6_ n7_ n8_ n9_ n10_ n11_ n12_ n13_ n14_ n15_ n16_ n17_ n18_ n19_ n20_ n21_ n22_ n23_ n24_; (try clear hb); (try clear hb2); (try clear hk); (try clear hi); (try clear ho0); (try clear ho1)) | ((with_reducible refine gate_dst (N := 26) rfl ?_); refine box_event ?hg (N := 26) ?hd (cs := #[.slice none 0 0, .slice none 0 0]) (t := 25) ?hr ?_; (case hd => rfl); (case hg => rfl); (case hr => first | (go_simp; done) | (go_simp; rfl)); intro gb320 hg w87 hbox hb; have n0_ := Aside0.mk (Kd.R_below (zR_ HO256.out) hb); have n1_ := Aside0.mk (Kd.R_below (zR_ HO259.out) hb); have n2_ := Aside0.mk (Kd.R_below (zR_ HO263.out) hb); have n3_ := Aside0.mk (Kd.R_below (zR_ HO266.out) hb); have n4_ := Aside0.mk (Kd.R_below (zR_ HO271.out) hb); have n5_ := Aside0.mk (Kd.R_below (zR_ HO274.out) hb); have n6_ := Aside0.mk (Kd.R_below (zR_ HO279.out) hb); have n7_ := Aside0.mk (Kd.R_below (zR_ HO282.out) hb); have n8_ := Aside0.mk (Kd.R_below (zR_ HO288.out) hb); have n9_ := Aside0.mk (Kd.R_below (zR_ HO291.out) hb); have n10_ := Aside0.mk (Kd.R_below (zR_ HO297.out) hb); have n11_ := Aside0.mk (Kd.R_below (zR_ HO300.out) hb); have n12_ := Aside0.mk (Kd.R_below (zR_ HO306.out) hb); have n13_ := Aside0.mk (Kd.R_below (zR_ HO309.out) hb); have n14_ := Aside0.mk (Kd.R_below (zR_ HO315.out) hb); have n15_ := Aside0.mk (Kd.R_below (zR_ HO318.out) hb); have n16_ := Aside0.mk (blk_below (g := gb253) (o := .cells #[.slice A0_0 l0_0.length c0_0, .slice A0_1 l0_1.length c0_1] 25 (0, 0)) (zb_ BK253.out) hb); have n17_ := Aside0.mk (blk_below (g := gb260) (o := .cells #[.slice Ao19 t254.length co19, .slice Ao22 t257.length co22] 25 (0, 0)) (zb_ BK260.out) hb); have n18_ := Aside0.mk (blk_below (g := gb268) (o := .cells #[.slice Ao25 t261.length co25, .slice Ao29 t264.length co29] 25 (0, 0)) (zb_ BK268.out) hb); have n19_ := Aside0.mk (blk_below (g := gb276) (o := .cells #[.slice Ao33 t269.length co33, .slice Ao38 t272.length co38] 25 (0, 0)) (zb_ BK276.out) hb); have n20_ := Aside0.mk (blk_below (g := gb285) (o := .cells #[.slice Ao42 t277.length co42, .slice Ao48 t280.length co48] 25 (0, 0)) (zb_ BK285.out) hb); have n21_ := Aside0.mk (blk_below (g := gb294) (o := .cells #[.slice Ao52 t286.length co52, .slice Ao59 t289.length co59] 25 (0, 0)) (zb_ BK294.out) hb); have n22_ := Aside0.mk (blk_below (g := gb303) (o := .cells #[.slice Ao63 t295.length co63, .slice Ao71 t298.length co71] 25 (0, 0)) (zb_ BK303.out) hb); have n23_ := Aside0.mk (blk_below (g := gb312) (o := .cells #[.slice Ao75 t304.length co75, .slice Ao84 t307.length co84] 25 (0, 0)) (zb_ BK312.out) hb); have n24_ := Aside0.mk (below_step (zh8_ HB.out GE253.out GE260.out GE268.out GE276.out GE285.out GE294.out GE303.out GE312.out) hb); have n25_ := Aside0.mk (hbox); have n26_ := Aside0.mk ((by rw [hg]; exact (below_size (zh8_ HB.out GE253.out GE260.out GE268.out GE276.out GE285.out GE294.out GE303.out GE312.out)) : w.heap.size ≤ gb320)); have n27_ := Aside0.mk ((by rw [hg]; exact (below_size (zh8_ HB.out GE253.out GE260.out GE268.out GE276.out GE285.out GE294.out GE303.out GE312.out)) : w.heap.size ≤ gb320)); have n28_ := Aside0.mk ((by rw [hg]; exact Nat.ne_of_lt (blk_lt (g := gb253) (o := .cells #[.slice A0_0 l0_0.length c0_0, .slice A0_1 l0_1.length c0_1] 25 (0, 0)) (zb_ BK253.out)) : gb253 ≠ gb320)); have n29_ := Aside0.mk ((by rw [hg]; exact Nat.ne_of_gt (blk_lt (g := gb253) (o := .cells #[.slice A0_0 l0_0.length c0_0, .slice A0_1 l0_1.length c0_1] 25 (0, 0)) (zb_ BK253.out)) : gb320 ≠ gb253)); have n30_ := Aside0.mk ((by rw [hg]; exact Nat.ne_of_lt (blk_lt (g := gb260) (o := .cells #[.slice Ao19 t254.length co19, .slice Ao22 t257.length co22] 25 (0, 0)) (zb_ BK260.out)) : gb260 ≠ gb320)); have n31_ := Aside0.mk ((by rw [hg]; exact Nat.ne_of_gt (blk_lt (g := gb260) (o := .cells #[.slice Ao19 t254.length co19, .slice Ao22 t257.length co22] 25 (0, 0)) (zb_ BK260.out)) : gb320 ≠ gb260)); have n32_ := Aside0.mk ((by rw [hg]; exact Nat.ne_of_lt (blk_lt (g := gb268) (o := .cells #[.slice Ao25 t261.length co25, .slice Ao29 t264.length co29] 25 (0, 0)) (zb_ BK268.out)) : gb268 ≠ gb320)); have n33_ := Aside0.mk ((by rw [hg]; exact Nat.ne_of_gt (blk_lt (g := gb268) (o := .cells #[.slice Ao25 t261.length co25, .slice Ao29 t264.length co29] 25 (0, 0)) (zb_ BK268.out)) : gb320 ≠ gb268)); have n34_ := Aside0.mk ((by rw [hg]; exact Nat.ne_of_lt (blk_lt (g := gb276) (o := .cells #[.slice Ao33 t269.length co33, .slice Ao38 t272.length co38] 25 (0, 0)) (zb_ BK276.out)) : gb276 ≠ gb320)); have n35_ := Aside0.mk ((by rw [hg]; exact Nat.ne_of_gt (blk_lt (g := gb276) (o := .cells #[.slice Ao33 t269.length co33, .slice Ao38 t272.length co38] 25 (0, 0)) (zb_ BK276.out)) : gb320 ≠ gb276)); have n36_ := Aside0.mk ((by rw [hg]; exact Nat.ne_of_lt (blk_lt (g := gb285) (o := .cells #[.slice Ao42 t277.length co42, .slice Ao48 t280.length co48] 25 (0, 0)) (zb_ BK285.out)) : gb285 ≠ gb320)); have n37_ := Aside0.mk ((by rw [hg]; exact Nat.ne_of_gt (blk_lt (g := gb285) (o := .cells #[.slice Ao42 t277.length co42, .slice Ao48 t280.length co48] 25 (0, 0)) (zb_ BK285.out)) : gb320 ≠ gb285)); have n38_ := Aside0.mk ((by rw [hg]; exact Nat.ne_of_lt (blk_lt (g := gb294) (o := .cells #[.slice Ao52 t286.length co52, .slice Ao59 t289.length co59] 25 (0, 0)) (zb_ BK294.out)) : gb294 ≠ gb320)); have n39_ := Aside0.mk ((by rw [hg]; exact Nat.ne_of_gt (blk_lt (g := gb294) (o := .cells #[.slice Ao52 t286.length co52, .slice Ao59 t289.length co59] 25 (0, 0)) (zb_ BK294.out)) : gb320 ≠ gb294)); have n40_ := Aside0.mk ((by rw [hg]; exact Nat.ne_of_lt (blk_lt (g := gb303) (o := .cells #[.slice Ao63 t295.length co63, .slice Ao71 t298.length co71] 25 (0, 0)) (zb_ BK303.out)) : gb303 ≠ gb320)); have n41_ := Aside0.mk ((by rw [hg]; exact Nat.ne_of_gt (blk_lt (g := gb303) (o := .cells #[.slice Ao63 t295.length co63, .slice Ao71 t298.length co71] 25 (0, 0)) (zb_ BK303.out)) : gb320 ≠ gb303)); have n42_ := Aside0.mk ((by rw [hg]; exact Nat.ne_of_lt (blk_lt (g := gb312) (o := .cells #[.slice Ao75 t304.length co75, .slice Ao84 t307.length co84] 25 (0, 0)) (zb_ BK312.out)) : gb312 ≠ gb320)); have n43_ := Aside0.mk ((by rw [hg]; exact Nat.ne_of_gt (blk_lt (g := gb312) (o := .cells #[.slice Ao75 t304.length co75, .slice Ao84 t307.length co84] 25 (0, 0)) (zb_ BK312.out)) : gb320 ≠ gb312)); clear HO256; clear HO259; clear HO263; clear HO266; clear HO271; clear HO274; clear HO279; clear HO282; clear HO288; clear HO291; clear HO297; clear HO300; clear HO306; clear HO309; clear HO315; clear HO318; clear BK253; clear BK260; clear BK268; clear BK276; clear BK285; clear BK294; clear BK303; clear BK312; clear HB; have HO256 := n0_; have HO259 := n1_; have HO263 := n2_; have HO266 := n3_; have HO271 := n4_; have HO274 := n5_; have HO279 := n6_; have HO282 := n7_; have HO288 := n8_; have HO291 := n9_; have HO297 := n10_; have HO300 := n11_; have HO306 := n12_; have HO309 := n13_; have HO315 := n14_; have HO318 := n15_; have BK253 := n16_; have BK260 := n17_; have BK268 := n18_; have BK276 := n19_; have BK285 := n20_; have BK294 := n21_; have BK303 := n22_; have BK312 := n23_; have HB := n24_; have BK320 := n25_; have GW320 := n26_; have GE320 := n27_; have NB253_320 := n28_; have NB320_253 := n29_; have NB260_320 := n30_; have NB320_260 := n31_; have NB268_320 := n32_; have NB320_268 := n33_; have NB276_320 := n34_; have NB320_276 := n35_; have NB285_320 := n36_; have NB320_285 := n37_; have NB294_320 := n38_; have NB320_294 := n39_; have NB303_320 := n40_; have NB320_303 := n41_; have NB312_320 := n42_; have NB320_312 := n43_; clear n0_ n1_ n2_ n3_ n4_ n5_ n6_ n7_ n8_ n9_ n10_ n11_ n12_ n13_ n14_ n15_ n16_ n17_ n18_ n19_ n20_ n21_ n22_ n23_ n24_ n25_ n26_ n27_ n28_ n29_ n30_ n31_ n32_ n33_ n34_ n35_ n36_ n37_ n38_ n39_ n40_ n41_ n42_ n43_; clear hb hbox hg; obtain ⟨Ao88, co88, eo88⟩ := Kd.R_slice HO315.out; subst eo88; have hnb89 := NB320_253.out; have hnc89 := NB253_320.out; have hnb90 := NB320_260.out; have hnc90 := NB260_320.out; have hnb91 := NB320_268.out; have hnc91 := NB268_320.out; have hnb92 := NB320_276.out; have hnc92 := NB276_320.out; have hnb93 := NB320_285.out; have hnc93 := NB285_320.out; have hnb94 := NB320_294.out; have hnc94 := NB294_320.out; have hnb95 := NB320_303.out; have hnc95 := NB303_320.out; have hnb96 := NB320_312.out; have hnc96 := NB312_320.out; have hcz97_0 : w87.cell? ⟨gb320, 0, none⟩ = some (.slice none 0 0) := (blk_cell BK320.out 0).trans rfl; have hcz97_1 : w87.cell? ⟨gb320, 1, none⟩ = some (.slice none 0 0) := (blk_cell BK320.out 1).trans rfl; have hfz97_0 := blk_frozen BK320.out 0; have hfz97_1 := blk_frozen BK320.out 1; obtain ⟨Ao98, co98, eo98⟩ := Kd.R_slice HO318.out; subst eo98; have hcz99_0 : w87.cell? ⟨gb253, 0, none⟩ = some (.slice A0_0 l0_0.length c0_0) := (blk_cell BK253.out 0).trans rfl; have hcz99_1 : w87.cell? ⟨gb253, 1, none⟩ = some (.slice A0_1 l0_1.length c0_1) := (blk_cell BK253.out 1).trans rfl; have hfz99_0 := blk_frozen BK253.out 0; have hfz99_1 := blk_frozen BK253.out 1) | ((with_reducible refine gate_callee (f := 20) rfl ?_); refine goesL_ (some 89) rfl rfl Try.func20 (by kernel_rfl) rfl #[.agg #[.slice A0_0 l0_0.length c0_0, .slice A0_1 l0_1.length c0_1], .int .i64 a1, .int .i64 a2] rfl zl_ ?_; (with_reducible refine (ladingref14_Refund.calls k _ _ l0_0 _ _ l0_1 a1 a2 t321 t324 t327 _ ?side1 ?side2 ?side3 ?side4 A13.out).mono ?_); (case side1 => exact Kd.C_below HR0_0.out (zh9_ HB.out GE253.out GE260.out GE268.out GE276.out GE285.out GE294.out GE303.out GE312.out GE320.out)); (case side2 => exact HC0_0.out); (case side3 => exact Kd.C_below HR0_1.out (zh9_ HB.out GE253.out GE260.out GE268.out GE276.out GE285.out GE294.out GE303.out GE312.out GE320.out)); (case side4 => exact HC0_1.out); rintro e w100 ⟨v322, v325, rfl, ho0, ho1, hb⟩; refine ⟨_, rfl, ?_⟩; have n0_ := Aside0.mk (Kd.R_elder' (zr2_ HO256.out BK320.out) (Kd.R_base ho0) hb); have n1_ := Aside0.mk (Kd.R_elder' (zr2_ HO259.out BK320.out) (Kd.R_base ho1) hb); have n2_ := Aside0.mk (Kd.R_elder' (zr2_ HO263.out BK320.out) (Kd.R_base ho0) hb); have n3_ := Aside0.mk (Kd.R_elder' (zr2_ HO266.out BK320.out) (Kd.R_base ho1) hb); have n4_ := Aside0.mk (Kd.R_elder' (zr2_ HO271.out BK320.out) (Kd.R_base ho0) hb); have n5_ := Aside0.mk (Kd.R_elder' (zr2_ HO274.out BK320.out) (Kd.R_base ho1) hb); have n6_ := Aside0.mk (Kd.R_elder' (zr2_ HO279.out BK320.out) (Kd.R_base ho0) hb); have n7_ := Aside0.mk (Kd.R_elder' (zr2_ HO282.out BK320.out) (Kd.R_base ho1) hb); have n8_ := Aside0.mk (Kd.R_elder' (zr2_ HO288.out BK320.out) (Kd.R_base ho0) hb); have n9_ := Aside0.mk (Kd.R_elder' (zr2_ HO291.out BK320.out) (Kd.R_base ho1) hb); have n10_ := Aside0.mk (Kd.R_elder' (zr2_ HO297.out BK320.out) (Kd.R_base ho0) hb); have n11_ := Aside0.mk (Kd.R_elder' (zr2_ HO300.out BK320.out) (Kd.R_base ho1) hb); have n12_ := Aside0.mk (Kd.R_elder' (zr2_ HO306.out BK320.out) (Kd.R_base ho0) hb); have n13_ := Aside0.mk (Kd.R_elder' (zr2_ HO309.out BK320.out) (Kd.R_base ho1) hb); have n14_ := Aside0.mk (Kd.R_elder' (zr2_ HO315.out BK320.out) (Kd.R_base ho0) hb); have n15_ := Aside0.mk (Kd.R_elder' (zr2_ HO318.out BK320.out) (Kd.R_base ho1) hb); have n16_ := Aside0.mk (Kd.R_lower (Kd.R_new' (Kd.R_new' (Kd.R_new' (Kd.R_new' (Kd.R_new' (Kd.R_new' (Kd.R_new' (Kd.R_new' ho0 (Kd.R_lt (zr2_ HO256.out BK320.out))) (Kd.R_lt (zr2_ HO263.out BK320.out))) (Kd.R_lt (zr2_ HO271.out BK320.out))) (Kd.R_lt (zr2_ HO279.out BK320.out))) (Kd.R_lt (zr2_ HO288.out BK320.out))) (Kd.R_lt (zr2_ HO297.out BK320.out))) (Kd.R_lt (zr2_ HO306.out BK320.out))) (Kd.R_lt (zr2_ HO315.out BK320.out))) (below_size (zh9_ HB.out GE253.out GE260.out GE268.out GE276.out GE285.out GE294.out GE303.out GE312.out GE320.out))); have n17_ := Aside0.mk (Kd.R_lower (Kd.R_new' (Kd.R_new' (Kd.R_new' (Kd.R_new' (Kd.R_new' (Kd.R_new' (Kd.R_new' (Kd.R_new' ho1 (Kd.R_lt (zr2_ HO259.out BK320.out))) (Kd.R_lt (zr2_ HO266.out BK320.out))) (Kd.R_lt (zr2_ HO274.out BK320.out))) (Kd.R_lt (zr2_ HO282.out BK320.out))) (Kd.R_lt (zr2_ HO291.out BK320.out))) (Kd.R_lt (zr2_ HO300.out BK320.out))) (Kd.R_lt (zr2_ HO309.out BK320.out))) (Kd.R_lt (zr2_ HO318.out BK320.out))) (below_size (zh9_ HB.out GE253.out GE260.out GE268.out GE276.out GE285.out GE294.out GE303.out GE312.out GE320.out))); have n18_ := Aside0.mk (blk_below (g := gb253) (o := .cells #[.slice A0_0 l0_0.length c0_0, .slice A0_1 l0_1.length c0_1] 25 (0, 0)) (zf_ NB253_320.out BK253.out) hb); have n19_ := Aside0.mk (blk_below (g := gb260) (o := .cells #[.slice Ao19 t254.length co19, .slice Ao22 t257.length co22] 25 (0, 0)) (zf_ NB260_320.out BK260.out) hb); have n20_ := Aside0.mk (blk_below (g := gb268) (o := .cells #[.slice Ao25 t261.length co25, .slice Ao29 t264.length co29] 25 (0, 0)) (zf_ NB268_320.out BK268.out) hb); have n21_ := Aside0.mk (blk_below (g := gb276) (o := .cells #[.slice Ao33 t269.length co33, .slice Ao38 t272.length co38] 25 (0, 0)) (zf_ NB276_320.out BK276.out) hb); have n22_ := Aside0.mk (blk_below (g := gb285) (o := .cells #[.slice Ao42 t277.length co42, .slice Ao48 t280.length co48] 25 (0, 0)) (zf_ NB285_320.out BK285.out) hb); have n23_ := Aside0.mk (blk_below (g := gb294) (o := .cells #[.slice Ao52 t286.length co52, .slice Ao59 t289.length co59] 25 (0, 0)) (zf_ NB294_320.out BK294.out) hb); have n24_ := Aside0.mk (blk_below (g := gb303) (o := .cells #[.slice Ao63 t295.length co63, .slice Ao71 t298.length co71] 25 (0, 0)) (zf_ NB303_320.out BK303.out) hb); have n25_ := Aside0.mk (blk_below (g := gb312) (o := .cells #[.slice Ao75 t304.length co75, .slice Ao84 t307.length co84] 25 (0, 0)) (zf_ NB312_320.out BK312.out) hb); have n26_ := Aside0.mk (blk_below (g := gb320) (o := .cells #[.slice Ao88 t313.length co88, .slice Ao98 t316.length co98] 25 (0, 0)) (zp2_ BK320.out) hb); have n27_ := Aside0.mk (below_step (zh9_ HB.out GE253.out GE260.out GE268.out GE276.out GE285.out GE294.out GE303.out GE312.out GE320.out) hb); clear HO256; clear HO259; clear HO263; clear HO266; clear HO271; clear HO274; clear HO279; clear HO282; clear HO288; clear HO291; clear HO297; clear HO300; clear HO306; clear HO309; clear HO315; clear HO318; clear BK253; clear BK260; clear BK268; clear BK276; clear BK285; clear BK294; clear BK303; clear BK312; clear BK320; clear HB; have HO256 := n0_; have HO259 := n1_; have HO263 := n2_; have HO266 := n3_; have HO271 := n4_; have HO274 := n5_; have HO279 := n6_; have HO282 := n7_; have HO288 := n8_; have HO291 := n9_; have HO297 := n10_; have HO300 := n11_; have HO306 := n12_; have HO309 := n13_; have HO315 := n14_; have HO318 := n15_; have HO323 := n16_; have HO326 := n17_; have BK253 := n18_; have BK260 := n19_; have BK268 := n20_; have BK276 := n21_; have BK285 := n22_; have BK294 := n23_; have BK303 := n24_; have BK312 := n25_; have BK320 := n26_; have HB := n27_; clear n0_ n1_ n2_ n3_ n4_ n5_ n6_ n7_ n8_ n9_ n10_ n11_ n12_ n13_ n14_ n15_ n16_ n17_ n18_ n19_ n20_ n21_ n22_ n23_ n24_ n25_ n26_ n27_; (try clear hb); (try clear hb2); (try clear hk); (try clear hi); (try clear ho0); (try clear ho1)) | ((with_reducible refine gate_dst (N := 28) rfl ?_); refine box_event ?hg (N := 28) ?hd (cs := #[.slice none 0 0, .slice none 0 0]) (t := 25) ?hr ?_; (case hd => rfl); (case hg => rfl); (case hr => first | (go_simp; done) | (go_simp; rfl)); intro gb328 hg w101 hbox hb; have n0_ := Aside0.mk (Kd.R_below (zR_ HO256.out) hb); have n1_ := Aside0.mk (Kd.R_below (zR_ HO259.out) hb); have n2_ := Aside0.mk (Kd.R_below (zR_ HO263.out) hb); have n3_ := Aside0.mk (Kd.R_below (zR_ HO266.out) hb); have n4_ := Aside0.mk (Kd.R_below (zR_ HO271.out) hb); have n5_ := Aside0.mk (Kd.R_below (zR_ HO274.out) hb); have n6_ := Aside0.mk (Kd.R_below (zR_ HO279.out) hb); have n7_ := Aside0.mk (Kd.R_below (zR_ HO282.out) hb); have n8_ := Aside0.mk (Kd.R_below (zR_ HO288.out) hb); have n9_ := Aside0.mk (Kd.R_below (zR_ HO291.out) hb); have n10_ := Aside0.mk (Kd.R_below (zR_ HO297.out) hb); have n11_ := Aside0.mk (Kd.R_below (zR_ HO300.out) hb); have n12_ := Aside0.mk (Kd.R_below (zR_ HO306.out) hb); have n13_ := Aside0.mk (Kd.R_below (zR_ HO309.out) hb); have n14_ := Aside0.mk (Kd.R_below (zR_ HO315.out) hb); have n15_ := Aside0.mk (Kd.R_below (zR_ HO318.out) hb); have n16_ := Aside0.mk (Kd.R_below (zR_ HO323.out) hb); have n17_ := Aside0.mk (Kd.R_below (zR_ HO326.out) hb); have n18_ := Aside0.mk (blk_below (g := gb253) (o := .cells #[.slice A0_0 l0_0.length c0_0, .slice A0_1 l0_1.length c0_1] 25 (0, 0)) (zb_ BK253.out) hb); have n19_ := Aside0.mk (blk_below (g := gb260) (o := .cells #[.slice Ao19 t254.length co19, .slice Ao22 t257.length co22] 25 (0, 0)) (zb_ BK260.out) hb); have n20_ := Aside0.mk (blk_below (g := gb268) (o := .cells #[.slice Ao25 t261.length co25, .slice Ao29 t264.length co29] 25 (0, 0)) (zb_ BK268.out) hb); have n21_ := Aside0.mk (blk_below (g := gb276) (o := .cells #[.slice Ao33 t269.length co33, .slice Ao38 t272.length co38] 25 (0, 0)) (zb_ BK276.out) hb); have n22_ := Aside0.mk (blk_below (g := gb285) (o := .cells #[.slice Ao42 t277.length co42, .slice Ao48 t280.length co48] 25 (0, 0)) (zb_ BK285.out) hb); have n23_ := Aside0.mk (blk_below (g := gb294) (o := .cells #[.slice Ao52 t286.length co52, .slice Ao59 t289.length co59] 25 (0, 0)) (zb_ BK294.out) hb); have n24_ := Aside0.mk (blk_below (g := gb303) (o := .cells #[.slice Ao63 t295.length co63, .slice Ao71 t298.length co71] 25 (0, 0)) (zb_ BK303.out) hb); have n25_ := Aside0.mk (blk_below (g := gb312) (o := .cells #[.slice Ao75 t304.length co75, .slice Ao84 t307.length co84] 25 (0, 0)) (zb_ BK312.out) hb); have n26_ := Aside0.mk (blk_below (g := gb320) (o := .cells #[.slice Ao88 t313.length co88, .slice Ao98 t316.length co98] 25 (0, 0)) (zb_ BK320.out) hb); have n27_ := Aside0.mk (below_step (zh9_ HB.out GE253.out GE260.out GE268.out GE276.out GE285.out GE294.out GE303.out GE312.out GE320.out) hb); have n28_ := Aside0.mk (hbox); have n29_ := Aside0.mk ((by rw [hg]; exact (below_size (zh9_ HB.out GE253.out GE260.out GE268.out GE276.out GE285.out GE294.out GE303.out GE312.out GE320.out)) : w.heap.size ≤ gb328)); have n30_ := Aside0.mk ((by rw [hg]; exact (below_size (zh9_ HB.out GE253.out GE260.out GE268.out GE276.out GE285.out GE294.out GE303.out GE312.out GE320.out)) : w.heap.size ≤ gb328)); have n31_ := Aside0.mk ((by rw [hg]; exact Nat.ne_of_lt (blk_lt (g := gb253) (o := .cells #[.slice A0_0 l0_0.length c0_0, .slice A0_1 l0_1.length c0_1] 25 (0, 0)) (zb_ BK253.out)) : gb253 ≠ gb328)); have n32_ := Aside0.mk ((by rw [hg]; exact Nat.ne_of_gt (blk_lt (g := gb253) (o := .cells #[.slice A0_0 l0_0.length c0_0, .slice A0_1 l0_1.length c0_1] 25 (0, 0)) (zb_ BK253.out)) : gb328 ≠ gb253)); have n33_ := Aside0.mk ((by rw [hg]; exact Nat.ne_of_lt (blk_lt (g := gb260) (o := .cells #[.slice Ao19 t254.length co19, .slice Ao22 t257.length co22] 25 (0, 0)) (zb_ BK260.out)) : gb260 ≠ gb328)); have n34_ := Aside0.mk ((by rw [hg]; exact Nat.ne_of_gt (blk_lt (g := gb260) (o := .cells #[.slice Ao19 t254.length co19, .slice Ao22 t257.length co22] 25 (0, 0)) (zb_ BK260.out)) : gb328 ≠ gb260)); have n35_ := Aside0.mk ((by rw [hg]; exact Nat.ne_of_lt (blk_lt (g := gb268) (o := .cells #[.slice Ao25 t261.length co25, .slice Ao29 t264.length co29] 25 (0, 0)) (zb_ BK268.out)) : gb268 ≠ gb328)); have n36_ := Aside0.mk ((by rw [hg]; exact Nat.ne_of_gt (blk_lt (g := gb268) (o := .cells #[.slice Ao25 t261.length co25, .slice Ao29 t264.length co29] 25 (0, 0)) (zb_ BK268.out)) : gb328 ≠ gb268)); have n37_ := Aside0.mk ((by rw [hg]; exact Nat.ne_of_lt (blk_lt (g := gb276) (o := .cells #[.slice Ao33 t269.length co33, .slice Ao38 t272.length co38] 25 (0, 0)) (zb_ BK276.out)) : gb276 ≠ gb328)); have n38_ := Aside0.mk ((by rw [hg]; exact Nat.ne_of_gt (blk_lt (g := gb276) (o := .cells #[.slice Ao33 t269.length co33, .slice Ao38 t272.length co38] 25 (0, 0)) (zb_ BK276.out)) : gb328 ≠ gb276)); have n39_ := Aside0.mk ((by rw [hg]; exact Nat.ne_of_lt (blk_lt (g := gb285) (o := .cells #[.slice Ao42 t277.length co42, .slice Ao48 t280.length co48] 25 (0, 0)) (zb_ BK285.out)) : gb285 ≠ gb328)); have n40_ := Aside0.mk ((by rw [hg]; exact Nat.ne_of_gt (blk_lt (g := gb285) (o := .cells #[.slice Ao42 t277.length co42, .slice Ao48 t280.length co48] 25 (0, 0)) (zb_ BK285.out)) : gb328 ≠ gb285)); have n41_ := Aside0.mk ((by rw [hg]; exact Nat.ne_of_lt (blk_lt (g := gb294) (o := .cells #[.slice Ao52 t286.length co52, .slice Ao59 t289.length co59] 25 (0, 0)) (zb_ BK294.out)) : gb294 ≠ gb328)); have n42_ := Aside0.mk ((by rw [hg]; exact Nat.ne_of_gt (blk_lt (g := gb294) (o := .cells #[.slice Ao52 t286.length co52, .slice Ao59 t289.length co59] 25 (0, 0)) (zb_ BK294.out)) : gb328 ≠ gb294)); have n43_ := Aside0.mk ((by rw [hg]; exact Nat.ne_of_lt (blk_lt (g := gb303) (o := .cells #[.slice Ao63 t295.length co63, .slice Ao71 t298.length co71] 25 (0, 0)) (zb_ BK303.out)) : gb303 ≠ gb328)); have n44_ := Aside0.mk ((by rw [hg]; exact Nat.ne_of_gt (blk_lt (g := gb303) (o := .cells #[.slice Ao63 t295.length co63, .slice Ao71 t298.length co71] 25 (0, 0)) (zb_ BK303.out)) : gb328 ≠ gb303)); have n45_ := Aside0.mk ((by rw [hg]; exact Nat.ne_of_lt (blk_lt (g := gb312) (o := .cells #[.slice Ao75 t304.length co75, .slice Ao84 t307.length co84] 25 (0, 0)) (zb_ BK312.out)) : gb312 ≠ gb328)); have n46_ := Aside0.mk ((by rw [hg]; exact Nat.ne_of_gt (blk_lt (g := gb312) (o := .cells #[.slice Ao75 t304.length co75, .slice Ao84 t307.length co84] 25 (0, 0)) (zb_ BK312.out)) : gb328 ≠ gb312)); have n47_ := Aside0.mk ((by rw [hg]; exact Nat.ne_of_lt (blk_lt (g := gb320) (o := .cells #[.slice Ao88 t313.length co88, .slice Ao98 t316.length co98] 25 (0, 0)) (zb_ BK320.out)) : gb320 ≠ gb328)); have n48_ := Aside0.mk ((by rw [hg]; exact Nat.ne_of_gt (blk_lt (g := gb320) (o := .cells #[.slice Ao88 t313.length co88, .slice Ao98 t316.length co98] 25 (0, 0)) (zb_ BK320.out)) : gb328 ≠ gb320)); clear HO256; clear HO259; clear HO263; clear HO266; clear HO271; clear HO274; clear HO279; clear HO282; clear HO288; clear HO291; clear HO297; clear HO300; clear HO306; clear HO309; clear HO315; clear HO318; clear HO323; clear HO326; clear BK253; clear BK260; clear BK268; clear BK276; clear BK285; clear BK294; clear BK303; clear BK312; clear BK320; clear HB; have HO256 := n0_; have HO259 := n1_; have HO263 := n2_; have HO266 := n3_; have HO271 := n4_; have HO274 := n5_; have HO279 := n6_; have HO282 := n7_; have HO288 := n8_; have HO291 := n9_; have HO297 := n10_; have HO300 := n11_; have HO306 := n12_; have HO309 := n13_; have HO315 := n14_; have HO318 := n15_; have HO323 := n16_; have HO326 := n17_; have BK253 := n18_; have BK260 := n19_; have BK268 := n20_; have BK276 := n21_; have BK285 := n22_; have BK294 := n23_; have BK303 := n24_; have BK312 := n25_; have BK320 := n26_; have HB := n27_; have BK328 := n28_; have GW328 := n29_; have GE328 := n30_; have NB253_328 := n31_; have NB328_253 := n32_; have NB260_328 := n33_; have NB328_260 := n34_; have NB268_328 := n35_; have NB328_268 := n36_; have NB276_328 := n37_; have NB328_276 := n38_; have NB285_328 := n39_; have NB328_285 := n40_; have NB294_328 := n41_; have NB328_294 := n42_; have NB303_328 := n43_; have NB328_303 := n44_; have NB312_328 := n45_; have NB328_312 := n46_; have NB320_328 := n47_; have NB328_320 := n48_; clear n0_ n1_ n2_ n3_ n4_ n5_ n6_ n7_ n8_ n9_ n10_ n11_ n12_ n13_ n14_ n15_ n16_ n17_ n18_ n19_ n20_ n21_ n22_ n23_ n24_ n25_ n26_ n27_ n28_ n29_ n30_ n31_ n32_ n33_ n34_ n35_ n36_ n37_ n38_ n39_ n40_ n41_ n42_ n43_ n44_ n45_ n46_ n47_ n48_; clear hb hbox hg; obtain ⟨Ao102, co102, eo102⟩ := Kd.R_slice HO323.out; subst eo102; have hnb103 := NB328_253.out; have hnc103 := NB253_328.out; have hnb104 := NB328_260.out; have hnc104 := NB260_328.out; have hnb105 := NB328_268.out; have hnc105 := NB268_328.out; have hnb106 := NB328_276.out; have hnc106 := NB276_328.out; have hnb107 := NB328_285.out; have hnc107 := NB285_328.out; have hnb108 := NB328_294.out; have hnc108 := NB294_328.out; have hnb109 := NB328_303.out; have hnc109 := NB303_328.out; have hnb110 := NB328_312.out; have hnc110 := NB312_328.out; have hnb111 := NB328_320.out; have hnc111 := NB320_328.out; have hcz112_0 : w101.cell? ⟨gb328, 0, none⟩ = some (.slice none 0 0) := (blk_cell BK328.out 0).trans rfl; have hcz112_1 : w101.cell? ⟨gb328, 1, none⟩ = some (.slice none 0 0) := (blk_cell BK328.out 1).trans rfl; have hfz112_0 := blk_frozen BK328.out 0; have hfz112_1 := blk_frozen BK328.out 1; obtain ⟨Ao113, co113, eo113⟩ := Kd.R_slice HO326.out; subst eo113))
 (try simp only [Act.put, zt0, zt1, zt2])
 go_cut [143] (fun v143 wc => ∃ (kq : Nat) (x143_13 : Bool), v143 = .bool x143_13 ∧ Aside0 (ladinglaw14_LedgerDoes.j0 kq a1 a3 x143_13 l0_0 l0_1 t254 t257 = some r) ∧ Aside0 (kq ≤ k) ∧ Aside0 (Kd.R k31 31 wc w.heap.size (fun k_ => some k_ ≠ ((.slice Ao25 t261.length co25) : Value).ownBlock ∧ some k_ ≠ ((.slice Ao33 t269.length co33) : Value).ownBlock ∧ some k_ ≠ ((.slice Ao42 t277.length co42) : Value).ownBlock ∧ some k_ ≠ ((.slice Ao52 t286.length co52) : Value).ownBlock ∧ some k_ ≠ ((.slice Ao63 t295.length co63) : Value).ownBlock ∧ some k_ ≠ ((.slice Ao75 t304.length co75) : Value).ownBlock ∧ some k_ ≠ ((.slice Ao88 t313.length co88) : Value).ownBlock ∧ some k_ ≠ ((.slice Ao102 t321.length co102) : Value).ownBlock) (.slice Ao19 t254.length co19) t254) ∧ Aside0 (Kd.R k55 55 wc w.heap.size (fun k_ => some k_ ≠ ((.slice Ao29 t264.length co29) : Value).ownBlock ∧ some k_ ≠ ((.slice Ao38 t272.length co38) : Value).ownBlock ∧ some k_ ≠ ((.slice Ao48 t280.length co48) : Value).ownBlock ∧ some k_ ≠ ((.slice Ao59 t289.length co59) : Value).ownBlock ∧ some k_ ≠ ((.slice Ao71 t298.length co71) : Value).ownBlock ∧ some k_ ≠ ((.slice Ao84 t307.length co84) : Value).ownBlock ∧ some k_ ≠ ((.slice Ao98 t316.length co98) : Value).ownBlock ∧ some k_ ≠ ((.slice Ao113 t324.length co113) : Value).ownBlock) (.slice Ao22 t257.length co22) t257) ∧ Aside0 (Kd.R k31 31 wc w.heap.size (fun k_ => some k_ ≠ ((.slice Ao19 t254.length co19) : Value).ownBlock ∧ some k_ ≠ ((.slice Ao33 t269.length co33) : Value).ownBlock ∧ some k_ ≠ ((.slice Ao42 t277.length co42) : Value).ownBlock ∧ some k_ ≠ ((.slice Ao52 t286.length co52) : Value).ownBlock ∧ some k_ ≠ ((.slice Ao63 t295.length co63) : Value).ownBlock ∧ some k_ ≠ ((.slice Ao75 t304.length co75) : Value).ownBlock ∧ some k_ ≠ ((.slice Ao88 t313.length co88) : Value).ownBlock ∧ some k_ ≠ ((.slice Ao102 t321.length co102) : Value).ownBlock) (.slice Ao25 t261.length co25) t261) ∧ Aside0 (Kd.R k55 55 wc w.heap.size (fun k_ => some k_ ≠ ((.slice Ao22 t257.length co22) : Value).ownBlock ∧ some k_ ≠ ((.slice Ao38 t272.length co38) : Value).ownBlock ∧ some k_ ≠ ((.slice Ao48 t280.length co48) : Value).ownBlock ∧ some k_ ≠ ((.slice Ao59 t289.length co59) : Value).ownBlock ∧ some k_ ≠ ((.slice Ao71 t298.length co71) : Value).ownBlock ∧ some k_ ≠ ((.slice Ao84 t307.length co84) : Value).ownBlock ∧ some k_ ≠ ((.slice Ao98 t316.length co98) : Value).ownBlock ∧ some k_ ≠ ((.slice Ao113 t324.length co113) : Value).ownBlock) (.slice Ao29 t264.length co29) t264) ∧ Aside0 (Kd.R k31 31 wc w.heap.size (fun k_ => some k_ ≠ ((.slice Ao19 t254.length co19) : Value).ownBlock ∧ some k_ ≠ ((.slice Ao25 t261.length co25) : Value).ownBlock ∧ some k_ ≠ ((.slice Ao42 t277.length co42) : Value).ownBlock ∧ some k_ ≠ ((.slice Ao52 t286.length co52) : Value).ownBlock ∧ some k_ ≠ ((.slice Ao63 t295.length co63) : Value).ownBlock ∧ some k_ ≠ ((.slice Ao75 t304.length co75) : Value).ownBlock ∧ some k_ ≠ ((.slice Ao88 t313.length co88) : Value).ownBlock ∧ some k_ ≠ ((.slice Ao102 t321.length co102) : Value).ownBlock) (.slice Ao33 t269.length co33) t269) ∧ Aside0 (Kd.R k55 55 wc w.heap.size (fun k_ => some k_ ≠ ((.slice Ao22 t257.length co22) : Value).ownBlock ∧ some k_ ≠ ((.slice Ao29 t264.length co29) : Value).ownBlock ∧ some k_ ≠ ((.slice Ao48 t280.length co48) : Value).ownBlock ∧ some k_ ≠ ((.slice Ao59 t289.length co59) : Value).ownBlock ∧ some k_ ≠ ((.slice Ao71 t298.length co71) : Value).ownBlock ∧ some k_ ≠ ((.slice Ao84 t307.length co84) : Value).ownBlock ∧ some k_ ≠ ((.slice Ao98 t316.length co98) : Value).ownBlock ∧ some k_ ≠ ((.slice Ao113 t324.length co113) : Value).ownBlock) (.slice Ao38 t272.length co38) t272) ∧ Aside0 (Kd.R k31 31 wc w.heap.size (fun k_ => some k_ ≠ ((.slice Ao19 t254.length co19) : Value).ownBlock ∧ some k_ ≠ ((.slice Ao25 t261.length co25) : Value).ownBlock ∧ some k_ ≠ ((.slice Ao33 t269.length co33) : Value).ownBlock ∧ some k_ ≠ ((.slice Ao52 t286.length co52) : Value).ownBlock ∧ some k_ ≠ ((.slice Ao63 t295.length co63) : Value).ownBlock ∧ some k_ ≠ ((.slice Ao75 t304.length co75) : Value).ownBlock ∧ some k_ ≠ ((.slice Ao88 t313.length co88) : Value).ownBlock ∧ some k_ ≠ ((.slice Ao102 t321.length co102) : Value).ownBlock) (.slice Ao42 t277.length co42) t277) ∧ Aside0 (Kd.R k55 55 wc w.heap.size (fun k_ => some k_ ≠ ((.slice Ao22 t257.length co22) : Value).ownBlock ∧ some k_ ≠ ((.slice Ao29 t264.length co29) : Value).ownBlock ∧ some k_ ≠ ((.slice Ao38 t272.length co38) : Value).ownBlock ∧ some k_ ≠ ((.slice Ao59 t289.length co59) : Value).ownBlock ∧ some k_ ≠ ((.slice Ao71 t298.length co71) : Value).ownBlock ∧ some k_ ≠ ((.slice Ao84 t307.length co84) : Value).ownBlock ∧ some k_ ≠ ((.slice Ao98 t316.length co98) : Value).ownBlock ∧ some k_ ≠ ((.slice Ao113 t324.length co113) : Value).ownBlock) (.slice Ao48 t280.length co48) t280) ∧ Aside0 (Kd.R k31 31 wc w.heap.size (fun k_ => some k_ ≠ ((.slice Ao19 t254.length co19) : Value).ownBlock ∧ some k_ ≠ ((.slice Ao25 t261.length co25) : Value).ownBlock ∧ some k_ ≠ ((.slice Ao33 t269.length co33) : Value).ownBlock ∧ some k_ ≠ ((.slice Ao42 t277.length co42) : Value).ownBlock ∧ some k_ ≠ ((.slice Ao63 t295.length co63) : Value).ownBlock ∧ some k_ ≠ ((.slice Ao75 t304.length co75) : Value).ownBlock ∧ some k_ ≠ ((.slice Ao88 t313.length co88) : Value).ownBlock ∧ some k_ ≠ ((.slice Ao102 t321.length co102) : Value).ownBlock) (.slice Ao52 t286.length co52) t286) ∧ Aside0 (Kd.R k55 55 wc w.heap.size (fun k_ => some k_ ≠ ((.slice Ao22 t257.length co22) : Value).ownBlock ∧ some k_ ≠ ((.slice Ao29 t264.length co29) : Value).ownBlock ∧ some k_ ≠ ((.slice Ao38 t272.length co38) : Value).ownBlock ∧ some k_ ≠ ((.slice Ao48 t280.length co48) : Value).ownBlock ∧ some k_ ≠ ((.slice Ao71 t298.length co71) : Value).ownBlock ∧ some k_ ≠ ((.slice Ao84 t307.length co84) : Value).ownBlock ∧ some k_ ≠ ((.slice Ao98 t316.length co98) : Value).ownBlock ∧ some k_ ≠ ((.slice Ao113 t324.length co113) : Value).ownBlock) (.slice Ao59 t289.length co59) t289) ∧ Aside0 (Kd.R k31 31 wc w.heap.size (fun k_ => some k_ ≠ ((.slice Ao19 t254.length co19) : Value).ownBlock ∧ some k_ ≠ ((.slice Ao25 t261.length co25) : Value).ownBlock ∧ some k_ ≠ ((.slice Ao33 t269.length co33) : Value).ownBlock ∧ some k_ ≠ ((.slice Ao42 t277.length co42) : Value).ownBlock ∧ some k_ ≠ ((.slice Ao52 t286.length co52) : Value).ownBlock ∧ some k_ ≠ ((.slice Ao75 t304.length co75) : Value).ownBlock ∧ some k_ ≠ ((.slice Ao88 t313.length co88) : Value).ownBlock ∧ some k_ ≠ ((.slice Ao102 t321.length co102) : Value).ownBlock) (.slice Ao63 t295.length co63) t295) ∧ Aside0 (Kd.R k55 55 wc w.heap.size (fun k_ => some k_ ≠ ((.slice Ao22 t257.length co22) : Value).ownBlock ∧ some k_ ≠ ((.slice Ao29 t264.length co29) : Value).ownBlock ∧ some k_ ≠ ((.slice Ao38 t272.length co38) : Value).ownBlock ∧ some k_ ≠ ((.slice Ao48 t280.length co48) : Value).ownBlock ∧ some k_ ≠ ((.slice Ao59 t289.length co59) : Value).ownBlock ∧ some k_ ≠ ((.slice Ao84 t307.length co84) : Value).ownBlock ∧ some k_ ≠ ((.slice Ao98 t316.length co98) : Value).ownBlock ∧ some k_ ≠ ((.slice Ao113 t324.length co113) : Value).ownBlock) (.slice Ao71 t298.length co71) t298) ∧ Aside0 (Kd.R k31 31 wc w.heap.size (fun k_ => some k_ ≠ ((.slice Ao19 t254.length co19) : Value).ownBlock ∧ some k_ ≠ ((.slice Ao25 t261.length co25) : Value).ownBlock ∧ some k_ ≠ ((.slice Ao33 t269.length co33) : Value).ownBlock ∧ some k_ ≠ ((.slice Ao42 t277.length co42) : Value).ownBlock ∧ some k_ ≠ ((.slice Ao52 t286.length co52) : Value).ownBlock ∧ some k_ ≠ ((.slice Ao63 t295.length co63) : Value).ownBlock ∧ some k_ ≠ ((.slice Ao88 t313.length co88) : Value).ownBlock ∧ some k_ ≠ ((.slice Ao102 t321.length co102) : Value).ownBlock) (.slice Ao75 t304.length co75) t304) ∧ Aside0 (Kd.R k55 55 wc w.heap.size (fun k_ => some k_ ≠ ((.slice Ao22 t257.length co22) : Value).ownBlock ∧ some k_ ≠ ((.slice Ao29 t264.length co29) : Value).ownBlock ∧ some k_ ≠ ((.slice Ao38 t272.length co38) : Value).ownBlock ∧ some k_ ≠ ((.slice Ao48 t280.length co48) : Value).ownBlock ∧ some k_ ≠ ((.slice Ao59 t289.length co59) : Value).ownBlock ∧ some k_ ≠ ((.slice Ao71 t298.length co71) : Value).ownBlock ∧ some k_ ≠ ((.slice Ao98 t316.length co98) : Value).ownBlock ∧ some k_ ≠ ((.slice Ao113 t324.length co113) : Value).ownBlock) (.slice Ao84 t307.length co84) t307) ∧ Aside0 (Kd.R k31 31 wc w.heap.size (fun k_ => some k_ ≠ ((.slice Ao19 t254.length co19) : Value).ownBlock ∧ some k_ ≠ ((.slice Ao25 t261.length co25) : Value).ownBlock ∧ some k_ ≠ ((.slice Ao33 t269.length co33) : Value).ownBlock ∧ some k_ ≠ ((.slice Ao42 t277.length co42) : Value).ownBlock ∧ some k_ ≠ ((.slice Ao52 t286.length co52) : Value).ownBlock ∧ some k_ ≠ ((.slice Ao63 t295.length co63) : Value).ownBlock ∧ some k_ ≠ ((.slice Ao75 t304.length co75) : Value).ownBlock ∧ some k_ ≠ ((.slice Ao102 t321.length co102) : Value).ownBlock) (.slice Ao88 t313.length co88) t313) ∧ Aside0 (Kd.R k55 55 wc w.heap.size (fun k_ => some k_ ≠ ((.slice Ao22 t257.length co22) : Value).ownBlock ∧ some k_ ≠ ((.slice Ao29 t264.length co29) : Value).ownBlock ∧ some k_ ≠ ((.slice Ao38 t272.length co38) : Value).ownBlock ∧ some k_ ≠ ((.slice Ao48 t280.length co48) : Value).ownBlock ∧ some k_ ≠ ((.slice Ao59 t289.length co59) : Value).ownBlock ∧ some k_ ≠ ((.slice Ao71 t298.length co71) : Value).ownBlock ∧ some k_ ≠ ((.slice Ao84 t307.length co84) : Value).ownBlock ∧ some k_ ≠ ((.slice Ao113 t324.length co113) : Value).ownBlock) (.slice Ao98 t316.length co98) t316) ∧ Aside0 (Kd.R k31 31 wc w.heap.size (fun k_ => some k_ ≠ ((.slice Ao19 t254.length co19) : Value).ownBlock ∧ some k_ ≠ ((.slice Ao25 t261.length co25) : Value).ownBlock ∧ some k_ ≠ ((.slice Ao33 t269.length co33) : Value).ownBlock ∧ some k_ ≠ ((.slice Ao42 t277.length co42) : Value).ownBlock ∧ some k_ ≠ ((.slice Ao52 t286.length co52) : Value).ownBlock ∧ some k_ ≠ ((.slice Ao63 t295.length co63) : Value).ownBlock ∧ some k_ ≠ ((.slice Ao75 t304.length co75) : Value).ownBlock ∧ some k_ ≠ ((.slice Ao88 t313.length co88) : Value).ownBlock) (.slice Ao102 t321.length co102) t321) ∧ Aside0 (Kd.R k55 55 wc w.heap.size (fun k_ => some k_ ≠ ((.slice Ao22 t257.length co22) : Value).ownBlock ∧ some k_ ≠ ((.slice Ao29 t264.length co29) : Value).ownBlock ∧ some k_ ≠ ((.slice Ao38 t272.length co38) : Value).ownBlock ∧ some k_ ≠ ((.slice Ao48 t280.length co48) : Value).ownBlock ∧ some k_ ≠ ((.slice Ao59 t289.length co59) : Value).ownBlock ∧ some k_ ≠ ((.slice Ao71 t298.length co71) : Value).ownBlock ∧ some k_ ≠ ((.slice Ao84 t307.length co84) : Value).ownBlock ∧ some k_ ≠ ((.slice Ao98 t316.length co98) : Value).ownBlock) (.slice Ao113 t324.length co113) t324) ∧ Aside0 (wc.heap[gb253]? = some (.cells #[(.slice A0_0 l0_0.length c0_0), (.slice A0_1 l0_1.length c0_1)] 25 (0, 0))) ∧ Aside0 (wc.heap[gb260]? = some (.cells #[(.slice Ao19 t254.length co19), (.slice Ao22 t257.length co22)] 25 (0, 0))) ∧ Aside0 (wc.heap[gb268]? = some (.cells #[(.slice Ao25 t261.length co25), (.slice Ao29 t264.length co29)] 25 (0, 0))) ∧ Aside0 (wc.heap[gb276]? = some (.cells #[(.slice Ao33 t269.length co33), (.slice Ao38 t272.length co38)] 25 (0, 0))) ∧ Aside0 (wc.heap[gb285]? = some (.cells #[(.slice Ao42 t277.length co42), (.slice Ao48 t280.length co48)] 25 (0, 0))) ∧ Aside0 (wc.heap[gb294]? = some (.cells #[(.slice Ao52 t286.length co52), (.slice Ao59 t289.length co59)] 25 (0, 0))) ∧ Aside0 (wc.heap[gb303]? = some (.cells #[(.slice Ao63 t295.length co63), (.slice Ao71 t298.length co71)] 25 (0, 0))) ∧ Aside0 (wc.heap[gb312]? = some (.cells #[(.slice Ao75 t304.length co75), (.slice Ao84 t307.length co84)] 25 (0, 0))) ∧ Aside0 (wc.heap[gb320]? = some (.cells #[(.slice Ao88 t313.length co88), (.slice Ao98 t316.length co98)] 25 (0, 0))) ∧ Aside0 (wc.heap[gb328]? = some (.cells #[(.slice Ao102 t321.length co102), (.slice Ao113 t324.length co113)] 25 (0, 0))) ∧ Aside0 (Below w.heap.size w wc))
 case first =>
  have H := HC14.out
  clear HC14
  replace H := Option.bind_eq_some_iff.mp H
  obtain ⟨t329, A1140, H⟩ := H
  replace H : (if t329 = true then (if t267 = t275 then ((ladingref14_Same.f k t277 t280 t286 t289).bind fun t330 => (if t330 = true then (if t283 = t292 then (if t284 = t293 then ((ladingref14_Same.f k t295 t298 t304 t307).bind fun t331 => (if t331 = true then (if t301 = t310 then (if t302 = t311 then ((ladingref14_Same.f k t313 t316 t321 t324).bind fun t332 => (if t332 = true then (ladinglaw14_LedgerDoes.j0 k a1 a3 (t319 != t327) l0_0 l0_1 t254 t257) else (none))) else (none)) else (none)) else (none))) else (none)) else (none)) else (none))) else (none)) else (none)) = some r := H
  have A114 := Aside0.mk A1140
  clear A1140
  by_cases c115 : t329 = true
  ·subst c115
   have H1 : (if t267 = t275 then ((ladingref14_Same.f k t277 t280 t286 t289).bind fun t330 => (if t330 = true then (if t283 = t292 then (if t284 = t293 then ((ladingref14_Same.f k t295 t298 t304 t307).bind fun t331 => (if t331 = true then (if t301 = t310 then (if t302 = t311 then ((ladingref14_Same.f k t313 t316 t321 t324).bind fun t332 => (if t332 = true then (ladinglaw14_LedgerDoes.j0 k a1 a3 (t319 != t327) l0_0 l0_1 t254 t257) else (none))) else (none)) else (none)) else (none))) else (none)) else (none)) else (none))) else (none)) = some r := by rw [if_pos rfl] at H; exact H
   clear H
   have H := H1
   clear H1
   by_cases c116 : t267 = t275
   ·rw [if_pos c116] at H
    have c116b0 : (t267 == t275) = true := beq_iff_eq.mpr c116
    have c116b1 : (t267 != t275) = false := bne_eq_false_iff_eq.mpr c116
    clear c116
    (first | rw [c116b0] | (simp only [i64_w, i32_w]; rw [c116b0]) | skip)
    replace H := Option.bind_eq_some_iff.mp H
    obtain ⟨t330, A1170, H⟩ := H
    replace H : (if t330 = true then (if t283 = t292 then (if t284 = t293 then ((ladingref14_Same.f k t295 t298 t304 t307).bind fun t331 => (if t331 = true then (if t301 = t310 then (if t302 = t311 then ((ladingref14_Same.f k t313 t316 t321 t324).bind fun t332 => (if t332 = true then (ladinglaw14_LedgerDoes.j0 k a1 a3 (t319 != t327) l0_0 l0_1 t254 t257) else (none))) else (none)) else (none)) else (none))) else (none)) else (none)) else (none)) = some r := H
    have A117 := Aside0.mk A1170
    clear A1170
    by_cases c118 : t330 = true
    ·subst c118
     have H1 : (if t283 = t292 then (if t284 = t293 then ((ladingref14_Same.f k t295 t298 t304 t307).bind fun t331 => (if t331 = true then (if t301 = t310 then (if t302 = t311 then ((ladingref14_Same.f k t313 t316 t321 t324).bind fun t332 => (if t332 = true then (ladinglaw14_LedgerDoes.j0 k a1 a3 (t319 != t327) l0_0 l0_1 t254 t257) else (none))) else (none)) else (none)) else (none))) else (none)) else (none)) = some r := by rw [if_pos rfl] at H; exact H
     clear H
     have H := H1
     clear H1
     by_cases c119 : t283 = t292
     ·rw [if_pos c119] at H
      have c119b0 : (t283 == t292) = true := beq_iff_eq.mpr c119
      have c119b1 : (t283 != t292) = false := bne_eq_false_iff_eq.mpr c119
      clear c119
      by_cases c120 : t284 = t293
      ·rw [if_pos c120] at H
       have c120b0 : (t284 == t293) = true := beq_iff_eq.mpr c120
       have c120b1 : (t284 != t293) = false := bne_eq_false_iff_eq.mpr c120
       clear c120
       replace H := Option.bind_eq_some_iff.mp H
       obtain ⟨t331, A1210, H⟩ := H
       replace H : (if t331 = true then (if t301 = t310 then (if t302 = t311 then ((ladingref14_Same.f k t313 t316 t321 t324).bind fun t332 => (if t332 = true then (ladinglaw14_LedgerDoes.j0 k a1 a3 (t319 != t327) l0_0 l0_1 t254 t257) else (none))) else (none)) else (none)) else (none)) = some r := H
       have A121 := Aside0.mk A1210
       clear A1210
       by_cases c122 : t331 = true
       ·subst c122
        have H1 : (if t301 = t310 then (if t302 = t311 then ((ladingref14_Same.f k t313 t316 t321 t324).bind fun t332 => (if t332 = true then (ladinglaw14_LedgerDoes.j0 k a1 a3 (t319 != t327) l0_0 l0_1 t254 t257) else (none))) else (none)) else (none)) = some r := by rw [if_pos rfl] at H; exact H
        clear H
        have H := H1
        clear H1
        by_cases c123 : t301 = t310
        ·rw [if_pos c123] at H
         have c123b0 : (t301 == t310) = true := beq_iff_eq.mpr c123
         have c123b1 : (t301 != t310) = false := bne_eq_false_iff_eq.mpr c123
         clear c123
         by_cases c124 : t302 = t311
         ·rw [if_pos c124] at H
          have c124b0 : (t302 == t311) = true := beq_iff_eq.mpr c124
          have c124b1 : (t302 != t311) = false := bne_eq_false_iff_eq.mpr c124
          clear c124
          replace H := Option.bind_eq_some_iff.mp H
          obtain ⟨t332, A1250, H⟩ := H
          replace H : (if t332 = true then (ladinglaw14_LedgerDoes.j0 k a1 a3 (t319 != t327) l0_0 l0_1 t254 t257) else (none)) = some r := H
          have A125 := Aside0.mk A1250
          clear A1250
          by_cases c126 : t332 = true
          ·subst c126
           have H1 : (ladinglaw14_LedgerDoes.j0 k a1 a3 (t319 != t327) l0_0 l0_1 t254 t257) = some r := by rw [if_pos rfl] at H; exact H
           clear H
           have H := H1
           clear H1
           have H' := Aside0.mk H
           clear H
           have hnb127 := NB268_253.out
           have hnc127 := NB253_268.out
           have hnb128 := NB268_260.out
           have hnc128 := NB260_268.out
           have hnb129 := NB268_276.out
           have hnc129 := NB276_268.out
           have hnb130 := NB268_285.out
           have hnc130 := NB285_268.out
           have hnb131 := NB268_294.out
           have hnc131 := NB294_268.out
           have hnb132 := NB268_303.out
           have hnc132 := NB303_268.out
           have hnb133 := NB268_312.out
           have hnc133 := NB312_268.out
           have hnb134 := NB268_320.out
           have hnc134 := NB320_268.out
           have hnb135 := NB268_328.out
           have hnc135 := NB328_268.out
           have hcz136_0 : w101.cell? ⟨gb268, 0, none⟩ = some (.slice Ao25 t261.length co25) := (blk_cell BK268.out 0).trans rfl
           have hcz136_1 : w101.cell? ⟨gb268, 1, none⟩ = some (.slice Ao29 t264.length co29) := (blk_cell BK268.out 1).trans rfl
           have hfz136_0 := blk_frozen BK268.out 0
           have hfz136_1 := blk_frozen BK268.out 1
           have hnb137 := NB276_253.out
           have hnc137 := NB253_276.out
           have hnb138 := NB276_260.out
           have hnc138 := NB260_276.out
           have hnb139 := NB276_285.out
           have hnc139 := NB285_276.out
           have hnb140 := NB276_294.out
           have hnc140 := NB294_276.out
           have hnb141 := NB276_303.out
           have hnc141 := NB303_276.out
           have hnb142 := NB276_312.out
           have hnc142 := NB312_276.out
           have hnb143 := NB276_320.out
           have hnc143 := NB320_276.out
           have hnb144 := NB276_328.out
           have hnc144 := NB328_276.out
           have hcz145_0 : w101.cell? ⟨gb276, 0, none⟩ = some (.slice Ao33 t269.length co33) := (blk_cell BK276.out 0).trans rfl
           have hcz145_1 : w101.cell? ⟨gb276, 1, none⟩ = some (.slice Ao38 t272.length co38) := (blk_cell BK276.out 1).trans rfl
           have hfz145_0 := blk_frozen BK276.out 0
           have hfz145_1 := blk_frozen BK276.out 1
           go_wp2_with (first | ((with_reducible refine gate_callee (f := 13) rfl ?_); refine goesL_ (some 94) rfl rfl Try.func13 (by kernel_rfl) rfl #[.agg #[.slice Ao25 t261.length co25, .slice Ao29 t264.length co29], .agg #[.slice Ao33 t269.length co33, .slice Ao38 t272.length co38]] rfl zl_ ?_; (with_reducible refine (ladingref14_Same.calls k _ _ t261 _ _ t264 _ _ t269 _ _ t272 true _ ?side1 ?side2 ?side3 ?side4 ?side5 ?side6 ?side7 ?side8 A114.out).mono ?_); (case side1 => refine (Kd.R_reads' (e := 31) (base := w.heap.size) (ok := fun k_ => ((((((((True ∧ some k_ ≠ (.slice Ao19 t254.length co19 : Value).ownBlock) ∧ some k_ ≠ (.slice Ao33 t269.length co33 : Value).ownBlock) ∧ some k_ ≠ (.slice Ao42 t277.length co42 : Value).ownBlock) ∧ some k_ ≠ (.slice Ao52 t286.length co52 : Value).ownBlock) ∧ some k_ ≠ (.slice Ao63 t295.length co63 : Value).ownBlock) ∧ some k_ ≠ (.slice Ao75 t304.length co75 : Value).ownBlock) ∧ some k_ ≠ (.slice Ao88 t313.length co88 : Value).ownBlock) ∧ some k_ ≠ (.slice Ao102 t321.length co102 : Value).ownBlock)) (n := t261.length) (c := co25) ?_).2.2; exact (zr2_ HO263.out BK328.out)); (case side2 => exact (Kd.R_reads' HO263.out).2.1); (case side3 => refine (Kd.R_reads' (e := 55) (base := w.heap.size) (ok := fun k_ => ((((((((True ∧ some k_ ≠ (.slice Ao22 t257.length co22 : Value).ownBlock) ∧ some k_ ≠ (.slice Ao38 t272.length co38 : Value).ownBlock) ∧ some k_ ≠ (.slice Ao48 t280.length co48 : Value).ownBlock) ∧ some k_ ≠ (.slice Ao59 t289.length co59 : Value).ownBlock) ∧ some k_ ≠ (.slice Ao71 t298.length co71 : Value).ownBlock) ∧ some k_ ≠ (.slice Ao84 t307.length co84 : Value).ownBlock) ∧ some k_ ≠ (.slice Ao98 t316.length co98 : Value).ownBlock) ∧ some k_ ≠ (.slice Ao113 t324.length co113 : Value).ownBlock)) (n := t264.length) (c := co29) ?_).2.2; exact (zr2_ HO266.out BK328.out)); (case side4 => exact (Kd.R_reads' HO266.out).2.1); (case side5 => refine (Kd.R_reads' (e := 31) (base := w.heap.size) (ok := fun k_ => ((((((((True ∧ some k_ ≠ (.slice Ao19 t254.length co19 : Value).ownBlock) ∧ some k_ ≠ (.slice Ao25 t261.length co25 : Value).ownBlock) ∧ some k_ ≠ (.slice Ao42 t277.length co42 : Value).ownBlock) ∧ some k_ ≠ (.slice Ao52 t286.length co52 : Value).ownBlock) ∧ some k_ ≠ (.slice Ao63 t295.length co63 : Value).ownBlock) ∧ some k_ ≠ (.slice Ao75 t304.length co75 : Value).ownBlock) ∧ some k_ ≠ (.slice Ao88 t313.length co88 : Value).ownBlock) ∧ some k_ ≠ (.slice Ao102 t321.length co102 : Value).ownBlock)) (n := t269.length) (c := co33) ?_).2.2; exact (zr2_ HO271.out BK328.out)); (case side6 => exact (Kd.R_reads' HO271.out).2.1); (case side7 => refine (Kd.R_reads' (e := 55) (base := w.heap.size) (ok := fun k_ => ((((((((True ∧ some k_ ≠ (.slice Ao22 t257.length co22 : Value).ownBlock) ∧ some k_ ≠ (.slice Ao29 t264.length co29 : Value).ownBlock) ∧ some k_ ≠ (.slice Ao48 t280.length co48 : Value).ownBlock) ∧ some k_ ≠ (.slice Ao59 t289.length co59 : Value).ownBlock) ∧ some k_ ≠ (.slice Ao71 t298.length co71 : Value).ownBlock) ∧ some k_ ≠ (.slice Ao84 t307.length co84 : Value).ownBlock) ∧ some k_ ≠ (.slice Ao98 t316.length co98 : Value).ownBlock) ∧ some k_ ≠ (.slice Ao113 t324.length co113 : Value).ownBlock)) (n := t272.length) (c := co38) ?_).2.2; exact (zr2_ HO274.out BK328.out)); (case side8 => exact (Kd.R_reads' HO274.out).2.1); rintro e w146 ⟨rfl, hb⟩; refine ⟨_, rfl, ?_⟩; have n0_ := Aside0.mk (Kd.R_below (zr2_ HO256.out BK328.out) hb); have n1_ := Aside0.mk (Kd.R_below (zr2_ HO259.out BK328.out) hb); have n2_ := Aside0.mk (Kd.R_below (zr2_ HO263.out BK328.out) hb); have n3_ := Aside0.mk (Kd.R_below (zr2_ HO266.out BK328.out) hb); have n4_ := Aside0.mk (Kd.R_below (zr2_ HO271.out BK328.out) hb); have n5_ := Aside0.mk (Kd.R_below (zr2_ HO274.out BK328.out) hb); have n6_ := Aside0.mk (Kd.R_below (zr2_ HO279.out BK328.out) hb); have n7_ := Aside0.mk (Kd.R_below (zr2_ HO282.out BK328.out) hb); have n8_ := Aside0.mk (Kd.R_below (zr2_ HO288.out BK328.out) hb); have n9_ := Aside0.mk (Kd.R_below (zr2_ HO291.out BK328.out) hb); have n10_ := Aside0.mk (Kd.R_below (zr2_ HO297.out BK328.out) hb); have n11_ := Aside0.mk (Kd.R_below (zr2_ HO300.out BK328.out) hb); have n12_ := Aside0.mk (Kd.R_below (zr2_ HO306.out BK328.out) hb); have n13_ := Aside0.mk (Kd.R_below (zr2_ HO309.out BK328.out) hb); have n14_ := Aside0.mk (Kd.R_below (zr2_ HO315.out BK328.out) hb); have n15_ := Aside0.mk (Kd.R_below (zr2_ HO318.out BK328.out) hb); have n16_ := Aside0.mk (Kd.R_below (zr2_ HO323.out BK328.out) hb); have n17_ := Aside0.mk (Kd.R_below (zr2_ HO326.out BK328.out) hb); have n18_ := Aside0.mk (blk_below (g := gb253) (o := .cells #[.slice A0_0 l0_0.length c0_0, .slice A0_1 l0_1.length c0_1] 25 (0, 0)) (zf_ NB253_328.out BK253.out) hb); have n19_ := Aside0.mk (blk_below (g := gb260) (o := .cells #[.slice Ao19 t254.length co19, .slice Ao22 t257.length co22] 25 (0, 0)) (zf_ NB260_328.out BK260.out) hb); have n20_ := Aside0.mk (blk_below (g := gb268) (o := .cells #[.slice Ao25 t261.length co25, .slice Ao29 t264.length co29] 25 (0, 0)) (zf_ NB268_328.out BK268.out) hb); have n21_ := Aside0.mk (blk_below (g := gb276) (o := .cells #[.slice Ao33 t269.length co33, .slice Ao38 t272.length co38] 25 (0, 0)) (zf_ NB276_328.out BK276.out) hb); have n22_ := Aside0.mk (blk_below (g := gb285) (o := .cells #[.slice Ao42 t277.length co42, .slice Ao48 t280.length co48] 25 (0, 0)) (zf_ NB285_328.out BK285.out) hb); have n23_ := Aside0.mk (blk_below (g := gb294) (o := .cells #[.slice Ao52 t286.length co52, .slice Ao59 t289.length co59] 25 (0, 0)) (zf_ NB294_328.out BK294.out) hb); have n24_ := Aside0.mk (blk_below (g := gb303) (o := .cells #[.slice Ao63 t295.length co63, .slice Ao71 t298.length co71] 25 (0, 0)) (zf_ NB303_328.out BK303.out) hb); have n25_ := Aside0.mk (blk_below (g := gb312) (o := .cells #[.slice Ao75 t304.length co75, .slice Ao84 t307.length co84] 25 (0, 0)) (zf_ NB312_328.out BK312.out) hb); have n26_ := Aside0.mk (blk_below (g := gb320) (o := .cells #[.slice Ao88 t313.length co88, .slice Ao98 t316.length co98] 25 (0, 0)) (zf_ NB320_328.out BK320.out) hb); have n27_ := Aside0.mk (blk_below (g := gb328) (o := .cells #[.slice Ao102 t321.length co102, .slice Ao113 t324.length co113] 25 (0, 0)) (zp2_ BK328.out) hb); have n28_ := Aside0.mk (below_step (zh10_ HB.out GE253.out GE260.out GE268.out GE276.out GE285.out GE294.out GE303.out GE312.out GE320.out GE328.out) hb); clear HO256; clear HO259; clear HO263; clear HO266; clear HO271; clear HO274; clear HO279; clear HO282; clear HO288; clear HO291; clear HO297; clear HO300; clear HO306; clear HO309; clear HO315; clear HO318; clear HO323; clear HO326; clear BK253; clear BK260; clear BK268; clear BK276; clear BK285; clear BK294; clear BK303; clear BK312; clear BK320; clear BK328; clear HB; have HO256 := n0_; have HO259 := n1_; have HO263 := n2_; have HO266 := n3_; have HO271 := n4_; have HO274 := n5_; have HO279 := n6_; have HO282 := n7_; have HO288 := n8_; have HO291 := n9_; have HO297 := n10_; have HO300 := n11_; have HO306 := n12_; have HO309 := n13_; have HO315 := n14_; have HO318 := n15_; have HO323 := n16_; have HO326 := n17_; have BK253 := n18_; have BK260 := n19_; have BK268 := n20_; have BK276 := n21_; have BK285 := n22_; have BK294 := n23_; have BK303 := n24_; have BK312 := n25_; have BK320 := n26_; have BK328 := n27_; have HB := n28_; clear n0_ n1_ n2_ n3_ n4_ n5_ n6_ n7_ n8_ n9_ n10_ n11_ n12_ n13_ n14_ n15_ n16_ n17_ n18_ n19_ n20_ n21_ n22_ n23_ n24_ n25_ n26_ n27_ n28_; (try clear hb); (try clear hb2); (try clear hk); (try clear hi); have hnb147 := NB285_253.out; have hnc147 := NB253_285.out; have hnb148 := NB285_260.out; have hnc148 := NB260_285.out; have hnb149 := NB285_294.out; have hnc149 := NB294_285.out; have hnb150 := NB285_303.out; have hnc150 := NB303_285.out; have hnb151 := NB285_312.out; have hnc151 := NB312_285.out; have hnb152 := NB285_320.out; have hnc152 := NB320_285.out; have hnb153 := NB285_328.out; have hnc153 := NB328_285.out; have hcz154_0 : w146.cell? ⟨gb285, 0, none⟩ = some (.slice Ao42 t277.length co42) := (blk_cell BK285.out 0).trans rfl; have hcz154_1 : w146.cell? ⟨gb285, 1, none⟩ = some (.slice Ao48 t280.length co48) := (blk_cell BK285.out 1).trans rfl; have hfz154_0 := blk_frozen BK285.out 0; have hfz154_1 := blk_frozen BK285.out 1; have hnb155 := NB294_253.out; have hnc155 := NB253_294.out; have hnb156 := NB294_260.out; have hnc156 := NB260_294.out; have hnb157 := NB294_303.out; have hnc157 := NB303_294.out; have hnb158 := NB294_312.out; have hnc158 := NB312_294.out; have hnb159 := NB294_320.out; have hnc159 := NB320_294.out; have hnb160 := NB294_328.out; have hnc160 := NB328_294.out; have hcz161_0 : w146.cell? ⟨gb294, 0, none⟩ = some (.slice Ao52 t286.length co52) := (blk_cell BK294.out 0).trans rfl; have hcz161_1 : w146.cell? ⟨gb294, 1, none⟩ = some (.slice Ao59 t289.length co59) := (blk_cell BK294.out 1).trans rfl; have hfz161_0 := blk_frozen BK294.out 0; have hfz161_1 := blk_frozen BK294.out 1) | (go_at_call 13; (with_reducible refine (ladingref14_Same.calls k _ _ t277 _ _ t280 _ _ t286 _ _ t289 true _ ?side1 ?side2 ?side3 ?side4 ?side5 ?side6 ?side7 ?side8 A117.out).mono ?_); (case side1 => repeat (first | exact (Kd.R_reads' HO279.out).2.2 | (with_reducible refine Kd.C_alloc ?_ _) | (with_reducible refine Kd.C_drewN ?_ _) | (with_reducible refine Kd.C_drew ?_))); (case side2 => exact (Kd.R_reads' HO279.out).2.1); (case side3 => repeat (first | exact (Kd.R_reads' HO282.out).2.2 | (with_reducible refine Kd.C_alloc ?_ _) | (with_reducible refine Kd.C_drewN ?_ _) | (with_reducible refine Kd.C_drew ?_))); (case side4 => exact (Kd.R_reads' HO282.out).2.1); (case side5 => repeat (first | exact (Kd.R_reads' HO288.out).2.2 | (with_reducible refine Kd.C_alloc ?_ _) | (with_reducible refine Kd.C_drewN ?_ _) | (with_reducible refine Kd.C_drew ?_))); (case side6 => exact (Kd.R_reads' HO288.out).2.1); (case side7 => repeat (first | exact (Kd.R_reads' HO291.out).2.2 | (with_reducible refine Kd.C_alloc ?_ _) | (with_reducible refine Kd.C_drewN ?_ _) | (with_reducible refine Kd.C_drew ?_))); (case side8 => exact (Kd.R_reads' HO291.out).2.1); rintro e w162 ⟨rfl, hb⟩; have n0_ := Aside0.mk (Kd.R_below (zR_ HO256.out) hb); have n1_ := Aside0.mk (Kd.R_below (zR_ HO259.out) hb); have n2_ := Aside0.mk (Kd.R_below (zR_ HO263.out) hb); have n3_ := Aside0.mk (Kd.R_below (zR_ HO266.out) hb); have n4_ := Aside0.mk (Kd.R_below (zR_ HO271.out) hb); have n5_ := Aside0.mk (Kd.R_below (zR_ HO274.out) hb); have n6_ := Aside0.mk (Kd.R_below (zR_ HO279.out) hb); have n7_ := Aside0.mk (Kd.R_below (zR_ HO282.out) hb); have n8_ := Aside0.mk (Kd.R_below (zR_ HO288.out) hb); have n9_ := Aside0.mk (Kd.R_below (zR_ HO291.out) hb); have n10_ := Aside0.mk (Kd.R_below (zR_ HO297.out) hb); have n11_ := Aside0.mk (Kd.R_below (zR_ HO300.out) hb); have n12_ := Aside0.mk (Kd.R_below (zR_ HO306.out) hb); have n13_ := Aside0.mk (Kd.R_below (zR_ HO309.out) hb); have n14_ := Aside0.mk (Kd.R_below (zR_ HO315.out) hb); have n15_ := Aside0.mk (Kd.R_below (zR_ HO318.out) hb); have n16_ := Aside0.mk (Kd.R_below (zR_ HO323.out) hb); have n17_ := Aside0.mk (Kd.R_below (zR_ HO326.out) hb); have n18_ := Aside0.mk (blk_below (g := gb253) (o := .cells #[.slice A0_0 l0_0.length c0_0, .slice A0_1 l0_1.length c0_1] 25 (0, 0)) (zb_ BK253.out) hb); have n19_ := Aside0.mk (blk_below (g := gb260) (o := .cells #[.slice Ao19 t254.length co19, .slice Ao22 t257.length co22] 25 (0, 0)) (zb_ BK260.out) hb); have n20_ := Aside0.mk (blk_below (g := gb268) (o := .cells #[.slice Ao25 t261.length co25, .slice Ao29 t264.length co29] 25 (0, 0)) (zb_ BK268.out) hb); have n21_ := Aside0.mk (blk_below (g := gb276) (o := .cells #[.slice Ao33 t269.length co33, .slice Ao38 t272.length co38] 25 (0, 0)) (zb_ BK276.out) hb); have n22_ := Aside0.mk (blk_below (g := gb285) (o := .cells #[.slice Ao42 t277.length co42, .slice Ao48 t280.length co48] 25 (0, 0)) (zb_ BK285.out) hb); have n23_ := Aside0.mk (blk_below (g := gb294) (o := .cells #[.slice Ao52 t286.length co52, .slice Ao59 t289.length co59] 25 (0, 0)) (zb_ BK294.out) hb); have n24_ := Aside0.mk (blk_below (g := gb303) (o := .cells #[.slice Ao63 t295.length co63, .slice Ao71 t298.length co71] 25 (0, 0)) (zb_ BK303.out) hb); have n25_ := Aside0.mk (blk_below (g := gb312) (o := .cells #[.slice Ao75 t304.length co75, .slice Ao84 t307.length co84] 25 (0, 0)) (zb_ BK312.out) hb); have n26_ := Aside0.mk (blk_below (g := gb320) (o := .cells #[.slice Ao88 t313.length co88, .slice Ao98 t316.length co98] 25 (0, 0)) (zb_ BK320.out) hb); have n27_ := Aside0.mk (blk_below (g := gb328) (o := .cells #[.slice Ao102 t321.length co102, .slice Ao113 t324.length co113] 25 (0, 0)) (zb_ BK328.out) hb); have n28_ := Aside0.mk (below_step (zh10_ HB.out GE253.out GE260.out GE268.out GE276.out GE285.out GE294.out GE303.out GE312.out GE320.out GE328.out) hb); clear HO256; clear HO259; clear HO263; clear HO266; clear HO271; clear HO274; clear HO279; clear HO282; clear HO288; clear HO291; clear HO297; clear HO300; clear HO306; clear HO309; clear HO315; clear HO318; clear HO323; clear HO326; clear BK253; clear BK260; clear BK268; clear BK276; clear BK285; clear BK294; clear BK303; clear BK312; clear BK320; clear BK328; clear HB; have HO256 := n0_; have HO259 := n1_; have HO263 := n2_; have HO266 := n3_; have HO271 := n4_; have HO274 := n5_; have HO279 := n6_; have HO282 := n7_; have HO288 := n8_; have HO291 := n9_; have HO297 := n10_; have HO300 := n11_; have HO306 := n12_; have HO309 := n13_; have HO315 := n14_; have HO318 := n15_; have HO323 := n16_; have HO326 := n17_; have BK253 := n18_; have BK260 := n19_; have BK268 := n20_; have BK276 := n21_; have BK285 := n22_; have BK294 := n23_; have BK303 := n24_; have BK312 := n25_; have BK320 := n26_; have BK328 := n27_; have HB := n28_; clear n0_ n1_ n2_ n3_ n4_ n5_ n6_ n7_ n8_ n9_ n10_ n11_ n12_ n13_ n14_ n15_ n16_ n17_ n18_ n19_ n20_ n21_ n22_ n23_ n24_ n25_ n26_ n27_ n28_; (try clear hb); (try clear hb2); (try clear hk); (try clear hi); have hnb163 := NB303_253.out; have hnc163 := NB253_303.out; have hnb164 := NB303_260.out; have hnc164 := NB260_303.out; have hnb165 := NB303_312.out; have hnc165 := NB312_303.out; have hnb166 := NB303_320.out; have hnc166 := NB320_303.out; have hnb167 := NB303_328.out; have hnc167 := NB328_303.out; have hcz168_0 : w162.cell? ⟨gb303, 0, none⟩ = some (.slice Ao63 t295.length co63) := (blk_cell BK303.out 0).trans rfl; have hcz168_1 : w162.cell? ⟨gb303, 1, none⟩ = some (.slice Ao71 t298.length co71) := (blk_cell BK303.out 1).trans rfl; have hfz168_0 := blk_frozen BK303.out 0; have hfz168_1 := blk_frozen BK303.out 1; have hnb169 := NB312_253.out; have hnc169 := NB253_312.out; have hnb170 := NB312_260.out; have hnc170 := NB260_312.out; have hnb171 := NB312_320.out; have hnc171 := NB320_312.out; have hnb172 := NB312_328.out; have hnc172 := NB328_312.out; have hcz173_0 : w162.cell? ⟨gb312, 0, none⟩ = some (.slice Ao75 t304.length co75) := (blk_cell BK312.out 0).trans rfl; have hcz173_1 : w162.cell? ⟨gb312, 1, none⟩ = some (.slice Ao84 t307.length co84) := (blk_cell BK312.out 1).trans rfl; have hfz173_0 := blk_frozen BK312.out 0; have hfz173_1 := blk_frozen BK312.out 1) | (go_at_call 13; (with_reducible refine (ladingref14_Same.calls k _ _ t295 _ _ t298 _ _ t304 _ _ t307 true _ ?side1 ?side2 ?side3 ?side4 ?side5 ?side6 ?side7 ?side8 A121.out).mono ?_); (case side1 => repeat (first | exact (Kd.R_reads' HO297.out).2.2 | (with_reducible refine Kd.C_alloc ?_ _) | (with_reducible refine Kd.C_drewN ?_ _) | (with_reducible refine Kd.C_drew ?_))); (case side2 => exact (Kd.R_reads' HO297.out).2.1); (case side3 => repeat (first | exact (Kd.R_reads' HO300.out).2.2 | (with_reducible refine Kd.C_alloc ?_ _) | (with_reducible refine Kd.C_drewN ?_ _) | (with_reducible refine Kd.C_drew ?_))); (case side4 => exact (Kd.R_reads' HO300.out).2.1); (case side5 => repeat (first | exact (Kd.R_reads' HO306.out).2.2 | (with_reducible refine Kd.C_alloc ?_ _) | (with_reducible refine Kd.C_drewN ?_ _) | (with_reducible refine Kd.C_drew ?_))); (case side6 => exact (Kd.R_reads' HO306.out).2.1); (case side7 => repeat (first | exact (Kd.R_reads' HO309.out).2.2 | (with_reducible refine Kd.C_alloc ?_ _) | (with_reducible refine Kd.C_drewN ?_ _) | (with_reducible refine Kd.C_drew ?_))); (case side8 => exact (Kd.R_reads' HO309.out).2.1); rintro e w174 ⟨rfl, hb⟩; have n0_ := Aside0.mk (Kd.R_below (zR_ HO256.out) hb); have n1_ := Aside0.mk (Kd.R_below (zR_ HO259.out) hb); have n2_ := Aside0.mk (Kd.R_below (zR_ HO263.out) hb); have n3_ := Aside0.mk (Kd.R_below (zR_ HO266.out) hb); have n4_ := Aside0.mk (Kd.R_below (zR_ HO271.out) hb); have n5_ := Aside0.mk (Kd.R_below (zR_ HO274.out) hb); have n6_ := Aside0.mk (Kd.R_below (zR_ HO279.out) hb); have n7_ := Aside0.mk (Kd.R_below (zR_ HO282.out) hb); have n8_ := Aside0.mk (Kd.R_below (zR_ HO288.out) hb); have n9_ := Aside0.mk (Kd.R_below (zR_ HO291.out) hb); have n10_ := Aside0.mk (Kd.R_below (zR_ HO297.out) hb); have n11_ := Aside0.mk (Kd.R_below (zR_ HO300.out) hb); have n12_ := Aside0.mk (Kd.R_below (zR_ HO306.out) hb); have n13_ := Aside0.mk (Kd.R_below (zR_ HO309.out) hb); have n14_ := Aside0.mk (Kd.R_below (zR_ HO315.out) hb); have n15_ := Aside0.mk (Kd.R_below (zR_ HO318.out) hb); have n16_ := Aside0.mk (Kd.R_below (zR_ HO323.out) hb); have n17_ := Aside0.mk (Kd.R_below (zR_ HO326.out) hb); have n18_ := Aside0.mk (blk_below (g := gb253) (o := .cells #[.slice A0_0 l0_0.length c0_0, .slice A0_1 l0_1.length c0_1] 25 (0, 0)) (zb_ BK253.out) hb); have n19_ := Aside0.mk (blk_below (g := gb260) (o := .cells #[.slice Ao19 t254.length co19, .slice Ao22 t257.length co22] 25 (0, 0)) (zb_ BK260.out) hb); have n20_ := Aside0.mk (blk_below (g := gb268) (o := .cells #[.slice Ao25 t261.length co25, .slice Ao29 t264.length co29] 25 (0, 0)) (zb_ BK268.out) hb); have n21_ := Aside0.mk (blk_below (g := gb276) (o := .cells #[.slice Ao33 t269.length co33, .slice Ao38 t272.length co38] 25 (0, 0)) (zb_ BK276.out) hb); have n22_ := Aside0.mk (blk_below (g := gb285) (o := .cells #[.slice Ao42 t277.length co42, .slice Ao48 t280.length co48] 25 (0, 0)) (zb_ BK285.out) hb); have n23_ := Aside0.mk (blk_below (g := gb294) (o := .cells #[.slice Ao52 t286.length co52, .slice Ao59 t289.length co59] 25 (0, 0)) (zb_ BK294.out) hb); have n24_ := Aside0.mk (blk_below (g := gb303) (o := .cells #[.slice Ao63 t295.length co63, .slice Ao71 t298.length co71] 25 (0, 0)) (zb_ BK303.out) hb); have n25_ := Aside0.mk (blk_below (g := gb312) (o := .cells #[.slice Ao75 t304.length co75, .slice Ao84 t307.length co84] 25 (0, 0)) (zb_ BK312.out) hb); have n26_ := Aside0.mk (blk_below (g := gb320) (o := .cells #[.slice Ao88 t313.length co88, .slice Ao98 t316.length co98] 25 (0, 0)) (zb_ BK320.out) hb); have n27_ := Aside0.mk (blk_below (g := gb328) (o := .cells #[.slice Ao102 t321.length co102, .slice Ao113 t324.length co113] 25 (0, 0)) (zb_ BK328.out) hb); have n28_ := Aside0.mk (below_step (zh10_ HB.out GE253.out GE260.out GE268.out GE276.out GE285.out GE294.out GE303.out GE312.out GE320.out GE328.out) hb); clear HO256; clear HO259; clear HO263; clear HO266; clear HO271; clear HO274; clear HO279; clear HO282; clear HO288; clear HO291; clear HO297; clear HO300; clear HO306; clear HO309; clear HO315; clear HO318; clear HO323; clear HO326; clear BK253; clear BK260; clear BK268; clear BK276; clear BK285; clear BK294; clear BK303; clear BK312; clear BK320; clear BK328; clear HB; have HO256 := n0_; have HO259 := n1_; have HO263 := n2_; have HO266 := n3_; have HO271 := n4_; have HO274 := n5_; have HO279 := n6_; have HO282 := n7_; have HO288 := n8_; have HO291 := n9_; have HO297 := n10_; have HO300 := n11_; have HO306 := n12_; have HO309 := n13_; have HO315 := n14_; have HO318 := n15_; have HO323 := n16_; have HO326 := n17_; have BK253 := n18_; have BK260 := n19_; have BK268 := n20_; have BK276 := n21_; have BK285 := n22_; have BK294 := n23_; have BK303 := n24_; have BK312 := n25_; have BK320 := n26_; have BK328 := n27_; have HB := n28_; clear n0_ n1_ n2_ n3_ n4_ n5_ n6_ n7_ n8_ n9_ n10_ n11_ n12_ n13_ n14_ n15_ n16_ n17_ n18_ n19_ n20_ n21_ n22_ n23_ n24_ n25_ n26_ n27_ n28_; (try clear hb); (try clear hb2); (try clear hk); (try clear hi); have hnb175 := NB320_253.out; have hnc175 := NB253_320.out; have hnb176 := NB320_260.out; have hnc176 := NB260_320.out; have hnb177 := NB320_328.out; have hnc177 := NB328_320.out; have hcz178_0 : w174.cell? ⟨gb320, 0, none⟩ = some (.slice Ao88 t313.length co88) := (blk_cell BK320.out 0).trans rfl; have hcz178_1 : w174.cell? ⟨gb320, 1, none⟩ = some (.slice Ao98 t316.length co98) := (blk_cell BK320.out 1).trans rfl; have hfz178_0 := blk_frozen BK320.out 0; have hfz178_1 := blk_frozen BK320.out 1; have hnb179 := NB328_253.out; have hnc179 := NB253_328.out; have hnb180 := NB328_260.out; have hnc180 := NB260_328.out; have hcz181_0 : w174.cell? ⟨gb328, 0, none⟩ = some (.slice Ao102 t321.length co102) := (blk_cell BK328.out 0).trans rfl; have hcz181_1 : w174.cell? ⟨gb328, 1, none⟩ = some (.slice Ao113 t324.length co113) := (blk_cell BK328.out 1).trans rfl; have hfz181_0 := blk_frozen BK328.out 0; have hfz181_1 := blk_frozen BK328.out 1) | (go_at_call 13; (with_reducible refine (ladingref14_Same.calls k _ _ t313 _ _ t316 _ _ t321 _ _ t324 true _ ?side1 ?side2 ?side3 ?side4 ?side5 ?side6 ?side7 ?side8 A125.out).mono ?_); (case side1 => repeat (first | exact (Kd.R_reads' HO315.out).2.2 | (with_reducible refine Kd.C_alloc ?_ _) | (with_reducible refine Kd.C_drewN ?_ _) | (with_reducible refine Kd.C_drew ?_))); (case side2 => exact (Kd.R_reads' HO315.out).2.1); (case side3 => repeat (first | exact (Kd.R_reads' HO318.out).2.2 | (with_reducible refine Kd.C_alloc ?_ _) | (with_reducible refine Kd.C_drewN ?_ _) | (with_reducible refine Kd.C_drew ?_))); (case side4 => exact (Kd.R_reads' HO318.out).2.1); (case side5 => repeat (first | exact (Kd.R_reads' HO323.out).2.2 | (with_reducible refine Kd.C_alloc ?_ _) | (with_reducible refine Kd.C_drewN ?_ _) | (with_reducible refine Kd.C_drew ?_))); (case side6 => exact (Kd.R_reads' HO323.out).2.1); (case side7 => repeat (first | exact (Kd.R_reads' HO326.out).2.2 | (with_reducible refine Kd.C_alloc ?_ _) | (with_reducible refine Kd.C_drewN ?_ _) | (with_reducible refine Kd.C_drew ?_))); (case side8 => exact (Kd.R_reads' HO326.out).2.1); rintro e w182 ⟨rfl, hb⟩; have n0_ := Aside0.mk (Kd.R_below (zR_ HO256.out) hb); have n1_ := Aside0.mk (Kd.R_below (zR_ HO259.out) hb); have n2_ := Aside0.mk (Kd.R_below (zR_ HO263.out) hb); have n3_ := Aside0.mk (Kd.R_below (zR_ HO266.out) hb); have n4_ := Aside0.mk (Kd.R_below (zR_ HO271.out) hb); have n5_ := Aside0.mk (Kd.R_below (zR_ HO274.out) hb); have n6_ := Aside0.mk (Kd.R_below (zR_ HO279.out) hb); have n7_ := Aside0.mk (Kd.R_below (zR_ HO282.out) hb); have n8_ := Aside0.mk (Kd.R_below (zR_ HO288.out) hb); have n9_ := Aside0.mk (Kd.R_below (zR_ HO291.out) hb); have n10_ := Aside0.mk (Kd.R_below (zR_ HO297.out) hb); have n11_ := Aside0.mk (Kd.R_below (zR_ HO300.out) hb); have n12_ := Aside0.mk (Kd.R_below (zR_ HO306.out) hb); have n13_ := Aside0.mk (Kd.R_below (zR_ HO309.out) hb); have n14_ := Aside0.mk (Kd.R_below (zR_ HO315.out) hb); have n15_ := Aside0.mk (Kd.R_below (zR_ HO318.out) hb); have n16_ := Aside0.mk (Kd.R_below (zR_ HO323.out) hb); have n17_ := Aside0.mk (Kd.R_below (zR_ HO326.out) hb); have n18_ := Aside0.mk (blk_below (g := gb253) (o := .cells #[.slice A0_0 l0_0.length c0_0, .slice A0_1 l0_1.length c0_1] 25 (0, 0)) (zb_ BK253.out) hb); have n19_ := Aside0.mk (blk_below (g := gb260) (o := .cells #[.slice Ao19 t254.length co19, .slice Ao22 t257.length co22] 25 (0, 0)) (zb_ BK260.out) hb); have n20_ := Aside0.mk (blk_below (g := gb268) (o := .cells #[.slice Ao25 t261.length co25, .slice Ao29 t264.length co29] 25 (0, 0)) (zb_ BK268.out) hb); have n21_ := Aside0.mk (blk_below (g := gb276) (o := .cells #[.slice Ao33 t269.length co33, .slice Ao38 t272.length co38] 25 (0, 0)) (zb_ BK276.out) hb); have n22_ := Aside0.mk (blk_below (g := gb285) (o := .cells #[.slice Ao42 t277.length co42, .slice Ao48 t280.length co48] 25 (0, 0)) (zb_ BK285.out) hb); have n23_ := Aside0.mk (blk_below (g := gb294) (o := .cells #[.slice Ao52 t286.length co52, .slice Ao59 t289.length co59] 25 (0, 0)) (zb_ BK294.out) hb); have n24_ := Aside0.mk (blk_below (g := gb303) (o := .cells #[.slice Ao63 t295.length co63, .slice Ao71 t298.length co71] 25 (0, 0)) (zb_ BK303.out) hb); have n25_ := Aside0.mk (blk_below (g := gb312) (o := .cells #[.slice Ao75 t304.length co75, .slice Ao84 t307.length co84] 25 (0, 0)) (zb_ BK312.out) hb); have n26_ := Aside0.mk (blk_below (g := gb320) (o := .cells #[.slice Ao88 t313.length co88, .slice Ao98 t316.length co98] 25 (0, 0)) (zb_ BK320.out) hb); have n27_ := Aside0.mk (blk_below (g := gb328) (o := .cells #[.slice Ao102 t321.length co102, .slice Ao113 t324.length co113] 25 (0, 0)) (zb_ BK328.out) hb); have n28_ := Aside0.mk (below_step (zh10_ HB.out GE253.out GE260.out GE268.out GE276.out GE285.out GE294.out GE303.out GE312.out GE320.out GE328.out) hb); clear HO256; clear HO259; clear HO263; clear HO266; clear HO271; clear HO274; clear HO279; clear HO282; clear HO288; clear HO291; clear HO297; clear HO300; clear HO306; clear HO309; clear HO315; clear HO318; clear HO323; clear HO326; clear BK253; clear BK260; clear BK268; clear BK276; clear BK285; clear BK294; clear BK303; clear BK312; clear BK320; clear BK328; clear HB; have HO256 := n0_; have HO259 := n1_; have HO263 := n2_; have HO266 := n3_; have HO271 := n4_; have HO274 := n5_; have HO279 := n6_; have HO282 := n7_; have HO288 := n8_; have HO291 := n9_; have HO297 := n10_; have HO300 := n11_; have HO306 := n12_; have HO309 := n13_; have HO315 := n14_; have HO318 := n15_; have HO323 := n16_; have HO326 := n17_; have BK253 := n18_; have BK260 := n19_; have BK268 := n20_; have BK276 := n21_; have BK285 := n22_; have BK294 := n23_; have BK303 := n24_; have BK312 := n25_; have BK320 := n26_; have BK328 := n27_; have HB := n28_; clear n0_ n1_ n2_ n3_ n4_ n5_ n6_ n7_ n8_ n9_ n10_ n11_ n12_ n13_ n14_ n15_ n16_ n17_ n18_ n19_ n20_ n21_ n22_ n23_ n24_ n25_ n26_ n27_ n28_; (try clear hb); (try clear hb2); (try clear hk); (try clear hi)))
           go_meet
           case rel => exact ⟨_, ((t319 != t327)), (by first | rfl | (simp; done) | (simp [*]; done) | (simp only [i64_w]; done)), H', ⟨by first | omega | exact Nat.le_refl _⟩, ⟨by (with_reducible repeat (first | apply Kd.R_alloc | apply Kd.R_drewN | apply Kd.R_drew)); exact Kd.R_mono HO256.out (fun _ hk => ⟨hk.1.1.1.1.1.1.1.2, ⟨hk.1.1.1.1.1.1.2, ⟨hk.1.1.1.1.1.2, ⟨hk.1.1.1.1.2, ⟨hk.1.1.1.2, ⟨hk.1.1.2, ⟨hk.1.2, hk.2⟩⟩⟩⟩⟩⟩⟩)⟩, ⟨by (with_reducible repeat (first | apply Kd.R_alloc | apply Kd.R_drewN | apply Kd.R_drew)); exact Kd.R_mono HO259.out (fun _ hk => ⟨hk.1.1.1.1.1.1.1.2, ⟨hk.1.1.1.1.1.1.2, ⟨hk.1.1.1.1.1.2, ⟨hk.1.1.1.1.2, ⟨hk.1.1.1.2, ⟨hk.1.1.2, ⟨hk.1.2, hk.2⟩⟩⟩⟩⟩⟩⟩)⟩, ⟨by (with_reducible repeat (first | apply Kd.R_alloc | apply Kd.R_drewN | apply Kd.R_drew)); exact Kd.R_mono HO263.out (fun _ hk => ⟨hk.1.1.1.1.1.1.1.2, ⟨hk.1.1.1.1.1.1.2, ⟨hk.1.1.1.1.1.2, ⟨hk.1.1.1.1.2, ⟨hk.1.1.1.2, ⟨hk.1.1.2, ⟨hk.1.2, hk.2⟩⟩⟩⟩⟩⟩⟩)⟩, ⟨by (with_reducible repeat (first | apply Kd.R_alloc | apply Kd.R_drewN | apply Kd.R_drew)); exact Kd.R_mono HO266.out (fun _ hk => ⟨hk.1.1.1.1.1.1.1.2, ⟨hk.1.1.1.1.1.1.2, ⟨hk.1.1.1.1.1.2, ⟨hk.1.1.1.1.2, ⟨hk.1.1.1.2, ⟨hk.1.1.2, ⟨hk.1.2, hk.2⟩⟩⟩⟩⟩⟩⟩)⟩, ⟨by (with_reducible repeat (first | apply Kd.R_alloc | apply Kd.R_drewN | apply Kd.R_drew)); exact Kd.R_mono HO271.out (fun _ hk => ⟨hk.1.1.1.1.1.1.1.2, ⟨hk.1.1.1.1.1.1.2, ⟨hk.1.1.1.1.1.2, ⟨hk.1.1.1.1.2, ⟨hk.1.1.1.2, ⟨hk.1.1.2, ⟨hk.1.2, hk.2⟩⟩⟩⟩⟩⟩⟩)⟩, ⟨by (with_reducible repeat (first | apply Kd.R_alloc | apply Kd.R_drewN | apply Kd.R_drew)); exact Kd.R_mono HO274.out (fun _ hk => ⟨hk.1.1.1.1.1.1.1.2, ⟨hk.1.1.1.1.1.1.2, ⟨hk.1.1.1.1.1.2, ⟨hk.1.1.1.1.2, ⟨hk.1.1.1.2, ⟨hk.1.1.2, ⟨hk.1.2, hk.2⟩⟩⟩⟩⟩⟩⟩)⟩, ⟨by (with_reducible repeat (first | apply Kd.R_alloc | apply Kd.R_drewN | apply Kd.R_drew)); exact Kd.R_mono HO279.out (fun _ hk => ⟨hk.1.1.1.1.1.1.1.2, ⟨hk.1.1.1.1.1.1.2, ⟨hk.1.1.1.1.1.2, ⟨hk.1.1.1.1.2, ⟨hk.1.1.1.2, ⟨hk.1.1.2, ⟨hk.1.2, hk.2⟩⟩⟩⟩⟩⟩⟩)⟩, ⟨by (with_reducible repeat (first | apply Kd.R_alloc | apply Kd.R_drewN | apply Kd.R_drew)); exact Kd.R_mono HO282.out (fun _ hk => ⟨hk.1.1.1.1.1.1.1.2, ⟨hk.1.1.1.1.1.1.2, ⟨hk.1.1.1.1.1.2, ⟨hk.1.1.1.1.2, ⟨hk.1.1.1.2, ⟨hk.1.1.2, ⟨hk.1.2, hk.2⟩⟩⟩⟩⟩⟩⟩)⟩, ⟨by (with_reducible repeat (first | apply Kd.R_alloc | apply Kd.R_drewN | apply Kd.R_drew)); exact Kd.R_mono HO288.out (fun _ hk => ⟨hk.1.1.1.1.1.1.1.2, ⟨hk.1.1.1.1.1.1.2, ⟨hk.1.1.1.1.1.2, ⟨hk.1.1.1.1.2, ⟨hk.1.1.1.2, ⟨hk.1.1.2, ⟨hk.1.2, hk.2⟩⟩⟩⟩⟩⟩⟩)⟩, ⟨by (with_reducible repeat (first | apply Kd.R_alloc | apply Kd.R_drewN | apply Kd.R_drew)); exact Kd.R_mono HO291.out (fun _ hk => ⟨hk.1.1.1.1.1.1.1.2, ⟨hk.1.1.1.1.1.1.2, ⟨hk.1.1.1.1.1.2, ⟨hk.1.1.1.1.2, ⟨hk.1.1.1.2, ⟨hk.1.1.2, ⟨hk.1.2, hk.2⟩⟩⟩⟩⟩⟩⟩)⟩, ⟨by (with_reducible repeat (first | apply Kd.R_alloc | apply Kd.R_drewN | apply Kd.R_drew)); exact Kd.R_mono HO297.out (fun _ hk => ⟨hk.1.1.1.1.1.1.1.2, ⟨hk.1.1.1.1.1.1.2, ⟨hk.1.1.1.1.1.2, ⟨hk.1.1.1.1.2, ⟨hk.1.1.1.2, ⟨hk.1.1.2, ⟨hk.1.2, hk.2⟩⟩⟩⟩⟩⟩⟩)⟩, ⟨by (with_reducible repeat (first | apply Kd.R_alloc | apply Kd.R_drewN | apply Kd.R_drew)); exact Kd.R_mono HO300.out (fun _ hk => ⟨hk.1.1.1.1.1.1.1.2, ⟨hk.1.1.1.1.1.1.2, ⟨hk.1.1.1.1.1.2, ⟨hk.1.1.1.1.2, ⟨hk.1.1.1.2, ⟨hk.1.1.2, ⟨hk.1.2, hk.2⟩⟩⟩⟩⟩⟩⟩)⟩, ⟨by (with_reducible repeat (first | apply Kd.R_alloc | apply Kd.R_drewN | apply Kd.R_drew)); exact Kd.R_mono HO306.out (fun _ hk => ⟨hk.1.1.1.1.1.1.1.2, ⟨hk.1.1.1.1.1.1.2, ⟨hk.1.1.1.1.1.2, ⟨hk.1.1.1.1.2, ⟨hk.1.1.1.2, ⟨hk.1.1.2, ⟨hk.1.2, hk.2⟩⟩⟩⟩⟩⟩⟩)⟩, ⟨by (with_reducible repeat (first | apply Kd.R_alloc | apply Kd.R_drewN | apply Kd.R_drew)); exact Kd.R_mono HO309.out (fun _ hk => ⟨hk.1.1.1.1.1.1.1.2, ⟨hk.1.1.1.1.1.1.2, ⟨hk.1.1.1.1.1.2, ⟨hk.1.1.1.1.2, ⟨hk.1.1.1.2, ⟨hk.1.1.2, ⟨hk.1.2, hk.2⟩⟩⟩⟩⟩⟩⟩)⟩, ⟨by (with_reducible repeat (first | apply Kd.R_alloc | apply Kd.R_drewN | apply Kd.R_drew)); exact Kd.R_mono HO315.out (fun _ hk => ⟨hk.1.1.1.1.1.1.1.2, ⟨hk.1.1.1.1.1.1.2, ⟨hk.1.1.1.1.1.2, ⟨hk.1.1.1.1.2, ⟨hk.1.1.1.2, ⟨hk.1.1.2, ⟨hk.1.2, hk.2⟩⟩⟩⟩⟩⟩⟩)⟩, ⟨by (with_reducible repeat (first | apply Kd.R_alloc | apply Kd.R_drewN | apply Kd.R_drew)); exact Kd.R_mono HO318.out (fun _ hk => ⟨hk.1.1.1.1.1.1.1.2, ⟨hk.1.1.1.1.1.1.2, ⟨hk.1.1.1.1.1.2, ⟨hk.1.1.1.1.2, ⟨hk.1.1.1.2, ⟨hk.1.1.2, ⟨hk.1.2, hk.2⟩⟩⟩⟩⟩⟩⟩)⟩, ⟨by (with_reducible repeat (first | apply Kd.R_alloc | apply Kd.R_drewN | apply Kd.R_drew)); exact Kd.R_mono HO323.out (fun _ hk => ⟨hk.1.1.1.1.1.1.1.2, ⟨hk.1.1.1.1.1.1.2, ⟨hk.1.1.1.1.1.2, ⟨hk.1.1.1.1.2, ⟨hk.1.1.1.2, ⟨hk.1.1.2, ⟨hk.1.2, hk.2⟩⟩⟩⟩⟩⟩⟩)⟩, ⟨by (with_reducible repeat (first | apply Kd.R_alloc | apply Kd.R_drewN | apply Kd.R_drew)); exact Kd.R_mono HO326.out (fun _ hk => ⟨hk.1.1.1.1.1.1.1.2, ⟨hk.1.1.1.1.1.1.2, ⟨hk.1.1.1.1.1.2, ⟨hk.1.1.1.1.2, ⟨hk.1.1.1.2, ⟨hk.1.1.2, ⟨hk.1.2, hk.2⟩⟩⟩⟩⟩⟩⟩)⟩, ⟨by (with_reducible repeat (first | refine blk_drewN ?_ _ | refine blk_drew ?_ | refine blk_alloc ?_ _)); exact BK253.out⟩, ⟨by (with_reducible repeat (first | refine blk_drewN ?_ _ | refine blk_drew ?_ | refine blk_alloc ?_ _)); exact BK260.out⟩, ⟨by (with_reducible repeat (first | refine blk_drewN ?_ _ | refine blk_drew ?_ | refine blk_alloc ?_ _)); exact BK268.out⟩, ⟨by (with_reducible repeat (first | refine blk_drewN ?_ _ | refine blk_drew ?_ | refine blk_alloc ?_ _)); exact BK276.out⟩, ⟨by (with_reducible repeat (first | refine blk_drewN ?_ _ | refine blk_drew ?_ | refine blk_alloc ?_ _)); exact BK285.out⟩, ⟨by (with_reducible repeat (first | refine blk_drewN ?_ _ | refine blk_drew ?_ | refine blk_alloc ?_ _)); exact BK294.out⟩, ⟨by (with_reducible repeat (first | refine blk_drewN ?_ _ | refine blk_drew ?_ | refine blk_alloc ?_ _)); exact BK303.out⟩, ⟨by (with_reducible repeat (first | refine blk_drewN ?_ _ | refine blk_drew ?_ | refine blk_alloc ?_ _)); exact BK312.out⟩, ⟨by (with_reducible repeat (first | refine blk_drewN ?_ _ | refine blk_drew ?_ | refine blk_alloc ?_ _)); exact BK320.out⟩, ⟨by (with_reducible repeat (first | refine blk_drewN ?_ _ | refine blk_drew ?_ | refine blk_alloc ?_ _)); exact BK328.out⟩, ⟨by exact zh10_ HB.out GE253.out GE260.out GE268.out GE276.out GE285.out GE294.out GE303.out GE312.out GE320.out GE328.out⟩⟩
          ·replace c126 := Bool.eq_false_iff.mpr c126
           subst c126
           have H1 : (none) = some r := by rw [if_neg (show ¬ (false = true) by decide)] at H; exact H
           clear H
           have H := H1
           clear H1
           exact absurd H (by simp)
         ·rw [if_neg c124] at H
          exact absurd H (by simp)
        ·rw [if_neg c123] at H
         exact absurd H (by simp)
       ·replace c122 := Bool.eq_false_iff.mpr c122
        subst c122
        have H1 : (none) = some r := by rw [if_neg (show ¬ (false = true) by decide)] at H; exact H
        clear H
        have H := H1
        clear H1
        exact absurd H (by simp)
      ·rw [if_neg c120] at H
       exact absurd H (by simp)
     ·rw [if_neg c119] at H
      exact absurd H (by simp)
    ·replace c118 := Bool.eq_false_iff.mpr c118
     subst c118
     have H1 : (none) = some r := by rw [if_neg (show ¬ (false = true) by decide)] at H; exact H
     clear H
     have H := H1
     clear H1
     exact absurd H (by simp)
   ·rw [if_neg c116] at H
    exact absurd H (by simp)
  ·replace c115 := Bool.eq_false_iff.mpr c115
   subst c115
   have H1 : (none) = some r := by rw [if_neg (show ¬ (false = true) by decide)] at H; exact H
   clear H
   have H := H1
   clear H1
   exact absurd H (by simp)
 case rest =>
  clear HC14
  try clear c1
  try clear c2
  try clear p2
  try clear c3
  try clear c4
  try clear c5
  try clear c6
  try clear c7
  try clear c8
  try clear c9
  try clear c10
  try clear c11
  try clear c12
  try clear c13
  try clear c14
  try clear c15
  try clear c16
  try clear c17
  try clear c18
  try clear c19
  try clear c20
  try clear c26
  try clear c27
  try clear c34
  try clear c35
  try clear c36
  try clear c43
  try clear c44
  try clear c45
  try clear c46
  try clear c53
  try clear c54
  try clear c55
  try clear c56
  try clear c57
  try clear c64
  try clear c65
  try clear c66
  try clear c67
  try clear c68
  try clear c69
  try clear c76
  try clear c77
  try clear c78
  try clear c79
  try clear c80
  try clear c81
  try clear c82
  try clear c89
  try clear c90
  try clear c91
  try clear c92
  try clear c93
  try clear c94
  try clear c95
  try clear c96
  try clear c103
  try clear c104
  try clear c105
  try clear c106
  try clear c107
  try clear c108
  try clear c109
  try clear c110
  try clear c111
  try clear c115
  try clear c116
  try clear c116b0
  try clear c116b1
  try clear c118
  try clear c119
  try clear c119b0
  try clear c119b1
  try clear c120
  try clear c120b0
  try clear c120b1
  try clear c122
  try clear c123
  try clear c123b0
  try clear c123b1
  try clear c124
  try clear c124b0
  try clear c124b1
  try clear c126
  try clear c127
  try clear c128
  try clear c129
  try clear c130
  try clear c131
  try clear c132
  try clear c133
  try clear c134
  try clear c135
  try clear c137
  try clear c138
  try clear c139
  try clear c140
  try clear c141
  try clear c142
  try clear c143
  try clear c144
  try clear c147
  try clear c148
  try clear c149
  try clear c150
  try clear c151
  try clear c152
  try clear c153
  try clear c155
  try clear c156
  try clear c157
  try clear c158
  try clear c159
  try clear c160
  try clear c163
  try clear c164
  try clear c165
  try clear c166
  try clear c167
  try clear c169
  try clear c170
  try clear c171
  try clear c172
  try clear c175
  try clear c176
  try clear c177
  try clear c179
  try clear c180
  try clear hcz112_0
  try clear hcz112_1
  try clear hcz136_0
  try clear hcz136_1
  try clear hcz145_0
  try clear hcz145_1
  try clear hcz154_0
  try clear hcz154_1
  try clear hcz161_0
  try clear hcz161_1
  try clear hcz168_0
  try clear hcz168_1
  try clear hcz16_0
  try clear hcz16_1
  try clear hcz173_0
  try clear hcz173_1
  try clear hcz178_0
  try clear hcz178_1
  try clear hcz181_0
  try clear hcz181_1
  try clear hcz21_0
  try clear hcz21_1
  try clear hcz28_0
  try clear hcz28_1
  try clear hcz30_0
  try clear hcz30_1
  try clear hcz37_0
  try clear hcz37_1
  try clear hcz39_0
  try clear hcz39_1
  try clear hcz47_0
  try clear hcz47_1
  try clear hcz49_0
  try clear hcz49_1
  try clear hcz58_0
  try clear hcz58_1
  try clear hcz60_0
  try clear hcz60_1
  try clear hcz70_0
  try clear hcz70_1
  try clear hcz72_0
  try clear hcz72_1
  try clear hcz83_0
  try clear hcz83_1
  try clear hcz85_0
  try clear hcz85_1
  try clear hcz97_0
  try clear hcz97_1
  try clear hcz99_0
  try clear hcz99_1
  try clear hfz112_0
  try clear hfz112_1
  try clear hfz136_0
  try clear hfz136_1
  try clear hfz145_0
  try clear hfz145_1
  try clear hfz154_0
  try clear hfz154_1
  try clear hfz161_0
  try clear hfz161_1
  try clear hfz168_0
  try clear hfz168_1
  try clear hfz16_0
  try clear hfz16_1
  try clear hfz173_0
  try clear hfz173_1
  try clear hfz178_0
  try clear hfz178_1
  try clear hfz181_0
  try clear hfz181_1
  try clear hfz21_0
  try clear hfz21_1
  try clear hfz28_0
  try clear hfz28_1
  try clear hfz30_0
  try clear hfz30_1
  try clear hfz37_0
  try clear hfz37_1
  try clear hfz39_0
  try clear hfz39_1
  try clear hfz47_0
  try clear hfz47_1
  try clear hfz49_0
  try clear hfz49_1
  try clear hfz58_0
  try clear hfz58_1
  try clear hfz60_0
  try clear hfz60_1
  try clear hfz70_0
  try clear hfz70_1
  try clear hfz72_0
  try clear hfz72_1
  try clear hfz83_0
  try clear hfz83_1
  try clear hfz85_0
  try clear hfz85_1
  try clear hfz97_0
  try clear hfz97_1
  try clear hfz99_0
  try clear hfz99_1
  obtain ⟨kq, x143_13, rfl, HA, HJ13, HO_261000, HO_261001, HO_269000, HO_269001, HO_277000, HO_277001, HO_286000, HO_286001, HO_295000, HO_295001, HO_304000, HO_304001, HO_313000, HO_313001, HO_321000, HO_321001, HO_329000, HO_329001, BK253, BK260, BK268, BK276, BK285, BK294, BK303, BK312, BK320, BK328, HB⟩ := hcut
  cases kq with
  | zero => exact absurd HA.out (by simp [ladinglaw14_LedgerDoes.j0])
  | succ kj13 =>
   have H := HA.out
   clear HA
   simp only [ladinglaw14_LedgerDoes.j0] at H
   by_cases c183 : x143_13 = true
   ·subst c183
    have H1 : (none) = some r := by rw [if_pos rfl] at H; exact H
    clear H
    have H := H1
    clear H1
    exact absurd H (by simp)
   ·replace c183 := Bool.eq_false_iff.mpr c183
    subst c183
    have H1 : ((ledger_Pay.f t254 t257 a1).bind fun bt333 => ((ladingref14_Pay.f kj13 l0_0 l0_1 a1).bind fun bt339 => ((ledger_Balance.f kj13 t254 t257 a3).bind fun bt345 => ((ladingref14_Balance.f kj13 l0_0 l0_1 a3).bind fun bt347 => ((ladinglaw14_lives.f).bind fun t349 => (if t349 = true then (if (bt333.1 == bt339.1 && (bt333.2.1 == bt339.2.1 && (bt333.2.2.1 == bt339.2.2.1 && (bt333.2.2.2.1 == bt339.2.2.2.1)))) = true then (if bt333.2.2.2.2 = bt339.2.2.2.2 then (if bt345.1 = bt347.1 then (if bt345.2 = bt347.2 then ((ledger_Check.f t254 t257).bind fun t350 => ((ladingref14_Check.f l0_0 l0_1).bind fun t351 => (if t350 = t351 then ((ladingref14_Same.f kj13 t254 t257 l0_0 l0_1).bind fun t352 => (some t352)) else (none)))) else (none)) else (none)) else (none)) else (none)) else (none))))))) = some r := by rw [if_neg (show ¬ (false = true) by decide)] at H; exact H
    clear H
    have H := H1
    clear H1
    replace H := Option.bind_eq_some_iff.mp H
    obtain ⟨⟨t333, t334, t335, t336, t337⟩, A1840, H⟩ := H
    replace H : ((ladingref14_Pay.f kj13 l0_0 l0_1 a1).bind fun bt339 => ((ledger_Balance.f kj13 t254 t257 a3).bind fun bt345 => ((ladingref14_Balance.f kj13 l0_0 l0_1 a3).bind fun bt347 => ((ladinglaw14_lives.f).bind fun t349 => (if t349 = true then (if (t333 == bt339.1 && (t334 == bt339.2.1 && (t335 == bt339.2.2.1 && (t336 == bt339.2.2.2.1)))) = true then (if t337 = bt339.2.2.2.2 then (if bt345.1 = bt347.1 then (if bt345.2 = bt347.2 then ((ledger_Check.f t254 t257).bind fun t350 => ((ladingref14_Check.f l0_0 l0_1).bind fun t351 => (if t350 = t351 then ((ladingref14_Same.f kj13 t254 t257 l0_0 l0_1).bind fun t352 => (some t352)) else (none)))) else (none)) else (none)) else (none)) else (none)) else (none)))))) = some r := H
    have A184 := Aside0.mk A1840
    clear A1840
    replace H := Option.bind_eq_some_iff.mp H
    obtain ⟨⟨t339, t340, t341, t342, t343⟩, A1850, H⟩ := H
    replace H : ((ledger_Balance.f kj13 t254 t257 a3).bind fun bt345 => ((ladingref14_Balance.f kj13 l0_0 l0_1 a3).bind fun bt347 => ((ladinglaw14_lives.f).bind fun t349 => (if t349 = true then (if (t333 == t339 && (t334 == t340 && (t335 == t341 && (t336 == t342)))) = true then (if t337 = t343 then (if bt345.1 = bt347.1 then (if bt345.2 = bt347.2 then ((ledger_Check.f t254 t257).bind fun t350 => ((ladingref14_Check.f l0_0 l0_1).bind fun t351 => (if t350 = t351 then ((ladingref14_Same.f kj13 t254 t257 l0_0 l0_1).bind fun t352 => (some t352)) else (none)))) else (none)) else (none)) else (none)) else (none)) else (none))))) = some r := H
    have A185 := Aside0.mk A1850
    clear A1850
    replace H := Option.bind_eq_some_iff.mp H
    obtain ⟨⟨t345, t346⟩, A1860, H⟩ := H
    replace H : ((ladingref14_Balance.f kj13 l0_0 l0_1 a3).bind fun bt347 => ((ladinglaw14_lives.f).bind fun t349 => (if t349 = true then (if (t333 == t339 && (t334 == t340 && (t335 == t341 && (t336 == t342)))) = true then (if t337 = t343 then (if t345 = bt347.1 then (if t346 = bt347.2 then ((ledger_Check.f t254 t257).bind fun t350 => ((ladingref14_Check.f l0_0 l0_1).bind fun t351 => (if t350 = t351 then ((ladingref14_Same.f kj13 t254 t257 l0_0 l0_1).bind fun t352 => (some t352)) else (none)))) else (none)) else (none)) else (none)) else (none)) else (none)))) = some r := H
    have A186 := Aside0.mk A1860
    clear A1860
    replace H := Option.bind_eq_some_iff.mp H
    obtain ⟨⟨t347, t348⟩, A1870, H⟩ := H
    replace H : ((ladinglaw14_lives.f).bind fun t349 => (if t349 = true then (if (t333 == t339 && (t334 == t340 && (t335 == t341 && (t336 == t342)))) = true then (if t337 = t343 then (if t345 = t347 then (if t346 = t348 then ((ledger_Check.f t254 t257).bind fun t350 => ((ladingref14_Check.f l0_0 l0_1).bind fun t351 => (if t350 = t351 then ((ladingref14_Same.f kj13 t254 t257 l0_0 l0_1).bind fun t352 => (some t352)) else (none)))) else (none)) else (none)) else (none)) else (none)) else (none))) = some r := H
    have A187 := Aside0.mk A1870
    clear A1870
    replace H := Option.bind_eq_some_iff.mp H
    obtain ⟨t349, A1880, H⟩ := H
    replace H : (if t349 = true then (if (t333 == t339 && (t334 == t340 && (t335 == t341 && (t336 == t342)))) = true then (if t337 = t343 then (if t345 = t347 then (if t346 = t348 then ((ledger_Check.f t254 t257).bind fun t350 => ((ladingref14_Check.f l0_0 l0_1).bind fun t351 => (if t350 = t351 then ((ladingref14_Same.f kj13 t254 t257 l0_0 l0_1).bind fun t352 => (some t352)) else (none)))) else (none)) else (none)) else (none)) else (none)) else (none)) = some r := H
    have A188 := Aside0.mk A1880
    clear A1880
    by_cases c189 : t349 = true
    ·subst c189
     have H1 : (if (t333 == t339 && (t334 == t340 && (t335 == t341 && (t336 == t342)))) = true then (if t337 = t343 then (if t345 = t347 then (if t346 = t348 then ((ledger_Check.f t254 t257).bind fun t350 => ((ladingref14_Check.f l0_0 l0_1).bind fun t351 => (if t350 = t351 then ((ladingref14_Same.f kj13 t254 t257 l0_0 l0_1).bind fun t352 => (some t352)) else (none)))) else (none)) else (none)) else (none)) else (none)) = some r := by rw [if_pos rfl] at H; exact H
     clear H
     have H := H1
     clear H1
     by_cases c190 : (t333 == t339 && (t334 == t340 && (t335 == t341 && (t336 == t342)))) = true
     ·rw [if_pos c190] at H
      have c190b0 : (t333 == t339 && (t334 == t340 && (t335 == t341 && (t336 == t342)))) = true := c190
      (try (have c190b1 : decide (t333 = t339 && (t334 == t340 && (t335 == t341 && (t336 == t342)))) = true := by simpa using c190))
      (try (have c190b2 : (t333 == t339 && (t334 == t340 && (t335 == t341 && (t336 == t342)))) = true := by simpa using c190))
      clear c190
      by_cases c191 : t337 = t343
      ·rw [if_pos c191] at H
       have c191b0 : (t337 == t343) = true := beq_iff_eq.mpr c191
       have c191b1 : (t337 != t343) = false := bne_eq_false_iff_eq.mpr c191
       clear c191
       by_cases c192 : t345 = t347
       ·rw [if_pos c192] at H
        have c192b0 : (t345 == t347) = true := beq_iff_eq.mpr c192
        have c192b1 : (t345 != t347) = false := bne_eq_false_iff_eq.mpr c192
        clear c192
        by_cases c193 : t346 = t348
        ·rw [if_pos c193] at H
         have c193b0 : (t346 == t348) = true := beq_iff_eq.mpr c193
         have c193b1 : (t346 != t348) = false := bne_eq_false_iff_eq.mpr c193
         clear c193
         replace H := Option.bind_eq_some_iff.mp H
         obtain ⟨t350, A1940, H⟩ := H
         replace H : ((ladingref14_Check.f l0_0 l0_1).bind fun t351 => (if t350 = t351 then ((ladingref14_Same.f kj13 t254 t257 l0_0 l0_1).bind fun t352 => (some t352)) else (none))) = some r := H
         have A194 := Aside0.mk A1940
         clear A1940
         replace H := Option.bind_eq_some_iff.mp H
         obtain ⟨t351, A1950, H⟩ := H
         replace H : (if t350 = t351 then ((ladingref14_Same.f kj13 t254 t257 l0_0 l0_1).bind fun t352 => (some t352)) else (none)) = some r := H
         have A195 := Aside0.mk A1950
         clear A1950
         by_cases c196 : t350 = t351
         ·rw [if_pos c196] at H
          have c196b0 : (t350 == t351) = true := beq_iff_eq.mpr c196
          have c196b1 : (t350 != t351) = false := bne_eq_false_iff_eq.mpr c196
          clear c196
          replace H := Option.bind_eq_some_iff.mp H
          obtain ⟨t352, A1970, H⟩ := H
          replace H : (some t352) = some r := H
          have A197 := Aside0.mk A1970
          clear A1970
          obtain rfl := Option.some.inj H
          have hnb198 := NB260_253.out
          have hnc198 := NB253_260.out
          have hnb199 := NB260_268.out
          have hnc199 := NB268_260.out
          have hnb200 := NB260_276.out
          have hnc200 := NB276_260.out
          have hnb201 := NB260_285.out
          have hnc201 := NB285_260.out
          have hnb202 := NB260_294.out
          have hnc202 := NB294_260.out
          have hnb203 := NB260_303.out
          have hnc203 := NB303_260.out
          have hnb204 := NB260_312.out
          have hnc204 := NB312_260.out
          have hnb205 := NB260_320.out
          have hnc205 := NB320_260.out
          have hnb206 := NB260_328.out
          have hnc206 := NB328_260.out
          have hcz207_0 : wc.cell? ⟨gb260, 0, none⟩ = some (.slice Ao19 t254.length co19) := (blk_cell BK260.out 0).trans rfl
          have hcz207_1 : wc.cell? ⟨gb260, 1, none⟩ = some (.slice Ao22 t257.length co22) := (blk_cell BK260.out 1).trans rfl
          have hfz207_0 := blk_frozen BK260.out 0
          have hfz207_1 := blk_frozen BK260.out 1
          try go_wp2_with (first | ((with_reducible refine gate_callee (f := 10) rfl ?_); refine goesL_ (some 147) rfl rfl Try.func10 (by kernel_rfl) rfl #[.agg #[.slice Ao19 t254.length co19, .slice Ao22 t257.length co22], .int .i64 a1] rfl zl_ ?_; (with_reducible refine (ledger_Pay.calls _ _ t254 _ _ t257 a1 t333 t334 t335 t336 t337 _ ?side1 ?side2 ?side3 ?side4 A184.out).mono ?_); (case side1 => repeat (first | exact (Kd.R_reads' HO_261000.out).2.2 | (with_reducible refine Kd.C_alloc ?_ _) | (with_reducible refine Kd.C_drewN ?_ _) | (with_reducible refine Kd.C_drew ?_))); (case side2 => exact (Kd.R_reads' HO_261000.out).2.1); (case side3 => repeat (first | exact (Kd.R_reads' HO_261001.out).2.2 | (with_reducible refine Kd.C_alloc ?_ _) | (with_reducible refine Kd.C_drewN ?_ _) | (with_reducible refine Kd.C_drew ?_))); (case side4 => exact (Kd.R_reads' HO_261001.out).2.1); rintro e w208 ⟨rfl, hb⟩; refine ⟨_, rfl, ?_⟩; have n0_ := Aside0.mk (Kd.R_below (zR_ HO_261000.out) hb); have n1_ := Aside0.mk (Kd.R_below (zR_ HO_261001.out) hb); have n2_ := Aside0.mk (Kd.R_below (zR_ HO_269000.out) hb); have n3_ := Aside0.mk (Kd.R_below (zR_ HO_269001.out) hb); have n4_ := Aside0.mk (Kd.R_below (zR_ HO_277000.out) hb); have n5_ := Aside0.mk (Kd.R_below (zR_ HO_277001.out) hb); have n6_ := Aside0.mk (Kd.R_below (zR_ HO_286000.out) hb); have n7_ := Aside0.mk (Kd.R_below (zR_ HO_286001.out) hb); have n8_ := Aside0.mk (Kd.R_below (zR_ HO_295000.out) hb); have n9_ := Aside0.mk (Kd.R_below (zR_ HO_295001.out) hb); have n10_ := Aside0.mk (Kd.R_below (zR_ HO_304000.out) hb); have n11_ := Aside0.mk (Kd.R_below (zR_ HO_304001.out) hb); have n12_ := Aside0.mk (Kd.R_below (zR_ HO_313000.out) hb); have n13_ := Aside0.mk (Kd.R_below (zR_ HO_313001.out) hb); have n14_ := Aside0.mk (Kd.R_below (zR_ HO_321000.out) hb); have n15_ := Aside0.mk (Kd.R_below (zR_ HO_321001.out) hb); have n16_ := Aside0.mk (Kd.R_below (zR_ HO_329000.out) hb); have n17_ := Aside0.mk (Kd.R_below (zR_ HO_329001.out) hb); have n18_ := Aside0.mk (blk_below (g := gb253) (o := .cells #[.slice A0_0 l0_0.length c0_0, .slice A0_1 l0_1.length c0_1] 25 (0, 0)) (zb_ BK253.out) hb); have n19_ := Aside0.mk (blk_below (g := gb260) (o := .cells #[.slice Ao19 t254.length co19, .slice Ao22 t257.length co22] 25 (0, 0)) (zb_ BK260.out) hb); have n20_ := Aside0.mk (blk_below (g := gb268) (o := .cells #[.slice Ao25 t261.length co25, .slice Ao29 t264.length co29] 25 (0, 0)) (zb_ BK268.out) hb); have n21_ := Aside0.mk (blk_below (g := gb276) (o := .cells #[.slice Ao33 t269.length co33, .slice Ao38 t272.length co38] 25 (0, 0)) (zb_ BK276.out) hb); have n22_ := Aside0.mk (blk_below (g := gb285) (o := .cells #[.slice Ao42 t277.length co42, .slice Ao48 t280.length co48] 25 (0, 0)) (zb_ BK285.out) hb); have n23_ := Aside0.mk (blk_below (g := gb294) (o := .cells #[.slice Ao52 t286.length co52, .slice Ao59 t289.length co59] 25 (0, 0)) (zb_ BK294.out) hb); have n24_ := Aside0.mk (blk_below (g := gb303) (o := .cells #[.slice Ao63 t295.length co63, .slice Ao71 t298.length co71] 25 (0, 0)) (zb_ BK303.out) hb); have n25_ := Aside0.mk (blk_below (g := gb312) (o := .cells #[.slice Ao75 t304.length co75, .slice Ao84 t307.length co84] 25 (0, 0)) (zb_ BK312.out) hb); have n26_ := Aside0.mk (blk_below (g := gb320) (o := .cells #[.slice Ao88 t313.length co88, .slice Ao98 t316.length co98] 25 (0, 0)) (zb_ BK320.out) hb); have n27_ := Aside0.mk (blk_below (g := gb328) (o := .cells #[.slice Ao102 t321.length co102, .slice Ao113 t324.length co113] 25 (0, 0)) (zb_ BK328.out) hb); have n28_ := Aside0.mk (below_step (zh10_ HB.out GE253.out GE260.out GE268.out GE276.out GE285.out GE294.out GE303.out GE312.out GE320.out GE328.out) hb); clear HO_261000; clear HO_261001; clear HO_269000; clear HO_269001; clear HO_277000; clear HO_277001; clear HO_286000; clear HO_286001; clear HO_295000; clear HO_295001; clear HO_304000; clear HO_304001; clear HO_313000; clear HO_313001; clear HO_321000; clear HO_321001; clear HO_329000; clear HO_329001; clear BK253; clear BK260; clear BK268; clear BK276; clear BK285; clear BK294; clear BK303; clear BK312; clear BK320; clear BK328; clear HB; have HO_261000 := n0_; have HO_261001 := n1_; have HO_269000 := n2_; have HO_269001 := n3_; have HO_277000 := n4_; have HO_277001 := n5_; have HO_286000 := n6_; have HO_286001 := n7_; have HO_295000 := n8_; have HO_295001 := n9_; have HO_304000 := n10_; have HO_304001 := n11_; have HO_313000 := n12_; have HO_313001 := n13_; have HO_321000 := n14_; have HO_321001 := n15_; have HO_329000 := n16_; have HO_329001 := n17_; have BK253 := n18_; have BK260 := n19_; have BK268 := n20_; have BK276 := n21_; have BK285 := n22_; have BK294 := n23_; have BK303 := n24_; have BK312 := n25_; have BK320 := n26_; have BK328 := n27_; have HB := n28_; clear n0_ n1_ n2_ n3_ n4_ n5_ n6_ n7_ n8_ n9_ n10_ n11_ n12_ n13_ n14_ n15_ n16_ n17_ n18_ n19_ n20_ n21_ n22_ n23_ n24_ n25_ n26_ n27_ n28_; (try clear hb); (try clear hb2); (try clear hk); (try clear hi)) | ((with_reducible refine gate_dst (N := 30) rfl ?_); refine box_event ?hg (N := 30) ?hd (cs := #[.int .i64 0, .int .i64 0, .int .i64 0, .int .i64 0]) (t := 31) ?hr ?_; (case hd => rfl); (case hg => rfl); (case hr => first | (go_simp; done) | (go_simp; rfl)); intro gb338 hg w209 hbox hb; have n0_ := Aside0.mk (Kd.R_below (Kd.R_elderB (zR_ HO_261000.out) gb338 (Nat.le_of_eq hg.symm)) hb); have n1_ := Aside0.mk (Kd.R_below (zR_ HO_261001.out) hb); have n2_ := Aside0.mk (Kd.R_below (Kd.R_elderB (zR_ HO_269000.out) gb338 (Nat.le_of_eq hg.symm)) hb); have n3_ := Aside0.mk (Kd.R_below (zR_ HO_269001.out) hb); have n4_ := Aside0.mk (Kd.R_below (Kd.R_elderB (zR_ HO_277000.out) gb338 (Nat.le_of_eq hg.symm)) hb); have n5_ := Aside0.mk (Kd.R_below (zR_ HO_277001.out) hb); have n6_ := Aside0.mk (Kd.R_below (Kd.R_elderB (zR_ HO_286000.out) gb338 (Nat.le_of_eq hg.symm)) hb); have n7_ := Aside0.mk (Kd.R_below (zR_ HO_286001.out) hb); have n8_ := Aside0.mk (Kd.R_below (Kd.R_elderB (zR_ HO_295000.out) gb338 (Nat.le_of_eq hg.symm)) hb); have n9_ := Aside0.mk (Kd.R_below (zR_ HO_295001.out) hb); have n10_ := Aside0.mk (Kd.R_below (Kd.R_elderB (zR_ HO_304000.out) gb338 (Nat.le_of_eq hg.symm)) hb); have n11_ := Aside0.mk (Kd.R_below (zR_ HO_304001.out) hb); have n12_ := Aside0.mk (Kd.R_below (Kd.R_elderB (zR_ HO_313000.out) gb338 (Nat.le_of_eq hg.symm)) hb); have n13_ := Aside0.mk (Kd.R_below (zR_ HO_313001.out) hb); have n14_ := Aside0.mk (Kd.R_below (Kd.R_elderB (zR_ HO_321000.out) gb338 (Nat.le_of_eq hg.symm)) hb); have n15_ := Aside0.mk (Kd.R_below (zR_ HO_321001.out) hb); have n16_ := Aside0.mk (Kd.R_below (Kd.R_elderB (zR_ HO_329000.out) gb338 (Nat.le_of_eq hg.symm)) hb); have n17_ := Aside0.mk (Kd.R_below (zR_ HO_329001.out) hb); have n18_ := Aside0.mk (blk_below (g := gb253) (o := .cells #[.slice A0_0 l0_0.length c0_0, .slice A0_1 l0_1.length c0_1] 25 (0, 0)) (zb_ BK253.out) hb); have n19_ := Aside0.mk (blk_below (g := gb260) (o := .cells #[.slice Ao19 t254.length co19, .slice Ao22 t257.length co22] 25 (0, 0)) (zb_ BK260.out) hb); have n20_ := Aside0.mk (blk_below (g := gb268) (o := .cells #[.slice Ao25 t261.length co25, .slice Ao29 t264.length co29] 25 (0, 0)) (zb_ BK268.out) hb); have n21_ := Aside0.mk (blk_below (g := gb276) (o := .cells #[.slice Ao33 t269.length co33, .slice Ao38 t272.length co38] 25 (0, 0)) (zb_ BK276.out) hb); have n22_ := Aside0.mk (blk_below (g := gb285) (o := .cells #[.slice Ao42 t277.length co42, .slice Ao48 t280.length co48] 25 (0, 0)) (zb_ BK285.out) hb); have n23_ := Aside0.mk (blk_below (g := gb294) (o := .cells #[.slice Ao52 t286.length co52, .slice Ao59 t289.length co59] 25 (0, 0)) (zb_ BK294.out) hb); have n24_ := Aside0.mk (blk_below (g := gb303) (o := .cells #[.slice Ao63 t295.length co63, .slice Ao71 t298.length co71] 25 (0, 0)) (zb_ BK303.out) hb); have n25_ := Aside0.mk (blk_below (g := gb312) (o := .cells #[.slice Ao75 t304.length co75, .slice Ao84 t307.length co84] 25 (0, 0)) (zb_ BK312.out) hb); have n26_ := Aside0.mk (blk_below (g := gb320) (o := .cells #[.slice Ao88 t313.length co88, .slice Ao98 t316.length co98] 25 (0, 0)) (zb_ BK320.out) hb); have n27_ := Aside0.mk (blk_below (g := gb328) (o := .cells #[.slice Ao102 t321.length co102, .slice Ao113 t324.length co113] 25 (0, 0)) (zb_ BK328.out) hb); have n28_ := Aside0.mk (below_step (zh10_ HB.out GE253.out GE260.out GE268.out GE276.out GE285.out GE294.out GE303.out GE312.out GE320.out GE328.out) hb); have n29_ := Aside0.mk (hbox); have n30_ := Aside0.mk ((by rw [hg]; exact (below_size (zh10_ HB.out GE253.out GE260.out GE268.out GE276.out GE285.out GE294.out GE303.out GE312.out GE320.out GE328.out)) : w.heap.size ≤ gb338)); have n31_ := Aside0.mk ((by rw [hg]; exact (below_size (zh10_ HB.out GE253.out GE260.out GE268.out GE276.out GE285.out GE294.out GE303.out GE312.out GE320.out GE328.out)) : w.heap.size ≤ gb338)); have n32_ := Aside0.mk ((by rw [hg]; exact Nat.ne_of_lt (blk_lt (g := gb253) (o := .cells #[.slice A0_0 l0_0.length c0_0, .slice A0_1 l0_1.length c0_1] 25 (0, 0)) (zb_ BK253.out)) : gb253 ≠ gb338)); have n33_ := Aside0.mk ((by rw [hg]; exact Nat.ne_of_gt (blk_lt (g := gb253) (o := .cells #[.slice A0_0 l0_0.length c0_0, .slice A0_1 l0_1.length c0_1] 25 (0, 0)) (zb_ BK253.out)) : gb338 ≠ gb253)); have n34_ := Aside0.mk ((by rw [hg]; exact Nat.ne_of_lt (blk_lt (g := gb260) (o := .cells #[.slice Ao19 t254.length co19, .slice Ao22 t257.length co22] 25 (0, 0)) (zb_ BK260.out)) : gb260 ≠ gb338)); have n35_ := Aside0.mk ((by rw [hg]; exact Nat.ne_of_gt (blk_lt (g := gb260) (o := .cells #[.slice Ao19 t254.length co19, .slice Ao22 t257.length co22] 25 (0, 0)) (zb_ BK260.out)) : gb338 ≠ gb260)); have n36_ := Aside0.mk ((by rw [hg]; exact Nat.ne_of_lt (blk_lt (g := gb268) (o := .cells #[.slice Ao25 t261.length co25, .slice Ao29 t264.length co29] 25 (0, 0)) (zb_ BK268.out)) : gb268 ≠ gb338)); have n37_ := Aside0.mk ((by rw [hg]; exact Nat.ne_of_gt (blk_lt (g := gb268) (o := .cells #[.slice Ao25 t261.length co25, .slice Ao29 t264.length co29] 25 (0, 0)) (zb_ BK268.out)) : gb338 ≠ gb268)); have n38_ := Aside0.mk ((by rw [hg]; exact Nat.ne_of_lt (blk_lt (g := gb276) (o := .cells #[.slice Ao33 t269.length co33, .slice Ao38 t272.length co38] 25 (0, 0)) (zb_ BK276.out)) : gb276 ≠ gb338)); have n39_ := Aside0.mk ((by rw [hg]; exact Nat.ne_of_gt (blk_lt (g := gb276) (o := .cells #[.slice Ao33 t269.length co33, .slice Ao38 t272.length co38] 25 (0, 0)) (zb_ BK276.out)) : gb338 ≠ gb276)); have n40_ := Aside0.mk ((by rw [hg]; exact Nat.ne_of_lt (blk_lt (g := gb285) (o := .cells #[.slice Ao42 t277.length co42, .slice Ao48 t280.length co48] 25 (0, 0)) (zb_ BK285.out)) : gb285 ≠ gb338)); have n41_ := Aside0.mk ((by rw [hg]; exact Nat.ne_of_gt (blk_lt (g := gb285) (o := .cells #[.slice Ao42 t277.length co42, .slice Ao48 t280.length co48] 25 (0, 0)) (zb_ BK285.out)) : gb338 ≠ gb285)); have n42_ := Aside0.mk ((by rw [hg]; exact Nat.ne_of_lt (blk_lt (g := gb294) (o := .cells #[.slice Ao52 t286.length co52, .slice Ao59 t289.length co59] 25 (0, 0)) (zb_ BK294.out)) : gb294 ≠ gb338)); have n43_ := Aside0.mk ((by rw [hg]; exact Nat.ne_of_gt (blk_lt (g := gb294) (o := .cells #[.slice Ao52 t286.length co52, .slice Ao59 t289.length co59] 25 (0, 0)) (zb_ BK294.out)) : gb338 ≠ gb294)); have n44_ := Aside0.mk ((by rw [hg]; exact Nat.ne_of_lt (blk_lt (g := gb303) (o := .cells #[.slice Ao63 t295.length co63, .slice Ao71 t298.length co71] 25 (0, 0)) (zb_ BK303.out)) : gb303 ≠ gb338)); have n45_ := Aside0.mk ((by rw [hg]; exact Nat.ne_of_gt (blk_lt (g := gb303) (o := .cells #[.slice Ao63 t295.length co63, .slice Ao71 t298.length co71] 25 (0, 0)) (zb_ BK303.out)) : gb338 ≠ gb303)); have n46_ := Aside0.mk ((by rw [hg]; exact Nat.ne_of_lt (blk_lt (g := gb312) (o := .cells #[.slice Ao75 t304.length co75, .slice Ao84 t307.length co84] 25 (0, 0)) (zb_ BK312.out)) : gb312 ≠ gb338)); have n47_ := Aside0.mk ((by rw [hg]; exact Nat.ne_of_gt (blk_lt (g := gb312) (o := .cells #[.slice Ao75 t304.length co75, .slice Ao84 t307.length co84] 25 (0, 0)) (zb_ BK312.out)) : gb338 ≠ gb312)); have n48_ := Aside0.mk ((by rw [hg]; exact Nat.ne_of_lt (blk_lt (g := gb320) (o := .cells #[.slice Ao88 t313.length co88, .slice Ao98 t316.length co98] 25 (0, 0)) (zb_ BK320.out)) : gb320 ≠ gb338)); have n49_ := Aside0.mk ((by rw [hg]; exact Nat.ne_of_gt (blk_lt (g := gb320) (o := .cells #[.slice Ao88 t313.length co88, .slice Ao98 t316.length co98] 25 (0, 0)) (zb_ BK320.out)) : gb338 ≠ gb320)); have n50_ := Aside0.mk ((by rw [hg]; exact Nat.ne_of_lt (blk_lt (g := gb328) (o := .cells #[.slice Ao102 t321.length co102, .slice Ao113 t324.length co113] 25 (0, 0)) (zb_ BK328.out)) : gb328 ≠ gb338)); have n51_ := Aside0.mk ((by rw [hg]; exact Nat.ne_of_gt (blk_lt (g := gb328) (o := .cells #[.slice Ao102 t321.length co102, .slice Ao113 t324.length co113] 25 (0, 0)) (zb_ BK328.out)) : gb338 ≠ gb328)); clear HO_261000; clear HO_261001; clear HO_269000; clear HO_269001; clear HO_277000; clear HO_277001; clear HO_286000; clear HO_286001; clear HO_295000; clear HO_295001; clear HO_304000; clear HO_304001; clear HO_313000; clear HO_313001; clear HO_321000; clear HO_321001; clear HO_329000; clear HO_329001; clear BK253; clear BK260; clear BK268; clear BK276; clear BK285; clear BK294; clear BK303; clear BK312; clear BK320; clear BK328; clear HB; have HO_261000 := n0_; have HO_261001 := n1_; have HO_269000 := n2_; have HO_269001 := n3_; have HO_277000 := n4_; have HO_277001 := n5_; have HO_286000 := n6_; have HO_286001 := n7_; have HO_295000 := n8_; have HO_295001 := n9_; have HO_304000 := n10_; have HO_304001 := n11_; have HO_313000 := n12_; have HO_313001 := n13_; have HO_321000 := n14_; have HO_321001 := n15_; have HO_329000 := n16_; have HO_329001 := n17_; have BK253 := n18_; have BK260 := n19_; have BK268 := n20_; have BK276 := n21_; have BK285 := n22_; have BK294 := n23_; have BK303 := n24_; have BK312 := n25_; have BK320 := n26_; have BK328 := n27_; have HB := n28_; have BK338 := n29_; have GW338 := n30_; have GE338 := n31_; have NB253_338 := n32_; have NB338_253 := n33_; have NB260_338 := n34_; have NB338_260 := n35_; have NB268_338 := n36_; have NB338_268 := n37_; have NB276_338 := n38_; have NB338_276 := n39_; have NB285_338 := n40_; have NB338_285 := n41_; have NB294_338 := n42_; have NB338_294 := n43_; have NB303_338 := n44_; have NB338_303 := n45_; have NB312_338 := n46_; have NB338_312 := n47_; have NB320_338 := n48_; have NB338_320 := n49_; have NB328_338 := n50_; have NB338_328 := n51_; clear n0_ n1_ n2_ n3_ n4_ n5_ n6_ n7_ n8_ n9_ n10_ n11_ n12_ n13_ n14_ n15_ n16_ n17_ n18_ n19_ n20_ n21_ n22_ n23_ n24_ n25_ n26_ n27_ n28_ n29_ n30_ n31_ n32_ n33_ n34_ n35_ n36_ n37_ n38_ n39_ n40_ n41_ n42_ n43_ n44_ n45_ n46_ n47_ n48_ n49_ n50_ n51_; clear hb hbox hg; have hnb210 := NB338_253.out; have hnc210 := NB253_338.out; have hnb211 := NB338_260.out; have hnc211 := NB260_338.out; have hnb212 := NB338_268.out; have hnc212 := NB268_338.out; have hnb213 := NB338_276.out; have hnc213 := NB276_338.out; have hnb214 := NB338_285.out; have hnc214 := NB285_338.out; have hnb215 := NB338_294.out; have hnc215 := NB294_338.out; have hnb216 := NB338_303.out; have hnc216 := NB303_338.out; have hnb217 := NB338_312.out; have hnc217 := NB312_338.out; have hnb218 := NB338_320.out; have hnc218 := NB320_338.out; have hnb219 := NB338_328.out; have hnc219 := NB328_338.out; obtain ⟨hcz220_0, hcz220_1, hcz220_2, hcz220_3⟩ := zc4 BK338.out; obtain ⟨hfz220_0, hfz220_1, hfz220_2, hfz220_3⟩ := zz4 BK338.out; have hnb221 := NB253_268.out; have hnc221 := NB268_253.out; have hnb222 := NB253_276.out; have hnc222 := NB276_253.out; have hnb223 := NB253_285.out; have hnc223 := NB285_253.out; have hnb224 := NB253_294.out; have hnc224 := NB294_253.out; have hnb225 := NB253_303.out; have hnc225 := NB303_253.out; have hnb226 := NB253_312.out; have hnc226 := NB312_253.out; have hnb227 := NB253_320.out; have hnc227 := NB320_253.out; have hnb228 := NB253_328.out; have hnc228 := NB328_253.out; have hcz229_0 : w209.cell? ⟨gb253, 0, none⟩ = some (.slice A0_0 l0_0.length c0_0) := (blk_cell BK253.out 0).trans rfl; have hcz229_1 : w209.cell? ⟨gb253, 1, none⟩ = some (.slice A0_1 l0_1.length c0_1) := (blk_cell BK253.out 1).trans rfl; have hfz229_0 := blk_frozen BK253.out 0; have hfz229_1 := blk_frozen BK253.out 1) | ((with_reducible refine gate_callee (f := 21) rfl ?_); refine goesL_ (some 153) rfl rfl Try.func21 (by kernel_rfl) rfl #[.agg #[.slice A0_0 l0_0.length c0_0, .slice A0_1 l0_1.length c0_1], .int .i64 a1] rfl zl_ ?_; (with_reducible refine (ladingref14_Pay.calls kj13 _ _ l0_0 _ _ l0_1 a1 t339 t340 t341 t342 t343 _ ?side1 ?side2 ?side3 ?side4 A185.out).mono ?_); (case side1 => exact Kd.C_below HR0_0.out (zh11_ HB.out GE253.out GE260.out GE268.out GE276.out GE285.out GE294.out GE303.out GE312.out GE320.out GE328.out GE338.out)); (case side2 => exact HC0_0.out); (case side3 => exact Kd.C_below HR0_1.out (zh11_ HB.out GE253.out GE260.out GE268.out GE276.out GE285.out GE294.out GE303.out GE312.out GE320.out GE328.out GE338.out)); (case side4 => exact HC0_1.out); rintro e w230 ⟨rfl, hb⟩; refine ⟨_, rfl, ?_⟩; have n0_ := Aside0.mk (Kd.R_below (by (with_reducible repeat (first | apply Kd.R_alloc | apply Kd.R_drewN | apply Kd.R_drew)); exact (Kd.R_mono (Kd.R_far (p := ⟨gb338, 3, none⟩) (Kd.R_far (p := ⟨gb338, 2, none⟩) (Kd.R_far (p := ⟨gb338, 1, none⟩) (Kd.R_far (p := ⟨gb338, 0, none⟩) (Kd.R_mono HO_261000.out (fun k_ hk => (⟨hk, hk.2⟩ : _ ∧ k_ ≠ gb338))) (fun _ hk => hk.2) (.int .i64 t333)) (fun _ hk => hk.2) (.int .i64 t334)) (fun _ hk => hk.2) (.int .i64 t335)) (fun _ hk => hk.2) (.int .i64 t336)) (fun _ h_ => h_.1))) hb); have n1_ := Aside0.mk (Kd.R_below (zr4_ HO_261001.out BK338.out) hb); have n2_ := Aside0.mk (Kd.R_below (by (with_reducible repeat (first | apply Kd.R_alloc | apply Kd.R_drewN | apply Kd.R_drew)); exact (Kd.R_mono (Kd.R_far (p := ⟨gb338, 3, none⟩) (Kd.R_far (p := ⟨gb338, 2, none⟩) (Kd.R_far (p := ⟨gb338, 1, none⟩) (Kd.R_far (p := ⟨gb338, 0, none⟩) (Kd.R_mono HO_269000.out (fun k_ hk => (⟨hk, hk.2⟩ : _ ∧ k_ ≠ gb338))) (fun _ hk => hk.2) (.int .i64 t333)) (fun _ hk => hk.2) (.int .i64 t334)) (fun _ hk => hk.2) (.int .i64 t335)) (fun _ hk => hk.2) (.int .i64 t336)) (fun _ h_ => h_.1))) hb); have n3_ := Aside0.mk (Kd.R_below (zr4_ HO_269001.out BK338.out) hb); have n4_ := Aside0.mk (Kd.R_below (by (with_reducible repeat (first | apply Kd.R_alloc | apply Kd.R_drewN | apply Kd.R_drew)); exact (Kd.R_mono (Kd.R_far (p := ⟨gb338, 3, none⟩) (Kd.R_far (p := ⟨gb338, 2, none⟩) (Kd.R_far (p := ⟨gb338, 1, none⟩) (Kd.R_far (p := ⟨gb338, 0, none⟩) (Kd.R_mono HO_277000.out (fun k_ hk => (⟨hk, hk.2⟩ : _ ∧ k_ ≠ gb338))) (fun _ hk => hk.2) (.int .i64 t333)) (fun _ hk => hk.2) (.int .i64 t334)) (fun _ hk => hk.2) (.int .i64 t335)) (fun _ hk => hk.2) (.int .i64 t336)) (fun _ h_ => h_.1))) hb); have n5_ := Aside0.mk (Kd.R_below (zr4_ HO_277001.out BK338.out) hb); have n6_ := Aside0.mk (Kd.R_below (by (with_reducible repeat (first | apply Kd.R_alloc | apply Kd.R_drewN | apply Kd.R_drew)); exact (Kd.R_mono (Kd.R_far (p := ⟨gb338, 3, none⟩) (Kd.R_far (p := ⟨gb338, 2, none⟩) (Kd.R_far (p := ⟨gb338, 1, none⟩) (Kd.R_far (p := ⟨gb338, 0, none⟩) (Kd.R_mono HO_286000.out (fun k_ hk => (⟨hk, hk.2⟩ : _ ∧ k_ ≠ gb338))) (fun _ hk => hk.2) (.int .i64 t333)) (fun _ hk => hk.2) (.int .i64 t334)) (fun _ hk => hk.2) (.int .i64 t335)) (fun _ hk => hk.2) (.int .i64 t336)) (fun _ h_ => h_.1))) hb); have n7_ := Aside0.mk (Kd.R_below (zr4_ HO_286001.out BK338.out) hb); have n8_ := Aside0.mk (Kd.R_below (by (with_reducible repeat (first | apply Kd.R_alloc | apply Kd.R_drewN | apply Kd.R_drew)); exact (Kd.R_mono (Kd.R_far (p := ⟨gb338, 3, none⟩) (Kd.R_far (p := ⟨gb338, 2, none⟩) (Kd.R_far (p := ⟨gb338, 1, none⟩) (Kd.R_far (p := ⟨gb338, 0, none⟩) (Kd.R_mono HO_295000.out (fun k_ hk => (⟨hk, hk.2⟩ : _ ∧ k_ ≠ gb338))) (fun _ hk => hk.2) (.int .i64 t333)) (fun _ hk => hk.2) (.int .i64 t334)) (fun _ hk => hk.2) (.int .i64 t335)) (fun _ hk => hk.2) (.int .i64 t336)) (fun _ h_ => h_.1))) hb); have n9_ := Aside0.mk (Kd.R_below (zr4_ HO_295001.out BK338.out) hb); have n10_ := Aside0.mk (Kd.R_below (by (with_reducible repeat (first | apply Kd.R_alloc | apply Kd.R_drewN | apply Kd.R_drew)); exact (Kd.R_mono (Kd.R_far (p := ⟨gb338, 3, none⟩) (Kd.R_far (p := ⟨gb338, 2, none⟩) (Kd.R_far (p := ⟨gb338, 1, none⟩) (Kd.R_far (p := ⟨gb338, 0, none⟩) (Kd.R_mono HO_304000.out (fun k_ hk => (⟨hk, hk.2⟩ : _ ∧ k_ ≠ gb338))) (fun _ hk => hk.2) (.int .i64 t333)) (fun _ hk => hk.2) (.int .i64 t334)) (fun _ hk => hk.2) (.int .i64 t335)) (fun _ hk => hk.2) (.int .i64 t336)) (fun _ h_ => h_.1))) hb); have n11_ := Aside0.mk (Kd.R_below (zr4_ HO_304001.out BK338.out) hb); have n12_ := Aside0.mk (Kd.R_below (by (with_reducible repeat (first | apply Kd.R_alloc | apply Kd.R_drewN | apply Kd.R_drew)); exact (Kd.R_mono (Kd.R_far (p := ⟨gb338, 3, none⟩) (Kd.R_far (p := ⟨gb338, 2, none⟩) (Kd.R_far (p := ⟨gb338, 1, none⟩) (Kd.R_far (p := ⟨gb338, 0, none⟩) (Kd.R_mono HO_313000.out (fun k_ hk => (⟨hk, hk.2⟩ : _ ∧ k_ ≠ gb338))) (fun _ hk => hk.2) (.int .i64 t333)) (fun _ hk => hk.2) (.int .i64 t334)) (fun _ hk => hk.2) (.int .i64 t335)) (fun _ hk => hk.2) (.int .i64 t336)) (fun _ h_ => h_.1))) hb); have n13_ := Aside0.mk (Kd.R_below (zr4_ HO_313001.out BK338.out) hb); have n14_ := Aside0.mk (Kd.R_below (by (with_reducible repeat (first | apply Kd.R_alloc | apply Kd.R_drewN | apply Kd.R_drew)); exact (Kd.R_mono (Kd.R_far (p := ⟨gb338, 3, none⟩) (Kd.R_far (p := ⟨gb338, 2, none⟩) (Kd.R_far (p := ⟨gb338, 1, none⟩) (Kd.R_far (p := ⟨gb338, 0, none⟩) (Kd.R_mono HO_321000.out (fun k_ hk => (⟨hk, hk.2⟩ : _ ∧ k_ ≠ gb338))) (fun _ hk => hk.2) (.int .i64 t333)) (fun _ hk => hk.2) (.int .i64 t334)) (fun _ hk => hk.2) (.int .i64 t335)) (fun _ hk => hk.2) (.int .i64 t336)) (fun _ h_ => h_.1))) hb); have n15_ := Aside0.mk (Kd.R_below (zr4_ HO_321001.out BK338.out) hb); have n16_ := Aside0.mk (Kd.R_below (by (with_reducible repeat (first | apply Kd.R_alloc | apply Kd.R_drewN | apply Kd.R_drew)); exact (Kd.R_mono (Kd.R_far (p := ⟨gb338, 3, none⟩) (Kd.R_far (p := ⟨gb338, 2, none⟩) (Kd.R_far (p := ⟨gb338, 1, none⟩) (Kd.R_far (p := ⟨gb338, 0, none⟩) (Kd.R_mono HO_329000.out (fun k_ hk => (⟨hk, hk.2⟩ : _ ∧ k_ ≠ gb338))) (fun _ hk => hk.2) (.int .i64 t333)) (fun _ hk => hk.2) (.int .i64 t334)) (fun _ hk => hk.2) (.int .i64 t335)) (fun _ hk => hk.2) (.int .i64 t336)) (fun _ h_ => h_.1))) hb); have n17_ := Aside0.mk (Kd.R_below (zr4_ HO_329001.out BK338.out) hb); have n18_ := Aside0.mk (blk_below (g := gb253) (o := .cells #[.slice A0_0 l0_0.length c0_0, .slice A0_1 l0_1.length c0_1] 25 (0, 0)) (zf_ NB253_338.out BK253.out) hb); have n19_ := Aside0.mk (blk_below (g := gb260) (o := .cells #[.slice Ao19 t254.length co19, .slice Ao22 t257.length co22] 25 (0, 0)) (zf_ NB260_338.out BK260.out) hb); have n20_ := Aside0.mk (blk_below (g := gb268) (o := .cells #[.slice Ao25 t261.length co25, .slice Ao29 t264.length co29] 25 (0, 0)) (zf_ NB268_338.out BK268.out) hb); have n21_ := Aside0.mk (blk_below (g := gb276) (o := .cells #[.slice Ao33 t269.length co33, .slice Ao38 t272.length co38] 25 (0, 0)) (zf_ NB276_338.out BK276.out) hb); have n22_ := Aside0.mk (blk_below (g := gb285) (o := .cells #[.slice Ao42 t277.length co42, .slice Ao48 t280.length co48] 25 (0, 0)) (zf_ NB285_338.out BK285.out) hb); have n23_ := Aside0.mk (blk_below (g := gb294) (o := .cells #[.slice Ao52 t286.length co52, .slice Ao59 t289.length co59] 25 (0, 0)) (zf_ NB294_338.out BK294.out) hb); have n24_ := Aside0.mk (blk_below (g := gb303) (o := .cells #[.slice Ao63 t295.length co63, .slice Ao71 t298.length co71] 25 (0, 0)) (zf_ NB303_338.out BK303.out) hb); have n25_ := Aside0.mk (blk_below (g := gb312) (o := .cells #[.slice Ao75 t304.length co75, .slice Ao84 t307.length co84] 25 (0, 0)) (zf_ NB312_338.out BK312.out) hb); have n26_ := Aside0.mk (blk_below (g := gb320) (o := .cells #[.slice Ao88 t313.length co88, .slice Ao98 t316.length co98] 25 (0, 0)) (zf_ NB320_338.out BK320.out) hb); have n27_ := Aside0.mk (blk_below (g := gb328) (o := .cells #[.slice Ao102 t321.length co102, .slice Ao113 t324.length co113] 25 (0, 0)) (zf_ NB328_338.out BK328.out) hb); have n28_ := Aside0.mk (blk_below (g := gb338) (o := .cells #[.int .i64 t333, .int .i64 t334, .int .i64 t335, .int .i64 t336] 31 (0, 0)) (zp_ BK338.out) hb); have n29_ := Aside0.mk (below_step (zh11_ HB.out GE253.out GE260.out GE268.out GE276.out GE285.out GE294.out GE303.out GE312.out GE320.out GE328.out GE338.out) hb); clear HO_261000; clear HO_261001; clear HO_269000; clear HO_269001; clear HO_277000; clear HO_277001; clear HO_286000; clear HO_286001; clear HO_295000; clear HO_295001; clear HO_304000; clear HO_304001; clear HO_313000; clear HO_313001; clear HO_321000; clear HO_321001; clear HO_329000; clear HO_329001; clear BK253; clear BK260; clear BK268; clear BK276; clear BK285; clear BK294; clear BK303; clear BK312; clear BK320; clear BK328; clear BK338; clear HB; have HO_261000 := n0_; have HO_261001 := n1_; have HO_269000 := n2_; have HO_269001 := n3_; have HO_277000 := n4_; have HO_277001 := n5_; have HO_286000 := n6_; have HO_286001 := n7_; have HO_295000 := n8_; have HO_295001 := n9_; have HO_304000 := n10_; have HO_304001 := n11_; have HO_313000 := n12_; have HO_313001 := n13_; have HO_321000 := n14_; have HO_321001 := n15_; have HO_329000 := n16_; have HO_329001 := n17_; have BK253 := n18_; have BK260 := n19_; have BK268 := n20_; have BK276 := n21_; have BK285 := n22_; have BK294 := n23_; have BK303 := n24_; have BK312 := n25_; have BK320 := n26_; have BK328 := n27_; have BK338 := n28_; have HB := n29_; clear n0_ n1_ n2_ n3_ n4_ n5_ n6_ n7_ n8_ n9_ n10_ n11_ n12_ n13_ n14_ n15_ n16_ n17_ n18_ n19_ n20_ n21_ n22_ n23_ n24_ n25_ n26_ n27_ n28_ n29_; (try clear hb); (try clear hb2); (try clear hk); (try clear hi)) | ((with_reducible refine gate_dst (N := 31) rfl ?_); refine box_event ?hg (N := 31) ?hd (cs := #[.int .i64 0, .int .i64 0, .int .i64 0, .int .i64 0]) (t := 31) ?hr ?_; (case hd => rfl); (case hg => rfl); (case hr => first | (go_simp; done) | (go_simp; rfl)); intro gb344 hg w231 hbox hb; have n0_ := Aside0.mk (Kd.R_below (Kd.R_elderB (zR_ HO_261000.out) gb344 (Nat.le_of_eq hg.symm)) hb); have n1_ := Aside0.mk (Kd.R_below (zR_ HO_261001.out) hb); have n2_ := Aside0.mk (Kd.R_below (Kd.R_elderB (zR_ HO_269000.out) gb344 (Nat.le_of_eq hg.symm)) hb); have n3_ := Aside0.mk (Kd.R_below (zR_ HO_269001.out) hb); have n4_ := Aside0.mk (Kd.R_below (Kd.R_elderB (zR_ HO_277000.out) gb344 (Nat.le_of_eq hg.symm)) hb); have n5_ := Aside0.mk (Kd.R_below (zR_ HO_277001.out) hb); have n6_ := Aside0.mk (Kd.R_below (Kd.R_elderB (zR_ HO_286000.out) gb344 (Nat.le_of_eq hg.symm)) hb); have n7_ := Aside0.mk (Kd.R_below (zR_ HO_286001.out) hb); have n8_ := Aside0.mk (Kd.R_below (Kd.R_elderB (zR_ HO_295000.out) gb344 (Nat.le_of_eq hg.symm)) hb); have n9_ := Aside0.mk (Kd.R_below (zR_ HO_295001.out) hb); have n10_ := Aside0.mk (Kd.R_below (Kd.R_elderB (zR_ HO_304000.out) gb344 (Nat.le_of_eq hg.symm)) hb); have n11_ := Aside0.mk (Kd.R_below (zR_ HO_304001.out) hb); have n12_ := Aside0.mk (Kd.R_below (Kd.R_elderB (zR_ HO_313000.out) gb344 (Nat.le_of_eq hg.symm)) hb); have n13_ := Aside0.mk (Kd.R_below (zR_ HO_313001.out) hb); have n14_ := Aside0.mk (Kd.R_below (Kd.R_elderB (zR_ HO_321000.out) gb344 (Nat.le_of_eq hg.symm)) hb); have n15_ := Aside0.mk (Kd.R_below (zR_ HO_321001.out) hb); have n16_ := Aside0.mk (Kd.R_below (Kd.R_elderB (zR_ HO_329000.out) gb344 (Nat.le_of_eq hg.symm)) hb); have n17_ := Aside0.mk (Kd.R_below (zR_ HO_329001.out) hb); have n18_ := Aside0.mk (blk_below (g := gb253) (o := .cells #[.slice A0_0 l0_0.length c0_0, .slice A0_1 l0_1.length c0_1] 25 (0, 0)) (zb_ BK253.out) hb); have n19_ := Aside0.mk (blk_below (g := gb260) (o := .cells #[.slice Ao19 t254.length co19, .slice Ao22 t257.length co22] 25 (0, 0)) (zb_ BK260.out) hb); have n20_ := Aside0.mk (blk_below (g := gb268) (o := .cells #[.slice Ao25 t261.length co25, .slice Ao29 t264.length co29] 25 (0, 0)) (zb_ BK268.out) hb); have n21_ := Aside0.mk (blk_below (g := gb276) (o := .cells #[.slice Ao33 t269.length co33, .slice Ao38 t272.length co38] 25 (0, 0)) (zb_ BK276.out) hb); have n22_ := Aside0.mk (blk_below (g := gb285) (o := .cells #[.slice Ao42 t277.length co42, .slice Ao48 t280.length co48] 25 (0, 0)) (zb_ BK285.out) hb); have n23_ := Aside0.mk (blk_below (g := gb294) (o := .cells #[.slice Ao52 t286.length co52, .slice Ao59 t289.length co59] 25 (0, 0)) (zb_ BK294.out) hb); have n24_ := Aside0.mk (blk_below (g := gb303) (o := .cells #[.slice Ao63 t295.length co63, .slice Ao71 t298.length co71] 25 (0, 0)) (zb_ BK303.out) hb); have n25_ := Aside0.mk (blk_below (g := gb312) (o := .cells #[.slice Ao75 t304.length co75, .slice Ao84 t307.length co84] 25 (0, 0)) (zb_ BK312.out) hb); have n26_ := Aside0.mk (blk_below (g := gb320) (o := .cells #[.slice Ao88 t313.length co88, .slice Ao98 t316.length co98] 25 (0, 0)) (zb_ BK320.out) hb); have n27_ := Aside0.mk (blk_below (g := gb328) (o := .cells #[.slice Ao102 t321.length co102, .slice Ao113 t324.length co113] 25 (0, 0)) (zb_ BK328.out) hb); have n28_ := Aside0.mk (blk_below (g := gb338) (o := .cells #[.int .i64 t333, .int .i64 t334, .int .i64 t335, .int .i64 t336] 31 (0, 0)) (zb_ BK338.out) hb); have n29_ := Aside0.mk (below_step (zh11_ HB.out GE253.out GE260.out GE268.out GE276.out GE285.out GE294.out GE303.out GE312.out GE320.out GE328.out GE338.out) hb); have n30_ := Aside0.mk (hbox); have n31_ := Aside0.mk ((by rw [hg]; exact (below_size (zh11_ HB.out GE253.out GE260.out GE268.out GE276.out GE285.out GE294.out GE303.out GE312.out GE320.out GE328.out GE338.out)) : w.heap.size ≤ gb344)); have n32_ := Aside0.mk ((by rw [hg]; exact (below_size (zh11_ HB.out GE253.out GE260.out GE268.out GE276.out GE285.out GE294.out GE303.out GE312.out GE320.out GE328.out GE338.out)) : w.heap.size ≤ gb344)); have n33_ := Aside0.mk ((by rw [hg]; exact Nat.ne_of_lt (blk_lt (g := gb253) (o := .cells #[.slice A0_0 l0_0.length c0_0, .slice A0_1 l0_1.length c0_1] 25 (0, 0)) (zb_ BK253.out)) : gb253 ≠ gb344)); have n34_ := Aside0.mk ((by rw [hg]; exact Nat.ne_of_gt (blk_lt (g := gb253) (o := .cells #[.slice A0_0 l0_0.length c0_0, .slice A0_1 l0_1.length c0_1] 25 (0, 0)) (zb_ BK253.out)) : gb344 ≠ gb253)); have n35_ := Aside0.mk ((by rw [hg]; exact Nat.ne_of_lt (blk_lt (g := gb260) (o := .cells #[.slice Ao19 t254.length co19, .slice Ao22 t257.length co22] 25 (0, 0)) (zb_ BK260.out)) : gb260 ≠ gb344)); have n36_ := Aside0.mk ((by rw [hg]; exact Nat.ne_of_gt (blk_lt (g := gb260) (o := .cells #[.slice Ao19 t254.length co19, .slice Ao22 t257.length co22] 25 (0, 0)) (zb_ BK260.out)) : gb344 ≠ gb260)); have n37_ := Aside0.mk ((by rw [hg]; exact Nat.ne_of_lt (blk_lt (g := gb268) (o := .cells #[.slice Ao25 t261.length co25, .slice Ao29 t264.length co29] 25 (0, 0)) (zb_ BK268.out)) : gb268 ≠ gb344)); have n38_ := Aside0.mk ((by rw [hg]; exact Nat.ne_of_gt (blk_lt (g := gb268) (o := .cells #[.slice Ao25 t261.length co25, .slice Ao29 t264.length co29] 25 (0, 0)) (zb_ BK268.out)) : gb344 ≠ gb268)); have n39_ := Aside0.mk ((by rw [hg]; exact Nat.ne_of_lt (blk_lt (g := gb276) (o := .cells #[.slice Ao33 t269.length co33, .slice Ao38 t272.length co38] 25 (0, 0)) (zb_ BK276.out)) : gb276 ≠ gb344)); have n40_ := Aside0.mk ((by rw [hg]; exact Nat.ne_of_gt (blk_lt (g := gb276) (o := .cells #[.slice Ao33 t269.length co33, .slice Ao38 t272.length co38] 25 (0, 0)) (zb_ BK276.out)) : gb344 ≠ gb276)); have n41_ := Aside0.mk ((by rw [hg]; exact Nat.ne_of_lt (blk_lt (g := gb285) (o := .cells #[.slice Ao42 t277.length co42, .slice Ao48 t280.length co48] 25 (0, 0)) (zb_ BK285.out)) : gb285 ≠ gb344)); have n42_ := Aside0.mk ((by rw [hg]; exact Nat.ne_of_gt (blk_lt (g := gb285) (o := .cells #[.slice Ao42 t277.length co42, .slice Ao48 t280.length co48] 25 (0, 0)) (zb_ BK285.out)) : gb344 ≠ gb285)); have n43_ := Aside0.mk ((by rw [hg]; exact Nat.ne_of_lt (blk_lt (g := gb294) (o := .cells #[.slice Ao52 t286.length co52, .slice Ao59 t289.length co59] 25 (0, 0)) (zb_ BK294.out)) : gb294 ≠ gb344)); have n44_ := Aside0.mk ((by rw [hg]; exact Nat.ne_of_gt (blk_lt (g := gb294) (o := .cells #[.slice Ao52 t286.length co52, .slice Ao59 t289.length co59] 25 (0, 0)) (zb_ BK294.out)) : gb344 ≠ gb294)); have n45_ := Aside0.mk ((by rw [hg]; exact Nat.ne_of_lt (blk_lt (g := gb303) (o := .cells #[.slice Ao63 t295.length co63, .slice Ao71 t298.length co71] 25 (0, 0)) (zb_ BK303.out)) : gb303 ≠ gb344)); have n46_ := Aside0.mk ((by rw [hg]; exact Nat.ne_of_gt (blk_lt (g := gb303) (o := .cells #[.slice Ao63 t295.length co63, .slice Ao71 t298.length co71] 25 (0, 0)) (zb_ BK303.out)) : gb344 ≠ gb303)); have n47_ := Aside0.mk ((by rw [hg]; exact Nat.ne_of_lt (blk_lt (g := gb312) (o := .cells #[.slice Ao75 t304.length co75, .slice Ao84 t307.length co84] 25 (0, 0)) (zb_ BK312.out)) : gb312 ≠ gb344)); have n48_ := Aside0.mk ((by rw [hg]; exact Nat.ne_of_gt (blk_lt (g := gb312) (o := .cells #[.slice Ao75 t304.length co75, .slice Ao84 t307.length co84] 25 (0, 0)) (zb_ BK312.out)) : gb344 ≠ gb312)); have n49_ := Aside0.mk ((by rw [hg]; exact Nat.ne_of_lt (blk_lt (g := gb320) (o := .cells #[.slice Ao88 t313.length co88, .slice Ao98 t316.length co98] 25 (0, 0)) (zb_ BK320.out)) : gb320 ≠ gb344)); have n50_ := Aside0.mk ((by rw [hg]; exact Nat.ne_of_gt (blk_lt (g := gb320) (o := .cells #[.slice Ao88 t313.length co88, .slice Ao98 t316.length co98] 25 (0, 0)) (zb_ BK320.out)) : gb344 ≠ gb320)); have n51_ := Aside0.mk ((by rw [hg]; exact Nat.ne_of_lt (blk_lt (g := gb328) (o := .cells #[.slice Ao102 t321.length co102, .slice Ao113 t324.length co113] 25 (0, 0)) (zb_ BK328.out)) : gb328 ≠ gb344)); have n52_ := Aside0.mk ((by rw [hg]; exact Nat.ne_of_gt (blk_lt (g := gb328) (o := .cells #[.slice Ao102 t321.length co102, .slice Ao113 t324.length co113] 25 (0, 0)) (zb_ BK328.out)) : gb344 ≠ gb328)); have n53_ := Aside0.mk ((by rw [hg]; exact Nat.ne_of_lt (blk_lt (g := gb338) (o := .cells #[.int .i64 t333, .int .i64 t334, .int .i64 t335, .int .i64 t336] 31 (0, 0)) (zb_ BK338.out)) : gb338 ≠ gb344)); have n54_ := Aside0.mk ((by rw [hg]; exact Nat.ne_of_gt (blk_lt (g := gb338) (o := .cells #[.int .i64 t333, .int .i64 t334, .int .i64 t335, .int .i64 t336] 31 (0, 0)) (zb_ BK338.out)) : gb344 ≠ gb338)); clear HO_261000; clear HO_261001; clear HO_269000; clear HO_269001; clear HO_277000; clear HO_277001; clear HO_286000; clear HO_286001; clear HO_295000; clear HO_295001; clear HO_304000; clear HO_304001; clear HO_313000; clear HO_313001; clear HO_321000; clear HO_321001; clear HO_329000; clear HO_329001; clear BK253; clear BK260; clear BK268; clear BK276; clear BK285; clear BK294; clear BK303; clear BK312; clear BK320; clear BK328; clear BK338; clear HB; have HO_261000 := n0_; have HO_261001 := n1_; have HO_269000 := n2_; have HO_269001 := n3_; have HO_277000 := n4_; have HO_277001 := n5_; have HO_286000 := n6_; have HO_286001 := n7_; have HO_295000 := n8_; have HO_295001 := n9_; have HO_304000 := n10_; have HO_304001 := n11_; have HO_313000 := n12_; have HO_313001 := n13_; have HO_321000 := n14_; have HO_321001 := n15_; have HO_329000 := n16_; have HO_329001 := n17_; have BK253 := n18_; have BK260 := n19_; have BK268 := n20_; have BK276 := n21_; have BK285 := n22_; have BK294 := n23_; have BK303 := n24_; have BK312 := n25_; have BK320 := n26_; have BK328 := n27_; have BK338 := n28_; have HB := n29_; have BK344 := n30_; have GW344 := n31_; have GE344 := n32_; have NB253_344 := n33_; have NB344_253 := n34_; have NB260_344 := n35_; have NB344_260 := n36_; have NB268_344 := n37_; have NB344_268 := n38_; have NB276_344 := n39_; have NB344_276 := n40_; have NB285_344 := n41_; have NB344_285 := n42_; have NB294_344 := n43_; have NB344_294 := n44_; have NB303_344 := n45_; have NB344_303 := n46_; have NB312_344 := n47_; have NB344_312 := n48_; have NB320_344 := n49_; have NB344_320 := n50_; have NB328_344 := n51_; have NB344_328 := n52_; have NB338_344 := n53_; have NB344_338 := n54_; clear n0_ n1_ n2_ n3_ n4_ n5_ n6_ n7_ n8_ n9_ n10_ n11_ n12_ n13_ n14_ n15_ n16_ n17_ n18_ n19_ n20_ n21_ n22_ n23_ n24_ n25_ n26_ n27_ n28_ n29_ n30_ n31_ n32_ n33_ n34_ n35_ n36_ n37_ n38_ n39_ n40_ n41_ n42_ n43_ n44_ n45_ n46_ n47_ n48_ n49_ n50_ n51_ n52_ n53_ n54_; clear hb hbox hg; have hnb232 := NB344_253.out; have hnc232 := NB253_344.out; have hnb233 := NB344_260.out; have hnc233 := NB260_344.out; have hnb234 := NB344_268.out; have hnc234 := NB268_344.out; have hnb235 := NB344_276.out; have hnc235 := NB276_344.out; have hnb236 := NB344_285.out; have hnc236 := NB285_344.out; have hnb237 := NB344_294.out; have hnc237 := NB294_344.out; have hnb238 := NB344_303.out; have hnc238 := NB303_344.out; have hnb239 := NB344_312.out; have hnc239 := NB312_344.out; have hnb240 := NB344_320.out; have hnc240 := NB320_344.out; have hnb241 := NB344_328.out; have hnc241 := NB328_344.out; have hnb242 := NB344_338.out; have hnc242 := NB338_344.out; obtain ⟨hcz243_0, hcz243_1, hcz243_2, hcz243_3⟩ := zc4 BK344.out; obtain ⟨hfz243_0, hfz243_1, hfz243_2, hfz243_3⟩ := zz4 BK344.out; have hcz244_0 : w231.cell? ⟨gb260, 0, none⟩ = some (.slice Ao19 t254.length co19) := (blk_cell BK260.out 0).trans rfl; have hcz244_1 : w231.cell? ⟨gb260, 1, none⟩ = some (.slice Ao22 t257.length co22) := (blk_cell BK260.out 1).trans rfl; have hfz244_0 := blk_frozen BK260.out 0; have hfz244_1 := blk_frozen BK260.out 1) | ((with_reducible refine gate_callee (f := 11) rfl ?_); refine goesL_ (some 159) rfl rfl Try.func11 (by kernel_rfl) rfl #[.agg #[.slice Ao19 t254.length co19, .slice Ao22 t257.length co22], .int .u8 a3] rfl zl_ ?_; (with_reducible refine (ledger_Balance.calls kj13 _ _ t254 _ _ t257 a3 t345 t346 _ ?side1 ?side2 ?side3 ?side4 A186.out).mono ?_); (case side1 => refine (Kd.R_reads' (e := 31) (base := w.heap.size) (ok := fun k_ => (((some k_ ≠ (.slice Ao25 t261.length co25 : Value).ownBlock ∧ (some k_ ≠ (.slice Ao33 t269.length co33 : Value).ownBlock ∧ (some k_ ≠ (.slice Ao42 t277.length co42 : Value).ownBlock ∧ (some k_ ≠ (.slice Ao52 t286.length co52 : Value).ownBlock ∧ (some k_ ≠ (.slice Ao63 t295.length co63 : Value).ownBlock ∧ (some k_ ≠ (.slice Ao75 t304.length co75 : Value).ownBlock ∧ (some k_ ≠ (.slice Ao88 t313.length co88 : Value).ownBlock ∧ some k_ ≠ (.slice Ao102 t321.length co102 : Value).ownBlock))))))) ∧ k_ ≠ gb338) ∧ k_ ≠ gb344)) (n := t254.length) (c := co19) ?_).2.2; exact (by (with_reducible repeat (first | apply Kd.R_alloc | apply Kd.R_drewN | apply Kd.R_drew)); exact (Kd.R_mono (Kd.R_far (p := ⟨gb344, 3, none⟩) (Kd.R_far (p := ⟨gb344, 2, none⟩) (Kd.R_far (p := ⟨gb344, 1, none⟩) (Kd.R_far (p := ⟨gb344, 0, none⟩) (Kd.R_mono HO_261000.out (fun k_ hk => (⟨hk, hk.2⟩ : _ ∧ k_ ≠ gb344))) (fun _ hk => hk.2) (.int .i64 t339)) (fun _ hk => hk.2) (.int .i64 t340)) (fun _ hk => hk.2) (.int .i64 t341)) (fun _ hk => hk.2) (.int .i64 t342)) (fun _ h_ => h_.1)))); (case side2 => exact (Kd.R_reads' HO_261000.out).2.1); (case side3 => refine (Kd.R_reads' (e := 55) (base := w.heap.size) (ok := fun k_ => (some k_ ≠ (.slice Ao29 t264.length co29 : Value).ownBlock ∧ (some k_ ≠ (.slice Ao38 t272.length co38 : Value).ownBlock ∧ (some k_ ≠ (.slice Ao48 t280.length co48 : Value).ownBlock ∧ (some k_ ≠ (.slice Ao59 t289.length co59 : Value).ownBlock ∧ (some k_ ≠ (.slice Ao71 t298.length co71 : Value).ownBlock ∧ (some k_ ≠ (.slice Ao84 t307.length co84 : Value).ownBlock ∧ (some k_ ≠ (.slice Ao98 t316.length co98 : Value).ownBlock ∧ some k_ ≠ (.slice Ao113 t324.length co113 : Value).ownBlock)))))))) (n := t257.length) (c := co22) ?_).2.2; exact (zr4_ HO_261001.out BK344.out)); (case side4 => exact (Kd.R_reads' HO_261001.out).2.1); rintro e w245 ⟨rfl, hb⟩; refine ⟨_, rfl, ?_⟩; have n0_ := Aside0.mk (Kd.R_below (by (with_reducible repeat (first | apply Kd.R_alloc | apply Kd.R_drewN | apply Kd.R_drew)); exact (Kd.R_mono (Kd.R_far (p := ⟨gb344, 3, none⟩) (Kd.R_far (p := ⟨gb344, 2, none⟩) (Kd.R_far (p := ⟨gb344, 1, none⟩) (Kd.R_far (p := ⟨gb344, 0, none⟩) (Kd.R_mono HO_261000.out (fun k_ hk => (⟨hk, hk.2⟩ : _ ∧ k_ ≠ gb344))) (fun _ hk => hk.2) (.int .i64 t339)) (fun _ hk => hk.2) (.int .i64 t340)) (fun _ hk => hk.2) (.int .i64 t341)) (fun _ hk => hk.2) (.int .i64 t342)) (fun _ h_ => h_.1))) hb); have n1_ := Aside0.mk (Kd.R_below (zr4_ HO_261001.out BK344.out) hb); have n2_ := Aside0.mk (Kd.R_below (by (with_reducible repeat (first | apply Kd.R_alloc | apply Kd.R_drewN | apply Kd.R_drew)); exact (Kd.R_mono (Kd.R_far (p := ⟨gb344, 3, none⟩) (Kd.R_far (p := ⟨gb344, 2, none⟩) (Kd.R_far (p := ⟨gb344, 1, none⟩) (Kd.R_far (p := ⟨gb344, 0, none⟩) (Kd.R_mono HO_269000.out (fun k_ hk => (⟨hk, hk.2⟩ : _ ∧ k_ ≠ gb344))) (fun _ hk => hk.2) (.int .i64 t339)) (fun _ hk => hk.2) (.int .i64 t340)) (fun _ hk => hk.2) (.int .i64 t341)) (fun _ hk => hk.2) (.int .i64 t342)) (fun _ h_ => h_.1))) hb); have n3_ := Aside0.mk (Kd.R_below (zr4_ HO_269001.out BK344.out) hb); have n4_ := Aside0.mk (Kd.R_below (by (with_reducible repeat (first | apply Kd.R_alloc | apply Kd.R_drewN | apply Kd.R_drew)); exact (Kd.R_mono (Kd.R_far (p := ⟨gb344, 3, none⟩) (Kd.R_far (p := ⟨gb344, 2, none⟩) (Kd.R_far (p := ⟨gb344, 1, none⟩) (Kd.R_far (p := ⟨gb344, 0, none⟩) (Kd.R_mono HO_277000.out (fun k_ hk => (⟨hk, hk.2⟩ : _ ∧ k_ ≠ gb344))) (fun _ hk => hk.2) (.int .i64 t339)) (fun _ hk => hk.2) (.int .i64 t340)) (fun _ hk => hk.2) (.int .i64 t341)) (fun _ hk => hk.2) (.int .i64 t342)) (fun _ h_ => h_.1))) hb); have n5_ := Aside0.mk (Kd.R_below (zr4_ HO_277001.out BK344.out) hb); have n6_ := Aside0.mk (Kd.R_below (by (with_reducible repeat (first | apply Kd.R_alloc | apply Kd.R_drewN | apply Kd.R_drew)); exact (Kd.R_mono (Kd.R_far (p := ⟨gb344, 3, none⟩) (Kd.R_far (p := ⟨gb344, 2, none⟩) (Kd.R_far (p := ⟨gb344, 1, none⟩) (Kd.R_far (p := ⟨gb344, 0, none⟩) (Kd.R_mono HO_286000.out (fun k_ hk => (⟨hk, hk.2⟩ : _ ∧ k_ ≠ gb344))) (fun _ hk => hk.2) (.int .i64 t339)) (fun _ hk => hk.2) (.int .i64 t340)) (fun _ hk => hk.2) (.int .i64 t341)) (fun _ hk => hk.2) (.int .i64 t342)) (fun _ h_ => h_.1))) hb); have n7_ := Aside0.mk (Kd.R_below (zr4_ HO_286001.out BK344.out) hb); have n8_ := Aside0.mk (Kd.R_below (by (with_reducible repeat (first | apply Kd.R_alloc | apply Kd.R_drewN | apply Kd.R_drew)); exact (Kd.R_mono (Kd.R_far (p := ⟨gb344, 3, none⟩) (Kd.R_far (p := ⟨gb344, 2, none⟩) (Kd.R_far (p := ⟨gb344, 1, none⟩) (Kd.R_far (p := ⟨gb344, 0, none⟩) (Kd.R_mono HO_295000.out (fun k_ hk => (⟨hk, hk.2⟩ : _ ∧ k_ ≠ gb344))) (fun _ hk => hk.2) (.int .i64 t339)) (fun _ hk => hk.2) (.int .i64 t340)) (fun _ hk => hk.2) (.int .i64 t341)) (fun _ hk => hk.2) (.int .i64 t342)) (fun _ h_ => h_.1))) hb); have n9_ := Aside0.mk (Kd.R_below (zr4_ HO_295001.out BK344.out) hb); have n10_ := Aside0.mk (Kd.R_below (by (with_reducible repeat (first | apply Kd.R_alloc | apply Kd.R_drewN | apply Kd.R_drew)); exact (Kd.R_mono (Kd.R_far (p := ⟨gb344, 3, none⟩) (Kd.R_far (p := ⟨gb344, 2, none⟩) (Kd.R_far (p := ⟨gb344, 1, none⟩) (Kd.R_far (p := ⟨gb344, 0, none⟩) (Kd.R_mono HO_304000.out (fun k_ hk => (⟨hk, hk.2⟩ : _ ∧ k_ ≠ gb344))) (fun _ hk => hk.2) (.int .i64 t339)) (fun _ hk => hk.2) (.int .i64 t340)) (fun _ hk => hk.2) (.int .i64 t341)) (fun _ hk => hk.2) (.int .i64 t342)) (fun _ h_ => h_.1))) hb); have n11_ := Aside0.mk (Kd.R_below (zr4_ HO_304001.out BK344.out) hb); have n12_ := Aside0.mk (Kd.R_below (by (with_reducible repeat (first | apply Kd.R_alloc | apply Kd.R_drewN | apply Kd.R_drew)); exact (Kd.R_mono (Kd.R_far (p := ⟨gb344, 3, none⟩) (Kd.R_far (p := ⟨gb344, 2, none⟩) (Kd.R_far (p := ⟨gb344, 1, none⟩) (Kd.R_far (p := ⟨gb344, 0, none⟩) (Kd.R_mono HO_313000.out (fun k_ hk => (⟨hk, hk.2⟩ : _ ∧ k_ ≠ gb344))) (fun _ hk => hk.2) (.int .i64 t339)) (fun _ hk => hk.2) (.int .i64 t340)) (fun _ hk => hk.2) (.int .i64 t341)) (fun _ hk => hk.2) (.int .i64 t342)) (fun _ h_ => h_.1))) hb); have n13_ := Aside0.mk (Kd.R_below (zr4_ HO_313001.out BK344.out) hb); have n14_ := Aside0.mk (Kd.R_below (by (with_reducible repeat (first | apply Kd.R_alloc | apply Kd.R_drewN | apply Kd.R_drew)); exact (Kd.R_mono (Kd.R_far (p := ⟨gb344, 3, none⟩) (Kd.R_far (p := ⟨gb344, 2, none⟩) (Kd.R_far (p := ⟨gb344, 1, none⟩) (Kd.R_far (p := ⟨gb344, 0, none⟩) (Kd.R_mono HO_321000.out (fun k_ hk => (⟨hk, hk.2⟩ : _ ∧ k_ ≠ gb344))) (fun _ hk => hk.2) (.int .i64 t339)) (fun _ hk => hk.2) (.int .i64 t340)) (fun _ hk => hk.2) (.int .i64 t341)) (fun _ hk => hk.2) (.int .i64 t342)) (fun _ h_ => h_.1))) hb); have n15_ := Aside0.mk (Kd.R_below (zr4_ HO_321001.out BK344.out) hb); have n16_ := Aside0.mk (Kd.R_below (by (with_reducible repeat (first | apply Kd.R_alloc | apply Kd.R_drewN | apply Kd.R_drew)); exact (Kd.R_mono (Kd.R_far (p := ⟨gb344, 3, none⟩) (Kd.R_far (p := ⟨gb344, 2, none⟩) (Kd.R_far (p := ⟨gb344, 1, none⟩) (Kd.R_far (p := ⟨gb344, 0, none⟩) (Kd.R_mono HO_329000.out (fun k_ hk => (⟨hk, hk.2⟩ : _ ∧ k_ ≠ gb344))) (fun _ hk => hk.2) (.int .i64 t339)) (fun _ hk => hk.2) (.int .i64 t340)) (fun _ hk => hk.2) (.int .i64 t341)) (fun _ hk => hk.2) (.int .i64 t342)) (fun _ h_ => h_.1))) hb); have n17_ := Aside0.mk (Kd.R_below (zr4_ HO_329001.out BK344.out) hb); have n18_ := Aside0.mk (blk_below (g := gb253) (o := .cells #[.slice A0_0 l0_0.length c0_0, .slice A0_1 l0_1.length c0_1] 25 (0, 0)) (zf_ NB253_344.out BK253.out) hb); have n19_ := Aside0.mk (blk_below (g := gb260) (o := .cells #[.slice Ao19 t254.length co19, .slice Ao22 t257.length co22] 25 (0, 0)) (zf_ NB260_344.out BK260.out) hb); have n20_ := Aside0.mk (blk_below (g := gb268) (o := .cells #[.slice Ao25 t261.length co25, .slice Ao29 t264.length co29] 25 (0, 0)) (zf_ NB268_344.out BK268.out) hb); have n21_ := Aside0.mk (blk_below (g := gb276) (o := .cells #[.slice Ao33 t269.length co33, .slice Ao38 t272.length co38] 25 (0, 0)) (zf_ NB276_344.out BK276.out) hb); have n22_ := Aside0.mk (blk_below (g := gb285) (o := .cells #[.slice Ao42 t277.length co42, .slice Ao48 t280.length co48] 25 (0, 0)) (zf_ NB285_344.out BK285.out) hb); have n23_ := Aside0.mk (blk_below (g := gb294) (o := .cells #[.slice Ao52 t286.length co52, .slice Ao59 t289.length co59] 25 (0, 0)) (zf_ NB294_344.out BK294.out) hb); have n24_ := Aside0.mk (blk_below (g := gb303) (o := .cells #[.slice Ao63 t295.length co63, .slice Ao71 t298.length co71] 25 (0, 0)) (zf_ NB303_344.out BK303.out) hb); have n25_ := Aside0.mk (blk_below (g := gb312) (o := .cells #[.slice Ao75 t304.length co75, .slice Ao84 t307.length co84] 25 (0, 0)) (zf_ NB312_344.out BK312.out) hb); have n26_ := Aside0.mk (blk_below (g := gb320) (o := .cells #[.slice Ao88 t313.length co88, .slice Ao98 t316.length co98] 25 (0, 0)) (zf_ NB320_344.out BK320.out) hb); have n27_ := Aside0.mk (blk_below (g := gb328) (o := .cells #[.slice Ao102 t321.length co102, .slice Ao113 t324.length co113] 25 (0, 0)) (zf_ NB328_344.out BK328.out) hb); have n28_ := Aside0.mk (blk_below (g := gb338) (o := .cells #[.int .i64 t333, .int .i64 t334, .int .i64 t335, .int .i64 t336] 31 (0, 0)) (zf_ NB338_344.out BK338.out) hb); have n29_ := Aside0.mk (blk_below (g := gb344) (o := .cells #[.int .i64 t339, .int .i64 t340, .int .i64 t341, .int .i64 t342] 31 (0, 0)) (zp_ BK344.out) hb); have n30_ := Aside0.mk (below_step (zh12_ HB.out GE253.out GE260.out GE268.out GE276.out GE285.out GE294.out GE303.out GE312.out GE320.out GE328.out GE338.out GE344.out) hb); clear HO_261000; clear HO_261001; clear HO_269000; clear HO_269001; clear HO_277000; clear HO_277001; clear HO_286000; clear HO_286001; clear HO_295000; clear HO_295001; clear HO_304000; clear HO_304001; clear HO_313000; clear HO_313001; clear HO_321000; clear HO_321001; clear HO_329000; clear HO_329001; clear BK253; clear BK260; clear BK268; clear BK276; clear BK285; clear BK294; clear BK303; clear BK312; clear BK320; clear BK328; clear BK338; clear BK344; clear HB; have HO_261000 := n0_; have HO_261001 := n1_; have HO_269000 := n2_; have HO_269001 := n3_; have HO_277000 := n4_; have HO_277001 := n5_; have HO_286000 := n6_; have HO_286001 := n7_; have HO_295000 := n8_; have HO_295001 := n9_; have HO_304000 := n10_; have HO_304001 := n11_; have HO_313000 := n12_; have HO_313001 := n13_; have HO_321000 := n14_; have HO_321001 := n15_; have HO_329000 := n16_; have HO_329001 := n17_; have BK253 := n18_; have BK260 := n19_; have BK268 := n20_; have BK276 := n21_; have BK285 := n22_; have BK294 := n23_; have BK303 := n24_; have BK312 := n25_; have BK320 := n26_; have BK328 := n27_; have BK338 := n28_; have BK344 := n29_; have HB := n30_; clear n0_ n1_ n2_ n3_ n4_ n5_ n6_ n7_ n8_ n9_ n10_ n11_ n12_ n13_ n14_ n15_ n16_ n17_ n18_ n19_ n20_ n21_ n22_ n23_ n24_ n25_ n26_ n27_ n28_ n29_ n30_; (try clear hb); (try clear hb2); (try clear hk); (try clear hi); have hcz246_0 : w245.cell? ⟨gb253, 0, none⟩ = some (.slice A0_0 l0_0.length c0_0) := (blk_cell BK253.out 0).trans rfl; have hcz246_1 : w245.cell? ⟨gb253, 1, none⟩ = some (.slice A0_1 l0_1.length c0_1) := (blk_cell BK253.out 1).trans rfl; have hfz246_0 := blk_frozen BK253.out 0; have hfz246_1 := blk_frozen BK253.out 1) | ((with_reducible refine gate_callee (f := 22) rfl ?_); refine goesL_ (some 165) rfl rfl Try.func22 (by kernel_rfl) rfl #[.agg #[.slice A0_0 l0_0.length c0_0, .slice A0_1 l0_1.length c0_1], .int .u8 a3] rfl zl_ ?_; (with_reducible refine (ladingref14_Balance.calls kj13 _ _ l0_0 _ _ l0_1 a3 t347 t348 _ ?side1 ?side2 ?side3 ?side4 A187.out).mono ?_); (case side1 => exact zc_ (Kd.C_below HR0_0.out HB.out)); (case side2 => exact HC0_0.out); (case side3 => exact zc_ (Kd.C_below HR0_1.out HB.out)); (case side4 => exact HC0_1.out); rintro e w247 ⟨rfl, hb⟩; refine ⟨_, rfl, ?_⟩; have n0_ := Aside0.mk (Kd.R_below (zR_ HO_261000.out) hb); have n1_ := Aside0.mk (Kd.R_below (zR_ HO_261001.out) hb); have n2_ := Aside0.mk (Kd.R_below (zR_ HO_269000.out) hb); have n3_ := Aside0.mk (Kd.R_below (zR_ HO_269001.out) hb); have n4_ := Aside0.mk (Kd.R_below (zR_ HO_277000.out) hb); have n5_ := Aside0.mk (Kd.R_below (zR_ HO_277001.out) hb); have n6_ := Aside0.mk (Kd.R_below (zR_ HO_286000.out) hb); have n7_ := Aside0.mk (Kd.R_below (zR_ HO_286001.out) hb); have n8_ := Aside0.mk (Kd.R_below (zR_ HO_295000.out) hb); have n9_ := Aside0.mk (Kd.R_below (zR_ HO_295001.out) hb); have n10_ := Aside0.mk (Kd.R_below (zR_ HO_304000.out) hb); have n11_ := Aside0.mk (Kd.R_below (zR_ HO_304001.out) hb); have n12_ := Aside0.mk (Kd.R_below (zR_ HO_313000.out) hb); have n13_ := Aside0.mk (Kd.R_below (zR_ HO_313001.out) hb); have n14_ := Aside0.mk (Kd.R_below (zR_ HO_321000.out) hb); have n15_ := Aside0.mk (Kd.R_below (zR_ HO_321001.out) hb); have n16_ := Aside0.mk (Kd.R_below (zR_ HO_329000.out) hb); have n17_ := Aside0.mk (Kd.R_below (zR_ HO_329001.out) hb); have n18_ := Aside0.mk (blk_below (g := gb253) (o := .cells #[.slice A0_0 l0_0.length c0_0, .slice A0_1 l0_1.length c0_1] 25 (0, 0)) (zb_ BK253.out) hb); have n19_ := Aside0.mk (blk_below (g := gb260) (o := .cells #[.slice Ao19 t254.length co19, .slice Ao22 t257.length co22] 25 (0, 0)) (zb_ BK260.out) hb); have n20_ := Aside0.mk (blk_below (g := gb268) (o := .cells #[.slice Ao25 t261.length co25, .slice Ao29 t264.length co29] 25 (0, 0)) (zb_ BK268.out) hb); have n21_ := Aside0.mk (blk_below (g := gb276) (o := .cells #[.slice Ao33 t269.length co33, .slice Ao38 t272.length co38] 25 (0, 0)) (zb_ BK276.out) hb); have n22_ := Aside0.mk (blk_below (g := gb285) (o := .cells #[.slice Ao42 t277.length co42, .slice Ao48 t280.length co48] 25 (0, 0)) (zb_ BK285.out) hb); have n23_ := Aside0.mk (blk_below (g := gb294) (o := .cells #[.slice Ao52 t286.length co52, .slice Ao59 t289.length co59] 25 (0, 0)) (zb_ BK294.out) hb); have n24_ := Aside0.mk (blk_below (g := gb303) (o := .cells #[.slice Ao63 t295.length co63, .slice Ao71 t298.length co71] 25 (0, 0)) (zb_ BK303.out) hb); have n25_ := Aside0.mk (blk_below (g := gb312) (o := .cells #[.slice Ao75 t304.length co75, .slice Ao84 t307.length co84] 25 (0, 0)) (zb_ BK312.out) hb); have n26_ := Aside0.mk (blk_below (g := gb320) (o := .cells #[.slice Ao88 t313.length co88, .slice Ao98 t316.length co98] 25 (0, 0)) (zb_ BK320.out) hb); have n27_ := Aside0.mk (blk_below (g := gb328) (o := .cells #[.slice Ao102 t321.length co102, .slice Ao113 t324.length co113] 25 (0, 0)) (zb_ BK328.out) hb); have n28_ := Aside0.mk (blk_below (g := gb338) (o := .cells #[.int .i64 t333, .int .i64 t334, .int .i64 t335, .int .i64 t336] 31 (0, 0)) (zb_ BK338.out) hb); have n29_ := Aside0.mk (blk_below (g := gb344) (o := .cells #[.int .i64 t339, .int .i64 t340, .int .i64 t341, .int .i64 t342] 31 (0, 0)) (zb_ BK344.out) hb); have n30_ := Aside0.mk (below_step (zh12_ HB.out GE253.out GE260.out GE268.out GE276.out GE285.out GE294.out GE303.out GE312.out GE320.out GE328.out GE338.out GE344.out) hb); clear HO_261000; clear HO_261001; clear HO_269000; clear HO_269001; clear HO_277000; clear HO_277001; clear HO_286000; clear HO_286001; clear HO_295000; clear HO_295001; clear HO_304000; clear HO_304001; clear HO_313000; clear HO_313001; clear HO_321000; clear HO_321001; clear HO_329000; clear HO_329001; clear BK253; clear BK260; clear BK268; clear BK276; clear BK285; clear BK294; clear BK303; clear BK312; clear BK320; clear BK328; clear BK338; clear BK344; clear HB; have HO_261000 := n0_; have HO_261001 := n1_; have HO_269000 := n2_; have HO_269001 := n3_; have HO_277000 := n4_; have HO_277001 := n5_; have HO_286000 := n6_; have HO_286001 := n7_; have HO_295000 := n8_; have HO_295001 := n9_; have HO_304000 := n10_; have HO_304001 := n11_; have HO_313000 := n12_; have HO_313001 := n13_; have HO_321000 := n14_; have HO_321001 := n15_; have HO_329000 := n16_; have HO_329001 := n17_; have BK253 := n18_; have BK260 := n19_; have BK268 := n20_; have BK276 := n21_; have BK285 := n22_; have BK294 := n23_; have BK303 := n24_; have BK312 := n25_; have BK320 := n26_; have BK328 := n27_; have BK338 := n28_; have BK344 := n29_; have HB := n30_; clear n0_ n1_ n2_ n3_ n4_ n5_ n6_ n7_ n8_ n9_ n10_ n11_ n12_ n13_ n14_ n15_ n16_ n17_ n18_ n19_ n20_ n21_ n22_ n23_ n24_ n25_ n26_ n27_ n28_ n29_ n30_; (try clear hb); (try clear hb2); (try clear hk); (try clear hi)))
          have n0_ := Aside0.mk (Kd.R_drew HO_261000.out)
          have n1_ := Aside0.mk (Kd.R_drew HO_261001.out)
          have n2_ := Aside0.mk (Kd.R_drew HO_269000.out)
          have n3_ := Aside0.mk (Kd.R_drew HO_269001.out)
          have n4_ := Aside0.mk (Kd.R_drew HO_277000.out)
          have n5_ := Aside0.mk (Kd.R_drew HO_277001.out)
          have n6_ := Aside0.mk (Kd.R_drew HO_286000.out)
          have n7_ := Aside0.mk (Kd.R_drew HO_286001.out)
          have n8_ := Aside0.mk (Kd.R_drew HO_295000.out)
          have n9_ := Aside0.mk (Kd.R_drew HO_295001.out)
          have n10_ := Aside0.mk (Kd.R_drew HO_304000.out)
          have n11_ := Aside0.mk (Kd.R_drew HO_304001.out)
          have n12_ := Aside0.mk (Kd.R_drew HO_313000.out)
          have n13_ := Aside0.mk (Kd.R_drew HO_313001.out)
          have n14_ := Aside0.mk (Kd.R_drew HO_321000.out)
          have n15_ := Aside0.mk (Kd.R_drew HO_321001.out)
          have n16_ := Aside0.mk (Kd.R_drew HO_329000.out)
          have n17_ := Aside0.mk (Kd.R_drew HO_329001.out)
          have n18_ := Aside0.mk (blk_drew BK253.out)
          have n19_ := Aside0.mk (blk_drew BK260.out)
          have n20_ := Aside0.mk (blk_drew BK268.out)
          have n21_ := Aside0.mk (blk_drew BK276.out)
          have n22_ := Aside0.mk (blk_drew BK285.out)
          have n23_ := Aside0.mk (blk_drew BK294.out)
          have n24_ := Aside0.mk (blk_drew BK303.out)
          have n25_ := Aside0.mk (blk_drew BK312.out)
          have n26_ := Aside0.mk (blk_drew BK320.out)
          have n27_ := Aside0.mk (blk_drew BK328.out)
          have n28_ := Aside0.mk (blk_drew BK338.out)
          have n29_ := Aside0.mk (blk_drew BK344.out)
          have n30_ := Aside0.mk (below_drew1 HB.out)
          clear HO_261000
          clear HO_261001
          clear HO_269000
          clear HO_269001
          clear HO_277000
          clear HO_277001
          clear HO_286000
          clear HO_286001
          clear HO_295000
          clear HO_295001
          clear HO_304000
          clear HO_304001
          clear HO_313000
          clear HO_313001
          clear HO_321000
          clear HO_321001
          clear HO_329000
          clear HO_329001
          clear BK253
          clear BK260
          clear BK268
          clear BK276
          clear BK285
          clear BK294
          clear BK303
          clear BK312
          clear BK320
          clear BK328
          clear BK338
          clear BK344
          clear HB
          have HO_261000 := n0_
          have HO_261001 := n1_
          have HO_269000 := n2_
          have HO_269001 := n3_
          have HO_277000 := n4_
          have HO_277001 := n5_
          have HO_286000 := n6_
          have HO_286001 := n7_
          have HO_295000 := n8_
          have HO_295001 := n9_
          have HO_304000 := n10_
          have HO_304001 := n11_
          have HO_313000 := n12_
          have HO_313001 := n13_
          have HO_321000 := n14_
          have HO_321001 := n15_
          have HO_329000 := n16_
          have HO_329001 := n17_
          have BK253 := n18_
          have BK260 := n19_
          have BK268 := n20_
          have BK276 := n21_
          have BK285 := n22_
          have BK294 := n23_
          have BK303 := n24_
          have BK312 := n25_
          have BK320 := n26_
          have BK328 := n27_
          have BK338 := n28_
          have BK344 := n29_
          have HB := n30_
          clear n0_ n1_ n2_ n3_ n4_ n5_ n6_ n7_ n8_ n9_ n10_ n11_ n12_ n13_ n14_ n15_ n16_ n17_ n18_ n19_ n20_ n21_ n22_ n23_ n24_ n25_ n26_ n27_ n28_ n29_ n30_
          refine start_ (n := 34) (S := fun w' => w'.cell? ⟨gb338, 0, none⟩ = some (.int .i64 t333) ∧ w'.cell? ⟨gb338, 1, none⟩ = some (.int .i64 t334) ∧ w'.cell? ⟨gb338, 2, none⟩ = some (.int .i64 t335) ∧ w'.cell? ⟨gb338, 3, none⟩ = some (.int .i64 t336) ∧ w'.cell? ⟨gb344, 0, none⟩ = some (.int .i64 t339) ∧ w'.cell? ⟨gb344, 1, none⟩ = some (.int .i64 t340) ∧ w'.cell? ⟨gb344, 2, none⟩ = some (.int .i64 t341) ∧ w'.cell? ⟨gb344, 3, none⟩ = some (.int .i64 t342) ∧ w'.cell? ⟨gb260, 0, none⟩ = some (.slice Ao19 t254.length co19) ∧ w'.cell? ⟨gb260, 1, none⟩ = some (.slice Ao22 t257.length co22) ∧ w'.cell? ⟨gb253, 0, none⟩ = some (.slice A0_0 l0_0.length c0_0) ∧ w'.cell? ⟨gb253, 1, none⟩ = some (.slice A0_1 l0_1.length c0_1)) (ds := []) (zB 0 34) (by kernel_rfl) rfl rfl ⟨(blk_cell BK338.out 0).trans rfl, (blk_cell BK338.out 1).trans rfl, (blk_cell BK338.out 2).trans rfl, (blk_cell BK338.out 3).trans rfl, (blk_cell BK344.out 0).trans rfl, (blk_cell BK344.out 1).trans rfl, (blk_cell BK344.out 2).trans rfl, (blk_cell BK344.out 3).trans rfl, (blk_cell BK260.out 0).trans rfl, (blk_cell BK260.out 1).trans rfl, (blk_cell BK253.out 0).trans rfl, (blk_cell BK253.out 1).trans rfl⟩ (fun hHeld => ?_); refine with_tabW ladinglaw14_LedgerDoes.tab16 ladinglaw14_LedgerDoes.bits16 (fun HT_ HW_ => ?_)
          generalize w247.drew = w248 at HO_261000 HO_261001 HO_269000 HO_269001 HO_277000 HO_277001 HO_286000 HO_286001 HO_295000 HO_295001 HO_304000 HO_304001 HO_313000 HO_313001 HO_321000 HO_321001 HO_329000 HO_329001 BK253 BK260 BK268 BK276 BK285 BK294 BK303 BK312 BK320 BK328 BK338 BK344 HB hHeld ⊢
          refine one_ (i := 0) (N := some 168) (zB 1 33) rfl rfl (one_of HT_.out (by kernel_rfl)) (by decide) (fun K hK => ?_)
          refine goes_ Try.func8 (by kernel_rfl) rfl #[] (by rfl) rfl rfl zl_ ?_
          with_reducible refine (ladinglaw14_lives.calls  true _ A188.out).mono ?_
          rintro e w249 ⟨rfl, hb⟩
          refine ⟨_, rfl, ?_⟩
          have n0_ := Aside0.mk (Kd.R_below (zR_ HO_261000.out) hb)
          have n1_ := Aside0.mk (Kd.R_below (zR_ HO_261001.out) hb)
          have n2_ := Aside0.mk (Kd.R_below (zR_ HO_269000.out) hb)
          have n3_ := Aside0.mk (Kd.R_below (zR_ HO_269001.out) hb)
          have n4_ := Aside0.mk (Kd.R_below (zR_ HO_277000.out) hb)
          have n5_ := Aside0.mk (Kd.R_below (zR_ HO_277001.out) hb)
          have n6_ := Aside0.mk (Kd.R_below (zR_ HO_286000.out) hb)
          have n7_ := Aside0.mk (Kd.R_below (zR_ HO_286001.out) hb)
          have n8_ := Aside0.mk (Kd.R_below (zR_ HO_295000.out) hb)
          have n9_ := Aside0.mk (Kd.R_below (zR_ HO_295001.out) hb)
          have n10_ := Aside0.mk (Kd.R_below (zR_ HO_304000.out) hb)
          have n11_ := Aside0.mk (Kd.R_below (zR_ HO_304001.out) hb)
          have n12_ := Aside0.mk (Kd.R_below (zR_ HO_313000.out) hb)
          have n13_ := Aside0.mk (Kd.R_below (zR_ HO_313001.out) hb)
          have n14_ := Aside0.mk (Kd.R_below (zR_ HO_321000.out) hb)
          have n15_ := Aside0.mk (Kd.R_below (zR_ HO_321001.out) hb)
          have n16_ := Aside0.mk (Kd.R_below (zR_ HO_329000.out) hb)
          have n17_ := Aside0.mk (Kd.R_below (zR_ HO_329001.out) hb)
          have n18_ := Aside0.mk (blk_below (g := gb253) (o := .cells #[.slice A0_0 l0_0.length c0_0, .slice A0_1 l0_1.length c0_1] 25 (0, 0)) (zb_ BK253.out) hb)
          have n19_ := Aside0.mk (blk_below (g := gb260) (o := .cells #[.slice Ao19 t254.length co19, .slice Ao22 t257.length co22] 25 (0, 0)) (zb_ BK260.out) hb)
          have n20_ := Aside0.mk (blk_below (g := gb268) (o := .cells #[.slice Ao25 t261.length co25, .slice Ao29 t264.length co29] 25 (0, 0)) (zb_ BK268.out) hb)
          have n21_ := Aside0.mk (blk_below (g := gb276) (o := .cells #[.slice Ao33 t269.length co33, .slice Ao38 t272.length co38] 25 (0, 0)) (zb_ BK276.out) hb)
          have n22_ := Aside0.mk (blk_below (g := gb285) (o := .cells #[.slice Ao42 t277.length co42, .slice Ao48 t280.length co48] 25 (0, 0)) (zb_ BK285.out) hb)
          have n23_ := Aside0.mk (blk_below (g := gb294) (o := .cells #[.slice Ao52 t286.length co52, .slice Ao59 t289.length co59] 25 (0, 0)) (zb_ BK294.out) hb)
          have n24_ := Aside0.mk (blk_below (g := gb303) (o := .cells #[.slice Ao63 t295.length co63, .slice Ao71 t298.length co71] 25 (0, 0)) (zb_ BK303.out) hb)
          have n25_ := Aside0.mk (blk_below (g := gb312) (o := .cells #[.slice Ao75 t304.length co75, .slice Ao84 t307.length co84] 25 (0, 0)) (zb_ BK312.out) hb)
          have n26_ := Aside0.mk (blk_below (g := gb320) (o := .cells #[.slice Ao88 t313.length co88, .slice Ao98 t316.length co98] 25 (0, 0)) (zb_ BK320.out) hb)
          have n27_ := Aside0.mk (blk_below (g := gb328) (o := .cells #[.slice Ao102 t321.length co102, .slice Ao113 t324.length co113] 25 (0, 0)) (zb_ BK328.out) hb)
          have n28_ := Aside0.mk (blk_below (g := gb338) (o := .cells #[.int .i64 t333, .int .i64 t334, .int .i64 t335, .int .i64 t336] 31 (0, 0)) (zb_ BK338.out) hb)
          have n29_ := Aside0.mk (blk_below (g := gb344) (o := .cells #[.int .i64 t339, .int .i64 t340, .int .i64 t341, .int .i64 t342] 31 (0, 0)) (zb_ BK344.out) hb)
          have n30_ := Aside0.mk (below_step (zh12_ HB.out GE253.out GE260.out GE268.out GE276.out GE285.out GE294.out GE303.out GE312.out GE320.out GE328.out GE338.out GE344.out) hb)
          clear HO_261000
          clear HO_261001
          clear HO_269000
          clear HO_269001
          clear HO_277000
          clear HO_277001
          clear HO_286000
          clear HO_286001
          clear HO_295000
          clear HO_295001
          clear HO_304000
          clear HO_304001
          clear HO_313000
          clear HO_313001
          clear HO_321000
          clear HO_321001
          clear HO_329000
          clear HO_329001
          clear BK253
          clear BK260
          clear BK268
          clear BK276
          clear BK285
          clear BK294
          clear BK303
          clear BK312
          clear BK320
          clear BK328
          clear BK338
          clear BK344
          clear HB
          have HO_261000 := n0_
          have HO_261001 := n1_
          have HO_269000 := n2_
          have HO_269001 := n3_
          have HO_277000 := n4_
          have HO_277001 := n5_
          have HO_286000 := n6_
          have HO_286001 := n7_
          have HO_295000 := n8_
          have HO_295001 := n9_
          have HO_304000 := n10_
          have HO_304001 := n11_
          have HO_313000 := n12_
          have HO_313001 := n13_
          have HO_321000 := n14_
          have HO_321001 := n15_
          have HO_329000 := n16_
          have HO_329001 := n17_
          have BK253 := n18_
          have BK260 := n19_
          have BK268 := n20_
          have BK276 := n21_
          have BK285 := n22_
          have BK294 := n23_
          have BK303 := n24_
          have BK312 := n25_
          have BK320 := n26_
          have BK328 := n27_
          have BK338 := n28_
          have BK344 := n29_
          have HB := n30_
          clear n0_ n1_ n2_ n3_ n4_ n5_ n6_ n7_ n8_ n9_ n10_ n11_ n12_ n13_ n14_ n15_ n16_ n17_ n18_ n19_ n20_ n21_ n22_ n23_ n24_ n25_ n26_ n27_ n28_ n29_ n30_
          (try clear hb)
          (try clear hb2)
          (try clear hk)
          (try clear hi)
          refine hK.out _ _ ⟨(blk_cell BK338.out 0).trans rfl, (blk_cell BK338.out 1).trans rfl, (blk_cell BK338.out 2).trans rfl, (blk_cell BK338.out 3).trans rfl, (blk_cell BK344.out 0).trans rfl, (blk_cell BK344.out 1).trans rfl, (blk_cell BK344.out 2).trans rfl, (blk_cell BK344.out 3).trans rfl, (blk_cell BK260.out 0).trans rfl, (blk_cell BK260.out 1).trans rfl, (blk_cell BK253.out 0).trans rfl, (blk_cell BK253.out 1).trans rfl⟩ (fun hHeld => ?_)
          clear hK K
          refine norm_ (a' := ?_) ?_ ?_
          rotate_left
          ·show Act.put _ (some 168) _ = _
           simp only [Act.put, zt0, zt1, zt2, i64_w, i32_w]
           rfl
          refine pure_ (i := 1) (N := some 169) (v := ?_) (a' := ?_) (zB 2 32) rfl rfl (any_of HT_.out (by kernel_rfl)) (fun _ _ _ h => h) (Or.inl ⟨by rfl, ?_⟩) ?_ ?_
          rotate_left
          ·intro w'
           go_simp
           with_reducible rfl
          rotate_left
          ·simp only [Act.put, zt0, zt1, zt2, i64_w, i32_w]
           rfl
          refine take_ (i := 2) (N := some 170) (v := ?_) (a' := ?_) (zB 3 31) rfl rfl (take_ofW HT_.out HW_.out (by kernel_rfl)) (fun _ _ _ h => h) (Or.inl ⟨by rfl, ?_⟩) hHeld ?_ ?_
          rotate_left
          ·rintro w' ⟨s0, s1, s2, s3, s4, s5, s6, s7, s8, s9, s10, s11⟩
           go_simp
           with_reducible rfl
          rotate_left
          ·simp only [Act.put, zt0, zt1, zt2, i64_w, i32_w]
           rfl
          refine take_ (i := 3) (N := some 171) (v := ?_) (a' := ?_) (zB 4 30) rfl rfl (take_ofW HT_.out HW_.out (by kernel_rfl)) (fun _ _ _ h => h) (Or.inl ⟨by rfl, ?_⟩) hHeld ?_ ?_
          rotate_left
          ·rintro w' ⟨s0, s1, s2, s3, s4, s5, s6, s7, s8, s9, s10, s11⟩
           go_simp
           with_reducible rfl
          rotate_left
          ·simp only [Act.put, zt0, zt1, zt2, i64_w, i32_w]
           rfl
          refine pure_ (i := 4) (N := some 172) (v := ?_) (a' := ?_) (zB 5 29) rfl rfl (any_of HT_.out (by kernel_rfl)) (fun _ _ _ h => h) (Or.inl ⟨by rfl, ?_⟩) ?_ ?_
          rotate_left
          ·intro w'
           go_simp
           with_reducible rfl
          rotate_left
          ·simp only [Act.put, zt0, zt1, zt2, i64_w, i32_w]
           rfl
          refine pure_ (i := 5) (N := some 173) (v := ?_) (a' := ?_) (zB 6 28) rfl rfl (any_of HT_.out (by kernel_rfl)) (fun _ _ _ h => h) (Or.inl ⟨by rfl, ?_⟩) ?_ ?_
          rotate_left
          ·intro w'
           go_simp
           with_reducible rfl
          rotate_left
          ·simp only [Act.put, zt0, zt1, zt2, i64_w, i32_w]
           rfl
          refine pure_ (i := 6) (N := some 174) (v := ?_) (a' := ?_) (zB 7 27) rfl rfl (any_of HT_.out (by kernel_rfl)) (fun _ _ _ h => h) (Or.inl ⟨by rfl, ?_⟩) ?_ ?_
          rotate_left
          ·intro w'
           go_simp
           with_reducible rfl
          rotate_left
          ·simp only [Act.put, zt0, zt1, zt2, i64_w, i32_w]
           rfl
          refine pure_ (i := 7) (N := some 175) (v := ?_) (a' := ?_) (zB 8 26) rfl rfl (any_of HT_.out (by kernel_rfl)) (fun _ _ _ h => h) (Or.inl ⟨by rfl, ?_⟩) ?_ ?_
          rotate_left
          ·intro w'
           go_simp
           with_reducible rfl
          rotate_left
          ·simp only [Act.put, zt0, zt1, zt2, i64_w, i32_w]
           rfl
          refine pure_ (i := 8) (N := some 176) (v := ?_) (a' := ?_) (zB 9 25) rfl rfl (any_of HT_.out (by kernel_rfl)) (fun _ _ _ h => h) (Or.inl ⟨by rfl, ?_⟩) ?_ ?_
          rotate_left
          ·intro w'
           go_simp
           with_reducible rfl
          rotate_left
          ·simp only [Act.put, zt0, zt1, zt2, i64_w, i32_w]
           rfl
          refine pure_ (i := 9) (N := some 177) (v := ?_) (a' := ?_) (zB 10 24) rfl rfl (any_of HT_.out (by kernel_rfl)) (fun _ _ _ h => h) (Or.inl ⟨by rfl, ?_⟩) ?_ ?_
          rotate_left
          ·intro w'
           go_simp
           with_reducible rfl
          rotate_left
          ·simp only [Act.put, zt0, zt1, zt2, i64_w, i32_w]
           rfl
          refine pure_ (i := 10) (N := some 178) (v := ?_) (a' := ?_) (zB 11 23) rfl rfl (any_of HT_.out (by kernel_rfl)) (fun _ _ _ h => h) (Or.inl ⟨by rfl, ?_⟩) ?_ ?_
          rotate_left
          ·intro w'
           go_simp
           with_reducible rfl
          rotate_left
          ·simp only [Act.put, zt0, zt1, zt2, i64_w, i32_w]
           rfl
          refine pure_ (i := 11) (N := some 179) (v := ?_) (a' := ?_) (zB 12 22) rfl rfl (any_of HT_.out (by kernel_rfl)) (fun _ _ _ h => h) (Or.inl ⟨by rfl, ?_⟩) ?_ ?_
          rotate_left
          ·intro w'
           go_simp
           with_reducible rfl
          rotate_left
          ·simp only [Act.put, zt0, zt1, zt2, i64_w, i32_w]
           rfl
          refine pure_ (i := 12) (N := some 180) (v := ?_) (a' := ?_) (zB 13 21) rfl rfl (any_of HT_.out (by kernel_rfl)) (fun _ _ _ h => h) (Or.inl ⟨by rfl, ?_⟩) ?_ ?_
          rotate_left
          ·intro w'
           go_simp
           with_reducible rfl
          rotate_left
          ·simp only [Act.put, zt0, zt1, zt2, i64_w, i32_w]
           rfl
          refine pure_ (i := 13) (N := some 181) (v := ?_) (a' := ?_) (zB 14 20) rfl rfl (any_of HT_.out (by kernel_rfl)) (fun _ _ _ h => h) (Or.inl ⟨by rfl, ?_⟩) ?_ ?_
          rotate_left
          ·intro w'
           go_simp
           with_reducible rfl
          rotate_left
          ·simp only [Act.put, zt0, zt1, zt2, i64_w, i32_w]
           rfl
          refine pure_ (i := 14) (N := some 182) (v := ?_) (a' := ?_) (zB 15 19) rfl rfl (any_of HT_.out (by kernel_rfl)) (fun _ _ _ h => h) (Or.inl ⟨by rfl, ?_⟩) ?_ ?_
          rotate_left
          ·intro w'
           go_simp
           with_reducible rfl
          rotate_left
          ·simp only [Act.put, zt0, zt1, zt2, i64_w, i32_w]
           rfl
          refine pure_ (i := 15) (N := some 183) (v := ?_) (a' := ?_) (zB 16 18) rfl rfl (any_of HT_.out (by kernel_rfl)) (fun _ _ _ h => h) (Or.inl ⟨by rfl, ?_⟩) ?_ ?_
          rotate_left
          ·intro w'
           go_simp
           with_reducible rfl
          rotate_left
          ·simp only [Act.put, zt0, zt1, zt2, i64_w, i32_w]
           rfl
          refine pure_ (i := 16) (N := some 184) (v := ?_) (a' := ?_) (zB 17 17) rfl rfl (any_of HT_.out (by kernel_rfl)) (fun _ _ _ h => h) (Or.inl ⟨by rfl, ?_⟩) ?_ ?_
          rotate_left
          ·intro w'
           go_simp
           with_reducible rfl
          rotate_left
          ·simp only [Act.put, zt0, zt1, zt2, i64_w, i32_w]
           rfl
          refine pure_ (i := 17) (N := some 185) (v := ?_) (a' := ?_) (zB 18 16) rfl rfl (any_of HT_.out (by kernel_rfl)) (fun _ _ _ h => h) (Or.inl ⟨by rfl, ?_⟩) ?_ ?_
          rotate_left
          ·intro w'
           go_simp
           with_reducible rfl
          rotate_left
          ·simp only [Act.put, zt0, zt1, zt2, i64_w, i32_w]
           rfl
          refine pure_ (i := 18) (N := some 186) (v := ?_) (a' := ?_) (zB 19 15) rfl rfl (any_of HT_.out (by kernel_rfl)) (fun _ _ _ h => h) (Or.inl ⟨by rfl, ?_⟩) ?_ ?_
          rotate_left
          ·intro w'
           go_simp
           with_reducible rfl
          rotate_left
          ·simp only [Act.put, zt0, zt1, zt2, i64_w, i32_w]
           rfl
          refine pure_ (i := 19) (N := some 187) (v := ?_) (a' := ?_) (zB 20 14) rfl rfl (any_of HT_.out (by kernel_rfl)) (fun _ _ _ h => h) (Or.inl ⟨by rfl, ?_⟩) ?_ ?_
          rotate_left
          ·intro w'
           go_simp
           with_reducible rfl
          rotate_left
          ·simp only [Act.put, zt0, zt1, zt2, i64_w, i32_w]
           rfl
          refine pure_ (i := 20) (N := some 188) (v := ?_) (a' := ?_) (zB 21 13) rfl rfl (any_of HT_.out (by kernel_rfl)) (fun _ _ _ h => h) (Or.inl ⟨by rfl, ?_⟩) ?_ ?_
          rotate_left
          ·intro w'
           go_simp
           with_reducible rfl
          rotate_left
          ·simp only [Act.put, zt0, zt1, zt2, i64_w, i32_w]
           rfl
          refine pure_ (i := 21) (N := some 189) (v := ?_) (a' := ?_) (zB 22 12) rfl rfl (any_of HT_.out (by kernel_rfl)) (fun _ _ _ h => h) (Or.inl ⟨by rfl, ?_⟩) ?_ ?_
          rotate_left
          ·intro w'
           go_simp
           with_reducible rfl
          rotate_left
          ·simp only [Act.put, zt0, zt1, zt2, i64_w, i32_w]
           rfl
          refine take_ (i := 22) (N := some 190) (v := ?_) (a' := ?_) (zB 23 11) rfl rfl (take_ofW HT_.out HW_.out (by kernel_rfl)) (fun _ _ _ h => h) (Or.inl ⟨by rfl, ?_⟩) hHeld ?_ ?_
          rotate_left
          ·rintro w' ⟨s0, s1, s2, s3, s4, s5, s6, s7, s8, s9, s10, s11⟩
           go_simp
           with_reducible rfl
          rotate_left
          ·simp only [Act.put, zt0, zt1, zt2, i64_w, i32_w]
           rfl
          refine take_ (i := 24) (N := some 192) (v := ?_) (a' := ?_) #[true, true, true, true, true, true, true, true, true, true, true, true, true, true, true, true, true, true, true, true, true, true, true, false, true, false, false, false, false, false, false, false, false, false] rfl rfl (take_ofW HT_.out HW_.out (by kernel_rfl)) (fun _ _ _ h => h) (Or.inl ⟨by rfl, ?_⟩) hHeld ?_ ?_
          rotate_left
          ·rintro w' ⟨s0, s1, s2, s3, s4, s5, s6, s7, s8, s9, s10, s11⟩
           go_simp
           with_reducible rfl
          rotate_left
          ·simp only [Act.put, zt0, zt1, zt2, i64_w, i32_w]
           rfl
          refine one_ (i := 23) (N := some 191) (zB 25 9) rfl rfl (one_of HT_.out (by kernel_rfl)) (by decide) (fun K hK => ?_)
          refine goes_ Try.func23 (by kernel_rfl) rfl #[.agg #[.slice Ao19 t254.length co19, .slice Ao22 t257.length co22]] (by rfl) rfl rfl zl_ ?_
          with_reducible refine (ledger_Check.calls _ _ t254 _ _ t257 t350 _ ?side1 ?side2 ?side3 ?side4 A194.out).mono ?_
          (case side1 => repeat (first | exact (Kd.R_reads' HO_261000.out).2.2 | (with_reducible refine Kd.C_alloc ?_ _) | (with_reducible refine Kd.C_drewN ?_ _) | (with_reducible refine Kd.C_drew ?_)))
          (case side2 => exact (Kd.R_reads' HO_261000.out).2.1)
          (case side3 => repeat (first | exact (Kd.R_reads' HO_261001.out).2.2 | (with_reducible refine Kd.C_alloc ?_ _) | (with_reducible refine Kd.C_drewN ?_ _) | (with_reducible refine Kd.C_drew ?_)))
          (case side4 => exact (Kd.R_reads' HO_261001.out).2.1)
          rintro e w250 ⟨rfl, hb⟩
          refine ⟨_, rfl, ?_⟩
          have n0_ := Aside0.mk (Kd.R_below (zR_ HO_261000.out) hb)
          have n1_ := Aside0.mk (Kd.R_below (zR_ HO_261001.out) hb)
          have n2_ := Aside0.mk (Kd.R_below (zR_ HO_269000.out) hb)
          have n3_ := Aside0.mk (Kd.R_below (zR_ HO_269001.out) hb)
          have n4_ := Aside0.mk (Kd.R_below (zR_ HO_277000.out) hb)
          have n5_ := Aside0.mk (Kd.R_below (zR_ HO_277001.out) hb)
          have n6_ := Aside0.mk (Kd.R_below (zR_ HO_286000.out) hb)
          have n7_ := Aside0.mk (Kd.R_below (zR_ HO_286001.out) hb)
          have n8_ := Aside0.mk (Kd.R_below (zR_ HO_295000.out) hb)
          have n9_ := Aside0.mk (Kd.R_below (zR_ HO_295001.out) hb)
          have n10_ := Aside0.mk (Kd.R_below (zR_ HO_304000.out) hb)
          have n11_ := Aside0.mk (Kd.R_below (zR_ HO_304001.out) hb)
          have n12_ := Aside0.mk (Kd.R_below (zR_ HO_313000.out) hb)
          have n13_ := Aside0.mk (Kd.R_below (zR_ HO_313001.out) hb)
          have n14_ := Aside0.mk (Kd.R_below (zR_ HO_321000.out) hb)
          have n15_ := Aside0.mk (Kd.R_below (zR_ HO_321001.out) hb)
          have n16_ := Aside0.mk (Kd.R_below (zR_ HO_329000.out) hb)
          have n17_ := Aside0.mk (Kd.R_below (zR_ HO_329001.out) hb)
          have n18_ := Aside0.mk (blk_below (g := gb253) (o := .cells #[.slice A0_0 l0_0.length c0_0, .slice A0_1 l0_1.length c0_1] 25 (0, 0)) (zb_ BK253.out) hb)
          have n19_ := Aside0.mk (blk_below (g := gb260) (o := .cells #[.slice Ao19 t254.length co19, .slice Ao22 t257.length co22] 25 (0, 0)) (zb_ BK260.out) hb)
          have n20_ := Aside0.mk (blk_below (g := gb268) (o := .cells #[.slice Ao25 t261.length co25, .slice Ao29 t264.length co29] 25 (0, 0)) (zb_ BK268.out) hb)
          have n21_ := Aside0.mk (blk_below (g := gb276) (o := .cells #[.slice Ao33 t269.length co33, .slice Ao38 t272.length co38] 25 (0, 0)) (zb_ BK276.out) hb)
          have n22_ := Aside0.mk (blk_below (g := gb285) (o := .cells #[.slice Ao42 t277.length co42, .slice Ao48 t280.length co48] 25 (0, 0)) (zb_ BK285.out) hb)
          have n23_ := Aside0.mk (blk_below (g := gb294) (o := .cells #[.slice Ao52 t286.length co52, .slice Ao59 t289.length co59] 25 (0, 0)) (zb_ BK294.out) hb)
          have n24_ := Aside0.mk (blk_below (g := gb303) (o := .cells #[.slice Ao63 t295.length co63, .slice Ao71 t298.length co71] 25 (0, 0)) (zb_ BK303.out) hb)
          have n25_ := Aside0.mk (blk_below (g := gb312) (o := .cells #[.slice Ao75 t304.length co75, .slice Ao84 t307.length co84] 25 (0, 0)) (zb_ BK312.out) hb)
          have n26_ := Aside0.mk (blk_below (g := gb320) (o := .cells #[.slice Ao88 t313.length co88, .slice Ao98 t316.length co98] 25 (0, 0)) (zb_ BK320.out) hb)
          have n27_ := Aside0.mk (blk_below (g := gb328) (o := .cells #[.slice Ao102 t321.length co102, .slice Ao113 t324.length co113] 25 (0, 0)) (zb_ BK328.out) hb)
          have n28_ := Aside0.mk (blk_below (g := gb338) (o := .cells #[.int .i64 t333, .int .i64 t334, .int .i64 t335, .int .i64 t336] 31 (0, 0)) (zb_ BK338.out) hb)
          have n29_ := Aside0.mk (blk_below (g := gb344) (o := .cells #[.int .i64 t339, .int .i64 t340, .int .i64 t341, .int .i64 t342] 31 (0, 0)) (zb_ BK344.out) hb)
          have n30_ := Aside0.mk (below_step (zh12_ HB.out GE253.out GE260.out GE268.out GE276.out GE285.out GE294.out GE303.out GE312.out GE320.out GE328.out GE338.out GE344.out) hb)
          clear HO_261000
          clear HO_261001
          clear HO_269000
          clear HO_269001
          clear HO_277000
          clear HO_277001
          clear HO_286000
          clear HO_286001
          clear HO_295000
          clear HO_295001
          clear HO_304000
          clear HO_304001
          clear HO_313000
          clear HO_313001
          clear HO_321000
          clear HO_321001
          clear HO_329000
          clear HO_329001
          clear BK253
          clear BK260
          clear BK268
          clear BK276
          clear BK285
          clear BK294
          clear BK303
          clear BK312
          clear BK320
          clear BK328
          clear BK338
          clear BK344
          clear HB
          have HO_261000 := n0_
          have HO_261001 := n1_
          have HO_269000 := n2_
          have HO_269001 := n3_
          have HO_277000 := n4_
          have HO_277001 := n5_
          have HO_286000 := n6_
          have HO_286001 := n7_
          have HO_295000 := n8_
          have HO_295001 := n9_
          have HO_304000 := n10_
          have HO_304001 := n11_
          have HO_313000 := n12_
          have HO_313001 := n13_
          have HO_321000 := n14_
          have HO_321001 := n15_
          have HO_329000 := n16_
          have HO_329001 := n17_
          have BK253 := n18_
          have BK260 := n19_
          have BK268 := n20_
          have BK276 := n21_
          have BK285 := n22_
          have BK294 := n23_
          have BK303 := n24_
          have BK312 := n25_
          have BK320 := n26_
          have BK328 := n27_
          have BK338 := n28_
          have BK344 := n29_
          have HB := n30_
          clear n0_ n1_ n2_ n3_ n4_ n5_ n6_ n7_ n8_ n9_ n10_ n11_ n12_ n13_ n14_ n15_ n16_ n17_ n18_ n19_ n20_ n21_ n22_ n23_ n24_ n25_ n26_ n27_ n28_ n29_ n30_
          (try clear hb)
          (try clear hb2)
          (try clear hk)
          (try clear hi)
          refine hK.out _ _ ⟨(blk_cell BK338.out 0).trans rfl, (blk_cell BK338.out 1).trans rfl, (blk_cell BK338.out 2).trans rfl, (blk_cell BK338.out 3).trans rfl, (blk_cell BK344.out 0).trans rfl, (blk_cell BK344.out 1).trans rfl, (blk_cell BK344.out 2).trans rfl, (blk_cell BK344.out 3).trans rfl, (blk_cell BK260.out 0).trans rfl, (blk_cell BK260.out 1).trans rfl, (blk_cell BK253.out 0).trans rfl, (blk_cell BK253.out 1).trans rfl⟩ (fun hHeld => ?_)
          clear hK K
          refine norm_ (a' := ?_) ?_ ?_
          rotate_left
          ·show Act.put _ (some 191) _ = _
           simp only [Act.put, zt0, zt1, zt2, i64_w, i32_w]
           rfl
          refine one_ (i := 25) (N := some 193) (zB 26 8) rfl rfl (one_of HT_.out (by kernel_rfl)) (by decide) (fun K hK => ?_)
          refine goes_ Try.func24 (by kernel_rfl) rfl #[.agg #[.slice A0_0 l0_0.length c0_0, .slice A0_1 l0_1.length c0_1]] (by rfl) rfl rfl zl_ ?_
          with_reducible refine (ladingref14_Check.calls _ _ l0_0 _ _ l0_1 t351 _ ?side1 ?side2 ?side3 ?side4 A195.out).mono ?_
          (case side1 => exact zc_ (Kd.C_below HR0_0.out HB.out))
          (case side2 => exact HC0_0.out)
          (case side3 => exact zc_ (Kd.C_below HR0_1.out HB.out))
          (case side4 => exact HC0_1.out)
          rintro e w251 ⟨rfl, hb⟩
          refine ⟨_, rfl, ?_⟩
          have n0_ := Aside0.mk (Kd.R_below (zR_ HO_261000.out) hb)
          have n1_ := Aside0.mk (Kd.R_below (zR_ HO_261001.out) hb)
          have n2_ := Aside0.mk (Kd.R_below (zR_ HO_269000.out) hb)
          have n3_ := Aside0.mk (Kd.R_below (zR_ HO_269001.out) hb)
          have n4_ := Aside0.mk (Kd.R_below (zR_ HO_277000.out) hb)
          have n5_ := Aside0.mk (Kd.R_below (zR_ HO_277001.out) hb)
          have n6_ := Aside0.mk (Kd.R_below (zR_ HO_286000.out) hb)
          have n7_ := Aside0.mk (Kd.R_below (zR_ HO_286001.out) hb)
          have n8_ := Aside0.mk (Kd.R_below (zR_ HO_295000.out) hb)
          have n9_ := Aside0.mk (Kd.R_below (zR_ HO_295001.out) hb)
          have n10_ := Aside0.mk (Kd.R_below (zR_ HO_304000.out) hb)
          have n11_ := Aside0.mk (Kd.R_below (zR_ HO_304001.out) hb)
          have n12_ := Aside0.mk (Kd.R_below (zR_ HO_313000.out) hb)
          have n13_ := Aside0.mk (Kd.R_below (zR_ HO_313001.out) hb)
          have n14_ := Aside0.mk (Kd.R_below (zR_ HO_321000.out) hb)
          have n15_ := Aside0.mk (Kd.R_below (zR_ HO_321001.out) hb)
          have n16_ := Aside0.mk (Kd.R_below (zR_ HO_329000.out) hb)
          have n17_ := Aside0.mk (Kd.R_below (zR_ HO_329001.out) hb)
          have n18_ := Aside0.mk (blk_below (g := gb253) (o := .cells #[.slice A0_0 l0_0.length c0_0, .slice A0_1 l0_1.length c0_1] 25 (0, 0)) (zb_ BK253.out) hb)
          have n19_ := Aside0.mk (blk_below (g := gb260) (o := .cells #[.slice Ao19 t254.length co19, .slice Ao22 t257.length co22] 25 (0, 0)) (zb_ BK260.out) hb)
          have n20_ := Aside0.mk (blk_below (g := gb268) (o := .cells #[.slice Ao25 t261.length co25, .slice Ao29 t264.length co29] 25 (0, 0)) (zb_ BK268.out) hb)
          have n21_ := Aside0.mk (blk_below (g := gb276) (o := .cells #[.slice Ao33 t269.length co33, .slice Ao38 t272.length co38] 25 (0, 0)) (zb_ BK276.out) hb)
          have n22_ := Aside0.mk (blk_below (g := gb285) (o := .cells #[.slice Ao42 t277.length co42, .slice Ao48 t280.length co48] 25 (0, 0)) (zb_ BK285.out) hb)
          have n23_ := Aside0.mk (blk_below (g := gb294) (o := .cells #[.slice Ao52 t286.length co52, .slice Ao59 t289.length co59] 25 (0, 0)) (zb_ BK294.out) hb)
          have n24_ := Aside0.mk (blk_below (g := gb303) (o := .cells #[.slice Ao63 t295.length co63, .slice Ao71 t298.length co71] 25 (0, 0)) (zb_ BK303.out) hb)
          have n25_ := Aside0.mk (blk_below (g := gb312) (o := .cells #[.slice Ao75 t304.length co75, .slice Ao84 t307.length co84] 25 (0, 0)) (zb_ BK312.out) hb)
          have n26_ := Aside0.mk (blk_below (g := gb320) (o := .cells #[.slice Ao88 t313.length co88, .slice Ao98 t316.length co98] 25 (0, 0)) (zb_ BK320.out) hb)
          have n27_ := Aside0.mk (blk_below (g := gb328) (o := .cells #[.slice Ao102 t321.length co102, .slice Ao113 t324.length co113] 25 (0, 0)) (zb_ BK328.out) hb)
          have n28_ := Aside0.mk (blk_below (g := gb338) (o := .cells #[.int .i64 t333, .int .i64 t334, .int .i64 t335, .int .i64 t336] 31 (0, 0)) (zb_ BK338.out) hb)
          have n29_ := Aside0.mk (blk_below (g := gb344) (o := .cells #[.int .i64 t339, .int .i64 t340, .int .i64 t341, .int .i64 t342] 31 (0, 0)) (zb_ BK344.out) hb)
          have n30_ := Aside0.mk (below_step (zh12_ HB.out GE253.out GE260.out GE268.out GE276.out GE285.out GE294.out GE303.out GE312.out GE320.out GE328.out GE338.out GE344.out) hb)
          clear HO_261000
          clear HO_261001
          clear HO_269000
          clear HO_269001
          clear HO_277000
          clear HO_277001
          clear HO_286000
          clear HO_286001
          clear HO_295000
          clear HO_295001
          clear HO_304000
          clear HO_304001
          clear HO_313000
          clear HO_313001
          clear HO_321000
          clear HO_321001
          clear HO_329000
          clear HO_329001
          clear BK253
          clear BK260
          clear BK268
          clear BK276
          clear BK285
          clear BK294
          clear BK303
          clear BK312
          clear BK320
          clear BK328
          clear BK338
          clear BK344
          clear HB
          have HO_261000 := n0_
          have HO_261001 := n1_
          have HO_269000 := n2_
          have HO_269001 := n3_
          have HO_277000 := n4_
          have HO_277001 := n5_
          have HO_286000 := n6_
          have HO_286001 := n7_
          have HO_295000 := n8_
          have HO_295001 := n9_
          have HO_304000 := n10_
          have HO_304001 := n11_
          have HO_313000 := n12_
          have HO_313001 := n13_
          have HO_321000 := n14_
          have HO_321001 := n15_
          have HO_329000 := n16_
          have HO_329001 := n17_
          have BK253 := n18_
          have BK260 := n19_
          have BK268 := n20_
          have BK276 := n21_
          have BK285 := n22_
          have BK294 := n23_
          have BK303 := n24_
          have BK312 := n25_
          have BK320 := n26_
          have BK328 := n27_
          have BK338 := n28_
          have BK344 := n29_
          have HB := n30_
          clear n0_ n1_ n2_ n3_ n4_ n5_ n6_ n7_ n8_ n9_ n10_ n11_ n12_ n13_ n14_ n15_ n16_ n17_ n18_ n19_ n20_ n21_ n22_ n23_ n24_ n25_ n26_ n27_ n28_ n29_ n30_
          (try clear hb)
          (try clear hb2)
          (try clear hk)
          (try clear hi)
          refine hK.out _ _ ⟨(blk_cell BK338.out 0).trans rfl, (blk_cell BK338.out 1).trans rfl, (blk_cell BK338.out 2).trans rfl, (blk_cell BK338.out 3).trans rfl, (blk_cell BK344.out 0).trans rfl, (blk_cell BK344.out 1).trans rfl, (blk_cell BK344.out 2).trans rfl, (blk_cell BK344.out 3).trans rfl, (blk_cell BK260.out 0).trans rfl, (blk_cell BK260.out 1).trans rfl, (blk_cell BK253.out 0).trans rfl, (blk_cell BK253.out 1).trans rfl⟩ (fun hHeld => ?_)
          clear hK K
          refine norm_ (a' := ?_) ?_ ?_
          rotate_left
          ·show Act.put _ (some 193) _ = _
           simp only [Act.put, zt0, zt1, zt2, i64_w, i32_w]
           rfl
          refine pure_ (i := 26) (N := some 194) (v := ?_) (a' := ?_) (zB 27 7) rfl rfl (any_of HT_.out (by kernel_rfl)) (fun _ _ _ h => h) (Or.inl ⟨by rfl, ?_⟩) ?_ ?_
          rotate_left
          ·intro w'
           go_simp
           with_reducible rfl
          rotate_left
          ·simp only [Act.put, zt0, zt1, zt2, i64_w, i32_w]
           rfl
          refine pure_ (i := 27) (N := some 195) (v := ?_) (a' := ?_) (zB 28 6) rfl rfl (any_of HT_.out (by kernel_rfl)) (fun _ _ _ h => h) (Or.inl ⟨by rfl, ?_⟩) ?_ ?_
          rotate_left
          ·intro w'
           go_simp
           with_reducible rfl
          rotate_left
          ·simp only [Act.put, zt0, zt1, zt2, i64_w, i32_w]
           rfl
          refine pure_ (i := 28) (N := some 196) (v := ?_) (a' := ?_) (zB 29 5) rfl rfl (any_of HT_.out (by kernel_rfl)) (fun _ _ _ h => h) (Or.inl ⟨by rfl, ?_⟩) ?_ ?_
          rotate_left
          ·intro w'
           go_simp
           with_reducible rfl
          rotate_left
          ·simp only [Act.put, zt0, zt1, zt2, i64_w, i32_w]
           rfl
          refine take_ (i := 29) (N := some 197) (v := ?_) (a' := ?_) (zB 30 4) rfl rfl (take_ofW HT_.out HW_.out (by kernel_rfl)) (fun _ _ _ h => h) (Or.inl ⟨by rfl, ?_⟩) hHeld ?_ ?_
          rotate_left
          ·rintro w' ⟨s0, s1, s2, s3, s4, s5, s6, s7, s8, s9, s10, s11⟩
           go_simp
           with_reducible rfl
          rotate_left
          ·simp only [Act.put, zt0, zt1, zt2, i64_w, i32_w]
           rfl
          refine take_ (i := 30) (N := some 198) (v := ?_) (a' := ?_) (zB 31 3) rfl rfl (take_ofW HT_.out HW_.out (by kernel_rfl)) (fun _ _ _ h => h) (Or.inl ⟨by rfl, ?_⟩) hHeld ?_ ?_
          rotate_left
          ·rintro w' ⟨s0, s1, s2, s3, s4, s5, s6, s7, s8, s9, s10, s11⟩
           go_simp
           with_reducible rfl
          rotate_left
          ·simp only [Act.put, zt0, zt1, zt2, i64_w, i32_w]
           rfl
          refine one_ (i := 31) (N := some 199) (zB 32 2) rfl rfl (one_of HT_.out (by kernel_rfl)) (by decide) (fun K hK => ?_)
          refine goes_ Try.func13 (by kernel_rfl) rfl #[.agg #[.slice Ao19 t254.length co19, .slice Ao22 t257.length co22], .agg #[.slice A0_0 l0_0.length c0_0, .slice A0_1 l0_1.length c0_1]] (by rfl) rfl rfl zl_ ?_
          with_reducible refine (ladingref14_Same.calls kj13 _ _ t254 _ _ t257 _ _ l0_0 _ _ l0_1 t352 _ ?side1 ?side2 ?side3 ?side4 ?side5 ?side6 ?side7 ?side8 A197.out).mono ?_
          (case side1 => repeat (first | exact (Kd.R_reads' HO_261000.out).2.2 | (with_reducible refine Kd.C_alloc ?_ _) | (with_reducible refine Kd.C_drewN ?_ _) | (with_reducible refine Kd.C_drew ?_)))
          (case side2 => exact (Kd.R_reads' HO_261000.out).2.1)
          (case side3 => repeat (first | exact (Kd.R_reads' HO_261001.out).2.2 | (with_reducible refine Kd.C_alloc ?_ _) | (with_reducible refine Kd.C_drewN ?_ _) | (with_reducible refine Kd.C_drew ?_)))
          (case side4 => exact (Kd.R_reads' HO_261001.out).2.1)
          (case side5 => exact zc_ (Kd.C_below HR0_0.out HB.out))
          (case side6 => exact HC0_0.out)
          (case side7 => exact zc_ (Kd.C_below HR0_1.out HB.out))
          (case side8 => exact HC0_1.out)
          rintro e w252 ⟨rfl, hb⟩
          refine ⟨_, rfl, ?_⟩
          have n0_ := Aside0.mk (Kd.R_below (zR_ HO_261000.out) hb)
          have n1_ := Aside0.mk (Kd.R_below (zR_ HO_261001.out) hb)
          have n2_ := Aside0.mk (Kd.R_below (zR_ HO_269000.out) hb)
          have n3_ := Aside0.mk (Kd.R_below (zR_ HO_269001.out) hb)
          have n4_ := Aside0.mk (Kd.R_below (zR_ HO_277000.out) hb)
          have n5_ := Aside0.mk (Kd.R_below (zR_ HO_277001.out) hb)
          have n6_ := Aside0.mk (Kd.R_below (zR_ HO_286000.out) hb)
          have n7_ := Aside0.mk (Kd.R_below (zR_ HO_286001.out) hb)
          have n8_ := Aside0.mk (Kd.R_below (zR_ HO_295000.out) hb)
          have n9_ := Aside0.mk (Kd.R_below (zR_ HO_295001.out) hb)
          have n10_ := Aside0.mk (Kd.R_below (zR_ HO_304000.out) hb)
          have n11_ := Aside0.mk (Kd.R_below (zR_ HO_304001.out) hb)
          have n12_ := Aside0.mk (Kd.R_below (zR_ HO_313000.out) hb)
          have n13_ := Aside0.mk (Kd.R_below (zR_ HO_313001.out) hb)
          have n14_ := Aside0.mk (Kd.R_below (zR_ HO_321000.out) hb)
          have n15_ := Aside0.mk (Kd.R_below (zR_ HO_321001.out) hb)
          have n16_ := Aside0.mk (Kd.R_below (zR_ HO_329000.out) hb)
          have n17_ := Aside0.mk (Kd.R_below (zR_ HO_329001.out) hb)
          have n18_ := Aside0.mk (blk_below (g := gb253) (o := .cells #[.slice A0_0 l0_0.length c0_0, .slice A0_1 l0_1.length c0_1] 25 (0, 0)) (zb_ BK253.out) hb)
          have n19_ := Aside0.mk (blk_below (g := gb260) (o := .cells #[.slice Ao19 t254.length co19, .slice Ao22 t257.length co22] 25 (0, 0)) (zb_ BK260.out) hb)
          have n20_ := Aside0.mk (blk_below (g := gb268) (o := .cells #[.slice Ao25 t261.length co25, .slice Ao29 t264.length co29] 25 (0, 0)) (zb_ BK268.out) hb)
          have n21_ := Aside0.mk (blk_below (g := gb276) (o := .cells #[.slice Ao33 t269.length co33, .slice Ao38 t272.length co38] 25 (0, 0)) (zb_ BK276.out) hb)
          have n22_ := Aside0.mk (blk_below (g := gb285) (o := .cells #[.slice Ao42 t277.length co42, .slice Ao48 t280.length co48] 25 (0, 0)) (zb_ BK285.out) hb)
          have n23_ := Aside0.mk (blk_below (g := gb294) (o := .cells #[.slice Ao52 t286.length co52, .slice Ao59 t289.length co59] 25 (0, 0)) (zb_ BK294.out) hb)
          have n24_ := Aside0.mk (blk_below (g := gb303) (o := .cells #[.slice Ao63 t295.length co63, .slice Ao71 t298.length co71] 25 (0, 0)) (zb_ BK303.out) hb)
          have n25_ := Aside0.mk (blk_below (g := gb312) (o := .cells #[.slice Ao75 t304.length co75, .slice Ao84 t307.length co84] 25 (0, 0)) (zb_ BK312.out) hb)
          have n26_ := Aside0.mk (blk_below (g := gb320) (o := .cells #[.slice Ao88 t313.length co88, .slice Ao98 t316.length co98] 25 (0, 0)) (zb_ BK320.out) hb)
          have n27_ := Aside0.mk (blk_below (g := gb328) (o := .cells #[.slice Ao102 t321.length co102, .slice Ao113 t324.length co113] 25 (0, 0)) (zb_ BK328.out) hb)
          have n28_ := Aside0.mk (blk_below (g := gb338) (o := .cells #[.int .i64 t333, .int .i64 t334, .int .i64 t335, .int .i64 t336] 31 (0, 0)) (zb_ BK338.out) hb)
          have n29_ := Aside0.mk (blk_below (g := gb344) (o := .cells #[.int .i64 t339, .int .i64 t340, .int .i64 t341, .int .i64 t342] 31 (0, 0)) (zb_ BK344.out) hb)
          have n30_ := Aside0.mk (below_step (zh12_ HB.out GE253.out GE260.out GE268.out GE276.out GE285.out GE294.out GE303.out GE312.out GE320.out GE328.out GE338.out GE344.out) hb)
          clear HO_261000
          clear HO_261001
          clear HO_269000
          clear HO_269001
          clear HO_277000
          clear HO_277001
          clear HO_286000
          clear HO_286001
          clear HO_295000
          clear HO_295001
          clear HO_304000
          clear HO_304001
          clear HO_313000
          clear HO_313001
          clear HO_321000
          clear HO_321001
          clear HO_329000
          clear HO_329001
          clear BK253
          clear BK260
          clear BK268
          clear BK276
          clear BK285
          clear BK294
          clear BK303
          clear BK312
          clear BK320
          clear BK328
          clear BK338
          clear BK344
          clear HB
          have HO_261000 := n0_
          have HO_261001 := n1_
          have HO_269000 := n2_
          have HO_269001 := n3_
          have HO_277000 := n4_
          have HO_277001 := n5_
          have HO_286000 := n6_
          have HO_286001 := n7_
          have HO_295000 := n8_
          have HO_295001 := n9_
          have HO_304000 := n10_
          have HO_304001 := n11_
          have HO_313000 := n12_
          have HO_313001 := n13_
          have HO_321000 := n14_
          have HO_321001 := n15_
          have HO_329000 := n16_
          have HO_329001 := n17_
          have BK253 := n18_
          have BK260 := n19_
          have BK268 := n20_
          have BK276 := n21_
          have BK285 := n22_
          have BK294 := n23_
          have BK303 := n24_
          have BK312 := n25_
          have BK320 := n26_
          have BK328 := n27_
          have BK338 := n28_
          have BK344 := n29_
          have HB := n30_
          clear n0_ n1_ n2_ n3_ n4_ n5_ n6_ n7_ n8_ n9_ n10_ n11_ n12_ n13_ n14_ n15_ n16_ n17_ n18_ n19_ n20_ n21_ n22_ n23_ n24_ n25_ n26_ n27_ n28_ n29_ n30_
          (try clear hb)
          (try clear hb2)
          (try clear hk)
          (try clear hi)
          refine hK.out _ _ ⟨(blk_cell BK338.out 0).trans rfl, (blk_cell BK338.out 1).trans rfl, (blk_cell BK338.out 2).trans rfl, (blk_cell BK338.out 3).trans rfl, (blk_cell BK344.out 0).trans rfl, (blk_cell BK344.out 1).trans rfl, (blk_cell BK344.out 2).trans rfl, (blk_cell BK344.out 3).trans rfl, (blk_cell BK260.out 0).trans rfl, (blk_cell BK260.out 1).trans rfl, (blk_cell BK253.out 0).trans rfl, (blk_cell BK253.out 1).trans rfl⟩ (fun hHeld => ?_)
          clear hK K
          refine norm_ (a' := ?_) ?_ ?_
          rotate_left
          ·show Act.put _ (some 199) _ = _
           simp only [Act.put, zt0, zt1, zt2, i64_w, i32_w]
           rfl
          refine pure_ (i := 32) (N := some 200) (v := ?_) (a' := ?_) (zB 33 1) rfl rfl (any_of HT_.out (by kernel_rfl)) (fun _ _ _ h => h) (Or.inl ⟨by rfl, ?_⟩) ?_ ?_
          rotate_left
          ·intro w'
           go_simp
           with_reducible rfl
          rotate_left
          ·simp only [Act.put, zt0, zt1, zt2, i64_w, i32_w]
           rfl
          refine pure_ (i := 33) (N := some 8) (v := ?_) (a' := ?_) (zB 34 0) rfl rfl (any_of HT_.out (by kernel_rfl)) (fun _ _ _ h => h) (Or.inl ⟨by rfl, ?_⟩) ?_ ?_
          rotate_left
          ·intro w'
           go_simp
           with_reducible rfl
          rotate_left
          ·simp only [Act.put, zt0, zt1, zt2, i64_w, i32_w]
           rfl
          refine done_ (done_of HT_.out (by kernel_rfl)) ?_
          try go_wp2
          go_ret
          exact ⟨by first | rfl | (simp [errW_none, errW_some] <;> rfl) | (simp [*, errW_none, errW_some] <;> rfl), by exact zh12_ HB.out GE253.out GE260.out GE268.out GE276.out GE285.out GE294.out GE303.out GE312.out GE320.out GE328.out GE338.out GE344.out⟩
         ·rw [if_neg c196] at H
          exact absurd H (by simp)
        ·rw [if_neg c193] at H
         exact absurd H (by simp)
       ·rw [if_neg c192] at H
        exact absurd H (by simp)
      ·rw [if_neg c191] at H
       exact absurd H (by simp)
     ·rw [if_neg c190] at H
      exact absurd H (by simp)
    ·replace c189 := Bool.eq_false_iff.mpr c189
     subst c189
     have H1 : (none) = some r := by rw [if_neg (show ¬ (false = true) by decide)] at H; exact H
     clear H
     have H := H1
     clear H1
     exact absurd H (by simp)
end Go.Proofs.Ytaddmogfeijjcaa.Print
