-- What the claim uses alone (wip/slim.py). Lean checks it.
import Derived.Test.YtcbgichkeecgiaaDoorZAb
import Derived.Test.YtcbgichkeecgiaaDoorZAln
import Derived.Test.YtcbgichkeecgiaaDoorZPrint23
namespace Go.Proofs.YtcbgichkeecgiaaDoor.Print
open Go.RowKit Go.Proofs.YtcbgichkeecgiaaDoorW.PrintWords Go.Proofs.YtcbgichkeecgiaaDoorW.PrintLast Go.Proofs.YtcbgichkeecgiaaDoorW.PrintMore
attribute [local go_sem] max2_mx min2_mn max_two min_two max_three min_three max_four min_four
set_option linter.unusedVariables false
set_option linter.unusedSimpArgs false
theorem ladingref06_entry.cutF {P : Program} {w : World} {ok : Nat → Prop} (t : TypeId) {i : TypeInfo} (ht : P.underlying t = some (.slice 5)) (hi : P.info? 5 = some i) (hsz : i.size = 1) (kl : IntKind) {A : Option Addr} {c : Nat} {xs : List Int} (n : Int) (h0 : 0 ≤ n) (hm : n ≤ xs.length) (hc : xs.length ≤ c) (hF : Kd.F (Kd.int .u8) w ok A xs.length xs) :
  ∃ A2, (∀ W : World, (Instr.slice t (.slice A xs.length c) (some (.int kl n)) none none).run P W = .ok (.slice A2 (xs.drop n.toNat).length (c - n.toNat)) W) ∧ Kd.F (Kd.int .u8) w ok A2 (xs.drop n.toNat).length (xs.drop n.toNat) ∧ (xs.drop n.toNat).length ≤ c - n.toNat :=
 ⟨_, fun W => (cut_from t 5 kl ht hi 1 hsz A xs.length c n h0 hm W).trans (by rw [List.length_drop]; rfl), Kd.F_cut hF (by omega) hc, by rw [List.length_drop]; omega⟩
theorem ladingref06_entry.takeF {P : Program} {w : World} {ok : Nat → Prop} (t : TypeId) {i : TypeInfo} (ht : P.underlying t = some (.slice 5)) (hi : P.info? 5 = some i) (kl : IntKind) {A : Option Addr} {c : Nat} {xs : List Int} (n : Int) (h0 : 0 ≤ n) (hm : n ≤ xs.length) (hc : xs.length ≤ c) (hF : Kd.F (Kd.int .u8) w ok A xs.length xs) :
  (∀ W : World, (Instr.slice t (.slice A xs.length c) none (some (.int kl n)) none).run P W = .ok (.slice A (xs.take n.toNat).length c) W) ∧ Kd.F (Kd.int .u8) w ok A (xs.take n.toNat).length (xs.take n.toNat) ∧ (xs.take n.toNat).length ≤ c :=
 ⟨fun W => (cut_to t 5 kl ht hi A xs.length c n h0 hm hc W).trans (by rw [List.length_take, Nat.min_eq_left (by omega)]), Kd.F_take hF (by omega), by rw [List.length_take]; omega⟩
end Go.Proofs.YtcbgichkeecgiaaDoor.Print
