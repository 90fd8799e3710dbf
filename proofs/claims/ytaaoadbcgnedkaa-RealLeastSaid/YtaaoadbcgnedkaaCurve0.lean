/-
  The walks of curve.Service, Scale, Right. Conditions: fields in range.
-/
import Derived.Test.YtaaoadbcgnedkaaRatioT
import Derived.Test.YtaaoadbcgnedkaaSpec
import Derived.Deep.RegionHeld3
import Derived.Deep.CutRange
import Derived.Deep.DeepCutAuto
namespace Go.Proofs.Ytaaoadbcgnedkaa
open Go.RowKit
set_option linter.unusedVariables false
set_option linter.unusedSimpArgs false
theorem crightC (m d n : Int) (w : World) (h : 0 ≤ m ∧ 0 ≤ d ∧ 0 ≤ n) (b : Bool) (hb : (kd m d n != 0) = b) :
    Calls Try.prog 19 #[.agg #[.int .u64 m, .int .u64 d, .int .u64 n]] w fun e w' => e = .returned (.bool b) ∧ Below w.heap.size w w' := by
  subst hb
  go_enter Try.func19, Try.ntmps19
  go_wp2_with fail
  refine (curveOf_any m d n _ _ h.1 h.2.1 h.2.2 rfl).mono ?_
  rintro e w1 ⟨rfl, hb1⟩
  have g1 : Below w.heap.size w w1 := by refine Below.trans ?_ (hb1.mono ?_) <;> (repeat' (first | (with_reducible (first | exact Below.refl _ _ | assumption | refine below_drewN ?_ _ | refine Below.drew ?_ | refine Below.alloc ?_ ?_ _ | refine Below.setCell ?_ ?_ _)) | go_size))
  have hz1 := hb1.size
  (try simp at hz1)
  clear hb1
  go_wp2
  go_ret
  exact ⟨rfl, by (repeat' (first | (with_reducible (first | exact Below.refl _ _ | assumption | refine below_drewN ?_ _ | refine Below.drew ?_ | refine Below.alloc ?_ ?_ _ | refine Below.setCell ?_ ?_ _)) | go_size))⟩
theorem wAddD (a b c : Int) (w : World) (ha : In128 a) (hb : In128 b) (hc : a + b = c) (hcc : In128 c) :
    Calls Try.prog 20 #[wv a, wv b] w fun e w' => e = .returned (.tuple #[wv c, .bool false]) ∧ Below w.heap.size w w' := wAddC rfl rfl hc w ha hb hcc
theorem wMulW (a x b p : Int) (w : World) (ha : 0 ≤ a ∧ a ≤ 18446744073709551615) (hb : 0 ≤ b ∧ b ≤ 18446744073709551615) (hx : x = b) (hp : a * b = p) :
    Calls Try.prog 49 #[.int .u64 a, .int .u64 x] w fun e w' => e = .returned (wv p) ∧ Below w.heap.size w w' := by subst hx; exact wMulC a x p w ha hb hp
end Go.Proofs.Ytaaoadbcgnedkaa
