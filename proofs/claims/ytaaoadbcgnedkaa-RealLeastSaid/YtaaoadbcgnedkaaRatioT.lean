/-
  The walks of ratio.Down, Up, Compare, and of the closed example 'third'. Conditions: numbers of 64 bits.
-/
import Derived.Test.YtaaoadbcgnedkaaRatioR
import Derived.Deep.RegionHeld3
namespace Go.Proofs.Ytaaoadbcgnedkaa
open Go.RowKit
set_option linter.unusedVariables false
set_option linter.unusedSimpArgs false

theorem wMulC (a b p : Int) (w : World) (ha : 0 ≤ a ∧ a ≤ 18446744073709551615) (hb : 0 ≤ b ∧ b ≤ 18446744073709551615) (hp : a * b = p) :
    Calls Try.prog 49 #[.int .u64 a, .int .u64 b] w fun e w' => e = .returned (wv p) ∧ Below w.heap.size w w' := by subst hp; exact wMul a b w ha.1 ha.2 hb.1 hb.2
theorem mul128 {a b p : Int} (ha : 0 ≤ a ∧ a ≤ 18446744073709551615) (hb : 0 ≤ b ∧ b ≤ 18446744073709551615) (hp : a * b = p) : In128 p := by
  have := mul_rng64 a b ha.1 ha.2 hb.1 hb.2
  rw [hp] at this; unfold In128; omega
theorem wcmpC (a b k : Int) (w : World) (ha : In128 a) (hb : In128 b) (h : cmp a b = k) :
    Calls Try.prog 23 #[wv a, wv b] w fun e w' => e = .returned (.int .i64 k) ∧ Below w.heap.size w w' := by subst h; exact wCompare a b w ha hb
end Go.Proofs.Ytaaoadbcgnedkaa
