/-
  The reference's Encode in plain lists. Conditions: fields in range.
-/
import Derived.Test.YtljpiofpfankoaaIpJ
namespace Go.Proofs.Ytljpiofpfankoaa
open Go.RowKit Go.Sort
set_option linter.unusedVariables false
set_option linter.unusedSimpArgs false
theorem blr1 {v : Int} (h : 0 ≤ v ∧ v ≤ 255) : blr 1 v [] = [v] := by
  show [v % 256] = [v]; rw [show v % 256 = v by omega]
theorem blr2 {v : Int} (h : 0 ≤ v ∧ v ≤ 65535) : blr 2 v [] = [v / 256, v % 256] := by
  show [v / 256 % 256, v % 256] = _; rw [show v / 256 % 256 = v / 256 by omega]
theorem blr4 {v : Int} (h : 0 ≤ v ∧ v ≤ 4294967295) : blr 4 v [] = [v / 16777216, v / 65536 % 256, v / 256 % 256, v % 256] := by
  show [v / 256 / 256 / 256 % 256, v / 256 / 256 % 256, v / 256 % 256, v % 256] = _
  rw [show v / 256 / 256 / 256 % 256 = v / 16777216 by omega, show v / 256 / 256 % 256 = v / 65536 % 256 by omega]
theorem wrong_zero {h : HD} {n : Nat} (hw : wrongR h n = 0) : h.fl ≤ 7 ∧ h.off ≤ 8191 ∧ h.o.length ≤ 40 ∧ (n : Int) ≤ 65515 - (full h.o).length := by
  unfold wrongR at hw
  by_cases c1 : 7 < h.fl ∨ 8191 < h.off
  · rw [if_pos c1] at hw; omega
  rw [if_neg c1] at hw
  by_cases c2 : 40 < h.o.length ∨ 65535 - 20 - ((full h.o).length : Int) < n
  · rw [if_pos c2] at hw; omega
  · omega
theorem ck_rng {h : HD} {n : Nat} (ok : h.ok) (hw : wrongR h n = 0) : 0 ≤ ckB h n ∧ ckB h n ≤ 65535 := by
  have := csum_rng (wk_rng (front_byt ok hw) (frB h n ++ (adB h ++ full h.o)).length).1
  unfold ckB
  show 0 ≤ 65535 - csum _ ∧ 65535 - csum _ ≤ 65535
  omega
end Go.Proofs.Ytljpiofpfankoaa
