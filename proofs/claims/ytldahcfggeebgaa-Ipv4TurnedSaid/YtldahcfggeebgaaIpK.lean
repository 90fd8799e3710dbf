/-
  The reference's Encode in plain lists. Conditions: fields in range.
-/
import Derived.Test.YtldahcfggeebgaaIpJ
namespace Go.Proofs.Ytldahcfggeebgaa
open Go.RowKit Go.Sort
set_option linter.unusedVariables false
set_option linter.unusedSimpArgs false
theorem blr1 {v : Int} (h : 0 ≤ v ∧ v ≤ 255) : blr 1 v [] = [v] := by
  show [v % 256] = [v]; rw [show v % 256 = v by omega]
theorem blr2 {v : Int} (h : 0 ≤ v ∧ v ≤ 65535) : blr 2 v [] = [v / 256, v % 256] := by
  show [v / 256 % 256, v % 256] = _; rw [show v / 256 % 256 = v / 256 by omega]
theorem blr4 {v : Int} (h : 0 ≤ v ∧ v ≤ 4294967295) : blr 4 v [] = [v / 16777216, v / 65536 % 256, v / 256 % 256, v % 256] := by
  show [v / 256 / 256 / 256 % 256, v / 256 / 256 % 256, v / 256 % 256, v % 256] = _
  rw [show v / 256 / 256 / 256 % 256 = v / 16777216 by omega, show v / 256 / 256 % 256 = v / 65536 % 256 by omega]
theorem wrong_zero {h : HD} {n : Nat} (hw : wrongR h n = 0) : h.fl ≤ 7 ∧ h.off ≤ 8191 ∧ h.o.length ≤ 40 ∧ (n : Int) ≤ 65515 - (full h.o).length := by
  unfold wrongR at hw
  by_cases c1 : 7 < h.fl ∨ 8191 < h.off
  · rw [if_pos c1] at hw; omega
  rw [if_neg c1] at hw
  by_cases c2 : 40 < h.o.length ∨ 65535 - 20 - ((full h.o).length : Int) < n
  · rw [if_pos c2] at hw; omega
  · omega
theorem ck_rng {h : HD} {n : Nat} (ok : h.ok) (hw : wrongR h n = 0) : 0 ≤ ckB h n ∧ ckB h n ≤ 65535 := by
  have := csum_rng (wk_rng (front_byt ok hw) (frB h n ++ (adB h ++ full h.o)).length).1
  unfold ckB
  show 0 ≤ 65535 - csum _ ∧ 65535 - csum _ ≤ 65535
  omega
theorem ipREnc (h : HD) (b : List Int) (w : World) (ok : h.ok) (hw : wrongR h b.length = 0) :
    Calls Try.prog 31 #[hdv h, SV b] w fun e w' => e = .returned (SV (encR h b)) ∧ Below w.heap.size w w' := by
  have okk := ok
  obtain ⟨o1, o2, o3, o4, o5, o6, o7, o8, o9⟩ := ok
  obtain ⟨h1, h2, h3, h4⟩ := wrong_zero hw
  have hl := full_len h.o
  have hby := front_byt okk hw
  have hck := ck_rng okk hw
  have hP : h.P = h.fl * 8192 + h.off := rfl
  exact ipREncode h.tos h.id h.fl h.off h.ttl h.pr h.src h.dst _ _ _ _ _ _ _ _ _ _ _ _ _ _ _ _ _ _ _ _ _ h.o b (full h.o) w o1 o2 o3 o4 o5 o6 o7 o8 (by omega) (by omega) (full_byt o9) rfl rfl rfl (by omega) rfl (by omega) (by omega) hby rfl
    (blr1 (by omega)) (blr1 o1) (blr2 (by omega)) (blr2 o2) (blr2 (v := h.P) (by omega)) (blr1 o5) (blr1 o6) (blr4 o7) (blr4 o8) (blr2 (v := ckB h b.length) hck)
end Go.Proofs.Ytldahcfggeebgaa
