/-
  Plain laws of service curves: the service in so many ticks, and the ticks of so much service. Conditions: fields in range.
-/
import Derived.Test.YtaaoadbcgnedkaaRatioT
import Derived.Test.YtaaoadbcgnedkaaSpec
namespace Go.Proofs.Ytaaoadbcgnedkaa
open Go.RowKit
set_option linter.unusedVariables false
set_option linter.unusedSimpArgs false
theorem kd_in {m d n : Int} (h : kd m d n ≠ 0) : m ≤ 4294967295 ∧ n ≤ 4294967295 ∧ d ≤ 1048576 := by
  unfold kd at h; (repeat' split at h) <;> omega
/-- The service of a curve that may be, and of any curve. -/
def sv (m d n t : Int) : Int := if t ≤ d then m * t else m * d + n * (t - d)
def sk (m d n t : Int) : Int := if kd m d n = 0 then 0 else sv m d n t
theorem sv_rng {m d n t : Int} (hm : 0 ≤ m ∧ m ≤ 4294967295) (hd : 0 ≤ d) (hn : 0 ≤ n ∧ n ≤ 4294967295) (ht : 0 ≤ t) : 0 ≤ sv m d n t ∧ sv m d n t ≤ 4294967295 * t := by
  unfold sv; split
  · exact ⟨Int.mul_nonneg hm.1 ht, Int.mul_le_mul_of_nonneg_right hm.2 ht⟩
  · have h1 := Int.mul_nonneg hm.1 hd
    have h2 := Int.mul_nonneg hn.1 (show 0 ≤ t - d by omega)
    have h3 := Int.mul_le_mul_of_nonneg_right hm.2 hd
    have h4 := Int.mul_le_mul_of_nonneg_right hn.2 (show 0 ≤ t - d by omega)
    omega
theorem sk_rng {m d n t : Int} (hm : 0 ≤ m) (hd : 0 ≤ d) (hn : 0 ≤ n) (ht : 0 ≤ t) : 0 ≤ sk m d n t ∧ sk m d n t ≤ 4294967295 * t := by
  unfold sk; split
  · omega
  · rename_i h; have := kd_in h; exact sv_rng ⟨hm, this.1⟩ hd ⟨hn, this.2.1⟩ ht
theorem sk_in {m d n t : Int} (hm : 0 ≤ m) (hd : 0 ≤ d) (hn : 0 ≤ n) (ht : 0 ≤ t) (ht' : t ≤ 18446744073709551615) : In128 (sk m d n t) := by
  have := sk_rng hm hd hn ht; unfold In128; omega
theorem sv_min (m d n t : Int) : sv m d n t = n * t + (m - n) * min t d := by
  unfold sv; split
  · rw [Int.min_eq_left (by assumption), Int.sub_mul]; omega
  · rw [Int.min_eq_right (by omega), Int.sub_mul, Int.mul_sub]; omega
theorem sv_mono {m d n t u : Int} (hm : 0 ≤ m) (hn : 0 ≤ n) (h : t ≤ u) : sv m d n t ≤ sv m d n u := by
  unfold sv; split <;> split
  · exact Int.mul_le_mul_of_nonneg_left h hm
  · have h1 := Int.mul_le_mul_of_nonneg_left (show t ≤ d by omega) hm
    have h2 := Int.mul_nonneg hn (show 0 ≤ u - d by omega)
    omega
  · omega
  · have h2 := Int.mul_le_mul_of_nonneg_left (show t - d ≤ u - d by omega) hn
    omega
theorem sk_mono {m d n t u : Int} (hm : 0 ≤ m) (hn : 0 ≤ n) (h : t ≤ u) : sk m d n t ≤ sk m d n u := by
  unfold sk; split
  · omega
  · exact sv_mono hm hn h
theorem up_spec {s m : Int} (hs : 0 ≤ s) (hm : 1 ≤ m) : s ≤ m * up s m ∧ (0 < s → 1 ≤ up s m ∧ m * (up s m - 1) < s) ∧ 0 ≤ up s m := by
  have h1 := Int.mul_ediv_add_emod s m
  have h2 := Int.emod_nonneg s (show m ≠ 0 by omega)
  have h3 := Int.emod_lt_of_pos s (show 0 < m by omega)
  have h4 := Int.ediv_nonneg hs (show 0 ≤ m by omega)
  unfold up; split
  · refine ⟨by omega, fun h => ?_, h4⟩
    have : s / m ≠ 0 := by intro h0; rw [h0] at h1; omega
    refine ⟨by omega, ?_⟩
    rw [Int.mul_sub]; omega
  · refine ⟨by rw [Int.mul_add]; omega, fun h => ⟨by omega, ?_⟩, by omega⟩
    rw [show s / m + 1 - 1 = s / m by omega]; omega
theorem up_le {s m k : Int} (hs : 0 ≤ s) (hm : 1 ≤ m) (hk : 0 ≤ k) (h : s ≤ m * k) : up s m ≤ k := by
  rcases Int.lt_or_le 0 s with h0 | h0
  · have := (up_spec hs hm).2.1 h0
    by_cases hc : up s m ≤ k
    · exact hc
    · have h2 := Int.mul_le_mul_of_nonneg_left (show k ≤ up s m - 1 by omega) (show 0 ≤ m by omega)
      omega
  · have : s = 0 := by omega
    subst this; unfold up; simp; exact hk
/-- In how many ticks from x on a slope comes to so much, or never. -/
def ov (s m x : Int) : Int := if m = 0 ∨ 9223372036854775808 ≤ x + up s m then 9223372036854775808 else x + up s m
theorem ov_rng {s m x : Int} (hs : 0 ≤ s) (hm : 0 ≤ m) (hx : 0 ≤ x) : 0 ≤ ov s m x ∧ ov s m x ≤ 9223372036854775808 := by
  unfold ov; split
  · omega
  · have := (up_spec hs (show 1 ≤ m by omega)).2.2; omega
/-- In how many ticks the service is at least so much. -/
def tk (m d n W : Int) : Int := if kd m d n = 0 then 9223372036854775808 else if W = 0 then 0 else if W ≤ m * d then ov W m 0 else ov (W - m * d) n d
theorem sv_knee (m d n : Int) : sv m d n d = m * d := by unfold sv; rw [if_pos (Int.le_refl _)]
theorem tk_rng {m d n W : Int} (hm : 0 ≤ m) (hd : 0 ≤ d) (hn : 0 ≤ n) (hW : 0 ≤ W) : 0 ≤ tk m d n W ∧ tk m d n W ≤ 9223372036854775808 := by
  unfold tk; split
  · omega
  · split
    · omega
    · split
      · exact ov_rng hW hm (by omega)
      · exact ov_rng (by omega) hn hd
theorem tk_spec {m d n W : Int} (hm : 0 ≤ m) (hd : 0 ≤ d) (hn : 0 ≤ n) (hW : 0 ≤ W) (h : tk m d n W ≠ 9223372036854775808) : W ≤ sk m d n (tk m d n W) ∧ (0 < tk m d n W → sk m d n (tk m d n W - 1) < W) := by
  unfold tk at h ⊢
  split at h
  · omega
  rename_i hk
  rw [if_neg hk]
  unfold sk
  rw [if_neg hk, if_neg hk]
  split at h
  · rename_i h0
    rw [if_pos h0]
    refine ⟨?_, by omega⟩
    unfold sv; rw [if_pos hd]; omega
  rename_i h0
  rw [if_neg h0]
  split at h
  · rename_i h1
    rw [if_pos h1]
    unfold ov at h ⊢
    split at h
    · omega
    rename_i h2
    rw [if_neg h2]
    have hm1 : 1 ≤ m := by omega
    have hu := up_spec hW hm1
    have hl := up_le hW hm1 hd h1
    have h3 := hu.2.1 (by omega)
    refine ⟨?_, fun _ => ?_⟩
    · unfold sv; rw [if_pos (by omega), Int.zero_add]; exact hu.1
    · unfold sv; rw [if_pos (by omega), Int.zero_add]; exact h3.2
  · rename_i h1
    rw [if_neg h1]
    unfold ov at h ⊢
    split at h
    · omega
    rename_i h2
    rw [if_neg h2]
    have hn1 : 1 ≤ n := by omega
    have hu := up_spec (s := W - m * d) (by omega) hn1
    have h3 := hu.2.1 (by omega)
    refine ⟨?_, fun _ => ?_⟩
    · unfold sv; rw [if_neg (by omega), show d + up (W - m * d) n - d = up (W - m * d) n by omega]; omega
    · unfold sv; split
      · rw [show d + up (W - m * d) n - 1 = d by omega]; omega
      · rw [show d + up (W - m * d) n - 1 - d = up (W - m * d) n - 1 by omega]; omega
/-- What comes in some ticks behind others, held against what comes in the first ticks. -/
theorem sv_bend (m d n t f : Int) : sv m d n (f + t) - sv m d n f - sv m d n t = (m - n) * (min (f + t) d - min f d - min t d) := by
  rw [sv_min, sv_min, sv_min, Int.mul_sub, Int.mul_sub, Int.mul_add]; omega
theorem min_bend {t f d : Int} (hd : 0 ≤ d) (ht : 0 ≤ t) (hf : 0 ≤ f) : min (f + t) d - min f d - min t d ≤ 0 := by omega
theorem sk_bend {m d n t f : Int} (hm : 0 ≤ m) (hd : 0 ≤ d) (hn : 0 ≤ n) (ht : 0 ≤ t) (hf : 0 ≤ f) : (kd m d n = 3 → sk m d n (f + t) - sk m d n f ≤ sk m d n t) ∧ (kd m d n = 4 → sk m d n t ≤ sk m d n (f + t) - sk m d n f) ∧ (kd m d n ≠ 3 → kd m d n ≠ 4 → sk m d n t = sk m d n (f + t) - sk m d n f) := by
  have hb := sv_bend m d n t f
  have hmn := min_bend hd ht hf
  generalize min (f + t) d - min f d - min t d = z at hb hmn
  by_cases hk : kd m d n = 0
  · refine ⟨fun h => by omega, fun h => by omega, fun _ _ => ?_⟩
    unfold sk; simp [hk]
  · unfold sk
    rw [if_neg hk, if_neg hk, if_neg hk]
    refine ⟨fun h => ?_, fun h => ?_, fun h3 h4 => ?_⟩
    · have : n ≤ m := by unfold kd at h; (repeat' split at h) <;> omega
      have := Int.mul_nonneg (show 0 ≤ m - n by omega) (show 0 ≤ -z by omega)
      rw [Int.mul_neg] at this; omega
    · have : m ≤ n := by unfold kd at h; (repeat' split at h) <;> omega
      have := Int.mul_nonneg (show 0 ≤ -(m - n) by omega) (show 0 ≤ -z by omega)
      rw [Int.neg_mul_neg] at this; omega
    · have : m = n := by
        by_cases hq : m = n
        · exact hq
        · exfalso
          have : kd m d n = 0 ∨ kd m d n = 3 ∨ kd m d n = 4 := by unfold kd; (repeat' split) <;> omega
          omega
      subst this
      rw [Int.sub_self, Int.zero_mul] at hb; omega
/-- What Compare tells. -/
theorem cmp_le {a b : Int} (h : a ≤ b) : decide (cmp a b ≤ 0) = true := by unfold cmp; (repeat' split) <;> simp <;> omega
theorem cmp_ge {a b : Int} (h : b ≤ a) : decide (0 ≤ cmp a b) = true := by unfold cmp; (repeat' split) <;> simp <;> omega
theorem cmp_lt {a b : Int} (h : a < b) : decide (0 ≤ cmp a b) = false := by unfold cmp; rw [if_pos h]; rfl
end Go.Proofs.Ytaaoadbcgnedkaa
