/-
  Plain laws of a moving average: a window that closes, windows without bytes, the bound, and that it fades. Conditions: small numbers.
-/
import Derived.Test.YtldahcfggeebgaaNum
namespace Go.Proofs.Ytldahcfggeebgaa
open Go.RowKit
set_option linter.unusedVariables false
set_option linter.unusedSimpArgs false
/-- The average behind a window with so many bytes. -/
def mst (s a b : Int) : Int := a - a / 2 ^ s.toNat + b * 65536 / 2 ^ s.toNat
/-- The average behind so many windows without bytes. -/
def mrun (s : Int) : Nat → Int → Int
  | 0, a => a
  | n + 1, a => mrun s n (mst s a 0)
def mavg (s a b num to : Int) : Int := if to ≤ num then a else mrun s (to - num - 1).toNat (mst s a b)
def mopen (b num to : Int) : Int := if to ≤ num then b else 0
theorem pow_pos (s : Int) : (1 : Int) ≤ 2 ^ s.toNat := by
  have h : (0 : Int) < 2 ^ s.toNat := Int.pow_pos (by decide)
  omega
theorem pow_le {s : Int} (h : s ≤ 8) : (2 : Int) ^ s.toNat ≤ 256 := by
  have h1 : s.toNat ≤ 8 := by omega
  have h2 := Nat.pow_le_pow_right (show 0 < 2 by decide) h1
  have e : ((2 : Int) ^ s.toNat) = ((2 ^ s.toNat : Nat) : Int) := by simp
  rw [e]
  omega
theorem quot_rng {a P : Int} (h : 0 ≤ a) (hP : 1 ≤ P) : 0 ≤ a / P ∧ a / P ≤ a :=
  ⟨Int.ediv_nonneg h (by omega), Int.ediv_le_self _ h⟩
theorem quot_step {a k P : Int} (hk : 0 ≤ k) (hP : 1 ≤ P) : (a + k) / P ≤ a / P + k := by
  have h : k * 1 ≤ k * P := Int.mul_le_mul_of_nonneg_left hP hk
  have h1 : (a + k) / P ≤ (a + k * P) / P := Int.ediv_le_ediv (by omega) (by omega)
  rw [Int.add_mul_ediv_right _ _ (by omega)] at h1
  exact h1
theorem mst_rng {s a b C : Int} (ha : 0 ≤ a ∧ a ≤ C) (hb : 0 ≤ b ∧ b * 65536 ≤ C) : 0 ≤ mst s a b ∧ mst s a b ≤ C := by
  have hP := pow_pos s
  have h1 := quot_rng ha.1 hP
  have h2 := quot_rng (show 0 ≤ b * 65536 by omega) hP
  have h3 := quot_step (a := a) (k := C - a) (by omega) hP
  rw [show a + (C - a) = C by omega] at h3
  have h4 : b * 65536 / 2 ^ s.toNat ≤ C / 2 ^ s.toNat := Int.ediv_le_ediv (by omega) hb.2
  unfold mst
  omega
theorem mst_zero (s a : Int) : mst s a 0 = a - a / 2 ^ s.toNat := by
  unfold mst; simp
theorem mst_le {s a : Int} (h : 0 ≤ a) : 0 ≤ mst s a 0 ∧ mst s a 0 ≤ a := by
  have := quot_rng h (pow_pos s)
  rw [mst_zero]; omega
theorem mrun_rng {s : Int} : ∀ (n : Nat) (a : Int), 0 ≤ a → 0 ≤ mrun s n a ∧ mrun s n a ≤ a
  | 0, a, h => ⟨h, Int.le_refl _⟩
  | n + 1, a, h => by
    have h1 := mst_le (s := s) h
    have h2 := mrun_rng (s := s) n _ h1.1
    show 0 ≤ mrun s n (mst s a 0) ∧ mrun s n (mst s a 0) ≤ a
    omega
theorem mrun_fix {s a : Int} (h : mst s a 0 = a) : ∀ n, mrun s n a = a
  | 0 => rfl
  | n + 1 => by show mrun s n (mst s a 0) = a; rw [h]; exact mrun_fix h n
theorem mrun_succ (s : Int) : ∀ (n : Nat) (a : Int), mrun s (n + 1) a = mst s (mrun s n a) 0
  | 0, a => rfl
  | n + 1, a => by show mrun s (n + 1) (mst s a 0) = _; rw [mrun_succ s n]; rfl
theorem mrun_add (s : Int) : ∀ (i j : Nat) (a : Int), mrun s (i + j) a = mrun s j (mrun s i a)
  | 0, j, a => by rw [Nat.zero_add]; rfl
  | i + 1, j, a => by rw [show i + 1 + j = (i + j) + 1 by omega]; exact mrun_add s i j (mst s a 0)
theorem mavg_rng {s a b C num to : Int} (ha : 0 ≤ a ∧ a ≤ C) (hb : 0 ≤ b ∧ b * 65536 ≤ C) : 0 ≤ mavg s a b num to ∧ mavg s a b num to ≤ C := by
  unfold mavg
  split
  · exact ha
  · have h1 := mst_rng (s := s) ha hb
    have h2 := mrun_rng (s := s) (to - num - 1).toNat _ h1.1
    omega
theorem mopen_rng {b num to C : Int} (hb : 0 ≤ b ∧ b ≤ C) : 0 ≤ mopen b num to ∧ mopen b num to ≤ C := by unfold mopen; split <;> omega
/-! One window more, of a meter whose window is not yet open. -/
theorem mavg_close {s a b num to : Int} (h : num < to) : mavg s (mst s a b) 0 (num + 1) to = mavg s a b num to := by
  unfold mavg
  rw [if_neg (show ¬ to ≤ num by omega)]
  split
  · rw [show (to - num - 1).toNat = 0 by omega]; rfl
  · rw [show (to - num - 1).toNat = (to - (num + 1) - 1).toNat + 1 by omega]; rfl
theorem mavg_stays {s a num to : Int} (h : mst s a 0 = a) : mavg s a 0 num to = a := by
  unfold mavg
  split
  · rfl
  · rw [h]; exact mrun_fix h _
theorem mopen_zero (num to : Int) : mopen 0 num to = 0 := by unfold mopen; split <;> rfl
theorem mopen_close {b num to : Int} (h : num < to) : mopen b num to = 0 := by unfold mopen; rw [if_neg (by omega)]
/-! It fades. -/
theorem mrun_drop {s a K : Int} (h0 : 0 ≤ a) (hK : 0 ≤ K) (ha : a < 2 ^ s.toNat * (K + K)) : mrun s (2 ^ s.toNat) a < 2 ^ s.toNat * K := by
  have hP := pow_pos s
  have key : ∀ j : Nat, mrun s j a < 2 ^ s.toNat * K ∨ mrun s j a < 2 ^ s.toNat * (K + K) - j * K := by
    intro j
    induction j with
    | zero => right; simpa [mrun] using ha
    | succ j ih =>
      have r := mrun_rng (s := s) j a h0
      rw [mrun_succ, mst_zero]
      have q := quot_rng r.1 hP
      by_cases hc : mrun s j a < 2 ^ s.toNat * K
      · left; omega
      · right
        have h1 : K ≤ mrun s j a / 2 ^ s.toNat := (Int.le_ediv_iff_mul_le (by omega)).2 (by rw [Int.mul_comm]; omega)
        have e : ((j + 1 : Nat) : Int) * K = j * K + K := by rw [Int.natCast_add, Int.add_mul]; simp
        rw [e]
        rcases ih with ih | ih <;> omega
  rcases key (2 ^ s.toNat) with h | h
  · exact h
  · have e : ((2 ^ s.toNat : Nat) : Int) = 2 ^ s.toNat := by simp
    rw [e, Int.mul_add] at h
    omega
theorem mrun_drops {s : Int} : ∀ (t : Nat) (a : Int), 0 ≤ a → a < 2 ^ s.toNat * 2 ^ t → mrun s (t * 2 ^ s.toNat) a < 2 ^ s.toNat
  | 0, a, h0, h => by simpa [mrun] using h
  | t + 1, a, h0, h => by
    have e : (t + 1) * 2 ^ s.toNat = 2 ^ s.toNat + t * 2 ^ s.toNat := by rw [Nat.add_mul]; omega
    rw [e, mrun_add]
    have hk : (0 : Int) ≤ 2 ^ t := Int.pow_nonneg (by decide)
    refine mrun_drops t _ (mrun_rng _ _ h0).1 (mrun_drop h0 hk ?_)
    rw [Int.pow_succ] at h
    rw [show (2 : Int) ^ t + 2 ^ t = 2 ^ t * 2 by omega]
    exact h
theorem mrun_fades {s a : Int} {n : Nat} (hs : s ≤ 8) (h0 : 0 ≤ a) (ha : a ≤ 72057594037927936) (hn : 20000 ≤ n) : mrun s n a < 2 ^ s.toNat := by
  have hP := pow_pos s
  have hP8 := pow_le hs
  have e : ((2 ^ s.toNat : Nat) : Int) = 2 ^ s.toNat := by simp
  have hle : 57 * 2 ^ s.toNat ≤ n := by omega
  obtain ⟨j, rfl⟩ : ∃ j, n = 57 * 2 ^ s.toNat + j := ⟨n - 57 * 2 ^ s.toNat, by omega⟩
  rw [mrun_add]
  have h1 : mrun s (57 * 2 ^ s.toNat) a < 2 ^ s.toNat := by
    refine mrun_drops 57 a h0 ?_
    have : (1 : Int) * 2 ^ 57 ≤ 2 ^ s.toNat * 2 ^ 57 := Int.mul_le_mul_of_nonneg_right hP (by decide)
    have e2 : (1 : Int) * 2 ^ 57 = 144115188075855872 := by decide
    omega
  have h2 := mrun_rng (s := s) j _ (mrun_rng (s := s) (57 * 2 ^ s.toNat) a h0).1
  omega
end Go.Proofs.Ytldahcfggeebgaa
