/-
  Curves that run, as plain numbers: what they are at a tick, when they reach an amount, their meeting, where they start. Conditions: fields in range.
-/
import Derived.Test.YtaaoadbcgnedkaaLineM
namespace Go.Proofs.Ytaaoadbcgnedkaa
open Go.RowKit
set_option linter.unusedVariables false
set_option linter.unusedSimpArgs false
/-- A line; a run. -/
structure LN where
  (X Y M : Int)
structure RN where
  (f t : LN)
  (b : Bool)
def LN.ok (l : LN) : Prop := (0 ≤ l.X ∧ l.X ≤ 18446744073709551615) ∧ In128 l.Y ∧ (0 ≤ l.M ∧ l.M ≤ 18446744073709551615)
def RN.ok (r : RN) : Prop := r.f.ok ∧ r.t.ok
def LN.at (l : LN) (x : Int) : Int := la l.X l.Y l.M x
def LN.reach (l : LN) (W : Int) : Int := lr l.X l.Y l.M W
def LN.lowB (a b : LN) : Bool := Go.Proofs.Ytaaoadbcgnedkaa.lowB a.X a.Y a.M b.X b.Y b.M
def LN.low (a b : LN) : LN := if LN.lowB a b then b else a
def LN.zero : LN := ⟨0, 0, 0⟩
def RN.at (r : RN) (x : Int) : Int := if r.b then (if r.f.at x < r.t.at x then r.f.at x else r.t.at x) else r.t.at x
def RN.reach (r : RN) (W : Int) : Int := if r.b then max (r.f.reach W) (r.t.reach W) else r.t.reach W
def RN.meet (a b : RN) : RN := ⟨if a.b then LN.low a.f b.f else LN.zero, LN.low a.t b.t, a.b⟩
/-- Where a curve runs from a tick and an amount on, and the same without a delay. -/
def RN.ready (m d n x y : Int) : RN :=
  if kd m d n = 2 ∨ kd m d n = 4 then ⟨LN.zero, ⟨x, y, n⟩, false⟩ else if kd m d n = 3 then ⟨⟨x, y, m⟩, ⟨x, m128 (y + (m - n) * d), n⟩, true⟩ else ⟨LN.zero, ⟨x, y, 0⟩, false⟩
def RN.start (m d n x y : Int) : RN :=
  if kd m d n = 4 then ⟨LN.zero, ⟨x + d, y, n⟩, false⟩ else RN.ready m d n x y
theorem LN.zero_ok : LN.zero.ok := by unfold LN.ok LN.zero In128; simp
theorem LN.low_ok {a b : LN} (ha : a.ok) (hb : b.ok) : (LN.low a b).ok := by unfold LN.low; split <;> assumption
theorem RN.meet_ok {a b : RN} (ha : a.ok) (hb : b.ok) : (RN.meet a b).ok := by
  refine ⟨?_, LN.low_ok ha.2 hb.2⟩
  show (if a.b then LN.low a.f b.f else LN.zero).ok
  split
  · exact LN.low_ok ha.1 hb.1
  · exact LN.zero_ok
theorem LN.at_in {l : LN} (h : l.ok) (x : Int) : In128 (l.at x) := la_in h.2.1
theorem RN.at_in {r : RN} (h : r.ok) (x : Int) : In128 (r.at x) := by
  unfold RN.at; split
  · split
    · exact LN.at_in h.1 x
    · exact LN.at_in h.2 x
  · exact LN.at_in h.2 x
theorem LN.reach_rng {l : LN} (h : l.ok) (W : Int) : 0 ≤ l.reach W ∧ l.reach W ≤ 9223372036854775808 := lr_rng h.1.1 h.2.2.1
theorem RN.reach_rng {r : RN} (h : r.ok) (W : Int) : 0 ≤ r.reach W ∧ r.reach W ≤ 9223372036854775808 := by
  have h1 := LN.reach_rng h.1 W; have h2 := LN.reach_rng h.2 W
  unfold RN.reach; split <;> omega
theorem RN.ready_ok {m d n x y : Int} (hm : 0 ≤ m ∧ m ≤ 18446744073709551615) (hn : 0 ≤ n ∧ n ≤ 18446744073709551615) (hx : 0 ≤ x ∧ x ≤ 18446744073709551615) (hy : In128 y) : (RN.ready m d n x y).ok := by
  unfold RN.ready
  split
  · exact ⟨LN.zero_ok, hx, hy, hn⟩
  · split
    · exact ⟨⟨hx, hy, hm⟩, hx, m128_in _, hn⟩
    · exact ⟨LN.zero_ok, hx, hy, by simp⟩
theorem RN.start_ok {m d n x y : Int} (hm : 0 ≤ m ∧ m ≤ 18446744073709551615) (hd : 0 ≤ d) (hn : 0 ≤ n ∧ n ≤ 18446744073709551615) (hx : 0 ≤ x ∧ x ≤ 9223372036854775808) (hy : In128 y) : (RN.start m d n x y).ok := by
  unfold RN.start
  split
  · rename_i h
    have := (kd_in (show kd m d n ≠ 0 by omega)).2.2
    exact ⟨LN.zero_ok, ⟨by simp; omega, by simp; omega⟩, hy, hn⟩
  · exact RN.ready_ok hm hn ⟨hx.1, by omega⟩ hy

/-! A line below 2^100: it is at least an amount from the tick on at which it reaches it. -/
def LN.small (l : LN) : Prop := LSmall l.Y l.M ∧ (0 ≤ l.X ∧ l.X ≤ 18446744073709551615)
theorem LN.small_ok {l : LN} (h : l.small) : l.ok := ⟨h.2, lsmall_in h.1, by have := h.1.2; omega⟩
theorem LN.at_mono {l : LN} (h : l.small) {x y : Int} (hxy : x ≤ y) (hy : y ≤ 18446744073709551615) : l.at x ≤ l.at y := by
  unfold LN.at
  rw [la_small h.1 h.2.1 (by omega), la_small h.1 h.2.1 hy]
  have h1 := h.1.2.1
  (repeat' split)
  · omega
  · have := Int.mul_nonneg h1 (show 0 ≤ y - l.X by omega); omega
  · omega
  · have := Int.mul_le_mul_of_nonneg_left (show x - l.X ≤ y - l.X by omega) h1; omega
theorem LN.reach_iff {l : LN} (h : l.small) {W x : Int} (hW : 0 ≤ W) (hx : 0 ≤ x) (hx' : x < 9223372036854775808) : l.reach W ≤ x ↔ W ≤ l.at x := by
  have hr := LN.reach_rng (LN.small_ok h) W
  by_cases hn : l.reach W = 9223372036854775808
  · refine ⟨fun h1 => by omega, fun h1 => ?_⟩
    exfalso
    -- at no tick below 2^63
    by_cases h0 : W ≤ l.Y
    · unfold LN.reach lr at hn; rw [if_pos h0] at hn; omega
    · unfold LN.reach lr at hn; rw [if_neg h0] at hn
      unfold LN.at at h1
      rw [la_small h.1 h.2.1 (by omega)] at h1
      split at h1
      · omega
      · unfold ov at hn
        by_cases hM : l.M = 0
        · rw [hM] at h1; omega
        · have hM1 : 1 ≤ l.M := by have := h.1.2.1; omega
          have hu := up_spec (s := W - l.Y) (by omega) hM1
          have h3 := hu.2.1 (by omega)
          split at hn
          · have := Int.mul_le_mul_of_nonneg_left (show x - l.X ≤ up (W - l.Y) l.M - 1 by omega) (show 0 ≤ l.M by omega)
            omega
          · omega
  · have hs := reach_not h.1 h.2 hW hn
    constructor
    · intro h1
      exact Int.le_trans hs.1 (LN.at_mono h h1 (by omega))
    · intro h1
      by_cases hc : l.reach W ≤ x
      · exact hc
      · exfalso
        have h2 := hs.2 (show 0 < lr l.X l.Y l.M W by unfold LN.reach at hc; omega)
        have h3 := LN.at_mono h (x := x) (y := l.reach W - 1) (by omega) (by omega)
        unfold LN.reach LN.at at *; omega
def RN.small (r : RN) : Prop := r.f.small ∧ r.t.small
theorem RN.small_ok {r : RN} (h : r.small) : r.ok := ⟨LN.small_ok h.1, LN.small_ok h.2⟩
theorem RN.at_mono {r : RN} (h : r.small) {x y : Int} (hxy : x ≤ y) (hy : y ≤ 18446744073709551615) : r.at x ≤ r.at y := by
  have h1 := LN.at_mono h.1 hxy hy; have h2 := LN.at_mono h.2 hxy hy
  unfold RN.at; (repeat' split) <;> omega
theorem RN.reach_iff {r : RN} (h : r.small) {W x : Int} (hW : 0 ≤ W) (hx : 0 ≤ x) (hx' : x < 9223372036854775808) : r.reach W ≤ x ↔ W ≤ r.at x := by
  have h1 := LN.reach_iff h.1 hW hx hx'; have h2 := LN.reach_iff h.2 hW hx hx'
  unfold RN.reach RN.at
  (repeat' split) <;> omega
/-- Two ticks that lie below the same ones are one. -/
theorem tick_ext {a b : Int} (ha : 0 ≤ a ∧ a ≤ 9223372036854775808) (hb : 0 ≤ b ∧ b ≤ 9223372036854775808) (h : ∀ x : Int, 0 ≤ x → x < 9223372036854775808 → (a ≤ x ↔ b ≤ x)) : a = b := by
  rcases Int.lt_trichotomy a b with h1 | h1 | h1
  · have := (h a ha.1 (by omega)).1 (Int.le_refl _); omega
  · exact h1
  · have := (h b hb.1 (by omega)).2 (Int.le_refl _); omega
end Go.Proofs.Ytaaoadbcgnedkaa
