/-
  Plain laws of rising lines: at the tick at which a line reaches an amount, and ahead of it; of two lines of one slope the lower one. Conditions: fields in range.
-/
import Derived.Test.YtaaoadbcgnedkaaLineT
namespace Go.Proofs.Ytaaoadbcgnedkaa
open Go.RowKit
set_option linter.unusedVariables false
set_option linter.unusedSimpArgs false
/-- A line below 2^100. -/
def LSmall (Y M : Int) : Prop := (0 ≤ Y ∧ Y < 1267650600228229401496703205376) ∧ (0 ≤ M ∧ M < 68719476736)
theorem lsmall_in {Y M : Int} (h : LSmall Y M) : In128 Y := by unfold LSmall at h; unfold In128; omega
theorem lsmall_of {Y M : Int} (hY : In128 Y) (hh : hi Y < 68719476736) (hM : 0 ≤ M ∧ M < 68719476736) : LSmall Y M := by
  unfold In128 at hY; unfold hi at hh; unfold LSmall; omega
theorem la_small {X Y M x : Int} (h : LSmall Y M) (hX : 0 ≤ X) (hx : x ≤ 18446744073709551615) : la X Y M x = if x ≤ X then Y else Y + M * (x - X) := by
  unfold la
  split
  · rfl
  · unfold LSmall at h
    have h1 := Int.mul_nonneg h.2.1 (show 0 ≤ x - X by omega)
    have h2 := Int.mul_le_mul (show M ≤ 68719476735 by omega) (show x - X ≤ 18446744073709551615 by omega) (show 0 ≤ x - X by omega) (by omega)
    exact m128_of (by unfold In128; omega)
theorem la_from {X Y M x : Int} (h : LSmall Y M) (hX : 0 ≤ X) (hx : x ≤ 18446744073709551615) (hxx : X ≤ x) : la X Y M x = Y + M * (x - X) := by
  rw [la_small h hX hx]
  split
  · rw [show x - X = 0 by omega, Int.mul_zero, Int.add_zero]
  · rfl
theorem ov_not {s m x : Int} (h : ov s m x ≠ 9223372036854775808) : m ≠ 0 ∧ ov s m x = x + up s m := by
  unfold ov at h ⊢
  split at h
  · exact absurd rfl h
  · rename_i hh; rw [if_neg hh]; omega
theorem reach_not {X Y M W : Int} (h : LSmall Y M) (hX : 0 ≤ X ∧ X ≤ 18446744073709551615) (hW : 0 ≤ W) (hn : lr X Y M W ≠ 9223372036854775808) : W ≤ la X Y M (lr X Y M W) ∧ (0 < lr X Y M W → la X Y M (lr X Y M W - 1) < W) := by
  have hr := lr_rng (X := X) (Y := Y) (M := M) (W := W) hX.1 h.2.1
  by_cases h0 : W ≤ Y
  · have e : lr X Y M W = 0 := by unfold lr; rw [if_pos h0]
    rw [e]
    refine ⟨?_, by omega⟩
    rw [la_small h hX.1 (by omega), if_pos hX.1]; exact h0
  · have e : lr X Y M W = ov (W - Y) M X := by unfold lr; rw [if_neg h0]
    rw [e] at hn hr ⊢
    obtain ⟨hM, e2⟩ := ov_not hn
    rw [e2] at hr ⊢
    have hM1 : 1 ≤ M := by unfold LSmall at h; omega
    have hu := up_spec (s := W - Y) (by omega) hM1
    have h3 := hu.2.1 (by omega)
    refine ⟨?_, fun _ => ?_⟩
    · rw [la_from h hX.1 (by omega) (by omega), show X + up (W - Y) M - X = up (W - Y) M by omega]; omega
    · rw [la_from h hX.1 (by omega) (by omega), show X + up (W - Y) M - 1 - X = up (W - Y) M - 1 by omega]; omega
theorem reach_never {X Y M W : Int} (h : LSmall Y M) (hX : 0 ≤ X ∧ X ≤ 18446744073709551615) (hW : 0 ≤ W) (hn : lr X Y M W = 9223372036854775808) : la X Y M 4611686018427387904 < W := by
  by_cases h0 : W ≤ Y
  · unfold lr at hn; rw [if_pos h0] at hn; omega
  · unfold lr at hn; rw [if_neg h0] at hn
    rw [la_small h hX.1 (by omega)]
    split
    · omega
    · unfold ov at hn
      by_cases hM : M = 0
      · subst hM; omega
      · have hM1 : 1 ≤ M := by unfold LSmall at h; omega
        have hu := up_spec (s := W - Y) (by omega) hM1
        have h3 := hu.2.1 (by omega)
        split at hn
        · have := Int.mul_le_mul_of_nonneg_left (show 4611686018427387904 - X ≤ up (W - Y) M - 1 by omega) (show 0 ≤ M by omega)
          omega
        · omega
theorem la_more {X Y M x y : Int} (h : LSmall Y M) (hX : 0 ≤ X) (h1 : X ≤ x) (h2 : x ≤ y) (hy : y ≤ 18446744073709551615) : la X Y M y = la X Y M x + M * (y - x) := by
  rw [la_from h hX hy (by omega), la_from h hX (by omega) h1, Int.mul_sub, Int.mul_sub, Int.mul_sub]; omega
theorem lower_at {Xa Ya Xb Yb M x : Int} (ha : LSmall Ya M) (hb : LSmall Yb M) (hXa : 0 ≤ Xa) (hXb : 0 ≤ Xb) (h1 : Xa ≤ x) (h2 : Xb ≤ x) (hx : x ≤ 18446744073709551615) :
    (lowB Xa Ya M Xb Yb M = true → la Xb Yb M x ≤ la Xa Ya M x) ∧ (lowB Xa Ya M Xb Yb M = false → la Xa Ya M x ≤ la Xb Yb M x) := by
  have e1 := la_more (x := max Xa Xb) (y := x) ha hXa (by omega) (by omega) hx
  have e2 := la_more (x := max Xa Xb) (y := x) hb hXb (by omega) (by omega) hx
  unfold lowB
  constructor
  · intro h; have := of_decide_eq_true h; omega
  · intro h; have := of_decide_eq_false h; omega
theorem reach_le {Xa Ya Xb Yb M W : Int} (ha : LSmall Ya M) (hb : LSmall Yb M) (hXa : 0 ≤ Xa) (hXb : 0 ≤ Xb) (h : Ya - M * Xa ≤ Yb - M * Xb) (h1 : Ya < W) (h2 : Yb < W) : lr Xb Yb M W ≤ lr Xa Ya M W := by
  unfold lr; rw [if_neg (by omega), if_neg (by omega)]
  unfold ov
  by_cases hM : M = 0
  · rw [if_pos (.inl hM), if_pos (.inl hM)]; exact Int.le_refl _
  · have hM1 : 1 ≤ M := by unfold LSmall at ha; omega
    have hu := up_spec (s := W - Ya) (by omega) hM1
    have key : up (W - Yb) M ≤ Xa + up (W - Ya) M - Xb := by
      have hk : W - Yb ≤ M * (Xa + up (W - Ya) M - Xb) := by rw [Int.mul_sub, Int.mul_add]; omega
      refine up_le (by omega) hM1 ?_ hk
      by_cases hc : 0 ≤ Xa + up (W - Ya) M - Xb
      · exact hc
      · have := Int.mul_nonneg (show 0 ≤ M by omega) (show 0 ≤ -(Xa + up (W - Ya) M - Xb) by omega)
        rw [Int.mul_neg] at this; omega
    (repeat' split) <;> omega
theorem lower_reach {Xa Ya Xb Yb M W : Int} (ha : LSmall Ya M) (hb : LSmall Yb M) (hXa : 0 ≤ Xa ∧ Xa ≤ 18446744073709551615) (hXb : 0 ≤ Xb ∧ Xb ≤ 18446744073709551615) (h1 : Ya < W) (h2 : Yb < W) :
    (lowB Xa Ya M Xb Yb M = true → lr Xa Ya M W ≤ lr Xb Yb M W) ∧ (lowB Xa Ya M Xb Yb M = false → lr Xb Yb M W ≤ lr Xa Ya M W) := by
  have e1 := la_from (x := max Xa Xb) ha hXa.1 (by omega) (by omega)
  have e2 := la_from (x := max Xa Xb) hb hXb.1 (by omega) (by omega)
  rw [Int.mul_sub] at e1 e2
  unfold lowB
  constructor
  · intro h; have := of_decide_eq_true h
    exact reach_le hb ha hXb.1 hXa.1 (by omega) h2 h1
  · intro h; have := of_decide_eq_false h
    exact reach_le ha hb hXa.1 hXb.1 (by omega) h1 h2
end Go.Proofs.Ytaaoadbcgnedkaa
