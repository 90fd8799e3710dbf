/-
  The walks of the reference's twice, bit and Quotient. Conditions: arguments in range.
-/
import Derived.Test.YtaaoadbcgnedkaaRefB
import Derived.Deep.RegionHeld3
namespace Go.Proofs.Ytaaoadbcgnedkaa
open Go.RowKit
set_option linter.unusedVariables false
set_option linter.unusedSimpArgs false

theorem rTwice (a b c : Int) (w : World) (ha : In128 a) (hb : 0 ≤ b ∧ b ≤ 1) (hc : a + a + b = c) (hcc : In128 c) :
    Calls Try.prog 76 #[nv a, .int .u64 b] w fun e w' => e = .returned (nv c) ∧ Below w.heap.size w w' := by
  have h2 : In128 (a + a) := by unfold In128 at *; omega
  go_enter Try.func76, Try.ntmps76
  go_wp2_with fail
  refine (rPlus_of (a := a) (b := a) (c := a + a) rfl rfl _ ha ha rfl h2).mono ?_
  rintro e w1 ⟨rfl, hb1⟩
  have R1 : Blk w1 (w.heap.size + 1) #[.int .u64 0, .int .u64 0, .int .u64 0, .int .u64 0] 31 := Blk.below (by (repeat' (first | (with_reducible (first | assumption | exact Blk.alloc_new _ _ _ (by first | rfl | (simp; done) | omega) | apply Blk.drewN | apply Blk.drew | apply Blk.alloc_old | apply Blk.set_same | apply Blk.set_other)) | (show (_ : Nat) ≠ _; first | omega | (simp; done) | (simp; omega)) | ((simp only [List.setIfInBounds_toArray, List.set_cons_succ, List.set_cons_zero]); (with_reducible exact rfl)) | (with_reducible exact rfl) | (show (_ : Array Value) = _; exact rfl)))) hb1 (by first | (simp; done) | omega | (simp; omega))
  have g1 : Below w.heap.size w w1 := by refine Below.trans ?_ (hb1.mono ?_) <;> (repeat' (first | (with_reducible (first | exact Below.refl _ _ | assumption | refine below_drewN ?_ _ | refine Below.drew ?_ | refine Below.alloc ?_ ?_ _ | refine Below.setCell ?_ ?_ _)) | go_size))
  have hz1 := hb1.size
  (try simp at hz1)
  clear hb1
  replace cR := R1.cell
  replace fR := R1.frozen
  replace zR := R1.size
  go_wp2_with fail
  refine (rOf b _ (by omega) (by omega)).mono ?_
  rintro e w2 ⟨rfl, hb2⟩
  have R2 : Blk w2 (w.heap.size + 1) #[.int .u64 0, .int .u64 0, .int .u64 0, .int .u64 0] 31 := Blk.below (by (repeat' (first | (with_reducible (first | assumption | exact Blk.alloc_new _ _ _ (by first | rfl | (simp; done) | omega) | apply Blk.drewN | apply Blk.drew | apply Blk.alloc_old | apply Blk.set_same | apply Blk.set_other)) | (show (_ : Nat) ≠ _; first | omega | (simp; done) | (simp; omega)) | ((simp only [List.setIfInBounds_toArray, List.set_cons_succ, List.set_cons_zero]); (with_reducible exact rfl)) | (with_reducible exact rfl) | (show (_ : Array Value) = _; exact rfl)))) hb2 (by first | (simp; done) | omega | (simp; omega))
  have g2 : Below w.heap.size w w2 := by refine Below.trans ?_ (hb2.mono ?_) <;> (repeat' (first | (with_reducible (first | exact Below.refl _ _ | assumption | refine below_drewN ?_ _ | refine Below.drew ?_ | refine Below.alloc ?_ ?_ _ | refine Below.setCell ?_ ?_ _)) | go_size))
  have hz2 := hb2.size
  (try simp at hz2)
  clear hb2
  replace cR := R2.cell
  replace fR := R2.frozen
  replace zR := R2.size
  go_wp2_with fail
  refine (rPlus_of (a := a + a) (b := b) (c := c) rfl rfl _ h2 (by unfold In128; omega) hc hcc).mono ?_
  rintro e w3 ⟨rfl, hb3⟩
  have R3 : Blk w3 (w.heap.size + 1) #[.int .u64 0, .int .u64 0, .int .u64 0, .int .u64 0] 31 := Blk.below (by (repeat' (first | (with_reducible (first | assumption | exact Blk.alloc_new _ _ _ (by first | rfl | (simp; done) | omega) | apply Blk.drewN | apply Blk.drew | apply Blk.alloc_old | apply Blk.set_same | apply Blk.set_other)) | (show (_ : Nat) ≠ _; first | omega | (simp; done) | (simp; omega)) | ((simp only [List.setIfInBounds_toArray, List.set_cons_succ, List.set_cons_zero]); (with_reducible exact rfl)) | (with_reducible exact rfl) | (show (_ : Array Value) = _; exact rfl)))) hb3 (by first | (simp; done) | omega | (simp; omega))
  have g3 : Below w.heap.size w w3 := by refine Below.trans ?_ (hb3.mono ?_) <;> (repeat' (first | (with_reducible (first | exact Below.refl _ _ | assumption | refine below_drewN ?_ _ | refine Below.drew ?_ | refine Below.alloc ?_ ?_ _ | refine Below.setCell ?_ ?_ _)) | go_size))
  have hz3 := hb3.size
  (try simp at hz3)
  clear hb3
  replace cR := R3.cell
  replace fR := R3.frozen
  replace zR := R3.size
  go_wp2
  refine bodyPost_ret (v := nv c) (by simp [results, Try.results76, go_sem, cR]) rfl ⟨rfl, by (repeat' (first | (with_reducible (first | exact Below.refl _ _ | assumption | refine below_drewN ?_ _ | refine Below.drew ?_ | refine Below.alloc ?_ ?_ _ | refine Below.setCell ?_ ?_ _)) | go_size))⟩
set_option maxHeartbeats 400000 in
theorem rBit0 (a : Int) (i : Nat) (w : World) (h0 : 0 ≤ i) (h1 : i ≤ 31) :
    Calls Try.prog 77 #[nv a, .int .i64 i] w fun e w' => e = .returned (.int .u64 (dg0 a / 2 ^ i % 2)) ∧ Below w.heap.size w w' := by
  have r0 := dg0_rng a
  have hidx : ((i : Nat) : Int) / 32 = 0 := by omega
  have hmod : ((i : Nat) : Int) % 32 = (i : Int) := by omega
  go_enter Try.func77, Try.ntmps77
  go_wp2
  go_loop [5, 12] (fun v c => ∃ k : Nat, k ≤ i ∧ c = .int .i64 k ∧ v = .int .u64 (dg0 a / 2 ^ k)) (fun _ c => i - (intOf c).toNat)
  case atStart => exact ⟨0, Nat.zero_le _, rfl, by simp⟩
  case round =>
    obtain ⟨k, hk, rfl, rfl⟩ := hrel
    have hr : 0 ≤ dg0 a / 2 ^ k ∧ dg0 a / 2 ^ k ≤ 4294967295 := by
      have hp : (0 : Int) < 2 ^ k := Int.pow_pos (by omega)
      exact ⟨Int.ediv_nonneg r0.1 (by omega), Int.le_trans (Int.ediv_le_self _ r0.1) r0.2⟩
    have hs := hide (show dg0 a / 2 ^ (k + 1) = dg0 a / 2 ^ k / 2 by rw [Int.pow_succ, Int.ediv_ediv_of_nonneg (by exact Int.le_of_lt (Int.pow_pos (by omega)))])
    by_cases hlt : k < i
    · go_wp2
      go_round
      case rel => exact ⟨k + 1, by omega, by go_num, by rw [hs.out]⟩
      case measure => simp [intOf]; omega
    · obtain rfl : k = i := by omega
      go_wp2
      go_ret
      exact ⟨rfl, by (repeat' (first | (with_reducible (first | exact Below.refl _ _ | assumption | refine below_drewN ?_ _ | refine Below.drew ?_ | refine Below.alloc ?_ ?_ _ | refine Below.setCell ?_ ?_ _)) | go_size))⟩
set_option maxHeartbeats 400000 in
theorem rBit1 (a : Int) (i : Nat) (w : World) (h0 : 32 ≤ i) (h1 : i ≤ 63) :
    Calls Try.prog 77 #[nv a, .int .i64 i] w fun e w' => e = .returned (.int .u64 (dg1 a / 2 ^ (i - 32) % 2)) ∧ Below w.heap.size w w' := by
  have r0 := dg1_rng a
  have hidx : ((i : Nat) : Int) / 32 = 1 := by omega
  obtain ⟨m, hm⟩ : ∃ m : Nat, m = (i - 32) := ⟨_, rfl⟩
  have hmod : ((i : Nat) : Int) % 32 = (m : Int) := by omega
  have hb : 0 ≤ (i : Int) ∧ (i : Int) ≤ 127 := by omega
  rw [← hm]
  have hm2 : m ≤ 31 := by omega
  clear hm h0 h1
  go_enter Try.func77, Try.ntmps77
  go_wp2
  go_loop [5, 12] (fun v c => ∃ k : Nat, k ≤ m ∧ c = .int .i64 k ∧ v = .int .u64 (dg1 a / 2 ^ k)) (fun _ c => m - (intOf c).toNat)
  case atStart => exact ⟨0, Nat.zero_le _, rfl, by simp⟩
  case round =>
    obtain ⟨k, hk, rfl, rfl⟩ := hrel
    have hr : 0 ≤ dg1 a / 2 ^ k ∧ dg1 a / 2 ^ k ≤ 4294967295 := by
      have hp : (0 : Int) < 2 ^ k := Int.pow_pos (by omega)
      exact ⟨Int.ediv_nonneg r0.1 (by omega), Int.le_trans (Int.ediv_le_self _ r0.1) r0.2⟩
    have hs := hide (show dg1 a / 2 ^ (k + 1) = dg1 a / 2 ^ k / 2 by rw [Int.pow_succ, Int.ediv_ediv_of_nonneg (by exact Int.le_of_lt (Int.pow_pos (by omega)))])
    by_cases hlt : k < m
    · go_wp2
      go_round
      case rel => exact ⟨k + 1, by omega, by go_num, by rw [hs.out]⟩
      case measure => simp [intOf]; omega
    · obtain rfl : k = m := by omega
      go_wp2
      go_ret
      exact ⟨rfl, by (repeat' (first | (with_reducible (first | exact Below.refl _ _ | assumption | refine below_drewN ?_ _ | refine Below.drew ?_ | refine Below.alloc ?_ ?_ _ | refine Below.setCell ?_ ?_ _)) | go_size))⟩
set_option maxHeartbeats 400000 in
theorem rBit2 (a : Int) (i : Nat) (w : World) (h0 : 64 ≤ i) (h1 : i ≤ 95) :
    Calls Try.prog 77 #[nv a, .int .i64 i] w fun e w' => e = .returned (.int .u64 (dg2 a / 2 ^ (i - 64) % 2)) ∧ Below w.heap.size w w' := by
  have r0 := dg2_rng a
  have hidx : ((i : Nat) : Int) / 32 = 2 := by omega
  obtain ⟨m, hm⟩ : ∃ m : Nat, m = (i - 64) := ⟨_, rfl⟩
  have hmod : ((i : Nat) : Int) % 32 = (m : Int) := by omega
  have hb : 0 ≤ (i : Int) ∧ (i : Int) ≤ 127 := by omega
  rw [← hm]
  have hm2 : m ≤ 31 := by omega
  clear hm h0 h1
  go_enter Try.func77, Try.ntmps77
  go_wp2
  go_loop [5, 12] (fun v c => ∃ k : Nat, k ≤ m ∧ c = .int .i64 k ∧ v = .int .u64 (dg2 a / 2 ^ k)) (fun _ c => m - (intOf c).toNat)
  case atStart => exact ⟨0, Nat.zero_le _, rfl, by simp⟩
  case round =>
    obtain ⟨k, hk, rfl, rfl⟩ := hrel
    have hr : 0 ≤ dg2 a / 2 ^ k ∧ dg2 a / 2 ^ k ≤ 4294967295 := by
      have hp : (0 : Int) < 2 ^ k := Int.pow_pos (by omega)
      exact ⟨Int.ediv_nonneg r0.1 (by omega), Int.le_trans (Int.ediv_le_self _ r0.1) r0.2⟩
    have hs := hide (show dg2 a / 2 ^ (k + 1) = dg2 a / 2 ^ k / 2 by rw [Int.pow_succ, Int.ediv_ediv_of_nonneg (by exact Int.le_of_lt (Int.pow_pos (by omega)))])
    by_cases hlt : k < m
    · go_wp2
      go_round
      case rel => exact ⟨k + 1, by omega, by go_num, by rw [hs.out]⟩
      case measure => simp [intOf]; omega
    · obtain rfl : k = m := by omega
      go_wp2
      go_ret
      exact ⟨rfl, by (repeat' (first | (with_reducible (first | exact Below.refl _ _ | assumption | refine below_drewN ?_ _ | refine Below.drew ?_ | refine Below.alloc ?_ ?_ _ | refine Below.setCell ?_ ?_ _)) | go_size))⟩
set_option maxHeartbeats 400000 in
theorem rBit3 (a : Int) (i : Nat) (w : World) (h0 : 96 ≤ i) (h1 : i ≤ 127) :
    Calls Try.prog 77 #[nv a, .int .i64 i] w fun e w' => e = .returned (.int .u64 (dg3 a / 2 ^ (i - 96) % 2)) ∧ Below w.heap.size w w' := by
  have r0 := dg3_rng a
  have hidx : ((i : Nat) : Int) / 32 = 3 := by omega
  obtain ⟨m, hm⟩ : ∃ m : Nat, m = (i - 96) := ⟨_, rfl⟩
  have hmod : ((i : Nat) : Int) % 32 = (m : Int) := by omega
  have hb : 0 ≤ (i : Int) ∧ (i : Int) ≤ 127 := by omega
  rw [← hm]
  have hm2 : m ≤ 31 := by omega
  clear hm h0 h1
  go_enter Try.func77, Try.ntmps77
  go_wp2
  go_loop [5, 12] (fun v c => ∃ k : Nat, k ≤ m ∧ c = .int .i64 k ∧ v = .int .u64 (dg3 a / 2 ^ k)) (fun _ c => m - (intOf c).toNat)
  case atStart => exact ⟨0, Nat.zero_le _, rfl, by simp⟩
  case round =>
    obtain ⟨k, hk, rfl, rfl⟩ := hrel
    have hr : 0 ≤ dg3 a / 2 ^ k ∧ dg3 a / 2 ^ k ≤ 4294967295 := by
      have hp : (0 : Int) < 2 ^ k := Int.pow_pos (by omega)
      exact ⟨Int.ediv_nonneg r0.1 (by omega), Int.le_trans (Int.ediv_le_self _ r0.1) r0.2⟩
    have hs := hide (show dg3 a / 2 ^ (k + 1) = dg3 a / 2 ^ k / 2 by rw [Int.pow_succ, Int.ediv_ediv_of_nonneg (by exact Int.le_of_lt (Int.pow_pos (by omega)))])
    by_cases hlt : k < m
    · go_wp2
      go_round
      case rel => exact ⟨k + 1, by omega, by go_num, by rw [hs.out]⟩
      case measure => simp [intOf]; omega
    · obtain rfl : k = m := by omega
      go_wp2
      go_ret
      exact ⟨rfl, by (repeat' (first | (with_reducible (first | exact Below.refl _ _ | assumption | refine below_drewN ?_ _ | refine Below.drew ?_ | refine Below.alloc ?_ ?_ _ | refine Below.setCell ?_ ?_ _)) | go_size))⟩
/-- A number's bit. -/
def bitI (a : Int) (n : Nat) : Int := a / 2 ^ n % 2
theorem dig_bit (x m : Nat) (h : m ≤ 31) : x % 4294967296 / 2 ^ m % 2 = x / 2 ^ m % 2 := by
  have e : 4294967296 = 2 ^ m * 2 ^ (32 - m) := by rw [← Nat.pow_add, show m + (32 - m) = 32 by omega]
  rw [e, Nat.mod_mul_right_div_self, Nat.mod_mod_of_dvd]
  exact Nat.dvd_trans (show 2 ∣ 2 ^ 1 by decide) (Nat.pow_dvd_pow 2 (by omega))
theorem bit_of (a : Int) (ha : 0 ≤ a) (j m : Nat) (h : m ≤ 31) : a / 2 ^ (32 * j) % 4294967296 / 2 ^ m % 2 = bitI a (32 * j + m) := by
  obtain ⟨x, rfl⟩ := Int.eq_ofNat_of_zero_le ha
  have h1 := dig_bit (x / 2 ^ (32 * j)) m h
  rw [Nat.div_div_eq_div_mul, ← Nat.pow_add] at h1
  unfold bitI
  have c1 : ((x : Int) / 2 ^ (32 * j) % 4294967296 / 2 ^ m % 2) = ((x / 2 ^ (32 * j) % 4294967296 / 2 ^ m % 2 : Nat) : Int) := by simp
  have c2 : ((x : Int) / 2 ^ (32 * j + m) % 2) = ((x / 2 ^ (32 * j + m) % 2 : Nat) : Int) := by simp
  rw [c1, c2, h1]
theorem rBit (a : Int) (i : Nat) (w : World) (ha : In128 a) (h : i ≤ 127) :
    Calls Try.prog 77 #[nv a, .int .i64 i] w fun e w' => e = .returned (.int .u64 (bitI a i)) ∧ Below w.heap.size w w' := by
  rcases Nat.lt_or_ge i 32 with h0 | h0
  · have := rBit0 a i w (by omega) (by omega)
    rw [show dg0 a = a / 2 ^ (32 * 0) % 4294967296 by simp [dg0], bit_of a ha.1 0 i (by omega)] at this
    simpa using this
  · rcases Nat.lt_or_ge i 64 with h1 | h1
    · have := rBit1 a i w (by omega) (by omega)
      rw [show dg1 a = a / 2 ^ (32 * 1) % 4294967296 by simp [dg1], bit_of a ha.1 1 (i - 32) (by omega), show 32 * 1 + (i - 32) = i by omega] at this
      exact this
    · rcases Nat.lt_or_ge i 96 with h2 | h2
      · have := rBit2 a i w (by omega) (by omega)
        rw [show dg2 a = a / 2 ^ (32 * 2) % 4294967296 by simp [dg2], bit_of a ha.1 2 (i - 64) (by omega), show 32 * 2 + (i - 64) = i by omega] at this
        exact this
      · have := rBit3 a i w (by omega) (by omega)
        rw [show dg3 a = a / 2 ^ (32 * 3) % 4294967296 by simp [dg3], bit_of a ha.1 3 (i - 96) (by omega), show 32 * 3 + (i - 96) = i by omega] at this
        exact this
end Go.Proofs.Ytaaoadbcgnedkaa
