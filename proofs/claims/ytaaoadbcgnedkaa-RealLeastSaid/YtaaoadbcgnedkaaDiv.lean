/-
  The walk of wide.Div: the quotient and the rest. Conditions: arguments in range.
-/
import Derived.Test.YtaaoadbcgnedkaaWide
namespace Go.Proofs.Ytaaoadbcgnedkaa
open Go.RowKit

theorem shl_or (x y : Int) (hy : 0 ≤ y) (hy' : y ≤ 18446744073709551615) :
    bits .or .u64 (IntKind.u64.wrap (x * 2)) (y / 9223372036854775808) = (x * 2 + y / 9223372036854775808) % 18446744073709551616 := by
  rw [u64_or _ _ (by rw [IntKind.wrap_u64]; omega) (by rw [IntKind.wrap_u64]; omega) (by omega) (by omega), nat_join 1 _ _ (by rw [IntKind.wrap_u64]; omega) (by omega), IntKind.wrap_u64]
  omega
theorem shl_hi (n : Int) : bits .or .u64 (IntKind.u64.wrap (hi n * 2)) (lo n / 9223372036854775808) = hi (m128 (n * 2)) := by
  have := lo_rng n
  rw [shl_or _ _ this.1 this.2]; unfold hi lo m128; omega
theorem shl_lo (n : Int) : IntKind.u64.wrap (lo n * 2) = lo (m128 (n * 2)) := by
  rw [IntKind.wrap_u64]; unfold lo m128; omega
theorem or_one (n : Int) : bits .or .u64 (lo (m128 (n * 2))) 1 = lo (m128 (n * 2) + 1) := by
  have h := lo_rng (m128 (n * 2))
  rw [u64_or _ _ h.1 (by omega) (by omega) (by omega), nat_join 1 _ _ (by unfold lo m128; omega) (by decide)]
  unfold lo m128 at *; omega
theorem hi_one (n : Int) : hi (m128 (n * 2) + 1) = hi (m128 (n * 2)) := by unfold hi m128; omega
theorem two_pow_le {k : Nat} (h : k ≤ 127) : (2 : Int) ^ k ≤ 170141183460469231731687303715884105728 := by
  have := Nat.pow_le_pow_right (n := 2) (by decide) h
  have e : (2 : Nat) ^ 127 = 170141183460469231731687303715884105728 := by decide
  rw [e] at this
  have h2 : ((2 ^ k : Nat) : Int) = (2 : Int) ^ k := Int.natCast_pow 2 k
  omega

/-- Behind k rounds: the first k bits of A are divided, R is what is left of it, shifted. -/
def DivRel (A b : Int) (k : Nat) (R q rest : Int) : Prop :=
  In128 R ∧ In128 q ∧ ∃ P : Int, P < 2 ^ k ∧ A * 2 ^ k = P * 340282366920938463463374607431768211456 + R ∧ q * b + rest = P ∧ 0 ≤ rest ∧ rest < b
theorem DivRel.start {A b : Int} (hA : In128 A) (hb : 1 ≤ b) : DivRel A b 0 A 0 0 :=
  ⟨hA, by unfold In128; omega, 0, by simp, by simp, by simp, by omega, by omega⟩
theorem DivRel.rest_rng {A b : Int} {k : Nat} {R q rest : Int} (h : DivRel A b k R q rest) : 0 ≤ rest ∧ rest < b := by
  obtain ⟨_, _, _, _, _, _, h⟩ := h; exact h
theorem DivRel.step {A b : Int} {k : Nat} {R q rest : Int} (h : DivRel A b k R q rest) (hk : k < 128) (hb : 1 ≤ b) :
    (rest * 2 + hi R / 9223372036854775808 < b → DivRel A b (k + 1) (m128 (R * 2)) (m128 (q * 2)) (rest * 2 + hi R / 9223372036854775808)) ∧
    (b ≤ rest * 2 + hi R / 9223372036854775808 → DivRel A b (k + 1) (m128 (R * 2)) (m128 (q * 2) + 1) (rest * 2 + hi R / 9223372036854775808 - b)) := by
  obtain ⟨hR, hq, P, hP, hX, hQ, h0, h1⟩ := h
  have h2 := two_pow_le (k := k) (by omega)
  have hqP : q ≤ q * b := by
    have := Int.mul_le_mul_of_nonneg_left hb hq.1
    omega
  have e1 : A * 2 ^ (k + 1) = A * 2 ^ k * 2 := by rw [Int.pow_succ, Int.mul_assoc]
  have e2 : (2 : Int) ^ (k + 1) = 2 ^ k * 2 := Int.pow_succ 2 k
  have hq2 : m128 (q * 2) = q * 2 := m128_of (by unfold In128 at *; omega)
  have e3 : q * 2 * b = q * b * 2 := by rw [Int.mul_right_comm]
  have e4 : (q * 2 + 1) * b = q * b * 2 + b := by rw [Int.add_mul, e3, Int.one_mul]
  refine ⟨fun hc => ⟨m128_in _, m128_in _, P * 2 + hi R / 9223372036854775808, ?_, ?_, ?_, ?_, hc⟩, fun hc => ⟨m128_in _, ?_, P * 2 + hi R / 9223372036854775808, ?_, ?_, ?_, ?_, ?_⟩⟩
  · rw [e2]; unfold hi; omega
  · rw [e1, hX]; unfold In128 at hR; unfold hi m128; omega
  · rw [hq2, e3]; omega
  · unfold hi; omega
  · rw [hq2]; unfold In128 at *; omega
  · rw [e2]; unfold hi; omega
  · rw [e1, hX]; unfold In128 at hR; unfold hi m128; omega
  · rw [hq2, e4]; omega
  · omega
  · unfold In128 at hR; unfold hi; omega
theorem DivRel.fin {A b : Int} {R q rest : Int} (h : DivRel A b 128 R q rest) (hb : 1 ≤ b) : q = A / b ∧ rest = A % b := by
  obtain ⟨hR, _, P, _, hX, hQ, h0, h1⟩ := h
  rw [show (2 : Int) ^ 128 = 340282366920938463463374607431768211456 from by decide] at hX
  have hPA : P = A := by unfold In128 at hR; omega
  subst hPA
  subst hQ
  refine ⟨?_, ?_⟩
  · rw [Int.add_comm, Int.add_mul_ediv_right _ _ (by omega), Int.ediv_eq_zero_of_lt h0 h1]; omega
  · rw [Int.add_comm, Int.add_mul_emod_self_right, Int.emod_eq_of_lt h0 h1]

set_option maxRecDepth 100000 in
set_option maxHeartbeats 1000000 in
theorem wDiv (A b : Int) (w : World) (hA : In128 A) (hb : 1 ≤ b) (hb' : b ≤ 18446744073709551615) :
    Calls Try.prog 70 #[wv A, .int .u64 b] w fun e w' => e = .returned (.tuple #[wv (A / b), .int .u64 (A % b), .int .i64 0]) ∧ Below w.heap.size w w' := by
  have hb0 : (b == 0) = false := beq_eq_false_iff_ne.2 (by omega)
  go_enter Try.func70, Try.ntmps70
  go_wp2
  go_loopw [8, 13] (fun r i wr => ∃ (k : Nat) (R q rest : Int), k ≤ 128 ∧ DivRel A b k R q rest ∧ i = .int .i64 k ∧ r = .int .u64 rest ∧
      wr = ((w.alloc (.cells #[.int .u64 (hi R), .int .u64 (lo R)] 26)).alloc (.cells #[.int .u64 0, .int .u64 0] 26)).alloc (.cells #[.int .u64 (hi q), .int .u64 (lo q)] 26)) (fun _ i _ => 128 - (intOf i).toNat)
  case atStart => exact ⟨0, A, 0, 0, by omega, DivRel.start hA hb, rfl, rfl, rfl⟩
  case round =>
    obtain ⟨k, R, q, rest, hk, hrel, rfl, rfl, rfl⟩ := hrel
    have r1 := hi_rng R; have r2 := lo_rng R; have r3 := hi_rng q; have r4 := lo_rng q
    obtain ⟨h0, h1⟩ := hrel.rest_rng
    by_cases hlt : k < 128
    · have hst := hide (hrel.step hlt hb)
      have hH := hide hrel; clear hrel
      have e1 := shl_hi R; have e2 := shl_lo R; have e3 := shl_hi q; have e4 := shl_lo q; have e5 := or_one q
      have r5 := hi_rng (m128 (R * 2)); have r6 := lo_rng (m128 (R * 2)); have r7 := hi_rng (m128 (q * 2)); have r8 := lo_rng (m128 (q * 2))
      obtain ⟨x, hx⟩ : ∃ x, bits .or .u64 (IntKind.u64.wrap (rest * 2)) (hi R / 9223372036854775808) = x := ⟨_, rfl⟩
      have hx' := hide (hx.symm.trans (shl_or _ _ r1.1 r1.2))
      have hxr : 0 ≤ x ∧ x ≤ 18446744073709551615 := by have := hx'.out; omega
      have ehi := hide (hi_one q)
      rcases Int.lt_or_le rest 9223372036854775808 with hc | hc
      · have hd : (rest / 9223372036854775808 != 0) = false := by rw [bne_eq_false_iff_eq]; omega
        have hxe : x = rest * 2 + hi R / 9223372036854775808 := by have := hx'.out; omega
        have hxe' := hide hxe; clear hxe
        rw [IntWalk.u64_in (rest * 2) (by omega)] at hx
        rcases Int.lt_or_le x b with hc2 | hc2
        · have hd2 : decide (b ≤ x) = false := decide_eq_false (by omega)
          go_wp2
          go_roundw
          case rel => exact ⟨k + 1, m128 (R * 2), m128 (q * 2), x, by omega, by rw [hxe'.out]; exact hst.out.1 (by rw [← hxe'.out]; exact hc2), by go_num, rfl, rfl⟩
          case measure => simp [intOf]; omega
        · have hd2 : decide (b ≤ x) = true := decide_eq_true (by omega)
          go_wp2
          go_roundw
          case rel => exact ⟨k + 1, m128 (R * 2), m128 (q * 2) + 1, x - b, by omega, by rw [hxe'.out]; exact hst.out.2 (by rw [← hxe'.out]; exact hc2), by go_num, rfl, by rw [ehi.out]⟩
          case measure => simp [intOf]; omega
      · have hd : (rest / 9223372036854775808 != 0) = true := by rw [bne_iff_ne]; omega
        have hxw : IntKind.u64.wrap (x - b) = rest * 2 + hi R / 9223372036854775808 - b := by rw [IntKind.wrap_u64, hx'.out]; omega
        have hxw' := hide hxw; clear hxw
        go_wp2
        go_roundw
        case rel => exact ⟨k + 1, m128 (R * 2), m128 (q * 2) + 1, IntKind.u64.wrap (x - b), by omega, by rw [hxw'.out]; exact hst.out.2 (by omega), by go_num, rfl, by rw [ehi.out]⟩
        case measure => simp [intOf]; omega
    · obtain rfl : k = 128 := by omega
      obtain ⟨f1, f2⟩ := hrel.fin hb
      have f1' := hide f1; have f2' := hide f2; clear f1 f2 hrel
      go_wp2
      go_returns
      exact ⟨by rw [← f1'.out, ← f2'.out], by go_grown⟩
theorem wDiv0 (A : Int) (w : World) :
    Calls Try.prog 70 #[wv A, .int .u64 0] w fun e w' => e = .returned (.tuple #[wv 0, .int .u64 0, .int .i64 1]) ∧ Below w.heap.size w w' := by
  have e : wv 0 = .agg #[.int .u64 0, .int .u64 0] := (wv_eq (by omega) (by omega) (by omega)).symm
  rw [e]
  go_enter Try.func70, Try.ntmps70
  go_wp2
  go_returns
  exact ⟨rfl, by go_grown⟩
end Go.Proofs.Ytaaoadbcgnedkaa
