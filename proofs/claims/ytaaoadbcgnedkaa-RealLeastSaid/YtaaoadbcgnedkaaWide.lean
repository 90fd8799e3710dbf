/-
  The walks of package wide, but for Div and Text: what each function returns, as numbers. Conditions: arguments of 64 bits; a carry and a borrow of at most 1.
-/
import Derived.Test.YtaaoadbcgnedkaaRows
import Derived.Test.YtaaoadbcgnedkaaNum
namespace Go.Proofs.Ytaaoadbcgnedkaa
open Go.RowKit

theorem carry_bits (a b c : Int) (ha : 0 ≤ a) (ha' : a ≤ 18446744073709551615) (hb : 0 ≤ b) (hb' : b ≤ 18446744073709551615) (hc : 0 ≤ c) (hc' : c ≤ 1) :
    bits .or .u64 (bits .and .u64 a b) (bits .andNot .u64 (bits .or .u64 a b) (IntKind.u64.wrap (IntKind.u64.wrap (a + b) + c))) / 9223372036854775808 = (a + b + c) / 18446744073709551616 := by
  have hs : IntKind.u64.wrap (IntKind.u64.wrap (a + b) + c) = (a + b + c) % 18446744073709551616 := by simp only [IntKind.wrap_u64]; omega
  rw [hs]
  obtain ⟨x, rfl⟩ := Int.eq_ofNat_of_zero_le ha
  obtain ⟨y, rfl⟩ := Int.eq_ofNat_of_zero_le hb
  obtain ⟨z, rfl⟩ := Int.eq_ofNat_of_zero_le hc
  have hx : x < 18446744073709551616 := by omega
  have hy : y < 18446744073709551616 := by omega
  have e : ((x : Int) + y + z) % 18446744073709551616 = (((x + y + z) % 18446744073709551616 : Nat) : Int) := by omega
  have hor : x ||| y < 18446744073709551616 := Nat.or_lt_two_pow (n := 64) hx hy
  have hand : x &&& y < 18446744073709551616 := Nat.and_lt_two_pow (n := 64) x hy
  rw [e, u64_and_nat x y hx hy, u64_or_nat x y hx hy, u64_andNot_nat _ _ hor (by omega), u64_or_nat _ _ hand (Nat.and_lt_two_pow (n := 64) _ (by omega))]
  have := carry_nat x y z hx hy (by omega)
  omega
theorem not_nat (k : Nat) (hk : k < 18446744073709551616) : 18446744073709551615 ^^^ k = 18446744073709551615 - k := by
  apply Nat.eq_of_testBit_eq
  intro i
  rw [Nat.testBit_xor, show 18446744073709551615 - k = 2 ^ 64 - (k + 1) by omega, Nat.testBit_two_pow_sub_succ (by omega : k < 2 ^ 64), show 18446744073709551615 = 2 ^ 64 - 1 by decide, Nat.testBit_two_pow_sub_one]
  by_cases h : i < 64
  · simp [h]
  · simp [h]; exact Nat.testBit_lt_two_pow (Nat.lt_of_lt_of_le hk (Nat.pow_le_pow_right (n := 2) (by decide) (by omega : 64 ≤ i)))
/-- The borrow. -/
def brw (a b : Int) : Int := if a < b then 1 else 0
theorem brw_rng (a b : Int) : 0 ≤ brw a b ∧ brw a b ≤ 1 := by unfold brw; split <;> omega
theorem borrow_bits (a b c : Int) (ha : 0 ≤ a) (ha' : a ≤ 18446744073709551615) (hb : 0 ≤ b) (hb' : b ≤ 18446744073709551615) (hc : 0 ≤ c) (hc' : c ≤ 1) :
    bits .or .u64 (bits .and .u64 (bits .xor .u64 IntKind.u64.max a) b) (bits .and .u64 (bits .xor .u64 IntKind.u64.max (bits .xor .u64 a b)) (IntKind.u64.wrap (IntKind.u64.wrap (a - b) - c))) / 9223372036854775808 = brw a (b + c) := by
  have hs : IntKind.u64.wrap (IntKind.u64.wrap (a - b) - c) = (a - b - c) % 18446744073709551616 := by simp only [IntKind.wrap_u64]; omega
  rw [hs]
  obtain ⟨x, rfl⟩ := Int.eq_ofNat_of_zero_le ha
  obtain ⟨y, rfl⟩ := Int.eq_ofNat_of_zero_le hb
  obtain ⟨z, rfl⟩ := Int.eq_ofNat_of_zero_le hc
  have hx : x < 18446744073709551616 := by omega
  have hy : y < 18446744073709551616 := by omega
  obtain ⟨s, he⟩ := Int.eq_ofNat_of_zero_le (show (0 : Int) ≤ ((x : Int) - y - z) % 18446744073709551616 by omega)
  have hs' : s < 18446744073709551616 := by omega
  have hxor : x ^^^ y < 18446744073709551616 := Nat.xor_lt_two_pow (n := 64) hx hy
  have n1 : ∀ k : Nat, k < 18446744073709551616 → bits .xor .u64 IntKind.u64.max (k : Int) = ((18446744073709551615 - k : Nat) : Int) := by
    intro k hk
    rw [show IntKind.u64.max = ((18446744073709551615 : Nat) : Int) from rfl, u64_xor_nat _ _ (by decide) hk, not_nat k hk]
  rw [he, n1 x hx, u64_xor_nat x y hx hy, n1 _ hxor, u64_and_nat _ _ (by omega) hy, u64_and_nat _ _ (by omega) hs', u64_or_nat _ _ (Nat.and_lt_two_pow (n := 64) _ hy) (Nat.and_lt_two_pow (n := 64) _ hs')]
  have := borrow_nat x y z s hx hy (by omega) hs' he.symm
  unfold brw
  split at this <;> (split <;> omega)

theorem wadd (a b c : Int) (w : World) (ha : 0 ≤ a) (ha' : a ≤ 18446744073709551615) (hb : 0 ≤ b) (hb' : b ≤ 18446744073709551615) (hc : 0 ≤ c) (hc' : c ≤ 1) :
    Calls Try.prog 50 #[.int .u64 a, .int .u64 b, .int .u64 c] w fun e w' => e = .returned (.tuple #[.int .u64 ((a + b + c) % 18446744073709551616), .int .u64 ((a + b + c) / 18446744073709551616)]) ∧ w = w' := by
  go_enter Try.func50, Try.ntmps50
  go_wp2
  go_ret2
  exact ⟨ret2 (by simp only [IntKind.wrap_u64]; omega) (carry_bits a b c ha ha' hb hb' hc hc'), rfl⟩

theorem wsub (a b c : Int) (w : World) (ha : 0 ≤ a) (ha' : a ≤ 18446744073709551615) (hb : 0 ≤ b) (hb' : b ≤ 18446744073709551615) (hc : 0 ≤ c) (hc' : c ≤ 1) :
    Calls Try.prog 69 #[.int .u64 a, .int .u64 b, .int .u64 c] w fun e w' => e = .returned (.tuple #[.int .u64 ((a - b - c) % 18446744073709551616), .int .u64 (brw a (b + c))]) ∧ w = w' := by
  have hsg : IntKind.u64.signed = false := rfl
  go_enter Try.func69, Try.ntmps69
  go_wp2
  go_ret2
  exact ⟨ret2 (by simp only [IntKind.wrap_u64]; omega) (borrow_bits a b c ha ha' hb hb' hc hc'), rfl⟩

theorem wOf (v : Int) (w : World) (h0 : 0 ≤ v) (h1 : v ≤ 18446744073709551615) :
    Calls Try.prog 24 #[.int .u64 v] w fun e w' => e = .returned (wv v) ∧ Below w.heap.size w w' := by
  have e : wv v = .agg #[.int .u64 0, .int .u64 v] := (wv_eq (by omega) ⟨h0, h1⟩ (by omega)).symm
  rw [e]
  go_enter Try.func24, Try.ntmps24
  go_wp2
  go_returns
  exact ⟨rfl, by go_grown⟩
set_option maxHeartbeats 400000 in
theorem wAdd (a b : Int) (w : World) (ha : In128 a) (hb : In128 b) :
    Calls Try.prog 20 #[wv a, wv b] w fun e w' => e = .returned (.tuple #[wv (m128 (a + b)), .bool (decide (340282366920938463463374607431768211456 ≤ a + b))]) ∧ Below w.heap.size w w' := by
  have r1 := hi_rng a; have r2 := lo_rng a; have r3 := hi_rng b; have r4 := lo_rng b
  have ea := hide (hi_lo ha); have eb := hide (hi_lo hb)
  go_enter Try.func20, Try.ntmps20
  go_wp2_with (go_at_call 50; refine (wadd _ _ _ _ (by omega) (by omega) (by omega) (by omega) (by omega) (by omega)).mono ?_; rintro e w' ⟨rfl, rfl⟩)
  go_returns
  have ea' := ea.out; have eb' := eb.out
  exact ⟨ret_wb (by unfold In128 at ha hb; unfold hi lo m128 at *; omega) (by unfold In128 at ha hb; unfold hi lo m128 at *; omega) (by unfold In128 at ha hb; unfold hi lo at *; rw [Bool.eq_iff_iff]; simp only [bne_iff_ne, decide_eq_true_eq]; omega), by go_grown⟩
set_option maxHeartbeats 400000 in
theorem wSub (a b : Int) (w : World) (ha : In128 a) (hb : In128 b) :
    Calls Try.prog 64 #[wv a, wv b] w fun e w' => e = .returned (.tuple #[wv (m128 (a - b)), .bool (decide (a < b))]) ∧ Below w.heap.size w w' := by
  have r1 := hi_rng a; have r2 := lo_rng a; have r3 := hi_rng b; have r4 := lo_rng b
  have r5 := brw_rng (lo a) (lo b)
  have ea := hide (hi_lo ha); have eb := hide (hi_lo hb)
  go_enter Try.func64, Try.ntmps64
  go_wp2_with (go_at_call 69; refine (wsub _ _ _ _ (by omega) (by omega) (by omega) (by omega) (by omega) (by omega)).mono ?_; rintro e w' ⟨rfl, rfl⟩)
  go_returns
  have ea' := ea.out; have eb' := eb.out
  exact ⟨ret_wb (by unfold In128 at ha hb; unfold hi lo m128 brw at *; omega) (by unfold In128 at ha hb; unfold hi lo m128 at *; omega) (by unfold In128 at ha hb; unfold hi lo brw at *; rw [Bool.eq_iff_iff]; simp only [bne_iff_ne, decide_eq_true_eq]; omega), by go_grown⟩

theorem and32 (x : Int) (h : 0 ≤ x) (h' : x ≤ 18446744073709551615) : bits .and .u64 x 4294967295 = x % 4294967296 := by
  rw [u64_and x 4294967295 h (by omega) (by omega) (by omega), show (4294967295 : Int).toNat = 2 ^ 32 - 1 from rfl, Nat.and_two_pow_sub_one_eq_mod]
  omega
theorem or32 (x y : Int) (h : 0 ≤ x) (h' : x ≤ 18446744073709551615) (hx : x % 4294967296 = 0) (hy : 0 ≤ y) (hy' : y ≤ 4294967295) : bits .or .u64 x y = x + y := by
  rw [u64_or x y h (by omega) (by omega) (by omega), nat_join 32 _ _ (by omega) (by omega)]
  omega
theorem wMul (a b : Int) (w : World) (ha : 0 ≤ a) (ha' : a ≤ 18446744073709551615) (hb : 0 ≤ b) (hb' : b ≤ 18446744073709551615) :
    Calls Try.prog 49 #[.int .u64 a, .int .u64 b] w fun e w' => e = .returned (wv (a * b)) ∧ Below w.heap.size w w' := by
  go_enter Try.func49, Try.ntmps49
  go_wp2
  go_returns
  refine ⟨?_, by go_grown⟩
  have p1 := mul_parts a b
  have p0 := mul_rng64 a b ha ha' hb hb'
  have p2 := mul_rng (a / 4294967296) (b / 4294967296) (by omega) (by omega)
  have p3 := mul_rng (a / 4294967296) (b % 4294967296) (by omega) (by omega)
  have p4 := mul_rng (a % 4294967296) (b / 4294967296) (by omega) (by omega)
  have p5 := mul_rng (a % 4294967296) (b % 4294967296) (by omega) (by omega)
  rw [and32 a ha ha', and32 b hb hb']
  generalize a / 4294967296 * (b / 4294967296) = t at *
  generalize a / 4294967296 * (b % 4294967296) = q at *
  generalize a % 4294967296 * (b / 4294967296) = r at *
  generalize a % 4294967296 * (b % 4294967296) = p at *
  generalize a * b = n at *
  rw [IntWalk.u64_in t (by omega), IntWalk.u64_in q (by omega), IntWalk.u64_in r (by omega), IntWalk.u64_in p (by omega), IntWalk.u64_in (q + p / 4294967296) (by omega),
    and32 (q + p / 4294967296) (by omega) (by omega), and32 p (by omega) (by omega), IntWalk.u64_in (r + _) (by omega), IntWalk.u64_in (t + _) (by omega), IntWalk.u64_in (t + _ + _) (by omega),
    or32 _ _ (by rw [IntKind.wrap_u64]; omega) (by rw [IntKind.wrap_u64]; omega) (by rw [IntKind.wrap_u64]; omega) (by omega) (by omega), IntKind.wrap_u64]
  exact ret_w (by unfold hi; omega) (by unfold lo; omega)

/-- How two numbers compare. -/
def cmp (a b : Int) : Int := if a < b then -1 else if a = b then 0 else 1
theorem wCompare (a b : Int) (w : World) (ha : In128 a) (hb : In128 b) :
    Calls Try.prog 23 #[wv a, wv b] w fun e w' => e = .returned (.int .i64 (cmp a b)) ∧ Below w.heap.size w w' := by
  have r1 := hi_rng a; have r2 := lo_rng a; have r3 := hi_rng b; have r4 := lo_rng b
  have ea := hide (hi_lo ha); have eb := hide (hi_lo hb)
  rcases Int.lt_or_le (hi a) (hi b) with h1 | h1
  · go_enter Try.func23, Try.ntmps23
    go_wp2
    go_ret
    have ea' := ea.out; have eb' := eb.out
    exact ⟨reti (by unfold cmp; rw [if_pos (by omega)]), by go_grown⟩
  · rcases Int.lt_or_le (hi b) (hi a) with h2 | h2
    · have hne : ¬ (hi a = hi b) := by omega
      go_enter Try.func23, Try.ntmps23
      go_wp2
      go_ret
      have ea' := ea.out; have eb' := eb.out
      exact ⟨reti (by unfold cmp; rw [if_neg (by omega), if_neg (by omega)]), by go_grown⟩
    · have hne : hi a = hi b := by omega
      rcases Int.lt_or_le (lo a) (lo b) with h3 | h3
      · go_enter Try.func23, Try.ntmps23
        go_wp2
        go_ret
        have ea' := ea.out; have eb' := eb.out
        exact ⟨reti (by unfold cmp; rw [if_pos (by omega)]), by go_grown⟩
      · by_cases h4 : lo a = lo b
        · go_enter Try.func23, Try.ntmps23
          go_wp2
          go_ret
          have ea' := ea.out; have eb' := eb.out
          exact ⟨reti (by unfold cmp; rw [if_neg (by omega), if_pos (by omega)]), by go_grown⟩
        · go_enter Try.func23, Try.ntmps23
          go_wp2
          go_ret
          have ea' := ea.out; have eb' := eb.out
          exact ⟨reti (by unfold cmp; rw [if_neg (by omega), if_neg (by omega)]), by go_grown⟩
end Go.Proofs.Ytaaoadbcgnedkaa
