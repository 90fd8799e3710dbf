/-
  Exclusive or in plain numbers. No program in sight. Conditions: numbers in range.
-/
import Derived.Test.YtljpiofpfankoaaIpC
namespace Go.Proofs.Ytljpiofpfankoaa
open Go.RowKit Go.Sort
set_option linter.unusedVariables false
set_option linter.unusedSimpArgs false
def xN (a b : Int) : Int := ((a.toNat ^^^ b.toNat : Nat) : Int)
theorem bits_xor_nat (k : IntKind) (j : Nat) (hj : j ≤ k.bits) (hk : ∀ n : Int, 0 ≤ n → n < 2 ^ j → k.wrap n = n) (a b : Nat) (ha : a < 2 ^ j) (hb : b < 2 ^ j) : bits .xor k a b = ((a ^^^ b : Nat) : Int) := by
  have hp : 2 ^ j ≤ 2 ^ k.bits := Nat.pow_le_pow_right (by decide) hj
  have ha' : a % 2 ^ k.bits = a := Nat.mod_eq_of_lt (Nat.lt_of_lt_of_le ha hp)
  have hb' : b % 2 ^ k.bits = b := Nat.mod_eq_of_lt (Nat.lt_of_lt_of_le hb hp)
  have cast : ∀ n : Nat, n < 2 ^ j → ((n : Nat) : Int) < 2 ^ j := fun n h => by exact_mod_cast h
  simp only [bits, BitVec.ofInt_natCast, BitVec.toNat_xor, BitVec.toNat_ofNat, ha', hb']
  exact hk _ (Int.natCast_nonneg _) (cast _ (Nat.xor_lt_two_pow ha hb))
theorem xor32 {a b : Int} (ha : 0 ≤ a ∧ a ≤ 4294967295) (hb : 0 ≤ b ∧ b ≤ 4294967295) : bits .xor .u32 a b = xN a b := by
  obtain ⟨m, rfl⟩ := Int.eq_ofNat_of_zero_le ha.1
  obtain ⟨n, rfl⟩ := Int.eq_ofNat_of_zero_le hb.1
  exact bits_xor_nat .u32 32 (by decide) (fun n h0 h1 => by rw [IntKind.wrap_u32]; omega) m n (by omega) (by omega)
theorem xor16 {a b : Int} (ha : 0 ≤ a ∧ a ≤ 65535) (hb : 0 ≤ b ∧ b ≤ 65535) : bits .xor .u16 a b = xN a b := by
  obtain ⟨m, rfl⟩ := Int.eq_ofNat_of_zero_le ha.1
  obtain ⟨n, rfl⟩ := Int.eq_ofNat_of_zero_le hb.1
  exact bits_xor_nat .u16 16 (by decide) (fun n h0 h1 => by simp [IntKind.wrap, IntKind.bits, IntKind.signed]; omega) m n (by omega) (by omega)
theorem xN_rng {a b : Int} {j : Nat} (ha : 0 ≤ a ∧ a < 2 ^ j) (hb : 0 ≤ b ∧ b < 2 ^ j) : 0 ≤ xN a b ∧ xN a b < 2 ^ j := by
  obtain ⟨m, rfl⟩ := Int.eq_ofNat_of_zero_le ha.1
  obtain ⟨n, rfl⟩ := Int.eq_ofNat_of_zero_le hb.1
  refine ⟨Int.natCast_nonneg _, ?_⟩
  have h1 : m < 2 ^ j := by exact_mod_cast ha.2
  have h2 : n < 2 ^ j := by exact_mod_cast hb.2
  have := Nat.xor_lt_two_pow h1 h2
  unfold xN
  exact_mod_cast this
theorem xN_16 {a b : Int} (ha : 0 ≤ a ∧ a ≤ 65535) (hb : 0 ≤ b ∧ b ≤ 65535) : 0 ≤ xN a b ∧ xN a b ≤ 65535 := by
  have := xN_rng (j := 16) (a := a) (b := b) (by omega) (by omega)
  omega
theorem xN_32 {a b : Int} (ha : 0 ≤ a ∧ a ≤ 4294967295) (hb : 0 ≤ b ∧ b ≤ 4294967295) : 0 ≤ xN a b ∧ xN a b ≤ 4294967295 := by
  have := xN_rng (j := 32) (a := a) (b := b) (by omega) (by omega)
  omega
theorem xN_comm (a b : Int) : xN a b = xN b a := by unfold xN; rw [Nat.xor_comm]
/-- One more bit of an exclusive or. -/
theorem xbit (a b i : Nat) : (a ^^^ b) % 2 ^ (i + 1) = (a ^^^ b) % 2 ^ i + (if a / 2 ^ i % 2 ≠ b / 2 ^ i % 2 then 2 ^ i else 0) := by
  rw [Nat.mod_pow_succ]
  have h1 := Nat.testBit_xor a b i
  rw [Nat.testBit_eq_decide_div_mod_eq, Nat.testBit_eq_decide_div_mod_eq, Nat.testBit_eq_decide_div_mod_eq] at h1
  have ha : a / 2 ^ i % 2 = 0 ∨ a / 2 ^ i % 2 = 1 := by omega
  have hb : b / 2 ^ i % 2 = 0 ∨ b / 2 ^ i % 2 = 1 := by omega
  have hx : (a ^^^ b) / 2 ^ i % 2 = 0 ∨ (a ^^^ b) / 2 ^ i % 2 = 1 := by omega
  rcases ha with ha | ha <;> rcases hb with hb | hb <;> rcases hx with hx | hx <;> simp [ha, hb, hx] at h1 ⊢
theorem xN_split {a b : Int} (ha : 0 ≤ a) (hb : 0 ≤ b) : xN a b / 65536 = xN (a / 65536) (b / 65536) ∧ xN a b % 65536 = xN (a % 65536) (b % 65536) := by
  obtain ⟨m, rfl⟩ := Int.eq_ofNat_of_zero_le ha
  obtain ⟨n, rfl⟩ := Int.eq_ofNat_of_zero_le hb
  have e1 : (((m : Int) / 65536).toNat) = m / 2 ^ 16 := by omega
  have e2 : (((n : Int) / 65536).toNat) = n / 2 ^ 16 := by omega
  have e3 : (((m : Int) % 65536).toNat) = m % 2 ^ 16 := by omega
  have e4 : (((n : Int) % 65536).toNat) = n % 2 ^ 16 := by omega
  unfold xN
  rw [e1, e2, e3, e4, Int.toNat_natCast, Int.toNat_natCast]
  constructor
  · have : (m ^^^ n) / 2 ^ 16 = m / 2 ^ 16 ^^^ n / 2 ^ 16 := by
      apply Nat.eq_of_testBit_eq; intro i
      rw [Nat.testBit_xor, Nat.testBit_div_two_pow, Nat.testBit_div_two_pow, Nat.testBit_div_two_pow, Nat.testBit_xor]
    rw [← this]; omega
  · have : (m ^^^ n) % 2 ^ 16 = m % 2 ^ 16 ^^^ n % 2 ^ 16 := Nat.xor_mod_two_pow
    rw [← this]; omega
theorem xN_four {a b c d : Int} : xN (xN a b) (xN c d) = xN (xN a c) (xN b d) := by
  unfold xN
  simp only [Int.toNat_natCast]
  congr 1
  rw [Nat.xor_assoc, Nat.xor_assoc]
  congr 1
  rw [← Nat.xor_assoc, Nat.xor_comm b.toNat c.toNat, Nat.xor_assoc]
theorem mixed_eq {s d : Int} (hs : 0 ≤ s) (hd : 0 ≤ d) : xN (xN s d / 65536) (xN s d % 65536) = xN (xN (s / 65536) (s % 65536)) (xN (d / 65536) (d % 65536)) := by
  obtain ⟨h1, h2⟩ := xN_split hs hd
  rw [h1, h2, xN_four]
/-- By what a datagram is known. -/
def portB (h : HD) (b : List Int) : Prop := (h.pr = 6 ∨ h.pr = 17) ∧ h.off = 0 ∧ 4 ≤ b.length
instance (h : HD) (b : List Int) : Decidable (portB h b) := by unfold portB; infer_instance
structure K4 where
  (a b c d : Int)
def keyL (h : HD) (b : List Int) : K4 := ⟨h.pr * 256 + h.tos / 4, if portB h b then b.getD 0 0 * 256 + b.getD 1 0 else 0, if portB h b then b.getD 2 0 * 256 + b.getD 3 0 else 0, xN (xN h.src h.dst / 65536) (xN h.src h.dst % 65536)⟩
abbrev kv (k : K4) : Value := .agg #[.int .u16 k.a, .int .u16 k.b, .int .u16 k.c, .int .u16 k.d]
end Go.Proofs.Ytljpiofpfankoaa
