/-
  The walks of package bound, and of the statements' own word 'over'. Conditions: arguments of 64 bits; a slice whose cells are known.
-/
import Derived.Test.YtkegfnbjeafliaaRows
import Derived.Test.YtkegfnbjeafliaaNum
import Derived.Deep.QuietTactic
import Derived.BigQuiet
namespace Go.Proofs.Ytkegfnbjeafliaa
open Go.RowKit
set_option linter.unusedVariables false

theorem bAdd_ok (a b m : Int) (w : World) (ha : 0 ≤ a) (ha' : a ≤ 18446744073709551615) (hb : 0 ≤ b) (hb' : b ≤ 18446744073709551615) (hm : 0 ≤ m) (hm' : m ≤ 18446744073709551615) (h : a + b ≤ m) :
    Calls Try.prog 21 #[.int .u64 a, .int .u64 b, .int .u64 m] w fun e w' => e = .returned (.tuple #[.int .u64 (a + b), .int .i64 0]) ∧ w = w' := by
  have h1 : decide (m < a) = false := decide_eq_false (by omega)
  have h2 : decide (m - a < b) = false := decide_eq_false (by omega)
  have h3 : 0 ≤ m - a := by omega
  have h4 : a + b ≤ 18446744073709551615 := by omega
  go_enter Try.func21, Try.ntmps21
  go_wp2
  go_returns
  exact ⟨rfl, rfl⟩
theorem bAdd_no (a b m : Int) (w : World) (ha : 0 ≤ a) (ha' : a ≤ 18446744073709551615) (hb : 0 ≤ b) (hb' : b ≤ 18446744073709551615) (hm : 0 ≤ m) (hm' : m ≤ 18446744073709551615) (h : m < a + b) :
    Calls Try.prog 21 #[.int .u64 a, .int .u64 b, .int .u64 m] w fun e w' => e = .returned (.tuple #[.int .u64 0, .int .i64 20]) ∧ w = w' := by
  rcases Int.lt_or_le m a with hc | hc
  · have h1 : decide (m < a) = true := decide_eq_true hc
    go_enter Try.func21, Try.ntmps21
    go_wp2
    go_returns
    exact ⟨rfl, rfl⟩
  · have h1 : decide (m < a) = false := decide_eq_false (by omega)
    have h2 : decide (m - a < b) = true := decide_eq_true (by omega)
    have h3 : 0 ≤ m - a := by omega
    go_enter Try.func21, Try.ntmps21
    go_wp2
    go_returns
    exact ⟨rfl, rfl⟩
theorem bSub_ok (a b : Int) (w : World) (ha' : a ≤ 18446744073709551615) (hb : 0 ≤ b) (h : b ≤ a) :
    Calls Try.prog 22 #[.int .u64 a, .int .u64 b] w fun e w' => e = .returned (.tuple #[.int .u64 (a - b), .int .i64 0]) ∧ w = w' := by
  have h1 : decide (a < b) = false := decide_eq_false (by omega)
  go_enter Try.func22, Try.ntmps22
  go_wp2
  go_returns
  exact ⟨rfl, rfl⟩
theorem bSub_no (a b : Int) (w : World) (h : a < b) :
    Calls Try.prog 22 #[.int .u64 a, .int .u64 b] w fun e w' => e = .returned (.tuple #[.int .u64 0, .int .i64 20]) ∧ w = w' := by
  have h1 : decide (a < b) = true := decide_eq_true h
  go_enter Try.func22, Try.ntmps22
  go_wp2
  go_returns
  exact ⟨rfl, rfl⟩
theorem bMul_ok (a b m : Int) (w : World) (ha : 0 ≤ a) (hb : 0 ≤ b) (hm : 0 ≤ m) (hm' : m ≤ 18446744073709551615) (h : a * b ≤ m) :
    Calls Try.prog 16 #[.int .u64 a, .int .u64 b, .int .u64 m] w fun e w' => e = .returned (.tuple #[.int .u64 (a * b), .int .i64 0]) ∧ w = w' := by
  have h3 : 0 ≤ a * b := Int.mul_nonneg ha hb
  have h4 : a * b ≤ 18446744073709551615 := by omega
  by_cases h0 : b = 0
  · subst h0
    go_enter Try.func16, Try.ntmps16
    go_wp2
    go_returns
    exact ⟨by simp, rfl⟩
  · have hb1 : 1 ≤ b := by omega
    have h1 : (b != 0) = true := bne_iff_ne.2 h0
    have h5 : (b == 0) = false := beq_eq_false_iff_ne.2 h0
    have h2 : decide (m / b < a) = false := decide_eq_false (by have := (Int.le_ediv_iff_mul_le (a := a) (b := m) (c := b) (by omega)).2 h; omega)
    go_enter Try.func16, Try.ntmps16
    go_wp2
    go_returns
    exact ⟨rfl, rfl⟩
theorem bMul_no (a b m : Int) (w : World) (ha : 0 ≤ a) (hb : 0 ≤ b) (hm : 0 ≤ m) (hm' : m ≤ 18446744073709551615) (h : m < a * b) :
    Calls Try.prog 16 #[.int .u64 a, .int .u64 b, .int .u64 m] w fun e w' => e = .returned (.tuple #[.int .u64 0, .int .i64 20]) ∧ w = w' := by
  have h0 : b ≠ 0 := by rintro rfl; simp at h; omega
  have hb1 : 1 ≤ b := by omega
  have h1 : (b != 0) = true := bne_iff_ne.2 h0
  have h5 : (b == 0) = false := beq_eq_false_iff_ne.2 h0
  have h2 : decide (m / b < a) = true := decide_eq_true (by
    rcases Int.lt_or_le (m / b) a with h | h'
    · exact h
    · have := (Int.le_ediv_iff_mul_le (a := a) (b := m) (c := b) (by omega)).1 h'; omega)
  clear h
  go_enter Try.func16, Try.ntmps16
  go_wp2
  go_returns
  exact ⟨rfl, rfl⟩

/-- The least of numbers, and 2^63. -/
def lst (zs : List Int) : Int := zs.foldl min 9223372036854775808
theorem lst_snoc (zs : List Int) (z : Int) : lst (zs ++ [z]) = min (lst zs) z := by unfold lst; simp
theorem lst_rng {zs : List Int} (h : ∀ z ∈ zs, 0 ≤ z ∧ z ≤ 18446744073709551615) : 0 ≤ lst zs ∧ lst zs ≤ 9223372036854775808 := by
  unfold lst
  suffices ∀ (m : Int), 0 ≤ m → m ≤ 9223372036854775808 → 0 ≤ zs.foldl min m ∧ zs.foldl min m ≤ 9223372036854775808 from this _ (by omega) (by omega)
  induction zs with
  | nil => intro m h0 h1; exact ⟨h0, h1⟩
  | cons z zs ih =>
    intro m h0 h1
    have hz := h z (by simp)
    exact ih (fun y hy => h y (by simp [hy])) _ (by omega) (by omega)
/-- A slice of numbers: its cells. -/
def Row64 (w : World) (a : Option Addr) (len : Nat) (zs : List Int) : Prop :=
  zs.length = len ∧ (len = 0 ∨ ∃ b off, a = some ⟨b, off, none⟩ ∧ ∀ i, i < len → w.cell? ⟨b, off + i, none⟩ = some (.int .u64 (zs.getD i 0)))
theorem take_snoc' (zs : List Int) (k : Nat) (h : k < zs.length) : zs.take (k + 1) = zs.take k ++ [zs.getD k 0] := by
  rw [List.take_succ_eq_append_getElem h]; simp [h]
set_option maxHeartbeats 400000 in
theorem bLeast (a : Option Addr) (len cap : Nat) (zs : List Int) (w : World) (hr : Row64 w a len zs) (hm : len ≤ 9223372036854775807) (hz : ∀ z ∈ zs, 0 ≤ z ∧ z ≤ 18446744073709551615) :
    Calls Try.prog 18 #[.slice a len cap] w fun e w' => e = .returned (.int .u64 (lst zs)) ∧ w = w' := by
  obtain ⟨hlen, hr⟩ := hr
  have hl0 : lst (zs.take 0) = 9223372036854775808 := rfl
  have hfin := hide (show zs.take len = zs from List.take_of_length_le (by omega))
  have hz' := hide hz; clear hz
  have hlen' := hide hlen; clear hlen
  have hr' := hide hr; clear hr
  go_enter Try.func18, Try.ntmps18
  go_wp2
  go_loop [3, 8] (fun t i => ∃ k : Nat, k ≤ len ∧ i = .int .i64 k ∧ t = .int .u64 (lst (zs.take k))) (fun _ i => len - (intOf i).toNat)
  case atStart => exact ⟨0, Nat.zero_le _, rfl, rfl⟩
  case round =>
    obtain ⟨k, hk, rfl, rfl⟩ := hrel
    by_cases hlt : k < len
    · have hs := take_snoc' zs k (by rw [hlen'.out]; exact hlt)
      have hg : 0 ≤ zs.getD k 0 ∧ zs.getD k 0 ≤ 18446744073709551615 := hz'.out _ (by have hq : k < zs.length := (by rw [hlen'.out]; exact hlt); simp [hq])
      have hmn := hide (show lst (zs.take (k + 1)) = min (lst (zs.take k)) (zs.getD k 0) by rw [hs, lst_snoc]); clear hs
      obtain ⟨b, off, rfl, hc⟩ : ∃ b off, a = some ⟨b, off, none⟩ ∧ ∀ i, i < len → w.cell? ⟨b, off + i, none⟩ = some (.int .u64 (zs.getD i 0)) := by
        rcases hr'.out with h | h
        · omega
        · exact h
      have hcell := hc k hlt
      clear hc
      go_wp2
      go_round
      case rel => exact ⟨k + 1, by omega, by go_num, by rw [hmn.out]; refine congrArg _ ?_; show (if zs.getD k 0 < _ then zs.getD k 0 else _) = _; split <;> omega⟩
      case measure => simp [intOf]; omega
    · obtain rfl : k = len := by omega
      go_wp2
      go_ret
      exact ⟨reti (by rw [hfin.out]), rfl⟩
theorem over_true (w : World) :
    Calls Try.prog 17 #[] w fun e w' => e = .returned (.bool true) ∧ Below w.heap.size w w' := by
  go_enter Try.func17, Try.ntmps17
  go_wp2_with fail
  refine (bAdd_no _ _ _ _ (by omega) (by omega) (by omega) (by omega) (by omega) (by omega) (by omega)).mono ?_
  rintro e w1 ⟨rfl, rfl⟩
  go_wp2_with fail
  refine (bMul_ok _ _ _ _ (by omega) (by omega) (by omega) (by omega) (by omega)).mono ?_
  rintro e w1 ⟨rfl, rfl⟩
  go_wp2_with fail
  refine (bLeast _ _ _ [5, 3] _ ⟨rfl, .inr ⟨_, _, rfl, ?_⟩⟩ (by decide) (by intro z hz; simp at hz; omega)).mono ?_
  · intro i hi
    have hB := Blk.alloc_new w (B := w.heap.size) #[.int .u64 5, .int .u64 3] 22 rfl
    rw [Nat.zero_add, hB.cell i]
    match i, hi with
    | 0, _ => rfl
    | 1, _ => rfl
  rintro e w1 ⟨rfl, rfl⟩
  go_wp2_with fail
  refine (bLeast none 0 0 [] _ ⟨rfl, .inl rfl⟩ (by omega) (by intro z hz; simp at hz)).mono ?_
  rintro e w1 ⟨rfl, rfl⟩
  go_wp2_with fail
  go_ret
  exact ⟨retb rfl, by (repeat' (first | (with_reducible exact Below.refl _ _) | (with_reducible assumption) | (with_reducible refine below_drewN ?_ _) | (with_reducible refine Below.drew ?_) | (with_reducible refine Below.alloc ?_ ?_ _) | (with_reducible refine Below.setCell ?_ ?_ _) | go_size))⟩
end Go.Proofs.Ytkegfnbjeafliaa
