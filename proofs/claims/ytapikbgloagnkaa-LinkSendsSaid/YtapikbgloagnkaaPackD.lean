/-
  The walk of packet.Decode. Conditions: none on the bytes.
-/
import Derived.Test.YtapikbgloagnkaaPackE
namespace Go.Proofs.Ytapikbgloagnkaa
open Go.RowKit
set_option linter.unusedVariables false

/-- The number of the bytes from a to b. -/
def nB (s : ByteArray) (a b : Nat) : Int := numB (s.extract a b).data.toList
theorem ext_size (s : ByteArray) (a b : Nat) (h : b ≤ s.size) : (s.extract a b).size = b - a := by simp [ByteArray.size_extract]; omega
theorem nB_rng (s : ByteArray) (a b : Nat) (h : b ≤ s.size) : 0 ≤ nB s a b ∧ nB s a b < 256 ^ (b - a) := by
  have h1 := numB_rng (s.extract a b).data.toList
  rw [show (s.extract a b).data.toList.length = b - a by rw [← ext_size s a b h]; exact Array.length_toList] at h1
  exact h1
theorem get_ext (s : ByteArray) (a b : Nat) (w : World) (h : b ≤ s.size) (h8 : b ≤ a + 8) :
    Calls Try.prog 53 #[.string (s.extract a b)] w fun e w' => e = .returned (.int .u64 (nB s a b)) ∧ w = w' :=
  get_any _ _ (by rw [ext_size s a b h]; omega)
theorem encode_no (id len h0 h1 h2 h3 : Int) (w : World) (hlen : ¬ (1 ≤ len ∧ len ≤ 16384)) :
    Calls Try.prog 27 #[pkt id len h0 h1 h2 h3] w fun e w' => e = .returned (.tuple #[.string ⟨#[]⟩, .int .i64 26]) ∧ Below w.heap.size w w' := by
  go_enter Try.func27, Try.ntmps27
  go_wp2_with fail
  refine (fits_any len 16384 _ false (decide_eq_false hlen)).mono ?_
  rintro e u1 ⟨rfl, rfl⟩
  go_wp2
  go_returns
  exact ⟨rfl, by (repeat' (first | (with_reducible exact Below.refl _ _) | (with_reducible assumption) | (with_reducible refine below_drewN ?_ _) | (with_reducible refine Below.drew ?_) | (with_reducible refine Below.alloc ?_ ?_ _) | (with_reducible refine Below.setCell ?_ ?_ _) | go_size))⟩
theorem decode_short (s : ByteArray) (w : World) (h : s.size < 18) :
    Calls Try.prog 29 #[.string s] w fun e w' => e = .returned (.tuple #[pkt 0 0 0 0 0 0, .int .i64 3]) ∧ Below w.heap.size w w' := by
  have hi : (s.size : Int) < 18 := by omega
  go_enter Try.func29, Try.ntmps29
  go_wp2
  go_returns
  exact ⟨rfl, by (repeat' (first | (with_reducible exact Below.refl _ _) | (with_reducible assumption) | (with_reducible refine below_drewN ?_ _) | (with_reducible refine Below.drew ?_) | (with_reducible refine Below.alloc ?_ ?_ _) | (with_reducible refine Below.setCell ?_ ?_ _) | go_size))⟩
theorem decode_long (s : ByteArray) (w : World) (h : 18 < s.size) :
    Calls Try.prog 29 #[.string s] w fun e w' => e = .returned (.tuple #[pkt 0 0 0 0 0 0, .int .i64 2]) ∧ Below w.heap.size w w' := by
  have hi : (18 : Int) < s.size := by omega
  have hi2 : ¬ (s.size : Int) < 18 := by omega
  go_enter Try.func29, Try.ntmps29
  go_wp2
  go_returns
  exact ⟨rfl, by (repeat' (first | (with_reducible exact Below.refl _ _) | (with_reducible assumption) | (with_reducible refine below_drewN ?_ _) | (with_reducible refine Below.drew ?_) | (with_reducible refine Below.alloc ?_ ?_ _) | (with_reducible refine Below.setCell ?_ ?_ _) | go_size))⟩
set_option maxHeartbeats 400000 in
theorem decode_ok (s : ByteArray) (w : World) (h1 : 18 ≤ s.size) (h2 : s.size ≤ 18) (hl : 1 ≤ nB s 8 10 ∧ nB s 8 10 ≤ 16384) :
    Calls Try.prog 29 #[.string s] w fun e w' => e = .returned (.tuple #[pkt (nB s 0 8) (nB s 8 10) (nB s 10 12) (nB s 12 14) (nB s 14 16) (nB s 16 18), .int .i64 0]) ∧ Below w.heap.size w w' := by
  have r0 : 0 ≤ nB s 0 8 ∧ nB s 0 8 ≤ 18446744073709551615 := by have := nB_rng s 0 8 (by omega); simp at this; omega
  have r1 : 0 ≤ nB s 8 10 ∧ nB s 8 10 ≤ 65535 := by have := nB_rng s 8 10 (by omega); simp at this; omega
  have r2 : 0 ≤ nB s 10 12 ∧ nB s 10 12 ≤ 65535 := by have := nB_rng s 10 12 (by omega); simp at this; omega
  have r3 : 0 ≤ nB s 12 14 ∧ nB s 12 14 ≤ 65535 := by have := nB_rng s 12 14 (by omega); simp at this; omega
  have r4 : 0 ≤ nB s 14 16 ∧ nB s 14 16 ≤ 65535 := by have := nB_rng s 14 16 (by omega); simp at this; omega
  have r5 : 0 ≤ nB s 16 18 ∧ nB s 16 18 ≤ 65535 := by have := nB_rng s 16 18 (by omega); simp at this; omega
  have b1 : (8 : Int) ≤ (s.size : Int) := by omega
  have b2 : (10 : Int) ≤ (s.size : Int) := by omega
  have b7 : (12 : Int) ≤ (s.size : Int) := by omega
  have b8 : (14 : Int) ≤ (s.size : Int) := by omega
  have b9 : (16 : Int) ≤ (s.size : Int) := by omega
  have b10 : (18 : Int) ≤ (s.size : Int) := by omega
  have b3 : 8 ≤ s.size := by omega
  have b4 : 10 ≤ s.size := by omega
  have b5 : ¬ (s.size : Int) < 18 := by omega
  have b6 : ¬ (18 : Int) < (s.size : Int) := by omega
  have hwl : IntKind.i64.wrap (nB s 8 10) = nB s 8 10 := IntWalk.i64_in _ ⟨by omega, by omega⟩
  go_enter Try.func29, Try.ntmps29
  go_wp2
  go_region_held3 (fun v => Below w.heap.size w v) ((repeat' (first | (with_reducible exact Below.refl _ _) | (with_reducible assumption) | (with_reducible refine below_drewN ?_ _) | (with_reducible refine Below.drew ?_) | (with_reducible refine Below.alloc ?_ ?_ _) | (with_reducible refine Below.setCell ?_ ?_ _) | go_size)))
    (first
      | (go_at_call 53; refine (get_ext s _ _ _ (by omega) (by omega)).mono ?_; rintro e w' ⟨rfl, rfl⟩))
  all_goals
    go_wp2
    refine wp_loop_rounds 5 ?_
    rw [rounds_succ]
    go_wp2_with fail
    refine (get_ext s 10 12 _ (by omega) (by omega)).mono ?_
    rintro e w' ⟨rfl, rfl⟩
    go_wp2
    rw [rounds_succ]
    go_wp2_with fail
    refine (get_ext s 12 14 _ (by omega) (by omega)).mono ?_
    rintro e w' ⟨rfl, rfl⟩
    go_wp2
    rw [rounds_succ]
    go_wp2_with fail
    refine (get_ext s 14 16 _ (by omega) (by omega)).mono ?_
    rintro e w' ⟨rfl, rfl⟩
    go_wp2
    rw [rounds_succ]
    go_wp2_with fail
    refine (get_ext s 16 18 _ (by omega) (by omega)).mono ?_
    rintro e w' ⟨rfl, rfl⟩
    go_wp2
    rw [rounds_succ]
    go_wp2_with fail
    refine (fits_any _ 16384 _ true (decide_eq_true hl)).mono ?_
    rintro e w' ⟨rfl, rfl⟩
    go_wp2
    go_returns
    exact ⟨rfl, by (repeat' (first | (with_reducible exact Below.refl _ _) | (with_reducible assumption) | (with_reducible refine below_drewN ?_ _) | (with_reducible refine Below.drew ?_) | (with_reducible refine Below.alloc ?_ ?_ _) | (with_reducible refine Below.setCell ?_ ?_ _) | go_size))⟩
set_option maxHeartbeats 400000 in
theorem decode_len (s : ByteArray) (w : World) (h1 : 18 ≤ s.size) (h2 : s.size ≤ 18) (hl : ¬ (1 ≤ nB s 8 10 ∧ nB s 8 10 ≤ 16384)) :
    Calls Try.prog 29 #[.string s] w fun e w' => e = .returned (.tuple #[pkt 0 0 0 0 0 0, .int .i64 26]) ∧ Below w.heap.size w w' := by
  have r0 : 0 ≤ nB s 0 8 ∧ nB s 0 8 ≤ 18446744073709551615 := by have := nB_rng s 0 8 (by omega); simp at this; omega
  have r1 : 0 ≤ nB s 8 10 ∧ nB s 8 10 ≤ 65535 := by have := nB_rng s 8 10 (by omega); simp at this; omega
  have r2 : 0 ≤ nB s 10 12 ∧ nB s 10 12 ≤ 65535 := by have := nB_rng s 10 12 (by omega); simp at this; omega
  have r3 : 0 ≤ nB s 12 14 ∧ nB s 12 14 ≤ 65535 := by have := nB_rng s 12 14 (by omega); simp at this; omega
  have r4 : 0 ≤ nB s 14 16 ∧ nB s 14 16 ≤ 65535 := by have := nB_rng s 14 16 (by omega); simp at this; omega
  have r5 : 0 ≤ nB s 16 18 ∧ nB s 16 18 ≤ 65535 := by have := nB_rng s 16 18 (by omega); simp at this; omega
  have b1 : (8 : Int) ≤ (s.size : Int) := by omega
  have b2 : (10 : Int) ≤ (s.size : Int) := by omega
  have b7 : (12 : Int) ≤ (s.size : Int) := by omega
  have b8 : (14 : Int) ≤ (s.size : Int) := by omega
  have b9 : (16 : Int) ≤ (s.size : Int) := by omega
  have b10 : (18 : Int) ≤ (s.size : Int) := by omega
  have b3 : 8 ≤ s.size := by omega
  have b4 : 10 ≤ s.size := by omega
  have b5 : ¬ (s.size : Int) < 18 := by omega
  have b6 : ¬ (18 : Int) < (s.size : Int) := by omega
  have hwl : IntKind.i64.wrap (nB s 8 10) = nB s 8 10 := IntWalk.i64_in _ ⟨by omega, by omega⟩
  go_enter Try.func29, Try.ntmps29
  go_wp2
  go_region_held3 (fun v => Below w.heap.size w v) ((repeat' (first | (with_reducible exact Below.refl _ _) | (with_reducible assumption) | (with_reducible refine below_drewN ?_ _) | (with_reducible refine Below.drew ?_) | (with_reducible refine Below.alloc ?_ ?_ _) | (with_reducible refine Below.setCell ?_ ?_ _) | go_size)))
    (first
      | (go_at_call 53; refine (get_ext s _ _ _ (by omega) (by omega)).mono ?_; rintro e w' ⟨rfl, rfl⟩))
  all_goals
    go_wp2
    refine wp_loop_rounds 5 ?_
    rw [rounds_succ]
    go_wp2_with fail
    refine (get_ext s 10 12 _ (by omega) (by omega)).mono ?_
    rintro e w' ⟨rfl, rfl⟩
    go_wp2
    rw [rounds_succ]
    go_wp2_with fail
    refine (get_ext s 12 14 _ (by omega) (by omega)).mono ?_
    rintro e w' ⟨rfl, rfl⟩
    go_wp2
    rw [rounds_succ]
    go_wp2_with fail
    refine (get_ext s 14 16 _ (by omega) (by omega)).mono ?_
    rintro e w' ⟨rfl, rfl⟩
    go_wp2
    rw [rounds_succ]
    go_wp2_with fail
    refine (get_ext s 16 18 _ (by omega) (by omega)).mono ?_
    rintro e w' ⟨rfl, rfl⟩
    go_wp2
    rw [rounds_succ]
    go_wp2_with fail
    refine (fits_any _ 16384 _ false (decide_eq_false hl)).mono ?_
    rintro e w' ⟨rfl, rfl⟩
    go_wp2
    go_returns
    exact ⟨rfl, by (repeat' (first | (with_reducible exact Below.refl _ _) | (with_reducible assumption) | (with_reducible refine below_drewN ?_ _) | (with_reducible refine Below.drew ?_) | (with_reducible refine Below.alloc ?_ ?_ _) | (with_reducible refine Below.setCell ?_ ?_ _) | go_size))⟩
end Go.Proofs.Ytapikbgloagnkaa
