/-
  The walks of packet.Ticks, packet.May and the statements' own word 'one'. Conditions: fields in range.
-/
import Derived.Test.YtapikbgloagnkaaPackD
namespace Go.Proofs.Ytapikbgloagnkaa
open Go.RowKit
set_option linter.unusedVariables false

theorem ticks_ok (id len h0 h1 h2 h3 t : Int) (w : World) (ht : 1 ≤ t ∧ t ≤ 65536) (hlen : 1 ≤ len ∧ len ≤ 16384) :
    Calls Try.prog 32 #[pkt id len h0 h1 h2 h3, .int .i64 t] w fun e w' => e = .returned (.tuple #[.int .u64 (len * t), .int .i64 0]) ∧ Below w.heap.size w w' := by
  have hp : 0 ≤ len * t ∧ len * t ≤ 1073741824 := by
    refine ⟨Int.mul_nonneg (by omega) (by omega), ?_⟩
    have := Int.mul_le_mul hlen.2 ht.2 (by omega) (by omega : (0 : Int) ≤ 16384)
    omega
  go_enter Try.func32, Try.ntmps32
  go_wp2_with fail
  refine (fits_any t 65536 _ true (decide_eq_true ht)).mono ?_
  rintro e u1 ⟨rfl, rfl⟩
  go_wp2_with fail
  refine (fits_any len 16384 _ true (decide_eq_true hlen)).mono ?_
  rintro e u2 ⟨rfl, rfl⟩
  go_wp2
  go_returns
  exact ⟨rfl, by (repeat' (first | (with_reducible exact Below.refl _ _) | (with_reducible assumption) | (with_reducible refine below_drewN ?_ _) | (with_reducible refine Below.drew ?_) | (with_reducible refine Below.alloc ?_ ?_ _) | (with_reducible refine Below.setCell ?_ ?_ _) | go_size))⟩
theorem ticks_t (id len h0 h1 h2 h3 t : Int) (w : World) (ht : ¬ (1 ≤ t ∧ t ≤ 65536)) :
    Calls Try.prog 32 #[pkt id len h0 h1 h2 h3, .int .i64 t] w fun e w' => e = .returned (.tuple #[.int .u64 0, .int .i64 1]) ∧ Below w.heap.size w w' := by
  go_enter Try.func32, Try.ntmps32
  go_wp2_with fail
  refine (fits_any t 65536 _ false (decide_eq_false ht)).mono ?_
  rintro e u1 ⟨rfl, rfl⟩
  go_wp2
  go_returns
  exact ⟨rfl, by (repeat' (first | (with_reducible exact Below.refl _ _) | (with_reducible assumption) | (with_reducible refine below_drewN ?_ _) | (with_reducible refine Below.drew ?_) | (with_reducible refine Below.alloc ?_ ?_ _) | (with_reducible refine Below.setCell ?_ ?_ _) | go_size))⟩
theorem ticks_l (id len h0 h1 h2 h3 t : Int) (w : World) (ht : 1 ≤ t ∧ t ≤ 65536) (hlen : ¬ (1 ≤ len ∧ len ≤ 16384)) :
    Calls Try.prog 32 #[pkt id len h0 h1 h2 h3, .int .i64 t] w fun e w' => e = .returned (.tuple #[.int .u64 0, .int .i64 1]) ∧ Below w.heap.size w w' := by
  go_enter Try.func32, Try.ntmps32
  go_wp2_with fail
  refine (fits_any t 65536 _ true (decide_eq_true ht)).mono ?_
  rintro e u1 ⟨rfl, rfl⟩
  go_wp2_with fail
  refine (fits_any len 16384 _ false (decide_eq_false hlen)).mono ?_
  rintro e u2 ⟨rfl, rfl⟩
  go_wp2
  go_returns
  exact ⟨rfl, by (repeat' (first | (with_reducible exact Below.refl _ _) | (with_reducible assumption) | (with_reducible refine below_drewN ?_ _) | (with_reducible refine Below.drew ?_) | (with_reducible refine Below.alloc ?_ ?_ _) | (with_reducible refine Below.setCell ?_ ?_ _) | go_size))⟩
theorem may_any (id len h0 h1 h2 h3 m : Int) (w : World) (c : Int) (h : (if 1 ≤ m ∧ m ≤ 16384 then (if 1 ≤ len ∧ len ≤ m then 0 else 26) else 1) = c) :
    Calls Try.prog 33 #[pkt id len h0 h1 h2 h3, .int .i64 m] w fun e w' => e = .returned (.int .i64 c) ∧ Below w.heap.size w w' := by
  by_cases hm : 1 ≤ m ∧ m ≤ 16384
  · rw [if_pos hm] at h
    by_cases hl : 1 ≤ len ∧ len ≤ m
    · rw [if_pos hl] at h; subst h
      go_enter Try.func33, Try.ntmps33
      go_wp2_with fail
      refine (fits_any m 16384 _ true (decide_eq_true hm)).mono ?_
      rintro e u1 ⟨rfl, rfl⟩
      go_wp2_with fail
      refine (fits_any len m _ true (decide_eq_true hl)).mono ?_
      rintro e u2 ⟨rfl, rfl⟩
      go_wp2
      go_ret
      exact ⟨rfl, by (repeat' (first | (with_reducible exact Below.refl _ _) | (with_reducible assumption) | (with_reducible refine below_drewN ?_ _) | (with_reducible refine Below.drew ?_) | (with_reducible refine Below.alloc ?_ ?_ _) | (with_reducible refine Below.setCell ?_ ?_ _) | go_size))⟩
    · rw [if_neg hl] at h; subst h
      go_enter Try.func33, Try.ntmps33
      go_wp2_with fail
      refine (fits_any m 16384 _ true (decide_eq_true hm)).mono ?_
      rintro e u1 ⟨rfl, rfl⟩
      go_wp2_with fail
      refine (fits_any len m _ false (decide_eq_false hl)).mono ?_
      rintro e u2 ⟨rfl, rfl⟩
      go_wp2
      go_ret
      exact ⟨rfl, by (repeat' (first | (with_reducible exact Below.refl _ _) | (with_reducible assumption) | (with_reducible refine below_drewN ?_ _) | (with_reducible refine Below.drew ?_) | (with_reducible refine Below.alloc ?_ ?_ _) | (with_reducible refine Below.setCell ?_ ?_ _) | go_size))⟩
  · rw [if_neg hm] at h; subst h
    go_enter Try.func33, Try.ntmps33
    go_wp2_with fail
    refine (fits_any m 16384 _ false (decide_eq_false hm)).mono ?_
    rintro e u1 ⟨rfl, rfl⟩
    go_wp2
    go_ret
    exact ⟨rfl, by (repeat' (first | (with_reducible exact Below.refl _ _) | (with_reducible assumption) | (with_reducible refine below_drewN ?_ _) | (with_reducible refine Below.drew ?_) | (with_reducible refine Below.alloc ?_ ?_ _) | (with_reducible refine Below.setCell ?_ ?_ _) | go_size))⟩
def oneS : ByteArray := ⟨#[0, 0, 0, 0, 0, 0, 0, 1, 1, 2, 0, 2, 0, 3, 0, 4, 0, 5]⟩
theorem one_enc : strOfNums (l18 1 258 2 3 4 5) = oneS := by decide +kernel
set_option maxRecDepth 100000 in
set_option maxHeartbeats 400000 in
theorem one_true (w : World) :
    Calls Try.prog 28 #[] w fun e w' => e = .returned (.bool true) ∧ Below w.heap.size w w' := by
  have cenc : ∀ v, Calls Try.prog 27 #[pkt 1 258 2 3 4 5] v fun e w' => e = .returned (.tuple #[.string ⟨#[0, 0, 0, 0, 0, 0, 0, 1, 1, 2, 0, 2, 0, 3, 0, 4, 0, 5]⟩, .int .i64 0]) ∧ Below v.heap.size v w' := by
    intro v
    have := encode_ok 1 258 2 3 4 5 v (by omega) (by omega) (by omega) (by omega) (by omega) (by omega)
    rw [one_enc] at this; exact this
  have cdec : ∀ v, Calls Try.prog 29 #[.string ⟨#[0, 0, 0, 0, 0, 0, 0, 1, 1, 2, 0, 2, 0, 3, 0, 4, 0, 5]⟩] v fun e w' => e = .returned (.tuple #[pkt 1 258 2 3 4 5, .int .i64 0]) ∧ Below v.heap.size v w' := by
    intro v
    have := decode_ok oneS v (by decide) (by decide) (by decide +kernel)
    rw [show nB oneS 0 8 = 1 by decide +kernel, show nB oneS 8 10 = 258 by decide +kernel, show nB oneS 10 12 = 2 by decide +kernel, show nB oneS 12 14 = 3 by decide +kernel, show nB oneS 14 16 = 4 by decide +kernel, show nB oneS 16 18 = 5 by decide +kernel] at this
    exact this
  have heq : ∀ v, (binOp .eql 42 (pkt 1 258 2 3 4 5) (pkt 1 258 2 3 4 5)).run Try.prog v = .ok (.bool true) v := fun _ => by kernel_rfl
  have Henc := hide cenc; have Hdec := hide cdec; clear cenc cdec
  go_enter Try.func28, Try.ntmps28
  go_wp2_with fail
  refine (Henc.out _).mono ?_
  rintro e w1 ⟨rfl, hb1⟩
  have A1 : Blk w1 (w.heap.size) #[.int .u64 1, .int .i64 258, .int .u16 2, .int .u16 3, .int .u16 4, .int .u16 5] 42 := Blk.below (by (repeat' (first | (with_reducible assumption) | (with_reducible exact Blk.alloc_new _ _ _ (by first | rfl | (simp; done) | omega)) | (with_reducible refine Blk.drewN ?_ _) | (with_reducible refine Blk.drew ?_) | (with_reducible refine Blk.alloc_old ?_ _) | (with_reducible apply Blk.set_same) | (with_reducible refine Blk.set_other ?_ (by first | omega | (simp; done) | (simp; omega)) _) | (exact rfl)))) hb1 (by first | (simp; done) | omega | (simp; omega))
  have g1 : Below w.heap.size w w1 := by refine Below.trans ?_ (hb1.mono ?_) <;> (repeat' (first | (with_reducible exact Below.refl _ _) | (with_reducible assumption) | (with_reducible refine below_drewN ?_ _) | (with_reducible refine Below.drew ?_) | (with_reducible refine Below.alloc ?_ ?_ _) | (with_reducible refine Below.setCell ?_ ?_ _) | go_size))
  have hz1 := hb1.size
  (try simp at hz1)
  clear hb1
  replace cA := A1.cell
  replace fA := A1.frozen
  replace zA := A1.size
  go_wp2_with fail
  refine (Hdec.out _).mono ?_
  rintro e w2 ⟨rfl, hb2⟩
  have A2 : Blk w2 (w.heap.size) #[.int .u64 1, .int .i64 258, .int .u16 2, .int .u16 3, .int .u16 4, .int .u16 5] 42 := Blk.below (by (repeat' (first | (with_reducible assumption) | (with_reducible exact Blk.alloc_new _ _ _ (by first | rfl | (simp; done) | omega)) | (with_reducible refine Blk.drewN ?_ _) | (with_reducible refine Blk.drew ?_) | (with_reducible refine Blk.alloc_old ?_ _) | (with_reducible apply Blk.set_same) | (with_reducible refine Blk.set_other ?_ (by first | omega | (simp; done) | (simp; omega)) _) | (exact rfl)))) hb2 (by first | (simp; done) | omega | (simp; omega))
  have g2 : Below w.heap.size w w2 := by refine Below.trans ?_ (hb2.mono ?_) <;> (repeat' (first | (with_reducible exact Below.refl _ _) | (with_reducible assumption) | (with_reducible refine below_drewN ?_ _) | (with_reducible refine Below.drew ?_) | (with_reducible refine Below.alloc ?_ ?_ _) | (with_reducible refine Below.setCell ?_ ?_ _) | go_size))
  have hz2 := hb2.size
  (try simp at hz2)
  clear hb2
  replace cA := A2.cell
  replace fA := A2.frozen
  replace zA := A2.size
  go_wp2_with fail
  refine (ticks_ok 1 258 2 3 4 5 3 _ (by omega) (by omega)).mono ?_
  rintro e w3 ⟨rfl, hb3⟩
  have A3 : Blk w3 (w.heap.size) #[.int .u64 1, .int .i64 258, .int .u16 2, .int .u16 3, .int .u16 4, .int .u16 5] 42 := Blk.below (by (repeat' (first | (with_reducible assumption) | (with_reducible exact Blk.alloc_new _ _ _ (by first | rfl | (simp; done) | omega)) | (with_reducible refine Blk.drewN ?_ _) | (with_reducible refine Blk.drew ?_) | (with_reducible refine Blk.alloc_old ?_ _) | (with_reducible apply Blk.set_same) | (with_reducible refine Blk.set_other ?_ (by first | omega | (simp; done) | (simp; omega)) _) | (exact rfl)))) hb3 (by first | (simp; done) | omega | (simp; omega))
  have B3 : Blk w3 (w2.heap.size) #[.int .u64 1, .int .i64 258, .int .u16 2, .int .u16 3, .int .u16 4, .int .u16 5] 42 := Blk.below (by (repeat' (first | (with_reducible assumption) | (with_reducible exact Blk.alloc_new _ _ _ (by first | rfl | (simp; done) | omega)) | (with_reducible refine Blk.drewN ?_ _) | (with_reducible refine Blk.drew ?_) | (with_reducible refine Blk.alloc_old ?_ _) | (with_reducible apply Blk.set_same) | (with_reducible refine Blk.set_other ?_ (by first | omega | (simp; done) | (simp; omega)) _) | (exact rfl)))) hb3 (by first | (simp; done) | omega | (simp; omega))
  have g3 : Below w.heap.size w w3 := by refine Below.trans ?_ (hb3.mono ?_) <;> (repeat' (first | (with_reducible exact Below.refl _ _) | (with_reducible assumption) | (with_reducible refine below_drewN ?_ _) | (with_reducible refine Below.drew ?_) | (with_reducible refine Below.alloc ?_ ?_ _) | (with_reducible refine Below.setCell ?_ ?_ _) | go_size))
  have hz3 := hb3.size
  (try simp at hz3)
  clear hb3
  replace cA := A3.cell
  replace fA := A3.frozen
  replace zA := A3.size
  replace cB := B3.cell
  replace fB := B3.frozen
  replace zB := B3.size
  go_wp2
  go_ret
  exact ⟨rfl, by (repeat' (first | (with_reducible exact Below.refl _ _) | (with_reducible assumption) | (with_reducible refine below_drewN ?_ _) | (with_reducible refine Below.drew ?_) | (with_reducible refine Below.alloc ?_ ?_ _) | (with_reducible refine Below.setCell ?_ ?_ _) | go_size))⟩
end Go.Proofs.Ytapikbgloagnkaa
