/-
  The statement PacketMay: whether any packet may be, under any limit, and how long it takes. Conditions: none.
-/
import Derived.Test.YtapikbgloagnkaaPackF
namespace Go.Proofs.Ytapikbgloagnkaa
open Go.ChangeShapes Go.WideShapes Go.ChangeAt Go.RowKit
open Go.ChangeMaps (open_string shut_string)
set_option linter.unusedVariables false
theorem prod_rng {len t : Int} (h1 : 1 ≤ len) (h2 : len ≤ 16384) (h3 : 1 ≤ t) (h4 : t ≤ 65536) : 0 ≤ len * t ∧ len * t ≤ 1073741824 := by
  refine ⟨Int.mul_nonneg (by omega) (by omega), ?_⟩
  have := Int.mul_le_mul h2 h4 (by omega) (by omega : (0 : Int) ≤ 16384)
  omega
theorem PM_aaa (id len h0 h1 h2 h3 m t : Int) (w : World) (hid : 0 ≤ id ∧ id ≤ 18446744073709551615) (hln : -9223372036854775808 ≤ len ∧ len ≤ 9223372036854775807) (q0 : 0 ≤ h0 ∧ h0 ≤ 65535) (q1 : 0 ≤ h1 ∧ h1 ≤ 65535) (q2 : 0 ≤ h2 ∧ h2 ≤ 65535) (q3 : 0 ≤ h3 ∧ h3 ≤ 65535) (mb : -9223372036854775808 ≤ m ∧ m ≤ 9223372036854775807) (tb : -9223372036854775808 ≤ t ∧ t ≤ 9223372036854775807) (l1 : len < 1) (m1 : m < 1) (t1 : t < 1) :
    Calls Try.prog 10 #[pkt id len h0 h1 h2 h3, .int .i64 m, .int .i64 t] w fun e w' => e = .returned (.bool true) ∧ Below w.heap.size w w' := by
  have dl1 : decide (len < 1) = true := decide_eq_true l1
  have dm1 : decide (m < 1) = true := decide_eq_true m1
  have dt1 : decide (t < 1) = true := decide_eq_true t1
  have hmay := hide (show (if 1 ≤ m ∧ m ≤ 16384 then (if 1 ≤ len ∧ len ≤ m then (0 : Int) else 26) else 1) = 1 by rw [if_neg (by omega)])
  go_enter Try.func10, Try.ntmps10
  go_wp2_with fail
  refine (ticks_t id len h0 h1 h2 h3 t _ (by omega)).mono ?_
  rintro e w1 ⟨rfl, hb1⟩
  have A1 : Blk w1 (w.heap.size) #[.int .u64 id, .int .i64 len, .int .u16 h0, .int .u16 h1, .int .u16 h2, .int .u16 h3] 42 := Blk.below (by (repeat' (first | (with_reducible assumption) | (with_reducible exact Blk.alloc_new _ _ _ (by first | rfl | (simp; done) | omega)) | (with_reducible refine Blk.drewN ?_ _) | (with_reducible refine Blk.drew ?_) | (with_reducible refine Blk.alloc_old ?_ _) | (with_reducible apply Blk.set_same) | (with_reducible refine Blk.set_other ?_ (by first | omega | (simp; done) | (simp; omega)) _) | (exact rfl)))) hb1 (by first | (simp; done) | omega | (simp; omega))
  have g1 : Below w.heap.size w w1 := by refine Below.trans ?_ (hb1.mono ?_) <;> (repeat' (first | (with_reducible exact Below.refl _ _) | (with_reducible assumption) | (with_reducible refine below_drewN ?_ _) | (with_reducible refine Below.drew ?_) | (with_reducible refine Below.alloc ?_ ?_ _) | (with_reducible refine Below.setCell ?_ ?_ _) | go_size))
  have hz1 := hb1.size
  (try simp at hz1)
  clear hb1
  replace cA := A1.cell
  replace fA := A1.frozen
  replace zA := A1.size
  go_wp2_with fail
  refine (may_any id len h0 h1 h2 h3 m _ 1 hmay.out).mono ?_
  rintro e w2 ⟨rfl, hb2⟩
  have A2 : Blk w2 (w.heap.size) #[.int .u64 id, .int .i64 len, .int .u16 h0, .int .u16 h1, .int .u16 h2, .int .u16 h3] 42 := Blk.below (by (repeat' (first | (with_reducible assumption) | (with_reducible exact Blk.alloc_new _ _ _ (by first | rfl | (simp; done) | omega)) | (with_reducible refine Blk.drewN ?_ _) | (with_reducible refine Blk.drew ?_) | (with_reducible refine Blk.alloc_old ?_ _) | (with_reducible apply Blk.set_same) | (with_reducible refine Blk.set_other ?_ (by first | omega | (simp; done) | (simp; omega)) _) | (exact rfl)))) hb2 (by first | (simp; done) | omega | (simp; omega))
  have g2 : Below w.heap.size w w2 := by refine Below.trans ?_ (hb2.mono ?_) <;> (repeat' (first | (with_reducible exact Below.refl _ _) | (with_reducible assumption) | (with_reducible refine below_drewN ?_ _) | (with_reducible refine Below.drew ?_) | (with_reducible refine Below.alloc ?_ ?_ _) | (with_reducible refine Below.setCell ?_ ?_ _) | go_size))
  have hz2 := hb2.size
  (try simp at hz2)
  clear hb2
  replace cA := A2.cell
  replace fA := A2.frozen
  replace zA := A2.size
  go_wp2_with fail
  refine (one_true _).mono ?_
  rintro e w3 ⟨rfl, hb3⟩
  have g3 : Below w.heap.size w w3 := by refine Below.trans ?_ (hb3.mono ?_) <;> (repeat' (first | (with_reducible exact Below.refl _ _) | (with_reducible assumption) | (with_reducible refine below_drewN ?_ _) | (with_reducible refine Below.drew ?_) | (with_reducible refine Below.alloc ?_ ?_ _) | (with_reducible refine Below.setCell ?_ ?_ _) | go_size))
  have hz3 := hb3.size
  (try simp at hz3)
  clear hb3
  go_wp2
  go_ret
  exact ⟨rfl, by (repeat' (first | (with_reducible exact Below.refl _ _) | (with_reducible assumption) | (with_reducible refine below_drewN ?_ _) | (with_reducible refine Below.drew ?_) | (with_reducible refine Below.alloc ?_ ?_ _) | (with_reducible refine Below.setCell ?_ ?_ _) | go_size))⟩
theorem PM_aab (id len h0 h1 h2 h3 m t : Int) (w : World) (hid : 0 ≤ id ∧ id ≤ 18446744073709551615) (hln : -9223372036854775808 ≤ len ∧ len ≤ 9223372036854775807) (q0 : 0 ≤ h0 ∧ h0 ≤ 65535) (q1 : 0 ≤ h1 ∧ h1 ≤ 65535) (q2 : 0 ≤ h2 ∧ h2 ≤ 65535) (q3 : 0 ≤ h3 ∧ h3 ≤ 65535) (mb : -9223372036854775808 ≤ m ∧ m ≤ 9223372036854775807) (tb : -9223372036854775808 ≤ t ∧ t ≤ 9223372036854775807) (l1 : len < 1) (m1 : m < 1) (t1 : 65536 < t) :
    Calls Try.prog 10 #[pkt id len h0 h1 h2 h3, .int .i64 m, .int .i64 t] w fun e w' => e = .returned (.bool true) ∧ Below w.heap.size w w' := by
  have dl1 : decide (len < 1) = true := decide_eq_true l1
  have dm1 : decide (m < 1) = true := decide_eq_true m1
  have dt1 : decide (t < 1) = false := decide_eq_false (by omega)
  have dt2 : decide (65536 < t) = true := decide_eq_true t1
  have hmay := hide (show (if 1 ≤ m ∧ m ≤ 16384 then (if 1 ≤ len ∧ len ≤ m then (0 : Int) else 26) else 1) = 1 by rw [if_neg (by omega)])
  go_enter Try.func10, Try.ntmps10
  go_wp2_with fail
  refine (ticks_t id len h0 h1 h2 h3 t _ (by omega)).mono ?_
  rintro e w1 ⟨rfl, hb1⟩
  have A1 : Blk w1 (w.heap.size) #[.int .u64 id, .int .i64 len, .int .u16 h0, .int .u16 h1, .int .u16 h2, .int .u16 h3] 42 := Blk.below (by (repeat' (first | (with_reducible assumption) | (with_reducible exact Blk.alloc_new _ _ _ (by first | rfl | (simp; done) | omega)) | (with_reducible refine Blk.drewN ?_ _) | (with_reducible refine Blk.drew ?_) | (with_reducible refine Blk.alloc_old ?_ _) | (with_reducible apply Blk.set_same) | (with_reducible refine Blk.set_other ?_ (by first | omega | (simp; done) | (simp; omega)) _) | (exact rfl)))) hb1 (by first | (simp; done) | omega | (simp; omega))
  have g1 : Below w.heap.size w w1 := by refine Below.trans ?_ (hb1.mono ?_) <;> (repeat' (first | (with_reducible exact Below.refl _ _) | (with_reducible assumption) | (with_reducible refine below_drewN ?_ _) | (with_reducible refine Below.drew ?_) | (with_reducible refine Below.alloc ?_ ?_ _) | (with_reducible refine Below.setCell ?_ ?_ _) | go_size))
  have hz1 := hb1.size
  (try simp at hz1)
  clear hb1
  replace cA := A1.cell
  replace fA := A1.frozen
  replace zA := A1.size
  go_wp2_with fail
  refine (may_any id len h0 h1 h2 h3 m _ 1 hmay.out).mono ?_
  rintro e w2 ⟨rfl, hb2⟩
  have A2 : Blk w2 (w.heap.size) #[.int .u64 id, .int .i64 len, .int .u16 h0, .int .u16 h1, .int .u16 h2, .int .u16 h3] 42 := Blk.below (by (repeat' (first | (with_reducible assumption) | (with_reducible exact Blk.alloc_new _ _ _ (by first | rfl | (simp; done) | omega)) | (with_reducible refine Blk.drewN ?_ _) | (with_reducible refine Blk.drew ?_) | (with_reducible refine Blk.alloc_old ?_ _) | (with_reducible apply Blk.set_same) | (with_reducible refine Blk.set_other ?_ (by first | omega | (simp; done) | (simp; omega)) _) | (exact rfl)))) hb2 (by first | (simp; done) | omega | (simp; omega))
  have g2 : Below w.heap.size w w2 := by refine Below.trans ?_ (hb2.mono ?_) <;> (repeat' (first | (with_reducible exact Below.refl _ _) | (with_reducible assumption) | (with_reducible refine below_drewN ?_ _) | (with_reducible refine Below.drew ?_) | (with_reducible refine Below.alloc ?_ ?_ _) | (with_reducible refine Below.setCell ?_ ?_ _) | go_size))
  have hz2 := hb2.size
  (try simp at hz2)
  clear hb2
  replace cA := A2.cell
  replace fA := A2.frozen
  replace zA := A2.size
  go_wp2_with fail
  refine (one_true _).mono ?_
  rintro e w3 ⟨rfl, hb3⟩
  have g3 : Below w.heap.size w w3 := by refine Below.trans ?_ (hb3.mono ?_) <;> (repeat' (first | (with_reducible exact Below.refl _ _) | (with_reducible assumption) | (with_reducible refine below_drewN ?_ _) | (with_reducible refine Below.drew ?_) | (with_reducible refine Below.alloc ?_ ?_ _) | (with_reducible refine Below.setCell ?_ ?_ _) | go_size))
  have hz3 := hb3.size
  (try simp at hz3)
  clear hb3
  go_wp2
  go_ret
  exact ⟨rfl, by (repeat' (first | (with_reducible exact Below.refl _ _) | (with_reducible assumption) | (with_reducible refine below_drewN ?_ _) | (with_reducible refine Below.drew ?_) | (with_reducible refine Below.alloc ?_ ?_ _) | (with_reducible refine Below.setCell ?_ ?_ _) | go_size))⟩
theorem PM_aac (id len h0 h1 h2 h3 m t : Int) (w : World) (hid : 0 ≤ id ∧ id ≤ 18446744073709551615) (hln : -9223372036854775808 ≤ len ∧ len ≤ 9223372036854775807) (q0 : 0 ≤ h0 ∧ h0 ≤ 65535) (q1 : 0 ≤ h1 ∧ h1 ≤ 65535) (q2 : 0 ≤ h2 ∧ h2 ≤ 65535) (q3 : 0 ≤ h3 ∧ h3 ≤ 65535) (mb : -9223372036854775808 ≤ m ∧ m ≤ 9223372036854775807) (tb : -9223372036854775808 ≤ t ∧ t ≤ 9223372036854775807) (l1 : len < 1) (m1 : m < 1) (t1 : 1 ≤ t) (t2 : t ≤ 65536) (t3 : len < 1) :
    Calls Try.prog 10 #[pkt id len h0 h1 h2 h3, .int .i64 m, .int .i64 t] w fun e w' => e = .returned (.bool true) ∧ Below w.heap.size w w' := by
  have dl1 : decide (len < 1) = true := decide_eq_true l1
  have dm1 : decide (m < 1) = true := decide_eq_true m1
  have dt1 : decide (t < 1) = false := decide_eq_false (by omega)
  have dt2 : decide (65536 < t) = false := decide_eq_false (by omega)
  have hmay := hide (show (if 1 ≤ m ∧ m ≤ 16384 then (if 1 ≤ len ∧ len ≤ m then (0 : Int) else 26) else 1) = 1 by rw [if_neg (by omega)])
  go_enter Try.func10, Try.ntmps10
  go_wp2_with fail
  refine (ticks_l id len h0 h1 h2 h3 t _ ⟨t1, t2⟩ (by omega)).mono ?_
  rintro e w1 ⟨rfl, hb1⟩
  have A1 : Blk w1 (w.heap.size) #[.int .u64 id, .int .i64 len, .int .u16 h0, .int .u16 h1, .int .u16 h2, .int .u16 h3] 42 := Blk.below (by (repeat' (first | (with_reducible assumption) | (with_reducible exact Blk.alloc_new _ _ _ (by first | rfl | (simp; done) | omega)) | (with_reducible refine Blk.drewN ?_ _) | (with_reducible refine Blk.drew ?_) | (with_reducible refine Blk.alloc_old ?_ _) | (with_reducible apply Blk.set_same) | (with_reducible refine Blk.set_other ?_ (by first | omega | (simp; done) | (simp; omega)) _) | (exact rfl)))) hb1 (by first | (simp; done) | omega | (simp; omega))
  have g1 : Below w.heap.size w w1 := by refine Below.trans ?_ (hb1.mono ?_) <;> (repeat' (first | (with_reducible exact Below.refl _ _) | (with_reducible assumption) | (with_reducible refine below_drewN ?_ _) | (with_reducible refine Below.drew ?_) | (with_reducible refine Below.alloc ?_ ?_ _) | (with_reducible refine Below.setCell ?_ ?_ _) | go_size))
  have hz1 := hb1.size
  (try simp at hz1)
  clear hb1
  replace cA := A1.cell
  replace fA := A1.frozen
  replace zA := A1.size
  go_wp2_with fail
  refine (may_any id len h0 h1 h2 h3 m _ 1 hmay.out).mono ?_
  rintro e w2 ⟨rfl, hb2⟩
  have A2 : Blk w2 (w.heap.size) #[.int .u64 id, .int .i64 len, .int .u16 h0, .int .u16 h1, .int .u16 h2, .int .u16 h3] 42 := Blk.below (by (repeat' (first | (with_reducible assumption) | (with_reducible exact Blk.alloc_new _ _ _ (by first | rfl | (simp; done) | omega)) | (with_reducible refine Blk.drewN ?_ _) | (with_reducible refine Blk.drew ?_) | (with_reducible refine Blk.alloc_old ?_ _) | (with_reducible apply Blk.set_same) | (with_reducible refine Blk.set_other ?_ (by first | omega | (simp; done) | (simp; omega)) _) | (exact rfl)))) hb2 (by first | (simp; done) | omega | (simp; omega))
  have g2 : Below w.heap.size w w2 := by refine Below.trans ?_ (hb2.mono ?_) <;> (repeat' (first | (with_reducible exact Below.refl _ _) | (with_reducible assumption) | (with_reducible refine below_drewN ?_ _) | (with_reducible refine Below.drew ?_) | (with_reducible refine Below.alloc ?_ ?_ _) | (with_reducible refine Below.setCell ?_ ?_ _) | go_size))
  have hz2 := hb2.size
  (try simp at hz2)
  clear hb2
  replace cA := A2.cell
  replace fA := A2.frozen
  replace zA := A2.size
  go_wp2_with fail
  refine (one_true _).mono ?_
  rintro e w3 ⟨rfl, hb3⟩
  have g3 : Below w.heap.size w w3 := by refine Below.trans ?_ (hb3.mono ?_) <;> (repeat' (first | (with_reducible exact Below.refl _ _) | (with_reducible assumption) | (with_reducible refine below_drewN ?_ _) | (with_reducible refine Below.drew ?_) | (with_reducible refine Below.alloc ?_ ?_ _) | (with_reducible refine Below.setCell ?_ ?_ _) | go_size))
  have hz3 := hb3.size
  (try simp at hz3)
  clear hb3
  go_wp2
  go_ret
  exact ⟨rfl, by (repeat' (first | (with_reducible exact Below.refl _ _) | (with_reducible assumption) | (with_reducible refine below_drewN ?_ _) | (with_reducible refine Below.drew ?_) | (with_reducible refine Below.alloc ?_ ?_ _) | (with_reducible refine Below.setCell ?_ ?_ _) | go_size))⟩
theorem PM_aba (id len h0 h1 h2 h3 m t : Int) (w : World) (hid : 0 ≤ id ∧ id ≤ 18446744073709551615) (hln : -9223372036854775808 ≤ len ∧ len ≤ 9223372036854775807) (q0 : 0 ≤ h0 ∧ h0 ≤ 65535) (q1 : 0 ≤ h1 ∧ h1 ≤ 65535) (q2 : 0 ≤ h2 ∧ h2 ≤ 65535) (q3 : 0 ≤ h3 ∧ h3 ≤ 65535) (mb : -9223372036854775808 ≤ m ∧ m ≤ 9223372036854775807) (tb : -9223372036854775808 ≤ t ∧ t ≤ 9223372036854775807) (l1 : len < 1) (m1 : 16384 < m) (t1 : t < 1) :
    Calls Try.prog 10 #[pkt id len h0 h1 h2 h3, .int .i64 m, .int .i64 t] w fun e w' => e = .returned (.bool true) ∧ Below w.heap.size w w' := by
  have dl1 : decide (len < 1) = true := decide_eq_true l1
  have dm1 : decide (m < 1) = false := decide_eq_false (by omega)
  have dm2 : decide (16384 < m) = true := decide_eq_true m1
  have dt1 : decide (t < 1) = true := decide_eq_true t1
  have hmay := hide (show (if 1 ≤ m ∧ m ≤ 16384 then (if 1 ≤ len ∧ len ≤ m then (0 : Int) else 26) else 1) = 1 by rw [if_neg (by omega)])
  go_enter Try.func10, Try.ntmps10
  go_wp2_with fail
  refine (ticks_t id len h0 h1 h2 h3 t _ (by omega)).mono ?_
  rintro e w1 ⟨rfl, hb1⟩
  have A1 : Blk w1 (w.heap.size) #[.int .u64 id, .int .i64 len, .int .u16 h0, .int .u16 h1, .int .u16 h2, .int .u16 h3] 42 := Blk.below (by (repeat' (first | (with_reducible assumption) | (with_reducible exact Blk.alloc_new _ _ _ (by first | rfl | (simp; done) | omega)) | (with_reducible refine Blk.drewN ?_ _) | (with_reducible refine Blk.drew ?_) | (with_reducible refine Blk.alloc_old ?_ _) | (with_reducible apply Blk.set_same) | (with_reducible refine Blk.set_other ?_ (by first | omega | (simp; done) | (simp; omega)) _) | (exact rfl)))) hb1 (by first | (simp; done) | omega | (simp; omega))
  have g1 : Below w.heap.size w w1 := by refine Below.trans ?_ (hb1.mono ?_) <;> (repeat' (first | (with_reducible exact Below.refl _ _) | (with_reducible assumption) | (with_reducible refine below_drewN ?_ _) | (with_reducible refine Below.drew ?_) | (with_reducible refine Below.alloc ?_ ?_ _) | (with_reducible refine Below.setCell ?_ ?_ _) | go_size))
  have hz1 := hb1.size
  (try simp at hz1)
  clear hb1
  replace cA := A1.cell
  replace fA := A1.frozen
  replace zA := A1.size
  go_wp2_with fail
  refine (may_any id len h0 h1 h2 h3 m _ 1 hmay.out).mono ?_
  rintro e w2 ⟨rfl, hb2⟩
  have A2 : Blk w2 (w.heap.size) #[.int .u64 id, .int .i64 len, .int .u16 h0, .int .u16 h1, .int .u16 h2, .int .u16 h3] 42 := Blk.below (by (repeat' (first | (with_reducible assumption) | (with_reducible exact Blk.alloc_new _ _ _ (by first | rfl | (simp; done) | omega)) | (with_reducible refine Blk.drewN ?_ _) | (with_reducible refine Blk.drew ?_) | (with_reducible refine Blk.alloc_old ?_ _) | (with_reducible apply Blk.set_same) | (with_reducible refine Blk.set_other ?_ (by first | omega | (simp; done) | (simp; omega)) _) | (exact rfl)))) hb2 (by first | (simp; done) | omega | (simp; omega))
  have g2 : Below w.heap.size w w2 := by refine Below.trans ?_ (hb2.mono ?_) <;> (repeat' (first | (with_reducible exact Below.refl _ _) | (with_reducible assumption) | (with_reducible refine below_drewN ?_ _) | (with_reducible refine Below.drew ?_) | (with_reducible refine Below.alloc ?_ ?_ _) | (with_reducible refine Below.setCell ?_ ?_ _) | go_size))
  have hz2 := hb2.size
  (try simp at hz2)
  clear hb2
  replace cA := A2.cell
  replace fA := A2.frozen
  replace zA := A2.size
  go_wp2_with fail
  refine (one_true _).mono ?_
  rintro e w3 ⟨rfl, hb3⟩
  have g3 : Below w.heap.size w w3 := by refine Below.trans ?_ (hb3.mono ?_) <;> (repeat' (first | (with_reducible exact Below.refl _ _) | (with_reducible assumption) | (with_reducible refine below_drewN ?_ _) | (with_reducible refine Below.drew ?_) | (with_reducible refine Below.alloc ?_ ?_ _) | (with_reducible refine Below.setCell ?_ ?_ _) | go_size))
  have hz3 := hb3.size
  (try simp at hz3)
  clear hb3
  go_wp2
  go_ret
  exact ⟨rfl, by (repeat' (first | (with_reducible exact Below.refl _ _) | (with_reducible assumption) | (with_reducible refine below_drewN ?_ _) | (with_reducible refine Below.drew ?_) | (with_reducible refine Below.alloc ?_ ?_ _) | (with_reducible refine Below.setCell ?_ ?_ _) | go_size))⟩
theorem PM_abb (id len h0 h1 h2 h3 m t : Int) (w : World) (hid : 0 ≤ id ∧ id ≤ 18446744073709551615) (hln : -9223372036854775808 ≤ len ∧ len ≤ 9223372036854775807) (q0 : 0 ≤ h0 ∧ h0 ≤ 65535) (q1 : 0 ≤ h1 ∧ h1 ≤ 65535) (q2 : 0 ≤ h2 ∧ h2 ≤ 65535) (q3 : 0 ≤ h3 ∧ h3 ≤ 65535) (mb : -9223372036854775808 ≤ m ∧ m ≤ 9223372036854775807) (tb : -9223372036854775808 ≤ t ∧ t ≤ 9223372036854775807) (l1 : len < 1) (m1 : 16384 < m) (t1 : 65536 < t) :
    Calls Try.prog 10 #[pkt id len h0 h1 h2 h3, .int .i64 m, .int .i64 t] w fun e w' => e = .returned (.bool true) ∧ Below w.heap.size w w' := by
  have dl1 : decide (len < 1) = true := decide_eq_true l1
  have dm1 : decide (m < 1) = false := decide_eq_false (by omega)
  have dm2 : decide (16384 < m) = true := decide_eq_true m1
  have dt1 : decide (t < 1) = false := decide_eq_false (by omega)
  have dt2 : decide (65536 < t) = true := decide_eq_true t1
  have hmay := hide (show (if 1 ≤ m ∧ m ≤ 16384 then (if 1 ≤ len ∧ len ≤ m then (0 : Int) else 26) else 1) = 1 by rw [if_neg (by omega)])
  go_enter Try.func10, Try.ntmps10
  go_wp2_with fail
  refine (ticks_t id len h0 h1 h2 h3 t _ (by omega)).mono ?_
  rintro e w1 ⟨rfl, hb1⟩
  have A1 : Blk w1 (w.heap.size) #[.int .u64 id, .int .i64 len, .int .u16 h0, .int .u16 h1, .int .u16 h2, .int .u16 h3] 42 := Blk.below (by (repeat' (first | (with_reducible assumption) | (with_reducible exact Blk.alloc_new _ _ _ (by first | rfl | (simp; done) | omega)) | (with_reducible refine Blk.drewN ?_ _) | (with_reducible refine Blk.drew ?_) | (with_reducible refine Blk.alloc_old ?_ _) | (with_reducible apply Blk.set_same) | (with_reducible refine Blk.set_other ?_ (by first | omega | (simp; done) | (simp; omega)) _) | (exact rfl)))) hb1 (by first | (simp; done) | omega | (simp; omega))
  have g1 : Below w.heap.size w w1 := by refine Below.trans ?_ (hb1.mono ?_) <;> (repeat' (first | (with_reducible exact Below.refl _ _) | (with_reducible assumption) | (with_reducible refine below_drewN ?_ _) | (with_reducible refine Below.drew ?_) | (with_reducible refine Below.alloc ?_ ?_ _) | (with_reducible refine Below.setCell ?_ ?_ _) | go_size))
  have hz1 := hb1.size
  (try simp at hz1)
  clear hb1
  replace cA := A1.cell
  replace fA := A1.frozen
  replace zA := A1.size
  go_wp2_with fail
  refine (may_any id len h0 h1 h2 h3 m _ 1 hmay.out).mono ?_
  rintro e w2 ⟨rfl, hb2⟩
  have A2 : Blk w2 (w.heap.size) #[.int .u64 id, .int .i64 len, .int .u16 h0, .int .u16 h1, .int .u16 h2, .int .u16 h3] 42 := Blk.below (by (repeat' (first | (with_reducible assumption) | (with_reducible exact Blk.alloc_new _ _ _ (by first | rfl | (simp; done) | omega)) | (with_reducible refine Blk.drewN ?_ _) | (with_reducible refine Blk.drew ?_) | (with_reducible refine Blk.alloc_old ?_ _) | (with_reducible apply Blk.set_same) | (with_reducible refine Blk.set_other ?_ (by first | omega | (simp; done) | (simp; omega)) _) | (exact rfl)))) hb2 (by first | (simp; done) | omega | (simp; omega))
  have g2 : Below w.heap.size w w2 := by refine Below.trans ?_ (hb2.mono ?_) <;> (repeat' (first | (with_reducible exact Below.refl _ _) | (with_reducible assumption) | (with_reducible refine below_drewN ?_ _) | (with_reducible refine Below.drew ?_) | (with_reducible refine Below.alloc ?_ ?_ _) | (with_reducible refine Below.setCell ?_ ?_ _) | go_size))
  have hz2 := hb2.size
  (try simp at hz2)
  clear hb2
  replace cA := A2.cell
  replace fA := A2.frozen
  replace zA := A2.size
  go_wp2_with fail
  refine (one_true _).mono ?_
  rintro e w3 ⟨rfl, hb3⟩
  have g3 : Below w.heap.size w w3 := by refine Below.trans ?_ (hb3.mono ?_) <;> (repeat' (first | (with_reducible exact Below.refl _ _) | (with_reducible assumption) | (with_reducible refine below_drewN ?_ _) | (with_reducible refine Below.drew ?_) | (with_reducible refine Below.alloc ?_ ?_ _) | (with_reducible refine Below.setCell ?_ ?_ _) | go_size))
  have hz3 := hb3.size
  (try simp at hz3)
  clear hb3
  go_wp2
  go_ret
  exact ⟨rfl, by (repeat' (first | (with_reducible exact Below.refl _ _) | (with_reducible assumption) | (with_reducible refine below_drewN ?_ _) | (with_reducible refine Below.drew ?_) | (with_reducible refine Below.alloc ?_ ?_ _) | (with_reducible refine Below.setCell ?_ ?_ _) | go_size))⟩
theorem PM_abc (id len h0 h1 h2 h3 m t : Int) (w : World) (hid : 0 ≤ id ∧ id ≤ 18446744073709551615) (hln : -9223372036854775808 ≤ len ∧ len ≤ 9223372036854775807) (q0 : 0 ≤ h0 ∧ h0 ≤ 65535) (q1 : 0 ≤ h1 ∧ h1 ≤ 65535) (q2 : 0 ≤ h2 ∧ h2 ≤ 65535) (q3 : 0 ≤ h3 ∧ h3 ≤ 65535) (mb : -9223372036854775808 ≤ m ∧ m ≤ 9223372036854775807) (tb : -9223372036854775808 ≤ t ∧ t ≤ 9223372036854775807) (l1 : len < 1) (m1 : 16384 < m) (t1 : 1 ≤ t) (t2 : t ≤ 65536) (t3 : len < 1) :
    Calls Try.prog 10 #[pkt id len h0 h1 h2 h3, .int .i64 m, .int .i64 t] w fun e w' => e = .returned (.bool true) ∧ Below w.heap.size w w' := by
  have dl1 : decide (len < 1) = true := decide_eq_true l1
  have dm1 : decide (m < 1) = false := decide_eq_false (by omega)
  have dm2 : decide (16384 < m) = true := decide_eq_true m1
  have dt1 : decide (t < 1) = false := decide_eq_false (by omega)
  have dt2 : decide (65536 < t) = false := decide_eq_false (by omega)
  have hmay := hide (show (if 1 ≤ m ∧ m ≤ 16384 then (if 1 ≤ len ∧ len ≤ m then (0 : Int) else 26) else 1) = 1 by rw [if_neg (by omega)])
  go_enter Try.func10, Try.ntmps10
  go_wp2_with fail
  refine (ticks_l id len h0 h1 h2 h3 t _ ⟨t1, t2⟩ (by omega)).mono ?_
  rintro e w1 ⟨rfl, hb1⟩
  have A1 : Blk w1 (w.heap.size) #[.int .u64 id, .int .i64 len, .int .u16 h0, .int .u16 h1, .int .u16 h2, .int .u16 h3] 42 := Blk.below (by (repeat' (first | (with_reducible assumption) | (with_reducible exact Blk.alloc_new _ _ _ (by first | rfl | (simp; done) | omega)) | (with_reducible refine Blk.drewN ?_ _) | (with_reducible refine Blk.drew ?_) | (with_reducible refine Blk.alloc_old ?_ _) | (with_reducible apply Blk.set_same) | (with_reducible refine Blk.set_other ?_ (by first | omega | (simp; done) | (simp; omega)) _) | (exact rfl)))) hb1 (by first | (simp; done) | omega | (simp; omega))
  have g1 : Below w.heap.size w w1 := by refine Below.trans ?_ (hb1.mono ?_) <;> (repeat' (first | (with_reducible exact Below.refl _ _) | (with_reducible assumption) | (with_reducible refine below_drewN ?_ _) | (with_reducible refine Below.drew ?_) | (with_reducible refine Below.alloc ?_ ?_ _) | (with_reducible refine Below.setCell ?_ ?_ _) | go_size))
  have hz1 := hb1.size
  (try simp at hz1)
  clear hb1
  replace cA := A1.cell
  replace fA := A1.frozen
  replace zA := A1.size
  go_wp2_with fail
  refine (may_any id len h0 h1 h2 h3 m _ 1 hmay.out).mono ?_
  rintro e w2 ⟨rfl, hb2⟩
  have A2 : Blk w2 (w.heap.size) #[.int .u64 id, .int .i64 len, .int .u16 h0, .int .u16 h1, .int .u16 h2, .int .u16 h3] 42 := Blk.below (by (repeat' (first | (with_reducible assumption) | (with_reducible exact Blk.alloc_new _ _ _ (by first | rfl | (simp; done) | omega)) | (with_reducible refine Blk.drewN ?_ _) | (with_reducible refine Blk.drew ?_) | (with_reducible refine Blk.alloc_old ?_ _) | (with_reducible apply Blk.set_same) | (with_reducible refine Blk.set_other ?_ (by first | omega | (simp; done) | (simp; omega)) _) | (exact rfl)))) hb2 (by first | (simp; done) | omega | (simp; omega))
  have g2 : Below w.heap.size w w2 := by refine Below.trans ?_ (hb2.mono ?_) <;> (repeat' (first | (with_reducible exact Below.refl _ _) | (with_reducible assumption) | (with_reducible refine below_drewN ?_ _) | (with_reducible refine Below.drew ?_) | (with_reducible refine Below.alloc ?_ ?_ _) | (with_reducible refine Below.setCell ?_ ?_ _) | go_size))
  have hz2 := hb2.size
  (try simp at hz2)
  clear hb2
  replace cA := A2.cell
  replace fA := A2.frozen
  replace zA := A2.size
  go_wp2_with fail
  refine (one_true _).mono ?_
  rintro e w3 ⟨rfl, hb3⟩
  have g3 : Below w.heap.size w w3 := by refine Below.trans ?_ (hb3.mono ?_) <;> (repeat' (first | (with_reducible exact Below.refl _ _) | (with_reducible assumption) | (with_reducible refine below_drewN ?_ _) | (with_reducible refine Below.drew ?_) | (with_reducible refine Below.alloc ?_ ?_ _) | (with_reducible refine Below.setCell ?_ ?_ _) | go_size))
  have hz3 := hb3.size
  (try simp at hz3)
  clear hb3
  go_wp2
  go_ret
  exact ⟨rfl, by (repeat' (first | (with_reducible exact Below.refl _ _) | (with_reducible assumption) | (with_reducible refine below_drewN ?_ _) | (with_reducible refine Below.drew ?_) | (with_reducible refine Below.alloc ?_ ?_ _) | (with_reducible refine Below.setCell ?_ ?_ _) | go_size))⟩
theorem PM_aca (id len h0 h1 h2 h3 m t : Int) (w : World) (hid : 0 ≤ id ∧ id ≤ 18446744073709551615) (hln : -9223372036854775808 ≤ len ∧ len ≤ 9223372036854775807) (q0 : 0 ≤ h0 ∧ h0 ≤ 65535) (q1 : 0 ≤ h1 ∧ h1 ≤ 65535) (q2 : 0 ≤ h2 ∧ h2 ≤ 65535) (q3 : 0 ≤ h3 ∧ h3 ≤ 65535) (mb : -9223372036854775808 ≤ m ∧ m ≤ 9223372036854775807) (tb : -9223372036854775808 ≤ t ∧ t ≤ 9223372036854775807) (l1 : len < 1) (m1 : 1 ≤ m) (m2 : m ≤ 16384) (t1 : t < 1) :
    Calls Try.prog 10 #[pkt id len h0 h1 h2 h3, .int .i64 m, .int .i64 t] w fun e w' => e = .returned (.bool true) ∧ Below w.heap.size w w' := by
  have dl1 : decide (len < 1) = true := decide_eq_true l1
  have dm1 : decide (m < 1) = false := decide_eq_false (by omega)
  have dm2 : decide (16384 < m) = false := decide_eq_false (by omega)
  have dt1 : decide (t < 1) = true := decide_eq_true t1
  have hmay := hide (show (if 1 ≤ m ∧ m ≤ 16384 then (if 1 ≤ len ∧ len ≤ m then (0 : Int) else 26) else 1) = 26 by rw [if_pos (by omega), if_neg (by omega)])
  go_enter Try.func10, Try.ntmps10
  go_wp2_with fail
  refine (ticks_t id len h0 h1 h2 h3 t _ (by omega)).mono ?_
  rintro e w1 ⟨rfl, hb1⟩
  have A1 : Blk w1 (w.heap.size) #[.int .u64 id, .int .i64 len, .int .u16 h0, .int .u16 h1, .int .u16 h2, .int .u16 h3] 42 := Blk.below (by (repeat' (first | (with_reducible assumption) | (with_reducible exact Blk.alloc_new _ _ _ (by first | rfl | (simp; done) | omega)) | (with_reducible refine Blk.drewN ?_ _) | (with_reducible refine Blk.drew ?_) | (with_reducible refine Blk.alloc_old ?_ _) | (with_reducible apply Blk.set_same) | (with_reducible refine Blk.set_other ?_ (by first | omega | (simp; done) | (simp; omega)) _) | (exact rfl)))) hb1 (by first | (simp; done) | omega | (simp; omega))
  have g1 : Below w.heap.size w w1 := by refine Below.trans ?_ (hb1.mono ?_) <;> (repeat' (first | (with_reducible exact Below.refl _ _) | (with_reducible assumption) | (with_reducible refine below_drewN ?_ _) | (with_reducible refine Below.drew ?_) | (with_reducible refine Below.alloc ?_ ?_ _) | (with_reducible refine Below.setCell ?_ ?_ _) | go_size))
  have hz1 := hb1.size
  (try simp at hz1)
  clear hb1
  replace cA := A1.cell
  replace fA := A1.frozen
  replace zA := A1.size
  go_wp2_with fail
  refine (may_any id len h0 h1 h2 h3 m _ 26 hmay.out).mono ?_
  rintro e w2 ⟨rfl, hb2⟩
  have A2 : Blk w2 (w.heap.size) #[.int .u64 id, .int .i64 len, .int .u16 h0, .int .u16 h1, .int .u16 h2, .int .u16 h3] 42 := Blk.below (by (repeat' (first | (with_reducible assumption) | (with_reducible exact Blk.alloc_new _ _ _ (by first | rfl | (simp; done) | omega)) | (with_reducible refine Blk.drewN ?_ _) | (with_reducible refine Blk.drew ?_) | (with_reducible refine Blk.alloc_old ?_ _) | (with_reducible apply Blk.set_same) | (with_reducible refine Blk.set_other ?_ (by first | omega | (simp; done) | (simp; omega)) _) | (exact rfl)))) hb2 (by first | (simp; done) | omega | (simp; omega))
  have g2 : Below w.heap.size w w2 := by refine Below.trans ?_ (hb2.mono ?_) <;> (repeat' (first | (with_reducible exact Below.refl _ _) | (with_reducible assumption) | (with_reducible refine below_drewN ?_ _) | (with_reducible refine Below.drew ?_) | (with_reducible refine Below.alloc ?_ ?_ _) | (with_reducible refine Below.setCell ?_ ?_ _) | go_size))
  have hz2 := hb2.size
  (try simp at hz2)
  clear hb2
  replace cA := A2.cell
  replace fA := A2.frozen
  replace zA := A2.size
  go_wp2_with fail
  refine (one_true _).mono ?_
  rintro e w3 ⟨rfl, hb3⟩
  have g3 : Below w.heap.size w w3 := by refine Below.trans ?_ (hb3.mono ?_) <;> (repeat' (first | (with_reducible exact Below.refl _ _) | (with_reducible assumption) | (with_reducible refine below_drewN ?_ _) | (with_reducible refine Below.drew ?_) | (with_reducible refine Below.alloc ?_ ?_ _) | (with_reducible refine Below.setCell ?_ ?_ _) | go_size))
  have hz3 := hb3.size
  (try simp at hz3)
  clear hb3
  go_wp2
  go_ret
  exact ⟨rfl, by (repeat' (first | (with_reducible exact Below.refl _ _) | (with_reducible assumption) | (with_reducible refine below_drewN ?_ _) | (with_reducible refine Below.drew ?_) | (with_reducible refine Below.alloc ?_ ?_ _) | (with_reducible refine Below.setCell ?_ ?_ _) | go_size))⟩
theorem PM_acb (id len h0 h1 h2 h3 m t : Int) (w : World) (hid : 0 ≤ id ∧ id ≤ 18446744073709551615) (hln : -9223372036854775808 ≤ len ∧ len ≤ 9223372036854775807) (q0 : 0 ≤ h0 ∧ h0 ≤ 65535) (q1 : 0 ≤ h1 ∧ h1 ≤ 65535) (q2 : 0 ≤ h2 ∧ h2 ≤ 65535) (q3 : 0 ≤ h3 ∧ h3 ≤ 65535) (mb : -9223372036854775808 ≤ m ∧ m ≤ 9223372036854775807) (tb : -9223372036854775808 ≤ t ∧ t ≤ 9223372036854775807) (l1 : len < 1) (m1 : 1 ≤ m) (m2 : m ≤ 16384) (t1 : 65536 < t) :
    Calls Try.prog 10 #[pkt id len h0 h1 h2 h3, .int .i64 m, .int .i64 t] w fun e w' => e = .returned (.bool true) ∧ Below w.heap.size w w' := by
  have dl1 : decide (len < 1) = true := decide_eq_true l1
  have dm1 : decide (m < 1) = false := decide_eq_false (by omega)
  have dm2 : decide (16384 < m) = false := decide_eq_false (by omega)
  have dt1 : decide (t < 1) = false := decide_eq_false (by omega)
  have dt2 : decide (65536 < t) = true := decide_eq_true t1
  have hmay := hide (show (if 1 ≤ m ∧ m ≤ 16384 then (if 1 ≤ len ∧ len ≤ m then (0 : Int) else 26) else 1) = 26 by rw [if_pos (by omega), if_neg (by omega)])
  go_enter Try.func10, Try.ntmps10
  go_wp2_with fail
  refine (ticks_t id len h0 h1 h2 h3 t _ (by omega)).mono ?_
  rintro e w1 ⟨rfl, hb1⟩
  have A1 : Blk w1 (w.heap.size) #[.int .u64 id, .int .i64 len, .int .u16 h0, .int .u16 h1, .int .u16 h2, .int .u16 h3] 42 := Blk.below (by (repeat' (first | (with_reducible assumption) | (with_reducible exact Blk.alloc_new _ _ _ (by first | rfl | (simp; done) | omega)) | (with_reducible refine Blk.drewN ?_ _) | (with_reducible refine Blk.drew ?_) | (with_reducible refine Blk.alloc_old ?_ _) | (with_reducible apply Blk.set_same) | (with_reducible refine Blk.set_other ?_ (by first | omega | (simp; done) | (simp; omega)) _) | (exact rfl)))) hb1 (by first | (simp; done) | omega | (simp; omega))
  have g1 : Below w.heap.size w w1 := by refine Below.trans ?_ (hb1.mono ?_) <;> (repeat' (first | (with_reducible exact Below.refl _ _) | (with_reducible assumption) | (with_reducible refine below_drewN ?_ _) | (with_reducible refine Below.drew ?_) | (with_reducible refine Below.alloc ?_ ?_ _) | (with_reducible refine Below.setCell ?_ ?_ _) | go_size))
  have hz1 := hb1.size
  (try simp at hz1)
  clear hb1
  replace cA := A1.cell
  replace fA := A1.frozen
  replace zA := A1.size
  go_wp2_with fail
  refine (may_any id len h0 h1 h2 h3 m _ 26 hmay.out).mono ?_
  rintro e w2 ⟨rfl, hb2⟩
  have A2 : Blk w2 (w.heap.size) #[.int .u64 id, .int .i64 len, .int .u16 h0, .int .u16 h1, .int .u16 h2, .int .u16 h3] 42 := Blk.below (by (repeat' (first | (with_reducible assumption) | (with_reducible exact Blk.alloc_new _ _ _ (by first | rfl | (simp; done) | omega)) | (with_reducible refine Blk.drewN ?_ _) | (with_reducible refine Blk.drew ?_) | (with_reducible refine Blk.alloc_old ?_ _) | (with_reducible apply Blk.set_same) | (with_reducible refine Blk.set_other ?_ (by first | omega | (simp; done) | (simp; omega)) _) | (exact rfl)))) hb2 (by first | (simp; done) | omega | (simp; omega))
  have g2 : Below w.heap.size w w2 := by refine Below.trans ?_ (hb2.mono ?_) <;> (repeat' (first | (with_reducible exact Below.refl _ _) | (with_reducible assumption) | (with_reducible refine below_drewN ?_ _) | (with_reducible refine Below.drew ?_) | (with_reducible refine Below.alloc ?_ ?_ _) | (with_reducible refine Below.setCell ?_ ?_ _) | go_size))
  have hz2 := hb2.size
  (try simp at hz2)
  clear hb2
  replace cA := A2.cell
  replace fA := A2.frozen
  replace zA := A2.size
  go_wp2_with fail
  refine (one_true _).mono ?_
  rintro e w3 ⟨rfl, hb3⟩
  have g3 : Below w.heap.size w w3 := by refine Below.trans ?_ (hb3.mono ?_) <;> (repeat' (first | (with_reducible exact Below.refl _ _) | (with_reducible assumption) | (with_reducible refine below_drewN ?_ _) | (with_reducible refine Below.drew ?_) | (with_reducible refine Below.alloc ?_ ?_ _) | (with_reducible refine Below.setCell ?_ ?_ _) | go_size))
  have hz3 := hb3.size
  (try simp at hz3)
  clear hb3
  go_wp2
  go_ret
  exact ⟨rfl, by (repeat' (first | (with_reducible exact Below.refl _ _) | (with_reducible assumption) | (with_reducible refine below_drewN ?_ _) | (with_reducible refine Below.drew ?_) | (with_reducible refine Below.alloc ?_ ?_ _) | (with_reducible refine Below.setCell ?_ ?_ _) | go_size))⟩
theorem PM_acc (id len h0 h1 h2 h3 m t : Int) (w : World) (hid : 0 ≤ id ∧ id ≤ 18446744073709551615) (hln : -9223372036854775808 ≤ len ∧ len ≤ 9223372036854775807) (q0 : 0 ≤ h0 ∧ h0 ≤ 65535) (q1 : 0 ≤ h1 ∧ h1 ≤ 65535) (q2 : 0 ≤ h2 ∧ h2 ≤ 65535) (q3 : 0 ≤ h3 ∧ h3 ≤ 65535) (mb : -9223372036854775808 ≤ m ∧ m ≤ 9223372036854775807) (tb : -9223372036854775808 ≤ t ∧ t ≤ 9223372036854775807) (l1 : len < 1) (m1 : 1 ≤ m) (m2 : m ≤ 16384) (t1 : 1 ≤ t) (t2 : t ≤ 65536) (t3 : len < 1) :
    Calls Try.prog 10 #[pkt id len h0 h1 h2 h3, .int .i64 m, .int .i64 t] w fun e w' => e = .returned (.bool true) ∧ Below w.heap.size w w' := by
  have dl1 : decide (len < 1) = true := decide_eq_true l1
  have dm1 : decide (m < 1) = false := decide_eq_false (by omega)
  have dm2 : decide (16384 < m) = false := decide_eq_false (by omega)
  have dt1 : decide (t < 1) = false := decide_eq_false (by omega)
  have dt2 : decide (65536 < t) = false := decide_eq_false (by omega)
  have hmay := hide (show (if 1 ≤ m ∧ m ≤ 16384 then (if 1 ≤ len ∧ len ≤ m then (0 : Int) else 26) else 1) = 26 by rw [if_pos (by omega), if_neg (by omega)])
  go_enter Try.func10, Try.ntmps10
  go_wp2_with fail
  refine (ticks_l id len h0 h1 h2 h3 t _ ⟨t1, t2⟩ (by omega)).mono ?_
  rintro e w1 ⟨rfl, hb1⟩
  have A1 : Blk w1 (w.heap.size) #[.int .u64 id, .int .i64 len, .int .u16 h0, .int .u16 h1, .int .u16 h2, .int .u16 h3] 42 := Blk.below (by (repeat' (first | (with_reducible assumption) | (with_reducible exact Blk.alloc_new _ _ _ (by first | rfl | (simp; done) | omega)) | (with_reducible refine Blk.drewN ?_ _) | (with_reducible refine Blk.drew ?_) | (with_reducible refine Blk.alloc_old ?_ _) | (with_reducible apply Blk.set_same) | (with_reducible refine Blk.set_other ?_ (by first | omega | (simp; done) | (simp; omega)) _) | (exact rfl)))) hb1 (by first | (simp; done) | omega | (simp; omega))
  have g1 : Below w.heap.size w w1 := by refine Below.trans ?_ (hb1.mono ?_) <;> (repeat' (first | (with_reducible exact Below.refl _ _) | (with_reducible assumption) | (with_reducible refine below_drewN ?_ _) | (with_reducible refine Below.drew ?_) | (with_reducible refine Below.alloc ?_ ?_ _) | (with_reducible refine Below.setCell ?_ ?_ _) | go_size))
  have hz1 := hb1.size
  (try simp at hz1)
  clear hb1
  replace cA := A1.cell
  replace fA := A1.frozen
  replace zA := A1.size
  go_wp2_with fail
  refine (may_any id len h0 h1 h2 h3 m _ 26 hmay.out).mono ?_
  rintro e w2 ⟨rfl, hb2⟩
  have A2 : Blk w2 (w.heap.size) #[.int .u64 id, .int .i64 len, .int .u16 h0, .int .u16 h1, .int .u16 h2, .int .u16 h3] 42 := Blk.below (by (repeat' (first | (with_reducible assumption) | (with_reducible exact Blk.alloc_new _ _ _ (by first | rfl | (simp; done) | omega)) | (with_reducible refine Blk.drewN ?_ _) | (with_reducible refine Blk.drew ?_) | (with_reducible refine Blk.alloc_old ?_ _) | (with_reducible apply Blk.set_same) | (with_reducible refine Blk.set_other ?_ (by first | omega | (simp; done) | (simp; omega)) _) | (exact rfl)))) hb2 (by first | (simp; done) | omega | (simp; omega))
  have g2 : Below w.heap.size w w2 := by refine Below.trans ?_ (hb2.mono ?_) <;> (repeat' (first | (with_reducible exact Below.refl _ _) | (with_reducible assumption) | (with_reducible refine below_drewN ?_ _) | (with_reducible refine Below.drew ?_) | (with_reducible refine Below.alloc ?_ ?_ _) | (with_reducible refine Below.setCell ?_ ?_ _) | go_size))
  have hz2 := hb2.size
  (try simp at hz2)
  clear hb2
  replace cA := A2.cell
  replace fA := A2.frozen
  replace zA := A2.size
  go_wp2_with fail
  refine (one_true _).mono ?_
  rintro e w3 ⟨rfl, hb3⟩
  have g3 : Below w.heap.size w w3 := by refine Below.trans ?_ (hb3.mono ?_) <;> (repeat' (first | (with_reducible exact Below.refl _ _) | (with_reducible assumption) | (with_reducible refine below_drewN ?_ _) | (with_reducible refine Below.drew ?_) | (with_reducible refine Below.alloc ?_ ?_ _) | (with_reducible refine Below.setCell ?_ ?_ _) | go_size))
  have hz3 := hb3.size
  (try simp at hz3)
  clear hb3
  go_wp2
  go_ret
  exact ⟨rfl, by (repeat' (first | (with_reducible exact Below.refl _ _) | (with_reducible assumption) | (with_reducible refine below_drewN ?_ _) | (with_reducible refine Below.drew ?_) | (with_reducible refine Below.alloc ?_ ?_ _) | (with_reducible refine Below.setCell ?_ ?_ _) | go_size))⟩
theorem PM_baa (id len h0 h1 h2 h3 m t : Int) (w : World) (hid : 0 ≤ id ∧ id ≤ 18446744073709551615) (hln : -9223372036854775808 ≤ len ∧ len ≤ 9223372036854775807) (q0 : 0 ≤ h0 ∧ h0 ≤ 65535) (q1 : 0 ≤ h1 ∧ h1 ≤ 65535) (q2 : 0 ≤ h2 ∧ h2 ≤ 65535) (q3 : 0 ≤ h3 ∧ h3 ≤ 65535) (mb : -9223372036854775808 ≤ m ∧ m ≤ 9223372036854775807) (tb : -9223372036854775808 ≤ t ∧ t ≤ 9223372036854775807) (l1 : 1 ≤ len) (l2 : m < len) (m1 : m < 1) (t1 : t < 1) :
    Calls Try.prog 10 #[pkt id len h0 h1 h2 h3, .int .i64 m, .int .i64 t] w fun e w' => e = .returned (.bool true) ∧ Below w.heap.size w w' := by
  have dl1 : decide (len < 1) = false := decide_eq_false (by omega)
  have dl2 : decide (m < len) = true := decide_eq_true l2
  have dm1 : decide (m < 1) = true := decide_eq_true m1
  have dt1 : decide (t < 1) = true := decide_eq_true t1
  have hmay := hide (show (if 1 ≤ m ∧ m ≤ 16384 then (if 1 ≤ len ∧ len ≤ m then (0 : Int) else 26) else 1) = 1 by rw [if_neg (by omega)])
  go_enter Try.func10, Try.ntmps10
  go_wp2_with fail
  refine (ticks_t id len h0 h1 h2 h3 t _ (by omega)).mono ?_
  rintro e w1 ⟨rfl, hb1⟩
  have A1 : Blk w1 (w.heap.size) #[.int .u64 id, .int .i64 len, .int .u16 h0, .int .u16 h1, .int .u16 h2, .int .u16 h3] 42 := Blk.below (by (repeat' (first | (with_reducible assumption) | (with_reducible exact Blk.alloc_new _ _ _ (by first | rfl | (simp; done) | omega)) | (with_reducible refine Blk.drewN ?_ _) | (with_reducible refine Blk.drew ?_) | (with_reducible refine Blk.alloc_old ?_ _) | (with_reducible apply Blk.set_same) | (with_reducible refine Blk.set_other ?_ (by first | omega | (simp; done) | (simp; omega)) _) | (exact rfl)))) hb1 (by first | (simp; done) | omega | (simp; omega))
  have g1 : Below w.heap.size w w1 := by refine Below.trans ?_ (hb1.mono ?_) <;> (repeat' (first | (with_reducible exact Below.refl _ _) | (with_reducible assumption) | (with_reducible refine below_drewN ?_ _) | (with_reducible refine Below.drew ?_) | (with_reducible refine Below.alloc ?_ ?_ _) | (with_reducible refine Below.setCell ?_ ?_ _) | go_size))
  have hz1 := hb1.size
  (try simp at hz1)
  clear hb1
  replace cA := A1.cell
  replace fA := A1.frozen
  replace zA := A1.size
  go_wp2_with fail
  refine (may_any id len h0 h1 h2 h3 m _ 1 hmay.out).mono ?_
  rintro e w2 ⟨rfl, hb2⟩
  have A2 : Blk w2 (w.heap.size) #[.int .u64 id, .int .i64 len, .int .u16 h0, .int .u16 h1, .int .u16 h2, .int .u16 h3] 42 := Blk.below (by (repeat' (first | (with_reducible assumption) | (with_reducible exact Blk.alloc_new _ _ _ (by first | rfl | (simp; done) | omega)) | (with_reducible refine Blk.drewN ?_ _) | (with_reducible refine Blk.drew ?_) | (with_reducible refine Blk.alloc_old ?_ _) | (with_reducible apply Blk.set_same) | (with_reducible refine Blk.set_other ?_ (by first | omega | (simp; done) | (simp; omega)) _) | (exact rfl)))) hb2 (by first | (simp; done) | omega | (simp; omega))
  have g2 : Below w.heap.size w w2 := by refine Below.trans ?_ (hb2.mono ?_) <;> (repeat' (first | (with_reducible exact Below.refl _ _) | (with_reducible assumption) | (with_reducible refine below_drewN ?_ _) | (with_reducible refine Below.drew ?_) | (with_reducible refine Below.alloc ?_ ?_ _) | (with_reducible refine Below.setCell ?_ ?_ _) | go_size))
  have hz2 := hb2.size
  (try simp at hz2)
  clear hb2
  replace cA := A2.cell
  replace fA := A2.frozen
  replace zA := A2.size
  go_wp2_with fail
  refine (one_true _).mono ?_
  rintro e w3 ⟨rfl, hb3⟩
  have g3 : Below w.heap.size w w3 := by refine Below.trans ?_ (hb3.mono ?_) <;> (repeat' (first | (with_reducible exact Below.refl _ _) | (with_reducible assumption) | (with_reducible refine below_drewN ?_ _) | (with_reducible refine Below.drew ?_) | (with_reducible refine Below.alloc ?_ ?_ _) | (with_reducible refine Below.setCell ?_ ?_ _) | go_size))
  have hz3 := hb3.size
  (try simp at hz3)
  clear hb3
  go_wp2
  go_ret
  exact ⟨rfl, by (repeat' (first | (with_reducible exact Below.refl _ _) | (with_reducible assumption) | (with_reducible refine below_drewN ?_ _) | (with_reducible refine Below.drew ?_) | (with_reducible refine Below.alloc ?_ ?_ _) | (with_reducible refine Below.setCell ?_ ?_ _) | go_size))⟩
theorem PM_bab (id len h0 h1 h2 h3 m t : Int) (w : World) (hid : 0 ≤ id ∧ id ≤ 18446744073709551615) (hln : -9223372036854775808 ≤ len ∧ len ≤ 9223372036854775807) (q0 : 0 ≤ h0 ∧ h0 ≤ 65535) (q1 : 0 ≤ h1 ∧ h1 ≤ 65535) (q2 : 0 ≤ h2 ∧ h2 ≤ 65535) (q3 : 0 ≤ h3 ∧ h3 ≤ 65535) (mb : -9223372036854775808 ≤ m ∧ m ≤ 9223372036854775807) (tb : -9223372036854775808 ≤ t ∧ t ≤ 9223372036854775807) (l1 : 1 ≤ len) (l2 : m < len) (m1 : m < 1) (t1 : 65536 < t) :
    Calls Try.prog 10 #[pkt id len h0 h1 h2 h3, .int .i64 m, .int .i64 t] w fun e w' => e = .returned (.bool true) ∧ Below w.heap.size w w' := by
  have dl1 : decide (len < 1) = false := decide_eq_false (by omega)
  have dl2 : decide (m < len) = true := decide_eq_true l2
  have dm1 : decide (m < 1) = true := decide_eq_true m1
  have dt1 : decide (t < 1) = false := decide_eq_false (by omega)
  have dt2 : decide (65536 < t) = true := decide_eq_true t1
  have hmay := hide (show (if 1 ≤ m ∧ m ≤ 16384 then (if 1 ≤ len ∧ len ≤ m then (0 : Int) else 26) else 1) = 1 by rw [if_neg (by omega)])
  go_enter Try.func10, Try.ntmps10
  go_wp2_with fail
  refine (ticks_t id len h0 h1 h2 h3 t _ (by omega)).mono ?_
  rintro e w1 ⟨rfl, hb1⟩
  have A1 : Blk w1 (w.heap.size) #[.int .u64 id, .int .i64 len, .int .u16 h0, .int .u16 h1, .int .u16 h2, .int .u16 h3] 42 := Blk.below (by (repeat' (first | (with_reducible assumption) | (with_reducible exact Blk.alloc_new _ _ _ (by first | rfl | (simp; done) | omega)) | (with_reducible refine Blk.drewN ?_ _) | (with_reducible refine Blk.drew ?_) | (with_reducible refine Blk.alloc_old ?_ _) | (with_reducible apply Blk.set_same) | (with_reducible refine Blk.set_other ?_ (by first | omega | (simp; done) | (simp; omega)) _) | (exact rfl)))) hb1 (by first | (simp; done) | omega | (simp; omega))
  have g1 : Below w.heap.size w w1 := by refine Below.trans ?_ (hb1.mono ?_) <;> (repeat' (first | (with_reducible exact Below.refl _ _) | (with_reducible assumption) | (with_reducible refine below_drewN ?_ _) | (with_reducible refine Below.drew ?_) | (with_reducible refine Below.alloc ?_ ?_ _) | (with_reducible refine Below.setCell ?_ ?_ _) | go_size))
  have hz1 := hb1.size
  (try simp at hz1)
  clear hb1
  replace cA := A1.cell
  replace fA := A1.frozen
  replace zA := A1.size
  go_wp2_with fail
  refine (may_any id len h0 h1 h2 h3 m _ 1 hmay.out).mono ?_
  rintro e w2 ⟨rfl, hb2⟩
  have A2 : Blk w2 (w.heap.size) #[.int .u64 id, .int .i64 len, .int .u16 h0, .int .u16 h1, .int .u16 h2, .int .u16 h3] 42 := Blk.below (by (repeat' (first | (with_reducible assumption) | (with_reducible exact Blk.alloc_new _ _ _ (by first | rfl | (simp; done) | omega)) | (with_reducible refine Blk.drewN ?_ _) | (with_reducible refine Blk.drew ?_) | (with_reducible refine Blk.alloc_old ?_ _) | (with_reducible apply Blk.set_same) | (with_reducible refine Blk.set_other ?_ (by first | omega | (simp; done) | (simp; omega)) _) | (exact rfl)))) hb2 (by first | (simp; done) | omega | (simp; omega))
  have g2 : Below w.heap.size w w2 := by refine Below.trans ?_ (hb2.mono ?_) <;> (repeat' (first | (with_reducible exact Below.refl _ _) | (with_reducible assumption) | (with_reducible refine below_drewN ?_ _) | (with_reducible refine Below.drew ?_) | (with_reducible refine Below.alloc ?_ ?_ _) | (with_reducible refine Below.setCell ?_ ?_ _) | go_size))
  have hz2 := hb2.size
  (try simp at hz2)
  clear hb2
  replace cA := A2.cell
  replace fA := A2.frozen
  replace zA := A2.size
  go_wp2_with fail
  refine (one_true _).mono ?_
  rintro e w3 ⟨rfl, hb3⟩
  have g3 : Below w.heap.size w w3 := by refine Below.trans ?_ (hb3.mono ?_) <;> (repeat' (first | (with_reducible exact Below.refl _ _) | (with_reducible assumption) | (with_reducible refine below_drewN ?_ _) | (with_reducible refine Below.drew ?_) | (with_reducible refine Below.alloc ?_ ?_ _) | (with_reducible refine Below.setCell ?_ ?_ _) | go_size))
  have hz3 := hb3.size
  (try simp at hz3)
  clear hb3
  go_wp2
  go_ret
  exact ⟨rfl, by (repeat' (first | (with_reducible exact Below.refl _ _) | (with_reducible assumption) | (with_reducible refine below_drewN ?_ _) | (with_reducible refine Below.drew ?_) | (with_reducible refine Below.alloc ?_ ?_ _) | (with_reducible refine Below.setCell ?_ ?_ _) | go_size))⟩
theorem PM_bad (id len h0 h1 h2 h3 m t : Int) (w : World) (hid : 0 ≤ id ∧ id ≤ 18446744073709551615) (hln : -9223372036854775808 ≤ len ∧ len ≤ 9223372036854775807) (q0 : 0 ≤ h0 ∧ h0 ≤ 65535) (q1 : 0 ≤ h1 ∧ h1 ≤ 65535) (q2 : 0 ≤ h2 ∧ h2 ≤ 65535) (q3 : 0 ≤ h3 ∧ h3 ≤ 65535) (mb : -9223372036854775808 ≤ m ∧ m ≤ 9223372036854775807) (tb : -9223372036854775808 ≤ t ∧ t ≤ 9223372036854775807) (l1 : 1 ≤ len) (l2 : m < len) (m1 : m < 1) (t1 : 1 ≤ t) (t2 : t ≤ 65536) (t3 : 16384 < len) :
    Calls Try.prog 10 #[pkt id len h0 h1 h2 h3, .int .i64 m, .int .i64 t] w fun e w' => e = .returned (.bool true) ∧ Below w.heap.size w w' := by
  have dl1 : decide (len < 1) = false := decide_eq_false (by omega)
  have dl2 : decide (m < len) = true := decide_eq_true l2
  have dm1 : decide (m < 1) = true := decide_eq_true m1
  have dt1 : decide (t < 1) = false := decide_eq_false (by omega)
  have dt2 : decide (65536 < t) = false := decide_eq_false (by omega)
  have dt3 : decide (16384 < len) = true := decide_eq_true t3
  have hmay := hide (show (if 1 ≤ m ∧ m ≤ 16384 then (if 1 ≤ len ∧ len ≤ m then (0 : Int) else 26) else 1) = 1 by rw [if_neg (by omega)])
  go_enter Try.func10, Try.ntmps10
  go_wp2_with fail
  refine (ticks_l id len h0 h1 h2 h3 t _ ⟨t1, t2⟩ (by omega)).mono ?_
  rintro e w1 ⟨rfl, hb1⟩
  have A1 : Blk w1 (w.heap.size) #[.int .u64 id, .int .i64 len, .int .u16 h0, .int .u16 h1, .int .u16 h2, .int .u16 h3] 42 := Blk.below (by (repeat' (first | (with_reducible assumption) | (with_reducible exact Blk.alloc_new _ _ _ (by first | rfl | (simp; done) | omega)) | (with_reducible refine Blk.drewN ?_ _) | (with_reducible refine Blk.drew ?_) | (with_reducible refine Blk.alloc_old ?_ _) | (with_reducible apply Blk.set_same) | (with_reducible refine Blk.set_other ?_ (by first | omega | (simp; done) | (simp; omega)) _) | (exact rfl)))) hb1 (by first | (simp; done) | omega | (simp; omega))
  have g1 : Below w.heap.size w w1 := by refine Below.trans ?_ (hb1.mono ?_) <;> (repeat' (first | (with_reducible exact Below.refl _ _) | (with_reducible assumption) | (with_reducible refine below_drewN ?_ _) | (with_reducible refine Below.drew ?_) | (with_reducible refine Below.alloc ?_ ?_ _) | (with_reducible refine Below.setCell ?_ ?_ _) | go_size))
  have hz1 := hb1.size
  (try simp at hz1)
  clear hb1
  replace cA := A1.cell
  replace fA := A1.frozen
  replace zA := A1.size
  go_wp2_with fail
  refine (may_any id len h0 h1 h2 h3 m _ 1 hmay.out).mono ?_
  rintro e w2 ⟨rfl, hb2⟩
  have A2 : Blk w2 (w.heap.size) #[.int .u64 id, .int .i64 len, .int .u16 h0, .int .u16 h1, .int .u16 h2, .int .u16 h3] 42 := Blk.below (by (repeat' (first | (with_reducible assumption) | (with_reducible exact Blk.alloc_new _ _ _ (by first | rfl | (simp; done) | omega)) | (with_reducible refine Blk.drewN ?_ _) | (with_reducible refine Blk.drew ?_) | (with_reducible refine Blk.alloc_old ?_ _) | (with_reducible apply Blk.set_same) | (with_reducible refine Blk.set_other ?_ (by first | omega | (simp; done) | (simp; omega)) _) | (exact rfl)))) hb2 (by first | (simp; done) | omega | (simp; omega))
  have g2 : Below w.heap.size w w2 := by refine Below.trans ?_ (hb2.mono ?_) <;> (repeat' (first | (with_reducible exact Below.refl _ _) | (with_reducible assumption) | (with_reducible refine below_drewN ?_ _) | (with_reducible refine Below.drew ?_) | (with_reducible refine Below.alloc ?_ ?_ _) | (with_reducible refine Below.setCell ?_ ?_ _) | go_size))
  have hz2 := hb2.size
  (try simp at hz2)
  clear hb2
  replace cA := A2.cell
  replace fA := A2.frozen
  replace zA := A2.size
  go_wp2_with fail
  refine (one_true _).mono ?_
  rintro e w3 ⟨rfl, hb3⟩
  have g3 : Below w.heap.size w w3 := by refine Below.trans ?_ (hb3.mono ?_) <;> (repeat' (first | (with_reducible exact Below.refl _ _) | (with_reducible assumption) | (with_reducible refine below_drewN ?_ _) | (with_reducible refine Below.drew ?_) | (with_reducible refine Below.alloc ?_ ?_ _) | (with_reducible refine Below.setCell ?_ ?_ _) | go_size))
  have hz3 := hb3.size
  (try simp at hz3)
  clear hb3
  go_wp2
  go_ret
  exact ⟨rfl, by (repeat' (first | (with_reducible exact Below.refl _ _) | (with_reducible assumption) | (with_reducible refine below_drewN ?_ _) | (with_reducible refine Below.drew ?_) | (with_reducible refine Below.alloc ?_ ?_ _) | (with_reducible refine Below.setCell ?_ ?_ _) | go_size))⟩
theorem PM_bae (id len h0 h1 h2 h3 m t : Int) (w : World) (hid : 0 ≤ id ∧ id ≤ 18446744073709551615) (hln : -9223372036854775808 ≤ len ∧ len ≤ 9223372036854775807) (q0 : 0 ≤ h0 ∧ h0 ≤ 65535) (q1 : 0 ≤ h1 ∧ h1 ≤ 65535) (q2 : 0 ≤ h2 ∧ h2 ≤ 65535) (q3 : 0 ≤ h3 ∧ h3 ≤ 65535) (mb : -9223372036854775808 ≤ m ∧ m ≤ 9223372036854775807) (tb : -9223372036854775808 ≤ t ∧ t ≤ 9223372036854775807) (l1 : 1 ≤ len) (l2 : m < len) (m1 : m < 1) (t1 : 1 ≤ t) (t2 : t ≤ 65536) (t3 : 1 ≤ len) (t4 : len ≤ 16384) :
    Calls Try.prog 10 #[pkt id len h0 h1 h2 h3, .int .i64 m, .int .i64 t] w fun e w' => e = .returned (.bool true) ∧ Below w.heap.size w w' := by
  have dl1 : decide (len < 1) = false := decide_eq_false (by omega)
  have dl2 : decide (m < len) = true := decide_eq_true l2
  have dm1 : decide (m < 1) = true := decide_eq_true m1
  have dt1 : decide (t < 1) = false := decide_eq_false (by omega)
  have dt2 : decide (65536 < t) = false := decide_eq_false (by omega)
  have dt3 : decide (16384 < len) = false := decide_eq_false (by omega)
  have hp := prod_rng t3 t4 t1 t2
  have hpd : decide (len * t ≤ 1073741824) = true := decide_eq_true hp.2
  have hmay := hide (show (if 1 ≤ m ∧ m ≤ 16384 then (if 1 ≤ len ∧ len ≤ m then (0 : Int) else 26) else 1) = 1 by rw [if_neg (by omega)])
  go_enter Try.func10, Try.ntmps10
  go_wp2_with fail
  refine (ticks_ok id len h0 h1 h2 h3 t _ ⟨t1, t2⟩ ⟨t3, t4⟩).mono ?_
  rintro e w1 ⟨rfl, hb1⟩
  have A1 : Blk w1 (w.heap.size) #[.int .u64 id, .int .i64 len, .int .u16 h0, .int .u16 h1, .int .u16 h2, .int .u16 h3] 42 := Blk.below (by (repeat' (first | (with_reducible assumption) | (with_reducible exact Blk.alloc_new _ _ _ (by first | rfl | (simp; done) | omega)) | (with_reducible refine Blk.drewN ?_ _) | (with_reducible refine Blk.drew ?_) | (with_reducible refine Blk.alloc_old ?_ _) | (with_reducible apply Blk.set_same) | (with_reducible refine Blk.set_other ?_ (by first | omega | (simp; done) | (simp; omega)) _) | (exact rfl)))) hb1 (by first | (simp; done) | omega | (simp; omega))
  have g1 : Below w.heap.size w w1 := by refine Below.trans ?_ (hb1.mono ?_) <;> (repeat' (first | (with_reducible exact Below.refl _ _) | (with_reducible assumption) | (with_reducible refine below_drewN ?_ _) | (with_reducible refine Below.drew ?_) | (with_reducible refine Below.alloc ?_ ?_ _) | (with_reducible refine Below.setCell ?_ ?_ _) | go_size))
  have hz1 := hb1.size
  (try simp at hz1)
  clear hb1
  replace cA := A1.cell
  replace fA := A1.frozen
  replace zA := A1.size
  go_wp2_with fail
  refine (may_any id len h0 h1 h2 h3 m _ 1 hmay.out).mono ?_
  rintro e w2 ⟨rfl, hb2⟩
  have A2 : Blk w2 (w.heap.size) #[.int .u64 id, .int .i64 len, .int .u16 h0, .int .u16 h1, .int .u16 h2, .int .u16 h3] 42 := Blk.below (by (repeat' (first | (with_reducible assumption) | (with_reducible exact Blk.alloc_new _ _ _ (by first | rfl | (simp; done) | omega)) | (with_reducible refine Blk.drewN ?_ _) | (with_reducible refine Blk.drew ?_) | (with_reducible refine Blk.alloc_old ?_ _) | (with_reducible apply Blk.set_same) | (with_reducible refine Blk.set_other ?_ (by first | omega | (simp; done) | (simp; omega)) _) | (exact rfl)))) hb2 (by first | (simp; done) | omega | (simp; omega))
  have g2 : Below w.heap.size w w2 := by refine Below.trans ?_ (hb2.mono ?_) <;> (repeat' (first | (with_reducible exact Below.refl _ _) | (with_reducible assumption) | (with_reducible refine below_drewN ?_ _) | (with_reducible refine Below.drew ?_) | (with_reducible refine Below.alloc ?_ ?_ _) | (with_reducible refine Below.setCell ?_ ?_ _) | go_size))
  have hz2 := hb2.size
  (try simp at hz2)
  clear hb2
  replace cA := A2.cell
  replace fA := A2.frozen
  replace zA := A2.size
  go_wp2_with fail
  refine (one_true _).mono ?_
  rintro e w3 ⟨rfl, hb3⟩
  have g3 : Below w.heap.size w w3 := by refine Below.trans ?_ (hb3.mono ?_) <;> (repeat' (first | (with_reducible exact Below.refl _ _) | (with_reducible assumption) | (with_reducible refine below_drewN ?_ _) | (with_reducible refine Below.drew ?_) | (with_reducible refine Below.alloc ?_ ?_ _) | (with_reducible refine Below.setCell ?_ ?_ _) | go_size))
  have hz3 := hb3.size
  (try simp at hz3)
  clear hb3
  go_wp2
  go_ret
  exact ⟨rfl, by (repeat' (first | (with_reducible exact Below.refl _ _) | (with_reducible assumption) | (with_reducible refine below_drewN ?_ _) | (with_reducible refine Below.drew ?_) | (with_reducible refine Below.alloc ?_ ?_ _) | (with_reducible refine Below.setCell ?_ ?_ _) | go_size))⟩
theorem PM_bba (id len h0 h1 h2 h3 m t : Int) (w : World) (hid : 0 ≤ id ∧ id ≤ 18446744073709551615) (hln : -9223372036854775808 ≤ len ∧ len ≤ 9223372036854775807) (q0 : 0 ≤ h0 ∧ h0 ≤ 65535) (q1 : 0 ≤ h1 ∧ h1 ≤ 65535) (q2 : 0 ≤ h2 ∧ h2 ≤ 65535) (q3 : 0 ≤ h3 ∧ h3 ≤ 65535) (mb : -9223372036854775808 ≤ m ∧ m ≤ 9223372036854775807) (tb : -9223372036854775808 ≤ t ∧ t ≤ 9223372036854775807) (l1 : 1 ≤ len) (l2 : m < len) (m1 : 16384 < m) (t1 : t < 1) :
    Calls Try.prog 10 #[pkt id len h0 h1 h2 h3, .int .i64 m, .int .i64 t] w fun e w' => e = .returned (.bool true) ∧ Below w.heap.size w w' := by
  have dl1 : decide (len < 1) = false := decide_eq_false (by omega)
  have dl2 : decide (m < len) = true := decide_eq_true l2
  have dm1 : decide (m < 1) = false := decide_eq_false (by omega)
  have dm2 : decide (16384 < m) = true := decide_eq_true m1
  have dt1 : decide (t < 1) = true := decide_eq_true t1
  have hmay := hide (show (if 1 ≤ m ∧ m ≤ 16384 then (if 1 ≤ len ∧ len ≤ m then (0 : Int) else 26) else 1) = 1 by rw [if_neg (by omega)])
  go_enter Try.func10, Try.ntmps10
  go_wp2_with fail
  refine (ticks_t id len h0 h1 h2 h3 t _ (by omega)).mono ?_
  rintro e w1 ⟨rfl, hb1⟩
  have A1 : Blk w1 (w.heap.size) #[.int .u64 id, .int .i64 len, .int .u16 h0, .int .u16 h1, .int .u16 h2, .int .u16 h3] 42 := Blk.below (by (repeat' (first | (with_reducible assumption) | (with_reducible exact Blk.alloc_new _ _ _ (by first | rfl | (simp; done) | omega)) | (with_reducible refine Blk.drewN ?_ _) | (with_reducible refine Blk.drew ?_) | (with_reducible refine Blk.alloc_old ?_ _) | (with_reducible apply Blk.set_same) | (with_reducible refine Blk.set_other ?_ (by first | omega | (simp; done) | (simp; omega)) _) | (exact rfl)))) hb1 (by first | (simp; done) | omega | (simp; omega))
  have g1 : Below w.heap.size w w1 := by refine Below.trans ?_ (hb1.mono ?_) <;> (repeat' (first | (with_reducible exact Below.refl _ _) | (with_reducible assumption) | (with_reducible refine below_drewN ?_ _) | (with_reducible refine Below.drew ?_) | (with_reducible refine Below.alloc ?_ ?_ _) | (with_reducible refine Below.setCell ?_ ?_ _) | go_size))
  have hz1 := hb1.size
  (try simp at hz1)
  clear hb1
  replace cA := A1.cell
  replace fA := A1.frozen
  replace zA := A1.size
  go_wp2_with fail
  refine (may_any id len h0 h1 h2 h3 m _ 1 hmay.out).mono ?_
  rintro e w2 ⟨rfl, hb2⟩
  have A2 : Blk w2 (w.heap.size) #[.int .u64 id, .int .i64 len, .int .u16 h0, .int .u16 h1, .int .u16 h2, .int .u16 h3] 42 := Blk.below (by (repeat' (first | (with_reducible assumption) | (with_reducible exact Blk.alloc_new _ _ _ (by first | rfl | (simp; done) | omega)) | (with_reducible refine Blk.drewN ?_ _) | (with_reducible refine Blk.drew ?_) | (with_reducible refine Blk.alloc_old ?_ _) | (with_reducible apply Blk.set_same) | (with_reducible refine Blk.set_other ?_ (by first | omega | (simp; done) | (simp; omega)) _) | (exact rfl)))) hb2 (by first | (simp; done) | omega | (simp; omega))
  have g2 : Below w.heap.size w w2 := by refine Below.trans ?_ (hb2.mono ?_) <;> (repeat' (first | (with_reducible exact Below.refl _ _) | (with_reducible assumption) | (with_reducible refine below_drewN ?_ _) | (with_reducible refine Below.drew ?_) | (with_reducible refine Below.alloc ?_ ?_ _) | (with_reducible refine Below.setCell ?_ ?_ _) | go_size))
  have hz2 := hb2.size
  (try simp at hz2)
  clear hb2
  replace cA := A2.cell
  replace fA := A2.frozen
  replace zA := A2.size
  go_wp2_with fail
  refine (one_true _).mono ?_
  rintro e w3 ⟨rfl, hb3⟩
  have g3 : Below w.heap.size w w3 := by refine Below.trans ?_ (hb3.mono ?_) <;> (repeat' (first | (with_reducible exact Below.refl _ _) | (with_reducible assumption) | (with_reducible refine below_drewN ?_ _) | (with_reducible refine Below.drew ?_) | (with_reducible refine Below.alloc ?_ ?_ _) | (with_reducible refine Below.setCell ?_ ?_ _) | go_size))
  have hz3 := hb3.size
  (try simp at hz3)
  clear hb3
  go_wp2
  go_ret
  exact ⟨rfl, by (repeat' (first | (with_reducible exact Below.refl _ _) | (with_reducible assumption) | (with_reducible refine below_drewN ?_ _) | (with_reducible refine Below.drew ?_) | (with_reducible refine Below.alloc ?_ ?_ _) | (with_reducible refine Below.setCell ?_ ?_ _) | go_size))⟩
theorem PM_bbb (id len h0 h1 h2 h3 m t : Int) (w : World) (hid : 0 ≤ id ∧ id ≤ 18446744073709551615) (hln : -9223372036854775808 ≤ len ∧ len ≤ 9223372036854775807) (q0 : 0 ≤ h0 ∧ h0 ≤ 65535) (q1 : 0 ≤ h1 ∧ h1 ≤ 65535) (q2 : 0 ≤ h2 ∧ h2 ≤ 65535) (q3 : 0 ≤ h3 ∧ h3 ≤ 65535) (mb : -9223372036854775808 ≤ m ∧ m ≤ 9223372036854775807) (tb : -9223372036854775808 ≤ t ∧ t ≤ 9223372036854775807) (l1 : 1 ≤ len) (l2 : m < len) (m1 : 16384 < m) (t1 : 65536 < t) :
    Calls Try.prog 10 #[pkt id len h0 h1 h2 h3, .int .i64 m, .int .i64 t] w fun e w' => e = .returned (.bool true) ∧ Below w.heap.size w w' := by
  have dl1 : decide (len < 1) = false := decide_eq_false (by omega)
  have dl2 : decide (m < len) = true := decide_eq_true l2
  have dm1 : decide (m < 1) = false := decide_eq_false (by omega)
  have dm2 : decide (16384 < m) = true := decide_eq_true m1
  have dt1 : decide (t < 1) = false := decide_eq_false (by omega)
  have dt2 : decide (65536 < t) = true := decide_eq_true t1
  have hmay := hide (show (if 1 ≤ m ∧ m ≤ 16384 then (if 1 ≤ len ∧ len ≤ m then (0 : Int) else 26) else 1) = 1 by rw [if_neg (by omega)])
  go_enter Try.func10, Try.ntmps10
  go_wp2_with fail
  refine (ticks_t id len h0 h1 h2 h3 t _ (by omega)).mono ?_
  rintro e w1 ⟨rfl, hb1⟩
  have A1 : Blk w1 (w.heap.size) #[.int .u64 id, .int .i64 len, .int .u16 h0, .int .u16 h1, .int .u16 h2, .int .u16 h3] 42 := Blk.below (by (repeat' (first | (with_reducible assumption) | (with_reducible exact Blk.alloc_new _ _ _ (by first | rfl | (simp; done) | omega)) | (with_reducible refine Blk.drewN ?_ _) | (with_reducible refine Blk.drew ?_) | (with_reducible refine Blk.alloc_old ?_ _) | (with_reducible apply Blk.set_same) | (with_reducible refine Blk.set_other ?_ (by first | omega | (simp; done) | (simp; omega)) _) | (exact rfl)))) hb1 (by first | (simp; done) | omega | (simp; omega))
  have g1 : Below w.heap.size w w1 := by refine Below.trans ?_ (hb1.mono ?_) <;> (repeat' (first | (with_reducible exact Below.refl _ _) | (with_reducible assumption) | (with_reducible refine below_drewN ?_ _) | (with_reducible refine Below.drew ?_) | (with_reducible refine Below.alloc ?_ ?_ _) | (with_reducible refine Below.setCell ?_ ?_ _) | go_size))
  have hz1 := hb1.size
  (try simp at hz1)
  clear hb1
  replace cA := A1.cell
  replace fA := A1.frozen
  replace zA := A1.size
  go_wp2_with fail
  refine (may_any id len h0 h1 h2 h3 m _ 1 hmay.out).mono ?_
  rintro e w2 ⟨rfl, hb2⟩
  have A2 : Blk w2 (w.heap.size) #[.int .u64 id, .int .i64 len, .int .u16 h0, .int .u16 h1, .int .u16 h2, .int .u16 h3] 42 := Blk.below (by (repeat' (first | (with_reducible assumption) | (with_reducible exact Blk.alloc_new _ _ _ (by first | rfl | (simp; done) | omega)) | (with_reducible refine Blk.drewN ?_ _) | (with_reducible refine Blk.drew ?_) | (with_reducible refine Blk.alloc_old ?_ _) | (with_reducible apply Blk.set_same) | (with_reducible refine Blk.set_other ?_ (by first | omega | (simp; done) | (simp; omega)) _) | (exact rfl)))) hb2 (by first | (simp; done) | omega | (simp; omega))
  have g2 : Below w.heap.size w w2 := by refine Below.trans ?_ (hb2.mono ?_) <;> (repeat' (first | (with_reducible exact Below.refl _ _) | (with_reducible assumption) | (with_reducible refine below_drewN ?_ _) | (with_reducible refine Below.drew ?_) | (with_reducible refine Below.alloc ?_ ?_ _) | (with_reducible refine Below.setCell ?_ ?_ _) | go_size))
  have hz2 := hb2.size
  (try simp at hz2)
  clear hb2
  replace cA := A2.cell
  replace fA := A2.frozen
  replace zA := A2.size
  go_wp2_with fail
  refine (one_true _).mono ?_
  rintro e w3 ⟨rfl, hb3⟩
  have g3 : Below w.heap.size w w3 := by refine Below.trans ?_ (hb3.mono ?_) <;> (repeat' (first | (with_reducible exact Below.refl _ _) | (with_reducible assumption) | (with_reducible refine below_drewN ?_ _) | (with_reducible refine Below.drew ?_) | (with_reducible refine Below.alloc ?_ ?_ _) | (with_reducible refine Below.setCell ?_ ?_ _) | go_size))
  have hz3 := hb3.size
  (try simp at hz3)
  clear hb3
  go_wp2
  go_ret
  exact ⟨rfl, by (repeat' (first | (with_reducible exact Below.refl _ _) | (with_reducible assumption) | (with_reducible refine below_drewN ?_ _) | (with_reducible refine Below.drew ?_) | (with_reducible refine Below.alloc ?_ ?_ _) | (with_reducible refine Below.setCell ?_ ?_ _) | go_size))⟩
theorem PM_bbd (id len h0 h1 h2 h3 m t : Int) (w : World) (hid : 0 ≤ id ∧ id ≤ 18446744073709551615) (hln : -9223372036854775808 ≤ len ∧ len ≤ 9223372036854775807) (q0 : 0 ≤ h0 ∧ h0 ≤ 65535) (q1 : 0 ≤ h1 ∧ h1 ≤ 65535) (q2 : 0 ≤ h2 ∧ h2 ≤ 65535) (q3 : 0 ≤ h3 ∧ h3 ≤ 65535) (mb : -9223372036854775808 ≤ m ∧ m ≤ 9223372036854775807) (tb : -9223372036854775808 ≤ t ∧ t ≤ 9223372036854775807) (l1 : 1 ≤ len) (l2 : m < len) (m1 : 16384 < m) (t1 : 1 ≤ t) (t2 : t ≤ 65536) (t3 : 16384 < len) :
    Calls Try.prog 10 #[pkt id len h0 h1 h2 h3, .int .i64 m, .int .i64 t] w fun e w' => e = .returned (.bool true) ∧ Below w.heap.size w w' := by
  have dl1 : decide (len < 1) = false := decide_eq_false (by omega)
  have dl2 : decide (m < len) = true := decide_eq_true l2
  have dm1 : decide (m < 1) = false := decide_eq_false (by omega)
  have dm2 : decide (16384 < m) = true := decide_eq_true m1
  have dt1 : decide (t < 1) = false := decide_eq_false (by omega)
  have dt2 : decide (65536 < t) = false := decide_eq_false (by omega)
  have dt3 : decide (16384 < len) = true := decide_eq_true t3
  have hmay := hide (show (if 1 ≤ m ∧ m ≤ 16384 then (if 1 ≤ len ∧ len ≤ m then (0 : Int) else 26) else 1) = 1 by rw [if_neg (by omega)])
  go_enter Try.func10, Try.ntmps10
  go_wp2_with fail
  refine (ticks_l id len h0 h1 h2 h3 t _ ⟨t1, t2⟩ (by omega)).mono ?_
  rintro e w1 ⟨rfl, hb1⟩
  have A1 : Blk w1 (w.heap.size) #[.int .u64 id, .int .i64 len, .int .u16 h0, .int .u16 h1, .int .u16 h2, .int .u16 h3] 42 := Blk.below (by (repeat' (first | (with_reducible assumption) | (with_reducible exact Blk.alloc_new _ _ _ (by first | rfl | (simp; done) | omega)) | (with_reducible refine Blk.drewN ?_ _) | (with_reducible refine Blk.drew ?_) | (with_reducible refine Blk.alloc_old ?_ _) | (with_reducible apply Blk.set_same) | (with_reducible refine Blk.set_other ?_ (by first | omega | (simp; done) | (simp; omega)) _) | (exact rfl)))) hb1 (by first | (simp; done) | omega | (simp; omega))
  have g1 : Below w.heap.size w w1 := by refine Below.trans ?_ (hb1.mono ?_) <;> (repeat' (first | (with_reducible exact Below.refl _ _) | (with_reducible assumption) | (with_reducible refine below_drewN ?_ _) | (with_reducible refine Below.drew ?_) | (with_reducible refine Below.alloc ?_ ?_ _) | (with_reducible refine Below.setCell ?_ ?_ _) | go_size))
  have hz1 := hb1.size
  (try simp at hz1)
  clear hb1
  replace cA := A1.cell
  replace fA := A1.frozen
  replace zA := A1.size
  go_wp2_with fail
  refine (may_any id len h0 h1 h2 h3 m _ 1 hmay.out).mono ?_
  rintro e w2 ⟨rfl, hb2⟩
  have A2 : Blk w2 (w.heap.size) #[.int .u64 id, .int .i64 len, .int .u16 h0, .int .u16 h1, .int .u16 h2, .int .u16 h3] 42 := Blk.below (by (repeat' (first | (with_reducible assumption) | (with_reducible exact Blk.alloc_new _ _ _ (by first | rfl | (simp; done) | omega)) | (with_reducible refine Blk.drewN ?_ _) | (with_reducible refine Blk.drew ?_) | (with_reducible refine Blk.alloc_old ?_ _) | (with_reducible apply Blk.set_same) | (with_reducible refine Blk.set_other ?_ (by first | omega | (simp; done) | (simp; omega)) _) | (exact rfl)))) hb2 (by first | (simp; done) | omega | (simp; omega))
  have g2 : Below w.heap.size w w2 := by refine Below.trans ?_ (hb2.mono ?_) <;> (repeat' (first | (with_reducible exact Below.refl _ _) | (with_reducible assumption) | (with_reducible refine below_drewN ?_ _) | (with_reducible refine Below.drew ?_) | (with_reducible refine Below.alloc ?_ ?_ _) | (with_reducible refine Below.setCell ?_ ?_ _) | go_size))
  have hz2 := hb2.size
  (try simp at hz2)
  clear hb2
  replace cA := A2.cell
  replace fA := A2.frozen
  replace zA := A2.size
  go_wp2_with fail
  refine (one_true _).mono ?_
  rintro e w3 ⟨rfl, hb3⟩
  have g3 : Below w.heap.size w w3 := by refine Below.trans ?_ (hb3.mono ?_) <;> (repeat' (first | (with_reducible exact Below.refl _ _) | (with_reducible assumption) | (with_reducible refine below_drewN ?_ _) | (with_reducible refine Below.drew ?_) | (with_reducible refine Below.alloc ?_ ?_ _) | (with_reducible refine Below.setCell ?_ ?_ _) | go_size))
  have hz3 := hb3.size
  (try simp at hz3)
  clear hb3
  go_wp2
  go_ret
  exact ⟨rfl, by (repeat' (first | (with_reducible exact Below.refl _ _) | (with_reducible assumption) | (with_reducible refine below_drewN ?_ _) | (with_reducible refine Below.drew ?_) | (with_reducible refine Below.alloc ?_ ?_ _) | (with_reducible refine Below.setCell ?_ ?_ _) | go_size))⟩
theorem PM_bca (id len h0 h1 h2 h3 m t : Int) (w : World) (hid : 0 ≤ id ∧ id ≤ 18446744073709551615) (hln : -9223372036854775808 ≤ len ∧ len ≤ 9223372036854775807) (q0 : 0 ≤ h0 ∧ h0 ≤ 65535) (q1 : 0 ≤ h1 ∧ h1 ≤ 65535) (q2 : 0 ≤ h2 ∧ h2 ≤ 65535) (q3 : 0 ≤ h3 ∧ h3 ≤ 65535) (mb : -9223372036854775808 ≤ m ∧ m ≤ 9223372036854775807) (tb : -9223372036854775808 ≤ t ∧ t ≤ 9223372036854775807) (l1 : 1 ≤ len) (l2 : m < len) (m1 : 1 ≤ m) (m2 : m ≤ 16384) (t1 : t < 1) :
    Calls Try.prog 10 #[pkt id len h0 h1 h2 h3, .int .i64 m, .int .i64 t] w fun e w' => e = .returned (.bool true) ∧ Below w.heap.size w w' := by
  have dl1 : decide (len < 1) = false := decide_eq_false (by omega)
  have dl2 : decide (m < len) = true := decide_eq_true l2
  have dm1 : decide (m < 1) = false := decide_eq_false (by omega)
  have dm2 : decide (16384 < m) = false := decide_eq_false (by omega)
  have dt1 : decide (t < 1) = true := decide_eq_true t1
  have hmay := hide (show (if 1 ≤ m ∧ m ≤ 16384 then (if 1 ≤ len ∧ len ≤ m then (0 : Int) else 26) else 1) = 26 by rw [if_pos (by omega), if_neg (by omega)])
  go_enter Try.func10, Try.ntmps10
  go_wp2_with fail
  refine (ticks_t id len h0 h1 h2 h3 t _ (by omega)).mono ?_
  rintro e w1 ⟨rfl, hb1⟩
  have A1 : Blk w1 (w.heap.size) #[.int .u64 id, .int .i64 len, .int .u16 h0, .int .u16 h1, .int .u16 h2, .int .u16 h3] 42 := Blk.below (by (repeat' (first | (with_reducible assumption) | (with_reducible exact Blk.alloc_new _ _ _ (by first | rfl | (simp; done) | omega)) | (with_reducible refine Blk.drewN ?_ _) | (with_reducible refine Blk.drew ?_) | (with_reducible refine Blk.alloc_old ?_ _) | (with_reducible apply Blk.set_same) | (with_reducible refine Blk.set_other ?_ (by first | omega | (simp; done) | (simp; omega)) _) | (exact rfl)))) hb1 (by first | (simp; done) | omega | (simp; omega))
  have g1 : Below w.heap.size w w1 := by refine Below.trans ?_ (hb1.mono ?_) <;> (repeat' (first | (with_reducible exact Below.refl _ _) | (with_reducible assumption) | (with_reducible refine below_drewN ?_ _) | (with_reducible refine Below.drew ?_) | (with_reducible refine Below.alloc ?_ ?_ _) | (with_reducible refine Below.setCell ?_ ?_ _) | go_size))
  have hz1 := hb1.size
  (try simp at hz1)
  clear hb1
  replace cA := A1.cell
  replace fA := A1.frozen
  replace zA := A1.size
  go_wp2_with fail
  refine (may_any id len h0 h1 h2 h3 m _ 26 hmay.out).mono ?_
  rintro e w2 ⟨rfl, hb2⟩
  have A2 : Blk w2 (w.heap.size) #[.int .u64 id, .int .i64 len, .int .u16 h0, .int .u16 h1, .int .u16 h2, .int .u16 h3] 42 := Blk.below (by (repeat' (first | (with_reducible assumption) | (with_reducible exact Blk.alloc_new _ _ _ (by first | rfl | (simp; done) | omega)) | (with_reducible refine Blk.drewN ?_ _) | (with_reducible refine Blk.drew ?_) | (with_reducible refine Blk.alloc_old ?_ _) | (with_reducible apply Blk.set_same) | (with_reducible refine Blk.set_other ?_ (by first | omega | (simp; done) | (simp; omega)) _) | (exact rfl)))) hb2 (by first | (simp; done) | omega | (simp; omega))
  have g2 : Below w.heap.size w w2 := by refine Below.trans ?_ (hb2.mono ?_) <;> (repeat' (first | (with_reducible exact Below.refl _ _) | (with_reducible assumption) | (with_reducible refine below_drewN ?_ _) | (with_reducible refine Below.drew ?_) | (with_reducible refine Below.alloc ?_ ?_ _) | (with_reducible refine Below.setCell ?_ ?_ _) | go_size))
  have hz2 := hb2.size
  (try simp at hz2)
  clear hb2
  replace cA := A2.cell
  replace fA := A2.frozen
  replace zA := A2.size
  go_wp2_with fail
  refine (one_true _).mono ?_
  rintro e w3 ⟨rfl, hb3⟩
  have g3 : Below w.heap.size w w3 := by refine Below.trans ?_ (hb3.mono ?_) <;> (repeat' (first | (with_reducible exact Below.refl _ _) | (with_reducible assumption) | (with_reducible refine below_drewN ?_ _) | (with_reducible refine Below.drew ?_) | (with_reducible refine Below.alloc ?_ ?_ _) | (with_reducible refine Below.setCell ?_ ?_ _) | go_size))
  have hz3 := hb3.size
  (try simp at hz3)
  clear hb3
  go_wp2
  go_ret
  exact ⟨rfl, by (repeat' (first | (with_reducible exact Below.refl _ _) | (with_reducible assumption) | (with_reducible refine below_drewN ?_ _) | (with_reducible refine Below.drew ?_) | (with_reducible refine Below.alloc ?_ ?_ _) | (with_reducible refine Below.setCell ?_ ?_ _) | go_size))⟩
theorem PM_bcb (id len h0 h1 h2 h3 m t : Int) (w : World) (hid : 0 ≤ id ∧ id ≤ 18446744073709551615) (hln : -9223372036854775808 ≤ len ∧ len ≤ 9223372036854775807) (q0 : 0 ≤ h0 ∧ h0 ≤ 65535) (q1 : 0 ≤ h1 ∧ h1 ≤ 65535) (q2 : 0 ≤ h2 ∧ h2 ≤ 65535) (q3 : 0 ≤ h3 ∧ h3 ≤ 65535) (mb : -9223372036854775808 ≤ m ∧ m ≤ 9223372036854775807) (tb : -9223372036854775808 ≤ t ∧ t ≤ 9223372036854775807) (l1 : 1 ≤ len) (l2 : m < len) (m1 : 1 ≤ m) (m2 : m ≤ 16384) (t1 : 65536 < t) :
    Calls Try.prog 10 #[pkt id len h0 h1 h2 h3, .int .i64 m, .int .i64 t] w fun e w' => e = .returned (.bool true) ∧ Below w.heap.size w w' := by
  have dl1 : decide (len < 1) = false := decide_eq_false (by omega)
  have dl2 : decide (m < len) = true := decide_eq_true l2
  have dm1 : decide (m < 1) = false := decide_eq_false (by omega)
  have dm2 : decide (16384 < m) = false := decide_eq_false (by omega)
  have dt1 : decide (t < 1) = false := decide_eq_false (by omega)
  have dt2 : decide (65536 < t) = true := decide_eq_true t1
  have hmay := hide (show (if 1 ≤ m ∧ m ≤ 16384 then (if 1 ≤ len ∧ len ≤ m then (0 : Int) else 26) else 1) = 26 by rw [if_pos (by omega), if_neg (by omega)])
  go_enter Try.func10, Try.ntmps10
  go_wp2_with fail
  refine (ticks_t id len h0 h1 h2 h3 t _ (by omega)).mono ?_
  rintro e w1 ⟨rfl, hb1⟩
  have A1 : Blk w1 (w.heap.size) #[.int .u64 id, .int .i64 len, .int .u16 h0, .int .u16 h1, .int .u16 h2, .int .u16 h3] 42 := Blk.below (by (repeat' (first | (with_reducible assumption) | (with_reducible exact Blk.alloc_new _ _ _ (by first | rfl | (simp; done) | omega)) | (with_reducible refine Blk.drewN ?_ _) | (with_reducible refine Blk.drew ?_) | (with_reducible refine Blk.alloc_old ?_ _) | (with_reducible apply Blk.set_same) | (with_reducible refine Blk.set_other ?_ (by first | omega | (simp; done) | (simp; omega)) _) | (exact rfl)))) hb1 (by first | (simp; done) | omega | (simp; omega))
  have g1 : Below w.heap.size w w1 := by refine Below.trans ?_ (hb1.mono ?_) <;> (repeat' (first | (with_reducible exact Below.refl _ _) | (with_reducible assumption) | (with_reducible refine below_drewN ?_ _) | (with_reducible refine Below.drew ?_) | (with_reducible refine Below.alloc ?_ ?_ _) | (with_reducible refine Below.setCell ?_ ?_ _) | go_size))
  have hz1 := hb1.size
  (try simp at hz1)
  clear hb1
  replace cA := A1.cell
  replace fA := A1.frozen
  replace zA := A1.size
  go_wp2_with fail
  refine (may_any id len h0 h1 h2 h3 m _ 26 hmay.out).mono ?_
  rintro e w2 ⟨rfl, hb2⟩
  have A2 : Blk w2 (w.heap.size) #[.int .u64 id, .int .i64 len, .int .u16 h0, .int .u16 h1, .int .u16 h2, .int .u16 h3] 42 := Blk.below (by (repeat' (first | (with_reducible assumption) | (with_reducible exact Blk.alloc_new _ _ _ (by first | rfl | (simp; done) | omega)) | (with_reducible refine Blk.drewN ?_ _) | (with_reducible refine Blk.drew ?_) | (with_reducible refine Blk.alloc_old ?_ _) | (with_reducible apply Blk.set_same) | (with_reducible refine Blk.set_other ?_ (by first | omega | (simp; done) | (simp; omega)) _) | (exact rfl)))) hb2 (by first | (simp; done) | omega | (simp; omega))
  have g2 : Below w.heap.size w w2 := by refine Below.trans ?_ (hb2.mono ?_) <;> (repeat' (first | (with_reducible exact Below.refl _ _) | (with_reducible assumption) | (with_reducible refine below_drewN ?_ _) | (with_reducible refine Below.drew ?_) | (with_reducible refine Below.alloc ?_ ?_ _) | (with_reducible refine Below.setCell ?_ ?_ _) | go_size))
  have hz2 := hb2.size
  (try simp at hz2)
  clear hb2
  replace cA := A2.cell
  replace fA := A2.frozen
  replace zA := A2.size
  go_wp2_with fail
  refine (one_true _).mono ?_
  rintro e w3 ⟨rfl, hb3⟩
  have g3 : Below w.heap.size w w3 := by refine Below.trans ?_ (hb3.mono ?_) <;> (repeat' (first | (with_reducible exact Below.refl _ _) | (with_reducible assumption) | (with_reducible refine below_drewN ?_ _) | (with_reducible refine Below.drew ?_) | (with_reducible refine Below.alloc ?_ ?_ _) | (with_reducible refine Below.setCell ?_ ?_ _) | go_size))
  have hz3 := hb3.size
  (try simp at hz3)
  clear hb3
  go_wp2
  go_ret
  exact ⟨rfl, by (repeat' (first | (with_reducible exact Below.refl _ _) | (with_reducible assumption) | (with_reducible refine below_drewN ?_ _) | (with_reducible refine Below.drew ?_) | (with_reducible refine Below.alloc ?_ ?_ _) | (with_reducible refine Below.setCell ?_ ?_ _) | go_size))⟩
theorem PM_bcd (id len h0 h1 h2 h3 m t : Int) (w : World) (hid : 0 ≤ id ∧ id ≤ 18446744073709551615) (hln : -9223372036854775808 ≤ len ∧ len ≤ 9223372036854775807) (q0 : 0 ≤ h0 ∧ h0 ≤ 65535) (q1 : 0 ≤ h1 ∧ h1 ≤ 65535) (q2 : 0 ≤ h2 ∧ h2 ≤ 65535) (q3 : 0 ≤ h3 ∧ h3 ≤ 65535) (mb : -9223372036854775808 ≤ m ∧ m ≤ 9223372036854775807) (tb : -9223372036854775808 ≤ t ∧ t ≤ 9223372036854775807) (l1 : 1 ≤ len) (l2 : m < len) (m1 : 1 ≤ m) (m2 : m ≤ 16384) (t1 : 1 ≤ t) (t2 : t ≤ 65536) (t3 : 16384 < len) :
    Calls Try.prog 10 #[pkt id len h0 h1 h2 h3, .int .i64 m, .int .i64 t] w fun e w' => e = .returned (.bool true) ∧ Below w.heap.size w w' := by
  have dl1 : decide (len < 1) = false := decide_eq_false (by omega)
  have dl2 : decide (m < len) = true := decide_eq_true l2
  have dm1 : decide (m < 1) = false := decide_eq_false (by omega)
  have dm2 : decide (16384 < m) = false := decide_eq_false (by omega)
  have dt1 : decide (t < 1) = false := decide_eq_false (by omega)
  have dt2 : decide (65536 < t) = false := decide_eq_false (by omega)
  have dt3 : decide (16384 < len) = true := decide_eq_true t3
  have hmay := hide (show (if 1 ≤ m ∧ m ≤ 16384 then (if 1 ≤ len ∧ len ≤ m then (0 : Int) else 26) else 1) = 26 by rw [if_pos (by omega), if_neg (by omega)])
  go_enter Try.func10, Try.ntmps10
  go_wp2_with fail
  refine (ticks_l id len h0 h1 h2 h3 t _ ⟨t1, t2⟩ (by omega)).mono ?_
  rintro e w1 ⟨rfl, hb1⟩
  have A1 : Blk w1 (w.heap.size) #[.int .u64 id, .int .i64 len, .int .u16 h0, .int .u16 h1, .int .u16 h2, .int .u16 h3] 42 := Blk.below (by (repeat' (first | (with_reducible assumption) | (with_reducible exact Blk.alloc_new _ _ _ (by first | rfl | (simp; done) | omega)) | (with_reducible refine Blk.drewN ?_ _) | (with_reducible refine Blk.drew ?_) | (with_reducible refine Blk.alloc_old ?_ _) | (with_reducible apply Blk.set_same) | (with_reducible refine Blk.set_other ?_ (by first | omega | (simp; done) | (simp; omega)) _) | (exact rfl)))) hb1 (by first | (simp; done) | omega | (simp; omega))
  have g1 : Below w.heap.size w w1 := by refine Below.trans ?_ (hb1.mono ?_) <;> (repeat' (first | (with_reducible exact Below.refl _ _) | (with_reducible assumption) | (with_reducible refine below_drewN ?_ _) | (with_reducible refine Below.drew ?_) | (with_reducible refine Below.alloc ?_ ?_ _) | (with_reducible refine Below.setCell ?_ ?_ _) | go_size))
  have hz1 := hb1.size
  (try simp at hz1)
  clear hb1
  replace cA := A1.cell
  replace fA := A1.frozen
  replace zA := A1.size
  go_wp2_with fail
  refine (may_any id len h0 h1 h2 h3 m _ 26 hmay.out).mono ?_
  rintro e w2 ⟨rfl, hb2⟩
  have A2 : Blk w2 (w.heap.size) #[.int .u64 id, .int .i64 len, .int .u16 h0, .int .u16 h1, .int .u16 h2, .int .u16 h3] 42 := Blk.below (by (repeat' (first | (with_reducible assumption) | (with_reducible exact Blk.alloc_new _ _ _ (by first | rfl | (simp; done) | omega)) | (with_reducible refine Blk.drewN ?_ _) | (with_reducible refine Blk.drew ?_) | (with_reducible refine Blk.alloc_old ?_ _) | (with_reducible apply Blk.set_same) | (with_reducible refine Blk.set_other ?_ (by first | omega | (simp; done) | (simp; omega)) _) | (exact rfl)))) hb2 (by first | (simp; done) | omega | (simp; omega))
  have g2 : Below w.heap.size w w2 := by refine Below.trans ?_ (hb2.mono ?_) <;> (repeat' (first | (with_reducible exact Below.refl _ _) | (with_reducible assumption) | (with_reducible refine below_drewN ?_ _) | (with_reducible refine Below.drew ?_) | (with_reducible refine Below.alloc ?_ ?_ _) | (with_reducible refine Below.setCell ?_ ?_ _) | go_size))
  have hz2 := hb2.size
  (try simp at hz2)
  clear hb2
  replace cA := A2.cell
  replace fA := A2.frozen
  replace zA := A2.size
  go_wp2_with fail
  refine (one_true _).mono ?_
  rintro e w3 ⟨rfl, hb3⟩
  have g3 : Below w.heap.size w w3 := by refine Below.trans ?_ (hb3.mono ?_) <;> (repeat' (first | (with_reducible exact Below.refl _ _) | (with_reducible assumption) | (with_reducible refine below_drewN ?_ _) | (with_reducible refine Below.drew ?_) | (with_reducible refine Below.alloc ?_ ?_ _) | (with_reducible refine Below.setCell ?_ ?_ _) | go_size))
  have hz3 := hb3.size
  (try simp at hz3)
  clear hb3
  go_wp2
  go_ret
  exact ⟨rfl, by (repeat' (first | (with_reducible exact Below.refl _ _) | (with_reducible assumption) | (with_reducible refine below_drewN ?_ _) | (with_reducible refine Below.drew ?_) | (with_reducible refine Below.alloc ?_ ?_ _) | (with_reducible refine Below.setCell ?_ ?_ _) | go_size))⟩
theorem PM_bce (id len h0 h1 h2 h3 m t : Int) (w : World) (hid : 0 ≤ id ∧ id ≤ 18446744073709551615) (hln : -9223372036854775808 ≤ len ∧ len ≤ 9223372036854775807) (q0 : 0 ≤ h0 ∧ h0 ≤ 65535) (q1 : 0 ≤ h1 ∧ h1 ≤ 65535) (q2 : 0 ≤ h2 ∧ h2 ≤ 65535) (q3 : 0 ≤ h3 ∧ h3 ≤ 65535) (mb : -9223372036854775808 ≤ m ∧ m ≤ 9223372036854775807) (tb : -9223372036854775808 ≤ t ∧ t ≤ 9223372036854775807) (l1 : 1 ≤ len) (l2 : m < len) (m1 : 1 ≤ m) (m2 : m ≤ 16384) (t1 : 1 ≤ t) (t2 : t ≤ 65536) (t3 : 1 ≤ len) (t4 : len ≤ 16384) :
    Calls Try.prog 10 #[pkt id len h0 h1 h2 h3, .int .i64 m, .int .i64 t] w fun e w' => e = .returned (.bool true) ∧ Below w.heap.size w w' := by
  have dl1 : decide (len < 1) = false := decide_eq_false (by omega)
  have dl2 : decide (m < len) = true := decide_eq_true l2
  have dm1 : decide (m < 1) = false := decide_eq_false (by omega)
  have dm2 : decide (16384 < m) = false := decide_eq_false (by omega)
  have dt1 : decide (t < 1) = false := decide_eq_false (by omega)
  have dt2 : decide (65536 < t) = false := decide_eq_false (by omega)
  have dt3 : decide (16384 < len) = false := decide_eq_false (by omega)
  have hp := prod_rng t3 t4 t1 t2
  have hpd : decide (len * t ≤ 1073741824) = true := decide_eq_true hp.2
  have hmay := hide (show (if 1 ≤ m ∧ m ≤ 16384 then (if 1 ≤ len ∧ len ≤ m then (0 : Int) else 26) else 1) = 26 by rw [if_pos (by omega), if_neg (by omega)])
  go_enter Try.func10, Try.ntmps10
  go_wp2_with fail
  refine (ticks_ok id len h0 h1 h2 h3 t _ ⟨t1, t2⟩ ⟨t3, t4⟩).mono ?_
  rintro e w1 ⟨rfl, hb1⟩
  have A1 : Blk w1 (w.heap.size) #[.int .u64 id, .int .i64 len, .int .u16 h0, .int .u16 h1, .int .u16 h2, .int .u16 h3] 42 := Blk.below (by (repeat' (first | (with_reducible assumption) | (with_reducible exact Blk.alloc_new _ _ _ (by first | rfl | (simp; done) | omega)) | (with_reducible refine Blk.drewN ?_ _) | (with_reducible refine Blk.drew ?_) | (with_reducible refine Blk.alloc_old ?_ _) | (with_reducible apply Blk.set_same) | (with_reducible refine Blk.set_other ?_ (by first | omega | (simp; done) | (simp; omega)) _) | (exact rfl)))) hb1 (by first | (simp; done) | omega | (simp; omega))
  have g1 : Below w.heap.size w w1 := by refine Below.trans ?_ (hb1.mono ?_) <;> (repeat' (first | (with_reducible exact Below.refl _ _) | (with_reducible assumption) | (with_reducible refine below_drewN ?_ _) | (with_reducible refine Below.drew ?_) | (with_reducible refine Below.alloc ?_ ?_ _) | (with_reducible refine Below.setCell ?_ ?_ _) | go_size))
  have hz1 := hb1.size
  (try simp at hz1)
  clear hb1
  replace cA := A1.cell
  replace fA := A1.frozen
  replace zA := A1.size
  go_wp2_with fail
  refine (may_any id len h0 h1 h2 h3 m _ 26 hmay.out).mono ?_
  rintro e w2 ⟨rfl, hb2⟩
  have A2 : Blk w2 (w.heap.size) #[.int .u64 id, .int .i64 len, .int .u16 h0, .int .u16 h1, .int .u16 h2, .int .u16 h3] 42 := Blk.below (by (repeat' (first | (with_reducible assumption) | (with_reducible exact Blk.alloc_new _ _ _ (by first | rfl | (simp; done) | omega)) | (with_reducible refine Blk.drewN ?_ _) | (with_reducible refine Blk.drew ?_) | (with_reducible refine Blk.alloc_old ?_ _) | (with_reducible apply Blk.set_same) | (with_reducible refine Blk.set_other ?_ (by first | omega | (simp; done) | (simp; omega)) _) | (exact rfl)))) hb2 (by first | (simp; done) | omega | (simp; omega))
  have g2 : Below w.heap.size w w2 := by refine Below.trans ?_ (hb2.mono ?_) <;> (repeat' (first | (with_reducible exact Below.refl _ _) | (with_reducible assumption) | (with_reducible refine below_drewN ?_ _) | (with_reducible refine Below.drew ?_) | (with_reducible refine Below.alloc ?_ ?_ _) | (with_reducible refine Below.setCell ?_ ?_ _) | go_size))
  have hz2 := hb2.size
  (try simp at hz2)
  clear hb2
  replace cA := A2.cell
  replace fA := A2.frozen
  replace zA := A2.size
  go_wp2_with fail
  refine (one_true _).mono ?_
  rintro e w3 ⟨rfl, hb3⟩
  have g3 : Below w.heap.size w w3 := by refine Below.trans ?_ (hb3.mono ?_) <;> (repeat' (first | (with_reducible exact Below.refl _ _) | (with_reducible assumption) | (with_reducible refine below_drewN ?_ _) | (with_reducible refine Below.drew ?_) | (with_reducible refine Below.alloc ?_ ?_ _) | (with_reducible refine Below.setCell ?_ ?_ _) | go_size))
  have hz3 := hb3.size
  (try simp at hz3)
  clear hb3
  go_wp2
  go_ret
  exact ⟨rfl, by (repeat' (first | (with_reducible exact Below.refl _ _) | (with_reducible assumption) | (with_reducible refine below_drewN ?_ _) | (with_reducible refine Below.drew ?_) | (with_reducible refine Below.alloc ?_ ?_ _) | (with_reducible refine Below.setCell ?_ ?_ _) | go_size))⟩
theorem PM_cba (id len h0 h1 h2 h3 m t : Int) (w : World) (hid : 0 ≤ id ∧ id ≤ 18446744073709551615) (hln : -9223372036854775808 ≤ len ∧ len ≤ 9223372036854775807) (q0 : 0 ≤ h0 ∧ h0 ≤ 65535) (q1 : 0 ≤ h1 ∧ h1 ≤ 65535) (q2 : 0 ≤ h2 ∧ h2 ≤ 65535) (q3 : 0 ≤ h3 ∧ h3 ≤ 65535) (mb : -9223372036854775808 ≤ m ∧ m ≤ 9223372036854775807) (tb : -9223372036854775808 ≤ t ∧ t ≤ 9223372036854775807) (l1 : 1 ≤ len) (l2 : len ≤ m) (m1 : 16384 < m) (t1 : t < 1) :
    Calls Try.prog 10 #[pkt id len h0 h1 h2 h3, .int .i64 m, .int .i64 t] w fun e w' => e = .returned (.bool true) ∧ Below w.heap.size w w' := by
  have dl1 : decide (len < 1) = false := decide_eq_false (by omega)
  have dl2 : decide (m < len) = false := decide_eq_false (by omega)
  have dm1 : decide (m < 1) = false := decide_eq_false (by omega)
  have dm2 : decide (16384 < m) = true := decide_eq_true m1
  have dt1 : decide (t < 1) = true := decide_eq_true t1
  have hmay := hide (show (if 1 ≤ m ∧ m ≤ 16384 then (if 1 ≤ len ∧ len ≤ m then (0 : Int) else 26) else 1) = 1 by rw [if_neg (by omega)])
  go_enter Try.func10, Try.ntmps10
  go_wp2_with fail
  refine (ticks_t id len h0 h1 h2 h3 t _ (by omega)).mono ?_
  rintro e w1 ⟨rfl, hb1⟩
  have A1 : Blk w1 (w.heap.size) #[.int .u64 id, .int .i64 len, .int .u16 h0, .int .u16 h1, .int .u16 h2, .int .u16 h3] 42 := Blk.below (by (repeat' (first | (with_reducible assumption) | (with_reducible exact Blk.alloc_new _ _ _ (by first | rfl | (simp; done) | omega)) | (with_reducible refine Blk.drewN ?_ _) | (with_reducible refine Blk.drew ?_) | (with_reducible refine Blk.alloc_old ?_ _) | (with_reducible apply Blk.set_same) | (with_reducible refine Blk.set_other ?_ (by first | omega | (simp; done) | (simp; omega)) _) | (exact rfl)))) hb1 (by first | (simp; done) | omega | (simp; omega))
  have g1 : Below w.heap.size w w1 := by refine Below.trans ?_ (hb1.mono ?_) <;> (repeat' (first | (with_reducible exact Below.refl _ _) | (with_reducible assumption) | (with_reducible refine below_drewN ?_ _) | (with_reducible refine Below.drew ?_) | (with_reducible refine Below.alloc ?_ ?_ _) | (with_reducible refine Below.setCell ?_ ?_ _) | go_size))
  have hz1 := hb1.size
  (try simp at hz1)
  clear hb1
  replace cA := A1.cell
  replace fA := A1.frozen
  replace zA := A1.size
  go_wp2_with fail
  refine (may_any id len h0 h1 h2 h3 m _ 1 hmay.out).mono ?_
  rintro e w2 ⟨rfl, hb2⟩
  have A2 : Blk w2 (w.heap.size) #[.int .u64 id, .int .i64 len, .int .u16 h0, .int .u16 h1, .int .u16 h2, .int .u16 h3] 42 := Blk.below (by (repeat' (first | (with_reducible assumption) | (with_reducible exact Blk.alloc_new _ _ _ (by first | rfl | (simp; done) | omega)) | (with_reducible refine Blk.drewN ?_ _) | (with_reducible refine Blk.drew ?_) | (with_reducible refine Blk.alloc_old ?_ _) | (with_reducible apply Blk.set_same) | (with_reducible refine Blk.set_other ?_ (by first | omega | (simp; done) | (simp; omega)) _) | (exact rfl)))) hb2 (by first | (simp; done) | omega | (simp; omega))
  have g2 : Below w.heap.size w w2 := by refine Below.trans ?_ (hb2.mono ?_) <;> (repeat' (first | (with_reducible exact Below.refl _ _) | (with_reducible assumption) | (with_reducible refine below_drewN ?_ _) | (with_reducible refine Below.drew ?_) | (with_reducible refine Below.alloc ?_ ?_ _) | (with_reducible refine Below.setCell ?_ ?_ _) | go_size))
  have hz2 := hb2.size
  (try simp at hz2)
  clear hb2
  replace cA := A2.cell
  replace fA := A2.frozen
  replace zA := A2.size
  go_wp2_with fail
  refine (one_true _).mono ?_
  rintro e w3 ⟨rfl, hb3⟩
  have g3 : Below w.heap.size w w3 := by refine Below.trans ?_ (hb3.mono ?_) <;> (repeat' (first | (with_reducible exact Below.refl _ _) | (with_reducible assumption) | (with_reducible refine below_drewN ?_ _) | (with_reducible refine Below.drew ?_) | (with_reducible refine Below.alloc ?_ ?_ _) | (with_reducible refine Below.setCell ?_ ?_ _) | go_size))
  have hz3 := hb3.size
  (try simp at hz3)
  clear hb3
  go_wp2
  go_ret
  exact ⟨rfl, by (repeat' (first | (with_reducible exact Below.refl _ _) | (with_reducible assumption) | (with_reducible refine below_drewN ?_ _) | (with_reducible refine Below.drew ?_) | (with_reducible refine Below.alloc ?_ ?_ _) | (with_reducible refine Below.setCell ?_ ?_ _) | go_size))⟩
theorem PM_cbb (id len h0 h1 h2 h3 m t : Int) (w : World) (hid : 0 ≤ id ∧ id ≤ 18446744073709551615) (hln : -9223372036854775808 ≤ len ∧ len ≤ 9223372036854775807) (q0 : 0 ≤ h0 ∧ h0 ≤ 65535) (q1 : 0 ≤ h1 ∧ h1 ≤ 65535) (q2 : 0 ≤ h2 ∧ h2 ≤ 65535) (q3 : 0 ≤ h3 ∧ h3 ≤ 65535) (mb : -9223372036854775808 ≤ m ∧ m ≤ 9223372036854775807) (tb : -9223372036854775808 ≤ t ∧ t ≤ 9223372036854775807) (l1 : 1 ≤ len) (l2 : len ≤ m) (m1 : 16384 < m) (t1 : 65536 < t) :
    Calls Try.prog 10 #[pkt id len h0 h1 h2 h3, .int .i64 m, .int .i64 t] w fun e w' => e = .returned (.bool true) ∧ Below w.heap.size w w' := by
  have dl1 : decide (len < 1) = false := decide_eq_false (by omega)
  have dl2 : decide (m < len) = false := decide_eq_false (by omega)
  have dm1 : decide (m < 1) = false := decide_eq_false (by omega)
  have dm2 : decide (16384 < m) = true := decide_eq_true m1
  have dt1 : decide (t < 1) = false := decide_eq_false (by omega)
  have dt2 : decide (65536 < t) = true := decide_eq_true t1
  have hmay := hide (show (if 1 ≤ m ∧ m ≤ 16384 then (if 1 ≤ len ∧ len ≤ m then (0 : Int) else 26) else 1) = 1 by rw [if_neg (by omega)])
  go_enter Try.func10, Try.ntmps10
  go_wp2_with fail
  refine (ticks_t id len h0 h1 h2 h3 t _ (by omega)).mono ?_
  rintro e w1 ⟨rfl, hb1⟩
  have A1 : Blk w1 (w.heap.size) #[.int .u64 id, .int .i64 len, .int .u16 h0, .int .u16 h1, .int .u16 h2, .int .u16 h3] 42 := Blk.below (by (repeat' (first | (with_reducible assumption) | (with_reducible exact Blk.alloc_new _ _ _ (by first | rfl | (simp; done) | omega)) | (with_reducible refine Blk.drewN ?_ _) | (with_reducible refine Blk.drew ?_) | (with_reducible refine Blk.alloc_old ?_ _) | (with_reducible apply Blk.set_same) | (with_reducible refine Blk.set_other ?_ (by first | omega | (simp; done) | (simp; omega)) _) | (exact rfl)))) hb1 (by first | (simp; done) | omega | (simp; omega))
  have g1 : Below w.heap.size w w1 := by refine Below.trans ?_ (hb1.mono ?_) <;> (repeat' (first | (with_reducible exact Below.refl _ _) | (with_reducible assumption) | (with_reducible refine below_drewN ?_ _) | (with_reducible refine Below.drew ?_) | (with_reducible refine Below.alloc ?_ ?_ _) | (with_reducible refine Below.setCell ?_ ?_ _) | go_size))
  have hz1 := hb1.size
  (try simp at hz1)
  clear hb1
  replace cA := A1.cell
  replace fA := A1.frozen
  replace zA := A1.size
  go_wp2_with fail
  refine (may_any id len h0 h1 h2 h3 m _ 1 hmay.out).mono ?_
  rintro e w2 ⟨rfl, hb2⟩
  have A2 : Blk w2 (w.heap.size) #[.int .u64 id, .int .i64 len, .int .u16 h0, .int .u16 h1, .int .u16 h2, .int .u16 h3] 42 := Blk.below (by (repeat' (first | (with_reducible assumption) | (with_reducible exact Blk.alloc_new _ _ _ (by first | rfl | (simp; done) | omega)) | (with_reducible refine Blk.drewN ?_ _) | (with_reducible refine Blk.drew ?_) | (with_reducible refine Blk.alloc_old ?_ _) | (with_reducible apply Blk.set_same) | (with_reducible refine Blk.set_other ?_ (by first | omega | (simp; done) | (simp; omega)) _) | (exact rfl)))) hb2 (by first | (simp; done) | omega | (simp; omega))
  have g2 : Below w.heap.size w w2 := by refine Below.trans ?_ (hb2.mono ?_) <;> (repeat' (first | (with_reducible exact Below.refl _ _) | (with_reducible assumption) | (with_reducible refine below_drewN ?_ _) | (with_reducible refine Below.drew ?_) | (with_reducible refine Below.alloc ?_ ?_ _) | (with_reducible refine Below.setCell ?_ ?_ _) | go_size))
  have hz2 := hb2.size
  (try simp at hz2)
  clear hb2
  replace cA := A2.cell
  replace fA := A2.frozen
  replace zA := A2.size
  go_wp2_with fail
  refine (one_true _).mono ?_
  rintro e w3 ⟨rfl, hb3⟩
  have g3 : Below w.heap.size w w3 := by refine Below.trans ?_ (hb3.mono ?_) <;> (repeat' (first | (with_reducible exact Below.refl _ _) | (with_reducible assumption) | (with_reducible refine below_drewN ?_ _) | (with_reducible refine Below.drew ?_) | (with_reducible refine Below.alloc ?_ ?_ _) | (with_reducible refine Below.setCell ?_ ?_ _) | go_size))
  have hz3 := hb3.size
  (try simp at hz3)
  clear hb3
  go_wp2
  go_ret
  exact ⟨rfl, by (repeat' (first | (with_reducible exact Below.refl _ _) | (with_reducible assumption) | (with_reducible refine below_drewN ?_ _) | (with_reducible refine Below.drew ?_) | (with_reducible refine Below.alloc ?_ ?_ _) | (with_reducible refine Below.setCell ?_ ?_ _) | go_size))⟩
theorem PM_cbd (id len h0 h1 h2 h3 m t : Int) (w : World) (hid : 0 ≤ id ∧ id ≤ 18446744073709551615) (hln : -9223372036854775808 ≤ len ∧ len ≤ 9223372036854775807) (q0 : 0 ≤ h0 ∧ h0 ≤ 65535) (q1 : 0 ≤ h1 ∧ h1 ≤ 65535) (q2 : 0 ≤ h2 ∧ h2 ≤ 65535) (q3 : 0 ≤ h3 ∧ h3 ≤ 65535) (mb : -9223372036854775808 ≤ m ∧ m ≤ 9223372036854775807) (tb : -9223372036854775808 ≤ t ∧ t ≤ 9223372036854775807) (l1 : 1 ≤ len) (l2 : len ≤ m) (m1 : 16384 < m) (t1 : 1 ≤ t) (t2 : t ≤ 65536) (t3 : 16384 < len) :
    Calls Try.prog 10 #[pkt id len h0 h1 h2 h3, .int .i64 m, .int .i64 t] w fun e w' => e = .returned (.bool true) ∧ Below w.heap.size w w' := by
  have dl1 : decide (len < 1) = false := decide_eq_false (by omega)
  have dl2 : decide (m < len) = false := decide_eq_false (by omega)
  have dm1 : decide (m < 1) = false := decide_eq_false (by omega)
  have dm2 : decide (16384 < m) = true := decide_eq_true m1
  have dt1 : decide (t < 1) = false := decide_eq_false (by omega)
  have dt2 : decide (65536 < t) = false := decide_eq_false (by omega)
  have dt3 : decide (16384 < len) = true := decide_eq_true t3
  have hmay := hide (show (if 1 ≤ m ∧ m ≤ 16384 then (if 1 ≤ len ∧ len ≤ m then (0 : Int) else 26) else 1) = 1 by rw [if_neg (by omega)])
  go_enter Try.func10, Try.ntmps10
  go_wp2_with fail
  refine (ticks_l id len h0 h1 h2 h3 t _ ⟨t1, t2⟩ (by omega)).mono ?_
  rintro e w1 ⟨rfl, hb1⟩
  have A1 : Blk w1 (w.heap.size) #[.int .u64 id, .int .i64 len, .int .u16 h0, .int .u16 h1, .int .u16 h2, .int .u16 h3] 42 := Blk.below (by (repeat' (first | (with_reducible assumption) | (with_reducible exact Blk.alloc_new _ _ _ (by first | rfl | (simp; done) | omega)) | (with_reducible refine Blk.drewN ?_ _) | (with_reducible refine Blk.drew ?_) | (with_reducible refine Blk.alloc_old ?_ _) | (with_reducible apply Blk.set_same) | (with_reducible refine Blk.set_other ?_ (by first | omega | (simp; done) | (simp; omega)) _) | (exact rfl)))) hb1 (by first | (simp; done) | omega | (simp; omega))
  have g1 : Below w.heap.size w w1 := by refine Below.trans ?_ (hb1.mono ?_) <;> (repeat' (first | (with_reducible exact Below.refl _ _) | (with_reducible assumption) | (with_reducible refine below_drewN ?_ _) | (with_reducible refine Below.drew ?_) | (with_reducible refine Below.alloc ?_ ?_ _) | (with_reducible refine Below.setCell ?_ ?_ _) | go_size))
  have hz1 := hb1.size
  (try simp at hz1)
  clear hb1
  replace cA := A1.cell
  replace fA := A1.frozen
  replace zA := A1.size
  go_wp2_with fail
  refine (may_any id len h0 h1 h2 h3 m _ 1 hmay.out).mono ?_
  rintro e w2 ⟨rfl, hb2⟩
  have A2 : Blk w2 (w.heap.size) #[.int .u64 id, .int .i64 len, .int .u16 h0, .int .u16 h1, .int .u16 h2, .int .u16 h3] 42 := Blk.below (by (repeat' (first | (with_reducible assumption) | (with_reducible exact Blk.alloc_new _ _ _ (by first | rfl | (simp; done) | omega)) | (with_reducible refine Blk.drewN ?_ _) | (with_reducible refine Blk.drew ?_) | (with_reducible refine Blk.alloc_old ?_ _) | (with_reducible apply Blk.set_same) | (with_reducible refine Blk.set_other ?_ (by first | omega | (simp; done) | (simp; omega)) _) | (exact rfl)))) hb2 (by first | (simp; done) | omega | (simp; omega))
  have g2 : Below w.heap.size w w2 := by refine Below.trans ?_ (hb2.mono ?_) <;> (repeat' (first | (with_reducible exact Below.refl _ _) | (with_reducible assumption) | (with_reducible refine below_drewN ?_ _) | (with_reducible refine Below.drew ?_) | (with_reducible refine Below.alloc ?_ ?_ _) | (with_reducible refine Below.setCell ?_ ?_ _) | go_size))
  have hz2 := hb2.size
  (try simp at hz2)
  clear hb2
  replace cA := A2.cell
  replace fA := A2.frozen
  replace zA := A2.size
  go_wp2_with fail
  refine (one_true _).mono ?_
  rintro e w3 ⟨rfl, hb3⟩
  have g3 : Below w.heap.size w w3 := by refine Below.trans ?_ (hb3.mono ?_) <;> (repeat' (first | (with_reducible exact Below.refl _ _) | (with_reducible assumption) | (with_reducible refine below_drewN ?_ _) | (with_reducible refine Below.drew ?_) | (with_reducible refine Below.alloc ?_ ?_ _) | (with_reducible refine Below.setCell ?_ ?_ _) | go_size))
  have hz3 := hb3.size
  (try simp at hz3)
  clear hb3
  go_wp2
  go_ret
  exact ⟨rfl, by (repeat' (first | (with_reducible exact Below.refl _ _) | (with_reducible assumption) | (with_reducible refine below_drewN ?_ _) | (with_reducible refine Below.drew ?_) | (with_reducible refine Below.alloc ?_ ?_ _) | (with_reducible refine Below.setCell ?_ ?_ _) | go_size))⟩
theorem PM_cbe (id len h0 h1 h2 h3 m t : Int) (w : World) (hid : 0 ≤ id ∧ id ≤ 18446744073709551615) (hln : -9223372036854775808 ≤ len ∧ len ≤ 9223372036854775807) (q0 : 0 ≤ h0 ∧ h0 ≤ 65535) (q1 : 0 ≤ h1 ∧ h1 ≤ 65535) (q2 : 0 ≤ h2 ∧ h2 ≤ 65535) (q3 : 0 ≤ h3 ∧ h3 ≤ 65535) (mb : -9223372036854775808 ≤ m ∧ m ≤ 9223372036854775807) (tb : -9223372036854775808 ≤ t ∧ t ≤ 9223372036854775807) (l1 : 1 ≤ len) (l2 : len ≤ m) (m1 : 16384 < m) (t1 : 1 ≤ t) (t2 : t ≤ 65536) (t3 : 1 ≤ len) (t4 : len ≤ 16384) :
    Calls Try.prog 10 #[pkt id len h0 h1 h2 h3, .int .i64 m, .int .i64 t] w fun e w' => e = .returned (.bool true) ∧ Below w.heap.size w w' := by
  have dl1 : decide (len < 1) = false := decide_eq_false (by omega)
  have dl2 : decide (m < len) = false := decide_eq_false (by omega)
  have dm1 : decide (m < 1) = false := decide_eq_false (by omega)
  have dm2 : decide (16384 < m) = true := decide_eq_true m1
  have dt1 : decide (t < 1) = false := decide_eq_false (by omega)
  have dt2 : decide (65536 < t) = false := decide_eq_false (by omega)
  have dt3 : decide (16384 < len) = false := decide_eq_false (by omega)
  have hp := prod_rng t3 t4 t1 t2
  have hpd : decide (len * t ≤ 1073741824) = true := decide_eq_true hp.2
  have hmay := hide (show (if 1 ≤ m ∧ m ≤ 16384 then (if 1 ≤ len ∧ len ≤ m then (0 : Int) else 26) else 1) = 1 by rw [if_neg (by omega)])
  go_enter Try.func10, Try.ntmps10
  go_wp2_with fail
  refine (ticks_ok id len h0 h1 h2 h3 t _ ⟨t1, t2⟩ ⟨t3, t4⟩).mono ?_
  rintro e w1 ⟨rfl, hb1⟩
  have A1 : Blk w1 (w.heap.size) #[.int .u64 id, .int .i64 len, .int .u16 h0, .int .u16 h1, .int .u16 h2, .int .u16 h3] 42 := Blk.below (by (repeat' (first | (with_reducible assumption) | (with_reducible exact Blk.alloc_new _ _ _ (by first | rfl | (simp; done) | omega)) | (with_reducible refine Blk.drewN ?_ _) | (with_reducible refine Blk.drew ?_) | (with_reducible refine Blk.alloc_old ?_ _) | (with_reducible apply Blk.set_same) | (with_reducible refine Blk.set_other ?_ (by first | omega | (simp; done) | (simp; omega)) _) | (exact rfl)))) hb1 (by first | (simp; done) | omega | (simp; omega))
  have g1 : Below w.heap.size w w1 := by refine Below.trans ?_ (hb1.mono ?_) <;> (repeat' (first | (with_reducible exact Below.refl _ _) | (with_reducible assumption) | (with_reducible refine below_drewN ?_ _) | (with_reducible refine Below.drew ?_) | (with_reducible refine Below.alloc ?_ ?_ _) | (with_reducible refine Below.setCell ?_ ?_ _) | go_size))
  have hz1 := hb1.size
  (try simp at hz1)
  clear hb1
  replace cA := A1.cell
  replace fA := A1.frozen
  replace zA := A1.size
  go_wp2_with fail
  refine (may_any id len h0 h1 h2 h3 m _ 1 hmay.out).mono ?_
  rintro e w2 ⟨rfl, hb2⟩
  have A2 : Blk w2 (w.heap.size) #[.int .u64 id, .int .i64 len, .int .u16 h0, .int .u16 h1, .int .u16 h2, .int .u16 h3] 42 := Blk.below (by (repeat' (first | (with_reducible assumption) | (with_reducible exact Blk.alloc_new _ _ _ (by first | rfl | (simp; done) | omega)) | (with_reducible refine Blk.drewN ?_ _) | (with_reducible refine Blk.drew ?_) | (with_reducible refine Blk.alloc_old ?_ _) | (with_reducible apply Blk.set_same) | (with_reducible refine Blk.set_other ?_ (by first | omega | (simp; done) | (simp; omega)) _) | (exact rfl)))) hb2 (by first | (simp; done) | omega | (simp; omega))
  have g2 : Below w.heap.size w w2 := by refine Below.trans ?_ (hb2.mono ?_) <;> (repeat' (first | (with_reducible exact Below.refl _ _) | (with_reducible assumption) | (with_reducible refine below_drewN ?_ _) | (with_reducible refine Below.drew ?_) | (with_reducible refine Below.alloc ?_ ?_ _) | (with_reducible refine Below.setCell ?_ ?_ _) | go_size))
  have hz2 := hb2.size
  (try simp at hz2)
  clear hb2
  replace cA := A2.cell
  replace fA := A2.frozen
  replace zA := A2.size
  go_wp2_with fail
  refine (one_true _).mono ?_
  rintro e w3 ⟨rfl, hb3⟩
  have g3 : Below w.heap.size w w3 := by refine Below.trans ?_ (hb3.mono ?_) <;> (repeat' (first | (with_reducible exact Below.refl _ _) | (with_reducible assumption) | (with_reducible refine below_drewN ?_ _) | (with_reducible refine Below.drew ?_) | (with_reducible refine Below.alloc ?_ ?_ _) | (with_reducible refine Below.setCell ?_ ?_ _) | go_size))
  have hz3 := hb3.size
  (try simp at hz3)
  clear hb3
  go_wp2
  go_ret
  exact ⟨rfl, by (repeat' (first | (with_reducible exact Below.refl _ _) | (with_reducible assumption) | (with_reducible refine below_drewN ?_ _) | (with_reducible refine Below.drew ?_) | (with_reducible refine Below.alloc ?_ ?_ _) | (with_reducible refine Below.setCell ?_ ?_ _) | go_size))⟩
theorem PM_cca (id len h0 h1 h2 h3 m t : Int) (w : World) (hid : 0 ≤ id ∧ id ≤ 18446744073709551615) (hln : -9223372036854775808 ≤ len ∧ len ≤ 9223372036854775807) (q0 : 0 ≤ h0 ∧ h0 ≤ 65535) (q1 : 0 ≤ h1 ∧ h1 ≤ 65535) (q2 : 0 ≤ h2 ∧ h2 ≤ 65535) (q3 : 0 ≤ h3 ∧ h3 ≤ 65535) (mb : -9223372036854775808 ≤ m ∧ m ≤ 9223372036854775807) (tb : -9223372036854775808 ≤ t ∧ t ≤ 9223372036854775807) (l1 : 1 ≤ len) (l2 : len ≤ m) (m1 : 1 ≤ m) (m2 : m ≤ 16384) (t1 : t < 1) :
    Calls Try.prog 10 #[pkt id len h0 h1 h2 h3, .int .i64 m, .int .i64 t] w fun e w' => e = .returned (.bool true) ∧ Below w.heap.size w w' := by
  have dl1 : decide (len < 1) = false := decide_eq_false (by omega)
  have dl2 : decide (m < len) = false := decide_eq_false (by omega)
  have dm1 : decide (m < 1) = false := decide_eq_false (by omega)
  have dm2 : decide (16384 < m) = false := decide_eq_false (by omega)
  have dt1 : decide (t < 1) = true := decide_eq_true t1
  have hmay := hide (show (if 1 ≤ m ∧ m ≤ 16384 then (if 1 ≤ len ∧ len ≤ m then (0 : Int) else 26) else 1) = 0 by rw [if_pos (by omega), if_pos (by omega)])
  go_enter Try.func10, Try.ntmps10
  go_wp2_with fail
  refine (ticks_t id len h0 h1 h2 h3 t _ (by omega)).mono ?_
  rintro e w1 ⟨rfl, hb1⟩
  have A1 : Blk w1 (w.heap.size) #[.int .u64 id, .int .i64 len, .int .u16 h0, .int .u16 h1, .int .u16 h2, .int .u16 h3] 42 := Blk.below (by (repeat' (first | (with_reducible assumption) | (with_reducible exact Blk.alloc_new _ _ _ (by first | rfl | (simp; done) | omega)) | (with_reducible refine Blk.drewN ?_ _) | (with_reducible refine Blk.drew ?_) | (with_reducible refine Blk.alloc_old ?_ _) | (with_reducible apply Blk.set_same) | (with_reducible refine Blk.set_other ?_ (by first | omega | (simp; done) | (simp; omega)) _) | (exact rfl)))) hb1 (by first | (simp; done) | omega | (simp; omega))
  have g1 : Below w.heap.size w w1 := by refine Below.trans ?_ (hb1.mono ?_) <;> (repeat' (first | (with_reducible exact Below.refl _ _) | (with_reducible assumption) | (with_reducible refine below_drewN ?_ _) | (with_reducible refine Below.drew ?_) | (with_reducible refine Below.alloc ?_ ?_ _) | (with_reducible refine Below.setCell ?_ ?_ _) | go_size))
  have hz1 := hb1.size
  (try simp at hz1)
  clear hb1
  replace cA := A1.cell
  replace fA := A1.frozen
  replace zA := A1.size
  go_wp2_with fail
  refine (may_any id len h0 h1 h2 h3 m _ 0 hmay.out).mono ?_
  rintro e w2 ⟨rfl, hb2⟩
  have A2 : Blk w2 (w.heap.size) #[.int .u64 id, .int .i64 len, .int .u16 h0, .int .u16 h1, .int .u16 h2, .int .u16 h3] 42 := Blk.below (by (repeat' (first | (with_reducible assumption) | (with_reducible exact Blk.alloc_new _ _ _ (by first | rfl | (simp; done) | omega)) | (with_reducible refine Blk.drewN ?_ _) | (with_reducible refine Blk.drew ?_) | (with_reducible refine Blk.alloc_old ?_ _) | (with_reducible apply Blk.set_same) | (with_reducible refine Blk.set_other ?_ (by first | omega | (simp; done) | (simp; omega)) _) | (exact rfl)))) hb2 (by first | (simp; done) | omega | (simp; omega))
  have g2 : Below w.heap.size w w2 := by refine Below.trans ?_ (hb2.mono ?_) <;> (repeat' (first | (with_reducible exact Below.refl _ _) | (with_reducible assumption) | (with_reducible refine below_drewN ?_ _) | (with_reducible refine Below.drew ?_) | (with_reducible refine Below.alloc ?_ ?_ _) | (with_reducible refine Below.setCell ?_ ?_ _) | go_size))
  have hz2 := hb2.size
  (try simp at hz2)
  clear hb2
  replace cA := A2.cell
  replace fA := A2.frozen
  replace zA := A2.size
  go_wp2_with fail
  refine (one_true _).mono ?_
  rintro e w3 ⟨rfl, hb3⟩
  have g3 : Below w.heap.size w w3 := by refine Below.trans ?_ (hb3.mono ?_) <;> (repeat' (first | (with_reducible exact Below.refl _ _) | (with_reducible assumption) | (with_reducible refine below_drewN ?_ _) | (with_reducible refine Below.drew ?_) | (with_reducible refine Below.alloc ?_ ?_ _) | (with_reducible refine Below.setCell ?_ ?_ _) | go_size))
  have hz3 := hb3.size
  (try simp at hz3)
  clear hb3
  go_wp2
  go_ret
  exact ⟨rfl, by (repeat' (first | (with_reducible exact Below.refl _ _) | (with_reducible assumption) | (with_reducible refine below_drewN ?_ _) | (with_reducible refine Below.drew ?_) | (with_reducible refine Below.alloc ?_ ?_ _) | (with_reducible refine Below.setCell ?_ ?_ _) | go_size))⟩
theorem PM_ccb (id len h0 h1 h2 h3 m t : Int) (w : World) (hid : 0 ≤ id ∧ id ≤ 18446744073709551615) (hln : -9223372036854775808 ≤ len ∧ len ≤ 9223372036854775807) (q0 : 0 ≤ h0 ∧ h0 ≤ 65535) (q1 : 0 ≤ h1 ∧ h1 ≤ 65535) (q2 : 0 ≤ h2 ∧ h2 ≤ 65535) (q3 : 0 ≤ h3 ∧ h3 ≤ 65535) (mb : -9223372036854775808 ≤ m ∧ m ≤ 9223372036854775807) (tb : -9223372036854775808 ≤ t ∧ t ≤ 9223372036854775807) (l1 : 1 ≤ len) (l2 : len ≤ m) (m1 : 1 ≤ m) (m2 : m ≤ 16384) (t1 : 65536 < t) :
    Calls Try.prog 10 #[pkt id len h0 h1 h2 h3, .int .i64 m, .int .i64 t] w fun e w' => e = .returned (.bool true) ∧ Below w.heap.size w w' := by
  have dl1 : decide (len < 1) = false := decide_eq_false (by omega)
  have dl2 : decide (m < len) = false := decide_eq_false (by omega)
  have dm1 : decide (m < 1) = false := decide_eq_false (by omega)
  have dm2 : decide (16384 < m) = false := decide_eq_false (by omega)
  have dt1 : decide (t < 1) = false := decide_eq_false (by omega)
  have dt2 : decide (65536 < t) = true := decide_eq_true t1
  have hmay := hide (show (if 1 ≤ m ∧ m ≤ 16384 then (if 1 ≤ len ∧ len ≤ m then (0 : Int) else 26) else 1) = 0 by rw [if_pos (by omega), if_pos (by omega)])
  go_enter Try.func10, Try.ntmps10
  go_wp2_with fail
  refine (ticks_t id len h0 h1 h2 h3 t _ (by omega)).mono ?_
  rintro e w1 ⟨rfl, hb1⟩
  have A1 : Blk w1 (w.heap.size) #[.int .u64 id, .int .i64 len, .int .u16 h0, .int .u16 h1, .int .u16 h2, .int .u16 h3] 42 := Blk.below (by (repeat' (first | (with_reducible assumption) | (with_reducible exact Blk.alloc_new _ _ _ (by first | rfl | (simp; done) | omega)) | (with_reducible refine Blk.drewN ?_ _) | (with_reducible refine Blk.drew ?_) | (with_reducible refine Blk.alloc_old ?_ _) | (with_reducible apply Blk.set_same) | (with_reducible refine Blk.set_other ?_ (by first | omega | (simp; done) | (simp; omega)) _) | (exact rfl)))) hb1 (by first | (simp; done) | omega | (simp; omega))
  have g1 : Below w.heap.size w w1 := by refine Below.trans ?_ (hb1.mono ?_) <;> (repeat' (first | (with_reducible exact Below.refl _ _) | (with_reducible assumption) | (with_reducible refine below_drewN ?_ _) | (with_reducible refine Below.drew ?_) | (with_reducible refine Below.alloc ?_ ?_ _) | (with_reducible refine Below.setCell ?_ ?_ _) | go_size))
  have hz1 := hb1.size
  (try simp at hz1)
  clear hb1
  replace cA := A1.cell
  replace fA := A1.frozen
  replace zA := A1.size
  go_wp2_with fail
  refine (may_any id len h0 h1 h2 h3 m _ 0 hmay.out).mono ?_
  rintro e w2 ⟨rfl, hb2⟩
  have A2 : Blk w2 (w.heap.size) #[.int .u64 id, .int .i64 len, .int .u16 h0, .int .u16 h1, .int .u16 h2, .int .u16 h3] 42 := Blk.below (by (repeat' (first | (with_reducible assumption) | (with_reducible exact Blk.alloc_new _ _ _ (by first | rfl | (simp; done) | omega)) | (with_reducible refine Blk.drewN ?_ _) | (with_reducible refine Blk.drew ?_) | (with_reducible refine Blk.alloc_old ?_ _) | (with_reducible apply Blk.set_same) | (with_reducible refine Blk.set_other ?_ (by first | omega | (simp; done) | (simp; omega)) _) | (exact rfl)))) hb2 (by first | (simp; done) | omega | (simp; omega))
  have g2 : Below w.heap.size w w2 := by refine Below.trans ?_ (hb2.mono ?_) <;> (repeat' (first | (with_reducible exact Below.refl _ _) | (with_reducible assumption) | (with_reducible refine below_drewN ?_ _) | (with_reducible refine Below.drew ?_) | (with_reducible refine Below.alloc ?_ ?_ _) | (with_reducible refine Below.setCell ?_ ?_ _) | go_size))
  have hz2 := hb2.size
  (try simp at hz2)
  clear hb2
  replace cA := A2.cell
  replace fA := A2.frozen
  replace zA := A2.size
  go_wp2_with fail
  refine (one_true _).mono ?_
  rintro e w3 ⟨rfl, hb3⟩
  have g3 : Below w.heap.size w w3 := by refine Below.trans ?_ (hb3.mono ?_) <;> (repeat' (first | (with_reducible exact Below.refl _ _) | (with_reducible assumption) | (with_reducible refine below_drewN ?_ _) | (with_reducible refine Below.drew ?_) | (with_reducible refine Below.alloc ?_ ?_ _) | (with_reducible refine Below.setCell ?_ ?_ _) | go_size))
  have hz3 := hb3.size
  (try simp at hz3)
  clear hb3
  go_wp2
  go_ret
  exact ⟨rfl, by (repeat' (first | (with_reducible exact Below.refl _ _) | (with_reducible assumption) | (with_reducible refine below_drewN ?_ _) | (with_reducible refine Below.drew ?_) | (with_reducible refine Below.alloc ?_ ?_ _) | (with_reducible refine Below.setCell ?_ ?_ _) | go_size))⟩
theorem PM_cce (id len h0 h1 h2 h3 m t : Int) (w : World) (hid : 0 ≤ id ∧ id ≤ 18446744073709551615) (hln : -9223372036854775808 ≤ len ∧ len ≤ 9223372036854775807) (q0 : 0 ≤ h0 ∧ h0 ≤ 65535) (q1 : 0 ≤ h1 ∧ h1 ≤ 65535) (q2 : 0 ≤ h2 ∧ h2 ≤ 65535) (q3 : 0 ≤ h3 ∧ h3 ≤ 65535) (mb : -9223372036854775808 ≤ m ∧ m ≤ 9223372036854775807) (tb : -9223372036854775808 ≤ t ∧ t ≤ 9223372036854775807) (l1 : 1 ≤ len) (l2 : len ≤ m) (m1 : 1 ≤ m) (m2 : m ≤ 16384) (t1 : 1 ≤ t) (t2 : t ≤ 65536) (t3 : 1 ≤ len) (t4 : len ≤ 16384) :
    Calls Try.prog 10 #[pkt id len h0 h1 h2 h3, .int .i64 m, .int .i64 t] w fun e w' => e = .returned (.bool true) ∧ Below w.heap.size w w' := by
  have dl1 : decide (len < 1) = false := decide_eq_false (by omega)
  have dl2 : decide (m < len) = false := decide_eq_false (by omega)
  have dm1 : decide (m < 1) = false := decide_eq_false (by omega)
  have dm2 : decide (16384 < m) = false := decide_eq_false (by omega)
  have dt1 : decide (t < 1) = false := decide_eq_false (by omega)
  have dt2 : decide (65536 < t) = false := decide_eq_false (by omega)
  have dt3 : decide (16384 < len) = false := decide_eq_false (by omega)
  have hp := prod_rng t3 t4 t1 t2
  have hpd : decide (len * t ≤ 1073741824) = true := decide_eq_true hp.2
  have hmay := hide (show (if 1 ≤ m ∧ m ≤ 16384 then (if 1 ≤ len ∧ len ≤ m then (0 : Int) else 26) else 1) = 0 by rw [if_pos (by omega), if_pos (by omega)])
  go_enter Try.func10, Try.ntmps10
  go_wp2_with fail
  refine (ticks_ok id len h0 h1 h2 h3 t _ ⟨t1, t2⟩ ⟨t3, t4⟩).mono ?_
  rintro e w1 ⟨rfl, hb1⟩
  have A1 : Blk w1 (w.heap.size) #[.int .u64 id, .int .i64 len, .int .u16 h0, .int .u16 h1, .int .u16 h2, .int .u16 h3] 42 := Blk.below (by (repeat' (first | (with_reducible assumption) | (with_reducible exact Blk.alloc_new _ _ _ (by first | rfl | (simp; done) | omega)) | (with_reducible refine Blk.drewN ?_ _) | (with_reducible refine Blk.drew ?_) | (with_reducible refine Blk.alloc_old ?_ _) | (with_reducible apply Blk.set_same) | (with_reducible refine Blk.set_other ?_ (by first | omega | (simp; done) | (simp; omega)) _) | (exact rfl)))) hb1 (by first | (simp; done) | omega | (simp; omega))
  have g1 : Below w.heap.size w w1 := by refine Below.trans ?_ (hb1.mono ?_) <;> (repeat' (first | (with_reducible exact Below.refl _ _) | (with_reducible assumption) | (with_reducible refine below_drewN ?_ _) | (with_reducible refine Below.drew ?_) | (with_reducible refine Below.alloc ?_ ?_ _) | (with_reducible refine Below.setCell ?_ ?_ _) | go_size))
  have hz1 := hb1.size
  (try simp at hz1)
  clear hb1
  replace cA := A1.cell
  replace fA := A1.frozen
  replace zA := A1.size
  go_wp2_with fail
  refine (may_any id len h0 h1 h2 h3 m _ 0 hmay.out).mono ?_
  rintro e w2 ⟨rfl, hb2⟩
  have A2 : Blk w2 (w.heap.size) #[.int .u64 id, .int .i64 len, .int .u16 h0, .int .u16 h1, .int .u16 h2, .int .u16 h3] 42 := Blk.below (by (repeat' (first | (with_reducible assumption) | (with_reducible exact Blk.alloc_new _ _ _ (by first | rfl | (simp; done) | omega)) | (with_reducible refine Blk.drewN ?_ _) | (with_reducible refine Blk.drew ?_) | (with_reducible refine Blk.alloc_old ?_ _) | (with_reducible apply Blk.set_same) | (with_reducible refine Blk.set_other ?_ (by first | omega | (simp; done) | (simp; omega)) _) | (exact rfl)))) hb2 (by first | (simp; done) | omega | (simp; omega))
  have g2 : Below w.heap.size w w2 := by refine Below.trans ?_ (hb2.mono ?_) <;> (repeat' (first | (with_reducible exact Below.refl _ _) | (with_reducible assumption) | (with_reducible refine below_drewN ?_ _) | (with_reducible refine Below.drew ?_) | (with_reducible refine Below.alloc ?_ ?_ _) | (with_reducible refine Below.setCell ?_ ?_ _) | go_size))
  have hz2 := hb2.size
  (try simp at hz2)
  clear hb2
  replace cA := A2.cell
  replace fA := A2.frozen
  replace zA := A2.size
  go_wp2_with fail
  refine (one_true _).mono ?_
  rintro e w3 ⟨rfl, hb3⟩
  have g3 : Below w.heap.size w w3 := by refine Below.trans ?_ (hb3.mono ?_) <;> (repeat' (first | (with_reducible exact Below.refl _ _) | (with_reducible assumption) | (with_reducible refine below_drewN ?_ _) | (with_reducible refine Below.drew ?_) | (with_reducible refine Below.alloc ?_ ?_ _) | (with_reducible refine Below.setCell ?_ ?_ _) | go_size))
  have hz3 := hb3.size
  (try simp at hz3)
  clear hb3
  go_wp2
  go_ret
  exact ⟨rfl, by (repeat' (first | (with_reducible exact Below.refl _ _) | (with_reducible assumption) | (with_reducible refine below_drewN ?_ _) | (with_reducible refine Below.drew ?_) | (with_reducible refine Below.alloc ?_ ?_ _) | (with_reducible refine Below.setCell ?_ ?_ _) | go_size))⟩
theorem PacketMay_walk (id len h0 h1 h2 h3 : Int) (hid : 0 ≤ id ∧ id ≤ 18446744073709551615) (hln : -9223372036854775808 ≤ len ∧ len ≤ 9223372036854775807) (q0 : 0 ≤ h0 ∧ h0 ≤ 65535) (q1 : 0 ≤ h1 ∧ h1 ≤ 65535) (q2 : 0 ≤ h2 ∧ h2 ≤ 65535) (q3 : 0 ≤ h3 ∧ h3 ≤ 65535) (m : Int) (mb : -9223372036854775808 ≤ m ∧ m ≤ 9223372036854775807) (t : Int) (tb : -9223372036854775808 ≤ t ∧ t ≤ 9223372036854775807) (w : World) :
    Calls Try.prog 10 #[pkt id len h0 h1 h2 h3, .int .i64 m, .int .i64 t] w fun e w' => e = .returned (.bool true) ∧ Below w.heap.size w w' := by
  rcases Int.lt_or_le len 1 with l1 | l1
  · rcases Int.lt_or_le m 1 with m1 | m1
    · rcases Int.lt_or_le t 1 with t1 | t1
      · exact PM_aaa id len h0 h1 h2 h3 m t w hid hln q0 q1 q2 q3 mb tb l1 m1 t1
      · rcases Int.lt_or_le 65536 t with t2 | t2
        · exact PM_aab id len h0 h1 h2 h3 m t w hid hln q0 q1 q2 q3 mb tb l1 m1 t2
        · exact PM_aac id len h0 h1 h2 h3 m t w hid hln q0 q1 q2 q3 mb tb l1 m1 t1 t2 l1
    · rcases Int.lt_or_le 16384 m with m2 | m2
      · rcases Int.lt_or_le t 1 with t1 | t1
        · exact PM_aba id len h0 h1 h2 h3 m t w hid hln q0 q1 q2 q3 mb tb l1 m2 t1
        · rcases Int.lt_or_le 65536 t with t2 | t2
          · exact PM_abb id len h0 h1 h2 h3 m t w hid hln q0 q1 q2 q3 mb tb l1 m2 t2
          · exact PM_abc id len h0 h1 h2 h3 m t w hid hln q0 q1 q2 q3 mb tb l1 m2 t1 t2 l1
      · rcases Int.lt_or_le t 1 with t1 | t1
        · exact PM_aca id len h0 h1 h2 h3 m t w hid hln q0 q1 q2 q3 mb tb l1 m1 m2 t1
        · rcases Int.lt_or_le 65536 t with t2 | t2
          · exact PM_acb id len h0 h1 h2 h3 m t w hid hln q0 q1 q2 q3 mb tb l1 m1 m2 t2
          · exact PM_acc id len h0 h1 h2 h3 m t w hid hln q0 q1 q2 q3 mb tb l1 m1 m2 t1 t2 l1
  · rcases Int.lt_or_le m len with l2 | l2
    · rcases Int.lt_or_le m 1 with m1 | m1
      · rcases Int.lt_or_le t 1 with t1 | t1
        · exact PM_baa id len h0 h1 h2 h3 m t w hid hln q0 q1 q2 q3 mb tb l1 l2 m1 t1
        · rcases Int.lt_or_le 65536 t with t2 | t2
          · exact PM_bab id len h0 h1 h2 h3 m t w hid hln q0 q1 q2 q3 mb tb l1 l2 m1 t2
          · rcases Int.lt_or_le 16384 len with t3 | t3
            · exact PM_bad id len h0 h1 h2 h3 m t w hid hln q0 q1 q2 q3 mb tb l1 l2 m1 t1 t2 t3
            · exact PM_bae id len h0 h1 h2 h3 m t w hid hln q0 q1 q2 q3 mb tb l1 l2 m1 t1 t2 l1 t3
      · rcases Int.lt_or_le 16384 m with m2 | m2
        · rcases Int.lt_or_le t 1 with t1 | t1
          · exact PM_bba id len h0 h1 h2 h3 m t w hid hln q0 q1 q2 q3 mb tb l1 l2 m2 t1
          · rcases Int.lt_or_le 65536 t with t2 | t2
            · exact PM_bbb id len h0 h1 h2 h3 m t w hid hln q0 q1 q2 q3 mb tb l1 l2 m2 t2
            · exact PM_bbd id len h0 h1 h2 h3 m t w hid hln q0 q1 q2 q3 mb tb l1 l2 m2 t1 t2 (by omega)
        · rcases Int.lt_or_le t 1 with t1 | t1
          · exact PM_bca id len h0 h1 h2 h3 m t w hid hln q0 q1 q2 q3 mb tb l1 l2 m1 m2 t1
          · rcases Int.lt_or_le 65536 t with t2 | t2
            · exact PM_bcb id len h0 h1 h2 h3 m t w hid hln q0 q1 q2 q3 mb tb l1 l2 m1 m2 t2
            · rcases Int.lt_or_le 16384 len with t3 | t3
              · exact PM_bcd id len h0 h1 h2 h3 m t w hid hln q0 q1 q2 q3 mb tb l1 l2 m1 m2 t1 t2 t3
              · exact PM_bce id len h0 h1 h2 h3 m t w hid hln q0 q1 q2 q3 mb tb l1 l2 m1 m2 t1 t2 l1 t3
    · rcases Int.lt_or_le m 1 with m1 | m1
      · omega
      · rcases Int.lt_or_le 16384 m with m2 | m2
        · rcases Int.lt_or_le t 1 with t1 | t1
          · exact PM_cba id len h0 h1 h2 h3 m t w hid hln q0 q1 q2 q3 mb tb l1 l2 m2 t1
          · rcases Int.lt_or_le 65536 t with t2 | t2
            · exact PM_cbb id len h0 h1 h2 h3 m t w hid hln q0 q1 q2 q3 mb tb l1 l2 m2 t2
            · rcases Int.lt_or_le 16384 len with t3 | t3
              · exact PM_cbd id len h0 h1 h2 h3 m t w hid hln q0 q1 q2 q3 mb tb l1 l2 m2 t1 t2 t3
              · exact PM_cbe id len h0 h1 h2 h3 m t w hid hln q0 q1 q2 q3 mb tb l1 l2 m2 t1 t2 l1 t3
        · rcases Int.lt_or_le t 1 with t1 | t1
          · exact PM_cca id len h0 h1 h2 h3 m t w hid hln q0 q1 q2 q3 mb tb l1 l2 m1 m2 t1
          · rcases Int.lt_or_le 65536 t with t2 | t2
            · exact PM_ccb id len h0 h1 h2 h3 m t w hid hln q0 q1 q2 q3 mb tb l1 l2 m1 m2 t2
            · exact PM_cce id len h0 h1 h2 h3 m t w hid hln q0 q1 q2 q3 mb tb l1 l2 m1 m2 t1 t2 l1 (by omega)
namespace packetMayDone
theorem own : ownKnob Try.prog.godebug = none := by kernel_rfl
theorem laidOut : laidOutB Try.prog = true := by kernel_rfl
set_option maxRecDepth 100000 in
theorem lifted (os : Os) (started : os.Started) (H : Type) (enc : TypeId × Value → H) :
    ReturnsInHanded {} Try.checked os 10 .any (Rows.packetMaySpec.pre6 enc Try.prog Try.f10 Rows.packetMayRow.domain false) (Rows.packetMaySpec.post enc Try.prog Try.f10 false true false false) := by
  refine returnsInHanded_of_change (C := Try.checked) own started (by kernel_rfl) Try.func10
    (ChangeSpec.witness6 (enc := enc) (C := Try.checked) false ⟨#[], #[.agg #[.int .u64 0, .int .i64 0, .int .u16 0, .int .u16 0, .int .u16 0, .int .u16 0], .int .i64 0, .int .i64 0], []⟩ 8 (by kernel_rfl) (by kernel_rfl) (by kernel_rfl) (by kernel_rfl)) ?_
  intro W base args ds gs before hval0 hW hcnd _
  have hval : ∀ (j : Nat) t v, Try.f10.params[j]? = some t → args[j]? = some v → Value.okWide Try.prog W .any base t v := hval0
  have hW' := hW
  obtain ⟨p, q, hA0, hV, rfl, hfz, hnd⟩ := hW
  have hA : DataW.TrodAll enc Try.prog W 0 (fun _ => true) true Try.f10.params.toList args.toList ds p := hA0
  rw [Try.params10] at hA hval
  obtain ⟨v0, vs0, d0, ds0, p0, q0, hargs, rfl, rfl, h0, r0⟩ := trodAll_cons hA
  obtain ⟨v1, vs1, d1, ds1, p1, q1, rfl, rfl, rfl, h1, r1⟩ := trodAll_cons r0
  obtain ⟨v2, vs2, d2, ds2, p2, q2, rfl, rfl, rfl, h2, r2⟩ := trodAll_cons r1
  obtain ⟨rfl, rfl, rfl⟩ := trodAll_nil r2
  obtain rfl : args = #[v0, v1, v2] := by cases args; simp_all
  obtain ⟨rfl, rfl⟩ := trodVars_none hV
  have k0 := h0
  have lt0 : ∀ x ∈ p0, x.block < W.heap.size := by obtain ⟨m, hm⟩ := k0; exact DataW.trod_lt m _ _ _ hm
  obtain ⟨id0, ln0, g00, g01, g02, g03, rfl, bd0, bl0, bg00, bg01, bg02, bg03⟩ := open_pkt (hval 0 42 v0 rfl rfl) h0
  obtain ⟨a1, rfl, rfl, rfl, wf1⟩ := open_int Try.underlying3 (hval 1 3 v1 rfl rfl) h1
  have b1 := bounds_i64 wf1
  obtain ⟨a2, rfl, rfl, rfl, wf2⟩ := open_int Try.underlying3 (hval 2 3 v2 rfl rfl) h2
  have b2 := bounds_i64 wf2
  clear hA0 hval0
  refine (PacketMay_walk id0 ln0 g00 g01 g02 g03 bd0 bl0 bg00 bg01 bg02 bg03 a1 b1 a2 b2 W).mono fun e W' ⟨he, bel⟩ => ?_
  subst he
  exact ⟨_, rfl, _, _, _, [], _, [], hW', trodAll_mk1 (shut_bool Try.underlying4 _), (trodAll_cons_mk (Below.trod laidOut (by kernel_rfl) (of_decide_eq_true (by kernel_rfl)) k0 bel lt0) (trodAll_cons_mk (shut_int Try.underlying3 wf1) (trodAll_cons_mk (shut_int Try.underlying3 wf2) trodAll_mk0))), rfl, bel.frame _, fun h => by cases h⟩
theorem over : Rows.packetMayRow.holds Try.pinned (OpenSpec.ofChange Rows.packetMaySpec) :=
  OpenClaim.holds_of_wide 10 Try.f10 rfl rfl rfl rfl rfl rfl rfl ⟨rfl, rfl, rfl, rfl, rfl⟩ rfl rfl rfl rfl rfl (by kernel_rfl) Try.func10 (by kernel_rfl)
    (of_decide_eq_true (by kernel_rfl)) (by unfold Func.isWrapper; first | (rw [if_pos (by decide +kernel)]; kernel_rfl) | (rw [if_neg (by decide +kernel)]; exact ⟨rfl, rfl⟩))
    (fun os started H enc _ => lifted os started H enc)
end packetMayDone
theorem PacketMay_holds : Rows.PacketMaySaid := packetMayDone.over

end Go.Proofs.Ytapikbgloagnkaa
