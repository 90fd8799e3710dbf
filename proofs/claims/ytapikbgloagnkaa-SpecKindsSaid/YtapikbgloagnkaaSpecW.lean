/-
  The walk of the reference's Wrong. Conditions: fields in range.
-/
import Derived.Test.YtapikbgloagnkaaSpecR
namespace Go.Proofs.Ytapikbgloagnkaa
open Go.RowKit
set_option linter.unusedVariables false
set_option maxHeartbeats 1000000
theorem wrong_10 (id par : Int) (lf : Bool) (r0 r1 r2 l0 l1 l2 u0 u1 u2 pk by_ : Int) (w : World) (hr : 0 ≤ r0 ∧ 0 ≤ r1 ∧ 0 ≤ r2) (hl : 0 ≤ l0 ∧ 0 ≤ l1 ∧ 0 ≤ l2) (hu : 0 ≤ u0 ∧ 0 ≤ u1 ∧ 0 ≤ u2) (y : id < 1) :
    Calls Try.prog 21 #[cls id par lf r0 r1 r2 l0 l1 l2 u0 u1 u2 pk by_] w fun e w' => e = .returned (.int .i64 1) ∧ Below w.heap.size w w' := by
  have dd : decide (id < 1) = true := decide_eq_true y
  go_enter Try.func21, Try.ntmps21
  go_wp2
  go_ret
  exact ⟨rfl, by (repeat' (first | (with_reducible exact Below.refl _ _) | (with_reducible assumption) | (with_reducible refine below_drewN ?_ _) | (with_reducible refine Below.drew ?_) | (with_reducible refine Below.alloc ?_ ?_ _) | (with_reducible refine Below.setCell ?_ ?_ _) | go_size))⟩
theorem wrong_11 (id par : Int) (lf : Bool) (r0 r1 r2 l0 l1 l2 u0 u1 u2 pk by_ : Int) (w : World) (hr : 0 ≤ r0 ∧ 0 ≤ r1 ∧ 0 ≤ r2) (hl : 0 ≤ l0 ∧ 0 ≤ l1 ∧ 0 ≤ l2) (hu : 0 ≤ u0 ∧ 0 ≤ u1 ∧ 0 ≤ u2) (n0 : ¬ id < 1) (y : 65536 < id) :
    Calls Try.prog 21 #[cls id par lf r0 r1 r2 l0 l1 l2 u0 u1 u2 pk by_] w fun e w' => e = .returned (.int .i64 1) ∧ Below w.heap.size w w' := by
  have d0 : decide (id < 1) = false := decide_eq_false n0
  have dd : decide (65536 < id) = true := decide_eq_true y
  go_enter Try.func21, Try.ntmps21
  go_wp2
  go_ret
  exact ⟨rfl, by (repeat' (first | (with_reducible exact Below.refl _ _) | (with_reducible assumption) | (with_reducible refine below_drewN ?_ _) | (with_reducible refine Below.drew ?_) | (with_reducible refine Below.alloc ?_ ?_ _) | (with_reducible refine Below.setCell ?_ ?_ _) | go_size))⟩
theorem wrong_12 (id par : Int) (lf : Bool) (r0 r1 r2 l0 l1 l2 u0 u1 u2 pk by_ : Int) (w : World) (hr : 0 ≤ r0 ∧ 0 ≤ r1 ∧ 0 ≤ r2) (hl : 0 ≤ l0 ∧ 0 ≤ l1 ∧ 0 ≤ l2) (hu : 0 ≤ u0 ∧ 0 ≤ u1 ∧ 0 ≤ u2) (n0 : ¬ id < 1) (n1 : ¬ 65536 < id) (y : par < 0) :
    Calls Try.prog 21 #[cls id par lf r0 r1 r2 l0 l1 l2 u0 u1 u2 pk by_] w fun e w' => e = .returned (.int .i64 1) ∧ Below w.heap.size w w' := by
  have d0 : decide (id < 1) = false := decide_eq_false n0
  have d1 : decide (65536 < id) = false := decide_eq_false n1
  have dd : decide (par < 0) = true := decide_eq_true y
  go_enter Try.func21, Try.ntmps21
  go_wp2
  go_ret
  exact ⟨rfl, by (repeat' (first | (with_reducible exact Below.refl _ _) | (with_reducible assumption) | (with_reducible refine below_drewN ?_ _) | (with_reducible refine Below.drew ?_) | (with_reducible refine Below.alloc ?_ ?_ _) | (with_reducible refine Below.setCell ?_ ?_ _) | go_size))⟩
theorem wrong_13 (id par : Int) (lf : Bool) (r0 r1 r2 l0 l1 l2 u0 u1 u2 pk by_ : Int) (w : World) (hr : 0 ≤ r0 ∧ 0 ≤ r1 ∧ 0 ≤ r2) (hl : 0 ≤ l0 ∧ 0 ≤ l1 ∧ 0 ≤ l2) (hu : 0 ≤ u0 ∧ 0 ≤ u1 ∧ 0 ≤ u2) (n0 : ¬ id < 1) (n1 : ¬ 65536 < id) (n2 : ¬ par < 0) (y : 65536 < par) :
    Calls Try.prog 21 #[cls id par lf r0 r1 r2 l0 l1 l2 u0 u1 u2 pk by_] w fun e w' => e = .returned (.int .i64 1) ∧ Below w.heap.size w w' := by
  have d0 : decide (id < 1) = false := decide_eq_false n0
  have d1 : decide (65536 < id) = false := decide_eq_false n1
  have d2 : decide (par < 0) = false := decide_eq_false n2
  have dd : decide (65536 < par) = true := decide_eq_true y
  go_enter Try.func21, Try.ntmps21
  go_wp2
  go_ret
  exact ⟨rfl, by (repeat' (first | (with_reducible exact Below.refl _ _) | (with_reducible assumption) | (with_reducible refine below_drewN ?_ _) | (with_reducible refine Below.drew ?_) | (with_reducible refine Below.alloc ?_ ?_ _) | (with_reducible refine Below.setCell ?_ ?_ _) | go_size))⟩
theorem wrong_14 (id par : Int) (lf : Bool) (r0 r1 r2 l0 l1 l2 u0 u1 u2 pk by_ : Int) (w : World) (hr : 0 ≤ r0 ∧ 0 ≤ r1 ∧ 0 ≤ r2) (hl : 0 ≤ l0 ∧ 0 ≤ l1 ∧ 0 ≤ l2) (hu : 0 ≤ u0 ∧ 0 ≤ u1 ∧ 0 ≤ u2) (n0 : ¬ id < 1) (n1 : ¬ 65536 < id) (n2 : ¬ par < 0) (n3 : ¬ 65536 < par) (y : id = par) :
    Calls Try.prog 21 #[cls id par lf r0 r1 r2 l0 l1 l2 u0 u1 u2 pk by_] w fun e w' => e = .returned (.int .i64 1) ∧ Below w.heap.size w w' := by
  have d0 : decide (id < 1) = false := decide_eq_false n0
  have d1 : decide (65536 < id) = false := decide_eq_false n1
  have d2 : decide (par < 0) = false := decide_eq_false n2
  have d3 : decide (65536 < par) = false := decide_eq_false n3
  have dd : (id == par) = true := beq_iff_eq.2 y
  clear y
  go_enter Try.func21, Try.ntmps21
  go_wp2
  go_ret
  exact ⟨rfl, by (repeat' (first | (with_reducible exact Below.refl _ _) | (with_reducible assumption) | (with_reducible refine below_drewN ?_ _) | (with_reducible refine Below.drew ?_) | (with_reducible refine Below.alloc ?_ ?_ _) | (with_reducible refine Below.setCell ?_ ?_ _) | go_size))⟩
theorem wrong_2 (id par : Int) (lf : Bool) (r0 r1 r2 l0 l1 l2 u0 u1 u2 pk by_ : Int) (w : World) (hr : 0 ≤ r0 ∧ 0 ≤ r1 ∧ 0 ≤ r2) (hl : 0 ≤ l0 ∧ 0 ≤ l1 ∧ 0 ≤ l2) (hu : 0 ≤ u0 ∧ 0 ≤ u1 ∧ 0 ≤ u2) (hid : 1 ≤ id ∧ id ≤ 65536) (hpar : 0 ≤ par ∧ par ≤ 65536) (hne : id ≠ par) :
    Calls Try.prog 21 #[cls id par lf r0 r1 r2 l0 l1 l2 u0 u1 u2 pk by_] w fun e w' => e = .returned (.int .i64 (wr id par lf (kd r0 r1 r2) (kd l0 l1 l2) (kd u0 u1 u2) pk by_)) ∧ Below w.heap.size w w' := by
  have d1 : decide (id < 1) = false := decide_eq_false (by omega)
  have d2 : decide (65536 < id) = false := decide_eq_false (by omega)
  have d3 : decide (par < 0) = false := decide_eq_false (by omega)
  have d4 : decide (65536 < par) = false := decide_eq_false (by omega)
  have d5 : (id == par) = false := beq_eq_false_iff_ne.2 hne
  go_enter Try.func21, Try.ntmps21
  go_wp2_with fail
  refine (rOf_any r0 r1 r2 _ _ hr.1 hr.2.1 hr.2.2 rfl).mono ?_
  rintro e w1 ⟨rfl, hb1⟩
  have A1 : Blk w1 (w.heap.size) #[.int .i64 id, .int .i64 par, .bool lf, .int .u64 r0, .int .u64 r1, .int .u64 r2, .int .u64 l0, .int .u64 l1, .int .u64 l2, .int .u64 u0, .int .u64 u1, .int .u64 u2, .int .i64 pk, .int .i64 by_] 32 := Blk.below (by (repeat' (first | (with_reducible assumption) | (with_reducible exact Blk.alloc_new _ _ _ (by first | rfl | (simp; done) | omega)) | (with_reducible refine Blk.drewN ?_ _) | (with_reducible refine Blk.drew ?_) | (with_reducible refine Blk.alloc_old ?_ _) | (with_reducible apply Blk.set_same) | (with_reducible refine Blk.set_other ?_ (by first | omega | (simp; done) | (simp; omega)) _) | (exact rfl)))) hb1 (by first | (simp; done) | omega | (simp; omega))
  have g1 : Below w.heap.size w w1 := by refine Below.trans ?_ (hb1.mono ?_) <;> (repeat' (first | (with_reducible exact Below.refl _ _) | (with_reducible assumption) | (with_reducible refine below_drewN ?_ _) | (with_reducible refine Below.drew ?_) | (with_reducible refine Below.alloc ?_ ?_ _) | (with_reducible refine Below.setCell ?_ ?_ _) | go_size))
  have hz1 := hb1.size
  (try simp at hz1)
  clear hb1
  replace cA := A1.cell
  replace fA := A1.frozen
  replace zA := A1.size
  go_wp2_with fail
  refine (rOf_any l0 l1 l2 _ _ hl.1 hl.2.1 hl.2.2 rfl).mono ?_
  rintro e w2 ⟨rfl, hb2⟩
  have A2 : Blk w2 (w.heap.size) #[.int .i64 id, .int .i64 par, .bool lf, .int .u64 r0, .int .u64 r1, .int .u64 r2, .int .u64 l0, .int .u64 l1, .int .u64 l2, .int .u64 u0, .int .u64 u1, .int .u64 u2, .int .i64 pk, .int .i64 by_] 32 := Blk.below (by (repeat' (first | (with_reducible assumption) | (with_reducible exact Blk.alloc_new _ _ _ (by first | rfl | (simp; done) | omega)) | (with_reducible refine Blk.drewN ?_ _) | (with_reducible refine Blk.drew ?_) | (with_reducible refine Blk.alloc_old ?_ _) | (with_reducible apply Blk.set_same) | (with_reducible refine Blk.set_other ?_ (by first | omega | (simp; done) | (simp; omega)) _) | (exact rfl)))) hb2 (by first | (simp; done) | omega | (simp; omega))
  have g2 : Below w.heap.size w w2 := by refine Below.trans ?_ (hb2.mono ?_) <;> (repeat' (first | (with_reducible exact Below.refl _ _) | (with_reducible assumption) | (with_reducible refine below_drewN ?_ _) | (with_reducible refine Below.drew ?_) | (with_reducible refine Below.alloc ?_ ?_ _) | (with_reducible refine Below.setCell ?_ ?_ _) | go_size))
  have hz2 := hb2.size
  (try simp at hz2)
  clear hb2
  replace cA := A2.cell
  replace fA := A2.frozen
  replace zA := A2.size
  go_wp2_with fail
  refine (rOf_any u0 u1 u2 _ _ hu.1 hu.2.1 hu.2.2 rfl).mono ?_
  rintro e w3 ⟨rfl, hb3⟩
  have A3 : Blk w3 (w.heap.size) #[.int .i64 id, .int .i64 par, .bool lf, .int .u64 r0, .int .u64 r1, .int .u64 r2, .int .u64 l0, .int .u64 l1, .int .u64 l2, .int .u64 u0, .int .u64 u1, .int .u64 u2, .int .i64 pk, .int .i64 by_] 32 := Blk.below (by (repeat' (first | (with_reducible assumption) | (with_reducible exact Blk.alloc_new _ _ _ (by first | rfl | (simp; done) | omega)) | (with_reducible refine Blk.drewN ?_ _) | (with_reducible refine Blk.drew ?_) | (with_reducible refine Blk.alloc_old ?_ _) | (with_reducible apply Blk.set_same) | (with_reducible refine Blk.set_other ?_ (by first | omega | (simp; done) | (simp; omega)) _) | (exact rfl)))) hb3 (by first | (simp; done) | omega | (simp; omega))
  have g3 : Below w.heap.size w w3 := by refine Below.trans ?_ (hb3.mono ?_) <;> (repeat' (first | (with_reducible exact Below.refl _ _) | (with_reducible assumption) | (with_reducible refine below_drewN ?_ _) | (with_reducible refine Below.drew ?_) | (with_reducible refine Below.alloc ?_ ?_ _) | (with_reducible refine Below.setCell ?_ ?_ _) | go_size))
  have hz3 := hb3.size
  (try simp at hz3)
  clear hb3
  replace cA := A3.cell
  replace fA := A3.frozen
  replace zA := A3.size
  clear A1 A2 A3 g1 g2
  go_wp2
  all_goals
    go_ret
    refine ⟨reti ?_, by (repeat' (first | (with_reducible exact Below.refl _ _) | (with_reducible assumption) | (with_reducible refine below_drewN ?_ _) | (with_reducible refine Below.drew ?_) | (with_reducible refine Below.alloc ?_ ?_ _) | (with_reducible refine Below.setCell ?_ ?_ _) | go_size))⟩
    have kr := kd_rng r0 r1 r2
    have kl := kd_rng l0 l1 l2
    have ku := kd_rng u0 u1 u2
    generalize kd r0 r1 r2 = r at *
    generalize kd l0 l1 l2 = l at *
    generalize kd u0 u1 u2 = u at *
    clear cA fA g3
    simp only [beq_iff_eq, beq_eq_false_iff_ne, ne_eq] at *
    cases lf <;> first | contradiction | (unfold wr; simp only [Bool.false_eq_true, if_false, if_true]; (repeat' split) <;> first | omega | (exfalso; simp_all; done) | (simp_all; done) | (exfalso; simp_all; omega))
theorem wrong_any (id par : Int) (lf : Bool) (r0 r1 r2 l0 l1 l2 u0 u1 u2 pk by_ : Int) (w : World) (hr : 0 ≤ r0 ∧ 0 ≤ r1 ∧ 0 ≤ r2) (hl : 0 ≤ l0 ∧ 0 ≤ l1 ∧ 0 ≤ l2) (hu : 0 ≤ u0 ∧ 0 ≤ u1 ∧ 0 ≤ u2) (c : Int) (h : wr id par lf (kd r0 r1 r2) (kd l0 l1 l2) (kd u0 u1 u2) pk by_ = c) :
    Calls Try.prog 21 #[cls id par lf r0 r1 r2 l0 l1 l2 u0 u1 u2 pk by_] w fun e w' => e = .returned (.int .i64 c) ∧ Below w.heap.size w w' := by
  subst h
  by_cases h : id < 1 ∨ 65536 < id ∨ par < 0 ∨ 65536 < par ∨ id = par
  · rw [show wr id par lf (kd r0 r1 r2) (kd l0 l1 l2) (kd u0 u1 u2) pk by_ = 1 by unfold wr; rw [if_pos h]]
    by_cases n0 : id < 1
    · exact wrong_10 id par lf r0 r1 r2 l0 l1 l2 u0 u1 u2 pk by_ w hr hl hu n0
    by_cases n1 : 65536 < id
    · exact wrong_11 id par lf r0 r1 r2 l0 l1 l2 u0 u1 u2 pk by_ w hr hl hu n0 n1
    by_cases n2 : par < 0
    · exact wrong_12 id par lf r0 r1 r2 l0 l1 l2 u0 u1 u2 pk by_ w hr hl hu n0 n1 n2
    by_cases n3 : 65536 < par
    · exact wrong_13 id par lf r0 r1 r2 l0 l1 l2 u0 u1 u2 pk by_ w hr hl hu n0 n1 n2 n3
    exact wrong_14 id par lf r0 r1 r2 l0 l1 l2 u0 u1 u2 pk by_ w hr hl hu n0 n1 n2 n3 (by omega)
  · exact wrong_2 id par lf r0 r1 r2 l0 l1 l2 u0 u1 u2 pk by_ w hr hl hu (by omega) (by omega) (by omega)
end Go.Proofs.Ytapikbgloagnkaa
